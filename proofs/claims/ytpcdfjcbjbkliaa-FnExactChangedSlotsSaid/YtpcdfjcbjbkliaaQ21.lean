import Derived.Test.YtpcdfjcbjbkliaaSq
import Derived.Test.YtpcdfjcbjbkliaaQ0
import Derived.Test.YtpcdfjcbjbkliaaQ17
import Derived.Test.YtpcdfjcbjbkliaaQ18
namespace Go.Proofs.Ytpcdfjcbjbkliaa.E
open Go.RowKit Go.Proofs.YtpcdfjcbjbkliaaW.PrintWords Go.Proofs.YtpcdfjcbjbkliaaW.PrintLast Go.Proofs.YtpcdfjcbjbkliaaW.PrintMore
attribute [local go_sem] max2_int min2_int max_two min_two max_three min_three max_four min_four
set_option linter.unusedVariables false
set_option linter.unusedSimpArgs false

/-! ### impl_readCells: function 65 -/
def impl_readCells.l0 : Nat → ByteArray → List Int → List Int → Int → Int → Option (ByteArray)
 | 0, _, _, _, _, _ => none
 | k + 1, x0, x5, x8, x9, x10 => if x10 < x9 then (if 0 ≤ x10 then (if x10 < (x8.length : Int) then (if 0 ≤ (rd x8 x10) then (if (rd x8 x10) < (x0.size : Int) then (if x5.length < 140737488355328 then (impl_readCells.l0 k x0 (x5 ++ [bt x0 (rd x8 x10)]) x8 x9 (wrap64 (x10 + 1))) else (none)) else (none)) else (none)) else (none)) else (none)) else (some (strOfNums x5))
def impl_readCells.f (k : Nat) (a0 : ByteArray) (l1 : List Int) : Option (ByteArray) := impl_readCells.l0 k a0 ([] : List Int) l1 (l1.length : Int) 0
set_option maxHeartbeats 8000000 in
set_option maxRecDepth 100000 in
theorem impl_readCells.calls (k : Nat) (a0 : ByteArray) (A1 : Option Addr) (c1 : Nat) (l1 : List Int) (r : ByteArray) (w : World) (hr1 : Kd.C (Kd.int .i64) w A1 l1.length l1) (hc1 : l1.length ≤ c1) (H : impl_readCells.f k a0 l1 = some r) :
  Calls Try.prog 65 #[.string a0, .slice A1 l1.length c1] w fun e w' => e = .returned (.string r) ∧ Below w.heap.size w w' := by
 have HR1 := Aside0.mk hr1
 have HC1 := Aside0.mk hc1
 clear hr1 hc1
 have HB := Aside0.mk (Below.refl w.heap.size w)
 unfold impl_readCells.f at H
 have H' := Aside0.mk H
 clear H
 go_enter Try.func65, Try.ntmps65
 go_wp2
 go_loopg [5, 10] k (fun kq v5 v10 w' => ∃ (x5_1 : List Int) (x10_1 : Int), v10 = .int .i64 x10_1 ∧ Aside0 (impl_readCells.l0 kq a0 x5_1 l1 (l1.length : Int) x10_1 = some r) ∧ Aside0 (kq ≤ k) ∧ Aside0 (Kd.R (Kd.int .u8) 5 w' w.heap.size (fun _ => True) v5 x5_1) ∧ Aside0 (Below w.heap.size w w'))
 case atStart => exact ⟨(([] : List Int)), (0), rf, H', ⟨Nat.le_refl _⟩, ⟨by first | exact Kd.R_nil _ _ _ _ _ | exact Kd.N_nil _ _ _ _ _ | exact Kd.V_nil _ _ _ _ _ | exact Kd.Q_nil _ _ _ _ _ | exact Kd.S_nil _ _ _ _ _⟩, ⟨bel⟩⟩
 case round =>
  clear H'
  obtain ⟨x5_1, x10_1, rfl, HA, HK1, HO_5, HB⟩ := hrel
  cases gk with
  | zero => exact absurd HA.out (by simp [impl_readCells.l0])
  | succ k1 =>
   have H := HA.out
   clear HA
   simp only [impl_readCells.l0] at H
   replace H := zc H
   rcases H with ⟨c3b0, H⟩ | ⟨c3b0, H⟩
   ·
    replace H := zr H
    obtain ⟨c4b0, H⟩ := H
    replace H := zr H
    obtain ⟨c5b0, H⟩ := H
    replace H := zr H
    obtain ⟨c6b0, H⟩ := H
    replace H := zr H
    obtain ⟨c7b0, H⟩ := H
    replace H := zl H
    obtain ⟨LMc9, H⟩ := H
    generalize hy486 : (x5_1 ++ [bt a0 (rd l1 x10_1)] : List Int) = y486 at H
    have Ny486 := Aside0.mk hy486.symm
    clear hy486
    have H' := Aside0.mk H
    clear H
    obtain ⟨p485, q485, ad485, e485, hx485_0⟩ := zx (Kd.at_int HR1.out x10_1)
    cases e485
    replace hx485_0 := zh HB hx485_0
    have p8 : 0 ≤ ((rd l1 x10_1) : Int) := of_decide_eq_true asm
    have q8 : (rd l1 x10_1) < (a0.size : Int) := of_decide_eq_true asm
    have hx8 := bt_at a0 (rd l1 x10_1)
    replace p8 := eq_true p8
    replace q8 := eq_true q8
    go_wp2_with (first | ((with_reducible refine gate_builtin (b := .append) (xs := #[.tmp 14, .tmp 18]) rfl ?_); at_builtin; refine Kd.R_append (Kd.int .u8) (w0 := w) w.heap.size rfl (.tmp 14) (.tmp 18) 101 5 (.int .u8 0) 1 rfl Try.underlying101 info5 rfl (by decide) (by omega) u5 x5_1 (bt a0 (rd l1 x10_1)) [.int .u8 (bt a0 (rd l1 x10_1))] (fun _ => True) (fun _ => False) rfl rfl ?aP (fun _ hk => hk.elim) ?aF ?aO ?aB ?aS ?aL ?_; (case aP => exact rfl); (case aB => exact bel); (case aF => exact (fun _ _ => trivial)); (case aO => exact (kr HO_5)); (case aS => exact bsz); (case aL => have := LMc9.out; omega); intro v487 w10 ho hb hg hat; rw [← Ny486.out] at ho; replace HB := Aside0.mk hb; have HO488 := Aside0.mk ho; clear HO_5; clear ho hb hg hat))
    go_roundg k1
    case measure => have := HK1.out; omega
    case rel => exact ⟨(y486), (wrap64 (x10_1 + 1)), rf, H', ⟨by have := HK1.out; omega⟩, ⟨kr HO488⟩, ⟨bel⟩⟩
   ·
    obtain rfl := Option.some.inj H
    have hcv11 := own_string (P := Try.prog) Try.underlying101 Try.underlying5 Try.underlying9 (Kd.own_of_R HO_5.out)
    go_wp2
    go_ret
    exact ⟨er, bel⟩

/-! ### impl_patterns: function 32 -/
def impl_patterns.l0 : Nat → ByteArray → List ByteArray → List (List Int) → Int → Int → Option (List ByteArray)
 | 0, _, _, _, _, _ => none
 | k + 1, x1, x5, x13, x14, x15 => if x15 < x14 then (if 0 ≤ x15 then (if x15 < (x13.length : Int) then ((impl_readCells.f k x1 (rd_L10 x13 x15)).bind fun t495 => (if x5.length < 8796093022208 then (impl_patterns.l0 k x1 (x5 ++ [t495]) x13 x14 (wrap64 (x15 + 1))) else (none))) else (none)) else (none)) else (some x5)
def impl_patterns.f (k : Nat) (a0_0 : Int) (a0_1 : Int) (a0_2 : ByteArray) (a1 : ByteArray) : Option (List ByteArray) := (impl_IsFill.f k a0_0 a0_1 a0_2 a1).bind fun t490 => (if t490 = true then ((impl_layout.f k a0_0 a0_1 a0_2).bind fun t491 => (impl_patterns.l0 k a1 ([] : List ByteArray) t491 (t491.length : Int) 0)) else (some ([] : List ByteArray)))
set_option maxHeartbeats 8000000 in
set_option maxRecDepth 100000 in
theorem impl_patterns.calls (k : Nat) (a0_0 : Int) (a0_1 : Int) (a0_2 : ByteArray) (a1 : ByteArray) (r : List ByteArray) (w : World) (H : impl_patterns.f k a0_0 a0_1 a0_2 a1 = some r) :
  Calls Try.prog 32 #[.agg #[.int .i64 a0_0, .int .i64 a0_1, .string a0_2], .string a1] w fun e w' => ∃ v0_ : Value, e = .returned (v0_) ∧ Kd.R Kd.string 9 w' w.heap.size (fun _ => True) v0_ r ∧ Below w.heap.size w w' := by
 have hu30 := Try.underlying30
 have HB := Aside0.mk (Below.refl w.heap.size w)
 unfold impl_patterns.f at H
 replace H := zs H
 obtain ⟨t490, A3, H⟩ := H
 replace H := zb H
 rcases H with ⟨rfl, H⟩ | ⟨rfl, H⟩
 ·
  replace H := zs H
  obtain ⟨t491, A5, H⟩ := H
  have H' := Aside0.mk H
  clear H
  go_enter Try.func32, Try.ntmps32
  go_wp2_with (first | ((with_reducible refine zd 2 rfl ?_); refine zbx (w := w) #[.int .i64 a0_0, .int .i64 a0_1, .string a0_2] 30 ?_; intro gb489 hg w6 BK489 hb; have GW489 := zg (w := w) hg; replace HB := zB hb; clear hb hg; have ⟨_, _, _, _, _, _⟩ := cz3 BK489) | ((with_reducible refine zd 10 rfl ?_); refine zgl Try.func60 (impl_IsFill.calls k a0_0 a0_1 a0_2 a1 true _ A3.out) ?_; rintro e w8 ⟨rfl, hb⟩; refine ⟨_, rfl, ?_⟩; replace BK489 := zk BK489 hb; replace HB := zB hb; have ⟨_, _, _, _, _, _⟩ := cz3 BK489) | ((with_reducible refine zd 13 rfl ?_); refine zgl Try.func53 (impl_layout.calls k a0_0 a0_1 a0_2 t491 _ A5.out) ?_; rintro e w10 ⟨v492, rfl, ho0, hb⟩; refine ⟨_, rfl, ?_⟩; have HO493 := Aside0.mk (Kd.S_lower ho0 bsz); replace BK489 := zk BK489 hb; replace HB := zB hb; obtain ⟨Ao11, co11, eo11⟩ := Kd.S_slice HO493.out; subst eo11))
  go_loopg [5, 15] k (fun kq v5 v15 w' => ∃ (x5_1 : List ByteArray) (x15_1 : Int), v15 = .int .i64 x15_1 ∧ Aside0 (impl_patterns.l0 kq a1 x5_1 t491 (t491.length : Int) x15_1 = some r) ∧ Aside0 (kq ≤ k) ∧ Aside0 (Kd.R Kd.string 9 w' w.heap.size (fun _ => True) v5 x5_1) ∧ Aside0 (Kd.S (Kd.slice 3 (Kd.int .i64)) 28 w' w.heap.size (fun _ => True) (.slice Ao11 t491.length co11) t491) ∧ Aside0 (w'.heap[gb489]? = some (.cells #[.int .i64 a0_0, .int .i64 a0_1, .string a0_2] 30 (0, 0))) ∧ Aside0 (Below w.heap.size w w'))
  case atStart => exact ⟨(([] : List ByteArray)), (0), rf, H', ⟨Nat.le_refl _⟩, ⟨by first | exact Kd.R_nil _ _ _ _ _ | exact Kd.N_nil _ _ _ _ _ | exact Kd.V_nil _ _ _ _ _ | exact Kd.Q_nil _ _ _ _ _ | exact Kd.S_nil _ _ _ _ _⟩, ⟨ks HO493⟩, ⟨bk BK489⟩, ⟨bel⟩⟩
  case round =>
   clear H'
   obtain ⟨x5_1, x15_1, rfl, HA, HK1, HO_5, HO_13, BK489, HB⟩ := hrel
   cases gk with
   | zero => exact absurd HA.out (by simp [impl_patterns.l0])
   | succ k1 =>
    have H := HA.out
    clear HA
    simp only [impl_patterns.l0] at H
    replace H := zc H
    rcases H with ⟨c12b0, H⟩ | ⟨c12b0, H⟩
    ·
     replace H := zr H
     obtain ⟨c13b0, H⟩ := H
     replace H := zr H
     obtain ⟨c14b0, H⟩ := H
     replace H := zs H
     obtain ⟨t495, A15, H⟩ := H
     replace H := zl H
     obtain ⟨LMc16, H⟩ := H
     generalize hy496 : (x5_1 ++ [t495] : List ByteArray) = y496 at H
     have Ny496 := Aside0.mk hy496.symm
     clear hy496
     have H' := Aside0.mk H
     clear H
     have p494 : 0 ≤ (x15_1 : Int) := of_decide_eq_true asm
     have q494 : x15_1 < (t491.length : Int) := of_decide_eq_true asm
     obtain ⟨ad494, A494_0, c494_0, e494, hx494_0, hl494_0, hi494_0⟩ := at_L10 (Kd.S_reads' HO_13.out).2.2 x15_1 p494 q494
     cases e494
     obtain ⟨ce494, hce494, hMe494, hcc494⟩ := Kd.S_get HO_13.out [] x15_1 p494 (by first | exact q494 | exact of_decide_eq_true asm | (have e_ := (Kd.S_reads' HO_13.out).1; omega))
     obtain ⟨ve494_0, rfl, ge494_0⟩ := hMe494
     have hv494_0 := hcc494 0 _ rfl
     rw [Nat.add_zero, show ((Kd.slice 3 (Kd.int .i64))).sz = 1 from rfl, Nat.mul_one] at hv494_0
     replace hv494_0 := Option.some.inj (hv494_0.symm.trans hx494_0)
     rw [hv494_0] at ge494_0
     have HL494_0 := Aside0.mk (show Kd.R (Kd.int .i64) 3 _ _ _ _ (rd_L10 t491 x15_1) from ge494_0)
     clear hv494_0 ge494_0
     clear hcc494 hce494
     have HR494_0 := Aside0.mk hi494_0
     have HC494_0 := Aside0.mk hl494_0
     clear hi494_0 hl494_0
     replace p494 := eq_true p494
     replace q494 := eq_true q494
     go_wp2_with (first | ((with_reducible refine gate_callee (f := 65) rfl ?_); refine goesL_ (some 22) rfl rfl Try.func65 (by kernel_rfl) rfl #[.string a1, .slice A494_0 (rd_L10 t491 x15_1).length c494_0] rfl ga ?_; (with_reducible refine (impl_readCells.calls k1 a1 _ _ (rd_L10 t491 x15_1) t495 _ ?side1 ?side2 A15.out).mono ?_); (case side1 => repeat (first | exact (by repeat (first | (with_reducible exact HR494_0.out) | (with_reducible refine Kd.C_alloc ?_ _) | (with_reducible refine Kd.C_drewN ?_ _) | (with_reducible refine Kd.C_drew ?_) | exact HR494_0.out)) | (with_reducible refine Kd.C_alloc ?_ _) | (with_reducible refine Kd.C_drewN ?_ _) | (with_reducible refine Kd.C_drew ?_))); (case side2 => exact HC494_0.out); rintro e w17 ⟨rfl, hb⟩; refine ⟨_, rfl, ?_⟩; replace HO_5 := zR HO_5 hb; replace HO_13 := zS HO_13 hb; replace HL494_0 := Aside0.mk (Kd.R_below (kr HL494_0) hb); replace BK489 := zk BK489 hb; replace HR494_0 := Aside0.mk (Kd.C_below (by repeat (first | (with_reducible exact HR494_0.out) | (with_reducible refine Kd.C_alloc ?_ _) | (with_reducible refine Kd.C_drewN ?_ _) | (with_reducible refine Kd.C_drew ?_) | exact HR494_0.out)) hb); replace HB := zB hb) | ((with_reducible refine gate_builtin (b := .append) (xs := #[.tmp 19, .tmp 23]) rfl ?_); at_builtin; refine Kd.R_append Kd.string (w0 := w) w.heap.size rfl (.tmp 19) (.tmp 23) 61 9 (.string ⟨#[]⟩) 16 rfl Try.underlying61 info9 rfl (by decide) (by omega) u5 x5_1 t495 [.string t495] (fun _ => True) (fun _ => False) rfl rfl ?aP (fun _ hk => hk.elim) ?aF ?aO ?aB ?aS ?aL ?_; (case aP => exact rfl); (case aB => exact bel); (case aF => exact (fun _ _ => trivial)); (case aO => exact (kr HO_5)); (case aS => exact bsz); (case aL => have := LMc16.out; omega); intro v497 w18 ho hb hg hat; rw [← Ny496.out] at ho; replace HO_13 := Aside0.mk (Kd.S_over' (ks HO_13) (Kd.R_typed (kr HO_5)) (by decide) hg); replace BK489 := Aside0.mk (blk_grown (bk BK489) hg (Kd.R_ne HO_5.out BK489.out (by decide))); replace HL494_0 := Aside0.mk (Kd.R_over' (kr HL494_0) (Kd.R_typed (kr HO_5)) (by decide) hg); replace HB := Aside0.mk hb; have HO498 := Aside0.mk ho; clear HO_5; clear ho hb hg hat))
     go_roundg k1
     case measure => have := HK1.out; omega
     case rel => exact ⟨(y496), (wrap64 (x15_1 + 1)), rf, H', ⟨by have := HK1.out; omega⟩, ⟨kr HO498⟩, ⟨ks HO_13⟩, ⟨bk BK489⟩, ⟨bel⟩⟩
    ·
     obtain rfl := Option.some.inj H
     go_wp2
     go_ret
     exact ⟨_, er, kr HO_5, bel⟩
 ·
  obtain rfl := Option.some.inj H
  go_enter Try.func32, Try.ntmps32
  go_wp2_with (first | ((with_reducible refine zd 2 rfl ?_); refine zbx (w := w) #[.int .i64 a0_0, .int .i64 a0_1, .string a0_2] 30 ?_; intro gb489 hg w19 BK489 hb; have GW489 := zg (w := w) hg; replace HB := zB hb; clear hb hg; have ⟨_, _, _, _, _, _⟩ := cz3 BK489) | ((with_reducible refine zd 10 rfl ?_); refine zgl Try.func60 (impl_IsFill.calls k a0_0 a0_1 a0_2 a1 false _ A3.out) ?_; rintro e w21 ⟨rfl, hb⟩; refine ⟨_, rfl, ?_⟩; replace BK489 := zk BK489 hb; replace HB := zB hb))
  go_ret
  exact ⟨_, er, by first | exact Kd.R_nil _ _ _ _ _ | exact Kd.N_nil _ _ _ _ _ | exact Kd.V_nil _ _ _ _ _ | exact Kd.Q_nil _ _ _ _ _ | exact Kd.S_nil _ _ _ _ _, bel⟩

end Go.Proofs.Ytpcdfjcbjbkliaa.E
