import Derived.Test.YtpcdfjcbjbkliaaSq
import Derived.Test.YtpcdfjcbjbkliaaQ0
import Derived.Test.YtpcdfjcbjbkliaaQ1
import Derived.Test.YtpcdfjcbjbkliaaQ15
namespace Go.Proofs.Ytpcdfjcbjbkliaa.E
open Go.RowKit Go.Proofs.YtpcdfjcbjbkliaaW.PrintWords Go.Proofs.YtpcdfjcbjbkliaaW.PrintLast Go.Proofs.YtpcdfjcbjbkliaaW.PrintMore
attribute [local go_sem] max2_int min2_int max_two min_two max_three min_three max_four min_four
set_option linter.unusedVariables false
set_option linter.unusedSimpArgs false

attribute [local go_sem high] eqA30
/-! ### impl_SlotsOf: function 61 -/
mutual
def impl_SlotsOf.l0 : Nat → List (S79) → Int → Int → Int → Int → Int → ByteArray → Option ((List (S79)))
 | 0, _, _, _, _, _, _, _ => none
 | k + 1, x3, x4, x13, x14, x373000, x373001, x373002 => if x14 < x13 then ((impl_run.f k x373000 x373001 x373002 x14 false).bind fun t374 => ((impl_run.f k x373000 x373001 x373002 x14 true).bind fun t375 => (if t374 ≥ 2 then (impl_SlotsOf.j1 k x3 x4 x14 t374 t375 x13 x14 true x373000 x373001 x373002) else (impl_SlotsOf.j1 k x3 x4 x14 t374 t375 x13 x14 (decide (t375 ≥ 2)) x373000 x373001 x373002)))) else (some x3)
def impl_SlotsOf.j1 : Nat → List (S79) → Int → Int → Int → Int → Int → Int → Bool → Int → Int → ByteArray → Option ((List (S79)))
 | 0, _, _, _, _, _, _, _, _, _, _, _ => none
 | k + 1, x3, x4, x5, x6, x7, x13, x14, x28, x373000, x373001, x373002 => if x28 = true then (impl_SlotsOf.j2 k x3 (wrap64 (x4 + 1)) x5 x6 x7 x13 x14 x373000 x373001 x373002) else (impl_SlotsOf.j2 k x3 x4 x5 x6 x7 x13 x14 x373000 x373001 x373002)
def impl_SlotsOf.j2 : Nat → List (S79) → Int → Int → Int → Int → Int → Int → Int → Int → ByteArray → Option ((List (S79)))
 | 0, _, _, _, _, _, _, _, _, _, _ => none
 | k + 1, x3, x4, x5, x6, x7, x13, x14, x373000, x373001, x373002 => if x6 ≥ 2 then (if x3.length < 4398046511104 then ((some (x3 ++ [(⟨x4, false, x5, x6⟩ : S79)] : List (S79))).bind fun y376 => (if x7 ≥ 2 then (if y376.length < 4398046511104 then (impl_SlotsOf.l0 k (y376 ++ [(⟨x4, true, x5, x7⟩ : S79)]) x4 x13 (wrap64 (x14 + 1)) x373000 x373001 x373002) else (none)) else (impl_SlotsOf.l0 k y376 x4 x13 (wrap64 (x14 + 1)) x373000 x373001 x373002))) else (none)) else (if x7 ≥ 2 then (if x3.length < 4398046511104 then (impl_SlotsOf.l0 k (x3 ++ [(⟨x4, true, x5, x7⟩ : S79)]) x4 x13 (wrap64 (x14 + 1)) x373000 x373001 x373002) else (none)) else (impl_SlotsOf.l0 k x3 x4 x13 (wrap64 (x14 + 1)) x373000 x373001 x373002))
end
def impl_SlotsOf.f (k : Nat) (a0_0 : Int) (a0_1 : Int) (a0_2 : ByteArray) : Option ((List (S79))) := (impl_IsGrid.f k a0_0 a0_1 a0_2).bind fun t373 => (if t373 = true then (impl_SlotsOf.l0 k ([] : List (S79)) 0 (a0_2.size : Int) 0 a0_0 a0_1 a0_2) else (some ([] : List (S79))))
def impl_SlotsOf.T8 : Bool × List (List Nat × List Nat) := (true, [([], []), ([], []), ([0, 1], [0, 1]), ([], []), ([], []), ([3, 4, 2], [3, 4]), ([2, 5, 0, 1, 2], [2]), ([5, 6, 0, 1, 2, 3, 4, 5, 6], [5])])
theorem impl_SlotsOf.tab8 : rtab .any (opsOf Try.f61 8) = impl_SlotsOf.T8 := by kernel_rfl
set_option maxHeartbeats 8000000 in
set_option maxRecDepth 100000 in
theorem impl_SlotsOf.calls (k : Nat) (a0_0 : Int) (a0_1 : Int) (a0_2 : ByteArray) (r : List (S79)) (w : World) (H : impl_SlotsOf.f k a0_0 a0_1 a0_2 = some r) :
  Calls Try.prog 61 #[.agg #[.int .i64 a0_0, .int .i64 a0_1, .string a0_2]] w fun e w' => ∃ v0_ : Value, e = .returned (v0_) ∧ Kd.R k79 79 w' w.heap.size (fun _ => True) v0_ r ∧ Below w.heap.size w w' := by
 have hu30 := Try.underlying30
 have hu79 := Try.underlying79
 have HB := Aside0.mk (Below.refl w.heap.size w)
 unfold impl_SlotsOf.f at H
 replace H := zs H
 obtain ⟨t373, A2, H⟩ := H
 replace H := zb H
 rcases H with ⟨rfl, H⟩ | ⟨rfl, H⟩
 ·
  have H' := Aside0.mk H
  clear H
  go_enter Try.func61, Try.ntmps61
  go_wp2_with (first | ((with_reducible refine zd 1 rfl ?_); refine zbx (w := w) #[.int .i64 a0_0, .int .i64 a0_1, .string a0_2] 30 ?_; intro gb372 hg w4 BK372 hb; have GW372 := zg (w := w) hg; replace HB := zB hb; clear hb hg; have ⟨_, _, _, _, _, _⟩ := cz3 BK372) | ((with_reducible refine zd 9 rfl ?_); refine zgl Try.func85 (impl_IsGrid.calls k a0_0 a0_1 a0_2 true _ A2.out) ?_; rintro e w6 ⟨rfl, hb⟩; refine ⟨_, rfl, ?_⟩; replace BK372 := zk BK372 hb; replace HB := zB hb; have ⟨_, _, _, _, _, _⟩ := cz3 BK372))
  go_loopg [3, 4, 14] k (fun kq v3 v4 v14 w' => ∃ (x3_1 : List (S79)) (x4_1 : Int) (x14_1 : Int), v4 = .int .i64 x4_1 ∧ v14 = .int .i64 x14_1 ∧ Aside0 (impl_SlotsOf.l0 kq x3_1 x4_1 (a0_2.size : Int) x14_1 a0_0 a0_1 a0_2 = some r) ∧ Aside0 (kq ≤ k) ∧ Aside0 (Kd.R k79 79 w' w.heap.size (fun _ => True) v3 x3_1) ∧ Aside0 (w'.heap[gb372]? = some (.cells #[.int .i64 a0_0, .int .i64 a0_1, .string a0_2] 30 (0, 0))) ∧ Aside0 (Below w.heap.size w w'))
  case atStart => exact ⟨(([] : List (S79))), (0), (0), rf, rf, H', ⟨Nat.le_refl _⟩, ⟨by first | exact Kd.R_nil _ _ _ _ _ | exact Kd.N_nil _ _ _ _ _ | exact Kd.V_nil _ _ _ _ _ | exact Kd.Q_nil _ _ _ _ _ | exact Kd.S_nil _ _ _ _ _⟩, ⟨bk BK372⟩, ⟨bel⟩⟩
  case round =>
   clear H'
   obtain ⟨x3_1, x4_1, x14_1, rfl, rfl, HA, HK1, HO_3, BK372, HB⟩ := hrel
   cases gk with
   | zero => exact absurd HA.out (by simp [impl_SlotsOf.l0])
   | succ k1 =>
    have H := HA.out
    clear HA
    simp only [impl_SlotsOf.l0] at H
    replace H := zc H
    rcases H with ⟨c8b0, H⟩ | ⟨c8b0, H⟩
    ·
     replace H := zs H
     obtain ⟨t374, A9, H⟩ := H
     replace H := zs H
     obtain ⟨t375, A10, H⟩ := H
     have HC11 := Aside0.mk H
     clear H
     try go_wp2
     replace HO_3 := zRd HO_3
     replace BK372 := zkd BK372
     replace HB := zBd HB
     refine zst 8 impl_SlotsOf.tab8 (zb3 BK372 <| zn0) fun hHeld HT_ => ?_
     generalize wr.drew = w12 at HO_3 BK372 HB hHeld ⊢
     repeat (first | refine zs1 ?_ | (refine zcl Try.func90 (impl_run.calls k1 a0_0 a0_1 a0_2 x14_1 false t374 _ A9.out) ?_; rintro e w13 ⟨rfl, hb⟩; replace HO_3 := zR HO_3 hb; replace BK372 := zk BK372 hb; replace HB := zB hb; refine ⟨_, rfl, zHb hb hHeld, _, znb, fun hHeld => ?_⟩) | (refine zcl Try.func90 (impl_run.calls k1 a0_0 a0_1 a0_2 x14_1 true t375 _ A10.out) ?_; rintro e w14 ⟨rfl, hb⟩; replace HO_3 := zR HO_3 hb; replace BK372 := zk BK372 hb; replace HB := zB hb; refine ⟨_, rfl, zHb hb hHeld, _, znb, fun hHeld => ?_⟩))
     refine zdn ?_
     go_upto_region 9 with (fail)
     go_cut [28] (fun v28 wc => ∃ (kq : Nat) (x28_10 : Bool), v28 = .bool x28_10 ∧ Aside0 (impl_SlotsOf.j1 kq x3_1 x4_1 x14_1 t374 t375 (a0_2.size : Int) x14_1 x28_10 a0_0 a0_1 a0_2 = some r) ∧ Aside0 (kq ≤ k1) ∧ Aside0 (Kd.R k79 79 wc w.heap.size (fun _ => True) u3 x3_1) ∧ Aside0 (wc.heap[gb372]? = some (.cells #[.int .i64 a0_0, .int .i64 a0_1, .string a0_2] 30 (0, 0))) ∧ Aside0 (Below w.heap.size w wc))
     case first =>
      have H := HC11.out
      clear HC11
      replace H := zc H
      rcases H with ⟨c15b0, H⟩ | ⟨c15b0, H⟩
      ·
       (first | rw [c15b0] | (simp only [i64_w, i32_w]; rw [c15b0]) | skip)
       have H' := Aside0.mk H
       clear H
       go_wp2
       go_meet
       case rel => exact ⟨_, (true), rf, H', ⟨by have := HK1.out; first | omega | exact Nat.le_refl _⟩, ⟨kr HO_3⟩, ⟨bk BK372⟩, ⟨bel⟩⟩
      ·
       (first | rw [c15b0] | (simp only [i64_w, i32_w]; rw [c15b0]) | skip)
       have H' := Aside0.mk H
       clear H
       go_wp2
       go_meet
       case rel => exact ⟨_, (decide (t375 ≥ 2)), rf, H', ⟨by have := HK1.out; first | omega | exact Nat.le_refl _⟩, ⟨kr HO_3⟩, ⟨bk BK372⟩, ⟨bel⟩⟩
     case rest =>
      clear HC11
      obtain ⟨kq, x28_10, rfl, HA, HJ10, HO_3, BK372, HB⟩ := hcut
      cases kq with
      | zero => exact absurd HA.out (by simp [impl_SlotsOf.j1])
      | succ kj10 =>
       have H := HA.out
       clear HA
       simp only [impl_SlotsOf.j1] at H
       have HC16 := Aside0.mk H
       clear H
       go_upto_if 28 with (fail)
       go_cut [4] (fun v4 wc => ∃ (kq : Nat) (x4_15 : Int), v4 = .int .i64 x4_15 ∧ Aside0 (impl_SlotsOf.j2 kq x3_1 x4_15 x14_1 t374 t375 (a0_2.size : Int) x14_1 a0_0 a0_1 a0_2 = some r) ∧ Aside0 (kq ≤ kj10) ∧ Aside0 (Kd.R k79 79 wc w.heap.size (fun _ => True) u3 x3_1) ∧ Aside0 (wc.heap[gb372]? = some (.cells #[.int .i64 a0_0, .int .i64 a0_1, .string a0_2] 30 (0, 0))) ∧ Aside0 (Below w.heap.size w wc))
       case first =>
        have H := HC16.out
        clear HC16
        replace H := zb H
        rcases H with ⟨rfl, H⟩ | ⟨rfl, H⟩
        ·
         have H' := Aside0.mk H
         clear H
         go_wp2
         go_meet
         case rel => exact ⟨_, (wrap64 (x4_1 + 1)), rf, H', ⟨by have := HK1.out; have := HJ10.out; first | omega | exact Nat.le_refl _⟩, ⟨kr HO_3⟩, ⟨bk BK372⟩, ⟨bel⟩⟩
        ·
         have H' := Aside0.mk H
         clear H
         go_wp2
         go_meet
         case rel => exact ⟨_, (x4_1), rf, H', ⟨by have := HK1.out; have := HJ10.out; first | omega | exact Nat.le_refl _⟩, ⟨kr HO_3⟩, ⟨bk BK372⟩, ⟨bel⟩⟩
       case rest =>
        clear HC16
        obtain ⟨kq, x4_15, rfl, HA, HJ15, HO_3, BK372, HB⟩ := hcut
        cases kq with
        | zero => exact absurd HA.out (by simp [impl_SlotsOf.j2])
        | succ kj15 =>
         have H := HA.out
         clear HA
         simp only [impl_SlotsOf.j2] at H
         replace H := zc H
         rcases H with ⟨c18b0, H⟩ | ⟨c18b0, H⟩
         ·
          replace H := zl H
          obtain ⟨LMc19, H⟩ := H
          replace H := zy H
          obtain ⟨y376, Ny376, H⟩ := H
          replace H := zc H
          rcases H with ⟨c20b0, H⟩ | ⟨c20b0, H⟩
          ·
           replace H := zl H
           obtain ⟨LMc21, H⟩ := H
           generalize hy379 : (y376 ++ [(⟨x4_15, true, x14_1, t375⟩ : S79)] : List (S79)) = y379 at H
           have Ny379 := Aside0.mk hy379.symm
           clear hy379
           have H' := Aside0.mk H
           clear H
           go_wp2_with (first | ((with_reducible refine gate_builtin (b := .append) (xs := #[.tmp 33, .tmp 38]) rfl ?_); at_builtin; refine Kd.R_append k79 (w0 := w) w.heap.size rfl (.tmp 33) (.tmp 38) 75 79 (.agg #[(.int .i64 0), (.bool false), (.int .i64 0), (.int .i64 0)]) 32 rfl Try.underlying75 info79 rfl (by decide) (by omega) u3 x3_1 (⟨x4_15, false, x14_1, t374⟩ : S79) [.int .i64 x4_15, .bool false, .int .i64 x14_1, .int .i64 t374] (fun _ => True) (fun _ => False) rfl rfl ?aP (fun _ hk => hk.elim) ?aF ?aO ?aB ?aS ?aL ?_; (case aP => exact k79_mkM _ _ _ (⟨x4_15, false, x14_1, t374⟩ : S79)); (case aB => exact bel); (case aF => exact (fun _ _ => trivial)); (case aO => exact (kr HO_3)); (case aS => exact bsz); (case aL => have := LMc19.out; omega); intro v377 w22 ho hb hg hat; rw [← Ny376.out] at ho; replace BK372 := Aside0.mk (blk_grown (bk BK372) hg (Kd.R_ne HO_3.out BK372.out (by decide))); replace HB := Aside0.mk hb; have HO378 := Aside0.mk ho; clear HO_3; clear ho hb hg hat) | ((with_reducible refine gate_builtin (b := .append) (xs := #[.tmp 42, .tmp 47]) rfl ?_); at_builtin; refine Kd.R_append k79 (w0 := w) w.heap.size rfl (.tmp 42) (.tmp 47) 75 79 (.agg #[(.int .i64 0), (.bool false), (.int .i64 0), (.int .i64 0)]) 32 rfl Try.underlying75 info79 rfl (by decide) (by omega) v377 y376 (⟨x4_15, true, x14_1, t375⟩ : S79) [.int .i64 x4_15, .bool true, .int .i64 x14_1, .int .i64 t375] (fun _ => True) (fun _ => False) rfl rfl ?aP (fun _ hk => hk.elim) ?aF ?aO ?aB ?aS ?aL ?_; (case aP => exact k79_mkM _ _ _ (⟨x4_15, true, x14_1, t375⟩ : S79)); (case aB => exact bel); (case aF => exact (fun _ _ => trivial)); (case aO => exact (kr HO378)); (case aS => exact bsz); (case aL => have := LMc21.out; omega); intro v380 w23 ho hb hg hat; rw [← Ny379.out] at ho; replace BK372 := Aside0.mk (blk_grown (bk BK372) hg (Kd.R_ne HO378.out BK372.out (by decide))); replace HB := Aside0.mk hb; have HO381 := Aside0.mk ho; clear HO378; clear ho hb hg hat))
           go_roundg kj15
           case measure => have := HK1.out; have := HJ10.out; have := HJ15.out; omega
           case rel => exact ⟨(y379), (x4_15), (wrap64 (x14_1 + 1)), rf, rf, H', ⟨by have := HK1.out; have := HJ10.out; have := HJ15.out; omega⟩, ⟨kr HO381⟩, ⟨bk BK372⟩, ⟨bel⟩⟩
          ·
           have H' := Aside0.mk H
           clear H
           go_wp2_with (first | ((with_reducible refine gate_builtin (b := .append) (xs := #[.tmp 33, .tmp 38]) rfl ?_); at_builtin; refine Kd.R_append k79 (w0 := w) w.heap.size rfl (.tmp 33) (.tmp 38) 75 79 (.agg #[(.int .i64 0), (.bool false), (.int .i64 0), (.int .i64 0)]) 32 rfl Try.underlying75 info79 rfl (by decide) (by omega) u3 x3_1 (⟨x4_15, false, x14_1, t374⟩ : S79) [.int .i64 x4_15, .bool false, .int .i64 x14_1, .int .i64 t374] (fun _ => True) (fun _ => False) rfl rfl ?aP (fun _ hk => hk.elim) ?aF ?aO ?aB ?aS ?aL ?_; (case aP => exact k79_mkM _ _ _ (⟨x4_15, false, x14_1, t374⟩ : S79)); (case aB => exact bel); (case aF => exact (fun _ _ => trivial)); (case aO => exact (kr HO_3)); (case aS => exact bsz); (case aL => have := LMc19.out; omega); intro v377 w24 ho hb hg hat; rw [← Ny376.out] at ho; replace BK372 := Aside0.mk (blk_grown (bk BK372) hg (Kd.R_ne HO_3.out BK372.out (by decide))); replace HB := Aside0.mk hb; have HO378 := Aside0.mk ho; clear HO_3; clear ho hb hg hat))
           go_roundg kj15
           case measure => have := HK1.out; have := HJ10.out; have := HJ15.out; omega
           case rel => exact ⟨(y376), (x4_15), (wrap64 (x14_1 + 1)), rf, rf, H', ⟨by have := HK1.out; have := HJ10.out; have := HJ15.out; omega⟩, ⟨kr HO378⟩, ⟨bk BK372⟩, ⟨bel⟩⟩
         ·
          replace H := zc H
          rcases H with ⟨c25b0, H⟩ | ⟨c25b0, H⟩
          ·
           replace H := zl H
           obtain ⟨LMc26, H⟩ := H
           generalize hy382 : (x3_1 ++ [(⟨x4_15, true, x14_1, t375⟩ : S79)] : List (S79)) = y382 at H
           have Ny382 := Aside0.mk hy382.symm
           clear hy382
           have H' := Aside0.mk H
           clear H
           go_wp2_with (first | ((with_reducible refine gate_builtin (b := .append) (xs := #[.tmp 42, .tmp 47]) rfl ?_); at_builtin; refine Kd.R_append k79 (w0 := w) w.heap.size rfl (.tmp 42) (.tmp 47) 75 79 (.agg #[(.int .i64 0), (.bool false), (.int .i64 0), (.int .i64 0)]) 32 rfl Try.underlying75 info79 rfl (by decide) (by omega) u3 x3_1 (⟨x4_15, true, x14_1, t375⟩ : S79) [.int .i64 x4_15, .bool true, .int .i64 x14_1, .int .i64 t375] (fun _ => True) (fun _ => False) rfl rfl ?aP (fun _ hk => hk.elim) ?aF ?aO ?aB ?aS ?aL ?_; (case aP => exact k79_mkM _ _ _ (⟨x4_15, true, x14_1, t375⟩ : S79)); (case aB => exact bel); (case aF => exact (fun _ _ => trivial)); (case aO => exact (kr HO_3)); (case aS => exact bsz); (case aL => have := LMc26.out; omega); intro v383 w27 ho hb hg hat; rw [← Ny382.out] at ho; replace BK372 := Aside0.mk (blk_grown (bk BK372) hg (Kd.R_ne HO_3.out BK372.out (by decide))); replace HB := Aside0.mk hb; have HO384 := Aside0.mk ho; clear HO_3; clear ho hb hg hat))
           go_roundg kj15
           case measure => have := HK1.out; have := HJ10.out; have := HJ15.out; omega
           case rel => exact ⟨(y382), (x4_15), (wrap64 (x14_1 + 1)), rf, rf, H', ⟨by have := HK1.out; have := HJ10.out; have := HJ15.out; omega⟩, ⟨kr HO384⟩, ⟨bk BK372⟩, ⟨bel⟩⟩
          ·
           have H' := Aside0.mk H
           clear H
           go_wp2
           go_roundg kj15
           case measure => have := HK1.out; have := HJ10.out; have := HJ15.out; omega
           case rel => exact ⟨(x3_1), (x4_15), (wrap64 (x14_1 + 1)), rf, rf, H', ⟨by have := HK1.out; have := HJ10.out; have := HJ15.out; omega⟩, ⟨kr HO_3⟩, ⟨bk BK372⟩, ⟨bel⟩⟩
    ·
     obtain rfl := Option.some.inj H
     go_wp2
     go_ret
     exact ⟨_, er, kr HO_3, bel⟩
 ·
  obtain rfl := Option.some.inj H
  go_enter Try.func61, Try.ntmps61
  go_wp2_with (first | ((with_reducible refine zd 1 rfl ?_); refine zbx (w := w) #[.int .i64 a0_0, .int .i64 a0_1, .string a0_2] 30 ?_; intro gb372 hg w28 BK372 hb; have GW372 := zg (w := w) hg; replace HB := zB hb; clear hb hg; have ⟨_, _, _, _, _, _⟩ := cz3 BK372) | ((with_reducible refine zd 9 rfl ?_); refine zgl Try.func85 (impl_IsGrid.calls k a0_0 a0_1 a0_2 false _ A2.out) ?_; rintro e w30 ⟨rfl, hb⟩; refine ⟨_, rfl, ?_⟩; replace BK372 := zk BK372 hb; replace HB := zB hb))
  go_ret
  exact ⟨_, er, by first | exact Kd.R_nil _ _ _ _ _ | exact Kd.N_nil _ _ _ _ _ | exact Kd.V_nil _ _ _ _ _ | exact Kd.Q_nil _ _ _ _ _ | exact Kd.S_nil _ _ _ _ _, bel⟩

/-! ### slices_Reverse_byte_byte: function 110 -/
set_option maxHeartbeats 1600000 in
set_option maxRecDepth 1000000 in
theorem rev_arr (blk off cap : Nat) (d : Array Int) (w : World) (hH : Sort.Holds (Value.int .u8) w blk off d) (hsz : d.size ≤ 9223372036854775807) :
  Calls Try.prog 110 #[.slice (some ⟨blk, off, none⟩) d.size cap] w fun e w' => e = .returned (.tuple #[]) ∧ ∃ n, w' = Sort.putRow (Value.int .u8) (Sort.ahead w n) blk off d.reverse := by
 go_enter Try.func110, Try.ntmps110
 go_wp2
 go_loopg [2, 3] d.size (fun k s2 s3 wr => ∃ (i jn : Nat) (jz : Int) (dk : Array Int) (n : Nat), s2 = .int .i64 i ∧ s3 = .int .i64 jz ∧ ((i : Int) < jz → jz = jn ∧ jn < d.size) ∧ (¬ (i : Int) < jz → ¬ i < jn) ∧ jn - i ≤ k ∧
  dk.size = d.size ∧ wr = Sort.putRow (Value.int .u8) (Sort.ahead w n) blk off dk ∧ Sort.reverseLoop i jn dk = Sort.reverseLoop 0 (d.size - 1) d)
 case atStart => exact ⟨0, d.size - 1, (d.size : Int) - 1, d, 0, rfl, rfl, fun h => ⟨by omega, by omega⟩, fun h => by omega, by omega, rfl, (Sort.putRow_self (Value.int .u8) w blk off d hH).symm, rfl⟩
 case round =>
  obtain ⟨i, jn, jz, dk, n, rfl, rfl, h1, h2, hk, hds, hwr, heq⟩ := hrel
  by_cases hlt : (i : Int) < jz
  ·
   obtain ⟨rfl, hjn⟩ := h1 hlt
   have hij : i < jn := by omega
   have hHk : Sort.Holds (Value.int .u8) wr blk off dk := by rw [hwr]; exact Sort.holds_putRow (Value.int .u8) _ blk off d dk (Sort.holds_ahead (Value.int .u8) w n blk off d hH) hds
   obtain ⟨ci, fi⟩ := hHk i (by omega)
   obtain ⟨cj, fj⟩ := hHk jn (by omega)
   have A : Aside (wr = Sort.putRow (Value.int .u8) (Sort.ahead w n) blk off dk) := hwr
   clear hwr hHk hH h1 h2
   go_wp2_with fail
   go_region
   go_wp2
   go_roundg (jn - 1 - (i + 1))
   case measure => omega
   case rel =>
    rw [Sort.reverseLoop, if_pos hij] at heq
    exact ⟨i + 1, jn - 1, (jn : Int) - 1, Sort.swp dk i jn, n + 1, by simp, rfl, fun h => ⟨by omega, by omega⟩, fun h => by omega, Nat.le_refl _, by rw [Sort.size_swp]; exact hds,
     Go.Proofs.swap_world (Value.int .u8) (by omega) (by omega) A.out (by first | rfl | simp [getElem!_pos, show jn < dk.size by omega]) (by first | rfl | simp [getElem!_pos, show i < dk.size by omega]), heq⟩
  ·
   have hnot := h2 hlt
   go_wp2
   go_end0
   refine ⟨rfl, n, ?_⟩
   rw [Sort.reverseLoop, if_neg hnot] at heq
   rw [← Lib.reverseLoop_reverse, ← heq]

theorem bytes_holds (W : World) (e : TypeId) (s : ByteArray) : Sort.Holds (Value.int .u8) (Lib.bytesWorld W e s) W.heap.size 0 (bytesOf s).toArray := by
 intro j hj
 have hj' : j < s.size := by simpa [bytesOf_length] using hj
 have hjl : j < (bytesOf s).length := by rw [bytesOf_length]; exact hj'
 refine ⟨?_, ?_⟩
 ·
  rw [Nat.zero_add, Lib.bytesWorld_cell W e s j hj']
  have h' : j < s.data.toList.length := by rw [data_length]; exact hj'
  have e1 : (bytesOf s).toArray[j]! = (bytesOf s)[j]'hjl := by rw [getElem!_pos _ j (by simpa using hjl)]; simp
  rw [e1]
  simp [bytesOf, List.getD_eq_getElem?_getD, List.getElem?_eq_getElem h']
 ·
  have hb := Lib.bytesWorld_at_new W e s
  have hsz : s.size ≤ (Lib.bytesCells W e s).size := by
   simp only [Lib.bytesCells, Array.size_append, Array.size_map]
   show s.size ≤ s.size + _
   omega
  unfold World.frozen?
  rw [Nat.zero_add]
  simp only [hb]
  simp
  omega
theorem back_reads (W : World) (b : Nat) (xs : List Int) (h : Sort.Holds (Value.int .u8) W b 0 xs.toArray) (hm : xs.length ≤ 9223372036854775807) : ReadsInt W .u8 (some ⟨b, 0, none⟩) xs.length xs := by
 refine ⟨rfl, hm, fun _ => ⟨_, rfl, fun j hj => ?_⟩⟩
 have := (h j (by simpa using hj)).1
 rw [Nat.zero_add] at this
 rw [add_plain, this, getElem!_pos _ j (by simpa using hj)]
 simp [List.getD_eq_getElem?_getD, List.getElem?_eq_getElem hj]

-- BY HAND ELSEWHERE: function 110 (slices_Reverse_byte_byte)

/-! ### impl_Backwards: function 107 -/
def impl_Backwards.f (a0 : ByteArray) : Option ByteArray := if (a0.size : Int) > 100 then some ⟨#[]⟩ else some (strOfNums (bytesOf a0).reverse)
set_option maxHeartbeats 8000000 in
set_option maxRecDepth 100000 in
theorem impl_Backwards.calls (a0 : ByteArray) (r : ByteArray) (w : World) (h : impl_Backwards.f a0 = some r) :
  Calls Try.prog 107 #[.string a0] w fun e w' => e = .returned (.string r) ∧ Below w.heap.size w w' := by
 unfold impl_Backwards.f at h
 have hB := Below.refl w.heap.size w
 by_cases c : (a0.size : Int) > 100
 ·
  rw [if_pos c] at h
  obtain rfl := Option.some.inj h
  clear h
  have HB := Aside0.mk hB
  clear hB
  go_enter Try.func107, Try.ntmps107
  go_wp2
  go_ret
  exact ⟨rfl, HB.out⟩
 ·
  rw [if_neg c] at h
  obtain rfl := Option.some.inj h
  clear h
  have kb := fun W => print_bytes (P := Try.prog) 9 101 5 Try.underlying9 Try.underlying101 Try.underlying5 a0 W
  have hs : a0.size ≤ 100 := by omega
  have hH := bytes_holds w 5 a0
  have hB1 := bytes_below hB (Nat.le_refl _) 5 a0
  have hl : a0.size = (bytesOf a0).toArray.size := by simp [bytesOf_length]
  have hC := fun cap => rev_arr w.heap.size 0 cap (bytesOf a0).toArray (Lib.bytesWorld w 5 a0) hH (by rw [← hl]; omega)
  simp only [← hl] at hC
  have HC := Aside0.mk hC
  have HH := Aside0.mk hH
  have HB1 := Aside0.mk hB1
  clear hC hH hB1 hB hl
  go_enter Try.func107, Try.ntmps107
  go_wp2_with fail
  refine (HC.out _).mono ?_
  rintro e w1 ⟨rfl, n, rfl⟩
  have hs2 : ∀ cap, (convert 101 9 (.slice (some ⟨w.heap.size, 0, none⟩) a0.size cap)).run Try.prog (Sort.putRow (Value.int .u8) (Sort.ahead (Lib.bytesWorld w 5 a0) n) w.heap.size 0 (bytesOf a0).toArray.reverse) = .ok (.string (strOfNums (bytesOf a0).reverse)) (Sort.putRow (Value.int .u8) (Sort.ahead (Lib.bytesWorld w 5 a0) n) w.heap.size 0 (bytesOf a0).toArray.reverse) := by
   intro cap
   have hh := Sort.holds_putRow (Value.int .u8) _ w.heap.size 0 _ (bytesOf a0).toArray.reverse (Sort.holds_ahead (Value.int .u8) _ n w.heap.size 0 _ HH.out) (by simp)
   have hr := back_reads _ _ (bytesOf a0).reverse (by simpa using hh) (by simp [bytesOf_length]; omega)
   have := string_of_reads (P := Try.prog) (src := 101) (dst := 9) (c := cap) Try.underlying101 Try.underlying5 Try.underlying9 hr
   simpa [bytesOf_length] using this
  have HB2 := Aside0.mk (Lib.below_putRow (enc := Value.int .u8) (q := n) (d := (bytesOf a0).toArray.reverse) HB1.out (Nat.le_refl _))
  generalize Sort.putRow (Value.int .u8) (Sort.ahead (Lib.bytesWorld w 5 a0) n) w.heap.size 0 (bytesOf a0).toArray.reverse = W at hs2 HB2 ⊢
  go_wp2
  go_ret
  exact ⟨rfl, HB2.out⟩

/-! ### impl_TurnGrid: function 100 -/
def impl_TurnGrid.f (k : Nat) (a0_0 : Int) (a0_1 : Int) (a0_2 : ByteArray) : Option (Int × Int × ByteArray) := (impl_IsGrid.f k a0_0 a0_1 a0_2).bind fun t387 => (if t387 = true then ((impl_Backwards.f a0_2).bind fun t388 => (some (a0_0, a0_1, t388))) else (some (0, 0, (⟨#[]⟩ : ByteArray))))
set_option maxHeartbeats 8000000 in
set_option maxRecDepth 100000 in
theorem impl_TurnGrid.calls (k : Nat) (a0_0 : Int) (a0_1 : Int) (a0_2 : ByteArray) (r1 : Int) (r2 : Int) (r3 : ByteArray) (w : World) (H : impl_TurnGrid.f k a0_0 a0_1 a0_2 = some (r1, r2, r3)) :
  Calls Try.prog 100 #[.agg #[.int .i64 a0_0, .int .i64 a0_1, .string a0_2]] w fun e w' => e = .returned (.agg #[.int .i64 r1, .int .i64 r2, .string r3]) ∧ Below w.heap.size w w' := by
 have hu30 := Try.underlying30
 have HB := Aside0.mk (Below.refl w.heap.size w)
 unfold impl_TurnGrid.f at H
 replace H := zs H
 obtain ⟨t387, A2, H⟩ := H
 replace H := zb H
 rcases H with ⟨rfl, H⟩ | ⟨rfl, H⟩
 ·
  replace H := zs H
  obtain ⟨t388, A4, H⟩ := H
  simp only [Option.some.injEq, Prod.mk.injEq] at H
  obtain ⟨rfl, rfl, rfl⟩ := H
  go_enter Try.func100, Try.ntmps100
  go_wp2_with (first | ((with_reducible refine zd 1 rfl ?_); refine zbx (w := w) #[.int .i64 a0_0, .int .i64 a0_1, .string a0_2] 30 ?_; intro gb385 hg w5 BK385 hb; have GW385 := zg (w := w) hg; replace HB := zB hb; clear hb hg) | ((with_reducible refine zd 2 rfl ?_); refine zbx (w := w) #[.int .i64 0, .int .i64 0, .string (⟨#[]⟩ : ByteArray)] 30 ?_; intro gb386 hg w6 BK386 hb; have GW386 := zg (w := w) hg; replace HB := zB hb; have NB385_386 := zn hg BK385; have NB386_385 := zm hg BK385; replace BK385 := zk BK385 hb; clear hb hg; have hnb7 := NB385_386.out; have hnc7 := NB386_385.out; have ⟨_, _, _, _, _, _⟩ := cz3 BK385) | ((with_reducible refine zd 4 rfl ?_); refine zgl Try.func85 (impl_IsGrid.calls k a0_0 a0_1 a0_2 true _ A2.out) ?_; rintro e w9 ⟨rfl, hb⟩; refine ⟨_, rfl, ?_⟩; replace BK385 := zk BK385 hb; replace BK386 := zk BK386 hb; replace HB := zB hb; have ⟨_, _, _, _, _, _⟩ := cz3 BK385) | ((with_reducible refine zd 9 rfl ?_); refine zgl Try.func107 (impl_Backwards.calls a0_2 t388 _ A4.out) ?_; rintro e w11 ⟨rfl, hb⟩; refine ⟨_, rfl, ?_⟩; replace BK385 := zk BK385 hb; replace BK386 := zk BK386 hb; replace HB := zB hb; have ⟨_, _, _, _, _, _⟩ := cz3 BK385; have ⟨_, _, _, _, _, _⟩ := cz3 BK386))
  refine bodyPost_ret (results_cell_row rfl _ _ gb386 30 #[.int .i64 a0_0, .int .i64 a0_1, .string t388] (0, 0) _ rfl (by (with_reducible repeat (first | refine blk_drewN ?_ _ | refine blk_drew ?_ | refine blk_alloc ?_ _)); refine blk_put (cs := #[.int .i64 a0_0, .int .i64 a0_1, .string (⟨#[]⟩ : ByteArray)]) ?_ 2 _ rfl; (with_reducible repeat (first | refine blk_drewN ?_ _ | refine blk_drew ?_ | refine blk_alloc ?_ _)); refine blk_put (cs := #[.int .i64 a0_0, .int .i64 0, .string (⟨#[]⟩ : ByteArray)]) ?_ 1 _ rfl; (with_reducible repeat (first | refine blk_drewN ?_ _ | refine blk_drew ?_ | refine blk_alloc ?_ _)); refine blk_put (cs := #[.int .i64 0, .int .i64 0, .string (⟨#[]⟩ : ByteArray)]) ?_ 0 _ rfl; (with_reducible repeat (first | refine blk_drewN ?_ _ | refine blk_drew ?_ | refine blk_alloc ?_ _)); refine blk_far ?_ NB386_385.out _; (with_reducible repeat (first | refine blk_drewN ?_ _ | refine blk_drew ?_ | refine blk_alloc ?_ _)); exact BK386.out) Try.underlying30 rfl (by kernel_rfl)) rfl ?_
  exact ⟨er, bel⟩
 ·
  simp only [Option.some.injEq, Prod.mk.injEq] at H
  obtain ⟨rfl, rfl, rfl⟩ := H
  go_enter Try.func100, Try.ntmps100
  go_wp2_with (first | ((with_reducible refine zd 1 rfl ?_); refine zbx (w := w) #[.int .i64 a0_0, .int .i64 a0_1, .string a0_2] 30 ?_; intro gb385 hg w14 BK385 hb; have GW385 := zg (w := w) hg; replace HB := zB hb; clear hb hg) | ((with_reducible refine zd 2 rfl ?_); refine zbx (w := w) #[.int .i64 0, .int .i64 0, .string (⟨#[]⟩ : ByteArray)] 30 ?_; intro gb386 hg w15 BK386 hb; have GW386 := zg (w := w) hg; replace HB := zB hb; have NB385_386 := zn hg BK385; have NB386_385 := zm hg BK385; replace BK385 := zk BK385 hb; clear hb hg; have hnb16 := NB385_386.out; have hnc16 := NB386_385.out; have ⟨_, _, _, _, _, _⟩ := cz3 BK385) | ((with_reducible refine zd 4 rfl ?_); refine zgl Try.func85 (impl_IsGrid.calls k a0_0 a0_1 a0_2 false _ A2.out) ?_; rintro e w18 ⟨rfl, hb⟩; refine ⟨_, rfl, ?_⟩; replace BK385 := zk BK385 hb; replace BK386 := zk BK386 hb; replace HB := zB hb; have ⟨_, _, _, _, _, _⟩ := cz3 BK386))
  refine bodyPost_ret (results_cell_row rfl _ _ gb386 30 #[.int .i64 0, .int .i64 0, .string (⟨#[]⟩ : ByteArray)] (0, 0) _ rfl (by (with_reducible repeat (first | refine blk_drewN ?_ _ | refine blk_drew ?_ | refine blk_alloc ?_ _)); refine blk_put (cs := #[.int .i64 0, .int .i64 0, .string (⟨#[]⟩ : ByteArray)]) ?_ 2 _ rfl; (with_reducible repeat (first | refine blk_drewN ?_ _ | refine blk_drew ?_ | refine blk_alloc ?_ _)); refine blk_put (cs := #[.int .i64 0, .int .i64 0, .string (⟨#[]⟩ : ByteArray)]) ?_ 1 _ rfl; (with_reducible repeat (first | refine blk_drewN ?_ _ | refine blk_drew ?_ | refine blk_alloc ?_ _)); refine blk_put (cs := #[.int .i64 0, .int .i64 0, .string (⟨#[]⟩ : ByteArray)]) ?_ 0 _ rfl; (with_reducible repeat (first | refine blk_drewN ?_ _ | refine blk_drew ?_ | refine blk_alloc ?_ _)); exact BK386.out) Try.underlying30 rfl (by kernel_rfl)) rfl ?_
  exact ⟨er, bel⟩

/-! ### impl_IsSymmetric: function 86 -/
def impl_IsSymmetric.f (k : Nat) (a0_0 : Int) (a0_1 : Int) (a0_2 : ByteArray) : Option (Bool) := (impl_IsGrid.f k a0_0 a0_1 a0_2).bind fun t390 => (if t390 = true then ((impl_TurnGrid.f k a0_0 a0_1 a0_2).bind fun bt391 => (some (a0_0 == bt391.1 && (a0_1 == bt391.2.1 && (a0_2.toList == bt391.2.2.toList))))) else (some false))
def impl_IsSymmetric.T1 : Bool × List (List Nat × List Nat) := (true, [([], []), ([0], [0]), ([1, 1], [1]), ([2], [2]), ([2], [2]), ([4, 2, 2], [2, 4]), ([3, 5, 2], [2, 3, 5]), ([2, 6], [2, 6]), ([7, 5, 0, 1, 2, 3, 4, 5, 6, 7], [7])])
theorem impl_IsSymmetric.tab1 : rtab .any (opsOf Try.f86 1) = impl_IsSymmetric.T1 := by kernel_rfl
set_option maxHeartbeats 8000000 in
set_option maxRecDepth 100000 in
theorem impl_IsSymmetric.calls (k : Nat) (a0_0 : Int) (a0_1 : Int) (a0_2 : ByteArray) (r : Bool) (w : World) (H : impl_IsSymmetric.f k a0_0 a0_1 a0_2 = some r) :
  Calls Try.prog 86 #[.agg #[.int .i64 a0_0, .int .i64 a0_1, .string a0_2]] w fun e w' => e = .returned (.bool r) ∧ Below w.heap.size w w' := by
 have hu30 := Try.underlying30
 have HB := Aside0.mk (Below.refl w.heap.size w)
 unfold impl_IsSymmetric.f at H
 replace H := zs H
 obtain ⟨t390, A2, H⟩ := H
 replace H := zb H
 rcases H with ⟨rfl, H⟩ | ⟨rfl, H⟩
 ·
  replace H := Option.bind_eq_some_iff.mp H
  obtain ⟨⟨t391, t392, t393⟩, A40, H⟩ := H
  have A4 := Aside0.mk A40
  clear A40
  obtain rfl := Option.some.inj H
  go_enter Try.func86, Try.ntmps86
  try go_wp2_with (first | ((with_reducible refine zd 1 rfl ?_); refine zbx (w := w) #[.int .i64 a0_0, .int .i64 a0_1, .string a0_2] 30 ?_; intro gb389 hg w5 BK389 hb; have GW389 := zg (w := w) hg; replace HB := zB hb; clear hb hg))
  replace BK389 := zkd BK389
  replace HB := zBd HB
  refine zst 9 impl_IsSymmetric.tab1 (zb3 BK389 <| zn0) fun hHeld HT_ => ?_
  generalize w5.drew = w6 at BK389 HB hHeld ⊢
  repeat (first | refine zs1 ?_ | (refine zcl Try.func85 (impl_IsGrid.calls k a0_0 a0_1 a0_2 true _ A2.out) ?_; rintro e w7 ⟨rfl, hb⟩; replace BK389 := zk BK389 hb; replace HB := zB hb; refine ⟨_, rfl, zHb hb hHeld, _, znb, fun hHeld => ?_⟩) | (refine zcl Try.func100 (impl_TurnGrid.calls k a0_0 a0_1 a0_2 t391 t392 t393 _ A4.out) ?_; rintro e w8 ⟨rfl, hb⟩; replace BK389 := zk BK389 hb; replace HB := zB hb; refine ⟨_, rfl, zHb hb hHeld, _, znb, fun hHeld => ?_⟩))
  refine zdn ?_
  try go_wp2
  go_ret
  exact ⟨er, bel⟩
 ·
  obtain rfl := Option.some.inj H
  go_enter Try.func86, Try.ntmps86
  try go_wp2_with (first | ((with_reducible refine zd 1 rfl ?_); refine zbx (w := w) #[.int .i64 a0_0, .int .i64 a0_1, .string a0_2] 30 ?_; intro gb389 hg w9 BK389 hb; have GW389 := zg (w := w) hg; replace HB := zB hb; clear hb hg))
  replace BK389 := zkd BK389
  replace HB := zBd HB
  refine zst 9 impl_IsSymmetric.tab1 (zb3 BK389 <| zn0) fun hHeld HT_ => ?_
  generalize w9.drew = w10 at BK389 HB hHeld ⊢
  repeat (first | refine zs1 ?_ | (refine zcl Try.func85 (impl_IsGrid.calls k a0_0 a0_1 a0_2 false _ A2.out) ?_; rintro e w11 ⟨rfl, hb⟩; replace BK389 := zk BK389 hb; replace HB := zB hb; refine ⟨_, rfl, zHb hb hHeld, _, znb, fun hHeld => ?_⟩))
  refine zdn ?_
  try go_wp2
  go_ret
  exact ⟨er, bel⟩

/-! ### impl_at: function 44 -/
def impl_at.f (a0 : Int) (a1 : Int) : Option (Bool) := if a0 ≥ 0 then (some (decide (a0 < a1))) else (some false)
set_option maxHeartbeats 8000000 in
set_option maxRecDepth 100000 in
theorem impl_at.calls (a0 : Int) (a1 : Int) (r : Bool) (w : World) (H : impl_at.f a0 a1 = some r) :
  Calls Try.prog 44 #[.int .i64 a0, .int .i64 a1] w fun e w' => e = .returned (.bool r) ∧ Drawn0 w w' := by
 unfold impl_at.f at H
 replace H := zc H
 rcases H with ⟨c3b0, H⟩ | ⟨c3b0, H⟩
 ·
  obtain rfl := Option.some.inj H
  go_enter Try.func44, Try.ntmps44
  go_wp2
  go_ret
  exact ⟨by first | rfl | (simp; done) | (simp [*]; done), by repeat (first | exact Drawn0.refl _ | apply Drawn0.step)⟩
 ·
  obtain rfl := Option.some.inj H
  go_enter Try.func44, Try.ntmps44
  go_wp2
  go_ret
  exact ⟨by first | rfl | (simp; done) | (simp [*]; done), by repeat (first | exact Drawn0.refl _ | apply Drawn0.step)⟩

-- NOT PRINTED: function 108 (impl_PartsOf_1)

/-! ### impl_PartsOf: function 101 -/
def impl_PartsOf.dfs (R C : Int) (s : ByteArray) : Nat → Int → Int → List Bool → Option (List Bool)
 | 0, _, _, _ => none
 | k + 1, r, c, ms =>
  if 0 ≤ r ∧ r < R then
   if 0 ≤ c ∧ c < C then
    if ms.getD (r * C + c).toNat false = true then some ms
    else if bt s (r * C + c) = 46 then
     (impl_PartsOf.dfs R C s k (r - 1) c (ms.set (r * C + c).toNat true)).bind fun m1 =>
     (impl_PartsOf.dfs R C s k (r + 1) c m1).bind fun m2 =>
     (impl_PartsOf.dfs R C s k r (c - 1) m2).bind fun m3 => impl_PartsOf.dfs R C s k r (c + 1) m3
    else some ms
   else some ms
  else some ms
theorem impl_PartsOf.idx {R C r c : Int} {N : Nat} (hR : 2 ≤ R ∧ R ≤ 6) (hC : 2 ≤ C ∧ C ≤ 6) (hN : (N : Int) = R * C) (h1 : 0 ≤ r ∧ r < R) (h2 : 0 ≤ c ∧ c < C) : 0 ≤ r * C + c ∧ r * C + c < N ∧ 0 ≤ r * C ∧ r * C ≤ 36 := by
 obtain ⟨hR0, hR1⟩ := hR
 obtain ⟨hC0, hC1⟩ := hC
 have hr : r = 0 ∨ r = 1 ∨ r = 2 ∨ r = 3 ∨ r = 4 ∨ r = 5 := by omega
 have hRR : R = 2 ∨ R = 3 ∨ R = 4 ∨ R = 5 ∨ R = 6 := by omega
 rcases hRR with rfl | rfl | rfl | rfl | rfl <;> rcases hr with rfl | rfl | rfl | rfl | rfl | rfl <;> omega
set_option maxHeartbeats 4000000 in
set_option maxRecDepth 100000 in
theorem impl_PartsOf.visit {R C : Int} {s : ByteArray} {N G M V B cap : Nat} {w0 : World} {ms0 : List Bool}
  (hR : 2 ≤ R ∧ R ≤ 6) (hC : 2 ≤ C ∧ C ≤ 6) (hN : (N : Int) = R * C) (hs : s.size = N)
  (hG0 : w0.cell? ⟨G, 0, none⟩ = some (.int .i64 R)) (hG1 : w0.cell? ⟨G, 1, none⟩ = some (.int .i64 C)) (hG2 : w0.cell? ⟨G, 2, none⟩ = some (.string s))
  (hM : w0.cell? ⟨M, 0, none⟩ = some (.slice (some ⟨B, 0, none⟩) N cap))
  (hV : w0.cell? ⟨V, 0, none⟩ = some (.func (.func 108) #[] #[.pointer (some ⟨G, 0, none⟩), .pointer (some ⟨M, 0, none⟩), .pointer (some ⟨V, 0, none⟩)]))
  (hGB : G ≠ B) (hMB : M ≠ B) (hVB : V ≠ B) (hB0 : Sort.Holds Value.bool w0 B 0 ms0.toArray) (hl0 : ms0.length = N) (k : Nat) :
  ∀ (r c : Int) (ms ms' : List Bool) (w : World) (n : Nat), impl_PartsOf.dfs R C s k r c ms = some ms' → ms.length = N → w = Sort.putRow Value.bool (Sort.ahead w0 n) B 0 ms.toArray → -10 ≤ r → r ≤ 10 → -10 ≤ c → c ≤ 10 →
  Calls Try.prog 108 #[.int .i64 r, .int .i64 c, .pointer (some ⟨G, 0, none⟩), .pointer (some ⟨M, 0, none⟩), .pointer (some ⟨V, 0, none⟩)] w fun e w' => e = .returned (.tuple #[]) ∧ Aside0 (ms'.length = N ∧ ∃ n', w' = Sort.putRow Value.bool (Sort.ahead w0 n') B 0 ms'.toArray) := by
 induction k with
 | zero => intro r c ms ms' w n h; simp [impl_PartsOf.dfs] at h
 | succ k ih =>
  intro r c ms ms' w n h hl hw hr0 hr1 hc0 hc1
  have IH := Aside0.mk ih
  have HW := Aside0.mk hw
  have hh : Sort.Holds Value.bool w B 0 ms.toArray := by rw [hw]; exact Sort.holds_putRow Value.bool _ _ _ _ _ (Sort.holds_ahead Value.bool _ n _ _ _ hB0) (by simp [hl, hl0])
  have oth : ∀ b j, b ≠ B → w.cell? ⟨b, j, none⟩ = w0.cell? ⟨b, j, none⟩ := fun b j hb => by rw [hw]; rw [Sort.cell?_putRow_other Value.bool _ B 0 ms.toArray ⟨b, j, none⟩ (.inl hb)]; rfl
  have HS := Aside0.mk hs
  have HL := Aside0.mk hl
  have hl2 : ms.length = N := hl
  have g0 := (oth G 0 hGB).trans hG0
  have g1 := (oth G 1 hGB).trans hG1
  have g2 := (oth G 2 hGB).trans hG2
  have g3 := (oth M 0 hMB).trans hM
  have g4 := (oth V 0 hVB).trans hV
  have HH := Aside0.mk hh
  have DONE : ms' = ms → Aside0 (ms'.length = N ∧ ∃ n', w = Sort.putRow Value.bool (Sort.ahead w0 n') B 0 ms'.toArray) := fun e => ⟨by rw [e]; exact ⟨hl, n, hw⟩⟩
  have DN := Aside0.mk DONE
  have HB0 := Aside0.mk hB0
  have HV := Aside0.mk hV
  have HL0 := Aside0.mk hl0
  have HNN := Aside0.mk hN
  clear DONE hh oth hw hs hl hl2 ih hG0 hG1 hG2 hM hV hB0 hl0 hN
  simp only [impl_PartsOf.dfs] at h
  by_cases c1 : 0 ≤ r ∧ r < R
  ·
   rw [if_pos c1] at h
   by_cases c2 : 0 ≤ c ∧ c < C
   ·
    rw [if_pos c2] at h
    obtain ⟨i0, i1, i2, i3⟩ := impl_PartsOf.idx hR hC HNN.out c1 c2
    obtain ⟨q, hq⟩ : ∃ q : Nat, r * C + c = q := ⟨(r * C + c).toNat, by omega⟩
    have hqN : q < N := by omega
    rw [hq] at h
    rw [Int.toNat_natCast] at h
    obtain ⟨c3, c4⟩ := c1
    obtain ⟨c5, c6⟩ := c2
    have hx := (HH.out q (by have := HL.out; simp; omega)).1
    have hf := (HH.out q (by have := HL.out; simp; omega)).2
    rw [Nat.zero_add] at hx hf
    have hgq : ms.toArray[q]! = ms.getD q false := by
     have : q < ms.length := by have := HL.out; omega
     rw [getElem!_pos _ q (by simpa using this)]
     simp [List.getD_eq_getElem?_getD, List.getElem?_eq_getElem this]
    rw [hgq] at hx
    clear hgq
    have hqs : q < s.size := by have := HS.out; omega
    have hbt := bt_at s (q : Int)
    rw [Int.toNat_natCast] at hbt
    have hbt2 := hbt hqs
    have e1 : IntKind.i64.wrap (r * C) = r * C := IntWalk.i64_in _ (by omega)
    have e2 : IntKind.i64.wrap (r * C + c) = (q : Int) := by rw [hq]; exact IntWalk.i64_in _ (by omega)
    have e3 : wrap64 (r * C) = r * C := by unfold wrap64; omega
    have e4 : wrap64 (r * C + c) = (q : Int) := by unfold wrap64; omega
    by_cases c7 : ms.getD q false = true
    ·
     rw [if_pos c7] at h
     obtain rfl := Option.some.inj h
     clear h
     rw [c7] at hx
     clear hbt hbt2 c7 hf
     go_enter Try.func108, Try.ntmps108
     go_wp2
     exact bodyPost_ret (results_none rfl _ _ _) rfl ⟨rfl, DN.out (by simp)⟩
    ·
     rw [if_neg c7] at h
     have c7' : ms.getD q false = false := by simpa using c7
     rw [c7'] at hx
     clear c7 c7'
     by_cases c8 : bt s q = 46
     ·
      rw [if_pos c8] at h
      obtain ⟨m1, h1, h⟩ := Option.bind_eq_some_iff.mp h
      obtain ⟨m2, h2, h⟩ := Option.bind_eq_some_iff.mp h
      obtain ⟨m3, h3, h4⟩ := Option.bind_eq_some_iff.mp h
      have H1 := Aside0.mk h1
      have H2 := Aside0.mk h2
      have H3 := Aside0.mk h3
      have H4 := Aside0.mk h4
      have c8b : (bt s q != 46) = false := bne_eq_false_iff_eq.mpr c8
      clear h h1 h2 h3 h4 c8
      have HT := Aside0.mk (show w.setCell ⟨B, q, none⟩ (.bool true) = Sort.putRow Value.bool (Sort.ahead w0 n) B 0 (ms.set q true).toArray by
       have := Sort.putRow_set Value.bool (Sort.ahead w0 n) B 0 ms.toArray q true (by have := HL.out; simp; omega)
       rw [Nat.zero_add, ← HW.out] at this
       simpa using this)
      have HLs := Aside0.mk (show (ms.set q true).length = N by rw [List.length_set]; exact HL.out)
      have HSTEP := Aside0.mk (show ∀ (xs : List Bool) (W : World) (m : Nat), W = Sort.putRow Value.bool (Sort.ahead w0 m) B 0 xs.toArray → W.cell? ⟨V, 0, none⟩ = w0.cell? ⟨V, 0, none⟩ by
       intro xs W m hW
       subst hW
       exact Sort.cell?_putRow_other Value.bool _ B 0 xs.toArray ⟨V, 0, none⟩ (.inl hVB))
      clear hbt hqN
      go_enter Try.func108, Try.ntmps108
      go_wp2_with (go_at_call 44; go_in)
      refine (IH.out (r - 1) c (ms.set q true) m1 _ n H1.out HLs.out HT.out (by omega) (by omega) (by omega) (by omega)).mono ?_
      rintro e w1 ⟨rfl, hr1⟩
      obtain ⟨l1, n1, hw1⟩ := hr1.out
      have HL1 := Aside0.mk l1
      have HW1 := Aside0.mk hw1
      have g5 := (HSTEP.out m1 w1 n1 hw1).trans HV.out
      clear l1 hw1 hr1 g4 g3 g2 g1 g0 hx hf
      go_wp2_with (go_at_call 44; go_in)
      refine (IH.out (r + 1) c m1 m2 _ n1 H2.out HL1.out HW1.out (by omega) (by omega) (by omega) (by omega)).mono ?_
      rintro e w2 ⟨rfl, hr2⟩
      obtain ⟨l2, n2, hw2⟩ := hr2.out
      have HL2 := Aside0.mk l2
      have HW2 := Aside0.mk hw2
      have g6 := (HSTEP.out m2 w2 n2 hw2).trans HV.out
      clear l2 hw2 hr2 g5
      go_wp2_with (go_at_call 44; go_in)
      refine (IH.out r (c - 1) m2 m3 _ n2 H3.out HL2.out HW2.out (by omega) (by omega) (by omega) (by omega)).mono ?_
      rintro e w3 ⟨rfl, hr3⟩
      obtain ⟨l3, n3, hw3⟩ := hr3.out
      have HL3 := Aside0.mk l3
      have HW3 := Aside0.mk hw3
      have g7 := (HSTEP.out m3 w3 n3 hw3).trans HV.out
      clear l3 hw3 hr3 g6
      go_wp2_with (go_at_call 44; go_in)
      refine (IH.out r (c + 1) m3 ms' _ n3 H4.out HL3.out HW3.out (by omega) (by omega) (by omega) (by omega)).mono ?_
      rintro e w4 ⟨rfl, hr4⟩
      clear g7
      go_wp2
      go_end0
      exact ⟨rfl, hr4⟩
     ·
      rw [if_neg c8] at h
      obtain rfl := Option.some.inj h
      clear h
      have c8b : (bt s q != 46) = true := bne_iff_ne.mpr c8
      clear c8 hf
      go_enter Try.func108, Try.ntmps108
      go_wp2
      exact bodyPost_ret (results_none rfl _ _ _) rfl ⟨rfl, DN.out (by simp)⟩
   ·
    rw [if_neg c2] at h
    obtain rfl := Option.some.inj h
    clear h
    obtain ⟨c3, c4⟩ := c1
    by_cases c5 : 0 ≤ c
    ·
     have c6 : ¬ c < C := fun h => c2 ⟨c5, h⟩
     clear c2
     go_enter Try.func108, Try.ntmps108
     go_wp2
     exact bodyPost_ret (results_none rfl _ _ _) rfl ⟨rfl, DN.out (by simp)⟩
    ·
     clear c2
     go_enter Try.func108, Try.ntmps108
     go_wp2
     exact bodyPost_ret (results_none rfl _ _ _) rfl ⟨rfl, DN.out (by simp)⟩
  ·
   rw [if_neg c1] at h
   obtain rfl := Option.some.inj h
   clear h
   by_cases c5 : 0 ≤ r
   ·
    have c6 : ¬ r < R := fun h => c1 ⟨c5, h⟩
    clear c1
    go_enter Try.func108, Try.ntmps108
    go_wp2
    exact bodyPost_ret (results_none rfl _ _ _) rfl ⟨rfl, DN.out (by simp)⟩
   ·
    clear c1
    go_enter Try.func108, Try.ntmps108
    go_wp2
    exact bodyPost_ret (results_none rfl _ _ _) rfl ⟨rfl, DN.out (by simp)⟩
theorem impl_IsGrid.j0_true {k : Nat} {a b : Int} {s : ByteArray} : impl_IsGrid.j0 k true a b s ≠ some true := by
 cases k <;> simp [impl_IsGrid.j0]
theorem impl_IsGrid.bounds {k : Nat} {a b : Int} {s : ByteArray} (h : impl_IsGrid.f k a b s = some true) : (2 ≤ a ∧ a ≤ 6) ∧ (2 ≤ b ∧ b ≤ 6) ∧ (s.size : Int) = a * b := by
 unfold impl_IsGrid.f at h
 obtain ⟨t, ht, h⟩ := Option.bind_eq_some_iff.mp h
 cases t with
 | false => rw [if_neg (by decide)] at h; exact absurd h impl_IsGrid.j0_true
 | true =>
  rw [if_pos rfl] at h
  obtain ⟨t2, ht2, h⟩ := Option.bind_eq_some_iff.mp h
  cases t2 with
  | false => rw [if_neg (by decide)] at h; exact absurd h impl_IsGrid.j0_true
  | true =>
   rw [if_pos rfl] at h
   have r1 : 2 ≤ a ∧ a ≤ 6 := by
    unfold impl_InRange.f at ht
    split at ht
    ·
     exact ⟨by omega, by simpa using ht⟩
    ·
     cases ht
   have r2 : 2 ≤ b ∧ b ≤ 6 := by
    unfold impl_InRange.f at ht2
    split at ht2
    ·
     exact ⟨by omega, by simpa using ht2⟩
    ·
     cases ht2
   refine ⟨r1, r2, ?_⟩
   have hw : wrap64 (a * b) = a * b := by
    have ha : a = 2 ∨ a = 3 ∨ a = 4 ∨ a = 5 ∨ a = 6 := by omega
    rcases ha with rfl | rfl | rfl | rfl | rfl <;> (unfold wrap64; omega)
   rw [hw] at h
   by_cases e : ((s.size : Int) != a * b) = true
   ·
    rw [e] at h; exact absurd h impl_IsGrid.j0_true
   ·
    simpa using e
def impl_PartsOf.go (R C : Int) (s : ByteArray) : Nat → Nat → Int → List Bool → Option Int
 | 0, _, n, _ => some n
 | d + 1, i, n, ms =>
  if bt s i = 46 then
   if ms.getD i false = true then impl_PartsOf.go R C s d (i + 1) n ms
   else (impl_PartsOf.dfs R C s 100 ((i : Int) / C) ((i : Int) % C) ms).bind fun m' => impl_PartsOf.go R C s d (i + 1) (n + 1) m'
  else impl_PartsOf.go R C s d (i + 1) n ms
def impl_PartsOf.f (k : Nat) (a0_0 : Int) (a0_1 : Int) (a0_2 : ByteArray) : Option Int :=
 (impl_IsGrid.f k a0_0 a0_1 a0_2).bind fun t => if t = true then impl_PartsOf.go a0_0 a0_1 a0_2 a0_2.size 0 0 (List.replicate a0_2.size false) else some 0
theorem impl_PartsOf.cellsB {W : World} {base B cap n n' : Nat} {ok : Nat → Prop} {cells : Array Value} (ho : Kd.R Kd.bool 4 W base ok (.slice (some ⟨B, 0, none⟩) n cap) (List.replicate (n' : Int).toNat false)) (hb : W.heap[B]? = some (.cells cells 4 (0, 0))) : ∀ j, j < n' → cells[j]? = some (.bool false) := by
 intro j hj
 have hn := (Kd.R_reads' ho).1
 obtain ⟨c, hl, hM, hc, _⟩ := Kd.R_elem ho false (j : Int) (by omega) (by simp at hn; omega)
 have hM' : c = [.bool ((List.replicate n' false).getD j false)] := hM
 have := hc 0 (.bool false) (by rw [hM']; simp [List.getD_eq_getElem?_getD, List.getElem?_replicate, hj])
 rw [blk_cell hb] at this
 simpa [show (Kd.bool).sz = 1 from rfl] using this
structure impl_PartsOf.Ok (W : World) (G M V B cap N : Nat) (R C : Int) (s : ByteArray) (ms : List Bool) : Prop where
 g0 : W.cell? ⟨G, 0, none⟩ = some (.int .i64 R)
 g1 : W.cell? ⟨G, 1, none⟩ = some (.int .i64 C)
 g2 : W.cell? ⟨G, 2, none⟩ = some (.string s)
 m : W.cell? ⟨M, 0, none⟩ = some (.slice (some ⟨B, 0, none⟩) N cap)
 v : W.cell? ⟨V, 0, none⟩ = some (.func (.func 108) #[] #[.pointer (some ⟨G, 0, none⟩), .pointer (some ⟨M, 0, none⟩), .pointer (some ⟨V, 0, none⟩)])
 gb : G ≠ B
 mb : M ≠ B
 vb : V ≠ B
 hold : Sort.Holds Value.bool W B 0 ms.toArray
 len : ms.length = N
theorem impl_PartsOf.ok_start {W : World} {G M V B cap : Nat} {R C : Int} {s : ByteArray} {cells : Array Value}
  (bg : W.heap[G]? = some (.cells #[.int .i64 R, .int .i64 C, .string s] 30 (0, 0))) (bm : W.heap[M]? = some (.cells #[.slice (some ⟨B, 0, none⟩) s.size cap] 111 (0, 0)))
  (bv : W.heap[V]? = some (.cells #[.nilFunc] 114 (0, 0))) (bb : W.heap[B]? = some (.cells cells 4 (0, 0))) (gv : G ≠ V) (mv : M ≠ V) (vb : V ≠ B) (gb : G ≠ B) (mb : M ≠ B) (hc : ∀ j, j < s.size → cells[j]? = some (.bool false)) :
  impl_PartsOf.Ok (W.setCell ⟨V, 0, none⟩ (.func (.func 108) #[] #[.pointer (some ⟨G, 0, none⟩), .pointer (some ⟨M, 0, none⟩), .pointer (some ⟨V, 0, none⟩)])) G M V B cap s.size R C s (List.replicate s.size false) := by
 have bg' := blk_far bg (p := ⟨V, 0, none⟩) gv (.func (.func 108) #[] #[.pointer (some ⟨G, 0, none⟩), .pointer (some ⟨M, 0, none⟩), .pointer (some ⟨V, 0, none⟩)])
 have bm' := blk_far bm (p := ⟨V, 0, none⟩) mv (.func (.func 108) #[] #[.pointer (some ⟨G, 0, none⟩), .pointer (some ⟨M, 0, none⟩), .pointer (some ⟨V, 0, none⟩)])
 have bb' := blk_far bb (p := ⟨V, 0, none⟩) vb.symm (.func (.func 108) #[] #[.pointer (some ⟨G, 0, none⟩), .pointer (some ⟨M, 0, none⟩), .pointer (some ⟨V, 0, none⟩)])
 have bv' := blk_put bv 0 (.func (.func 108) #[] #[.pointer (some ⟨G, 0, none⟩), .pointer (some ⟨M, 0, none⟩), .pointer (some ⟨V, 0, none⟩)]) rfl
 refine ⟨(blk_cell bg' 0).trans rfl, (blk_cell bg' 1).trans rfl, (blk_cell bg' 2).trans rfl, (blk_cell bm' 0).trans rfl, (blk_cell bv' 0).trans rfl, gb, mb, vb, ?_, by simp⟩
 intro j hj
 have hj' : j < s.size := by simpa using hj
 rw [Nat.zero_add]
 refine ⟨?_, blk_frozen bb' j⟩
 rw [blk_cell bb', hc j hj', getElem!_pos _ j hj]
 simp
theorem impl_PartsOf.ok_put {W : World} {G M V B cap N m : Nat} {R C : Int} {s : ByteArray} {ms0 ms : List Bool} (h : impl_PartsOf.Ok W G M V B cap N R C s ms0) (hl : ms.length = N) :
  impl_PartsOf.Ok (Sort.putRow Value.bool (Sort.ahead W m) B 0 ms.toArray) G M V B cap N R C s ms := by
 have o : ∀ b j, b ≠ B → (Sort.putRow Value.bool (Sort.ahead W m) B 0 ms.toArray).cell? ⟨b, j, none⟩ = W.cell? ⟨b, j, none⟩ := fun b j hb => Sort.cell?_putRow_other Value.bool _ B 0 ms.toArray ⟨b, j, none⟩ (.inl hb)
 exact ⟨(o _ _ h.gb).trans h.g0, (o _ _ h.gb).trans h.g1, (o _ _ h.gb).trans h.g2, (o _ _ h.mb).trans h.m, (o _ _ h.vb).trans h.v, h.gb, h.mb, h.vb, Sort.holds_putRow Value.bool _ _ _ _ _ (Sort.holds_ahead Value.bool _ m _ _ _ h.hold) (by simp [hl, h.len]), hl⟩
set_option maxHeartbeats 4000000 in
set_option maxRecDepth 100000 in
theorem impl_PartsOf.calls (k : Nat) (a0_0 : Int) (a0_1 : Int) (a0_2 : ByteArray) (r : Int) (w : World) (h : impl_PartsOf.f k a0_0 a0_1 a0_2 = some r) :
  Calls Try.prog 101 #[.agg #[.int .i64 a0_0, .int .i64 a0_1, .string a0_2]] w fun e w' => e = .returned (.int .i64 r) ∧ Below w.heap.size w w' := by
 have hu_ := Try.underlying30
 have HB := Aside0.mk (Below.refl w.heap.size w)
 obtain ⟨t, ht, h⟩ := Option.bind_eq_some_iff.mp h
 have A2 := Aside0.mk ht
 by_cases c3 : t = true
 ·
  subst c3
  have H : impl_PartsOf.go a0_0 a0_1 a0_2 a0_2.size 0 0 (List.replicate a0_2.size false) = some r := by rw [if_pos rfl] at h; exact h
  obtain ⟨hR, hC, hN⟩ := impl_IsGrid.bounds ht
  clear h ht
  have HG := Aside0.mk H
  have HN := Aside0.mk hN
  have hN36 : a0_2.size ≤ 36 := by
   obtain ⟨hR0, hR1⟩ := hR
   obtain ⟨hC0, hC1⟩ := hC
   have hRR : a0_0 = 2 ∨ a0_0 = 3 ∨ a0_0 = 4 ∨ a0_0 = 5 ∨ a0_0 = 6 := by omega
   rcases hRR with rfl | rfl | rfl | rfl | rfl <;> omega
  have hN4 : 4 ≤ a0_2.size := by
   obtain ⟨hR0, hR1⟩ := hR
   obtain ⟨hC0, hC1⟩ := hC
   have hRR : a0_0 = 2 ∨ a0_0 = 3 ∨ a0_0 = 4 ∨ a0_0 = 5 ∨ a0_0 = 6 := by omega
   rcases hRR with rfl | rfl | rfl | rfl | rfl <;> omega
  clear hN H
  go_enter Try.func101, Try.ntmps101
  go_wp2_with (first
   | ((with_reducible refine gate_dst (N := 1) rfl ?_); refine box_event ?hg (N := 1) ?hd (cs := #[.int .i64 a0_0, .int .i64 a0_1, .string a0_2]) (t := 30) ?hr ?_; (case hd => rfl); (case hg => rfl); (case hr => first | (go_simp; done) | (go_simp; rfl)); intro G hg w1 hbox hb; have n0_ := Aside0.mk (below_step HB.out hb); have n1_ := Aside0.mk hbox; have n2_ := Aside0.mk (show w.heap.size ≤ G by rw [hg]; exact Nat.le_refl _); clear HB; have HB := n0_; have BG := n1_; have GG := n2_; have q0 : w1.cell? ⟨G, 0, none⟩ = some (.int .i64 a0_0) := (blk_cell BG.out 0).trans rfl; have q1 : w1.cell? ⟨G, 1, none⟩ = some (.int .i64 a0_1) := (blk_cell BG.out 1).trans rfl; have q2 : w1.cell? ⟨G, 2, none⟩ = some (.string a0_2) := (blk_cell BG.out 2).trans rfl; clear n0_ n1_ n2_ hb hbox hg)
   | (go_at_call 85; (with_reducible refine (impl_IsGrid.calls k a0_0 a0_1 a0_2 true _ A2.out).mono ?_); rintro e w9 ⟨rfl, hb⟩; have n0_ := Aside0.mk (blk_below BG.out hb); have n1_ := Aside0.mk (below_step HB.out hb); clear q0 q1 q2 HB BG; have HB := n1_; have BG := n0_; have q0 : w9.cell? ⟨G, 0, none⟩ = some (.int .i64 a0_0) := (blk_cell BG.out 0).trans rfl; have q1 : w9.cell? ⟨G, 1, none⟩ = some (.int .i64 a0_1) := (blk_cell BG.out 1).trans rfl; have q2 : w9.cell? ⟨G, 2, none⟩ = some (.string a0_2) := (blk_cell BG.out 2).trans rfl; clear n0_ n1_ hb)
   | ((with_reducible refine gate_dst (N := 13) rfl ?_); refine Kd.R_make Kd.bool _ 4 rfl (N := 13) rfl 111 _ _ rfl (a0_2.size : Int) rfl rfl Try.underlying111 (.bool false) 1 info4 rfl (by decide) (by omega) false (ok := fun _ => True) (okp := fun _ => True) rfl (fun _ hk => hk) trivial (by omega) (by omega) (Below.refl _ _) (Nat.le_refl _) ?_; intro v13 w13 ho hb hg_ hnew_; obtain ⟨B, cap, rfl, hBg, hBl, cells, hcells⟩ := Kd.R_form ho (by simp; omega); have HCB := Aside0.mk (impl_PartsOf.cellsB ho hcells); have n0_ := Aside0.mk (blk_below BG.out hb); have n1_ := Aside0.mk (below_step HB.out hb); have n2_ := Aside0.mk hcells; have n3_ := Aside0.mk (show G ≠ B from Nat.ne_of_lt (Nat.lt_of_lt_of_le (blk_lt BG.out) hBg)); have n4_ := Aside0.mk (show w.heap.size ≤ B from Nat.le_trans (below_size HB.out) hBg); clear BG HB q0 q1 q2 hb hg_ hnew_ ho hcells hBg hBl; have BG := n0_; have HB := n1_; have BB := n2_; have NGB := n3_; have GB := n4_; clear n0_ n1_ n2_ n3_ n4_; simp only [List.length_replicate, Int.toNat_natCast])
   | ((with_reducible refine gate_dst (N := 3) rfl ?_); refine box_event ?hg (N := 3) ?hd (cs := #[.slice none 0 0]) (t := 111) ?hr ?_; (case hd => rfl); (case hg => rfl); (case hr => first | (go_simp; done) | (go_simp; rfl)); intro M hg w14 hbox hb; have n0_ := Aside0.mk (blk_below BG.out hb); have n1_ := Aside0.mk (below_step HB.out hb); have n2_ := Aside0.mk (blk_below BB.out hb); have n3_ := Aside0.mk hbox; have n4_ := Aside0.mk (show G ≠ M by rw [hg]; exact Nat.ne_of_lt (blk_lt BG.out)); have n5_ := Aside0.mk (show M ≠ B by rw [hg]; exact Nat.ne_of_gt (blk_lt BB.out)); have n6_ := Aside0.mk (show w.heap.size ≤ M by rw [hg]; exact below_size HB.out); clear BG HB BB hbox hb hg; have BG := n0_; have HB := n1_; have BB := n2_; have BM := n3_; have NGM := n4_; have NMB := n5_; have GM := n6_; clear n0_ n1_ n2_ n3_ n4_ n5_ n6_; have q3 : w14.cell? ⟨M, 0, none⟩ = some (.slice none 0 0) := (blk_cell BM.out 0).trans rfl; have q4 := blk_frozen BM.out 0)
   | ((with_reducible refine gate_store (t := 111) (p := 3) rfl ?_); refine store_event (t := 111) (p := 3) (v := ?vo) (w1 := w14.setCell ⟨M, 0, none⟩ (.slice (some ⟨B, 0, none⟩) a0_2.size cap)) ?hg ?ho ?hn ?hr ?_; (case ho => rfl); (case hg => rfl); (case hn => rfl); (case hr => first | (go_simp; done) | (go_simp; rfl)); intro w15 hw; have n0_ := Aside0.mk (by rw [hw]; exact blk_far BG.out NGM.out _ : w15.heap[G]? = some (.cells #[.int .i64 a0_0, .int .i64 a0_1, .string a0_2] 30 (0, 0))); have n1_ := Aside0.mk (by rw [hw]; exact below_set HB.out GM.out : Below w.heap.size w w15); have n2_ := Aside0.mk (by rw [hw]; exact blk_far BB.out NMB.out.symm _ : w15.heap[B]? = some (.cells cells 4 (0, 0))); have n3_ := Aside0.mk (by rw [hw]; exact blk_put (cs := #[.slice none 0 0]) BM.out 0 _ rfl : w15.heap[M]? = some (.cells #[.slice (some ⟨B, 0, none⟩) a0_2.size cap] 111 (0, 0))); clear BG HB BB BM q3 q4 hw; have BG := n0_; have HB := n1_; have BB := n2_; have BM := n3_; clear n0_ n1_ n2_ n3_)
   | ((with_reducible refine gate_dst (N := 4) rfl ?_); refine box_event ?hg (N := 4) ?hd (cs := #[.nilFunc]) (t := 114) ?hr ?_; (case hd => rfl); (case hg => rfl); (case hr => first | (go_simp; done) | (go_simp; rfl)); intro V hg w16 hbox hb; have n0_ := Aside0.mk (blk_below BG.out hb); have n1_ := Aside0.mk (below_step HB.out hb); have n2_ := Aside0.mk (blk_below BB.out hb); have n3_ := Aside0.mk hbox; have n4_ := Aside0.mk (show G ≠ V by rw [hg]; exact Nat.ne_of_lt (blk_lt BG.out)); have n5_ := Aside0.mk (show V ≠ B by rw [hg]; exact Nat.ne_of_gt (blk_lt BB.out)); have n6_ := Aside0.mk (show w.heap.size ≤ V by rw [hg]; exact below_size HB.out); have n7_ := Aside0.mk (show M ≠ V by rw [hg]; exact Nat.ne_of_lt (blk_lt BM.out)); have n8_ := Aside0.mk (blk_below BM.out hb); clear BG HB BB BM hbox hb hg; have BG := n0_; have HB := n1_; have BB := n2_; have BV := n3_; have NGV := n4_; have NVB := n5_; have GV := n6_; have NMV := n7_; have BM := n8_; clear n0_ n1_ n2_ n3_ n4_ n5_ n6_ n7_ n8_; have q3 : w16.cell? ⟨V, 0, none⟩ = some (.nilFunc) := (blk_cell BV.out 0).trans rfl; have q4 := blk_frozen BV.out 0)
   | ((with_reducible refine gate_store (t := 114) (p := 4) rfl ?_); refine store_event (t := 114) (p := 4) (v := ?vo2) (w1 := w16.setCell ⟨V, 0, none⟩ (.func (.func 108) #[] #[.pointer (some ⟨G, 0, none⟩), .pointer (some ⟨M, 0, none⟩), .pointer (some ⟨V, 0, none⟩)])) ?hg ?ho ?hn ?hr ?_; (case ho => rfl); (case hg => rfl); (case hn => rfl); (case hr => first | (go_simp; done) | (go_simp; rfl)); intro w17 hw; have n1_ := Aside0.mk (by rw [hw]; exact below_set HB.out GV.out : Below w.heap.size w w17); have OK := Aside0.mk (show impl_PartsOf.Ok w17 G M V B cap a0_2.size a0_0 a0_1 a0_2 (List.replicate a0_2.size false) by rw [hw]; exact impl_PartsOf.ok_start BG.out BM.out BV.out BB.out NGV.out NMV.out NVB.out NGB.out NMB.out HCB.out); have q5 : w17.cell? ⟨G, 2, none⟩ = some (.string a0_2) := OK.out.g2; clear BG HB BB BM BV q3 q4 hw; have HB := n1_; clear n1_))
  go_loopg [5, 18] a0_2.size (fun kq v5 v18 wr => ∃ (i : Nat) (n : Int) (ms : List Bool), v5 = .int .i64 n ∧ v18 = .int .i64 i ∧ i ≤ a0_2.size ∧ 0 ≤ n ∧ n ≤ i ∧ Aside0 (kq + i = a0_2.size) ∧ Aside0 (impl_PartsOf.Ok wr G M V B cap a0_2.size a0_0 a0_1 a0_2 ms) ∧ Aside0 (Below w.heap.size w wr) ∧ Aside0 (impl_PartsOf.go a0_0 a0_1 a0_2 (a0_2.size - i) i n ms = some r))
  case atStart => exact ⟨0, 0, List.replicate a0_2.size false, rfl, rfl, Nat.zero_le _, Int.le_refl _, Int.le_refl _, ⟨rfl⟩, OK, HB, ⟨HG.out⟩⟩
  case round =>
   clear HB OK HG q5 HCB
   obtain ⟨i, n, ms, rfl, rfl, hi, hn0, hn1, HK, OK, HB, HA⟩ := hrel
   have q5 := OK.out.g2
   by_cases hlt : i < a0_2.size
   ·
    have hA := HA.out
    rw [show a0_2.size - i = (a0_2.size - (i + 1)) + 1 by omega] at hA
    simp only [impl_PartsOf.go] at hA
    clear HA
    have hbt := bt_at a0_2 (i : Int)
    rw [Int.toNat_natCast] at hbt
    have hbt2 := hbt hlt
    by_cases c1 : bt a0_2 i = 46
    ·
     rw [if_pos c1] at hA
     have c1b : (bt a0_2 i == 46) = true := beq_iff_eq.mpr c1
     clear c1
     have q6 := OK.out.m
     obtain ⟨q7, q8⟩ := OK.out.hold i (by have := OK.out.len; simp; omega)
     rw [Nat.zero_add] at q7 q8
     have hgq : ms.toArray[i]! = ms.getD i false := by
      have : i < ms.length := by have := OK.out.len; omega
      rw [getElem!_pos _ i (by simpa using this)]
      simp [List.getD_eq_getElem?_getD, List.getElem?_eq_getElem this]
     rw [hgq] at q7
     clear hgq q8
     by_cases c2 : ms.getD i false = true
     ·
      rw [if_pos c2] at hA
      rw [c2] at q7
      have HA := Aside0.mk hA
      clear hA c2
      go_wp2
      go_roundg (a0_2.size - (i + 1))
      case measure => have := HK.out; omega
      case rel => exact ⟨i + 1, n, ms, rfl, by simp, by omega, hn0, by omega, ⟨by omega⟩, OK, HB, HA⟩
     ·
      rw [if_neg c2] at hA
      have c2' : ms.getD i false = false := by simpa using c2
      rw [c2'] at q7
      clear c2 c2'
      obtain ⟨ms2, hd, hA⟩ := Option.bind_eq_some_iff.mp hA
      have HD := Aside0.mk hd
      have HA := Aside0.mk hA
      clear hd hA
      have q9 := OK.out.v
      have q10 := OK.out.g1
      have hC1 : ¬ a0_1 = 0 := by omega
      have hC2 : (a0_1 == 0) = false := beq_eq_false_iff_ne.mpr hC1
      go_wp2_with fail
      have hd0 : 0 ≤ (i : Int) / a0_1 ∧ (i : Int) / a0_1 ≤ 10 := by
       have hCC : a0_1 = 2 ∨ a0_1 = 3 ∨ a0_1 = 4 ∨ a0_1 = 5 ∨ a0_1 = 6 := by omega
       have hRR : a0_0 = 2 ∨ a0_0 = 3 ∨ a0_0 = 4 ∨ a0_0 = 5 ∨ a0_0 = 6 := by omega
       have hsz := HN.out
       rcases hCC with rfl | rfl | rfl | rfl | rfl <;> rcases hRR with rfl | rfl | rfl | rfl | rfl <;> omega
      have hd1 : 0 ≤ (i : Int) % a0_1 ∧ (i : Int) % a0_1 ≤ 10 := ⟨Int.emod_nonneg _ hC1, by have := Int.emod_lt_of_pos (i : Int) (show 0 < a0_1 by omega); omega⟩
      have hx1 : Int.tdiv (i : Int) a0_1 = (i : Int) / a0_1 := Int.tdiv_eq_ediv_of_nonneg (by omega)
      have hx2 : Int.tmod (i : Int) a0_1 = (i : Int) % a0_1 := Int.tmod_eq_emod_of_nonneg (by omega)
      have hx3 : IntKind.i64.wrap ((i : Int) / a0_1) = (i : Int) / a0_1 := IntWalk.i64_in _ (by omega)
      have hx4 : IntKind.i64.wrap ((i : Int) % a0_1) = (i : Int) % a0_1 := IntWalk.i64_in _ (by omega)
      go_still_tail 9, (by kernel_rfl)
      change wpList _ _ _ _ _ wr.drew
      have HE := Aside0.mk (show wr.drew = Sort.putRow Value.bool (Sort.ahead wr 1) B 0 ms.toArray by
       rw [Sort.putRow_self Value.bool (Sort.ahead wr 1) B 0 ms.toArray (Sort.holds_ahead Value.bool _ 1 _ _ _ OK.out.hold)]
       rfl)
      clear q5 q6 q7 q9 q10 hx1 hx2 hx3 hx4
      go_wp2_with fail
      refine (impl_PartsOf.visit ⟨hR.1, hR.2⟩ ⟨hC.1, hC.2⟩ HN.out rfl OK.out.g0 OK.out.g1 OK.out.g2 OK.out.m OK.out.v OK.out.gb OK.out.mb OK.out.vb OK.out.hold OK.out.len 100 ((i : Int) / a0_1) ((i : Int) % a0_1) ms ms2 _ 1 HD.out OK.out.len HE.out (by omega) (by omega) (by omega) (by omega)).mono ?_
      rintro e w2 ⟨rfl, hr⟩
      obtain ⟨hl2, n2, hw2⟩ := hr.out
      have OK2 := Aside0.mk (show impl_PartsOf.Ok w2 G M V B cap a0_2.size a0_0 a0_1 a0_2 ms2 by rw [hw2]; exact impl_PartsOf.ok_put OK.out hl2)
      have HB2 := Aside0.mk (show Below w.heap.size w w2 by rw [hw2]; exact Lib.below_putRow (enc := Value.bool) HB.out GB.out)
      clear hr hl2 hw2 HE OK HB
      go_wp2
      go_roundg (a0_2.size - (i + 1))
      case measure => have := HK.out; omega
      case rel => exact ⟨i + 1, n + 1, ms2, rfl, by simp, by omega, by omega, by omega, ⟨by omega⟩, OK2, HB2, HA⟩
    ·
     rw [if_neg c1] at hA
     have c1b : (bt a0_2 i == 46) = false := beq_eq_false_iff_ne.mpr c1
     have HA := Aside0.mk hA
     clear hA c1
     go_wp2
     go_roundg (a0_2.size - (i + 1))
     case measure => have := HK.out; omega
     case rel => exact ⟨i + 1, n, ms, rfl, by simp, by omega, hn0, by omega, ⟨by omega⟩, OK, HB, HA⟩
   ·
    obtain rfl : i = a0_2.size := by omega
    have hA := HA.out
    rw [Nat.sub_self] at hA
    simp only [impl_PartsOf.go, Option.some.injEq] at hA
    subst hA
    go_wp2
    go_ret
    exact ⟨rfl, HB.out⟩
 ·
  have c3' : t = false := by simpa using c3
  subst c3'
  have H : some 0 = some r := by rw [if_neg (by decide)] at h; exact h
  obtain rfl := Option.some.inj H
  clear h ht H
  go_enter Try.func101, Try.ntmps101
  go_wp2_with (first
   | ((with_reducible refine gate_dst (N := 1) rfl ?_); refine box_event ?hg (N := 1) ?hd (cs := #[.int .i64 a0_0, .int .i64 a0_1, .string a0_2]) (t := 30) ?hr ?_; (case hd => rfl); (case hg => rfl); (case hr => first | (go_simp; done) | (go_simp; rfl)); intro G hg w1 hbox hb; have n0_ := Aside0.mk (below_step HB.out hb); have n1_ := Aside0.mk hbox; have n2_ := Aside0.mk (show w.heap.size ≤ G by rw [hg]; exact Nat.le_refl _); clear HB; have HB := n0_; have BG := n1_; have GG := n2_; have q0 : w1.cell? ⟨G, 0, none⟩ = some (.int .i64 a0_0) := (blk_cell BG.out 0).trans rfl; have q1 : w1.cell? ⟨G, 1, none⟩ = some (.int .i64 a0_1) := (blk_cell BG.out 1).trans rfl; have q2 : w1.cell? ⟨G, 2, none⟩ = some (.string a0_2) := (blk_cell BG.out 2).trans rfl; clear n0_ n1_ n2_ hb hbox hg)
   | (go_at_call 85; (with_reducible refine (impl_IsGrid.calls k a0_0 a0_1 a0_2 false _ A2.out).mono ?_); rintro e w9 ⟨rfl, hb⟩; have n1_ := Aside0.mk (below_step HB.out hb); clear q0 q1 q2 HB BG; have HB := n1_; clear n1_ hb))
  go_ret
  exact ⟨rfl, HB.out⟩

/-! ### impl_IsConnected: function 87 -/
def impl_IsConnected.f (k : Nat) (a0_0 : Int) (a0_1 : Int) (a0_2 : ByteArray) : Option (Bool) := (impl_PartsOf.f k a0_0 a0_1 a0_2).bind fun t395 => (some (t395 == 1))
set_option maxHeartbeats 8000000 in
set_option maxRecDepth 100000 in
theorem impl_IsConnected.calls (k : Nat) (a0_0 : Int) (a0_1 : Int) (a0_2 : ByteArray) (r : Bool) (w : World) (H : impl_IsConnected.f k a0_0 a0_1 a0_2 = some r) :
  Calls Try.prog 87 #[.agg #[.int .i64 a0_0, .int .i64 a0_1, .string a0_2]] w fun e w' => e = .returned (.bool r) ∧ Below w.heap.size w w' := by
 have hu30 := Try.underlying30
 have HB := Aside0.mk (Below.refl w.heap.size w)
 unfold impl_IsConnected.f at H
 replace H := zs H
 obtain ⟨t395, A2, H⟩ := H
 obtain rfl := Option.some.inj H
 go_enter Try.func87, Try.ntmps87
 go_wp2_with (first | ((with_reducible refine zd 1 rfl ?_); refine zbx (w := w) #[.int .i64 a0_0, .int .i64 a0_1, .string a0_2] 30 ?_; intro gb394 hg w3 BK394 hb; have GW394 := zg (w := w) hg; replace HB := zB hb; clear hb hg; have ⟨_, _, _, _, _, _⟩ := cz3 BK394) | ((with_reducible refine zd 4 rfl ?_); refine zgl Try.func101 (impl_PartsOf.calls k a0_0 a0_1 a0_2 t395 _ A2.out) ?_; rintro e w5 ⟨rfl, hb⟩; refine ⟨_, rfl, ?_⟩; replace BK394 := zk BK394 hb; replace HB := zB hb))
 go_ret
 exact ⟨er, bel⟩

end Go.Proofs.Ytpcdfjcbjbkliaa.E
