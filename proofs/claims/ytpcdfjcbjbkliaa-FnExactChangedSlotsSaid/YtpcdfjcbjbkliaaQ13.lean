import Derived.Test.YtpcdfjcbjbkliaaSq
import Derived.Test.YtpcdfjcbjbkliaaQ0
import Derived.Test.YtpcdfjcbjbkliaaQ3
import Derived.Test.YtpcdfjcbjbkliaaQ4
import Derived.Test.YtpcdfjcbjbkliaaQ6
import Derived.Test.YtpcdfjcbjbkliaaQ9
import Derived.Test.YtpcdfjcbjbkliaaQ11
namespace Go.Proofs.Ytpcdfjcbjbkliaa.E
open Go.RowKit Go.Proofs.YtpcdfjcbjbkliaaW.PrintWords Go.Proofs.YtpcdfjcbjbkliaaW.PrintLast Go.Proofs.YtpcdfjcbjbkliaaW.PrintMore
attribute [local go_sem] max2_int min2_int max_two min_two max_three min_three max_four min_four
set_option linter.unusedVariables false
set_option linter.unusedSimpArgs false

attribute [local go_sem high] eqA87
/-! ### spec_SlotPattern: function 27 -/
mutual
def spec_SlotPattern.j0 : Nat → ByteArray → Int → List (S79) → Bool → Int → Int → ByteArray → Option (ByteArray)
 | 0, _, _, _, _, _, _, _ => none
 | k + 1, x1, x2, x7, x24, x296000, x296001, x296002 => if x24 = true then (some (⟨#[]⟩ : ByteArray)) else (if 0 ≤ x2 then (if x2 < (x7.length : Int) then ((spec_CellsOf.f k x296000 x296001 x296002 ((rd_T79 x7 x2).f0) ((rd_T79 x7 x2).f1) ((rd_T79 x7 x2).f2) ((rd_T79 x7 x2).f3)).bind fun t302 => (spec_SlotPattern.l0 k x1 (⟨#[]⟩ : ByteArray) t302 0)) else (none)) else (none))
def spec_SlotPattern.l0 : Nat → ByteArray → ByteArray → List Int → Int → Option (ByteArray)
 | 0, _, _, _, _ => none
 | k + 1, x1, x8, x9, x10 => if x10 < (x9.length : Int) then (if 0 ≤ x10 then (if 0 ≤ (rd x9 x10) then (if (rd x9 x10) ≤ (wrap64 ((rd x9 x10) + 1)) then (if (wrap64 ((rd x9 x10) + 1)) ≤ (x1.size : Int) then (if x8.size + (x1.extract ((rd x9 x10) : Int).toNat ((wrap64 ((rd x9 x10) + 1)) : Int).toNat).size ≤ 9223372036854775807 then (spec_SlotPattern.l0 k x1 (x8 ++ (x1.extract ((rd x9 x10) : Int).toNat ((wrap64 ((rd x9 x10) + 1)) : Int).toNat)) x9 (wrap64 (x10 + 1))) else (none)) else (none)) else (none)) else (none)) else (none)) else (some x8)
end
def spec_SlotPattern.f (k : Nat) (a0_0 : Int) (a0_1 : Int) (a0_2 : ByteArray) (a1 : ByteArray) (a2 : Int) : Option (ByteArray) := (spec_SlotsOf.f k a0_0 a0_1 a0_2).bind fun t296 => ((spec_IsFill.f k a0_0 a0_1 a0_2 a1).bind fun t299 => (if t299 = true then ((spec_l1In.f a2 0 (wrap64 ((t296.length : Int) - 1))).bind fun t300 => (spec_SlotPattern.j0 k a1 a2 t296 (!t300) a0_0 a0_1 a0_2)) else (spec_SlotPattern.j0 k a1 a2 t296 true a0_0 a0_1 a0_2)))
def spec_SlotPattern.T9 : Bool × List (List Nat × List Nat) := (true, [([], []), ([], []), ([], []), ([], []), ([2, 3], [2, 3]), ([4], [4]), ([], []), ([], []), ([6, 7], [6, 7]), ([8], [8]), ([9], [9]), ([1, 5, 10], [1, 5, 10]), ([0, 11], [0, 11]), ([12, 0, 1, 2, 3, 4, 5, 6, 7, 8, 9, 10, 11, 12], [0, 12])])
theorem spec_SlotPattern.tab9 : rtab .any (opsOf Try.f27 9) = spec_SlotPattern.T9 := by kernel_rfl
set_option maxHeartbeats 8000000 in
set_option maxRecDepth 100000 in
theorem spec_SlotPattern.calls (k : Nat) (a0_0 : Int) (a0_1 : Int) (a0_2 : ByteArray) (a1 : ByteArray) (a2 : Int) (r : ByteArray) (w : World) (H : spec_SlotPattern.f k a0_0 a0_1 a0_2 a1 a2 = some r) :
  Calls Try.prog 27 #[.agg #[.int .i64 a0_0, .int .i64 a0_1, .string a0_2], .string a1, .int .i64 a2] w fun e w' => e = .returned (.string r) ∧ Below w.heap.size w w' := by
 have hu30 := Try.underlying30
 have hu79 := Try.underlying79
 have HB := Aside0.mk (Below.refl w.heap.size w)
 unfold spec_SlotPattern.f at H
 replace H := zs H
 obtain ⟨t296, A4, H⟩ := H
 have HC5 := Aside0.mk H
 clear H
 go_enter Try.func27, Try.ntmps27
 go_upto_region 2 with (first | ((with_reducible refine zd 3 rfl ?_); (try (refine gate_guard (by rfl) ?_; dsimp only)); refine zbx (w := w) #[.int .i64 a0_0, .int .i64 a0_1, .string a0_2] 30 ?_; intro gb295 hg w6 BK295 hb; have GW295 := zg (w := w) hg; replace HB := zB hb; clear hb hg; have ⟨_, _, _, _, _, _⟩ := cz3 BK295) | ((with_reducible refine zd 12 rfl ?_); refine zgl Try.func50 (spec_SlotsOf.calls k a0_0 a0_1 a0_2 t296 _ A4.out) ?_; rintro e w8 ⟨v297, rfl, ho0, hb⟩; refine ⟨_, rfl, ?_⟩; have HO298 := zl2 ho0; replace BK295 := zk BK295 hb; replace HB := zB hb))
 (try simp only [Act.put, List.setIfInBounds_toArray, List.set_cons_zero, List.set_cons_succ])
 go_cut [24] (fun v24 wc => ∃ (kq : Nat) (x24_4 : Bool), v24 = .bool x24_4 ∧ Aside0 (spec_SlotPattern.j0 kq a1 a2 t296 x24_4 a0_0 a0_1 a0_2 = some r) ∧ Aside0 (kq ≤ k) ∧ Aside0 (Kd.R k79 79 wc w.heap.size (fun _ => True) v297 t296) ∧ Aside0 (wc.heap[gb295]? = some (.cells #[.int .i64 a0_0, .int .i64 a0_1, .string a0_2] 30 (0, 0))) ∧ Aside0 (Below w.heap.size w wc))
 case first =>
  have H := HC5.out
  clear HC5
  replace H := zs H
  obtain ⟨t299, A9, H⟩ := H
  replace H := zb H
  rcases H with ⟨rfl, H⟩ | ⟨rfl, H⟩
  ·
   replace H := zs H
   obtain ⟨t300, A11, H⟩ := H
   have H' := Aside0.mk H
   clear H
   have ⟨_, _, _, _, _, _⟩ := cz3 BK295
   go_wp2_with (first | ((with_reducible refine zd 15 rfl ?_); refine zgl Try.func58 (spec_IsFill.calls k a0_0 a0_1 a0_2 a1 true _ A9.out) ?_; rintro e w13 ⟨rfl, hb⟩; refine ⟨_, rfl, ?_⟩; replace HO298 := zR HO298 hb; replace BK295 := zk BK295 hb; replace HB := zB hb; obtain ⟨Ao14, co14, eo14⟩ := Kd.R_slice HO298.out; subst eo14) | (go_at_call 39; (with_reducible refine (spec_l1In.calls a2 0 (wrap64 ((t296.length : Int) - 1)) t300 _ A11.out).mono ?_); rintro e w' ⟨rfl, ⟨nd, rfl⟩⟩))
   go_meet
   case rel => exact ⟨_, (!t300), rf, H', ⟨by first | omega | exact Nat.le_refl _⟩, ⟨kr HO298⟩, ⟨bk BK295⟩, ⟨bel⟩⟩
  ·
   have H' := Aside0.mk H
   clear H
   have ⟨_, _, _, _, _, _⟩ := cz3 BK295
   go_wp2_with (first | ((with_reducible refine zd 15 rfl ?_); refine zgl Try.func58 (spec_IsFill.calls k a0_0 a0_1 a0_2 a1 false _ A9.out) ?_; rintro e w16 ⟨rfl, hb⟩; refine ⟨_, rfl, ?_⟩; replace HO298 := zR HO298 hb; replace BK295 := zk BK295 hb; replace HB := zB hb))
   go_meet
   case rel => exact ⟨_, (true), rf, H', ⟨by first | omega | exact Nat.le_refl _⟩, ⟨kr HO298⟩, ⟨bk BK295⟩, ⟨bel⟩⟩
 case rest =>
  clear HC5
  obtain ⟨kq, x24_4, rfl, HA, HJ4, HO_7, BK295, HB⟩ := hcut
  cases kq with
  | zero => exact absurd HA.out (by simp [spec_SlotPattern.j0])
  | succ kj4 =>
   have H := HA.out
   clear HA
   simp only [spec_SlotPattern.j0] at H
   replace H := zb H
   rcases H with ⟨rfl, H⟩ | ⟨rfl, H⟩
   ·
    obtain rfl := Option.some.inj H
    go_wp2
    go_ret
    exact ⟨er, bel⟩
   ·
    replace H := zr H
    obtain ⟨c18b0, H⟩ := H
    replace H := zr H
    obtain ⟨c19b0, H⟩ := H
    replace H := zs H
    obtain ⟨t302, A20, H⟩ := H
    have H' := Aside0.mk H
    clear H
    try go_wp2
    replace HO_7 := zRd HO_7
    replace BK295 := zkd BK295
    replace HB := zBd HB
    obtain ⟨Ao22, co22, eo22⟩ := Kd.R_slice HO_7.out
    (first | subst eo22 | (injection eo22 with f1_ f2_ f3_; have f4_ := f1_.symm; have f5_ := f3_.symm; clear f1_ f2_ f3_; subst f4_; subst f5_))
    obtain ⟨p301, q301, ad301, e301, hx301_0, hx301_1, hx301_2, hx301_3⟩ := zx (at_T79 (Kd.R_reads' HO_7.out).2.2 a2)
    cases e301
    refine zst 7 rfl (zb3 BK295 <| zhc hx301_0 <| zhc hx301_1 <| zhc hx301_2 <| zhc hx301_3 <| zn0) fun hHeld HT_ => ?_
    generalize wc.drew = w21 at HO_7 BK295 HB hx301_0 hx301_1 hx301_2 hx301_3 hHeld ⊢
    repeat (first | refine zs1 ?_ | (refine zcl Try.func52 (spec_CellsOf.calls kj4 a0_0 a0_1 a0_2 ((rd_T79 t296 a2).f0) ((rd_T79 t296 a2).f1) ((rd_T79 t296 a2).f2) ((rd_T79 t296 a2).f3) t302 _ A20.out) ?_; rintro e w23 ⟨v303, rfl, ho0, hb⟩; replace HO_7 := zR HO_7 hb; have HO304 := zl2 ho0; replace BK295 := zk BK295 hb; replace HB := zB hb; refine ⟨_, rfl, zHb hb hHeld, _, znb, fun hHeld => ?_⟩))
    refine zdn ?_
    try go_wp2
    go_loopg [8, 10] kj4 (fun kq v8 v10 w' => ∃ (x8_2 : ByteArray) (x10_2 : Int), v8 = .string x8_2 ∧ v10 = .int .i64 x10_2 ∧ Aside0 (spec_SlotPattern.l0 kq a1 x8_2 t302 x10_2 = some r) ∧ Aside0 (kq ≤ kj4) ∧ Aside0 (Kd.R (Kd.int .i64) 3 w' w.heap.size (fun _ => True) v303 t302) ∧ Aside0 (w'.heap[gb295]? = some (.cells #[.int .i64 a0_0, .int .i64 a0_1, .string a0_2] 30 (0, 0))) ∧ Aside0 (Below w.heap.size w w'))
    case atStart => exact ⟨((⟨#[]⟩ : ByteArray)), (0), rf, rf, H', ⟨Nat.le_refl _⟩, ⟨kr HO304⟩, ⟨bk BK295⟩, ⟨bel⟩⟩
    case round =>
     clear H'
     obtain ⟨x8_2, x10_2, rfl, rfl, HA, HK2, HO_9, BK295, HB⟩ := hrel
     cases gk with
     | zero => exact absurd HA.out (by simp [spec_SlotPattern.l0])
     | succ k2 =>
      have H := HA.out
      clear HA
      simp only [spec_SlotPattern.l0] at H
      replace H := zc H
      rcases H with ⟨c24b0, H⟩ | ⟨c24b0, H⟩
      ·
       replace H := zr H
       obtain ⟨c25b0, H⟩ := H
       by_cases c26 : 0 ≤ (rd t302 x10_2)
       ·
        rw [if_pos c26] at H
        have c26b0 := eq_true c26
        have c26b1 : decide (0 ≤ (rd t302 x10_2)) = true := decide_eq_true c26
        clear c26
        by_cases c27 : (rd t302 x10_2) ≤ (wrap64 ((rd t302 x10_2) + 1))
        ·
         rw [if_pos c27] at H
         have c27b0 := eq_true c27
         have c27b1 : decide ((rd t302 x10_2) ≤ (wrap64 ((rd t302 x10_2) + 1))) = true := decide_eq_true c27
         by_cases c28 : (wrap64 ((rd t302 x10_2) + 1)) ≤ (a1.size : Int)
         ·
          rw [if_pos c28] at H
          have c28b0 := eq_true c28
          have c28b1 : decide ((wrap64 ((rd t302 x10_2) + 1)) ≤ (a1.size : Int)) = true := decide_eq_true c28
          by_cases c29 : x8_2.size + (a1.extract ((rd t302 x10_2) : Int).toNat ((wrap64 ((rd t302 x10_2) + 1)) : Int).toNat).size ≤ 9223372036854775807
          ·
           rw [if_pos c29] at H
           have c29b0 := eq_true c29
           have c29b1 : decide (x8_2.size + (a1.extract ((rd t302 x10_2) : Int).toNat ((wrap64 ((rd t302 x10_2) + 1)) : Int).toNat).size ≤ 9223372036854775807) = true := decide_eq_true c29
           try have c29b2 : (9223372036854775807 < x8_2.size + (a1.extract ((rd t302 x10_2) : Int).toNat ((wrap64 ((rd t302 x10_2) + 1)) : Int).toNat).size) = False := eq_false (Nat.not_lt.2 c29)
           have H' := Aside0.mk H
           clear H
           obtain ⟨Ao30, co30, eo30⟩ := Kd.R_slice HO_9.out
           subst eo30
           try go_wp2
           obtain ⟨p305, q305, ad305, e305, hx305_0⟩ := zx (Kd.at_int (Kd.R_reads' HO_9.out).2.2 x10_2)
           cases e305
           obtain ⟨p306, q306, ad306, e306, hx306_0⟩ := zx (Kd.at_int (Kd.R_reads' HO_9.out).2.2 x10_2)
           obtain rfl : ad305 = ad306 := (by injection e306)
           go_quiet (fail)
           try go_wp2
           go_roundg k2
           case measure => have := HJ4.out; have := HK2.out; omega
           case rel => exact ⟨(x8_2 ++ (a1.extract ((rd t302 x10_2) : Int).toNat ((wrap64 ((rd t302 x10_2) + 1)) : Int).toNat)), (wrap64 (x10_2 + 1)), rf, rf, H', ⟨by have := HJ4.out; have := HK2.out; omega⟩, ⟨kr HO_9⟩, ⟨bk BK295⟩, ⟨bel⟩⟩
          ·
           rw [if_neg c29] at H
           exact absurd H (by simp)
         ·
          rw [if_neg c28] at H
          exact absurd H (by simp)
        ·
         rw [if_neg c27] at H
         exact absurd H (by simp)
       ·
        rw [if_neg c26] at H
        exact absurd H (by simp)
      ·
       obtain rfl := Option.some.inj H
       obtain ⟨Ao32, co32, eo32⟩ := Kd.R_slice HO_9.out
       subst eo32
       go_wp2
       go_ret
       exact ⟨er, bel⟩

/-! ### spec_l21SameClue: function 28 -/
mutual
def spec_l21SameClue.j0 : Nat → Bool → Int → List (S87) → Int → List (S87) → Option (Bool)
 | 0, _, _, _, _, _ => none
 | k + 1, x19, x308000, x308001, x309000, x309001 => if x19 = true then (some false) else (spec_l21SameClue.l0 k 0 x308000 x308001 x309000 x309001)
def spec_l21SameClue.l0 : Nat → Int → Int → List (S87) → Int → List (S87) → Option (Bool)
 | 0, _, _, _, _, _ => none
 | k + 1, x5, x308000, x308001, x309000, x309001 => if x5 < (x308001.length : Int) then (if 0 ≤ x5 then (if x5 < (x309001.length : Int) then (if (!(((rd_T87 x308001 x5).f0) == ((rd_T87 x309001 x5).f0)) || (!((((rd_T87 x308001 x5).f1).toList) == (((rd_T87 x309001 x5).f1).toList)) || (!(((rd_T87 x308001 x5).f2) == ((rd_T87 x309001 x5).f2)) || (!(((rd_T87 x308001 x5).f3) == ((rd_T87 x309001 x5).f3)))))) = true then (some false) else (spec_l21SameClue.l0 k (wrap64 (x5 + 1)) x308000 x308001 x309000 x309001)) else (none)) else (none)) else (some true)
end
def spec_l21SameClue.f (k : Nat) (a0_0 : Int) (l0_1 : List (S87)) (a1_0 : Int) (l1_1 : List (S87)) : Option (Bool) := if a0_0 = a1_0 then (spec_l21SameClue.j0 k ((l0_1.length : Int) != (l1_1.length : Int)) a0_0 l0_1 a1_0 l1_1) else (spec_l21SameClue.j0 k true a0_0 l0_1 a1_0 l1_1)
set_option maxHeartbeats 8000000 in
set_option maxRecDepth 100000 in
theorem spec_l21SameClue.calls (k : Nat) (a0_0 : Int) (A0_1 : Option Addr) (c0_1 : Nat) (l0_1 : List (S87)) (a1_0 : Int) (A1_1 : Option Addr) (c1_1 : Nat) (l1_1 : List (S87)) (r : Bool) (w : World) (hr0_1 : Kd.C k87 w A0_1 l0_1.length l0_1) (hc0_1 : l0_1.length ≤ c0_1) (hr1_1 : Kd.C k87 w A1_1 l1_1.length l1_1) (hc1_1 : l1_1.length ≤ c1_1) (H : spec_l21SameClue.f k a0_0 l0_1 a1_0 l1_1 = some r) :
  Calls Try.prog 28 #[.agg #[.int .i64 a0_0, .slice A0_1 l0_1.length c0_1], .agg #[.int .i64 a1_0, .slice A1_1 l1_1.length c1_1]] w fun e w' => e = .returned (.bool r) ∧ Below w.heap.size w w' := by
 have hu48 := Try.underlying48
 have hu87 := Try.underlying87
 have HR0_1 := Aside0.mk hr0_1
 have HC0_1 := Aside0.mk hc0_1
 clear hr0_1 hc0_1
 have HR1_1 := Aside0.mk hr1_1
 have HC1_1 := Aside0.mk hc1_1
 clear hr1_1 hc1_1
 have HB := Aside0.mk (Below.refl w.heap.size w)
 unfold spec_l21SameClue.f at H
 have HC3 := Aside0.mk H
 clear H
 go_enter Try.func28, Try.ntmps28
 go_upto_region 1 with (first | ((with_reducible refine zd 2 rfl ?_); (try (refine gate_guard (by rfl) ?_; dsimp only)); refine zbx (w := w) #[.int .i64 a0_0, .slice A0_1 l0_1.length c0_1] 48 ?_; intro gb307 hg w4 BK307 hb; have GW307 := zg (w := w) hg; replace HB := zB hb; clear hb hg) | ((with_reducible refine zd 3 rfl ?_); (try (refine gate_guard (by rfl) ?_; dsimp only)); refine zbx (w := w) #[.int .i64 a1_0, .slice A1_1 l1_1.length c1_1] 48 ?_; intro gb308 hg w5 BK308 hb; have GW308 := zg (w := w) hg; replace HB := zB hb; have NB307_308 := zn hg BK307; have NB308_307 := zm hg BK307; replace BK307 := zk BK307 hb; clear hb hg))
 repeat (go_quiet (first | ((with_reducible refine zd 2 rfl ?_); (try (refine gate_guard (by rfl) ?_; dsimp only)); refine zbx (w := w) #[.int .i64 a0_0, .slice A0_1 l0_1.length c0_1] 48 ?_; intro gb307 hg w4 BK307 hb; have GW307 := zg (w := w) hg; replace HB := zB hb; clear hb hg) | ((with_reducible refine zd 3 rfl ?_); (try (refine gate_guard (by rfl) ?_; dsimp only)); refine zbx (w := w) #[.int .i64 a1_0, .slice A1_1 l1_1.length c1_1] 48 ?_; intro gb308 hg w5 BK308 hb; have GW308 := zg (w := w) hg; replace HB := zB hb; have NB307_308 := zn hg BK307; have NB308_307 := zm hg BK307; replace BK307 := zk BK307 hb; clear hb hg)); go_upto_region 1 with (first | ((with_reducible refine zd 2 rfl ?_); (try (refine gate_guard (by rfl) ?_; dsimp only)); refine zbx (w := w) #[.int .i64 a0_0, .slice A0_1 l0_1.length c0_1] 48 ?_; intro gb307 hg w4 BK307 hb; have GW307 := zg (w := w) hg; replace HB := zB hb; clear hb hg) | ((with_reducible refine zd 3 rfl ?_); (try (refine gate_guard (by rfl) ?_; dsimp only)); refine zbx (w := w) #[.int .i64 a1_0, .slice A1_1 l1_1.length c1_1] 48 ?_; intro gb308 hg w5 BK308 hb; have GW308 := zg (w := w) hg; replace HB := zB hb; have NB307_308 := zn hg BK307; have NB308_307 := zm hg BK307; replace BK307 := zk BK307 hb; clear hb hg)))
 (try simp only [Act.put, List.setIfInBounds_toArray, List.set_cons_zero, List.set_cons_succ])
 go_cut [19] (fun v19 wc => ∃ (kq : Nat) (x19_2 : Bool), v19 = .bool x19_2 ∧ Aside0 (spec_l21SameClue.j0 kq x19_2 a0_0 l0_1 a1_0 l1_1 = some r) ∧ Aside0 (kq ≤ k) ∧ Aside0 (wc.heap[gb307]? = some (.cells #[.int .i64 a0_0, (.slice A0_1 l0_1.length c0_1)] 48 (0, 0))) ∧ Aside0 (wc.heap[gb308]? = some (.cells #[.int .i64 a1_0, (.slice A1_1 l1_1.length c1_1)] 48 (0, 0))) ∧ Aside0 (Below w.heap.size w wc))
 case first =>
  have H := HC3.out
  clear HC3
  by_cases c6 : a0_0 = a1_0
  ·
   rw [if_pos c6] at H
   have c6b0 : (a0_0 == a1_0) = true := beq_iff_eq.mpr c6
   have c6b1 : (a0_0 != a1_0) = false := bne_eq_false_iff_eq.mpr c6
   clear c6
   (first | rw [c6b0] | (simp only [i64_w, i32_w]; rw [c6b0]) | skip)
   have H' := Aside0.mk H
   clear H
   have hnb7 := NB307_308.out
   have hnc7 := NB308_307.out
   have ⟨_, _, _, _⟩ := cz2 BK307
   have ⟨_, _, _, _⟩ := cz2 BK308
   go_wp2
   repeat (go_quiet (fail); try go_wp2)
   go_meet
   case rel => exact ⟨_, (((l0_1.length : Int) != (l1_1.length : Int))), rf, H', ⟨by first | omega | exact Nat.le_refl _⟩, ⟨bk BK307⟩, ⟨bk BK308⟩, ⟨bel⟩⟩
  ·
   rw [if_neg c6] at H
   have c6b0 : (a0_0 == a1_0) = false := beq_eq_false_iff_ne.mpr c6
   have c6b1 : (a0_0 != a1_0) = true := bne_iff_ne.mpr c6
   (first | rw [c6b0] | (simp only [i64_w, i32_w]; rw [c6b0]) | skip)
   have H' := Aside0.mk H
   clear H
   have hnb10 := NB307_308.out
   have hnc10 := NB308_307.out
   have ⟨_, _, _, _⟩ := cz2 BK307
   have ⟨_, _, _, _⟩ := cz2 BK308
   go_wp2
   repeat (go_quiet (fail); try go_wp2)
   go_meet
   case rel => exact ⟨_, (true), rf, H', ⟨by first | omega | exact Nat.le_refl _⟩, ⟨bk BK307⟩, ⟨bk BK308⟩, ⟨bel⟩⟩
 case rest =>
  clear HC3
  obtain ⟨kq, x19_2, rfl, HA, HJ2, BK307, BK308, HB⟩ := hcut
  cases kq with
  | zero => exact absurd HA.out (by simp [spec_l21SameClue.j0])
  | succ kj2 =>
   have H := HA.out
   clear HA
   simp only [spec_l21SameClue.j0] at H
   replace H := zb H
   rcases H with ⟨rfl, H⟩ | ⟨rfl, H⟩
   ·
    obtain rfl := Option.some.inj H
    go_wp2
    repeat (go_quiet (fail); try go_wp2)
    go_ret
    exact ⟨er, bel⟩
   ·
    have H' := Aside0.mk H
    clear H
    go_wp2
    repeat (go_quiet (fail); try go_wp2)
    go_loopg [5] kj2 (fun kq v5 w' => ∃ (x5_2 : Int), v5 = .int .i64 x5_2 ∧ Aside0 (spec_l21SameClue.l0 kq x5_2 a0_0 l0_1 a1_0 l1_1 = some r) ∧ Aside0 (kq ≤ kj2) ∧ Aside0 (w'.heap[gb307]? = some (.cells #[.int .i64 a0_0, (.slice A0_1 l0_1.length c0_1)] 48 (0, 0))) ∧ Aside0 (w'.heap[gb308]? = some (.cells #[.int .i64 a1_0, (.slice A1_1 l1_1.length c1_1)] 48 (0, 0))) ∧ Aside0 (Below w.heap.size w w'))
    case atStart => exact ⟨(0), rf, H', ⟨Nat.le_refl _⟩, ⟨bk BK307⟩, ⟨bk BK308⟩, ⟨bel⟩⟩
    case round =>
     clear H'
     obtain ⟨x5_2, rfl, HA, HK2, BK307, BK308, HB⟩ := hrel
     cases gk with
     | zero => exact absurd HA.out (by simp [spec_l21SameClue.l0])
     | succ k2 =>
      have H := HA.out
      clear HA
      simp only [spec_l21SameClue.l0] at H
      replace H := zc H
      rcases H with ⟨c14b0, H⟩ | ⟨c14b0, H⟩
      ·
       replace H := zr H
       obtain ⟨c15b0, H⟩ := H
       replace H := zr H
       obtain ⟨c16b0, H⟩ := H
       by_cases c17 : (!(((rd_T87 l0_1 x5_2).f0) == ((rd_T87 l1_1 x5_2).f0)) || (!((((rd_T87 l0_1 x5_2).f1).toList) == (((rd_T87 l1_1 x5_2).f1).toList)) || (!(((rd_T87 l0_1 x5_2).f2) == ((rd_T87 l1_1 x5_2).f2)) || (!(((rd_T87 l0_1 x5_2).f3) == ((rd_T87 l1_1 x5_2).f3)))))) = true
       ·
        rw [if_pos c17] at H
        have c17b0 : (!(((rd_T87 l0_1 x5_2).f0) == ((rd_T87 l1_1 x5_2).f0)) || (!((((rd_T87 l0_1 x5_2).f1).toList) == (((rd_T87 l1_1 x5_2).f1).toList)) || (!(((rd_T87 l0_1 x5_2).f2) == ((rd_T87 l1_1 x5_2).f2)) || (!(((rd_T87 l0_1 x5_2).f3) == ((rd_T87 l1_1 x5_2).f3)))))) = true := c17
        clear c17
        obtain rfl := Option.some.inj H
        have hnb18 := NB307_308.out
        have hnc18 := NB308_307.out
        have ⟨_, _, _, _⟩ := cz2 BK307
        obtain ⟨p309, q309, ad309, e309, hx309_0, hx309_1, hx309_2, hx309_3⟩ := zx (at_T87 HR0_1.out x5_2)
        cases e309
        replace hx309_0 := zh HB hx309_0
        replace hx309_1 := zh HB hx309_1
        replace hx309_2 := zh HB hx309_2
        replace hx309_3 := zh HB hx309_3
        have ⟨_, _, _, _⟩ := cz2 BK308
        obtain ⟨p310, q310, ad310, e310, hx310_0, hx310_1, hx310_2, hx310_3⟩ := zx (at_T87 HR1_1.out x5_2)
        cases e310
        replace hx310_0 := zh HB hx310_0
        replace hx310_1 := zh HB hx310_1
        replace hx310_2 := zh HB hx310_2
        replace hx310_3 := zh HB hx310_3
        go_wp2
        repeat (go_quiet (fail); try go_wp2)
        go_ret
        exact ⟨er, bel⟩
       ·
        rw [if_neg c17] at H
        have c17b0 : (!(((rd_T87 l0_1 x5_2).f0) == ((rd_T87 l1_1 x5_2).f0)) || (!((((rd_T87 l0_1 x5_2).f1).toList) == (((rd_T87 l1_1 x5_2).f1).toList)) || (!(((rd_T87 l0_1 x5_2).f2) == ((rd_T87 l1_1 x5_2).f2)) || (!(((rd_T87 l0_1 x5_2).f3) == ((rd_T87 l1_1 x5_2).f3)))))) = false := by simpa using c17
        clear c17
        have H' := Aside0.mk H
        clear H
        have hnb21 := NB307_308.out
        have hnc21 := NB308_307.out
        have ⟨_, _, _, _⟩ := cz2 BK307
        obtain ⟨p309, q309, ad309, e309, hx309_0, hx309_1, hx309_2, hx309_3⟩ := zx (at_T87 HR0_1.out x5_2)
        cases e309
        replace hx309_0 := zh HB hx309_0
        replace hx309_1 := zh HB hx309_1
        replace hx309_2 := zh HB hx309_2
        replace hx309_3 := zh HB hx309_3
        have ⟨_, _, _, _⟩ := cz2 BK308
        obtain ⟨p310, q310, ad310, e310, hx310_0, hx310_1, hx310_2, hx310_3⟩ := zx (at_T87 HR1_1.out x5_2)
        cases e310
        replace hx310_0 := zh HB hx310_0
        replace hx310_1 := zh HB hx310_1
        replace hx310_2 := zh HB hx310_2
        replace hx310_3 := zh HB hx310_3
        go_wp2
        repeat (go_quiet (fail); try go_wp2)
        go_roundg k2
        case measure => have := HJ2.out; have := HK2.out; omega
        case rel => exact ⟨(wrap64 (x5_2 + 1)), rf, H', ⟨by have := HJ2.out; have := HK2.out; omega⟩, ⟨bk BK307⟩, ⟨bk BK308⟩, ⟨bel⟩⟩
      ·
       obtain rfl := Option.some.inj H
       have hnb24 := NB307_308.out
       have hnc24 := NB308_307.out
       have ⟨_, _, _, _⟩ := cz2 BK307
       go_wp2
       repeat (go_quiet (fail); try go_wp2)
       go_ret
       exact ⟨er, bel⟩

end Go.Proofs.Ytpcdfjcbjbkliaa.E
