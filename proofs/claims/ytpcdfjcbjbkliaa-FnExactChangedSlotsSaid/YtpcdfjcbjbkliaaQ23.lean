import Derived.Test.YtpcdfjcbjbkliaaSq
import Derived.Test.YtpcdfjcbjbkliaaQ0
namespace Go.Proofs.Ytpcdfjcbjbkliaa.E
open Go.RowKit Go.Proofs.YtpcdfjcbjbkliaaW.PrintWords Go.Proofs.YtpcdfjcbjbkliaaW.PrintLast Go.Proofs.YtpcdfjcbjbkliaaW.PrintMore
attribute [local go_sem] max2_int min2_int max_two min_two max_three min_three max_four min_four
set_option linter.unusedVariables false
set_option linter.unusedSimpArgs false

/-! ### laws_eqIntS: function 10 -/
def laws_eqIntS.l0 : Nat → List Int → List Int → Int → Option (Bool)
 | 0, _, _, _ => none
 | k + 1, x0, x1, x5 => if x5 < (x0.length : Int) then (if 0 ≤ x5 then (if x5 < (x1.length : Int) then (if (rd x0 x5) = (rd x1 x5) then (laws_eqIntS.l0 k x0 x1 (wrap64 (x5 + 1))) else (some false)) else (none)) else (none)) else (some true)
def laws_eqIntS.f (k : Nat) (l0 : List Int) (l1 : List Int) : Option (Bool) := if (l0.length : Int) = (l1.length : Int) then (laws_eqIntS.l0 k l0 l1 0) else (some false)
set_option maxHeartbeats 8000000 in
set_option maxRecDepth 100000 in
theorem laws_eqIntS.calls (k : Nat) (A0 : Option Addr) (c0 : Nat) (l0 : List Int) (A1 : Option Addr) (c1 : Nat) (l1 : List Int) (r : Bool) (w : World) (hr0 : Kd.C (Kd.int .i64) w A0 l0.length l0) (hc0 : l0.length ≤ c0) (hr1 : Kd.C (Kd.int .i64) w A1 l1.length l1) (hc1 : l1.length ≤ c1) (H : laws_eqIntS.f k l0 l1 = some r) :
  Calls Try.prog 10 #[.slice A0 l0.length c0, .slice A1 l1.length c1] w fun e w' => e = .returned (.bool r) ∧ Drawn0 w w' := by
 have HR0 := Aside0.mk hr0
 have HC0 := Aside0.mk hc0
 clear hr0 hc0
 have HR1 := Aside0.mk hr1
 have HC1 := Aside0.mk hc1
 clear hr1 hc1
 unfold laws_eqIntS.f at H
 by_cases c3 : (l0.length : Int) = (l1.length : Int)
 ·
  rw [if_pos c3] at H
  have c3b0 : ((l0.length : Int) == (l1.length : Int)) = true := beq_iff_eq.mpr c3
  have c3b1 : ((l0.length : Int) != (l1.length : Int)) = false := bne_eq_false_iff_eq.mpr c3
  have c3b2 : (l0.length == l1.length) = true := by first | simpa using c3 | (simp at c3 ⊢; omega)
  clear c3
  have H' := Aside0.mk H
  clear H
  go_enter Try.func10, Try.ntmps10
  go_wp2
  repeat (go_quiet (fail); try go_wp2)
  go_loopg [5] k (fun kq v5 w' => ∃ (x5_1 : Int), v5 = .int .i64 x5_1 ∧ Aside0 (laws_eqIntS.l0 kq l0 l1 x5_1 = some r) ∧ Aside0 (kq ≤ k) ∧ Drawn0 w w')
  case atStart => exact ⟨(0), rf, H', ⟨Nat.le_refl _⟩, by repeat (first | exact Drawn0.refl _ | apply Drawn0.step)⟩
  case round =>
   clear H'
   obtain ⟨x5_1, rfl, HA, HK1, ⟨m1, rfl⟩⟩ := hrel
   cases gk with
   | zero => exact absurd HA.out (by simp [laws_eqIntS.l0])
   | succ k1 =>
    have H := HA.out
    clear HA
    simp only [laws_eqIntS.l0] at H
    replace H := zc H
    rcases H with ⟨c4b0, H⟩ | ⟨c4b0, H⟩
    ·
     replace H := zr H
     obtain ⟨c5b0, H⟩ := H
     replace H := zr H
     obtain ⟨c6b0, H⟩ := H
     by_cases c7 : (rd l0 x5_1) = (rd l1 x5_1)
     ·
      rw [if_pos c7] at H
      have c7b0 : ((rd l0 x5_1) == (rd l1 x5_1)) = true := beq_iff_eq.mpr c7
      have c7b1 : ((rd l0 x5_1) != (rd l1 x5_1)) = false := bne_eq_false_iff_eq.mpr c7
      clear c7
      have H' := Aside0.mk H
      clear H
      obtain ⟨p520, q520, ad520, e520, hx520_0⟩ := zx (Kd.at_int HR0.out x5_1)
      cases e520
      obtain ⟨p521, q521, ad521, e521, hx521_0⟩ := zx (Kd.at_int HR1.out x5_1)
      cases e521
      go_wp2
      repeat (go_quiet (fail); try go_wp2)
      go_roundg k1
      case measure => have := HK1.out; omega
      case rel => exact ⟨(wrap64 (x5_1 + 1)), rf, H', ⟨by have := HK1.out; omega⟩, by repeat (first | exact Drawn0.refl _ | apply Drawn0.step)⟩
     ·
      rw [if_neg c7] at H
      have c7b0 : ((rd l0 x5_1) == (rd l1 x5_1)) = false := beq_eq_false_iff_ne.mpr c7
      have c7b1 : ((rd l0 x5_1) != (rd l1 x5_1)) = true := bne_iff_ne.mpr c7
      obtain rfl := Option.some.inj H
      obtain ⟨p520, q520, ad520, e520, hx520_0⟩ := zx (Kd.at_int HR0.out x5_1)
      cases e520
      obtain ⟨p521, q521, ad521, e521, hx521_0⟩ := zx (Kd.at_int HR1.out x5_1)
      cases e521
      go_wp2
      repeat (go_quiet (fail); try go_wp2)
      go_ret
      exact ⟨by first | rfl | (simp; done) | (simp [*]; done), by repeat (first | exact Drawn0.refl _ | apply Drawn0.step)⟩
    ·
     obtain rfl := Option.some.inj H
     go_wp2
     repeat (go_quiet (fail); try go_wp2)
     go_ret
     exact ⟨by first | rfl | (simp; done) | (simp [*]; done), by repeat (first | exact Drawn0.refl _ | apply Drawn0.step)⟩
 ·
  rw [if_neg c3] at H
  have c3b0 : ((l0.length : Int) == (l1.length : Int)) = false := beq_eq_false_iff_ne.mpr c3
  have c3b1 : ((l0.length : Int) != (l1.length : Int)) = true := bne_iff_ne.mpr c3
  have c3b2 : (l0.length == l1.length) = false := by first | simpa using c3 | (simp at c3 ⊢; omega)
  obtain rfl := Option.some.inj H
  go_enter Try.func10, Try.ntmps10
  go_wp2
  repeat (go_quiet (fail); try go_wp2)
  go_ret
  exact ⟨by first | rfl | (simp; done) | (simp [*]; done), by repeat (first | exact Drawn0.refl _ | apply Drawn0.step)⟩

/-! ### laws_eqGrid: function 34 -/
def laws_eqGrid.f (a0_0 : Int) (a0_1 : Int) (a0_2 : ByteArray) (a1_0 : Int) (a1_1 : Int) (a1_2 : ByteArray) : Option (Bool) := if a0_0 = a1_0 then (if a0_1 = a1_1 then (if a0_2.toList = a1_2.toList then (some true) else (some false)) else (some false)) else (some false)
set_option maxHeartbeats 8000000 in
set_option maxRecDepth 100000 in
theorem laws_eqGrid.calls (a0_0 : Int) (a0_1 : Int) (a0_2 : ByteArray) (a1_0 : Int) (a1_1 : Int) (a1_2 : ByteArray) (r : Bool) (w : World) (H : laws_eqGrid.f a0_0 a0_1 a0_2 a1_0 a1_1 a1_2 = some r) :
  Calls Try.prog 34 #[.agg #[.int .i64 a0_0, .int .i64 a0_1, .string a0_2], .agg #[.int .i64 a1_0, .int .i64 a1_1, .string a1_2]] w fun e w' => e = .returned (.bool r) ∧ Below w.heap.size w w' := by
 have hu30 := Try.underlying30
 have HB := Aside0.mk (Below.refl w.heap.size w)
 unfold laws_eqGrid.f at H
 by_cases c3 : a0_0 = a1_0
 rotate_left
 focus
  rw [if_neg c3] at H
  have c3b0 : (a0_0 == a1_0) = false := beq_eq_false_iff_ne.mpr c3
  have c3b1 : (a0_0 != a1_0) = true := bne_iff_ne.mpr c3
  obtain rfl := Option.some.inj H
 rotate_right
 focus
  rw [if_pos c3] at H
  have c3b0 : (a0_0 == a1_0) = true := beq_iff_eq.mpr c3
  have c3b1 : (a0_0 != a1_0) = false := bne_eq_false_iff_eq.mpr c3
  clear c3
  by_cases c4 : a0_1 = a1_1
  rotate_left
  focus
   rw [if_neg c4] at H
   have c4b0 : (a0_1 == a1_1) = false := beq_eq_false_iff_ne.mpr c4
   have c4b1 : (a0_1 != a1_1) = true := bne_iff_ne.mpr c4
   obtain rfl := Option.some.inj H
  rotate_right
  focus
   rw [if_pos c4] at H
   have c4b0 : (a0_1 == a1_1) = true := beq_iff_eq.mpr c4
   have c4b1 : (a0_1 != a1_1) = false := bne_eq_false_iff_eq.mpr c4
   clear c4
   by_cases c5 : a0_2.toList = a1_2.toList
   rotate_left
   focus
    rw [if_neg c5] at H
    have c5b0 : (a0_2.toList == a1_2.toList) = false := beq_eq_false_iff_ne.mpr c5
    have c5b1 : (a0_2.toList != a1_2.toList) = true := bne_iff_ne.mpr c5
    obtain rfl := Option.some.inj H
   rotate_right
   focus
    rw [if_pos c5] at H
    have c5b0 : (a0_2.toList == a1_2.toList) = true := beq_iff_eq.mpr c5
    have c5b1 : (a0_2.toList != a1_2.toList) = false := bne_eq_false_iff_eq.mpr c5
    clear c5
    obtain rfl := Option.some.inj H
 all_goals
  go_enter Try.func34, Try.ntmps34
  go_wp2_with (first | ((with_reducible refine zd 2 rfl ?_); refine zbx (w := w) #[.int .i64 a0_0, .int .i64 a0_1, .string a0_2] 30 ?_; intro gb522 hg w1000 BK522 hb; have GW522 := zg (w := w) hg; replace HB := zB hb; clear hb hg) | ((with_reducible refine zd 3 rfl ?_); refine zbx (w := w) #[.int .i64 a1_0, .int .i64 a1_1, .string a1_2] 30 ?_; intro gb523 hg w1001 BK523 hb; have GW523 := zg (w := w) hg; replace HB := zB hb; have NB522_523 := zn hg BK522; have NB523_522 := zm hg BK522; replace BK522 := zk BK522 hb; clear hb hg; have hnb18 := NB522_523.out; have hnc18 := NB523_522.out; have ⟨_, _, _, _, _, _⟩ := cz3 BK522; have ⟨_, _, _, _, _, _⟩ := cz3 BK523) | ((with_reducible refine zd 3 rfl ?_); refine zbx (w := w) #[.int .i64 a1_0, .int .i64 a1_1, .string a1_2] 30 ?_; intro gb523 hg w1001 BK523 hb; have GW523 := zg (w := w) hg; replace HB := zB hb; have NB522_523 := zn hg BK522; have NB523_522 := zm hg BK522; replace BK522 := zk BK522 hb; clear hb hg; have hnb13 := NB522_523.out; have hnc13 := NB523_522.out; have ⟨_, _, _, _, _, _⟩ := cz3 BK522; have ⟨_, _, _, _, _, _⟩ := cz3 BK523) | ((with_reducible refine zd 3 rfl ?_); refine zbx (w := w) #[.int .i64 a1_0, .int .i64 a1_1, .string a1_2] 30 ?_; intro gb523 hg w1001 BK523 hb; have GW523 := zg (w := w) hg; replace HB := zB hb; have NB522_523 := zn hg BK522; have NB523_522 := zm hg BK522; replace BK522 := zk BK522 hb; clear hb hg; have hnb23 := NB522_523.out; have hnc23 := NB523_522.out; have ⟨_, _, _, _, _, _⟩ := cz3 BK522; have ⟨_, _, _, _, _, _⟩ := cz3 BK523) | ((with_reducible refine zd 3 rfl ?_); refine zbx (w := w) #[.int .i64 a1_0, .int .i64 a1_1, .string a1_2] 30 ?_; intro gb523 hg w1001 BK523 hb; have GW523 := zg (w := w) hg; replace HB := zB hb; have NB522_523 := zn hg BK522; have NB523_522 := zm hg BK522; replace BK522 := zk BK522 hb; clear hb hg; have hnb8 := NB522_523.out; have hnc8 := NB523_522.out; have ⟨_, _, _, _, _, _⟩ := cz3 BK522; have ⟨_, _, _, _, _, _⟩ := cz3 BK523))
  go_ret
  exact ⟨er, bel⟩

/-! ### laws_eqStep: function 74 -/
def laws_eqStep.f (a0_0 : Int) (a0_1 : ByteArray) (a0_2 : Int) (a0_3 : Int) (a1_0 : Int) (a1_1 : ByteArray) (a1_2 : Int) (a1_3 : Int) : Option (Bool) := if a0_0 = a1_0 then (if a0_1.toList = a1_1.toList then (if a0_2 = a1_2 then (if a0_3 = a1_3 then (some true) else (some false)) else (some false)) else (some false)) else (some false)
set_option maxHeartbeats 8000000 in
set_option maxRecDepth 100000 in
theorem laws_eqStep.calls (a0_0 : Int) (a0_1 : ByteArray) (a0_2 : Int) (a0_3 : Int) (a1_0 : Int) (a1_1 : ByteArray) (a1_2 : Int) (a1_3 : Int) (r : Bool) (w : World) (H : laws_eqStep.f a0_0 a0_1 a0_2 a0_3 a1_0 a1_1 a1_2 a1_3 = some r) :
  Calls Try.prog 74 #[.agg #[.int .i64 a0_0, .string a0_1, .int .i64 a0_2, .int .i64 a0_3], .agg #[.int .i64 a1_0, .string a1_1, .int .i64 a1_2, .int .i64 a1_3]] w fun e w' => e = .returned (.bool r) ∧ Below w.heap.size w w' := by
 have hu87 := Try.underlying87
 have HB := Aside0.mk (Below.refl w.heap.size w)
 unfold laws_eqStep.f at H
 by_cases c3 : a0_0 = a1_0
 rotate_left
 focus
  rw [if_neg c3] at H
  have c3b0 : (a0_0 == a1_0) = false := beq_eq_false_iff_ne.mpr c3
  have c3b1 : (a0_0 != a1_0) = true := bne_iff_ne.mpr c3
  obtain rfl := Option.some.inj H
 rotate_right
 focus
  rw [if_pos c3] at H
  have c3b0 : (a0_0 == a1_0) = true := beq_iff_eq.mpr c3
  have c3b1 : (a0_0 != a1_0) = false := bne_eq_false_iff_eq.mpr c3
  clear c3
  by_cases c4 : a0_1.toList = a1_1.toList
  rotate_left
  focus
   rw [if_neg c4] at H
   have c4b0 : (a0_1.toList == a1_1.toList) = false := beq_eq_false_iff_ne.mpr c4
   have c4b1 : (a0_1.toList != a1_1.toList) = true := bne_iff_ne.mpr c4
   obtain rfl := Option.some.inj H
  rotate_right
  focus
   rw [if_pos c4] at H
   have c4b0 : (a0_1.toList == a1_1.toList) = true := beq_iff_eq.mpr c4
   have c4b1 : (a0_1.toList != a1_1.toList) = false := bne_eq_false_iff_eq.mpr c4
   clear c4
   by_cases c5 : a0_2 = a1_2
   rotate_left
   focus
    rw [if_neg c5] at H
    have c5b0 : (a0_2 == a1_2) = false := beq_eq_false_iff_ne.mpr c5
    have c5b1 : (a0_2 != a1_2) = true := bne_iff_ne.mpr c5
    obtain rfl := Option.some.inj H
   rotate_right
   focus
    rw [if_pos c5] at H
    have c5b0 : (a0_2 == a1_2) = true := beq_iff_eq.mpr c5
    have c5b1 : (a0_2 != a1_2) = false := bne_eq_false_iff_eq.mpr c5
    clear c5
    by_cases c6 : a0_3 = a1_3
    rotate_left
    focus
     rw [if_neg c6] at H
     have c6b0 : (a0_3 == a1_3) = false := beq_eq_false_iff_ne.mpr c6
     have c6b1 : (a0_3 != a1_3) = true := bne_iff_ne.mpr c6
     obtain rfl := Option.some.inj H
    rotate_right
    focus
     rw [if_pos c6] at H
     have c6b0 : (a0_3 == a1_3) = true := beq_iff_eq.mpr c6
     have c6b1 : (a0_3 != a1_3) = false := bne_eq_false_iff_eq.mpr c6
     clear c6
     obtain rfl := Option.some.inj H
 all_goals
  go_enter Try.func74, Try.ntmps74
  go_wp2_with (first | ((with_reducible refine zd 2 rfl ?_); refine zbx (w := w) #[.int .i64 a0_0, .string a0_1, .int .i64 a0_2, .int .i64 a0_3] 87 ?_; intro gb524 hg w1000 BK524 hb; have GW524 := zg (w := w) hg; replace HB := zB hb; clear hb hg) | ((with_reducible refine zd 3 rfl ?_); refine zbx (w := w) #[.int .i64 a1_0, .string a1_1, .int .i64 a1_2, .int .i64 a1_3] 87 ?_; intro gb525 hg w1001 BK525 hb; have GW525 := zg (w := w) hg; replace HB := zB hb; have NB524_525 := zn hg BK524; have NB525_524 := zm hg BK524; replace BK524 := zk BK524 hb; clear hb hg; have hnb29 := NB524_525.out; have hnc29 := NB525_524.out; have ⟨_, _, _, _, _, _, _, _⟩ := cz4 BK524; have ⟨_, _, _, _, _, _, _, _⟩ := cz4 BK525) | ((with_reducible refine zd 3 rfl ?_); refine zbx (w := w) #[.int .i64 a1_0, .string a1_1, .int .i64 a1_2, .int .i64 a1_3] 87 ?_; intro gb525 hg w1001 BK525 hb; have GW525 := zg (w := w) hg; replace HB := zB hb; have NB524_525 := zn hg BK524; have NB525_524 := zm hg BK524; replace BK524 := zk BK524 hb; clear hb hg; have hnb19 := NB524_525.out; have hnc19 := NB525_524.out; have ⟨_, _, _, _, _, _, _, _⟩ := cz4 BK524; have ⟨_, _, _, _, _, _, _, _⟩ := cz4 BK525) | ((with_reducible refine zd 3 rfl ?_); refine zbx (w := w) #[.int .i64 a1_0, .string a1_1, .int .i64 a1_2, .int .i64 a1_3] 87 ?_; intro gb525 hg w1001 BK525 hb; have GW525 := zg (w := w) hg; replace HB := zB hb; have NB524_525 := zn hg BK524; have NB525_524 := zm hg BK524; replace BK524 := zk BK524 hb; clear hb hg; have hnb24 := NB524_525.out; have hnc24 := NB525_524.out; have ⟨_, _, _, _, _, _, _, _⟩ := cz4 BK524; have ⟨_, _, _, _, _, _, _, _⟩ := cz4 BK525) | ((with_reducible refine zd 3 rfl ?_); refine zbx (w := w) #[.int .i64 a1_0, .string a1_1, .int .i64 a1_2, .int .i64 a1_3] 87 ?_; intro gb525 hg w1001 BK525 hb; have GW525 := zg (w := w) hg; replace HB := zB hb; have NB524_525 := zn hg BK524; have NB525_524 := zm hg BK524; replace BK524 := zk BK524 hb; clear hb hg; have hnb14 := NB524_525.out; have hnc14 := NB525_524.out; have ⟨_, _, _, _, _, _, _, _⟩ := cz4 BK524; have ⟨_, _, _, _, _, _, _, _⟩ := cz4 BK525) | ((with_reducible refine zd 3 rfl ?_); refine zbx (w := w) #[.int .i64 a1_0, .string a1_1, .int .i64 a1_2, .int .i64 a1_3] 87 ?_; intro gb525 hg w1001 BK525 hb; have GW525 := zg (w := w) hg; replace HB := zB hb; have NB524_525 := zn hg BK524; have NB525_524 := zm hg BK524; replace BK524 := zk BK524 hb; clear hb hg; have hnb9 := NB524_525.out; have hnc9 := NB525_524.out; have ⟨_, _, _, _, _, _, _, _⟩ := cz4 BK524; have ⟨_, _, _, _, _, _, _, _⟩ := cz4 BK525))
  go_ret
  exact ⟨er, bel⟩

/-! ### laws_eqStepS: function 47 -/
def laws_eqStepS.l0 : Nat → List (S87) → List (S87) → Int → Option (Bool)
 | 0, _, _, _ => none
 | k + 1, x0, x1, x5 => if x5 < (x0.length : Int) then (if 0 ≤ x5 then (if x5 < (x1.length : Int) then ((laws_eqStep.f ((rd_T87 x0 x5).f0) ((rd_T87 x0 x5).f1) ((rd_T87 x0 x5).f2) ((rd_T87 x0 x5).f3) ((rd_T87 x1 x5).f0) ((rd_T87 x1 x5).f1) ((rd_T87 x1 x5).f2) ((rd_T87 x1 x5).f3)).bind fun t528 => (if t528 = true then (laws_eqStepS.l0 k x0 x1 (wrap64 (x5 + 1))) else (some false))) else (none)) else (none)) else (some true)
def laws_eqStepS.f (k : Nat) (l0 : List (S87)) (l1 : List (S87)) : Option (Bool) := if (l0.length : Int) = (l1.length : Int) then (laws_eqStepS.l0 k l0 l1 0) else (some false)
def laws_eqStepS.T6 : Bool × List (List Nat × List Nat) := (true, [([], []), ([], []), ([0, 1], [0, 1]), ([2], [2]), ([], []), ([], []), ([4, 5], [4, 5]), ([6], [6]), ([3, 7], [3, 7]), ([8], [8])])
theorem laws_eqStepS.tab6 : rtab .any (opsOf Try.f47 6) = laws_eqStepS.T6 := by kernel_rfl
set_option maxHeartbeats 8000000 in
set_option maxRecDepth 100000 in
theorem laws_eqStepS.calls (k : Nat) (A0 : Option Addr) (c0 : Nat) (l0 : List (S87)) (A1 : Option Addr) (c1 : Nat) (l1 : List (S87)) (r : Bool) (w : World) (hr0 : Kd.C k87 w A0 l0.length l0) (hc0 : l0.length ≤ c0) (hr1 : Kd.C k87 w A1 l1.length l1) (hc1 : l1.length ≤ c1) (H : laws_eqStepS.f k l0 l1 = some r) :
  Calls Try.prog 47 #[.slice A0 l0.length c0, .slice A1 l1.length c1] w fun e w' => e = .returned (.bool r) ∧ Below w.heap.size w w' := by
 have hu87 := Try.underlying87
 have HR0 := Aside0.mk hr0
 have HC0 := Aside0.mk hc0
 clear hr0 hc0
 have HR1 := Aside0.mk hr1
 have HC1 := Aside0.mk hc1
 clear hr1 hc1
 have HB := Aside0.mk (Below.refl w.heap.size w)
 unfold laws_eqStepS.f at H
 by_cases c3 : (l0.length : Int) = (l1.length : Int)
 ·
  rw [if_pos c3] at H
  have c3b0 : ((l0.length : Int) == (l1.length : Int)) = true := beq_iff_eq.mpr c3
  have c3b1 : ((l0.length : Int) != (l1.length : Int)) = false := bne_eq_false_iff_eq.mpr c3
  have c3b2 : (l0.length == l1.length) = true := by first | simpa using c3 | (simp at c3 ⊢; omega)
  clear c3
  have H' := Aside0.mk H
  clear H
  go_enter Try.func47, Try.ntmps47
  go_wp2
  go_loopg [5] k (fun kq v5 w' => ∃ (x5_1 : Int), v5 = .int .i64 x5_1 ∧ Aside0 (laws_eqStepS.l0 kq l0 l1 x5_1 = some r) ∧ Aside0 (kq ≤ k) ∧ Aside0 (Below w.heap.size w w'))
  case atStart => exact ⟨(0), rf, H', ⟨Nat.le_refl _⟩, ⟨bel⟩⟩
  case round =>
   clear H'
   obtain ⟨x5_1, rfl, HA, HK1, HB⟩ := hrel
   cases gk with
   | zero => exact absurd HA.out (by simp [laws_eqStepS.l0])
   | succ k1 =>
    have H := HA.out
    clear HA
    simp only [laws_eqStepS.l0] at H
    replace H := zc H
    rcases H with ⟨c4b0, H⟩ | ⟨c4b0, H⟩
    ·
     replace H := zr H
     obtain ⟨c5b0, H⟩ := H
     replace H := zr H
     obtain ⟨c6b0, H⟩ := H
     replace H := zs H
     obtain ⟨t528, A7, H⟩ := H
     replace H := zb H
     rcases H with ⟨rfl, H⟩ | ⟨rfl, H⟩
     ·
      have H' := Aside0.mk H
      clear H
      try go_wp2
      replace HB := zBd HB
      obtain ⟨p526, q526, ad526, e526, hx526_0, hx526_1, hx526_2, hx526_3⟩ := zx (at_T87 HR0.out x5_1)
      have hw526_3 := hx526_3
      have hw526_2 := hx526_2
      have hw526_1 := hx526_1
      have hw526_0 := hx526_0
      cases e526
      replace hx526_0 := zh HB hx526_0
      replace hx526_1 := zh HB hx526_1
      replace hx526_2 := zh HB hx526_2
      replace hx526_3 := zh HB hx526_3
      obtain ⟨p527, q527, ad527, e527, hx527_0, hx527_1, hx527_2, hx527_3⟩ := zx (at_T87 HR1.out x5_1)
      have hw527_3 := hx527_3
      have hw527_2 := hx527_2
      have hw527_1 := hx527_1
      have hw527_0 := hx527_0
      cases e527
      replace hx527_0 := zh HB hx527_0
      replace hx527_1 := zh HB hx527_1
      replace hx527_2 := zh HB hx527_2
      replace hx527_3 := zh HB hx527_3
      refine zst 10 laws_eqStepS.tab6 (zhc (((HB.out.cell (World.block_lt_of_cell? w _ hw526_0)).trans hw526_0)) <| zhc (((HB.out.cell (World.block_lt_of_cell? w _ hw526_1)).trans hw526_1)) <| zhc (((HB.out.cell (World.block_lt_of_cell? w _ hw526_2)).trans hw526_2)) <| zhc (((HB.out.cell (World.block_lt_of_cell? w _ hw526_3)).trans hw526_3)) <| zhc (((HB.out.cell (World.block_lt_of_cell? w _ hw527_0)).trans hw527_0)) <| zhc (((HB.out.cell (World.block_lt_of_cell? w _ hw527_1)).trans hw527_1)) <| zhc (((HB.out.cell (World.block_lt_of_cell? w _ hw527_2)).trans hw527_2)) <| zhc (((HB.out.cell (World.block_lt_of_cell? w _ hw527_3)).trans hw527_3)) <| zn0) fun hHeld HT_ => ?_
      generalize wr.drew = w9 at HB hx526_0 hx526_1 hx526_2 hx526_3 hx527_0 hx527_1 hx527_2 hx527_3 hHeld ⊢
      repeat (first | refine zs1 ?_ | (refine zcl Try.func74 (laws_eqStep.calls ((rd_T87 l0 x5_1).f0) ((rd_T87 l0 x5_1).f1) ((rd_T87 l0 x5_1).f2) ((rd_T87 l0 x5_1).f3) ((rd_T87 l1 x5_1).f0) ((rd_T87 l1 x5_1).f1) ((rd_T87 l1 x5_1).f2) ((rd_T87 l1 x5_1).f3) true _ A7.out) ?_; rintro e w10 ⟨rfl, hb⟩; replace HB := zB hb; refine ⟨_, rfl, zHb hb hHeld, _, znb, fun hHeld => ?_⟩))
      refine zdn ?_
      try go_wp2
      go_roundg k1
      case measure => have := HK1.out; omega
      case rel => exact ⟨(wrap64 (x5_1 + 1)), rf, H', ⟨by have := HK1.out; omega⟩, ⟨bel⟩⟩
     ·
      obtain rfl := Option.some.inj H
      try go_wp2
      replace HB := zBd HB
      obtain ⟨p526, q526, ad526, e526, hx526_0, hx526_1, hx526_2, hx526_3⟩ := zx (at_T87 HR0.out x5_1)
      have hw526_3 := hx526_3
      have hw526_2 := hx526_2
      have hw526_1 := hx526_1
      have hw526_0 := hx526_0
      cases e526
      replace hx526_0 := zh HB hx526_0
      replace hx526_1 := zh HB hx526_1
      replace hx526_2 := zh HB hx526_2
      replace hx526_3 := zh HB hx526_3
      obtain ⟨p527, q527, ad527, e527, hx527_0, hx527_1, hx527_2, hx527_3⟩ := zx (at_T87 HR1.out x5_1)
      have hw527_3 := hx527_3
      have hw527_2 := hx527_2
      have hw527_1 := hx527_1
      have hw527_0 := hx527_0
      cases e527
      replace hx527_0 := zh HB hx527_0
      replace hx527_1 := zh HB hx527_1
      replace hx527_2 := zh HB hx527_2
      replace hx527_3 := zh HB hx527_3
      refine zst 10 laws_eqStepS.tab6 (zhc (((HB.out.cell (World.block_lt_of_cell? w _ hw526_0)).trans hw526_0)) <| zhc (((HB.out.cell (World.block_lt_of_cell? w _ hw526_1)).trans hw526_1)) <| zhc (((HB.out.cell (World.block_lt_of_cell? w _ hw526_2)).trans hw526_2)) <| zhc (((HB.out.cell (World.block_lt_of_cell? w _ hw526_3)).trans hw526_3)) <| zhc (((HB.out.cell (World.block_lt_of_cell? w _ hw527_0)).trans hw527_0)) <| zhc (((HB.out.cell (World.block_lt_of_cell? w _ hw527_1)).trans hw527_1)) <| zhc (((HB.out.cell (World.block_lt_of_cell? w _ hw527_2)).trans hw527_2)) <| zhc (((HB.out.cell (World.block_lt_of_cell? w _ hw527_3)).trans hw527_3)) <| zn0) fun hHeld HT_ => ?_
      generalize wr.drew = w11 at HB hx526_0 hx526_1 hx526_2 hx526_3 hx527_0 hx527_1 hx527_2 hx527_3 hHeld ⊢
      repeat (first | refine zs1 ?_ | (refine zcl Try.func74 (laws_eqStep.calls ((rd_T87 l0 x5_1).f0) ((rd_T87 l0 x5_1).f1) ((rd_T87 l0 x5_1).f2) ((rd_T87 l0 x5_1).f3) ((rd_T87 l1 x5_1).f0) ((rd_T87 l1 x5_1).f1) ((rd_T87 l1 x5_1).f2) ((rd_T87 l1 x5_1).f3) false _ A7.out) ?_; rintro e w12 ⟨rfl, hb⟩; replace HB := zB hb; refine ⟨_, rfl, zHb hb hHeld, _, znb, fun hHeld => ?_⟩))
      refine zdn ?_
      try go_wp2
      go_ret
      exact ⟨er, bel⟩
    ·
     obtain rfl := Option.some.inj H
     go_wp2
     go_ret
     exact ⟨er, bel⟩
 ·
  rw [if_neg c3] at H
  have c3b0 : ((l0.length : Int) == (l1.length : Int)) = false := beq_eq_false_iff_ne.mpr c3
  have c3b1 : ((l0.length : Int) != (l1.length : Int)) = true := bne_iff_ne.mpr c3
  have c3b2 : (l0.length == l1.length) = false := by first | simpa using c3 | (simp at c3 ⊢; omega)
  obtain rfl := Option.some.inj H
  go_enter Try.func47, Try.ntmps47
  go_wp2
  go_ret
  exact ⟨er, bel⟩

/-! ### laws_eqClue: function 19 -/
def laws_eqClue.f (k : Nat) (a0_0 : Int) (l0_1 : List (S87)) (a1_0 : Int) (l1_1 : List (S87)) : Option (Bool) := if a0_0 = a1_0 then ((laws_eqStepS.f k l0_1 l1_1).bind fun t531 => (if t531 = true then (some true) else (some false))) else (some false)
set_option maxHeartbeats 8000000 in
set_option maxRecDepth 100000 in
theorem laws_eqClue.calls (k : Nat) (a0_0 : Int) (A0_1 : Option Addr) (c0_1 : Nat) (l0_1 : List (S87)) (a1_0 : Int) (A1_1 : Option Addr) (c1_1 : Nat) (l1_1 : List (S87)) (r : Bool) (w : World) (hr0_1 : Kd.C k87 w A0_1 l0_1.length l0_1) (hc0_1 : l0_1.length ≤ c0_1) (hr1_1 : Kd.C k87 w A1_1 l1_1.length l1_1) (hc1_1 : l1_1.length ≤ c1_1) (H : laws_eqClue.f k a0_0 l0_1 a1_0 l1_1 = some r) :
  Calls Try.prog 19 #[.agg #[.int .i64 a0_0, .slice A0_1 l0_1.length c0_1], .agg #[.int .i64 a1_0, .slice A1_1 l1_1.length c1_1]] w fun e w' => e = .returned (.bool r) ∧ Below w.heap.size w w' := by
 have hu48 := Try.underlying48
 have HR0_1 := Aside0.mk hr0_1
 have HC0_1 := Aside0.mk hc0_1
 clear hr0_1 hc0_1
 have HR1_1 := Aside0.mk hr1_1
 have HC1_1 := Aside0.mk hc1_1
 clear hr1_1 hc1_1
 have HB := Aside0.mk (Below.refl w.heap.size w)
 unfold laws_eqClue.f at H
 by_cases c3 : a0_0 = a1_0
 rotate_left
 focus
  rw [if_neg c3] at H
  have c3b0 : (a0_0 == a1_0) = false := beq_eq_false_iff_ne.mpr c3
  have c3b1 : (a0_0 != a1_0) = true := bne_iff_ne.mpr c3
  obtain rfl := Option.some.inj H
 rotate_right
 focus
  rw [if_pos c3] at H
  have c3b0 : (a0_0 == a1_0) = true := beq_iff_eq.mpr c3
  have c3b1 : (a0_0 != a1_0) = false := bne_eq_false_iff_eq.mpr c3
  clear c3
  replace H := zs H
  obtain ⟨t531, A4, H⟩ := H
  replace H := zb H
  rcases H with ⟨rfl, H⟩ | ⟨rfl, H⟩
  rotate_left
  focus
   obtain rfl := Option.some.inj H
  rotate_right
  focus
   obtain rfl := Option.some.inj H
 all_goals
  go_enter Try.func19, Try.ntmps19
  go_wp2_with (first | ((with_reducible refine zd 2 rfl ?_); refine zbx (w := w) #[.int .i64 a0_0, .slice A0_1 l0_1.length c0_1] 48 ?_; intro gb529 hg w1000 BK529 hb; have GW529 := zg (w := w) hg; replace HB := zB hb; clear hb hg) | ((with_reducible refine zd 3 rfl ?_); refine zbx (w := w) #[.int .i64 a1_0, .slice A1_1 l1_1.length c1_1] 48 ?_; intro gb530 hg w1001 BK530 hb; have GW530 := zg (w := w) hg; replace HB := zB hb; have NB529_530 := zn hg BK529; have NB530_529 := zm hg BK529; replace BK529 := zk BK529 hb; clear hb hg; have hnb14 := NB529_530.out; have hnc14 := NB530_529.out; have ⟨_, _, _, _⟩ := cz2 BK529; have ⟨_, _, _, _⟩ := cz2 BK530) | ((with_reducible refine zd 14 rfl ?_); refine zgl Try.func47 (laws_eqStepS.calls k _ _ l0_1 _ _ l1_1 _ _ (zC HR0_1) HC0_1.out (zC HR1_1) HC1_1.out A4.out) ?_; rintro e w1002 ⟨rfl, hb⟩; refine ⟨_, rfl, ?_⟩; replace BK529 := zk BK529 hb; replace BK530 := zk BK530 hb; replace HB := zB hb) | ((with_reducible refine zd 3 rfl ?_); refine zbx (w := w) #[.int .i64 a1_0, .slice A1_1 l1_1.length c1_1] 48 ?_; intro gb530 hg w1001 BK530 hb; have GW530 := zg (w := w) hg; replace HB := zB hb; have NB529_530 := zn hg BK529; have NB530_529 := zm hg BK529; replace BK529 := zk BK529 hb; clear hb hg; have hnb8 := NB529_530.out; have hnc8 := NB530_529.out; have ⟨_, _, _, _⟩ := cz2 BK529; have ⟨_, _, _, _⟩ := cz2 BK530) | ((with_reducible refine zd 3 rfl ?_); refine zbx (w := w) #[.int .i64 a1_0, .slice A1_1 l1_1.length c1_1] 48 ?_; intro gb530 hg w1001 BK530 hb; have GW530 := zg (w := w) hg; replace HB := zB hb; have NB529_530 := zn hg BK529; have NB530_529 := zm hg BK529; replace BK529 := zk BK529 hb; clear hb hg; have hnb20 := NB529_530.out; have hnc20 := NB530_529.out; have ⟨_, _, _, _⟩ := cz2 BK529; have ⟨_, _, _, _⟩ := cz2 BK530))
  go_ret
  exact ⟨er, bel⟩

/-! ### laws_eqClueS: function 35 -/
def laws_eqClueS.l0 : Nat → List (S48) → List (S48) → Int → Option (Bool)
 | 0, _, _, _ => none
 | k + 1, x0, x1, x5 => if x5 < (x0.length : Int) then (if 0 ≤ x5 then (if x5 < (x1.length : Int) then ((laws_eqClue.f k ((rd_T48 x0 x5).f0) ((rd_T48 x0 x5).f1) ((rd_T48 x1 x5).f0) ((rd_T48 x1 x5).f1)).bind fun t534 => (if t534 = true then (laws_eqClueS.l0 k x0 x1 (wrap64 (x5 + 1))) else (some false))) else (none)) else (none)) else (some true)
def laws_eqClueS.f (k : Nat) (l0 : List (S48)) (l1 : List (S48)) : Option (Bool) := if (l0.length : Int) = (l1.length : Int) then (laws_eqClueS.l0 k l0 l1 0) else (some false)
def laws_eqClueS.T6 : Bool × List (List Nat × List Nat) := (true, [([], []), ([], []), ([0, 1], [0, 1]), ([2], [2]), ([], []), ([], []), ([4, 5], [4, 5]), ([6], [6]), ([3, 7], [3, 7]), ([8], [8])])
theorem laws_eqClueS.tab6 : rtab .any (opsOf Try.f35 6) = laws_eqClueS.T6 := by kernel_rfl
set_option maxHeartbeats 8000000 in
set_option maxRecDepth 100000 in
theorem laws_eqClueS.calls (k : Nat) (A0 : Option Addr) (c0 : Nat) (l0 : List (S48)) (A1 : Option Addr) (c1 : Nat) (l1 : List (S48)) (r : Bool) (w : World) (hr0 : Kd.C k48 w A0 l0.length l0) (hc0 : l0.length ≤ c0) (hr1 : Kd.C k48 w A1 l1.length l1) (hc1 : l1.length ≤ c1) (H : laws_eqClueS.f k l0 l1 = some r) :
  Calls Try.prog 35 #[.slice A0 l0.length c0, .slice A1 l1.length c1] w fun e w' => e = .returned (.bool r) ∧ Below w.heap.size w w' := by
 have hu48 := Try.underlying48
 have HR0 := Aside0.mk hr0
 have HC0 := Aside0.mk hc0
 clear hr0 hc0
 have HR1 := Aside0.mk hr1
 have HC1 := Aside0.mk hc1
 clear hr1 hc1
 have HB := Aside0.mk (Below.refl w.heap.size w)
 unfold laws_eqClueS.f at H
 by_cases c3 : (l0.length : Int) = (l1.length : Int)
 ·
  rw [if_pos c3] at H
  have c3b0 : ((l0.length : Int) == (l1.length : Int)) = true := beq_iff_eq.mpr c3
  have c3b1 : ((l0.length : Int) != (l1.length : Int)) = false := bne_eq_false_iff_eq.mpr c3
  have c3b2 : (l0.length == l1.length) = true := by first | simpa using c3 | (simp at c3 ⊢; omega)
  clear c3
  have H' := Aside0.mk H
  clear H
  go_enter Try.func35, Try.ntmps35
  go_wp2
  go_loopg [5] k (fun kq v5 w' => ∃ (x5_1 : Int), v5 = .int .i64 x5_1 ∧ Aside0 (laws_eqClueS.l0 kq l0 l1 x5_1 = some r) ∧ Aside0 (kq ≤ k) ∧ Aside0 (Below w.heap.size w w'))
  case atStart => exact ⟨(0), rf, H', ⟨Nat.le_refl _⟩, ⟨bel⟩⟩
  case round =>
   clear H'
   obtain ⟨x5_1, rfl, HA, HK1, HB⟩ := hrel
   cases gk with
   | zero => exact absurd HA.out (by simp [laws_eqClueS.l0])
   | succ k1 =>
    have H := HA.out
    clear HA
    simp only [laws_eqClueS.l0] at H
    replace H := zc H
    rcases H with ⟨c4b0, H⟩ | ⟨c4b0, H⟩
    ·
     replace H := zr H
     obtain ⟨c5b0, H⟩ := H
     replace H := zr H
     obtain ⟨c6b0, H⟩ := H
     replace H := zs H
     obtain ⟨t534, A7, H⟩ := H
     replace H := zb H
     rcases H with ⟨rfl, H⟩ | ⟨rfl, H⟩
     ·
      have H' := Aside0.mk H
      clear H
      try go_wp2
      replace HB := zBd HB
      obtain ⟨p532, q532, ad532, A532_1, c532_1, e532, hx532_0, hx532_1, hl532_1, hi532_1⟩ := zx (at_T48 HR0.out x5_1)
      have hw532_1 := hx532_1
      have hw532_0 := hx532_0
      cases e532
      replace hx532_0 := zh HB hx532_0
      replace hx532_1 := zh HB hx532_1
      have HR532_1 := Aside0.mk hi532_1
      have HC532_1 := Aside0.mk hl532_1
      clear hi532_1 hl532_1
      obtain ⟨p533, q533, ad533, A533_1, c533_1, e533, hx533_0, hx533_1, hl533_1, hi533_1⟩ := zx (at_T48 HR1.out x5_1)
      have hw533_1 := hx533_1
      have hw533_0 := hx533_0
      cases e533
      replace hx533_0 := zh HB hx533_0
      replace hx533_1 := zh HB hx533_1
      have HR533_1 := Aside0.mk hi533_1
      have HC533_1 := Aside0.mk hl533_1
      clear hi533_1 hl533_1
      refine zst 10 laws_eqClueS.tab6 (zhc (((HB.out.cell (World.block_lt_of_cell? w _ hw532_0)).trans hw532_0)) <| zhc (((HB.out.cell (World.block_lt_of_cell? w _ hw532_1)).trans hw532_1)) <| zhc (((HB.out.cell (World.block_lt_of_cell? w _ hw533_0)).trans hw533_0)) <| zhc (((HB.out.cell (World.block_lt_of_cell? w _ hw533_1)).trans hw533_1)) <| zn0) fun hHeld HT_ => ?_
      generalize wr.drew = w9 at HB HR532_1 HR533_1 hx532_0 hx532_1 hx533_0 hx533_1 hHeld ⊢
      repeat (first | refine zs1 ?_ | (refine zcl Try.func19 (laws_eqClue.calls k1 ((rd_T48 l0 x5_1).f0) _ _ ((rd_T48 l0 x5_1).f1) ((rd_T48 l1 x5_1).f0) _ _ ((rd_T48 l1 x5_1).f1) true _ (zC HR532_1) HC532_1.out (zC HR533_1) HC533_1.out A7.out) ?_; rintro e w10 ⟨rfl, hb⟩; replace HB := zB hb; refine ⟨_, rfl, zHb hb hHeld, _, znb, fun hHeld => ?_⟩))
      refine zdn ?_
      try go_wp2
      go_roundg k1
      case measure => have := HK1.out; omega
      case rel => exact ⟨(wrap64 (x5_1 + 1)), rf, H', ⟨by have := HK1.out; omega⟩, ⟨bel⟩⟩
     ·
      obtain rfl := Option.some.inj H
      try go_wp2
      replace HB := zBd HB
      obtain ⟨p532, q532, ad532, A532_1, c532_1, e532, hx532_0, hx532_1, hl532_1, hi532_1⟩ := zx (at_T48 HR0.out x5_1)
      have hw532_1 := hx532_1
      have hw532_0 := hx532_0
      cases e532
      replace hx532_0 := zh HB hx532_0
      replace hx532_1 := zh HB hx532_1
      have HR532_1 := Aside0.mk hi532_1
      have HC532_1 := Aside0.mk hl532_1
      clear hi532_1 hl532_1
      obtain ⟨p533, q533, ad533, A533_1, c533_1, e533, hx533_0, hx533_1, hl533_1, hi533_1⟩ := zx (at_T48 HR1.out x5_1)
      have hw533_1 := hx533_1
      have hw533_0 := hx533_0
      cases e533
      replace hx533_0 := zh HB hx533_0
      replace hx533_1 := zh HB hx533_1
      have HR533_1 := Aside0.mk hi533_1
      have HC533_1 := Aside0.mk hl533_1
      clear hi533_1 hl533_1
      refine zst 10 laws_eqClueS.tab6 (zhc (((HB.out.cell (World.block_lt_of_cell? w _ hw532_0)).trans hw532_0)) <| zhc (((HB.out.cell (World.block_lt_of_cell? w _ hw532_1)).trans hw532_1)) <| zhc (((HB.out.cell (World.block_lt_of_cell? w _ hw533_0)).trans hw533_0)) <| zhc (((HB.out.cell (World.block_lt_of_cell? w _ hw533_1)).trans hw533_1)) <| zn0) fun hHeld HT_ => ?_
      generalize wr.drew = w11 at HB HR532_1 HR533_1 hx532_0 hx532_1 hx533_0 hx533_1 hHeld ⊢
      repeat (first | refine zs1 ?_ | (refine zcl Try.func19 (laws_eqClue.calls k1 ((rd_T48 l0 x5_1).f0) _ _ ((rd_T48 l0 x5_1).f1) ((rd_T48 l1 x5_1).f0) _ _ ((rd_T48 l1 x5_1).f1) false _ (zC HR532_1) HC532_1.out (zC HR533_1) HC533_1.out A7.out) ?_; rintro e w12 ⟨rfl, hb⟩; replace HB := zB hb; refine ⟨_, rfl, zHb hb hHeld, _, znb, fun hHeld => ?_⟩))
      refine zdn ?_
      try go_wp2
      go_ret
      exact ⟨er, bel⟩
    ·
     obtain rfl := Option.some.inj H
     go_wp2
     go_ret
     exact ⟨er, bel⟩
 ·
  rw [if_neg c3] at H
  have c3b0 : ((l0.length : Int) == (l1.length : Int)) = false := beq_eq_false_iff_ne.mpr c3
  have c3b1 : ((l0.length : Int) != (l1.length : Int)) = true := bne_iff_ne.mpr c3
  have c3b2 : (l0.length == l1.length) = false := by first | simpa using c3 | (simp at c3 ⊢; omega)
  obtain rfl := Option.some.inj H
  go_enter Try.func35, Try.ntmps35
  go_wp2
  go_ret
  exact ⟨er, bel⟩

/-! ### laws_eqDraft: function 11 -/
def laws_eqDraft.f (k : Nat) (a0_0 : Int) (a0_1 : Int) (a0_2 : ByteArray) (a0_3 : ByteArray) (l0_4 : List (S48)) (a0_5 : Int) (a1_0 : Int) (a1_1 : Int) (a1_2 : ByteArray) (a1_3 : ByteArray) (l1_4 : List (S48)) (a1_5 : Int) : Option (Bool) := (laws_eqGrid.f a0_0 a0_1 a0_2 a1_0 a1_1 a1_2).bind fun t537 => (if t537 = true then (if a0_3.toList = a1_3.toList then ((laws_eqClueS.f k l0_4 l1_4).bind fun t538 => (if t538 = true then (if a0_5 = a1_5 then (some true) else (some false)) else (some false))) else (some false)) else (some false))
set_option maxHeartbeats 8000000 in
set_option maxRecDepth 100000 in
theorem laws_eqDraft.calls (k : Nat) (a0_0 : Int) (a0_1 : Int) (a0_2 : ByteArray) (a0_3 : ByteArray) (A0_4 : Option Addr) (c0_4 : Nat) (l0_4 : List (S48)) (a0_5 : Int) (a1_0 : Int) (a1_1 : Int) (a1_2 : ByteArray) (a1_3 : ByteArray) (A1_4 : Option Addr) (c1_4 : Nat) (l1_4 : List (S48)) (a1_5 : Int) (r : Bool) (w : World) (hr0_4 : Kd.C k48 w A0_4 l0_4.length l0_4) (hc0_4 : l0_4.length ≤ c0_4) (hr1_4 : Kd.C k48 w A1_4 l1_4.length l1_4) (hc1_4 : l1_4.length ≤ c1_4) (H : laws_eqDraft.f k a0_0 a0_1 a0_2 a0_3 l0_4 a0_5 a1_0 a1_1 a1_2 a1_3 l1_4 a1_5 = some r) :
  Calls Try.prog 11 #[.agg #[.int .i64 a0_0, .int .i64 a0_1, .string a0_2, .string a0_3, .slice A0_4 l0_4.length c0_4, .int .i64 a0_5], .agg #[.int .i64 a1_0, .int .i64 a1_1, .string a1_2, .string a1_3, .slice A1_4 l1_4.length c1_4, .int .i64 a1_5]] w fun e w' => e = .returned (.bool r) ∧ Below w.heap.size w w' := by
 have hu33 := Try.underlying33
 have hu30 := Try.underlying30
 have HR0_4 := Aside0.mk hr0_4
 have HC0_4 := Aside0.mk hc0_4
 clear hr0_4 hc0_4
 have HR1_4 := Aside0.mk hr1_4
 have HC1_4 := Aside0.mk hc1_4
 clear hr1_4 hc1_4
 have HB := Aside0.mk (Below.refl w.heap.size w)
 unfold laws_eqDraft.f at H
 replace H := zs H
 obtain ⟨t537, A3, H⟩ := H
 replace H := zb H
 rcases H with ⟨rfl, H⟩ | ⟨rfl, H⟩
 rotate_left
 focus
  obtain rfl := Option.some.inj H
 rotate_right
 focus
  by_cases c5 : a0_3.toList = a1_3.toList
  rotate_left
  focus
   rw [if_neg c5] at H
   have c5b0 : (a0_3.toList == a1_3.toList) = false := beq_eq_false_iff_ne.mpr c5
   have c5b1 : (a0_3.toList != a1_3.toList) = true := bne_iff_ne.mpr c5
   obtain rfl := Option.some.inj H
  rotate_right
  focus
   rw [if_pos c5] at H
   have c5b0 : (a0_3.toList == a1_3.toList) = true := beq_iff_eq.mpr c5
   have c5b1 : (a0_3.toList != a1_3.toList) = false := bne_eq_false_iff_eq.mpr c5
   clear c5
   replace H := zs H
   obtain ⟨t538, A6, H⟩ := H
   replace H := zb H
   rcases H with ⟨rfl, H⟩ | ⟨rfl, H⟩
   rotate_left
   focus
    obtain rfl := Option.some.inj H
   rotate_right
   focus
    by_cases c8 : a0_5 = a1_5
    rotate_left
    focus
     rw [if_neg c8] at H
     have c8b0 : (a0_5 == a1_5) = false := beq_eq_false_iff_ne.mpr c8
     have c8b1 : (a0_5 != a1_5) = true := bne_iff_ne.mpr c8
     obtain rfl := Option.some.inj H
    rotate_right
    focus
     rw [if_pos c8] at H
     have c8b0 : (a0_5 == a1_5) = true := beq_iff_eq.mpr c8
     have c8b1 : (a0_5 != a1_5) = false := bne_eq_false_iff_eq.mpr c8
     clear c8
     obtain rfl := Option.some.inj H
 all_goals
  go_enter Try.func11, Try.ntmps11
  go_wp2_with (first | ((with_reducible refine zd 2 rfl ?_); refine zbx (w := w) #[.int .i64 a0_0, .int .i64 a0_1, .string a0_2, .string a0_3, .slice A0_4 l0_4.length c0_4, .int .i64 a0_5] 33 ?_; intro gb535 hg w1000 BK535 hb; have GW535 := zg (w := w) hg; replace HB := zB hb; clear hb hg) | ((with_reducible refine zd 3 rfl ?_); refine zbx (w := w) #[.int .i64 a1_0, .int .i64 a1_1, .string a1_2, .string a1_3, .slice A1_4 l1_4.length c1_4, .int .i64 a1_5] 33 ?_; intro gb536 hg w1001 BK536 hb; have GW536 := zg (w := w) hg; replace HB := zB hb; have NB535_536 := zn hg BK535; have NB536_535 := zm hg BK535; replace BK535 := zk BK535 hb; clear hb hg; have hnb22 := NB535_536.out; have hnc22 := NB536_535.out; have ⟨_, _, _, _, _, _, _, _, _, _, _, _⟩ := cz6 BK535; have ⟨_, _, _, _, _, _, _, _, _, _, _, _⟩ := cz6 BK536) | ((with_reducible refine zd 9 rfl ?_); refine zgl Try.func34 (laws_eqGrid.calls a0_0 a0_1 a0_2 a1_0 a1_1 a1_2 _ _ A3.out) ?_; rintro e w1002 ⟨rfl, hb⟩; refine ⟨_, rfl, ?_⟩; replace BK535 := zk BK535 hb; replace BK536 := zk BK536 hb; replace HB := zB hb; have ⟨_, _, _, _, _, _, _, _, _, _, _, _⟩ := cz6 BK535; have ⟨_, _, _, _, _, _, _, _, _, _, _, _⟩ := cz6 BK536) | ((with_reducible refine zd 20 rfl ?_); refine zgl Try.func35 (laws_eqClueS.calls k _ _ l0_4 _ _ l1_4 _ _ (zC HR0_4) HC0_4.out (zC HR1_4) HC1_4.out A6.out) ?_; rintro e w1003 ⟨rfl, hb⟩; refine ⟨_, rfl, ?_⟩; replace BK535 := zk BK535 hb; replace BK536 := zk BK536 hb; replace HB := zB hb; have ⟨_, _, _, _, _, _, _, _, _, _, _, _⟩ := cz6 BK535; have ⟨_, _, _, _, _, _, _, _, _, _, _, _⟩ := cz6 BK536) | ((with_reducible refine zd 3 rfl ?_); refine zbx (w := w) #[.int .i64 a1_0, .int .i64 a1_1, .string a1_2, .string a1_3, .slice A1_4 l1_4.length c1_4, .int .i64 a1_5] 33 ?_; intro gb536 hg w1001 BK536 hb; have GW536 := zg (w := w) hg; replace HB := zB hb; have NB535_536 := zn hg BK535; have NB536_535 := zm hg BK535; replace BK535 := zk BK535 hb; clear hb hg; have hnb11 := NB535_536.out; have hnc11 := NB536_535.out; have ⟨_, _, _, _, _, _, _, _, _, _, _, _⟩ := cz6 BK535; have ⟨_, _, _, _, _, _, _, _, _, _, _, _⟩ := cz6 BK536) | ((with_reducible refine zd 3 rfl ?_); refine zbx (w := w) #[.int .i64 a1_0, .int .i64 a1_1, .string a1_2, .string a1_3, .slice A1_4 l1_4.length c1_4, .int .i64 a1_5] 33 ?_; intro gb536 hg w1001 BK536 hb; have GW536 := zg (w := w) hg; replace HB := zB hb; have NB535_536 := zn hg BK535; have NB536_535 := zm hg BK535; replace BK535 := zk BK535 hb; clear hb hg; have hnb33 := NB535_536.out; have hnc33 := NB536_535.out; have ⟨_, _, _, _, _, _, _, _, _, _, _, _⟩ := cz6 BK535; have ⟨_, _, _, _, _, _, _, _, _, _, _, _⟩ := cz6 BK536) | ((with_reducible refine zd 20 rfl ?_); refine zgl Try.func35 (laws_eqClueS.calls k _ _ l0_4 _ _ l1_4 _ _ (zC HR0_4) HC0_4.out (zC HR1_4) HC1_4.out A6.out) ?_; rintro e w1003 ⟨rfl, hb⟩; refine ⟨_, rfl, ?_⟩; replace BK535 := zk BK535 hb; replace BK536 := zk BK536 hb; replace HB := zB hb) | ((with_reducible refine zd 3 rfl ?_); refine zbx (w := w) #[.int .i64 a1_0, .int .i64 a1_1, .string a1_2, .string a1_3, .slice A1_4 l1_4.length c1_4, .int .i64 a1_5] 33 ?_; intro gb536 hg w1001 BK536 hb; have GW536 := zg (w := w) hg; replace HB := zB hb; have NB535_536 := zn hg BK535; have NB536_535 := zm hg BK535; replace BK535 := zk BK535 hb; clear hb hg; have hnb42 := NB535_536.out; have hnc42 := NB536_535.out; have ⟨_, _, _, _, _, _, _, _, _, _, _, _⟩ := cz6 BK535; have ⟨_, _, _, _, _, _, _, _, _, _, _, _⟩ := cz6 BK536) | ((with_reducible refine zd 3 rfl ?_); refine zbx (w := w) #[.int .i64 a1_0, .int .i64 a1_1, .string a1_2, .string a1_3, .slice A1_4 l1_4.length c1_4, .int .i64 a1_5] 33 ?_; intro gb536 hg w1001 BK536 hb; have GW536 := zg (w := w) hg; replace HB := zB hb; have NB535_536 := zn hg BK535; have NB536_535 := zm hg BK535; replace BK535 := zk BK535 hb; clear hb hg; have hnb50 := NB535_536.out; have hnc50 := NB536_535.out; have ⟨_, _, _, _, _, _, _, _, _, _, _, _⟩ := cz6 BK535; have ⟨_, _, _, _, _, _, _, _, _, _, _, _⟩ := cz6 BK536) | ((with_reducible refine zd 9 rfl ?_); refine zgl Try.func34 (laws_eqGrid.calls a0_0 a0_1 a0_2 a1_0 a1_1 a1_2 _ _ A3.out) ?_; rintro e w1002 ⟨rfl, hb⟩; refine ⟨_, rfl, ?_⟩; replace BK535 := zk BK535 hb; replace BK536 := zk BK536 hb; replace HB := zB hb))
  go_ret
  exact ⟨er, bel⟩

/-! ### laws_markText: function 75 -/
def laws_markText.l0 : Nat → Int → ByteArray → Option (ByteArray)
 | 0, _, _ => none
 | k + 1, x0, x3 => if x0 > 0 then ((some (([(wrap64 (48 + (Int.tmod x0 10))) % 256] : List Int) : List Int)).bind fun y539 => (if (strOfNums y539).size + x3.size ≤ 9223372036854775807 then (laws_markText.l0 k (wrap64 (Int.tdiv x0 10)) ((strOfNums y539) ++ x3)) else (none))) else (if 1 + x3.size ≤ 9223372036854775807 then (some ((⟨#[109]⟩ : ByteArray) ++ x3)) else (none))
def laws_markText.f (k : Nat) (a0 : Int) : Option (ByteArray) := if a0 ≤ 0 then (some (⟨#[109, 48]⟩ : ByteArray)) else (laws_markText.l0 k a0 (⟨#[]⟩ : ByteArray))
set_option maxHeartbeats 8000000 in
set_option maxRecDepth 100000 in
theorem laws_markText.calls (k : Nat) (a0 : Int) (r : ByteArray) (w : World) (H : laws_markText.f k a0 = some r) :
  Calls Try.prog 75 #[.int .i64 a0] w fun e w' => e = .returned (.string r) ∧ Below w.heap.size w w' := by
 have HB := Aside0.mk (Below.refl w.heap.size w)
 unfold laws_markText.f at H
 replace H := zc H
 rcases H with ⟨c2b0, H⟩ | ⟨c2b0, H⟩
 ·
  obtain rfl := Option.some.inj H
  go_enter Try.func75, Try.ntmps75
  go_wp2
  go_ret
  exact ⟨er, bel⟩
 ·
  have H' := Aside0.mk H
  clear H
  go_enter Try.func75, Try.ntmps75
  go_wp2
  go_loopg [0, 3] k (fun kq v0 v3 w' => ∃ (x0_1 : Int) (x3_1 : ByteArray), v0 = .int .i64 x0_1 ∧ v3 = .string x3_1 ∧ Aside0 (laws_markText.l0 kq x0_1 x3_1 = some r) ∧ Aside0 (kq ≤ k) ∧ Aside0 (Below w.heap.size w w'))
  case atStart => exact ⟨(a0), ((⟨#[]⟩ : ByteArray)), rf, rf, H', ⟨Nat.le_refl _⟩, ⟨bel⟩⟩
  case round =>
   clear H'
   obtain ⟨x0_1, x3_1, rfl, rfl, HA, HK1, HB⟩ := hrel
   cases gk with
   | zero => exact absurd HA.out (by simp [laws_markText.l0])
   | succ k1 =>
    have H := HA.out
    clear HA
    simp only [laws_markText.l0] at H
    replace H := zc H
    rcases H with ⟨c3b0, H⟩ | ⟨c3b0, H⟩
    ·
     replace H := zy H
     obtain ⟨y539, Ny539, H⟩ := H
     by_cases c4 : (strOfNums y539).size + x3_1.size ≤ 9223372036854775807
     ·
      rw [if_pos c4] at H
      have c4b0 := eq_true c4
      have c4b1 : decide ((strOfNums y539).size + x3_1.size ≤ 9223372036854775807) = true := decide_eq_true c4
      try have c4b2 : (9223372036854775807 < (strOfNums y539).size + x3_1.size) = False := eq_false (Nat.not_lt.2 c4)
      have H' := Aside0.mk H
      clear H
      go_wp2_with (first | ((with_reducible refine gate_dst (N := 12) rfl ?_); refine Kd.R_lit (Kd.int .u8) _ 5 ?hg (N := 12) ?hd (xs := ([(wrap64 (48 + (Int.tmod x0_1 10))) % 256] : List Int)) (inner := [.int .u8 ((wrap64 (48 + (Int.tmod x0_1 10))) % 256)]) (ok := fun _ => True) (okp := fun _ => True) ?hr ?hp (fun _ hk => hk) trivial (Below.refl _ _) (Nat.le_refl _) (by simp) ?_; (case hd => rfl); (case hg => rfl); (case hr => first | (go_simp; done) | (go_simp; rfl)); (case hp => exact (Reps.one (show Kd.M (Kd.int .u8) _ _ _ ((wrap64 (48 + (Int.tmod x0_1 10))) % 256) [.int .u8 ((wrap64 (48 + (Int.tmod x0_1 10))) % 256)] from rfl) (Reps.none _ _))); intro v540 w5 ho6 hb hg_ hnew_; clear hg_ hnew_; (first | rw [← Ny539.out] at ho6 | (simp only [Int.reduceToNat] at ho6; rw [← Ny539.out] at ho6)); have HO541 := zl2 ho6; replace HB := zB hb; clear hb ho6; have hcv7 := own_string (P := Try.prog) Try.underlying101 Try.underlying5 Try.underlying9 (Kd.own_of_R HO541.out)))
      go_roundg k1
      case measure => have := HK1.out; omega
      case rel => exact ⟨(wrap64 (Int.tdiv x0_1 10)), ((strOfNums y539) ++ x3_1), rf, rf, H', ⟨by have := HK1.out; omega⟩, ⟨bel⟩⟩
     ·
      rw [if_neg c4] at H
      exact absurd H (by simp)
    ·
     by_cases c8 : 1 + x3_1.size ≤ 9223372036854775807
     ·
      rw [if_pos c8] at H
      have c8b0 := eq_true c8
      have c8b1 : decide (1 + x3_1.size ≤ 9223372036854775807) = true := decide_eq_true c8
      try have c8b2 : (9223372036854775807 < 1 + x3_1.size) = False := eq_false (Nat.not_lt.2 c8)
      obtain rfl := Option.some.inj H
      go_wp2
      go_ret
      exact ⟨er, bel⟩
     ·
      rw [if_neg c8] at H
      exact absurd H (by simp)

end Go.Proofs.Ytpcdfjcbjbkliaa.E
