import Derived.Test.YtpcdfjcbjbkliaaGreatSq
import Derived.Test.YtpcdfjcbjbkliaaGreatQ0
import Derived.Test.YtpcdfjcbjbkliaaGreatQ3
namespace Go.Proofs.YtpcdfjcbjbkliaaGreat.E
open Go.RowKit Go.Proofs.YtpcdfjcbjbkliaaGreatW.PrintWords Go.Proofs.YtpcdfjcbjbkliaaGreatW.PrintLast Go.Proofs.YtpcdfjcbjbkliaaGreatW.PrintMore
attribute [local go_sem] max2_int min2_int max_two min_two max_three min_three max_four min_four
set_option linter.unusedVariables false
set_option linter.unusedSimpArgs false

/-! ### laws_eqStep: function 146 -/
def laws_eqStep.f (a : Int) (b : ByteArray) (c d e : Int) (f : ByteArray) (g h : Int) : Option (Bool) := if a = e then (if b.toList = f.toList then (if c = g then (if d = h then (some true) else (some false)) else (some false)) else (some false)) else (some false)
set_option maxHeartbeats 8000000 in
set_option maxRecDepth 100000 in
theorem laws_eqStep.calls (a0_0 : Int) (a0_1 : ByteArray) (a0_2 a0_3 a1_0 : Int) (a1_1 : ByteArray) (a1_2 a1_3 : Int) (r : Bool) (w : World) (H : laws_eqStep.f a0_0 a0_1 a0_2 a0_3 a1_0 a1_1 a1_2 a1_3 = some r) :
  Calls Tryz.prog 146 #[.agg #[.int .i64 a0_0, .string a0_1, .int .i64 a0_2, .int .i64 a0_3], .agg #[.int .i64 a1_0, .string a1_1, .int .i64 a1_2, .int .i64 a1_3]] w fun e w' => e = .returned (.bool r) ∧ Below w.heap.size w w' := by
 have hu121 := Tryz.underlying121
 have HB := Aside0.mk (Below.refl w.heap.size w)
 unfold laws_eqStep.f at H
 by_cases c3 : a0_0 = a1_0
 rotate_left
 focus
  rw [if_neg c3] at H
  have c3b0 : (a0_0 == a1_0) = false := beq_eq_false_iff_ne.mpr c3
  have c3b1 : (a0_0 != a1_0) = true := bne_iff_ne.mpr c3
  obtain rfl := Option.some.inj H
 rotate_right
 focus
  rw [if_pos c3] at H
  have c3b0 : (a0_0 == a1_0) = true := beq_iff_eq.mpr c3
  have c3b1 : (a0_0 != a1_0) = false := bne_eq_false_iff_eq.mpr c3
  clear c3
  by_cases c4 : a0_1.toList = a1_1.toList
  rotate_left
  focus
   rw [if_neg c4] at H
   have c4b0 : (a0_1.toList == a1_1.toList) = false := beq_eq_false_iff_ne.mpr c4
   have c4b1 : (a0_1.toList != a1_1.toList) = true := bne_iff_ne.mpr c4
   obtain rfl := Option.some.inj H
  rotate_right
  focus
   rw [if_pos c4] at H
   have c4b0 : (a0_1.toList == a1_1.toList) = true := beq_iff_eq.mpr c4
   have c4b1 : (a0_1.toList != a1_1.toList) = false := bne_eq_false_iff_eq.mpr c4
   clear c4
   by_cases c5 : a0_2 = a1_2
   rotate_left
   focus
    rw [if_neg c5] at H
    have c5b0 : (a0_2 == a1_2) = false := beq_eq_false_iff_ne.mpr c5
    have c5b1 : (a0_2 != a1_2) = true := bne_iff_ne.mpr c5
    obtain rfl := Option.some.inj H
   rotate_right
   focus
    rw [if_pos c5] at H
    have c5b0 : (a0_2 == a1_2) = true := beq_iff_eq.mpr c5
    have c5b1 : (a0_2 != a1_2) = false := bne_eq_false_iff_eq.mpr c5
    clear c5
    by_cases c6 : a0_3 = a1_3
    rotate_left
    focus
     rw [if_neg c6] at H
     have c6b0 : (a0_3 == a1_3) = false := beq_eq_false_iff_ne.mpr c6
     have c6b1 : (a0_3 != a1_3) = true := bne_iff_ne.mpr c6
     obtain rfl := Option.some.inj H
    rotate_right
    focus
     rw [if_pos c6] at H
     have c6b0 : (a0_3 == a1_3) = true := beq_iff_eq.mpr c6
     have c6b1 : (a0_3 != a1_3) = false := bne_eq_false_iff_eq.mpr c6
     clear c6
     obtain rfl := Option.some.inj H
 all_goals
  go_enter Tryz.func146, Tryz.ntmps146
  go_wp2_with (first | ((with_reducible refine zd 2 rfl ?_); refine zbx (w := w) #[.int .i64 a0_0, .string a0_1, .int .i64 a0_2, .int .i64 a0_3] 121 ?_; intro gb179 hg w1000 BK179 hb; have GW179 := zg (w := w) hg; replace HB := zB hb; clear hb hg) | ((with_reducible refine zd 3 rfl ?_); refine zbx (w := w) #[.int .i64 a1_0, .string a1_1, .int .i64 a1_2, .int .i64 a1_3] 121 ?_; intro gb180 hg w1001 BK180 hb; have GW180 := zg (w := w) hg; replace HB := zB hb; have NB179_180 := zn hg BK179; have NB180_179 := zm hg BK179; replace BK179 := zk BK179 hb; clear hb hg; have hnb24 := NB179_180.out; have hnc24 := NB180_179.out; have ⟨_, _, _, _, _, _, _, _⟩ := cz4 BK179; have ⟨_, _, _, _, _, _, _, _⟩ := cz4 BK180) | ((with_reducible refine zd 3 rfl ?_); refine zbx (w := w) #[.int .i64 a1_0, .string a1_1, .int .i64 a1_2, .int .i64 a1_3] 121 ?_; intro gb180 hg w1001 BK180 hb; have GW180 := zg (w := w) hg; replace HB := zB hb; have NB179_180 := zn hg BK179; have NB180_179 := zm hg BK179; replace BK179 := zk BK179 hb; clear hb hg; have hnb14 := NB179_180.out; have hnc14 := NB180_179.out; have ⟨_, _, _, _, _, _, _, _⟩ := cz4 BK179; have ⟨_, _, _, _, _, _, _, _⟩ := cz4 BK180) | ((with_reducible refine zd 3 rfl ?_); refine zbx (w := w) #[.int .i64 a1_0, .string a1_1, .int .i64 a1_2, .int .i64 a1_3] 121 ?_; intro gb180 hg w1001 BK180 hb; have GW180 := zg (w := w) hg; replace HB := zB hb; have NB179_180 := zn hg BK179; have NB180_179 := zm hg BK179; replace BK179 := zk BK179 hb; clear hb hg; have hnb29 := NB179_180.out; have hnc29 := NB180_179.out; have ⟨_, _, _, _, _, _, _, _⟩ := cz4 BK179; have ⟨_, _, _, _, _, _, _, _⟩ := cz4 BK180) | ((with_reducible refine zd 3 rfl ?_); refine zbx (w := w) #[.int .i64 a1_0, .string a1_1, .int .i64 a1_2, .int .i64 a1_3] 121 ?_; intro gb180 hg w1001 BK180 hb; have GW180 := zg (w := w) hg; replace HB := zB hb; have NB179_180 := zn hg BK179; have NB180_179 := zm hg BK179; replace BK179 := zk BK179 hb; clear hb hg; have hnb19 := NB179_180.out; have hnc19 := NB180_179.out; have ⟨_, _, _, _, _, _, _, _⟩ := cz4 BK179; have ⟨_, _, _, _, _, _, _, _⟩ := cz4 BK180) | ((with_reducible refine zd 3 rfl ?_); refine zbx (w := w) #[.int .i64 a1_0, .string a1_1, .int .i64 a1_2, .int .i64 a1_3] 121 ?_; intro gb180 hg w1001 BK180 hb; have GW180 := zg (w := w) hg; replace HB := zB hb; have NB179_180 := zn hg BK179; have NB180_179 := zm hg BK179; replace BK179 := zk BK179 hb; clear hb hg; have hnb9 := NB179_180.out; have hnc9 := NB180_179.out; have ⟨_, _, _, _, _, _, _, _⟩ := cz4 BK179; have ⟨_, _, _, _, _, _, _, _⟩ := cz4 BK180))
  go_ret
  exact ⟨er, bel⟩

/-! ### laws_eqStepS: function 124 -/
def laws_eqStepS.l0 : Nat → List (S121) → List (S121) → Int → Option (Bool)
 | 0, _, _, _ => none
 | k + 1, a, b, c => if c < (a.length : Int) then (if 0 ≤ c then (if c < (b.length : Int) then ((laws_eqStep.f ((rd_T121 a c).f0) ((rd_T121 a c).f1) ((rd_T121 a c).f2) ((rd_T121 a c).f3) ((rd_T121 b c).f0) ((rd_T121 b c).f1) ((rd_T121 b c).f2) ((rd_T121 b c).f3)).bind fun d => (if d = true then (laws_eqStepS.l0 k a b (wrap64 (c + 1))) else (some false))) else (none)) else (none)) else (some true)
def laws_eqStepS.f (k : Nat) (a b : List (S121)) : Option (Bool) := if (a.length : Int) = (b.length : Int) then (laws_eqStepS.l0 k a b 0) else (some false)
def laws_eqStepS.T6 : Bool × List (List Nat × List Nat) := (true, [([], []), ([], []), ([0, 1], [0, 1]), ([2], [2]), ([], []), ([], []), ([4, 5], [4, 5]), ([6], [6]), ([3, 7], [3, 7]), ([8], [8])])
theorem laws_eqStepS.tab6 : rtab .any (opsOf Tryz.f124 6) = laws_eqStepS.T6 := by kernel_rfl
set_option maxHeartbeats 8000000 in
set_option maxRecDepth 100000 in
theorem laws_eqStepS.calls (k : Nat) (A0 : Option Addr) (c0 : Nat) (l0 : List (S121)) (A1 : Option Addr) (c1 : Nat) (l1 : List (S121)) (r : Bool) (w : World) (hr0 : Kd.C k121 w A0 l0.length l0) (hc0 : l0.length ≤ c0) (hr1 : Kd.C k121 w A1 l1.length l1) (hc1 : l1.length ≤ c1) (H : laws_eqStepS.f k l0 l1 = some r) :
  Calls Tryz.prog 124 #[.slice A0 l0.length c0, .slice A1 l1.length c1] w fun e w' => e = .returned (.bool r) ∧ Below w.heap.size w w' := by
 have hu121 := Tryz.underlying121
 have HR0 := Aside0.mk hr0
 have HC0 := Aside0.mk hc0
 clear hr0 hc0
 have HR1 := Aside0.mk hr1
 have HC1 := Aside0.mk hc1
 clear hr1 hc1
 have HB := Aside0.mk (Below.refl w.heap.size w)
 unfold laws_eqStepS.f at H
 by_cases c3 : (l0.length : Int) = (l1.length : Int)
 ·
  rw [if_pos c3] at H
  have c3b0 : ((l0.length : Int) == (l1.length : Int)) = true := beq_iff_eq.mpr c3
  have c3b1 : ((l0.length : Int) != (l1.length : Int)) = false := bne_eq_false_iff_eq.mpr c3
  have c3b2 : (l0.length == l1.length) = true := by first | simpa using c3 | (simp at c3 ⊢; omega)
  clear c3
  have H' := Aside0.mk H
  clear H
  go_enter Tryz.func124, Tryz.ntmps124
  go_wp2
  go_loopg [5] k (fun kq v5 w' => ∃ (x5_1 : Int), v5 = .int .i64 x5_1 ∧ Aside0 (laws_eqStepS.l0 kq l0 l1 x5_1 = some r) ∧ Aside0 (kq ≤ k) ∧ Aside0 (Below w.heap.size w w'))
  case atStart => exact ⟨(0), rf, H', ⟨Nat.le_refl _⟩, ⟨bel⟩⟩
  case round =>
   clear H'
   obtain ⟨x5_1, rfl, HA, HK1, HB⟩ := hrel
   cases gk with
   | zero => exact absurd HA.out (by simp [laws_eqStepS.l0])
   | succ k1 =>
    have H := HA.out
    clear HA
    simp only [laws_eqStepS.l0] at H
    replace H := zc H
    rcases H with ⟨c4b0, H⟩ | ⟨c4b0, H⟩
    ·
     replace H := zr H
     obtain ⟨c5b0, H⟩ := H
     replace H := zr H
     obtain ⟨c6b0, H⟩ := H
     replace H := zs H
     obtain ⟨t183, A7, H⟩ := H
     replace H := zb H
     rcases H with ⟨rfl, H⟩ | ⟨rfl, H⟩
     ·
      have H' := Aside0.mk H
      clear H
      try go_wp2
      replace HB := zBd HB
      obtain ⟨p181, q181, ad181, e181, hx181_0, hx181_1, hx181_2, hx181_3⟩ := zx (at_T121 HR0.out x5_1)
      have hw181_3 := hx181_3
      have hw181_2 := hx181_2
      have hw181_1 := hx181_1
      have hw181_0 := hx181_0
      cases e181
      replace hx181_0 := zh HB hx181_0
      replace hx181_1 := zh HB hx181_1
      replace hx181_2 := zh HB hx181_2
      replace hx181_3 := zh HB hx181_3
      obtain ⟨p182, q182, ad182, e182, hx182_0, hx182_1, hx182_2, hx182_3⟩ := zx (at_T121 HR1.out x5_1)
      have hw182_3 := hx182_3
      have hw182_2 := hx182_2
      have hw182_1 := hx182_1
      have hw182_0 := hx182_0
      cases e182
      replace hx182_0 := zh HB hx182_0
      replace hx182_1 := zh HB hx182_1
      replace hx182_2 := zh HB hx182_2
      replace hx182_3 := zh HB hx182_3
      refine zst 10 laws_eqStepS.tab6 (zhc (((HB.out.cell (World.block_lt_of_cell? w _ hw181_0)).trans hw181_0)) <| zhc (((HB.out.cell (World.block_lt_of_cell? w _ hw181_1)).trans hw181_1)) <| zhc (((HB.out.cell (World.block_lt_of_cell? w _ hw181_2)).trans hw181_2)) <| zhc (((HB.out.cell (World.block_lt_of_cell? w _ hw181_3)).trans hw181_3)) <| zhc (((HB.out.cell (World.block_lt_of_cell? w _ hw182_0)).trans hw182_0)) <| zhc (((HB.out.cell (World.block_lt_of_cell? w _ hw182_1)).trans hw182_1)) <| zhc (((HB.out.cell (World.block_lt_of_cell? w _ hw182_2)).trans hw182_2)) <| zhc (((HB.out.cell (World.block_lt_of_cell? w _ hw182_3)).trans hw182_3)) <| zn0) fun hHeld HT_ => ?_
      generalize wr.drew = w9 at HB hx181_0 hx181_1 hx181_2 hx181_3 hx182_0 hx182_1 hx182_2 hx182_3 hHeld ⊢
      repeat (first | refine zs1 ?_ | (refine zcl Tryz.func146 (laws_eqStep.calls ((rd_T121 l0 x5_1).f0) ((rd_T121 l0 x5_1).f1) ((rd_T121 l0 x5_1).f2) ((rd_T121 l0 x5_1).f3) ((rd_T121 l1 x5_1).f0) ((rd_T121 l1 x5_1).f1) ((rd_T121 l1 x5_1).f2) ((rd_T121 l1 x5_1).f3) true _ A7.out) ?_; rintro e w10 ⟨rfl, hb⟩; replace HB := zB hb; refine ⟨_, rfl, zHb hb hHeld, _, znb, fun hHeld => ?_⟩))
      refine zdn ?_
      try go_wp2
      go_roundg k1
      case measure => have := HK1.out; omega
      case rel => exact ⟨(wrap64 (x5_1 + 1)), rf, H', ⟨by have := HK1.out; omega⟩, ⟨bel⟩⟩
     ·
      obtain rfl := Option.some.inj H
      try go_wp2
      replace HB := zBd HB
      obtain ⟨p181, q181, ad181, e181, hx181_0, hx181_1, hx181_2, hx181_3⟩ := zx (at_T121 HR0.out x5_1)
      have hw181_3 := hx181_3
      have hw181_2 := hx181_2
      have hw181_1 := hx181_1
      have hw181_0 := hx181_0
      cases e181
      replace hx181_0 := zh HB hx181_0
      replace hx181_1 := zh HB hx181_1
      replace hx181_2 := zh HB hx181_2
      replace hx181_3 := zh HB hx181_3
      obtain ⟨p182, q182, ad182, e182, hx182_0, hx182_1, hx182_2, hx182_3⟩ := zx (at_T121 HR1.out x5_1)
      have hw182_3 := hx182_3
      have hw182_2 := hx182_2
      have hw182_1 := hx182_1
      have hw182_0 := hx182_0
      cases e182
      replace hx182_0 := zh HB hx182_0
      replace hx182_1 := zh HB hx182_1
      replace hx182_2 := zh HB hx182_2
      replace hx182_3 := zh HB hx182_3
      refine zst 10 laws_eqStepS.tab6 (zhc (((HB.out.cell (World.block_lt_of_cell? w _ hw181_0)).trans hw181_0)) <| zhc (((HB.out.cell (World.block_lt_of_cell? w _ hw181_1)).trans hw181_1)) <| zhc (((HB.out.cell (World.block_lt_of_cell? w _ hw181_2)).trans hw181_2)) <| zhc (((HB.out.cell (World.block_lt_of_cell? w _ hw181_3)).trans hw181_3)) <| zhc (((HB.out.cell (World.block_lt_of_cell? w _ hw182_0)).trans hw182_0)) <| zhc (((HB.out.cell (World.block_lt_of_cell? w _ hw182_1)).trans hw182_1)) <| zhc (((HB.out.cell (World.block_lt_of_cell? w _ hw182_2)).trans hw182_2)) <| zhc (((HB.out.cell (World.block_lt_of_cell? w _ hw182_3)).trans hw182_3)) <| zn0) fun hHeld HT_ => ?_
      generalize wr.drew = w11 at HB hx181_0 hx181_1 hx181_2 hx181_3 hx182_0 hx182_1 hx182_2 hx182_3 hHeld ⊢
      repeat (first | refine zs1 ?_ | (refine zcl Tryz.func146 (laws_eqStep.calls ((rd_T121 l0 x5_1).f0) ((rd_T121 l0 x5_1).f1) ((rd_T121 l0 x5_1).f2) ((rd_T121 l0 x5_1).f3) ((rd_T121 l1 x5_1).f0) ((rd_T121 l1 x5_1).f1) ((rd_T121 l1 x5_1).f2) ((rd_T121 l1 x5_1).f3) false _ A7.out) ?_; rintro e w12 ⟨rfl, hb⟩; replace HB := zB hb; refine ⟨_, rfl, zHb hb hHeld, _, znb, fun hHeld => ?_⟩))
      refine zdn ?_
      try go_wp2
      go_ret
      exact ⟨er, bel⟩
    ·
     obtain rfl := Option.some.inj H
     go_wp2
     go_ret
     exact ⟨er, bel⟩
 ·
  rw [if_neg c3] at H
  have c3b0 : ((l0.length : Int) == (l1.length : Int)) = false := beq_eq_false_iff_ne.mpr c3
  have c3b1 : ((l0.length : Int) != (l1.length : Int)) = true := bne_iff_ne.mpr c3
  have c3b2 : (l0.length == l1.length) = false := by first | simpa using c3 | (simp at c3 ⊢; omega)
  obtain rfl := Option.some.inj H
  go_enter Tryz.func124, Tryz.ntmps124
  go_wp2
  go_ret
  exact ⟨er, bel⟩

/-! ### laws_eqClue: function 95 -/
def laws_eqClue.f (k : Nat) (a : Int) (b : List (S121)) (c : Int) (d : List (S121)) : Option (Bool) := if a = c then ((laws_eqStepS.f k b d).bind fun e => (if e = true then (some true) else (some false))) else (some false)
set_option maxHeartbeats 8000000 in
set_option maxRecDepth 100000 in
theorem laws_eqClue.calls (k : Nat) (a0_0 : Int) (A0_1 : Option Addr) (c0_1 : Nat) (l0_1 : List (S121)) (a1_0 : Int) (A1_1 : Option Addr) (c1_1 : Nat) (l1_1 : List (S121)) (r : Bool) (w : World) (hr0_1 : Kd.C k121 w A0_1 l0_1.length l0_1) (hc0_1 : l0_1.length ≤ c0_1) (hr1_1 : Kd.C k121 w A1_1 l1_1.length l1_1) (hc1_1 : l1_1.length ≤ c1_1) (H : laws_eqClue.f k a0_0 l0_1 a1_0 l1_1 = some r) :
  Calls Tryz.prog 95 #[.agg #[.int .i64 a0_0, .slice A0_1 l0_1.length c0_1], .agg #[.int .i64 a1_0, .slice A1_1 l1_1.length c1_1]] w fun e w' => e = .returned (.bool r) ∧ Below w.heap.size w w' := by
 have hu89 := Tryz.underlying89
 have HR0_1 := Aside0.mk hr0_1
 have HC0_1 := Aside0.mk hc0_1
 clear hr0_1 hc0_1
 have HR1_1 := Aside0.mk hr1_1
 have HC1_1 := Aside0.mk hc1_1
 clear hr1_1 hc1_1
 have HB := Aside0.mk (Below.refl w.heap.size w)
 unfold laws_eqClue.f at H
 by_cases c3 : a0_0 = a1_0
 rotate_left
 focus
  rw [if_neg c3] at H
  have c3b0 : (a0_0 == a1_0) = false := beq_eq_false_iff_ne.mpr c3
  have c3b1 : (a0_0 != a1_0) = true := bne_iff_ne.mpr c3
  obtain rfl := Option.some.inj H
 rotate_right
 focus
  rw [if_pos c3] at H
  have c3b0 : (a0_0 == a1_0) = true := beq_iff_eq.mpr c3
  have c3b1 : (a0_0 != a1_0) = false := bne_eq_false_iff_eq.mpr c3
  clear c3
  replace H := zs H
  obtain ⟨t186, A4, H⟩ := H
  replace H := zb H
  rcases H with ⟨rfl, H⟩ | ⟨rfl, H⟩
  rotate_left
  focus
   obtain rfl := Option.some.inj H
  rotate_right
  focus
   obtain rfl := Option.some.inj H
 all_goals
  go_enter Tryz.func95, Tryz.ntmps95
  go_wp2_with (first | ((with_reducible refine zd 2 rfl ?_); refine zbx (w := w) #[.int .i64 a0_0, .slice A0_1 l0_1.length c0_1] 89 ?_; intro gb184 hg w1000 BK184 hb; have GW184 := zg (w := w) hg; replace HB := zB hb; clear hb hg) | ((with_reducible refine zd 3 rfl ?_); refine zbx (w := w) #[.int .i64 a1_0, .slice A1_1 l1_1.length c1_1] 89 ?_; intro gb185 hg w1001 BK185 hb; have GW185 := zg (w := w) hg; replace HB := zB hb; have NB184_185 := zn hg BK184; have NB185_184 := zm hg BK184; replace BK184 := zk BK184 hb; clear hb hg; have hnb14 := NB184_185.out; have hnc14 := NB185_184.out; have ⟨_, _, _, _⟩ := cz2 BK184; have ⟨_, _, _, _⟩ := cz2 BK185) | ((with_reducible refine zd 14 rfl ?_); refine zgl Tryz.func124 (laws_eqStepS.calls k _ _ l0_1 _ _ l1_1 _ _ (zC HR0_1) HC0_1.out (zC HR1_1) HC1_1.out A4.out) ?_; rintro e w1002 ⟨rfl, hb⟩; refine ⟨_, rfl, ?_⟩; replace BK184 := zk BK184 hb; replace BK185 := zk BK185 hb; replace HB := zB hb) | ((with_reducible refine zd 3 rfl ?_); refine zbx (w := w) #[.int .i64 a1_0, .slice A1_1 l1_1.length c1_1] 89 ?_; intro gb185 hg w1001 BK185 hb; have GW185 := zg (w := w) hg; replace HB := zB hb; have NB184_185 := zn hg BK184; have NB185_184 := zm hg BK184; replace BK184 := zk BK184 hb; clear hb hg; have hnb8 := NB184_185.out; have hnc8 := NB185_184.out; have ⟨_, _, _, _⟩ := cz2 BK184; have ⟨_, _, _, _⟩ := cz2 BK185) | ((with_reducible refine zd 3 rfl ?_); refine zbx (w := w) #[.int .i64 a1_0, .slice A1_1 l1_1.length c1_1] 89 ?_; intro gb185 hg w1001 BK185 hb; have GW185 := zg (w := w) hg; replace HB := zB hb; have NB184_185 := zn hg BK184; have NB185_184 := zm hg BK184; replace BK184 := zk BK184 hb; clear hb hg; have hnb20 := NB184_185.out; have hnc20 := NB185_184.out; have ⟨_, _, _, _⟩ := cz2 BK184; have ⟨_, _, _, _⟩ := cz2 BK185))
  go_ret
  exact ⟨er, bel⟩

/-! ### laws_eqClueS: function 74 -/
def laws_eqClueS.l0 : Nat → List (S89) → List (S89) → Int → Option (Bool)
 | 0, _, _, _ => none
 | k + 1, a, b, c => if c < (a.length : Int) then (if 0 ≤ c then (if c < (b.length : Int) then ((laws_eqClue.f k ((rd_T89 a c).f0) ((rd_T89 a c).f1) ((rd_T89 b c).f0) ((rd_T89 b c).f1)).bind fun d => (if d = true then (laws_eqClueS.l0 k a b (wrap64 (c + 1))) else (some false))) else (none)) else (none)) else (some true)
def laws_eqClueS.f (k : Nat) (a b : List (S89)) : Option (Bool) := if (a.length : Int) = (b.length : Int) then (laws_eqClueS.l0 k a b 0) else (some false)
def laws_eqClueS.T6 : Bool × List (List Nat × List Nat) := (true, [([], []), ([], []), ([0, 1], [0, 1]), ([2], [2]), ([], []), ([], []), ([4, 5], [4, 5]), ([6], [6]), ([3, 7], [3, 7]), ([8], [8])])
theorem laws_eqClueS.tab6 : rtab .any (opsOf Tryz.f74 6) = laws_eqClueS.T6 := by kernel_rfl
set_option maxHeartbeats 8000000 in
set_option maxRecDepth 100000 in
theorem laws_eqClueS.calls (k : Nat) (A0 : Option Addr) (c0 : Nat) (l0 : List (S89)) (A1 : Option Addr) (c1 : Nat) (l1 : List (S89)) (r : Bool) (w : World) (hr0 : Kd.C k89 w A0 l0.length l0) (hc0 : l0.length ≤ c0) (hr1 : Kd.C k89 w A1 l1.length l1) (hc1 : l1.length ≤ c1) (H : laws_eqClueS.f k l0 l1 = some r) :
  Calls Tryz.prog 74 #[.slice A0 l0.length c0, .slice A1 l1.length c1] w fun e w' => e = .returned (.bool r) ∧ Below w.heap.size w w' := by
 have hu89 := Tryz.underlying89
 have HR0 := Aside0.mk hr0
 have HC0 := Aside0.mk hc0
 clear hr0 hc0
 have HR1 := Aside0.mk hr1
 have HC1 := Aside0.mk hc1
 clear hr1 hc1
 have HB := Aside0.mk (Below.refl w.heap.size w)
 unfold laws_eqClueS.f at H
 by_cases c3 : (l0.length : Int) = (l1.length : Int)
 ·
  rw [if_pos c3] at H
  have c3b0 : ((l0.length : Int) == (l1.length : Int)) = true := beq_iff_eq.mpr c3
  have c3b1 : ((l0.length : Int) != (l1.length : Int)) = false := bne_eq_false_iff_eq.mpr c3
  have c3b2 : (l0.length == l1.length) = true := by first | simpa using c3 | (simp at c3 ⊢; omega)
  clear c3
  have H' := Aside0.mk H
  clear H
  go_enter Tryz.func74, Tryz.ntmps74
  go_wp2
  go_loopg [5] k (fun kq v5 w' => ∃ (x5_1 : Int), v5 = .int .i64 x5_1 ∧ Aside0 (laws_eqClueS.l0 kq l0 l1 x5_1 = some r) ∧ Aside0 (kq ≤ k) ∧ Aside0 (Below w.heap.size w w'))
  case atStart => exact ⟨(0), rf, H', ⟨Nat.le_refl _⟩, ⟨bel⟩⟩
  case round =>
   clear H'
   obtain ⟨x5_1, rfl, HA, HK1, HB⟩ := hrel
   cases gk with
   | zero => exact absurd HA.out (by simp [laws_eqClueS.l0])
   | succ k1 =>
    have H := HA.out
    clear HA
    simp only [laws_eqClueS.l0] at H
    replace H := zc H
    rcases H with ⟨c4b0, H⟩ | ⟨c4b0, H⟩
    ·
     replace H := zr H
     obtain ⟨c5b0, H⟩ := H
     replace H := zr H
     obtain ⟨c6b0, H⟩ := H
     replace H := zs H
     obtain ⟨t189, A7, H⟩ := H
     replace H := zb H
     rcases H with ⟨rfl, H⟩ | ⟨rfl, H⟩
     ·
      have H' := Aside0.mk H
      clear H
      try go_wp2
      replace HB := zBd HB
      obtain ⟨p187, q187, ad187, A187_1, c187_1, e187, hx187_0, hx187_1, hl187_1, hi187_1⟩ := zx (at_T89 HR0.out x5_1)
      have hw187_1 := hx187_1
      have hw187_0 := hx187_0
      cases e187
      replace hx187_0 := zh HB hx187_0
      replace hx187_1 := zh HB hx187_1
      have HR187_1 := Aside0.mk hi187_1
      have HC187_1 := Aside0.mk hl187_1
      clear hi187_1 hl187_1
      obtain ⟨p188, q188, ad188, A188_1, c188_1, e188, hx188_0, hx188_1, hl188_1, hi188_1⟩ := zx (at_T89 HR1.out x5_1)
      have hw188_1 := hx188_1
      have hw188_0 := hx188_0
      cases e188
      replace hx188_0 := zh HB hx188_0
      replace hx188_1 := zh HB hx188_1
      have HR188_1 := Aside0.mk hi188_1
      have HC188_1 := Aside0.mk hl188_1
      clear hi188_1 hl188_1
      refine zst 10 laws_eqClueS.tab6 (zhc (((HB.out.cell (World.block_lt_of_cell? w _ hw187_0)).trans hw187_0)) <| zhc (((HB.out.cell (World.block_lt_of_cell? w _ hw187_1)).trans hw187_1)) <| zhc (((HB.out.cell (World.block_lt_of_cell? w _ hw188_0)).trans hw188_0)) <| zhc (((HB.out.cell (World.block_lt_of_cell? w _ hw188_1)).trans hw188_1)) <| zn0) fun hHeld HT_ => ?_
      generalize wr.drew = w9 at HB HR187_1 HR188_1 hx187_0 hx187_1 hx188_0 hx188_1 hHeld ⊢
      repeat (first | refine zs1 ?_ | (refine zcl Tryz.func95 (laws_eqClue.calls k1 ((rd_T89 l0 x5_1).f0) _ _ ((rd_T89 l0 x5_1).f1) ((rd_T89 l1 x5_1).f0) _ _ ((rd_T89 l1 x5_1).f1) true _ (zC HR187_1) HC187_1.out (zC HR188_1) HC188_1.out A7.out) ?_; rintro e w10 ⟨rfl, hb⟩; replace HB := zB hb; refine ⟨_, rfl, zHb hb hHeld, _, znb, fun hHeld => ?_⟩))
      refine zdn ?_
      try go_wp2
      go_roundg k1
      case measure => have := HK1.out; omega
      case rel => exact ⟨(wrap64 (x5_1 + 1)), rf, H', ⟨by have := HK1.out; omega⟩, ⟨bel⟩⟩
     ·
      obtain rfl := Option.some.inj H
      try go_wp2
      replace HB := zBd HB
      obtain ⟨p187, q187, ad187, A187_1, c187_1, e187, hx187_0, hx187_1, hl187_1, hi187_1⟩ := zx (at_T89 HR0.out x5_1)
      have hw187_1 := hx187_1
      have hw187_0 := hx187_0
      cases e187
      replace hx187_0 := zh HB hx187_0
      replace hx187_1 := zh HB hx187_1
      have HR187_1 := Aside0.mk hi187_1
      have HC187_1 := Aside0.mk hl187_1
      clear hi187_1 hl187_1
      obtain ⟨p188, q188, ad188, A188_1, c188_1, e188, hx188_0, hx188_1, hl188_1, hi188_1⟩ := zx (at_T89 HR1.out x5_1)
      have hw188_1 := hx188_1
      have hw188_0 := hx188_0
      cases e188
      replace hx188_0 := zh HB hx188_0
      replace hx188_1 := zh HB hx188_1
      have HR188_1 := Aside0.mk hi188_1
      have HC188_1 := Aside0.mk hl188_1
      clear hi188_1 hl188_1
      refine zst 10 laws_eqClueS.tab6 (zhc (((HB.out.cell (World.block_lt_of_cell? w _ hw187_0)).trans hw187_0)) <| zhc (((HB.out.cell (World.block_lt_of_cell? w _ hw187_1)).trans hw187_1)) <| zhc (((HB.out.cell (World.block_lt_of_cell? w _ hw188_0)).trans hw188_0)) <| zhc (((HB.out.cell (World.block_lt_of_cell? w _ hw188_1)).trans hw188_1)) <| zn0) fun hHeld HT_ => ?_
      generalize wr.drew = w11 at HB HR187_1 HR188_1 hx187_0 hx187_1 hx188_0 hx188_1 hHeld ⊢
      repeat (first | refine zs1 ?_ | (refine zcl Tryz.func95 (laws_eqClue.calls k1 ((rd_T89 l0 x5_1).f0) _ _ ((rd_T89 l0 x5_1).f1) ((rd_T89 l1 x5_1).f0) _ _ ((rd_T89 l1 x5_1).f1) false _ (zC HR187_1) HC187_1.out (zC HR188_1) HC188_1.out A7.out) ?_; rintro e w12 ⟨rfl, hb⟩; replace HB := zB hb; refine ⟨_, rfl, zHb hb hHeld, _, znb, fun hHeld => ?_⟩))
      refine zdn ?_
      try go_wp2
      go_ret
      exact ⟨er, bel⟩
    ·
     obtain rfl := Option.some.inj H
     go_wp2
     go_ret
     exact ⟨er, bel⟩
 ·
  rw [if_neg c3] at H
  have c3b0 : ((l0.length : Int) == (l1.length : Int)) = false := beq_eq_false_iff_ne.mpr c3
  have c3b1 : ((l0.length : Int) != (l1.length : Int)) = true := bne_iff_ne.mpr c3
  have c3b2 : (l0.length == l1.length) = false := by first | simpa using c3 | (simp at c3 ⊢; omega)
  obtain rfl := Option.some.inj H
  go_enter Tryz.func74, Tryz.ntmps74
  go_wp2
  go_ret
  exact ⟨er, bel⟩

/-! ### laws_eqPuzzle: function 39 -/
def laws_eqPuzzle.f (k : Nat) (a b : Int) (c : ByteArray) (d : List (S89)) (e : List Int) (f g h : Int) (i : ByteArray) (j : List (S89)) (l : List Int) (m : Int) : Option (Bool) := (laws_eqGrid.f a b c g h i).bind fun n => (if n = true then ((laws_eqClueS.f k d j).bind fun o => (if o = true then ((laws_eqIntS.f k e l).bind fun p => (if p = true then (if f = m then (some true) else (some false)) else (some false))) else (some false))) else (some false))
set_option maxHeartbeats 8000000 in
set_option maxRecDepth 100000 in
theorem laws_eqPuzzle.calls (k : Nat) (a0_0 a0_1 : Int) (a0_2 : ByteArray) (A0_3 : Option Addr) (c0_3 : Nat) (l0_3 : List (S89)) (A0_4 : Option Addr) (c0_4 : Nat) (l0_4 : List Int) (a0_5 a1_0 a1_1 : Int) (a1_2 : ByteArray) (A1_3 : Option Addr) (c1_3 : Nat) (l1_3 : List (S89)) (A1_4 : Option Addr) (c1_4 : Nat) (l1_4 : List Int) (a1_5 : Int) (r : Bool) (w : World) (hr0_3 : Kd.C k89 w A0_3 l0_3.length l0_3) (hc0_3 : l0_3.length ≤ c0_3) (hr0_4 : Kd.C (Kd.int .i64) w A0_4 l0_4.length l0_4) (hc0_4 : l0_4.length ≤ c0_4) (hr1_3 : Kd.C k89 w A1_3 l1_3.length l1_3) (hc1_3 : l1_3.length ≤ c1_3) (hr1_4 : Kd.C (Kd.int .i64) w A1_4 l1_4.length l1_4) (hc1_4 : l1_4.length ≤ c1_4) (H : laws_eqPuzzle.f k a0_0 a0_1 a0_2 l0_3 l0_4 a0_5 a1_0 a1_1 a1_2 l1_3 l1_4 a1_5 = some r) :
  Calls Tryz.prog 39 #[.agg #[.int .i64 a0_0, .int .i64 a0_1, .string a0_2, .slice A0_3 l0_3.length c0_3, .slice A0_4 l0_4.length c0_4, .int .i64 a0_5], .agg #[.int .i64 a1_0, .int .i64 a1_1, .string a1_2, .slice A1_3 l1_3.length c1_3, .slice A1_4 l1_4.length c1_4, .int .i64 a1_5]] w fun e w' => e = .returned (.bool r) ∧ Below w.heap.size w w' := by
 have hu35 := Tryz.underlying35
 have hu32 := Tryz.underlying32
 have HR0_3 := Aside0.mk hr0_3
 have HC0_3 := Aside0.mk hc0_3
 clear hr0_3 hc0_3
 have HR0_4 := Aside0.mk hr0_4
 have HC0_4 := Aside0.mk hc0_4
 clear hr0_4 hc0_4
 have HR1_3 := Aside0.mk hr1_3
 have HC1_3 := Aside0.mk hc1_3
 clear hr1_3 hc1_3
 have HR1_4 := Aside0.mk hr1_4
 have HC1_4 := Aside0.mk hc1_4
 clear hr1_4 hc1_4
 have HB := Aside0.mk (Below.refl w.heap.size w)
 unfold laws_eqPuzzle.f at H
 replace H := zs H
 obtain ⟨t192, A3, H⟩ := H
 replace H := zb H
 rcases H with ⟨rfl, H⟩ | ⟨rfl, H⟩
 rotate_left
 focus
  obtain rfl := Option.some.inj H
 rotate_right
 focus
  replace H := zs H
  obtain ⟨t193, A5, H⟩ := H
  replace H := zb H
  rcases H with ⟨rfl, H⟩ | ⟨rfl, H⟩
  rotate_left
  focus
   obtain rfl := Option.some.inj H
  rotate_right
  focus
   replace H := zs H
   obtain ⟨t194, A7, H⟩ := H
   replace H := zb H
   rcases H with ⟨rfl, H⟩ | ⟨rfl, H⟩
   rotate_left
   focus
    obtain rfl := Option.some.inj H
   rotate_right
   focus
    by_cases c9 : a0_5 = a1_5
    rotate_left
    focus
     rw [if_neg c9] at H
     have c9b0 : (a0_5 == a1_5) = false := beq_eq_false_iff_ne.mpr c9
     have c9b1 : (a0_5 != a1_5) = true := bne_iff_ne.mpr c9
     obtain rfl := Option.some.inj H
    rotate_right
    focus
     rw [if_pos c9] at H
     have c9b0 : (a0_5 == a1_5) = true := beq_iff_eq.mpr c9
     have c9b1 : (a0_5 != a1_5) = false := bne_eq_false_iff_eq.mpr c9
     clear c9
     obtain rfl := Option.some.inj H
 all_goals
  go_enter Tryz.func39, Tryz.ntmps39
  go_wp2_with (first | ((with_reducible refine zd 2 rfl ?_); refine zbx (w := w) #[.int .i64 a0_0, .int .i64 a0_1, .string a0_2, .slice A0_3 l0_3.length c0_3, .slice A0_4 l0_4.length c0_4, .int .i64 a0_5] 35 ?_; intro gb190 hg w1000 BK190 hb; have GW190 := zg (w := w) hg; replace HB := zB hb; clear hb hg) | ((with_reducible refine zd 3 rfl ?_); refine zbx (w := w) #[.int .i64 a1_0, .int .i64 a1_1, .string a1_2, .slice A1_3 l1_3.length c1_3, .slice A1_4 l1_4.length c1_4, .int .i64 a1_5] 35 ?_; intro gb191 hg w1001 BK191 hb; have GW191 := zg (w := w) hg; replace HB := zB hb; have NB190_191 := zn hg BK190; have NB191_190 := zm hg BK190; replace BK190 := zk BK190 hb; clear hb hg; have hnb34 := NB190_191.out; have hnc34 := NB191_190.out; have ⟨_, _, _, _, _, _, _, _, _, _, _, _⟩ := cz6 BK190; have ⟨_, _, _, _, _, _, _, _, _, _, _, _⟩ := cz6 BK191) | ((with_reducible refine zd 9 rfl ?_); refine zgl Tryz.func73 (laws_eqGrid.calls a0_0 a0_1 a0_2 a1_0 a1_1 a1_2 _ _ A3.out) ?_; rintro e w1002 ⟨rfl, hb⟩; refine ⟨_, rfl, ?_⟩; replace BK190 := zk BK190 hb; replace BK191 := zk BK191 hb; replace HB := zB hb; have ⟨_, _, _, _, _, _, _, _, _, _, _, _⟩ := cz6 BK190; have ⟨_, _, _, _, _, _, _, _, _, _, _, _⟩ := cz6 BK191) | ((with_reducible refine zd 15 rfl ?_); refine zgl Tryz.func74 (laws_eqClueS.calls k _ _ l0_3 _ _ l1_3 _ _ (zC HR0_3) HC0_3.out (zC HR1_3) HC1_3.out A5.out) ?_; rintro e w1003 ⟨rfl, hb⟩; refine ⟨_, rfl, ?_⟩; replace BK190 := zk BK190 hb; replace BK191 := zk BK191 hb; replace HB := zB hb; have ⟨_, _, _, _, _, _, _, _, _, _, _, _⟩ := cz6 BK190; have ⟨_, _, _, _, _, _, _, _, _, _, _, _⟩ := cz6 BK191) | ((with_reducible refine zd 21 rfl ?_); refine zgl Tryz.func27 (laws_eqIntS.calls k _ _ l0_4 _ _ l1_4 _ _ (zC HR0_4) HC0_4.out (zC HR1_4) HC1_4.out A7.out) ?_; rintro e w' ⟨rfl, ⟨nd, rfl⟩⟩; refine ⟨_, rfl, ?_⟩) | ((with_reducible refine zd 3 rfl ?_); refine zbx (w := w) #[.int .i64 a1_0, .int .i64 a1_1, .string a1_2, .slice A1_3 l1_3.length c1_3, .slice A1_4 l1_4.length c1_4, .int .i64 a1_5] 35 ?_; intro gb191 hg w1001 BK191 hb; have GW191 := zg (w := w) hg; replace HB := zB hb; have NB190_191 := zn hg BK190; have NB191_190 := zm hg BK190; replace BK190 := zk BK190 hb; clear hb hg; have hnb12 := NB190_191.out; have hnc12 := NB191_190.out; have ⟨_, _, _, _, _, _, _, _, _, _, _, _⟩ := cz6 BK190; have ⟨_, _, _, _, _, _, _, _, _, _, _, _⟩ := cz6 BK191) | ((with_reducible refine zd 3 rfl ?_); refine zbx (w := w) #[.int .i64 a1_0, .int .i64 a1_1, .string a1_2, .slice A1_3 l1_3.length c1_3, .slice A1_4 l1_4.length c1_4, .int .i64 a1_5] 35 ?_; intro gb191 hg w1001 BK191 hb; have GW191 := zg (w := w) hg; replace HB := zB hb; have NB190_191 := zn hg BK190; have NB191_190 := zm hg BK190; replace BK190 := zk BK190 hb; clear hb hg; have hnb23 := NB190_191.out; have hnc23 := NB191_190.out; have ⟨_, _, _, _, _, _, _, _, _, _, _, _⟩ := cz6 BK190; have ⟨_, _, _, _, _, _, _, _, _, _, _, _⟩ := cz6 BK191) | ((with_reducible refine zd 3 rfl ?_); refine zbx (w := w) #[.int .i64 a1_0, .int .i64 a1_1, .string a1_2, .slice A1_3 l1_3.length c1_3, .slice A1_4 l1_4.length c1_4, .int .i64 a1_5] 35 ?_; intro gb191 hg w1001 BK191 hb; have GW191 := zg (w := w) hg; replace HB := zB hb; have NB190_191 := zn hg BK190; have NB191_190 := zm hg BK190; replace BK190 := zk BK190 hb; clear hb hg; have hnb45 := NB190_191.out; have hnc45 := NB191_190.out; have ⟨_, _, _, _, _, _, _, _, _, _, _, _⟩ := cz6 BK190; have ⟨_, _, _, _, _, _, _, _, _, _, _, _⟩ := cz6 BK191) | ((with_reducible refine zd 15 rfl ?_); refine zgl Tryz.func74 (laws_eqClueS.calls k _ _ l0_3 _ _ l1_3 _ _ (zC HR0_3) HC0_3.out (zC HR1_3) HC1_3.out A5.out) ?_; rintro e w1003 ⟨rfl, hb⟩; refine ⟨_, rfl, ?_⟩; replace BK190 := zk BK190 hb; replace BK191 := zk BK191 hb; replace HB := zB hb) | ((with_reducible refine zd 3 rfl ?_); refine zbx (w := w) #[.int .i64 a1_0, .int .i64 a1_1, .string a1_2, .slice A1_3 l1_3.length c1_3, .slice A1_4 l1_4.length c1_4, .int .i64 a1_5] 35 ?_; intro gb191 hg w1001 BK191 hb; have GW191 := zg (w := w) hg; replace HB := zB hb; have NB190_191 := zn hg BK190; have NB191_190 := zm hg BK190; replace BK190 := zk BK190 hb; clear hb hg; have hnb54 := NB190_191.out; have hnc54 := NB191_190.out; have ⟨_, _, _, _, _, _, _, _, _, _, _, _⟩ := cz6 BK190; have ⟨_, _, _, _, _, _, _, _, _, _, _, _⟩ := cz6 BK191) | ((with_reducible refine zd 9 rfl ?_); refine zgl Tryz.func73 (laws_eqGrid.calls a0_0 a0_1 a0_2 a1_0 a1_1 a1_2 _ _ A3.out) ?_; rintro e w1002 ⟨rfl, hb⟩; refine ⟨_, rfl, ?_⟩; replace BK190 := zk BK190 hb; replace BK191 := zk BK191 hb; replace HB := zB hb))
  go_ret
  exact ⟨er, bel⟩

/-! ### laws_eqIssue: function 14 -/
def laws_eqIssue.f (k : Nat) (a b c : Int) (d : ByteArray) (e : List (S89)) (f : List Int) (g : Int) (h : ByteArray) (i j : Int) (l m n : Int) (o : ByteArray) (p : List (S89)) (q : List Int) (r : Int) (s : ByteArray) (t u : Int) : Option (Bool) := if a = l then ((laws_eqPuzzle.f k b c d e f g m n o p q r).bind fun v => (if v = true then (if h.toList = s.toList then (if i = t then (if j = u then (some true) else (some false)) else (some false)) else (some false)) else (some false))) else (some false)
set_option maxHeartbeats 8000000 in
set_option maxRecDepth 100000 in
theorem laws_eqIssue.calls (k : Nat) (a0_0 a0_1 a0_2 : Int) (a0_3 : ByteArray) (A0_4 : Option Addr) (c0_4 : Nat) (l0_4 : List (S89)) (A0_5 : Option Addr) (c0_5 : Nat) (l0_5 : List Int) (a0_6 : Int) (a0_7 : ByteArray) (a0_8 a0_9 : Int) (a1_0 a1_1 a1_2 : Int) (a1_3 : ByteArray) (A1_4 : Option Addr) (c1_4 : Nat) (l1_4 : List (S89)) (A1_5 : Option Addr) (c1_5 : Nat) (l1_5 : List Int) (a1_6 : Int) (a1_7 : ByteArray) (a1_8 a1_9 : Int) (r : Bool) (w : World) (hr0_4 : Kd.C k89 w A0_4 l0_4.length l0_4) (hc0_4 : l0_4.length ≤ c0_4) (hr0_5 : Kd.C (Kd.int .i64) w A0_5 l0_5.length l0_5) (hc0_5 : l0_5.length ≤ c0_5) (hr1_4 : Kd.C k89 w A1_4 l1_4.length l1_4) (hc1_4 : l1_4.length ≤ c1_4) (hr1_5 : Kd.C (Kd.int .i64) w A1_5 l1_5.length l1_5) (hc1_5 : l1_5.length ≤ c1_5) (H : laws_eqIssue.f k a0_0 a0_1 a0_2 a0_3 l0_4 l0_5 a0_6 a0_7 a0_8 a0_9 a1_0 a1_1 a1_2 a1_3 l1_4 l1_5 a1_6 a1_7 a1_8 a1_9 = some r) :
  Calls Tryz.prog 14 #[.agg #[.int .i64 a0_0, .int .i64 a0_1, .int .i64 a0_2, .string a0_3, .slice A0_4 l0_4.length c0_4, .slice A0_5 l0_5.length c0_5, .int .i64 a0_6, .string a0_7, .int .i64 a0_8, .int .i64 a0_9], .agg #[.int .i64 a1_0, .int .i64 a1_1, .int .i64 a1_2, .string a1_3, .slice A1_4 l1_4.length c1_4, .slice A1_5 l1_5.length c1_5, .int .i64 a1_6, .string a1_7, .int .i64 a1_8, .int .i64 a1_9]] w fun e w' => e = .returned (.bool r) ∧ Below w.heap.size w w' := by
 have hu37 := Tryz.underlying37
 have hu35 := Tryz.underlying35
 have HR0_4 := Aside0.mk hr0_4
 have HC0_4 := Aside0.mk hc0_4
 clear hr0_4 hc0_4
 have HR0_5 := Aside0.mk hr0_5
 have HC0_5 := Aside0.mk hc0_5
 clear hr0_5 hc0_5
 have HR1_4 := Aside0.mk hr1_4
 have HC1_4 := Aside0.mk hc1_4
 clear hr1_4 hc1_4
 have HR1_5 := Aside0.mk hr1_5
 have HC1_5 := Aside0.mk hc1_5
 clear hr1_5 hc1_5
 have HB := Aside0.mk (Below.refl w.heap.size w)
 unfold laws_eqIssue.f at H
 by_cases c3 : a0_0 = a1_0
 rotate_left
 focus
  rw [if_neg c3] at H
  have c3b0 : (a0_0 == a1_0) = false := beq_eq_false_iff_ne.mpr c3
  have c3b1 : (a0_0 != a1_0) = true := bne_iff_ne.mpr c3
  obtain rfl := Option.some.inj H
 rotate_right
 focus
  rw [if_pos c3] at H
  have c3b0 : (a0_0 == a1_0) = true := beq_iff_eq.mpr c3
  have c3b1 : (a0_0 != a1_0) = false := bne_eq_false_iff_eq.mpr c3
  clear c3
  replace H := zs H
  obtain ⟨t197, A4, H⟩ := H
  replace H := zb H
  rcases H with ⟨rfl, H⟩ | ⟨rfl, H⟩
  rotate_left
  focus
   obtain rfl := Option.some.inj H
  rotate_right
  focus
   by_cases c6 : a0_7.toList = a1_7.toList
   rotate_left
   focus
    rw [if_neg c6] at H
    have c6b0 : (a0_7.toList == a1_7.toList) = false := beq_eq_false_iff_ne.mpr c6
    have c6b1 : (a0_7.toList != a1_7.toList) = true := bne_iff_ne.mpr c6
    obtain rfl := Option.some.inj H
   rotate_right
   focus
    rw [if_pos c6] at H
    have c6b0 : (a0_7.toList == a1_7.toList) = true := beq_iff_eq.mpr c6
    have c6b1 : (a0_7.toList != a1_7.toList) = false := bne_eq_false_iff_eq.mpr c6
    clear c6
    by_cases c7 : a0_8 = a1_8
    rotate_left
    focus
     rw [if_neg c7] at H
     have c7b0 : (a0_8 == a1_8) = false := beq_eq_false_iff_ne.mpr c7
     have c7b1 : (a0_8 != a1_8) = true := bne_iff_ne.mpr c7
     obtain rfl := Option.some.inj H
    rotate_right
    focus
     rw [if_pos c7] at H
     have c7b0 : (a0_8 == a1_8) = true := beq_iff_eq.mpr c7
     have c7b1 : (a0_8 != a1_8) = false := bne_eq_false_iff_eq.mpr c7
     clear c7
     by_cases c8 : a0_9 = a1_9
     rotate_left
     focus
      rw [if_neg c8] at H
      have c8b0 : (a0_9 == a1_9) = false := beq_eq_false_iff_ne.mpr c8
      have c8b1 : (a0_9 != a1_9) = true := bne_iff_ne.mpr c8
      obtain rfl := Option.some.inj H
     rotate_right
     focus
      rw [if_pos c8] at H
      have c8b0 : (a0_9 == a1_9) = true := beq_iff_eq.mpr c8
      have c8b1 : (a0_9 != a1_9) = false := bne_eq_false_iff_eq.mpr c8
      clear c8
      obtain rfl := Option.some.inj H
 all_goals
  go_enter Tryz.func14, Tryz.ntmps14
  go_wp2_with (first | ((with_reducible refine zd 2 rfl ?_); refine zbx (w := w) #[.int .i64 a0_0, .int .i64 a0_1, .int .i64 a0_2, .string a0_3, .slice A0_4 l0_4.length c0_4, .slice A0_5 l0_5.length c0_5, .int .i64 a0_6, .string a0_7, .int .i64 a0_8, .int .i64 a0_9] 37 ?_; intro gb195 hg w1000 BK195 hb; have GW195 := zg (w := w) hg; replace HB := zB hb; clear hb hg) | ((with_reducible refine zd 3 rfl ?_); refine zbx (w := w) #[.int .i64 a1_0, .int .i64 a1_1, .int .i64 a1_2, .string a1_3, .slice A1_4 l1_4.length c1_4, .slice A1_5 l1_5.length c1_5, .int .i64 a1_6, .string a1_7, .int .i64 a1_8, .int .i64 a1_9] 37 ?_; intro gb196 hg w1001 BK196 hb; have GW196 := zg (w := w) hg; replace HB := zB hb; have NB195_196 := zn hg BK195; have NB196_195 := zm hg BK195; replace BK195 := zk BK195 hb; clear hb hg; have hnb19 := NB195_196.out; have hnc19 := NB196_195.out; have ⟨_, _, _, _, _, _, _, _, _, _, _, _, _, _, _, _, _, _, _, _⟩ := cz10 BK195; have ⟨_, _, _, _, _, _, _, _, _, _, _, _, _, _, _, _, _, _, _, _⟩ := cz10 BK196) | ((with_reducible refine zd 14 rfl ?_); refine zgl Tryz.func39 (laws_eqPuzzle.calls k a0_1 a0_2 a0_3 _ _ l0_4 _ _ l0_5 a0_6 a1_1 a1_2 a1_3 _ _ l1_4 _ _ l1_5 a1_6 _ _ (zC HR0_4) HC0_4.out (zC HR0_5) HC0_5.out (zC HR1_4) HC1_4.out (zC HR1_5) HC1_5.out A4.out) ?_; rintro e w1002 ⟨rfl, hb⟩; refine ⟨_, rfl, ?_⟩; replace BK195 := zk BK195 hb; replace BK196 := zk BK196 hb; replace HB := zB hb; have ⟨_, _, _, _, _, _, _, _, _, _, _, _, _, _, _, _, _, _, _, _⟩ := cz10 BK195; have ⟨_, _, _, _, _, _, _, _, _, _, _, _, _, _, _, _, _, _, _, _⟩ := cz10 BK196) | ((with_reducible refine zd 3 rfl ?_); refine zbx (w := w) #[.int .i64 a1_0, .int .i64 a1_1, .int .i64 a1_2, .string a1_3, .slice A1_4 l1_4.length c1_4, .slice A1_5 l1_5.length c1_5, .int .i64 a1_6, .string a1_7, .int .i64 a1_8, .int .i64 a1_9] 37 ?_; intro gb196 hg w1001 BK196 hb; have GW196 := zg (w := w) hg; replace HB := zB hb; have NB195_196 := zn hg BK195; have NB196_195 := zm hg BK195; replace BK195 := zk BK195 hb; clear hb hg; have hnb35 := NB195_196.out; have hnc35 := NB196_195.out; have ⟨_, _, _, _, _, _, _, _, _, _, _, _, _, _, _, _, _, _, _, _⟩ := cz10 BK195; have ⟨_, _, _, _, _, _, _, _, _, _, _, _, _, _, _, _, _, _, _, _⟩ := cz10 BK196) | ((with_reducible refine zd 3 rfl ?_); refine zbx (w := w) #[.int .i64 a1_0, .int .i64 a1_1, .int .i64 a1_2, .string a1_3, .slice A1_4 l1_4.length c1_4, .slice A1_5 l1_5.length c1_5, .int .i64 a1_6, .string a1_7, .int .i64 a1_8, .int .i64 a1_9] 37 ?_; intro gb196 hg w1001 BK196 hb; have GW196 := zg (w := w) hg; replace HB := zB hb; have NB195_196 := zn hg BK195; have NB196_195 := zm hg BK195; replace BK195 := zk BK195 hb; clear hb hg; have hnb27 := NB195_196.out; have hnc27 := NB196_195.out; have ⟨_, _, _, _, _, _, _, _, _, _, _, _, _, _, _, _, _, _, _, _⟩ := cz10 BK195; have ⟨_, _, _, _, _, _, _, _, _, _, _, _, _, _, _, _, _, _, _, _⟩ := cz10 BK196) | ((with_reducible refine zd 3 rfl ?_); refine zbx (w := w) #[.int .i64 a1_0, .int .i64 a1_1, .int .i64 a1_2, .string a1_3, .slice A1_4 l1_4.length c1_4, .slice A1_5 l1_5.length c1_5, .int .i64 a1_6, .string a1_7, .int .i64 a1_8, .int .i64 a1_9] 37 ?_; intro gb196 hg w1001 BK196 hb; have GW196 := zg (w := w) hg; replace HB := zB hb; have NB195_196 := zn hg BK195; have NB196_195 := zm hg BK195; replace BK195 := zk BK195 hb; clear hb hg; have hnb11 := NB195_196.out; have hnc11 := NB196_195.out; have ⟨_, _, _, _, _, _, _, _, _, _, _, _, _, _, _, _, _, _, _, _⟩ := cz10 BK195; have ⟨_, _, _, _, _, _, _, _, _, _, _, _, _, _, _, _, _, _, _, _⟩ := cz10 BK196) | ((with_reducible refine zd 3 rfl ?_); refine zbx (w := w) #[.int .i64 a1_0, .int .i64 a1_1, .int .i64 a1_2, .string a1_3, .slice A1_4 l1_4.length c1_4, .slice A1_5 l1_5.length c1_5, .int .i64 a1_6, .string a1_7, .int .i64 a1_8, .int .i64 a1_9] 37 ?_; intro gb196 hg w1001 BK196 hb; have GW196 := zg (w := w) hg; replace HB := zB hb; have NB195_196 := zn hg BK195; have NB196_195 := zm hg BK195; replace BK195 := zk BK195 hb; clear hb hg; have hnb43 := NB195_196.out; have hnc43 := NB196_195.out; have ⟨_, _, _, _, _, _, _, _, _, _, _, _, _, _, _, _, _, _, _, _⟩ := cz10 BK195; have ⟨_, _, _, _, _, _, _, _, _, _, _, _, _, _, _, _, _, _, _, _⟩ := cz10 BK196) | ((with_reducible refine zd 14 rfl ?_); refine zgl Tryz.func39 (laws_eqPuzzle.calls k a0_1 a0_2 a0_3 _ _ l0_4 _ _ l0_5 a0_6 a1_1 a1_2 a1_3 _ _ l1_4 _ _ l1_5 a1_6 _ _ (zC HR0_4) HC0_4.out (zC HR0_5) HC0_5.out (zC HR1_4) HC1_4.out (zC HR1_5) HC1_5.out A4.out) ?_; rintro e w1002 ⟨rfl, hb⟩; refine ⟨_, rfl, ?_⟩; replace BK195 := zk BK195 hb; replace BK196 := zk BK196 hb; replace HB := zB hb) | ((with_reducible refine zd 3 rfl ?_); refine zbx (w := w) #[.int .i64 a1_0, .int .i64 a1_1, .int .i64 a1_2, .string a1_3, .slice A1_4 l1_4.length c1_4, .slice A1_5 l1_5.length c1_5, .int .i64 a1_6, .string a1_7, .int .i64 a1_8, .int .i64 a1_9] 37 ?_; intro gb196 hg w1001 BK196 hb; have GW196 := zg (w := w) hg; replace HB := zB hb; have NB195_196 := zn hg BK195; have NB196_195 := zm hg BK195; replace BK195 := zk BK195 hb; clear hb hg; have hnb49 := NB195_196.out; have hnc49 := NB196_195.out; have ⟨_, _, _, _, _, _, _, _, _, _, _, _, _, _, _, _, _, _, _, _⟩ := cz10 BK195; have ⟨_, _, _, _, _, _, _, _, _, _, _, _, _, _, _, _, _, _, _, _⟩ := cz10 BK196))
  go_ret
  exact ⟨er, bel⟩

/-! ### laws_szCorrection: function 55 -/
def laws_szCorrection.f (k : Nat) (a b c : Int) (d : List (S152)) (e f : Int) : Option (Int) := (laws_szClue.f k c d f).bind fun g => (if g < 0 then (some (-1)) else (some g))
set_option maxHeartbeats 8000000 in
set_option maxRecDepth 100000 in
theorem laws_szCorrection.calls (k : Nat) (a0_0 a0_1 a0_2 : Int) (A0_3 : Option Addr) (c0_3 : Nat) (l0_3 : List (S152)) (a0_4 a1 r : Int) (w : World) (hr0_3 : Kd.C k152 w A0_3 l0_3.length l0_3) (hc0_3 : l0_3.length ≤ c0_3) (H : laws_szCorrection.f k a0_0 a0_1 a0_2 l0_3 a0_4 a1 = some r) :
  Calls Tryz.prog 55 #[.agg #[.int .i64 a0_0, .int .i64 a0_1, .int .i64 a0_2, .slice A0_3 l0_3.length c0_3, .int .i64 a0_4], .int .i64 a1] w fun e w' => e = .returned (.int .i64 r) ∧ Below w.heap.size w w' := by
 have hu85 := Tryz.underlying85
 have hu83 := Tryz.underlying83
 have HR0_3 := Aside0.mk hr0_3
 have HC0_3 := Aside0.mk hc0_3
 clear hr0_3 hc0_3
 have HB := Aside0.mk (Below.refl w.heap.size w)
 unfold laws_szCorrection.f at H
 replace H := zs H
 obtain ⟨t199, A3, H⟩ := H
 replace H := zc H
 rcases H with ⟨c4b0, H⟩ | ⟨c4b0, H⟩
 rotate_left
 focus
  obtain rfl := Option.some.inj H
 rotate_right
 focus
  obtain rfl := Option.some.inj H
 all_goals
  go_enter Tryz.func55, Tryz.ntmps55
  go_wp2_with (first | ((with_reducible refine zd 2 rfl ?_); refine zbx (w := w) #[.int .i64 a0_0, .int .i64 a0_1, .int .i64 a0_2, .slice A0_3 l0_3.length c0_3, .int .i64 a0_4] 85 ?_; intro gb198 hg w1000 BK198 hb; have GW198 := zg (w := w) hg; replace HB := zB hb; clear hb hg; have ⟨_, _, _, _, _, _, _, _, _, _⟩ := cz5 BK198) | ((with_reducible refine zd 8 rfl ?_); refine zgl Tryz.func92 (laws_szClue.calls k a0_2 _ _ l0_3 a1 t199 _ (zC HR0_3) HC0_3.out A3.out) ?_; rintro e w1001 ⟨rfl, hb⟩; refine ⟨_, rfl, ?_⟩; replace BK198 := zk BK198 hb; replace HB := zB hb))
  go_ret
  exact ⟨er, bel⟩

/-! ### laws_szCorrectionS: function 23 -/
def laws_szCorrectionS.l0 : Nat → List (S85) → Int → Int → Option (Int)
 | 0, _, _, _ => none
 | k + 1, a, b, c => if c < (a.length : Int) then (if 0 ≤ c then ((laws_szCorrection.f k ((rd_T85 a c).f0) ((rd_T85 a c).f1) ((rd_T85 a c).f2.f0) ((rd_T85 a c).f2.f1) ((rd_T85 a c).f3) b).bind fun d => (if d < 0 then (some (-1)) else (laws_szCorrectionS.l0 k a d (wrap64 (c + 1))))) else (none)) else (some b)
def laws_szCorrectionS.f (k : Nat) (a : List (S85)) (b : Int) : Option (Int) := if (wrap64 (b - (a.length : Int))) < 0 then (some (-1)) else (laws_szCorrectionS.l0 k a (wrap64 (b - (a.length : Int))) 0)
set_option maxHeartbeats 8000000 in
set_option maxRecDepth 100000 in
theorem laws_szCorrectionS.calls (k : Nat) (A0 : Option Addr) (c0 : Nat) (l0 : List (S85)) (a1 r : Int) (w : World) (hr0 : Kd.C k85 w A0 l0.length l0) (hc0 : l0.length ≤ c0) (H : laws_szCorrectionS.f k l0 a1 = some r) :
  Calls Tryz.prog 23 #[.slice A0 l0.length c0, .int .i64 a1] w fun e w' => e = .returned (.int .i64 r) ∧ Below w.heap.size w w' := by
 have hu85 := Tryz.underlying85
 have HR0 := Aside0.mk hr0
 have HC0 := Aside0.mk hc0
 clear hr0 hc0
 have HB := Aside0.mk (Below.refl w.heap.size w)
 unfold laws_szCorrectionS.f at H
 replace H := zc H
 rcases H with ⟨c3b0, H⟩ | ⟨c3b0, H⟩
 ·
  obtain rfl := Option.some.inj H
  go_enter Tryz.func23, Tryz.ntmps23
  go_wp2
  go_ret
  exact ⟨er, bel⟩
 ·
  have H' := Aside0.mk H
  clear H
  go_enter Tryz.func23, Tryz.ntmps23
  go_wp2
  go_loopg [1, 5] k (fun kq v1 v5 w' => ∃ (x1_1 : Int) (x5_1 : Int), v1 = .int .i64 x1_1 ∧ v5 = .int .i64 x5_1 ∧ Aside0 (laws_szCorrectionS.l0 kq l0 x1_1 x5_1 = some r) ∧ Aside0 (kq ≤ k) ∧ Aside0 (Below w.heap.size w w'))
  case atStart => exact ⟨(wrap64 (a1 - (l0.length : Int))), (0), rf, rf, H', ⟨Nat.le_refl _⟩, ⟨bel⟩⟩
  case round =>
   clear H'
   obtain ⟨x1_1, x5_1, rfl, rfl, HA, HK1, HB⟩ := hrel
   cases gk with
   | zero => exact absurd HA.out (by simp [laws_szCorrectionS.l0])
   | succ k1 =>
    have H := HA.out
    clear HA
    simp only [laws_szCorrectionS.l0] at H
    replace H := zc H
    rcases H with ⟨c4b0, H⟩ | ⟨c4b0, H⟩
    ·
     replace H := zr H
     obtain ⟨c5b0, H⟩ := H
     replace H := zs H
     obtain ⟨t201, A6, H⟩ := H
     replace H := zc H
     rcases H with ⟨c7b0, H⟩ | ⟨c7b0, H⟩
     ·
      obtain rfl := Option.some.inj H
      obtain ⟨p200, q200, ad200, A200_3, c200_3, e200, hx200_0, hx200_1, hx200_2, hx200_3, hx200_4, hl200_3, hi200_3⟩ := zx (at_T85 HR0.out x5_1)
      cases e200
      replace hx200_0 := zh HB hx200_0
      replace hx200_1 := zh HB hx200_1
      replace hx200_2 := zh HB hx200_2
      replace hx200_3 := zh HB hx200_3
      replace hx200_4 := zh HB hx200_4
      have HR200_3 := Aside0.mk hi200_3
      have HC200_3 := Aside0.mk hl200_3
      clear hi200_3 hl200_3
      go_wp2_with (first | ((with_reducible refine zd 23 rfl ?_); refine zgl Tryz.func55 (laws_szCorrection.calls k1 ((rd_T85 l0 x5_1).f0) ((rd_T85 l0 x5_1).f1) ((rd_T85 l0 x5_1).f2.f0) _ _ ((rd_T85 l0 x5_1).f2.f1) ((rd_T85 l0 x5_1).f3) x1_1 t201 _ (zC HR200_3) HC200_3.out A6.out) ?_; rintro e w8 ⟨rfl, hb⟩; refine ⟨_, rfl, ?_⟩; replace HB := zB hb))
      go_ret
      exact ⟨er, bel⟩
     ·
      have H' := Aside0.mk H
      clear H
      obtain ⟨p200, q200, ad200, A200_3, c200_3, e200, hx200_0, hx200_1, hx200_2, hx200_3, hx200_4, hl200_3, hi200_3⟩ := zx (at_T85 HR0.out x5_1)
      cases e200
      replace hx200_0 := zh HB hx200_0
      replace hx200_1 := zh HB hx200_1
      replace hx200_2 := zh HB hx200_2
      replace hx200_3 := zh HB hx200_3
      replace hx200_4 := zh HB hx200_4
      have HR200_3 := Aside0.mk hi200_3
      have HC200_3 := Aside0.mk hl200_3
      clear hi200_3 hl200_3
      go_wp2_with (first | ((with_reducible refine zd 23 rfl ?_); refine zgl Tryz.func55 (laws_szCorrection.calls k1 ((rd_T85 l0 x5_1).f0) ((rd_T85 l0 x5_1).f1) ((rd_T85 l0 x5_1).f2.f0) _ _ ((rd_T85 l0 x5_1).f2.f1) ((rd_T85 l0 x5_1).f3) x1_1 t201 _ (zC HR200_3) HC200_3.out A6.out) ?_; rintro e w9 ⟨rfl, hb⟩; refine ⟨_, rfl, ?_⟩; replace HB := zB hb))
      go_roundg k1
      case measure => have := HK1.out; omega
      case rel => exact ⟨(t201), (wrap64 (x5_1 + 1)), rf, rf, H', ⟨by have := HK1.out; omega⟩, ⟨bel⟩⟩
    ·
     obtain rfl := Option.some.inj H
     go_wp2
     go_ret
     exact ⟨er, bel⟩

/-! ### spec_l1In: function 45 -/
def spec_l1In.f (a b c : Int) : Option (Bool) := if a ≥ b then (some (decide (a ≤ c))) else (some false)
set_option maxHeartbeats 8000000 in
set_option maxRecDepth 100000 in
theorem spec_l1In.calls (a0 a1 a2 : Int) (r : Bool) (w : World) (H : spec_l1In.f a0 a1 a2 = some r) :
  Calls Tryz.prog 45 #[.int .i64 a0, .int .i64 a1, .int .i64 a2] w fun e w' => e = .returned (.bool r) ∧ Drawn0 w w' := by
 unfold spec_l1In.f at H
 replace H := zc H
 rcases H with ⟨c4b0, H⟩ | ⟨c4b0, H⟩
 rotate_left
 focus
  obtain rfl := Option.some.inj H
 rotate_right
 focus
  obtain rfl := Option.some.inj H
 all_goals
  go_enter Tryz.func45, Tryz.ntmps45
  go_wp2
  go_ret
  exact ⟨by first | rfl | (simp; done) | (simp [*]; done), by repeat (first | exact Drawn0.refl _ | apply Drawn0.step)⟩

end Go.Proofs.YtpcdfjcbjbkliaaGreat.E
