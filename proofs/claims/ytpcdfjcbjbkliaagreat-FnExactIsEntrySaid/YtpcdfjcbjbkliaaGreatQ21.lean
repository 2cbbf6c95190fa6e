import Derived.Test.YtpcdfjcbjbkliaaGreatSq
import Derived.Test.YtpcdfjcbjbkliaaGreatQ0
import Derived.Test.YtpcdfjcbjbkliaaGreatQ20
namespace Go.Proofs.YtpcdfjcbjbkliaaGreat.E
open Go.RowKit Go.Proofs.YtpcdfjcbjbkliaaGreatW.PrintWords Go.Proofs.YtpcdfjcbjbkliaaGreatW.PrintLast Go.Proofs.YtpcdfjcbjbkliaaGreatW.PrintMore
attribute [local go_sem] max2_int min2_int max_two min_two max_three min_three max_four min_four
set_option linter.unusedVariables false
set_option linter.unusedSimpArgs false

/-! ### laws_eqStepS: function 124 -/
def laws_eqStepS.l0 : Nat → List (S121) → List (S121) → Int → Option (Bool)
 | 0, _, _, _ => none
 | k + 1, x0, x1, x5 => if x5 < (x0.length : Int) then (if 0 ≤ x5 then (if x5 < (x1.length : Int) then ((laws_eqStep.f ((rd_T121 x0 x5).f0) ((rd_T121 x0 x5).f1) ((rd_T121 x0 x5).f2) ((rd_T121 x0 x5).f3) ((rd_T121 x1 x5).f0) ((rd_T121 x1 x5).f1) ((rd_T121 x1 x5).f2) ((rd_T121 x1 x5).f3)).bind fun t589 => (if t589 = true then (laws_eqStepS.l0 k x0 x1 (wrap64 (x5 + 1))) else (some false))) else (none)) else (none)) else (some true)
def laws_eqStepS.f (k : Nat) (l0 : List (S121)) (l1 : List (S121)) : Option (Bool) := if (l0.length : Int) = (l1.length : Int) then (laws_eqStepS.l0 k l0 l1 0) else (some false)
def laws_eqStepS.T6 : Bool × List (List Nat × List Nat) := (true, [([], []), ([], []), ([0, 1], [0, 1]), ([2], [2]), ([], []), ([], []), ([4, 5], [4, 5]), ([6], [6]), ([3, 7], [3, 7]), ([8], [8])])
theorem laws_eqStepS.tab6 : rtab .any (opsOf Tryz.f124 6) = laws_eqStepS.T6 := by kernel_rfl
set_option maxHeartbeats 8000000 in
set_option maxRecDepth 100000 in
theorem laws_eqStepS.calls (k : Nat) (A0 : Option Addr) (c0 : Nat) (l0 : List (S121)) (A1 : Option Addr) (c1 : Nat) (l1 : List (S121)) (r : Bool) (w : World) (hr0 : Kd.C k121 w A0 l0.length l0) (hc0 : l0.length ≤ c0) (hr1 : Kd.C k121 w A1 l1.length l1) (hc1 : l1.length ≤ c1) (H : laws_eqStepS.f k l0 l1 = some r) :
  Calls Tryz.prog 124 #[.slice A0 l0.length c0, .slice A1 l1.length c1] w fun e w' => e = .returned (.bool r) ∧ Below w.heap.size w w' := by
 have hu121 := Tryz.underlying121
 have HR0 := Aside0.mk hr0
 have HC0 := Aside0.mk hc0
 clear hr0 hc0
 have HR1 := Aside0.mk hr1
 have HC1 := Aside0.mk hc1
 clear hr1 hc1
 have HB := Aside0.mk (Below.refl w.heap.size w)
 unfold laws_eqStepS.f at H
 by_cases c3 : (l0.length : Int) = (l1.length : Int)
 ·
  rw [if_pos c3] at H
  have c3b0 : ((l0.length : Int) == (l1.length : Int)) = true := beq_iff_eq.mpr c3
  have c3b1 : ((l0.length : Int) != (l1.length : Int)) = false := bne_eq_false_iff_eq.mpr c3
  have c3b2 : (l0.length == l1.length) = true := by first | simpa using c3 | (simp at c3 ⊢; omega)
  clear c3
  have H' := Aside0.mk H
  clear H
  go_enter Tryz.func124, Tryz.ntmps124
  go_wp2
  go_loopg [5] k (fun kq v5 w' => ∃ (x5_1 : Int), v5 = .int .i64 x5_1 ∧ Aside0 (laws_eqStepS.l0 kq l0 l1 x5_1 = some r) ∧ Aside0 (kq ≤ k) ∧ Aside0 (Below w.heap.size w w'))
  case atStart => exact ⟨(0), rf, H', ⟨Nat.le_refl _⟩, ⟨bel⟩⟩
  case round =>
   clear H'
   obtain ⟨x5_1, rfl, HA, HK1, HB⟩ := hrel
   cases gk with
   | zero => exact absurd HA.out (by simp [laws_eqStepS.l0])
   | succ k1 =>
    have H := HA.out
    clear HA
    simp only [laws_eqStepS.l0] at H
    replace H := zc H
    rcases H with ⟨c4b0, H⟩ | ⟨c4b0, H⟩
    ·
     replace H := zr H
     obtain ⟨c5b0, H⟩ := H
     replace H := zr H
     obtain ⟨c6b0, H⟩ := H
     replace H := zs H
     obtain ⟨t589, A7, H⟩ := H
     replace H := zb H
     rcases H with ⟨rfl, H⟩ | ⟨rfl, H⟩
     ·
      have H' := Aside0.mk H
      clear H
      try go_wp2
      replace HB := zBd HB
      obtain ⟨p587, q587, ad587, e587, hx587_0, hx587_1, hx587_2, hx587_3⟩ := zx (at_T121 HR0.out x5_1)
      have hw587_3 := hx587_3
      have hw587_2 := hx587_2
      have hw587_1 := hx587_1
      have hw587_0 := hx587_0
      cases e587
      replace hx587_0 := zh HB hx587_0
      replace hx587_1 := zh HB hx587_1
      replace hx587_2 := zh HB hx587_2
      replace hx587_3 := zh HB hx587_3
      obtain ⟨p588, q588, ad588, e588, hx588_0, hx588_1, hx588_2, hx588_3⟩ := zx (at_T121 HR1.out x5_1)
      have hw588_3 := hx588_3
      have hw588_2 := hx588_2
      have hw588_1 := hx588_1
      have hw588_0 := hx588_0
      cases e588
      replace hx588_0 := zh HB hx588_0
      replace hx588_1 := zh HB hx588_1
      replace hx588_2 := zh HB hx588_2
      replace hx588_3 := zh HB hx588_3
      refine zst 10 laws_eqStepS.tab6 (zhc (((HB.out.cell (World.block_lt_of_cell? w _ hw587_0)).trans hw587_0)) <| zhc (((HB.out.cell (World.block_lt_of_cell? w _ hw587_1)).trans hw587_1)) <| zhc (((HB.out.cell (World.block_lt_of_cell? w _ hw587_2)).trans hw587_2)) <| zhc (((HB.out.cell (World.block_lt_of_cell? w _ hw587_3)).trans hw587_3)) <| zhc (((HB.out.cell (World.block_lt_of_cell? w _ hw588_0)).trans hw588_0)) <| zhc (((HB.out.cell (World.block_lt_of_cell? w _ hw588_1)).trans hw588_1)) <| zhc (((HB.out.cell (World.block_lt_of_cell? w _ hw588_2)).trans hw588_2)) <| zhc (((HB.out.cell (World.block_lt_of_cell? w _ hw588_3)).trans hw588_3)) <| zn0) fun hHeld HT_ => ?_
      generalize wr.drew = w9 at HB hx587_0 hx587_1 hx587_2 hx587_3 hx588_0 hx588_1 hx588_2 hx588_3 hHeld ⊢
      repeat (first | refine zs1 ?_ | (refine zcl Tryz.func146 (laws_eqStep.calls ((rd_T121 l0 x5_1).f0) ((rd_T121 l0 x5_1).f1) ((rd_T121 l0 x5_1).f2) ((rd_T121 l0 x5_1).f3) ((rd_T121 l1 x5_1).f0) ((rd_T121 l1 x5_1).f1) ((rd_T121 l1 x5_1).f2) ((rd_T121 l1 x5_1).f3) true _ A7.out) ?_; rintro e w10 ⟨rfl, hb⟩; replace HB := zB hb; refine ⟨_, rfl, zHb hb hHeld, _, znb, fun hHeld => ?_⟩))
      refine zdn ?_
      try go_wp2
      go_roundg k1
      case measure => have := HK1.out; omega
      case rel => exact ⟨(wrap64 (x5_1 + 1)), rf, H', ⟨by have := HK1.out; omega⟩, ⟨bel⟩⟩
     ·
      obtain rfl := Option.some.inj H
      try go_wp2
      replace HB := zBd HB
      obtain ⟨p587, q587, ad587, e587, hx587_0, hx587_1, hx587_2, hx587_3⟩ := zx (at_T121 HR0.out x5_1)
      have hw587_3 := hx587_3
      have hw587_2 := hx587_2
      have hw587_1 := hx587_1
      have hw587_0 := hx587_0
      cases e587
      replace hx587_0 := zh HB hx587_0
      replace hx587_1 := zh HB hx587_1
      replace hx587_2 := zh HB hx587_2
      replace hx587_3 := zh HB hx587_3
      obtain ⟨p588, q588, ad588, e588, hx588_0, hx588_1, hx588_2, hx588_3⟩ := zx (at_T121 HR1.out x5_1)
      have hw588_3 := hx588_3
      have hw588_2 := hx588_2
      have hw588_1 := hx588_1
      have hw588_0 := hx588_0
      cases e588
      replace hx588_0 := zh HB hx588_0
      replace hx588_1 := zh HB hx588_1
      replace hx588_2 := zh HB hx588_2
      replace hx588_3 := zh HB hx588_3
      refine zst 10 laws_eqStepS.tab6 (zhc (((HB.out.cell (World.block_lt_of_cell? w _ hw587_0)).trans hw587_0)) <| zhc (((HB.out.cell (World.block_lt_of_cell? w _ hw587_1)).trans hw587_1)) <| zhc (((HB.out.cell (World.block_lt_of_cell? w _ hw587_2)).trans hw587_2)) <| zhc (((HB.out.cell (World.block_lt_of_cell? w _ hw587_3)).trans hw587_3)) <| zhc (((HB.out.cell (World.block_lt_of_cell? w _ hw588_0)).trans hw588_0)) <| zhc (((HB.out.cell (World.block_lt_of_cell? w _ hw588_1)).trans hw588_1)) <| zhc (((HB.out.cell (World.block_lt_of_cell? w _ hw588_2)).trans hw588_2)) <| zhc (((HB.out.cell (World.block_lt_of_cell? w _ hw588_3)).trans hw588_3)) <| zn0) fun hHeld HT_ => ?_
      generalize wr.drew = w11 at HB hx587_0 hx587_1 hx587_2 hx587_3 hx588_0 hx588_1 hx588_2 hx588_3 hHeld ⊢
      repeat (first | refine zs1 ?_ | (refine zcl Tryz.func146 (laws_eqStep.calls ((rd_T121 l0 x5_1).f0) ((rd_T121 l0 x5_1).f1) ((rd_T121 l0 x5_1).f2) ((rd_T121 l0 x5_1).f3) ((rd_T121 l1 x5_1).f0) ((rd_T121 l1 x5_1).f1) ((rd_T121 l1 x5_1).f2) ((rd_T121 l1 x5_1).f3) false _ A7.out) ?_; rintro e w12 ⟨rfl, hb⟩; replace HB := zB hb; refine ⟨_, rfl, zHb hb hHeld, _, znb, fun hHeld => ?_⟩))
      refine zdn ?_
      try go_wp2
      go_ret
      exact ⟨er, bel⟩
    ·
     obtain rfl := Option.some.inj H
     go_wp2
     go_ret
     exact ⟨er, bel⟩
 ·
  rw [if_neg c3] at H
  have c3b0 : ((l0.length : Int) == (l1.length : Int)) = false := beq_eq_false_iff_ne.mpr c3
  have c3b1 : ((l0.length : Int) != (l1.length : Int)) = true := bne_iff_ne.mpr c3
  have c3b2 : (l0.length == l1.length) = false := by first | simpa using c3 | (simp at c3 ⊢; omega)
  obtain rfl := Option.some.inj H
  go_enter Tryz.func124, Tryz.ntmps124
  go_wp2
  go_ret
  exact ⟨er, bel⟩

/-! ### laws_eqClue: function 95 -/
def laws_eqClue.f (k : Nat) (a0_0 : Int) (l0_1 : List (S121)) (a1_0 : Int) (l1_1 : List (S121)) : Option (Bool) := if a0_0 = a1_0 then ((laws_eqStepS.f k l0_1 l1_1).bind fun t592 => (if t592 = true then (some true) else (some false))) else (some false)
set_option maxHeartbeats 8000000 in
set_option maxRecDepth 100000 in
theorem laws_eqClue.calls (k : Nat) (a0_0 : Int) (A0_1 : Option Addr) (c0_1 : Nat) (l0_1 : List (S121)) (a1_0 : Int) (A1_1 : Option Addr) (c1_1 : Nat) (l1_1 : List (S121)) (r : Bool) (w : World) (hr0_1 : Kd.C k121 w A0_1 l0_1.length l0_1) (hc0_1 : l0_1.length ≤ c0_1) (hr1_1 : Kd.C k121 w A1_1 l1_1.length l1_1) (hc1_1 : l1_1.length ≤ c1_1) (H : laws_eqClue.f k a0_0 l0_1 a1_0 l1_1 = some r) :
  Calls Tryz.prog 95 #[.agg #[.int .i64 a0_0, .slice A0_1 l0_1.length c0_1], .agg #[.int .i64 a1_0, .slice A1_1 l1_1.length c1_1]] w fun e w' => e = .returned (.bool r) ∧ Below w.heap.size w w' := by
 have hu89 := Tryz.underlying89
 have HR0_1 := Aside0.mk hr0_1
 have HC0_1 := Aside0.mk hc0_1
 clear hr0_1 hc0_1
 have HR1_1 := Aside0.mk hr1_1
 have HC1_1 := Aside0.mk hc1_1
 clear hr1_1 hc1_1
 have HB := Aside0.mk (Below.refl w.heap.size w)
 unfold laws_eqClue.f at H
 by_cases c3 : a0_0 = a1_0
 rotate_left
 focus
  rw [if_neg c3] at H
  have c3b0 : (a0_0 == a1_0) = false := beq_eq_false_iff_ne.mpr c3
  have c3b1 : (a0_0 != a1_0) = true := bne_iff_ne.mpr c3
  obtain rfl := Option.some.inj H
 rotate_right
 focus
  rw [if_pos c3] at H
  have c3b0 : (a0_0 == a1_0) = true := beq_iff_eq.mpr c3
  have c3b1 : (a0_0 != a1_0) = false := bne_eq_false_iff_eq.mpr c3
  clear c3
  replace H := zs H
  obtain ⟨t592, A4, H⟩ := H
  replace H := zb H
  rcases H with ⟨rfl, H⟩ | ⟨rfl, H⟩
  rotate_left
  focus
   obtain rfl := Option.some.inj H
  rotate_right
  focus
   obtain rfl := Option.some.inj H
 all_goals
  go_enter Tryz.func95, Tryz.ntmps95
  go_wp2_with (first | ((with_reducible refine zd 2 rfl ?_); refine zbx (w := w) #[.int .i64 a0_0, .slice A0_1 l0_1.length c0_1] 89 ?_; intro gb590 hg w1000 BK590 hb; have GW590 := zg (w := w) hg; replace HB := zB hb; clear hb hg) | ((with_reducible refine zd 3 rfl ?_); refine zbx (w := w) #[.int .i64 a1_0, .slice A1_1 l1_1.length c1_1] 89 ?_; intro gb591 hg w1001 BK591 hb; have GW591 := zg (w := w) hg; replace HB := zB hb; have NB590_591 := zn hg BK590; have NB591_590 := zm hg BK590; replace BK590 := zk BK590 hb; clear hb hg; have hnb14 := NB590_591.out; have hnc14 := NB591_590.out; have ⟨_, _, _, _⟩ := cz2 BK590; have ⟨_, _, _, _⟩ := cz2 BK591) | ((with_reducible refine zd 14 rfl ?_); refine zgl Tryz.func124 (laws_eqStepS.calls k _ _ l0_1 _ _ l1_1 _ _ (zC HR0_1) HC0_1.out (zC HR1_1) HC1_1.out A4.out) ?_; rintro e w1002 ⟨rfl, hb⟩; refine ⟨_, rfl, ?_⟩; replace BK590 := zk BK590 hb; replace BK591 := zk BK591 hb; replace HB := zB hb) | ((with_reducible refine zd 3 rfl ?_); refine zbx (w := w) #[.int .i64 a1_0, .slice A1_1 l1_1.length c1_1] 89 ?_; intro gb591 hg w1001 BK591 hb; have GW591 := zg (w := w) hg; replace HB := zB hb; have NB590_591 := zn hg BK590; have NB591_590 := zm hg BK590; replace BK590 := zk BK590 hb; clear hb hg; have hnb8 := NB590_591.out; have hnc8 := NB591_590.out; have ⟨_, _, _, _⟩ := cz2 BK590; have ⟨_, _, _, _⟩ := cz2 BK591) | ((with_reducible refine zd 3 rfl ?_); refine zbx (w := w) #[.int .i64 a1_0, .slice A1_1 l1_1.length c1_1] 89 ?_; intro gb591 hg w1001 BK591 hb; have GW591 := zg (w := w) hg; replace HB := zB hb; have NB590_591 := zn hg BK590; have NB591_590 := zm hg BK590; replace BK590 := zk BK590 hb; clear hb hg; have hnb20 := NB590_591.out; have hnc20 := NB591_590.out; have ⟨_, _, _, _⟩ := cz2 BK590; have ⟨_, _, _, _⟩ := cz2 BK591))
  go_ret
  exact ⟨er, bel⟩

/-! ### laws_eqClueS: function 74 -/
def laws_eqClueS.l0 : Nat → List (S89) → List (S89) → Int → Option (Bool)
 | 0, _, _, _ => none
 | k + 1, x0, x1, x5 => if x5 < (x0.length : Int) then (if 0 ≤ x5 then (if x5 < (x1.length : Int) then ((laws_eqClue.f k ((rd_T89 x0 x5).f0) ((rd_T89 x0 x5).f1) ((rd_T89 x1 x5).f0) ((rd_T89 x1 x5).f1)).bind fun t595 => (if t595 = true then (laws_eqClueS.l0 k x0 x1 (wrap64 (x5 + 1))) else (some false))) else (none)) else (none)) else (some true)
def laws_eqClueS.f (k : Nat) (l0 : List (S89)) (l1 : List (S89)) : Option (Bool) := if (l0.length : Int) = (l1.length : Int) then (laws_eqClueS.l0 k l0 l1 0) else (some false)
def laws_eqClueS.T6 : Bool × List (List Nat × List Nat) := (true, [([], []), ([], []), ([0, 1], [0, 1]), ([2], [2]), ([], []), ([], []), ([4, 5], [4, 5]), ([6], [6]), ([3, 7], [3, 7]), ([8], [8])])
theorem laws_eqClueS.tab6 : rtab .any (opsOf Tryz.f74 6) = laws_eqClueS.T6 := by kernel_rfl
set_option maxHeartbeats 8000000 in
set_option maxRecDepth 100000 in
theorem laws_eqClueS.calls (k : Nat) (A0 : Option Addr) (c0 : Nat) (l0 : List (S89)) (A1 : Option Addr) (c1 : Nat) (l1 : List (S89)) (r : Bool) (w : World) (hr0 : Kd.C k89 w A0 l0.length l0) (hc0 : l0.length ≤ c0) (hr1 : Kd.C k89 w A1 l1.length l1) (hc1 : l1.length ≤ c1) (H : laws_eqClueS.f k l0 l1 = some r) :
  Calls Tryz.prog 74 #[.slice A0 l0.length c0, .slice A1 l1.length c1] w fun e w' => e = .returned (.bool r) ∧ Below w.heap.size w w' := by
 have hu89 := Tryz.underlying89
 have HR0 := Aside0.mk hr0
 have HC0 := Aside0.mk hc0
 clear hr0 hc0
 have HR1 := Aside0.mk hr1
 have HC1 := Aside0.mk hc1
 clear hr1 hc1
 have HB := Aside0.mk (Below.refl w.heap.size w)
 unfold laws_eqClueS.f at H
 by_cases c3 : (l0.length : Int) = (l1.length : Int)
 ·
  rw [if_pos c3] at H
  have c3b0 : ((l0.length : Int) == (l1.length : Int)) = true := beq_iff_eq.mpr c3
  have c3b1 : ((l0.length : Int) != (l1.length : Int)) = false := bne_eq_false_iff_eq.mpr c3
  have c3b2 : (l0.length == l1.length) = true := by first | simpa using c3 | (simp at c3 ⊢; omega)
  clear c3
  have H' := Aside0.mk H
  clear H
  go_enter Tryz.func74, Tryz.ntmps74
  go_wp2
  go_loopg [5] k (fun kq v5 w' => ∃ (x5_1 : Int), v5 = .int .i64 x5_1 ∧ Aside0 (laws_eqClueS.l0 kq l0 l1 x5_1 = some r) ∧ Aside0 (kq ≤ k) ∧ Aside0 (Below w.heap.size w w'))
  case atStart => exact ⟨(0), rf, H', ⟨Nat.le_refl _⟩, ⟨bel⟩⟩
  case round =>
   clear H'
   obtain ⟨x5_1, rfl, HA, HK1, HB⟩ := hrel
   cases gk with
   | zero => exact absurd HA.out (by simp [laws_eqClueS.l0])
   | succ k1 =>
    have H := HA.out
    clear HA
    simp only [laws_eqClueS.l0] at H
    replace H := zc H
    rcases H with ⟨c4b0, H⟩ | ⟨c4b0, H⟩
    ·
     replace H := zr H
     obtain ⟨c5b0, H⟩ := H
     replace H := zr H
     obtain ⟨c6b0, H⟩ := H
     replace H := zs H
     obtain ⟨t595, A7, H⟩ := H
     replace H := zb H
     rcases H with ⟨rfl, H⟩ | ⟨rfl, H⟩
     ·
      have H' := Aside0.mk H
      clear H
      try go_wp2
      replace HB := zBd HB
      obtain ⟨p593, q593, ad593, A593_1, c593_1, e593, hx593_0, hx593_1, hl593_1, hi593_1⟩ := zx (at_T89 HR0.out x5_1)
      have hw593_1 := hx593_1
      have hw593_0 := hx593_0
      cases e593
      replace hx593_0 := zh HB hx593_0
      replace hx593_1 := zh HB hx593_1
      have HR593_1 := Aside0.mk hi593_1
      have HC593_1 := Aside0.mk hl593_1
      clear hi593_1 hl593_1
      obtain ⟨p594, q594, ad594, A594_1, c594_1, e594, hx594_0, hx594_1, hl594_1, hi594_1⟩ := zx (at_T89 HR1.out x5_1)
      have hw594_1 := hx594_1
      have hw594_0 := hx594_0
      cases e594
      replace hx594_0 := zh HB hx594_0
      replace hx594_1 := zh HB hx594_1
      have HR594_1 := Aside0.mk hi594_1
      have HC594_1 := Aside0.mk hl594_1
      clear hi594_1 hl594_1
      refine zst 10 laws_eqClueS.tab6 (zhc (((HB.out.cell (World.block_lt_of_cell? w _ hw593_0)).trans hw593_0)) <| zhc (((HB.out.cell (World.block_lt_of_cell? w _ hw593_1)).trans hw593_1)) <| zhc (((HB.out.cell (World.block_lt_of_cell? w _ hw594_0)).trans hw594_0)) <| zhc (((HB.out.cell (World.block_lt_of_cell? w _ hw594_1)).trans hw594_1)) <| zn0) fun hHeld HT_ => ?_
      generalize wr.drew = w9 at HB HR593_1 HR594_1 hx593_0 hx593_1 hx594_0 hx594_1 hHeld ⊢
      repeat (first | refine zs1 ?_ | (refine zcl Tryz.func95 (laws_eqClue.calls k1 ((rd_T89 l0 x5_1).f0) _ _ ((rd_T89 l0 x5_1).f1) ((rd_T89 l1 x5_1).f0) _ _ ((rd_T89 l1 x5_1).f1) true _ (zC HR593_1) HC593_1.out (zC HR594_1) HC594_1.out A7.out) ?_; rintro e w10 ⟨rfl, hb⟩; replace HB := zB hb; refine ⟨_, rfl, zHb hb hHeld, _, znb, fun hHeld => ?_⟩))
      refine zdn ?_
      try go_wp2
      go_roundg k1
      case measure => have := HK1.out; omega
      case rel => exact ⟨(wrap64 (x5_1 + 1)), rf, H', ⟨by have := HK1.out; omega⟩, ⟨bel⟩⟩
     ·
      obtain rfl := Option.some.inj H
      try go_wp2
      replace HB := zBd HB
      obtain ⟨p593, q593, ad593, A593_1, c593_1, e593, hx593_0, hx593_1, hl593_1, hi593_1⟩ := zx (at_T89 HR0.out x5_1)
      have hw593_1 := hx593_1
      have hw593_0 := hx593_0
      cases e593
      replace hx593_0 := zh HB hx593_0
      replace hx593_1 := zh HB hx593_1
      have HR593_1 := Aside0.mk hi593_1
      have HC593_1 := Aside0.mk hl593_1
      clear hi593_1 hl593_1
      obtain ⟨p594, q594, ad594, A594_1, c594_1, e594, hx594_0, hx594_1, hl594_1, hi594_1⟩ := zx (at_T89 HR1.out x5_1)
      have hw594_1 := hx594_1
      have hw594_0 := hx594_0
      cases e594
      replace hx594_0 := zh HB hx594_0
      replace hx594_1 := zh HB hx594_1
      have HR594_1 := Aside0.mk hi594_1
      have HC594_1 := Aside0.mk hl594_1
      clear hi594_1 hl594_1
      refine zst 10 laws_eqClueS.tab6 (zhc (((HB.out.cell (World.block_lt_of_cell? w _ hw593_0)).trans hw593_0)) <| zhc (((HB.out.cell (World.block_lt_of_cell? w _ hw593_1)).trans hw593_1)) <| zhc (((HB.out.cell (World.block_lt_of_cell? w _ hw594_0)).trans hw594_0)) <| zhc (((HB.out.cell (World.block_lt_of_cell? w _ hw594_1)).trans hw594_1)) <| zn0) fun hHeld HT_ => ?_
      generalize wr.drew = w11 at HB HR593_1 HR594_1 hx593_0 hx593_1 hx594_0 hx594_1 hHeld ⊢
      repeat (first | refine zs1 ?_ | (refine zcl Tryz.func95 (laws_eqClue.calls k1 ((rd_T89 l0 x5_1).f0) _ _ ((rd_T89 l0 x5_1).f1) ((rd_T89 l1 x5_1).f0) _ _ ((rd_T89 l1 x5_1).f1) false _ (zC HR593_1) HC593_1.out (zC HR594_1) HC594_1.out A7.out) ?_; rintro e w12 ⟨rfl, hb⟩; replace HB := zB hb; refine ⟨_, rfl, zHb hb hHeld, _, znb, fun hHeld => ?_⟩))
      refine zdn ?_
      try go_wp2
      go_ret
      exact ⟨er, bel⟩
    ·
     obtain rfl := Option.some.inj H
     go_wp2
     go_ret
     exact ⟨er, bel⟩
 ·
  rw [if_neg c3] at H
  have c3b0 : ((l0.length : Int) == (l1.length : Int)) = false := beq_eq_false_iff_ne.mpr c3
  have c3b1 : ((l0.length : Int) != (l1.length : Int)) = true := bne_iff_ne.mpr c3
  have c3b2 : (l0.length == l1.length) = false := by first | simpa using c3 | (simp at c3 ⊢; omega)
  obtain rfl := Option.some.inj H
  go_enter Tryz.func74, Tryz.ntmps74
  go_wp2
  go_ret
  exact ⟨er, bel⟩

/-! ### laws_eqPuzzle: function 39 -/
def laws_eqPuzzle.f (k : Nat) (a0_0 : Int) (a0_1 : Int) (a0_2 : ByteArray) (l0_3 : List (S89)) (l0_4 : List Int) (a0_5 : Int) (a1_0 : Int) (a1_1 : Int) (a1_2 : ByteArray) (l1_3 : List (S89)) (l1_4 : List Int) (a1_5 : Int) : Option (Bool) := (laws_eqGrid.f a0_0 a0_1 a0_2 a1_0 a1_1 a1_2).bind fun t598 => (if t598 = true then ((laws_eqClueS.f k l0_3 l1_3).bind fun t599 => (if t599 = true then ((laws_eqIntS.f k l0_4 l1_4).bind fun t600 => (if t600 = true then (if a0_5 = a1_5 then (some true) else (some false)) else (some false))) else (some false))) else (some false))
set_option maxHeartbeats 8000000 in
set_option maxRecDepth 100000 in
theorem laws_eqPuzzle.calls (k : Nat) (a0_0 : Int) (a0_1 : Int) (a0_2 : ByteArray) (A0_3 : Option Addr) (c0_3 : Nat) (l0_3 : List (S89)) (A0_4 : Option Addr) (c0_4 : Nat) (l0_4 : List Int) (a0_5 : Int) (a1_0 : Int) (a1_1 : Int) (a1_2 : ByteArray) (A1_3 : Option Addr) (c1_3 : Nat) (l1_3 : List (S89)) (A1_4 : Option Addr) (c1_4 : Nat) (l1_4 : List Int) (a1_5 : Int) (r : Bool) (w : World) (hr0_3 : Kd.C k89 w A0_3 l0_3.length l0_3) (hc0_3 : l0_3.length ≤ c0_3) (hr0_4 : Kd.C (Kd.int .i64) w A0_4 l0_4.length l0_4) (hc0_4 : l0_4.length ≤ c0_4) (hr1_3 : Kd.C k89 w A1_3 l1_3.length l1_3) (hc1_3 : l1_3.length ≤ c1_3) (hr1_4 : Kd.C (Kd.int .i64) w A1_4 l1_4.length l1_4) (hc1_4 : l1_4.length ≤ c1_4) (H : laws_eqPuzzle.f k a0_0 a0_1 a0_2 l0_3 l0_4 a0_5 a1_0 a1_1 a1_2 l1_3 l1_4 a1_5 = some r) :
  Calls Tryz.prog 39 #[.agg #[.int .i64 a0_0, .int .i64 a0_1, .string a0_2, .slice A0_3 l0_3.length c0_3, .slice A0_4 l0_4.length c0_4, .int .i64 a0_5], .agg #[.int .i64 a1_0, .int .i64 a1_1, .string a1_2, .slice A1_3 l1_3.length c1_3, .slice A1_4 l1_4.length c1_4, .int .i64 a1_5]] w fun e w' => e = .returned (.bool r) ∧ Below w.heap.size w w' := by
 have hu35 := Tryz.underlying35
 have hu32 := Tryz.underlying32
 have HR0_3 := Aside0.mk hr0_3
 have HC0_3 := Aside0.mk hc0_3
 clear hr0_3 hc0_3
 have HR0_4 := Aside0.mk hr0_4
 have HC0_4 := Aside0.mk hc0_4
 clear hr0_4 hc0_4
 have HR1_3 := Aside0.mk hr1_3
 have HC1_3 := Aside0.mk hc1_3
 clear hr1_3 hc1_3
 have HR1_4 := Aside0.mk hr1_4
 have HC1_4 := Aside0.mk hc1_4
 clear hr1_4 hc1_4
 have HB := Aside0.mk (Below.refl w.heap.size w)
 unfold laws_eqPuzzle.f at H
 replace H := zs H
 obtain ⟨t598, A3, H⟩ := H
 replace H := zb H
 rcases H with ⟨rfl, H⟩ | ⟨rfl, H⟩
 rotate_left
 focus
  obtain rfl := Option.some.inj H
 rotate_right
 focus
  replace H := zs H
  obtain ⟨t599, A5, H⟩ := H
  replace H := zb H
  rcases H with ⟨rfl, H⟩ | ⟨rfl, H⟩
  rotate_left
  focus
   obtain rfl := Option.some.inj H
  rotate_right
  focus
   replace H := zs H
   obtain ⟨t600, A7, H⟩ := H
   replace H := zb H
   rcases H with ⟨rfl, H⟩ | ⟨rfl, H⟩
   rotate_left
   focus
    obtain rfl := Option.some.inj H
   rotate_right
   focus
    by_cases c9 : a0_5 = a1_5
    rotate_left
    focus
     rw [if_neg c9] at H
     have c9b0 : (a0_5 == a1_5) = false := beq_eq_false_iff_ne.mpr c9
     have c9b1 : (a0_5 != a1_5) = true := bne_iff_ne.mpr c9
     obtain rfl := Option.some.inj H
    rotate_right
    focus
     rw [if_pos c9] at H
     have c9b0 : (a0_5 == a1_5) = true := beq_iff_eq.mpr c9
     have c9b1 : (a0_5 != a1_5) = false := bne_eq_false_iff_eq.mpr c9
     clear c9
     obtain rfl := Option.some.inj H
 all_goals
  go_enter Tryz.func39, Tryz.ntmps39
  go_wp2_with (first | ((with_reducible refine zd 2 rfl ?_); refine zbx (w := w) #[.int .i64 a0_0, .int .i64 a0_1, .string a0_2, .slice A0_3 l0_3.length c0_3, .slice A0_4 l0_4.length c0_4, .int .i64 a0_5] 35 ?_; intro gb596 hg w1000 BK596 hb; have GW596 := zg (w := w) hg; replace HB := zB hb; clear hb hg) | ((with_reducible refine zd 3 rfl ?_); refine zbx (w := w) #[.int .i64 a1_0, .int .i64 a1_1, .string a1_2, .slice A1_3 l1_3.length c1_3, .slice A1_4 l1_4.length c1_4, .int .i64 a1_5] 35 ?_; intro gb597 hg w1001 BK597 hb; have GW597 := zg (w := w) hg; replace HB := zB hb; have NB596_597 := zn hg BK596; have NB597_596 := zm hg BK596; replace BK596 := zk BK596 hb; clear hb hg; have hnb34 := NB596_597.out; have hnc34 := NB597_596.out; have ⟨_, _, _, _, _, _, _, _, _, _, _, _⟩ := cz6 BK596; have ⟨_, _, _, _, _, _, _, _, _, _, _, _⟩ := cz6 BK597) | ((with_reducible refine zd 9 rfl ?_); refine zgl Tryz.func73 (laws_eqGrid.calls a0_0 a0_1 a0_2 a1_0 a1_1 a1_2 _ _ A3.out) ?_; rintro e w1002 ⟨rfl, hb⟩; refine ⟨_, rfl, ?_⟩; replace BK596 := zk BK596 hb; replace BK597 := zk BK597 hb; replace HB := zB hb; have ⟨_, _, _, _, _, _, _, _, _, _, _, _⟩ := cz6 BK596; have ⟨_, _, _, _, _, _, _, _, _, _, _, _⟩ := cz6 BK597) | ((with_reducible refine zd 15 rfl ?_); refine zgl Tryz.func74 (laws_eqClueS.calls k _ _ l0_3 _ _ l1_3 _ _ (zC HR0_3) HC0_3.out (zC HR1_3) HC1_3.out A5.out) ?_; rintro e w1003 ⟨rfl, hb⟩; refine ⟨_, rfl, ?_⟩; replace BK596 := zk BK596 hb; replace BK597 := zk BK597 hb; replace HB := zB hb; have ⟨_, _, _, _, _, _, _, _, _, _, _, _⟩ := cz6 BK596; have ⟨_, _, _, _, _, _, _, _, _, _, _, _⟩ := cz6 BK597) | ((with_reducible refine zd 21 rfl ?_); refine zgl Tryz.func27 (laws_eqIntS.calls k _ _ l0_4 _ _ l1_4 _ _ (zC HR0_4) HC0_4.out (zC HR1_4) HC1_4.out A7.out) ?_; rintro e w' ⟨rfl, ⟨nd, rfl⟩⟩; refine ⟨_, rfl, ?_⟩) | ((with_reducible refine zd 3 rfl ?_); refine zbx (w := w) #[.int .i64 a1_0, .int .i64 a1_1, .string a1_2, .slice A1_3 l1_3.length c1_3, .slice A1_4 l1_4.length c1_4, .int .i64 a1_5] 35 ?_; intro gb597 hg w1001 BK597 hb; have GW597 := zg (w := w) hg; replace HB := zB hb; have NB596_597 := zn hg BK596; have NB597_596 := zm hg BK596; replace BK596 := zk BK596 hb; clear hb hg; have hnb23 := NB596_597.out; have hnc23 := NB597_596.out; have ⟨_, _, _, _, _, _, _, _, _, _, _, _⟩ := cz6 BK596; have ⟨_, _, _, _, _, _, _, _, _, _, _, _⟩ := cz6 BK597) | ((with_reducible refine zd 3 rfl ?_); refine zbx (w := w) #[.int .i64 a1_0, .int .i64 a1_1, .string a1_2, .slice A1_3 l1_3.length c1_3, .slice A1_4 l1_4.length c1_4, .int .i64 a1_5] 35 ?_; intro gb597 hg w1001 BK597 hb; have GW597 := zg (w := w) hg; replace HB := zB hb; have NB596_597 := zn hg BK596; have NB597_596 := zm hg BK596; replace BK596 := zk BK596 hb; clear hb hg; have hnb12 := NB596_597.out; have hnc12 := NB597_596.out; have ⟨_, _, _, _, _, _, _, _, _, _, _, _⟩ := cz6 BK596; have ⟨_, _, _, _, _, _, _, _, _, _, _, _⟩ := cz6 BK597) | ((with_reducible refine zd 3 rfl ?_); refine zbx (w := w) #[.int .i64 a1_0, .int .i64 a1_1, .string a1_2, .slice A1_3 l1_3.length c1_3, .slice A1_4 l1_4.length c1_4, .int .i64 a1_5] 35 ?_; intro gb597 hg w1001 BK597 hb; have GW597 := zg (w := w) hg; replace HB := zB hb; have NB596_597 := zn hg BK596; have NB597_596 := zm hg BK596; replace BK596 := zk BK596 hb; clear hb hg; have hnb45 := NB596_597.out; have hnc45 := NB597_596.out; have ⟨_, _, _, _, _, _, _, _, _, _, _, _⟩ := cz6 BK596; have ⟨_, _, _, _, _, _, _, _, _, _, _, _⟩ := cz6 BK597) | ((with_reducible refine zd 15 rfl ?_); refine zgl Tryz.func74 (laws_eqClueS.calls k _ _ l0_3 _ _ l1_3 _ _ (zC HR0_3) HC0_3.out (zC HR1_3) HC1_3.out A5.out) ?_; rintro e w1003 ⟨rfl, hb⟩; refine ⟨_, rfl, ?_⟩; replace BK596 := zk BK596 hb; replace BK597 := zk BK597 hb; replace HB := zB hb) | ((with_reducible refine zd 3 rfl ?_); refine zbx (w := w) #[.int .i64 a1_0, .int .i64 a1_1, .string a1_2, .slice A1_3 l1_3.length c1_3, .slice A1_4 l1_4.length c1_4, .int .i64 a1_5] 35 ?_; intro gb597 hg w1001 BK597 hb; have GW597 := zg (w := w) hg; replace HB := zB hb; have NB596_597 := zn hg BK596; have NB597_596 := zm hg BK596; replace BK596 := zk BK596 hb; clear hb hg; have hnb54 := NB596_597.out; have hnc54 := NB597_596.out; have ⟨_, _, _, _, _, _, _, _, _, _, _, _⟩ := cz6 BK596; have ⟨_, _, _, _, _, _, _, _, _, _, _, _⟩ := cz6 BK597) | ((with_reducible refine zd 9 rfl ?_); refine zgl Tryz.func73 (laws_eqGrid.calls a0_0 a0_1 a0_2 a1_0 a1_1 a1_2 _ _ A3.out) ?_; rintro e w1002 ⟨rfl, hb⟩; refine ⟨_, rfl, ?_⟩; replace BK596 := zk BK596 hb; replace BK597 := zk BK597 hb; replace HB := zB hb))
  go_ret
  exact ⟨er, bel⟩

/-! ### laws_eqIssue: function 14 -/
def laws_eqIssue.f (k : Nat) (a0_0 : Int) (a0_1 : Int) (a0_2 : Int) (a0_3 : ByteArray) (l0_4 : List (S89)) (l0_5 : List Int) (a0_6 : Int) (a0_7 : ByteArray) (a0_8 : Int) (a0_9 : Int) (a1_0 : Int) (a1_1 : Int) (a1_2 : Int) (a1_3 : ByteArray) (l1_4 : List (S89)) (l1_5 : List Int) (a1_6 : Int) (a1_7 : ByteArray) (a1_8 : Int) (a1_9 : Int) : Option (Bool) := if a0_0 = a1_0 then ((laws_eqPuzzle.f k a0_1 a0_2 a0_3 l0_4 l0_5 a0_6 a1_1 a1_2 a1_3 l1_4 l1_5 a1_6).bind fun t603 => (if t603 = true then (if a0_7.toList = a1_7.toList then (if a0_8 = a1_8 then (if a0_9 = a1_9 then (some true) else (some false)) else (some false)) else (some false)) else (some false))) else (some false)
set_option maxHeartbeats 8000000 in
set_option maxRecDepth 100000 in
theorem laws_eqIssue.calls (k : Nat) (a0_0 : Int) (a0_1 : Int) (a0_2 : Int) (a0_3 : ByteArray) (A0_4 : Option Addr) (c0_4 : Nat) (l0_4 : List (S89)) (A0_5 : Option Addr) (c0_5 : Nat) (l0_5 : List Int) (a0_6 : Int) (a0_7 : ByteArray) (a0_8 : Int) (a0_9 : Int) (a1_0 : Int) (a1_1 : Int) (a1_2 : Int) (a1_3 : ByteArray) (A1_4 : Option Addr) (c1_4 : Nat) (l1_4 : List (S89)) (A1_5 : Option Addr) (c1_5 : Nat) (l1_5 : List Int) (a1_6 : Int) (a1_7 : ByteArray) (a1_8 : Int) (a1_9 : Int) (r : Bool) (w : World) (hr0_4 : Kd.C k89 w A0_4 l0_4.length l0_4) (hc0_4 : l0_4.length ≤ c0_4) (hr0_5 : Kd.C (Kd.int .i64) w A0_5 l0_5.length l0_5) (hc0_5 : l0_5.length ≤ c0_5) (hr1_4 : Kd.C k89 w A1_4 l1_4.length l1_4) (hc1_4 : l1_4.length ≤ c1_4) (hr1_5 : Kd.C (Kd.int .i64) w A1_5 l1_5.length l1_5) (hc1_5 : l1_5.length ≤ c1_5) (H : laws_eqIssue.f k a0_0 a0_1 a0_2 a0_3 l0_4 l0_5 a0_6 a0_7 a0_8 a0_9 a1_0 a1_1 a1_2 a1_3 l1_4 l1_5 a1_6 a1_7 a1_8 a1_9 = some r) :
  Calls Tryz.prog 14 #[.agg #[.int .i64 a0_0, .int .i64 a0_1, .int .i64 a0_2, .string a0_3, .slice A0_4 l0_4.length c0_4, .slice A0_5 l0_5.length c0_5, .int .i64 a0_6, .string a0_7, .int .i64 a0_8, .int .i64 a0_9], .agg #[.int .i64 a1_0, .int .i64 a1_1, .int .i64 a1_2, .string a1_3, .slice A1_4 l1_4.length c1_4, .slice A1_5 l1_5.length c1_5, .int .i64 a1_6, .string a1_7, .int .i64 a1_8, .int .i64 a1_9]] w fun e w' => e = .returned (.bool r) ∧ Below w.heap.size w w' := by
 have hu37 := Tryz.underlying37
 have hu35 := Tryz.underlying35
 have HR0_4 := Aside0.mk hr0_4
 have HC0_4 := Aside0.mk hc0_4
 clear hr0_4 hc0_4
 have HR0_5 := Aside0.mk hr0_5
 have HC0_5 := Aside0.mk hc0_5
 clear hr0_5 hc0_5
 have HR1_4 := Aside0.mk hr1_4
 have HC1_4 := Aside0.mk hc1_4
 clear hr1_4 hc1_4
 have HR1_5 := Aside0.mk hr1_5
 have HC1_5 := Aside0.mk hc1_5
 clear hr1_5 hc1_5
 have HB := Aside0.mk (Below.refl w.heap.size w)
 unfold laws_eqIssue.f at H
 by_cases c3 : a0_0 = a1_0
 rotate_left
 focus
  rw [if_neg c3] at H
  have c3b0 : (a0_0 == a1_0) = false := beq_eq_false_iff_ne.mpr c3
  have c3b1 : (a0_0 != a1_0) = true := bne_iff_ne.mpr c3
  obtain rfl := Option.some.inj H
 rotate_right
 focus
  rw [if_pos c3] at H
  have c3b0 : (a0_0 == a1_0) = true := beq_iff_eq.mpr c3
  have c3b1 : (a0_0 != a1_0) = false := bne_eq_false_iff_eq.mpr c3
  clear c3
  replace H := zs H
  obtain ⟨t603, A4, H⟩ := H
  replace H := zb H
  rcases H with ⟨rfl, H⟩ | ⟨rfl, H⟩
  rotate_left
  focus
   obtain rfl := Option.some.inj H
  rotate_right
  focus
   by_cases c6 : a0_7.toList = a1_7.toList
   rotate_left
   focus
    rw [if_neg c6] at H
    have c6b0 : (a0_7.toList == a1_7.toList) = false := beq_eq_false_iff_ne.mpr c6
    have c6b1 : (a0_7.toList != a1_7.toList) = true := bne_iff_ne.mpr c6
    obtain rfl := Option.some.inj H
   rotate_right
   focus
    rw [if_pos c6] at H
    have c6b0 : (a0_7.toList == a1_7.toList) = true := beq_iff_eq.mpr c6
    have c6b1 : (a0_7.toList != a1_7.toList) = false := bne_eq_false_iff_eq.mpr c6
    clear c6
    by_cases c7 : a0_8 = a1_8
    rotate_left
    focus
     rw [if_neg c7] at H
     have c7b0 : (a0_8 == a1_8) = false := beq_eq_false_iff_ne.mpr c7
     have c7b1 : (a0_8 != a1_8) = true := bne_iff_ne.mpr c7
     obtain rfl := Option.some.inj H
    rotate_right
    focus
     rw [if_pos c7] at H
     have c7b0 : (a0_8 == a1_8) = true := beq_iff_eq.mpr c7
     have c7b1 : (a0_8 != a1_8) = false := bne_eq_false_iff_eq.mpr c7
     clear c7
     by_cases c8 : a0_9 = a1_9
     rotate_left
     focus
      rw [if_neg c8] at H
      have c8b0 : (a0_9 == a1_9) = false := beq_eq_false_iff_ne.mpr c8
      have c8b1 : (a0_9 != a1_9) = true := bne_iff_ne.mpr c8
      obtain rfl := Option.some.inj H
     rotate_right
     focus
      rw [if_pos c8] at H
      have c8b0 : (a0_9 == a1_9) = true := beq_iff_eq.mpr c8
      have c8b1 : (a0_9 != a1_9) = false := bne_eq_false_iff_eq.mpr c8
      clear c8
      obtain rfl := Option.some.inj H
 all_goals
  go_enter Tryz.func14, Tryz.ntmps14
  go_wp2_with (first | ((with_reducible refine zd 2 rfl ?_); refine zbx (w := w) #[.int .i64 a0_0, .int .i64 a0_1, .int .i64 a0_2, .string a0_3, .slice A0_4 l0_4.length c0_4, .slice A0_5 l0_5.length c0_5, .int .i64 a0_6, .string a0_7, .int .i64 a0_8, .int .i64 a0_9] 37 ?_; intro gb601 hg w1000 BK601 hb; have GW601 := zg (w := w) hg; replace HB := zB hb; clear hb hg) | ((with_reducible refine zd 3 rfl ?_); refine zbx (w := w) #[.int .i64 a1_0, .int .i64 a1_1, .int .i64 a1_2, .string a1_3, .slice A1_4 l1_4.length c1_4, .slice A1_5 l1_5.length c1_5, .int .i64 a1_6, .string a1_7, .int .i64 a1_8, .int .i64 a1_9] 37 ?_; intro gb602 hg w1001 BK602 hb; have GW602 := zg (w := w) hg; replace HB := zB hb; have NB601_602 := zn hg BK601; have NB602_601 := zm hg BK601; replace BK601 := zk BK601 hb; clear hb hg; have hnb27 := NB601_602.out; have hnc27 := NB602_601.out; have ⟨_, _, _, _, _, _, _, _, _, _, _, _, _, _, _, _, _, _, _, _⟩ := cz10 BK601; have ⟨_, _, _, _, _, _, _, _, _, _, _, _, _, _, _, _, _, _, _, _⟩ := cz10 BK602) | ((with_reducible refine zd 14 rfl ?_); refine zgl Tryz.func39 (laws_eqPuzzle.calls k a0_1 a0_2 a0_3 _ _ l0_4 _ _ l0_5 a0_6 a1_1 a1_2 a1_3 _ _ l1_4 _ _ l1_5 a1_6 _ _ (zC HR0_4) HC0_4.out (zC HR0_5) HC0_5.out (zC HR1_4) HC1_4.out (zC HR1_5) HC1_5.out A4.out) ?_; rintro e w1002 ⟨rfl, hb⟩; refine ⟨_, rfl, ?_⟩; replace BK601 := zk BK601 hb; replace BK602 := zk BK602 hb; replace HB := zB hb; have ⟨_, _, _, _, _, _, _, _, _, _, _, _, _, _, _, _, _, _, _, _⟩ := cz10 BK601; have ⟨_, _, _, _, _, _, _, _, _, _, _, _, _, _, _, _, _, _, _, _⟩ := cz10 BK602) | ((with_reducible refine zd 3 rfl ?_); refine zbx (w := w) #[.int .i64 a1_0, .int .i64 a1_1, .int .i64 a1_2, .string a1_3, .slice A1_4 l1_4.length c1_4, .slice A1_5 l1_5.length c1_5, .int .i64 a1_6, .string a1_7, .int .i64 a1_8, .int .i64 a1_9] 37 ?_; intro gb602 hg w1001 BK602 hb; have GW602 := zg (w := w) hg; replace HB := zB hb; have NB601_602 := zn hg BK601; have NB602_601 := zm hg BK601; replace BK601 := zk BK601 hb; clear hb hg; have hnb35 := NB601_602.out; have hnc35 := NB602_601.out; have ⟨_, _, _, _, _, _, _, _, _, _, _, _, _, _, _, _, _, _, _, _⟩ := cz10 BK601; have ⟨_, _, _, _, _, _, _, _, _, _, _, _, _, _, _, _, _, _, _, _⟩ := cz10 BK602) | ((with_reducible refine zd 3 rfl ?_); refine zbx (w := w) #[.int .i64 a1_0, .int .i64 a1_1, .int .i64 a1_2, .string a1_3, .slice A1_4 l1_4.length c1_4, .slice A1_5 l1_5.length c1_5, .int .i64 a1_6, .string a1_7, .int .i64 a1_8, .int .i64 a1_9] 37 ?_; intro gb602 hg w1001 BK602 hb; have GW602 := zg (w := w) hg; replace HB := zB hb; have NB601_602 := zn hg BK601; have NB602_601 := zm hg BK601; replace BK601 := zk BK601 hb; clear hb hg; have hnb19 := NB601_602.out; have hnc19 := NB602_601.out; have ⟨_, _, _, _, _, _, _, _, _, _, _, _, _, _, _, _, _, _, _, _⟩ := cz10 BK601; have ⟨_, _, _, _, _, _, _, _, _, _, _, _, _, _, _, _, _, _, _, _⟩ := cz10 BK602) | ((with_reducible refine zd 3 rfl ?_); refine zbx (w := w) #[.int .i64 a1_0, .int .i64 a1_1, .int .i64 a1_2, .string a1_3, .slice A1_4 l1_4.length c1_4, .slice A1_5 l1_5.length c1_5, .int .i64 a1_6, .string a1_7, .int .i64 a1_8, .int .i64 a1_9] 37 ?_; intro gb602 hg w1001 BK602 hb; have GW602 := zg (w := w) hg; replace HB := zB hb; have NB601_602 := zn hg BK601; have NB602_601 := zm hg BK601; replace BK601 := zk BK601 hb; clear hb hg; have hnb11 := NB601_602.out; have hnc11 := NB602_601.out; have ⟨_, _, _, _, _, _, _, _, _, _, _, _, _, _, _, _, _, _, _, _⟩ := cz10 BK601; have ⟨_, _, _, _, _, _, _, _, _, _, _, _, _, _, _, _, _, _, _, _⟩ := cz10 BK602) | ((with_reducible refine zd 3 rfl ?_); refine zbx (w := w) #[.int .i64 a1_0, .int .i64 a1_1, .int .i64 a1_2, .string a1_3, .slice A1_4 l1_4.length c1_4, .slice A1_5 l1_5.length c1_5, .int .i64 a1_6, .string a1_7, .int .i64 a1_8, .int .i64 a1_9] 37 ?_; intro gb602 hg w1001 BK602 hb; have GW602 := zg (w := w) hg; replace HB := zB hb; have NB601_602 := zn hg BK601; have NB602_601 := zm hg BK601; replace BK601 := zk BK601 hb; clear hb hg; have hnb43 := NB601_602.out; have hnc43 := NB602_601.out; have ⟨_, _, _, _, _, _, _, _, _, _, _, _, _, _, _, _, _, _, _, _⟩ := cz10 BK601; have ⟨_, _, _, _, _, _, _, _, _, _, _, _, _, _, _, _, _, _, _, _⟩ := cz10 BK602) | ((with_reducible refine zd 14 rfl ?_); refine zgl Tryz.func39 (laws_eqPuzzle.calls k a0_1 a0_2 a0_3 _ _ l0_4 _ _ l0_5 a0_6 a1_1 a1_2 a1_3 _ _ l1_4 _ _ l1_5 a1_6 _ _ (zC HR0_4) HC0_4.out (zC HR0_5) HC0_5.out (zC HR1_4) HC1_4.out (zC HR1_5) HC1_5.out A4.out) ?_; rintro e w1002 ⟨rfl, hb⟩; refine ⟨_, rfl, ?_⟩; replace BK601 := zk BK601 hb; replace BK602 := zk BK602 hb; replace HB := zB hb) | ((with_reducible refine zd 3 rfl ?_); refine zbx (w := w) #[.int .i64 a1_0, .int .i64 a1_1, .int .i64 a1_2, .string a1_3, .slice A1_4 l1_4.length c1_4, .slice A1_5 l1_5.length c1_5, .int .i64 a1_6, .string a1_7, .int .i64 a1_8, .int .i64 a1_9] 37 ?_; intro gb602 hg w1001 BK602 hb; have GW602 := zg (w := w) hg; replace HB := zB hb; have NB601_602 := zn hg BK601; have NB602_601 := zm hg BK601; replace BK601 := zk BK601 hb; clear hb hg; have hnb49 := NB601_602.out; have hnc49 := NB602_601.out; have ⟨_, _, _, _, _, _, _, _, _, _, _, _, _, _, _, _, _, _, _, _⟩ := cz10 BK601; have ⟨_, _, _, _, _, _, _, _, _, _, _, _, _, _, _, _, _, _, _, _⟩ := cz10 BK602))
  go_ret
  exact ⟨er, bel⟩

end Go.Proofs.YtpcdfjcbjbkliaaGreat.E
