import Derived.Test.YtpcdfjcbjbkliaaSq
import Derived.Test.YtpcdfjcbjbkliaaQ0
import Derived.Test.YtpcdfjcbjbkliaaQ4
namespace Go.Proofs.Ytpcdfjcbjbkliaa.E
open Go.RowKit Go.Proofs.YtpcdfjcbjbkliaaW.PrintWords Go.Proofs.YtpcdfjcbjbkliaaW.PrintLast Go.Proofs.YtpcdfjcbjbkliaaW.PrintMore
attribute [local go_sem] max2_int min2_int max_two min_two max_three min_three max_four min_four
set_option linter.unusedVariables false
set_option linter.unusedSimpArgs false

/-! ### spec_IsPlay: function 69 -/
mutual
def spec_IsPlay.l0 : Nat → List (S87) → Int → Option (Bool)
 | 0, _, _ => none
 | k + 1, x0, x3 => if x3 < (x0.length : Int) then (spec_IsPlay.j1 k x0 x3 (decide ((x0.length : Int) ≤ 9))) else (spec_IsPlay.j1 k x0 x3 false)
def spec_IsPlay.j1 : Nat → List (S87) → Int → Bool → Option (Bool)
 | 0, _, _, _ => none
 | k + 1, x0, x3, x12 => if x12 = true then ((spec_l15Ok.f k x0 x3).bind fun t120 => (if t120 = true then (spec_IsPlay.l0 k x0 (wrap64 (x3 + 1))) else (some false))) else ((spec_l1In.f (x0.length : Int) 1 9).bind fun t121 => (some t121))
end
def spec_IsPlay.f (k : Nat) (l0 : List (S87)) : Option (Bool) := spec_IsPlay.l0 k l0 0
set_option maxHeartbeats 8000000 in
set_option maxRecDepth 100000 in
theorem spec_IsPlay.calls (k : Nat) (A0 : Option Addr) (c0 : Nat) (l0 : List (S87)) (r : Bool) (w : World) (hr0 : Kd.C k87 w A0 l0.length l0) (hc0 : l0.length ≤ c0) (H : spec_IsPlay.f k l0 = some r) :
  Calls Try.prog 69 #[.slice A0 l0.length c0] w fun e w' => e = .returned (.bool r) ∧ Below w.heap.size w w' := by
 have HR0 := Aside0.mk hr0
 have HC0 := Aside0.mk hc0
 clear hr0 hc0
 have HB := Aside0.mk (Below.refl w.heap.size w)
 unfold spec_IsPlay.f at H
 have H' := Aside0.mk H
 clear H
 go_enter Try.func69, Try.ntmps69
 go_wp2
 go_loopg [3] k (fun kq v3 w' => ∃ (x3_1 : Int), v3 = .int .i64 x3_1 ∧ Aside0 (spec_IsPlay.l0 kq l0 x3_1 = some r) ∧ Aside0 (kq ≤ k) ∧ Aside0 (Below w.heap.size w w'))
 case atStart => exact ⟨(0), rf, H', ⟨Nat.le_refl _⟩, ⟨bel⟩⟩
 case round =>
  clear H'
  obtain ⟨x3_1, rfl, HA, HK1, HB⟩ := hrel
  cases gk with
  | zero => exact absurd HA.out (by simp [spec_IsPlay.l0])
  | succ k1 =>
   have H := HA.out
   clear HA
   simp only [spec_IsPlay.l0] at H
   have HC2 := Aside0.mk H
   clear H
   go_upto_region 2 with (fail)
   go_cut [12] (fun v12 wc => ∃ (kq : Nat) (x12_1 : Bool), v12 = .bool x12_1 ∧ Aside0 (spec_IsPlay.j1 kq l0 x3_1 x12_1 = some r) ∧ Aside0 (kq ≤ k1) ∧ Aside0 (Below w.heap.size w wc))
   case first =>
    have H := HC2.out
    clear HC2
    replace H := zc H
    rcases H with ⟨c3b0, H⟩ | ⟨c3b0, H⟩
    ·
     (first | rw [c3b0] | (simp only [i64_w, i32_w]; rw [c3b0]) | skip)
     have H' := Aside0.mk H
     clear H
     go_wp2
     go_meet
     case rel => exact ⟨_, (decide ((l0.length : Int) ≤ 9)), rf, H', ⟨by have := HK1.out; first | omega | exact Nat.le_refl _⟩, ⟨bel⟩⟩
    ·
     (first | rw [c3b0] | (simp only [i64_w, i32_w]; rw [c3b0]) | skip)
     have H' := Aside0.mk H
     clear H
     go_wp2
     go_meet
     case rel => exact ⟨_, (false), rf, H', ⟨by have := HK1.out; first | omega | exact Nat.le_refl _⟩, ⟨bel⟩⟩
   case rest =>
    clear HC2
    obtain ⟨kq, x12_1, rfl, HA, HJ1, HB⟩ := hcut
    cases kq with
    | zero => exact absurd HA.out (by simp [spec_IsPlay.j1])
    | succ kj1 =>
     have H := HA.out
     clear HA
     simp only [spec_IsPlay.j1] at H
     replace H := zb H
     rcases H with ⟨rfl, H⟩ | ⟨rfl, H⟩
     ·
      replace H := zs H
      obtain ⟨t120, A5, H⟩ := H
      replace H := zb H
      rcases H with ⟨rfl, H⟩ | ⟨rfl, H⟩
      ·
       have H' := Aside0.mk H
       clear H
       go_wp2_with (first | ((with_reducible refine zd 17 rfl ?_); refine zgl Try.func92 (spec_l15Ok.calls kj1 _ _ l0 x3_1 true _ (zC HR0) HC0.out A5.out) ?_; rintro e w7 ⟨rfl, hb⟩; refine ⟨_, rfl, ?_⟩; replace HB := zB hb))
       go_roundg kj1
       case measure => have := HK1.out; have := HJ1.out; omega
       case rel => exact ⟨(wrap64 (x3_1 + 1)), rf, H', ⟨by have := HK1.out; have := HJ1.out; omega⟩, ⟨bel⟩⟩
      ·
       obtain rfl := Option.some.inj H
       go_wp2_with (first | ((with_reducible refine zd 17 rfl ?_); refine zgl Try.func92 (spec_l15Ok.calls kj1 _ _ l0 x3_1 false _ (zC HR0) HC0.out A5.out) ?_; rintro e w8 ⟨rfl, hb⟩; refine ⟨_, rfl, ?_⟩; replace HB := zB hb))
       go_ret
       exact ⟨er, bel⟩
     ·
      replace H := zs H
      obtain ⟨t121, A9, H⟩ := H
      obtain rfl := Option.some.inj H
      go_wp2_with (first | ((with_reducible refine zd 21 rfl ?_); refine zgl Try.func39 (spec_l1In.calls (l0.length : Int) 1 9 t121 _ A9.out) ?_; rintro e w' ⟨rfl, ⟨nd, rfl⟩⟩; refine ⟨_, rfl, ?_⟩))
      go_ret
      exact ⟨er, bel⟩

/-! ### spec_IsClue: function 40 -/
def spec_IsClue.f (k : Nat) (a0_0 : Int) (l0_1 : List (S87)) : Option (Bool) := (spec_l1In.f a0_0 1 99).bind fun t123 => (if t123 = true then ((spec_IsPlay.f k l0_1).bind fun t124 => (some t124)) else (some false))
set_option maxHeartbeats 8000000 in
set_option maxRecDepth 100000 in
theorem spec_IsClue.calls (k : Nat) (a0_0 : Int) (A0_1 : Option Addr) (c0_1 : Nat) (l0_1 : List (S87)) (r : Bool) (w : World) (hr0_1 : Kd.C k87 w A0_1 l0_1.length l0_1) (hc0_1 : l0_1.length ≤ c0_1) (H : spec_IsClue.f k a0_0 l0_1 = some r) :
  Calls Try.prog 40 #[.agg #[.int .i64 a0_0, .slice A0_1 l0_1.length c0_1]] w fun e w' => e = .returned (.bool r) ∧ Below w.heap.size w w' := by
 have hu48 := Try.underlying48
 have HR0_1 := Aside0.mk hr0_1
 have HC0_1 := Aside0.mk hc0_1
 clear hr0_1 hc0_1
 have HB := Aside0.mk (Below.refl w.heap.size w)
 unfold spec_IsClue.f at H
 replace H := zs H
 obtain ⟨t123, A2, H⟩ := H
 replace H := zb H
 rcases H with ⟨rfl, H⟩ | ⟨rfl, H⟩
 rotate_left
 focus
  obtain rfl := Option.some.inj H
 rotate_right
 focus
  replace H := zs H
  obtain ⟨t124, A4, H⟩ := H
  obtain rfl := Option.some.inj H
 all_goals
  go_enter Try.func40, Try.ntmps40
  go_wp2_with (first | ((with_reducible refine zd 1 rfl ?_); refine zbx (w := w) #[.int .i64 a0_0, .slice A0_1 l0_1.length c0_1] 48 ?_; intro gb122 hg w1000 BK122 hb; have GW122 := zg (w := w) hg; replace HB := zB hb; clear hb hg; have ⟨_, _, _, _⟩ := cz2 BK122) | ((with_reducible refine zd 5 rfl ?_); refine zgl Try.func39 (spec_l1In.calls a0_0 1 99 _ _ A2.out) ?_; rintro e w' ⟨rfl, ⟨nd, rfl⟩⟩; refine ⟨_, rfl, ?_⟩) | (go_at_call 69; (with_reducible refine (spec_IsPlay.calls k _ _ l0_1 t124 _ ?side1 ?side2 A4.out).mono ?_); (case side1 => repeat (first | exact (Kd.C_below HR0_1.out bel) | (with_reducible refine Kd.C_alloc ?_ _) | (with_reducible refine Kd.C_drewN ?_ _) | (with_reducible refine Kd.C_drew ?_))); (case side2 => exact HC0_1.out); rintro e w1001 ⟨rfl, hb⟩; replace BK122 := zk BK122 hb; replace HB := zB hb))
  go_ret
  exact ⟨er, bel⟩

/-! ### spec_IsGrid: function 77 -/
mutual
def spec_IsGrid.j0 : Nat → Bool → Int → Int → ByteArray → Option (Bool)
 | 0, _, _, _, _ => none
 | k + 1, x24, x126000, x126001, x126002 => if x24 = true then (some false) else (spec_IsGrid.l0 k 0 x126000 x126001 x126002)
def spec_IsGrid.l0 : Nat → Int → Int → Int → ByteArray → Option (Bool)
 | 0, _, _, _, _ => none
 | k + 1, x3, x126000, x126001, x126002 => if x3 < (x126002.size : Int) then (if 0 ≤ x3 then (if (bt x126002 x3) = 35 then (spec_IsGrid.l0 k (wrap64 (x3 + 1)) x126000 x126001 x126002) else (if (bt x126002 x3) = 46 then (spec_IsGrid.l0 k (wrap64 (x3 + 1)) x126000 x126001 x126002) else (some false))) else (none)) else (some true)
end
def spec_IsGrid.f (k : Nat) (a0_0 : Int) (a0_1 : Int) (a0_2 : ByteArray) : Option (Bool) := (spec_l1In.f a0_0 2 6).bind fun t126 => (if t126 = true then ((spec_l1In.f a0_1 2 6).bind fun t127 => (if t127 = true then (spec_IsGrid.j0 k ((a0_2.size : Int) != (wrap64 (a0_0 * a0_1))) a0_0 a0_1 a0_2) else (spec_IsGrid.j0 k true a0_0 a0_1 a0_2))) else (spec_IsGrid.j0 k true a0_0 a0_1 a0_2))
set_option maxHeartbeats 8000000 in
set_option maxRecDepth 100000 in
theorem spec_IsGrid.calls (k : Nat) (a0_0 : Int) (a0_1 : Int) (a0_2 : ByteArray) (r : Bool) (w : World) (H : spec_IsGrid.f k a0_0 a0_1 a0_2 = some r) :
  Calls Try.prog 77 #[.agg #[.int .i64 a0_0, .int .i64 a0_1, .string a0_2]] w fun e w' => e = .returned (.bool r) ∧ Below w.heap.size w w' := by
 have hu30 := Try.underlying30
 have HB := Aside0.mk (Below.refl w.heap.size w)
 unfold spec_IsGrid.f at H
 have HC2 := Aside0.mk H
 clear H
 go_enter Try.func77, Try.ntmps77
 go_upto_region 1 with (first | ((with_reducible refine zd 1 rfl ?_); (try (refine gate_guard (by rfl) ?_; dsimp only)); refine zbx (w := w) #[.int .i64 a0_0, .int .i64 a0_1, .string a0_2] 30 ?_; intro gb125 hg w3 BK125 hb; have GW125 := zg (w := w) hg; replace HB := zB hb; clear hb hg))
 (try simp only [Act.put, List.setIfInBounds_toArray, List.set_cons_zero, List.set_cons_succ])
 go_cut [24] (fun v24 wc => ∃ (kq : Nat) (x24_1 : Bool), v24 = .bool x24_1 ∧ Aside0 (spec_IsGrid.j0 kq x24_1 a0_0 a0_1 a0_2 = some r) ∧ Aside0 (kq ≤ k) ∧ Aside0 (wc.heap[gb125]? = some (.cells #[.int .i64 a0_0, .int .i64 a0_1, .string a0_2] 30 (0, 0))) ∧ Aside0 (Below w.heap.size w wc))
 case first =>
  have H := HC2.out
  clear HC2
  replace H := zs H
  obtain ⟨t126, A4, H⟩ := H
  replace H := zb H
  rcases H with ⟨rfl, H⟩ | ⟨rfl, H⟩
  ·
   replace H := zs H
   obtain ⟨t127, A6, H⟩ := H
   replace H := zb H
   rcases H with ⟨rfl, H⟩ | ⟨rfl, H⟩
   ·
    have H' := Aside0.mk H
    clear H
    have ⟨_, _, _, _, _, _⟩ := cz3 BK125
    go_wp2_with (first | ((with_reducible refine zd 6 rfl ?_); refine zgl Try.func39 (spec_l1In.calls a0_0 2 6 true _ A4.out) ?_; rintro e w' ⟨rfl, ⟨nd, rfl⟩⟩; refine ⟨_, rfl, ?_⟩) | (go_at_call 39; (with_reducible refine (spec_l1In.calls a0_1 2 6 true _ A6.out).mono ?_); rintro e w' ⟨rfl, ⟨nd, rfl⟩⟩))
    go_meet
    case rel => exact ⟨_, (((a0_2.size : Int) != (wrap64 (a0_0 * a0_1)))), rf, H', ⟨by first | omega | exact Nat.le_refl _⟩, ⟨bk BK125⟩, ⟨bel⟩⟩
   ·
    have H' := Aside0.mk H
    clear H
    have ⟨_, _, _, _, _, _⟩ := cz3 BK125
    go_wp2_with (first | ((with_reducible refine zd 6 rfl ?_); refine zgl Try.func39 (spec_l1In.calls a0_0 2 6 true _ A4.out) ?_; rintro e w' ⟨rfl, ⟨nd, rfl⟩⟩; refine ⟨_, rfl, ?_⟩) | (go_at_call 39; (with_reducible refine (spec_l1In.calls a0_1 2 6 false _ A6.out).mono ?_); rintro e w' ⟨rfl, ⟨nd, rfl⟩⟩))
    go_meet
    case rel => exact ⟨_, (true), rf, H', ⟨by first | omega | exact Nat.le_refl _⟩, ⟨bk BK125⟩, ⟨bel⟩⟩
  ·
   have H' := Aside0.mk H
   clear H
   have ⟨_, _, _, _, _, _⟩ := cz3 BK125
   go_wp2_with (first | ((with_reducible refine zd 6 rfl ?_); refine zgl Try.func39 (spec_l1In.calls a0_0 2 6 false _ A4.out) ?_; rintro e w' ⟨rfl, ⟨nd, rfl⟩⟩; refine ⟨_, rfl, ?_⟩))
   go_meet
   case rel => exact ⟨_, (true), rf, H', ⟨by first | omega | exact Nat.le_refl _⟩, ⟨bk BK125⟩, ⟨bel⟩⟩
 case rest =>
  clear HC2
  obtain ⟨kq, x24_1, rfl, HA, HJ1, BK125, HB⟩ := hcut
  cases kq with
  | zero => exact absurd HA.out (by simp [spec_IsGrid.j0])
  | succ kj1 =>
   have H := HA.out
   clear HA
   simp only [spec_IsGrid.j0] at H
   replace H := zb H
   rcases H with ⟨rfl, H⟩ | ⟨rfl, H⟩
   ·
    obtain rfl := Option.some.inj H
    go_wp2
    go_ret
    exact ⟨er, bel⟩
   ·
    have H' := Aside0.mk H
    clear H
    go_wp2
    go_loopg [3] kj1 (fun kq v3 w' => ∃ (x3_2 : Int), v3 = .int .i64 x3_2 ∧ Aside0 (spec_IsGrid.l0 kq x3_2 a0_0 a0_1 a0_2 = some r) ∧ Aside0 (kq ≤ kj1) ∧ Aside0 (w'.heap[gb125]? = some (.cells #[.int .i64 a0_0, .int .i64 a0_1, .string a0_2] 30 (0, 0))) ∧ Aside0 (Below w.heap.size w w'))
    case atStart => exact ⟨(0), rf, H', ⟨Nat.le_refl _⟩, ⟨bk BK125⟩, ⟨bel⟩⟩
    case round =>
     clear H'
     obtain ⟨x3_2, rfl, HA, HK2, BK125, HB⟩ := hrel
     cases gk with
     | zero => exact absurd HA.out (by simp [spec_IsGrid.l0])
     | succ k2 =>
      have H := HA.out
      clear HA
      simp only [spec_IsGrid.l0] at H
      replace H := zc H
      rcases H with ⟨c12b0, H⟩ | ⟨c12b0, H⟩
      ·
       replace H := zr H
       obtain ⟨c13b0, H⟩ := H
       by_cases c15 : (bt a0_2 x3_2) = 35
       ·
        rw [if_pos c15] at H
        have c15b0 : ((bt a0_2 x3_2) == 35) = true := beq_iff_eq.mpr c15
        have c15b1 : ((bt a0_2 x3_2) != 35) = false := bne_eq_false_iff_eq.mpr c15
        clear c15
        have H' := Aside0.mk H
        clear H
        have ⟨_, _, _, _, _, _⟩ := cz3 BK125
        have p14 : 0 ≤ (x3_2 : Int) := of_decide_eq_true asm
        have q14 : x3_2 < (a0_2.size : Int) := of_decide_eq_true asm
        have hx14 := bt_at a0_2 x3_2
        replace p14 := eq_true p14
        replace q14 := eq_true q14
        go_wp2
        go_roundg k2
        case measure => have := HJ1.out; have := HK2.out; omega
        case rel => exact ⟨(wrap64 (x3_2 + 1)), rf, H', ⟨by have := HJ1.out; have := HK2.out; omega⟩, ⟨bk BK125⟩, ⟨bel⟩⟩
       ·
        rw [if_neg c15] at H
        have c15b0 : ((bt a0_2 x3_2) == 35) = false := beq_eq_false_iff_ne.mpr c15
        have c15b1 : ((bt a0_2 x3_2) != 35) = true := bne_iff_ne.mpr c15
        by_cases c18 : (bt a0_2 x3_2) = 46
        ·
         rw [if_pos c18] at H
         have c18b0 : ((bt a0_2 x3_2) == 46) = true := beq_iff_eq.mpr c18
         have c18b1 : ((bt a0_2 x3_2) != 46) = false := bne_eq_false_iff_eq.mpr c18
         clear c18
         have H' := Aside0.mk H
         clear H
         have ⟨_, _, _, _, _, _⟩ := cz3 BK125
         have p14 : 0 ≤ (x3_2 : Int) := of_decide_eq_true asm
         have q14 : x3_2 < (a0_2.size : Int) := of_decide_eq_true asm
         have hx14 := bt_at a0_2 x3_2
         replace p14 := eq_true p14
         replace q14 := eq_true q14
         have p17 : 0 ≤ (x3_2 : Int) := of_decide_eq_true asm
         have q17 : x3_2 < (a0_2.size : Int) := of_decide_eq_true asm
         have hx17 := bt_at a0_2 x3_2
         replace p17 := eq_true p17
         replace q17 := eq_true q17
         go_wp2
         go_roundg k2
         case measure => have := HJ1.out; have := HK2.out; omega
         case rel => exact ⟨(wrap64 (x3_2 + 1)), rf, H', ⟨by have := HJ1.out; have := HK2.out; omega⟩, ⟨bk BK125⟩, ⟨bel⟩⟩
        ·
         rw [if_neg c18] at H
         have c18b0 : ((bt a0_2 x3_2) == 46) = false := beq_eq_false_iff_ne.mpr c18
         have c18b1 : ((bt a0_2 x3_2) != 46) = true := bne_iff_ne.mpr c18
         obtain rfl := Option.some.inj H
         have ⟨_, _, _, _, _, _⟩ := cz3 BK125
         have p14 : 0 ≤ (x3_2 : Int) := of_decide_eq_true asm
         have q14 : x3_2 < (a0_2.size : Int) := of_decide_eq_true asm
         have hx14 := bt_at a0_2 x3_2
         replace p14 := eq_true p14
         replace q14 := eq_true q14
         have p17 : 0 ≤ (x3_2 : Int) := of_decide_eq_true asm
         have q17 : x3_2 < (a0_2.size : Int) := of_decide_eq_true asm
         have hx17 := bt_at a0_2 x3_2
         replace p17 := eq_true p17
         replace q17 := eq_true q17
         go_wp2
         go_ret
         exact ⟨er, bel⟩
      ·
       obtain rfl := Option.some.inj H
       have ⟨_, _, _, _, _, _⟩ := cz3 BK125
       go_wp2
       go_ret
       exact ⟨er, bel⟩

/-! ### spec_l8From: function 78 -/
mutual
def spec_l8From.j0 : Nat → Int → Int → Int → Int → Int → Int → ByteArray → Option (Int)
 | 0, _, _, _, _, _, _, _ => none
 | k + 1, x1, x7, x8, x9, x129000, x129001, x129002 => if 0 ≤ x1 then (if x1 < (x129002.size : Int) then (if (bt x129002 x1) = 46 then (if x8 > 0 then (if 0 ≤ (wrap64 (x1 - x7)) then (if (wrap64 (x1 - x7)) < (x129002.size : Int) then (spec_l8From.j1 k x1 x7 x8 x9 ((bt x129002 (wrap64 (x1 - x7))) == 46) x129000 x129001 x129002) else (none)) else (none)) else (spec_l8From.j1 k x1 x7 x8 x9 false x129000 x129001 x129002)) else (spec_l8From.j1 k x1 x7 x8 x9 true x129000 x129001 x129002)) else (none)) else (none)
def spec_l8From.j1 : Nat → Int → Int → Int → Int → Bool → Int → Int → ByteArray → Option (Int)
 | 0, _, _, _, _, _, _, _, _ => none
 | k + 1, x1, x7, x8, x9, x43, x129000, x129001, x129002 => if x43 = true then (some 0) else (spec_l8From.l0 k x1 x7 x8 x9 0 x129000 x129001 x129002)
def spec_l8From.l0 : Nat → Int → Int → Int → Int → Int → Int → Int → ByteArray → Option (Int)
 | 0, _, _, _, _, _, _, _, _ => none
 | k + 1, x1, x7, x8, x9, x10, x129000, x129001, x129002 => if (wrap64 (x8 + x10)) < x9 then (if 0 ≤ (wrap64 (x1 + (wrap64 (x10 * x7)))) then (if (wrap64 (x1 + (wrap64 (x10 * x7)))) < (x129002.size : Int) then (if (bt x129002 (wrap64 (x1 + (wrap64 (x10 * x7))))) = 46 then (spec_l8From.l0 k x1 x7 x8 x9 (wrap64 (x10 + 1)) x129000 x129001 x129002) else (some x10)) else (none)) else (none)) else (some x10)
end
def spec_l8From.f (k : Nat) (a0_0 : Int) (a0_1 : Int) (a0_2 : ByteArray) (a1 : Int) (a2 : Bool) : Option (Int) := if a0_1 = 0 then (none) else (if a2 = true then (spec_l8From.j0 k a1 a0_1 (wrap64 (Int.tdiv a1 a0_1)) a0_0 a0_0 a0_1 a0_2) else (spec_l8From.j0 k a1 1 (Int.tmod a1 a0_1) a0_1 a0_0 a0_1 a0_2))
set_option maxHeartbeats 8000000 in
set_option maxRecDepth 100000 in
theorem spec_l8From.calls (k : Nat) (a0_0 : Int) (a0_1 : Int) (a0_2 : ByteArray) (a1 : Int) (a2 : Bool) (r : Int) (w : World) (H : spec_l8From.f k a0_0 a0_1 a0_2 a1 a2 = some r) :
  Calls Try.prog 78 #[.agg #[.int .i64 a0_0, .int .i64 a0_1, .string a0_2], .int .i64 a1, .bool a2] w fun e w' => e = .returned (.int .i64 r) ∧ Below w.heap.size w w' := by
 have hu30 := Try.underlying30
 have HB := Aside0.mk (Below.refl w.heap.size w)
 unfold spec_l8From.f at H
 by_cases c4 : a0_1 = 0
 ·
  rw [if_pos c4] at H
  exact absurd H (by simp)
 ·
  rw [if_neg c4] at H
  have c4b0 : (a0_1 == 0) = false := beq_eq_false_iff_ne.mpr c4
  have c4b1 : (a0_1 != 0) = true := bne_iff_ne.mpr c4
  have HC5 := Aside0.mk H
  clear H
  go_enter Try.func78, Try.ntmps78
  go_upto_if 17 with (first | ((with_reducible refine zd 3 rfl ?_); refine zbx (w := w) #[.int .i64 a0_0, .int .i64 a0_1, .string a0_2] 30 ?_; intro gb128 hg w6 BK128 hb; have GW128 := zg (w := w) hg; replace HB := zB hb; clear hb hg; have ⟨_, _, _, _, _, _⟩ := cz3 BK128))
  (try simp only [Act.put, List.setIfInBounds_toArray, List.set_cons_zero, List.set_cons_succ])
  go_cut [7, 8, 9] (fun v7 v8 v9 wc => ∃ (kq : Nat) (x7_4 : Int) (x8_4 : Int) (x9_4 : Int), v7 = .int .i64 x7_4 ∧ v8 = .int .i64 x8_4 ∧ v9 = .int .i64 x9_4 ∧ Aside0 (spec_l8From.j0 kq a1 x7_4 x8_4 x9_4 a0_0 a0_1 a0_2 = some r) ∧ Aside0 (kq ≤ k) ∧ Aside0 (wc.heap[gb128]? = some (.cells #[.int .i64 a0_0, .int .i64 a0_1, .string a0_2] 30 (0, 0))) ∧ Aside0 (Below w.heap.size w wc))
  case first =>
   have H := HC5.out
   clear HC5
   replace H := zb H
   rcases H with ⟨rfl, H⟩ | ⟨rfl, H⟩
   ·
    have H' := Aside0.mk H
    clear H
    have ⟨_, _, _, _, _, _⟩ := cz3 BK128
    go_wp2
    go_meet
    case rel => exact ⟨_, (a0_1), (wrap64 (Int.tdiv a1 a0_1)), (a0_0), rf, rf, rf, H', ⟨by first | omega | exact Nat.le_refl _⟩, ⟨bk BK128⟩, ⟨bel⟩⟩
   ·
    have H' := Aside0.mk H
    clear H
    go_wp2
    go_meet
    case rel => exact ⟨_, (1), (Int.tmod a1 a0_1), (a0_1), rf, rf, rf, H', ⟨by first | omega | exact Nat.le_refl _⟩, ⟨bk BK128⟩, ⟨bel⟩⟩
  case rest =>
   clear HC5
   obtain ⟨kq, x7_4, x8_4, x9_4, rfl, rfl, rfl, HA, HJ4, BK128, HB⟩ := hcut
   cases kq with
   | zero => exact absurd HA.out (by simp [spec_l8From.j0])
   | succ kj4 =>
    have H := HA.out
    clear HA
    simp only [spec_l8From.j0] at H
    have HC10 := Aside0.mk H
    clear H
    go_upto_region 8 with (fail)
    go_cut [43] (fun v43 wc => ∃ (kq : Nat) (x43_9 : Bool), v43 = .bool x43_9 ∧ Aside0 (spec_l8From.j1 kq a1 x7_4 x8_4 x9_4 x43_9 a0_0 a0_1 a0_2 = some r) ∧ Aside0 (kq ≤ kj4) ∧ Aside0 (wc.heap[gb128]? = some (.cells #[.int .i64 a0_0, .int .i64 a0_1, .string a0_2] 30 (0, 0))) ∧ Aside0 (Below w.heap.size w wc))
    case first =>
     have H := HC10.out
     clear HC10
     replace H := zr H
     obtain ⟨c11b0, H⟩ := H
     (first | rw [c11b0] | (simp only [i64_w, i32_w]; rw [c11b0]) | skip)
     replace H := zr H
     obtain ⟨c12b0, H⟩ := H
     by_cases c14 : (bt a0_2 a1) = 46
     ·
      rw [if_pos c14] at H
      have c14b0 : ((bt a0_2 a1) == 46) = true := beq_iff_eq.mpr c14
      have c14b1 : ((bt a0_2 a1) != 46) = false := bne_eq_false_iff_eq.mpr c14
      clear c14
      replace H := zc H
      rcases H with ⟨c15b0, H⟩ | ⟨c15b0, H⟩
      ·
       obtain ⟨ji16, hji16⟩ : ∃ j_ : Int, (wrap64 (a1 - x7_4)) = j_ := ⟨_, rfl⟩
       replace H : (if 0 ≤ (ji16) then (if (ji16) < (a0_2.size : Int) then (spec_l8From.j1 kj4 a1 x7_4 x8_4 x9_4 ((bt a0_2 (ji16)) == 46) a0_0 a0_1 a0_2) else (none)) else (none)) = some r := by first | (rw [hji16] at H; exact H) | (simp only [hji16] at H ⊢; exact H)
       have hji16w : (IntKind.i64.wrap (a1 - x7_4)) = ji16 := (i64_w _).trans hji16
       replace H := zr H
       obtain ⟨c17b0, H⟩ := H
       replace H := zr H
       obtain ⟨c18b0, H⟩ := H
       have H' := Aside0.mk H
       clear H
       have ⟨_, _, _, _, _, _⟩ := cz3 BK128
       have p13 : 0 ≤ (a1 : Int) := of_decide_eq_true asm
       have q13 : a1 < (a0_2.size : Int) := of_decide_eq_true asm
       have hx13 := bt_at a0_2 a1
       replace p13 := eq_true p13
       replace q13 := eq_true q13
       have p19 : 0 ≤ ((ji16) : Int) := of_decide_eq_true asm
       have q19 : (ji16) < (a0_2.size : Int) := of_decide_eq_true asm
       have hx19 := bt_at a0_2 (ji16)
       replace p19 := eq_true p19
       replace q19 := eq_true q19
       go_wp2
       go_meet
       case rel => exact ⟨_, (((bt a0_2 (ji16)) == 46)), (by first | rfl | (simp; done) | (simp only [← hji16] <;> (first | rfl | simp)) | (simp [*]; done)), H', ⟨by have := HJ4.out; first | omega | exact Nat.le_refl _⟩, ⟨bk BK128⟩, ⟨bel⟩⟩
      ·
       have H' := Aside0.mk H
       clear H
       have ⟨_, _, _, _, _, _⟩ := cz3 BK128
       have p13 : 0 ≤ (a1 : Int) := of_decide_eq_true asm
       have q13 : a1 < (a0_2.size : Int) := of_decide_eq_true asm
       have hx13 := bt_at a0_2 a1
       replace p13 := eq_true p13
       replace q13 := eq_true q13
       go_wp2
       go_meet
       case rel => exact ⟨_, (false), rf, H', ⟨by have := HJ4.out; first | omega | exact Nat.le_refl _⟩, ⟨bk BK128⟩, ⟨bel⟩⟩
     ·
      rw [if_neg c14] at H
      have c14b0 : ((bt a0_2 a1) == 46) = false := beq_eq_false_iff_ne.mpr c14
      have c14b1 : ((bt a0_2 a1) != 46) = true := bne_iff_ne.mpr c14
      have H' := Aside0.mk H
      clear H
      have ⟨_, _, _, _, _, _⟩ := cz3 BK128
      have p13 : 0 ≤ (a1 : Int) := of_decide_eq_true asm
      have q13 : a1 < (a0_2.size : Int) := of_decide_eq_true asm
      have hx13 := bt_at a0_2 a1
      replace p13 := eq_true p13
      replace q13 := eq_true q13
      go_wp2
      go_meet
      case rel => exact ⟨_, (true), rf, H', ⟨by have := HJ4.out; first | omega | exact Nat.le_refl _⟩, ⟨bk BK128⟩, ⟨bel⟩⟩
    case rest =>
     clear HC10
     obtain ⟨kq, x43_9, rfl, HA, HJ9, BK128, HB⟩ := hcut
     cases kq with
     | zero => exact absurd HA.out (by simp [spec_l8From.j1])
     | succ kj9 =>
      have H := HA.out
      clear HA
      simp only [spec_l8From.j1] at H
      replace H := zb H
      rcases H with ⟨rfl, H⟩ | ⟨rfl, H⟩
      ·
       obtain rfl := Option.some.inj H
       go_wp2
       go_ret
       exact ⟨er, bel⟩
      ·
       have H' := Aside0.mk H
       clear H
       go_wp2
       go_loopg [10] kj9 (fun kq v10 w' => ∃ (x10_3 : Int), v10 = .int .i64 x10_3 ∧ Aside0 (spec_l8From.l0 kq a1 x7_4 x8_4 x9_4 x10_3 a0_0 a0_1 a0_2 = some r) ∧ Aside0 (kq ≤ kj9) ∧ Aside0 (w'.heap[gb128]? = some (.cells #[.int .i64 a0_0, .int .i64 a0_1, .string a0_2] 30 (0, 0))) ∧ Aside0 (Below w.heap.size w w'))
       case atStart => exact ⟨(0), rf, H', ⟨Nat.le_refl _⟩, ⟨bk BK128⟩, ⟨bel⟩⟩
       case round =>
        clear H'
        obtain ⟨x10_3, rfl, HA, HK3, BK128, HB⟩ := hrel
        cases gk with
        | zero => exact absurd HA.out (by simp [spec_l8From.l0])
        | succ k3 =>
         have H := HA.out
         clear HA
         simp only [spec_l8From.l0] at H
         replace H := zc H
         rcases H with ⟨c24b0, H⟩ | ⟨c24b0, H⟩
         ·
          obtain ⟨ji25, hji25⟩ : ∃ j_ : Int, (wrap64 (a1 + (wrap64 (x10_3 * x7_4)))) = j_ := ⟨_, rfl⟩
          replace H : (if 0 ≤ (ji25) then (if (ji25) < (a0_2.size : Int) then (if (bt a0_2 (ji25)) = 46 then (spec_l8From.l0 k3 a1 x7_4 x8_4 x9_4 (wrap64 (x10_3 + 1)) a0_0 a0_1 a0_2) else (some x10_3)) else (none)) else (none)) = some r := by first | (rw [hji25] at H; exact H) | (simp only [hji25] at H ⊢; exact H)
          have hji25w : (IntKind.i64.wrap (a1 + (wrap64 (x10_3 * x7_4)))) = ji25 := (i64_w _).trans hji25
          replace H := zr H
          obtain ⟨c26b0, H⟩ := H
          replace H := zr H
          obtain ⟨c27b0, H⟩ := H
          by_cases c29 : (bt a0_2 (ji25)) = 46
          ·
           rw [if_pos c29] at H
           have c29b0 : ((bt a0_2 (ji25)) == 46) = true := beq_iff_eq.mpr c29
           have c29b1 : ((bt a0_2 (ji25)) != 46) = false := bne_eq_false_iff_eq.mpr c29
           clear c29
           have H' := Aside0.mk H
           clear H
           have ⟨_, _, _, _, _, _⟩ := cz3 BK128
           have p28 : 0 ≤ ((ji25) : Int) := of_decide_eq_true asm
           have q28 : (ji25) < (a0_2.size : Int) := of_decide_eq_true asm
           have hx28 := bt_at a0_2 (ji25)
           replace p28 := eq_true p28
           replace q28 := eq_true q28
           go_wp2
           go_roundg k3
           case measure => have := HJ4.out; have := HJ9.out; have := HK3.out; omega
           case rel => exact ⟨(wrap64 (x10_3 + 1)), rf, H', ⟨by have := HJ4.out; have := HJ9.out; have := HK3.out; omega⟩, ⟨bk BK128⟩, ⟨bel⟩⟩
          ·
           rw [if_neg c29] at H
           have c29b0 : ((bt a0_2 (ji25)) == 46) = false := beq_eq_false_iff_ne.mpr c29
           have c29b1 : ((bt a0_2 (ji25)) != 46) = true := bne_iff_ne.mpr c29
           obtain rfl := Option.some.inj H
           have ⟨_, _, _, _, _, _⟩ := cz3 BK128
           have p28 : 0 ≤ ((ji25) : Int) := of_decide_eq_true asm
           have q28 : (ji25) < (a0_2.size : Int) := of_decide_eq_true asm
           have hx28 := bt_at a0_2 (ji25)
           replace p28 := eq_true p28
           replace q28 := eq_true q28
           go_wp2
           go_ret
           exact ⟨by first | rfl | (simp [errW_none, errW_some] <;> rfl) | (simp only [← hji25]; first | rfl | (simp [errW_none, errW_some] <;> rfl)) | (simp [*, errW_none, errW_some] <;> rfl), bel⟩
         ·
          obtain rfl := Option.some.inj H
          go_wp2
          go_ret
          exact ⟨er, bel⟩

end Go.Proofs.Ytpcdfjcbjbkliaa.E
