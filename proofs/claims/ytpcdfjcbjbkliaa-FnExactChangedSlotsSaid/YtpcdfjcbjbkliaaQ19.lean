import Derived.Test.YtpcdfjcbjbkliaaSq
import Derived.Test.YtpcdfjcbjbkliaaQ0
import Derived.Test.YtpcdfjcbjbkliaaQ15
import Derived.Test.YtpcdfjcbjbkliaaQ16
import Derived.Test.YtpcdfjcbjbkliaaQ17
import Derived.Test.YtpcdfjcbjbkliaaQ18
namespace Go.Proofs.Ytpcdfjcbjbkliaa.E
open Go.RowKit Go.Proofs.YtpcdfjcbjbkliaaW.PrintWords Go.Proofs.YtpcdfjcbjbkliaaW.PrintLast Go.Proofs.YtpcdfjcbjbkliaaW.PrintMore
attribute [local go_sem] max2_int min2_int max_two min_two max_three min_three max_four min_four
set_option linter.unusedVariables false
set_option linter.unusedSimpArgs false

/-! ### impl_IsWord: function 54 -/
def impl_IsWord.l0 : Nat → ByteArray → Int → Int → Option (Bool)
 | 0, _, _, _ => none
 | k + 1, x0, x9, x10 => if x10 < x9 then (if 0 ≤ x10 then (if x10 < (x0.size : Int) then ((impl_isLetter.f (bt x0 x10)).bind fun t458 => (if t458 = true then (impl_IsWord.l0 k x0 x9 (wrap64 (x10 + 1))) else (some false))) else (none)) else (none)) else (some true)
def impl_IsWord.f (k : Nat) (a0 : ByteArray) : Option (Bool) := (impl_InRange.f (a0.size : Int) 1 8).bind fun t457 => (if t457 = true then (impl_IsWord.l0 k a0 (a0.size : Int) 0) else (some false))
set_option maxHeartbeats 8000000 in
set_option maxRecDepth 100000 in
theorem impl_IsWord.calls (k : Nat) (a0 : ByteArray) (r : Bool) (w : World) (H : impl_IsWord.f k a0 = some r) :
  Calls Try.prog 54 #[.string a0] w fun e w' => e = .returned (.bool r) ∧ Drawn0 w w' := by
 unfold impl_IsWord.f at H
 replace H := zs H
 obtain ⟨t457, A2, H⟩ := H
 replace H := zb H
 rcases H with ⟨rfl, H⟩ | ⟨rfl, H⟩
 ·
  have H' := Aside0.mk H
  clear H
  go_enter Try.func54, Try.ntmps54
  go_wp2_with (first | ((with_reducible refine zd 6 rfl ?_); refine zgl Try.func62 (impl_InRange.calls (a0.size : Int) 1 8 true _ A2.out) ?_; rintro e w' ⟨rfl, ⟨nd, rfl⟩⟩; refine ⟨_, rfl, ?_⟩))
  go_loopg [10] k (fun kq v10 w' => ∃ (x10_1 : Int), v10 = .int .i64 x10_1 ∧ Aside0 (impl_IsWord.l0 kq a0 (a0.size : Int) x10_1 = some r) ∧ Aside0 (kq ≤ k) ∧ Drawn0 w w')
  case atStart => exact ⟨(0), rf, H', ⟨Nat.le_refl _⟩, by repeat (first | exact Drawn0.refl _ | apply Drawn0.step)⟩
  case round =>
   clear H'
   obtain ⟨x10_1, rfl, HA, HK1, ⟨m1, rfl⟩⟩ := hrel
   cases gk with
   | zero => exact absurd HA.out (by simp [impl_IsWord.l0])
   | succ k1 =>
    have H := HA.out
    clear HA
    simp only [impl_IsWord.l0] at H
    replace H := zc H
    rcases H with ⟨c4b0, H⟩ | ⟨c4b0, H⟩
    ·
     replace H := zr H
     obtain ⟨c5b0, H⟩ := H
     replace H := zr H
     obtain ⟨c6b0, H⟩ := H
     replace H := zs H
     obtain ⟨t458, A8, H⟩ := H
     replace H := zb H
     rcases H with ⟨rfl, H⟩ | ⟨rfl, H⟩
     ·
      have H' := Aside0.mk H
      clear H
      have p7 : 0 ≤ (x10_1 : Int) := of_decide_eq_true asm
      have q7 : x10_1 < (a0.size : Int) := of_decide_eq_true asm
      have hx7 := bt_at a0 x10_1
      replace p7 := eq_true p7
      replace q7 := eq_true q7
      go_wp2_with (first | ((with_reducible refine zd 16 rfl ?_); refine zgl Try.func80 (impl_isLetter.calls (bt a0 x10_1) true _ A8.out) ?_; rintro e w' ⟨rfl, ⟨nd, rfl⟩⟩; refine ⟨_, rfl, ?_⟩))
      go_roundg k1
      case measure => have := HK1.out; omega
      case rel => exact ⟨(wrap64 (x10_1 + 1)), rf, H', ⟨by have := HK1.out; omega⟩, by repeat (first | exact Drawn0.refl _ | apply Drawn0.step)⟩
     ·
      obtain rfl := Option.some.inj H
      have p7 : 0 ≤ (x10_1 : Int) := of_decide_eq_true asm
      have q7 : x10_1 < (a0.size : Int) := of_decide_eq_true asm
      have hx7 := bt_at a0 x10_1
      replace p7 := eq_true p7
      replace q7 := eq_true q7
      go_wp2_with (first | ((with_reducible refine zd 16 rfl ?_); refine zgl Try.func80 (impl_isLetter.calls (bt a0 x10_1) false _ A8.out) ?_; rintro e w' ⟨rfl, ⟨nd, rfl⟩⟩; refine ⟨_, rfl, ?_⟩))
      go_ret
      exact ⟨by first | rfl | (simp; done) | (simp [*]; done), by repeat (first | exact Drawn0.refl _ | apply Drawn0.step)⟩
    ·
     obtain rfl := Option.some.inj H
     go_wp2
     go_ret
     exact ⟨by first | rfl | (simp; done) | (simp [*]; done), by repeat (first | exact Drawn0.refl _ | apply Drawn0.step)⟩
 ·
  obtain rfl := Option.some.inj H
  go_enter Try.func54, Try.ntmps54
  go_wp2_with (first | ((with_reducible refine zd 6 rfl ?_); refine zgl Try.func62 (impl_InRange.calls (a0.size : Int) 1 8 false _ A2.out) ?_; rintro e w' ⟨rfl, ⟨nd, rfl⟩⟩; refine ⟨_, rfl, ?_⟩))
  go_ret
  exact ⟨by first | rfl | (simp; done) | (simp [*]; done), by repeat (first | exact Drawn0.refl _ | apply Drawn0.step)⟩

/-! ### impl_needsWord: function 93 -/
def impl_needsWord.f (a0 : Int) : Option (Bool) := if a0 = 3 then (some true) else (some (decide (a0 ≥ 6)))
set_option maxHeartbeats 8000000 in
set_option maxRecDepth 100000 in
theorem impl_needsWord.calls (a0 : Int) (r : Bool) (w : World) (H : impl_needsWord.f a0 = some r) :
  Calls Try.prog 93 #[.int .i64 a0] w fun e w' => e = .returned (.bool r) ∧ Drawn0 w w' := by
 unfold impl_needsWord.f at H
 by_cases c2 : a0 = 3
 rotate_left
 focus
  rw [if_neg c2] at H
  have c2b0 : (a0 == 3) = false := beq_eq_false_iff_ne.mpr c2
  have c2b1 : (a0 != 3) = true := bne_iff_ne.mpr c2
  obtain rfl := Option.some.inj H
 rotate_right
 focus
  rw [if_pos c2] at H
  have c2b0 : (a0 == 3) = true := beq_iff_eq.mpr c2
  have c2b1 : (a0 != 3) = false := bne_eq_false_iff_eq.mpr c2
  clear c2
  obtain rfl := Option.some.inj H
 all_goals
  go_enter Try.func93, Try.ntmps93
  go_wp2
  go_ret
  exact ⟨by first | rfl | (simp; done) | (simp [*]; done), by repeat (first | exact Drawn0.refl _ | apply Drawn0.step)⟩

/-! ### impl_isPair: function 94 -/
def impl_isPair.f (a0 : Int) : Option (Bool) := if a0 = 4 then (some true) else (some (a0 == 5))
set_option maxHeartbeats 8000000 in
set_option maxRecDepth 100000 in
theorem impl_isPair.calls (a0 : Int) (r : Bool) (w : World) (H : impl_isPair.f a0 = some r) :
  Calls Try.prog 94 #[.int .i64 a0] w fun e w' => e = .returned (.bool r) ∧ Drawn0 w w' := by
 unfold impl_isPair.f at H
 by_cases c2 : a0 = 4
 rotate_left
 focus
  rw [if_neg c2] at H
  have c2b0 : (a0 == 4) = false := beq_eq_false_iff_ne.mpr c2
  have c2b1 : (a0 != 4) = true := bne_iff_ne.mpr c2
  obtain rfl := Option.some.inj H
 rotate_right
 focus
  rw [if_pos c2] at H
  have c2b0 : (a0 == 4) = true := beq_iff_eq.mpr c2
  have c2b1 : (a0 != 4) = false := bne_eq_false_iff_eq.mpr c2
  clear c2
  obtain rfl := Option.some.inj H
 all_goals
  go_enter Try.func94, Try.ntmps94
  go_wp2
  go_ret
  exact ⟨by first | rfl | (simp; done) | (simp [*]; done), by repeat (first | exact Drawn0.refl _ | apply Drawn0.step)⟩

/-! ### impl_IsPlay: function 72 -/
mutual
def impl_IsPlay.l0 : Nat → List (S87) → List (S87) → Int → Int → Option (Bool)
 | 0, _, _, _, _ => none
 | k + 1, x0, x9, x10, x11 => if x11 < x10 then (if 0 ≤ x11 then (if x11 < (x9.length : Int) then ((impl_InRange.f ((rd_T87 x9 x11).f0) 1 9).bind fun t462 => (if t462 = true then (if ((rd_T87 x9 x11).f0) = 1 then ((impl_IsWord.f k ((rd_T87 x9 x11).f1)).bind fun t463 => (if t463 = true then (if ((rd_T87 x9 x11).f2) = 0 then (if ((rd_T87 x9 x11).f3) = 0 then (impl_IsPlay.l0 k x0 x9 x10 (wrap64 (x11 + 1))) else (some false)) else (some false)) else (some false))) else (if ((rd_T87 x9 x11).f1).toList = ([] : List UInt8) then ((impl_at.f ((rd_T87 x9 x11).f2) x11).bind fun t464 => (if t464 = true then ((impl_needsWord.f ((rd_T87 x9 x11).f0)).bind fun t465 => (if t465 = true then (if 0 ≤ ((rd_T87 x9 x11).f2) then (if ((rd_T87 x9 x11).f2) < (x0.length : Int) then (impl_IsPlay.j1 k x0 x11 x9 x10 x11 (((rd_T87 x0 ((rd_T87 x9 x11).f2)).f0) != 1) ((rd_T87 x9 x11).f0) ((rd_T87 x9 x11).f1) ((rd_T87 x9 x11).f2) ((rd_T87 x9 x11).f3)) else (none)) else (none)) else (impl_IsPlay.j1 k x0 x11 x9 x10 x11 false ((rd_T87 x9 x11).f0) ((rd_T87 x9 x11).f1) ((rd_T87 x9 x11).f2) ((rd_T87 x9 x11).f3)))) else (impl_IsPlay.j1 k x0 x11 x9 x10 x11 true ((rd_T87 x9 x11).f0) ((rd_T87 x9 x11).f1) ((rd_T87 x9 x11).f2) ((rd_T87 x9 x11).f3)))) else (impl_IsPlay.j1 k x0 x11 x9 x10 x11 true ((rd_T87 x9 x11).f0) ((rd_T87 x9 x11).f1) ((rd_T87 x9 x11).f2) ((rd_T87 x9 x11).f3)))) else (some false))) else (none)) else (none)) else (some true)
def impl_IsPlay.j1 : Nat → List (S87) → Int → List (S87) → Int → Int → Bool → Int → ByteArray → Int → Int → Option (Bool)
 | 0, _, _, _, _, _, _, _, _, _, _ => none
 | k + 1, x0, x3, x9, x10, x11, x60, x462000, x462001, x462002, x462003 => if x60 = true then (some false) else ((impl_isPair.f x462000).bind fun t467 => (if t467 = true then ((impl_at.f x462003 x3).bind fun t468 => (if t468 = true then ((impl_isPair.f x462000).bind fun t469 => (if t469 = true then (impl_IsPlay.l0 k x0 x9 x10 (wrap64 (x11 + 1))) else (if x462003 = 0 then (impl_IsPlay.l0 k x0 x9 x10 (wrap64 (x11 + 1))) else (some false)))) else (some false))) else ((impl_isPair.f x462000).bind fun t470 => (if t470 = true then (impl_IsPlay.l0 k x0 x9 x10 (wrap64 (x11 + 1))) else (if x462003 = 0 then (impl_IsPlay.l0 k x0 x9 x10 (wrap64 (x11 + 1))) else (some false))))))
end
def impl_IsPlay.f (k : Nat) (l0 : List (S87)) : Option (Bool) := (impl_InRange.f (l0.length : Int) 1 9).bind fun t459 => (if t459 = true then (impl_IsPlay.l0 k l0 l0 (l0.length : Int) 0) else (some false))
set_option maxHeartbeats 8000000 in
set_option maxRecDepth 100000 in
theorem impl_IsPlay.calls (k : Nat) (A0 : Option Addr) (c0 : Nat) (l0 : List (S87)) (r : Bool) (w : World) (hr0 : Kd.C k87 w A0 l0.length l0) (hc0 : l0.length ≤ c0) (H : impl_IsPlay.f k l0 = some r) :
  Calls Try.prog 72 #[.slice A0 l0.length c0] w fun e w' => e = .returned (.bool r) ∧ Below w.heap.size w w' := by
 have hu87 := Try.underlying87
 have HR0 := Aside0.mk hr0
 have HC0 := Aside0.mk hc0
 clear hr0 hc0
 have HB := Aside0.mk (Below.refl w.heap.size w)
 unfold impl_IsPlay.f at H
 replace H := zs H
 obtain ⟨t459, A2, H⟩ := H
 replace H := zb H
 rcases H with ⟨rfl, H⟩ | ⟨rfl, H⟩
 ·
  have H' := Aside0.mk H
  clear H
  go_enter Try.func72, Try.ntmps72
  go_wp2_with (first | ((with_reducible refine zd 7 rfl ?_); refine zgl Try.func62 (impl_InRange.calls (l0.length : Int) 1 9 true _ A2.out) ?_; rintro e w' ⟨rfl, ⟨nd, rfl⟩⟩; refine ⟨_, rfl, ?_⟩))
  go_loopg [11] k (fun kq v11 w' => ∃ (x11_1 : Int), v11 = .int .i64 x11_1 ∧ Aside0 (impl_IsPlay.l0 kq l0 l0 (l0.length : Int) x11_1 = some r) ∧ Aside0 (kq ≤ k) ∧ Aside0 (Below w.heap.size w w'))
  case atStart => exact ⟨(0), rf, H', ⟨Nat.le_refl _⟩, ⟨bel⟩⟩
  case round =>
   clear H'
   obtain ⟨x11_1, rfl, HA, HK1, HB⟩ := hrel
   cases gk with
   | zero => exact absurd HA.out (by simp [impl_IsPlay.l0])
   | succ k1 =>
    have H := HA.out
    clear HA
    simp only [impl_IsPlay.l0] at H
    replace H := zc H
    rcases H with ⟨c4b0, H⟩ | ⟨c4b0, H⟩
    ·
     replace H := zr H
     obtain ⟨c5b0, H⟩ := H
     replace H := zr H
     obtain ⟨c6b0, H⟩ := H
     replace H := zs H
     obtain ⟨t462, A7, H⟩ := H
     replace H := zb H
     rcases H with ⟨rfl, H⟩ | ⟨rfl, H⟩
     ·
      by_cases c9 : ((rd_T87 l0 x11_1).f0) = 1
      ·
       rw [if_pos c9] at H
       have c9b0 : (((rd_T87 l0 x11_1).f0) == 1) = true := beq_iff_eq.mpr c9
       have c9b1 : (((rd_T87 l0 x11_1).f0) != 1) = false := bne_eq_false_iff_eq.mpr c9
       clear c9
       replace H := zs H
       obtain ⟨t463, A10, H⟩ := H
       replace H := zb H
       rcases H with ⟨rfl, H⟩ | ⟨rfl, H⟩
       ·
        by_cases c12 : ((rd_T87 l0 x11_1).f2) = 0
        ·
         rw [if_pos c12] at H
         have c12b0 : (((rd_T87 l0 x11_1).f2) == 0) = true := beq_iff_eq.mpr c12
         have c12b1 : (((rd_T87 l0 x11_1).f2) != 0) = false := bne_eq_false_iff_eq.mpr c12
         clear c12
         by_cases c13 : ((rd_T87 l0 x11_1).f3) = 0
         ·
          rw [if_pos c13] at H
          have c13b0 : (((rd_T87 l0 x11_1).f3) == 0) = true := beq_iff_eq.mpr c13
          have c13b1 : (((rd_T87 l0 x11_1).f3) != 0) = false := bne_eq_false_iff_eq.mpr c13
          clear c13
          have H' := Aside0.mk H
          clear H
          obtain ⟨p460, q460, ad460, e460, hx460_0, hx460_1, hx460_2, hx460_3⟩ := zx (at_T87 HR0.out x11_1)
          cases e460
          replace hx460_0 := zh HB hx460_0
          replace hx460_1 := zh HB hx460_1
          replace hx460_2 := zh HB hx460_2
          replace hx460_3 := zh HB hx460_3
          go_wp2_with (first | ((with_reducible refine zd 4 rfl ?_); refine zbx (w := w) #[.int .i64 0, .string (⟨#[]⟩ : ByteArray), .int .i64 0, .int .i64 0] 87 ?_; intro gb461 hg w14 BK461 hb; have GW461 := zg (w := w) hg; replace HB := zB hb; clear hb hg; have ⟨_, _, _, _, _, _, _, _⟩ := cz4 BK461) | ((with_reducible refine zd 18 rfl ?_); refine zgl Try.func62 (impl_InRange.calls ((rd_T87 l0 x11_1).f0) 1 9 true _ A7.out) ?_; rintro e w' ⟨rfl, ⟨nd, rfl⟩⟩; refine ⟨_, rfl, ?_⟩) | ((with_reducible refine zd 25 rfl ?_); refine zgl Try.func54 (impl_IsWord.calls k1 ((rd_T87 l0 x11_1).f1) true _ A10.out) ?_; rintro e w' ⟨rfl, ⟨nd, rfl⟩⟩; refine ⟨_, rfl, ?_⟩))
          go_roundg k1
          case measure => have := HK1.out; omega
          case rel => exact ⟨(wrap64 (x11_1 + 1)), rf, H', ⟨by have := HK1.out; omega⟩, ⟨bel⟩⟩
         ·
          rw [if_neg c13] at H
          have c13b0 : (((rd_T87 l0 x11_1).f3) == 0) = false := beq_eq_false_iff_ne.mpr c13
          have c13b1 : (((rd_T87 l0 x11_1).f3) != 0) = true := bne_iff_ne.mpr c13
          obtain rfl := Option.some.inj H
          obtain ⟨p460, q460, ad460, e460, hx460_0, hx460_1, hx460_2, hx460_3⟩ := zx (at_T87 HR0.out x11_1)
          cases e460
          replace hx460_0 := zh HB hx460_0
          replace hx460_1 := zh HB hx460_1
          replace hx460_2 := zh HB hx460_2
          replace hx460_3 := zh HB hx460_3
          go_wp2_with (first | ((with_reducible refine zd 4 rfl ?_); refine zbx (w := w) #[.int .i64 0, .string (⟨#[]⟩ : ByteArray), .int .i64 0, .int .i64 0] 87 ?_; intro gb461 hg w16 BK461 hb; have GW461 := zg (w := w) hg; replace HB := zB hb; clear hb hg; have ⟨_, _, _, _, _, _, _, _⟩ := cz4 BK461) | ((with_reducible refine zd 18 rfl ?_); refine zgl Try.func62 (impl_InRange.calls ((rd_T87 l0 x11_1).f0) 1 9 true _ A7.out) ?_; rintro e w' ⟨rfl, ⟨nd, rfl⟩⟩; refine ⟨_, rfl, ?_⟩) | ((with_reducible refine zd 25 rfl ?_); refine zgl Try.func54 (impl_IsWord.calls k1 ((rd_T87 l0 x11_1).f1) true _ A10.out) ?_; rintro e w' ⟨rfl, ⟨nd, rfl⟩⟩; refine ⟨_, rfl, ?_⟩))
          go_ret
          exact ⟨er, bel⟩
        ·
         rw [if_neg c12] at H
         have c12b0 : (((rd_T87 l0 x11_1).f2) == 0) = false := beq_eq_false_iff_ne.mpr c12
         have c12b1 : (((rd_T87 l0 x11_1).f2) != 0) = true := bne_iff_ne.mpr c12
         obtain rfl := Option.some.inj H
         obtain ⟨p460, q460, ad460, e460, hx460_0, hx460_1, hx460_2, hx460_3⟩ := zx (at_T87 HR0.out x11_1)
         cases e460
         replace hx460_0 := zh HB hx460_0
         replace hx460_1 := zh HB hx460_1
         replace hx460_2 := zh HB hx460_2
         replace hx460_3 := zh HB hx460_3
         go_wp2_with (first | ((with_reducible refine zd 4 rfl ?_); refine zbx (w := w) #[.int .i64 0, .string (⟨#[]⟩ : ByteArray), .int .i64 0, .int .i64 0] 87 ?_; intro gb461 hg w18 BK461 hb; have GW461 := zg (w := w) hg; replace HB := zB hb; clear hb hg; have ⟨_, _, _, _, _, _, _, _⟩ := cz4 BK461) | ((with_reducible refine zd 18 rfl ?_); refine zgl Try.func62 (impl_InRange.calls ((rd_T87 l0 x11_1).f0) 1 9 true _ A7.out) ?_; rintro e w' ⟨rfl, ⟨nd, rfl⟩⟩; refine ⟨_, rfl, ?_⟩) | ((with_reducible refine zd 25 rfl ?_); refine zgl Try.func54 (impl_IsWord.calls k1 ((rd_T87 l0 x11_1).f1) true _ A10.out) ?_; rintro e w' ⟨rfl, ⟨nd, rfl⟩⟩; refine ⟨_, rfl, ?_⟩))
         go_ret
         exact ⟨er, bel⟩
       ·
        obtain rfl := Option.some.inj H
        obtain ⟨p460, q460, ad460, e460, hx460_0, hx460_1, hx460_2, hx460_3⟩ := zx (at_T87 HR0.out x11_1)
        cases e460
        replace hx460_0 := zh HB hx460_0
        replace hx460_1 := zh HB hx460_1
        replace hx460_2 := zh HB hx460_2
        replace hx460_3 := zh HB hx460_3
        go_wp2_with (first | ((with_reducible refine zd 4 rfl ?_); refine zbx (w := w) #[.int .i64 0, .string (⟨#[]⟩ : ByteArray), .int .i64 0, .int .i64 0] 87 ?_; intro gb461 hg w20 BK461 hb; have GW461 := zg (w := w) hg; replace HB := zB hb; clear hb hg; have ⟨_, _, _, _, _, _, _, _⟩ := cz4 BK461) | ((with_reducible refine zd 18 rfl ?_); refine zgl Try.func62 (impl_InRange.calls ((rd_T87 l0 x11_1).f0) 1 9 true _ A7.out) ?_; rintro e w' ⟨rfl, ⟨nd, rfl⟩⟩; refine ⟨_, rfl, ?_⟩) | ((with_reducible refine zd 25 rfl ?_); refine zgl Try.func54 (impl_IsWord.calls k1 ((rd_T87 l0 x11_1).f1) false _ A10.out) ?_; rintro e w' ⟨rfl, ⟨nd, rfl⟩⟩; refine ⟨_, rfl, ?_⟩))
        go_ret
        exact ⟨er, bel⟩
      ·
       rw [if_neg c9] at H
       have c9b0 : (((rd_T87 l0 x11_1).f0) == 1) = false := beq_eq_false_iff_ne.mpr c9
       have c9b1 : (((rd_T87 l0 x11_1).f0) != 1) = true := bne_iff_ne.mpr c9
       have HC22 := Aside0.mk H
       clear H
       obtain ⟨p460, q460, ad460, e460, hx460_0, hx460_1, hx460_2, hx460_3⟩ := zx (at_T87 HR0.out x11_1)
       cases e460
       replace hx460_0 := zh HB hx460_0
       replace hx460_1 := zh HB hx460_1
       replace hx460_2 := zh HB hx460_2
       replace hx460_3 := zh HB hx460_3
       go_upto_region 11 with (first | ((with_reducible refine zd 4 rfl ?_); refine zbx (w := w) #[.int .i64 0, .string (⟨#[]⟩ : ByteArray), .int .i64 0, .int .i64 0] 87 ?_; intro gb461 hg w23 BK461 hb; have GW461 := zg (w := w) hg; replace HB := zB hb; clear hb hg; have ⟨_, _, _, _, _, _, _, _⟩ := cz4 BK461) | ((with_reducible refine zd 18 rfl ?_); refine zgl Try.func62 (impl_InRange.calls ((rd_T87 l0 x11_1).f0) 1 9 true _ A7.out) ?_; rintro e w' ⟨rfl, ⟨nd, rfl⟩⟩; refine ⟨_, rfl, ?_⟩))
       (try simp only [Act.put, List.setIfInBounds_toArray, List.set_cons_zero, List.set_cons_succ])
       go_cut [60] (fun v60 wc => ∃ (kq : Nat) (x60_21 : Bool), v60 = .bool x60_21 ∧ Aside0 (impl_IsPlay.j1 kq l0 x11_1 l0 (l0.length : Int) x11_1 x60_21 ((rd_T87 l0 x11_1).f0) ((rd_T87 l0 x11_1).f1) ((rd_T87 l0 x11_1).f2) ((rd_T87 l0 x11_1).f3) = some r) ∧ Aside0 (kq ≤ k1) ∧ Aside0 (wc.heap[gb461]? = some (.cells #[.int .i64 ((rd_T87 l0 x11_1).f0), .string ((rd_T87 l0 x11_1).f1), .int .i64 ((rd_T87 l0 x11_1).f2), .int .i64 ((rd_T87 l0 x11_1).f3)] 87 (0, 0))) ∧ Aside0 (Below w.heap.size w wc))
       case first =>
        have H := HC22.out
        clear HC22
        by_cases c25 : ((rd_T87 l0 x11_1).f1).toList = ([] : List UInt8)
        ·
         rw [if_pos c25] at H
         have c25b0 : (((rd_T87 l0 x11_1).f1).toList == ([] : List UInt8)) = true := beq_iff_eq.mpr c25
         have c25b1 : (((rd_T87 l0 x11_1).f1).toList != ([] : List UInt8)) = false := bne_eq_false_iff_eq.mpr c25
         clear c25
         (first | rw [c25b0] | (simp only [i64_w, i32_w]; rw [c25b0]) | skip)
         replace H := zs H
         obtain ⟨t464, A26, H⟩ := H
         replace H := zb H
         rcases H with ⟨rfl, H⟩ | ⟨rfl, H⟩
         ·
          replace H := zs H
          obtain ⟨t465, A28, H⟩ := H
          replace H := zb H
          rcases H with ⟨rfl, H⟩ | ⟨rfl, H⟩
          ·
           replace H := zr H
           obtain ⟨c30b0, H⟩ := H
           replace H := zr H
           obtain ⟨c31b0, H⟩ := H
           have H' := Aside0.mk H
           clear H
           have ⟨_, _, _, _, _, _, _, _⟩ := cz4 BK461
           go_wp2_with (first | (go_at_call 44; (with_reducible refine (impl_at.calls ((rd_T87 l0 x11_1).f2) x11_1 true _ A26.out).mono ?_); rintro e w' ⟨rfl, ⟨nd, rfl⟩⟩) | (go_at_call 93; (with_reducible refine (impl_needsWord.calls ((rd_T87 l0 x11_1).f0) true _ A28.out).mono ?_); rintro e w' ⟨rfl, ⟨nd, rfl⟩⟩; have p466 : 0 ≤ (((rd_T87 l0 x11_1).f2) : Int) := of_decide_eq_true asm; have q466 : ((rd_T87 l0 x11_1).f2) < (l0.length : Int) := of_decide_eq_true asm; obtain ⟨ad466, e466, hx466_0, hx466_1, hx466_2, hx466_3⟩ := at_T87 HR0.out ((rd_T87 l0 x11_1).f2) p466 q466; obtain rfl : ad460 = ad466 := (by injection e466); have hn466_0 : ad460.block ≠ gb461 := Nat.ne_of_lt (Nat.lt_of_lt_of_le (by have := World.block_lt_of_cell? _ _ hx466_0; first | rwa [add_block] at this | exact this) GW461.out); have hn466_1 : ad460.block ≠ gb461 := Nat.ne_of_lt (Nat.lt_of_lt_of_le (by have := World.block_lt_of_cell? _ _ hx466_0; first | rwa [add_block] at this | exact this) GW461.out); have hn466_2 : ad460.block ≠ gb461 := Nat.ne_of_lt (Nat.lt_of_lt_of_le (by have := World.block_lt_of_cell? _ _ hx466_0; first | rwa [add_block] at this | exact this) GW461.out); have hn466_3 : ad460.block ≠ gb461 := Nat.ne_of_lt (Nat.lt_of_lt_of_le (by have := World.block_lt_of_cell? _ _ hx466_0; first | rwa [add_block] at this | exact this) GW461.out); replace hx466_0 := (HB.out.cell (World.block_lt_of_cell? w _ hx466_0)).trans hx466_0; replace hx466_1 := (HB.out.cell (World.block_lt_of_cell? w _ hx466_1)).trans hx466_1; replace hx466_2 := (HB.out.cell (World.block_lt_of_cell? w _ hx466_2)).trans hx466_2; replace hx466_3 := (HB.out.cell (World.block_lt_of_cell? w _ hx466_3)).trans hx466_3; replace hx466_0 := (cell_far (p := ⟨gb461, 0, none⟩) (by first | (rw [add_block]; exact hn466_0) | (show (Addr.add _ _).block ≠ _; rw [add_block]; exact hn466_0) | exact hn466_0) (.int .i64 ((rd_T87 l0 x11_1).f0))).trans hx466_0; replace hx466_1 := (cell_far (p := ⟨gb461, 0, none⟩) (by first | (rw [add_block]; exact hn466_0) | (show (Addr.add _ _).block ≠ _; rw [add_block]; exact hn466_0) | exact hn466_0) (.int .i64 ((rd_T87 l0 x11_1).f0))).trans hx466_1; replace hx466_2 := (cell_far (p := ⟨gb461, 0, none⟩) (by first | (rw [add_block]; exact hn466_0) | (show (Addr.add _ _).block ≠ _; rw [add_block]; exact hn466_0) | exact hn466_0) (.int .i64 ((rd_T87 l0 x11_1).f0))).trans hx466_2; replace hx466_3 := (cell_far (p := ⟨gb461, 0, none⟩) (by first | (rw [add_block]; exact hn466_0) | (show (Addr.add _ _).block ≠ _; rw [add_block]; exact hn466_0) | exact hn466_0) (.int .i64 ((rd_T87 l0 x11_1).f0))).trans hx466_3; replace hx466_0 := (cell_far (p := ⟨gb461, 1, none⟩) (by first | (rw [add_block]; exact hn466_1) | (show (Addr.add _ _).block ≠ _; rw [add_block]; exact hn466_1) | exact hn466_1) (.string ((rd_T87 l0 x11_1).f1))).trans hx466_0; replace hx466_1 := (cell_far (p := ⟨gb461, 1, none⟩) (by first | (rw [add_block]; exact hn466_1) | (show (Addr.add _ _).block ≠ _; rw [add_block]; exact hn466_1) | exact hn466_1) (.string ((rd_T87 l0 x11_1).f1))).trans hx466_1; replace hx466_2 := (cell_far (p := ⟨gb461, 1, none⟩) (by first | (rw [add_block]; exact hn466_1) | (show (Addr.add _ _).block ≠ _; rw [add_block]; exact hn466_1) | exact hn466_1) (.string ((rd_T87 l0 x11_1).f1))).trans hx466_2; replace hx466_3 := (cell_far (p := ⟨gb461, 1, none⟩) (by first | (rw [add_block]; exact hn466_1) | (show (Addr.add _ _).block ≠ _; rw [add_block]; exact hn466_1) | exact hn466_1) (.string ((rd_T87 l0 x11_1).f1))).trans hx466_3; replace hx466_0 := (cell_far (p := ⟨gb461, 2, none⟩) (by first | (rw [add_block]; exact hn466_2) | (show (Addr.add _ _).block ≠ _; rw [add_block]; exact hn466_2) | exact hn466_2) (.int .i64 ((rd_T87 l0 x11_1).f2))).trans hx466_0; replace hx466_1 := (cell_far (p := ⟨gb461, 2, none⟩) (by first | (rw [add_block]; exact hn466_2) | (show (Addr.add _ _).block ≠ _; rw [add_block]; exact hn466_2) | exact hn466_2) (.int .i64 ((rd_T87 l0 x11_1).f2))).trans hx466_1; replace hx466_2 := (cell_far (p := ⟨gb461, 2, none⟩) (by first | (rw [add_block]; exact hn466_2) | (show (Addr.add _ _).block ≠ _; rw [add_block]; exact hn466_2) | exact hn466_2) (.int .i64 ((rd_T87 l0 x11_1).f2))).trans hx466_2; replace hx466_3 := (cell_far (p := ⟨gb461, 2, none⟩) (by first | (rw [add_block]; exact hn466_2) | (show (Addr.add _ _).block ≠ _; rw [add_block]; exact hn466_2) | exact hn466_2) (.int .i64 ((rd_T87 l0 x11_1).f2))).trans hx466_3; replace hx466_0 := (cell_far (p := ⟨gb461, 3, none⟩) (by first | (rw [add_block]; exact hn466_3) | (show (Addr.add _ _).block ≠ _; rw [add_block]; exact hn466_3) | exact hn466_3) (.int .i64 ((rd_T87 l0 x11_1).f3))).trans hx466_0; replace hx466_1 := (cell_far (p := ⟨gb461, 3, none⟩) (by first | (rw [add_block]; exact hn466_3) | (show (Addr.add _ _).block ≠ _; rw [add_block]; exact hn466_3) | exact hn466_3) (.int .i64 ((rd_T87 l0 x11_1).f3))).trans hx466_1; replace hx466_2 := (cell_far (p := ⟨gb461, 3, none⟩) (by first | (rw [add_block]; exact hn466_3) | (show (Addr.add _ _).block ≠ _; rw [add_block]; exact hn466_3) | exact hn466_3) (.int .i64 ((rd_T87 l0 x11_1).f3))).trans hx466_2; replace hx466_3 := (cell_far (p := ⟨gb461, 3, none⟩) (by first | (rw [add_block]; exact hn466_3) | (show (Addr.add _ _).block ≠ _; rw [add_block]; exact hn466_3) | exact hn466_3) (.int .i64 ((rd_T87 l0 x11_1).f3))).trans hx466_3; clear hn466_0; clear hn466_1; clear hn466_2; clear hn466_3; replace p466 := eq_true p466; replace q466 := eq_true q466))
           go_meet
           case rel => exact ⟨_, ((((rd_T87 l0 ((rd_T87 l0 x11_1).f2)).f0) != 1)), rf, H', ⟨by have := HK1.out; first | omega | exact Nat.le_refl _⟩, ⟨by (with_reducible repeat (first | refine blk_drewN ?_ _ | refine blk_drew ?_ | refine blk_alloc ?_ _)); refine blk_put (cs := #[.int .i64 ((rd_T87 l0 x11_1).f0), .string ((rd_T87 l0 x11_1).f1), .int .i64 ((rd_T87 l0 x11_1).f2), .int .i64 0]) ?_ 3 _ rfl; (with_reducible repeat (first | refine blk_drewN ?_ _ | refine blk_drew ?_ | refine blk_alloc ?_ _)); refine blk_put (cs := #[.int .i64 ((rd_T87 l0 x11_1).f0), .string ((rd_T87 l0 x11_1).f1), .int .i64 0, .int .i64 0]) ?_ 2 _ rfl; (with_reducible repeat (first | refine blk_drewN ?_ _ | refine blk_drew ?_ | refine blk_alloc ?_ _)); refine blk_put (cs := #[.int .i64 ((rd_T87 l0 x11_1).f0), .string (⟨#[]⟩ : ByteArray), .int .i64 0, .int .i64 0]) ?_ 1 _ rfl; (with_reducible repeat (first | refine blk_drewN ?_ _ | refine blk_drew ?_ | refine blk_alloc ?_ _)); refine blk_put (cs := #[.int .i64 0, .string (⟨#[]⟩ : ByteArray), .int .i64 0, .int .i64 0]) ?_ 0 _ rfl; (with_reducible repeat (first | refine blk_drewN ?_ _ | refine blk_drew ?_ | refine blk_alloc ?_ _)); exact BK461.out⟩, ⟨bel⟩⟩
          ·
           have H' := Aside0.mk H
           clear H
           have ⟨_, _, _, _, _, _, _, _⟩ := cz4 BK461
           go_wp2_with (first | (go_at_call 44; (with_reducible refine (impl_at.calls ((rd_T87 l0 x11_1).f2) x11_1 true _ A26.out).mono ?_); rintro e w' ⟨rfl, ⟨nd, rfl⟩⟩) | (go_at_call 93; (with_reducible refine (impl_needsWord.calls ((rd_T87 l0 x11_1).f0) false _ A28.out).mono ?_); rintro e w' ⟨rfl, ⟨nd, rfl⟩⟩))
           go_meet
           case rel => exact ⟨_, (false), rf, H', ⟨by have := HK1.out; first | omega | exact Nat.le_refl _⟩, ⟨by (with_reducible repeat (first | refine blk_drewN ?_ _ | refine blk_drew ?_ | refine blk_alloc ?_ _)); refine blk_put (cs := #[.int .i64 ((rd_T87 l0 x11_1).f0), .string ((rd_T87 l0 x11_1).f1), .int .i64 ((rd_T87 l0 x11_1).f2), .int .i64 0]) ?_ 3 _ rfl; (with_reducible repeat (first | refine blk_drewN ?_ _ | refine blk_drew ?_ | refine blk_alloc ?_ _)); refine blk_put (cs := #[.int .i64 ((rd_T87 l0 x11_1).f0), .string ((rd_T87 l0 x11_1).f1), .int .i64 0, .int .i64 0]) ?_ 2 _ rfl; (with_reducible repeat (first | refine blk_drewN ?_ _ | refine blk_drew ?_ | refine blk_alloc ?_ _)); refine blk_put (cs := #[.int .i64 ((rd_T87 l0 x11_1).f0), .string (⟨#[]⟩ : ByteArray), .int .i64 0, .int .i64 0]) ?_ 1 _ rfl; (with_reducible repeat (first | refine blk_drewN ?_ _ | refine blk_drew ?_ | refine blk_alloc ?_ _)); refine blk_put (cs := #[.int .i64 0, .string (⟨#[]⟩ : ByteArray), .int .i64 0, .int .i64 0]) ?_ 0 _ rfl; (with_reducible repeat (first | refine blk_drewN ?_ _ | refine blk_drew ?_ | refine blk_alloc ?_ _)); exact BK461.out⟩, ⟨bel⟩⟩
         ·
          have H' := Aside0.mk H
          clear H
          have ⟨_, _, _, _, _, _, _, _⟩ := cz4 BK461
          go_wp2_with (first | (go_at_call 44; (with_reducible refine (impl_at.calls ((rd_T87 l0 x11_1).f2) x11_1 false _ A26.out).mono ?_); rintro e w' ⟨rfl, ⟨nd, rfl⟩⟩))
          go_meet
          case rel => exact ⟨_, (true), rf, H', ⟨by have := HK1.out; first | omega | exact Nat.le_refl _⟩, ⟨by (with_reducible repeat (first | refine blk_drewN ?_ _ | refine blk_drew ?_ | refine blk_alloc ?_ _)); refine blk_put (cs := #[.int .i64 ((rd_T87 l0 x11_1).f0), .string ((rd_T87 l0 x11_1).f1), .int .i64 ((rd_T87 l0 x11_1).f2), .int .i64 0]) ?_ 3 _ rfl; (with_reducible repeat (first | refine blk_drewN ?_ _ | refine blk_drew ?_ | refine blk_alloc ?_ _)); refine blk_put (cs := #[.int .i64 ((rd_T87 l0 x11_1).f0), .string ((rd_T87 l0 x11_1).f1), .int .i64 0, .int .i64 0]) ?_ 2 _ rfl; (with_reducible repeat (first | refine blk_drewN ?_ _ | refine blk_drew ?_ | refine blk_alloc ?_ _)); refine blk_put (cs := #[.int .i64 ((rd_T87 l0 x11_1).f0), .string (⟨#[]⟩ : ByteArray), .int .i64 0, .int .i64 0]) ?_ 1 _ rfl; (with_reducible repeat (first | refine blk_drewN ?_ _ | refine blk_drew ?_ | refine blk_alloc ?_ _)); refine blk_put (cs := #[.int .i64 0, .string (⟨#[]⟩ : ByteArray), .int .i64 0, .int .i64 0]) ?_ 0 _ rfl; (with_reducible repeat (first | refine blk_drewN ?_ _ | refine blk_drew ?_ | refine blk_alloc ?_ _)); exact BK461.out⟩, ⟨bel⟩⟩
        ·
         rw [if_neg c25] at H
         have c25b0 : (((rd_T87 l0 x11_1).f1).toList == ([] : List UInt8)) = false := beq_eq_false_iff_ne.mpr c25
         have c25b1 : (((rd_T87 l0 x11_1).f1).toList != ([] : List UInt8)) = true := bne_iff_ne.mpr c25
         (first | rw [c25b0] | (simp only [i64_w, i32_w]; rw [c25b0]) | skip)
         have H' := Aside0.mk H
         clear H
         have ⟨_, _, _, _, _, _, _, _⟩ := cz4 BK461
         go_wp2
         go_meet
         case rel => exact ⟨_, (true), rf, H', ⟨by have := HK1.out; first | omega | exact Nat.le_refl _⟩, ⟨by (with_reducible repeat (first | refine blk_drewN ?_ _ | refine blk_drew ?_ | refine blk_alloc ?_ _)); refine blk_put (cs := #[.int .i64 ((rd_T87 l0 x11_1).f0), .string ((rd_T87 l0 x11_1).f1), .int .i64 ((rd_T87 l0 x11_1).f2), .int .i64 0]) ?_ 3 _ rfl; (with_reducible repeat (first | refine blk_drewN ?_ _ | refine blk_drew ?_ | refine blk_alloc ?_ _)); refine blk_put (cs := #[.int .i64 ((rd_T87 l0 x11_1).f0), .string ((rd_T87 l0 x11_1).f1), .int .i64 0, .int .i64 0]) ?_ 2 _ rfl; (with_reducible repeat (first | refine blk_drewN ?_ _ | refine blk_drew ?_ | refine blk_alloc ?_ _)); refine blk_put (cs := #[.int .i64 ((rd_T87 l0 x11_1).f0), .string (⟨#[]⟩ : ByteArray), .int .i64 0, .int .i64 0]) ?_ 1 _ rfl; (with_reducible repeat (first | refine blk_drewN ?_ _ | refine blk_drew ?_ | refine blk_alloc ?_ _)); refine blk_put (cs := #[.int .i64 0, .string (⟨#[]⟩ : ByteArray), .int .i64 0, .int .i64 0]) ?_ 0 _ rfl; (with_reducible repeat (first | refine blk_drewN ?_ _ | refine blk_drew ?_ | refine blk_alloc ?_ _)); exact BK461.out⟩, ⟨bel⟩⟩
       case rest =>
        clear HC22
        obtain ⟨kq, x60_21, rfl, HA, HJ21, BK461, HB⟩ := hcut
        cases kq with
        | zero => exact absurd HA.out (by simp [impl_IsPlay.j1])
        | succ kj21 =>
         have H := HA.out
         clear HA
         simp only [impl_IsPlay.j1] at H
         replace H := zb H
         rcases H with ⟨rfl, H⟩ | ⟨rfl, H⟩
         ·
          obtain rfl := Option.some.inj H
          go_wp2
          go_ret
          exact ⟨er, bel⟩
         ·
          replace H := zs H
          obtain ⟨t467, A37, H⟩ := H
          replace H := zb H
          rcases H with ⟨rfl, H⟩ | ⟨rfl, H⟩
          ·
           replace H := zs H
           obtain ⟨t468, A39, H⟩ := H
           replace H := zb H
           rcases H with ⟨rfl, H⟩ | ⟨rfl, H⟩
           ·
            replace H := zs H
            obtain ⟨t469, A41, H⟩ := H
            replace H := zb H
            rcases H with ⟨rfl, H⟩ | ⟨rfl, H⟩
            ·
             have H' := Aside0.mk H
             clear H
             have ⟨_, _, _, _, _, _, _, _⟩ := cz4 BK461
             go_wp2_with (first | ((with_reducible refine zd 63 rfl ?_); refine zgl Try.func94 (impl_isPair.calls ((rd_T87 l0 x11_1).f0) true _ A37.out) ?_; rintro e w' ⟨rfl, ⟨nd, rfl⟩⟩; refine ⟨_, rfl, ?_⟩) | (go_at_call 44; (with_reducible refine (impl_at.calls ((rd_T87 l0 x11_1).f3) x11_1 true _ A39.out).mono ?_); rintro e w' ⟨rfl, ⟨nd, rfl⟩⟩) | (go_at_call 94; (with_reducible refine (impl_isPair.calls ((rd_T87 l0 x11_1).f0) true _ A41.out).mono ?_); rintro e w' ⟨rfl, ⟨nd, rfl⟩⟩))
             go_roundg kj21
             case measure => have := HK1.out; have := HJ21.out; omega
             case rel => exact ⟨(wrap64 (x11_1 + 1)), rf, H', ⟨by have := HK1.out; have := HJ21.out; omega⟩, ⟨bel⟩⟩
            ·
             by_cases c44 : ((rd_T87 l0 x11_1).f3) = 0
             ·
              rw [if_pos c44] at H
              have c44b0 : (((rd_T87 l0 x11_1).f3) == 0) = true := beq_iff_eq.mpr c44
              have c44b1 : (((rd_T87 l0 x11_1).f3) != 0) = false := bne_eq_false_iff_eq.mpr c44
              clear c44
              have H' := Aside0.mk H
              clear H
              have ⟨_, _, _, _, _, _, _, _⟩ := cz4 BK461
              go_wp2_with (first | ((with_reducible refine zd 63 rfl ?_); refine zgl Try.func94 (impl_isPair.calls ((rd_T87 l0 x11_1).f0) true _ A37.out) ?_; rintro e w' ⟨rfl, ⟨nd, rfl⟩⟩; refine ⟨_, rfl, ?_⟩) | (go_at_call 44; (with_reducible refine (impl_at.calls ((rd_T87 l0 x11_1).f3) x11_1 true _ A39.out).mono ?_); rintro e w' ⟨rfl, ⟨nd, rfl⟩⟩) | (go_at_call 94; (with_reducible refine (impl_isPair.calls ((rd_T87 l0 x11_1).f0) false _ A41.out).mono ?_); rintro e w' ⟨rfl, ⟨nd, rfl⟩⟩))
              go_roundg kj21
              case measure => have := HK1.out; have := HJ21.out; omega
              case rel => exact ⟨(wrap64 (x11_1 + 1)), rf, H', ⟨by have := HK1.out; have := HJ21.out; omega⟩, ⟨bel⟩⟩
             ·
              rw [if_neg c44] at H
              have c44b0 : (((rd_T87 l0 x11_1).f3) == 0) = false := beq_eq_false_iff_ne.mpr c44
              have c44b1 : (((rd_T87 l0 x11_1).f3) != 0) = true := bne_iff_ne.mpr c44
              obtain rfl := Option.some.inj H
              have ⟨_, _, _, _, _, _, _, _⟩ := cz4 BK461
              go_wp2_with (first | ((with_reducible refine zd 63 rfl ?_); refine zgl Try.func94 (impl_isPair.calls ((rd_T87 l0 x11_1).f0) true _ A37.out) ?_; rintro e w' ⟨rfl, ⟨nd, rfl⟩⟩; refine ⟨_, rfl, ?_⟩) | (go_at_call 44; (with_reducible refine (impl_at.calls ((rd_T87 l0 x11_1).f3) x11_1 true _ A39.out).mono ?_); rintro e w' ⟨rfl, ⟨nd, rfl⟩⟩) | (go_at_call 94; (with_reducible refine (impl_isPair.calls ((rd_T87 l0 x11_1).f0) false _ A41.out).mono ?_); rintro e w' ⟨rfl, ⟨nd, rfl⟩⟩))
              go_ret
              exact ⟨er, bel⟩
           ·
            obtain rfl := Option.some.inj H
            have ⟨_, _, _, _, _, _, _, _⟩ := cz4 BK461
            go_wp2_with (first | ((with_reducible refine zd 63 rfl ?_); refine zgl Try.func94 (impl_isPair.calls ((rd_T87 l0 x11_1).f0) true _ A37.out) ?_; rintro e w' ⟨rfl, ⟨nd, rfl⟩⟩; refine ⟨_, rfl, ?_⟩) | (go_at_call 44; (with_reducible refine (impl_at.calls ((rd_T87 l0 x11_1).f3) x11_1 false _ A39.out).mono ?_); rintro e w' ⟨rfl, ⟨nd, rfl⟩⟩))
            go_ret
            exact ⟨er, bel⟩
          ·
           replace H := zs H
           obtain ⟨t470, A48, H⟩ := H
           replace H := zb H
           rcases H with ⟨rfl, H⟩ | ⟨rfl, H⟩
           ·
            have H' := Aside0.mk H
            clear H
            have ⟨_, _, _, _, _, _, _, _⟩ := cz4 BK461
            go_wp2_with (first | ((with_reducible refine zd 63 rfl ?_); refine zgl Try.func94 (impl_isPair.calls ((rd_T87 l0 x11_1).f0) false _ A37.out) ?_; rintro e w' ⟨rfl, ⟨nd, rfl⟩⟩; refine ⟨_, rfl, ?_⟩) | (go_at_call 94; (with_reducible refine (impl_isPair.calls ((rd_T87 l0 x11_1).f0) true _ A48.out).mono ?_); rintro e w' ⟨rfl, ⟨nd, rfl⟩⟩))
            go_roundg kj21
            case measure => have := HK1.out; have := HJ21.out; omega
            case rel => exact ⟨(wrap64 (x11_1 + 1)), rf, H', ⟨by have := HK1.out; have := HJ21.out; omega⟩, ⟨bel⟩⟩
           ·
            by_cases c51 : ((rd_T87 l0 x11_1).f3) = 0
            ·
             rw [if_pos c51] at H
             have c51b0 : (((rd_T87 l0 x11_1).f3) == 0) = true := beq_iff_eq.mpr c51
             have c51b1 : (((rd_T87 l0 x11_1).f3) != 0) = false := bne_eq_false_iff_eq.mpr c51
             clear c51
             have H' := Aside0.mk H
             clear H
             have ⟨_, _, _, _, _, _, _, _⟩ := cz4 BK461
             go_wp2_with (first | ((with_reducible refine zd 63 rfl ?_); refine zgl Try.func94 (impl_isPair.calls ((rd_T87 l0 x11_1).f0) false _ A37.out) ?_; rintro e w' ⟨rfl, ⟨nd, rfl⟩⟩; refine ⟨_, rfl, ?_⟩) | (go_at_call 94; (with_reducible refine (impl_isPair.calls ((rd_T87 l0 x11_1).f0) false _ A48.out).mono ?_); rintro e w' ⟨rfl, ⟨nd, rfl⟩⟩))
             go_roundg kj21
             case measure => have := HK1.out; have := HJ21.out; omega
             case rel => exact ⟨(wrap64 (x11_1 + 1)), rf, H', ⟨by have := HK1.out; have := HJ21.out; omega⟩, ⟨bel⟩⟩
            ·
             rw [if_neg c51] at H
             have c51b0 : (((rd_T87 l0 x11_1).f3) == 0) = false := beq_eq_false_iff_ne.mpr c51
             have c51b1 : (((rd_T87 l0 x11_1).f3) != 0) = true := bne_iff_ne.mpr c51
             obtain rfl := Option.some.inj H
             have ⟨_, _, _, _, _, _, _, _⟩ := cz4 BK461
             go_wp2_with (first | ((with_reducible refine zd 63 rfl ?_); refine zgl Try.func94 (impl_isPair.calls ((rd_T87 l0 x11_1).f0) false _ A37.out) ?_; rintro e w' ⟨rfl, ⟨nd, rfl⟩⟩; refine ⟨_, rfl, ?_⟩) | (go_at_call 94; (with_reducible refine (impl_isPair.calls ((rd_T87 l0 x11_1).f0) false _ A48.out).mono ?_); rintro e w' ⟨rfl, ⟨nd, rfl⟩⟩))
             go_ret
             exact ⟨er, bel⟩
     ·
      obtain rfl := Option.some.inj H
      obtain ⟨p460, q460, ad460, e460, hx460_0, hx460_1, hx460_2, hx460_3⟩ := zx (at_T87 HR0.out x11_1)
      cases e460
      replace hx460_0 := zh HB hx460_0
      replace hx460_1 := zh HB hx460_1
      replace hx460_2 := zh HB hx460_2
      replace hx460_3 := zh HB hx460_3
      go_wp2_with (first | ((with_reducible refine zd 4 rfl ?_); refine zbx (w := w) #[.int .i64 0, .string (⟨#[]⟩ : ByteArray), .int .i64 0, .int .i64 0] 87 ?_; intro gb461 hg w54 BK461 hb; have GW461 := zg (w := w) hg; replace HB := zB hb; clear hb hg; have ⟨_, _, _, _, _, _, _, _⟩ := cz4 BK461) | ((with_reducible refine zd 18 rfl ?_); refine zgl Try.func62 (impl_InRange.calls ((rd_T87 l0 x11_1).f0) 1 9 false _ A7.out) ?_; rintro e w' ⟨rfl, ⟨nd, rfl⟩⟩; refine ⟨_, rfl, ?_⟩))
      go_ret
      exact ⟨er, bel⟩
    ·
     obtain rfl := Option.some.inj H
     go_wp2
     go_ret
     exact ⟨er, bel⟩
 ·
  obtain rfl := Option.some.inj H
  go_enter Try.func72, Try.ntmps72
  go_wp2_with (first | ((with_reducible refine zd 7 rfl ?_); refine zgl Try.func62 (impl_InRange.calls (l0.length : Int) 1 9 false _ A2.out) ?_; rintro e w' ⟨rfl, ⟨nd, rfl⟩⟩; refine ⟨_, rfl, ?_⟩))
  go_ret
  exact ⟨er, bel⟩

/-! ### impl_IsClue: function 45 -/
def impl_IsClue.f (k : Nat) (a0_0 : Int) (l0_1 : List (S87)) : Option (Bool) := (impl_InRange.f a0_0 1 99).bind fun t472 => (if t472 = true then ((impl_IsPlay.f k l0_1).bind fun t473 => (some t473)) else (some false))
set_option maxHeartbeats 8000000 in
set_option maxRecDepth 100000 in
theorem impl_IsClue.calls (k : Nat) (a0_0 : Int) (A0_1 : Option Addr) (c0_1 : Nat) (l0_1 : List (S87)) (r : Bool) (w : World) (hr0_1 : Kd.C k87 w A0_1 l0_1.length l0_1) (hc0_1 : l0_1.length ≤ c0_1) (H : impl_IsClue.f k a0_0 l0_1 = some r) :
  Calls Try.prog 45 #[.agg #[.int .i64 a0_0, .slice A0_1 l0_1.length c0_1]] w fun e w' => e = .returned (.bool r) ∧ Below w.heap.size w w' := by
 have hu48 := Try.underlying48
 have HR0_1 := Aside0.mk hr0_1
 have HC0_1 := Aside0.mk hc0_1
 clear hr0_1 hc0_1
 have HB := Aside0.mk (Below.refl w.heap.size w)
 unfold impl_IsClue.f at H
 replace H := zs H
 obtain ⟨t472, A2, H⟩ := H
 replace H := zb H
 rcases H with ⟨rfl, H⟩ | ⟨rfl, H⟩
 rotate_left
 focus
  obtain rfl := Option.some.inj H
 rotate_right
 focus
  replace H := zs H
  obtain ⟨t473, A4, H⟩ := H
  obtain rfl := Option.some.inj H
 all_goals
  go_enter Try.func45, Try.ntmps45
  go_wp2_with (first | ((with_reducible refine zd 1 rfl ?_); refine zbx (w := w) #[.int .i64 a0_0, .slice A0_1 l0_1.length c0_1] 48 ?_; intro gb471 hg w1000 BK471 hb; have GW471 := zg (w := w) hg; replace HB := zB hb; clear hb hg; have ⟨_, _, _, _⟩ := cz2 BK471) | ((with_reducible refine zd 5 rfl ?_); refine zgl Try.func62 (impl_InRange.calls a0_0 1 99 _ _ A2.out) ?_; rintro e w' ⟨rfl, ⟨nd, rfl⟩⟩; refine ⟨_, rfl, ?_⟩) | (go_at_call 72; (with_reducible refine (impl_IsPlay.calls k _ _ l0_1 t473 _ ?side1 ?side2 A4.out).mono ?_); (case side1 => repeat (first | exact (Kd.C_below HR0_1.out bel) | (with_reducible refine Kd.C_alloc ?_ _) | (with_reducible refine Kd.C_drewN ?_ _) | (with_reducible refine Kd.C_drew ?_))); (case side2 => exact HC0_1.out); rintro e w1001 ⟨rfl, hb⟩; replace BK471 := zk BK471 hb; replace HB := zB hb))
  go_ret
  exact ⟨er, bel⟩

/-! ### impl_IsDraft_1: function 64 -/
def impl_IsDraft_1.f (k : Nat) (a0_0 : Int) (l0_1 : List (S87)) : Option (Bool) := (impl_IsClue.f k a0_0 l0_1).bind fun t475 => (if t475 = true then (some false) else ((impl_sameClue.f k a0_0 l0_1 0 ([] : List (S87))).bind fun t476 => (some (!t476))))
set_option maxHeartbeats 8000000 in
set_option maxRecDepth 100000 in
theorem impl_IsDraft_1.calls (k : Nat) (a0_0 : Int) (A0_1 : Option Addr) (c0_1 : Nat) (l0_1 : List (S87)) (r : Bool) (w : World) (hr0_1 : Kd.C k87 w A0_1 l0_1.length l0_1) (hc0_1 : l0_1.length ≤ c0_1) (H : impl_IsDraft_1.f k a0_0 l0_1 = some r) :
  Calls Try.prog 64 #[.agg #[.int .i64 a0_0, .slice A0_1 l0_1.length c0_1]] w fun e w' => e = .returned (.bool r) ∧ Below w.heap.size w w' := by
 have hu48 := Try.underlying48
 have HR0_1 := Aside0.mk hr0_1
 have HC0_1 := Aside0.mk hc0_1
 clear hr0_1 hc0_1
 have HB := Aside0.mk (Below.refl w.heap.size w)
 unfold impl_IsDraft_1.f at H
 replace H := zs H
 obtain ⟨t475, A2, H⟩ := H
 replace H := zb H
 rcases H with ⟨rfl, H⟩ | ⟨rfl, H⟩
 ·
  obtain rfl := Option.some.inj H
  go_enter Try.func64, Try.ntmps64
  go_wp2_with (first | ((with_reducible refine zd 1 rfl ?_); refine zbx (w := w) #[.int .i64 a0_0, .slice A0_1 l0_1.length c0_1] 48 ?_; intro gb474 hg w4 BK474 hb; have GW474 := zg (w := w) hg; replace HB := zB hb; clear hb hg; have ⟨_, _, _, _⟩ := cz2 BK474) | ((with_reducible refine zd 4 rfl ?_); refine zgl Try.func45 (impl_IsClue.calls k a0_0 _ _ l0_1 true _ (zC HR0_1) HC0_1.out A2.out) ?_; rintro e w6 ⟨rfl, hb⟩; refine ⟨_, rfl, ?_⟩; replace BK474 := zk BK474 hb; replace HB := zB hb))
  go_ret
  exact ⟨er, bel⟩
 ·
  replace H := zs H
  obtain ⟨t476, A7, H⟩ := H
  obtain rfl := Option.some.inj H
  go_enter Try.func64, Try.ntmps64
  go_wp2_with (first | ((with_reducible refine zd 1 rfl ?_); refine zbx (w := w) #[.int .i64 a0_0, .slice A0_1 l0_1.length c0_1] 48 ?_; intro gb474 hg w8 BK474 hb; have GW474 := zg (w := w) hg; replace HB := zB hb; clear hb hg; have ⟨_, _, _, _⟩ := cz2 BK474) | ((with_reducible refine zd 4 rfl ?_); refine zgl Try.func45 (impl_IsClue.calls k a0_0 _ _ l0_1 false _ (zC HR0_1) HC0_1.out A2.out) ?_; rintro e w10 ⟨rfl, hb⟩; refine ⟨_, rfl, ?_⟩; replace BK474 := zk BK474 hb; replace HB := zB hb; have ⟨_, _, _, _⟩ := cz2 BK474) | (go_at_call 33; (refine (impl_sameClue.calls k a0_0 _ _ l0_1 0 _ _ ([] : List (S87)) t476 _ ?side1 ?side2 ?side3 ?side4 A7.out).mono ?_); (case side1 => repeat (first | exact (Kd.C_below HR0_1.out HB.out) | (with_reducible refine Kd.C_alloc ?_ _) | (with_reducible refine Kd.C_drewN ?_ _) | (with_reducible refine Kd.C_drew ?_))); (case side2 => exact HC0_1.out); (case side3 => exact Kd.C_nil _ _); (case side4 => exact Nat.le_refl _); rintro e w12 ⟨rfl, hb⟩; replace BK474 := zk BK474 hb; replace HB := zB hb))
  go_ret
  exact ⟨er, bel⟩

-- BY HAND ELSEWHERE: function 91 (impl_Clue_91)

/-! ### impl_Clue_63: function 63 -/
def impl_Clue_63.idx (p : S48 → Option Bool) : List (S48) → Int → Option Int
 | [], _ => some (-1)
 | x :: t, i => (p x).bind fun b => if b = true then some i else impl_Clue_63.idx p t (i + 1)
set_option maxHeartbeats 4000000 in
set_option maxRecDepth 100000 in
theorem impl_Clue_63.idx_64 (k : Nat) (A0 : Option Addr) (c0 : Nat) (l0 : List (S48)) (r : Int) (w : World) (hr0 : Kd.C k48 w A0 l0.length l0) (h : impl_Clue_63.idx (fun x => impl_IsDraft_1.f k (x).f0 (x).f1) l0 0 = some r) :
  Calls Try.prog 91 #[.slice A0 l0.length c0, .func (.func 64) #[] #[]] w fun e w' => e = .returned (.int .i64 r) ∧ Below w.heap.size w w' := by
 have hm := hr0.2.1
 have HR0 := Aside0.mk hr0
 have HB := Aside0.mk (Below.refl w.heap.size w)
 have HA0 := Aside0.mk h
 clear hr0 h
 go_enter Try.func91, Try.ntmps91
 go_wp2_with fail
 go_loopg [8] l0.length (fun kq v8 wr => ∃ (i : Nat), v8 = .int .i64 i ∧ i ≤ l0.length ∧ Aside0 (kq + i = l0.length) ∧ Aside0 (Below w.heap.size w wr) ∧ Aside0 (impl_Clue_63.idx (fun x => impl_IsDraft_1.f k (x).f0 (x).f1) (l0.drop i) i = some r))
 case atStart => exact ⟨0, rfl, Nat.zero_le _, ⟨rfl⟩, HB, HA0⟩
 case round =>
  clear HB HA0
  obtain ⟨i, rfl, hi, HK, HB, HA⟩ := hrel
  by_cases hlt : i < l0.length
  ·
   have hA := HA.out
   rw [List.drop_eq_getElem_cons hlt] at hA
   simp only [impl_Clue_63.idx] at hA
   obtain ⟨b, hb, hA⟩ := Option.bind_eq_some_iff.mp hA
   have HP := Aside0.mk hb
   clear hb HA
   obtain ⟨ad, A_1, c_1, e0, q0, q1, hl_1, hi_1⟩ := at_T48 HR0.out (i : Int) (by omega) (by omega)
   subst e0
   have hrd : rd_T48 l0 (i : Int) = l0[i] := by simp [rd_T48, List.getD_eq_getElem?_getD, List.getElem?_eq_getElem hlt]
   simp only [hrd, Int.toNat_natCast] at q0 q1 hl_1 hi_1
   replace q0 := (HB.out.cell (World.block_lt_of_cell? w _ q0)).trans q0
   replace q1 := (HB.out.cell (World.block_lt_of_cell? w _ q1)).trans q1
   have HL1 := Aside0.mk hl_1
   have HI1 := Aside0.mk hi_1
   clear hrd hl_1 hi_1
   cases b with
   | true =>
    rw [if_pos rfl] at hA
    obtain rfl := Option.some.inj hA
    clear hA
    go_wp2_with (go_at_call 64; refine (impl_IsDraft_1.calls k ((l0[i]).f0) _ _ ((l0[i]).f1) _ _ ?s1 ?t1 HP.out).mono ?_; (case s1 => exact Kd.C_below HI1.out HB.out); (case t1 => exact HL1.out); rintro e w2 ⟨rfl, hd⟩; have HB2 := Aside0.mk (below_step HB.out hd); clear hd HB)
    go_ret
    exact ⟨rfl, HB2.out⟩
   | false =>
    rw [if_neg (by decide)] at hA
    have HA := Aside0.mk (show impl_Clue_63.idx (fun x => impl_IsDraft_1.f k (x).f0 (x).f1) (l0.drop (i + 1)) ((i + 1 : Nat) : Int) = some r from hA)
    clear hA
    go_wp2_with (go_at_call 64; refine (impl_IsDraft_1.calls k ((l0[i]).f0) _ _ ((l0[i]).f1) _ _ ?s1 ?t1 HP.out).mono ?_; (case s1 => exact Kd.C_below HI1.out HB.out); (case t1 => exact HL1.out); rintro e w2 ⟨rfl, hd⟩; have HB2 := Aside0.mk (below_step HB.out hd); clear hd HB)
    go_roundg (l0.length - (i + 1))
    case measure => have := HK.out; omega
    case rel => exact ⟨i + 1, by simp, by omega, ⟨by omega⟩, HB2, HA⟩
  ·
   obtain rfl : i = l0.length := by omega
   have hA := HA.out
   rw [List.drop_length] at hA
   simp only [impl_Clue_63.idx, Option.some.injEq] at hA
   subst hA
   go_wp2
   go_ret
   exact ⟨rfl, HB.out⟩
def impl_Clue_63.f (k : Nat) (l0 : List (S48)) (a1 : Nat) : Option Bool := if a1 = 64 then (impl_Clue_63.idx (fun x => impl_IsDraft_1.f k (x).f0 (x).f1) l0 0).bind fun r => some (decide (r ≥ 0)) else none
set_option maxHeartbeats 4000000 in
theorem impl_Clue_63.calls (k : Nat) (A0 : Option Addr) (c0 : Nat) (l0 : List (S48)) (a1 : Nat) (r : Bool) (w : World) (hr0 : Kd.C k48 w A0 l0.length l0) (hc0 : l0.length ≤ c0) (h : impl_Clue_63.f k l0 a1 = some r) :
  Calls Try.prog 63 #[.slice A0 l0.length c0, .func (.func a1) #[] #[]] w fun e w' => e = .returned (.bool r) ∧ Below w.heap.size w w' := by
 unfold impl_Clue_63.f at h
 by_cases e64 : a1 = 64
 ·
  rw [if_pos e64] at h
  subst e64
  obtain ⟨i, hi, h⟩ := Option.bind_eq_some_iff.mp h
  obtain rfl := Option.some.inj h
  have HI := Aside0.mk hi
  have HR := Aside0.mk hr0
  clear hi h hr0
  go_enter Try.func63, Try.ntmps63
  go_wp2_with (go_at_call 91; refine (impl_Clue_63.idx_64 k _ _ l0 i _ HR.out HI.out).mono ?_; rintro e w2 ⟨rfl, hb⟩; have HB := Aside0.mk hb; clear hb)
  go_ret
  exact ⟨by first | rfl | simp, HB.out⟩
 rw [if_neg e64] at h
 cases h

end Go.Proofs.Ytpcdfjcbjbkliaa.E
