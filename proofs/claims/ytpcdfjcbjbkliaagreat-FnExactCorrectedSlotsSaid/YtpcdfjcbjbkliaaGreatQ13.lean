import Derived.Test.YtpcdfjcbjbkliaaGreatSq
import Derived.Test.YtpcdfjcbjbkliaaGreatQ0
import Derived.Test.YtpcdfjcbjbkliaaGreatQ4
import Derived.Test.YtpcdfjcbjbkliaaGreatQ5
import Derived.Test.YtpcdfjcbjbkliaaGreatQ6
import Derived.Test.YtpcdfjcbjbkliaaGreatQ9
import Derived.Test.YtpcdfjcbjbkliaaGreatQ11
import Derived.Test.YtpcdfjcbjbkliaaGreatQ12
namespace Go.Proofs.YtpcdfjcbjbkliaaGreat.E
open Go.RowKit Go.Proofs.YtpcdfjcbjbkliaaGreatW.PrintWords Go.Proofs.YtpcdfjcbjbkliaaGreatW.PrintLast Go.Proofs.YtpcdfjcbjbkliaaGreatW.PrintMore
attribute [local go_sem] max2_int min2_int max_two min_two max_three min_three max_four min_four
set_option linter.unusedVariables false
set_option linter.unusedSimpArgs false

/-! ### spec_l10Alone: function 128 -/
mutual
def spec_l10Alone.l0 : Nat → List (S132) → Int → Int → Int → ByteArray → Option (Bool)
 | 0, _, _, _, _, _ => none
 | k + 1, a, b, c, d, e => if b < (a.length : Int) then ((spec_UncheckedIn.f k c d e b).bind fun f => (if 0 ≤ b then (if (wrap64 (2 * f)) > ((rd_T132 a b).f3) then (some true) else (spec_l10Alone.l0 k a (wrap64 (b + 1)) c d e)) else (none))) else (spec_l10Alone.l1 k 0 c d e)
def spec_l10Alone.l1 : Nat → Int → Int → Int → ByteArray → Option (Bool)
 | 0, _, _, _, _ => none
 | k + 1, a, b, c, d => if a < (d.size : Int) then ((spec_IsWhite.f k b c d a).bind fun e => (if e = true then ((spec_SlotsAt.f k b c d a).bind fun f => (if (f.length : Int) = 0 then (some true) else (spec_l10Alone.l1 k (wrap64 (a + 1)) b c d))) else (spec_l10Alone.l1 k (wrap64 (a + 1)) b c d))) else (some false)
end
def spec_l10Alone.f (k : Nat) (a b : Int) (c : ByteArray) : Option (Bool) := (spec_SlotsOf.f k a b c).bind fun d => (spec_l10Alone.l0 k d 0 a b c)
def spec_l10Alone.T5 : Bool × List (List Nat × List Nat) := (true, [([], []), ([], []), ([0, 1], [0, 1]), ([2], [2]), ([], []), ([], []), ([4, 5], [4, 5]), ([6], [6]), ([7], [7]), ([3, 8], [3, 8])])
theorem spec_l10Alone.tab5 : rtab .any (opsOf Tryz.f128 5) = spec_l10Alone.T5 := by kernel_rfl
set_option maxHeartbeats 8000000 in
set_option maxRecDepth 100000 in
theorem spec_l10Alone.calls (k : Nat) (a0_0 a0_1 : Int) (a0_2 : ByteArray) (r : Bool) (w : World) (H : spec_l10Alone.f k a0_0 a0_1 a0_2 = some r) :
  Calls Tryz.prog 128 #[.agg #[.int .i64 a0_0, .int .i64 a0_1, .string a0_2]] w fun e w' => e = .returned (.bool r) ∧ Below w.heap.size w w' := by
 have hu32 := Tryz.underlying32
 have HB := Aside0.mk (Below.refl w.heap.size w)
 unfold spec_l10Alone.f at H
 replace H := zs H
 obtain ⟨t407, A2, H⟩ := H
 have H' := Aside0.mk H
 clear H
 go_enter Tryz.func128, Tryz.ntmps128
 go_wp2_with (first | ((with_reducible refine zd 1 rfl ?_); (try (refine gate_guard (by rfl) ?_; dsimp only)); refine zbx (w := w) #[.int .i64 a0_0, .int .i64 a0_1, .string a0_2] 32 ?_; intro gb406 hg w3 BK406 hb; have GW406 := zg (w := w) hg; replace HB := zB hb; clear hb hg; have ⟨_, _, _, _, _, _⟩ := cz3 BK406) | ((with_reducible refine zd 7 rfl ?_); refine zgl Tryz.func87 (spec_SlotsOf.calls k a0_0 a0_1 a0_2 t407 _ A2.out) ?_; rintro e w5 ⟨v408, rfl, ho0, hb⟩; refine ⟨_, rfl, ?_⟩; have HO409 := zl2 ho0; replace BK406 := zk BK406 hb; replace HB := zB hb))
 go_loopg [4] k (fun kq v4 w' => ∃ (x4_1 : Int), v4 = .int .i64 x4_1 ∧ Aside0 (spec_l10Alone.l0 kq t407 x4_1 a0_0 a0_1 a0_2 = some r) ∧ Aside0 (kq ≤ k) ∧ Aside0 (Kd.R k132 132 w' w.heap.size (fun _ => True) v408 t407) ∧ Aside0 (w'.heap[gb406]? = some (.cells #[.int .i64 a0_0, .int .i64 a0_1, .string a0_2] 32 (0, 0))) ∧ Aside0 (Below w.heap.size w w'))
 case atStart => exact ⟨(0), rf, H', ⟨Nat.le_refl _⟩, ⟨kr HO409⟩, ⟨bk BK406⟩, ⟨bel⟩⟩
 case round =>
  clear H'
  obtain ⟨x4_1, rfl, HA, HK1, HO_3, BK406, HB⟩ := hrel
  cases gk with
  | zero => exact absurd HA.out (by simp [spec_l10Alone.l0])
  | succ k1 =>
   have H := HA.out
   clear HA
   simp only [spec_l10Alone.l0] at H
   replace H := zc H
   rcases H with ⟨c6b0, H⟩ | ⟨c6b0, H⟩
   ·
    replace H := zs H
    obtain ⟨t410, A7, H⟩ := H
    replace H := zr H
    obtain ⟨c8b0, H⟩ := H
    replace H := zc H
    rcases H with ⟨c9b0, H⟩ | ⟨c9b0, H⟩
    ·
     obtain rfl := Option.some.inj H
     obtain ⟨Ao10, co10, eo10⟩ := Kd.R_slice HO_3.out
     subst eo10
     try go_wp2
     replace HO_3 := zRd HO_3
     replace BK406 := zkd BK406
     replace HB := zBd HB
     obtain ⟨p411, q411, ad411, e411, hx411_0, hx411_1, hx411_2, hx411_3⟩ := zx (at_T132 (Kd.R_reads' HO_3.out).2.2 x4_1)
     cases e411
     refine zst 10 spec_l10Alone.tab5 (zb3 BK406 <| zhc hx411_0 <| zhc hx411_1 <| zhc hx411_2 <| zhc hx411_3 <| zn0) fun hHeld HT_ => ?_
     generalize wr.drew = w11 at HO_3 BK406 HB hx411_0 hx411_1 hx411_2 hx411_3 hHeld ⊢
     repeat (first | refine zs1 ?_ | (refine zcl Tryz.func149 (spec_UncheckedIn.calls k1 a0_0 a0_1 a0_2 x4_1 t410 _ A7.out) ?_; rintro e w12 ⟨rfl, hb⟩; replace HO_3 := zR HO_3 hb; replace BK406 := zk BK406 hb; replace HB := zB hb; refine ⟨_, rfl, zHb hb hHeld, _, znb, fun hHeld => ?_⟩))
     refine zdn ?_
     try go_wp2
     go_ret
     exact ⟨er, bel⟩
    ·
     have H' := Aside0.mk H
     clear H
     obtain ⟨Ao13, co13, eo13⟩ := Kd.R_slice HO_3.out
     subst eo13
     try go_wp2
     replace HO_3 := zRd HO_3
     replace BK406 := zkd BK406
     replace HB := zBd HB
     obtain ⟨p411, q411, ad411, e411, hx411_0, hx411_1, hx411_2, hx411_3⟩ := zx (at_T132 (Kd.R_reads' HO_3.out).2.2 x4_1)
     cases e411
     refine zst 10 spec_l10Alone.tab5 (zb3 BK406 <| zhc hx411_0 <| zhc hx411_1 <| zhc hx411_2 <| zhc hx411_3 <| zn0) fun hHeld HT_ => ?_
     generalize wr.drew = w14 at HO_3 BK406 HB hx411_0 hx411_1 hx411_2 hx411_3 hHeld ⊢
     repeat (first | refine zs1 ?_ | (refine zcl Tryz.func149 (spec_UncheckedIn.calls k1 a0_0 a0_1 a0_2 x4_1 t410 _ A7.out) ?_; rintro e w15 ⟨rfl, hb⟩; replace HO_3 := zR HO_3 hb; replace BK406 := zk BK406 hb; replace HB := zB hb; refine ⟨_, rfl, zHb hb hHeld, _, znb, fun hHeld => ?_⟩))
     refine zdn ?_
     try go_wp2
     go_roundg k1
     case measure => have := HK1.out; omega
     case rel => exact ⟨(wrap64 (x4_1 + 1)), rf, H', ⟨by have := HK1.out; omega⟩, ⟨kr HO_3⟩, ⟨bk BK406⟩, ⟨bel⟩⟩
   ·
    have H' := Aside0.mk H
    clear H
    obtain ⟨Ao16, co16, eo16⟩ := Kd.R_slice HO_3.out
    subst eo16
    go_wp2
    go_loopg [5] k1 (fun kq v5 w' => ∃ (x5_2 : Int), v5 = .int .i64 x5_2 ∧ Aside0 (spec_l10Alone.l1 kq x5_2 a0_0 a0_1 a0_2 = some r) ∧ Aside0 (kq ≤ k1) ∧ Aside0 (w'.heap[gb406]? = some (.cells #[.int .i64 a0_0, .int .i64 a0_1, .string a0_2] 32 (0, 0))) ∧ Aside0 (Below w.heap.size w w'))
    case atStart => exact ⟨(0), rf, H', ⟨Nat.le_refl _⟩, ⟨bk BK406⟩, ⟨bel⟩⟩
    case round =>
     clear H'
     obtain ⟨x5_2, rfl, HA, HK2, BK406, HB⟩ := hrel
     cases gk with
     | zero => exact absurd HA.out (by simp [spec_l10Alone.l1])
     | succ k2 =>
      have H := HA.out
      clear HA
      simp only [spec_l10Alone.l1] at H
      replace H := zc H
      rcases H with ⟨c17b0, H⟩ | ⟨c17b0, H⟩
      ·
       replace H := zs H
       obtain ⟨t412, A18, H⟩ := H
       replace H := zb H
       rcases H with ⟨rfl, H⟩ | ⟨rfl, H⟩
       ·
        replace H := zs H
        obtain ⟨t413, A20, H⟩ := H
        by_cases c21 : (t413.length : Int) = 0
        ·
         rw [if_pos c21] at H
         have c21b0 : ((t413.length : Int) == 0) = true := beq_iff_eq.mpr c21
         have c21b1 : ((t413.length : Int) != 0) = false := bne_eq_false_iff_eq.mpr c21
         clear c21
         obtain rfl := Option.some.inj H
         have ⟨_, _, _, _, _, _⟩ := cz3 BK406
         go_wp2_with (first | ((with_reducible refine zd 33 rfl ?_); refine zgl Tryz.func150 (spec_IsWhite.calls k2 a0_0 a0_1 a0_2 x5_2 true _ A18.out) ?_; rintro e w23 ⟨rfl, hb⟩; refine ⟨_, rfl, ?_⟩; replace BK406 := zk BK406 hb; replace HB := zB hb; have ⟨_, _, _, _, _, _⟩ := cz3 BK406) | (go_at_call 151; (with_reducible refine (spec_SlotsAt.calls k2 a0_0 a0_1 a0_2 x5_2 t413 _ A20.out).mono ?_); rintro e w25 ⟨v414, rfl, ho0, hb⟩; have HO415 := zl2 ho0; replace BK406 := zk BK406 hb; replace HB := zB hb; obtain ⟨Ao26, co26, eo26⟩ := Kd.R_slice HO415.out; subst eo26))
         go_ret
         exact ⟨er, bel⟩
        ·
         rw [if_neg c21] at H
         have c21b0 : ((t413.length : Int) == 0) = false := beq_eq_false_iff_ne.mpr c21
         have c21b1 : ((t413.length : Int) != 0) = true := bne_iff_ne.mpr c21
         have c21b2 : ¬ (t413 = []) := fun h_ => c21 (by rw [h_]; rfl)
         have H' := Aside0.mk H
         clear H
         have ⟨_, _, _, _, _, _⟩ := cz3 BK406
         go_wp2_with (first | ((with_reducible refine zd 33 rfl ?_); refine zgl Tryz.func150 (spec_IsWhite.calls k2 a0_0 a0_1 a0_2 x5_2 true _ A18.out) ?_; rintro e w28 ⟨rfl, hb⟩; refine ⟨_, rfl, ?_⟩; replace BK406 := zk BK406 hb; replace HB := zB hb; have ⟨_, _, _, _, _, _⟩ := cz3 BK406) | (go_at_call 151; (with_reducible refine (spec_SlotsAt.calls k2 a0_0 a0_1 a0_2 x5_2 t413 _ A20.out).mono ?_); rintro e w30 ⟨v414, rfl, ho0, hb⟩; have HO415 := zl2 ho0; replace BK406 := zk BK406 hb; replace HB := zB hb; obtain ⟨Ao31, co31, eo31⟩ := Kd.R_slice HO415.out; subst eo31))
         go_roundg k2
         case measure => have := HK1.out; have := HK2.out; omega
         case rel => exact ⟨(wrap64 (x5_2 + 1)), rf, H', ⟨by have := HK1.out; have := HK2.out; omega⟩, ⟨bk BK406⟩, ⟨bel⟩⟩
       ·
        have H' := Aside0.mk H
        clear H
        have ⟨_, _, _, _, _, _⟩ := cz3 BK406
        go_wp2_with (first | ((with_reducible refine zd 33 rfl ?_); refine zgl Tryz.func150 (spec_IsWhite.calls k2 a0_0 a0_1 a0_2 x5_2 false _ A18.out) ?_; rintro e w33 ⟨rfl, hb⟩; refine ⟨_, rfl, ?_⟩; replace BK406 := zk BK406 hb; replace HB := zB hb))
        go_roundg k2
        case measure => have := HK1.out; have := HK2.out; omega
        case rel => exact ⟨(wrap64 (x5_2 + 1)), rf, H', ⟨by have := HK1.out; have := HK2.out; omega⟩, ⟨bk BK406⟩, ⟨bel⟩⟩
      ·
       obtain rfl := Option.some.inj H
       have ⟨_, _, _, _, _, _⟩ := cz3 BK406
       go_wp2
       go_ret
       exact ⟨er, bel⟩

/-! ### spec_FormOf: function 97 -/
def spec_FormOf.f (k : Nat) (a b : Int) (c : ByteArray) : Option (Int) := (spec_IsGrid.f k a b c).bind fun d => (if d = true then ((spec_IsSymmetric.f k a b c).bind fun e => (if e = true then ((spec_IsConnected.f k a b c).bind fun f => (if f = true then ((spec_l10Short.f k a b c).bind fun g => (if g = true then (some 4) else ((spec_l10Alone.f k a b c).bind fun h => (if h = true then (some 5) else (some 0))))) else (some 3))) else (some 2))) else (some 1))
set_option maxHeartbeats 8000000 in
set_option maxRecDepth 100000 in
theorem spec_FormOf.calls (k : Nat) (a0_0 a0_1 : Int) (a0_2 : ByteArray) (r : Int) (w : World) (H : spec_FormOf.f k a0_0 a0_1 a0_2 = some r) :
  Calls Tryz.prog 97 #[.agg #[.int .i64 a0_0, .int .i64 a0_1, .string a0_2]] w fun e w' => e = .returned (.int .i64 r) ∧ Below w.heap.size w w' := by
 have hu32 := Tryz.underlying32
 have HB := Aside0.mk (Below.refl w.heap.size w)
 unfold spec_FormOf.f at H
 replace H := zs H
 obtain ⟨t417, A2, H⟩ := H
 replace H := zb H
 rcases H with ⟨rfl, H⟩ | ⟨rfl, H⟩
 rotate_left
 focus
  obtain rfl := Option.some.inj H
 rotate_right
 focus
  replace H := zs H
  obtain ⟨t418, A4, H⟩ := H
  replace H := zb H
  rcases H with ⟨rfl, H⟩ | ⟨rfl, H⟩
  rotate_left
  focus
   obtain rfl := Option.some.inj H
  rotate_right
  focus
   replace H := zs H
   obtain ⟨t419, A6, H⟩ := H
   replace H := zb H
   rcases H with ⟨rfl, H⟩ | ⟨rfl, H⟩
   rotate_left
   focus
    obtain rfl := Option.some.inj H
   rotate_right
   focus
    replace H := zs H
    obtain ⟨t420, A8, H⟩ := H
    replace H := zb H
    rcases H with ⟨rfl, H⟩ | ⟨rfl, H⟩
    rotate_left
    focus
     replace H := zs H
     obtain ⟨t421, A19, H⟩ := H
     replace H := zb H
     rcases H with ⟨rfl, H⟩ | ⟨rfl, H⟩
     rotate_left
     focus
      obtain rfl := Option.some.inj H
     rotate_right
     focus
      obtain rfl := Option.some.inj H
    rotate_right
    focus
     obtain rfl := Option.some.inj H
 all_goals
  go_enter Tryz.func97, Tryz.ntmps97
  go_wp2_with (first | ((with_reducible refine zd 1 rfl ?_); refine zbx (w := w) #[.int .i64 a0_0, .int .i64 a0_1, .string a0_2] 32 ?_; intro gb416 hg w1000 BK416 hb; have GW416 := zg (w := w) hg; replace HB := zB hb; clear hb hg; have ⟨_, _, _, _, _, _⟩ := cz3 BK416) | ((with_reducible refine zd 5 rfl ?_); refine zgl Tryz.func84 (spec_IsGrid.calls k a0_0 a0_1 a0_2 _ _ A2.out) ?_; rintro e w1001 ⟨rfl, hb⟩; refine ⟨_, rfl, ?_⟩; replace BK416 := zk BK416 hb; replace HB := zB hb; have ⟨_, _, _, _, _, _⟩ := cz3 BK416) | ((with_reducible refine zd 9 rfl ?_); refine zgl Tryz.func125 (spec_IsSymmetric.calls k a0_0 a0_1 a0_2 _ _ A4.out) ?_; rintro e w1002 ⟨rfl, hb⟩; refine ⟨_, rfl, ?_⟩; replace BK416 := zk BK416 hb; replace HB := zB hb; have ⟨_, _, _, _, _, _⟩ := cz3 BK416) | ((with_reducible refine zd 13 rfl ?_); refine zgl Tryz.func126 (spec_IsConnected.calls k a0_0 a0_1 a0_2 _ _ A6.out) ?_; rintro e w1003 ⟨rfl, hb⟩; refine ⟨_, rfl, ?_⟩; replace BK416 := zk BK416 hb; replace HB := zB hb; have ⟨_, _, _, _, _, _⟩ := cz3 BK416) | ((with_reducible refine zd 17 rfl ?_); refine zgl Tryz.func127 (spec_l10Short.calls k a0_0 a0_1 a0_2 _ _ A8.out) ?_; rintro e w1004 ⟨rfl, hb⟩; refine ⟨_, rfl, ?_⟩; replace BK416 := zk BK416 hb; replace HB := zB hb; have ⟨_, _, _, _, _, _⟩ := cz3 BK416) | ((with_reducible refine zd 20 rfl ?_); refine zgl Tryz.func128 (spec_l10Alone.calls k a0_0 a0_1 a0_2 _ _ A19.out) ?_; rintro e w1005 ⟨rfl, hb⟩; refine ⟨_, rfl, ?_⟩; replace BK416 := zk BK416 hb; replace HB := zB hb) | ((with_reducible refine zd 17 rfl ?_); refine zgl Tryz.func127 (spec_l10Short.calls k a0_0 a0_1 a0_2 _ _ A8.out) ?_; rintro e w1004 ⟨rfl, hb⟩; refine ⟨_, rfl, ?_⟩; replace BK416 := zk BK416 hb; replace HB := zB hb) | ((with_reducible refine zd 13 rfl ?_); refine zgl Tryz.func126 (spec_IsConnected.calls k a0_0 a0_1 a0_2 _ _ A6.out) ?_; rintro e w1003 ⟨rfl, hb⟩; refine ⟨_, rfl, ?_⟩; replace BK416 := zk BK416 hb; replace HB := zB hb) | ((with_reducible refine zd 9 rfl ?_); refine zgl Tryz.func125 (spec_IsSymmetric.calls k a0_0 a0_1 a0_2 _ _ A4.out) ?_; rintro e w1002 ⟨rfl, hb⟩; refine ⟨_, rfl, ?_⟩; replace BK416 := zk BK416 hb; replace HB := zB hb) | ((with_reducible refine zd 5 rfl ?_); refine zgl Tryz.func84 (spec_IsGrid.calls k a0_0 a0_1 a0_2 _ _ A2.out) ?_; rintro e w1001 ⟨rfl, hb⟩; refine ⟨_, rfl, ?_⟩; replace BK416 := zk BK416 hb; replace HB := zB hb))
  go_ret
  exact ⟨er, bel⟩

/-! ### spec_IsPuzzle: function 65 -/
def spec_IsPuzzle.l0 : Nat → Int → Int → Int → ByteArray → List (S89) → List Int → Int → Option (Bool)
 | 0, _, _, _, _, _, _, _ => none
 | k + 1, a, b, c, d, e, f, g => if a < (e.length : Int) then (if 0 ≤ a then ((spec_IsClue.f k ((rd_T89 e a).f0) ((rd_T89 e a).f1)).bind fun h => (if h = true then (spec_IsPuzzle.l0 k (wrap64 (a + 1)) b c d e f g) else (some false))) else (none)) else ((spec_SlotsOf.f k b c d).bind fun i => ((spec_FormOf.f k b c d).bind fun j => (if j = 0 then (if (e.length : Int) = (i.length : Int) then (if (f.length : Int) = (i.length : Int) then ((spec_l1In.f g 1 9999).bind fun l => (some l)) else (some false)) else (some false)) else (some false))))
def spec_IsPuzzle.f (k : Nat) (a b : Int) (c : ByteArray) (d : List (S89)) (e : List Int) (f : Int) : Option (Bool) := spec_IsPuzzle.l0 k 0 a b c d e f
set_option maxHeartbeats 8000000 in
set_option maxRecDepth 100000 in
theorem spec_IsPuzzle.calls (k : Nat) (a0_0 a0_1 : Int) (a0_2 : ByteArray) (A0_3 : Option Addr) (c0_3 : Nat) (l0_3 : List (S89)) (A0_4 : Option Addr) (c0_4 : Nat) (l0_4 : List Int) (a0_5 : Int) (r : Bool) (w : World) (hr0_3 : Kd.C k89 w A0_3 l0_3.length l0_3) (hc0_3 : l0_3.length ≤ c0_3) (hr0_4 : Kd.C (Kd.int .i64) w A0_4 l0_4.length l0_4) (hc0_4 : l0_4.length ≤ c0_4) (H : spec_IsPuzzle.f k a0_0 a0_1 a0_2 l0_3 l0_4 a0_5 = some r) :
  Calls Tryz.prog 65 #[.agg #[.int .i64 a0_0, .int .i64 a0_1, .string a0_2, .slice A0_3 l0_3.length c0_3, .slice A0_4 l0_4.length c0_4, .int .i64 a0_5]] w fun e w' => e = .returned (.bool r) ∧ Below w.heap.size w w' := by
 have hu35 := Tryz.underlying35
 have hu89 := Tryz.underlying89
 have hu32 := Tryz.underlying32
 have HR0_3 := Aside0.mk hr0_3
 have HC0_3 := Aside0.mk hc0_3
 clear hr0_3 hc0_3
 have HR0_4 := Aside0.mk hr0_4
 have HC0_4 := Aside0.mk hc0_4
 clear hr0_4 hc0_4
 have HB := Aside0.mk (Below.refl w.heap.size w)
 unfold spec_IsPuzzle.f at H
 have H' := Aside0.mk H
 clear H
 go_enter Tryz.func65, Tryz.ntmps65
 go_wp2_with (first | ((with_reducible refine zd 1 rfl ?_); (try (refine gate_guard (by rfl) ?_; dsimp only)); refine zbx (w := w) #[.int .i64 a0_0, .int .i64 a0_1, .string a0_2, .slice A0_3 l0_3.length c0_3, .slice A0_4 l0_4.length c0_4, .int .i64 a0_5] 35 ?_; intro gb422 hg w2 BK422 hb; have GW422 := zg (w := w) hg; replace HB := zB hb; clear hb hg))
 go_loopg [3] k (fun kq v3 w' => ∃ (x3_1 : Int), v3 = .int .i64 x3_1 ∧ Aside0 (spec_IsPuzzle.l0 kq x3_1 a0_0 a0_1 a0_2 l0_3 l0_4 a0_5 = some r) ∧ Aside0 (kq ≤ k) ∧ Aside0 (w'.heap[gb422]? = some (.cells #[.int .i64 a0_0, .int .i64 a0_1, .string a0_2, (.slice A0_3 l0_3.length c0_3), (.slice A0_4 l0_4.length c0_4), .int .i64 a0_5] 35 (0, 0))) ∧ Aside0 (Below w.heap.size w w'))
 case atStart => exact ⟨(0), rf, H', ⟨Nat.le_refl _⟩, ⟨bk BK422⟩, ⟨bel⟩⟩
 case round =>
  clear H'
  obtain ⟨x3_1, rfl, HA, HK1, BK422, HB⟩ := hrel
  cases gk with
  | zero => exact absurd HA.out (by simp [spec_IsPuzzle.l0])
  | succ k1 =>
   have H := HA.out
   clear HA
   simp only [spec_IsPuzzle.l0] at H
   replace H := zc H
   rcases H with ⟨c3b0, H⟩ | ⟨c3b0, H⟩
   ·
    replace H := zr H
    obtain ⟨c4b0, H⟩ := H
    replace H := zs H
    obtain ⟨t424, A5, H⟩ := H
    replace H := zb H
    rcases H with ⟨rfl, H⟩ | ⟨rfl, H⟩
    ·
     have H' := Aside0.mk H
     clear H
     have ⟨_, _, _, _, _, _, _, _, _, _, _, _⟩ := cz6 BK422
     obtain ⟨p423, q423, ad423, A423_1, c423_1, e423, hx423_0, hx423_1, hl423_1, hi423_1⟩ := zx (at_T89 HR0_3.out x3_1)
     cases e423
     replace hx423_0 := zh HB hx423_0
     replace hx423_1 := zh HB hx423_1
     have HR423_1 := Aside0.mk hi423_1
     have HC423_1 := Aside0.mk hl423_1
     clear hi423_1 hl423_1
     go_wp2_with (first | ((with_reducible refine zd 17 rfl ?_); refine zgl Tryz.func93 (spec_IsClue.calls k1 ((rd_T89 l0_3 x3_1).f0) _ _ ((rd_T89 l0_3 x3_1).f1) true _ (zC HR423_1) HC423_1.out A5.out) ?_; rintro e w8 ⟨rfl, hb⟩; refine ⟨_, rfl, ?_⟩; replace BK422 := zk BK422 hb; replace HB := zB hb))
     go_roundg k1
     case measure => have := HK1.out; omega
     case rel => exact ⟨(wrap64 (x3_1 + 1)), rf, H', ⟨by have := HK1.out; omega⟩, ⟨bk BK422⟩, ⟨bel⟩⟩
    ·
     obtain rfl := Option.some.inj H
     have ⟨_, _, _, _, _, _, _, _, _, _, _, _⟩ := cz6 BK422
     obtain ⟨p423, q423, ad423, A423_1, c423_1, e423, hx423_0, hx423_1, hl423_1, hi423_1⟩ := zx (at_T89 HR0_3.out x3_1)
     cases e423
     replace hx423_0 := zh HB hx423_0
     replace hx423_1 := zh HB hx423_1
     have HR423_1 := Aside0.mk hi423_1
     have HC423_1 := Aside0.mk hl423_1
     clear hi423_1 hl423_1
     go_wp2_with (first | ((with_reducible refine zd 17 rfl ?_); refine zgl Tryz.func93 (spec_IsClue.calls k1 ((rd_T89 l0_3 x3_1).f0) _ _ ((rd_T89 l0_3 x3_1).f1) false _ (zC HR423_1) HC423_1.out A5.out) ?_; rintro e w10 ⟨rfl, hb⟩; refine ⟨_, rfl, ?_⟩; replace BK422 := zk BK422 hb; replace HB := zB hb))
     go_ret
     exact ⟨er, bel⟩
   ·
    replace H := zs H
    obtain ⟨t425, A11, H⟩ := H
    replace H := zs H
    obtain ⟨t428, A12, H⟩ := H
    by_cases c13 : t428 = 0
    ·
     rw [if_pos c13] at H
     have c13b0 : (t428 == 0) = true := beq_iff_eq.mpr c13
     have c13b1 : (t428 != 0) = false := bne_eq_false_iff_eq.mpr c13
     clear c13
     by_cases c14 : (l0_3.length : Int) = (t425.length : Int)
     ·
      rw [if_pos c14] at H
      have c14b0 : ((l0_3.length : Int) == (t425.length : Int)) = true := beq_iff_eq.mpr c14
      have c14b1 : ((l0_3.length : Int) != (t425.length : Int)) = false := bne_eq_false_iff_eq.mpr c14
      have c14b2 : (l0_3.length == t425.length) = true := by first | simpa using c14 | (simp at c14 ⊢; omega)
      clear c14
      by_cases c15 : (l0_4.length : Int) = (t425.length : Int)
      ·
       rw [if_pos c15] at H
       have c15b0 : ((l0_4.length : Int) == (t425.length : Int)) = true := beq_iff_eq.mpr c15
       have c15b1 : ((l0_4.length : Int) != (t425.length : Int)) = false := bne_eq_false_iff_eq.mpr c15
       have c15b2 : (l0_4.length == t425.length) = true := by first | simpa using c15 | (simp at c15 ⊢; omega)
       clear c15
       replace H := zs H
       obtain ⟨t429, A16, H⟩ := H
       obtain rfl := Option.some.inj H
       have ⟨_, _, _, _, _, _, _, _, _, _, _, _⟩ := cz6 BK422
       go_wp2_with (first | ((with_reducible refine zd 21 rfl ?_); refine zgl Tryz.func87 (spec_SlotsOf.calls k1 a0_0 a0_1 a0_2 t425 _ A11.out) ?_; rintro e w18 ⟨v426, rfl, ho0, hb⟩; refine ⟨_, rfl, ?_⟩; have HO427 := zl2 ho0; replace BK422 := zk BK422 hb; replace HB := zB hb; obtain ⟨Ao19, co19, eo19⟩ := Kd.R_slice HO427.out; subst eo19; have ⟨_, _, _, _, _, _, _, _, _, _, _, _⟩ := cz6 BK422) | ((with_reducible refine zd 25 rfl ?_); refine zgl Tryz.func97 (spec_FormOf.calls k1 a0_0 a0_1 a0_2 t428 _ A12.out) ?_; rintro e w21 ⟨rfl, hb⟩; refine ⟨_, rfl, ?_⟩; replace HO427 := zR HO427 hb; replace BK422 := zk BK422 hb; replace HB := zB hb; have ⟨_, _, _, _, _, _, _, _, _, _, _, _⟩ := cz6 BK422) | (go_at_call 45; (with_reducible refine (spec_l1In.calls a0_5 1 9999 t429 _ A16.out).mono ?_); rintro e w' ⟨rfl, ⟨nd, rfl⟩⟩))
       go_ret
       exact ⟨er, bel⟩
      ·
       rw [if_neg c15] at H
       have c15b0 : ((l0_4.length : Int) == (t425.length : Int)) = false := beq_eq_false_iff_ne.mpr c15
       have c15b1 : ((l0_4.length : Int) != (t425.length : Int)) = true := bne_iff_ne.mpr c15
       have c15b2 : (l0_4.length == t425.length) = false := by first | simpa using c15 | (simp at c15 ⊢; omega)
       obtain rfl := Option.some.inj H
       have ⟨_, _, _, _, _, _, _, _, _, _, _, _⟩ := cz6 BK422
       go_wp2_with (first | ((with_reducible refine zd 21 rfl ?_); refine zgl Tryz.func87 (spec_SlotsOf.calls k1 a0_0 a0_1 a0_2 t425 _ A11.out) ?_; rintro e w24 ⟨v426, rfl, ho0, hb⟩; refine ⟨_, rfl, ?_⟩; have HO427 := zl2 ho0; replace BK422 := zk BK422 hb; replace HB := zB hb; obtain ⟨Ao25, co25, eo25⟩ := Kd.R_slice HO427.out; subst eo25; have ⟨_, _, _, _, _, _, _, _, _, _, _, _⟩ := cz6 BK422) | ((with_reducible refine zd 25 rfl ?_); refine zgl Tryz.func97 (spec_FormOf.calls k1 a0_0 a0_1 a0_2 t428 _ A12.out) ?_; rintro e w27 ⟨rfl, hb⟩; refine ⟨_, rfl, ?_⟩; replace HO427 := zR HO427 hb; replace BK422 := zk BK422 hb; replace HB := zB hb; have ⟨_, _, _, _, _, _, _, _, _, _, _, _⟩ := cz6 BK422))
       go_ret
       exact ⟨er, bel⟩
     ·
      rw [if_neg c14] at H
      have c14b0 : ((l0_3.length : Int) == (t425.length : Int)) = false := beq_eq_false_iff_ne.mpr c14
      have c14b1 : ((l0_3.length : Int) != (t425.length : Int)) = true := bne_iff_ne.mpr c14
      have c14b2 : (l0_3.length == t425.length) = false := by first | simpa using c14 | (simp at c14 ⊢; omega)
      obtain rfl := Option.some.inj H
      have ⟨_, _, _, _, _, _, _, _, _, _, _, _⟩ := cz6 BK422
      go_wp2_with (first | ((with_reducible refine zd 21 rfl ?_); refine zgl Tryz.func87 (spec_SlotsOf.calls k1 a0_0 a0_1 a0_2 t425 _ A11.out) ?_; rintro e w30 ⟨v426, rfl, ho0, hb⟩; refine ⟨_, rfl, ?_⟩; have HO427 := zl2 ho0; replace BK422 := zk BK422 hb; replace HB := zB hb; obtain ⟨Ao31, co31, eo31⟩ := Kd.R_slice HO427.out; subst eo31; have ⟨_, _, _, _, _, _, _, _, _, _, _, _⟩ := cz6 BK422) | ((with_reducible refine zd 25 rfl ?_); refine zgl Tryz.func97 (spec_FormOf.calls k1 a0_0 a0_1 a0_2 t428 _ A12.out) ?_; rintro e w33 ⟨rfl, hb⟩; refine ⟨_, rfl, ?_⟩; replace HO427 := zR HO427 hb; replace BK422 := zk BK422 hb; replace HB := zB hb; have ⟨_, _, _, _, _, _, _, _, _, _, _, _⟩ := cz6 BK422))
      go_ret
      exact ⟨er, bel⟩
    ·
     rw [if_neg c13] at H
     have c13b0 : (t428 == 0) = false := beq_eq_false_iff_ne.mpr c13
     have c13b1 : (t428 != 0) = true := bne_iff_ne.mpr c13
     obtain rfl := Option.some.inj H
     have ⟨_, _, _, _, _, _, _, _, _, _, _, _⟩ := cz6 BK422
     go_wp2_with (first | ((with_reducible refine zd 21 rfl ?_); refine zgl Tryz.func87 (spec_SlotsOf.calls k1 a0_0 a0_1 a0_2 t425 _ A11.out) ?_; rintro e w36 ⟨v426, rfl, ho0, hb⟩; refine ⟨_, rfl, ?_⟩; have HO427 := zl2 ho0; replace BK422 := zk BK422 hb; replace HB := zB hb; obtain ⟨Ao37, co37, eo37⟩ := Kd.R_slice HO427.out; subst eo37; have ⟨_, _, _, _, _, _, _, _, _, _, _, _⟩ := cz6 BK422) | ((with_reducible refine zd 25 rfl ?_); refine zgl Tryz.func97 (spec_FormOf.calls k1 a0_0 a0_1 a0_2 t428 _ A12.out) ?_; rintro e w39 ⟨rfl, hb⟩; refine ⟨_, rfl, ?_⟩; replace HO427 := zR HO427 hb; replace BK422 := zk BK422 hb; replace HB := zB hb))
     go_ret
     exact ⟨er, bel⟩

/-! ### spec_l11Open: function 110 -/
def spec_l11Open.l0 : Nat → ByteArray → Int → Option (Bool)
 | 0, _, _ => none
 | k + 1, a, b => if b < (a.size : Int) then (if 0 ≤ b then (if (bt a b) = 63 then (some true) else (spec_l11Open.l0 k a (wrap64 (b + 1)))) else (none)) else (some false)
def spec_l11Open.f (k : Nat) (a : ByteArray) : Option (Bool) := spec_l11Open.l0 k a 0
set_option maxHeartbeats 8000000 in
set_option maxRecDepth 100000 in
theorem spec_l11Open.calls (k : Nat) (a0 : ByteArray) (r : Bool) (w : World) (H : spec_l11Open.f k a0 = some r) :
  Calls Tryz.prog 110 #[.string a0] w fun e w' => e = .returned (.bool r) ∧ Drawn0 w w' := by
 unfold spec_l11Open.f at H
 have H' := Aside0.mk H
 clear H
 go_enter Tryz.func110, Tryz.ntmps110
 go_wp2
 go_loopg [3] k (fun kq v3 w' => ∃ (x3_1 : Int), v3 = .int .i64 x3_1 ∧ Aside0 (spec_l11Open.l0 kq a0 x3_1 = some r) ∧ Aside0 (kq ≤ k) ∧ Drawn0 w w')
 case atStart => exact ⟨(0), rf, H', ⟨Nat.le_refl _⟩, by repeat (first | exact Drawn0.refl _ | apply Drawn0.step)⟩
 case round =>
  clear H'
  obtain ⟨x3_1, rfl, HA, HK1, ⟨m1, rfl⟩⟩ := hrel
  cases gk with
  | zero => exact absurd HA.out (by simp [spec_l11Open.l0])
  | succ k1 =>
   have H := HA.out
   clear HA
   simp only [spec_l11Open.l0] at H
   replace H := zc H
   rcases H with ⟨c2b0, H⟩ | ⟨c2b0, H⟩
   ·
    replace H := zr H
    obtain ⟨c3b0, H⟩ := H
    by_cases c5 : (bt a0 x3_1) = 63
    ·
     rw [if_pos c5] at H
     have c5b0 : ((bt a0 x3_1) == 63) = true := beq_iff_eq.mpr c5
     have c5b1 : ((bt a0 x3_1) != 63) = false := bne_eq_false_iff_eq.mpr c5
     clear c5
     obtain rfl := Option.some.inj H
     obtain ⟨p4, q4, hx4⟩ := zxb a0 x3_1
     go_wp2
     go_ret
     exact ⟨by first | rfl | (simp; done) | (simp [*]; done), by repeat (first | exact Drawn0.refl _ | apply Drawn0.step)⟩
    ·
     rw [if_neg c5] at H
     have c5b0 : ((bt a0 x3_1) == 63) = false := beq_eq_false_iff_ne.mpr c5
     have c5b1 : ((bt a0 x3_1) != 63) = true := bne_iff_ne.mpr c5
     have H' := Aside0.mk H
     clear H
     obtain ⟨p4, q4, hx4⟩ := zxb a0 x3_1
     go_wp2
     go_roundg k1
     case measure => have := HK1.out; omega
     case rel => exact ⟨(wrap64 (x3_1 + 1)), rf, H', ⟨by have := HK1.out; omega⟩, by repeat (first | exact Drawn0.refl _ | apply Drawn0.step)⟩
   ·
    obtain rfl := Option.some.inj H
    go_wp2
    go_ret
    exact ⟨by first | rfl | (simp; done) | (simp [*]; done), by repeat (first | exact Drawn0.refl _ | apply Drawn0.step)⟩

/-! ### spec_IsFull: function 82 -/
def spec_IsFull.f (k : Nat) (a b : Int) (c d : ByteArray) : Option (Bool) := (spec_IsFill.f k a b c d).bind fun e => (if e = true then ((spec_l11Open.f k d).bind fun f => (some (!f))) else (some false))
set_option maxHeartbeats 8000000 in
set_option maxRecDepth 100000 in
theorem spec_IsFull.calls (k : Nat) (a0_0 a0_1 : Int) (a0_2 a1 : ByteArray) (r : Bool) (w : World) (H : spec_IsFull.f k a0_0 a0_1 a0_2 a1 = some r) :
  Calls Tryz.prog 82 #[.agg #[.int .i64 a0_0, .int .i64 a0_1, .string a0_2], .string a1] w fun e w' => e = .returned (.bool r) ∧ Below w.heap.size w w' := by
 have hu32 := Tryz.underlying32
 have HB := Aside0.mk (Below.refl w.heap.size w)
 unfold spec_IsFull.f at H
 replace H := zs H
 obtain ⟨t431, A3, H⟩ := H
 replace H := zb H
 rcases H with ⟨rfl, H⟩ | ⟨rfl, H⟩
 rotate_left
 focus
  obtain rfl := Option.some.inj H
 rotate_right
 focus
  replace H := zs H
  obtain ⟨t432, A5, H⟩ := H
  obtain rfl := Option.some.inj H
 all_goals
  go_enter Tryz.func82, Tryz.ntmps82
  go_wp2_with (first | ((with_reducible refine zd 2 rfl ?_); refine zbx (w := w) #[.int .i64 a0_0, .int .i64 a0_1, .string a0_2] 32 ?_; intro gb430 hg w1000 BK430 hb; have GW430 := zg (w := w) hg; replace HB := zB hb; clear hb hg; have ⟨_, _, _, _, _, _⟩ := cz3 BK430) | ((with_reducible refine zd 7 rfl ?_); refine zgl Tryz.func50 (spec_IsFill.calls k a0_0 a0_1 a0_2 a1 _ _ A3.out) ?_; rintro e w1001 ⟨rfl, hb⟩; refine ⟨_, rfl, ?_⟩; replace BK430 := zk BK430 hb; replace HB := zB hb) | (go_at_call 110; (with_reducible refine (spec_l11Open.calls k a1 t432 _ A5.out).mono ?_); rintro e w' ⟨rfl, ⟨nd, rfl⟩⟩))
  go_ret
  exact ⟨er, bel⟩

end Go.Proofs.YtpcdfjcbjbkliaaGreat.E
