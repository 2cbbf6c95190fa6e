import Derived.Test.YtpcdfjcbjbkliaaSq
import Derived.Test.YtpcdfjcbjbkliaaQ0
import Derived.Test.YtpcdfjcbjbkliaaQ4
import Derived.Test.YtpcdfjcbjbkliaaQ5
import Derived.Test.YtpcdfjcbjbkliaaQ6
import Derived.Test.YtpcdfjcbjbkliaaQ8
import Derived.Test.YtpcdfjcbjbkliaaQ9
namespace Go.Proofs.Ytpcdfjcbjbkliaa.E
open Go.RowKit Go.Proofs.YtpcdfjcbjbkliaaW.PrintWords Go.Proofs.YtpcdfjcbjbkliaaW.PrintLast Go.Proofs.YtpcdfjcbjbkliaaW.PrintMore
attribute [local go_sem] max2_int min2_int max_two min_two max_three min_three max_four min_four
set_option linter.unusedVariables false
set_option linter.unusedSimpArgs false

/-! ### spec_IsWhite: function 98 -/
def spec_IsWhite.f (k : Nat) (a0_0 : Int) (a0_1 : Int) (a0_2 : ByteArray) (a1 : Int) : Option (Bool) := (spec_IsGrid.f k a0_0 a0_1 a0_2).bind fun t264 => (if t264 = true then ((spec_l1In.f a1 0 (wrap64 ((a0_2.size : Int) - 1))).bind fun t265 => (if t265 = true then (if 0 ≤ a1 then (if a1 < (a0_2.size : Int) then (some ((bt a0_2 a1) == 46)) else (none)) else (none)) else (some false))) else (some false))
set_option maxHeartbeats 8000000 in
set_option maxRecDepth 100000 in
theorem spec_IsWhite.calls (k : Nat) (a0_0 : Int) (a0_1 : Int) (a0_2 : ByteArray) (a1 : Int) (r : Bool) (w : World) (H : spec_IsWhite.f k a0_0 a0_1 a0_2 a1 = some r) :
  Calls Try.prog 98 #[.agg #[.int .i64 a0_0, .int .i64 a0_1, .string a0_2], .int .i64 a1] w fun e w' => e = .returned (.bool r) ∧ Below w.heap.size w w' := by
 have hu30 := Try.underlying30
 have HB := Aside0.mk (Below.refl w.heap.size w)
 unfold spec_IsWhite.f at H
 replace H := zs H
 obtain ⟨t264, A3, H⟩ := H
 replace H := zb H
 rcases H with ⟨rfl, H⟩ | ⟨rfl, H⟩
 rotate_left
 focus
  obtain rfl := Option.some.inj H
 rotate_right
 focus
  replace H := zs H
  obtain ⟨t265, A5, H⟩ := H
  replace H := zb H
  rcases H with ⟨rfl, H⟩ | ⟨rfl, H⟩
  rotate_left
  focus
   obtain rfl := Option.some.inj H
  rotate_right
  focus
   replace H := zr H
   obtain ⟨c7b0, H⟩ := H
   replace H := zr H
   obtain ⟨c8b0, H⟩ := H
   obtain rfl := Option.some.inj H
 all_goals
  go_enter Try.func98, Try.ntmps98
  go_wp2_with (first | ((with_reducible refine zd 2 rfl ?_); (try (refine gate_guard (by rfl) ?_; dsimp only)); refine zbx (w := w) #[.int .i64 a0_0, .int .i64 a0_1, .string a0_2] 30 ?_; intro gb263 hg w1000 BK263 hb; have GW263 := zg (w := w) hg; replace HB := zB hb; clear hb hg; have ⟨_, _, _, _, _, _⟩ := cz3 BK263) | ((with_reducible refine zd 6 rfl ?_); refine zgl Try.func77 (spec_IsGrid.calls k a0_0 a0_1 a0_2 _ _ A3.out) ?_; rintro e w1001 ⟨rfl, hb⟩; refine ⟨_, rfl, ?_⟩; replace BK263 := zk BK263 hb; replace HB := zB hb; have ⟨_, _, _, _, _, _⟩ := cz3 BK263) | (go_at_call 39; (with_reducible refine (spec_l1In.calls a1 0 (wrap64 ((a0_2.size : Int) - 1)) true _ A5.out).mono ?_); rintro e w' ⟨rfl, ⟨nd, rfl⟩⟩; have p9 : 0 ≤ (a1 : Int) := of_decide_eq_true asm; have q9 : a1 < (a0_2.size : Int) := of_decide_eq_true asm; have hx1002 := bt_at a0_2 a1; replace p9 := eq_true p9; replace q9 := eq_true q9) | (go_at_call 39; (with_reducible refine (spec_l1In.calls a1 0 (wrap64 ((a0_2.size : Int) - 1)) false _ A5.out).mono ?_); rintro e w' ⟨rfl, ⟨nd, rfl⟩⟩) | ((with_reducible refine zd 6 rfl ?_); refine zgl Try.func77 (spec_IsGrid.calls k a0_0 a0_1 a0_2 _ _ A3.out) ?_; rintro e w1001 ⟨rfl, hb⟩; refine ⟨_, rfl, ?_⟩; replace BK263 := zk BK263 hb; replace HB := zB hb))
  go_ret
  exact ⟨er, bel⟩

/-! ### spec_l10Alone: function 84 -/
mutual
def spec_l10Alone.l0 : Nat → List (S79) → Int → Int → Int → ByteArray → Option (Bool)
 | 0, _, _, _, _, _ => none
 | k + 1, x3, x4, x267000, x267001, x267002 => if x4 < (x3.length : Int) then ((spec_UncheckedIn.f k x267000 x267001 x267002 x4).bind fun t270 => (if 0 ≤ x4 then (if (wrap64 (2 * t270)) > ((rd_T79 x3 x4).f3) then (some true) else (spec_l10Alone.l0 k x3 (wrap64 (x4 + 1)) x267000 x267001 x267002)) else (none))) else (spec_l10Alone.l1 k 0 x267000 x267001 x267002)
def spec_l10Alone.l1 : Nat → Int → Int → Int → ByteArray → Option (Bool)
 | 0, _, _, _, _ => none
 | k + 1, x5, x267000, x267001, x267002 => if x5 < (x267002.size : Int) then ((spec_IsWhite.f k x267000 x267001 x267002 x5).bind fun t272 => (if t272 = true then ((spec_SlotsAt.f k x267000 x267001 x267002 x5).bind fun t273 => (if (t273.length : Int) = 0 then (some true) else (spec_l10Alone.l1 k (wrap64 (x5 + 1)) x267000 x267001 x267002))) else (spec_l10Alone.l1 k (wrap64 (x5 + 1)) x267000 x267001 x267002))) else (some false)
end
def spec_l10Alone.f (k : Nat) (a0_0 : Int) (a0_1 : Int) (a0_2 : ByteArray) : Option (Bool) := (spec_SlotsOf.f k a0_0 a0_1 a0_2).bind fun t267 => (spec_l10Alone.l0 k t267 0 a0_0 a0_1 a0_2)
def spec_l10Alone.T5 : Bool × List (List Nat × List Nat) := (true, [([], []), ([], []), ([0, 1], [0, 1]), ([2], [2]), ([], []), ([], []), ([4, 5], [4, 5]), ([6], [6]), ([7], [7]), ([3, 8], [3, 8])])
theorem spec_l10Alone.tab5 : rtab .any (opsOf Try.f84 5) = spec_l10Alone.T5 := by kernel_rfl
set_option maxHeartbeats 8000000 in
set_option maxRecDepth 100000 in
theorem spec_l10Alone.calls (k : Nat) (a0_0 : Int) (a0_1 : Int) (a0_2 : ByteArray) (r : Bool) (w : World) (H : spec_l10Alone.f k a0_0 a0_1 a0_2 = some r) :
  Calls Try.prog 84 #[.agg #[.int .i64 a0_0, .int .i64 a0_1, .string a0_2]] w fun e w' => e = .returned (.bool r) ∧ Below w.heap.size w w' := by
 have hu30 := Try.underlying30
 have HB := Aside0.mk (Below.refl w.heap.size w)
 unfold spec_l10Alone.f at H
 replace H := zs H
 obtain ⟨t267, A2, H⟩ := H
 have H' := Aside0.mk H
 clear H
 go_enter Try.func84, Try.ntmps84
 go_wp2_with (first | ((with_reducible refine zd 1 rfl ?_); (try (refine gate_guard (by rfl) ?_; dsimp only)); refine zbx (w := w) #[.int .i64 a0_0, .int .i64 a0_1, .string a0_2] 30 ?_; intro gb266 hg w3 BK266 hb; have GW266 := zg (w := w) hg; replace HB := zB hb; clear hb hg; have ⟨_, _, _, _, _, _⟩ := cz3 BK266) | ((with_reducible refine zd 7 rfl ?_); refine zgl Try.func50 (spec_SlotsOf.calls k a0_0 a0_1 a0_2 t267 _ A2.out) ?_; rintro e w5 ⟨v268, rfl, ho0, hb⟩; refine ⟨_, rfl, ?_⟩; have HO269 := zl2 ho0; replace BK266 := zk BK266 hb; replace HB := zB hb))
 go_loopg [4] k (fun kq v4 w' => ∃ (x4_1 : Int), v4 = .int .i64 x4_1 ∧ Aside0 (spec_l10Alone.l0 kq t267 x4_1 a0_0 a0_1 a0_2 = some r) ∧ Aside0 (kq ≤ k) ∧ Aside0 (Kd.R k79 79 w' w.heap.size (fun _ => True) v268 t267) ∧ Aside0 (w'.heap[gb266]? = some (.cells #[.int .i64 a0_0, .int .i64 a0_1, .string a0_2] 30 (0, 0))) ∧ Aside0 (Below w.heap.size w w'))
 case atStart => exact ⟨(0), rf, H', ⟨Nat.le_refl _⟩, ⟨kr HO269⟩, ⟨bk BK266⟩, ⟨bel⟩⟩
 case round =>
  clear H'
  obtain ⟨x4_1, rfl, HA, HK1, HO_3, BK266, HB⟩ := hrel
  cases gk with
  | zero => exact absurd HA.out (by simp [spec_l10Alone.l0])
  | succ k1 =>
   have H := HA.out
   clear HA
   simp only [spec_l10Alone.l0] at H
   replace H := zc H
   rcases H with ⟨c6b0, H⟩ | ⟨c6b0, H⟩
   ·
    replace H := zs H
    obtain ⟨t270, A7, H⟩ := H
    replace H := zr H
    obtain ⟨c8b0, H⟩ := H
    replace H := zc H
    rcases H with ⟨c9b0, H⟩ | ⟨c9b0, H⟩
    ·
     obtain rfl := Option.some.inj H
     obtain ⟨Ao10, co10, eo10⟩ := Kd.R_slice HO_3.out
     subst eo10
     try go_wp2
     replace HO_3 := zRd HO_3
     replace BK266 := zkd BK266
     replace HB := zBd HB
     obtain ⟨p271, q271, ad271, e271, hx271_0, hx271_1, hx271_2, hx271_3⟩ := zx (at_T79 (Kd.R_reads' HO_3.out).2.2 x4_1)
     cases e271
     refine zst 10 spec_l10Alone.tab5 (zb3 BK266 <| zhc hx271_0 <| zhc hx271_1 <| zhc hx271_2 <| zhc hx271_3 <| zn0) fun hHeld HT_ => ?_
     generalize wr.drew = w11 at HO_3 BK266 HB hx271_0 hx271_1 hx271_2 hx271_3 hHeld ⊢
     repeat (first | refine zs1 ?_ | (refine zcl Try.func97 (spec_UncheckedIn.calls k1 a0_0 a0_1 a0_2 x4_1 t270 _ A7.out) ?_; rintro e w12 ⟨rfl, hb⟩; replace HO_3 := zR HO_3 hb; replace BK266 := zk BK266 hb; replace HB := zB hb; refine ⟨_, rfl, zHb hb hHeld, _, znb, fun hHeld => ?_⟩))
     refine zdn ?_
     try go_wp2
     go_ret
     exact ⟨er, bel⟩
    ·
     have H' := Aside0.mk H
     clear H
     obtain ⟨Ao13, co13, eo13⟩ := Kd.R_slice HO_3.out
     subst eo13
     try go_wp2
     replace HO_3 := zRd HO_3
     replace BK266 := zkd BK266
     replace HB := zBd HB
     obtain ⟨p271, q271, ad271, e271, hx271_0, hx271_1, hx271_2, hx271_3⟩ := zx (at_T79 (Kd.R_reads' HO_3.out).2.2 x4_1)
     cases e271
     refine zst 10 spec_l10Alone.tab5 (zb3 BK266 <| zhc hx271_0 <| zhc hx271_1 <| zhc hx271_2 <| zhc hx271_3 <| zn0) fun hHeld HT_ => ?_
     generalize wr.drew = w14 at HO_3 BK266 HB hx271_0 hx271_1 hx271_2 hx271_3 hHeld ⊢
     repeat (first | refine zs1 ?_ | (refine zcl Try.func97 (spec_UncheckedIn.calls k1 a0_0 a0_1 a0_2 x4_1 t270 _ A7.out) ?_; rintro e w15 ⟨rfl, hb⟩; replace HO_3 := zR HO_3 hb; replace BK266 := zk BK266 hb; replace HB := zB hb; refine ⟨_, rfl, zHb hb hHeld, _, znb, fun hHeld => ?_⟩))
     refine zdn ?_
     try go_wp2
     go_roundg k1
     case measure => have := HK1.out; omega
     case rel => exact ⟨(wrap64 (x4_1 + 1)), rf, H', ⟨by have := HK1.out; omega⟩, ⟨kr HO_3⟩, ⟨bk BK266⟩, ⟨bel⟩⟩
   ·
    have H' := Aside0.mk H
    clear H
    obtain ⟨Ao16, co16, eo16⟩ := Kd.R_slice HO_3.out
    subst eo16
    go_wp2
    go_loopg [5] k1 (fun kq v5 w' => ∃ (x5_2 : Int), v5 = .int .i64 x5_2 ∧ Aside0 (spec_l10Alone.l1 kq x5_2 a0_0 a0_1 a0_2 = some r) ∧ Aside0 (kq ≤ k1) ∧ Aside0 (w'.heap[gb266]? = some (.cells #[.int .i64 a0_0, .int .i64 a0_1, .string a0_2] 30 (0, 0))) ∧ Aside0 (Below w.heap.size w w'))
    case atStart => exact ⟨(0), rf, H', ⟨Nat.le_refl _⟩, ⟨bk BK266⟩, ⟨bel⟩⟩
    case round =>
     clear H'
     obtain ⟨x5_2, rfl, HA, HK2, BK266, HB⟩ := hrel
     cases gk with
     | zero => exact absurd HA.out (by simp [spec_l10Alone.l1])
     | succ k2 =>
      have H := HA.out
      clear HA
      simp only [spec_l10Alone.l1] at H
      replace H := zc H
      rcases H with ⟨c17b0, H⟩ | ⟨c17b0, H⟩
      ·
       replace H := zs H
       obtain ⟨t272, A18, H⟩ := H
       replace H := zb H
       rcases H with ⟨rfl, H⟩ | ⟨rfl, H⟩
       ·
        replace H := zs H
        obtain ⟨t273, A20, H⟩ := H
        by_cases c21 : (t273.length : Int) = 0
        ·
         rw [if_pos c21] at H
         have c21b0 : ((t273.length : Int) == 0) = true := beq_iff_eq.mpr c21
         have c21b1 : ((t273.length : Int) != 0) = false := bne_eq_false_iff_eq.mpr c21
         clear c21
         obtain rfl := Option.some.inj H
         have ⟨_, _, _, _, _, _⟩ := cz3 BK266
         go_wp2_with (first | ((with_reducible refine zd 33 rfl ?_); refine zgl Try.func98 (spec_IsWhite.calls k2 a0_0 a0_1 a0_2 x5_2 true _ A18.out) ?_; rintro e w23 ⟨rfl, hb⟩; refine ⟨_, rfl, ?_⟩; replace BK266 := zk BK266 hb; replace HB := zB hb; have ⟨_, _, _, _, _, _⟩ := cz3 BK266) | (go_at_call 99; (with_reducible refine (spec_SlotsAt.calls k2 a0_0 a0_1 a0_2 x5_2 t273 _ A20.out).mono ?_); rintro e w25 ⟨v274, rfl, ho0, hb⟩; have HO275 := zl2 ho0; replace BK266 := zk BK266 hb; replace HB := zB hb; obtain ⟨Ao26, co26, eo26⟩ := Kd.R_slice HO275.out; subst eo26))
         go_ret
         exact ⟨er, bel⟩
        ·
         rw [if_neg c21] at H
         have c21b0 : ((t273.length : Int) == 0) = false := beq_eq_false_iff_ne.mpr c21
         have c21b1 : ((t273.length : Int) != 0) = true := bne_iff_ne.mpr c21
         have c21b2 : ¬ (t273 = []) := fun h_ => c21 (by rw [h_]; rfl)
         have H' := Aside0.mk H
         clear H
         have ⟨_, _, _, _, _, _⟩ := cz3 BK266
         go_wp2_with (first | ((with_reducible refine zd 33 rfl ?_); refine zgl Try.func98 (spec_IsWhite.calls k2 a0_0 a0_1 a0_2 x5_2 true _ A18.out) ?_; rintro e w28 ⟨rfl, hb⟩; refine ⟨_, rfl, ?_⟩; replace BK266 := zk BK266 hb; replace HB := zB hb; have ⟨_, _, _, _, _, _⟩ := cz3 BK266) | (go_at_call 99; (with_reducible refine (spec_SlotsAt.calls k2 a0_0 a0_1 a0_2 x5_2 t273 _ A20.out).mono ?_); rintro e w30 ⟨v274, rfl, ho0, hb⟩; have HO275 := zl2 ho0; replace BK266 := zk BK266 hb; replace HB := zB hb; obtain ⟨Ao31, co31, eo31⟩ := Kd.R_slice HO275.out; subst eo31))
         go_roundg k2
         case measure => have := HK1.out; have := HK2.out; omega
         case rel => exact ⟨(wrap64 (x5_2 + 1)), rf, H', ⟨by have := HK1.out; have := HK2.out; omega⟩, ⟨bk BK266⟩, ⟨bel⟩⟩
       ·
        have H' := Aside0.mk H
        clear H
        have ⟨_, _, _, _, _, _⟩ := cz3 BK266
        go_wp2_with (first | ((with_reducible refine zd 33 rfl ?_); refine zgl Try.func98 (spec_IsWhite.calls k2 a0_0 a0_1 a0_2 x5_2 false _ A18.out) ?_; rintro e w33 ⟨rfl, hb⟩; refine ⟨_, rfl, ?_⟩; replace BK266 := zk BK266 hb; replace HB := zB hb))
        go_roundg k2
        case measure => have := HK1.out; have := HK2.out; omega
        case rel => exact ⟨(wrap64 (x5_2 + 1)), rf, H', ⟨by have := HK1.out; have := HK2.out; omega⟩, ⟨bk BK266⟩, ⟨bel⟩⟩
      ·
       obtain rfl := Option.some.inj H
       have ⟨_, _, _, _, _, _⟩ := cz3 BK266
       go_wp2
       go_ret
       exact ⟨er, bel⟩

/-! ### spec_FormOf: function 57 -/
def spec_FormOf.f (k : Nat) (a0_0 : Int) (a0_1 : Int) (a0_2 : ByteArray) : Option (Int) := (spec_IsGrid.f k a0_0 a0_1 a0_2).bind fun t277 => (if t277 = true then ((spec_IsSymmetric.f k a0_0 a0_1 a0_2).bind fun t278 => (if t278 = true then ((spec_IsConnected.f k a0_0 a0_1 a0_2).bind fun t279 => (if t279 = true then ((spec_l10Short.f k a0_0 a0_1 a0_2).bind fun t280 => (if t280 = true then (some 4) else ((spec_l10Alone.f k a0_0 a0_1 a0_2).bind fun t281 => (if t281 = true then (some 5) else (some 0))))) else (some 3))) else (some 2))) else (some 1))
set_option maxHeartbeats 8000000 in
set_option maxRecDepth 100000 in
theorem spec_FormOf.calls (k : Nat) (a0_0 : Int) (a0_1 : Int) (a0_2 : ByteArray) (r : Int) (w : World) (H : spec_FormOf.f k a0_0 a0_1 a0_2 = some r) :
  Calls Try.prog 57 #[.agg #[.int .i64 a0_0, .int .i64 a0_1, .string a0_2]] w fun e w' => e = .returned (.int .i64 r) ∧ Below w.heap.size w w' := by
 have hu30 := Try.underlying30
 have HB := Aside0.mk (Below.refl w.heap.size w)
 unfold spec_FormOf.f at H
 replace H := zs H
 obtain ⟨t277, A2, H⟩ := H
 replace H := zb H
 rcases H with ⟨rfl, H⟩ | ⟨rfl, H⟩
 rotate_left
 focus
  obtain rfl := Option.some.inj H
 rotate_right
 focus
  replace H := zs H
  obtain ⟨t278, A4, H⟩ := H
  replace H := zb H
  rcases H with ⟨rfl, H⟩ | ⟨rfl, H⟩
  rotate_left
  focus
   obtain rfl := Option.some.inj H
  rotate_right
  focus
   replace H := zs H
   obtain ⟨t279, A6, H⟩ := H
   replace H := zb H
   rcases H with ⟨rfl, H⟩ | ⟨rfl, H⟩
   rotate_left
   focus
    obtain rfl := Option.some.inj H
   rotate_right
   focus
    replace H := zs H
    obtain ⟨t280, A8, H⟩ := H
    replace H := zb H
    rcases H with ⟨rfl, H⟩ | ⟨rfl, H⟩
    rotate_left
    focus
     replace H := zs H
     obtain ⟨t281, A19, H⟩ := H
     replace H := zb H
     rcases H with ⟨rfl, H⟩ | ⟨rfl, H⟩
     rotate_left
     focus
      obtain rfl := Option.some.inj H
     rotate_right
     focus
      obtain rfl := Option.some.inj H
    rotate_right
    focus
     obtain rfl := Option.some.inj H
 all_goals
  go_enter Try.func57, Try.ntmps57
  go_wp2_with (first | ((with_reducible refine zd 1 rfl ?_); refine zbx (w := w) #[.int .i64 a0_0, .int .i64 a0_1, .string a0_2] 30 ?_; intro gb276 hg w1000 BK276 hb; have GW276 := zg (w := w) hg; replace HB := zB hb; clear hb hg; have ⟨_, _, _, _, _, _⟩ := cz3 BK276) | ((with_reducible refine zd 5 rfl ?_); refine zgl Try.func77 (spec_IsGrid.calls k a0_0 a0_1 a0_2 _ _ A2.out) ?_; rintro e w1001 ⟨rfl, hb⟩; refine ⟨_, rfl, ?_⟩; replace BK276 := zk BK276 hb; replace HB := zB hb; have ⟨_, _, _, _, _, _⟩ := cz3 BK276) | ((with_reducible refine zd 9 rfl ?_); refine zgl Try.func81 (spec_IsSymmetric.calls k a0_0 a0_1 a0_2 _ _ A4.out) ?_; rintro e w1002 ⟨rfl, hb⟩; refine ⟨_, rfl, ?_⟩; replace BK276 := zk BK276 hb; replace HB := zB hb; have ⟨_, _, _, _, _, _⟩ := cz3 BK276) | ((with_reducible refine zd 13 rfl ?_); refine zgl Try.func82 (spec_IsConnected.calls k a0_0 a0_1 a0_2 _ _ A6.out) ?_; rintro e w1003 ⟨rfl, hb⟩; refine ⟨_, rfl, ?_⟩; replace BK276 := zk BK276 hb; replace HB := zB hb; have ⟨_, _, _, _, _, _⟩ := cz3 BK276) | ((with_reducible refine zd 17 rfl ?_); refine zgl Try.func83 (spec_l10Short.calls k a0_0 a0_1 a0_2 _ _ A8.out) ?_; rintro e w1004 ⟨rfl, hb⟩; refine ⟨_, rfl, ?_⟩; replace BK276 := zk BK276 hb; replace HB := zB hb; have ⟨_, _, _, _, _, _⟩ := cz3 BK276) | ((with_reducible refine zd 20 rfl ?_); refine zgl Try.func84 (spec_l10Alone.calls k a0_0 a0_1 a0_2 _ _ A19.out) ?_; rintro e w1005 ⟨rfl, hb⟩; refine ⟨_, rfl, ?_⟩; replace BK276 := zk BK276 hb; replace HB := zB hb) | ((with_reducible refine zd 17 rfl ?_); refine zgl Try.func83 (spec_l10Short.calls k a0_0 a0_1 a0_2 _ _ A8.out) ?_; rintro e w1004 ⟨rfl, hb⟩; refine ⟨_, rfl, ?_⟩; replace BK276 := zk BK276 hb; replace HB := zB hb) | ((with_reducible refine zd 13 rfl ?_); refine zgl Try.func82 (spec_IsConnected.calls k a0_0 a0_1 a0_2 _ _ A6.out) ?_; rintro e w1003 ⟨rfl, hb⟩; refine ⟨_, rfl, ?_⟩; replace BK276 := zk BK276 hb; replace HB := zB hb) | ((with_reducible refine zd 9 rfl ?_); refine zgl Try.func81 (spec_IsSymmetric.calls k a0_0 a0_1 a0_2 _ _ A4.out) ?_; rintro e w1002 ⟨rfl, hb⟩; refine ⟨_, rfl, ?_⟩; replace BK276 := zk BK276 hb; replace HB := zB hb) | ((with_reducible refine zd 5 rfl ?_); refine zgl Try.func77 (spec_IsGrid.calls k a0_0 a0_1 a0_2 _ _ A2.out) ?_; rintro e w1001 ⟨rfl, hb⟩; refine ⟨_, rfl, ?_⟩; replace BK276 := zk BK276 hb; replace HB := zB hb))
  go_ret
  exact ⟨er, bel⟩

end Go.Proofs.Ytpcdfjcbjbkliaa.E
