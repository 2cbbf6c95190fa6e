import Derived.Test.YtpcdfjcbjbkliaaSq
import Derived.Test.YtpcdfjcbjbkliaaQ0
import Derived.Test.YtpcdfjcbjbkliaaQ15
import Derived.Test.YtpcdfjcbjbkliaaQ16
import Derived.Test.YtpcdfjcbjbkliaaQ18
import Derived.Test.YtpcdfjcbjbkliaaQ19
namespace Go.Proofs.Ytpcdfjcbjbkliaa.E
open Go.RowKit Go.Proofs.YtpcdfjcbjbkliaaW.PrintWords Go.Proofs.YtpcdfjcbjbkliaaW.PrintLast Go.Proofs.YtpcdfjcbjbkliaaW.PrintMore
attribute [local go_sem] max2_int min2_int max_two min_two max_three min_three max_four min_four
set_option linter.unusedVariables false
set_option linter.unusedSimpArgs false

/-! ### impl_IsDraft: function 31 -/
def impl_IsDraft.f (k : Nat) (a0_0 : Int) (a0_1 : Int) (a0_2 : ByteArray) (a0_3 : ByteArray) (l0_4 : List (S48)) (a0_5 : Int) : Option (Bool) := (impl_FormOf.f k a0_0 a0_1 a0_2).bind fun t478 => (if t478 = 0 then ((impl_IsFill.f k a0_0 a0_1 a0_2 a0_3).bind fun t479 => (if t479 = true then ((impl_SlotsOf.f k a0_0 a0_1 a0_2).bind fun t480 => (if (l0_4.length : Int) = (t480.length : Int) then ((impl_InRange.f a0_5 1 9999).bind fun t483 => (if t483 = true then ((impl_Clue_63.f k l0_4 64).bind fun t484 => (some (!t484))) else (some false))) else (some false))) else (some false))) else (some false))
def impl_IsDraft.T1 : Bool × List (List Nat × List Nat) := (true, [([], []), ([0], [0]), ([1], [1]), ([2], [2]), ([3, 2], [3]), ([4], [4]), ([5, 4], [4, 5]), ([4], [4]), ([7, 4], [4, 7]), ([6, 8, 4, 4], [4, 6, 8]), ([4, 9], [4, 9]), ([10, 9], [10]), ([11], [11]), ([12, 11], [11, 12]), ([13, 11], [11, 13]), ([11], [11]), ([15, 11], [11, 15]), ([16, 11, 11], [11, 16]), ([17, 11], [11, 17]), ([14, 18, 11], [11, 14, 18]), ([11, 19], [11, 19]), ([20, 17], [20]), ([21], [21]), ([22, 21], [21, 22]), ([23, 21, 21], [21, 23]), ([21, 24], [21, 24]), ([25, 24], [25]), ([26], [26]), ([27, 26], [26, 27]), ([28, 26, 26], [26, 28]), ([29, 26], [26, 29]), ([26, 30], [26, 30]), ([31, 29, 0, 1, 2, 3, 4, 5, 6, 7, 8, 9, 10, 11, 12, 13, 14, 15, 16, 17, 18, 19, 20, 21, 22, 23, 24, 25, 26, 27, 28, 29, 30, 31], [31])])
theorem impl_IsDraft.tab1 : rtab .any (opsOf Try.f31 1) = impl_IsDraft.T1 := by kernel_rfl
set_option maxHeartbeats 8000000 in
set_option maxRecDepth 100000 in
theorem impl_IsDraft.calls (k : Nat) (a0_0 : Int) (a0_1 : Int) (a0_2 : ByteArray) (a0_3 : ByteArray) (A0_4 : Option Addr) (c0_4 : Nat) (l0_4 : List (S48)) (a0_5 : Int) (r : Bool) (w : World) (hr0_4 : Kd.C k48 w A0_4 l0_4.length l0_4) (hc0_4 : l0_4.length ≤ c0_4) (H : impl_IsDraft.f k a0_0 a0_1 a0_2 a0_3 l0_4 a0_5 = some r) :
  Calls Try.prog 31 #[.agg #[.int .i64 a0_0, .int .i64 a0_1, .string a0_2, .string a0_3, .slice A0_4 l0_4.length c0_4, .int .i64 a0_5]] w fun e w' => e = .returned (.bool r) ∧ Below w.heap.size w w' := by
 have hu33 := Try.underlying33
 have hu30 := Try.underlying30
 have HR0_4 := Aside0.mk hr0_4
 have HC0_4 := Aside0.mk hc0_4
 clear hr0_4 hc0_4
 have HB := Aside0.mk (Below.refl w.heap.size w)
 unfold impl_IsDraft.f at H
 replace H := zs H
 obtain ⟨t478, A2, H⟩ := H
 by_cases c3 : t478 = 0
 ·
  rw [if_pos c3] at H
  have c3b0 : (t478 == 0) = true := beq_iff_eq.mpr c3
  have c3b1 : (t478 != 0) = false := bne_eq_false_iff_eq.mpr c3
  clear c3
  replace H := zs H
  obtain ⟨t479, A4, H⟩ := H
  replace H := zb H
  rcases H with ⟨rfl, H⟩ | ⟨rfl, H⟩
  ·
   replace H := zs H
   obtain ⟨t480, A6, H⟩ := H
   by_cases c7 : (l0_4.length : Int) = (t480.length : Int)
   ·
    rw [if_pos c7] at H
    have c7b0 : ((l0_4.length : Int) == (t480.length : Int)) = true := beq_iff_eq.mpr c7
    have c7b1 : ((l0_4.length : Int) != (t480.length : Int)) = false := bne_eq_false_iff_eq.mpr c7
    have c7b2 : (l0_4.length == t480.length) = true := by first | simpa using c7 | (simp at c7 ⊢; omega)
    clear c7
    replace H := zs H
    obtain ⟨t483, A8, H⟩ := H
    replace H := zb H
    rcases H with ⟨rfl, H⟩ | ⟨rfl, H⟩
    ·
     replace H := zs H
     obtain ⟨t484, A10, H⟩ := H
     obtain rfl := Option.some.inj H
     go_enter Try.func31, Try.ntmps31
     try go_wp2_with (first | ((with_reducible refine zd 1 rfl ?_); (try (refine gate_guard (by rfl) ?_; dsimp only)); refine zbx (w := w) #[.int .i64 a0_0, .int .i64 a0_1, .string a0_2, .string a0_3, .slice A0_4 l0_4.length c0_4, .int .i64 a0_5] 33 ?_; intro gb477 hg w11 BK477 hb; have GW477 := zg (w := w) hg; replace HB := zB hb; clear hb hg))
     replace BK477 := zkd BK477
     replace HB := zBd HB
     refine zst 33 impl_IsDraft.tab1 (zb6 BK477 <| zn0) fun hHeld HT_ => ?_
     generalize w11.drew = w12 at BK477 HB hHeld ⊢
     repeat (first | refine zs1 ?_ | (refine zcl Try.func59 (impl_FormOf.calls k a0_0 a0_1 a0_2 t478 _ A2.out) ?_; rintro e w13 ⟨rfl, hb⟩; replace BK477 := zk BK477 hb; replace HB := zB hb; refine ⟨_, rfl, zHb hb hHeld, _, znb, fun hHeld => ?_⟩) | (refine zcl Try.func60 (impl_IsFill.calls k a0_0 a0_1 a0_2 a0_3 true _ A4.out) ?_; rintro e w14 ⟨rfl, hb⟩; replace BK477 := zk BK477 hb; replace HB := zB hb; refine ⟨_, rfl, zHb hb hHeld, _, znb, fun hHeld => ?_⟩) | (refine zcl Try.func61 (impl_SlotsOf.calls k a0_0 a0_1 a0_2 t480 _ A6.out) ?_; rintro e w15 ⟨v481, rfl, ho0, hb⟩; have HO482 := zl2 ho0; replace BK477 := zk BK477 hb; replace HB := zB hb; obtain ⟨Ao16, co16, eo16⟩ := Kd.R_slice HO482.out; (first | subst eo16 | (injection eo16 with f1_ f2_ f3_; have f4_ := f1_.symm; have f5_ := f3_.symm; clear f1_ f2_ f3_; subst f4_; subst f5_)); refine ⟨_, rfl, zHb hb hHeld, _, znb, fun hHeld => ?_⟩) | (refine zcl Try.func62 (impl_InRange.calls a0_5 1 9999 true _ A8.out) ?_; rintro e w' ⟨rfl, ⟨nd, rfl⟩⟩; refine ⟨_, rfl, zHd hHeld, _, znb, fun hHeld => ?_⟩) | (refine zcl Try.func63 (impl_Clue_63.calls k _ _ l0_4 64 t484 _ (zC HR0_4) HC0_4.out A10.out) ?_; rintro e w17 ⟨rfl, hb⟩; replace HO482 := zR HO482 hb; replace BK477 := zk BK477 hb; replace HB := zB hb; refine ⟨_, rfl, zHb hb hHeld, _, znb, fun hHeld => ?_⟩))
     refine zdn ?_
     try go_wp2
     go_ret
     exact ⟨er, bel⟩
    ·
     obtain rfl := Option.some.inj H
     go_enter Try.func31, Try.ntmps31
     try go_wp2_with (first | ((with_reducible refine zd 1 rfl ?_); (try (refine gate_guard (by rfl) ?_; dsimp only)); refine zbx (w := w) #[.int .i64 a0_0, .int .i64 a0_1, .string a0_2, .string a0_3, .slice A0_4 l0_4.length c0_4, .int .i64 a0_5] 33 ?_; intro gb477 hg w18 BK477 hb; have GW477 := zg (w := w) hg; replace HB := zB hb; clear hb hg))
     replace BK477 := zkd BK477
     replace HB := zBd HB
     refine zst 33 impl_IsDraft.tab1 (zb6 BK477 <| zn0) fun hHeld HT_ => ?_
     generalize w18.drew = w19 at BK477 HB hHeld ⊢
     repeat (first | refine zs1 ?_ | (refine zcl Try.func59 (impl_FormOf.calls k a0_0 a0_1 a0_2 t478 _ A2.out) ?_; rintro e w20 ⟨rfl, hb⟩; replace BK477 := zk BK477 hb; replace HB := zB hb; refine ⟨_, rfl, zHb hb hHeld, _, znb, fun hHeld => ?_⟩) | (refine zcl Try.func60 (impl_IsFill.calls k a0_0 a0_1 a0_2 a0_3 true _ A4.out) ?_; rintro e w21 ⟨rfl, hb⟩; replace BK477 := zk BK477 hb; replace HB := zB hb; refine ⟨_, rfl, zHb hb hHeld, _, znb, fun hHeld => ?_⟩) | (refine zcl Try.func61 (impl_SlotsOf.calls k a0_0 a0_1 a0_2 t480 _ A6.out) ?_; rintro e w22 ⟨v481, rfl, ho0, hb⟩; have HO482 := zl2 ho0; replace BK477 := zk BK477 hb; replace HB := zB hb; obtain ⟨Ao23, co23, eo23⟩ := Kd.R_slice HO482.out; (first | subst eo23 | (injection eo23 with f1_ f2_ f3_; have f4_ := f1_.symm; have f5_ := f3_.symm; clear f1_ f2_ f3_; subst f4_; subst f5_)); refine ⟨_, rfl, zHb hb hHeld, _, znb, fun hHeld => ?_⟩) | (refine zcl Try.func62 (impl_InRange.calls a0_5 1 9999 false _ A8.out) ?_; rintro e w' ⟨rfl, ⟨nd, rfl⟩⟩; refine ⟨_, rfl, zHd hHeld, _, znb, fun hHeld => ?_⟩))
     refine zdn ?_
     try go_wp2
     go_ret
     exact ⟨er, bel⟩
   ·
    rw [if_neg c7] at H
    have c7b0 : ((l0_4.length : Int) == (t480.length : Int)) = false := beq_eq_false_iff_ne.mpr c7
    have c7b1 : ((l0_4.length : Int) != (t480.length : Int)) = true := bne_iff_ne.mpr c7
    have c7b2 : (l0_4.length == t480.length) = false := by first | simpa using c7 | (simp at c7 ⊢; omega)
    obtain rfl := Option.some.inj H
    go_enter Try.func31, Try.ntmps31
    try go_wp2_with (first | ((with_reducible refine zd 1 rfl ?_); (try (refine gate_guard (by rfl) ?_; dsimp only)); refine zbx (w := w) #[.int .i64 a0_0, .int .i64 a0_1, .string a0_2, .string a0_3, .slice A0_4 l0_4.length c0_4, .int .i64 a0_5] 33 ?_; intro gb477 hg w24 BK477 hb; have GW477 := zg (w := w) hg; replace HB := zB hb; clear hb hg))
    replace BK477 := zkd BK477
    replace HB := zBd HB
    refine zst 33 impl_IsDraft.tab1 (zb6 BK477 <| zn0) fun hHeld HT_ => ?_
    generalize w24.drew = w25 at BK477 HB hHeld ⊢
    repeat (first | refine zs1 ?_ | (refine zcl Try.func59 (impl_FormOf.calls k a0_0 a0_1 a0_2 t478 _ A2.out) ?_; rintro e w26 ⟨rfl, hb⟩; replace BK477 := zk BK477 hb; replace HB := zB hb; refine ⟨_, rfl, zHb hb hHeld, _, znb, fun hHeld => ?_⟩) | (refine zcl Try.func60 (impl_IsFill.calls k a0_0 a0_1 a0_2 a0_3 true _ A4.out) ?_; rintro e w27 ⟨rfl, hb⟩; replace BK477 := zk BK477 hb; replace HB := zB hb; refine ⟨_, rfl, zHb hb hHeld, _, znb, fun hHeld => ?_⟩) | (refine zcl Try.func61 (impl_SlotsOf.calls k a0_0 a0_1 a0_2 t480 _ A6.out) ?_; rintro e w28 ⟨v481, rfl, ho0, hb⟩; have HO482 := zl2 ho0; replace BK477 := zk BK477 hb; replace HB := zB hb; obtain ⟨Ao29, co29, eo29⟩ := Kd.R_slice HO482.out; (first | subst eo29 | (injection eo29 with f1_ f2_ f3_; have f4_ := f1_.symm; have f5_ := f3_.symm; clear f1_ f2_ f3_; subst f4_; subst f5_)); refine ⟨_, rfl, zHb hb hHeld, _, znb, fun hHeld => ?_⟩))
    refine zdn ?_
    try go_wp2
    go_ret
    exact ⟨er, bel⟩
  ·
   obtain rfl := Option.some.inj H
   go_enter Try.func31, Try.ntmps31
   try go_wp2_with (first | ((with_reducible refine zd 1 rfl ?_); (try (refine gate_guard (by rfl) ?_; dsimp only)); refine zbx (w := w) #[.int .i64 a0_0, .int .i64 a0_1, .string a0_2, .string a0_3, .slice A0_4 l0_4.length c0_4, .int .i64 a0_5] 33 ?_; intro gb477 hg w30 BK477 hb; have GW477 := zg (w := w) hg; replace HB := zB hb; clear hb hg))
   replace BK477 := zkd BK477
   replace HB := zBd HB
   refine zst 33 impl_IsDraft.tab1 (zb6 BK477 <| zn0) fun hHeld HT_ => ?_
   generalize w30.drew = w31 at BK477 HB hHeld ⊢
   repeat (first | refine zs1 ?_ | (refine zcl Try.func59 (impl_FormOf.calls k a0_0 a0_1 a0_2 t478 _ A2.out) ?_; rintro e w32 ⟨rfl, hb⟩; replace BK477 := zk BK477 hb; replace HB := zB hb; refine ⟨_, rfl, zHb hb hHeld, _, znb, fun hHeld => ?_⟩) | (refine zcl Try.func60 (impl_IsFill.calls k a0_0 a0_1 a0_2 a0_3 false _ A4.out) ?_; rintro e w33 ⟨rfl, hb⟩; replace BK477 := zk BK477 hb; replace HB := zB hb; refine ⟨_, rfl, zHb hb hHeld, _, znb, fun hHeld => ?_⟩))
   refine zdn ?_
   try go_wp2
   go_ret
   exact ⟨er, bel⟩
 ·
  rw [if_neg c3] at H
  have c3b0 : (t478 == 0) = false := beq_eq_false_iff_ne.mpr c3
  have c3b1 : (t478 != 0) = true := bne_iff_ne.mpr c3
  obtain rfl := Option.some.inj H
  go_enter Try.func31, Try.ntmps31
  try go_wp2_with (first | ((with_reducible refine zd 1 rfl ?_); (try (refine gate_guard (by rfl) ?_; dsimp only)); refine zbx (w := w) #[.int .i64 a0_0, .int .i64 a0_1, .string a0_2, .string a0_3, .slice A0_4 l0_4.length c0_4, .int .i64 a0_5] 33 ?_; intro gb477 hg w34 BK477 hb; have GW477 := zg (w := w) hg; replace HB := zB hb; clear hb hg))
  replace BK477 := zkd BK477
  replace HB := zBd HB
  refine zst 33 impl_IsDraft.tab1 (zb6 BK477 <| zn0) fun hHeld HT_ => ?_
  generalize w34.drew = w35 at BK477 HB hHeld ⊢
  repeat (first | refine zs1 ?_ | (refine zcl Try.func59 (impl_FormOf.calls k a0_0 a0_1 a0_2 t478 _ A2.out) ?_; rintro e w36 ⟨rfl, hb⟩; replace BK477 := zk BK477 hb; replace HB := zB hb; refine ⟨_, rfl, zHb hb hHeld, _, znb, fun hHeld => ?_⟩))
  refine zdn ?_
  try go_wp2
  go_ret
  exact ⟨er, bel⟩

end Go.Proofs.Ytpcdfjcbjbkliaa.E
