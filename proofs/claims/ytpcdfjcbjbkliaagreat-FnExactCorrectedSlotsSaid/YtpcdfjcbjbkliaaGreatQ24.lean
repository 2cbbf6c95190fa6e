import Derived.Test.YtpcdfjcbjbkliaaGreatSq
import Derived.Test.YtpcdfjcbjbkliaaGreatQ0
import Derived.Test.YtpcdfjcbjbkliaaGreatQ17
import Derived.Test.YtpcdfjcbjbkliaaGreatQ20
import Derived.Test.YtpcdfjcbjbkliaaGreatQ23
namespace Go.Proofs.YtpcdfjcbjbkliaaGreat.E
open Go.RowKit Go.Proofs.YtpcdfjcbjbkliaaGreatW.PrintWords Go.Proofs.YtpcdfjcbjbkliaaGreatW.PrintLast Go.Proofs.YtpcdfjcbjbkliaaGreatW.PrintMore
attribute [local go_sem] max2_int min2_int max_two min_two max_three min_three max_four min_four
set_option linter.unusedVariables false
set_option linter.unusedSimpArgs false

/-! ### impl_IsSolved: function 48 -/
def impl_IsSolved.f (k : Nat) (a b : Int) (c : ByteArray) (d : List (S89)) (e : List Int) (f : Int) (g : ByteArray) : Option (Bool) := (impl_IsPuzzle.f k a b c d e f).bind fun h => (if h = true then ((impl_IsFull.f k a b c g).bind fun i => (if i = true then ((impl_RightSlots.f k a b c g e f).bind fun j => (some ((j.length : Int) == (e.length : Int)))) else (some false))) else (some false))
def impl_IsSolved.T1 : Bool × List (List Nat × List Nat) := (true, [([], []), ([0], [0]), ([1, 1], [1]), ([2], [2]), ([3, 2], [2, 3]), ([2], [2]), ([4, 5, 2, 2], [2, 4, 5]), ([2, 6], [2, 6]), ([7, 6], [7]), ([8], [8]), ([9, 8], [8, 9]), ([8], [8]), ([8], [8]), ([12, 8], [8, 12]), ([8], [8]), ([14, 8], [8, 14]), ([10, 11, 13, 15, 8, 8], [8, 10, 11, 13, 15]), ([16, 8], [8, 16]), ([8], [8]), ([18, 8], [8, 18]), ([19, 8], [8, 19]), ([17, 20, 8], [8, 17, 20]), ([8, 21], [8, 21]), ([22, 16, 0, 1, 2, 3, 4, 5, 6, 7, 8, 9, 10, 11, 12, 13, 14, 15, 16, 17, 18, 19, 20, 21, 22], [22])])
theorem impl_IsSolved.tab1 : rtab .any (opsOf Tryz.f48 1) = impl_IsSolved.T1 := by kernel_rfl
set_option maxHeartbeats 8000000 in
set_option maxRecDepth 100000 in
theorem impl_IsSolved.calls (k : Nat) (a0_0 a0_1 : Int) (a0_2 : ByteArray) (A0_3 : Option Addr) (c0_3 : Nat) (l0_3 : List (S89)) (A0_4 : Option Addr) (c0_4 : Nat) (l0_4 : List Int) (a0_5 : Int) (a1 : ByteArray) (r : Bool) (w : World) (hr0_3 : Kd.C k89 w A0_3 l0_3.length l0_3) (hc0_3 : l0_3.length ≤ c0_3) (hr0_4 : Kd.C (Kd.int .i64) w A0_4 l0_4.length l0_4) (hc0_4 : l0_4.length ≤ c0_4) (H : impl_IsSolved.f k a0_0 a0_1 a0_2 l0_3 l0_4 a0_5 a1 = some r) :
  Calls Tryz.prog 48 #[.agg #[.int .i64 a0_0, .int .i64 a0_1, .string a0_2, .slice A0_3 l0_3.length c0_3, .slice A0_4 l0_4.length c0_4, .int .i64 a0_5], .string a1] w fun e w' => e = .returned (.bool r) ∧ Below w.heap.size w w' := by
 have hu35 := Tryz.underlying35
 have hu32 := Tryz.underlying32
 have HR0_3 := Aside0.mk hr0_3
 have HC0_3 := Aside0.mk hc0_3
 clear hr0_3 hc0_3
 have HR0_4 := Aside0.mk hr0_4
 have HC0_4 := Aside0.mk hc0_4
 clear hr0_4 hc0_4
 have HB := Aside0.mk (Below.refl w.heap.size w)
 unfold impl_IsSolved.f at H
 replace H := zs H
 obtain ⟨t681, A3, H⟩ := H
 replace H := zb H
 rcases H with ⟨rfl, H⟩ | ⟨rfl, H⟩
 ·
  replace H := zs H
  obtain ⟨t682, A5, H⟩ := H
  replace H := zb H
  rcases H with ⟨rfl, H⟩ | ⟨rfl, H⟩
  ·
   replace H := zs H
   obtain ⟨t683, A7, H⟩ := H
   obtain rfl := Option.some.inj H
   go_enter Tryz.func48, Tryz.ntmps48
   try go_wp2_with (first | ((with_reducible refine zd 2 rfl ?_); (try (refine gate_guard (by rfl) ?_; dsimp only)); refine zbx (w := w) #[.int .i64 a0_0, .int .i64 a0_1, .string a0_2, .slice A0_3 l0_3.length c0_3, .slice A0_4 l0_4.length c0_4, .int .i64 a0_5] 35 ?_; intro gb680 hg w8 BK680 hb; have GW680 := zg (w := w) hg; replace HB := zB hb; clear hb hg))
   replace BK680 := zkd BK680
   replace HB := zBd HB
   refine zst 24 impl_IsSolved.tab1 (zb6 BK680 <| zn0) fun hHeld HT_ => ?_
   generalize w8.drew = w9 at BK680 HB hHeld ⊢
   repeat (first | refine zs1 ?_ | (refine zcl Tryz.func69 (impl_IsPuzzle.calls k a0_0 a0_1 a0_2 _ _ l0_3 _ _ l0_4 a0_5 true _ (zC HR0_3) HC0_3.out (zC HR0_4) HC0_4.out A3.out) ?_; rintro e w10 ⟨rfl, hb⟩; replace BK680 := zk BK680 hb; replace HB := zB hb; refine ⟨_, rfl, zHb hb hHeld, _, znb, fun hHeld => ?_⟩) | (refine zcl Tryz.func83 (impl_IsFull.calls k a0_0 a0_1 a0_2 a1 true _ A5.out) ?_; rintro e w11 ⟨rfl, hb⟩; replace BK680 := zk BK680 hb; replace HB := zB hb; refine ⟨_, rfl, zHb hb hHeld, _, znb, fun hHeld => ?_⟩) | (refine zcl Tryz.func54 (impl_RightSlots.calls k a0_0 a0_1 a0_2 a1 _ _ l0_4 a0_5 t683 _ (zC HR0_4) HC0_4.out A7.out) ?_; rintro e w12 ⟨v684, rfl, ho0, hb⟩; have HO685 := zl2 ho0; replace BK680 := zk BK680 hb; replace HB := zB hb; obtain ⟨Ao13, co13, eo13⟩ := Kd.R_slice HO685.out; (first | subst eo13 | (injection eo13 with f1_ f2_ f3_; have f4_ := f1_.symm; have f5_ := f3_.symm; clear f1_ f2_ f3_; subst f4_; subst f5_)); refine ⟨_, rfl, zHb hb hHeld, _, znb, fun hHeld => ?_⟩))
   refine zdn ?_
   try go_wp2
   go_ret
   exact ⟨er, bel⟩
  ·
   obtain rfl := Option.some.inj H
   go_enter Tryz.func48, Tryz.ntmps48
   try go_wp2_with (first | ((with_reducible refine zd 2 rfl ?_); (try (refine gate_guard (by rfl) ?_; dsimp only)); refine zbx (w := w) #[.int .i64 a0_0, .int .i64 a0_1, .string a0_2, .slice A0_3 l0_3.length c0_3, .slice A0_4 l0_4.length c0_4, .int .i64 a0_5] 35 ?_; intro gb680 hg w14 BK680 hb; have GW680 := zg (w := w) hg; replace HB := zB hb; clear hb hg))
   replace BK680 := zkd BK680
   replace HB := zBd HB
   refine zst 24 impl_IsSolved.tab1 (zb6 BK680 <| zn0) fun hHeld HT_ => ?_
   generalize w14.drew = w15 at BK680 HB hHeld ⊢
   repeat (first | refine zs1 ?_ | (refine zcl Tryz.func69 (impl_IsPuzzle.calls k a0_0 a0_1 a0_2 _ _ l0_3 _ _ l0_4 a0_5 true _ (zC HR0_3) HC0_3.out (zC HR0_4) HC0_4.out A3.out) ?_; rintro e w16 ⟨rfl, hb⟩; replace BK680 := zk BK680 hb; replace HB := zB hb; refine ⟨_, rfl, zHb hb hHeld, _, znb, fun hHeld => ?_⟩) | (refine zcl Tryz.func83 (impl_IsFull.calls k a0_0 a0_1 a0_2 a1 false _ A5.out) ?_; rintro e w17 ⟨rfl, hb⟩; replace BK680 := zk BK680 hb; replace HB := zB hb; refine ⟨_, rfl, zHb hb hHeld, _, znb, fun hHeld => ?_⟩))
   refine zdn ?_
   try go_wp2
   go_ret
   exact ⟨er, bel⟩
 ·
  obtain rfl := Option.some.inj H
  go_enter Tryz.func48, Tryz.ntmps48
  try go_wp2_with (first | ((with_reducible refine zd 2 rfl ?_); (try (refine gate_guard (by rfl) ?_; dsimp only)); refine zbx (w := w) #[.int .i64 a0_0, .int .i64 a0_1, .string a0_2, .slice A0_3 l0_3.length c0_3, .slice A0_4 l0_4.length c0_4, .int .i64 a0_5] 35 ?_; intro gb680 hg w18 BK680 hb; have GW680 := zg (w := w) hg; replace HB := zB hb; clear hb hg))
  replace BK680 := zkd BK680
  replace HB := zBd HB
  refine zst 24 impl_IsSolved.tab1 (zb6 BK680 <| zn0) fun hHeld HT_ => ?_
  generalize w18.drew = w19 at BK680 HB hHeld ⊢
  repeat (first | refine zs1 ?_ | (refine zcl Tryz.func69 (impl_IsPuzzle.calls k a0_0 a0_1 a0_2 _ _ l0_3 _ _ l0_4 a0_5 false _ (zC HR0_3) HC0_3.out (zC HR0_4) HC0_4.out A3.out) ?_; rintro e w20 ⟨rfl, hb⟩; replace BK680 := zk BK680 hb; replace HB := zB hb; refine ⟨_, rfl, zHb hb hHeld, _, znb, fun hHeld => ?_⟩))
  refine zdn ?_
  try go_wp2
  go_ret
  exact ⟨er, bel⟩

/-! ### impl_IsIssue: function 13 -/
def impl_IsIssue.f (k : Nat) (a b c : Int) (d : ByteArray) (e : List (S89)) (f : List Int) (g : Int) (h : ByteArray) (i j : Int) : Option (Bool) := (impl_InRange.f a 1 999).bind fun l => (if l = true then ((impl_IsSolved.f k b c d e f g h).bind fun m => (if m = true then (if i ≥ 0 then (if i < j then (some (decide (j ≤ 1000))) else (some false)) else (some false)) else (some false))) else (some false))
set_option maxHeartbeats 8000000 in
set_option maxRecDepth 100000 in
theorem impl_IsIssue.calls (k : Nat) (a0_0 a0_1 a0_2 : Int) (a0_3 : ByteArray) (A0_4 : Option Addr) (c0_4 : Nat) (l0_4 : List (S89)) (A0_5 : Option Addr) (c0_5 : Nat) (l0_5 : List Int) (a0_6 : Int) (a0_7 : ByteArray) (a0_8 a0_9 : Int) (r : Bool) (w : World) (hr0_4 : Kd.C k89 w A0_4 l0_4.length l0_4) (hc0_4 : l0_4.length ≤ c0_4) (hr0_5 : Kd.C (Kd.int .i64) w A0_5 l0_5.length l0_5) (hc0_5 : l0_5.length ≤ c0_5) (H : impl_IsIssue.f k a0_0 a0_1 a0_2 a0_3 l0_4 l0_5 a0_6 a0_7 a0_8 a0_9 = some r) :
  Calls Tryz.prog 13 #[.agg #[.int .i64 a0_0, .int .i64 a0_1, .int .i64 a0_2, .string a0_3, .slice A0_4 l0_4.length c0_4, .slice A0_5 l0_5.length c0_5, .int .i64 a0_6, .string a0_7, .int .i64 a0_8, .int .i64 a0_9]] w fun e w' => e = .returned (.bool r) ∧ Below w.heap.size w w' := by
 have hu37 := Tryz.underlying37
 have hu35 := Tryz.underlying35
 have HR0_4 := Aside0.mk hr0_4
 have HC0_4 := Aside0.mk hc0_4
 clear hr0_4 hc0_4
 have HR0_5 := Aside0.mk hr0_5
 have HC0_5 := Aside0.mk hc0_5
 clear hr0_5 hc0_5
 have HB := Aside0.mk (Below.refl w.heap.size w)
 unfold impl_IsIssue.f at H
 replace H := zs H
 obtain ⟨t687, A2, H⟩ := H
 replace H := zb H
 rcases H with ⟨rfl, H⟩ | ⟨rfl, H⟩
 rotate_left
 focus
  obtain rfl := Option.some.inj H
 rotate_right
 focus
  replace H := zs H
  obtain ⟨t688, A4, H⟩ := H
  replace H := zb H
  rcases H with ⟨rfl, H⟩ | ⟨rfl, H⟩
  rotate_left
  focus
   obtain rfl := Option.some.inj H
  rotate_right
  focus
   replace H := zc H
   rcases H with ⟨c6b0, H⟩ | ⟨c6b0, H⟩
   rotate_left
   focus
    obtain rfl := Option.some.inj H
   rotate_right
   focus
    replace H := zc H
    rcases H with ⟨c7b0, H⟩ | ⟨c7b0, H⟩
    rotate_left
    focus
     obtain rfl := Option.some.inj H
    rotate_right
    focus
     obtain rfl := Option.some.inj H
 all_goals
  go_enter Tryz.func13, Tryz.ntmps13
  go_wp2_with (first | ((with_reducible refine zd 1 rfl ?_); refine zbx (w := w) #[.int .i64 a0_0, .int .i64 a0_1, .int .i64 a0_2, .string a0_3, .slice A0_4 l0_4.length c0_4, .slice A0_5 l0_5.length c0_5, .int .i64 a0_6, .string a0_7, .int .i64 a0_8, .int .i64 a0_9] 37 ?_; intro gb686 hg w1000 BK686 hb; have GW686 := zg (w := w) hg; replace HB := zB hb; clear hb hg; have ⟨_, _, _, _, _, _, _, _, _, _, _, _, _, _, _, _, _, _, _, _⟩ := cz10 BK686) | ((with_reducible refine zd 5 rfl ?_); refine zgl Tryz.func47 (impl_InRange.calls a0_0 1 999 _ _ A2.out) ?_; rintro e w' ⟨rfl, ⟨nd, rfl⟩⟩; refine ⟨_, rfl, ?_⟩) | (go_at_call 48; (with_reducible refine (impl_IsSolved.calls k a0_1 a0_2 a0_3 _ _ l0_4 _ _ l0_5 a0_6 a0_7 _ _ ?side1 ?side2 ?side3 ?side4 A4.out).mono ?_); (case side1 => repeat (first | exact (Kd.C_below HR0_4.out bel) | (with_reducible refine Kd.C_alloc ?_ _) | (with_reducible refine Kd.C_drewN ?_ _) | (with_reducible refine Kd.C_drew ?_))); (case side2 => exact HC0_4.out); (case side3 => repeat (first | exact (Kd.C_below HR0_5.out bel) | (with_reducible refine Kd.C_alloc ?_ _) | (with_reducible refine Kd.C_drewN ?_ _) | (with_reducible refine Kd.C_drew ?_))); (case side4 => exact HC0_5.out); rintro e w1001 ⟨rfl, hb⟩; replace BK686 := zk BK686 hb; replace HB := zB hb; have ⟨_, _, _, _, _, _, _, _, _, _, _, _, _, _, _, _, _, _, _, _⟩ := cz10 BK686) | (go_at_call 48; (with_reducible refine (impl_IsSolved.calls k a0_1 a0_2 a0_3 _ _ l0_4 _ _ l0_5 a0_6 a0_7 _ _ ?side1 ?side2 ?side3 ?side4 A4.out).mono ?_); (case side1 => repeat (first | exact (Kd.C_below HR0_4.out bel) | (with_reducible refine Kd.C_alloc ?_ _) | (with_reducible refine Kd.C_drewN ?_ _) | (with_reducible refine Kd.C_drew ?_))); (case side2 => exact HC0_4.out); (case side3 => repeat (first | exact (Kd.C_below HR0_5.out bel) | (with_reducible refine Kd.C_alloc ?_ _) | (with_reducible refine Kd.C_drewN ?_ _) | (with_reducible refine Kd.C_drew ?_))); (case side4 => exact HC0_5.out); rintro e w1001 ⟨rfl, hb⟩; replace BK686 := zk BK686 hb; replace HB := zB hb))
  go_ret
  exact ⟨er, bel⟩

end Go.Proofs.YtpcdfjcbjbkliaaGreat.E
