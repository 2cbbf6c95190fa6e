import Derived.Test.YtpcdfjcbjbkliaaGreatSq
import Derived.Test.YtpcdfjcbjbkliaaGreatQ0
import Derived.Test.YtpcdfjcbjbkliaaGreatQ24
namespace Go.Proofs.YtpcdfjcbjbkliaaGreat.E
open Go.RowKit Go.Proofs.YtpcdfjcbjbkliaaGreatW.PrintWords Go.Proofs.YtpcdfjcbjbkliaaGreatW.PrintLast Go.Proofs.YtpcdfjcbjbkliaaGreatW.PrintMore
attribute [local go_sem] max2_int min2_int max_two min_two max_three min_three max_four min_four
set_option linter.unusedVariables false
set_option linter.unusedSimpArgs false

/-! ### spec_IsAhead: function 21 -/
def spec_IsAhead.f (k : Nat) (a0_0 : Int) (a0_1 : Int) (a0_2 : Int) (a0_3 : ByteArray) (a1_0 : Int) (a1_1 : Int) (a1_2 : Int) (a1_3 : ByteArray) (a2_0 : Int) (a2_1 : Int) (a2_2 : Int) (a2_3 : ByteArray) (l2_4 : List (S89)) (l2_5 : List Int) (a2_6 : Int) (a2_7 : ByteArray) (a2_8 : Int) (a2_9 : Int) : Option (Bool) := (spec_RightOf.f k a0_0 a0_1 a0_2 a0_3 a2_0 a2_1 a2_2 a2_3 l2_4 l2_5 a2_6 a2_7 a2_8 a2_9).bind fun t801 => ((spec_RightOf.f k a1_0 a1_1 a1_2 a1_3 a2_0 a2_1 a2_2 a2_3 l2_4 l2_5 a2_6 a2_7 a2_8 a2_9).bind fun t802 => (if t801 = t802 then (if a0_2 = a1_2 then (some (decide (a0_0 < a1_0))) else (some (decide (a0_2 < a1_2)))) else (some (decide (t801 > t802)))))
set_option maxHeartbeats 8000000 in
set_option maxRecDepth 100000 in
theorem spec_IsAhead.calls (k : Nat) (a0_0 : Int) (a0_1 : Int) (a0_2 : Int) (a0_3 : ByteArray) (a1_0 : Int) (a1_1 : Int) (a1_2 : Int) (a1_3 : ByteArray) (a2_0 : Int) (a2_1 : Int) (a2_2 : Int) (a2_3 : ByteArray) (A2_4 : Option Addr) (c2_4 : Nat) (l2_4 : List (S89)) (A2_5 : Option Addr) (c2_5 : Nat) (l2_5 : List Int) (a2_6 : Int) (a2_7 : ByteArray) (a2_8 : Int) (a2_9 : Int) (r : Bool) (w : World) (hr2_4 : Kd.C k89 w A2_4 l2_4.length l2_4) (hc2_4 : l2_4.length ≤ c2_4) (hr2_5 : Kd.C (Kd.int .i64) w A2_5 l2_5.length l2_5) (hc2_5 : l2_5.length ≤ c2_5) (H : spec_IsAhead.f k a0_0 a0_1 a0_2 a0_3 a1_0 a1_1 a1_2 a1_3 a2_0 a2_1 a2_2 a2_3 l2_4 l2_5 a2_6 a2_7 a2_8 a2_9 = some r) :
  Calls Tryz.prog 21 #[.agg #[.int .i64 a0_0, .int .i64 a0_1, .int .i64 a0_2, .string a0_3], .agg #[.int .i64 a1_0, .int .i64 a1_1, .int .i64 a1_2, .string a1_3], .agg #[.int .i64 a2_0, .int .i64 a2_1, .int .i64 a2_2, .string a2_3, .slice A2_4 l2_4.length c2_4, .slice A2_5 l2_5.length c2_5, .int .i64 a2_6, .string a2_7, .int .i64 a2_8, .int .i64 a2_9]] w fun e w' => e = .returned (.bool r) ∧ Below w.heap.size w w' := by
 have hu45 := Tryz.underlying45
 have hu37 := Tryz.underlying37
 have HR2_4 := Aside0.mk hr2_4
 have HC2_4 := Aside0.mk hc2_4
 clear hr2_4 hc2_4
 have HR2_5 := Aside0.mk hr2_5
 have HC2_5 := Aside0.mk hc2_5
 clear hr2_5 hc2_5
 have HB := Aside0.mk (Below.refl w.heap.size w)
 unfold spec_IsAhead.f at H
 replace H := zs H
 obtain ⟨t801, A4, H⟩ := H
 replace H := zs H
 obtain ⟨t802, A5, H⟩ := H
 by_cases c6 : t801 = t802
 rotate_left
 focus
  rw [if_neg c6] at H
  have c6b0 : (t801 == t802) = false := beq_eq_false_iff_ne.mpr c6
  have c6b1 : (t801 != t802) = true := bne_iff_ne.mpr c6
  obtain rfl := Option.some.inj H
 rotate_right
 focus
  rw [if_pos c6] at H
  have c6b0 : (t801 == t802) = true := beq_iff_eq.mpr c6
  have c6b1 : (t801 != t802) = false := bne_eq_false_iff_eq.mpr c6
  clear c6
  by_cases c7 : a0_2 = a1_2
  rotate_left
  focus
   rw [if_neg c7] at H
   have c7b0 : (a0_2 == a1_2) = false := beq_eq_false_iff_ne.mpr c7
   have c7b1 : (a0_2 != a1_2) = true := bne_iff_ne.mpr c7
   obtain rfl := Option.some.inj H
  rotate_right
  focus
   rw [if_pos c7] at H
   have c7b0 : (a0_2 == a1_2) = true := beq_iff_eq.mpr c7
   have c7b1 : (a0_2 != a1_2) = false := bne_eq_false_iff_eq.mpr c7
   clear c7
   obtain rfl := Option.some.inj H
 all_goals
  go_enter Tryz.func21, Tryz.ntmps21
  go_wp2_with (first | ((with_reducible refine zd 3 rfl ?_); refine zbx (w := w) #[.int .i64 a0_0, .int .i64 a0_1, .int .i64 a0_2, .string a0_3] 45 ?_; intro gb798 hg w1000 BK798 hb; have GW798 := zg (w := w) hg; replace HB := zB hb; clear hb hg) | ((with_reducible refine zd 4 rfl ?_); refine zbx (w := w) #[.int .i64 a1_0, .int .i64 a1_1, .int .i64 a1_2, .string a1_3] 45 ?_; intro gb799 hg w1001 BK799 hb; have GW799 := zg (w := w) hg; replace HB := zB hb; have NB798_799 := zn hg BK798; have NB799_798 := zm hg BK798; replace BK798 := zk BK798 hb; clear hb hg) | ((with_reducible refine zd 5 rfl ?_); refine zbx (w := w) #[.int .i64 a2_0, .int .i64 a2_1, .int .i64 a2_2, .string a2_3, .slice A2_4 l2_4.length c2_4, .slice A2_5 l2_5.length c2_5, .int .i64 a2_6, .string a2_7, .int .i64 a2_8, .int .i64 a2_9] 37 ?_; intro gb800 hg w1002 BK800 hb; have GW800 := zg (w := w) hg; replace HB := zB hb; have NB798_800 := zn hg BK798; have NB800_798 := zm hg BK798; replace BK798 := zk BK798 hb; have NB799_800 := zn hg BK799; have NB800_799 := zm hg BK799; replace BK799 := zk BK799 hb; clear hb hg; have hnb11 := NB798_799.out; have hnc11 := NB799_798.out; have hnb12 := NB798_800.out; have hnc12 := NB800_798.out; have ⟨_, _, _, _, _, _, _, _⟩ := cz4 BK798; have hnb14 := NB800_799.out; have hnc14 := NB799_800.out; have ⟨_, _, _, _, _, _, _, _, _, _, _, _, _, _, _, _, _, _, _, _⟩ := cz10 BK800) | ((with_reducible refine zd 11 rfl ?_); refine zgl Tryz.func19 (spec_RightOf.calls k a0_0 a0_1 a0_2 a0_3 a2_0 a2_1 a2_2 a2_3 _ _ l2_4 _ _ l2_5 a2_6 a2_7 a2_8 a2_9 t801 _ (zC HR2_4) HC2_4.out (zC HR2_5) HC2_5.out A4.out) ?_; rintro e w1003 ⟨rfl, hb⟩; refine ⟨_, rfl, ?_⟩; replace BK798 := zk BK798 hb; replace BK799 := zk BK799 hb; replace BK800 := zk BK800 hb; replace HB := zB hb; have ⟨_, _, _, _, _, _, _, _⟩ := cz4 BK799; have ⟨_, _, _, _, _, _, _, _, _, _, _, _, _, _, _, _, _, _, _, _⟩ := cz10 BK800) | ((with_reducible refine zd 14 rfl ?_); refine zgl Tryz.func19 (spec_RightOf.calls k a1_0 a1_1 a1_2 a1_3 a2_0 a2_1 a2_2 a2_3 _ _ l2_4 _ _ l2_5 a2_6 a2_7 a2_8 a2_9 t802 _ (zC HR2_4) HC2_4.out (zC HR2_5) HC2_5.out A5.out) ?_; rintro e w1004 ⟨rfl, hb⟩; refine ⟨_, rfl, ?_⟩; replace BK798 := zk BK798 hb; replace BK799 := zk BK799 hb; replace BK800 := zk BK800 hb; replace HB := zB hb; have ⟨_, _, _, _, _, _, _, _⟩ := cz4 BK798; have ⟨_, _, _, _, _, _, _, _⟩ := cz4 BK799) | ((with_reducible refine zd 5 rfl ?_); refine zbx (w := w) #[.int .i64 a2_0, .int .i64 a2_1, .int .i64 a2_2, .string a2_3, .slice A2_4 l2_4.length c2_4, .slice A2_5 l2_5.length c2_5, .int .i64 a2_6, .string a2_7, .int .i64 a2_8, .int .i64 a2_9] 37 ?_; intro gb800 hg w1002 BK800 hb; have GW800 := zg (w := w) hg; replace HB := zB hb; have NB798_800 := zn hg BK798; have NB800_798 := zm hg BK798; replace BK798 := zk BK798 hb; have NB799_800 := zn hg BK799; have NB800_799 := zm hg BK799; replace BK799 := zk BK799 hb; clear hb hg; have hnb25 := NB798_799.out; have hnc25 := NB799_798.out; have hnb26 := NB798_800.out; have hnc26 := NB800_798.out; have ⟨_, _, _, _, _, _, _, _⟩ := cz4 BK798; have hnb28 := NB800_799.out; have hnc28 := NB799_800.out; have ⟨_, _, _, _, _, _, _, _, _, _, _, _, _, _, _, _, _, _, _, _⟩ := cz10 BK800) | ((with_reducible refine zd 5 rfl ?_); refine zbx (w := w) #[.int .i64 a2_0, .int .i64 a2_1, .int .i64 a2_2, .string a2_3, .slice A2_4 l2_4.length c2_4, .slice A2_5 l2_5.length c2_5, .int .i64 a2_6, .string a2_7, .int .i64 a2_8, .int .i64 a2_9] 37 ?_; intro gb800 hg w1002 BK800 hb; have GW800 := zg (w := w) hg; replace HB := zB hb; have NB798_800 := zn hg BK798; have NB800_798 := zm hg BK798; replace BK798 := zk BK798 hb; have NB799_800 := zn hg BK799; have NB800_799 := zm hg BK799; replace BK799 := zk BK799 hb; clear hb hg; have hnb39 := NB798_799.out; have hnc39 := NB799_798.out; have hnb40 := NB798_800.out; have hnc40 := NB800_798.out; have ⟨_, _, _, _, _, _, _, _⟩ := cz4 BK798; have hnb42 := NB800_799.out; have hnc42 := NB799_800.out; have ⟨_, _, _, _, _, _, _, _, _, _, _, _, _, _, _, _, _, _, _, _⟩ := cz10 BK800) | ((with_reducible refine zd 14 rfl ?_); refine zgl Tryz.func19 (spec_RightOf.calls k a1_0 a1_1 a1_2 a1_3 a2_0 a2_1 a2_2 a2_3 _ _ l2_4 _ _ l2_5 a2_6 a2_7 a2_8 a2_9 t802 _ (zC HR2_4) HC2_4.out (zC HR2_5) HC2_5.out A5.out) ?_; rintro e w1004 ⟨rfl, hb⟩; refine ⟨_, rfl, ?_⟩; replace BK798 := zk BK798 hb; replace BK799 := zk BK799 hb; replace BK800 := zk BK800 hb; replace HB := zB hb))
  go_ret
  exact ⟨er, bel⟩

/-! ### impl_IsAhead: function 22 -/
def impl_IsAhead.f (k : Nat) (a0_0 : Int) (a0_1 : Int) (a0_2 : Int) (a0_3 : ByteArray) (a1_0 : Int) (a1_1 : Int) (a1_2 : Int) (a1_3 : ByteArray) (a2_0 : Int) (a2_1 : Int) (a2_2 : Int) (a2_3 : ByteArray) (l2_4 : List (S89)) (l2_5 : List Int) (a2_6 : Int) (a2_7 : ByteArray) (a2_8 : Int) (a2_9 : Int) : Option (Bool) := (impl_RightOf.f k a0_0 a0_1 a0_2 a0_3 a2_0 a2_1 a2_2 a2_3 l2_4 l2_5 a2_6 a2_7 a2_8 a2_9).bind fun t806 => ((impl_RightOf.f k a1_0 a1_1 a1_2 a1_3 a2_0 a2_1 a2_2 a2_3 l2_4 l2_5 a2_6 a2_7 a2_8 a2_9).bind fun t807 => (if t806 = t807 then (if a0_2 = a1_2 then (some (decide (a0_0 < a1_0))) else (some (decide (a0_2 < a1_2)))) else (some (decide (t806 > t807)))))
def impl_IsAhead.T1 : Bool × List (List Nat × List Nat) := (true, [([], []), ([], []), ([0, 1], [0, 1]), ([], []), ([], []), ([3, 4, 2], [3, 4]), ([2, 5, 0, 1, 2], [2]), ([5, 6, 0, 1, 2, 3, 4, 5, 6], [5])])
theorem impl_IsAhead.tab1 : rtab .any (opsOf Tryz.f22 1) = impl_IsAhead.T1 := by kernel_rfl
set_option maxHeartbeats 8000000 in
set_option maxRecDepth 100000 in
theorem impl_IsAhead.calls (k : Nat) (a0_0 : Int) (a0_1 : Int) (a0_2 : Int) (a0_3 : ByteArray) (a1_0 : Int) (a1_1 : Int) (a1_2 : Int) (a1_3 : ByteArray) (a2_0 : Int) (a2_1 : Int) (a2_2 : Int) (a2_3 : ByteArray) (A2_4 : Option Addr) (c2_4 : Nat) (l2_4 : List (S89)) (A2_5 : Option Addr) (c2_5 : Nat) (l2_5 : List Int) (a2_6 : Int) (a2_7 : ByteArray) (a2_8 : Int) (a2_9 : Int) (r : Bool) (w : World) (hr2_4 : Kd.C k89 w A2_4 l2_4.length l2_4) (hc2_4 : l2_4.length ≤ c2_4) (hr2_5 : Kd.C (Kd.int .i64) w A2_5 l2_5.length l2_5) (hc2_5 : l2_5.length ≤ c2_5) (H : impl_IsAhead.f k a0_0 a0_1 a0_2 a0_3 a1_0 a1_1 a1_2 a1_3 a2_0 a2_1 a2_2 a2_3 l2_4 l2_5 a2_6 a2_7 a2_8 a2_9 = some r) :
  Calls Tryz.prog 22 #[.agg #[.int .i64 a0_0, .int .i64 a0_1, .int .i64 a0_2, .string a0_3], .agg #[.int .i64 a1_0, .int .i64 a1_1, .int .i64 a1_2, .string a1_3], .agg #[.int .i64 a2_0, .int .i64 a2_1, .int .i64 a2_2, .string a2_3, .slice A2_4 l2_4.length c2_4, .slice A2_5 l2_5.length c2_5, .int .i64 a2_6, .string a2_7, .int .i64 a2_8, .int .i64 a2_9]] w fun e w' => e = .returned (.bool r) ∧ Below w.heap.size w w' := by
 have hu45 := Tryz.underlying45
 have hu37 := Tryz.underlying37
 have HR2_4 := Aside0.mk hr2_4
 have HC2_4 := Aside0.mk hc2_4
 clear hr2_4 hc2_4
 have HR2_5 := Aside0.mk hr2_5
 have HC2_5 := Aside0.mk hc2_5
 clear hr2_5 hc2_5
 have HB := Aside0.mk (Below.refl w.heap.size w)
 unfold impl_IsAhead.f at H
 replace H := zs H
 obtain ⟨t806, A4, H⟩ := H
 replace H := zs H
 obtain ⟨t807, A5, H⟩ := H
 by_cases c6 : t806 = t807
 ·
  rw [if_pos c6] at H
  have c6b0 : (t806 == t807) = true := beq_iff_eq.mpr c6
  have c6b1 : (t806 != t807) = false := bne_eq_false_iff_eq.mpr c6
  clear c6
  by_cases c7 : a0_2 = a1_2
  ·
   rw [if_pos c7] at H
   have c7b0 : (a0_2 == a1_2) = true := beq_iff_eq.mpr c7
   have c7b1 : (a0_2 != a1_2) = false := bne_eq_false_iff_eq.mpr c7
   clear c7
   obtain rfl := Option.some.inj H
   go_enter Tryz.func22, Tryz.ntmps22
   try go_wp2_with (first | ((with_reducible refine zd 3 rfl ?_); refine zbx (w := w) #[.int .i64 a0_0, .int .i64 a0_1, .int .i64 a0_2, .string a0_3] 45 ?_; intro gb803 hg w8 BK803 hb; have GW803 := zg (w := w) hg; replace HB := zB hb; clear hb hg) | ((with_reducible refine zd 4 rfl ?_); refine zbx (w := w) #[.int .i64 a1_0, .int .i64 a1_1, .int .i64 a1_2, .string a1_3] 45 ?_; intro gb804 hg w9 BK804 hb; have GW804 := zg (w := w) hg; replace HB := zB hb; have NB803_804 := zn hg BK803; have NB804_803 := zm hg BK803; replace BK803 := zk BK803 hb; clear hb hg) | ((with_reducible refine zd 5 rfl ?_); refine zbx (w := w) #[.int .i64 a2_0, .int .i64 a2_1, .int .i64 a2_2, .string a2_3, .slice A2_4 l2_4.length c2_4, .slice A2_5 l2_5.length c2_5, .int .i64 a2_6, .string a2_7, .int .i64 a2_8, .int .i64 a2_9] 37 ?_; intro gb805 hg w10 BK805 hb; have GW805 := zg (w := w) hg; replace HB := zB hb; have NB803_805 := zn hg BK803; have NB805_803 := zm hg BK803; replace BK803 := zk BK803 hb; have NB804_805 := zn hg BK804; have NB805_804 := zm hg BK804; replace BK804 := zk BK804 hb; clear hb hg))
   replace BK803 := zkd BK803
   replace BK804 := zkd BK804
   replace BK805 := zkd BK805
   replace HB := zBd HB
   refine zst 8 impl_IsAhead.tab1 (zb4 BK803 <| zb10 BK805 <| zb4 BK804 <| zn0) fun hHeld HT_ => ?_
   generalize w10.drew = w11 at BK803 BK804 BK805 HB hHeld ⊢
   repeat (first | refine zs1 ?_ | (refine zcl Tryz.func20 (impl_RightOf.calls k a0_0 a0_1 a0_2 a0_3 a2_0 a2_1 a2_2 a2_3 _ _ l2_4 _ _ l2_5 a2_6 a2_7 a2_8 a2_9 t806 _ (zC HR2_4) HC2_4.out (zC HR2_5) HC2_5.out A4.out) ?_; rintro e w12 ⟨rfl, hb⟩; replace BK803 := zk BK803 hb; replace BK804 := zk BK804 hb; replace BK805 := zk BK805 hb; replace HB := zB hb; refine ⟨_, rfl, zHb hb hHeld, _, znb, fun hHeld => ?_⟩) | (refine zcl Tryz.func20 (impl_RightOf.calls k a1_0 a1_1 a1_2 a1_3 a2_0 a2_1 a2_2 a2_3 _ _ l2_4 _ _ l2_5 a2_6 a2_7 a2_8 a2_9 t807 _ (zC HR2_4) HC2_4.out (zC HR2_5) HC2_5.out A5.out) ?_; rintro e w13 ⟨rfl, hb⟩; replace BK803 := zk BK803 hb; replace BK804 := zk BK804 hb; replace BK805 := zk BK805 hb; replace HB := zB hb; refine ⟨_, rfl, zHb hb hHeld, _, znb, fun hHeld => ?_⟩))
   refine zdn ?_
   have hnb14 := NB803_804.out
   have hnc14 := NB804_803.out
   have hnb15 := NB803_805.out
   have hnc15 := NB805_803.out
   have ⟨_, _, _, _, _, _, _, _⟩ := cz4 BK803
   have hnb17 := NB804_805.out
   have hnc17 := NB805_804.out
   have ⟨_, _, _, _, _, _, _, _⟩ := cz4 BK804
   try go_wp2
   go_ret
   exact ⟨er, bel⟩
  ·
   rw [if_neg c7] at H
   have c7b0 : (a0_2 == a1_2) = false := beq_eq_false_iff_ne.mpr c7
   have c7b1 : (a0_2 != a1_2) = true := bne_iff_ne.mpr c7
   obtain rfl := Option.some.inj H
   go_enter Tryz.func22, Tryz.ntmps22
   try go_wp2_with (first | ((with_reducible refine zd 3 rfl ?_); refine zbx (w := w) #[.int .i64 a0_0, .int .i64 a0_1, .int .i64 a0_2, .string a0_3] 45 ?_; intro gb803 hg w19 BK803 hb; have GW803 := zg (w := w) hg; replace HB := zB hb; clear hb hg) | ((with_reducible refine zd 4 rfl ?_); refine zbx (w := w) #[.int .i64 a1_0, .int .i64 a1_1, .int .i64 a1_2, .string a1_3] 45 ?_; intro gb804 hg w20 BK804 hb; have GW804 := zg (w := w) hg; replace HB := zB hb; have NB803_804 := zn hg BK803; have NB804_803 := zm hg BK803; replace BK803 := zk BK803 hb; clear hb hg) | ((with_reducible refine zd 5 rfl ?_); refine zbx (w := w) #[.int .i64 a2_0, .int .i64 a2_1, .int .i64 a2_2, .string a2_3, .slice A2_4 l2_4.length c2_4, .slice A2_5 l2_5.length c2_5, .int .i64 a2_6, .string a2_7, .int .i64 a2_8, .int .i64 a2_9] 37 ?_; intro gb805 hg w21 BK805 hb; have GW805 := zg (w := w) hg; replace HB := zB hb; have NB803_805 := zn hg BK803; have NB805_803 := zm hg BK803; replace BK803 := zk BK803 hb; have NB804_805 := zn hg BK804; have NB805_804 := zm hg BK804; replace BK804 := zk BK804 hb; clear hb hg))
   replace BK803 := zkd BK803
   replace BK804 := zkd BK804
   replace BK805 := zkd BK805
   replace HB := zBd HB
   refine zst 8 impl_IsAhead.tab1 (zb4 BK803 <| zb10 BK805 <| zb4 BK804 <| zn0) fun hHeld HT_ => ?_
   generalize w21.drew = w22 at BK803 BK804 BK805 HB hHeld ⊢
   repeat (first | refine zs1 ?_ | (refine zcl Tryz.func20 (impl_RightOf.calls k a0_0 a0_1 a0_2 a0_3 a2_0 a2_1 a2_2 a2_3 _ _ l2_4 _ _ l2_5 a2_6 a2_7 a2_8 a2_9 t806 _ (zC HR2_4) HC2_4.out (zC HR2_5) HC2_5.out A4.out) ?_; rintro e w23 ⟨rfl, hb⟩; replace BK803 := zk BK803 hb; replace BK804 := zk BK804 hb; replace BK805 := zk BK805 hb; replace HB := zB hb; refine ⟨_, rfl, zHb hb hHeld, _, znb, fun hHeld => ?_⟩) | (refine zcl Tryz.func20 (impl_RightOf.calls k a1_0 a1_1 a1_2 a1_3 a2_0 a2_1 a2_2 a2_3 _ _ l2_4 _ _ l2_5 a2_6 a2_7 a2_8 a2_9 t807 _ (zC HR2_4) HC2_4.out (zC HR2_5) HC2_5.out A5.out) ?_; rintro e w24 ⟨rfl, hb⟩; replace BK803 := zk BK803 hb; replace BK804 := zk BK804 hb; replace BK805 := zk BK805 hb; replace HB := zB hb; refine ⟨_, rfl, zHb hb hHeld, _, znb, fun hHeld => ?_⟩))
   refine zdn ?_
   have hnb25 := NB803_804.out
   have hnc25 := NB804_803.out
   have hnb26 := NB803_805.out
   have hnc26 := NB805_803.out
   have ⟨_, _, _, _, _, _, _, _⟩ := cz4 BK803
   have hnb28 := NB804_805.out
   have hnc28 := NB805_804.out
   have ⟨_, _, _, _, _, _, _, _⟩ := cz4 BK804
   try go_wp2
   go_ret
   exact ⟨er, bel⟩
 ·
  rw [if_neg c6] at H
  have c6b0 : (t806 == t807) = false := beq_eq_false_iff_ne.mpr c6
  have c6b1 : (t806 != t807) = true := bne_iff_ne.mpr c6
  obtain rfl := Option.some.inj H
  go_enter Tryz.func22, Tryz.ntmps22
  try go_wp2_with (first | ((with_reducible refine zd 3 rfl ?_); refine zbx (w := w) #[.int .i64 a0_0, .int .i64 a0_1, .int .i64 a0_2, .string a0_3] 45 ?_; intro gb803 hg w30 BK803 hb; have GW803 := zg (w := w) hg; replace HB := zB hb; clear hb hg) | ((with_reducible refine zd 4 rfl ?_); refine zbx (w := w) #[.int .i64 a1_0, .int .i64 a1_1, .int .i64 a1_2, .string a1_3] 45 ?_; intro gb804 hg w31 BK804 hb; have GW804 := zg (w := w) hg; replace HB := zB hb; have NB803_804 := zn hg BK803; have NB804_803 := zm hg BK803; replace BK803 := zk BK803 hb; clear hb hg) | ((with_reducible refine zd 5 rfl ?_); refine zbx (w := w) #[.int .i64 a2_0, .int .i64 a2_1, .int .i64 a2_2, .string a2_3, .slice A2_4 l2_4.length c2_4, .slice A2_5 l2_5.length c2_5, .int .i64 a2_6, .string a2_7, .int .i64 a2_8, .int .i64 a2_9] 37 ?_; intro gb805 hg w32 BK805 hb; have GW805 := zg (w := w) hg; replace HB := zB hb; have NB803_805 := zn hg BK803; have NB805_803 := zm hg BK803; replace BK803 := zk BK803 hb; have NB804_805 := zn hg BK804; have NB805_804 := zm hg BK804; replace BK804 := zk BK804 hb; clear hb hg))
  replace BK803 := zkd BK803
  replace BK804 := zkd BK804
  replace BK805 := zkd BK805
  replace HB := zBd HB
  refine zst 8 impl_IsAhead.tab1 (zb4 BK803 <| zb10 BK805 <| zb4 BK804 <| zn0) fun hHeld HT_ => ?_
  generalize w32.drew = w33 at BK803 BK804 BK805 HB hHeld ⊢
  repeat (first | refine zs1 ?_ | (refine zcl Tryz.func20 (impl_RightOf.calls k a0_0 a0_1 a0_2 a0_3 a2_0 a2_1 a2_2 a2_3 _ _ l2_4 _ _ l2_5 a2_6 a2_7 a2_8 a2_9 t806 _ (zC HR2_4) HC2_4.out (zC HR2_5) HC2_5.out A4.out) ?_; rintro e w34 ⟨rfl, hb⟩; replace BK803 := zk BK803 hb; replace BK804 := zk BK804 hb; replace BK805 := zk BK805 hb; replace HB := zB hb; refine ⟨_, rfl, zHb hb hHeld, _, znb, fun hHeld => ?_⟩) | (refine zcl Tryz.func20 (impl_RightOf.calls k a1_0 a1_1 a1_2 a1_3 a2_0 a2_1 a2_2 a2_3 _ _ l2_4 _ _ l2_5 a2_6 a2_7 a2_8 a2_9 t807 _ (zC HR2_4) HC2_4.out (zC HR2_5) HC2_5.out A5.out) ?_; rintro e w35 ⟨rfl, hb⟩; replace BK803 := zk BK803 hb; replace BK804 := zk BK804 hb; replace BK805 := zk BK805 hb; replace HB := zB hb; refine ⟨_, rfl, zHb hb hHeld, _, znb, fun hHeld => ?_⟩))
  refine zdn ?_
  try go_wp2
  go_ret
  exact ⟨er, bel⟩

end Go.Proofs.YtpcdfjcbjbkliaaGreat.E
