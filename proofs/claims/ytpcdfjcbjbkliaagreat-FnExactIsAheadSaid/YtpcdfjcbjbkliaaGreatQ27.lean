import Derived.Test.YtpcdfjcbjbkliaaGreatSq
import Derived.Test.YtpcdfjcbjbkliaaGreatQ0
import Derived.Test.YtpcdfjcbjbkliaaGreatQ3
import Derived.Test.YtpcdfjcbjbkliaaGreatQ13
import Derived.Test.YtpcdfjcbjbkliaaGreatQ21
import Derived.Test.YtpcdfjcbjbkliaaGreatQ22
import Derived.Test.YtpcdfjcbjbkliaaGreatQ26
namespace Go.Proofs.YtpcdfjcbjbkliaaGreat.E
open Go.RowKit Go.Proofs.YtpcdfjcbjbkliaaGreatW.PrintWords Go.Proofs.YtpcdfjcbjbkliaaGreatW.PrintLast Go.Proofs.YtpcdfjcbjbkliaaGreatW.PrintMore
attribute [local go_sem] max2_int min2_int max_two min_two max_three min_three max_four min_four
set_option linter.unusedVariables false
set_option linter.unusedSimpArgs false

/-! ### laws_FnExactIsAhead: function 6 -/
def laws_FnExactIsAhead.f (k : Nat) (a0_0 : Int) (a0_1 : Int) (a0_2 : Int) (a0_3 : ByteArray) (a1_0 : Int) (a1_1 : Int) (a1_2 : Int) (a1_3 : ByteArray) (a2_0 : Int) (a2_1 : Int) (a2_2 : Int) (a2_3 : ByteArray) (l2_4 : List (S83)) (l2_5 : List Int) (a2_6 : Int) (a2_7 : ByteArray) (a2_8 : Int) (a2_9 : Int) : Option (Bool) := (laws_szEntry.f a0_0 a0_1 a0_2 a0_3 1048576).bind fun t811 => (if t811 < 0 then (some true) else ((laws_szEntry.f a1_0 a1_1 a1_2 a1_3 t811).bind fun t812 => (if t812 < 0 then (some true) else ((laws_szIssue.f k a2_0 a2_1 a2_2 a2_3 l2_4 l2_5 a2_6 a2_7 a2_8 a2_9 t812).bind fun t813 => (if t813 < 0 then (some true) else ((laws_toEntry.f a0_0 a0_1 a0_2 a0_3).bind fun bt814 => ((laws_toEntry.f a1_0 a1_1 a1_2 a1_3).bind fun bt818 => ((laws_toIssue.f k a2_0 a2_1 a2_2 a2_3 l2_4 l2_5 a2_6 a2_7 a2_8 a2_9).bind fun bt822 => ((spec_IsAhead.f k bt814.1 bt814.2.1 bt814.2.2.1 bt814.2.2.2 bt818.1 bt818.2.1 bt818.2.2.1 bt818.2.2.2 bt822.1 bt822.2.1 bt822.2.2.1 bt822.2.2.2.1 bt822.2.2.2.2.1 bt822.2.2.2.2.2.1 bt822.2.2.2.2.2.2.1 bt822.2.2.2.2.2.2.2.1 bt822.2.2.2.2.2.2.2.2.1 bt822.2.2.2.2.2.2.2.2.2).bind fun t836 => ((laws_toIssue.f k a2_0 a2_1 a2_2 a2_3 l2_4 l2_5 a2_6 a2_7 a2_8 a2_9).bind fun bt837 => ((laws_toEntry.f a0_0 a0_1 a0_2 a0_3).bind fun bt852 => ((laws_toEntry.f a1_0 a1_1 a1_2 a1_3).bind fun bt856 => ((impl_IsAhead.f k bt852.1 bt852.2.1 bt852.2.2.1 bt852.2.2.2 bt856.1 bt856.2.1 bt856.2.2.1 bt856.2.2.2 bt837.1 bt837.2.1 bt837.2.2.1 bt837.2.2.2.1 bt837.2.2.2.2.1 bt837.2.2.2.2.2.1 bt837.2.2.2.2.2.2.1 bt837.2.2.2.2.2.2.2.1 bt837.2.2.2.2.2.2.2.2.1 bt837.2.2.2.2.2.2.2.2.2).bind fun t860 => (if (t860 != t836) = true then (some false) else ((laws_toIssue.f k a2_0 a2_1 a2_2 a2_3 l2_4 l2_5 a2_6 a2_7 a2_8 a2_9).bind fun bt861 => ((laws_eqIssue.f k bt837.1 bt837.2.1 bt837.2.2.1 bt837.2.2.2.1 bt837.2.2.2.2.1 bt837.2.2.2.2.2.1 bt837.2.2.2.2.2.2.1 bt837.2.2.2.2.2.2.2.1 bt837.2.2.2.2.2.2.2.2.1 bt837.2.2.2.2.2.2.2.2.2 bt861.1 bt861.2.1 bt861.2.2.1 bt861.2.2.2.1 bt861.2.2.2.2.1 bt861.2.2.2.2.2.1 bt861.2.2.2.2.2.2.1 bt861.2.2.2.2.2.2.2.1 bt861.2.2.2.2.2.2.2.2.1 bt861.2.2.2.2.2.2.2.2.2).bind fun t875 => (if t875 = true then (some true) else (some false))))))))))))))))))
def laws_FnExactIsAhead.T11 : Bool × List (List Nat × List Nat) := (true, [([], []), ([0], [0]), ([], []), ([2, 1], [2]), ([], []), ([4, 3], [4]), ([1, 3, 5, 5], [1, 3, 5]), ([6, 6, 0, 1, 2, 3, 4, 5, 6], [6])])
theorem laws_FnExactIsAhead.tab11 : rtab .any (opsOf Tryz.f6 11) = laws_FnExactIsAhead.T11 := by kernel_rfl
set_option maxHeartbeats 8000000 in
set_option maxRecDepth 100000 in
theorem laws_FnExactIsAhead.calls (k : Nat) (a0_0 : Int) (a0_1 : Int) (a0_2 : Int) (a0_3 : ByteArray) (a1_0 : Int) (a1_1 : Int) (a1_2 : Int) (a1_3 : ByteArray) (a2_0 : Int) (a2_1 : Int) (a2_2 : Int) (a2_3 : ByteArray) (A2_4 : Option Addr) (c2_4 : Nat) (l2_4 : List (S83)) (A2_5 : Option Addr) (c2_5 : Nat) (l2_5 : List Int) (a2_6 : Int) (a2_7 : ByteArray) (a2_8 : Int) (a2_9 : Int) (r : Bool) (w : World) (hr2_4 : Kd.C k83 w A2_4 l2_4.length l2_4) (hc2_4 : l2_4.length ≤ c2_4) (hr2_5 : Kd.C (Kd.int .i64) w A2_5 l2_5.length l2_5) (hc2_5 : l2_5.length ≤ c2_5) (H : laws_FnExactIsAhead.f k a0_0 a0_1 a0_2 a0_3 a1_0 a1_1 a1_2 a1_3 a2_0 a2_1 a2_2 a2_3 l2_4 l2_5 a2_6 a2_7 a2_8 a2_9 = some r) :
  Calls Tryz.prog 6 #[.agg #[.int .i64 a0_0, .int .i64 a0_1, .int .i64 a0_2, .string a0_3], .agg #[.int .i64 a1_0, .int .i64 a1_1, .int .i64 a1_2, .string a1_3], .agg #[.int .i64 a2_0, .int .i64 a2_1, .int .i64 a2_2, .string a2_3, .slice A2_4 l2_4.length c2_4, .slice A2_5 l2_5.length c2_5, .int .i64 a2_6, .string a2_7, .int .i64 a2_8, .int .i64 a2_9]] w fun e w' => e = .returned (.bool r) ∧ Below w.heap.size w w' := by
 have hu42 := Tryz.underlying42
 have hu29 := Tryz.underlying29
 have hu37 := Tryz.underlying37
 have HR2_4 := Aside0.mk hr2_4
 have HC2_4 := Aside0.mk hc2_4
 clear hr2_4 hc2_4
 have HR2_5 := Aside0.mk hr2_5
 have HC2_5 := Aside0.mk hc2_5
 clear hr2_5 hc2_5
 have HB := Aside0.mk (Below.refl w.heap.size w)
 unfold laws_FnExactIsAhead.f at H
 replace H := zs H
 obtain ⟨t811, A4, H⟩ := H
 replace H := zc H
 rcases H with ⟨c5b0, H⟩ | ⟨c5b0, H⟩
 ·
  obtain rfl := Option.some.inj H
  go_enter Tryz.func6, Tryz.ntmps6
  go_wp2_with (first | ((with_reducible refine zd 3 rfl ?_); refine zbx (w := w) #[.int .i64 a0_0, .int .i64 a0_1, .int .i64 a0_2, .string a0_3] 42 ?_; intro gb808 hg w6 BK808 hb; have GW808 := zg (w := w) hg; replace HB := zB hb; clear hb hg) | ((with_reducible refine zd 4 rfl ?_); refine zbx (w := w) #[.int .i64 a1_0, .int .i64 a1_1, .int .i64 a1_2, .string a1_3] 42 ?_; intro gb809 hg w7 BK809 hb; have GW809 := zg (w := w) hg; replace HB := zB hb; have NB808_809 := zn hg BK808; have NB809_808 := zm hg BK808; replace BK808 := zk BK808 hb; clear hb hg) | ((with_reducible refine zd 5 rfl ?_); refine zbx (w := w) #[.int .i64 a2_0, .int .i64 a2_1, .int .i64 a2_2, .string a2_3, .slice A2_4 l2_4.length c2_4, .slice A2_5 l2_5.length c2_5, .int .i64 a2_6, .string a2_7, .int .i64 a2_8, .int .i64 a2_9] 29 ?_; intro gb810 hg w8 BK810 hb; have GW810 := zg (w := w) hg; replace HB := zB hb; have NB808_810 := zn hg BK808; have NB810_808 := zm hg BK808; replace BK808 := zk BK808 hb; have NB809_810 := zn hg BK809; have NB810_809 := zm hg BK809; replace BK809 := zk BK809 hb; clear hb hg; have hnb9 := NB808_809.out; have hnc9 := NB809_808.out; have hnb10 := NB808_810.out; have hnc10 := NB810_808.out; have ⟨_, _, _, _, _, _, _, _⟩ := cz4 BK808) | ((with_reducible refine zd 13 rfl ?_); refine zgl Tryz.func15 (laws_szEntry.calls a0_0 a0_1 a0_2 a0_3 1048576 t811 _ A4.out) ?_; rintro e w12 ⟨rfl, hb⟩; refine ⟨_, rfl, ?_⟩; replace BK808 := zk BK808 hb; replace BK809 := zk BK809 hb; replace BK810 := zk BK810 hb; replace HB := zB hb))
  go_ret
  exact ⟨er, bel⟩
 ·
  replace H := zs H
  obtain ⟨t812, A13, H⟩ := H
  replace H := zc H
  rcases H with ⟨c14b0, H⟩ | ⟨c14b0, H⟩
  ·
   obtain rfl := Option.some.inj H
   go_enter Tryz.func6, Tryz.ntmps6
   go_wp2_with (first | ((with_reducible refine zd 3 rfl ?_); refine zbx (w := w) #[.int .i64 a0_0, .int .i64 a0_1, .int .i64 a0_2, .string a0_3] 42 ?_; intro gb808 hg w15 BK808 hb; have GW808 := zg (w := w) hg; replace HB := zB hb; clear hb hg) | ((with_reducible refine zd 4 rfl ?_); refine zbx (w := w) #[.int .i64 a1_0, .int .i64 a1_1, .int .i64 a1_2, .string a1_3] 42 ?_; intro gb809 hg w16 BK809 hb; have GW809 := zg (w := w) hg; replace HB := zB hb; have NB808_809 := zn hg BK808; have NB809_808 := zm hg BK808; replace BK808 := zk BK808 hb; clear hb hg) | ((with_reducible refine zd 5 rfl ?_); refine zbx (w := w) #[.int .i64 a2_0, .int .i64 a2_1, .int .i64 a2_2, .string a2_3, .slice A2_4 l2_4.length c2_4, .slice A2_5 l2_5.length c2_5, .int .i64 a2_6, .string a2_7, .int .i64 a2_8, .int .i64 a2_9] 29 ?_; intro gb810 hg w17 BK810 hb; have GW810 := zg (w := w) hg; replace HB := zB hb; have NB808_810 := zn hg BK808; have NB810_808 := zm hg BK808; replace BK808 := zk BK808 hb; have NB809_810 := zn hg BK809; have NB810_809 := zm hg BK809; replace BK809 := zk BK809 hb; clear hb hg; have hnb18 := NB808_809.out; have hnc18 := NB809_808.out; have hnb19 := NB808_810.out; have hnc19 := NB810_808.out; have ⟨_, _, _, _, _, _, _, _⟩ := cz4 BK808) | ((with_reducible refine zd 13 rfl ?_); refine zgl Tryz.func15 (laws_szEntry.calls a0_0 a0_1 a0_2 a0_3 1048576 t811 _ A4.out) ?_; rintro e w21 ⟨rfl, hb⟩; refine ⟨_, rfl, ?_⟩; replace BK808 := zk BK808 hb; replace BK809 := zk BK809 hb; replace BK810 := zk BK810 hb; replace HB := zB hb; have hnb22 := NB809_810.out; have hnc22 := NB810_809.out; have ⟨_, _, _, _, _, _, _, _⟩ := cz4 BK809) | ((with_reducible refine zd 18 rfl ?_); refine zgl Tryz.func15 (laws_szEntry.calls a1_0 a1_1 a1_2 a1_3 t811 t812 _ A13.out) ?_; rintro e w24 ⟨rfl, hb⟩; refine ⟨_, rfl, ?_⟩; replace BK808 := zk BK808 hb; replace BK809 := zk BK809 hb; replace BK810 := zk BK810 hb; replace HB := zB hb))
   go_ret
   exact ⟨er, bel⟩
  ·
   replace H := zs H
   obtain ⟨t813, A25, H⟩ := H
   replace H := zc H
   rcases H with ⟨c26b0, H⟩ | ⟨c26b0, H⟩
   ·
    obtain rfl := Option.some.inj H
    go_enter Tryz.func6, Tryz.ntmps6
    go_wp2_with (first | ((with_reducible refine zd 3 rfl ?_); refine zbx (w := w) #[.int .i64 a0_0, .int .i64 a0_1, .int .i64 a0_2, .string a0_3] 42 ?_; intro gb808 hg w27 BK808 hb; have GW808 := zg (w := w) hg; replace HB := zB hb; clear hb hg) | ((with_reducible refine zd 4 rfl ?_); refine zbx (w := w) #[.int .i64 a1_0, .int .i64 a1_1, .int .i64 a1_2, .string a1_3] 42 ?_; intro gb809 hg w28 BK809 hb; have GW809 := zg (w := w) hg; replace HB := zB hb; have NB808_809 := zn hg BK808; have NB809_808 := zm hg BK808; replace BK808 := zk BK808 hb; clear hb hg) | ((with_reducible refine zd 5 rfl ?_); refine zbx (w := w) #[.int .i64 a2_0, .int .i64 a2_1, .int .i64 a2_2, .string a2_3, .slice A2_4 l2_4.length c2_4, .slice A2_5 l2_5.length c2_5, .int .i64 a2_6, .string a2_7, .int .i64 a2_8, .int .i64 a2_9] 29 ?_; intro gb810 hg w29 BK810 hb; have GW810 := zg (w := w) hg; replace HB := zB hb; have NB808_810 := zn hg BK808; have NB810_808 := zm hg BK808; replace BK808 := zk BK808 hb; have NB809_810 := zn hg BK809; have NB810_809 := zm hg BK809; replace BK809 := zk BK809 hb; clear hb hg; have hnb30 := NB808_809.out; have hnc30 := NB809_808.out; have hnb31 := NB808_810.out; have hnc31 := NB810_808.out; have ⟨_, _, _, _, _, _, _, _⟩ := cz4 BK808) | ((with_reducible refine zd 13 rfl ?_); refine zgl Tryz.func15 (laws_szEntry.calls a0_0 a0_1 a0_2 a0_3 1048576 t811 _ A4.out) ?_; rintro e w33 ⟨rfl, hb⟩; refine ⟨_, rfl, ?_⟩; replace BK808 := zk BK808 hb; replace BK809 := zk BK809 hb; replace BK810 := zk BK810 hb; replace HB := zB hb; have hnb34 := NB809_810.out; have hnc34 := NB810_809.out; have ⟨_, _, _, _, _, _, _, _⟩ := cz4 BK809) | ((with_reducible refine zd 18 rfl ?_); refine zgl Tryz.func15 (laws_szEntry.calls a1_0 a1_1 a1_2 a1_3 t811 t812 _ A13.out) ?_; rintro e w36 ⟨rfl, hb⟩; refine ⟨_, rfl, ?_⟩; replace BK808 := zk BK808 hb; replace BK809 := zk BK809 hb; replace BK810 := zk BK810 hb; replace HB := zB hb; have ⟨_, _, _, _, _, _, _, _, _, _, _, _, _, _, _, _, _, _, _, _⟩ := cz10 BK810) | ((with_reducible refine zd 23 rfl ?_); refine zgl Tryz.func10 (laws_szIssue.calls k a2_0 a2_1 a2_2 a2_3 _ _ l2_4 _ _ l2_5 a2_6 a2_7 a2_8 a2_9 t812 t813 _ (zC HR2_4) HC2_4.out (zC HR2_5) HC2_5.out A25.out) ?_; rintro e w38 ⟨rfl, hb⟩; refine ⟨_, rfl, ?_⟩; replace BK808 := zk BK808 hb; replace BK809 := zk BK809 hb; replace BK810 := zk BK810 hb; replace HB := zB hb))
    go_ret
    exact ⟨er, bel⟩
   ·
    replace H := Option.bind_eq_some_iff.mp H
    obtain ⟨⟨t814, t815, t816, t817⟩, A390, H⟩ := H
    have A39 := Aside0.mk A390
    clear A390
    replace H := Option.bind_eq_some_iff.mp H
    obtain ⟨⟨t818, t819, t820, t821⟩, A400, H⟩ := H
    have A40 := Aside0.mk A400
    clear A400
    replace H := Option.bind_eq_some_iff.mp H
    obtain ⟨⟨t822, t823, t824, t825, t826, t829, t832, t833, t834, t835⟩, A410, H⟩ := H
    have A41 := Aside0.mk A410
    clear A410
    replace H := zs H
    obtain ⟨t836, A42, H⟩ := H
    replace H := Option.bind_eq_some_iff.mp H
    obtain ⟨⟨t837, t838, t839, t840, t841, t844, t847, t848, t849, t850⟩, A430, H⟩ := H
    have A43 := Aside0.mk A430
    clear A430
    replace H := Option.bind_eq_some_iff.mp H
    obtain ⟨⟨t852, t853, t854, t855⟩, A440, H⟩ := H
    have A44 := Aside0.mk A440
    clear A440
    replace H := Option.bind_eq_some_iff.mp H
    obtain ⟨⟨t856, t857, t858, t859⟩, A450, H⟩ := H
    have A45 := Aside0.mk A450
    clear A450
    replace H := zs H
    obtain ⟨t860, A46, H⟩ := H
    by_cases c47 : (t860 != t836) = true
    ·
     rw [if_pos c47] at H
     have c47b0 : (t860 != t836) = true := c47
     (try (have c47b1 : decide (t860 = t836) = false := by simpa using c47))
     (try (have c47b2 : (t860 == t836) = false := by simpa using c47))
     (try (have c47b3 : ¬ (t860 = t836) := by simpa using c47))
     clear c47
     obtain rfl := Option.some.inj H
     go_enter Tryz.func6, Tryz.ntmps6
     try go_wp2_with (first | ((with_reducible refine zd 3 rfl ?_); refine zbx (w := w) #[.int .i64 a0_0, .int .i64 a0_1, .int .i64 a0_2, .string a0_3] 42 ?_; intro gb808 hg w48 BK808 hb; have GW808 := zg (w := w) hg; replace HB := zB hb; clear hb hg) | ((with_reducible refine zd 4 rfl ?_); refine zbx (w := w) #[.int .i64 a1_0, .int .i64 a1_1, .int .i64 a1_2, .string a1_3] 42 ?_; intro gb809 hg w49 BK809 hb; have GW809 := zg (w := w) hg; replace HB := zB hb; have NB808_809 := zn hg BK808; have NB809_808 := zm hg BK808; replace BK808 := zk BK808 hb; clear hb hg) | ((with_reducible refine zd 5 rfl ?_); refine zbx (w := w) #[.int .i64 a2_0, .int .i64 a2_1, .int .i64 a2_2, .string a2_3, .slice A2_4 l2_4.length c2_4, .slice A2_5 l2_5.length c2_5, .int .i64 a2_6, .string a2_7, .int .i64 a2_8, .int .i64 a2_9] 29 ?_; intro gb810 hg w50 BK810 hb; have GW810 := zg (w := w) hg; replace HB := zB hb; have NB808_810 := zn hg BK808; have NB810_808 := zm hg BK808; replace BK808 := zk BK808 hb; have NB809_810 := zn hg BK809; have NB810_809 := zm hg BK809; replace BK809 := zk BK809 hb; clear hb hg; have hnb51 := NB808_809.out; have hnc51 := NB809_808.out; have hnb52 := NB808_810.out; have hnc52 := NB810_808.out; have ⟨_, _, _, _, _, _, _, _⟩ := cz4 BK808) | ((with_reducible refine zd 13 rfl ?_); refine zgl Tryz.func15 (laws_szEntry.calls a0_0 a0_1 a0_2 a0_3 1048576 t811 _ A4.out) ?_; rintro e w54 ⟨rfl, hb⟩; refine ⟨_, rfl, ?_⟩; replace BK808 := zk BK808 hb; replace BK809 := zk BK809 hb; replace BK810 := zk BK810 hb; replace HB := zB hb; have hnb55 := NB809_810.out; have hnc55 := NB810_809.out; have ⟨_, _, _, _, _, _, _, _⟩ := cz4 BK809) | ((with_reducible refine zd 18 rfl ?_); refine zgl Tryz.func15 (laws_szEntry.calls a1_0 a1_1 a1_2 a1_3 t811 t812 _ A13.out) ?_; rintro e w57 ⟨rfl, hb⟩; refine ⟨_, rfl, ?_⟩; replace BK808 := zk BK808 hb; replace BK809 := zk BK809 hb; replace BK810 := zk BK810 hb; replace HB := zB hb; have ⟨_, _, _, _, _, _, _, _, _, _, _, _, _, _, _, _, _, _, _, _⟩ := cz10 BK810) | ((with_reducible refine zd 23 rfl ?_); refine zgl Tryz.func10 (laws_szIssue.calls k a2_0 a2_1 a2_2 a2_3 _ _ l2_4 _ _ l2_5 a2_6 a2_7 a2_8 a2_9 t812 t813 _ (zC HR2_4) HC2_4.out (zC HR2_5) HC2_5.out A25.out) ?_; rintro e w59 ⟨rfl, hb⟩; refine ⟨_, rfl, ?_⟩; replace BK808 := zk BK808 hb; replace BK809 := zk BK809 hb; replace BK810 := zk BK810 hb; replace HB := zB hb))
     replace BK808 := zkd BK808
     replace BK809 := zkd BK809
     replace BK810 := zkd BK810
     replace HB := zBd HB
     refine zst 8 laws_FnExactIsAhead.tab11 (zb4 BK808 <| zb4 BK809 <| zb10 BK810 <| zn0) fun hHeld HT_ => ?_
     generalize w59.drew = w60 at BK808 BK809 BK810 HB hHeld ⊢
     repeat (first | refine zs1 ?_ | (refine zcl Tryz.func17 (laws_toEntry.calls a0_0 a0_1 a0_2 a0_3 t814 t815 t816 t817 _ A39.out) ?_; rintro e w61 ⟨rfl, hb⟩; replace BK808 := zk BK808 hb; replace BK809 := zk BK809 hb; replace BK810 := zk BK810 hb; replace HB := zB hb; refine ⟨_, rfl, zHb hb hHeld, _, znb, fun hHeld => ?_⟩) | (refine zcl Tryz.func17 (laws_toEntry.calls a1_0 a1_1 a1_2 a1_3 t818 t819 t820 t821 _ A40.out) ?_; rintro e w62 ⟨rfl, hb⟩; replace BK808 := zk BK808 hb; replace BK809 := zk BK809 hb; replace BK810 := zk BK810 hb; replace HB := zB hb; refine ⟨_, rfl, zHb hb hHeld, _, znb, fun hHeld => ?_⟩) | (refine zcl Tryz.func12 (laws_toIssue.calls k a2_0 a2_1 a2_2 a2_3 _ _ l2_4 _ _ l2_5 a2_6 a2_7 a2_8 a2_9 t822 t823 t824 t825 t826 t829 t832 t833 t834 t835 _ (zC HR2_4) HC2_4.out (zC HR2_5) HC2_5.out A41.out) ?_; rintro e w63 ⟨v827, v830, rfl, ho0, ho1, hb⟩; have HO828 := Aside0.mk (Kd.S_lower ho0 bsz); have HO831 := zl2 ho1; replace BK808 := zk BK808 hb; replace BK809 := zk BK809 hb; replace BK810 := zk BK810 hb; replace HB := zB hb; obtain ⟨Ao64, co64, eo64⟩ := Kd.S_slice HO828.out; (first | subst eo64 | (injection eo64 with f1_ f2_ f3_; have f4_ := f1_.symm; have f5_ := f3_.symm; clear f1_ f2_ f3_; subst f4_; subst f5_)); obtain ⟨Ao65, co65, eo65⟩ := Kd.R_slice HO831.out; (first | subst eo65 | (injection eo65 with f1_ f2_ f3_; have f4_ := f1_.symm; have f5_ := f3_.symm; clear f1_ f2_ f3_; subst f4_; subst f5_)); refine ⟨_, rfl, zHb hb hHeld, _, znb, fun hHeld => ?_⟩) | (refine zcl Tryz.func21 (spec_IsAhead.calls k t814 t815 t816 t817 t818 t819 t820 t821 t822 t823 t824 t825 _ _ t826 _ _ t829 t832 t833 t834 t835 t836 _ (zCs HO828) ((Kd.S_reads' HO828.out).2.1) (zCr HO831) ((Kd.R_reads' HO831.out).2.1) A42.out) ?_; rintro e w66 ⟨rfl, hb⟩; replace HO828 := zS HO828 hb; replace HO831 := zR HO831 hb; replace BK808 := zk BK808 hb; replace BK809 := zk BK809 hb; replace BK810 := zk BK810 hb; replace HB := zB hb; refine ⟨_, rfl, zHb hb hHeld, _, znb, fun hHeld => ?_⟩))
     refine zdn ?_
     have ⟨_, _, _, _, _, _, _, _, _, _, _, _, _, _, _, _, _, _, _, _⟩ := cz10 BK810
     try go_wp2_with (first | ((with_reducible refine zd 34 rfl ?_); refine zgl Tryz.func12 (laws_toIssue.calls k a2_0 a2_1 a2_2 a2_3 _ _ l2_4 _ _ l2_5 a2_6 a2_7 a2_8 a2_9 t837 t838 t839 t840 t841 t844 t847 t848 t849 t850 _ (zC HR2_4) HC2_4.out (zC HR2_5) HC2_5.out A43.out) ?_; rintro e w68 ⟨v842, v845, rfl, ho0, ho1, hb⟩; refine ⟨_, rfl, ?_⟩; have HO843 := Aside0.mk (Kd.S_lower (Kd.S_new' ho0 (Kd.S_lt (ks HO828))) bsz); replace HO828 := Aside0.mk (Kd.S_elder' (ks HO828) (Kd.S_base ho0) hb); have HO846 := Aside0.mk (Kd.R_lower (Kd.R_new' ho1 (Kd.R_lt (kr HO831))) bsz); replace HO831 := Aside0.mk (Kd.R_elder' (kr HO831) (Kd.R_base ho1) hb); replace BK808 := zk BK808 hb; replace BK809 := zk BK809 hb; replace BK810 := zk BK810 hb; replace HB := zB hb) | ((with_reducible refine zd 9 rfl ?_); refine zbx (w := w) #[.int .i64 0, .int .i64 0, .int .i64 0, .string (⟨#[]⟩ : ByteArray), .slice none 0 0, .slice none 0 0, .int .i64 0, .string (⟨#[]⟩ : ByteArray), .int .i64 0, .int .i64 0] 37 ?_; intro gb851 hg w69 BK851 hb; replace HO828 := zS HO828 hb; replace HO831 := zR HO831 hb; replace HO843 := zS HO843 hb; replace HO846 := zR HO846 hb; have GW851 := zg (w := w) hg; replace HB := zB hb; have NB808_851 := zn hg BK808; have NB851_808 := zm hg BK808; replace BK808 := zk BK808 hb; have NB809_851 := zn hg BK809; have NB851_809 := zm hg BK809; replace BK809 := zk BK809 hb; have NB810_851 := zn hg BK810; have NB851_810 := zm hg BK810; replace BK810 := zk BK810 hb; clear hb hg; have hnb70 := NB851_808.out; have hnc70 := NB808_851.out; have hnb71 := NB851_809.out; have hnc71 := NB809_851.out; have hnb72 := NB851_810.out; have hnc72 := NB810_851.out; have ⟨_, _, _, _, _, _, _, _, _, _, _, _, _, _, _, _, _, _, _, _⟩ := cz10 BK851; obtain ⟨Ao74, co74, eo74⟩ := Kd.S_slice HO843.out; subst eo74; obtain ⟨Ao75, co75, eo75⟩ := Kd.R_slice HO846.out; subst eo75))
     refine zgw fun w76 hw_ => ?_
     replace HO828 := zSw hw_ HO828 BK851 (fun _ hk => hk.2)
     replace HO831 := zRw hw_ HO831 BK851 (fun _ hk => hk.2)
     replace HO843 := zSw hw_ HO843 BK851 (fun _ hk => hk.2)
     replace HO846 := zRw hw_ HO846 BK851 (fun _ hk => hk.2)
     replace BK808 := zkw hw_ BK808
     replace BK809 := zkw hw_ BK809
     replace BK810 := zkw hw_ BK810
     replace BK851 := zkw hw_ BK851
     replace HB := zBw hw_
     clear hw_
     replace HO828 := zSd HO828
     replace HO831 := zRd HO831
     replace HO843 := zSd HO843
     replace HO846 := zRd HO846
     replace BK808 := zkd BK808
     replace BK809 := zkd BK809
     replace BK810 := zkd BK810
     replace BK851 := zkd BK851
     replace HB := zBd HB
     refine zst 7 rfl (zb4 BK808 <| zb4 BK809 <| zb10 BK851 <| zn0) fun hHeld HT_ => ?_
     generalize w76.drew = w77 at HO828 HO831 HO843 HO846 BK808 BK809 BK810 BK851 HB hHeld ⊢
     repeat (first | refine zs1 ?_ | (refine zcl Tryz.func17 (laws_toEntry.calls a0_0 a0_1 a0_2 a0_3 t852 t853 t854 t855 _ A44.out) ?_; rintro e w78 ⟨rfl, hb⟩; replace HO828 := zS HO828 hb; replace HO831 := zR HO831 hb; replace HO843 := zS HO843 hb; replace HO846 := zR HO846 hb; replace BK808 := zk BK808 hb; replace BK809 := zk BK809 hb; replace BK810 := zk BK810 hb; replace BK851 := zk BK851 hb; replace HB := zB hb; refine ⟨_, rfl, zHb hb hHeld, _, znb, fun hHeld => ?_⟩) | (refine zcl Tryz.func17 (laws_toEntry.calls a1_0 a1_1 a1_2 a1_3 t856 t857 t858 t859 _ A45.out) ?_; rintro e w79 ⟨rfl, hb⟩; replace HO828 := zS HO828 hb; replace HO831 := zR HO831 hb; replace HO843 := zS HO843 hb; replace HO846 := zR HO846 hb; replace BK808 := zk BK808 hb; replace BK809 := zk BK809 hb; replace BK810 := zk BK810 hb; replace BK851 := zk BK851 hb; replace HB := zB hb; refine ⟨_, rfl, zHb hb hHeld, _, znb, fun hHeld => ?_⟩) | (refine zcl Tryz.func22 (impl_IsAhead.calls k t852 t853 t854 t855 t856 t857 t858 t859 t837 t838 t839 t840 _ _ t841 _ _ t844 t847 t848 t849 t850 t860 _ (zCs HO843) ((Kd.S_reads' HO843.out).2.1) (zCr HO846) ((Kd.R_reads' HO846.out).2.1) A46.out) ?_; rintro e w80 ⟨rfl, hb⟩; replace HO828 := zS HO828 hb; replace HO831 := zR HO831 hb; replace HO843 := zS HO843 hb; replace HO846 := zR HO846 hb; replace BK808 := zk BK808 hb; replace BK809 := zk BK809 hb; replace BK810 := zk BK810 hb; replace BK851 := zk BK851 hb; replace HB := zB hb; refine ⟨_, rfl, zHb hb hHeld, _, znb, fun hHeld => ?_⟩))
     refine zdn ?_
     try go_wp2
     go_ret
     exact ⟨er, bel⟩
    ·
     rw [if_neg c47] at H
     have c47b0 : (t860 != t836) = false := by simpa using c47
     (try (have c47b1 : decide (t860 = t836) = true := by simpa using c47))
     (try (have c47b2 : (t860 == t836) = true := by simpa using c47))
     clear c47
     replace H := Option.bind_eq_some_iff.mp H
     obtain ⟨⟨t861, t862, t863, t864, t865, t868, t871, t872, t873, t874⟩, A810, H⟩ := H
     have A81 := Aside0.mk A810
     clear A810
     replace H := zs H
     obtain ⟨t875, A82, H⟩ := H
     replace H := zb H
     rcases H with ⟨rfl, H⟩ | ⟨rfl, H⟩
     ·
      obtain rfl := Option.some.inj H
      go_enter Tryz.func6, Tryz.ntmps6
      try go_wp2_with (first | ((with_reducible refine zd 3 rfl ?_); refine zbx (w := w) #[.int .i64 a0_0, .int .i64 a0_1, .int .i64 a0_2, .string a0_3] 42 ?_; intro gb808 hg w84 BK808 hb; have GW808 := zg (w := w) hg; replace HB := zB hb; clear hb hg) | ((with_reducible refine zd 4 rfl ?_); refine zbx (w := w) #[.int .i64 a1_0, .int .i64 a1_1, .int .i64 a1_2, .string a1_3] 42 ?_; intro gb809 hg w85 BK809 hb; have GW809 := zg (w := w) hg; replace HB := zB hb; have NB808_809 := zn hg BK808; have NB809_808 := zm hg BK808; replace BK808 := zk BK808 hb; clear hb hg) | ((with_reducible refine zd 5 rfl ?_); refine zbx (w := w) #[.int .i64 a2_0, .int .i64 a2_1, .int .i64 a2_2, .string a2_3, .slice A2_4 l2_4.length c2_4, .slice A2_5 l2_5.length c2_5, .int .i64 a2_6, .string a2_7, .int .i64 a2_8, .int .i64 a2_9] 29 ?_; intro gb810 hg w86 BK810 hb; have GW810 := zg (w := w) hg; replace HB := zB hb; have NB808_810 := zn hg BK808; have NB810_808 := zm hg BK808; replace BK808 := zk BK808 hb; have NB809_810 := zn hg BK809; have NB810_809 := zm hg BK809; replace BK809 := zk BK809 hb; clear hb hg; have hnb87 := NB808_809.out; have hnc87 := NB809_808.out; have hnb88 := NB808_810.out; have hnc88 := NB810_808.out; have ⟨_, _, _, _, _, _, _, _⟩ := cz4 BK808) | ((with_reducible refine zd 13 rfl ?_); refine zgl Tryz.func15 (laws_szEntry.calls a0_0 a0_1 a0_2 a0_3 1048576 t811 _ A4.out) ?_; rintro e w90 ⟨rfl, hb⟩; refine ⟨_, rfl, ?_⟩; replace BK808 := zk BK808 hb; replace BK809 := zk BK809 hb; replace BK810 := zk BK810 hb; replace HB := zB hb; have hnb91 := NB809_810.out; have hnc91 := NB810_809.out; have ⟨_, _, _, _, _, _, _, _⟩ := cz4 BK809) | ((with_reducible refine zd 18 rfl ?_); refine zgl Tryz.func15 (laws_szEntry.calls a1_0 a1_1 a1_2 a1_3 t811 t812 _ A13.out) ?_; rintro e w93 ⟨rfl, hb⟩; refine ⟨_, rfl, ?_⟩; replace BK808 := zk BK808 hb; replace BK809 := zk BK809 hb; replace BK810 := zk BK810 hb; replace HB := zB hb; have ⟨_, _, _, _, _, _, _, _, _, _, _, _, _, _, _, _, _, _, _, _⟩ := cz10 BK810) | ((with_reducible refine zd 23 rfl ?_); refine zgl Tryz.func10 (laws_szIssue.calls k a2_0 a2_1 a2_2 a2_3 _ _ l2_4 _ _ l2_5 a2_6 a2_7 a2_8 a2_9 t812 t813 _ (zC HR2_4) HC2_4.out (zC HR2_5) HC2_5.out A25.out) ?_; rintro e w95 ⟨rfl, hb⟩; refine ⟨_, rfl, ?_⟩; replace BK808 := zk BK808 hb; replace BK809 := zk BK809 hb; replace BK810 := zk BK810 hb; replace HB := zB hb))
      replace BK808 := zkd BK808
      replace BK809 := zkd BK809
      replace BK810 := zkd BK810
      replace HB := zBd HB
      refine zst 8 laws_FnExactIsAhead.tab11 (zb4 BK808 <| zb4 BK809 <| zb10 BK810 <| zn0) fun hHeld HT_ => ?_
      generalize w95.drew = w96 at BK808 BK809 BK810 HB hHeld ⊢
      repeat (first | refine zs1 ?_ | (refine zcl Tryz.func17 (laws_toEntry.calls a0_0 a0_1 a0_2 a0_3 t814 t815 t816 t817 _ A39.out) ?_; rintro e w97 ⟨rfl, hb⟩; replace BK808 := zk BK808 hb; replace BK809 := zk BK809 hb; replace BK810 := zk BK810 hb; replace HB := zB hb; refine ⟨_, rfl, zHb hb hHeld, _, znb, fun hHeld => ?_⟩) | (refine zcl Tryz.func17 (laws_toEntry.calls a1_0 a1_1 a1_2 a1_3 t818 t819 t820 t821 _ A40.out) ?_; rintro e w98 ⟨rfl, hb⟩; replace BK808 := zk BK808 hb; replace BK809 := zk BK809 hb; replace BK810 := zk BK810 hb; replace HB := zB hb; refine ⟨_, rfl, zHb hb hHeld, _, znb, fun hHeld => ?_⟩) | (refine zcl Tryz.func12 (laws_toIssue.calls k a2_0 a2_1 a2_2 a2_3 _ _ l2_4 _ _ l2_5 a2_6 a2_7 a2_8 a2_9 t822 t823 t824 t825 t826 t829 t832 t833 t834 t835 _ (zC HR2_4) HC2_4.out (zC HR2_5) HC2_5.out A41.out) ?_; rintro e w99 ⟨v827, v830, rfl, ho0, ho1, hb⟩; have HO828 := Aside0.mk (Kd.S_lower ho0 bsz); have HO831 := zl2 ho1; replace BK808 := zk BK808 hb; replace BK809 := zk BK809 hb; replace BK810 := zk BK810 hb; replace HB := zB hb; obtain ⟨Ao100, co100, eo100⟩ := Kd.S_slice HO828.out; (first | subst eo100 | (injection eo100 with f1_ f2_ f3_; have f4_ := f1_.symm; have f5_ := f3_.symm; clear f1_ f2_ f3_; subst f4_; subst f5_)); obtain ⟨Ao101, co101, eo101⟩ := Kd.R_slice HO831.out; (first | subst eo101 | (injection eo101 with f1_ f2_ f3_; have f4_ := f1_.symm; have f5_ := f3_.symm; clear f1_ f2_ f3_; subst f4_; subst f5_)); refine ⟨_, rfl, zHb hb hHeld, _, znb, fun hHeld => ?_⟩) | (refine zcl Tryz.func21 (spec_IsAhead.calls k t814 t815 t816 t817 t818 t819 t820 t821 t822 t823 t824 t825 _ _ t826 _ _ t829 t832 t833 t834 t835 t836 _ (zCs HO828) ((Kd.S_reads' HO828.out).2.1) (zCr HO831) ((Kd.R_reads' HO831.out).2.1) A42.out) ?_; rintro e w102 ⟨rfl, hb⟩; replace HO828 := zS HO828 hb; replace HO831 := zR HO831 hb; replace BK808 := zk BK808 hb; replace BK809 := zk BK809 hb; replace BK810 := zk BK810 hb; replace HB := zB hb; refine ⟨_, rfl, zHb hb hHeld, _, znb, fun hHeld => ?_⟩))
      refine zdn ?_
      have ⟨_, _, _, _, _, _, _, _, _, _, _, _, _, _, _, _, _, _, _, _⟩ := cz10 BK810
      try go_wp2_with (first | ((with_reducible refine zd 34 rfl ?_); refine zgl Tryz.func12 (laws_toIssue.calls k a2_0 a2_1 a2_2 a2_3 _ _ l2_4 _ _ l2_5 a2_6 a2_7 a2_8 a2_9 t837 t838 t839 t840 t841 t844 t847 t848 t849 t850 _ (zC HR2_4) HC2_4.out (zC HR2_5) HC2_5.out A43.out) ?_; rintro e w104 ⟨v842, v845, rfl, ho0, ho1, hb⟩; refine ⟨_, rfl, ?_⟩; have HO843 := Aside0.mk (Kd.S_lower (Kd.S_new' ho0 (Kd.S_lt (ks HO828))) bsz); replace HO828 := Aside0.mk (Kd.S_elder' (ks HO828) (Kd.S_base ho0) hb); have HO846 := Aside0.mk (Kd.R_lower (Kd.R_new' ho1 (Kd.R_lt (kr HO831))) bsz); replace HO831 := Aside0.mk (Kd.R_elder' (kr HO831) (Kd.R_base ho1) hb); replace BK808 := zk BK808 hb; replace BK809 := zk BK809 hb; replace BK810 := zk BK810 hb; replace HB := zB hb) | ((with_reducible refine zd 9 rfl ?_); refine zbx (w := w) #[.int .i64 0, .int .i64 0, .int .i64 0, .string (⟨#[]⟩ : ByteArray), .slice none 0 0, .slice none 0 0, .int .i64 0, .string (⟨#[]⟩ : ByteArray), .int .i64 0, .int .i64 0] 37 ?_; intro gb851 hg w105 BK851 hb; replace HO828 := zS HO828 hb; replace HO831 := zR HO831 hb; replace HO843 := zS HO843 hb; replace HO846 := zR HO846 hb; have GW851 := zg (w := w) hg; replace HB := zB hb; have NB808_851 := zn hg BK808; have NB851_808 := zm hg BK808; replace BK808 := zk BK808 hb; have NB809_851 := zn hg BK809; have NB851_809 := zm hg BK809; replace BK809 := zk BK809 hb; have NB810_851 := zn hg BK810; have NB851_810 := zm hg BK810; replace BK810 := zk BK810 hb; clear hb hg; have hnb106 := NB851_808.out; have hnc106 := NB808_851.out; have hnb107 := NB851_809.out; have hnc107 := NB809_851.out; have hnb108 := NB851_810.out; have hnc108 := NB810_851.out; have ⟨_, _, _, _, _, _, _, _, _, _, _, _, _, _, _, _, _, _, _, _⟩ := cz10 BK851; obtain ⟨Ao110, co110, eo110⟩ := Kd.S_slice HO843.out; subst eo110; obtain ⟨Ao111, co111, eo111⟩ := Kd.R_slice HO846.out; subst eo111))
      refine zgw fun w112 hw_ => ?_
      replace HO828 := zSw hw_ HO828 BK851 (fun _ hk => hk.2)
      replace HO831 := zRw hw_ HO831 BK851 (fun _ hk => hk.2)
      replace HO843 := zSw hw_ HO843 BK851 (fun _ hk => hk.2)
      replace HO846 := zRw hw_ HO846 BK851 (fun _ hk => hk.2)
      replace BK808 := zkw hw_ BK808
      replace BK809 := zkw hw_ BK809
      replace BK810 := zkw hw_ BK810
      replace BK851 := zkw hw_ BK851
      replace HB := zBw hw_
      clear hw_
      replace HO828 := zSd HO828
      replace HO831 := zRd HO831
      replace HO843 := zSd HO843
      replace HO846 := zRd HO846
      replace BK808 := zkd BK808
      replace BK809 := zkd BK809
      replace BK810 := zkd BK810
      replace BK851 := zkd BK851
      replace HB := zBd HB
      refine zst 7 rfl (zb4 BK808 <| zb4 BK809 <| zb10 BK851 <| zn0) fun hHeld HT_ => ?_
      generalize w112.drew = w113 at HO828 HO831 HO843 HO846 BK808 BK809 BK810 BK851 HB hHeld ⊢
      repeat (first | refine zs1 ?_ | (refine zcl Tryz.func17 (laws_toEntry.calls a0_0 a0_1 a0_2 a0_3 t852 t853 t854 t855 _ A44.out) ?_; rintro e w114 ⟨rfl, hb⟩; replace HO828 := zS HO828 hb; replace HO831 := zR HO831 hb; replace HO843 := zS HO843 hb; replace HO846 := zR HO846 hb; replace BK808 := zk BK808 hb; replace BK809 := zk BK809 hb; replace BK810 := zk BK810 hb; replace BK851 := zk BK851 hb; replace HB := zB hb; refine ⟨_, rfl, zHb hb hHeld, _, znb, fun hHeld => ?_⟩) | (refine zcl Tryz.func17 (laws_toEntry.calls a1_0 a1_1 a1_2 a1_3 t856 t857 t858 t859 _ A45.out) ?_; rintro e w115 ⟨rfl, hb⟩; replace HO828 := zS HO828 hb; replace HO831 := zR HO831 hb; replace HO843 := zS HO843 hb; replace HO846 := zR HO846 hb; replace BK808 := zk BK808 hb; replace BK809 := zk BK809 hb; replace BK810 := zk BK810 hb; replace BK851 := zk BK851 hb; replace HB := zB hb; refine ⟨_, rfl, zHb hb hHeld, _, znb, fun hHeld => ?_⟩) | (refine zcl Tryz.func22 (impl_IsAhead.calls k t852 t853 t854 t855 t856 t857 t858 t859 t837 t838 t839 t840 _ _ t841 _ _ t844 t847 t848 t849 t850 t860 _ (zCs HO843) ((Kd.S_reads' HO843.out).2.1) (zCr HO846) ((Kd.R_reads' HO846.out).2.1) A46.out) ?_; rintro e w116 ⟨rfl, hb⟩; replace HO828 := zS HO828 hb; replace HO831 := zR HO831 hb; replace HO843 := zS HO843 hb; replace HO846 := zR HO846 hb; replace BK808 := zk BK808 hb; replace BK809 := zk BK809 hb; replace BK810 := zk BK810 hb; replace BK851 := zk BK851 hb; replace HB := zB hb; refine ⟨_, rfl, zHb hb hHeld, _, znb, fun hHeld => ?_⟩))
      refine zdn ?_
      try go_wp2
      replace HO828 := zSd HO828
      replace HO831 := zRd HO831
      replace HO843 := zSd HO843
      replace HO846 := zRd HO846
      replace BK808 := zkd BK808
      replace BK809 := zkd BK809
      replace BK810 := zkd BK810
      replace BK851 := zkd BK851
      replace HB := zBd HB
      refine zst 5 rfl (zb10 BK851 <| zb10 BK810 <| zn0) fun hHeld HT_ => ?_
      generalize w116.drew = w117 at HO828 HO831 HO843 HO846 BK808 BK809 BK810 BK851 HB hHeld ⊢
      repeat (first | refine zs1 ?_ | (refine zcl Tryz.func12 (laws_toIssue.calls k a2_0 a2_1 a2_2 a2_3 _ _ l2_4 _ _ l2_5 a2_6 a2_7 a2_8 a2_9 t861 t862 t863 t864 t865 t868 t871 t872 t873 t874 _ (zC HR2_4) HC2_4.out (zC HR2_5) HC2_5.out A81.out) ?_; rintro e w118 ⟨v866, v869, rfl, ho0, ho1, hb⟩; have HO867 := Aside0.mk (Kd.S_lower (Kd.S_new' (Kd.S_new' ho0 (Kd.S_lt (ks HO828))) (Kd.S_lt (ks HO843))) bsz); replace HO828 := Aside0.mk (Kd.S_elder' (ks HO828) (Kd.S_base ho0) hb); replace HO843 := Aside0.mk (Kd.S_elder' (ks HO843) (Kd.S_base ho0) hb); have HO870 := Aside0.mk (Kd.R_lower (Kd.R_new' (Kd.R_new' ho1 (Kd.R_lt (kr HO831))) (Kd.R_lt (kr HO846))) bsz); replace HO831 := Aside0.mk (Kd.R_elder' (kr HO831) (Kd.R_base ho1) hb); replace HO846 := Aside0.mk (Kd.R_elder' (kr HO846) (Kd.R_base ho1) hb); replace BK808 := zk BK808 hb; replace BK809 := zk BK809 hb; replace BK810 := zk BK810 hb; replace BK851 := zk BK851 hb; replace HB := zB hb; obtain ⟨Ao119, co119, eo119⟩ := Kd.S_slice HO867.out; (first | subst eo119 | (injection eo119 with f1_ f2_ f3_; have f4_ := f1_.symm; have f5_ := f3_.symm; clear f1_ f2_ f3_; subst f4_; subst f5_)); obtain ⟨Ao120, co120, eo120⟩ := Kd.R_slice HO870.out; (first | subst eo120 | (injection eo120 with f1_ f2_ f3_; have f4_ := f1_.symm; have f5_ := f3_.symm; clear f1_ f2_ f3_; subst f4_; subst f5_)); refine ⟨_, rfl, zHb hb hHeld, _, znb, fun hHeld => ?_⟩) | (refine zcl Tryz.func14 (laws_eqIssue.calls k t837 t838 t839 t840 _ _ t841 _ _ t844 t847 t848 t849 t850 t861 t862 t863 t864 _ _ t865 _ _ t868 t871 t872 t873 t874 true _ (zCs HO843) ((Kd.S_reads' HO843.out).2.1) (zCr HO846) ((Kd.R_reads' HO846.out).2.1) (zCs HO867) ((Kd.S_reads' HO867.out).2.1) (zCr HO870) ((Kd.R_reads' HO870.out).2.1) A82.out) ?_; rintro e w121 ⟨rfl, hb⟩; replace HO828 := zS HO828 hb; replace HO831 := zR HO831 hb; replace HO843 := zS HO843 hb; replace HO846 := zR HO846 hb; replace HO867 := zS HO867 hb; replace HO870 := zR HO870 hb; replace BK808 := zk BK808 hb; replace BK809 := zk BK809 hb; replace BK810 := zk BK810 hb; replace BK851 := zk BK851 hb; replace HB := zB hb; refine ⟨_, rfl, zHb hb hHeld, _, znb, fun hHeld => ?_⟩))
      refine zdn ?_
      try go_wp2
      go_ret
      exact ⟨er, bel⟩
     ·
      obtain rfl := Option.some.inj H
      go_enter Tryz.func6, Tryz.ntmps6
      try go_wp2_with (first | ((with_reducible refine zd 3 rfl ?_); refine zbx (w := w) #[.int .i64 a0_0, .int .i64 a0_1, .int .i64 a0_2, .string a0_3] 42 ?_; intro gb808 hg w122 BK808 hb; have GW808 := zg (w := w) hg; replace HB := zB hb; clear hb hg) | ((with_reducible refine zd 4 rfl ?_); refine zbx (w := w) #[.int .i64 a1_0, .int .i64 a1_1, .int .i64 a1_2, .string a1_3] 42 ?_; intro gb809 hg w123 BK809 hb; have GW809 := zg (w := w) hg; replace HB := zB hb; have NB808_809 := zn hg BK808; have NB809_808 := zm hg BK808; replace BK808 := zk BK808 hb; clear hb hg) | ((with_reducible refine zd 5 rfl ?_); refine zbx (w := w) #[.int .i64 a2_0, .int .i64 a2_1, .int .i64 a2_2, .string a2_3, .slice A2_4 l2_4.length c2_4, .slice A2_5 l2_5.length c2_5, .int .i64 a2_6, .string a2_7, .int .i64 a2_8, .int .i64 a2_9] 29 ?_; intro gb810 hg w124 BK810 hb; have GW810 := zg (w := w) hg; replace HB := zB hb; have NB808_810 := zn hg BK808; have NB810_808 := zm hg BK808; replace BK808 := zk BK808 hb; have NB809_810 := zn hg BK809; have NB810_809 := zm hg BK809; replace BK809 := zk BK809 hb; clear hb hg; have hnb125 := NB808_809.out; have hnc125 := NB809_808.out; have hnb126 := NB808_810.out; have hnc126 := NB810_808.out; have ⟨_, _, _, _, _, _, _, _⟩ := cz4 BK808) | ((with_reducible refine zd 13 rfl ?_); refine zgl Tryz.func15 (laws_szEntry.calls a0_0 a0_1 a0_2 a0_3 1048576 t811 _ A4.out) ?_; rintro e w128 ⟨rfl, hb⟩; refine ⟨_, rfl, ?_⟩; replace BK808 := zk BK808 hb; replace BK809 := zk BK809 hb; replace BK810 := zk BK810 hb; replace HB := zB hb; have hnb129 := NB809_810.out; have hnc129 := NB810_809.out; have ⟨_, _, _, _, _, _, _, _⟩ := cz4 BK809) | ((with_reducible refine zd 18 rfl ?_); refine zgl Tryz.func15 (laws_szEntry.calls a1_0 a1_1 a1_2 a1_3 t811 t812 _ A13.out) ?_; rintro e w131 ⟨rfl, hb⟩; refine ⟨_, rfl, ?_⟩; replace BK808 := zk BK808 hb; replace BK809 := zk BK809 hb; replace BK810 := zk BK810 hb; replace HB := zB hb; have ⟨_, _, _, _, _, _, _, _, _, _, _, _, _, _, _, _, _, _, _, _⟩ := cz10 BK810) | ((with_reducible refine zd 23 rfl ?_); refine zgl Tryz.func10 (laws_szIssue.calls k a2_0 a2_1 a2_2 a2_3 _ _ l2_4 _ _ l2_5 a2_6 a2_7 a2_8 a2_9 t812 t813 _ (zC HR2_4) HC2_4.out (zC HR2_5) HC2_5.out A25.out) ?_; rintro e w133 ⟨rfl, hb⟩; refine ⟨_, rfl, ?_⟩; replace BK808 := zk BK808 hb; replace BK809 := zk BK809 hb; replace BK810 := zk BK810 hb; replace HB := zB hb))
      replace BK808 := zkd BK808
      replace BK809 := zkd BK809
      replace BK810 := zkd BK810
      replace HB := zBd HB
      refine zst 8 laws_FnExactIsAhead.tab11 (zb4 BK808 <| zb4 BK809 <| zb10 BK810 <| zn0) fun hHeld HT_ => ?_
      generalize w133.drew = w134 at BK808 BK809 BK810 HB hHeld ⊢
      repeat (first | refine zs1 ?_ | (refine zcl Tryz.func17 (laws_toEntry.calls a0_0 a0_1 a0_2 a0_3 t814 t815 t816 t817 _ A39.out) ?_; rintro e w135 ⟨rfl, hb⟩; replace BK808 := zk BK808 hb; replace BK809 := zk BK809 hb; replace BK810 := zk BK810 hb; replace HB := zB hb; refine ⟨_, rfl, zHb hb hHeld, _, znb, fun hHeld => ?_⟩) | (refine zcl Tryz.func17 (laws_toEntry.calls a1_0 a1_1 a1_2 a1_3 t818 t819 t820 t821 _ A40.out) ?_; rintro e w136 ⟨rfl, hb⟩; replace BK808 := zk BK808 hb; replace BK809 := zk BK809 hb; replace BK810 := zk BK810 hb; replace HB := zB hb; refine ⟨_, rfl, zHb hb hHeld, _, znb, fun hHeld => ?_⟩) | (refine zcl Tryz.func12 (laws_toIssue.calls k a2_0 a2_1 a2_2 a2_3 _ _ l2_4 _ _ l2_5 a2_6 a2_7 a2_8 a2_9 t822 t823 t824 t825 t826 t829 t832 t833 t834 t835 _ (zC HR2_4) HC2_4.out (zC HR2_5) HC2_5.out A41.out) ?_; rintro e w137 ⟨v827, v830, rfl, ho0, ho1, hb⟩; have HO828 := Aside0.mk (Kd.S_lower ho0 bsz); have HO831 := zl2 ho1; replace BK808 := zk BK808 hb; replace BK809 := zk BK809 hb; replace BK810 := zk BK810 hb; replace HB := zB hb; obtain ⟨Ao138, co138, eo138⟩ := Kd.S_slice HO828.out; (first | subst eo138 | (injection eo138 with f1_ f2_ f3_; have f4_ := f1_.symm; have f5_ := f3_.symm; clear f1_ f2_ f3_; subst f4_; subst f5_)); obtain ⟨Ao139, co139, eo139⟩ := Kd.R_slice HO831.out; (first | subst eo139 | (injection eo139 with f1_ f2_ f3_; have f4_ := f1_.symm; have f5_ := f3_.symm; clear f1_ f2_ f3_; subst f4_; subst f5_)); refine ⟨_, rfl, zHb hb hHeld, _, znb, fun hHeld => ?_⟩) | (refine zcl Tryz.func21 (spec_IsAhead.calls k t814 t815 t816 t817 t818 t819 t820 t821 t822 t823 t824 t825 _ _ t826 _ _ t829 t832 t833 t834 t835 t836 _ (zCs HO828) ((Kd.S_reads' HO828.out).2.1) (zCr HO831) ((Kd.R_reads' HO831.out).2.1) A42.out) ?_; rintro e w140 ⟨rfl, hb⟩; replace HO828 := zS HO828 hb; replace HO831 := zR HO831 hb; replace BK808 := zk BK808 hb; replace BK809 := zk BK809 hb; replace BK810 := zk BK810 hb; replace HB := zB hb; refine ⟨_, rfl, zHb hb hHeld, _, znb, fun hHeld => ?_⟩))
      refine zdn ?_
      have ⟨_, _, _, _, _, _, _, _, _, _, _, _, _, _, _, _, _, _, _, _⟩ := cz10 BK810
      try go_wp2_with (first | ((with_reducible refine zd 34 rfl ?_); refine zgl Tryz.func12 (laws_toIssue.calls k a2_0 a2_1 a2_2 a2_3 _ _ l2_4 _ _ l2_5 a2_6 a2_7 a2_8 a2_9 t837 t838 t839 t840 t841 t844 t847 t848 t849 t850 _ (zC HR2_4) HC2_4.out (zC HR2_5) HC2_5.out A43.out) ?_; rintro e w142 ⟨v842, v845, rfl, ho0, ho1, hb⟩; refine ⟨_, rfl, ?_⟩; have HO843 := Aside0.mk (Kd.S_lower (Kd.S_new' ho0 (Kd.S_lt (ks HO828))) bsz); replace HO828 := Aside0.mk (Kd.S_elder' (ks HO828) (Kd.S_base ho0) hb); have HO846 := Aside0.mk (Kd.R_lower (Kd.R_new' ho1 (Kd.R_lt (kr HO831))) bsz); replace HO831 := Aside0.mk (Kd.R_elder' (kr HO831) (Kd.R_base ho1) hb); replace BK808 := zk BK808 hb; replace BK809 := zk BK809 hb; replace BK810 := zk BK810 hb; replace HB := zB hb) | ((with_reducible refine zd 9 rfl ?_); refine zbx (w := w) #[.int .i64 0, .int .i64 0, .int .i64 0, .string (⟨#[]⟩ : ByteArray), .slice none 0 0, .slice none 0 0, .int .i64 0, .string (⟨#[]⟩ : ByteArray), .int .i64 0, .int .i64 0] 37 ?_; intro gb851 hg w143 BK851 hb; replace HO828 := zS HO828 hb; replace HO831 := zR HO831 hb; replace HO843 := zS HO843 hb; replace HO846 := zR HO846 hb; have GW851 := zg (w := w) hg; replace HB := zB hb; have NB808_851 := zn hg BK808; have NB851_808 := zm hg BK808; replace BK808 := zk BK808 hb; have NB809_851 := zn hg BK809; have NB851_809 := zm hg BK809; replace BK809 := zk BK809 hb; have NB810_851 := zn hg BK810; have NB851_810 := zm hg BK810; replace BK810 := zk BK810 hb; clear hb hg; have hnb144 := NB851_808.out; have hnc144 := NB808_851.out; have hnb145 := NB851_809.out; have hnc145 := NB809_851.out; have hnb146 := NB851_810.out; have hnc146 := NB810_851.out; have ⟨_, _, _, _, _, _, _, _, _, _, _, _, _, _, _, _, _, _, _, _⟩ := cz10 BK851; obtain ⟨Ao148, co148, eo148⟩ := Kd.S_slice HO843.out; subst eo148; obtain ⟨Ao149, co149, eo149⟩ := Kd.R_slice HO846.out; subst eo149))
      refine zgw fun w150 hw_ => ?_
      replace HO828 := zSw hw_ HO828 BK851 (fun _ hk => hk.2)
      replace HO831 := zRw hw_ HO831 BK851 (fun _ hk => hk.2)
      replace HO843 := zSw hw_ HO843 BK851 (fun _ hk => hk.2)
      replace HO846 := zRw hw_ HO846 BK851 (fun _ hk => hk.2)
      replace BK808 := zkw hw_ BK808
      replace BK809 := zkw hw_ BK809
      replace BK810 := zkw hw_ BK810
      replace BK851 := zkw hw_ BK851
      replace HB := zBw hw_
      clear hw_
      replace HO828 := zSd HO828
      replace HO831 := zRd HO831
      replace HO843 := zSd HO843
      replace HO846 := zRd HO846
      replace BK808 := zkd BK808
      replace BK809 := zkd BK809
      replace BK810 := zkd BK810
      replace BK851 := zkd BK851
      replace HB := zBd HB
      refine zst 7 rfl (zb4 BK808 <| zb4 BK809 <| zb10 BK851 <| zn0) fun hHeld HT_ => ?_
      generalize w150.drew = w151 at HO828 HO831 HO843 HO846 BK808 BK809 BK810 BK851 HB hHeld ⊢
      repeat (first | refine zs1 ?_ | (refine zcl Tryz.func17 (laws_toEntry.calls a0_0 a0_1 a0_2 a0_3 t852 t853 t854 t855 _ A44.out) ?_; rintro e w152 ⟨rfl, hb⟩; replace HO828 := zS HO828 hb; replace HO831 := zR HO831 hb; replace HO843 := zS HO843 hb; replace HO846 := zR HO846 hb; replace BK808 := zk BK808 hb; replace BK809 := zk BK809 hb; replace BK810 := zk BK810 hb; replace BK851 := zk BK851 hb; replace HB := zB hb; refine ⟨_, rfl, zHb hb hHeld, _, znb, fun hHeld => ?_⟩) | (refine zcl Tryz.func17 (laws_toEntry.calls a1_0 a1_1 a1_2 a1_3 t856 t857 t858 t859 _ A45.out) ?_; rintro e w153 ⟨rfl, hb⟩; replace HO828 := zS HO828 hb; replace HO831 := zR HO831 hb; replace HO843 := zS HO843 hb; replace HO846 := zR HO846 hb; replace BK808 := zk BK808 hb; replace BK809 := zk BK809 hb; replace BK810 := zk BK810 hb; replace BK851 := zk BK851 hb; replace HB := zB hb; refine ⟨_, rfl, zHb hb hHeld, _, znb, fun hHeld => ?_⟩) | (refine zcl Tryz.func22 (impl_IsAhead.calls k t852 t853 t854 t855 t856 t857 t858 t859 t837 t838 t839 t840 _ _ t841 _ _ t844 t847 t848 t849 t850 t860 _ (zCs HO843) ((Kd.S_reads' HO843.out).2.1) (zCr HO846) ((Kd.R_reads' HO846.out).2.1) A46.out) ?_; rintro e w154 ⟨rfl, hb⟩; replace HO828 := zS HO828 hb; replace HO831 := zR HO831 hb; replace HO843 := zS HO843 hb; replace HO846 := zR HO846 hb; replace BK808 := zk BK808 hb; replace BK809 := zk BK809 hb; replace BK810 := zk BK810 hb; replace BK851 := zk BK851 hb; replace HB := zB hb; refine ⟨_, rfl, zHb hb hHeld, _, znb, fun hHeld => ?_⟩))
      refine zdn ?_
      try go_wp2
      replace HO828 := zSd HO828
      replace HO831 := zRd HO831
      replace HO843 := zSd HO843
      replace HO846 := zRd HO846
      replace BK808 := zkd BK808
      replace BK809 := zkd BK809
      replace BK810 := zkd BK810
      replace BK851 := zkd BK851
      replace HB := zBd HB
      refine zst 5 rfl (zb10 BK851 <| zb10 BK810 <| zn0) fun hHeld HT_ => ?_
      generalize w154.drew = w155 at HO828 HO831 HO843 HO846 BK808 BK809 BK810 BK851 HB hHeld ⊢
      repeat (first | refine zs1 ?_ | (refine zcl Tryz.func12 (laws_toIssue.calls k a2_0 a2_1 a2_2 a2_3 _ _ l2_4 _ _ l2_5 a2_6 a2_7 a2_8 a2_9 t861 t862 t863 t864 t865 t868 t871 t872 t873 t874 _ (zC HR2_4) HC2_4.out (zC HR2_5) HC2_5.out A81.out) ?_; rintro e w156 ⟨v866, v869, rfl, ho0, ho1, hb⟩; have HO867 := Aside0.mk (Kd.S_lower (Kd.S_new' (Kd.S_new' ho0 (Kd.S_lt (ks HO828))) (Kd.S_lt (ks HO843))) bsz); replace HO828 := Aside0.mk (Kd.S_elder' (ks HO828) (Kd.S_base ho0) hb); replace HO843 := Aside0.mk (Kd.S_elder' (ks HO843) (Kd.S_base ho0) hb); have HO870 := Aside0.mk (Kd.R_lower (Kd.R_new' (Kd.R_new' ho1 (Kd.R_lt (kr HO831))) (Kd.R_lt (kr HO846))) bsz); replace HO831 := Aside0.mk (Kd.R_elder' (kr HO831) (Kd.R_base ho1) hb); replace HO846 := Aside0.mk (Kd.R_elder' (kr HO846) (Kd.R_base ho1) hb); replace BK808 := zk BK808 hb; replace BK809 := zk BK809 hb; replace BK810 := zk BK810 hb; replace BK851 := zk BK851 hb; replace HB := zB hb; obtain ⟨Ao157, co157, eo157⟩ := Kd.S_slice HO867.out; (first | subst eo157 | (injection eo157 with f1_ f2_ f3_; have f4_ := f1_.symm; have f5_ := f3_.symm; clear f1_ f2_ f3_; subst f4_; subst f5_)); obtain ⟨Ao158, co158, eo158⟩ := Kd.R_slice HO870.out; (first | subst eo158 | (injection eo158 with f1_ f2_ f3_; have f4_ := f1_.symm; have f5_ := f3_.symm; clear f1_ f2_ f3_; subst f4_; subst f5_)); refine ⟨_, rfl, zHb hb hHeld, _, znb, fun hHeld => ?_⟩) | (refine zcl Tryz.func14 (laws_eqIssue.calls k t837 t838 t839 t840 _ _ t841 _ _ t844 t847 t848 t849 t850 t861 t862 t863 t864 _ _ t865 _ _ t868 t871 t872 t873 t874 false _ (zCs HO843) ((Kd.S_reads' HO843.out).2.1) (zCr HO846) ((Kd.R_reads' HO846.out).2.1) (zCs HO867) ((Kd.S_reads' HO867.out).2.1) (zCr HO870) ((Kd.R_reads' HO870.out).2.1) A82.out) ?_; rintro e w159 ⟨rfl, hb⟩; replace HO828 := zS HO828 hb; replace HO831 := zR HO831 hb; replace HO843 := zS HO843 hb; replace HO846 := zR HO846 hb; replace HO867 := zS HO867 hb; replace HO870 := zR HO870 hb; replace BK808 := zk BK808 hb; replace BK809 := zk BK809 hb; replace BK810 := zk BK810 hb; replace BK851 := zk BK851 hb; replace HB := zB hb; refine ⟨_, rfl, zHb hb hHeld, _, znb, fun hHeld => ?_⟩))
      refine zdn ?_
      try go_wp2
      go_ret
      exact ⟨er, bel⟩

end Go.Proofs.YtpcdfjcbjbkliaaGreat.E
