import Derived.Test.YtpcdfjcbjbkliaaGreatSq
import Derived.Test.YtpcdfjcbjbkliaaGreatQ0
import Derived.Test.YtpcdfjcbjbkliaaGreatQ3
import Derived.Test.YtpcdfjcbjbkliaaGreatQ13
import Derived.Test.YtpcdfjcbjbkliaaGreatQ21
import Derived.Test.YtpcdfjcbjbkliaaGreatQ22
namespace Go.Proofs.YtpcdfjcbjbkliaaGreat.E
open Go.RowKit Go.Proofs.YtpcdfjcbjbkliaaGreatW.PrintWords Go.Proofs.YtpcdfjcbjbkliaaGreatW.PrintLast Go.Proofs.YtpcdfjcbjbkliaaGreatW.PrintMore
attribute [local go_sem] max2_int min2_int max_two min_two max_three min_three max_four min_four
set_option linter.unusedVariables false
set_option linter.unusedSimpArgs false

/-! ### laws_FnExactIsEntry: function 4 -/
def laws_FnExactIsEntry.f (k : Nat) (a0_0 : Int) (a0_1 : Int) (a0_2 : Int) (a0_3 : ByteArray) (a1_0 : Int) (a1_1 : Int) (a1_2 : Int) (a1_3 : ByteArray) (l1_4 : List (S83)) (l1_5 : List Int) (a1_6 : Int) (a1_7 : ByteArray) (a1_8 : Int) (a1_9 : Int) : Option (Bool) := (laws_szEntry.f a0_0 a0_1 a0_2 a0_3 1048576).bind fun t672 => (if t672 < 0 then (some true) else ((laws_szIssue.f k a1_0 a1_1 a1_2 a1_3 l1_4 l1_5 a1_6 a1_7 a1_8 a1_9 t672).bind fun t673 => (if t673 < 0 then (some true) else ((laws_toEntry.f a0_0 a0_1 a0_2 a0_3).bind fun bt674 => ((laws_toIssue.f k a1_0 a1_1 a1_2 a1_3 l1_4 l1_5 a1_6 a1_7 a1_8 a1_9).bind fun bt678 => ((spec_IsEntry.f k bt674.1 bt674.2.1 bt674.2.2.1 bt674.2.2.2 bt678.1 bt678.2.1 bt678.2.2.1 bt678.2.2.2.1 bt678.2.2.2.2.1 bt678.2.2.2.2.2.1 bt678.2.2.2.2.2.2.1 bt678.2.2.2.2.2.2.2.1 bt678.2.2.2.2.2.2.2.2.1 bt678.2.2.2.2.2.2.2.2.2).bind fun t692 => ((laws_toIssue.f k a1_0 a1_1 a1_2 a1_3 l1_4 l1_5 a1_6 a1_7 a1_8 a1_9).bind fun bt693 => ((laws_toEntry.f a0_0 a0_1 a0_2 a0_3).bind fun bt708 => ((impl_IsEntry.f k bt708.1 bt708.2.1 bt708.2.2.1 bt708.2.2.2 bt693.1 bt693.2.1 bt693.2.2.1 bt693.2.2.2.1 bt693.2.2.2.2.1 bt693.2.2.2.2.2.1 bt693.2.2.2.2.2.2.1 bt693.2.2.2.2.2.2.2.1 bt693.2.2.2.2.2.2.2.2.1 bt693.2.2.2.2.2.2.2.2.2).bind fun t712 => (if (t712 != t692) = true then (some false) else ((laws_toIssue.f k a1_0 a1_1 a1_2 a1_3 l1_4 l1_5 a1_6 a1_7 a1_8 a1_9).bind fun bt713 => ((laws_eqIssue.f k bt693.1 bt693.2.1 bt693.2.2.1 bt693.2.2.2.1 bt693.2.2.2.2.1 bt693.2.2.2.2.2.1 bt693.2.2.2.2.2.2.1 bt693.2.2.2.2.2.2.2.1 bt693.2.2.2.2.2.2.2.2.1 bt693.2.2.2.2.2.2.2.2.2 bt713.1 bt713.2.1 bt713.2.2.1 bt713.2.2.2.1 bt713.2.2.2.2.1 bt713.2.2.2.2.2.1 bt713.2.2.2.2.2.2.1 bt713.2.2.2.2.2.2.2.1 bt713.2.2.2.2.2.2.2.2.1 bt713.2.2.2.2.2.2.2.2.2).bind fun t727 => (if t727 = true then (some true) else (some false))))))))))))))
set_option maxHeartbeats 8000000 in
set_option maxRecDepth 100000 in
theorem laws_FnExactIsEntry.calls (k : Nat) (a0_0 : Int) (a0_1 : Int) (a0_2 : Int) (a0_3 : ByteArray) (a1_0 : Int) (a1_1 : Int) (a1_2 : Int) (a1_3 : ByteArray) (A1_4 : Option Addr) (c1_4 : Nat) (l1_4 : List (S83)) (A1_5 : Option Addr) (c1_5 : Nat) (l1_5 : List Int) (a1_6 : Int) (a1_7 : ByteArray) (a1_8 : Int) (a1_9 : Int) (r : Bool) (w : World) (hr1_4 : Kd.C k83 w A1_4 l1_4.length l1_4) (hc1_4 : l1_4.length ≤ c1_4) (hr1_5 : Kd.C (Kd.int .i64) w A1_5 l1_5.length l1_5) (hc1_5 : l1_5.length ≤ c1_5) (H : laws_FnExactIsEntry.f k a0_0 a0_1 a0_2 a0_3 a1_0 a1_1 a1_2 a1_3 l1_4 l1_5 a1_6 a1_7 a1_8 a1_9 = some r) :
  Calls Tryz.prog 4 #[.agg #[.int .i64 a0_0, .int .i64 a0_1, .int .i64 a0_2, .string a0_3], .agg #[.int .i64 a1_0, .int .i64 a1_1, .int .i64 a1_2, .string a1_3, .slice A1_4 l1_4.length c1_4, .slice A1_5 l1_5.length c1_5, .int .i64 a1_6, .string a1_7, .int .i64 a1_8, .int .i64 a1_9]] w fun e w' => e = .returned (.bool r) ∧ Below w.heap.size w w' := by
 have hu42 := Tryz.underlying42
 have hu29 := Tryz.underlying29
 have hu37 := Tryz.underlying37
 have HR1_4 := Aside0.mk hr1_4
 have HC1_4 := Aside0.mk hc1_4
 clear hr1_4 hc1_4
 have HR1_5 := Aside0.mk hr1_5
 have HC1_5 := Aside0.mk hc1_5
 clear hr1_5 hc1_5
 have HB := Aside0.mk (Below.refl w.heap.size w)
 unfold laws_FnExactIsEntry.f at H
 replace H := zs H
 obtain ⟨t672, A3, H⟩ := H
 replace H := zc H
 rcases H with ⟨c4b0, H⟩ | ⟨c4b0, H⟩
 ·
  obtain rfl := Option.some.inj H
  go_enter Tryz.func4, Tryz.ntmps4
  go_wp2_with (first | ((with_reducible refine zd 2 rfl ?_); refine zbx (w := w) #[.int .i64 a0_0, .int .i64 a0_1, .int .i64 a0_2, .string a0_3] 42 ?_; intro gb670 hg w5 BK670 hb; have GW670 := zg (w := w) hg; replace HB := zB hb; clear hb hg) | ((with_reducible refine zd 3 rfl ?_); refine zbx (w := w) #[.int .i64 a1_0, .int .i64 a1_1, .int .i64 a1_2, .string a1_3, .slice A1_4 l1_4.length c1_4, .slice A1_5 l1_5.length c1_5, .int .i64 a1_6, .string a1_7, .int .i64 a1_8, .int .i64 a1_9] 29 ?_; intro gb671 hg w6 BK671 hb; have GW671 := zg (w := w) hg; replace HB := zB hb; have NB670_671 := zn hg BK670; have NB671_670 := zm hg BK670; replace BK670 := zk BK670 hb; clear hb hg; have hnb7 := NB670_671.out; have hnc7 := NB671_670.out; have ⟨_, _, _, _, _, _, _, _⟩ := cz4 BK670) | ((with_reducible refine zd 11 rfl ?_); refine zgl Tryz.func15 (laws_szEntry.calls a0_0 a0_1 a0_2 a0_3 1048576 t672 _ A3.out) ?_; rintro e w9 ⟨rfl, hb⟩; refine ⟨_, rfl, ?_⟩; replace BK670 := zk BK670 hb; replace BK671 := zk BK671 hb; replace HB := zB hb))
  go_ret
  exact ⟨er, bel⟩
 ·
  replace H := zs H
  obtain ⟨t673, A10, H⟩ := H
  replace H := zc H
  rcases H with ⟨c11b0, H⟩ | ⟨c11b0, H⟩
  ·
   obtain rfl := Option.some.inj H
   go_enter Tryz.func4, Tryz.ntmps4
   go_wp2_with (first | ((with_reducible refine zd 2 rfl ?_); refine zbx (w := w) #[.int .i64 a0_0, .int .i64 a0_1, .int .i64 a0_2, .string a0_3] 42 ?_; intro gb670 hg w12 BK670 hb; have GW670 := zg (w := w) hg; replace HB := zB hb; clear hb hg) | ((with_reducible refine zd 3 rfl ?_); refine zbx (w := w) #[.int .i64 a1_0, .int .i64 a1_1, .int .i64 a1_2, .string a1_3, .slice A1_4 l1_4.length c1_4, .slice A1_5 l1_5.length c1_5, .int .i64 a1_6, .string a1_7, .int .i64 a1_8, .int .i64 a1_9] 29 ?_; intro gb671 hg w13 BK671 hb; have GW671 := zg (w := w) hg; replace HB := zB hb; have NB670_671 := zn hg BK670; have NB671_670 := zm hg BK670; replace BK670 := zk BK670 hb; clear hb hg; have hnb14 := NB670_671.out; have hnc14 := NB671_670.out; have ⟨_, _, _, _, _, _, _, _⟩ := cz4 BK670) | ((with_reducible refine zd 11 rfl ?_); refine zgl Tryz.func15 (laws_szEntry.calls a0_0 a0_1 a0_2 a0_3 1048576 t672 _ A3.out) ?_; rintro e w16 ⟨rfl, hb⟩; refine ⟨_, rfl, ?_⟩; replace BK670 := zk BK670 hb; replace BK671 := zk BK671 hb; replace HB := zB hb; have ⟨_, _, _, _, _, _, _, _, _, _, _, _, _, _, _, _, _, _, _, _⟩ := cz10 BK671) | ((with_reducible refine zd 16 rfl ?_); refine zgl Tryz.func10 (laws_szIssue.calls k a1_0 a1_1 a1_2 a1_3 _ _ l1_4 _ _ l1_5 a1_6 a1_7 a1_8 a1_9 t672 t673 _ (zC HR1_4) HC1_4.out (zC HR1_5) HC1_5.out A10.out) ?_; rintro e w18 ⟨rfl, hb⟩; refine ⟨_, rfl, ?_⟩; replace BK670 := zk BK670 hb; replace BK671 := zk BK671 hb; replace HB := zB hb))
   go_ret
   exact ⟨er, bel⟩
  ·
   replace H := Option.bind_eq_some_iff.mp H
   obtain ⟨⟨t674, t675, t676, t677⟩, A190, H⟩ := H
   have A19 := Aside0.mk A190
   clear A190
   replace H := Option.bind_eq_some_iff.mp H
   obtain ⟨⟨t678, t679, t680, t681, t682, t685, t688, t689, t690, t691⟩, A200, H⟩ := H
   have A20 := Aside0.mk A200
   clear A200
   replace H := zs H
   obtain ⟨t692, A21, H⟩ := H
   replace H := Option.bind_eq_some_iff.mp H
   obtain ⟨⟨t693, t694, t695, t696, t697, t700, t703, t704, t705, t706⟩, A220, H⟩ := H
   have A22 := Aside0.mk A220
   clear A220
   replace H := Option.bind_eq_some_iff.mp H
   obtain ⟨⟨t708, t709, t710, t711⟩, A230, H⟩ := H
   have A23 := Aside0.mk A230
   clear A230
   replace H := zs H
   obtain ⟨t712, A24, H⟩ := H
   by_cases c25 : (t712 != t692) = true
   ·
    rw [if_pos c25] at H
    have c25b0 : (t712 != t692) = true := c25
    (try (have c25b1 : decide (t712 = t692) = false := by simpa using c25))
    (try (have c25b2 : (t712 == t692) = false := by simpa using c25))
    (try (have c25b3 : ¬ (t712 = t692) := by simpa using c25))
    clear c25
    obtain rfl := Option.some.inj H
    go_enter Tryz.func4, Tryz.ntmps4
    try go_wp2_with (first | ((with_reducible refine zd 2 rfl ?_); refine zbx (w := w) #[.int .i64 a0_0, .int .i64 a0_1, .int .i64 a0_2, .string a0_3] 42 ?_; intro gb670 hg w26 BK670 hb; have GW670 := zg (w := w) hg; replace HB := zB hb; clear hb hg) | ((with_reducible refine zd 3 rfl ?_); refine zbx (w := w) #[.int .i64 a1_0, .int .i64 a1_1, .int .i64 a1_2, .string a1_3, .slice A1_4 l1_4.length c1_4, .slice A1_5 l1_5.length c1_5, .int .i64 a1_6, .string a1_7, .int .i64 a1_8, .int .i64 a1_9] 29 ?_; intro gb671 hg w27 BK671 hb; have GW671 := zg (w := w) hg; replace HB := zB hb; have NB670_671 := zn hg BK670; have NB671_670 := zm hg BK670; replace BK670 := zk BK670 hb; clear hb hg; have hnb28 := NB670_671.out; have hnc28 := NB671_670.out; have ⟨_, _, _, _, _, _, _, _⟩ := cz4 BK670) | ((with_reducible refine zd 11 rfl ?_); refine zgl Tryz.func15 (laws_szEntry.calls a0_0 a0_1 a0_2 a0_3 1048576 t672 _ A3.out) ?_; rintro e w30 ⟨rfl, hb⟩; refine ⟨_, rfl, ?_⟩; replace BK670 := zk BK670 hb; replace BK671 := zk BK671 hb; replace HB := zB hb; have ⟨_, _, _, _, _, _, _, _, _, _, _, _, _, _, _, _, _, _, _, _⟩ := cz10 BK671) | ((with_reducible refine zd 16 rfl ?_); refine zgl Tryz.func10 (laws_szIssue.calls k a1_0 a1_1 a1_2 a1_3 _ _ l1_4 _ _ l1_5 a1_6 a1_7 a1_8 a1_9 t672 t673 _ (zC HR1_4) HC1_4.out (zC HR1_5) HC1_5.out A10.out) ?_; rintro e w32 ⟨rfl, hb⟩; refine ⟨_, rfl, ?_⟩; replace BK670 := zk BK670 hb; replace BK671 := zk BK671 hb; replace HB := zB hb))
    replace BK670 := zkd BK670
    replace BK671 := zkd BK671
    replace HB := zBd HB
    refine zst 6 rfl (zb4 BK670 <| zb10 BK671 <| zn0) fun hHeld HT_ => ?_
    generalize w32.drew = w33 at BK670 BK671 HB hHeld ⊢
    repeat (first | refine zs1 ?_ | (refine zcl Tryz.func17 (laws_toEntry.calls a0_0 a0_1 a0_2 a0_3 t674 t675 t676 t677 _ A19.out) ?_; rintro e w34 ⟨rfl, hb⟩; replace BK670 := zk BK670 hb; replace BK671 := zk BK671 hb; replace HB := zB hb; refine ⟨_, rfl, zHb hb hHeld, _, znb, fun hHeld => ?_⟩) | (refine zcl Tryz.func12 (laws_toIssue.calls k a1_0 a1_1 a1_2 a1_3 _ _ l1_4 _ _ l1_5 a1_6 a1_7 a1_8 a1_9 t678 t679 t680 t681 t682 t685 t688 t689 t690 t691 _ (zC HR1_4) HC1_4.out (zC HR1_5) HC1_5.out A20.out) ?_; rintro e w35 ⟨v683, v686, rfl, ho0, ho1, hb⟩; have HO684 := Aside0.mk (Kd.S_lower ho0 bsz); have HO687 := zl2 ho1; replace BK670 := zk BK670 hb; replace BK671 := zk BK671 hb; replace HB := zB hb; obtain ⟨Ao36, co36, eo36⟩ := Kd.S_slice HO684.out; (first | subst eo36 | (injection eo36 with f1_ f2_ f3_; have f4_ := f1_.symm; have f5_ := f3_.symm; clear f1_ f2_ f3_; subst f4_; subst f5_)); obtain ⟨Ao37, co37, eo37⟩ := Kd.R_slice HO687.out; (first | subst eo37 | (injection eo37 with f1_ f2_ f3_; have f4_ := f1_.symm; have f5_ := f3_.symm; clear f1_ f2_ f3_; subst f4_; subst f5_)); refine ⟨_, rfl, zHb hb hHeld, _, znb, fun hHeld => ?_⟩) | (refine zcl Tryz.func16 (spec_IsEntry.calls k t674 t675 t676 t677 t678 t679 t680 t681 _ _ t682 _ _ t685 t688 t689 t690 t691 t692 _ (zCs HO684) ((Kd.S_reads' HO684.out).2.1) (zCr HO687) ((Kd.R_reads' HO687.out).2.1) A21.out) ?_; rintro e w38 ⟨rfl, hb⟩; replace HO684 := zS HO684 hb; replace HO687 := zR HO687 hb; replace BK670 := zk BK670 hb; replace BK671 := zk BK671 hb; replace HB := zB hb; refine ⟨_, rfl, zHb hb hHeld, _, znb, fun hHeld => ?_⟩))
    refine zdn ?_
    have ⟨_, _, _, _, _, _, _, _, _, _, _, _, _, _, _, _, _, _, _, _⟩ := cz10 BK671
    try go_wp2_with (first | ((with_reducible refine zd 25 rfl ?_); refine zgl Tryz.func12 (laws_toIssue.calls k a1_0 a1_1 a1_2 a1_3 _ _ l1_4 _ _ l1_5 a1_6 a1_7 a1_8 a1_9 t693 t694 t695 t696 t697 t700 t703 t704 t705 t706 _ (zC HR1_4) HC1_4.out (zC HR1_5) HC1_5.out A22.out) ?_; rintro e w40 ⟨v698, v701, rfl, ho0, ho1, hb⟩; refine ⟨_, rfl, ?_⟩; have HO699 := Aside0.mk (Kd.S_lower (Kd.S_new' ho0 (Kd.S_lt (ks HO684))) bsz); replace HO684 := Aside0.mk (Kd.S_elder' (ks HO684) (Kd.S_base ho0) hb); have HO702 := Aside0.mk (Kd.R_lower (Kd.R_new' ho1 (Kd.R_lt (kr HO687))) bsz); replace HO687 := Aside0.mk (Kd.R_elder' (kr HO687) (Kd.R_base ho1) hb); replace BK670 := zk BK670 hb; replace BK671 := zk BK671 hb; replace HB := zB hb) | ((with_reducible refine zd 7 rfl ?_); refine zbx (w := w) #[.int .i64 0, .int .i64 0, .int .i64 0, .string (⟨#[]⟩ : ByteArray), .slice none 0 0, .slice none 0 0, .int .i64 0, .string (⟨#[]⟩ : ByteArray), .int .i64 0, .int .i64 0] 37 ?_; intro gb707 hg w41 BK707 hb; replace HO684 := zS HO684 hb; replace HO687 := zR HO687 hb; replace HO699 := zS HO699 hb; replace HO702 := zR HO702 hb; have GW707 := zg (w := w) hg; replace HB := zB hb; have NB670_707 := zn hg BK670; have NB707_670 := zm hg BK670; replace BK670 := zk BK670 hb; have NB671_707 := zn hg BK671; have NB707_671 := zm hg BK671; replace BK671 := zk BK671 hb; clear hb hg; have hnb42 := NB707_670.out; have hnc42 := NB670_707.out; have hnb43 := NB707_671.out; have hnc43 := NB671_707.out; have ⟨_, _, _, _, _, _, _, _, _, _, _, _, _, _, _, _, _, _, _, _⟩ := cz10 BK707; obtain ⟨Ao45, co45, eo45⟩ := Kd.S_slice HO699.out; subst eo45; obtain ⟨Ao46, co46, eo46⟩ := Kd.R_slice HO702.out; subst eo46))
    refine zgw fun w47 hw_ => ?_
    replace HO684 := zSw hw_ HO684 BK707 (fun _ hk => hk.2)
    replace HO687 := zRw hw_ HO687 BK707 (fun _ hk => hk.2)
    replace HO699 := zSw hw_ HO699 BK707 (fun _ hk => hk.2)
    replace HO702 := zRw hw_ HO702 BK707 (fun _ hk => hk.2)
    replace BK670 := zkw hw_ BK670
    replace BK671 := zkw hw_ BK671
    replace BK707 := zkw hw_ BK707
    replace HB := zBw hw_
    clear hw_
    replace HO684 := zSd HO684
    replace HO687 := zRd HO687
    replace HO699 := zSd HO699
    replace HO702 := zRd HO702
    replace BK670 := zkd BK670
    replace BK671 := zkd BK671
    replace BK707 := zkd BK707
    replace HB := zBd HB
    refine zst 5 rfl (zb4 BK670 <| zb10 BK707 <| zn0) fun hHeld HT_ => ?_
    generalize w47.drew = w48 at HO684 HO687 HO699 HO702 BK670 BK671 BK707 HB hHeld ⊢
    repeat (first | refine zs1 ?_ | (refine zcl Tryz.func17 (laws_toEntry.calls a0_0 a0_1 a0_2 a0_3 t708 t709 t710 t711 _ A23.out) ?_; rintro e w49 ⟨rfl, hb⟩; replace HO684 := zS HO684 hb; replace HO687 := zR HO687 hb; replace HO699 := zS HO699 hb; replace HO702 := zR HO702 hb; replace BK670 := zk BK670 hb; replace BK671 := zk BK671 hb; replace BK707 := zk BK707 hb; replace HB := zB hb; refine ⟨_, rfl, zHb hb hHeld, _, znb, fun hHeld => ?_⟩) | (refine zcl Tryz.func18 (impl_IsEntry.calls k t708 t709 t710 t711 t693 t694 t695 t696 _ _ t697 _ _ t700 t703 t704 t705 t706 t712 _ (zCs HO699) ((Kd.S_reads' HO699.out).2.1) (zCr HO702) ((Kd.R_reads' HO702.out).2.1) A24.out) ?_; rintro e w50 ⟨rfl, hb⟩; replace HO684 := zS HO684 hb; replace HO687 := zR HO687 hb; replace HO699 := zS HO699 hb; replace HO702 := zR HO702 hb; replace BK670 := zk BK670 hb; replace BK671 := zk BK671 hb; replace BK707 := zk BK707 hb; replace HB := zB hb; refine ⟨_, rfl, zHb hb hHeld, _, znb, fun hHeld => ?_⟩))
    refine zdn ?_
    try go_wp2
    go_ret
    exact ⟨er, bel⟩
   ·
    rw [if_neg c25] at H
    have c25b0 : (t712 != t692) = false := by simpa using c25
    (try (have c25b1 : decide (t712 = t692) = true := by simpa using c25))
    (try (have c25b2 : (t712 == t692) = true := by simpa using c25))
    clear c25
    replace H := Option.bind_eq_some_iff.mp H
    obtain ⟨⟨t713, t714, t715, t716, t717, t720, t723, t724, t725, t726⟩, A510, H⟩ := H
    have A51 := Aside0.mk A510
    clear A510
    replace H := zs H
    obtain ⟨t727, A52, H⟩ := H
    replace H := zb H
    rcases H with ⟨rfl, H⟩ | ⟨rfl, H⟩
    ·
     obtain rfl := Option.some.inj H
     go_enter Tryz.func4, Tryz.ntmps4
     try go_wp2_with (first | ((with_reducible refine zd 2 rfl ?_); refine zbx (w := w) #[.int .i64 a0_0, .int .i64 a0_1, .int .i64 a0_2, .string a0_3] 42 ?_; intro gb670 hg w54 BK670 hb; have GW670 := zg (w := w) hg; replace HB := zB hb; clear hb hg) | ((with_reducible refine zd 3 rfl ?_); refine zbx (w := w) #[.int .i64 a1_0, .int .i64 a1_1, .int .i64 a1_2, .string a1_3, .slice A1_4 l1_4.length c1_4, .slice A1_5 l1_5.length c1_5, .int .i64 a1_6, .string a1_7, .int .i64 a1_8, .int .i64 a1_9] 29 ?_; intro gb671 hg w55 BK671 hb; have GW671 := zg (w := w) hg; replace HB := zB hb; have NB670_671 := zn hg BK670; have NB671_670 := zm hg BK670; replace BK670 := zk BK670 hb; clear hb hg; have hnb56 := NB670_671.out; have hnc56 := NB671_670.out; have ⟨_, _, _, _, _, _, _, _⟩ := cz4 BK670) | ((with_reducible refine zd 11 rfl ?_); refine zgl Tryz.func15 (laws_szEntry.calls a0_0 a0_1 a0_2 a0_3 1048576 t672 _ A3.out) ?_; rintro e w58 ⟨rfl, hb⟩; refine ⟨_, rfl, ?_⟩; replace BK670 := zk BK670 hb; replace BK671 := zk BK671 hb; replace HB := zB hb; have ⟨_, _, _, _, _, _, _, _, _, _, _, _, _, _, _, _, _, _, _, _⟩ := cz10 BK671) | ((with_reducible refine zd 16 rfl ?_); refine zgl Tryz.func10 (laws_szIssue.calls k a1_0 a1_1 a1_2 a1_3 _ _ l1_4 _ _ l1_5 a1_6 a1_7 a1_8 a1_9 t672 t673 _ (zC HR1_4) HC1_4.out (zC HR1_5) HC1_5.out A10.out) ?_; rintro e w60 ⟨rfl, hb⟩; refine ⟨_, rfl, ?_⟩; replace BK670 := zk BK670 hb; replace BK671 := zk BK671 hb; replace HB := zB hb))
     replace BK670 := zkd BK670
     replace BK671 := zkd BK671
     replace HB := zBd HB
     refine zst 6 rfl (zb4 BK670 <| zb10 BK671 <| zn0) fun hHeld HT_ => ?_
     generalize w60.drew = w61 at BK670 BK671 HB hHeld ⊢
     repeat (first | refine zs1 ?_ | (refine zcl Tryz.func17 (laws_toEntry.calls a0_0 a0_1 a0_2 a0_3 t674 t675 t676 t677 _ A19.out) ?_; rintro e w62 ⟨rfl, hb⟩; replace BK670 := zk BK670 hb; replace BK671 := zk BK671 hb; replace HB := zB hb; refine ⟨_, rfl, zHb hb hHeld, _, znb, fun hHeld => ?_⟩) | (refine zcl Tryz.func12 (laws_toIssue.calls k a1_0 a1_1 a1_2 a1_3 _ _ l1_4 _ _ l1_5 a1_6 a1_7 a1_8 a1_9 t678 t679 t680 t681 t682 t685 t688 t689 t690 t691 _ (zC HR1_4) HC1_4.out (zC HR1_5) HC1_5.out A20.out) ?_; rintro e w63 ⟨v683, v686, rfl, ho0, ho1, hb⟩; have HO684 := Aside0.mk (Kd.S_lower ho0 bsz); have HO687 := zl2 ho1; replace BK670 := zk BK670 hb; replace BK671 := zk BK671 hb; replace HB := zB hb; obtain ⟨Ao64, co64, eo64⟩ := Kd.S_slice HO684.out; (first | subst eo64 | (injection eo64 with f1_ f2_ f3_; have f4_ := f1_.symm; have f5_ := f3_.symm; clear f1_ f2_ f3_; subst f4_; subst f5_)); obtain ⟨Ao65, co65, eo65⟩ := Kd.R_slice HO687.out; (first | subst eo65 | (injection eo65 with f1_ f2_ f3_; have f4_ := f1_.symm; have f5_ := f3_.symm; clear f1_ f2_ f3_; subst f4_; subst f5_)); refine ⟨_, rfl, zHb hb hHeld, _, znb, fun hHeld => ?_⟩) | (refine zcl Tryz.func16 (spec_IsEntry.calls k t674 t675 t676 t677 t678 t679 t680 t681 _ _ t682 _ _ t685 t688 t689 t690 t691 t692 _ (zCs HO684) ((Kd.S_reads' HO684.out).2.1) (zCr HO687) ((Kd.R_reads' HO687.out).2.1) A21.out) ?_; rintro e w66 ⟨rfl, hb⟩; replace HO684 := zS HO684 hb; replace HO687 := zR HO687 hb; replace BK670 := zk BK670 hb; replace BK671 := zk BK671 hb; replace HB := zB hb; refine ⟨_, rfl, zHb hb hHeld, _, znb, fun hHeld => ?_⟩))
     refine zdn ?_
     have ⟨_, _, _, _, _, _, _, _, _, _, _, _, _, _, _, _, _, _, _, _⟩ := cz10 BK671
     try go_wp2_with (first | ((with_reducible refine zd 25 rfl ?_); refine zgl Tryz.func12 (laws_toIssue.calls k a1_0 a1_1 a1_2 a1_3 _ _ l1_4 _ _ l1_5 a1_6 a1_7 a1_8 a1_9 t693 t694 t695 t696 t697 t700 t703 t704 t705 t706 _ (zC HR1_4) HC1_4.out (zC HR1_5) HC1_5.out A22.out) ?_; rintro e w68 ⟨v698, v701, rfl, ho0, ho1, hb⟩; refine ⟨_, rfl, ?_⟩; have HO699 := Aside0.mk (Kd.S_lower (Kd.S_new' ho0 (Kd.S_lt (ks HO684))) bsz); replace HO684 := Aside0.mk (Kd.S_elder' (ks HO684) (Kd.S_base ho0) hb); have HO702 := Aside0.mk (Kd.R_lower (Kd.R_new' ho1 (Kd.R_lt (kr HO687))) bsz); replace HO687 := Aside0.mk (Kd.R_elder' (kr HO687) (Kd.R_base ho1) hb); replace BK670 := zk BK670 hb; replace BK671 := zk BK671 hb; replace HB := zB hb) | ((with_reducible refine zd 7 rfl ?_); refine zbx (w := w) #[.int .i64 0, .int .i64 0, .int .i64 0, .string (⟨#[]⟩ : ByteArray), .slice none 0 0, .slice none 0 0, .int .i64 0, .string (⟨#[]⟩ : ByteArray), .int .i64 0, .int .i64 0] 37 ?_; intro gb707 hg w69 BK707 hb; replace HO684 := zS HO684 hb; replace HO687 := zR HO687 hb; replace HO699 := zS HO699 hb; replace HO702 := zR HO702 hb; have GW707 := zg (w := w) hg; replace HB := zB hb; have NB670_707 := zn hg BK670; have NB707_670 := zm hg BK670; replace BK670 := zk BK670 hb; have NB671_707 := zn hg BK671; have NB707_671 := zm hg BK671; replace BK671 := zk BK671 hb; clear hb hg; have hnb70 := NB707_670.out; have hnc70 := NB670_707.out; have hnb71 := NB707_671.out; have hnc71 := NB671_707.out; have ⟨_, _, _, _, _, _, _, _, _, _, _, _, _, _, _, _, _, _, _, _⟩ := cz10 BK707; obtain ⟨Ao73, co73, eo73⟩ := Kd.S_slice HO699.out; subst eo73; obtain ⟨Ao74, co74, eo74⟩ := Kd.R_slice HO702.out; subst eo74))
     refine zgw fun w75 hw_ => ?_
     replace HO684 := zSw hw_ HO684 BK707 (fun _ hk => hk.2)
     replace HO687 := zRw hw_ HO687 BK707 (fun _ hk => hk.2)
     replace HO699 := zSw hw_ HO699 BK707 (fun _ hk => hk.2)
     replace HO702 := zRw hw_ HO702 BK707 (fun _ hk => hk.2)
     replace BK670 := zkw hw_ BK670
     replace BK671 := zkw hw_ BK671
     replace BK707 := zkw hw_ BK707
     replace HB := zBw hw_
     clear hw_
     replace HO684 := zSd HO684
     replace HO687 := zRd HO687
     replace HO699 := zSd HO699
     replace HO702 := zRd HO702
     replace BK670 := zkd BK670
     replace BK671 := zkd BK671
     replace BK707 := zkd BK707
     replace HB := zBd HB
     refine zst 5 rfl (zb4 BK670 <| zb10 BK707 <| zn0) fun hHeld HT_ => ?_
     generalize w75.drew = w76 at HO684 HO687 HO699 HO702 BK670 BK671 BK707 HB hHeld ⊢
     repeat (first | refine zs1 ?_ | (refine zcl Tryz.func17 (laws_toEntry.calls a0_0 a0_1 a0_2 a0_3 t708 t709 t710 t711 _ A23.out) ?_; rintro e w77 ⟨rfl, hb⟩; replace HO684 := zS HO684 hb; replace HO687 := zR HO687 hb; replace HO699 := zS HO699 hb; replace HO702 := zR HO702 hb; replace BK670 := zk BK670 hb; replace BK671 := zk BK671 hb; replace BK707 := zk BK707 hb; replace HB := zB hb; refine ⟨_, rfl, zHb hb hHeld, _, znb, fun hHeld => ?_⟩) | (refine zcl Tryz.func18 (impl_IsEntry.calls k t708 t709 t710 t711 t693 t694 t695 t696 _ _ t697 _ _ t700 t703 t704 t705 t706 t712 _ (zCs HO699) ((Kd.S_reads' HO699.out).2.1) (zCr HO702) ((Kd.R_reads' HO702.out).2.1) A24.out) ?_; rintro e w78 ⟨rfl, hb⟩; replace HO684 := zS HO684 hb; replace HO687 := zR HO687 hb; replace HO699 := zS HO699 hb; replace HO702 := zR HO702 hb; replace BK670 := zk BK670 hb; replace BK671 := zk BK671 hb; replace BK707 := zk BK707 hb; replace HB := zB hb; refine ⟨_, rfl, zHb hb hHeld, _, znb, fun hHeld => ?_⟩))
     refine zdn ?_
     try go_wp2
     replace HO684 := zSd HO684
     replace HO687 := zRd HO687
     replace HO699 := zSd HO699
     replace HO702 := zRd HO702
     replace BK670 := zkd BK670
     replace BK671 := zkd BK671
     replace BK707 := zkd BK707
     replace HB := zBd HB
     refine zst 5 rfl (zb10 BK707 <| zb10 BK671 <| zn0) fun hHeld HT_ => ?_
     generalize w78.drew = w79 at HO684 HO687 HO699 HO702 BK670 BK671 BK707 HB hHeld ⊢
     repeat (first | refine zs1 ?_ | (refine zcl Tryz.func12 (laws_toIssue.calls k a1_0 a1_1 a1_2 a1_3 _ _ l1_4 _ _ l1_5 a1_6 a1_7 a1_8 a1_9 t713 t714 t715 t716 t717 t720 t723 t724 t725 t726 _ (zC HR1_4) HC1_4.out (zC HR1_5) HC1_5.out A51.out) ?_; rintro e w80 ⟨v718, v721, rfl, ho0, ho1, hb⟩; have HO719 := Aside0.mk (Kd.S_lower (Kd.S_new' (Kd.S_new' ho0 (Kd.S_lt (ks HO684))) (Kd.S_lt (ks HO699))) bsz); replace HO684 := Aside0.mk (Kd.S_elder' (ks HO684) (Kd.S_base ho0) hb); replace HO699 := Aside0.mk (Kd.S_elder' (ks HO699) (Kd.S_base ho0) hb); have HO722 := Aside0.mk (Kd.R_lower (Kd.R_new' (Kd.R_new' ho1 (Kd.R_lt (kr HO687))) (Kd.R_lt (kr HO702))) bsz); replace HO687 := Aside0.mk (Kd.R_elder' (kr HO687) (Kd.R_base ho1) hb); replace HO702 := Aside0.mk (Kd.R_elder' (kr HO702) (Kd.R_base ho1) hb); replace BK670 := zk BK670 hb; replace BK671 := zk BK671 hb; replace BK707 := zk BK707 hb; replace HB := zB hb; obtain ⟨Ao81, co81, eo81⟩ := Kd.S_slice HO719.out; (first | subst eo81 | (injection eo81 with f1_ f2_ f3_; have f4_ := f1_.symm; have f5_ := f3_.symm; clear f1_ f2_ f3_; subst f4_; subst f5_)); obtain ⟨Ao82, co82, eo82⟩ := Kd.R_slice HO722.out; (first | subst eo82 | (injection eo82 with f1_ f2_ f3_; have f4_ := f1_.symm; have f5_ := f3_.symm; clear f1_ f2_ f3_; subst f4_; subst f5_)); refine ⟨_, rfl, zHb hb hHeld, _, znb, fun hHeld => ?_⟩) | (refine zcl Tryz.func14 (laws_eqIssue.calls k t693 t694 t695 t696 _ _ t697 _ _ t700 t703 t704 t705 t706 t713 t714 t715 t716 _ _ t717 _ _ t720 t723 t724 t725 t726 true _ (zCs HO699) ((Kd.S_reads' HO699.out).2.1) (zCr HO702) ((Kd.R_reads' HO702.out).2.1) (zCs HO719) ((Kd.S_reads' HO719.out).2.1) (zCr HO722) ((Kd.R_reads' HO722.out).2.1) A52.out) ?_; rintro e w83 ⟨rfl, hb⟩; replace HO684 := zS HO684 hb; replace HO687 := zR HO687 hb; replace HO699 := zS HO699 hb; replace HO702 := zR HO702 hb; replace HO719 := zS HO719 hb; replace HO722 := zR HO722 hb; replace BK670 := zk BK670 hb; replace BK671 := zk BK671 hb; replace BK707 := zk BK707 hb; replace HB := zB hb; refine ⟨_, rfl, zHb hb hHeld, _, znb, fun hHeld => ?_⟩))
     refine zdn ?_
     try go_wp2
     go_ret
     exact ⟨er, bel⟩
    ·
     obtain rfl := Option.some.inj H
     go_enter Tryz.func4, Tryz.ntmps4
     try go_wp2_with (first | ((with_reducible refine zd 2 rfl ?_); refine zbx (w := w) #[.int .i64 a0_0, .int .i64 a0_1, .int .i64 a0_2, .string a0_3] 42 ?_; intro gb670 hg w84 BK670 hb; have GW670 := zg (w := w) hg; replace HB := zB hb; clear hb hg) | ((with_reducible refine zd 3 rfl ?_); refine zbx (w := w) #[.int .i64 a1_0, .int .i64 a1_1, .int .i64 a1_2, .string a1_3, .slice A1_4 l1_4.length c1_4, .slice A1_5 l1_5.length c1_5, .int .i64 a1_6, .string a1_7, .int .i64 a1_8, .int .i64 a1_9] 29 ?_; intro gb671 hg w85 BK671 hb; have GW671 := zg (w := w) hg; replace HB := zB hb; have NB670_671 := zn hg BK670; have NB671_670 := zm hg BK670; replace BK670 := zk BK670 hb; clear hb hg; have hnb86 := NB670_671.out; have hnc86 := NB671_670.out; have ⟨_, _, _, _, _, _, _, _⟩ := cz4 BK670) | ((with_reducible refine zd 11 rfl ?_); refine zgl Tryz.func15 (laws_szEntry.calls a0_0 a0_1 a0_2 a0_3 1048576 t672 _ A3.out) ?_; rintro e w88 ⟨rfl, hb⟩; refine ⟨_, rfl, ?_⟩; replace BK670 := zk BK670 hb; replace BK671 := zk BK671 hb; replace HB := zB hb; have ⟨_, _, _, _, _, _, _, _, _, _, _, _, _, _, _, _, _, _, _, _⟩ := cz10 BK671) | ((with_reducible refine zd 16 rfl ?_); refine zgl Tryz.func10 (laws_szIssue.calls k a1_0 a1_1 a1_2 a1_3 _ _ l1_4 _ _ l1_5 a1_6 a1_7 a1_8 a1_9 t672 t673 _ (zC HR1_4) HC1_4.out (zC HR1_5) HC1_5.out A10.out) ?_; rintro e w90 ⟨rfl, hb⟩; refine ⟨_, rfl, ?_⟩; replace BK670 := zk BK670 hb; replace BK671 := zk BK671 hb; replace HB := zB hb))
     replace BK670 := zkd BK670
     replace BK671 := zkd BK671
     replace HB := zBd HB
     refine zst 6 rfl (zb4 BK670 <| zb10 BK671 <| zn0) fun hHeld HT_ => ?_
     generalize w90.drew = w91 at BK670 BK671 HB hHeld ⊢
     repeat (first | refine zs1 ?_ | (refine zcl Tryz.func17 (laws_toEntry.calls a0_0 a0_1 a0_2 a0_3 t674 t675 t676 t677 _ A19.out) ?_; rintro e w92 ⟨rfl, hb⟩; replace BK670 := zk BK670 hb; replace BK671 := zk BK671 hb; replace HB := zB hb; refine ⟨_, rfl, zHb hb hHeld, _, znb, fun hHeld => ?_⟩) | (refine zcl Tryz.func12 (laws_toIssue.calls k a1_0 a1_1 a1_2 a1_3 _ _ l1_4 _ _ l1_5 a1_6 a1_7 a1_8 a1_9 t678 t679 t680 t681 t682 t685 t688 t689 t690 t691 _ (zC HR1_4) HC1_4.out (zC HR1_5) HC1_5.out A20.out) ?_; rintro e w93 ⟨v683, v686, rfl, ho0, ho1, hb⟩; have HO684 := Aside0.mk (Kd.S_lower ho0 bsz); have HO687 := zl2 ho1; replace BK670 := zk BK670 hb; replace BK671 := zk BK671 hb; replace HB := zB hb; obtain ⟨Ao94, co94, eo94⟩ := Kd.S_slice HO684.out; (first | subst eo94 | (injection eo94 with f1_ f2_ f3_; have f4_ := f1_.symm; have f5_ := f3_.symm; clear f1_ f2_ f3_; subst f4_; subst f5_)); obtain ⟨Ao95, co95, eo95⟩ := Kd.R_slice HO687.out; (first | subst eo95 | (injection eo95 with f1_ f2_ f3_; have f4_ := f1_.symm; have f5_ := f3_.symm; clear f1_ f2_ f3_; subst f4_; subst f5_)); refine ⟨_, rfl, zHb hb hHeld, _, znb, fun hHeld => ?_⟩) | (refine zcl Tryz.func16 (spec_IsEntry.calls k t674 t675 t676 t677 t678 t679 t680 t681 _ _ t682 _ _ t685 t688 t689 t690 t691 t692 _ (zCs HO684) ((Kd.S_reads' HO684.out).2.1) (zCr HO687) ((Kd.R_reads' HO687.out).2.1) A21.out) ?_; rintro e w96 ⟨rfl, hb⟩; replace HO684 := zS HO684 hb; replace HO687 := zR HO687 hb; replace BK670 := zk BK670 hb; replace BK671 := zk BK671 hb; replace HB := zB hb; refine ⟨_, rfl, zHb hb hHeld, _, znb, fun hHeld => ?_⟩))
     refine zdn ?_
     have ⟨_, _, _, _, _, _, _, _, _, _, _, _, _, _, _, _, _, _, _, _⟩ := cz10 BK671
     try go_wp2_with (first | ((with_reducible refine zd 25 rfl ?_); refine zgl Tryz.func12 (laws_toIssue.calls k a1_0 a1_1 a1_2 a1_3 _ _ l1_4 _ _ l1_5 a1_6 a1_7 a1_8 a1_9 t693 t694 t695 t696 t697 t700 t703 t704 t705 t706 _ (zC HR1_4) HC1_4.out (zC HR1_5) HC1_5.out A22.out) ?_; rintro e w98 ⟨v698, v701, rfl, ho0, ho1, hb⟩; refine ⟨_, rfl, ?_⟩; have HO699 := Aside0.mk (Kd.S_lower (Kd.S_new' ho0 (Kd.S_lt (ks HO684))) bsz); replace HO684 := Aside0.mk (Kd.S_elder' (ks HO684) (Kd.S_base ho0) hb); have HO702 := Aside0.mk (Kd.R_lower (Kd.R_new' ho1 (Kd.R_lt (kr HO687))) bsz); replace HO687 := Aside0.mk (Kd.R_elder' (kr HO687) (Kd.R_base ho1) hb); replace BK670 := zk BK670 hb; replace BK671 := zk BK671 hb; replace HB := zB hb) | ((with_reducible refine zd 7 rfl ?_); refine zbx (w := w) #[.int .i64 0, .int .i64 0, .int .i64 0, .string (⟨#[]⟩ : ByteArray), .slice none 0 0, .slice none 0 0, .int .i64 0, .string (⟨#[]⟩ : ByteArray), .int .i64 0, .int .i64 0] 37 ?_; intro gb707 hg w99 BK707 hb; replace HO684 := zS HO684 hb; replace HO687 := zR HO687 hb; replace HO699 := zS HO699 hb; replace HO702 := zR HO702 hb; have GW707 := zg (w := w) hg; replace HB := zB hb; have NB670_707 := zn hg BK670; have NB707_670 := zm hg BK670; replace BK670 := zk BK670 hb; have NB671_707 := zn hg BK671; have NB707_671 := zm hg BK671; replace BK671 := zk BK671 hb; clear hb hg; have hnb100 := NB707_670.out; have hnc100 := NB670_707.out; have hnb101 := NB707_671.out; have hnc101 := NB671_707.out; have ⟨_, _, _, _, _, _, _, _, _, _, _, _, _, _, _, _, _, _, _, _⟩ := cz10 BK707; obtain ⟨Ao103, co103, eo103⟩ := Kd.S_slice HO699.out; subst eo103; obtain ⟨Ao104, co104, eo104⟩ := Kd.R_slice HO702.out; subst eo104))
     refine zgw fun w105 hw_ => ?_
     replace HO684 := zSw hw_ HO684 BK707 (fun _ hk => hk.2)
     replace HO687 := zRw hw_ HO687 BK707 (fun _ hk => hk.2)
     replace HO699 := zSw hw_ HO699 BK707 (fun _ hk => hk.2)
     replace HO702 := zRw hw_ HO702 BK707 (fun _ hk => hk.2)
     replace BK670 := zkw hw_ BK670
     replace BK671 := zkw hw_ BK671
     replace BK707 := zkw hw_ BK707
     replace HB := zBw hw_
     clear hw_
     replace HO684 := zSd HO684
     replace HO687 := zRd HO687
     replace HO699 := zSd HO699
     replace HO702 := zRd HO702
     replace BK670 := zkd BK670
     replace BK671 := zkd BK671
     replace BK707 := zkd BK707
     replace HB := zBd HB
     refine zst 5 rfl (zb4 BK670 <| zb10 BK707 <| zn0) fun hHeld HT_ => ?_
     generalize w105.drew = w106 at HO684 HO687 HO699 HO702 BK670 BK671 BK707 HB hHeld ⊢
     repeat (first | refine zs1 ?_ | (refine zcl Tryz.func17 (laws_toEntry.calls a0_0 a0_1 a0_2 a0_3 t708 t709 t710 t711 _ A23.out) ?_; rintro e w107 ⟨rfl, hb⟩; replace HO684 := zS HO684 hb; replace HO687 := zR HO687 hb; replace HO699 := zS HO699 hb; replace HO702 := zR HO702 hb; replace BK670 := zk BK670 hb; replace BK671 := zk BK671 hb; replace BK707 := zk BK707 hb; replace HB := zB hb; refine ⟨_, rfl, zHb hb hHeld, _, znb, fun hHeld => ?_⟩) | (refine zcl Tryz.func18 (impl_IsEntry.calls k t708 t709 t710 t711 t693 t694 t695 t696 _ _ t697 _ _ t700 t703 t704 t705 t706 t712 _ (zCs HO699) ((Kd.S_reads' HO699.out).2.1) (zCr HO702) ((Kd.R_reads' HO702.out).2.1) A24.out) ?_; rintro e w108 ⟨rfl, hb⟩; replace HO684 := zS HO684 hb; replace HO687 := zR HO687 hb; replace HO699 := zS HO699 hb; replace HO702 := zR HO702 hb; replace BK670 := zk BK670 hb; replace BK671 := zk BK671 hb; replace BK707 := zk BK707 hb; replace HB := zB hb; refine ⟨_, rfl, zHb hb hHeld, _, znb, fun hHeld => ?_⟩))
     refine zdn ?_
     try go_wp2
     replace HO684 := zSd HO684
     replace HO687 := zRd HO687
     replace HO699 := zSd HO699
     replace HO702 := zRd HO702
     replace BK670 := zkd BK670
     replace BK671 := zkd BK671
     replace BK707 := zkd BK707
     replace HB := zBd HB
     refine zst 5 rfl (zb10 BK707 <| zb10 BK671 <| zn0) fun hHeld HT_ => ?_
     generalize w108.drew = w109 at HO684 HO687 HO699 HO702 BK670 BK671 BK707 HB hHeld ⊢
     repeat (first | refine zs1 ?_ | (refine zcl Tryz.func12 (laws_toIssue.calls k a1_0 a1_1 a1_2 a1_3 _ _ l1_4 _ _ l1_5 a1_6 a1_7 a1_8 a1_9 t713 t714 t715 t716 t717 t720 t723 t724 t725 t726 _ (zC HR1_4) HC1_4.out (zC HR1_5) HC1_5.out A51.out) ?_; rintro e w110 ⟨v718, v721, rfl, ho0, ho1, hb⟩; have HO719 := Aside0.mk (Kd.S_lower (Kd.S_new' (Kd.S_new' ho0 (Kd.S_lt (ks HO684))) (Kd.S_lt (ks HO699))) bsz); replace HO684 := Aside0.mk (Kd.S_elder' (ks HO684) (Kd.S_base ho0) hb); replace HO699 := Aside0.mk (Kd.S_elder' (ks HO699) (Kd.S_base ho0) hb); have HO722 := Aside0.mk (Kd.R_lower (Kd.R_new' (Kd.R_new' ho1 (Kd.R_lt (kr HO687))) (Kd.R_lt (kr HO702))) bsz); replace HO687 := Aside0.mk (Kd.R_elder' (kr HO687) (Kd.R_base ho1) hb); replace HO702 := Aside0.mk (Kd.R_elder' (kr HO702) (Kd.R_base ho1) hb); replace BK670 := zk BK670 hb; replace BK671 := zk BK671 hb; replace BK707 := zk BK707 hb; replace HB := zB hb; obtain ⟨Ao111, co111, eo111⟩ := Kd.S_slice HO719.out; (first | subst eo111 | (injection eo111 with f1_ f2_ f3_; have f4_ := f1_.symm; have f5_ := f3_.symm; clear f1_ f2_ f3_; subst f4_; subst f5_)); obtain ⟨Ao112, co112, eo112⟩ := Kd.R_slice HO722.out; (first | subst eo112 | (injection eo112 with f1_ f2_ f3_; have f4_ := f1_.symm; have f5_ := f3_.symm; clear f1_ f2_ f3_; subst f4_; subst f5_)); refine ⟨_, rfl, zHb hb hHeld, _, znb, fun hHeld => ?_⟩) | (refine zcl Tryz.func14 (laws_eqIssue.calls k t693 t694 t695 t696 _ _ t697 _ _ t700 t703 t704 t705 t706 t713 t714 t715 t716 _ _ t717 _ _ t720 t723 t724 t725 t726 false _ (zCs HO699) ((Kd.S_reads' HO699.out).2.1) (zCr HO702) ((Kd.R_reads' HO702.out).2.1) (zCs HO719) ((Kd.S_reads' HO719.out).2.1) (zCr HO722) ((Kd.R_reads' HO722.out).2.1) A52.out) ?_; rintro e w113 ⟨rfl, hb⟩; replace HO684 := zS HO684 hb; replace HO687 := zR HO687 hb; replace HO699 := zS HO699 hb; replace HO702 := zR HO702 hb; replace HO719 := zS HO719 hb; replace HO722 := zR HO722 hb; replace BK670 := zk BK670 hb; replace BK671 := zk BK671 hb; replace BK707 := zk BK707 hb; replace HB := zB hb; refine ⟨_, rfl, zHb hb hHeld, _, znb, fun hHeld => ?_⟩))
     refine zdn ?_
     try go_wp2
     go_ret
     exact ⟨er, bel⟩

end Go.Proofs.YtpcdfjcbjbkliaaGreat.E
