import Derived.Test.YtpcdfjcbjbkliaaGreatSq
import Derived.Test.YtpcdfjcbjbkliaaGreatQ0
import Derived.Test.YtpcdfjcbjbkliaaGreatQ3
import Derived.Test.YtpcdfjcbjbkliaaGreatQ13
import Derived.Test.YtpcdfjcbjbkliaaGreatQ21
import Derived.Test.YtpcdfjcbjbkliaaGreatQ22
import Derived.Test.YtpcdfjcbjbkliaaGreatQ24
namespace Go.Proofs.YtpcdfjcbjbkliaaGreat.E
open Go.RowKit Go.Proofs.YtpcdfjcbjbkliaaGreatW.PrintWords Go.Proofs.YtpcdfjcbjbkliaaGreatW.PrintLast Go.Proofs.YtpcdfjcbjbkliaaGreatW.PrintMore
attribute [local go_sem] max2_int min2_int max_two min_two max_three min_three max_four min_four
set_option linter.unusedVariables false
set_option linter.unusedSimpArgs false

/-! ### laws_FnExactRightOf: function 5 -/
def laws_FnExactRightOf.f (k : Nat) (a0_0 : Int) (a0_1 : Int) (a0_2 : Int) (a0_3 : ByteArray) (a1_0 : Int) (a1_1 : Int) (a1_2 : Int) (a1_3 : ByteArray) (l1_4 : List (S83)) (l1_5 : List Int) (a1_6 : Int) (a1_7 : ByteArray) (a1_8 : Int) (a1_9 : Int) : Option (Bool) := (laws_szEntry.f a0_0 a0_1 a0_2 a0_3 1048576).bind fun t742 => (if t742 < 0 then (some true) else ((laws_szIssue.f k a1_0 a1_1 a1_2 a1_3 l1_4 l1_5 a1_6 a1_7 a1_8 a1_9 t742).bind fun t743 => (if t743 < 0 then (some true) else ((laws_toEntry.f a0_0 a0_1 a0_2 a0_3).bind fun bt744 => ((laws_toIssue.f k a1_0 a1_1 a1_2 a1_3 l1_4 l1_5 a1_6 a1_7 a1_8 a1_9).bind fun bt748 => ((spec_RightOf.f k bt744.1 bt744.2.1 bt744.2.2.1 bt744.2.2.2 bt748.1 bt748.2.1 bt748.2.2.1 bt748.2.2.2.1 bt748.2.2.2.2.1 bt748.2.2.2.2.2.1 bt748.2.2.2.2.2.2.1 bt748.2.2.2.2.2.2.2.1 bt748.2.2.2.2.2.2.2.2.1 bt748.2.2.2.2.2.2.2.2.2).bind fun t762 => ((laws_toIssue.f k a1_0 a1_1 a1_2 a1_3 l1_4 l1_5 a1_6 a1_7 a1_8 a1_9).bind fun bt763 => ((laws_toEntry.f a0_0 a0_1 a0_2 a0_3).bind fun bt778 => ((impl_RightOf.f k bt778.1 bt778.2.1 bt778.2.2.1 bt778.2.2.2 bt763.1 bt763.2.1 bt763.2.2.1 bt763.2.2.2.1 bt763.2.2.2.2.1 bt763.2.2.2.2.2.1 bt763.2.2.2.2.2.2.1 bt763.2.2.2.2.2.2.2.1 bt763.2.2.2.2.2.2.2.2.1 bt763.2.2.2.2.2.2.2.2.2).bind fun t782 => (if t782 = t762 then ((laws_toIssue.f k a1_0 a1_1 a1_2 a1_3 l1_4 l1_5 a1_6 a1_7 a1_8 a1_9).bind fun bt783 => ((laws_eqIssue.f k bt763.1 bt763.2.1 bt763.2.2.1 bt763.2.2.2.1 bt763.2.2.2.2.1 bt763.2.2.2.2.2.1 bt763.2.2.2.2.2.2.1 bt763.2.2.2.2.2.2.2.1 bt763.2.2.2.2.2.2.2.2.1 bt763.2.2.2.2.2.2.2.2.2 bt783.1 bt783.2.1 bt783.2.2.1 bt783.2.2.2.1 bt783.2.2.2.2.1 bt783.2.2.2.2.2.1 bt783.2.2.2.2.2.2.1 bt783.2.2.2.2.2.2.2.1 bt783.2.2.2.2.2.2.2.2.1 bt783.2.2.2.2.2.2.2.2.2).bind fun t797 => (if t797 = true then (some true) else (some false)))) else (some false)))))))))))
set_option maxHeartbeats 8000000 in
set_option maxRecDepth 100000 in
theorem laws_FnExactRightOf.calls (k : Nat) (a0_0 : Int) (a0_1 : Int) (a0_2 : Int) (a0_3 : ByteArray) (a1_0 : Int) (a1_1 : Int) (a1_2 : Int) (a1_3 : ByteArray) (A1_4 : Option Addr) (c1_4 : Nat) (l1_4 : List (S83)) (A1_5 : Option Addr) (c1_5 : Nat) (l1_5 : List Int) (a1_6 : Int) (a1_7 : ByteArray) (a1_8 : Int) (a1_9 : Int) (r : Bool) (w : World) (hr1_4 : Kd.C k83 w A1_4 l1_4.length l1_4) (hc1_4 : l1_4.length ≤ c1_4) (hr1_5 : Kd.C (Kd.int .i64) w A1_5 l1_5.length l1_5) (hc1_5 : l1_5.length ≤ c1_5) (H : laws_FnExactRightOf.f k a0_0 a0_1 a0_2 a0_3 a1_0 a1_1 a1_2 a1_3 l1_4 l1_5 a1_6 a1_7 a1_8 a1_9 = some r) :
  Calls Tryz.prog 5 #[.agg #[.int .i64 a0_0, .int .i64 a0_1, .int .i64 a0_2, .string a0_3], .agg #[.int .i64 a1_0, .int .i64 a1_1, .int .i64 a1_2, .string a1_3, .slice A1_4 l1_4.length c1_4, .slice A1_5 l1_5.length c1_5, .int .i64 a1_6, .string a1_7, .int .i64 a1_8, .int .i64 a1_9]] w fun e w' => e = .returned (.bool r) ∧ Below w.heap.size w w' := by
 have hu42 := Tryz.underlying42
 have hu29 := Tryz.underlying29
 have hu37 := Tryz.underlying37
 have HR1_4 := Aside0.mk hr1_4
 have HC1_4 := Aside0.mk hc1_4
 clear hr1_4 hc1_4
 have HR1_5 := Aside0.mk hr1_5
 have HC1_5 := Aside0.mk hc1_5
 clear hr1_5 hc1_5
 have HB := Aside0.mk (Below.refl w.heap.size w)
 unfold laws_FnExactRightOf.f at H
 replace H := zs H
 obtain ⟨t742, A3, H⟩ := H
 replace H := zc H
 rcases H with ⟨c4b0, H⟩ | ⟨c4b0, H⟩
 ·
  obtain rfl := Option.some.inj H
  go_enter Tryz.func5, Tryz.ntmps5
  go_wp2_with (first | ((with_reducible refine zd 2 rfl ?_); refine zbx (w := w) #[.int .i64 a0_0, .int .i64 a0_1, .int .i64 a0_2, .string a0_3] 42 ?_; intro gb740 hg w5 BK740 hb; have GW740 := zg (w := w) hg; replace HB := zB hb; clear hb hg) | ((with_reducible refine zd 3 rfl ?_); refine zbx (w := w) #[.int .i64 a1_0, .int .i64 a1_1, .int .i64 a1_2, .string a1_3, .slice A1_4 l1_4.length c1_4, .slice A1_5 l1_5.length c1_5, .int .i64 a1_6, .string a1_7, .int .i64 a1_8, .int .i64 a1_9] 29 ?_; intro gb741 hg w6 BK741 hb; have GW741 := zg (w := w) hg; replace HB := zB hb; have NB740_741 := zn hg BK740; have NB741_740 := zm hg BK740; replace BK740 := zk BK740 hb; clear hb hg; have hnb7 := NB740_741.out; have hnc7 := NB741_740.out; have ⟨_, _, _, _, _, _, _, _⟩ := cz4 BK740) | ((with_reducible refine zd 11 rfl ?_); refine zgl Tryz.func15 (laws_szEntry.calls a0_0 a0_1 a0_2 a0_3 1048576 t742 _ A3.out) ?_; rintro e w9 ⟨rfl, hb⟩; refine ⟨_, rfl, ?_⟩; replace BK740 := zk BK740 hb; replace BK741 := zk BK741 hb; replace HB := zB hb))
  go_ret
  exact ⟨er, bel⟩
 ·
  replace H := zs H
  obtain ⟨t743, A10, H⟩ := H
  replace H := zc H
  rcases H with ⟨c11b0, H⟩ | ⟨c11b0, H⟩
  ·
   obtain rfl := Option.some.inj H
   go_enter Tryz.func5, Tryz.ntmps5
   go_wp2_with (first | ((with_reducible refine zd 2 rfl ?_); refine zbx (w := w) #[.int .i64 a0_0, .int .i64 a0_1, .int .i64 a0_2, .string a0_3] 42 ?_; intro gb740 hg w12 BK740 hb; have GW740 := zg (w := w) hg; replace HB := zB hb; clear hb hg) | ((with_reducible refine zd 3 rfl ?_); refine zbx (w := w) #[.int .i64 a1_0, .int .i64 a1_1, .int .i64 a1_2, .string a1_3, .slice A1_4 l1_4.length c1_4, .slice A1_5 l1_5.length c1_5, .int .i64 a1_6, .string a1_7, .int .i64 a1_8, .int .i64 a1_9] 29 ?_; intro gb741 hg w13 BK741 hb; have GW741 := zg (w := w) hg; replace HB := zB hb; have NB740_741 := zn hg BK740; have NB741_740 := zm hg BK740; replace BK740 := zk BK740 hb; clear hb hg; have hnb14 := NB740_741.out; have hnc14 := NB741_740.out; have ⟨_, _, _, _, _, _, _, _⟩ := cz4 BK740) | ((with_reducible refine zd 11 rfl ?_); refine zgl Tryz.func15 (laws_szEntry.calls a0_0 a0_1 a0_2 a0_3 1048576 t742 _ A3.out) ?_; rintro e w16 ⟨rfl, hb⟩; refine ⟨_, rfl, ?_⟩; replace BK740 := zk BK740 hb; replace BK741 := zk BK741 hb; replace HB := zB hb; have ⟨_, _, _, _, _, _, _, _, _, _, _, _, _, _, _, _, _, _, _, _⟩ := cz10 BK741) | ((with_reducible refine zd 16 rfl ?_); refine zgl Tryz.func10 (laws_szIssue.calls k a1_0 a1_1 a1_2 a1_3 _ _ l1_4 _ _ l1_5 a1_6 a1_7 a1_8 a1_9 t742 t743 _ (zC HR1_4) HC1_4.out (zC HR1_5) HC1_5.out A10.out) ?_; rintro e w18 ⟨rfl, hb⟩; refine ⟨_, rfl, ?_⟩; replace BK740 := zk BK740 hb; replace BK741 := zk BK741 hb; replace HB := zB hb))
   go_ret
   exact ⟨er, bel⟩
  ·
   replace H := Option.bind_eq_some_iff.mp H
   obtain ⟨⟨t744, t745, t746, t747⟩, A190, H⟩ := H
   have A19 := Aside0.mk A190
   clear A190
   replace H := Option.bind_eq_some_iff.mp H
   obtain ⟨⟨t748, t749, t750, t751, t752, t755, t758, t759, t760, t761⟩, A200, H⟩ := H
   have A20 := Aside0.mk A200
   clear A200
   replace H := zs H
   obtain ⟨t762, A21, H⟩ := H
   replace H := Option.bind_eq_some_iff.mp H
   obtain ⟨⟨t763, t764, t765, t766, t767, t770, t773, t774, t775, t776⟩, A220, H⟩ := H
   have A22 := Aside0.mk A220
   clear A220
   replace H := Option.bind_eq_some_iff.mp H
   obtain ⟨⟨t778, t779, t780, t781⟩, A230, H⟩ := H
   have A23 := Aside0.mk A230
   clear A230
   replace H := zs H
   obtain ⟨t782, A24, H⟩ := H
   by_cases c25 : t782 = t762
   ·
    rw [if_pos c25] at H
    have c25b0 : (t782 == t762) = true := beq_iff_eq.mpr c25
    have c25b1 : (t782 != t762) = false := bne_eq_false_iff_eq.mpr c25
    clear c25
    replace H := Option.bind_eq_some_iff.mp H
    obtain ⟨⟨t783, t784, t785, t786, t787, t790, t793, t794, t795, t796⟩, A260, H⟩ := H
    have A26 := Aside0.mk A260
    clear A260
    replace H := zs H
    obtain ⟨t797, A27, H⟩ := H
    replace H := zb H
    rcases H with ⟨rfl, H⟩ | ⟨rfl, H⟩
    ·
     obtain rfl := Option.some.inj H
     go_enter Tryz.func5, Tryz.ntmps5
     try go_wp2_with (first | ((with_reducible refine zd 2 rfl ?_); refine zbx (w := w) #[.int .i64 a0_0, .int .i64 a0_1, .int .i64 a0_2, .string a0_3] 42 ?_; intro gb740 hg w29 BK740 hb; have GW740 := zg (w := w) hg; replace HB := zB hb; clear hb hg) | ((with_reducible refine zd 3 rfl ?_); refine zbx (w := w) #[.int .i64 a1_0, .int .i64 a1_1, .int .i64 a1_2, .string a1_3, .slice A1_4 l1_4.length c1_4, .slice A1_5 l1_5.length c1_5, .int .i64 a1_6, .string a1_7, .int .i64 a1_8, .int .i64 a1_9] 29 ?_; intro gb741 hg w30 BK741 hb; have GW741 := zg (w := w) hg; replace HB := zB hb; have NB740_741 := zn hg BK740; have NB741_740 := zm hg BK740; replace BK740 := zk BK740 hb; clear hb hg; have hnb31 := NB740_741.out; have hnc31 := NB741_740.out; have ⟨_, _, _, _, _, _, _, _⟩ := cz4 BK740) | ((with_reducible refine zd 11 rfl ?_); refine zgl Tryz.func15 (laws_szEntry.calls a0_0 a0_1 a0_2 a0_3 1048576 t742 _ A3.out) ?_; rintro e w33 ⟨rfl, hb⟩; refine ⟨_, rfl, ?_⟩; replace BK740 := zk BK740 hb; replace BK741 := zk BK741 hb; replace HB := zB hb; have ⟨_, _, _, _, _, _, _, _, _, _, _, _, _, _, _, _, _, _, _, _⟩ := cz10 BK741) | ((with_reducible refine zd 16 rfl ?_); refine zgl Tryz.func10 (laws_szIssue.calls k a1_0 a1_1 a1_2 a1_3 _ _ l1_4 _ _ l1_5 a1_6 a1_7 a1_8 a1_9 t742 t743 _ (zC HR1_4) HC1_4.out (zC HR1_5) HC1_5.out A10.out) ?_; rintro e w35 ⟨rfl, hb⟩; refine ⟨_, rfl, ?_⟩; replace BK740 := zk BK740 hb; replace BK741 := zk BK741 hb; replace HB := zB hb))
     replace BK740 := zkd BK740
     replace BK741 := zkd BK741
     replace HB := zBd HB
     refine zst 6 rfl (zb4 BK740 <| zb10 BK741 <| zn0) fun hHeld HT_ => ?_
     generalize w35.drew = w36 at BK740 BK741 HB hHeld ⊢
     repeat (first | refine zs1 ?_ | (refine zcl Tryz.func17 (laws_toEntry.calls a0_0 a0_1 a0_2 a0_3 t744 t745 t746 t747 _ A19.out) ?_; rintro e w37 ⟨rfl, hb⟩; replace BK740 := zk BK740 hb; replace BK741 := zk BK741 hb; replace HB := zB hb; refine ⟨_, rfl, zHb hb hHeld, _, znb, fun hHeld => ?_⟩) | (refine zcl Tryz.func12 (laws_toIssue.calls k a1_0 a1_1 a1_2 a1_3 _ _ l1_4 _ _ l1_5 a1_6 a1_7 a1_8 a1_9 t748 t749 t750 t751 t752 t755 t758 t759 t760 t761 _ (zC HR1_4) HC1_4.out (zC HR1_5) HC1_5.out A20.out) ?_; rintro e w38 ⟨v753, v756, rfl, ho0, ho1, hb⟩; have HO754 := Aside0.mk (Kd.S_lower ho0 bsz); have HO757 := zl2 ho1; replace BK740 := zk BK740 hb; replace BK741 := zk BK741 hb; replace HB := zB hb; obtain ⟨Ao39, co39, eo39⟩ := Kd.S_slice HO754.out; (first | subst eo39 | (injection eo39 with f1_ f2_ f3_; have f4_ := f1_.symm; have f5_ := f3_.symm; clear f1_ f2_ f3_; subst f4_; subst f5_)); obtain ⟨Ao40, co40, eo40⟩ := Kd.R_slice HO757.out; (first | subst eo40 | (injection eo40 with f1_ f2_ f3_; have f4_ := f1_.symm; have f5_ := f3_.symm; clear f1_ f2_ f3_; subst f4_; subst f5_)); refine ⟨_, rfl, zHb hb hHeld, _, znb, fun hHeld => ?_⟩) | (refine zcl Tryz.func19 (spec_RightOf.calls k t744 t745 t746 t747 t748 t749 t750 t751 _ _ t752 _ _ t755 t758 t759 t760 t761 t762 _ (zCs HO754) ((Kd.S_reads' HO754.out).2.1) (zCr HO757) ((Kd.R_reads' HO757.out).2.1) A21.out) ?_; rintro e w41 ⟨rfl, hb⟩; replace HO754 := zS HO754 hb; replace HO757 := zR HO757 hb; replace BK740 := zk BK740 hb; replace BK741 := zk BK741 hb; replace HB := zB hb; refine ⟨_, rfl, zHb hb hHeld, _, znb, fun hHeld => ?_⟩))
     refine zdn ?_
     have ⟨_, _, _, _, _, _, _, _, _, _, _, _, _, _, _, _, _, _, _, _⟩ := cz10 BK741
     try go_wp2_with (first | ((with_reducible refine zd 25 rfl ?_); refine zgl Tryz.func12 (laws_toIssue.calls k a1_0 a1_1 a1_2 a1_3 _ _ l1_4 _ _ l1_5 a1_6 a1_7 a1_8 a1_9 t763 t764 t765 t766 t767 t770 t773 t774 t775 t776 _ (zC HR1_4) HC1_4.out (zC HR1_5) HC1_5.out A22.out) ?_; rintro e w43 ⟨v768, v771, rfl, ho0, ho1, hb⟩; refine ⟨_, rfl, ?_⟩; have HO769 := Aside0.mk (Kd.S_lower (Kd.S_new' ho0 (Kd.S_lt (ks HO754))) bsz); replace HO754 := Aside0.mk (Kd.S_elder' (ks HO754) (Kd.S_base ho0) hb); have HO772 := Aside0.mk (Kd.R_lower (Kd.R_new' ho1 (Kd.R_lt (kr HO757))) bsz); replace HO757 := Aside0.mk (Kd.R_elder' (kr HO757) (Kd.R_base ho1) hb); replace BK740 := zk BK740 hb; replace BK741 := zk BK741 hb; replace HB := zB hb) | ((with_reducible refine zd 7 rfl ?_); refine zbx (w := w) #[.int .i64 0, .int .i64 0, .int .i64 0, .string (⟨#[]⟩ : ByteArray), .slice none 0 0, .slice none 0 0, .int .i64 0, .string (⟨#[]⟩ : ByteArray), .int .i64 0, .int .i64 0] 37 ?_; intro gb777 hg w44 BK777 hb; replace HO754 := zS HO754 hb; replace HO757 := zR HO757 hb; replace HO769 := zS HO769 hb; replace HO772 := zR HO772 hb; have GW777 := zg (w := w) hg; replace HB := zB hb; have NB740_777 := zn hg BK740; have NB777_740 := zm hg BK740; replace BK740 := zk BK740 hb; have NB741_777 := zn hg BK741; have NB777_741 := zm hg BK741; replace BK741 := zk BK741 hb; clear hb hg; have hnb45 := NB777_740.out; have hnc45 := NB740_777.out; have hnb46 := NB777_741.out; have hnc46 := NB741_777.out; have ⟨_, _, _, _, _, _, _, _, _, _, _, _, _, _, _, _, _, _, _, _⟩ := cz10 BK777; obtain ⟨Ao48, co48, eo48⟩ := Kd.S_slice HO769.out; subst eo48; obtain ⟨Ao49, co49, eo49⟩ := Kd.R_slice HO772.out; subst eo49))
     refine zgw fun w50 hw_ => ?_
     replace HO754 := zSw hw_ HO754 BK777 (fun _ hk => hk.2)
     replace HO757 := zRw hw_ HO757 BK777 (fun _ hk => hk.2)
     replace HO769 := zSw hw_ HO769 BK777 (fun _ hk => hk.2)
     replace HO772 := zRw hw_ HO772 BK777 (fun _ hk => hk.2)
     replace BK740 := zkw hw_ BK740
     replace BK741 := zkw hw_ BK741
     replace BK777 := zkw hw_ BK777
     replace HB := zBw hw_
     clear hw_
     replace HO754 := zSd HO754
     replace HO757 := zRd HO757
     replace HO769 := zSd HO769
     replace HO772 := zRd HO772
     replace BK740 := zkd BK740
     replace BK741 := zkd BK741
     replace BK777 := zkd BK777
     replace HB := zBd HB
     refine zst 5 rfl (zb4 BK740 <| zb10 BK777 <| zn0) fun hHeld HT_ => ?_
     generalize w50.drew = w51 at HO754 HO757 HO769 HO772 BK740 BK741 BK777 HB hHeld ⊢
     repeat (first | refine zs1 ?_ | (refine zcl Tryz.func17 (laws_toEntry.calls a0_0 a0_1 a0_2 a0_3 t778 t779 t780 t781 _ A23.out) ?_; rintro e w52 ⟨rfl, hb⟩; replace HO754 := zS HO754 hb; replace HO757 := zR HO757 hb; replace HO769 := zS HO769 hb; replace HO772 := zR HO772 hb; replace BK740 := zk BK740 hb; replace BK741 := zk BK741 hb; replace BK777 := zk BK777 hb; replace HB := zB hb; refine ⟨_, rfl, zHb hb hHeld, _, znb, fun hHeld => ?_⟩) | (refine zcl Tryz.func20 (impl_RightOf.calls k t778 t779 t780 t781 t763 t764 t765 t766 _ _ t767 _ _ t770 t773 t774 t775 t776 t782 _ (zCs HO769) ((Kd.S_reads' HO769.out).2.1) (zCr HO772) ((Kd.R_reads' HO772.out).2.1) A24.out) ?_; rintro e w53 ⟨rfl, hb⟩; replace HO754 := zS HO754 hb; replace HO757 := zR HO757 hb; replace HO769 := zS HO769 hb; replace HO772 := zR HO772 hb; replace BK740 := zk BK740 hb; replace BK741 := zk BK741 hb; replace BK777 := zk BK777 hb; replace HB := zB hb; refine ⟨_, rfl, zHb hb hHeld, _, znb, fun hHeld => ?_⟩))
     refine zdn ?_
     try go_wp2
     replace HO754 := zSd HO754
     replace HO757 := zRd HO757
     replace HO769 := zSd HO769
     replace HO772 := zRd HO772
     replace BK740 := zkd BK740
     replace BK741 := zkd BK741
     replace BK777 := zkd BK777
     replace HB := zBd HB
     refine zst 5 rfl (zb10 BK777 <| zb10 BK741 <| zn0) fun hHeld HT_ => ?_
     generalize w53.drew = w54 at HO754 HO757 HO769 HO772 BK740 BK741 BK777 HB hHeld ⊢
     repeat (first | refine zs1 ?_ | (refine zcl Tryz.func12 (laws_toIssue.calls k a1_0 a1_1 a1_2 a1_3 _ _ l1_4 _ _ l1_5 a1_6 a1_7 a1_8 a1_9 t783 t784 t785 t786 t787 t790 t793 t794 t795 t796 _ (zC HR1_4) HC1_4.out (zC HR1_5) HC1_5.out A26.out) ?_; rintro e w55 ⟨v788, v791, rfl, ho0, ho1, hb⟩; have HO789 := Aside0.mk (Kd.S_lower (Kd.S_new' (Kd.S_new' ho0 (Kd.S_lt (ks HO754))) (Kd.S_lt (ks HO769))) bsz); replace HO754 := Aside0.mk (Kd.S_elder' (ks HO754) (Kd.S_base ho0) hb); replace HO769 := Aside0.mk (Kd.S_elder' (ks HO769) (Kd.S_base ho0) hb); have HO792 := Aside0.mk (Kd.R_lower (Kd.R_new' (Kd.R_new' ho1 (Kd.R_lt (kr HO757))) (Kd.R_lt (kr HO772))) bsz); replace HO757 := Aside0.mk (Kd.R_elder' (kr HO757) (Kd.R_base ho1) hb); replace HO772 := Aside0.mk (Kd.R_elder' (kr HO772) (Kd.R_base ho1) hb); replace BK740 := zk BK740 hb; replace BK741 := zk BK741 hb; replace BK777 := zk BK777 hb; replace HB := zB hb; obtain ⟨Ao56, co56, eo56⟩ := Kd.S_slice HO789.out; (first | subst eo56 | (injection eo56 with f1_ f2_ f3_; have f4_ := f1_.symm; have f5_ := f3_.symm; clear f1_ f2_ f3_; subst f4_; subst f5_)); obtain ⟨Ao57, co57, eo57⟩ := Kd.R_slice HO792.out; (first | subst eo57 | (injection eo57 with f1_ f2_ f3_; have f4_ := f1_.symm; have f5_ := f3_.symm; clear f1_ f2_ f3_; subst f4_; subst f5_)); refine ⟨_, rfl, zHb hb hHeld, _, znb, fun hHeld => ?_⟩) | (refine zcl Tryz.func14 (laws_eqIssue.calls k t763 t764 t765 t766 _ _ t767 _ _ t770 t773 t774 t775 t776 t783 t784 t785 t786 _ _ t787 _ _ t790 t793 t794 t795 t796 true _ (zCs HO769) ((Kd.S_reads' HO769.out).2.1) (zCr HO772) ((Kd.R_reads' HO772.out).2.1) (zCs HO789) ((Kd.S_reads' HO789.out).2.1) (zCr HO792) ((Kd.R_reads' HO792.out).2.1) A27.out) ?_; rintro e w58 ⟨rfl, hb⟩; replace HO754 := zS HO754 hb; replace HO757 := zR HO757 hb; replace HO769 := zS HO769 hb; replace HO772 := zR HO772 hb; replace HO789 := zS HO789 hb; replace HO792 := zR HO792 hb; replace BK740 := zk BK740 hb; replace BK741 := zk BK741 hb; replace BK777 := zk BK777 hb; replace HB := zB hb; refine ⟨_, rfl, zHb hb hHeld, _, znb, fun hHeld => ?_⟩))
     refine zdn ?_
     try go_wp2
     go_ret
     exact ⟨er, bel⟩
    ·
     obtain rfl := Option.some.inj H
     go_enter Tryz.func5, Tryz.ntmps5
     try go_wp2_with (first | ((with_reducible refine zd 2 rfl ?_); refine zbx (w := w) #[.int .i64 a0_0, .int .i64 a0_1, .int .i64 a0_2, .string a0_3] 42 ?_; intro gb740 hg w59 BK740 hb; have GW740 := zg (w := w) hg; replace HB := zB hb; clear hb hg) | ((with_reducible refine zd 3 rfl ?_); refine zbx (w := w) #[.int .i64 a1_0, .int .i64 a1_1, .int .i64 a1_2, .string a1_3, .slice A1_4 l1_4.length c1_4, .slice A1_5 l1_5.length c1_5, .int .i64 a1_6, .string a1_7, .int .i64 a1_8, .int .i64 a1_9] 29 ?_; intro gb741 hg w60 BK741 hb; have GW741 := zg (w := w) hg; replace HB := zB hb; have NB740_741 := zn hg BK740; have NB741_740 := zm hg BK740; replace BK740 := zk BK740 hb; clear hb hg; have hnb61 := NB740_741.out; have hnc61 := NB741_740.out; have ⟨_, _, _, _, _, _, _, _⟩ := cz4 BK740) | ((with_reducible refine zd 11 rfl ?_); refine zgl Tryz.func15 (laws_szEntry.calls a0_0 a0_1 a0_2 a0_3 1048576 t742 _ A3.out) ?_; rintro e w63 ⟨rfl, hb⟩; refine ⟨_, rfl, ?_⟩; replace BK740 := zk BK740 hb; replace BK741 := zk BK741 hb; replace HB := zB hb; have ⟨_, _, _, _, _, _, _, _, _, _, _, _, _, _, _, _, _, _, _, _⟩ := cz10 BK741) | ((with_reducible refine zd 16 rfl ?_); refine zgl Tryz.func10 (laws_szIssue.calls k a1_0 a1_1 a1_2 a1_3 _ _ l1_4 _ _ l1_5 a1_6 a1_7 a1_8 a1_9 t742 t743 _ (zC HR1_4) HC1_4.out (zC HR1_5) HC1_5.out A10.out) ?_; rintro e w65 ⟨rfl, hb⟩; refine ⟨_, rfl, ?_⟩; replace BK740 := zk BK740 hb; replace BK741 := zk BK741 hb; replace HB := zB hb))
     replace BK740 := zkd BK740
     replace BK741 := zkd BK741
     replace HB := zBd HB
     refine zst 6 rfl (zb4 BK740 <| zb10 BK741 <| zn0) fun hHeld HT_ => ?_
     generalize w65.drew = w66 at BK740 BK741 HB hHeld ⊢
     repeat (first | refine zs1 ?_ | (refine zcl Tryz.func17 (laws_toEntry.calls a0_0 a0_1 a0_2 a0_3 t744 t745 t746 t747 _ A19.out) ?_; rintro e w67 ⟨rfl, hb⟩; replace BK740 := zk BK740 hb; replace BK741 := zk BK741 hb; replace HB := zB hb; refine ⟨_, rfl, zHb hb hHeld, _, znb, fun hHeld => ?_⟩) | (refine zcl Tryz.func12 (laws_toIssue.calls k a1_0 a1_1 a1_2 a1_3 _ _ l1_4 _ _ l1_5 a1_6 a1_7 a1_8 a1_9 t748 t749 t750 t751 t752 t755 t758 t759 t760 t761 _ (zC HR1_4) HC1_4.out (zC HR1_5) HC1_5.out A20.out) ?_; rintro e w68 ⟨v753, v756, rfl, ho0, ho1, hb⟩; have HO754 := Aside0.mk (Kd.S_lower ho0 bsz); have HO757 := zl2 ho1; replace BK740 := zk BK740 hb; replace BK741 := zk BK741 hb; replace HB := zB hb; obtain ⟨Ao69, co69, eo69⟩ := Kd.S_slice HO754.out; (first | subst eo69 | (injection eo69 with f1_ f2_ f3_; have f4_ := f1_.symm; have f5_ := f3_.symm; clear f1_ f2_ f3_; subst f4_; subst f5_)); obtain ⟨Ao70, co70, eo70⟩ := Kd.R_slice HO757.out; (first | subst eo70 | (injection eo70 with f1_ f2_ f3_; have f4_ := f1_.symm; have f5_ := f3_.symm; clear f1_ f2_ f3_; subst f4_; subst f5_)); refine ⟨_, rfl, zHb hb hHeld, _, znb, fun hHeld => ?_⟩) | (refine zcl Tryz.func19 (spec_RightOf.calls k t744 t745 t746 t747 t748 t749 t750 t751 _ _ t752 _ _ t755 t758 t759 t760 t761 t762 _ (zCs HO754) ((Kd.S_reads' HO754.out).2.1) (zCr HO757) ((Kd.R_reads' HO757.out).2.1) A21.out) ?_; rintro e w71 ⟨rfl, hb⟩; replace HO754 := zS HO754 hb; replace HO757 := zR HO757 hb; replace BK740 := zk BK740 hb; replace BK741 := zk BK741 hb; replace HB := zB hb; refine ⟨_, rfl, zHb hb hHeld, _, znb, fun hHeld => ?_⟩))
     refine zdn ?_
     have ⟨_, _, _, _, _, _, _, _, _, _, _, _, _, _, _, _, _, _, _, _⟩ := cz10 BK741
     try go_wp2_with (first | ((with_reducible refine zd 25 rfl ?_); refine zgl Tryz.func12 (laws_toIssue.calls k a1_0 a1_1 a1_2 a1_3 _ _ l1_4 _ _ l1_5 a1_6 a1_7 a1_8 a1_9 t763 t764 t765 t766 t767 t770 t773 t774 t775 t776 _ (zC HR1_4) HC1_4.out (zC HR1_5) HC1_5.out A22.out) ?_; rintro e w73 ⟨v768, v771, rfl, ho0, ho1, hb⟩; refine ⟨_, rfl, ?_⟩; have HO769 := Aside0.mk (Kd.S_lower (Kd.S_new' ho0 (Kd.S_lt (ks HO754))) bsz); replace HO754 := Aside0.mk (Kd.S_elder' (ks HO754) (Kd.S_base ho0) hb); have HO772 := Aside0.mk (Kd.R_lower (Kd.R_new' ho1 (Kd.R_lt (kr HO757))) bsz); replace HO757 := Aside0.mk (Kd.R_elder' (kr HO757) (Kd.R_base ho1) hb); replace BK740 := zk BK740 hb; replace BK741 := zk BK741 hb; replace HB := zB hb) | ((with_reducible refine zd 7 rfl ?_); refine zbx (w := w) #[.int .i64 0, .int .i64 0, .int .i64 0, .string (⟨#[]⟩ : ByteArray), .slice none 0 0, .slice none 0 0, .int .i64 0, .string (⟨#[]⟩ : ByteArray), .int .i64 0, .int .i64 0] 37 ?_; intro gb777 hg w74 BK777 hb; replace HO754 := zS HO754 hb; replace HO757 := zR HO757 hb; replace HO769 := zS HO769 hb; replace HO772 := zR HO772 hb; have GW777 := zg (w := w) hg; replace HB := zB hb; have NB740_777 := zn hg BK740; have NB777_740 := zm hg BK740; replace BK740 := zk BK740 hb; have NB741_777 := zn hg BK741; have NB777_741 := zm hg BK741; replace BK741 := zk BK741 hb; clear hb hg; have hnb75 := NB777_740.out; have hnc75 := NB740_777.out; have hnb76 := NB777_741.out; have hnc76 := NB741_777.out; have ⟨_, _, _, _, _, _, _, _, _, _, _, _, _, _, _, _, _, _, _, _⟩ := cz10 BK777; obtain ⟨Ao78, co78, eo78⟩ := Kd.S_slice HO769.out; subst eo78; obtain ⟨Ao79, co79, eo79⟩ := Kd.R_slice HO772.out; subst eo79))
     refine zgw fun w80 hw_ => ?_
     replace HO754 := zSw hw_ HO754 BK777 (fun _ hk => hk.2)
     replace HO757 := zRw hw_ HO757 BK777 (fun _ hk => hk.2)
     replace HO769 := zSw hw_ HO769 BK777 (fun _ hk => hk.2)
     replace HO772 := zRw hw_ HO772 BK777 (fun _ hk => hk.2)
     replace BK740 := zkw hw_ BK740
     replace BK741 := zkw hw_ BK741
     replace BK777 := zkw hw_ BK777
     replace HB := zBw hw_
     clear hw_
     replace HO754 := zSd HO754
     replace HO757 := zRd HO757
     replace HO769 := zSd HO769
     replace HO772 := zRd HO772
     replace BK740 := zkd BK740
     replace BK741 := zkd BK741
     replace BK777 := zkd BK777
     replace HB := zBd HB
     refine zst 5 rfl (zb4 BK740 <| zb10 BK777 <| zn0) fun hHeld HT_ => ?_
     generalize w80.drew = w81 at HO754 HO757 HO769 HO772 BK740 BK741 BK777 HB hHeld ⊢
     repeat (first | refine zs1 ?_ | (refine zcl Tryz.func17 (laws_toEntry.calls a0_0 a0_1 a0_2 a0_3 t778 t779 t780 t781 _ A23.out) ?_; rintro e w82 ⟨rfl, hb⟩; replace HO754 := zS HO754 hb; replace HO757 := zR HO757 hb; replace HO769 := zS HO769 hb; replace HO772 := zR HO772 hb; replace BK740 := zk BK740 hb; replace BK741 := zk BK741 hb; replace BK777 := zk BK777 hb; replace HB := zB hb; refine ⟨_, rfl, zHb hb hHeld, _, znb, fun hHeld => ?_⟩) | (refine zcl Tryz.func20 (impl_RightOf.calls k t778 t779 t780 t781 t763 t764 t765 t766 _ _ t767 _ _ t770 t773 t774 t775 t776 t782 _ (zCs HO769) ((Kd.S_reads' HO769.out).2.1) (zCr HO772) ((Kd.R_reads' HO772.out).2.1) A24.out) ?_; rintro e w83 ⟨rfl, hb⟩; replace HO754 := zS HO754 hb; replace HO757 := zR HO757 hb; replace HO769 := zS HO769 hb; replace HO772 := zR HO772 hb; replace BK740 := zk BK740 hb; replace BK741 := zk BK741 hb; replace BK777 := zk BK777 hb; replace HB := zB hb; refine ⟨_, rfl, zHb hb hHeld, _, znb, fun hHeld => ?_⟩))
     refine zdn ?_
     try go_wp2
     replace HO754 := zSd HO754
     replace HO757 := zRd HO757
     replace HO769 := zSd HO769
     replace HO772 := zRd HO772
     replace BK740 := zkd BK740
     replace BK741 := zkd BK741
     replace BK777 := zkd BK777
     replace HB := zBd HB
     refine zst 5 rfl (zb10 BK777 <| zb10 BK741 <| zn0) fun hHeld HT_ => ?_
     generalize w83.drew = w84 at HO754 HO757 HO769 HO772 BK740 BK741 BK777 HB hHeld ⊢
     repeat (first | refine zs1 ?_ | (refine zcl Tryz.func12 (laws_toIssue.calls k a1_0 a1_1 a1_2 a1_3 _ _ l1_4 _ _ l1_5 a1_6 a1_7 a1_8 a1_9 t783 t784 t785 t786 t787 t790 t793 t794 t795 t796 _ (zC HR1_4) HC1_4.out (zC HR1_5) HC1_5.out A26.out) ?_; rintro e w85 ⟨v788, v791, rfl, ho0, ho1, hb⟩; have HO789 := Aside0.mk (Kd.S_lower (Kd.S_new' (Kd.S_new' ho0 (Kd.S_lt (ks HO754))) (Kd.S_lt (ks HO769))) bsz); replace HO754 := Aside0.mk (Kd.S_elder' (ks HO754) (Kd.S_base ho0) hb); replace HO769 := Aside0.mk (Kd.S_elder' (ks HO769) (Kd.S_base ho0) hb); have HO792 := Aside0.mk (Kd.R_lower (Kd.R_new' (Kd.R_new' ho1 (Kd.R_lt (kr HO757))) (Kd.R_lt (kr HO772))) bsz); replace HO757 := Aside0.mk (Kd.R_elder' (kr HO757) (Kd.R_base ho1) hb); replace HO772 := Aside0.mk (Kd.R_elder' (kr HO772) (Kd.R_base ho1) hb); replace BK740 := zk BK740 hb; replace BK741 := zk BK741 hb; replace BK777 := zk BK777 hb; replace HB := zB hb; obtain ⟨Ao86, co86, eo86⟩ := Kd.S_slice HO789.out; (first | subst eo86 | (injection eo86 with f1_ f2_ f3_; have f4_ := f1_.symm; have f5_ := f3_.symm; clear f1_ f2_ f3_; subst f4_; subst f5_)); obtain ⟨Ao87, co87, eo87⟩ := Kd.R_slice HO792.out; (first | subst eo87 | (injection eo87 with f1_ f2_ f3_; have f4_ := f1_.symm; have f5_ := f3_.symm; clear f1_ f2_ f3_; subst f4_; subst f5_)); refine ⟨_, rfl, zHb hb hHeld, _, znb, fun hHeld => ?_⟩) | (refine zcl Tryz.func14 (laws_eqIssue.calls k t763 t764 t765 t766 _ _ t767 _ _ t770 t773 t774 t775 t776 t783 t784 t785 t786 _ _ t787 _ _ t790 t793 t794 t795 t796 false _ (zCs HO769) ((Kd.S_reads' HO769.out).2.1) (zCr HO772) ((Kd.R_reads' HO772.out).2.1) (zCs HO789) ((Kd.S_reads' HO789.out).2.1) (zCr HO792) ((Kd.R_reads' HO792.out).2.1) A27.out) ?_; rintro e w88 ⟨rfl, hb⟩; replace HO754 := zS HO754 hb; replace HO757 := zR HO757 hb; replace HO769 := zS HO769 hb; replace HO772 := zR HO772 hb; replace HO789 := zS HO789 hb; replace HO792 := zR HO792 hb; replace BK740 := zk BK740 hb; replace BK741 := zk BK741 hb; replace BK777 := zk BK777 hb; replace HB := zB hb; refine ⟨_, rfl, zHb hb hHeld, _, znb, fun hHeld => ?_⟩))
     refine zdn ?_
     try go_wp2
     go_ret
     exact ⟨er, bel⟩
   ·
    rw [if_neg c25] at H
    have c25b0 : (t782 == t762) = false := beq_eq_false_iff_ne.mpr c25
    have c25b1 : (t782 != t762) = true := bne_iff_ne.mpr c25
    obtain rfl := Option.some.inj H
    go_enter Tryz.func5, Tryz.ntmps5
    try go_wp2_with (first | ((with_reducible refine zd 2 rfl ?_); refine zbx (w := w) #[.int .i64 a0_0, .int .i64 a0_1, .int .i64 a0_2, .string a0_3] 42 ?_; intro gb740 hg w89 BK740 hb; have GW740 := zg (w := w) hg; replace HB := zB hb; clear hb hg) | ((with_reducible refine zd 3 rfl ?_); refine zbx (w := w) #[.int .i64 a1_0, .int .i64 a1_1, .int .i64 a1_2, .string a1_3, .slice A1_4 l1_4.length c1_4, .slice A1_5 l1_5.length c1_5, .int .i64 a1_6, .string a1_7, .int .i64 a1_8, .int .i64 a1_9] 29 ?_; intro gb741 hg w90 BK741 hb; have GW741 := zg (w := w) hg; replace HB := zB hb; have NB740_741 := zn hg BK740; have NB741_740 := zm hg BK740; replace BK740 := zk BK740 hb; clear hb hg; have hnb91 := NB740_741.out; have hnc91 := NB741_740.out; have ⟨_, _, _, _, _, _, _, _⟩ := cz4 BK740) | ((with_reducible refine zd 11 rfl ?_); refine zgl Tryz.func15 (laws_szEntry.calls a0_0 a0_1 a0_2 a0_3 1048576 t742 _ A3.out) ?_; rintro e w93 ⟨rfl, hb⟩; refine ⟨_, rfl, ?_⟩; replace BK740 := zk BK740 hb; replace BK741 := zk BK741 hb; replace HB := zB hb; have ⟨_, _, _, _, _, _, _, _, _, _, _, _, _, _, _, _, _, _, _, _⟩ := cz10 BK741) | ((with_reducible refine zd 16 rfl ?_); refine zgl Tryz.func10 (laws_szIssue.calls k a1_0 a1_1 a1_2 a1_3 _ _ l1_4 _ _ l1_5 a1_6 a1_7 a1_8 a1_9 t742 t743 _ (zC HR1_4) HC1_4.out (zC HR1_5) HC1_5.out A10.out) ?_; rintro e w95 ⟨rfl, hb⟩; refine ⟨_, rfl, ?_⟩; replace BK740 := zk BK740 hb; replace BK741 := zk BK741 hb; replace HB := zB hb))
    replace BK740 := zkd BK740
    replace BK741 := zkd BK741
    replace HB := zBd HB
    refine zst 6 rfl (zb4 BK740 <| zb10 BK741 <| zn0) fun hHeld HT_ => ?_
    generalize w95.drew = w96 at BK740 BK741 HB hHeld ⊢
    repeat (first | refine zs1 ?_ | (refine zcl Tryz.func17 (laws_toEntry.calls a0_0 a0_1 a0_2 a0_3 t744 t745 t746 t747 _ A19.out) ?_; rintro e w97 ⟨rfl, hb⟩; replace BK740 := zk BK740 hb; replace BK741 := zk BK741 hb; replace HB := zB hb; refine ⟨_, rfl, zHb hb hHeld, _, znb, fun hHeld => ?_⟩) | (refine zcl Tryz.func12 (laws_toIssue.calls k a1_0 a1_1 a1_2 a1_3 _ _ l1_4 _ _ l1_5 a1_6 a1_7 a1_8 a1_9 t748 t749 t750 t751 t752 t755 t758 t759 t760 t761 _ (zC HR1_4) HC1_4.out (zC HR1_5) HC1_5.out A20.out) ?_; rintro e w98 ⟨v753, v756, rfl, ho0, ho1, hb⟩; have HO754 := Aside0.mk (Kd.S_lower ho0 bsz); have HO757 := zl2 ho1; replace BK740 := zk BK740 hb; replace BK741 := zk BK741 hb; replace HB := zB hb; obtain ⟨Ao99, co99, eo99⟩ := Kd.S_slice HO754.out; (first | subst eo99 | (injection eo99 with f1_ f2_ f3_; have f4_ := f1_.symm; have f5_ := f3_.symm; clear f1_ f2_ f3_; subst f4_; subst f5_)); obtain ⟨Ao100, co100, eo100⟩ := Kd.R_slice HO757.out; (first | subst eo100 | (injection eo100 with f1_ f2_ f3_; have f4_ := f1_.symm; have f5_ := f3_.symm; clear f1_ f2_ f3_; subst f4_; subst f5_)); refine ⟨_, rfl, zHb hb hHeld, _, znb, fun hHeld => ?_⟩) | (refine zcl Tryz.func19 (spec_RightOf.calls k t744 t745 t746 t747 t748 t749 t750 t751 _ _ t752 _ _ t755 t758 t759 t760 t761 t762 _ (zCs HO754) ((Kd.S_reads' HO754.out).2.1) (zCr HO757) ((Kd.R_reads' HO757.out).2.1) A21.out) ?_; rintro e w101 ⟨rfl, hb⟩; replace HO754 := zS HO754 hb; replace HO757 := zR HO757 hb; replace BK740 := zk BK740 hb; replace BK741 := zk BK741 hb; replace HB := zB hb; refine ⟨_, rfl, zHb hb hHeld, _, znb, fun hHeld => ?_⟩))
    refine zdn ?_
    have ⟨_, _, _, _, _, _, _, _, _, _, _, _, _, _, _, _, _, _, _, _⟩ := cz10 BK741
    try go_wp2_with (first | ((with_reducible refine zd 25 rfl ?_); refine zgl Tryz.func12 (laws_toIssue.calls k a1_0 a1_1 a1_2 a1_3 _ _ l1_4 _ _ l1_5 a1_6 a1_7 a1_8 a1_9 t763 t764 t765 t766 t767 t770 t773 t774 t775 t776 _ (zC HR1_4) HC1_4.out (zC HR1_5) HC1_5.out A22.out) ?_; rintro e w103 ⟨v768, v771, rfl, ho0, ho1, hb⟩; refine ⟨_, rfl, ?_⟩; have HO769 := Aside0.mk (Kd.S_lower (Kd.S_new' ho0 (Kd.S_lt (ks HO754))) bsz); replace HO754 := Aside0.mk (Kd.S_elder' (ks HO754) (Kd.S_base ho0) hb); have HO772 := Aside0.mk (Kd.R_lower (Kd.R_new' ho1 (Kd.R_lt (kr HO757))) bsz); replace HO757 := Aside0.mk (Kd.R_elder' (kr HO757) (Kd.R_base ho1) hb); replace BK740 := zk BK740 hb; replace BK741 := zk BK741 hb; replace HB := zB hb) | ((with_reducible refine zd 7 rfl ?_); refine zbx (w := w) #[.int .i64 0, .int .i64 0, .int .i64 0, .string (⟨#[]⟩ : ByteArray), .slice none 0 0, .slice none 0 0, .int .i64 0, .string (⟨#[]⟩ : ByteArray), .int .i64 0, .int .i64 0] 37 ?_; intro gb777 hg w104 BK777 hb; replace HO754 := zS HO754 hb; replace HO757 := zR HO757 hb; replace HO769 := zS HO769 hb; replace HO772 := zR HO772 hb; have GW777 := zg (w := w) hg; replace HB := zB hb; have NB740_777 := zn hg BK740; have NB777_740 := zm hg BK740; replace BK740 := zk BK740 hb; have NB741_777 := zn hg BK741; have NB777_741 := zm hg BK741; replace BK741 := zk BK741 hb; clear hb hg; have hnb105 := NB777_740.out; have hnc105 := NB740_777.out; have hnb106 := NB777_741.out; have hnc106 := NB741_777.out; have ⟨_, _, _, _, _, _, _, _, _, _, _, _, _, _, _, _, _, _, _, _⟩ := cz10 BK777; obtain ⟨Ao108, co108, eo108⟩ := Kd.S_slice HO769.out; subst eo108; obtain ⟨Ao109, co109, eo109⟩ := Kd.R_slice HO772.out; subst eo109))
    refine zgw fun w110 hw_ => ?_
    replace HO754 := zSw hw_ HO754 BK777 (fun _ hk => hk.2)
    replace HO757 := zRw hw_ HO757 BK777 (fun _ hk => hk.2)
    replace HO769 := zSw hw_ HO769 BK777 (fun _ hk => hk.2)
    replace HO772 := zRw hw_ HO772 BK777 (fun _ hk => hk.2)
    replace BK740 := zkw hw_ BK740
    replace BK741 := zkw hw_ BK741
    replace BK777 := zkw hw_ BK777
    replace HB := zBw hw_
    clear hw_
    replace HO754 := zSd HO754
    replace HO757 := zRd HO757
    replace HO769 := zSd HO769
    replace HO772 := zRd HO772
    replace BK740 := zkd BK740
    replace BK741 := zkd BK741
    replace BK777 := zkd BK777
    replace HB := zBd HB
    refine zst 5 rfl (zb4 BK740 <| zb10 BK777 <| zn0) fun hHeld HT_ => ?_
    generalize w110.drew = w111 at HO754 HO757 HO769 HO772 BK740 BK741 BK777 HB hHeld ⊢
    repeat (first | refine zs1 ?_ | (refine zcl Tryz.func17 (laws_toEntry.calls a0_0 a0_1 a0_2 a0_3 t778 t779 t780 t781 _ A23.out) ?_; rintro e w112 ⟨rfl, hb⟩; replace HO754 := zS HO754 hb; replace HO757 := zR HO757 hb; replace HO769 := zS HO769 hb; replace HO772 := zR HO772 hb; replace BK740 := zk BK740 hb; replace BK741 := zk BK741 hb; replace BK777 := zk BK777 hb; replace HB := zB hb; refine ⟨_, rfl, zHb hb hHeld, _, znb, fun hHeld => ?_⟩) | (refine zcl Tryz.func20 (impl_RightOf.calls k t778 t779 t780 t781 t763 t764 t765 t766 _ _ t767 _ _ t770 t773 t774 t775 t776 t782 _ (zCs HO769) ((Kd.S_reads' HO769.out).2.1) (zCr HO772) ((Kd.R_reads' HO772.out).2.1) A24.out) ?_; rintro e w113 ⟨rfl, hb⟩; replace HO754 := zS HO754 hb; replace HO757 := zR HO757 hb; replace HO769 := zS HO769 hb; replace HO772 := zR HO772 hb; replace BK740 := zk BK740 hb; replace BK741 := zk BK741 hb; replace BK777 := zk BK777 hb; replace HB := zB hb; refine ⟨_, rfl, zHb hb hHeld, _, znb, fun hHeld => ?_⟩))
    refine zdn ?_
    try go_wp2
    go_ret
    exact ⟨er, bel⟩

end Go.Proofs.YtpcdfjcbjbkliaaGreat.E
