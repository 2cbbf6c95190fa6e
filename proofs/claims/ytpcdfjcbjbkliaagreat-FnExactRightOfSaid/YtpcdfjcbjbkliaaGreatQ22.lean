import Derived.Test.YtpcdfjcbjbkliaaGreatSq
import Derived.Test.YtpcdfjcbjbkliaaGreatQ0
import Derived.Test.YtpcdfjcbjbkliaaGreatQ3
import Derived.Test.YtpcdfjcbjbkliaaGreatQ4
import Derived.Test.YtpcdfjcbjbkliaaGreatQ13
import Derived.Test.YtpcdfjcbjbkliaaGreatQ14
import Derived.Test.YtpcdfjcbjbkliaaGreatQ20
import Derived.Test.YtpcdfjcbjbkliaaGreatQ21
namespace Go.Proofs.YtpcdfjcbjbkliaaGreat.E
open Go.RowKit Go.Proofs.YtpcdfjcbjbkliaaGreatW.PrintWords Go.Proofs.YtpcdfjcbjbkliaaGreatW.PrintLast Go.Proofs.YtpcdfjcbjbkliaaGreatW.PrintMore
attribute [local go_sem] max2_int min2_int max_two min_two max_three min_three max_four min_four
set_option linter.unusedVariables false
set_option linter.unusedSimpArgs false

/-! ### laws_FnExactIsIssue: function 3 -/
def laws_FnExactIsIssue.f (k : Nat) (a0_0 : Int) (a0_1 : Int) (a0_2 : Int) (a0_3 : ByteArray) (l0_4 : List (S83)) (l0_5 : List Int) (a0_6 : Int) (a0_7 : ByteArray) (a0_8 : Int) (a0_9 : Int) : Option (Bool) := (laws_szIssue.f k a0_0 a0_1 a0_2 a0_3 l0_4 l0_5 a0_6 a0_7 a0_8 a0_9 1048576).bind fun t605 => (if t605 < 0 then (some true) else ((laws_toIssue.f k a0_0 a0_1 a0_2 a0_3 l0_4 l0_5 a0_6 a0_7 a0_8 a0_9).bind fun bt606 => ((spec_IsIssue.f k bt606.1 bt606.2.1 bt606.2.2.1 bt606.2.2.2.1 bt606.2.2.2.2.1 bt606.2.2.2.2.2.1 bt606.2.2.2.2.2.2.1 bt606.2.2.2.2.2.2.2.1 bt606.2.2.2.2.2.2.2.2.1 bt606.2.2.2.2.2.2.2.2.2).bind fun t620 => ((laws_toIssue.f k a0_0 a0_1 a0_2 a0_3 l0_4 l0_5 a0_6 a0_7 a0_8 a0_9).bind fun bt621 => ((impl_IsIssue.f k bt621.1 bt621.2.1 bt621.2.2.1 bt621.2.2.2.1 bt621.2.2.2.2.1 bt621.2.2.2.2.2.1 bt621.2.2.2.2.2.2.1 bt621.2.2.2.2.2.2.2.1 bt621.2.2.2.2.2.2.2.2.1 bt621.2.2.2.2.2.2.2.2.2).bind fun t636 => (if (t636 != t620) = true then (some false) else ((laws_toIssue.f k a0_0 a0_1 a0_2 a0_3 l0_4 l0_5 a0_6 a0_7 a0_8 a0_9).bind fun bt637 => ((laws_eqIssue.f k bt621.1 bt621.2.1 bt621.2.2.1 bt621.2.2.2.1 bt621.2.2.2.2.1 bt621.2.2.2.2.2.1 bt621.2.2.2.2.2.2.1 bt621.2.2.2.2.2.2.2.1 bt621.2.2.2.2.2.2.2.2.1 bt621.2.2.2.2.2.2.2.2.2 bt637.1 bt637.2.1 bt637.2.2.1 bt637.2.2.2.1 bt637.2.2.2.2.1 bt637.2.2.2.2.2.1 bt637.2.2.2.2.2.2.1 bt637.2.2.2.2.2.2.2.1 bt637.2.2.2.2.2.2.2.2.1 bt637.2.2.2.2.2.2.2.2.2).bind fun t651 => (if t651 = true then (some true) else (some false))))))))))
set_option maxHeartbeats 8000000 in
set_option maxRecDepth 100000 in
theorem laws_FnExactIsIssue.calls (k : Nat) (a0_0 : Int) (a0_1 : Int) (a0_2 : Int) (a0_3 : ByteArray) (A0_4 : Option Addr) (c0_4 : Nat) (l0_4 : List (S83)) (A0_5 : Option Addr) (c0_5 : Nat) (l0_5 : List Int) (a0_6 : Int) (a0_7 : ByteArray) (a0_8 : Int) (a0_9 : Int) (r : Bool) (w : World) (hr0_4 : Kd.C k83 w A0_4 l0_4.length l0_4) (hc0_4 : l0_4.length ≤ c0_4) (hr0_5 : Kd.C (Kd.int .i64) w A0_5 l0_5.length l0_5) (hc0_5 : l0_5.length ≤ c0_5) (H : laws_FnExactIsIssue.f k a0_0 a0_1 a0_2 a0_3 l0_4 l0_5 a0_6 a0_7 a0_8 a0_9 = some r) :
  Calls Tryz.prog 3 #[.agg #[.int .i64 a0_0, .int .i64 a0_1, .int .i64 a0_2, .string a0_3, .slice A0_4 l0_4.length c0_4, .slice A0_5 l0_5.length c0_5, .int .i64 a0_6, .string a0_7, .int .i64 a0_8, .int .i64 a0_9]] w fun e w' => e = .returned (.bool r) ∧ Below w.heap.size w w' := by
 have hu29 := Tryz.underlying29
 have hu37 := Tryz.underlying37
 have HR0_4 := Aside0.mk hr0_4
 have HC0_4 := Aside0.mk hc0_4
 clear hr0_4 hc0_4
 have HR0_5 := Aside0.mk hr0_5
 have HC0_5 := Aside0.mk hc0_5
 clear hr0_5 hc0_5
 have HB := Aside0.mk (Below.refl w.heap.size w)
 unfold laws_FnExactIsIssue.f at H
 replace H := zs H
 obtain ⟨t605, A2, H⟩ := H
 replace H := zc H
 rcases H with ⟨c3b0, H⟩ | ⟨c3b0, H⟩
 ·
  obtain rfl := Option.some.inj H
  go_enter Tryz.func3, Tryz.ntmps3
  go_wp2_with (first | ((with_reducible refine zd 1 rfl ?_); refine zbx (w := w) #[.int .i64 a0_0, .int .i64 a0_1, .int .i64 a0_2, .string a0_3, .slice A0_4 l0_4.length c0_4, .slice A0_5 l0_5.length c0_5, .int .i64 a0_6, .string a0_7, .int .i64 a0_8, .int .i64 a0_9] 29 ?_; intro gb604 hg w4 BK604 hb; have GW604 := zg (w := w) hg; replace HB := zB hb; clear hb hg; have ⟨_, _, _, _, _, _, _, _, _, _, _, _, _, _, _, _, _, _, _, _⟩ := cz10 BK604) | ((with_reducible refine zd 9 rfl ?_); refine zgl Tryz.func10 (laws_szIssue.calls k a0_0 a0_1 a0_2 a0_3 _ _ l0_4 _ _ l0_5 a0_6 a0_7 a0_8 a0_9 1048576 t605 _ (zC HR0_4) HC0_4.out (zC HR0_5) HC0_5.out A2.out) ?_; rintro e w6 ⟨rfl, hb⟩; refine ⟨_, rfl, ?_⟩; replace BK604 := zk BK604 hb; replace HB := zB hb))
  go_ret
  exact ⟨er, bel⟩
 ·
  replace H := Option.bind_eq_some_iff.mp H
  obtain ⟨⟨t606, t607, t608, t609, t610, t613, t616, t617, t618, t619⟩, A70, H⟩ := H
  have A7 := Aside0.mk A70
  clear A70
  replace H := zs H
  obtain ⟨t620, A8, H⟩ := H
  replace H := Option.bind_eq_some_iff.mp H
  obtain ⟨⟨t621, t622, t623, t624, t625, t628, t631, t632, t633, t634⟩, A90, H⟩ := H
  have A9 := Aside0.mk A90
  clear A90
  replace H := zs H
  obtain ⟨t636, A10, H⟩ := H
  by_cases c11 : (t636 != t620) = true
  ·
   rw [if_pos c11] at H
   have c11b0 : (t636 != t620) = true := c11
   (try (have c11b1 : decide (t636 = t620) = false := by simpa using c11))
   (try (have c11b2 : (t636 == t620) = false := by simpa using c11))
   (try (have c11b3 : ¬ (t636 = t620) := by simpa using c11))
   clear c11
   obtain rfl := Option.some.inj H
   go_enter Tryz.func3, Tryz.ntmps3
   go_wp2_with (first | ((with_reducible refine zd 1 rfl ?_); refine zbx (w := w) #[.int .i64 a0_0, .int .i64 a0_1, .int .i64 a0_2, .string a0_3, .slice A0_4 l0_4.length c0_4, .slice A0_5 l0_5.length c0_5, .int .i64 a0_6, .string a0_7, .int .i64 a0_8, .int .i64 a0_9] 29 ?_; intro gb604 hg w12 BK604 hb; have GW604 := zg (w := w) hg; replace HB := zB hb; clear hb hg; have ⟨_, _, _, _, _, _, _, _, _, _, _, _, _, _, _, _, _, _, _, _⟩ := cz10 BK604) | ((with_reducible refine zd 9 rfl ?_); refine zgl Tryz.func10 (laws_szIssue.calls k a0_0 a0_1 a0_2 a0_3 _ _ l0_4 _ _ l0_5 a0_6 a0_7 a0_8 a0_9 1048576 t605 _ (zC HR0_4) HC0_4.out (zC HR0_5) HC0_5.out A2.out) ?_; rintro e w14 ⟨rfl, hb⟩; refine ⟨_, rfl, ?_⟩; replace BK604 := zk BK604 hb; replace HB := zB hb; have ⟨_, _, _, _, _, _, _, _, _, _, _, _, _, _, _, _, _, _, _, _⟩ := cz10 BK604) | ((with_reducible refine zd 13 rfl ?_); refine zgl Tryz.func12 (laws_toIssue.calls k a0_0 a0_1 a0_2 a0_3 _ _ l0_4 _ _ l0_5 a0_6 a0_7 a0_8 a0_9 t606 t607 t608 t609 t610 t613 t616 t617 t618 t619 _ (zC HR0_4) HC0_4.out (zC HR0_5) HC0_5.out A7.out) ?_; rintro e w16 ⟨v611, v614, rfl, ho0, ho1, hb⟩; refine ⟨_, rfl, ?_⟩; have HO612 := Aside0.mk (Kd.S_lower ho0 bsz); have HO615 := zl2 ho1; replace BK604 := zk BK604 hb; replace HB := zB hb; obtain ⟨Ao17, co17, eo17⟩ := Kd.S_slice HO612.out; subst eo17; obtain ⟨Ao18, co18, eo18⟩ := Kd.R_slice HO615.out; subst eo18) | ((with_reducible refine zd 14 rfl ?_); refine zgl Tryz.func11 (spec_IsIssue.calls k t606 t607 t608 t609 _ _ t610 _ _ t613 t616 t617 t618 t619 t620 _ (zCs HO612) ((Kd.S_reads' HO612.out).2.1) (zCr HO615) ((Kd.R_reads' HO615.out).2.1) A8.out) ?_; rintro e w19 ⟨rfl, hb⟩; refine ⟨_, rfl, ?_⟩; replace HO612 := zS HO612 hb; replace HO615 := zR HO615 hb; replace BK604 := zk BK604 hb; replace HB := zB hb; have ⟨_, _, _, _, _, _, _, _, _, _, _, _, _, _, _, _, _, _, _, _⟩ := cz10 BK604) | ((with_reducible refine zd 16 rfl ?_); refine zgl Tryz.func12 (laws_toIssue.calls k a0_0 a0_1 a0_2 a0_3 _ _ l0_4 _ _ l0_5 a0_6 a0_7 a0_8 a0_9 t621 t622 t623 t624 t625 t628 t631 t632 t633 t634 _ (zC HR0_4) HC0_4.out (zC HR0_5) HC0_5.out A9.out) ?_; rintro e w21 ⟨v626, v629, rfl, ho0, ho1, hb⟩; refine ⟨_, rfl, ?_⟩; have HO627 := Aside0.mk (Kd.S_lower (Kd.S_new' ho0 (Kd.S_lt (ks HO612))) bsz); replace HO612 := Aside0.mk (Kd.S_elder' (ks HO612) (Kd.S_base ho0) hb); have HO630 := Aside0.mk (Kd.R_lower (Kd.R_new' ho1 (Kd.R_lt (kr HO615))) bsz); replace HO615 := Aside0.mk (Kd.R_elder' (kr HO615) (Kd.R_base ho1) hb); replace BK604 := zk BK604 hb; replace HB := zB hb) | ((with_reducible refine zd 5 rfl ?_); refine zbx (w := w) #[.int .i64 0, .int .i64 0, .int .i64 0, .string (⟨#[]⟩ : ByteArray), .slice none 0 0, .slice none 0 0, .int .i64 0, .string (⟨#[]⟩ : ByteArray), .int .i64 0, .int .i64 0] 37 ?_; intro gb635 hg w22 BK635 hb; replace HO612 := zS HO612 hb; replace HO615 := zR HO615 hb; replace HO627 := zS HO627 hb; replace HO630 := zR HO630 hb; have GW635 := zg (w := w) hg; replace HB := zB hb; have NB604_635 := zn hg BK604; have NB635_604 := zm hg BK604; replace BK604 := zk BK604 hb; clear hb hg; have hnb23 := NB635_604.out; have hnc23 := NB604_635.out; have ⟨_, _, _, _, _, _, _, _, _, _, _, _, _, _, _, _, _, _, _, _⟩ := cz10 BK635; obtain ⟨Ao25, co25, eo25⟩ := Kd.S_slice HO627.out; subst eo25; obtain ⟨Ao26, co26, eo26⟩ := Kd.R_slice HO630.out; subst eo26) | ((with_reducible refine zd 18 rfl ?_); refine zgl Tryz.func13 (impl_IsIssue.calls k t621 t622 t623 t624 _ _ t625 _ _ t628 t631 t632 t633 t634 t636 _ (Kd.S_reads' (e := _) (zSf HO627 BK635)).2.2 ((Kd.S_reads' HO627.out).2.1) (Kd.R_reads' (e := _) (zRf HO630 BK635)).2.2 ((Kd.R_reads' HO630.out).2.1) A10.out) ?_; rintro e w27 ⟨rfl, hb⟩; refine ⟨_, rfl, ?_⟩; replace HO612 := Aside0.mk (Kd.S_below (zSf HO612 BK635) hb); replace HO615 := Aside0.mk (Kd.R_below (zRf HO615 BK635) hb); replace HO627 := Aside0.mk (Kd.S_below (zSf HO627 BK635) hb); replace HO630 := Aside0.mk (Kd.R_below (zRf HO630 BK635) hb); replace BK604 := zkf BK604 hb; replace BK635 := zkf BK635 hb; replace HB := zB hb))
   go_ret
   exact ⟨er, bel⟩
  ·
   rw [if_neg c11] at H
   have c11b0 : (t636 != t620) = false := by simpa using c11
   (try (have c11b1 : decide (t636 = t620) = true := by simpa using c11))
   (try (have c11b2 : (t636 == t620) = true := by simpa using c11))
   clear c11
   replace H := Option.bind_eq_some_iff.mp H
   obtain ⟨⟨t637, t638, t639, t640, t641, t644, t647, t648, t649, t650⟩, A280, H⟩ := H
   have A28 := Aside0.mk A280
   clear A280
   replace H := zs H
   obtain ⟨t651, A29, H⟩ := H
   replace H := zb H
   rcases H with ⟨rfl, H⟩ | ⟨rfl, H⟩
   ·
    obtain rfl := Option.some.inj H
    go_enter Tryz.func3, Tryz.ntmps3
    try go_wp2_with (first | ((with_reducible refine zd 1 rfl ?_); refine zbx (w := w) #[.int .i64 a0_0, .int .i64 a0_1, .int .i64 a0_2, .string a0_3, .slice A0_4 l0_4.length c0_4, .slice A0_5 l0_5.length c0_5, .int .i64 a0_6, .string a0_7, .int .i64 a0_8, .int .i64 a0_9] 29 ?_; intro gb604 hg w31 BK604 hb; have GW604 := zg (w := w) hg; replace HB := zB hb; clear hb hg; have ⟨_, _, _, _, _, _, _, _, _, _, _, _, _, _, _, _, _, _, _, _⟩ := cz10 BK604) | ((with_reducible refine zd 9 rfl ?_); refine zgl Tryz.func10 (laws_szIssue.calls k a0_0 a0_1 a0_2 a0_3 _ _ l0_4 _ _ l0_5 a0_6 a0_7 a0_8 a0_9 1048576 t605 _ (zC HR0_4) HC0_4.out (zC HR0_5) HC0_5.out A2.out) ?_; rintro e w33 ⟨rfl, hb⟩; refine ⟨_, rfl, ?_⟩; replace BK604 := zk BK604 hb; replace HB := zB hb; have ⟨_, _, _, _, _, _, _, _, _, _, _, _, _, _, _, _, _, _, _, _⟩ := cz10 BK604) | ((with_reducible refine zd 13 rfl ?_); refine zgl Tryz.func12 (laws_toIssue.calls k a0_0 a0_1 a0_2 a0_3 _ _ l0_4 _ _ l0_5 a0_6 a0_7 a0_8 a0_9 t606 t607 t608 t609 t610 t613 t616 t617 t618 t619 _ (zC HR0_4) HC0_4.out (zC HR0_5) HC0_5.out A7.out) ?_; rintro e w35 ⟨v611, v614, rfl, ho0, ho1, hb⟩; refine ⟨_, rfl, ?_⟩; have HO612 := Aside0.mk (Kd.S_lower ho0 bsz); have HO615 := zl2 ho1; replace BK604 := zk BK604 hb; replace HB := zB hb; obtain ⟨Ao36, co36, eo36⟩ := Kd.S_slice HO612.out; subst eo36; obtain ⟨Ao37, co37, eo37⟩ := Kd.R_slice HO615.out; subst eo37) | ((with_reducible refine zd 14 rfl ?_); refine zgl Tryz.func11 (spec_IsIssue.calls k t606 t607 t608 t609 _ _ t610 _ _ t613 t616 t617 t618 t619 t620 _ (zCs HO612) ((Kd.S_reads' HO612.out).2.1) (zCr HO615) ((Kd.R_reads' HO615.out).2.1) A8.out) ?_; rintro e w38 ⟨rfl, hb⟩; refine ⟨_, rfl, ?_⟩; replace HO612 := zS HO612 hb; replace HO615 := zR HO615 hb; replace BK604 := zk BK604 hb; replace HB := zB hb; have ⟨_, _, _, _, _, _, _, _, _, _, _, _, _, _, _, _, _, _, _, _⟩ := cz10 BK604) | ((with_reducible refine zd 16 rfl ?_); refine zgl Tryz.func12 (laws_toIssue.calls k a0_0 a0_1 a0_2 a0_3 _ _ l0_4 _ _ l0_5 a0_6 a0_7 a0_8 a0_9 t621 t622 t623 t624 t625 t628 t631 t632 t633 t634 _ (zC HR0_4) HC0_4.out (zC HR0_5) HC0_5.out A9.out) ?_; rintro e w40 ⟨v626, v629, rfl, ho0, ho1, hb⟩; refine ⟨_, rfl, ?_⟩; have HO627 := Aside0.mk (Kd.S_lower (Kd.S_new' ho0 (Kd.S_lt (ks HO612))) bsz); replace HO612 := Aside0.mk (Kd.S_elder' (ks HO612) (Kd.S_base ho0) hb); have HO630 := Aside0.mk (Kd.R_lower (Kd.R_new' ho1 (Kd.R_lt (kr HO615))) bsz); replace HO615 := Aside0.mk (Kd.R_elder' (kr HO615) (Kd.R_base ho1) hb); replace BK604 := zk BK604 hb; replace HB := zB hb) | ((with_reducible refine zd 5 rfl ?_); refine zbx (w := w) #[.int .i64 0, .int .i64 0, .int .i64 0, .string (⟨#[]⟩ : ByteArray), .slice none 0 0, .slice none 0 0, .int .i64 0, .string (⟨#[]⟩ : ByteArray), .int .i64 0, .int .i64 0] 37 ?_; intro gb635 hg w41 BK635 hb; replace HO612 := zS HO612 hb; replace HO615 := zR HO615 hb; replace HO627 := zS HO627 hb; replace HO630 := zR HO630 hb; have GW635 := zg (w := w) hg; replace HB := zB hb; have NB604_635 := zn hg BK604; have NB635_604 := zm hg BK604; replace BK604 := zk BK604 hb; clear hb hg; have hnb42 := NB635_604.out; have hnc42 := NB604_635.out; have ⟨_, _, _, _, _, _, _, _, _, _, _, _, _, _, _, _, _, _, _, _⟩ := cz10 BK635; obtain ⟨Ao44, co44, eo44⟩ := Kd.S_slice HO627.out; subst eo44; obtain ⟨Ao45, co45, eo45⟩ := Kd.R_slice HO630.out; subst eo45) | ((with_reducible refine zd 18 rfl ?_); refine zgl Tryz.func13 (impl_IsIssue.calls k t621 t622 t623 t624 _ _ t625 _ _ t628 t631 t632 t633 t634 t636 _ (Kd.S_reads' (e := _) (zSf HO627 BK635)).2.2 ((Kd.S_reads' HO627.out).2.1) (Kd.R_reads' (e := _) (zRf HO630 BK635)).2.2 ((Kd.R_reads' HO630.out).2.1) A10.out) ?_; rintro e w46 ⟨rfl, hb⟩; refine ⟨_, rfl, ?_⟩; replace HO612 := Aside0.mk (Kd.S_below (zSf HO612 BK635) hb); replace HO615 := Aside0.mk (Kd.R_below (zRf HO615 BK635) hb); replace HO627 := Aside0.mk (Kd.S_below (zSf HO627 BK635) hb); replace HO630 := Aside0.mk (Kd.R_below (zRf HO630 BK635) hb); replace BK604 := zkf BK604 hb; replace BK635 := zkf BK635 hb; replace HB := zB hb))
    replace HO612 := zSd HO612
    replace HO615 := zRd HO615
    replace HO627 := zSd HO627
    replace HO630 := zRd HO630
    replace BK604 := zkd BK604
    replace BK635 := zkd BK635
    replace HB := zBd HB
    refine zst 5 rfl (zb10 BK635 <| zb10 BK604 <| zn0) fun hHeld HT_ => ?_
    generalize w46.drew = w47 at HO612 HO615 HO627 HO630 BK604 BK635 HB hHeld ⊢
    repeat (first | refine zs1 ?_ | (refine zcl Tryz.func12 (laws_toIssue.calls k a0_0 a0_1 a0_2 a0_3 _ _ l0_4 _ _ l0_5 a0_6 a0_7 a0_8 a0_9 t637 t638 t639 t640 t641 t644 t647 t648 t649 t650 _ (zC HR0_4) HC0_4.out (zC HR0_5) HC0_5.out A28.out) ?_; rintro e w48 ⟨v642, v645, rfl, ho0, ho1, hb⟩; have HO643 := Aside0.mk (Kd.S_lower (Kd.S_new' (Kd.S_new' ho0 (Kd.S_lt (ks HO612))) (Kd.S_lt (ks HO627))) bsz); replace HO612 := Aside0.mk (Kd.S_elder' (ks HO612) (Kd.S_base ho0) hb); replace HO627 := Aside0.mk (Kd.S_elder' (ks HO627) (Kd.S_base ho0) hb); have HO646 := Aside0.mk (Kd.R_lower (Kd.R_new' (Kd.R_new' ho1 (Kd.R_lt (kr HO615))) (Kd.R_lt (kr HO630))) bsz); replace HO615 := Aside0.mk (Kd.R_elder' (kr HO615) (Kd.R_base ho1) hb); replace HO630 := Aside0.mk (Kd.R_elder' (kr HO630) (Kd.R_base ho1) hb); replace BK604 := zk BK604 hb; replace BK635 := zk BK635 hb; replace HB := zB hb; obtain ⟨Ao49, co49, eo49⟩ := Kd.S_slice HO643.out; (first | subst eo49 | (injection eo49 with f1_ f2_ f3_; have f4_ := f1_.symm; have f5_ := f3_.symm; clear f1_ f2_ f3_; subst f4_; subst f5_)); obtain ⟨Ao50, co50, eo50⟩ := Kd.R_slice HO646.out; (first | subst eo50 | (injection eo50 with f1_ f2_ f3_; have f4_ := f1_.symm; have f5_ := f3_.symm; clear f1_ f2_ f3_; subst f4_; subst f5_)); refine ⟨_, rfl, zHb hb hHeld, _, znb, fun hHeld => ?_⟩) | (refine zcl Tryz.func14 (laws_eqIssue.calls k t621 t622 t623 t624 _ _ t625 _ _ t628 t631 t632 t633 t634 t637 t638 t639 t640 _ _ t641 _ _ t644 t647 t648 t649 t650 true _ (zCs HO627) ((Kd.S_reads' HO627.out).2.1) (zCr HO630) ((Kd.R_reads' HO630.out).2.1) (zCs HO643) ((Kd.S_reads' HO643.out).2.1) (zCr HO646) ((Kd.R_reads' HO646.out).2.1) A29.out) ?_; rintro e w51 ⟨rfl, hb⟩; replace HO612 := zS HO612 hb; replace HO615 := zR HO615 hb; replace HO627 := zS HO627 hb; replace HO630 := zR HO630 hb; replace HO643 := zS HO643 hb; replace HO646 := zR HO646 hb; replace BK604 := zk BK604 hb; replace BK635 := zk BK635 hb; replace HB := zB hb; refine ⟨_, rfl, zHb hb hHeld, _, znb, fun hHeld => ?_⟩))
    refine zdn ?_
    try go_wp2
    go_ret
    exact ⟨er, bel⟩
   ·
    obtain rfl := Option.some.inj H
    go_enter Tryz.func3, Tryz.ntmps3
    try go_wp2_with (first | ((with_reducible refine zd 1 rfl ?_); refine zbx (w := w) #[.int .i64 a0_0, .int .i64 a0_1, .int .i64 a0_2, .string a0_3, .slice A0_4 l0_4.length c0_4, .slice A0_5 l0_5.length c0_5, .int .i64 a0_6, .string a0_7, .int .i64 a0_8, .int .i64 a0_9] 29 ?_; intro gb604 hg w52 BK604 hb; have GW604 := zg (w := w) hg; replace HB := zB hb; clear hb hg; have ⟨_, _, _, _, _, _, _, _, _, _, _, _, _, _, _, _, _, _, _, _⟩ := cz10 BK604) | ((with_reducible refine zd 9 rfl ?_); refine zgl Tryz.func10 (laws_szIssue.calls k a0_0 a0_1 a0_2 a0_3 _ _ l0_4 _ _ l0_5 a0_6 a0_7 a0_8 a0_9 1048576 t605 _ (zC HR0_4) HC0_4.out (zC HR0_5) HC0_5.out A2.out) ?_; rintro e w54 ⟨rfl, hb⟩; refine ⟨_, rfl, ?_⟩; replace BK604 := zk BK604 hb; replace HB := zB hb; have ⟨_, _, _, _, _, _, _, _, _, _, _, _, _, _, _, _, _, _, _, _⟩ := cz10 BK604) | ((with_reducible refine zd 13 rfl ?_); refine zgl Tryz.func12 (laws_toIssue.calls k a0_0 a0_1 a0_2 a0_3 _ _ l0_4 _ _ l0_5 a0_6 a0_7 a0_8 a0_9 t606 t607 t608 t609 t610 t613 t616 t617 t618 t619 _ (zC HR0_4) HC0_4.out (zC HR0_5) HC0_5.out A7.out) ?_; rintro e w56 ⟨v611, v614, rfl, ho0, ho1, hb⟩; refine ⟨_, rfl, ?_⟩; have HO612 := Aside0.mk (Kd.S_lower ho0 bsz); have HO615 := zl2 ho1; replace BK604 := zk BK604 hb; replace HB := zB hb; obtain ⟨Ao57, co57, eo57⟩ := Kd.S_slice HO612.out; subst eo57; obtain ⟨Ao58, co58, eo58⟩ := Kd.R_slice HO615.out; subst eo58) | ((with_reducible refine zd 14 rfl ?_); refine zgl Tryz.func11 (spec_IsIssue.calls k t606 t607 t608 t609 _ _ t610 _ _ t613 t616 t617 t618 t619 t620 _ (zCs HO612) ((Kd.S_reads' HO612.out).2.1) (zCr HO615) ((Kd.R_reads' HO615.out).2.1) A8.out) ?_; rintro e w59 ⟨rfl, hb⟩; refine ⟨_, rfl, ?_⟩; replace HO612 := zS HO612 hb; replace HO615 := zR HO615 hb; replace BK604 := zk BK604 hb; replace HB := zB hb; have ⟨_, _, _, _, _, _, _, _, _, _, _, _, _, _, _, _, _, _, _, _⟩ := cz10 BK604) | ((with_reducible refine zd 16 rfl ?_); refine zgl Tryz.func12 (laws_toIssue.calls k a0_0 a0_1 a0_2 a0_3 _ _ l0_4 _ _ l0_5 a0_6 a0_7 a0_8 a0_9 t621 t622 t623 t624 t625 t628 t631 t632 t633 t634 _ (zC HR0_4) HC0_4.out (zC HR0_5) HC0_5.out A9.out) ?_; rintro e w61 ⟨v626, v629, rfl, ho0, ho1, hb⟩; refine ⟨_, rfl, ?_⟩; have HO627 := Aside0.mk (Kd.S_lower (Kd.S_new' ho0 (Kd.S_lt (ks HO612))) bsz); replace HO612 := Aside0.mk (Kd.S_elder' (ks HO612) (Kd.S_base ho0) hb); have HO630 := Aside0.mk (Kd.R_lower (Kd.R_new' ho1 (Kd.R_lt (kr HO615))) bsz); replace HO615 := Aside0.mk (Kd.R_elder' (kr HO615) (Kd.R_base ho1) hb); replace BK604 := zk BK604 hb; replace HB := zB hb) | ((with_reducible refine zd 5 rfl ?_); refine zbx (w := w) #[.int .i64 0, .int .i64 0, .int .i64 0, .string (⟨#[]⟩ : ByteArray), .slice none 0 0, .slice none 0 0, .int .i64 0, .string (⟨#[]⟩ : ByteArray), .int .i64 0, .int .i64 0] 37 ?_; intro gb635 hg w62 BK635 hb; replace HO612 := zS HO612 hb; replace HO615 := zR HO615 hb; replace HO627 := zS HO627 hb; replace HO630 := zR HO630 hb; have GW635 := zg (w := w) hg; replace HB := zB hb; have NB604_635 := zn hg BK604; have NB635_604 := zm hg BK604; replace BK604 := zk BK604 hb; clear hb hg; have hnb63 := NB635_604.out; have hnc63 := NB604_635.out; have ⟨_, _, _, _, _, _, _, _, _, _, _, _, _, _, _, _, _, _, _, _⟩ := cz10 BK635; obtain ⟨Ao65, co65, eo65⟩ := Kd.S_slice HO627.out; subst eo65; obtain ⟨Ao66, co66, eo66⟩ := Kd.R_slice HO630.out; subst eo66) | ((with_reducible refine zd 18 rfl ?_); refine zgl Tryz.func13 (impl_IsIssue.calls k t621 t622 t623 t624 _ _ t625 _ _ t628 t631 t632 t633 t634 t636 _ (Kd.S_reads' (e := _) (zSf HO627 BK635)).2.2 ((Kd.S_reads' HO627.out).2.1) (Kd.R_reads' (e := _) (zRf HO630 BK635)).2.2 ((Kd.R_reads' HO630.out).2.1) A10.out) ?_; rintro e w67 ⟨rfl, hb⟩; refine ⟨_, rfl, ?_⟩; replace HO612 := Aside0.mk (Kd.S_below (zSf HO612 BK635) hb); replace HO615 := Aside0.mk (Kd.R_below (zRf HO615 BK635) hb); replace HO627 := Aside0.mk (Kd.S_below (zSf HO627 BK635) hb); replace HO630 := Aside0.mk (Kd.R_below (zRf HO630 BK635) hb); replace BK604 := zkf BK604 hb; replace BK635 := zkf BK635 hb; replace HB := zB hb))
    replace HO612 := zSd HO612
    replace HO615 := zRd HO615
    replace HO627 := zSd HO627
    replace HO630 := zRd HO630
    replace BK604 := zkd BK604
    replace BK635 := zkd BK635
    replace HB := zBd HB
    refine zst 5 rfl (zb10 BK635 <| zb10 BK604 <| zn0) fun hHeld HT_ => ?_
    generalize w67.drew = w68 at HO612 HO615 HO627 HO630 BK604 BK635 HB hHeld ⊢
    repeat (first | refine zs1 ?_ | (refine zcl Tryz.func12 (laws_toIssue.calls k a0_0 a0_1 a0_2 a0_3 _ _ l0_4 _ _ l0_5 a0_6 a0_7 a0_8 a0_9 t637 t638 t639 t640 t641 t644 t647 t648 t649 t650 _ (zC HR0_4) HC0_4.out (zC HR0_5) HC0_5.out A28.out) ?_; rintro e w69 ⟨v642, v645, rfl, ho0, ho1, hb⟩; have HO643 := Aside0.mk (Kd.S_lower (Kd.S_new' (Kd.S_new' ho0 (Kd.S_lt (ks HO612))) (Kd.S_lt (ks HO627))) bsz); replace HO612 := Aside0.mk (Kd.S_elder' (ks HO612) (Kd.S_base ho0) hb); replace HO627 := Aside0.mk (Kd.S_elder' (ks HO627) (Kd.S_base ho0) hb); have HO646 := Aside0.mk (Kd.R_lower (Kd.R_new' (Kd.R_new' ho1 (Kd.R_lt (kr HO615))) (Kd.R_lt (kr HO630))) bsz); replace HO615 := Aside0.mk (Kd.R_elder' (kr HO615) (Kd.R_base ho1) hb); replace HO630 := Aside0.mk (Kd.R_elder' (kr HO630) (Kd.R_base ho1) hb); replace BK604 := zk BK604 hb; replace BK635 := zk BK635 hb; replace HB := zB hb; obtain ⟨Ao70, co70, eo70⟩ := Kd.S_slice HO643.out; (first | subst eo70 | (injection eo70 with f1_ f2_ f3_; have f4_ := f1_.symm; have f5_ := f3_.symm; clear f1_ f2_ f3_; subst f4_; subst f5_)); obtain ⟨Ao71, co71, eo71⟩ := Kd.R_slice HO646.out; (first | subst eo71 | (injection eo71 with f1_ f2_ f3_; have f4_ := f1_.symm; have f5_ := f3_.symm; clear f1_ f2_ f3_; subst f4_; subst f5_)); refine ⟨_, rfl, zHb hb hHeld, _, znb, fun hHeld => ?_⟩) | (refine zcl Tryz.func14 (laws_eqIssue.calls k t621 t622 t623 t624 _ _ t625 _ _ t628 t631 t632 t633 t634 t637 t638 t639 t640 _ _ t641 _ _ t644 t647 t648 t649 t650 false _ (zCs HO627) ((Kd.S_reads' HO627.out).2.1) (zCr HO630) ((Kd.R_reads' HO630.out).2.1) (zCs HO643) ((Kd.S_reads' HO643.out).2.1) (zCr HO646) ((Kd.R_reads' HO646.out).2.1) A29.out) ?_; rintro e w72 ⟨rfl, hb⟩; replace HO612 := zS HO612 hb; replace HO615 := zR HO615 hb; replace HO627 := zS HO627 hb; replace HO630 := zR HO630 hb; replace HO643 := zS HO643 hb; replace HO646 := zR HO646 hb; replace BK604 := zk BK604 hb; replace BK635 := zk BK635 hb; replace HB := zB hb; refine ⟨_, rfl, zHb hb hHeld, _, znb, fun hHeld => ?_⟩))
    refine zdn ?_
    try go_wp2
    go_ret
    exact ⟨er, bel⟩

/-! ### laws_szEntry: function 15 -/
def laws_szEntry.f (a0_0 : Int) (a0_1 : Int) (a0_2 : Int) (a0_3 : ByteArray) (a1 : Int) : Option (Int) := if (wrap64 (a1 - (a0_3.size : Int))) < 0 then (some (-1)) else (some (wrap64 (a1 - (a0_3.size : Int))))
set_option maxHeartbeats 8000000 in
set_option maxRecDepth 100000 in
theorem laws_szEntry.calls (a0_0 : Int) (a0_1 : Int) (a0_2 : Int) (a0_3 : ByteArray) (a1 : Int) (r : Int) (w : World) (H : laws_szEntry.f a0_0 a0_1 a0_2 a0_3 a1 = some r) :
  Calls Tryz.prog 15 #[.agg #[.int .i64 a0_0, .int .i64 a0_1, .int .i64 a0_2, .string a0_3], .int .i64 a1] w fun e w' => e = .returned (.int .i64 r) ∧ Below w.heap.size w w' := by
 have hu42 := Tryz.underlying42
 have HB := Aside0.mk (Below.refl w.heap.size w)
 unfold laws_szEntry.f at H
 replace H := zc H
 rcases H with ⟨c3b0, H⟩ | ⟨c3b0, H⟩
 rotate_left
 focus
  obtain rfl := Option.some.inj H
 rotate_right
 focus
  obtain rfl := Option.some.inj H
 all_goals
  go_enter Tryz.func15, Tryz.ntmps15
  go_wp2_with (first | ((with_reducible refine zd 2 rfl ?_); refine zbx (w := w) #[.int .i64 a0_0, .int .i64 a0_1, .int .i64 a0_2, .string a0_3] 42 ?_; intro gb652 hg w1000 BK652 hb; have GW652 := zg (w := w) hg; replace HB := zB hb; clear hb hg; have ⟨_, _, _, _, _, _, _, _⟩ := cz4 BK652))
  go_ret
  exact ⟨er, bel⟩

/-! ### spec_IsOpen: function 49 -/
def spec_IsOpen.f (a0_0 : Int) (a0_1 : Int) (a0_2 : Int) (a0_3 : ByteArray) (l0_4 : List (S89)) (l0_5 : List Int) (a0_6 : Int) (a0_7 : ByteArray) (a0_8 : Int) (a0_9 : Int) (a1 : Int) : Option (Bool) := if a1 ≥ a0_8 then (some (decide (a1 < a0_9))) else (some false)
set_option maxHeartbeats 8000000 in
set_option maxRecDepth 100000 in
theorem spec_IsOpen.calls (a0_0 : Int) (a0_1 : Int) (a0_2 : Int) (a0_3 : ByteArray) (A0_4 : Option Addr) (c0_4 : Nat) (l0_4 : List (S89)) (A0_5 : Option Addr) (c0_5 : Nat) (l0_5 : List Int) (a0_6 : Int) (a0_7 : ByteArray) (a0_8 : Int) (a0_9 : Int) (a1 : Int) (r : Bool) (w : World) (hr0_4 : Kd.C k89 w A0_4 l0_4.length l0_4) (hc0_4 : l0_4.length ≤ c0_4) (hr0_5 : Kd.C (Kd.int .i64) w A0_5 l0_5.length l0_5) (hc0_5 : l0_5.length ≤ c0_5) (H : spec_IsOpen.f a0_0 a0_1 a0_2 a0_3 l0_4 l0_5 a0_6 a0_7 a0_8 a0_9 a1 = some r) :
  Calls Tryz.prog 49 #[.agg #[.int .i64 a0_0, .int .i64 a0_1, .int .i64 a0_2, .string a0_3, .slice A0_4 l0_4.length c0_4, .slice A0_5 l0_5.length c0_5, .int .i64 a0_6, .string a0_7, .int .i64 a0_8, .int .i64 a0_9], .int .i64 a1] w fun e w' => e = .returned (.bool r) ∧ Below w.heap.size w w' := by
 have hu37 := Tryz.underlying37
 have HR0_4 := Aside0.mk hr0_4
 have HC0_4 := Aside0.mk hc0_4
 clear hr0_4 hc0_4
 have HR0_5 := Aside0.mk hr0_5
 have HC0_5 := Aside0.mk hc0_5
 clear hr0_5 hc0_5
 have HB := Aside0.mk (Below.refl w.heap.size w)
 unfold spec_IsOpen.f at H
 replace H := zc H
 rcases H with ⟨c3b0, H⟩ | ⟨c3b0, H⟩
 rotate_left
 focus
  obtain rfl := Option.some.inj H
 rotate_right
 focus
  obtain rfl := Option.some.inj H
 all_goals
  go_enter Tryz.func49, Tryz.ntmps49
  go_wp2_with (first | ((with_reducible refine zd 2 rfl ?_); refine zbx (w := w) #[.int .i64 a0_0, .int .i64 a0_1, .int .i64 a0_2, .string a0_3, .slice A0_4 l0_4.length c0_4, .slice A0_5 l0_5.length c0_5, .int .i64 a0_6, .string a0_7, .int .i64 a0_8, .int .i64 a0_9] 37 ?_; intro gb653 hg w1000 BK653 hb; have GW653 := zg (w := w) hg; replace HB := zB hb; clear hb hg; have ⟨_, _, _, _, _, _, _, _, _, _, _, _, _, _, _, _, _, _, _, _⟩ := cz10 BK653))
  go_ret
  exact ⟨er, bel⟩

/-! ### spec_IsEntry: function 16 -/
def spec_IsEntry.f (k : Nat) (a0_0 : Int) (a0_1 : Int) (a0_2 : Int) (a0_3 : ByteArray) (a1_0 : Int) (a1_1 : Int) (a1_2 : Int) (a1_3 : ByteArray) (l1_4 : List (S89)) (l1_5 : List Int) (a1_6 : Int) (a1_7 : ByteArray) (a1_8 : Int) (a1_9 : Int) : Option (Bool) := (spec_l1In.f a0_0 1 99).bind fun t656 => (if t656 = true then (if a0_1 = a1_0 then ((spec_IsIssue.f k a1_0 a1_1 a1_2 a1_3 l1_4 l1_5 a1_6 a1_7 a1_8 a1_9).bind fun t657 => (if t657 = true then ((spec_IsOpen.f a1_0 a1_1 a1_2 a1_3 l1_4 l1_5 a1_6 a1_7 a1_8 a1_9 a0_2).bind fun t658 => (if t658 = true then ((spec_IsFill.f k a1_1 a1_2 a1_3 a0_3).bind fun t659 => (some t659)) else (some false))) else (some false))) else (some false)) else (some false))
set_option maxHeartbeats 8000000 in
set_option maxRecDepth 100000 in
theorem spec_IsEntry.calls (k : Nat) (a0_0 : Int) (a0_1 : Int) (a0_2 : Int) (a0_3 : ByteArray) (a1_0 : Int) (a1_1 : Int) (a1_2 : Int) (a1_3 : ByteArray) (A1_4 : Option Addr) (c1_4 : Nat) (l1_4 : List (S89)) (A1_5 : Option Addr) (c1_5 : Nat) (l1_5 : List Int) (a1_6 : Int) (a1_7 : ByteArray) (a1_8 : Int) (a1_9 : Int) (r : Bool) (w : World) (hr1_4 : Kd.C k89 w A1_4 l1_4.length l1_4) (hc1_4 : l1_4.length ≤ c1_4) (hr1_5 : Kd.C (Kd.int .i64) w A1_5 l1_5.length l1_5) (hc1_5 : l1_5.length ≤ c1_5) (H : spec_IsEntry.f k a0_0 a0_1 a0_2 a0_3 a1_0 a1_1 a1_2 a1_3 l1_4 l1_5 a1_6 a1_7 a1_8 a1_9 = some r) :
  Calls Tryz.prog 16 #[.agg #[.int .i64 a0_0, .int .i64 a0_1, .int .i64 a0_2, .string a0_3], .agg #[.int .i64 a1_0, .int .i64 a1_1, .int .i64 a1_2, .string a1_3, .slice A1_4 l1_4.length c1_4, .slice A1_5 l1_5.length c1_5, .int .i64 a1_6, .string a1_7, .int .i64 a1_8, .int .i64 a1_9]] w fun e w' => e = .returned (.bool r) ∧ Below w.heap.size w w' := by
 have hu45 := Tryz.underlying45
 have hu37 := Tryz.underlying37
 have hu32 := Tryz.underlying32
 have HR1_4 := Aside0.mk hr1_4
 have HC1_4 := Aside0.mk hc1_4
 clear hr1_4 hc1_4
 have HR1_5 := Aside0.mk hr1_5
 have HC1_5 := Aside0.mk hc1_5
 clear hr1_5 hc1_5
 have HB := Aside0.mk (Below.refl w.heap.size w)
 unfold spec_IsEntry.f at H
 replace H := zs H
 obtain ⟨t656, A3, H⟩ := H
 replace H := zb H
 rcases H with ⟨rfl, H⟩ | ⟨rfl, H⟩
 rotate_left
 focus
  obtain rfl := Option.some.inj H
 rotate_right
 focus
  by_cases c5 : a0_1 = a1_0
  rotate_left
  focus
   rw [if_neg c5] at H
   have c5b0 : (a0_1 == a1_0) = false := beq_eq_false_iff_ne.mpr c5
   have c5b1 : (a0_1 != a1_0) = true := bne_iff_ne.mpr c5
   obtain rfl := Option.some.inj H
  rotate_right
  focus
   rw [if_pos c5] at H
   have c5b0 : (a0_1 == a1_0) = true := beq_iff_eq.mpr c5
   have c5b1 : (a0_1 != a1_0) = false := bne_eq_false_iff_eq.mpr c5
   clear c5
   replace H := zs H
   obtain ⟨t657, A6, H⟩ := H
   replace H := zb H
   rcases H with ⟨rfl, H⟩ | ⟨rfl, H⟩
   rotate_left
   focus
    obtain rfl := Option.some.inj H
   rotate_right
   focus
    replace H := zs H
    obtain ⟨t658, A8, H⟩ := H
    replace H := zb H
    rcases H with ⟨rfl, H⟩ | ⟨rfl, H⟩
    rotate_left
    focus
     obtain rfl := Option.some.inj H
    rotate_right
    focus
     replace H := zs H
     obtain ⟨t659, A10, H⟩ := H
     obtain rfl := Option.some.inj H
 all_goals
  go_enter Tryz.func16, Tryz.ntmps16
  go_wp2_with (first | ((with_reducible refine zd 2 rfl ?_); refine zbx (w := w) #[.int .i64 a0_0, .int .i64 a0_1, .int .i64 a0_2, .string a0_3] 45 ?_; intro gb654 hg w1000 BK654 hb; have GW654 := zg (w := w) hg; replace HB := zB hb; clear hb hg) | ((with_reducible refine zd 3 rfl ?_); refine zbx (w := w) #[.int .i64 a1_0, .int .i64 a1_1, .int .i64 a1_2, .string a1_3, .slice A1_4 l1_4.length c1_4, .slice A1_5 l1_5.length c1_5, .int .i64 a1_6, .string a1_7, .int .i64 a1_8, .int .i64 a1_9] 37 ?_; intro gb655 hg w1001 BK655 hb; have GW655 := zg (w := w) hg; replace HB := zB hb; have NB654_655 := zn hg BK654; have NB655_654 := zm hg BK654; replace BK654 := zk BK654 hb; clear hb hg; have hnb13 := NB654_655.out; have hnc13 := NB655_654.out; have ⟨_, _, _, _, _, _, _, _⟩ := cz4 BK654) | ((with_reducible refine zd 7 rfl ?_); refine zgl Tryz.func45 (spec_l1In.calls a0_0 1 99 _ _ A3.out) ?_; rintro e w' ⟨rfl, ⟨nd, rfl⟩⟩; refine ⟨_, rfl, ?_⟩; have ⟨_, _, _, _, _, _, _, _, _, _, _, _, _, _, _, _, _, _, _, _⟩ := cz10 BK655) | (go_at_call 11; (with_reducible refine (spec_IsIssue.calls k a1_0 a1_1 a1_2 a1_3 _ _ l1_4 _ _ l1_5 a1_6 a1_7 a1_8 a1_9 _ _ ?side1 ?side2 ?side3 ?side4 A6.out).mono ?_); (case side1 => repeat (first | exact (Kd.C_below HR1_4.out bel) | (with_reducible refine Kd.C_alloc ?_ _) | (with_reducible refine Kd.C_drewN ?_ _) | (with_reducible refine Kd.C_drew ?_))); (case side2 => exact HC1_4.out); (case side3 => repeat (first | exact (Kd.C_below HR1_5.out bel) | (with_reducible refine Kd.C_alloc ?_ _) | (with_reducible refine Kd.C_drewN ?_ _) | (with_reducible refine Kd.C_drew ?_))); (case side4 => exact HC1_5.out); rintro e w1002 ⟨rfl, hb⟩; replace BK654 := zk BK654 hb; replace BK655 := zk BK655 hb; replace HB := zB hb; have ⟨_, _, _, _, _, _, _, _, _, _, _, _, _, _, _, _, _, _, _, _⟩ := cz10 BK655; have ⟨_, _, _, _, _, _, _, _⟩ := cz4 BK654) | (go_at_call 49; (with_reducible refine (spec_IsOpen.calls a1_0 a1_1 a1_2 a1_3 _ _ l1_4 _ _ l1_5 a1_6 a1_7 a1_8 a1_9 a0_2 _ _ ?side1 ?side2 ?side3 ?side4 A8.out).mono ?_); (case side1 => repeat (first | exact (Kd.C_below HR1_4.out HB.out) | (with_reducible refine Kd.C_alloc ?_ _) | (with_reducible refine Kd.C_drewN ?_ _) | (with_reducible refine Kd.C_drew ?_))); (case side2 => exact HC1_4.out); (case side3 => repeat (first | exact (Kd.C_below HR1_5.out HB.out) | (with_reducible refine Kd.C_alloc ?_ _) | (with_reducible refine Kd.C_drewN ?_ _) | (with_reducible refine Kd.C_drew ?_))); (case side4 => exact HC1_5.out); rintro e w1003 ⟨rfl, hb⟩; replace BK654 := zk BK654 hb; replace BK655 := zk BK655 hb; replace HB := zB hb; have ⟨_, _, _, _, _, _, _, _, _, _, _, _, _, _, _, _, _, _, _, _⟩ := cz10 BK655; have ⟨_, _, _, _, _, _, _, _⟩ := cz4 BK654) | (go_at_call 50; (with_reducible refine (spec_IsFill.calls k a1_1 a1_2 a1_3 a0_3 t659 _ A10.out).mono ?_); rintro e w1004 ⟨rfl, hb⟩; replace BK654 := zk BK654 hb; replace BK655 := zk BK655 hb; replace HB := zB hb) | ((with_reducible refine zd 3 rfl ?_); refine zbx (w := w) #[.int .i64 a1_0, .int .i64 a1_1, .int .i64 a1_2, .string a1_3, .slice A1_4 l1_4.length c1_4, .slice A1_5 l1_5.length c1_5, .int .i64 a1_6, .string a1_7, .int .i64 a1_8, .int .i64 a1_9] 37 ?_; intro gb655 hg w1001 BK655 hb; have GW655 := zg (w := w) hg; replace HB := zB hb; have NB654_655 := zn hg BK654; have NB655_654 := zm hg BK654; replace BK654 := zk BK654 hb; clear hb hg; have hnb25 := NB654_655.out; have hnc25 := NB655_654.out; have ⟨_, _, _, _, _, _, _, _⟩ := cz4 BK654) | (go_at_call 49; (with_reducible refine (spec_IsOpen.calls a1_0 a1_1 a1_2 a1_3 _ _ l1_4 _ _ l1_5 a1_6 a1_7 a1_8 a1_9 a0_2 _ _ ?side1 ?side2 ?side3 ?side4 A8.out).mono ?_); (case side1 => repeat (first | exact (Kd.C_below HR1_4.out HB.out) | (with_reducible refine Kd.C_alloc ?_ _) | (with_reducible refine Kd.C_drewN ?_ _) | (with_reducible refine Kd.C_drew ?_))); (case side2 => exact HC1_4.out); (case side3 => repeat (first | exact (Kd.C_below HR1_5.out HB.out) | (with_reducible refine Kd.C_alloc ?_ _) | (with_reducible refine Kd.C_drewN ?_ _) | (with_reducible refine Kd.C_drew ?_))); (case side4 => exact HC1_5.out); rintro e w1003 ⟨rfl, hb⟩; replace BK654 := zk BK654 hb; replace BK655 := zk BK655 hb; replace HB := zB hb) | ((with_reducible refine zd 3 rfl ?_); refine zbx (w := w) #[.int .i64 a1_0, .int .i64 a1_1, .int .i64 a1_2, .string a1_3, .slice A1_4 l1_4.length c1_4, .slice A1_5 l1_5.length c1_5, .int .i64 a1_6, .string a1_7, .int .i64 a1_8, .int .i64 a1_9] 37 ?_; intro gb655 hg w1001 BK655 hb; have GW655 := zg (w := w) hg; replace HB := zB hb; have NB654_655 := zn hg BK654; have NB655_654 := zm hg BK654; replace BK654 := zk BK654 hb; clear hb hg; have hnb34 := NB654_655.out; have hnc34 := NB655_654.out; have ⟨_, _, _, _, _, _, _, _⟩ := cz4 BK654) | (go_at_call 11; (with_reducible refine (spec_IsIssue.calls k a1_0 a1_1 a1_2 a1_3 _ _ l1_4 _ _ l1_5 a1_6 a1_7 a1_8 a1_9 _ _ ?side1 ?side2 ?side3 ?side4 A6.out).mono ?_); (case side1 => repeat (first | exact (Kd.C_below HR1_4.out bel) | (with_reducible refine Kd.C_alloc ?_ _) | (with_reducible refine Kd.C_drewN ?_ _) | (with_reducible refine Kd.C_drew ?_))); (case side2 => exact HC1_4.out); (case side3 => repeat (first | exact (Kd.C_below HR1_5.out bel) | (with_reducible refine Kd.C_alloc ?_ _) | (with_reducible refine Kd.C_drewN ?_ _) | (with_reducible refine Kd.C_drew ?_))); (case side4 => exact HC1_5.out); rintro e w1002 ⟨rfl, hb⟩; replace BK654 := zk BK654 hb; replace BK655 := zk BK655 hb; replace HB := zB hb) | ((with_reducible refine zd 3 rfl ?_); refine zbx (w := w) #[.int .i64 a1_0, .int .i64 a1_1, .int .i64 a1_2, .string a1_3, .slice A1_4 l1_4.length c1_4, .slice A1_5 l1_5.length c1_5, .int .i64 a1_6, .string a1_7, .int .i64 a1_8, .int .i64 a1_9] 37 ?_; intro gb655 hg w1001 BK655 hb; have GW655 := zg (w := w) hg; replace HB := zB hb; have NB654_655 := zn hg BK654; have NB655_654 := zm hg BK654; replace BK654 := zk BK654 hb; clear hb hg; have hnb40 := NB654_655.out; have hnc40 := NB655_654.out; have ⟨_, _, _, _, _, _, _, _⟩ := cz4 BK654) | ((with_reducible refine zd 3 rfl ?_); refine zbx (w := w) #[.int .i64 a1_0, .int .i64 a1_1, .int .i64 a1_2, .string a1_3, .slice A1_4 l1_4.length c1_4, .slice A1_5 l1_5.length c1_5, .int .i64 a1_6, .string a1_7, .int .i64 a1_8, .int .i64 a1_9] 37 ?_; intro gb655 hg w1001 BK655 hb; have GW655 := zg (w := w) hg; replace HB := zB hb; have NB654_655 := zn hg BK654; have NB655_654 := zm hg BK654; replace BK654 := zk BK654 hb; clear hb hg; have hnb45 := NB654_655.out; have hnc45 := NB655_654.out; have ⟨_, _, _, _, _, _, _, _⟩ := cz4 BK654) | ((with_reducible refine zd 7 rfl ?_); refine zgl Tryz.func45 (spec_l1In.calls a0_0 1 99 _ _ A3.out) ?_; rintro e w' ⟨rfl, ⟨nd, rfl⟩⟩; refine ⟨_, rfl, ?_⟩))
  go_ret
  exact ⟨er, bel⟩

/-! ### laws_toEntry: function 17 -/
def laws_toEntry.f (a0_0 : Int) (a0_1 : Int) (a0_2 : Int) (a0_3 : ByteArray) : Option (Int × Int × Int × ByteArray) := some (a0_0, a0_1, a0_2, a0_3)
set_option maxHeartbeats 8000000 in
set_option maxRecDepth 100000 in
theorem laws_toEntry.calls (a0_0 : Int) (a0_1 : Int) (a0_2 : Int) (a0_3 : ByteArray) (r1 : Int) (r2 : Int) (r3 : Int) (r4 : ByteArray) (w : World) (H : laws_toEntry.f a0_0 a0_1 a0_2 a0_3 = some (r1, r2, r3, r4)) :
  Calls Tryz.prog 17 #[.agg #[.int .i64 a0_0, .int .i64 a0_1, .int .i64 a0_2, .string a0_3]] w fun e w' => e = .returned (.agg #[.int .i64 r1, .int .i64 r2, .int .i64 r3, .string r4]) ∧ Below w.heap.size w w' := by
 have hu42 := Tryz.underlying42
 have hu45 := Tryz.underlying45
 have HB := Aside0.mk (Below.refl w.heap.size w)
 unfold laws_toEntry.f at H
 simp only [Option.some.injEq, Prod.mk.injEq] at H
 obtain ⟨rfl, rfl, rfl, rfl⟩ := H
 go_enter Tryz.func17, Tryz.ntmps17
 go_wp2_with (first | ((with_reducible refine zd 1 rfl ?_); refine zbx (w := w) #[.int .i64 a0_0, .int .i64 a0_1, .int .i64 a0_2, .string a0_3] 42 ?_; intro gb660 hg w2 BK660 hb; have GW660 := zg (w := w) hg; replace HB := zB hb; clear hb hg) | ((with_reducible refine zd 2 rfl ?_); refine zbx (w := w) #[.int .i64 0, .int .i64 0, .int .i64 0, .string (⟨#[]⟩ : ByteArray)] 45 ?_; intro gb661 hg w3 BK661 hb; have GW661 := zg (w := w) hg; replace HB := zB hb; have NB660_661 := zn hg BK660; have NB661_660 := zm hg BK660; replace BK660 := zk BK660 hb; clear hb hg) | ((with_reducible refine zd 3 rfl ?_); refine zbx (w := w) #[.int .i64 0, .int .i64 0, .int .i64 0, .string (⟨#[]⟩ : ByteArray)] 45 ?_; intro gb662 hg w4 BK662 hb; have GW662 := zg (w := w) hg; replace HB := zB hb; have NB660_662 := zn hg BK660; have NB662_660 := zm hg BK660; replace BK660 := zk BK660 hb; have NB661_662 := zn hg BK661; have NB662_661 := zm hg BK661; replace BK661 := zk BK661 hb; clear hb hg; have hnb5 := NB660_661.out; have hnc5 := NB661_660.out; have hnb6 := NB660_662.out; have hnc6 := NB662_660.out; have ⟨_, _, _, _, _, _, _, _⟩ := cz4 BK660; have hnb8 := NB662_661.out; have hnc8 := NB661_662.out; have ⟨_, _, _, _, _, _, _, _⟩ := cz4 BK662; have ⟨_, _, _, _, _, _, _, _⟩ := cz4 BK661))
 refine bodyPost_ret (results_cell_row rfl _ _ gb661 45 #[.int .i64 a0_0, .int .i64 a0_1, .int .i64 a0_2, .string a0_3] (0, 0) _ rfl (by (with_reducible repeat (first | refine blk_drewN ?_ _ | refine blk_drew ?_ | refine blk_alloc ?_ _)); refine blk_put (cs := #[.int .i64 a0_0, .int .i64 a0_1, .int .i64 a0_2, .string (⟨#[]⟩ : ByteArray)]) ?_ 3 _ rfl; (with_reducible repeat (first | refine blk_drewN ?_ _ | refine blk_drew ?_ | refine blk_alloc ?_ _)); refine blk_put (cs := #[.int .i64 a0_0, .int .i64 a0_1, .int .i64 0, .string (⟨#[]⟩ : ByteArray)]) ?_ 2 _ rfl; (with_reducible repeat (first | refine blk_drewN ?_ _ | refine blk_drew ?_ | refine blk_alloc ?_ _)); refine blk_put (cs := #[.int .i64 a0_0, .int .i64 0, .int .i64 0, .string (⟨#[]⟩ : ByteArray)]) ?_ 1 _ rfl; (with_reducible repeat (first | refine blk_drewN ?_ _ | refine blk_drew ?_ | refine blk_alloc ?_ _)); refine blk_put (cs := #[.int .i64 0, .int .i64 0, .int .i64 0, .string (⟨#[]⟩ : ByteArray)]) ?_ 0 _ rfl; (with_reducible repeat (first | refine blk_drewN ?_ _ | refine blk_drew ?_ | refine blk_alloc ?_ _)); refine blk_far ?_ NB661_662.out _; (with_reducible repeat (first | refine blk_drewN ?_ _ | refine blk_drew ?_ | refine blk_alloc ?_ _)); refine blk_far ?_ NB661_662.out _; (with_reducible repeat (first | refine blk_drewN ?_ _ | refine blk_drew ?_ | refine blk_alloc ?_ _)); refine blk_far ?_ NB661_662.out _; (with_reducible repeat (first | refine blk_drewN ?_ _ | refine blk_drew ?_ | refine blk_alloc ?_ _)); refine blk_far ?_ NB661_662.out _; (with_reducible repeat (first | refine blk_drewN ?_ _ | refine blk_drew ?_ | refine blk_alloc ?_ _)); exact BK661.out) Tryz.underlying45 rfl (by kernel_rfl)) rfl ?_
 exact ⟨er, bel⟩

/-! ### impl_IsOpen: function 51 -/
def impl_IsOpen.f (a0_0 : Int) (a0_1 : Int) (a0_2 : Int) (a0_3 : ByteArray) (l0_4 : List (S89)) (l0_5 : List Int) (a0_6 : Int) (a0_7 : ByteArray) (a0_8 : Int) (a0_9 : Int) (a1 : Int) : Option (Bool) := if a1 ≥ a0_8 then (some (decide (a1 < a0_9))) else (some false)
set_option maxHeartbeats 8000000 in
set_option maxRecDepth 100000 in
theorem impl_IsOpen.calls (a0_0 : Int) (a0_1 : Int) (a0_2 : Int) (a0_3 : ByteArray) (A0_4 : Option Addr) (c0_4 : Nat) (l0_4 : List (S89)) (A0_5 : Option Addr) (c0_5 : Nat) (l0_5 : List Int) (a0_6 : Int) (a0_7 : ByteArray) (a0_8 : Int) (a0_9 : Int) (a1 : Int) (r : Bool) (w : World) (hr0_4 : Kd.C k89 w A0_4 l0_4.length l0_4) (hc0_4 : l0_4.length ≤ c0_4) (hr0_5 : Kd.C (Kd.int .i64) w A0_5 l0_5.length l0_5) (hc0_5 : l0_5.length ≤ c0_5) (H : impl_IsOpen.f a0_0 a0_1 a0_2 a0_3 l0_4 l0_5 a0_6 a0_7 a0_8 a0_9 a1 = some r) :
  Calls Tryz.prog 51 #[.agg #[.int .i64 a0_0, .int .i64 a0_1, .int .i64 a0_2, .string a0_3, .slice A0_4 l0_4.length c0_4, .slice A0_5 l0_5.length c0_5, .int .i64 a0_6, .string a0_7, .int .i64 a0_8, .int .i64 a0_9], .int .i64 a1] w fun e w' => e = .returned (.bool r) ∧ Below w.heap.size w w' := by
 have hu37 := Tryz.underlying37
 have HR0_4 := Aside0.mk hr0_4
 have HC0_4 := Aside0.mk hc0_4
 clear hr0_4 hc0_4
 have HR0_5 := Aside0.mk hr0_5
 have HC0_5 := Aside0.mk hc0_5
 clear hr0_5 hc0_5
 have HB := Aside0.mk (Below.refl w.heap.size w)
 unfold impl_IsOpen.f at H
 replace H := zc H
 rcases H with ⟨c3b0, H⟩ | ⟨c3b0, H⟩
 rotate_left
 focus
  obtain rfl := Option.some.inj H
 rotate_right
 focus
  obtain rfl := Option.some.inj H
 all_goals
  go_enter Tryz.func51, Tryz.ntmps51
  go_wp2_with (first | ((with_reducible refine zd 2 rfl ?_); refine zbx (w := w) #[.int .i64 a0_0, .int .i64 a0_1, .int .i64 a0_2, .string a0_3, .slice A0_4 l0_4.length c0_4, .slice A0_5 l0_5.length c0_5, .int .i64 a0_6, .string a0_7, .int .i64 a0_8, .int .i64 a0_9] 37 ?_; intro gb663 hg w1000 BK663 hb; have GW663 := zg (w := w) hg; replace HB := zB hb; clear hb hg; have ⟨_, _, _, _, _, _, _, _, _, _, _, _, _, _, _, _, _, _, _, _⟩ := cz10 BK663))
  go_ret
  exact ⟨er, bel⟩

/-! ### impl_IsEntry: function 18 -/
def impl_IsEntry.f (k : Nat) (a0_0 : Int) (a0_1 : Int) (a0_2 : Int) (a0_3 : ByteArray) (a1_0 : Int) (a1_1 : Int) (a1_2 : Int) (a1_3 : ByteArray) (l1_4 : List (S89)) (l1_5 : List Int) (a1_6 : Int) (a1_7 : ByteArray) (a1_8 : Int) (a1_9 : Int) : Option (Bool) := (impl_InRange.f a0_0 1 99).bind fun t666 => (if t666 = true then (if a0_1 = a1_0 then ((impl_IsIssue.f k a1_0 a1_1 a1_2 a1_3 l1_4 l1_5 a1_6 a1_7 a1_8 a1_9).bind fun t667 => (if t667 = true then ((impl_IsOpen.f a1_0 a1_1 a1_2 a1_3 l1_4 l1_5 a1_6 a1_7 a1_8 a1_9 a0_2).bind fun t668 => (if t668 = true then ((impl_IsFill.f k a1_1 a1_2 a1_3 a0_3).bind fun t669 => (some t669)) else (some false))) else (some false))) else (some false)) else (some false))
set_option maxHeartbeats 8000000 in
set_option maxRecDepth 100000 in
theorem impl_IsEntry.calls (k : Nat) (a0_0 : Int) (a0_1 : Int) (a0_2 : Int) (a0_3 : ByteArray) (a1_0 : Int) (a1_1 : Int) (a1_2 : Int) (a1_3 : ByteArray) (A1_4 : Option Addr) (c1_4 : Nat) (l1_4 : List (S89)) (A1_5 : Option Addr) (c1_5 : Nat) (l1_5 : List Int) (a1_6 : Int) (a1_7 : ByteArray) (a1_8 : Int) (a1_9 : Int) (r : Bool) (w : World) (hr1_4 : Kd.C k89 w A1_4 l1_4.length l1_4) (hc1_4 : l1_4.length ≤ c1_4) (hr1_5 : Kd.C (Kd.int .i64) w A1_5 l1_5.length l1_5) (hc1_5 : l1_5.length ≤ c1_5) (H : impl_IsEntry.f k a0_0 a0_1 a0_2 a0_3 a1_0 a1_1 a1_2 a1_3 l1_4 l1_5 a1_6 a1_7 a1_8 a1_9 = some r) :
  Calls Tryz.prog 18 #[.agg #[.int .i64 a0_0, .int .i64 a0_1, .int .i64 a0_2, .string a0_3], .agg #[.int .i64 a1_0, .int .i64 a1_1, .int .i64 a1_2, .string a1_3, .slice A1_4 l1_4.length c1_4, .slice A1_5 l1_5.length c1_5, .int .i64 a1_6, .string a1_7, .int .i64 a1_8, .int .i64 a1_9]] w fun e w' => e = .returned (.bool r) ∧ Below w.heap.size w w' := by
 have hu45 := Tryz.underlying45
 have hu37 := Tryz.underlying37
 have hu32 := Tryz.underlying32
 have HR1_4 := Aside0.mk hr1_4
 have HC1_4 := Aside0.mk hc1_4
 clear hr1_4 hc1_4
 have HR1_5 := Aside0.mk hr1_5
 have HC1_5 := Aside0.mk hc1_5
 clear hr1_5 hc1_5
 have HB := Aside0.mk (Below.refl w.heap.size w)
 unfold impl_IsEntry.f at H
 replace H := zs H
 obtain ⟨t666, A3, H⟩ := H
 replace H := zb H
 rcases H with ⟨rfl, H⟩ | ⟨rfl, H⟩
 rotate_left
 focus
  obtain rfl := Option.some.inj H
 rotate_right
 focus
  by_cases c5 : a0_1 = a1_0
  rotate_left
  focus
   rw [if_neg c5] at H
   have c5b0 : (a0_1 == a1_0) = false := beq_eq_false_iff_ne.mpr c5
   have c5b1 : (a0_1 != a1_0) = true := bne_iff_ne.mpr c5
   obtain rfl := Option.some.inj H
  rotate_right
  focus
   rw [if_pos c5] at H
   have c5b0 : (a0_1 == a1_0) = true := beq_iff_eq.mpr c5
   have c5b1 : (a0_1 != a1_0) = false := bne_eq_false_iff_eq.mpr c5
   clear c5
   replace H := zs H
   obtain ⟨t667, A6, H⟩ := H
   replace H := zb H
   rcases H with ⟨rfl, H⟩ | ⟨rfl, H⟩
   rotate_left
   focus
    obtain rfl := Option.some.inj H
   rotate_right
   focus
    replace H := zs H
    obtain ⟨t668, A8, H⟩ := H
    replace H := zb H
    rcases H with ⟨rfl, H⟩ | ⟨rfl, H⟩
    rotate_left
    focus
     obtain rfl := Option.some.inj H
    rotate_right
    focus
     replace H := zs H
     obtain ⟨t669, A10, H⟩ := H
     obtain rfl := Option.some.inj H
 all_goals
  go_enter Tryz.func18, Tryz.ntmps18
  go_wp2_with (first | ((with_reducible refine zd 2 rfl ?_); refine zbx (w := w) #[.int .i64 a0_0, .int .i64 a0_1, .int .i64 a0_2, .string a0_3] 45 ?_; intro gb664 hg w1000 BK664 hb; have GW664 := zg (w := w) hg; replace HB := zB hb; clear hb hg) | ((with_reducible refine zd 3 rfl ?_); refine zbx (w := w) #[.int .i64 a1_0, .int .i64 a1_1, .int .i64 a1_2, .string a1_3, .slice A1_4 l1_4.length c1_4, .slice A1_5 l1_5.length c1_5, .int .i64 a1_6, .string a1_7, .int .i64 a1_8, .int .i64 a1_9] 37 ?_; intro gb665 hg w1001 BK665 hb; have GW665 := zg (w := w) hg; replace HB := zB hb; have NB664_665 := zn hg BK664; have NB665_664 := zm hg BK664; replace BK664 := zk BK664 hb; clear hb hg; have hnb13 := NB664_665.out; have hnc13 := NB665_664.out; have ⟨_, _, _, _, _, _, _, _⟩ := cz4 BK664) | ((with_reducible refine zd 7 rfl ?_); refine zgl Tryz.func47 (impl_InRange.calls a0_0 1 99 _ _ A3.out) ?_; rintro e w' ⟨rfl, ⟨nd, rfl⟩⟩; refine ⟨_, rfl, ?_⟩; have ⟨_, _, _, _, _, _, _, _, _, _, _, _, _, _, _, _, _, _, _, _⟩ := cz10 BK665) | (go_at_call 13; (with_reducible refine (impl_IsIssue.calls k a1_0 a1_1 a1_2 a1_3 _ _ l1_4 _ _ l1_5 a1_6 a1_7 a1_8 a1_9 _ _ ?side1 ?side2 ?side3 ?side4 A6.out).mono ?_); (case side1 => repeat (first | exact (Kd.C_below HR1_4.out bel) | (with_reducible refine Kd.C_alloc ?_ _) | (with_reducible refine Kd.C_drewN ?_ _) | (with_reducible refine Kd.C_drew ?_))); (case side2 => exact HC1_4.out); (case side3 => repeat (first | exact (Kd.C_below HR1_5.out bel) | (with_reducible refine Kd.C_alloc ?_ _) | (with_reducible refine Kd.C_drewN ?_ _) | (with_reducible refine Kd.C_drew ?_))); (case side4 => exact HC1_5.out); rintro e w1002 ⟨rfl, hb⟩; replace BK664 := zk BK664 hb; replace BK665 := zk BK665 hb; replace HB := zB hb; have ⟨_, _, _, _, _, _, _, _, _, _, _, _, _, _, _, _, _, _, _, _⟩ := cz10 BK665; have ⟨_, _, _, _, _, _, _, _⟩ := cz4 BK664) | (go_at_call 51; (with_reducible refine (impl_IsOpen.calls a1_0 a1_1 a1_2 a1_3 _ _ l1_4 _ _ l1_5 a1_6 a1_7 a1_8 a1_9 a0_2 _ _ ?side1 ?side2 ?side3 ?side4 A8.out).mono ?_); (case side1 => repeat (first | exact (Kd.C_below HR1_4.out HB.out) | (with_reducible refine Kd.C_alloc ?_ _) | (with_reducible refine Kd.C_drewN ?_ _) | (with_reducible refine Kd.C_drew ?_))); (case side2 => exact HC1_4.out); (case side3 => repeat (first | exact (Kd.C_below HR1_5.out HB.out) | (with_reducible refine Kd.C_alloc ?_ _) | (with_reducible refine Kd.C_drewN ?_ _) | (with_reducible refine Kd.C_drew ?_))); (case side4 => exact HC1_5.out); rintro e w1003 ⟨rfl, hb⟩; replace BK664 := zk BK664 hb; replace BK665 := zk BK665 hb; replace HB := zB hb; have ⟨_, _, _, _, _, _, _, _, _, _, _, _, _, _, _, _, _, _, _, _⟩ := cz10 BK665; have ⟨_, _, _, _, _, _, _, _⟩ := cz4 BK664) | (go_at_call 52; (with_reducible refine (impl_IsFill.calls k a1_1 a1_2 a1_3 a0_3 t669 _ A10.out).mono ?_); rintro e w1004 ⟨rfl, hb⟩; replace BK664 := zk BK664 hb; replace BK665 := zk BK665 hb; replace HB := zB hb) | ((with_reducible refine zd 3 rfl ?_); refine zbx (w := w) #[.int .i64 a1_0, .int .i64 a1_1, .int .i64 a1_2, .string a1_3, .slice A1_4 l1_4.length c1_4, .slice A1_5 l1_5.length c1_5, .int .i64 a1_6, .string a1_7, .int .i64 a1_8, .int .i64 a1_9] 37 ?_; intro gb665 hg w1001 BK665 hb; have GW665 := zg (w := w) hg; replace HB := zB hb; have NB664_665 := zn hg BK664; have NB665_664 := zm hg BK664; replace BK664 := zk BK664 hb; clear hb hg; have hnb25 := NB664_665.out; have hnc25 := NB665_664.out; have ⟨_, _, _, _, _, _, _, _⟩ := cz4 BK664) | (go_at_call 51; (with_reducible refine (impl_IsOpen.calls a1_0 a1_1 a1_2 a1_3 _ _ l1_4 _ _ l1_5 a1_6 a1_7 a1_8 a1_9 a0_2 _ _ ?side1 ?side2 ?side3 ?side4 A8.out).mono ?_); (case side1 => repeat (first | exact (Kd.C_below HR1_4.out HB.out) | (with_reducible refine Kd.C_alloc ?_ _) | (with_reducible refine Kd.C_drewN ?_ _) | (with_reducible refine Kd.C_drew ?_))); (case side2 => exact HC1_4.out); (case side3 => repeat (first | exact (Kd.C_below HR1_5.out HB.out) | (with_reducible refine Kd.C_alloc ?_ _) | (with_reducible refine Kd.C_drewN ?_ _) | (with_reducible refine Kd.C_drew ?_))); (case side4 => exact HC1_5.out); rintro e w1003 ⟨rfl, hb⟩; replace BK664 := zk BK664 hb; replace BK665 := zk BK665 hb; replace HB := zB hb) | ((with_reducible refine zd 3 rfl ?_); refine zbx (w := w) #[.int .i64 a1_0, .int .i64 a1_1, .int .i64 a1_2, .string a1_3, .slice A1_4 l1_4.length c1_4, .slice A1_5 l1_5.length c1_5, .int .i64 a1_6, .string a1_7, .int .i64 a1_8, .int .i64 a1_9] 37 ?_; intro gb665 hg w1001 BK665 hb; have GW665 := zg (w := w) hg; replace HB := zB hb; have NB664_665 := zn hg BK664; have NB665_664 := zm hg BK664; replace BK664 := zk BK664 hb; clear hb hg; have hnb34 := NB664_665.out; have hnc34 := NB665_664.out; have ⟨_, _, _, _, _, _, _, _⟩ := cz4 BK664) | (go_at_call 13; (with_reducible refine (impl_IsIssue.calls k a1_0 a1_1 a1_2 a1_3 _ _ l1_4 _ _ l1_5 a1_6 a1_7 a1_8 a1_9 _ _ ?side1 ?side2 ?side3 ?side4 A6.out).mono ?_); (case side1 => repeat (first | exact (Kd.C_below HR1_4.out bel) | (with_reducible refine Kd.C_alloc ?_ _) | (with_reducible refine Kd.C_drewN ?_ _) | (with_reducible refine Kd.C_drew ?_))); (case side2 => exact HC1_4.out); (case side3 => repeat (first | exact (Kd.C_below HR1_5.out bel) | (with_reducible refine Kd.C_alloc ?_ _) | (with_reducible refine Kd.C_drewN ?_ _) | (with_reducible refine Kd.C_drew ?_))); (case side4 => exact HC1_5.out); rintro e w1002 ⟨rfl, hb⟩; replace BK664 := zk BK664 hb; replace BK665 := zk BK665 hb; replace HB := zB hb) | ((with_reducible refine zd 3 rfl ?_); refine zbx (w := w) #[.int .i64 a1_0, .int .i64 a1_1, .int .i64 a1_2, .string a1_3, .slice A1_4 l1_4.length c1_4, .slice A1_5 l1_5.length c1_5, .int .i64 a1_6, .string a1_7, .int .i64 a1_8, .int .i64 a1_9] 37 ?_; intro gb665 hg w1001 BK665 hb; have GW665 := zg (w := w) hg; replace HB := zB hb; have NB664_665 := zn hg BK664; have NB665_664 := zm hg BK664; replace BK664 := zk BK664 hb; clear hb hg; have hnb40 := NB664_665.out; have hnc40 := NB665_664.out; have ⟨_, _, _, _, _, _, _, _⟩ := cz4 BK664) | ((with_reducible refine zd 3 rfl ?_); refine zbx (w := w) #[.int .i64 a1_0, .int .i64 a1_1, .int .i64 a1_2, .string a1_3, .slice A1_4 l1_4.length c1_4, .slice A1_5 l1_5.length c1_5, .int .i64 a1_6, .string a1_7, .int .i64 a1_8, .int .i64 a1_9] 37 ?_; intro gb665 hg w1001 BK665 hb; have GW665 := zg (w := w) hg; replace HB := zB hb; have NB664_665 := zn hg BK664; have NB665_664 := zm hg BK664; replace BK664 := zk BK664 hb; clear hb hg; have hnb45 := NB664_665.out; have hnc45 := NB665_664.out; have ⟨_, _, _, _, _, _, _, _⟩ := cz4 BK664) | ((with_reducible refine zd 7 rfl ?_); refine zgl Tryz.func47 (impl_InRange.calls a0_0 1 99 _ _ A3.out) ?_; rintro e w' ⟨rfl, ⟨nd, rfl⟩⟩; refine ⟨_, rfl, ?_⟩))
  go_ret
  exact ⟨er, bel⟩

end Go.Proofs.YtpcdfjcbjbkliaaGreat.E
