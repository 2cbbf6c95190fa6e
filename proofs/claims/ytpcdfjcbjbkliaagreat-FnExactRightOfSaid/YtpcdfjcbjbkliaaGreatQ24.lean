import Derived.Test.YtpcdfjcbjbkliaaGreatSq
import Derived.Test.YtpcdfjcbjbkliaaGreatQ0
import Derived.Test.YtpcdfjcbjbkliaaGreatQ7
import Derived.Test.YtpcdfjcbjbkliaaGreatQ16
import Derived.Test.YtpcdfjcbjbkliaaGreatQ22
namespace Go.Proofs.YtpcdfjcbjbkliaaGreat.E
open Go.RowKit Go.Proofs.YtpcdfjcbjbkliaaGreatW.PrintWords Go.Proofs.YtpcdfjcbjbkliaaGreatW.PrintLast Go.Proofs.YtpcdfjcbjbkliaaGreatW.PrintMore
attribute [local go_sem] max2_int min2_int max_two min_two max_three min_three max_four min_four
set_option linter.unusedVariables false
set_option linter.unusedSimpArgs false

/-! ### spec_RightOf: function 19 -/
def spec_RightOf.f (k : Nat) (a0_0 : Int) (a0_1 : Int) (a0_2 : Int) (a0_3 : ByteArray) (a1_0 : Int) (a1_1 : Int) (a1_2 : Int) (a1_3 : ByteArray) (l1_4 : List (S89)) (l1_5 : List Int) (a1_6 : Int) (a1_7 : ByteArray) (a1_8 : Int) (a1_9 : Int) : Option (Int) := (spec_IsEntry.f k a0_0 a0_1 a0_2 a0_3 a1_0 a1_1 a1_2 a1_3 l1_4 l1_5 a1_6 a1_7 a1_8 a1_9).bind fun t730 => (if t730 = true then ((spec_RightSlots.f k a1_1 a1_2 a1_3 a0_3 l1_5 a1_6).bind fun t731 => (some (t731.length : Int))) else (some 0))
set_option maxHeartbeats 8000000 in
set_option maxRecDepth 100000 in
theorem spec_RightOf.calls (k : Nat) (a0_0 : Int) (a0_1 : Int) (a0_2 : Int) (a0_3 : ByteArray) (a1_0 : Int) (a1_1 : Int) (a1_2 : Int) (a1_3 : ByteArray) (A1_4 : Option Addr) (c1_4 : Nat) (l1_4 : List (S89)) (A1_5 : Option Addr) (c1_5 : Nat) (l1_5 : List Int) (a1_6 : Int) (a1_7 : ByteArray) (a1_8 : Int) (a1_9 : Int) (r : Int) (w : World) (hr1_4 : Kd.C k89 w A1_4 l1_4.length l1_4) (hc1_4 : l1_4.length ≤ c1_4) (hr1_5 : Kd.C (Kd.int .i64) w A1_5 l1_5.length l1_5) (hc1_5 : l1_5.length ≤ c1_5) (H : spec_RightOf.f k a0_0 a0_1 a0_2 a0_3 a1_0 a1_1 a1_2 a1_3 l1_4 l1_5 a1_6 a1_7 a1_8 a1_9 = some r) :
  Calls Tryz.prog 19 #[.agg #[.int .i64 a0_0, .int .i64 a0_1, .int .i64 a0_2, .string a0_3], .agg #[.int .i64 a1_0, .int .i64 a1_1, .int .i64 a1_2, .string a1_3, .slice A1_4 l1_4.length c1_4, .slice A1_5 l1_5.length c1_5, .int .i64 a1_6, .string a1_7, .int .i64 a1_8, .int .i64 a1_9]] w fun e w' => e = .returned (.int .i64 r) ∧ Below w.heap.size w w' := by
 have hu45 := Tryz.underlying45
 have hu37 := Tryz.underlying37
 have hu32 := Tryz.underlying32
 have HR1_4 := Aside0.mk hr1_4
 have HC1_4 := Aside0.mk hc1_4
 clear hr1_4 hc1_4
 have HR1_5 := Aside0.mk hr1_5
 have HC1_5 := Aside0.mk hc1_5
 clear hr1_5 hc1_5
 have HB := Aside0.mk (Below.refl w.heap.size w)
 unfold spec_RightOf.f at H
 replace H := zs H
 obtain ⟨t730, A3, H⟩ := H
 replace H := zb H
 rcases H with ⟨rfl, H⟩ | ⟨rfl, H⟩
 rotate_left
 focus
  obtain rfl := Option.some.inj H
 rotate_right
 focus
  replace H := zs H
  obtain ⟨t731, A5, H⟩ := H
  obtain rfl := Option.some.inj H
 all_goals
  go_enter Tryz.func19, Tryz.ntmps19
  go_wp2_with (first | ((with_reducible refine zd 2 rfl ?_); refine zbx (w := w) #[.int .i64 a0_0, .int .i64 a0_1, .int .i64 a0_2, .string a0_3] 45 ?_; intro gb728 hg w1000 BK728 hb; have GW728 := zg (w := w) hg; replace HB := zB hb; clear hb hg) | ((with_reducible refine zd 3 rfl ?_); refine zbx (w := w) #[.int .i64 a1_0, .int .i64 a1_1, .int .i64 a1_2, .string a1_3, .slice A1_4 l1_4.length c1_4, .slice A1_5 l1_5.length c1_5, .int .i64 a1_6, .string a1_7, .int .i64 a1_8, .int .i64 a1_9] 37 ?_; intro gb729 hg w1001 BK729 hb; have GW729 := zg (w := w) hg; replace HB := zB hb; have NB728_729 := zn hg BK728; have NB729_728 := zm hg BK728; replace BK728 := zk BK728 hb; clear hb hg; have hnb8 := NB728_729.out; have hnc8 := NB729_728.out; have ⟨_, _, _, _, _, _, _, _⟩ := cz4 BK728; have ⟨_, _, _, _, _, _, _, _, _, _, _, _, _, _, _, _, _, _, _, _⟩ := cz10 BK729) | ((with_reducible refine zd 7 rfl ?_); refine zgl Tryz.func16 (spec_IsEntry.calls k a0_0 a0_1 a0_2 a0_3 a1_0 a1_1 a1_2 a1_3 _ _ l1_4 _ _ l1_5 a1_6 a1_7 a1_8 a1_9 _ _ (zC HR1_4) HC1_4.out (zC HR1_5) HC1_5.out A3.out) ?_; rintro e w1002 ⟨rfl, hb⟩; refine ⟨_, rfl, ?_⟩; replace BK728 := zk BK728 hb; replace BK729 := zk BK729 hb; replace HB := zB hb; have ⟨_, _, _, _, _, _, _, _, _, _, _, _, _, _, _, _, _, _, _, _⟩ := cz10 BK729; have ⟨_, _, _, _, _, _, _, _⟩ := cz4 BK728) | ((with_reducible refine zd 20 rfl ?_); refine zgl Tryz.func53 (spec_RightSlots.calls k a1_1 a1_2 a1_3 a0_3 _ _ l1_5 a1_6 t731 _ (zC HR1_5) HC1_5.out A5.out) ?_; rintro e w1003 ⟨v732, rfl, ho0, hb⟩; refine ⟨_, rfl, ?_⟩; have HO733 := zl2 ho0; replace BK728 := zk BK728 hb; replace BK729 := zk BK729 hb; replace HB := zB hb; obtain ⟨Ao1004, co1005, eo1006⟩ := Kd.R_slice HO733.out; subst eo1006) | ((with_reducible refine zd 3 rfl ?_); refine zbx (w := w) #[.int .i64 a1_0, .int .i64 a1_1, .int .i64 a1_2, .string a1_3, .slice A1_4 l1_4.length c1_4, .slice A1_5 l1_5.length c1_5, .int .i64 a1_6, .string a1_7, .int .i64 a1_8, .int .i64 a1_9] 37 ?_; intro gb729 hg w1001 BK729 hb; have GW729 := zg (w := w) hg; replace HB := zB hb; have NB728_729 := zn hg BK728; have NB729_728 := zm hg BK728; replace BK728 := zk BK728 hb; clear hb hg; have hnb18 := NB728_729.out; have hnc18 := NB729_728.out; have ⟨_, _, _, _, _, _, _, _⟩ := cz4 BK728; have ⟨_, _, _, _, _, _, _, _, _, _, _, _, _, _, _, _, _, _, _, _⟩ := cz10 BK729) | ((with_reducible refine zd 7 rfl ?_); refine zgl Tryz.func16 (spec_IsEntry.calls k a0_0 a0_1 a0_2 a0_3 a1_0 a1_1 a1_2 a1_3 _ _ l1_4 _ _ l1_5 a1_6 a1_7 a1_8 a1_9 _ _ (zC HR1_4) HC1_4.out (zC HR1_5) HC1_5.out A3.out) ?_; rintro e w1002 ⟨rfl, hb⟩; refine ⟨_, rfl, ?_⟩; replace BK728 := zk BK728 hb; replace BK729 := zk BK729 hb; replace HB := zB hb))
  go_ret
  exact ⟨er, bel⟩

/-! ### impl_RightOf: function 20 -/
def impl_RightOf.f (k : Nat) (a0_0 : Int) (a0_1 : Int) (a0_2 : Int) (a0_3 : ByteArray) (a1_0 : Int) (a1_1 : Int) (a1_2 : Int) (a1_3 : ByteArray) (l1_4 : List (S89)) (l1_5 : List Int) (a1_6 : Int) (a1_7 : ByteArray) (a1_8 : Int) (a1_9 : Int) : Option (Int) := (impl_IsEntry.f k a0_0 a0_1 a0_2 a0_3 a1_0 a1_1 a1_2 a1_3 l1_4 l1_5 a1_6 a1_7 a1_8 a1_9).bind fun t736 => (if t736 = true then ((impl_RightSlots.f k a1_1 a1_2 a1_3 a0_3 l1_5 a1_6).bind fun t737 => (some (t737.length : Int))) else (some 0))
set_option maxHeartbeats 8000000 in
set_option maxRecDepth 100000 in
theorem impl_RightOf.calls (k : Nat) (a0_0 : Int) (a0_1 : Int) (a0_2 : Int) (a0_3 : ByteArray) (a1_0 : Int) (a1_1 : Int) (a1_2 : Int) (a1_3 : ByteArray) (A1_4 : Option Addr) (c1_4 : Nat) (l1_4 : List (S89)) (A1_5 : Option Addr) (c1_5 : Nat) (l1_5 : List Int) (a1_6 : Int) (a1_7 : ByteArray) (a1_8 : Int) (a1_9 : Int) (r : Int) (w : World) (hr1_4 : Kd.C k89 w A1_4 l1_4.length l1_4) (hc1_4 : l1_4.length ≤ c1_4) (hr1_5 : Kd.C (Kd.int .i64) w A1_5 l1_5.length l1_5) (hc1_5 : l1_5.length ≤ c1_5) (H : impl_RightOf.f k a0_0 a0_1 a0_2 a0_3 a1_0 a1_1 a1_2 a1_3 l1_4 l1_5 a1_6 a1_7 a1_8 a1_9 = some r) :
  Calls Tryz.prog 20 #[.agg #[.int .i64 a0_0, .int .i64 a0_1, .int .i64 a0_2, .string a0_3], .agg #[.int .i64 a1_0, .int .i64 a1_1, .int .i64 a1_2, .string a1_3, .slice A1_4 l1_4.length c1_4, .slice A1_5 l1_5.length c1_5, .int .i64 a1_6, .string a1_7, .int .i64 a1_8, .int .i64 a1_9]] w fun e w' => e = .returned (.int .i64 r) ∧ Below w.heap.size w w' := by
 have hu45 := Tryz.underlying45
 have hu37 := Tryz.underlying37
 have hu32 := Tryz.underlying32
 have HR1_4 := Aside0.mk hr1_4
 have HC1_4 := Aside0.mk hc1_4
 clear hr1_4 hc1_4
 have HR1_5 := Aside0.mk hr1_5
 have HC1_5 := Aside0.mk hc1_5
 clear hr1_5 hc1_5
 have HB := Aside0.mk (Below.refl w.heap.size w)
 unfold impl_RightOf.f at H
 replace H := zs H
 obtain ⟨t736, A3, H⟩ := H
 replace H := zb H
 rcases H with ⟨rfl, H⟩ | ⟨rfl, H⟩
 rotate_left
 focus
  obtain rfl := Option.some.inj H
 rotate_right
 focus
  replace H := zs H
  obtain ⟨t737, A5, H⟩ := H
  obtain rfl := Option.some.inj H
 all_goals
  go_enter Tryz.func20, Tryz.ntmps20
  go_wp2_with (first | ((with_reducible refine zd 2 rfl ?_); refine zbx (w := w) #[.int .i64 a0_0, .int .i64 a0_1, .int .i64 a0_2, .string a0_3] 45 ?_; intro gb734 hg w1000 BK734 hb; have GW734 := zg (w := w) hg; replace HB := zB hb; clear hb hg) | ((with_reducible refine zd 3 rfl ?_); refine zbx (w := w) #[.int .i64 a1_0, .int .i64 a1_1, .int .i64 a1_2, .string a1_3, .slice A1_4 l1_4.length c1_4, .slice A1_5 l1_5.length c1_5, .int .i64 a1_6, .string a1_7, .int .i64 a1_8, .int .i64 a1_9] 37 ?_; intro gb735 hg w1001 BK735 hb; have GW735 := zg (w := w) hg; replace HB := zB hb; have NB734_735 := zn hg BK734; have NB735_734 := zm hg BK734; replace BK734 := zk BK734 hb; clear hb hg; have hnb8 := NB734_735.out; have hnc8 := NB735_734.out; have ⟨_, _, _, _, _, _, _, _⟩ := cz4 BK734; have ⟨_, _, _, _, _, _, _, _, _, _, _, _, _, _, _, _, _, _, _, _⟩ := cz10 BK735) | ((with_reducible refine zd 7 rfl ?_); refine zgl Tryz.func18 (impl_IsEntry.calls k a0_0 a0_1 a0_2 a0_3 a1_0 a1_1 a1_2 a1_3 _ _ l1_4 _ _ l1_5 a1_6 a1_7 a1_8 a1_9 _ _ (zC HR1_4) HC1_4.out (zC HR1_5) HC1_5.out A3.out) ?_; rintro e w1002 ⟨rfl, hb⟩; refine ⟨_, rfl, ?_⟩; replace BK734 := zk BK734 hb; replace BK735 := zk BK735 hb; replace HB := zB hb; have ⟨_, _, _, _, _, _, _, _, _, _, _, _, _, _, _, _, _, _, _, _⟩ := cz10 BK735; have ⟨_, _, _, _, _, _, _, _⟩ := cz4 BK734) | ((with_reducible refine zd 20 rfl ?_); refine zgl Tryz.func54 (impl_RightSlots.calls k a1_1 a1_2 a1_3 a0_3 _ _ l1_5 a1_6 t737 _ (zC HR1_5) HC1_5.out A5.out) ?_; rintro e w1003 ⟨v738, rfl, ho0, hb⟩; refine ⟨_, rfl, ?_⟩; have HO739 := zl2 ho0; replace BK734 := zk BK734 hb; replace BK735 := zk BK735 hb; replace HB := zB hb; obtain ⟨Ao1004, co1005, eo1006⟩ := Kd.R_slice HO739.out; subst eo1006) | ((with_reducible refine zd 3 rfl ?_); refine zbx (w := w) #[.int .i64 a1_0, .int .i64 a1_1, .int .i64 a1_2, .string a1_3, .slice A1_4 l1_4.length c1_4, .slice A1_5 l1_5.length c1_5, .int .i64 a1_6, .string a1_7, .int .i64 a1_8, .int .i64 a1_9] 37 ?_; intro gb735 hg w1001 BK735 hb; have GW735 := zg (w := w) hg; replace HB := zB hb; have NB734_735 := zn hg BK734; have NB735_734 := zm hg BK734; replace BK734 := zk BK734 hb; clear hb hg; have hnb18 := NB734_735.out; have hnc18 := NB735_734.out; have ⟨_, _, _, _, _, _, _, _⟩ := cz4 BK734; have ⟨_, _, _, _, _, _, _, _, _, _, _, _, _, _, _, _, _, _, _, _⟩ := cz10 BK735) | ((with_reducible refine zd 7 rfl ?_); refine zgl Tryz.func18 (impl_IsEntry.calls k a0_0 a0_1 a0_2 a0_3 a1_0 a1_1 a1_2 a1_3 _ _ l1_4 _ _ l1_5 a1_6 a1_7 a1_8 a1_9 _ _ (zC HR1_4) HC1_4.out (zC HR1_5) HC1_5.out A3.out) ?_; rintro e w1002 ⟨rfl, hb⟩; refine ⟨_, rfl, ?_⟩; replace BK734 := zk BK734 hb; replace BK735 := zk BK735 hb; replace HB := zB hb))
  go_ret
  exact ⟨er, bel⟩

end Go.Proofs.YtpcdfjcbjbkliaaGreat.E
