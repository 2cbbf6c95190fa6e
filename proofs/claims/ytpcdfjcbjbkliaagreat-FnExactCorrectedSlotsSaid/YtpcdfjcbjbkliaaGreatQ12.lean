import Derived.Test.YtpcdfjcbjbkliaaGreatSq
import Derived.Test.YtpcdfjcbjbkliaaGreatQ0
import Derived.Test.YtpcdfjcbjbkliaaGreatQ4
import Derived.Test.YtpcdfjcbjbkliaaGreatQ5
import Derived.Test.YtpcdfjcbjbkliaaGreatQ6
import Derived.Test.YtpcdfjcbjbkliaaGreatQ7
import Derived.Test.YtpcdfjcbjbkliaaGreatQ11
namespace Go.Proofs.YtpcdfjcbjbkliaaGreat.E
open Go.RowKit Go.Proofs.YtpcdfjcbjbkliaaGreatW.PrintWords Go.Proofs.YtpcdfjcbjbkliaaGreatW.PrintLast Go.Proofs.YtpcdfjcbjbkliaaGreatW.PrintMore
attribute [local go_sem] max2_int min2_int max_two min_two max_three min_three max_four min_four
set_option linter.unusedVariables false
set_option linter.unusedSimpArgs false

/-! ### spec_SlotsAt: function 151 -/
def spec_SlotsAt.l0 : Nat → Int → List Int → List (S132) → Int → Int → Int → ByteArray → Option (List Int)
 | 0, _, _, _, _, _, _, _ => none
 | k + 1, a, b, c, d, e, f, g => if d < (c.length : Int) then (if 0 ≤ d then ((spec_CellsOf.f k e f g ((rd_T132 c d).f0) ((rd_T132 c d).f1) ((rd_T132 c d).f2) ((rd_T132 c d).f3)).bind fun h => ((spec_l8Has.f k h a).bind fun i => (if i = true then (if b.length < 17592186044416 then (spec_SlotsAt.l0 k a (b ++ [d]) c (wrap64 (d + 1)) e f g) else (none)) else (spec_SlotsAt.l0 k a b c (wrap64 (d + 1)) e f g)))) else (none)) else (some b)
def spec_SlotsAt.f (k : Nat) (a b : Int) (c : ByteArray) (d : Int) : Option (List Int) := (spec_SlotsOf.f k a b c).bind fun e => (spec_SlotsAt.l0 k d (([] : List Int)) e 0 a b c)
def spec_SlotsAt.T6 : Bool × List (List Nat × List Nat) := (true, [([], []), ([], []), ([], []), ([1, 2], [1, 2]), ([3], [3]), ([0, 4], [0, 4]), ([], []), ([5, 6, 5], [5, 6])])
theorem spec_SlotsAt.tab6 : rtab .any (opsOf Tryz.f151 6) = spec_SlotsAt.T6 := by kernel_rfl
set_option maxHeartbeats 8000000 in
set_option maxRecDepth 100000 in
theorem spec_SlotsAt.calls (k : Nat) (a0_0 a0_1 : Int) (a0_2 : ByteArray) (a1 : Int) (r : List Int) (w : World) (H : spec_SlotsAt.f k a0_0 a0_1 a0_2 a1 = some r) :
  Calls Tryz.prog 151 #[.agg #[.int .i64 a0_0, .int .i64 a0_1, .string a0_2], .int .i64 a1] w fun e w' => ∃ v0_ : Value, e = .returned (v0_) ∧ Kd.R (Kd.int .i64) 3 w' w.heap.size (fun _ => True) v0_ r ∧ Below w.heap.size w w' := by
 have hu32 := Tryz.underlying32
 have hu132 := Tryz.underlying132
 have HB := Aside0.mk (Below.refl w.heap.size w)
 unfold spec_SlotsAt.f at H
 generalize hy374 : (([] : List Int) : List Int) = y374 at H
 have Ny374 := Aside0.mk hy374.symm
 clear hy374
 replace H := zs H
 obtain ⟨t377, A3, H⟩ := H
 have H' := Aside0.mk H
 clear H
 go_enter Tryz.func151, Tryz.ntmps151
 go_wp2_with (first | ((with_reducible refine zd 2 rfl ?_); refine zbx (w := w) #[.int .i64 a0_0, .int .i64 a0_1, .string a0_2] 32 ?_; intro gb373 hg w4 BK373 hb; have GW373 := zg (w := w) hg; replace HB := zB hb; clear hb hg) | ((with_reducible refine gate_dst (N := 8) rfl ?_); refine Kd.R_lit (Kd.int .i64) _ 3 ?hg (N := 8) ?hd (xs := ([] : List Int)) (inner := []) (ok := fun _ => True) (okp := fun _ => True) ?hr ?hp (fun _ hk => hk) trivial (Below.refl _ _) (Nat.le_refl _) (by simp) ?_; (case hd => rfl); (case hg => rfl); (case hr => first | (go_simp; done) | (go_simp; rfl)); (case hp => exact (Reps.none _ _)); intro v375 w5 ho6 hb hg_ hnew_; clear hg_ hnew_; (first | rw [← Ny374.out] at ho6 | (simp only [Int.reduceToNat] at ho6; rw [← Ny374.out] at ho6)); have HO376 := zl2 ho6; replace BK373 := zk BK373 hb; replace HB := zB hb; clear hb ho6; have ⟨_, _, _, _, _, _⟩ := cz3 BK373) | ((with_reducible refine zd 10 rfl ?_); refine zgl Tryz.func87 (spec_SlotsOf.calls k a0_0 a0_1 a0_2 t377 _ A3.out) ?_; rintro e w8 ⟨v378, rfl, ho0, hb⟩; refine ⟨_, rfl, ?_⟩; replace HO376 := zR HO376 hb; have HO379 := zl2 ho0; replace BK373 := zk BK373 hb; replace HB := zB hb))
 go_loopg [5, 7] k (fun kq v5 v7 w' => ∃ (x5_1 : List Int) (x7_1 : Int), v7 = .int .i64 x7_1 ∧ Aside0 (spec_SlotsAt.l0 kq a1 x5_1 t377 x7_1 a0_0 a0_1 a0_2 = some r) ∧ Aside0 (kq ≤ k) ∧ Aside0 (Kd.R (Kd.int .i64) 3 w' w.heap.size (fun _ => True) v5 x5_1) ∧ Aside0 (Kd.R k132 132 w' w.heap.size (fun _ => True) v378 t377) ∧ Aside0 (w'.heap[gb373]? = some (.cells #[.int .i64 a0_0, .int .i64 a0_1, .string a0_2] 32 (0, 0))) ∧ Aside0 (Below w.heap.size w w'))
 case atStart => exact ⟨(y374), (0), rf, H', ⟨Nat.le_refl _⟩, ⟨kr HO376⟩, ⟨kr HO379⟩, ⟨bk BK373⟩, ⟨bel⟩⟩
 case round =>
  clear H'
  obtain ⟨x5_1, x7_1, rfl, HA, HK1, HO_5, HO_6, BK373, HB⟩ := hrel
  cases gk with
  | zero => exact absurd HA.out (by simp [spec_SlotsAt.l0])
  | succ k1 =>
   have H := HA.out
   clear HA
   simp only [spec_SlotsAt.l0] at H
   replace H := zc H
   rcases H with ⟨c9b0, H⟩ | ⟨c9b0, H⟩
   ·
    replace H := zr H
    obtain ⟨c10b0, H⟩ := H
    replace H := zs H
    obtain ⟨t381, A11, H⟩ := H
    replace H := zs H
    obtain ⟨t384, A12, H⟩ := H
    replace H := zb H
    rcases H with ⟨rfl, H⟩ | ⟨rfl, H⟩
    ·
     replace H := zl H
     obtain ⟨LMc14, H⟩ := H
     generalize hy385 : (x5_1 ++ [x7_1] : List Int) = y385 at H
     have Ny385 := Aside0.mk hy385.symm
     clear hy385
     have H' := Aside0.mk H
     clear H
     obtain ⟨Ao15, co15, eo15⟩ := Kd.R_slice HO_6.out
     subst eo15
     try go_wp2
     replace HO_5 := zRd HO_5
     replace HO_6 := zRd HO_6
     replace BK373 := zkd BK373
     replace HB := zBd HB
     obtain ⟨p380, q380, ad380, e380, hx380_0, hx380_1, hx380_2, hx380_3⟩ := zx (at_T132 (Kd.R_reads' HO_6.out).2.2 x7_1)
     cases e380
     refine zst 8 spec_SlotsAt.tab6 (zb3 BK373 <| zhc hx380_0 <| zhc hx380_1 <| zhc hx380_2 <| zhc hx380_3 <| zn0) fun hHeld HT_ => ?_
     generalize wr.drew = w16 at HO_5 HO_6 BK373 HB hx380_0 hx380_1 hx380_2 hx380_3 hHeld ⊢
     repeat (first | refine zs1 ?_ | (refine zcl Tryz.func115 (spec_CellsOf.calls k1 a0_0 a0_1 a0_2 ((rd_T132 t377 x7_1).f0) ((rd_T132 t377 x7_1).f1) ((rd_T132 t377 x7_1).f2) ((rd_T132 t377 x7_1).f3) t381 _ A11.out) ?_; rintro e w17 ⟨v382, rfl, ho0, hb⟩; replace HO_6 := zR HO_6 hb; have HO383 := Aside0.mk (Kd.R_lower (Kd.R_new' ho0 (Kd.R_lt (kr HO_5))) bsz); replace HO_5 := Aside0.mk (Kd.R_elder' (kr HO_5) (Kd.R_base ho0) hb); replace BK373 := zk BK373 hb; replace HB := zB hb; obtain ⟨Ao18, co18, eo18⟩ := Kd.R_slice HO383.out; (first | subst eo18 | (injection eo18 with f1_ f2_ f3_; have f4_ := f1_.symm; have f5_ := f3_.symm; clear f1_ f2_ f3_; subst f4_; subst f5_)); refine ⟨_, rfl, zHb hb hHeld, _, znb, fun hHeld => ?_⟩) | (refine zcl Tryz.func173 (spec_l8Has.calls k1 _ _ t381 a1 true _ (zCr HO383) ((Kd.R_reads' HO383.out).2.1) A12.out) ?_; rintro e w' ⟨rfl, ⟨nd, rfl⟩⟩; refine ⟨_, rfl, zHd hHeld, _, znb, fun hHeld => ?_⟩))
     refine zdn ?_
     try go_wp2_with (first | ((with_reducible refine gate_builtin (b := .append) (xs := #[.tmp 25, .tmp 27]) rfl ?_); at_builtin; refine Kd.R_append (Kd.int .i64) (w0 := w) w.heap.size rfl (.tmp 25) (.tmp 27) 25 3 (.int .i64 0) 8 rfl Tryz.underlying25 info3 rfl (by decide) (by omega) u5 x5_1 x7_1 [.int .i64 x7_1] (fun k_ => some k_ ≠ (.slice Ao18 t381.length co18 : Value).ownBlock) (fun _ => False) rfl rfl ?aP (fun _ hk => hk.elim) ?aF ?aO ?aB ?aS ?aL ?_; (case aP => exact rfl); (case aB => exact bel); (case aF => exact (fun k_ hk => Kd.fresh' (Kd.R_lt (kr HO383)) k_ hk)); (case aO => exact (by (with_reducible repeat (first | apply Kd.R_alloc | apply Kd.R_drewN | apply Kd.R_drew)); exact Kd.R_mono HO_5.out (fun _ hk => hk.2))); (case aS => exact bsz); (case aL => have := LMc14.out; omega); intro v386 w19 ho hb hg hat; rw [← Ny385.out] at ho; replace HO_6 := Aside0.mk (Kd.R_over' (kr HO_6) (Kd.R_typed (kr HO_5)) (by decide) hg); replace BK373 := Aside0.mk (blk_grown (bk BK373) hg (Kd.R_ne HO_5.out BK373.out (by decide))); replace HO383 := Aside0.mk (Kd.R_after (ok := (fun _ => True)) (kr HO383) hg hat); replace HB := Aside0.mk hb; have HO387 := Aside0.mk ho; clear HO_5; clear ho hb hg hat))
     go_roundg k1
     case measure => have := HK1.out; omega
     case rel => exact ⟨(y385), (wrap64 (x7_1 + 1)), rf, H', ⟨by have := HK1.out; omega⟩, ⟨by (with_reducible repeat (first | apply Kd.R_alloc | apply Kd.R_drewN | apply Kd.R_drew)); exact Kd.R_mono HO387.out (fun _ hk => trivial)⟩, ⟨kr HO_6⟩, ⟨bk BK373⟩, ⟨bel⟩⟩
    ·
     have H' := Aside0.mk H
     clear H
     obtain ⟨Ao20, co20, eo20⟩ := Kd.R_slice HO_6.out
     subst eo20
     try go_wp2
     replace HO_5 := zRd HO_5
     replace HO_6 := zRd HO_6
     replace BK373 := zkd BK373
     replace HB := zBd HB
     obtain ⟨p380, q380, ad380, e380, hx380_0, hx380_1, hx380_2, hx380_3⟩ := zx (at_T132 (Kd.R_reads' HO_6.out).2.2 x7_1)
     cases e380
     refine zst 8 spec_SlotsAt.tab6 (zb3 BK373 <| zhc hx380_0 <| zhc hx380_1 <| zhc hx380_2 <| zhc hx380_3 <| zn0) fun hHeld HT_ => ?_
     generalize wr.drew = w21 at HO_5 HO_6 BK373 HB hx380_0 hx380_1 hx380_2 hx380_3 hHeld ⊢
     repeat (first | refine zs1 ?_ | (refine zcl Tryz.func115 (spec_CellsOf.calls k1 a0_0 a0_1 a0_2 ((rd_T132 t377 x7_1).f0) ((rd_T132 t377 x7_1).f1) ((rd_T132 t377 x7_1).f2) ((rd_T132 t377 x7_1).f3) t381 _ A11.out) ?_; rintro e w22 ⟨v382, rfl, ho0, hb⟩; replace HO_6 := zR HO_6 hb; have HO383 := Aside0.mk (Kd.R_lower (Kd.R_new' ho0 (Kd.R_lt (kr HO_5))) bsz); replace HO_5 := Aside0.mk (Kd.R_elder' (kr HO_5) (Kd.R_base ho0) hb); replace BK373 := zk BK373 hb; replace HB := zB hb; obtain ⟨Ao23, co23, eo23⟩ := Kd.R_slice HO383.out; (first | subst eo23 | (injection eo23 with f1_ f2_ f3_; have f4_ := f1_.symm; have f5_ := f3_.symm; clear f1_ f2_ f3_; subst f4_; subst f5_)); refine ⟨_, rfl, zHb hb hHeld, _, znb, fun hHeld => ?_⟩) | (refine zcl Tryz.func173 (spec_l8Has.calls k1 _ _ t381 a1 false _ (zCr HO383) ((Kd.R_reads' HO383.out).2.1) A12.out) ?_; rintro e w' ⟨rfl, ⟨nd, rfl⟩⟩; refine ⟨_, rfl, zHd hHeld, _, znb, fun hHeld => ?_⟩))
     refine zdn ?_
     try go_wp2
     go_roundg k1
     case measure => have := HK1.out; omega
     case rel => exact ⟨(x5_1), (wrap64 (x7_1 + 1)), rf, H', ⟨by have := HK1.out; omega⟩, ⟨by (with_reducible repeat (first | apply Kd.R_alloc | apply Kd.R_drewN | apply Kd.R_drew)); exact Kd.R_mono HO_5.out (fun _ hk => trivial)⟩, ⟨kr HO_6⟩, ⟨bk BK373⟩, ⟨bel⟩⟩
   ·
    obtain rfl := Option.some.inj H
    obtain ⟨Ao24, co24, eo24⟩ := Kd.R_slice HO_6.out
    subst eo24
    go_wp2
    go_ret
    exact ⟨_, er, kr HO_5, bel⟩

/-! ### spec_IsChecked: function 172 -/
def spec_IsChecked.f (k : Nat) (a b : Int) (c : ByteArray) (d : Int) : Option (Bool) := (spec_SlotsAt.f k a b c d).bind fun e => (some ((e.length : Int) == 2))
set_option maxHeartbeats 8000000 in
set_option maxRecDepth 100000 in
theorem spec_IsChecked.calls (k : Nat) (a0_0 a0_1 : Int) (a0_2 : ByteArray) (a1 : Int) (r : Bool) (w : World) (H : spec_IsChecked.f k a0_0 a0_1 a0_2 a1 = some r) :
  Calls Tryz.prog 172 #[.agg #[.int .i64 a0_0, .int .i64 a0_1, .string a0_2], .int .i64 a1] w fun e w' => e = .returned (.bool r) ∧ Below w.heap.size w w' := by
 have hu32 := Tryz.underlying32
 have HB := Aside0.mk (Below.refl w.heap.size w)
 unfold spec_IsChecked.f at H
 replace H := zs H
 obtain ⟨t389, A3, H⟩ := H
 obtain rfl := Option.some.inj H
 go_enter Tryz.func172, Tryz.ntmps172
 go_wp2_with (first | ((with_reducible refine zd 2 rfl ?_); refine zbx (w := w) #[.int .i64 a0_0, .int .i64 a0_1, .string a0_2] 32 ?_; intro gb388 hg w4 BK388 hb; have GW388 := zg (w := w) hg; replace HB := zB hb; clear hb hg; have ⟨_, _, _, _, _, _⟩ := cz3 BK388) | ((with_reducible refine zd 7 rfl ?_); refine zgl Tryz.func151 (spec_SlotsAt.calls k a0_0 a0_1 a0_2 a1 t389 _ A3.out) ?_; rintro e w6 ⟨v390, rfl, ho0, hb⟩; refine ⟨_, rfl, ?_⟩; have HO391 := zl2 ho0; replace BK388 := zk BK388 hb; replace HB := zB hb; obtain ⟨Ao7, co7, eo7⟩ := Kd.R_slice HO391.out; subst eo7))
 go_ret
 exact ⟨er, bel⟩

/-! ### spec_UncheckedIn: function 149 -/
def spec_UncheckedIn.l0 : Nat → List Int → Int → Int → Int → Int → ByteArray → Option (Int)
 | 0, _, _, _, _, _, _ => none
 | k + 1, a, b, c, d, e, f => if c < (a.length : Int) then (if 0 ≤ c then ((spec_IsChecked.f k d e f (rd a c)).bind fun g => (if g = true then (spec_UncheckedIn.l0 k a b (wrap64 (c + 1)) d e f) else (spec_UncheckedIn.l0 k a (wrap64 (b + 1)) (wrap64 (c + 1)) d e f))) else (none)) else (some b)
def spec_UncheckedIn.f (k : Nat) (a b : Int) (c : ByteArray) (d : Int) : Option (Int) := (spec_SlotsOf.f k a b c).bind fun e => ((spec_l1In.f d 0 (wrap64 ((e.length : Int) - 1))).bind fun f => (if f = true then (if 0 ≤ d then (if d < (e.length : Int) then ((spec_CellsOf.f k a b c ((rd_T132 e d).f0) ((rd_T132 e d).f1) ((rd_T132 e d).f2) ((rd_T132 e d).f3)).bind fun g => (spec_UncheckedIn.l0 k g 0 0 a b c)) else (none)) else (none)) else (some (-1))))
set_option maxHeartbeats 8000000 in
set_option maxRecDepth 100000 in
theorem spec_UncheckedIn.calls (k : Nat) (a0_0 a0_1 : Int) (a0_2 : ByteArray) (a1 r : Int) (w : World) (H : spec_UncheckedIn.f k a0_0 a0_1 a0_2 a1 = some r) :
  Calls Tryz.prog 149 #[.agg #[.int .i64 a0_0, .int .i64 a0_1, .string a0_2], .int .i64 a1] w fun e w' => e = .returned (.int .i64 r) ∧ Below w.heap.size w w' := by
 have hu32 := Tryz.underlying32
 have hu132 := Tryz.underlying132
 have HB := Aside0.mk (Below.refl w.heap.size w)
 unfold spec_UncheckedIn.f at H
 replace H := zs H
 obtain ⟨t393, A3, H⟩ := H
 replace H := zs H
 obtain ⟨t396, A4, H⟩ := H
 replace H := zb H
 rcases H with ⟨rfl, H⟩ | ⟨rfl, H⟩
 ·
  replace H := zr H
  obtain ⟨c6b0, H⟩ := H
  replace H := zr H
  obtain ⟨c7b0, H⟩ := H
  replace H := zs H
  obtain ⟨t398, A8, H⟩ := H
  have H' := Aside0.mk H
  clear H
  go_enter Tryz.func149, Tryz.ntmps149
  try go_wp2_with (first | ((with_reducible refine zd 2 rfl ?_); refine zbx (w := w) #[.int .i64 a0_0, .int .i64 a0_1, .string a0_2] 32 ?_; intro gb392 hg w9 BK392 hb; have GW392 := zg (w := w) hg; replace HB := zB hb; clear hb hg; have ⟨_, _, _, _, _, _⟩ := cz3 BK392) | ((with_reducible refine zd 10 rfl ?_); refine zgl Tryz.func87 (spec_SlotsOf.calls k a0_0 a0_1 a0_2 t393 _ A3.out) ?_; rintro e w11 ⟨v394, rfl, ho0, hb⟩; refine ⟨_, rfl, ?_⟩; have HO395 := zl2 ho0; replace BK392 := zk BK392 hb; replace HB := zB hb; obtain ⟨Ao12, co12, eo12⟩ := Kd.R_slice HO395.out; subst eo12) | ((with_reducible refine zd 15 rfl ?_); refine zgl Tryz.func45 (spec_l1In.calls a1 0 (wrap64 ((t393.length : Int) - 1)) true _ A4.out) ?_; rintro e w' ⟨rfl, ⟨nd, rfl⟩⟩; refine ⟨_, rfl, ?_⟩))
  (try (rw [drewN_self w11]; generalize hq_ : World.drewN w11 _ = w11; have n0_ : Aside0 (Kd.R k132 132 w11 w.heap.size (fun _ => True) (.slice Ao12 t393.length co12) t393) := ⟨by rw [← hq_]; exact (kr HO395)⟩; have n1_ : Aside0 (w11.heap[gb392]? = some (.cells #[.int .i64 a0_0, .int .i64 a0_1, .string a0_2] 32 (0, 0))) := ⟨by rw [← hq_]; exact (bk BK392)⟩; have n2_ : Aside0 (Below w.heap.size w w11) := ⟨by rw [← hq_]; exact bel⟩; clear HO395 BK392 HB hq_; have HO395 := n0_; have BK392 := n1_; have HB := n2_; clear n0_ n1_ n2_))
  replace HO395 := zRd HO395
  replace BK392 := zkd BK392
  replace HB := zBd HB
  obtain ⟨p397, q397, ad397, e397, hx397_0, hx397_1, hx397_2, hx397_3⟩ := zx (at_T132 (Kd.R_reads' HO395.out).2.2 a1)
  cases e397
  refine zst 7 rfl (zb3 BK392 <| zhc hx397_0 <| zhc hx397_1 <| zhc hx397_2 <| zhc hx397_3 <| zn0) fun hHeld HT_ => ?_
  generalize w11.drew = w13 at HO395 BK392 HB hx397_0 hx397_1 hx397_2 hx397_3 hHeld ⊢
  repeat (first | refine zs1 ?_ | (refine zcl Tryz.func115 (spec_CellsOf.calls k a0_0 a0_1 a0_2 ((rd_T132 t393 a1).f0) ((rd_T132 t393 a1).f1) ((rd_T132 t393 a1).f2) ((rd_T132 t393 a1).f3) t398 _ A8.out) ?_; rintro e w14 ⟨v399, rfl, ho0, hb⟩; replace HO395 := zR HO395 hb; have HO400 := zl2 ho0; replace BK392 := zk BK392 hb; replace HB := zB hb; refine ⟨_, rfl, zHb hb hHeld, _, znb, fun hHeld => ?_⟩))
  refine zdn ?_
  try go_wp2
  go_loopg [7, 8] k (fun kq v7 v8 w' => ∃ (x7_1 : Int) (x8_1 : Int), v7 = .int .i64 x7_1 ∧ v8 = .int .i64 x8_1 ∧ Aside0 (spec_UncheckedIn.l0 kq t398 x7_1 x8_1 a0_0 a0_1 a0_2 = some r) ∧ Aside0 (kq ≤ k) ∧ Aside0 (Kd.R (Kd.int .i64) 3 w' w.heap.size (fun _ => True) v399 t398) ∧ Aside0 (w'.heap[gb392]? = some (.cells #[.int .i64 a0_0, .int .i64 a0_1, .string a0_2] 32 (0, 0))) ∧ Aside0 (Below w.heap.size w w'))
  case atStart => exact ⟨(0), (0), rf, rf, H', ⟨Nat.le_refl _⟩, ⟨kr HO400⟩, ⟨bk BK392⟩, ⟨bel⟩⟩
  case round =>
   clear H'
   obtain ⟨x7_1, x8_1, rfl, rfl, HA, HK1, HO_6, BK392, HB⟩ := hrel
   cases gk with
   | zero => exact absurd HA.out (by simp [spec_UncheckedIn.l0])
   | succ k1 =>
    have H := HA.out
    clear HA
    simp only [spec_UncheckedIn.l0] at H
    replace H := zc H
    rcases H with ⟨c15b0, H⟩ | ⟨c15b0, H⟩
    ·
     replace H := zr H
     obtain ⟨c16b0, H⟩ := H
     replace H := zs H
     obtain ⟨t402, A17, H⟩ := H
     replace H := zb H
     rcases H with ⟨rfl, H⟩ | ⟨rfl, H⟩
     ·
      have H' := Aside0.mk H
      clear H
      obtain ⟨Ao19, co19, eo19⟩ := Kd.R_slice HO_6.out
      subst eo19
      try go_wp2
      replace HO_6 := zRd HO_6
      replace BK392 := zkd BK392
      replace HB := zBd HB
      obtain ⟨p401, q401, ad401, e401, hx401_0⟩ := zx (Kd.at_int (Kd.R_reads' HO_6.out).2.2 x8_1)
      cases e401
      refine zst 7 rfl (zb3 BK392 <| zhc hx401_0 <| zn0) fun hHeld HT_ => ?_
      generalize wr.drew = w20 at HO_6 BK392 HB hx401_0 hHeld ⊢
      repeat (first | refine zs1 ?_ | (refine zcl Tryz.func172 (spec_IsChecked.calls k1 a0_0 a0_1 a0_2 (rd t398 x8_1) true _ A17.out) ?_; rintro e w21 ⟨rfl, hb⟩; replace HO_6 := zR HO_6 hb; replace BK392 := zk BK392 hb; replace HB := zB hb; refine ⟨_, rfl, zHb hb hHeld, _, znb, fun hHeld => ?_⟩))
      refine zdn ?_
      try go_wp2
      go_roundg k1
      case measure => have := HK1.out; omega
      case rel => exact ⟨(x7_1), (wrap64 (x8_1 + 1)), rf, rf, H', ⟨by have := HK1.out; omega⟩, ⟨kr HO_6⟩, ⟨bk BK392⟩, ⟨bel⟩⟩
     ·
      have H' := Aside0.mk H
      clear H
      obtain ⟨Ao22, co22, eo22⟩ := Kd.R_slice HO_6.out
      subst eo22
      try go_wp2
      replace HO_6 := zRd HO_6
      replace BK392 := zkd BK392
      replace HB := zBd HB
      obtain ⟨p401, q401, ad401, e401, hx401_0⟩ := zx (Kd.at_int (Kd.R_reads' HO_6.out).2.2 x8_1)
      cases e401
      refine zst 7 rfl (zb3 BK392 <| zhc hx401_0 <| zn0) fun hHeld HT_ => ?_
      generalize wr.drew = w23 at HO_6 BK392 HB hx401_0 hHeld ⊢
      repeat (first | refine zs1 ?_ | (refine zcl Tryz.func172 (spec_IsChecked.calls k1 a0_0 a0_1 a0_2 (rd t398 x8_1) false _ A17.out) ?_; rintro e w24 ⟨rfl, hb⟩; replace HO_6 := zR HO_6 hb; replace BK392 := zk BK392 hb; replace HB := zB hb; refine ⟨_, rfl, zHb hb hHeld, _, znb, fun hHeld => ?_⟩))
      refine zdn ?_
      try go_wp2
      go_roundg k1
      case measure => have := HK1.out; omega
      case rel => exact ⟨(wrap64 (x7_1 + 1)), (wrap64 (x8_1 + 1)), rf, rf, H', ⟨by have := HK1.out; omega⟩, ⟨kr HO_6⟩, ⟨bk BK392⟩, ⟨bel⟩⟩
    ·
     obtain rfl := Option.some.inj H
     obtain ⟨Ao25, co25, eo25⟩ := Kd.R_slice HO_6.out
     subst eo25
     go_wp2
     go_ret
     exact ⟨er, bel⟩
 ·
  obtain rfl := Option.some.inj H
  go_enter Tryz.func149, Tryz.ntmps149
  go_wp2_with (first | ((with_reducible refine zd 2 rfl ?_); refine zbx (w := w) #[.int .i64 a0_0, .int .i64 a0_1, .string a0_2] 32 ?_; intro gb392 hg w26 BK392 hb; have GW392 := zg (w := w) hg; replace HB := zB hb; clear hb hg; have ⟨_, _, _, _, _, _⟩ := cz3 BK392) | ((with_reducible refine zd 10 rfl ?_); refine zgl Tryz.func87 (spec_SlotsOf.calls k a0_0 a0_1 a0_2 t393 _ A3.out) ?_; rintro e w28 ⟨v394, rfl, ho0, hb⟩; refine ⟨_, rfl, ?_⟩; have HO395 := zl2 ho0; replace BK392 := zk BK392 hb; replace HB := zB hb; obtain ⟨Ao29, co29, eo29⟩ := Kd.R_slice HO395.out; subst eo29) | ((with_reducible refine zd 15 rfl ?_); refine zgl Tryz.func45 (spec_l1In.calls a1 0 (wrap64 ((t393.length : Int) - 1)) false _ A4.out) ?_; rintro e w' ⟨rfl, ⟨nd, rfl⟩⟩; refine ⟨_, rfl, ?_⟩))
  go_ret
  exact ⟨er, bel⟩

/-! ### spec_IsWhite: function 150 -/
def spec_IsWhite.f (k : Nat) (a b : Int) (c : ByteArray) (d : Int) : Option (Bool) := (spec_IsGrid.f k a b c).bind fun e => (if e = true then ((spec_l1In.f d 0 (wrap64 ((c.size : Int) - 1))).bind fun f => (if f = true then (if 0 ≤ d then (if d < (c.size : Int) then (some ((bt c d) == 46)) else (none)) else (none)) else (some false))) else (some false))
set_option maxHeartbeats 8000000 in
set_option maxRecDepth 100000 in
theorem spec_IsWhite.calls (k : Nat) (a0_0 a0_1 : Int) (a0_2 : ByteArray) (a1 : Int) (r : Bool) (w : World) (H : spec_IsWhite.f k a0_0 a0_1 a0_2 a1 = some r) :
  Calls Tryz.prog 150 #[.agg #[.int .i64 a0_0, .int .i64 a0_1, .string a0_2], .int .i64 a1] w fun e w' => e = .returned (.bool r) ∧ Below w.heap.size w w' := by
 have hu32 := Tryz.underlying32
 have HB := Aside0.mk (Below.refl w.heap.size w)
 unfold spec_IsWhite.f at H
 replace H := zs H
 obtain ⟨t404, A3, H⟩ := H
 replace H := zb H
 rcases H with ⟨rfl, H⟩ | ⟨rfl, H⟩
 rotate_left
 focus
  obtain rfl := Option.some.inj H
 rotate_right
 focus
  replace H := zs H
  obtain ⟨t405, A5, H⟩ := H
  replace H := zb H
  rcases H with ⟨rfl, H⟩ | ⟨rfl, H⟩
  rotate_left
  focus
   obtain rfl := Option.some.inj H
  rotate_right
  focus
   replace H := zr H
   obtain ⟨c7b0, H⟩ := H
   replace H := zr H
   obtain ⟨c8b0, H⟩ := H
   obtain rfl := Option.some.inj H
 all_goals
  go_enter Tryz.func150, Tryz.ntmps150
  go_wp2_with (first | ((with_reducible refine zd 2 rfl ?_); (try (refine gate_guard (by rfl) ?_; dsimp only)); refine zbx (w := w) #[.int .i64 a0_0, .int .i64 a0_1, .string a0_2] 32 ?_; intro gb403 hg w1000 BK403 hb; have GW403 := zg (w := w) hg; replace HB := zB hb; clear hb hg; have ⟨_, _, _, _, _, _⟩ := cz3 BK403) | ((with_reducible refine zd 6 rfl ?_); refine zgl Tryz.func84 (spec_IsGrid.calls k a0_0 a0_1 a0_2 _ _ A3.out) ?_; rintro e w1001 ⟨rfl, hb⟩; refine ⟨_, rfl, ?_⟩; replace BK403 := zk BK403 hb; replace HB := zB hb; have ⟨_, _, _, _, _, _⟩ := cz3 BK403) | (go_at_call 45; (with_reducible refine (spec_l1In.calls a1 0 (wrap64 ((a0_2.size : Int) - 1)) true _ A5.out).mono ?_); rintro e w' ⟨rfl, ⟨nd, rfl⟩⟩; have p9 : 0 ≤ (a1 : Int) := of_decide_eq_true asm; have q9 : a1 < (a0_2.size : Int) := of_decide_eq_true asm; have hx1002 := bt_at a0_2 a1; replace p9 := eq_true p9; replace q9 := eq_true q9) | (go_at_call 45; (with_reducible refine (spec_l1In.calls a1 0 (wrap64 ((a0_2.size : Int) - 1)) false _ A5.out).mono ?_); rintro e w' ⟨rfl, ⟨nd, rfl⟩⟩) | ((with_reducible refine zd 6 rfl ?_); refine zgl Tryz.func84 (spec_IsGrid.calls k a0_0 a0_1 a0_2 _ _ A3.out) ?_; rintro e w1001 ⟨rfl, hb⟩; refine ⟨_, rfl, ?_⟩; replace BK403 := zk BK403 hb; replace HB := zB hb))
  go_ret
  exact ⟨er, bel⟩

end Go.Proofs.YtpcdfjcbjbkliaaGreat.E
