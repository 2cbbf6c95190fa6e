import Derived.Test.YtpcdfjcbjbkliaaGreatSq
import Derived.Test.YtpcdfjcbjbkliaaGreatQ0
import Derived.Test.YtpcdfjcbjbkliaaGreatQ3
import Derived.Test.YtpcdfjcbjbkliaaGreatQ5
import Derived.Test.YtpcdfjcbjbkliaaGreatQ6
import Derived.Test.YtpcdfjcbjbkliaaGreatQ10
namespace Go.Proofs.YtpcdfjcbjbkliaaGreat.E
open Go.RowKit Go.Proofs.YtpcdfjcbjbkliaaGreatW.PrintWords Go.Proofs.YtpcdfjcbjbkliaaGreatW.PrintLast Go.Proofs.YtpcdfjcbjbkliaaGreatW.PrintMore
attribute [local go_sem] max2_int min2_int max_two min_two max_three min_three max_four min_four
set_option linter.unusedVariables false
set_option linter.unusedSimpArgs false

/-! ### spec_SlotsAt: function 151 -/
def spec_SlotsAt.l0 : Nat → Int → List Int → List (S132) → Int → Int → Int → ByteArray → Option (List Int)
 | 0, _, _, _, _, _, _, _ => none
 | k + 1, x1, x5, x6, x7, x287000, x287001, x287002 => if x7 < (x6.length : Int) then (if 0 ≤ x7 then ((spec_CellsOf.f k x287000 x287001 x287002 ((rd_T132 x6 x7).f0) ((rd_T132 x6 x7).f1) ((rd_T132 x6 x7).f2) ((rd_T132 x6 x7).f3)).bind fun t294 => ((spec_l8Has.f k t294 x1).bind fun t297 => (if t297 = true then (if x5.length < 17592186044416 then (spec_SlotsAt.l0 k x1 (x5 ++ [x7]) x6 (wrap64 (x7 + 1)) x287000 x287001 x287002) else (none)) else (spec_SlotsAt.l0 k x1 x5 x6 (wrap64 (x7 + 1)) x287000 x287001 x287002)))) else (none)) else (some x5)
def spec_SlotsAt.f (k : Nat) (a0_0 : Int) (a0_1 : Int) (a0_2 : ByteArray) (a1 : Int) : Option (List Int) := (spec_SlotsOf.f k a0_0 a0_1 a0_2).bind fun t290 => (spec_SlotsAt.l0 k a1 (([] : List Int)) t290 0 a0_0 a0_1 a0_2)
def spec_SlotsAt.T6 : Bool × List (List Nat × List Nat) := (true, [([], []), ([], []), ([], []), ([1, 2], [1, 2]), ([3], [3]), ([0, 4], [0, 4]), ([], []), ([5, 6, 5], [5, 6])])
theorem spec_SlotsAt.tab6 : rtab .any (opsOf Tryz.f151 6) = spec_SlotsAt.T6 := by kernel_rfl
set_option maxHeartbeats 8000000 in
set_option maxRecDepth 100000 in
theorem spec_SlotsAt.calls (k : Nat) (a0_0 : Int) (a0_1 : Int) (a0_2 : ByteArray) (a1 : Int) (r : List Int) (w : World) (H : spec_SlotsAt.f k a0_0 a0_1 a0_2 a1 = some r) :
  Calls Tryz.prog 151 #[.agg #[.int .i64 a0_0, .int .i64 a0_1, .string a0_2], .int .i64 a1] w fun e w' => ∃ v0_ : Value, e = .returned (v0_) ∧ Kd.R (Kd.int .i64) 3 w' w.heap.size (fun _ => True) v0_ r ∧ Below w.heap.size w w' := by
 have hu32 := Tryz.underlying32
 have hu132 := Tryz.underlying132
 have HB := Aside0.mk (Below.refl w.heap.size w)
 unfold spec_SlotsAt.f at H
 generalize hy287 : (([] : List Int) : List Int) = y287 at H
 have Ny287 := Aside0.mk hy287.symm
 clear hy287
 replace H := zs H
 obtain ⟨t290, A3, H⟩ := H
 have H' := Aside0.mk H
 clear H
 go_enter Tryz.func151, Tryz.ntmps151
 go_wp2_with (first | ((with_reducible refine zd 2 rfl ?_); refine zbx (w := w) #[.int .i64 a0_0, .int .i64 a0_1, .string a0_2] 32 ?_; intro gb286 hg w4 BK286 hb; have GW286 := zg (w := w) hg; replace HB := zB hb; clear hb hg) | ((with_reducible refine gate_dst (N := 8) rfl ?_); refine Kd.R_lit (Kd.int .i64) _ 3 ?hg (N := 8) ?hd (xs := ([] : List Int)) (inner := []) (ok := fun _ => True) (okp := fun _ => True) ?hr ?hp (fun _ hk => hk) trivial (Below.refl _ _) (Nat.le_refl _) (by simp) ?_; (case hd => rfl); (case hg => rfl); (case hr => first | (go_simp; done) | (go_simp; rfl)); (case hp => exact (Reps.none _ _)); intro v288 w5 ho6 hb hg_ hnew_; clear hg_ hnew_; (first | rw [← Ny287.out] at ho6 | (simp only [Int.reduceToNat] at ho6; rw [← Ny287.out] at ho6)); have HO289 := zl2 ho6; replace BK286 := zk BK286 hb; replace HB := zB hb; clear hb ho6; have ⟨_, _, _, _, _, _⟩ := cz3 BK286) | ((with_reducible refine zd 10 rfl ?_); refine zgl Tryz.func87 (spec_SlotsOf.calls k a0_0 a0_1 a0_2 t290 _ A3.out) ?_; rintro e w8 ⟨v291, rfl, ho0, hb⟩; refine ⟨_, rfl, ?_⟩; replace HO289 := zR HO289 hb; have HO292 := zl2 ho0; replace BK286 := zk BK286 hb; replace HB := zB hb))
 go_loopg [5, 7] k (fun kq v5 v7 w' => ∃ (x5_1 : List Int) (x7_1 : Int), v7 = .int .i64 x7_1 ∧ Aside0 (spec_SlotsAt.l0 kq a1 x5_1 t290 x7_1 a0_0 a0_1 a0_2 = some r) ∧ Aside0 (kq ≤ k) ∧ Aside0 (Kd.R (Kd.int .i64) 3 w' w.heap.size (fun _ => True) v5 x5_1) ∧ Aside0 (Kd.R k132 132 w' w.heap.size (fun _ => True) v291 t290) ∧ Aside0 (w'.heap[gb286]? = some (.cells #[.int .i64 a0_0, .int .i64 a0_1, .string a0_2] 32 (0, 0))) ∧ Aside0 (Below w.heap.size w w'))
 case atStart => exact ⟨(y287), (0), rf, H', ⟨Nat.le_refl _⟩, ⟨kr HO289⟩, ⟨kr HO292⟩, ⟨bk BK286⟩, ⟨bel⟩⟩
 case round =>
  clear H'
  obtain ⟨x5_1, x7_1, rfl, HA, HK1, HO_5, HO_6, BK286, HB⟩ := hrel
  cases gk with
  | zero => exact absurd HA.out (by simp [spec_SlotsAt.l0])
  | succ k1 =>
   have H := HA.out
   clear HA
   simp only [spec_SlotsAt.l0] at H
   replace H := zc H
   rcases H with ⟨c9b0, H⟩ | ⟨c9b0, H⟩
   ·
    replace H := zr H
    obtain ⟨c10b0, H⟩ := H
    replace H := zs H
    obtain ⟨t294, A11, H⟩ := H
    replace H := zs H
    obtain ⟨t297, A12, H⟩ := H
    replace H := zb H
    rcases H with ⟨rfl, H⟩ | ⟨rfl, H⟩
    ·
     replace H := zl H
     obtain ⟨LMc14, H⟩ := H
     generalize hy298 : (x5_1 ++ [x7_1] : List Int) = y298 at H
     have Ny298 := Aside0.mk hy298.symm
     clear hy298
     have H' := Aside0.mk H
     clear H
     obtain ⟨Ao15, co15, eo15⟩ := Kd.R_slice HO_6.out
     subst eo15
     try go_wp2
     replace HO_5 := zRd HO_5
     replace HO_6 := zRd HO_6
     replace BK286 := zkd BK286
     replace HB := zBd HB
     obtain ⟨p293, q293, ad293, e293, hx293_0, hx293_1, hx293_2, hx293_3⟩ := zx (at_T132 (Kd.R_reads' HO_6.out).2.2 x7_1)
     cases e293
     refine zst 8 spec_SlotsAt.tab6 (zb3 BK286 <| zhc hx293_0 <| zhc hx293_1 <| zhc hx293_2 <| zhc hx293_3 <| zn0) fun hHeld HT_ => ?_
     generalize wr.drew = w16 at HO_5 HO_6 BK286 HB hx293_0 hx293_1 hx293_2 hx293_3 hHeld ⊢
     repeat (first | refine zs1 ?_ | (refine zcl Tryz.func115 (spec_CellsOf.calls k1 a0_0 a0_1 a0_2 ((rd_T132 t290 x7_1).f0) ((rd_T132 t290 x7_1).f1) ((rd_T132 t290 x7_1).f2) ((rd_T132 t290 x7_1).f3) t294 _ A11.out) ?_; rintro e w17 ⟨v295, rfl, ho0, hb⟩; replace HO_6 := zR HO_6 hb; have HO296 := Aside0.mk (Kd.R_lower (Kd.R_new' ho0 (Kd.R_lt (kr HO_5))) bsz); replace HO_5 := Aside0.mk (Kd.R_elder' (kr HO_5) (Kd.R_base ho0) hb); replace BK286 := zk BK286 hb; replace HB := zB hb; obtain ⟨Ao18, co18, eo18⟩ := Kd.R_slice HO296.out; (first | subst eo18 | (injection eo18 with f1_ f2_ f3_; have f4_ := f1_.symm; have f5_ := f3_.symm; clear f1_ f2_ f3_; subst f4_; subst f5_)); refine ⟨_, rfl, zHb hb hHeld, _, znb, fun hHeld => ?_⟩) | (refine zcl Tryz.func173 (spec_l8Has.calls k1 _ _ t294 a1 true _ (zCr HO296) ((Kd.R_reads' HO296.out).2.1) A12.out) ?_; rintro e w' ⟨rfl, ⟨nd, rfl⟩⟩; refine ⟨_, rfl, zHd hHeld, _, znb, fun hHeld => ?_⟩))
     refine zdn ?_
     try go_wp2_with (first | ((with_reducible refine gate_builtin (b := .append) (xs := #[.tmp 25, .tmp 27]) rfl ?_); at_builtin; refine Kd.R_append (Kd.int .i64) (w0 := w) w.heap.size rfl (.tmp 25) (.tmp 27) 25 3 (.int .i64 0) 8 rfl Tryz.underlying25 info3 rfl (by decide) (by omega) u5 x5_1 x7_1 [.int .i64 x7_1] (fun k_ => some k_ ≠ (.slice Ao18 t294.length co18 : Value).ownBlock) (fun _ => False) rfl rfl ?aP (fun _ hk => hk.elim) ?aF ?aO ?aB ?aS ?aL ?_; (case aP => exact rfl); (case aB => exact bel); (case aF => exact (fun k_ hk => Kd.fresh' (Kd.R_lt (kr HO296)) k_ hk)); (case aO => exact (by (with_reducible repeat (first | apply Kd.R_alloc | apply Kd.R_drewN | apply Kd.R_drew)); exact Kd.R_mono HO_5.out (fun _ hk => hk.2))); (case aS => exact bsz); (case aL => have := LMc14.out; omega); intro v299 w19 ho hb hg hat; rw [← Ny298.out] at ho; replace HO_6 := Aside0.mk (Kd.R_over' (kr HO_6) (Kd.R_typed (kr HO_5)) (by decide) hg); replace BK286 := Aside0.mk (blk_grown (bk BK286) hg (Kd.R_ne HO_5.out BK286.out (by decide))); replace HO296 := Aside0.mk (Kd.R_after (ok := (fun _ => True)) (kr HO296) hg hat); replace HB := Aside0.mk hb; have HO300 := Aside0.mk ho; clear HO_5; clear ho hb hg hat))
     go_roundg k1
     case measure => have := HK1.out; omega
     case rel => exact ⟨(y298), (wrap64 (x7_1 + 1)), rf, H', ⟨by have := HK1.out; omega⟩, ⟨by (with_reducible repeat (first | apply Kd.R_alloc | apply Kd.R_drewN | apply Kd.R_drew)); exact Kd.R_mono HO300.out (fun _ hk => trivial)⟩, ⟨kr HO_6⟩, ⟨bk BK286⟩, ⟨bel⟩⟩
    ·
     have H' := Aside0.mk H
     clear H
     obtain ⟨Ao20, co20, eo20⟩ := Kd.R_slice HO_6.out
     subst eo20
     try go_wp2
     replace HO_5 := zRd HO_5
     replace HO_6 := zRd HO_6
     replace BK286 := zkd BK286
     replace HB := zBd HB
     obtain ⟨p293, q293, ad293, e293, hx293_0, hx293_1, hx293_2, hx293_3⟩ := zx (at_T132 (Kd.R_reads' HO_6.out).2.2 x7_1)
     cases e293
     refine zst 8 spec_SlotsAt.tab6 (zb3 BK286 <| zhc hx293_0 <| zhc hx293_1 <| zhc hx293_2 <| zhc hx293_3 <| zn0) fun hHeld HT_ => ?_
     generalize wr.drew = w21 at HO_5 HO_6 BK286 HB hx293_0 hx293_1 hx293_2 hx293_3 hHeld ⊢
     repeat (first | refine zs1 ?_ | (refine zcl Tryz.func115 (spec_CellsOf.calls k1 a0_0 a0_1 a0_2 ((rd_T132 t290 x7_1).f0) ((rd_T132 t290 x7_1).f1) ((rd_T132 t290 x7_1).f2) ((rd_T132 t290 x7_1).f3) t294 _ A11.out) ?_; rintro e w22 ⟨v295, rfl, ho0, hb⟩; replace HO_6 := zR HO_6 hb; have HO296 := Aside0.mk (Kd.R_lower (Kd.R_new' ho0 (Kd.R_lt (kr HO_5))) bsz); replace HO_5 := Aside0.mk (Kd.R_elder' (kr HO_5) (Kd.R_base ho0) hb); replace BK286 := zk BK286 hb; replace HB := zB hb; obtain ⟨Ao23, co23, eo23⟩ := Kd.R_slice HO296.out; (first | subst eo23 | (injection eo23 with f1_ f2_ f3_; have f4_ := f1_.symm; have f5_ := f3_.symm; clear f1_ f2_ f3_; subst f4_; subst f5_)); refine ⟨_, rfl, zHb hb hHeld, _, znb, fun hHeld => ?_⟩) | (refine zcl Tryz.func173 (spec_l8Has.calls k1 _ _ t294 a1 false _ (zCr HO296) ((Kd.R_reads' HO296.out).2.1) A12.out) ?_; rintro e w' ⟨rfl, ⟨nd, rfl⟩⟩; refine ⟨_, rfl, zHd hHeld, _, znb, fun hHeld => ?_⟩))
     refine zdn ?_
     try go_wp2
     go_roundg k1
     case measure => have := HK1.out; omega
     case rel => exact ⟨(x5_1), (wrap64 (x7_1 + 1)), rf, H', ⟨by have := HK1.out; omega⟩, ⟨by (with_reducible repeat (first | apply Kd.R_alloc | apply Kd.R_drewN | apply Kd.R_drew)); exact Kd.R_mono HO_5.out (fun _ hk => trivial)⟩, ⟨kr HO_6⟩, ⟨bk BK286⟩, ⟨bel⟩⟩
   ·
    obtain rfl := Option.some.inj H
    obtain ⟨Ao24, co24, eo24⟩ := Kd.R_slice HO_6.out
    subst eo24
    go_wp2
    go_ret
    exact ⟨_, er, kr HO_5, bel⟩

/-! ### spec_IsChecked: function 172 -/
def spec_IsChecked.f (k : Nat) (a0_0 : Int) (a0_1 : Int) (a0_2 : ByteArray) (a1 : Int) : Option (Bool) := (spec_SlotsAt.f k a0_0 a0_1 a0_2 a1).bind fun t302 => (some ((t302.length : Int) == 2))
set_option maxHeartbeats 8000000 in
set_option maxRecDepth 100000 in
theorem spec_IsChecked.calls (k : Nat) (a0_0 : Int) (a0_1 : Int) (a0_2 : ByteArray) (a1 : Int) (r : Bool) (w : World) (H : spec_IsChecked.f k a0_0 a0_1 a0_2 a1 = some r) :
  Calls Tryz.prog 172 #[.agg #[.int .i64 a0_0, .int .i64 a0_1, .string a0_2], .int .i64 a1] w fun e w' => e = .returned (.bool r) ∧ Below w.heap.size w w' := by
 have hu32 := Tryz.underlying32
 have HB := Aside0.mk (Below.refl w.heap.size w)
 unfold spec_IsChecked.f at H
 replace H := zs H
 obtain ⟨t302, A3, H⟩ := H
 obtain rfl := Option.some.inj H
 go_enter Tryz.func172, Tryz.ntmps172
 go_wp2_with (first | ((with_reducible refine zd 2 rfl ?_); refine zbx (w := w) #[.int .i64 a0_0, .int .i64 a0_1, .string a0_2] 32 ?_; intro gb301 hg w4 BK301 hb; have GW301 := zg (w := w) hg; replace HB := zB hb; clear hb hg; have ⟨_, _, _, _, _, _⟩ := cz3 BK301) | ((with_reducible refine zd 7 rfl ?_); refine zgl Tryz.func151 (spec_SlotsAt.calls k a0_0 a0_1 a0_2 a1 t302 _ A3.out) ?_; rintro e w6 ⟨v303, rfl, ho0, hb⟩; refine ⟨_, rfl, ?_⟩; have HO304 := zl2 ho0; replace BK301 := zk BK301 hb; replace HB := zB hb; obtain ⟨Ao7, co7, eo7⟩ := Kd.R_slice HO304.out; subst eo7))
 go_ret
 exact ⟨er, bel⟩

/-! ### spec_UncheckedIn: function 149 -/
def spec_UncheckedIn.l0 : Nat → List Int → Int → Int → Int → Int → ByteArray → Option (Int)
 | 0, _, _, _, _, _, _ => none
 | k + 1, x6, x7, x8, x306000, x306001, x306002 => if x8 < (x6.length : Int) then (if 0 ≤ x8 then ((spec_IsChecked.f k x306000 x306001 x306002 (rd x6 x8)).bind fun t315 => (if t315 = true then (spec_UncheckedIn.l0 k x6 x7 (wrap64 (x8 + 1)) x306000 x306001 x306002) else (spec_UncheckedIn.l0 k x6 (wrap64 (x7 + 1)) (wrap64 (x8 + 1)) x306000 x306001 x306002))) else (none)) else (some x7)
def spec_UncheckedIn.f (k : Nat) (a0_0 : Int) (a0_1 : Int) (a0_2 : ByteArray) (a1 : Int) : Option (Int) := (spec_SlotsOf.f k a0_0 a0_1 a0_2).bind fun t306 => ((spec_l1In.f a1 0 (wrap64 ((t306.length : Int) - 1))).bind fun t309 => (if t309 = true then (if 0 ≤ a1 then (if a1 < (t306.length : Int) then ((spec_CellsOf.f k a0_0 a0_1 a0_2 ((rd_T132 t306 a1).f0) ((rd_T132 t306 a1).f1) ((rd_T132 t306 a1).f2) ((rd_T132 t306 a1).f3)).bind fun t311 => (spec_UncheckedIn.l0 k t311 0 0 a0_0 a0_1 a0_2)) else (none)) else (none)) else (some (-1))))
set_option maxHeartbeats 8000000 in
set_option maxRecDepth 100000 in
theorem spec_UncheckedIn.calls (k : Nat) (a0_0 : Int) (a0_1 : Int) (a0_2 : ByteArray) (a1 : Int) (r : Int) (w : World) (H : spec_UncheckedIn.f k a0_0 a0_1 a0_2 a1 = some r) :
  Calls Tryz.prog 149 #[.agg #[.int .i64 a0_0, .int .i64 a0_1, .string a0_2], .int .i64 a1] w fun e w' => e = .returned (.int .i64 r) ∧ Below w.heap.size w w' := by
 have hu32 := Tryz.underlying32
 have hu132 := Tryz.underlying132
 have HB := Aside0.mk (Below.refl w.heap.size w)
 unfold spec_UncheckedIn.f at H
 replace H := zs H
 obtain ⟨t306, A3, H⟩ := H
 replace H := zs H
 obtain ⟨t309, A4, H⟩ := H
 replace H := zb H
 rcases H with ⟨rfl, H⟩ | ⟨rfl, H⟩
 ·
  replace H := zr H
  obtain ⟨c6b0, H⟩ := H
  replace H := zr H
  obtain ⟨c7b0, H⟩ := H
  replace H := zs H
  obtain ⟨t311, A8, H⟩ := H
  have H' := Aside0.mk H
  clear H
  go_enter Tryz.func149, Tryz.ntmps149
  try go_wp2_with (first | ((with_reducible refine zd 2 rfl ?_); refine zbx (w := w) #[.int .i64 a0_0, .int .i64 a0_1, .string a0_2] 32 ?_; intro gb305 hg w9 BK305 hb; have GW305 := zg (w := w) hg; replace HB := zB hb; clear hb hg; have ⟨_, _, _, _, _, _⟩ := cz3 BK305) | ((with_reducible refine zd 10 rfl ?_); refine zgl Tryz.func87 (spec_SlotsOf.calls k a0_0 a0_1 a0_2 t306 _ A3.out) ?_; rintro e w11 ⟨v307, rfl, ho0, hb⟩; refine ⟨_, rfl, ?_⟩; have HO308 := zl2 ho0; replace BK305 := zk BK305 hb; replace HB := zB hb; obtain ⟨Ao12, co12, eo12⟩ := Kd.R_slice HO308.out; subst eo12) | ((with_reducible refine zd 15 rfl ?_); refine zgl Tryz.func45 (spec_l1In.calls a1 0 (wrap64 ((t306.length : Int) - 1)) true _ A4.out) ?_; rintro e w' ⟨rfl, ⟨nd, rfl⟩⟩; refine ⟨_, rfl, ?_⟩))
  (try (rw [drewN_self w11]; generalize hq_ : World.drewN w11 _ = w11; have n0_ : Aside0 (Kd.R k132 132 w11 w.heap.size (fun _ => True) (.slice Ao12 t306.length co12) t306) := ⟨by rw [← hq_]; exact (kr HO308)⟩; have n1_ : Aside0 (w11.heap[gb305]? = some (.cells #[.int .i64 a0_0, .int .i64 a0_1, .string a0_2] 32 (0, 0))) := ⟨by rw [← hq_]; exact (bk BK305)⟩; have n2_ : Aside0 (Below w.heap.size w w11) := ⟨by rw [← hq_]; exact bel⟩; clear HO308 BK305 HB hq_; have HO308 := n0_; have BK305 := n1_; have HB := n2_; clear n0_ n1_ n2_))
  replace HO308 := zRd HO308
  replace BK305 := zkd BK305
  replace HB := zBd HB
  obtain ⟨p310, q310, ad310, e310, hx310_0, hx310_1, hx310_2, hx310_3⟩ := zx (at_T132 (Kd.R_reads' HO308.out).2.2 a1)
  cases e310
  refine zst 7 rfl (zb3 BK305 <| zhc hx310_0 <| zhc hx310_1 <| zhc hx310_2 <| zhc hx310_3 <| zn0) fun hHeld HT_ => ?_
  generalize w11.drew = w13 at HO308 BK305 HB hx310_0 hx310_1 hx310_2 hx310_3 hHeld ⊢
  repeat (first | refine zs1 ?_ | (refine zcl Tryz.func115 (spec_CellsOf.calls k a0_0 a0_1 a0_2 ((rd_T132 t306 a1).f0) ((rd_T132 t306 a1).f1) ((rd_T132 t306 a1).f2) ((rd_T132 t306 a1).f3) t311 _ A8.out) ?_; rintro e w14 ⟨v312, rfl, ho0, hb⟩; replace HO308 := zR HO308 hb; have HO313 := zl2 ho0; replace BK305 := zk BK305 hb; replace HB := zB hb; refine ⟨_, rfl, zHb hb hHeld, _, znb, fun hHeld => ?_⟩))
  refine zdn ?_
  try go_wp2
  go_loopg [7, 8] k (fun kq v7 v8 w' => ∃ (x7_1 : Int) (x8_1 : Int), v7 = .int .i64 x7_1 ∧ v8 = .int .i64 x8_1 ∧ Aside0 (spec_UncheckedIn.l0 kq t311 x7_1 x8_1 a0_0 a0_1 a0_2 = some r) ∧ Aside0 (kq ≤ k) ∧ Aside0 (Kd.R (Kd.int .i64) 3 w' w.heap.size (fun _ => True) v312 t311) ∧ Aside0 (w'.heap[gb305]? = some (.cells #[.int .i64 a0_0, .int .i64 a0_1, .string a0_2] 32 (0, 0))) ∧ Aside0 (Below w.heap.size w w'))
  case atStart => exact ⟨(0), (0), rf, rf, H', ⟨Nat.le_refl _⟩, ⟨kr HO313⟩, ⟨bk BK305⟩, ⟨bel⟩⟩
  case round =>
   clear H'
   obtain ⟨x7_1, x8_1, rfl, rfl, HA, HK1, HO_6, BK305, HB⟩ := hrel
   cases gk with
   | zero => exact absurd HA.out (by simp [spec_UncheckedIn.l0])
   | succ k1 =>
    have H := HA.out
    clear HA
    simp only [spec_UncheckedIn.l0] at H
    replace H := zc H
    rcases H with ⟨c15b0, H⟩ | ⟨c15b0, H⟩
    ·
     replace H := zr H
     obtain ⟨c16b0, H⟩ := H
     replace H := zs H
     obtain ⟨t315, A17, H⟩ := H
     replace H := zb H
     rcases H with ⟨rfl, H⟩ | ⟨rfl, H⟩
     ·
      have H' := Aside0.mk H
      clear H
      obtain ⟨Ao19, co19, eo19⟩ := Kd.R_slice HO_6.out
      subst eo19
      try go_wp2
      replace HO_6 := zRd HO_6
      replace BK305 := zkd BK305
      replace HB := zBd HB
      obtain ⟨p314, q314, ad314, e314, hx314_0⟩ := zx (Kd.at_int (Kd.R_reads' HO_6.out).2.2 x8_1)
      cases e314
      refine zst 7 rfl (zb3 BK305 <| zhc hx314_0 <| zn0) fun hHeld HT_ => ?_
      generalize wr.drew = w20 at HO_6 BK305 HB hx314_0 hHeld ⊢
      repeat (first | refine zs1 ?_ | (refine zcl Tryz.func172 (spec_IsChecked.calls k1 a0_0 a0_1 a0_2 (rd t311 x8_1) true _ A17.out) ?_; rintro e w21 ⟨rfl, hb⟩; replace HO_6 := zR HO_6 hb; replace BK305 := zk BK305 hb; replace HB := zB hb; refine ⟨_, rfl, zHb hb hHeld, _, znb, fun hHeld => ?_⟩))
      refine zdn ?_
      try go_wp2
      go_roundg k1
      case measure => have := HK1.out; omega
      case rel => exact ⟨(x7_1), (wrap64 (x8_1 + 1)), rf, rf, H', ⟨by have := HK1.out; omega⟩, ⟨kr HO_6⟩, ⟨bk BK305⟩, ⟨bel⟩⟩
     ·
      have H' := Aside0.mk H
      clear H
      obtain ⟨Ao22, co22, eo22⟩ := Kd.R_slice HO_6.out
      subst eo22
      try go_wp2
      replace HO_6 := zRd HO_6
      replace BK305 := zkd BK305
      replace HB := zBd HB
      obtain ⟨p314, q314, ad314, e314, hx314_0⟩ := zx (Kd.at_int (Kd.R_reads' HO_6.out).2.2 x8_1)
      cases e314
      refine zst 7 rfl (zb3 BK305 <| zhc hx314_0 <| zn0) fun hHeld HT_ => ?_
      generalize wr.drew = w23 at HO_6 BK305 HB hx314_0 hHeld ⊢
      repeat (first | refine zs1 ?_ | (refine zcl Tryz.func172 (spec_IsChecked.calls k1 a0_0 a0_1 a0_2 (rd t311 x8_1) false _ A17.out) ?_; rintro e w24 ⟨rfl, hb⟩; replace HO_6 := zR HO_6 hb; replace BK305 := zk BK305 hb; replace HB := zB hb; refine ⟨_, rfl, zHb hb hHeld, _, znb, fun hHeld => ?_⟩))
      refine zdn ?_
      try go_wp2
      go_roundg k1
      case measure => have := HK1.out; omega
      case rel => exact ⟨(wrap64 (x7_1 + 1)), (wrap64 (x8_1 + 1)), rf, rf, H', ⟨by have := HK1.out; omega⟩, ⟨kr HO_6⟩, ⟨bk BK305⟩, ⟨bel⟩⟩
    ·
     obtain rfl := Option.some.inj H
     obtain ⟨Ao25, co25, eo25⟩ := Kd.R_slice HO_6.out
     subst eo25
     go_wp2
     go_ret
     exact ⟨er, bel⟩
 ·
  obtain rfl := Option.some.inj H
  go_enter Tryz.func149, Tryz.ntmps149
  go_wp2_with (first | ((with_reducible refine zd 2 rfl ?_); refine zbx (w := w) #[.int .i64 a0_0, .int .i64 a0_1, .string a0_2] 32 ?_; intro gb305 hg w26 BK305 hb; have GW305 := zg (w := w) hg; replace HB := zB hb; clear hb hg; have ⟨_, _, _, _, _, _⟩ := cz3 BK305) | ((with_reducible refine zd 10 rfl ?_); refine zgl Tryz.func87 (spec_SlotsOf.calls k a0_0 a0_1 a0_2 t306 _ A3.out) ?_; rintro e w28 ⟨v307, rfl, ho0, hb⟩; refine ⟨_, rfl, ?_⟩; have HO308 := zl2 ho0; replace BK305 := zk BK305 hb; replace HB := zB hb; obtain ⟨Ao29, co29, eo29⟩ := Kd.R_slice HO308.out; subst eo29) | ((with_reducible refine zd 15 rfl ?_); refine zgl Tryz.func45 (spec_l1In.calls a1 0 (wrap64 ((t306.length : Int) - 1)) false _ A4.out) ?_; rintro e w' ⟨rfl, ⟨nd, rfl⟩⟩; refine ⟨_, rfl, ?_⟩))
  go_ret
  exact ⟨er, bel⟩

/-! ### spec_IsWhite: function 150 -/
def spec_IsWhite.f (k : Nat) (a0_0 : Int) (a0_1 : Int) (a0_2 : ByteArray) (a1 : Int) : Option (Bool) := (spec_IsGrid.f k a0_0 a0_1 a0_2).bind fun t317 => (if t317 = true then ((spec_l1In.f a1 0 (wrap64 ((a0_2.size : Int) - 1))).bind fun t318 => (if t318 = true then (if 0 ≤ a1 then (if a1 < (a0_2.size : Int) then (some ((bt a0_2 a1) == 46)) else (none)) else (none)) else (some false))) else (some false))
set_option maxHeartbeats 8000000 in
set_option maxRecDepth 100000 in
theorem spec_IsWhite.calls (k : Nat) (a0_0 : Int) (a0_1 : Int) (a0_2 : ByteArray) (a1 : Int) (r : Bool) (w : World) (H : spec_IsWhite.f k a0_0 a0_1 a0_2 a1 = some r) :
  Calls Tryz.prog 150 #[.agg #[.int .i64 a0_0, .int .i64 a0_1, .string a0_2], .int .i64 a1] w fun e w' => e = .returned (.bool r) ∧ Below w.heap.size w w' := by
 have hu32 := Tryz.underlying32
 have HB := Aside0.mk (Below.refl w.heap.size w)
 unfold spec_IsWhite.f at H
 replace H := zs H
 obtain ⟨t317, A3, H⟩ := H
 replace H := zb H
 rcases H with ⟨rfl, H⟩ | ⟨rfl, H⟩
 rotate_left
 focus
  obtain rfl := Option.some.inj H
 rotate_right
 focus
  replace H := zs H
  obtain ⟨t318, A5, H⟩ := H
  replace H := zb H
  rcases H with ⟨rfl, H⟩ | ⟨rfl, H⟩
  rotate_left
  focus
   obtain rfl := Option.some.inj H
  rotate_right
  focus
   replace H := zr H
   obtain ⟨c7b0, H⟩ := H
   replace H := zr H
   obtain ⟨c8b0, H⟩ := H
   obtain rfl := Option.some.inj H
 all_goals
  go_enter Tryz.func150, Tryz.ntmps150
  go_wp2_with (first | ((with_reducible refine zd 2 rfl ?_); (try (refine gate_guard (by rfl) ?_; dsimp only)); refine zbx (w := w) #[.int .i64 a0_0, .int .i64 a0_1, .string a0_2] 32 ?_; intro gb316 hg w1000 BK316 hb; have GW316 := zg (w := w) hg; replace HB := zB hb; clear hb hg; have ⟨_, _, _, _, _, _⟩ := cz3 BK316) | ((with_reducible refine zd 6 rfl ?_); refine zgl Tryz.func84 (spec_IsGrid.calls k a0_0 a0_1 a0_2 _ _ A3.out) ?_; rintro e w1001 ⟨rfl, hb⟩; refine ⟨_, rfl, ?_⟩; replace BK316 := zk BK316 hb; replace HB := zB hb; have ⟨_, _, _, _, _, _⟩ := cz3 BK316) | (go_at_call 45; (with_reducible refine (spec_l1In.calls a1 0 (wrap64 ((a0_2.size : Int) - 1)) true _ A5.out).mono ?_); rintro e w' ⟨rfl, ⟨nd, rfl⟩⟩; have p9 : 0 ≤ (a1 : Int) := of_decide_eq_true asm; have q9 : a1 < (a0_2.size : Int) := of_decide_eq_true asm; have hx1002 := bt_at a0_2 a1; replace p9 := eq_true p9; replace q9 := eq_true q9) | (go_at_call 45; (with_reducible refine (spec_l1In.calls a1 0 (wrap64 ((a0_2.size : Int) - 1)) false _ A5.out).mono ?_); rintro e w' ⟨rfl, ⟨nd, rfl⟩⟩) | ((with_reducible refine zd 6 rfl ?_); refine zgl Tryz.func84 (spec_IsGrid.calls k a0_0 a0_1 a0_2 _ _ A3.out) ?_; rintro e w1001 ⟨rfl, hb⟩; refine ⟨_, rfl, ?_⟩; replace BK316 := zk BK316 hb; replace HB := zB hb))
  go_ret
  exact ⟨er, bel⟩

end Go.Proofs.YtpcdfjcbjbkliaaGreat.E
