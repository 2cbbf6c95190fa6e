import Derived.Test.YtpcdfjcbjbkliaaSq
import Derived.Test.YtpcdfjcbjbkliaaQ0
import Derived.Test.YtpcdfjcbjbkliaaQ4
import Derived.Test.YtpcdfjcbjbkliaaQ5
import Derived.Test.YtpcdfjcbjbkliaaQ6
import Derived.Test.YtpcdfjcbjbkliaaQ10
import Derived.Test.YtpcdfjcbjbkliaaQ11
namespace Go.Proofs.Ytpcdfjcbjbkliaa.E
open Go.RowKit Go.Proofs.YtpcdfjcbjbkliaaW.PrintWords Go.Proofs.YtpcdfjcbjbkliaaW.PrintLast Go.Proofs.YtpcdfjcbjbkliaaW.PrintMore
attribute [local go_sem] max2_int min2_int max_two min_two max_three min_three max_four min_four
set_option linter.unusedVariables false
set_option linter.unusedSimpArgs false

/-! ### spec_IsDraft: function 26 -/
def spec_IsDraft.l0 : Nat → Int → Int → Int → ByteArray → ByteArray → List (S48) → Int → Option (Bool)
 | 0, _, _, _, _, _, _, _ => none
 | k + 1, x3, x285000, x285001, x285002, x285003, x285004, x285005 => if x3 < (x285004.length : Int) then (if 0 ≤ x3 then ((spec_l27Zero.f ((rd_T48 x285004 x3).f0) ((rd_T48 x285004 x3).f1)).bind fun t286 => (if t286 = true then (spec_IsDraft.l0 k (wrap64 (x3 + 1)) x285000 x285001 x285002 x285003 x285004 x285005) else ((spec_IsClue.f k ((rd_T48 x285004 x3).f0) ((rd_T48 x285004 x3).f1)).bind fun t288 => (if t288 = true then (spec_IsDraft.l0 k (wrap64 (x3 + 1)) x285000 x285001 x285002 x285003 x285004 x285005) else (some false))))) else (none)) else ((spec_FormOf.f k x285000 x285001 x285002).bind fun t289 => (if t289 = 0 then ((spec_IsFill.f k x285000 x285001 x285002 x285003).bind fun t290 => (if t290 = true then ((spec_SlotsOf.f k x285000 x285001 x285002).bind fun t291 => (if (x285004.length : Int) = (t291.length : Int) then ((spec_l1In.f x285005 1 9999).bind fun t294 => (some t294)) else (some false))) else (some false))) else (some false)))
def spec_IsDraft.f (k : Nat) (a0_0 : Int) (a0_1 : Int) (a0_2 : ByteArray) (a0_3 : ByteArray) (l0_4 : List (S48)) (a0_5 : Int) : Option (Bool) := spec_IsDraft.l0 k 0 a0_0 a0_1 a0_2 a0_3 l0_4 a0_5
def spec_IsDraft.T6 : Bool × List (List Nat × List Nat) := (true, [([], []), ([0], [0]), ([1], [1]), ([2], [2]), ([3, 2], [3]), ([4], [4]), ([5, 4], [4, 5]), ([4], [4]), ([7, 4], [4, 7]), ([6, 8, 4, 4], [4, 6, 8]), ([4, 9], [4, 9]), ([10, 9], [10]), ([11], [11]), ([12, 11], [11, 12]), ([13, 11], [11, 13]), ([11], [11]), ([15, 11], [11, 15]), ([16, 11, 11], [11, 16]), ([17, 11], [11, 17]), ([14, 18, 11], [11, 14, 18]), ([11, 19], [11, 19]), ([20, 17], [20]), ([21], [21]), ([22, 21], [21, 22]), ([23, 21, 21], [21, 23]), ([21, 24], [21, 24]), ([25, 24, 0, 1, 2, 3, 4, 5, 6, 7, 8, 9, 10, 11, 12, 13, 14, 15, 16, 17, 18, 19, 20, 21, 22, 23, 24, 25], [25])])
theorem spec_IsDraft.tab6 : rtab .any (opsOf Try.f26 6) = spec_IsDraft.T6 := by kernel_rfl
set_option maxHeartbeats 8000000 in
set_option maxRecDepth 100000 in
theorem spec_IsDraft.calls (k : Nat) (a0_0 : Int) (a0_1 : Int) (a0_2 : ByteArray) (a0_3 : ByteArray) (A0_4 : Option Addr) (c0_4 : Nat) (l0_4 : List (S48)) (a0_5 : Int) (r : Bool) (w : World) (hr0_4 : Kd.C k48 w A0_4 l0_4.length l0_4) (hc0_4 : l0_4.length ≤ c0_4) (H : spec_IsDraft.f k a0_0 a0_1 a0_2 a0_3 l0_4 a0_5 = some r) :
  Calls Try.prog 26 #[.agg #[.int .i64 a0_0, .int .i64 a0_1, .string a0_2, .string a0_3, .slice A0_4 l0_4.length c0_4, .int .i64 a0_5]] w fun e w' => e = .returned (.bool r) ∧ Below w.heap.size w w' := by
 have hu33 := Try.underlying33
 have hu48 := Try.underlying48
 have hu30 := Try.underlying30
 have HR0_4 := Aside0.mk hr0_4
 have HC0_4 := Aside0.mk hc0_4
 clear hr0_4 hc0_4
 have HB := Aside0.mk (Below.refl w.heap.size w)
 unfold spec_IsDraft.f at H
 have H' := Aside0.mk H
 clear H
 go_enter Try.func26, Try.ntmps26
 go_wp2_with (first | ((with_reducible refine zd 1 rfl ?_); (try (refine gate_guard (by rfl) ?_; dsimp only)); refine zbx (w := w) #[.int .i64 a0_0, .int .i64 a0_1, .string a0_2, .string a0_3, .slice A0_4 l0_4.length c0_4, .int .i64 a0_5] 33 ?_; intro gb284 hg w2 BK284 hb; have GW284 := zg (w := w) hg; replace HB := zB hb; clear hb hg))
 go_loopg [3] k (fun kq v3 w' => ∃ (x3_1 : Int), v3 = .int .i64 x3_1 ∧ Aside0 (spec_IsDraft.l0 kq x3_1 a0_0 a0_1 a0_2 a0_3 l0_4 a0_5 = some r) ∧ Aside0 (kq ≤ k) ∧ Aside0 (w'.heap[gb284]? = some (.cells #[.int .i64 a0_0, .int .i64 a0_1, .string a0_2, .string a0_3, (.slice A0_4 l0_4.length c0_4), .int .i64 a0_5] 33 (0, 0))) ∧ Aside0 (Below w.heap.size w w'))
 case atStart => exact ⟨(0), rf, H', ⟨Nat.le_refl _⟩, ⟨bk BK284⟩, ⟨bel⟩⟩
 case round =>
  clear H'
  obtain ⟨x3_1, rfl, HA, HK1, BK284, HB⟩ := hrel
  cases gk with
  | zero => exact absurd HA.out (by simp [spec_IsDraft.l0])
  | succ k1 =>
   have H := HA.out
   clear HA
   simp only [spec_IsDraft.l0] at H
   replace H := zc H
   rcases H with ⟨c3b0, H⟩ | ⟨c3b0, H⟩
   ·
    replace H := zr H
    obtain ⟨c4b0, H⟩ := H
    replace H := zs H
    obtain ⟨t286, A5, H⟩ := H
    replace H := zb H
    rcases H with ⟨rfl, H⟩ | ⟨rfl, H⟩
    ·
     have H' := Aside0.mk H
     clear H
     have ⟨_, _, _, _, _, _, _, _, _, _, _, _⟩ := cz6 BK284
     obtain ⟨p285, q285, ad285, A285_1, c285_1, e285, hx285_0, hx285_1, hl285_1, hi285_1⟩ := zx (at_T48 HR0_4.out x3_1)
     cases e285
     replace hx285_0 := zh HB hx285_0
     replace hx285_1 := zh HB hx285_1
     have HR285_1 := Aside0.mk hi285_1
     have HC285_1 := Aside0.mk hl285_1
     clear hi285_1 hl285_1
     go_wp2_with (first | ((with_reducible refine zd 16 rfl ?_); refine zgl Try.func56 (spec_l27Zero.calls ((rd_T48 l0_4 x3_1).f0) _ _ ((rd_T48 l0_4 x3_1).f1) true _ (zC HR285_1) HC285_1.out A5.out) ?_; rintro e w8 ⟨rfl, hb⟩; refine ⟨_, rfl, ?_⟩; replace BK284 := zk BK284 hb; replace HB := zB hb))
     go_roundg k1
     case measure => have := HK1.out; omega
     case rel => exact ⟨(wrap64 (x3_1 + 1)), rf, H', ⟨by have := HK1.out; omega⟩, ⟨bk BK284⟩, ⟨bel⟩⟩
    ·
     replace H := zs H
     obtain ⟨t288, A9, H⟩ := H
     replace H := zb H
     rcases H with ⟨rfl, H⟩ | ⟨rfl, H⟩
     ·
      have H' := Aside0.mk H
      clear H
      have ⟨_, _, _, _, _, _, _, _, _, _, _, _⟩ := cz6 BK284
      obtain ⟨p285, q285, ad285, A285_1, c285_1, e285, hx285_0, hx285_1, hl285_1, hi285_1⟩ := zx (at_T48 HR0_4.out x3_1)
      cases e285
      replace hx285_0 := zh HB hx285_0
      replace hx285_1 := zh HB hx285_1
      have HR285_1 := Aside0.mk hi285_1
      have HC285_1 := Aside0.mk hl285_1
      clear hi285_1 hl285_1
      go_wp2_with (first | ((with_reducible refine zd 16 rfl ?_); refine zgl Try.func56 (spec_l27Zero.calls ((rd_T48 l0_4 x3_1).f0) _ _ ((rd_T48 l0_4 x3_1).f1) false _ (zC HR285_1) HC285_1.out A5.out) ?_; rintro e w12 ⟨rfl, hb⟩; refine ⟨_, rfl, ?_⟩; replace BK284 := zk BK284 hb; replace HB := zB hb; have ⟨_, _, _, _, _, _, _, _, _, _, _, _⟩ := cz6 BK284; have p287 : 0 ≤ (x3_1 : Int) := of_decide_eq_true asm; have q287 : x3_1 < (l0_4.length : Int) := of_decide_eq_true asm; obtain ⟨ad287, A287_1, c287_1, e287, hx287_0, hx287_1, hl287_1, hi287_1⟩ := at_T48 HR0_4.out x3_1 p287 q287; obtain rfl : ad285 = ad287 := (by injection e287); replace hx287_0 := (HB.out.cell (World.block_lt_of_cell? w _ hx287_0)).trans hx287_0; replace hx287_1 := (HB.out.cell (World.block_lt_of_cell? w _ hx287_1)).trans hx287_1; have HR287_1 := Aside0.mk hi287_1; have HC287_1 := Aside0.mk hl287_1; clear hi287_1 hl287_1; replace p287 := eq_true p287; replace q287 := eq_true q287) | (go_at_call 40; (with_reducible refine (spec_IsClue.calls k1 ((rd_T48 l0_4 x3_1).f0) _ _ ((rd_T48 l0_4 x3_1).f1) true _ ?side1 ?side2 A9.out).mono ?_); (case side1 => repeat (first | exact (Kd.C_below HR287_1.out HB.out) | (with_reducible refine Kd.C_alloc ?_ _) | (with_reducible refine Kd.C_drewN ?_ _) | (with_reducible refine Kd.C_drew ?_))); (case side2 => exact HC287_1.out); rintro e w14 ⟨rfl, hb⟩; replace BK284 := zk BK284 hb; replace HB := zB hb))
      go_roundg k1
      case measure => have := HK1.out; omega
      case rel => exact ⟨(wrap64 (x3_1 + 1)), rf, H', ⟨by have := HK1.out; omega⟩, ⟨bk BK284⟩, ⟨bel⟩⟩
     ·
      obtain rfl := Option.some.inj H
      have ⟨_, _, _, _, _, _, _, _, _, _, _, _⟩ := cz6 BK284
      obtain ⟨p285, q285, ad285, A285_1, c285_1, e285, hx285_0, hx285_1, hl285_1, hi285_1⟩ := zx (at_T48 HR0_4.out x3_1)
      cases e285
      replace hx285_0 := zh HB hx285_0
      replace hx285_1 := zh HB hx285_1
      have HR285_1 := Aside0.mk hi285_1
      have HC285_1 := Aside0.mk hl285_1
      clear hi285_1 hl285_1
      go_wp2_with (first | ((with_reducible refine zd 16 rfl ?_); refine zgl Try.func56 (spec_l27Zero.calls ((rd_T48 l0_4 x3_1).f0) _ _ ((rd_T48 l0_4 x3_1).f1) false _ (zC HR285_1) HC285_1.out A5.out) ?_; rintro e w16 ⟨rfl, hb⟩; refine ⟨_, rfl, ?_⟩; replace BK284 := zk BK284 hb; replace HB := zB hb; have ⟨_, _, _, _, _, _, _, _, _, _, _, _⟩ := cz6 BK284; have p287 : 0 ≤ (x3_1 : Int) := of_decide_eq_true asm; have q287 : x3_1 < (l0_4.length : Int) := of_decide_eq_true asm; obtain ⟨ad287, A287_1, c287_1, e287, hx287_0, hx287_1, hl287_1, hi287_1⟩ := at_T48 HR0_4.out x3_1 p287 q287; obtain rfl : ad285 = ad287 := (by injection e287); replace hx287_0 := (HB.out.cell (World.block_lt_of_cell? w _ hx287_0)).trans hx287_0; replace hx287_1 := (HB.out.cell (World.block_lt_of_cell? w _ hx287_1)).trans hx287_1; have HR287_1 := Aside0.mk hi287_1; have HC287_1 := Aside0.mk hl287_1; clear hi287_1 hl287_1; replace p287 := eq_true p287; replace q287 := eq_true q287) | (go_at_call 40; (with_reducible refine (spec_IsClue.calls k1 ((rd_T48 l0_4 x3_1).f0) _ _ ((rd_T48 l0_4 x3_1).f1) false _ ?side1 ?side2 A9.out).mono ?_); (case side1 => repeat (first | exact (Kd.C_below HR287_1.out HB.out) | (with_reducible refine Kd.C_alloc ?_ _) | (with_reducible refine Kd.C_drewN ?_ _) | (with_reducible refine Kd.C_drew ?_))); (case side2 => exact HC287_1.out); rintro e w18 ⟨rfl, hb⟩; replace BK284 := zk BK284 hb; replace HB := zB hb))
      go_ret
      exact ⟨er, bel⟩
   ·
    replace H := zs H
    obtain ⟨t289, A19, H⟩ := H
    by_cases c20 : t289 = 0
    ·
     rw [if_pos c20] at H
     have c20b0 : (t289 == 0) = true := beq_iff_eq.mpr c20
     have c20b1 : (t289 != 0) = false := bne_eq_false_iff_eq.mpr c20
     clear c20
     replace H := zs H
     obtain ⟨t290, A21, H⟩ := H
     replace H := zb H
     rcases H with ⟨rfl, H⟩ | ⟨rfl, H⟩
     ·
      replace H := zs H
      obtain ⟨t291, A23, H⟩ := H
      by_cases c24 : (l0_4.length : Int) = (t291.length : Int)
      ·
       rw [if_pos c24] at H
       have c24b0 : ((l0_4.length : Int) == (t291.length : Int)) = true := beq_iff_eq.mpr c24
       have c24b1 : ((l0_4.length : Int) != (t291.length : Int)) = false := bne_eq_false_iff_eq.mpr c24
       have c24b2 : (l0_4.length == t291.length) = true := by first | simpa using c24 | (simp at c24 ⊢; omega)
       clear c24
       replace H := zs H
       obtain ⟨t294, A25, H⟩ := H
       obtain rfl := Option.some.inj H
       have ⟨_, _, _, _, _, _, _, _, _, _, _, _⟩ := cz6 BK284
       try go_wp2
       replace BK284 := zkd BK284
       replace HB := zBd HB
       refine zst 27 spec_IsDraft.tab6 (zb6 BK284 <| zn0) fun hHeld HT_ => ?_
       generalize wr.drew = w27 at BK284 HB hHeld ⊢
       repeat (first | refine zs1 ?_ | (refine zcl Try.func57 (spec_FormOf.calls k1 a0_0 a0_1 a0_2 t289 _ A19.out) ?_; rintro e w28 ⟨rfl, hb⟩; replace BK284 := zk BK284 hb; replace HB := zB hb; refine ⟨_, rfl, zHb hb hHeld, _, znb, fun hHeld => ?_⟩) | (refine zcl Try.func58 (spec_IsFill.calls k1 a0_0 a0_1 a0_2 a0_3 true _ A21.out) ?_; rintro e w29 ⟨rfl, hb⟩; replace BK284 := zk BK284 hb; replace HB := zB hb; refine ⟨_, rfl, zHb hb hHeld, _, znb, fun hHeld => ?_⟩) | (refine zcl Try.func50 (spec_SlotsOf.calls k1 a0_0 a0_1 a0_2 t291 _ A23.out) ?_; rintro e w30 ⟨v292, rfl, ho0, hb⟩; have HO293 := zl2 ho0; replace BK284 := zk BK284 hb; replace HB := zB hb; obtain ⟨Ao31, co31, eo31⟩ := Kd.R_slice HO293.out; (first | subst eo31 | (injection eo31 with f1_ f2_ f3_; have f4_ := f1_.symm; have f5_ := f3_.symm; clear f1_ f2_ f3_; subst f4_; subst f5_)); refine ⟨_, rfl, zHb hb hHeld, _, znb, fun hHeld => ?_⟩) | (refine zcl Try.func39 (spec_l1In.calls a0_5 1 9999 t294 _ A25.out) ?_; rintro e w' ⟨rfl, ⟨nd, rfl⟩⟩; refine ⟨_, rfl, zHd hHeld, _, znb, fun hHeld => ?_⟩))
       refine zdn ?_
       try go_wp2
       go_ret
       exact ⟨er, bel⟩
      ·
       rw [if_neg c24] at H
       have c24b0 : ((l0_4.length : Int) == (t291.length : Int)) = false := beq_eq_false_iff_ne.mpr c24
       have c24b1 : ((l0_4.length : Int) != (t291.length : Int)) = true := bne_iff_ne.mpr c24
       have c24b2 : (l0_4.length == t291.length) = false := by first | simpa using c24 | (simp at c24 ⊢; omega)
       obtain rfl := Option.some.inj H
       have ⟨_, _, _, _, _, _, _, _, _, _, _, _⟩ := cz6 BK284
       try go_wp2
       replace BK284 := zkd BK284
       replace HB := zBd HB
       refine zst 27 spec_IsDraft.tab6 (zb6 BK284 <| zn0) fun hHeld HT_ => ?_
       generalize wr.drew = w33 at BK284 HB hHeld ⊢
       repeat (first | refine zs1 ?_ | (refine zcl Try.func57 (spec_FormOf.calls k1 a0_0 a0_1 a0_2 t289 _ A19.out) ?_; rintro e w34 ⟨rfl, hb⟩; replace BK284 := zk BK284 hb; replace HB := zB hb; refine ⟨_, rfl, zHb hb hHeld, _, znb, fun hHeld => ?_⟩) | (refine zcl Try.func58 (spec_IsFill.calls k1 a0_0 a0_1 a0_2 a0_3 true _ A21.out) ?_; rintro e w35 ⟨rfl, hb⟩; replace BK284 := zk BK284 hb; replace HB := zB hb; refine ⟨_, rfl, zHb hb hHeld, _, znb, fun hHeld => ?_⟩) | (refine zcl Try.func50 (spec_SlotsOf.calls k1 a0_0 a0_1 a0_2 t291 _ A23.out) ?_; rintro e w36 ⟨v292, rfl, ho0, hb⟩; have HO293 := zl2 ho0; replace BK284 := zk BK284 hb; replace HB := zB hb; obtain ⟨Ao37, co37, eo37⟩ := Kd.R_slice HO293.out; (first | subst eo37 | (injection eo37 with f1_ f2_ f3_; have f4_ := f1_.symm; have f5_ := f3_.symm; clear f1_ f2_ f3_; subst f4_; subst f5_)); refine ⟨_, rfl, zHb hb hHeld, _, znb, fun hHeld => ?_⟩))
       refine zdn ?_
       try go_wp2
       go_ret
       exact ⟨er, bel⟩
     ·
      obtain rfl := Option.some.inj H
      have ⟨_, _, _, _, _, _, _, _, _, _, _, _⟩ := cz6 BK284
      try go_wp2
      replace BK284 := zkd BK284
      replace HB := zBd HB
      refine zst 27 spec_IsDraft.tab6 (zb6 BK284 <| zn0) fun hHeld HT_ => ?_
      generalize wr.drew = w39 at BK284 HB hHeld ⊢
      repeat (first | refine zs1 ?_ | (refine zcl Try.func57 (spec_FormOf.calls k1 a0_0 a0_1 a0_2 t289 _ A19.out) ?_; rintro e w40 ⟨rfl, hb⟩; replace BK284 := zk BK284 hb; replace HB := zB hb; refine ⟨_, rfl, zHb hb hHeld, _, znb, fun hHeld => ?_⟩) | (refine zcl Try.func58 (spec_IsFill.calls k1 a0_0 a0_1 a0_2 a0_3 false _ A21.out) ?_; rintro e w41 ⟨rfl, hb⟩; replace BK284 := zk BK284 hb; replace HB := zB hb; refine ⟨_, rfl, zHb hb hHeld, _, znb, fun hHeld => ?_⟩))
      refine zdn ?_
      try go_wp2
      go_ret
      exact ⟨er, bel⟩
    ·
     rw [if_neg c20] at H
     have c20b0 : (t289 == 0) = false := beq_eq_false_iff_ne.mpr c20
     have c20b1 : (t289 != 0) = true := bne_iff_ne.mpr c20
     obtain rfl := Option.some.inj H
     have ⟨_, _, _, _, _, _, _, _, _, _, _, _⟩ := cz6 BK284
     try go_wp2
     replace BK284 := zkd BK284
     replace HB := zBd HB
     refine zst 27 spec_IsDraft.tab6 (zb6 BK284 <| zn0) fun hHeld HT_ => ?_
     generalize wr.drew = w43 at BK284 HB hHeld ⊢
     repeat (first | refine zs1 ?_ | (refine zcl Try.func57 (spec_FormOf.calls k1 a0_0 a0_1 a0_2 t289 _ A19.out) ?_; rintro e w44 ⟨rfl, hb⟩; replace BK284 := zk BK284 hb; replace HB := zB hb; refine ⟨_, rfl, zHb hb hHeld, _, znb, fun hHeld => ?_⟩))
     refine zdn ?_
     try go_wp2
     go_ret
     exact ⟨er, bel⟩

end Go.Proofs.Ytpcdfjcbjbkliaa.E
