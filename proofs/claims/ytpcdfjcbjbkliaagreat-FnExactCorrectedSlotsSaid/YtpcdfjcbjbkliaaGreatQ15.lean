import Derived.Test.YtpcdfjcbjbkliaaGreatSq
import Derived.Test.YtpcdfjcbjbkliaaGreatQ0
import Derived.Test.YtpcdfjcbjbkliaaGreatQ4
import Derived.Test.YtpcdfjcbjbkliaaGreatQ9
namespace Go.Proofs.YtpcdfjcbjbkliaaGreat.E
open Go.RowKit Go.Proofs.YtpcdfjcbjbkliaaGreatW.PrintWords Go.Proofs.YtpcdfjcbjbkliaaGreatW.PrintLast Go.Proofs.YtpcdfjcbjbkliaaGreatW.PrintMore
attribute [local go_sem] max2_int min2_int max_two min_two max_three min_three max_four min_four
set_option linter.unusedVariables false
set_option linter.unusedSimpArgs false

/-! ### spec_AreCorrections: function 56 -/
def spec_AreCorrections.l0 : Nat → List (S91) → Int → Option (Bool)
 | 0, _, _ => none
 | k + 1, a, b => if b < (a.length : Int) then (if 0 ≤ b then ((spec_l1In.f ((rd_T91 a b).f0) 1 999).bind fun c => (if c = true then ((spec_l1In.f ((rd_T91 a b).f1) 0 99).bind fun d => (if d = true then ((spec_IsClue.f k ((rd_T91 a b).f2.f0) ((rd_T91 a b).f2.f1)).bind fun e => (if e = true then ((spec_l1In.f ((rd_T91 a b).f3) 0 1000).bind fun f => (if f = true then (if b > 0 then (if 0 ≤ (wrap64 (b - 1)) then (if (wrap64 (b - 1)) < (a.length : Int) then (if ((rd_T91 a (wrap64 (b - 1))).f3) > ((rd_T91 a b).f3) then (some false) else (spec_AreCorrections.l0 k a (wrap64 (b + 1)))) else (none)) else (none)) else (spec_AreCorrections.l0 k a (wrap64 (b + 1)))) else (some false))) else (some false))) else (some false))) else (some false))) else (none)) else (some (decide ((a.length : Int) ≤ 12)))
def spec_AreCorrections.f (k : Nat) (a : List (S91)) : Option (Bool) := spec_AreCorrections.l0 k a 0
def spec_AreCorrections.T5 : Bool × List (List Nat × List Nat) := (true, [([], []), ([0], [0]), ([1], [1]), ([2], [2]), ([3, 2], [3]), ([4], [4]), ([5, 4], [4, 5]), ([6, 4, 4], [4, 6]), ([7, 4], [4, 7]), ([4, 8], [4, 8]), ([9, 7], [9]), ([10], [10]), ([11, 10], [10, 11]), ([12, 10, 10], [10, 12]), ([13, 10], [10, 13]), ([10, 14], [10, 14]), ([15, 13], [15]), ([16], [16]), ([17, 16], [16, 17]), ([18, 16, 16], [16, 18]), ([19, 16], [16, 19]), ([16, 20], [16, 20]), ([21, 19], [21]), ([22], [22]), ([23, 22], [22, 23]), ([24, 22, 22], [22, 24]), ([25], [25]), ([25], [25]), ([27, 25], [25, 27]), ([26, 28, 25], [25, 26, 28]), ([29, 25], [25, 29]), ([30, 25], [25, 30]), ([25], [25]), ([32, 25], [25, 32]), ([31, 33, 25], [25, 31, 33]), ([25, 34, 22], [22, 25, 34]), ([22, 35], [22, 35])])
theorem spec_AreCorrections.tab5 : rtab .any (opsOf Tryz.f56 5) = spec_AreCorrections.T5 := by kernel_rfl
set_option maxHeartbeats 8000000 in
set_option maxRecDepth 100000 in
theorem spec_AreCorrections.calls (k : Nat) (A0 : Option Addr) (c0 : Nat) (l0 : List (S91)) (r : Bool) (w : World) (hr0 : Kd.C k91 w A0 l0.length l0) (hc0 : l0.length ≤ c0) (H : spec_AreCorrections.f k l0 = some r) :
  Calls Tryz.prog 56 #[.slice A0 l0.length c0] w fun e w' => e = .returned (.bool r) ∧ Below w.heap.size w w' := by
 have hu91 := Tryz.underlying91
 have hu89 := Tryz.underlying89
 have HR0 := Aside0.mk hr0
 have HC0 := Aside0.mk hc0
 clear hr0 hc0
 have HB := Aside0.mk (Below.refl w.heap.size w)
 unfold spec_AreCorrections.f at H
 have H' := Aside0.mk H
 clear H
 go_enter Tryz.func56, Tryz.ntmps56
 go_wp2
 go_loopg [3] k (fun kq v3 w' => ∃ (x3_1 : Int), v3 = .int .i64 x3_1 ∧ Aside0 (spec_AreCorrections.l0 kq l0 x3_1 = some r) ∧ Aside0 (kq ≤ k) ∧ Aside0 (Below w.heap.size w w'))
 case atStart => exact ⟨(0), rf, H', ⟨Nat.le_refl _⟩, ⟨bel⟩⟩
 case round =>
  clear H'
  obtain ⟨x3_1, rfl, HA, HK1, HB⟩ := hrel
  cases gk with
  | zero => exact absurd HA.out (by simp [spec_AreCorrections.l0])
  | succ k1 =>
   have H := HA.out
   clear HA
   simp only [spec_AreCorrections.l0] at H
   replace H := zc H
   rcases H with ⟨c2b0, H⟩ | ⟨c2b0, H⟩
   ·
    replace H := zr H
    obtain ⟨c3b0, H⟩ := H
    replace H := zs H
    obtain ⟨t444, A4, H⟩ := H
    replace H := zb H
    rcases H with ⟨rfl, H⟩ | ⟨rfl, H⟩
    ·
     replace H := zs H
     obtain ⟨t445, A6, H⟩ := H
     replace H := zb H
     rcases H with ⟨rfl, H⟩ | ⟨rfl, H⟩
     ·
      replace H := zs H
      obtain ⟨t446, A8, H⟩ := H
      replace H := zb H
      rcases H with ⟨rfl, H⟩ | ⟨rfl, H⟩
      ·
       replace H := zs H
       obtain ⟨t447, A10, H⟩ := H
       replace H := zb H
       rcases H with ⟨rfl, H⟩ | ⟨rfl, H⟩
       ·
        replace H := zc H
        rcases H with ⟨c12b0, H⟩ | ⟨c12b0, H⟩
        ·
         obtain ⟨ji13, hji13⟩ : ∃ j_ : Int, (wrap64 (x3_1 - 1)) = j_ := ⟨_, rfl⟩
         replace H : (if 0 ≤ (ji13) then (if (ji13) < (l0.length : Int) then (if ((rd_T91 l0 (ji13)).f3) > ((rd_T91 l0 x3_1).f3) then (some false) else (spec_AreCorrections.l0 k1 l0 (wrap64 (x3_1 + 1)))) else (none)) else (none)) = some r := by first | (rw [hji13] at H; exact H) | (simp only [hji13] at H ⊢; exact H)
         (try rw [hji13] at A4)
         (try rw [hji13] at A6)
         (try rw [hji13] at A8)
         (try rw [hji13] at A10)
         have hji13w : (IntKind.i64.wrap (x3_1 - 1)) = ji13 := (i64_w _).trans hji13
         replace H := zr H
         obtain ⟨c14b0, H⟩ := H
         replace H := zr H
         obtain ⟨c15b0, H⟩ := H
         replace H := zc H
         rcases H with ⟨c16b0, H⟩ | ⟨c16b0, H⟩
         ·
          obtain rfl := Option.some.inj H
          obtain ⟨p442, q442, ad442, A442_3, c442_3, e442, hx442_0, hx442_1, hx442_2, hx442_3, hx442_4, hl442_3, hi442_3⟩ := zx (at_T91 HR0.out x3_1)
          cases e442
          replace hx442_0 := zh HB hx442_0
          replace hx442_1 := zh HB hx442_1
          replace hx442_2 := zh HB hx442_2
          replace hx442_3 := zh HB hx442_3
          replace hx442_4 := zh HB hx442_4
          have HR442_3 := Aside0.mk hi442_3
          have HC442_3 := Aside0.mk hl442_3
          clear hi442_3 hl442_3
          try go_wp2_with (first | ((with_reducible refine zd 4 rfl ?_); refine zbx (w := w) #[.int .i64 0, .int .i64 0, .int .i64 0, .slice none 0 0, .int .i64 0] 91 ?_; intro gb443 hg w17 BK443 hb; have GW443 := zg (w := w) hg; replace HB := zB hb; clear hb hg; have ⟨_, _, _, _, _, _, _, _, _, _⟩ := cz5 BK443))
          refine zgw fun w19 hw_ => ?_
          replace BK443 := zkw hw_ BK443
          replace HB := zBw hw_
          clear hw_
          replace BK443 := zkd BK443
          replace HB := zBd HB
          obtain ⟨p448, q448, ad448, A448_3, c448_3, e448, hx448_0, hx448_1, hx448_2, hx448_3, hx448_4, hl448_3, hi448_3⟩ := zx (at_T91 HR0.out (ji13))
          have hw448_4 := hx448_4
          have hw448_3 := hx448_3
          have hw448_2 := hx448_2
          have hw448_1 := hx448_1
          have hw448_0 := hx448_0
          obtain rfl : ad442 = ad448 := (by injection e448)
          replace hx448_0 := zh HB hx448_0
          replace hx448_1 := zh HB hx448_1
          replace hx448_2 := zh HB hx448_2
          replace hx448_3 := zh HB hx448_3
          replace hx448_4 := zh HB hx448_4
          have HR448_3 := Aside0.mk hi448_3
          have HC448_3 := Aside0.mk hl448_3
          clear hi448_3 hl448_3
          refine zst 37 spec_AreCorrections.tab5 (zb5 BK443 <| zhc (((HB.out.cell (World.block_lt_of_cell? w _ hw448_0)).trans hw448_0)) <| zhc (((HB.out.cell (World.block_lt_of_cell? w _ hw448_1)).trans hw448_1)) <| zhc (((HB.out.cell (World.block_lt_of_cell? w _ hw448_2)).trans hw448_2)) <| zhc (((HB.out.cell (World.block_lt_of_cell? w _ hw448_3)).trans hw448_3)) <| zhc (((HB.out.cell (World.block_lt_of_cell? w _ hw448_4)).trans hw448_4)) <| zn0) fun hHeld HT_ => ?_
          generalize w19.drew = w20 at BK443 HB HR448_3 hx448_0 hx448_1 hx448_2 hx448_3 hx448_4 hHeld ⊢
          repeat (first | refine zs1 ?_ | (refine zcl Tryz.func45 (spec_l1In.calls ((rd_T91 l0 x3_1).f0) 1 999 true _ A4.out) ?_; rintro e w' ⟨rfl, ⟨nd, rfl⟩⟩; refine ⟨_, rfl, zHd hHeld, _, znb, fun hHeld => ?_⟩) | (refine zcl Tryz.func45 (spec_l1In.calls ((rd_T91 l0 x3_1).f1) 0 99 true _ A6.out) ?_; rintro e w' ⟨rfl, ⟨nd, rfl⟩⟩; refine ⟨_, rfl, zHd hHeld, _, znb, fun hHeld => ?_⟩) | (refine zcl Tryz.func93 (spec_IsClue.calls k1 ((rd_T91 l0 x3_1).f2.f0) _ _ ((rd_T91 l0 x3_1).f2.f1) true _ (zC HR442_3) HC442_3.out A8.out) ?_; rintro e w21 ⟨rfl, hb⟩; replace BK443 := zk BK443 hb; replace HB := zB hb; refine ⟨_, rfl, zHb hb hHeld, _, znb, fun hHeld => ?_⟩) | (refine zcl Tryz.func45 (spec_l1In.calls ((rd_T91 l0 x3_1).f3) 0 1000 true _ A10.out) ?_; rintro e w' ⟨rfl, ⟨nd, rfl⟩⟩; refine ⟨_, rfl, zHd hHeld, _, znb, fun hHeld => ?_⟩))
          refine zdn ?_
          try go_wp2
          go_ret
          exact ⟨by first | rfl | (simp [errW_none, errW_some] <;> rfl) | (simp only [← hji13]; first | rfl | (simp [errW_none, errW_some] <;> rfl)) | (simp [*, errW_none, errW_some] <;> rfl), bel⟩
         ·
          have H' := Aside0.mk H
          clear H
          obtain ⟨p442, q442, ad442, A442_3, c442_3, e442, hx442_0, hx442_1, hx442_2, hx442_3, hx442_4, hl442_3, hi442_3⟩ := zx (at_T91 HR0.out x3_1)
          cases e442
          replace hx442_0 := zh HB hx442_0
          replace hx442_1 := zh HB hx442_1
          replace hx442_2 := zh HB hx442_2
          replace hx442_3 := zh HB hx442_3
          replace hx442_4 := zh HB hx442_4
          have HR442_3 := Aside0.mk hi442_3
          have HC442_3 := Aside0.mk hl442_3
          clear hi442_3 hl442_3
          try go_wp2_with (first | ((with_reducible refine zd 4 rfl ?_); refine zbx (w := w) #[.int .i64 0, .int .i64 0, .int .i64 0, .slice none 0 0, .int .i64 0] 91 ?_; intro gb443 hg w22 BK443 hb; have GW443 := zg (w := w) hg; replace HB := zB hb; clear hb hg; have ⟨_, _, _, _, _, _, _, _, _, _⟩ := cz5 BK443))
          refine zgw fun w24 hw_ => ?_
          replace BK443 := zkw hw_ BK443
          replace HB := zBw hw_
          clear hw_
          replace BK443 := zkd BK443
          replace HB := zBd HB
          obtain ⟨p448, q448, ad448, A448_3, c448_3, e448, hx448_0, hx448_1, hx448_2, hx448_3, hx448_4, hl448_3, hi448_3⟩ := zx (at_T91 HR0.out (ji13))
          have hw448_4 := hx448_4
          have hw448_3 := hx448_3
          have hw448_2 := hx448_2
          have hw448_1 := hx448_1
          have hw448_0 := hx448_0
          obtain rfl : ad442 = ad448 := (by injection e448)
          replace hx448_0 := zh HB hx448_0
          replace hx448_1 := zh HB hx448_1
          replace hx448_2 := zh HB hx448_2
          replace hx448_3 := zh HB hx448_3
          replace hx448_4 := zh HB hx448_4
          have HR448_3 := Aside0.mk hi448_3
          have HC448_3 := Aside0.mk hl448_3
          clear hi448_3 hl448_3
          refine zst 37 spec_AreCorrections.tab5 (zb5 BK443 <| zhc (((HB.out.cell (World.block_lt_of_cell? w _ hw448_0)).trans hw448_0)) <| zhc (((HB.out.cell (World.block_lt_of_cell? w _ hw448_1)).trans hw448_1)) <| zhc (((HB.out.cell (World.block_lt_of_cell? w _ hw448_2)).trans hw448_2)) <| zhc (((HB.out.cell (World.block_lt_of_cell? w _ hw448_3)).trans hw448_3)) <| zhc (((HB.out.cell (World.block_lt_of_cell? w _ hw448_4)).trans hw448_4)) <| zn0) fun hHeld HT_ => ?_
          generalize w24.drew = w25 at BK443 HB HR448_3 hx448_0 hx448_1 hx448_2 hx448_3 hx448_4 hHeld ⊢
          repeat (first | refine zs1 ?_ | (refine zcl Tryz.func45 (spec_l1In.calls ((rd_T91 l0 x3_1).f0) 1 999 true _ A4.out) ?_; rintro e w' ⟨rfl, ⟨nd, rfl⟩⟩; refine ⟨_, rfl, zHd hHeld, _, znb, fun hHeld => ?_⟩) | (refine zcl Tryz.func45 (spec_l1In.calls ((rd_T91 l0 x3_1).f1) 0 99 true _ A6.out) ?_; rintro e w' ⟨rfl, ⟨nd, rfl⟩⟩; refine ⟨_, rfl, zHd hHeld, _, znb, fun hHeld => ?_⟩) | (refine zcl Tryz.func93 (spec_IsClue.calls k1 ((rd_T91 l0 x3_1).f2.f0) _ _ ((rd_T91 l0 x3_1).f2.f1) true _ (zC HR442_3) HC442_3.out A8.out) ?_; rintro e w26 ⟨rfl, hb⟩; replace BK443 := zk BK443 hb; replace HB := zB hb; refine ⟨_, rfl, zHb hb hHeld, _, znb, fun hHeld => ?_⟩) | (refine zcl Tryz.func45 (spec_l1In.calls ((rd_T91 l0 x3_1).f3) 0 1000 true _ A10.out) ?_; rintro e w' ⟨rfl, ⟨nd, rfl⟩⟩; refine ⟨_, rfl, zHd hHeld, _, znb, fun hHeld => ?_⟩))
          refine zdn ?_
          try go_wp2
          go_roundg k1
          case measure => have := HK1.out; omega
          case rel => exact ⟨(wrap64 (x3_1 + 1)), rf, H', ⟨by have := HK1.out; omega⟩, ⟨bel⟩⟩
        ·
         have H' := Aside0.mk H
         clear H
         obtain ⟨p442, q442, ad442, A442_3, c442_3, e442, hx442_0, hx442_1, hx442_2, hx442_3, hx442_4, hl442_3, hi442_3⟩ := zx (at_T91 HR0.out x3_1)
         cases e442
         replace hx442_0 := zh HB hx442_0
         replace hx442_1 := zh HB hx442_1
         replace hx442_2 := zh HB hx442_2
         replace hx442_3 := zh HB hx442_3
         replace hx442_4 := zh HB hx442_4
         have HR442_3 := Aside0.mk hi442_3
         have HC442_3 := Aside0.mk hl442_3
         clear hi442_3 hl442_3
         try go_wp2_with (first | ((with_reducible refine zd 4 rfl ?_); refine zbx (w := w) #[.int .i64 0, .int .i64 0, .int .i64 0, .slice none 0 0, .int .i64 0] 91 ?_; intro gb443 hg w27 BK443 hb; have GW443 := zg (w := w) hg; replace HB := zB hb; clear hb hg; have ⟨_, _, _, _, _, _, _, _, _, _⟩ := cz5 BK443))
         refine zgw fun w29 hw_ => ?_
         replace BK443 := zkw hw_ BK443
         replace HB := zBw hw_
         clear hw_
         replace BK443 := zkd BK443
         replace HB := zBd HB
         refine zst 37 spec_AreCorrections.tab5 (zb5 BK443 <| zn0) fun hHeld HT_ => ?_
         generalize w29.drew = w30 at BK443 HB hHeld ⊢
         repeat (first | refine zs1 ?_ | (refine zcl Tryz.func45 (spec_l1In.calls ((rd_T91 l0 x3_1).f0) 1 999 true _ A4.out) ?_; rintro e w' ⟨rfl, ⟨nd, rfl⟩⟩; refine ⟨_, rfl, zHd hHeld, _, znb, fun hHeld => ?_⟩) | (refine zcl Tryz.func45 (spec_l1In.calls ((rd_T91 l0 x3_1).f1) 0 99 true _ A6.out) ?_; rintro e w' ⟨rfl, ⟨nd, rfl⟩⟩; refine ⟨_, rfl, zHd hHeld, _, znb, fun hHeld => ?_⟩) | (refine zcl Tryz.func93 (spec_IsClue.calls k1 ((rd_T91 l0 x3_1).f2.f0) _ _ ((rd_T91 l0 x3_1).f2.f1) true _ (zC HR442_3) HC442_3.out A8.out) ?_; rintro e w31 ⟨rfl, hb⟩; replace BK443 := zk BK443 hb; replace HB := zB hb; refine ⟨_, rfl, zHb hb hHeld, _, znb, fun hHeld => ?_⟩) | (refine zcl Tryz.func45 (spec_l1In.calls ((rd_T91 l0 x3_1).f3) 0 1000 true _ A10.out) ?_; rintro e w' ⟨rfl, ⟨nd, rfl⟩⟩; refine ⟨_, rfl, zHd hHeld, _, znb, fun hHeld => ?_⟩))
         refine zdn ?_
         try go_wp2
         go_roundg k1
         case measure => have := HK1.out; omega
         case rel => exact ⟨(wrap64 (x3_1 + 1)), rf, H', ⟨by have := HK1.out; omega⟩, ⟨bel⟩⟩
       ·
        obtain rfl := Option.some.inj H
        obtain ⟨p442, q442, ad442, A442_3, c442_3, e442, hx442_0, hx442_1, hx442_2, hx442_3, hx442_4, hl442_3, hi442_3⟩ := zx (at_T91 HR0.out x3_1)
        cases e442
        replace hx442_0 := zh HB hx442_0
        replace hx442_1 := zh HB hx442_1
        replace hx442_2 := zh HB hx442_2
        replace hx442_3 := zh HB hx442_3
        replace hx442_4 := zh HB hx442_4
        have HR442_3 := Aside0.mk hi442_3
        have HC442_3 := Aside0.mk hl442_3
        clear hi442_3 hl442_3
        try go_wp2_with (first | ((with_reducible refine zd 4 rfl ?_); refine zbx (w := w) #[.int .i64 0, .int .i64 0, .int .i64 0, .slice none 0 0, .int .i64 0] 91 ?_; intro gb443 hg w32 BK443 hb; have GW443 := zg (w := w) hg; replace HB := zB hb; clear hb hg; have ⟨_, _, _, _, _, _, _, _, _, _⟩ := cz5 BK443))
        refine zgw fun w34 hw_ => ?_
        replace BK443 := zkw hw_ BK443
        replace HB := zBw hw_
        clear hw_
        replace BK443 := zkd BK443
        replace HB := zBd HB
        refine zst 37 spec_AreCorrections.tab5 (zb5 BK443 <| zn0) fun hHeld HT_ => ?_
        generalize w34.drew = w35 at BK443 HB hHeld ⊢
        repeat (first | refine zs1 ?_ | (refine zcl Tryz.func45 (spec_l1In.calls ((rd_T91 l0 x3_1).f0) 1 999 true _ A4.out) ?_; rintro e w' ⟨rfl, ⟨nd, rfl⟩⟩; refine ⟨_, rfl, zHd hHeld, _, znb, fun hHeld => ?_⟩) | (refine zcl Tryz.func45 (spec_l1In.calls ((rd_T91 l0 x3_1).f1) 0 99 true _ A6.out) ?_; rintro e w' ⟨rfl, ⟨nd, rfl⟩⟩; refine ⟨_, rfl, zHd hHeld, _, znb, fun hHeld => ?_⟩) | (refine zcl Tryz.func93 (spec_IsClue.calls k1 ((rd_T91 l0 x3_1).f2.f0) _ _ ((rd_T91 l0 x3_1).f2.f1) true _ (zC HR442_3) HC442_3.out A8.out) ?_; rintro e w36 ⟨rfl, hb⟩; replace BK443 := zk BK443 hb; replace HB := zB hb; refine ⟨_, rfl, zHb hb hHeld, _, znb, fun hHeld => ?_⟩) | (refine zcl Tryz.func45 (spec_l1In.calls ((rd_T91 l0 x3_1).f3) 0 1000 false _ A10.out) ?_; rintro e w' ⟨rfl, ⟨nd, rfl⟩⟩; refine ⟨_, rfl, zHd hHeld, _, znb, fun hHeld => ?_⟩))
        refine zdn ?_
        try go_wp2
        go_ret
        exact ⟨er, bel⟩
      ·
       obtain rfl := Option.some.inj H
       obtain ⟨p442, q442, ad442, A442_3, c442_3, e442, hx442_0, hx442_1, hx442_2, hx442_3, hx442_4, hl442_3, hi442_3⟩ := zx (at_T91 HR0.out x3_1)
       cases e442
       replace hx442_0 := zh HB hx442_0
       replace hx442_1 := zh HB hx442_1
       replace hx442_2 := zh HB hx442_2
       replace hx442_3 := zh HB hx442_3
       replace hx442_4 := zh HB hx442_4
       have HR442_3 := Aside0.mk hi442_3
       have HC442_3 := Aside0.mk hl442_3
       clear hi442_3 hl442_3
       try go_wp2_with (first | ((with_reducible refine zd 4 rfl ?_); refine zbx (w := w) #[.int .i64 0, .int .i64 0, .int .i64 0, .slice none 0 0, .int .i64 0] 91 ?_; intro gb443 hg w37 BK443 hb; have GW443 := zg (w := w) hg; replace HB := zB hb; clear hb hg; have ⟨_, _, _, _, _, _, _, _, _, _⟩ := cz5 BK443))
       refine zgw fun w39 hw_ => ?_
       replace BK443 := zkw hw_ BK443
       replace HB := zBw hw_
       clear hw_
       replace BK443 := zkd BK443
       replace HB := zBd HB
       refine zst 37 spec_AreCorrections.tab5 (zb5 BK443 <| zn0) fun hHeld HT_ => ?_
       generalize w39.drew = w40 at BK443 HB hHeld ⊢
       repeat (first | refine zs1 ?_ | (refine zcl Tryz.func45 (spec_l1In.calls ((rd_T91 l0 x3_1).f0) 1 999 true _ A4.out) ?_; rintro e w' ⟨rfl, ⟨nd, rfl⟩⟩; refine ⟨_, rfl, zHd hHeld, _, znb, fun hHeld => ?_⟩) | (refine zcl Tryz.func45 (spec_l1In.calls ((rd_T91 l0 x3_1).f1) 0 99 true _ A6.out) ?_; rintro e w' ⟨rfl, ⟨nd, rfl⟩⟩; refine ⟨_, rfl, zHd hHeld, _, znb, fun hHeld => ?_⟩) | (refine zcl Tryz.func93 (spec_IsClue.calls k1 ((rd_T91 l0 x3_1).f2.f0) _ _ ((rd_T91 l0 x3_1).f2.f1) false _ (zC HR442_3) HC442_3.out A8.out) ?_; rintro e w41 ⟨rfl, hb⟩; replace BK443 := zk BK443 hb; replace HB := zB hb; refine ⟨_, rfl, zHb hb hHeld, _, znb, fun hHeld => ?_⟩))
       refine zdn ?_
       try go_wp2
       go_ret
       exact ⟨er, bel⟩
     ·
      obtain rfl := Option.some.inj H
      obtain ⟨p442, q442, ad442, A442_3, c442_3, e442, hx442_0, hx442_1, hx442_2, hx442_3, hx442_4, hl442_3, hi442_3⟩ := zx (at_T91 HR0.out x3_1)
      cases e442
      replace hx442_0 := zh HB hx442_0
      replace hx442_1 := zh HB hx442_1
      replace hx442_2 := zh HB hx442_2
      replace hx442_3 := zh HB hx442_3
      replace hx442_4 := zh HB hx442_4
      have HR442_3 := Aside0.mk hi442_3
      have HC442_3 := Aside0.mk hl442_3
      clear hi442_3 hl442_3
      try go_wp2_with (first | ((with_reducible refine zd 4 rfl ?_); refine zbx (w := w) #[.int .i64 0, .int .i64 0, .int .i64 0, .slice none 0 0, .int .i64 0] 91 ?_; intro gb443 hg w42 BK443 hb; have GW443 := zg (w := w) hg; replace HB := zB hb; clear hb hg; have ⟨_, _, _, _, _, _, _, _, _, _⟩ := cz5 BK443))
      refine zgw fun w44 hw_ => ?_
      replace BK443 := zkw hw_ BK443
      replace HB := zBw hw_
      clear hw_
      replace BK443 := zkd BK443
      replace HB := zBd HB
      refine zst 37 spec_AreCorrections.tab5 (zb5 BK443 <| zn0) fun hHeld HT_ => ?_
      generalize w44.drew = w45 at BK443 HB hHeld ⊢
      repeat (first | refine zs1 ?_ | (refine zcl Tryz.func45 (spec_l1In.calls ((rd_T91 l0 x3_1).f0) 1 999 true _ A4.out) ?_; rintro e w' ⟨rfl, ⟨nd, rfl⟩⟩; refine ⟨_, rfl, zHd hHeld, _, znb, fun hHeld => ?_⟩) | (refine zcl Tryz.func45 (spec_l1In.calls ((rd_T91 l0 x3_1).f1) 0 99 false _ A6.out) ?_; rintro e w' ⟨rfl, ⟨nd, rfl⟩⟩; refine ⟨_, rfl, zHd hHeld, _, znb, fun hHeld => ?_⟩))
      refine zdn ?_
      try go_wp2
      go_ret
      exact ⟨er, bel⟩
    ·
     obtain rfl := Option.some.inj H
     obtain ⟨p442, q442, ad442, A442_3, c442_3, e442, hx442_0, hx442_1, hx442_2, hx442_3, hx442_4, hl442_3, hi442_3⟩ := zx (at_T91 HR0.out x3_1)
     cases e442
     replace hx442_0 := zh HB hx442_0
     replace hx442_1 := zh HB hx442_1
     replace hx442_2 := zh HB hx442_2
     replace hx442_3 := zh HB hx442_3
     replace hx442_4 := zh HB hx442_4
     have HR442_3 := Aside0.mk hi442_3
     have HC442_3 := Aside0.mk hl442_3
     clear hi442_3 hl442_3
     try go_wp2_with (first | ((with_reducible refine zd 4 rfl ?_); refine zbx (w := w) #[.int .i64 0, .int .i64 0, .int .i64 0, .slice none 0 0, .int .i64 0] 91 ?_; intro gb443 hg w46 BK443 hb; have GW443 := zg (w := w) hg; replace HB := zB hb; clear hb hg; have ⟨_, _, _, _, _, _, _, _, _, _⟩ := cz5 BK443))
     refine zgw fun w48 hw_ => ?_
     replace BK443 := zkw hw_ BK443
     replace HB := zBw hw_
     clear hw_
     replace BK443 := zkd BK443
     replace HB := zBd HB
     refine zst 37 spec_AreCorrections.tab5 (zb5 BK443 <| zn0) fun hHeld HT_ => ?_
     generalize w48.drew = w49 at BK443 HB hHeld ⊢
     repeat (first | refine zs1 ?_ | (refine zcl Tryz.func45 (spec_l1In.calls ((rd_T91 l0 x3_1).f0) 1 999 false _ A4.out) ?_; rintro e w' ⟨rfl, ⟨nd, rfl⟩⟩; refine ⟨_, rfl, zHd hHeld, _, znb, fun hHeld => ?_⟩))
     refine zdn ?_
     try go_wp2
     go_ret
     exact ⟨er, bel⟩
   ·
    obtain rfl := Option.some.inj H
    go_wp2
    go_ret
    exact ⟨er, bel⟩

end Go.Proofs.YtpcdfjcbjbkliaaGreat.E
