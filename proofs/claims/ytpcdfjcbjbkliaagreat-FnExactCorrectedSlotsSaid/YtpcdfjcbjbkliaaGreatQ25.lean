import Derived.Test.YtpcdfjcbjbkliaaGreatSq
import Derived.Test.YtpcdfjcbjbkliaaGreatQ0
import Derived.Test.YtpcdfjcbjbkliaaGreatQ17
import Derived.Test.YtpcdfjcbjbkliaaGreatQ23
namespace Go.Proofs.YtpcdfjcbjbkliaaGreat.E
open Go.RowKit Go.Proofs.YtpcdfjcbjbkliaaGreatW.PrintWords Go.Proofs.YtpcdfjcbjbkliaaGreatW.PrintLast Go.Proofs.YtpcdfjcbjbkliaaGreatW.PrintMore
attribute [local go_sem] max2_int min2_int max_two min_two max_three min_three max_four min_four
set_option linter.unusedVariables false
set_option linter.unusedSimpArgs false

/-! ### impl_AreCorrections: function 77 -/
def impl_AreCorrections.l0 : Nat → List (S91) → List (S91) → Int → Int → Option (Bool)
 | 0, _, _, _, _ => none
 | k + 1, a, b, c, d => if d < c then (if 0 ≤ d then (if d < (b.length : Int) then ((impl_InRange.f ((rd_T91 b d).f0) 1 999).bind fun e => (if e = true then ((impl_InRange.f ((rd_T91 b d).f1) 0 99).bind fun f => (if f = true then ((impl_IsClue.f k ((rd_T91 b d).f2.f0) ((rd_T91 b d).f2.f1)).bind fun g => (if g = true then ((impl_InRange.f ((rd_T91 b d).f3) 0 1000).bind fun h => (if h = true then (if d > 0 then (if 0 ≤ (wrap64 (d - 1)) then (if (wrap64 (d - 1)) < (a.length : Int) then (if ((rd_T91 b d).f3) < ((rd_T91 a (wrap64 (d - 1))).f3) then (some false) else (impl_AreCorrections.l0 k a b c (wrap64 (d + 1)))) else (none)) else (none)) else (impl_AreCorrections.l0 k a b c (wrap64 (d + 1)))) else (some false))) else (some false))) else (some false))) else (some false))) else (none)) else (none)) else (some true)
def impl_AreCorrections.f (k : Nat) (a : List (S91)) : Option (Bool) := if (a.length : Int) > 12 then (some false) else (impl_AreCorrections.l0 k a a (a.length : Int) 0)
def impl_AreCorrections.T6 : Bool × List (List Nat × List Nat) := (true, [([], []), ([0], [0]), ([1], [1]), ([2], [2]), ([3, 2], [3]), ([4], [4]), ([5, 4], [4, 5]), ([6, 4, 4], [4, 6]), ([7, 4], [4, 7]), ([4, 8], [4, 8]), ([9, 7], [9]), ([10], [10]), ([11, 10], [10, 11]), ([12, 10, 10], [10, 12]), ([13, 10], [10, 13]), ([10, 14], [10, 14]), ([15, 13], [15]), ([16], [16]), ([17, 16], [16, 17]), ([18, 16, 16], [16, 18]), ([19, 16], [16, 19]), ([16, 20], [16, 20]), ([21, 19], [21]), ([22], [22]), ([23, 22], [22, 23]), ([24, 22, 22], [22, 24]), ([25], [25]), ([26, 25], [25, 26]), ([25], [25]), ([25], [25]), ([29, 25], [25, 29]), ([28, 30, 25], [25, 28, 30]), ([31, 25], [25, 31]), ([32, 25], [25, 32]), ([27, 33, 25], [25, 27, 33]), ([25, 34, 22], [22, 25, 34]), ([22, 35], [22, 35])])
theorem impl_AreCorrections.tab6 : rtab .any (opsOf Tryz.f77 6) = impl_AreCorrections.T6 := by kernel_rfl
set_option maxHeartbeats 8000000 in
set_option maxRecDepth 100000 in
theorem impl_AreCorrections.calls (k : Nat) (A0 : Option Addr) (c0 : Nat) (l0 : List (S91)) (r : Bool) (w : World) (hr0 : Kd.C k91 w A0 l0.length l0) (hc0 : l0.length ≤ c0) (H : impl_AreCorrections.f k l0 = some r) :
  Calls Tryz.prog 77 #[.slice A0 l0.length c0] w fun e w' => e = .returned (.bool r) ∧ Below w.heap.size w w' := by
 have hu91 := Tryz.underlying91
 have hu89 := Tryz.underlying89
 have HR0 := Aside0.mk hr0
 have HC0 := Aside0.mk hc0
 clear hr0 hc0
 have HB := Aside0.mk (Below.refl w.heap.size w)
 unfold impl_AreCorrections.f at H
 by_cases c2 : (l0.length : Int) > 12
 ·
  rw [if_pos c2] at H
  have c2b0 : decide (12 < (l0.length : Int)) = true := decide_eq_true c2
  have c2b1 : decide (12 < l0.length) = true := decide_eq_true (by omega)
  clear c2
  obtain rfl := Option.some.inj H
  go_enter Tryz.func77, Tryz.ntmps77
  go_wp2
  go_ret
  exact ⟨er, bel⟩
 ·
  rw [if_neg c2] at H
  have c2b0 : decide (12 < (l0.length : Int)) = false := decide_eq_false c2
  have c2b1 : decide (12 < l0.length) = false := decide_eq_false (by omega)
  clear c2
  have H' := Aside0.mk H
  clear H
  go_enter Tryz.func77, Tryz.ntmps77
  go_wp2
  go_loopg [10] k (fun kq v10 w' => ∃ (x10_1 : Int), v10 = .int .i64 x10_1 ∧ Aside0 (impl_AreCorrections.l0 kq l0 l0 (l0.length : Int) x10_1 = some r) ∧ Aside0 (kq ≤ k) ∧ Aside0 (Below w.heap.size w w'))
  case atStart => exact ⟨(0), rf, H', ⟨Nat.le_refl _⟩, ⟨bel⟩⟩
  case round =>
   clear H'
   obtain ⟨x10_1, rfl, HA, HK1, HB⟩ := hrel
   cases gk with
   | zero => exact absurd HA.out (by simp [impl_AreCorrections.l0])
   | succ k1 =>
    have H := HA.out
    clear HA
    simp only [impl_AreCorrections.l0] at H
    replace H := zc H
    rcases H with ⟨c3b0, H⟩ | ⟨c3b0, H⟩
    ·
     replace H := zr H
     obtain ⟨c4b0, H⟩ := H
     replace H := zr H
     obtain ⟨c5b0, H⟩ := H
     replace H := zs H
     obtain ⟨t691, A6, H⟩ := H
     replace H := zb H
     rcases H with ⟨rfl, H⟩ | ⟨rfl, H⟩
     ·
      replace H := zs H
      obtain ⟨t692, A8, H⟩ := H
      replace H := zb H
      rcases H with ⟨rfl, H⟩ | ⟨rfl, H⟩
      ·
       replace H := zs H
       obtain ⟨t693, A10, H⟩ := H
       replace H := zb H
       rcases H with ⟨rfl, H⟩ | ⟨rfl, H⟩
       ·
        replace H := zs H
        obtain ⟨t694, A12, H⟩ := H
        replace H := zb H
        rcases H with ⟨rfl, H⟩ | ⟨rfl, H⟩
        ·
         replace H := zc H
         rcases H with ⟨c14b0, H⟩ | ⟨c14b0, H⟩
         ·
          obtain ⟨ji15, hji15⟩ : ∃ j_ : Int, (wrap64 (x10_1 - 1)) = j_ := ⟨_, rfl⟩
          replace H : (if 0 ≤ (ji15) then (if (ji15) < (l0.length : Int) then (if ((rd_T91 l0 x10_1).f3) < ((rd_T91 l0 (ji15)).f3) then (some false) else (impl_AreCorrections.l0 k1 l0 l0 (l0.length : Int) (wrap64 (x10_1 + 1)))) else (none)) else (none)) = some r := by first | (rw [hji15] at H; exact H) | (simp only [hji15] at H ⊢; exact H)
          (try rw [hji15] at A6)
          (try rw [hji15] at A8)
          (try rw [hji15] at A10)
          (try rw [hji15] at A12)
          have hji15w : (IntKind.i64.wrap (x10_1 - 1)) = ji15 := (i64_w _).trans hji15
          replace H := zr H
          obtain ⟨c16b0, H⟩ := H
          replace H := zr H
          obtain ⟨c17b0, H⟩ := H
          replace H := zc H
          rcases H with ⟨c18b0, H⟩ | ⟨c18b0, H⟩
          ·
           obtain rfl := Option.some.inj H
           obtain ⟨p689, q689, ad689, A689_3, c689_3, e689, hx689_0, hx689_1, hx689_2, hx689_3, hx689_4, hl689_3, hi689_3⟩ := zx (at_T91 HR0.out x10_1)
           cases e689
           replace hx689_0 := zh HB hx689_0
           replace hx689_1 := zh HB hx689_1
           replace hx689_2 := zh HB hx689_2
           replace hx689_3 := zh HB hx689_3
           replace hx689_4 := zh HB hx689_4
           have HR689_3 := Aside0.mk hi689_3
           have HC689_3 := Aside0.mk hl689_3
           clear hi689_3 hl689_3
           try go_wp2_with (first | ((with_reducible refine zd 4 rfl ?_); refine zbx (w := w) #[.int .i64 0, .int .i64 0, .int .i64 0, .slice none 0 0, .int .i64 0] 91 ?_; intro gb690 hg w19 BK690 hb; have GW690 := zg (w := w) hg; replace HB := zB hb; clear hb hg; have ⟨_, _, _, _, _, _, _, _, _, _⟩ := cz5 BK690))
           refine zgw fun w21 hw_ => ?_
           replace BK690 := zkw hw_ BK690
           replace HB := zBw hw_
           clear hw_
           replace BK690 := zkd BK690
           replace HB := zBd HB
           obtain ⟨p695, q695, ad695, A695_3, c695_3, e695, hx695_0, hx695_1, hx695_2, hx695_3, hx695_4, hl695_3, hi695_3⟩ := zx (at_T91 HR0.out (ji15))
           have hw695_4 := hx695_4
           have hw695_3 := hx695_3
           have hw695_2 := hx695_2
           have hw695_1 := hx695_1
           have hw695_0 := hx695_0
           obtain rfl : ad689 = ad695 := (by injection e695)
           replace hx695_0 := zh HB hx695_0
           replace hx695_1 := zh HB hx695_1
           replace hx695_2 := zh HB hx695_2
           replace hx695_3 := zh HB hx695_3
           replace hx695_4 := zh HB hx695_4
           have HR695_3 := Aside0.mk hi695_3
           have HC695_3 := Aside0.mk hl695_3
           clear hi695_3 hl695_3
           refine zst 37 impl_AreCorrections.tab6 (zb5 BK690 <| zhc (((HB.out.cell (World.block_lt_of_cell? w _ hw695_0)).trans hw695_0)) <| zhc (((HB.out.cell (World.block_lt_of_cell? w _ hw695_1)).trans hw695_1)) <| zhc (((HB.out.cell (World.block_lt_of_cell? w _ hw695_2)).trans hw695_2)) <| zhc (((HB.out.cell (World.block_lt_of_cell? w _ hw695_3)).trans hw695_3)) <| zhc (((HB.out.cell (World.block_lt_of_cell? w _ hw695_4)).trans hw695_4)) <| zn0) fun hHeld HT_ => ?_
           generalize w21.drew = w22 at BK690 HB HR695_3 hx695_0 hx695_1 hx695_2 hx695_3 hx695_4 hHeld ⊢
           repeat (first | refine zs1 ?_ | (refine zcl Tryz.func47 (impl_InRange.calls ((rd_T91 l0 x10_1).f0) 1 999 true _ A6.out) ?_; rintro e w' ⟨rfl, ⟨nd, rfl⟩⟩; refine ⟨_, rfl, zHd hHeld, _, znb, fun hHeld => ?_⟩) | (refine zcl Tryz.func47 (impl_InRange.calls ((rd_T91 l0 x10_1).f1) 0 99 true _ A8.out) ?_; rintro e w' ⟨rfl, ⟨nd, rfl⟩⟩; refine ⟨_, rfl, zHd hHeld, _, znb, fun hHeld => ?_⟩) | (refine zcl Tryz.func102 (impl_IsClue.calls k1 ((rd_T91 l0 x10_1).f2.f0) _ _ ((rd_T91 l0 x10_1).f2.f1) true _ (zC HR689_3) HC689_3.out A10.out) ?_; rintro e w23 ⟨rfl, hb⟩; replace BK690 := zk BK690 hb; replace HB := zB hb; refine ⟨_, rfl, zHb hb hHeld, _, znb, fun hHeld => ?_⟩) | (refine zcl Tryz.func47 (impl_InRange.calls ((rd_T91 l0 x10_1).f3) 0 1000 true _ A12.out) ?_; rintro e w' ⟨rfl, ⟨nd, rfl⟩⟩; refine ⟨_, rfl, zHd hHeld, _, znb, fun hHeld => ?_⟩))
           refine zdn ?_
           try go_wp2
           go_ret
           exact ⟨by first | rfl | (simp [errW_none, errW_some] <;> rfl) | (simp only [← hji15]; first | rfl | (simp [errW_none, errW_some] <;> rfl)) | (simp [*, errW_none, errW_some] <;> rfl), bel⟩
          ·
           have H' := Aside0.mk H
           clear H
           obtain ⟨p689, q689, ad689, A689_3, c689_3, e689, hx689_0, hx689_1, hx689_2, hx689_3, hx689_4, hl689_3, hi689_3⟩ := zx (at_T91 HR0.out x10_1)
           cases e689
           replace hx689_0 := zh HB hx689_0
           replace hx689_1 := zh HB hx689_1
           replace hx689_2 := zh HB hx689_2
           replace hx689_3 := zh HB hx689_3
           replace hx689_4 := zh HB hx689_4
           have HR689_3 := Aside0.mk hi689_3
           have HC689_3 := Aside0.mk hl689_3
           clear hi689_3 hl689_3
           try go_wp2_with (first | ((with_reducible refine zd 4 rfl ?_); refine zbx (w := w) #[.int .i64 0, .int .i64 0, .int .i64 0, .slice none 0 0, .int .i64 0] 91 ?_; intro gb690 hg w24 BK690 hb; have GW690 := zg (w := w) hg; replace HB := zB hb; clear hb hg; have ⟨_, _, _, _, _, _, _, _, _, _⟩ := cz5 BK690))
           refine zgw fun w26 hw_ => ?_
           replace BK690 := zkw hw_ BK690
           replace HB := zBw hw_
           clear hw_
           replace BK690 := zkd BK690
           replace HB := zBd HB
           obtain ⟨p695, q695, ad695, A695_3, c695_3, e695, hx695_0, hx695_1, hx695_2, hx695_3, hx695_4, hl695_3, hi695_3⟩ := zx (at_T91 HR0.out (ji15))
           have hw695_4 := hx695_4
           have hw695_3 := hx695_3
           have hw695_2 := hx695_2
           have hw695_1 := hx695_1
           have hw695_0 := hx695_0
           obtain rfl : ad689 = ad695 := (by injection e695)
           replace hx695_0 := zh HB hx695_0
           replace hx695_1 := zh HB hx695_1
           replace hx695_2 := zh HB hx695_2
           replace hx695_3 := zh HB hx695_3
           replace hx695_4 := zh HB hx695_4
           have HR695_3 := Aside0.mk hi695_3
           have HC695_3 := Aside0.mk hl695_3
           clear hi695_3 hl695_3
           refine zst 37 impl_AreCorrections.tab6 (zb5 BK690 <| zhc (((HB.out.cell (World.block_lt_of_cell? w _ hw695_0)).trans hw695_0)) <| zhc (((HB.out.cell (World.block_lt_of_cell? w _ hw695_1)).trans hw695_1)) <| zhc (((HB.out.cell (World.block_lt_of_cell? w _ hw695_2)).trans hw695_2)) <| zhc (((HB.out.cell (World.block_lt_of_cell? w _ hw695_3)).trans hw695_3)) <| zhc (((HB.out.cell (World.block_lt_of_cell? w _ hw695_4)).trans hw695_4)) <| zn0) fun hHeld HT_ => ?_
           generalize w26.drew = w27 at BK690 HB HR695_3 hx695_0 hx695_1 hx695_2 hx695_3 hx695_4 hHeld ⊢
           repeat (first | refine zs1 ?_ | (refine zcl Tryz.func47 (impl_InRange.calls ((rd_T91 l0 x10_1).f0) 1 999 true _ A6.out) ?_; rintro e w' ⟨rfl, ⟨nd, rfl⟩⟩; refine ⟨_, rfl, zHd hHeld, _, znb, fun hHeld => ?_⟩) | (refine zcl Tryz.func47 (impl_InRange.calls ((rd_T91 l0 x10_1).f1) 0 99 true _ A8.out) ?_; rintro e w' ⟨rfl, ⟨nd, rfl⟩⟩; refine ⟨_, rfl, zHd hHeld, _, znb, fun hHeld => ?_⟩) | (refine zcl Tryz.func102 (impl_IsClue.calls k1 ((rd_T91 l0 x10_1).f2.f0) _ _ ((rd_T91 l0 x10_1).f2.f1) true _ (zC HR689_3) HC689_3.out A10.out) ?_; rintro e w28 ⟨rfl, hb⟩; replace BK690 := zk BK690 hb; replace HB := zB hb; refine ⟨_, rfl, zHb hb hHeld, _, znb, fun hHeld => ?_⟩) | (refine zcl Tryz.func47 (impl_InRange.calls ((rd_T91 l0 x10_1).f3) 0 1000 true _ A12.out) ?_; rintro e w' ⟨rfl, ⟨nd, rfl⟩⟩; refine ⟨_, rfl, zHd hHeld, _, znb, fun hHeld => ?_⟩))
           refine zdn ?_
           try go_wp2
           go_roundg k1
           case measure => have := HK1.out; omega
           case rel => exact ⟨(wrap64 (x10_1 + 1)), rf, H', ⟨by have := HK1.out; omega⟩, ⟨bel⟩⟩
         ·
          have H' := Aside0.mk H
          clear H
          obtain ⟨p689, q689, ad689, A689_3, c689_3, e689, hx689_0, hx689_1, hx689_2, hx689_3, hx689_4, hl689_3, hi689_3⟩ := zx (at_T91 HR0.out x10_1)
          cases e689
          replace hx689_0 := zh HB hx689_0
          replace hx689_1 := zh HB hx689_1
          replace hx689_2 := zh HB hx689_2
          replace hx689_3 := zh HB hx689_3
          replace hx689_4 := zh HB hx689_4
          have HR689_3 := Aside0.mk hi689_3
          have HC689_3 := Aside0.mk hl689_3
          clear hi689_3 hl689_3
          try go_wp2_with (first | ((with_reducible refine zd 4 rfl ?_); refine zbx (w := w) #[.int .i64 0, .int .i64 0, .int .i64 0, .slice none 0 0, .int .i64 0] 91 ?_; intro gb690 hg w29 BK690 hb; have GW690 := zg (w := w) hg; replace HB := zB hb; clear hb hg; have ⟨_, _, _, _, _, _, _, _, _, _⟩ := cz5 BK690))
          refine zgw fun w31 hw_ => ?_
          replace BK690 := zkw hw_ BK690
          replace HB := zBw hw_
          clear hw_
          replace BK690 := zkd BK690
          replace HB := zBd HB
          refine zst 37 impl_AreCorrections.tab6 (zb5 BK690 <| zn0) fun hHeld HT_ => ?_
          generalize w31.drew = w32 at BK690 HB hHeld ⊢
          repeat (first | refine zs1 ?_ | (refine zcl Tryz.func47 (impl_InRange.calls ((rd_T91 l0 x10_1).f0) 1 999 true _ A6.out) ?_; rintro e w' ⟨rfl, ⟨nd, rfl⟩⟩; refine ⟨_, rfl, zHd hHeld, _, znb, fun hHeld => ?_⟩) | (refine zcl Tryz.func47 (impl_InRange.calls ((rd_T91 l0 x10_1).f1) 0 99 true _ A8.out) ?_; rintro e w' ⟨rfl, ⟨nd, rfl⟩⟩; refine ⟨_, rfl, zHd hHeld, _, znb, fun hHeld => ?_⟩) | (refine zcl Tryz.func102 (impl_IsClue.calls k1 ((rd_T91 l0 x10_1).f2.f0) _ _ ((rd_T91 l0 x10_1).f2.f1) true _ (zC HR689_3) HC689_3.out A10.out) ?_; rintro e w33 ⟨rfl, hb⟩; replace BK690 := zk BK690 hb; replace HB := zB hb; refine ⟨_, rfl, zHb hb hHeld, _, znb, fun hHeld => ?_⟩) | (refine zcl Tryz.func47 (impl_InRange.calls ((rd_T91 l0 x10_1).f3) 0 1000 true _ A12.out) ?_; rintro e w' ⟨rfl, ⟨nd, rfl⟩⟩; refine ⟨_, rfl, zHd hHeld, _, znb, fun hHeld => ?_⟩))
          refine zdn ?_
          try go_wp2
          go_roundg k1
          case measure => have := HK1.out; omega
          case rel => exact ⟨(wrap64 (x10_1 + 1)), rf, H', ⟨by have := HK1.out; omega⟩, ⟨bel⟩⟩
        ·
         obtain rfl := Option.some.inj H
         obtain ⟨p689, q689, ad689, A689_3, c689_3, e689, hx689_0, hx689_1, hx689_2, hx689_3, hx689_4, hl689_3, hi689_3⟩ := zx (at_T91 HR0.out x10_1)
         cases e689
         replace hx689_0 := zh HB hx689_0
         replace hx689_1 := zh HB hx689_1
         replace hx689_2 := zh HB hx689_2
         replace hx689_3 := zh HB hx689_3
         replace hx689_4 := zh HB hx689_4
         have HR689_3 := Aside0.mk hi689_3
         have HC689_3 := Aside0.mk hl689_3
         clear hi689_3 hl689_3
         try go_wp2_with (first | ((with_reducible refine zd 4 rfl ?_); refine zbx (w := w) #[.int .i64 0, .int .i64 0, .int .i64 0, .slice none 0 0, .int .i64 0] 91 ?_; intro gb690 hg w34 BK690 hb; have GW690 := zg (w := w) hg; replace HB := zB hb; clear hb hg; have ⟨_, _, _, _, _, _, _, _, _, _⟩ := cz5 BK690))
         refine zgw fun w36 hw_ => ?_
         replace BK690 := zkw hw_ BK690
         replace HB := zBw hw_
         clear hw_
         replace BK690 := zkd BK690
         replace HB := zBd HB
         refine zst 37 impl_AreCorrections.tab6 (zb5 BK690 <| zn0) fun hHeld HT_ => ?_
         generalize w36.drew = w37 at BK690 HB hHeld ⊢
         repeat (first | refine zs1 ?_ | (refine zcl Tryz.func47 (impl_InRange.calls ((rd_T91 l0 x10_1).f0) 1 999 true _ A6.out) ?_; rintro e w' ⟨rfl, ⟨nd, rfl⟩⟩; refine ⟨_, rfl, zHd hHeld, _, znb, fun hHeld => ?_⟩) | (refine zcl Tryz.func47 (impl_InRange.calls ((rd_T91 l0 x10_1).f1) 0 99 true _ A8.out) ?_; rintro e w' ⟨rfl, ⟨nd, rfl⟩⟩; refine ⟨_, rfl, zHd hHeld, _, znb, fun hHeld => ?_⟩) | (refine zcl Tryz.func102 (impl_IsClue.calls k1 ((rd_T91 l0 x10_1).f2.f0) _ _ ((rd_T91 l0 x10_1).f2.f1) true _ (zC HR689_3) HC689_3.out A10.out) ?_; rintro e w38 ⟨rfl, hb⟩; replace BK690 := zk BK690 hb; replace HB := zB hb; refine ⟨_, rfl, zHb hb hHeld, _, znb, fun hHeld => ?_⟩) | (refine zcl Tryz.func47 (impl_InRange.calls ((rd_T91 l0 x10_1).f3) 0 1000 false _ A12.out) ?_; rintro e w' ⟨rfl, ⟨nd, rfl⟩⟩; refine ⟨_, rfl, zHd hHeld, _, znb, fun hHeld => ?_⟩))
         refine zdn ?_
         try go_wp2
         go_ret
         exact ⟨er, bel⟩
       ·
        obtain rfl := Option.some.inj H
        obtain ⟨p689, q689, ad689, A689_3, c689_3, e689, hx689_0, hx689_1, hx689_2, hx689_3, hx689_4, hl689_3, hi689_3⟩ := zx (at_T91 HR0.out x10_1)
        cases e689
        replace hx689_0 := zh HB hx689_0
        replace hx689_1 := zh HB hx689_1
        replace hx689_2 := zh HB hx689_2
        replace hx689_3 := zh HB hx689_3
        replace hx689_4 := zh HB hx689_4
        have HR689_3 := Aside0.mk hi689_3
        have HC689_3 := Aside0.mk hl689_3
        clear hi689_3 hl689_3
        try go_wp2_with (first | ((with_reducible refine zd 4 rfl ?_); refine zbx (w := w) #[.int .i64 0, .int .i64 0, .int .i64 0, .slice none 0 0, .int .i64 0] 91 ?_; intro gb690 hg w39 BK690 hb; have GW690 := zg (w := w) hg; replace HB := zB hb; clear hb hg; have ⟨_, _, _, _, _, _, _, _, _, _⟩ := cz5 BK690))
        refine zgw fun w41 hw_ => ?_
        replace BK690 := zkw hw_ BK690
        replace HB := zBw hw_
        clear hw_
        replace BK690 := zkd BK690
        replace HB := zBd HB
        refine zst 37 impl_AreCorrections.tab6 (zb5 BK690 <| zn0) fun hHeld HT_ => ?_
        generalize w41.drew = w42 at BK690 HB hHeld ⊢
        repeat (first | refine zs1 ?_ | (refine zcl Tryz.func47 (impl_InRange.calls ((rd_T91 l0 x10_1).f0) 1 999 true _ A6.out) ?_; rintro e w' ⟨rfl, ⟨nd, rfl⟩⟩; refine ⟨_, rfl, zHd hHeld, _, znb, fun hHeld => ?_⟩) | (refine zcl Tryz.func47 (impl_InRange.calls ((rd_T91 l0 x10_1).f1) 0 99 true _ A8.out) ?_; rintro e w' ⟨rfl, ⟨nd, rfl⟩⟩; refine ⟨_, rfl, zHd hHeld, _, znb, fun hHeld => ?_⟩) | (refine zcl Tryz.func102 (impl_IsClue.calls k1 ((rd_T91 l0 x10_1).f2.f0) _ _ ((rd_T91 l0 x10_1).f2.f1) false _ (zC HR689_3) HC689_3.out A10.out) ?_; rintro e w43 ⟨rfl, hb⟩; replace BK690 := zk BK690 hb; replace HB := zB hb; refine ⟨_, rfl, zHb hb hHeld, _, znb, fun hHeld => ?_⟩))
        refine zdn ?_
        try go_wp2
        go_ret
        exact ⟨er, bel⟩
      ·
       obtain rfl := Option.some.inj H
       obtain ⟨p689, q689, ad689, A689_3, c689_3, e689, hx689_0, hx689_1, hx689_2, hx689_3, hx689_4, hl689_3, hi689_3⟩ := zx (at_T91 HR0.out x10_1)
       cases e689
       replace hx689_0 := zh HB hx689_0
       replace hx689_1 := zh HB hx689_1
       replace hx689_2 := zh HB hx689_2
       replace hx689_3 := zh HB hx689_3
       replace hx689_4 := zh HB hx689_4
       have HR689_3 := Aside0.mk hi689_3
       have HC689_3 := Aside0.mk hl689_3
       clear hi689_3 hl689_3
       try go_wp2_with (first | ((with_reducible refine zd 4 rfl ?_); refine zbx (w := w) #[.int .i64 0, .int .i64 0, .int .i64 0, .slice none 0 0, .int .i64 0] 91 ?_; intro gb690 hg w44 BK690 hb; have GW690 := zg (w := w) hg; replace HB := zB hb; clear hb hg; have ⟨_, _, _, _, _, _, _, _, _, _⟩ := cz5 BK690))
       refine zgw fun w46 hw_ => ?_
       replace BK690 := zkw hw_ BK690
       replace HB := zBw hw_
       clear hw_
       replace BK690 := zkd BK690
       replace HB := zBd HB
       refine zst 37 impl_AreCorrections.tab6 (zb5 BK690 <| zn0) fun hHeld HT_ => ?_
       generalize w46.drew = w47 at BK690 HB hHeld ⊢
       repeat (first | refine zs1 ?_ | (refine zcl Tryz.func47 (impl_InRange.calls ((rd_T91 l0 x10_1).f0) 1 999 true _ A6.out) ?_; rintro e w' ⟨rfl, ⟨nd, rfl⟩⟩; refine ⟨_, rfl, zHd hHeld, _, znb, fun hHeld => ?_⟩) | (refine zcl Tryz.func47 (impl_InRange.calls ((rd_T91 l0 x10_1).f1) 0 99 false _ A8.out) ?_; rintro e w' ⟨rfl, ⟨nd, rfl⟩⟩; refine ⟨_, rfl, zHd hHeld, _, znb, fun hHeld => ?_⟩))
       refine zdn ?_
       try go_wp2
       go_ret
       exact ⟨er, bel⟩
     ·
      obtain rfl := Option.some.inj H
      obtain ⟨p689, q689, ad689, A689_3, c689_3, e689, hx689_0, hx689_1, hx689_2, hx689_3, hx689_4, hl689_3, hi689_3⟩ := zx (at_T91 HR0.out x10_1)
      cases e689
      replace hx689_0 := zh HB hx689_0
      replace hx689_1 := zh HB hx689_1
      replace hx689_2 := zh HB hx689_2
      replace hx689_3 := zh HB hx689_3
      replace hx689_4 := zh HB hx689_4
      have HR689_3 := Aside0.mk hi689_3
      have HC689_3 := Aside0.mk hl689_3
      clear hi689_3 hl689_3
      try go_wp2_with (first | ((with_reducible refine zd 4 rfl ?_); refine zbx (w := w) #[.int .i64 0, .int .i64 0, .int .i64 0, .slice none 0 0, .int .i64 0] 91 ?_; intro gb690 hg w48 BK690 hb; have GW690 := zg (w := w) hg; replace HB := zB hb; clear hb hg; have ⟨_, _, _, _, _, _, _, _, _, _⟩ := cz5 BK690))
      refine zgw fun w50 hw_ => ?_
      replace BK690 := zkw hw_ BK690
      replace HB := zBw hw_
      clear hw_
      replace BK690 := zkd BK690
      replace HB := zBd HB
      refine zst 37 impl_AreCorrections.tab6 (zb5 BK690 <| zn0) fun hHeld HT_ => ?_
      generalize w50.drew = w51 at BK690 HB hHeld ⊢
      repeat (first | refine zs1 ?_ | (refine zcl Tryz.func47 (impl_InRange.calls ((rd_T91 l0 x10_1).f0) 1 999 false _ A6.out) ?_; rintro e w' ⟨rfl, ⟨nd, rfl⟩⟩; refine ⟨_, rfl, zHd hHeld, _, znb, fun hHeld => ?_⟩))
      refine zdn ?_
      try go_wp2
      go_ret
      exact ⟨er, bel⟩
    ·
     obtain rfl := Option.some.inj H
     go_wp2
     go_ret
     exact ⟨er, bel⟩

end Go.Proofs.YtpcdfjcbjbkliaaGreat.E
