import Derived.Test.YtpcdfjcbjbkliaaSq
import Derived.Test.YtpcdfjcbjbkliaaQ0
import Derived.Test.YtpcdfjcbjbkliaaQ3
import Derived.Test.YtpcdfjcbjbkliaaQ15
import Derived.Test.YtpcdfjcbjbkliaaQ16
import Derived.Test.YtpcdfjcbjbkliaaQ17
namespace Go.Proofs.Ytpcdfjcbjbkliaa.E
open Go.RowKit Go.Proofs.YtpcdfjcbjbkliaaW.PrintWords Go.Proofs.YtpcdfjcbjbkliaaW.PrintLast Go.Proofs.YtpcdfjcbjbkliaaW.PrintMore
attribute [local go_sem] max2_int min2_int max_two min_two max_three min_three max_four min_four
set_option linter.unusedVariables false
set_option linter.unusedSimpArgs false

attribute [local go_sem high] eqA87
/-! ### impl_FormOf: function 59 -/
mutual
def impl_FormOf.l0 : Nat → List (S79) → List (S79) → Int → Int → Int → Int → ByteArray → Option (Int)
 | 0, _, _, _, _, _, _, _ => none
 | k + 1, x3, x22, x23, x24, x437000, x437001, x437002 => if x24 < x23 then (if 0 ≤ x24 then (if x24 < (x22.length : Int) then (if ((rd_T79 x22 x24).f3) < 3 then (some 4) else (impl_FormOf.l0 k x3 x22 x23 (wrap64 (x24 + 1)) x437000 x437001 x437002)) else (none)) else (none)) else (impl_FormOf.l1 k x3 (x3.length : Int) 0 x437000 x437001 x437002)
def impl_FormOf.l1 : Nat → List (S79) → Int → Int → Int → Int → ByteArray → Option (Int)
 | 0, _, _, _, _, _, _ => none
 | k + 1, x32, x33, x34, x437000, x437001, x437002 => if x34 < x33 then (if 0 ≤ x34 then (if x34 < (x32.length : Int) then ((impl_UncheckedIn.f k x437000 x437001 x437002 x34).bind fun t447 => (if (wrap64 (2 * t447)) > ((rd_T79 x32 x34).f3) then (some 5) else (impl_FormOf.l1 k x32 x33 (wrap64 (x34 + 1)) x437000 x437001 x437002))) else (none)) else (none)) else ((impl_alone.f k x437000 x437001 x437002 x437002).bind fun t448 => (if t448 = true then (some 5) else (some 0)))
end
def impl_FormOf.f (k : Nat) (a0_0 : Int) (a0_1 : Int) (a0_2 : ByteArray) : Option (Int) := (impl_IsGrid.f k a0_0 a0_1 a0_2).bind fun t437 => (if t437 = true then ((impl_IsSymmetric.f k a0_0 a0_1 a0_2).bind fun t438 => (if t438 = true then ((impl_IsConnected.f k a0_0 a0_1 a0_2).bind fun t439 => (if t439 = true then ((impl_SlotsOf.f k a0_0 a0_1 a0_2).bind fun t440 => (impl_FormOf.l0 k t440 t440 (t440.length : Int) 0 a0_0 a0_1 a0_2)) else (some 3))) else (some 2))) else (some 1))
set_option maxHeartbeats 8000000 in
set_option maxRecDepth 100000 in
theorem impl_FormOf.calls (k : Nat) (a0_0 : Int) (a0_1 : Int) (a0_2 : ByteArray) (r : Int) (w : World) (H : impl_FormOf.f k a0_0 a0_1 a0_2 = some r) :
  Calls Try.prog 59 #[.agg #[.int .i64 a0_0, .int .i64 a0_1, .string a0_2]] w fun e w' => e = .returned (.int .i64 r) ∧ Below w.heap.size w w' := by
 have hu30 := Try.underlying30
 have hu79 := Try.underlying79
 have HB := Aside0.mk (Below.refl w.heap.size w)
 unfold impl_FormOf.f at H
 replace H := zs H
 obtain ⟨t437, A2, H⟩ := H
 replace H := zb H
 rcases H with ⟨rfl, H⟩ | ⟨rfl, H⟩
 rotate_left
 focus
  obtain rfl := Option.some.inj H
 rotate_right
 focus
  replace H := zs H
  obtain ⟨t438, A4, H⟩ := H
  replace H := zb H
  rcases H with ⟨rfl, H⟩ | ⟨rfl, H⟩
  rotate_left
  focus
   obtain rfl := Option.some.inj H
  rotate_right
  focus
   replace H := zs H
   obtain ⟨t439, A6, H⟩ := H
   replace H := zb H
   rcases H with ⟨rfl, H⟩ | ⟨rfl, H⟩
   rotate_left
   focus
    obtain rfl := Option.some.inj H
   rotate_right
   focus
    replace H := zs H
    obtain ⟨t440, A8, H⟩ := H
    have H' := Aside0.mk H
    clear H
    go_enter Try.func59, Try.ntmps59
    go_wp2_with (first | ((with_reducible refine zd 1 rfl ?_); refine zbx (w := w) #[.int .i64 a0_0, .int .i64 a0_1, .string a0_2] 30 ?_; intro gb436 hg w9 BK436 hb; have GW436 := zg (w := w) hg; replace HB := zB hb; clear hb hg; have ⟨_, _, _, _, _, _⟩ := cz3 BK436) | ((with_reducible refine zd 10 rfl ?_); refine zgl Try.func85 (impl_IsGrid.calls k a0_0 a0_1 a0_2 true _ A2.out) ?_; rintro e w11 ⟨rfl, hb⟩; refine ⟨_, rfl, ?_⟩; replace BK436 := zk BK436 hb; replace HB := zB hb; have ⟨_, _, _, _, _, _⟩ := cz3 BK436) | ((with_reducible refine zd 14 rfl ?_); refine zgl Try.func86 (impl_IsSymmetric.calls k a0_0 a0_1 a0_2 true _ A4.out) ?_; rintro e w13 ⟨rfl, hb⟩; refine ⟨_, rfl, ?_⟩; replace BK436 := zk BK436 hb; replace HB := zB hb; have ⟨_, _, _, _, _, _⟩ := cz3 BK436) | ((with_reducible refine zd 18 rfl ?_); refine zgl Try.func87 (impl_IsConnected.calls k a0_0 a0_1 a0_2 true _ A6.out) ?_; rintro e w15 ⟨rfl, hb⟩; refine ⟨_, rfl, ?_⟩; replace BK436 := zk BK436 hb; replace HB := zB hb; have ⟨_, _, _, _, _, _⟩ := cz3 BK436) | ((with_reducible refine zd 21 rfl ?_); refine zgl Try.func61 (impl_SlotsOf.calls k a0_0 a0_1 a0_2 t440 _ A8.out) ?_; rintro e w17 ⟨v441, rfl, ho0, hb⟩; refine ⟨_, rfl, ?_⟩; have HO442 := zl2 ho0; replace BK436 := zk BK436 hb; replace HB := zB hb; obtain ⟨Ao18, co18, eo18⟩ := Kd.R_slice HO442.out; subst eo18))
    go_loopg [24] k (fun kq v24 w' => ∃ (x24_1 : Int), v24 = .int .i64 x24_1 ∧ Aside0 (impl_FormOf.l0 kq t440 t440 (t440.length : Int) x24_1 a0_0 a0_1 a0_2 = some r) ∧ Aside0 (kq ≤ k) ∧ Aside0 (Kd.R k79 79 w' w.heap.size (fun _ => True) (.slice Ao18 t440.length co18) t440) ∧ Aside0 (Kd.R k79 79 w' w.heap.size (fun _ => True) (.slice Ao18 t440.length co18) t440) ∧ Aside0 (w'.heap[gb436]? = some (.cells #[.int .i64 a0_0, .int .i64 a0_1, .string a0_2] 30 (0, 0))) ∧ Aside0 (Below w.heap.size w w'))
    case atStart => exact ⟨(0), rf, H', ⟨Nat.le_refl _⟩, ⟨kr HO442⟩, ⟨kr HO442⟩, ⟨bk BK436⟩, ⟨bel⟩⟩
    case round =>
     clear H'
     obtain ⟨x24_1, rfl, HA, HK1, HO_3, HO_22, BK436, HB⟩ := hrel
     cases gk with
     | zero => exact absurd HA.out (by simp [impl_FormOf.l0])
     | succ k1 =>
      have H := HA.out
      clear HA
      simp only [impl_FormOf.l0] at H
      replace H := zc H
      rcases H with ⟨c19b0, H⟩ | ⟨c19b0, H⟩
      ·
       replace H := zr H
       obtain ⟨c20b0, H⟩ := H
       replace H := zr H
       obtain ⟨c21b0, H⟩ := H
       replace H := zc H
       rcases H with ⟨c22b0, H⟩ | ⟨c22b0, H⟩
       ·
        obtain rfl := Option.some.inj H
        obtain ⟨p443, q443, ad443, e443, hx443_0, hx443_1, hx443_2, hx443_3⟩ := zx (at_T79 (Kd.R_reads' HO_22.out).2.2 x24_1)
        cases e443
        go_wp2_with (first | ((with_reducible refine zd 5 rfl ?_); refine zbx (w := w) #[.int .i64 0, .bool false, .int .i64 0, .int .i64 0] 79 ?_; intro gb444 hg w23 BK444 hb; replace HO_3 := Aside0.mk (Kd.R_below (Kd.R_elderB (kr HO_3) gb444 (Nat.le_of_eq hg.symm)) hb); replace HO_22 := Aside0.mk (Kd.R_below (Kd.R_elderB (kr HO_22) gb444 (Nat.le_of_eq hg.symm)) hb); have GW444 := zg (w := w) hg; replace HB := zB hb; have NB436_444 := zn hg BK436; have NB444_436 := zm hg BK436; replace BK436 := zk BK436 hb; clear hb hg; have hnb24 := NB444_436.out; have hnc24 := NB436_444.out; have ⟨_, _, _, _, _, _, _, _⟩ := cz4 BK444))
        go_ret
        exact ⟨er, bel⟩
       ·
        have H' := Aside0.mk H
        clear H
        obtain ⟨p443, q443, ad443, e443, hx443_0, hx443_1, hx443_2, hx443_3⟩ := zx (at_T79 (Kd.R_reads' HO_22.out).2.2 x24_1)
        cases e443
        go_wp2_with (first | ((with_reducible refine zd 5 rfl ?_); refine zbx (w := w) #[.int .i64 0, .bool false, .int .i64 0, .int .i64 0] 79 ?_; intro gb444 hg w26 BK444 hb; replace HO_3 := Aside0.mk (Kd.R_below (Kd.R_elderB (kr HO_3) gb444 (Nat.le_of_eq hg.symm)) hb); replace HO_22 := Aside0.mk (Kd.R_below (Kd.R_elderB (kr HO_22) gb444 (Nat.le_of_eq hg.symm)) hb); have GW444 := zg (w := w) hg; replace HB := zB hb; have NB436_444 := zn hg BK436; have NB444_436 := zm hg BK436; replace BK436 := zk BK436 hb; clear hb hg; have hnb27 := NB444_436.out; have hnc27 := NB436_444.out; have ⟨_, _, _, _, _, _, _, _⟩ := cz4 BK444))
        go_roundg k1
        case measure => have := HK1.out; omega
        case rel => exact ⟨(wrap64 (x24_1 + 1)), rf, H', ⟨by have := HK1.out; omega⟩, ⟨zRg gb444 HO_3⟩, ⟨zRg gb444 HO_22⟩, ⟨by (with_reducible repeat (first | refine blk_drewN ?_ _ | refine blk_drew ?_ | refine blk_alloc ?_ _)); refine blk_far ?_ NB436_444.out _; (with_reducible repeat (first | refine blk_drewN ?_ _ | refine blk_drew ?_ | refine blk_alloc ?_ _)); refine blk_far ?_ NB436_444.out _; (with_reducible repeat (first | refine blk_drewN ?_ _ | refine blk_drew ?_ | refine blk_alloc ?_ _)); refine blk_far ?_ NB436_444.out _; (with_reducible repeat (first | refine blk_drewN ?_ _ | refine blk_drew ?_ | refine blk_alloc ?_ _)); refine blk_far ?_ NB436_444.out _; (with_reducible repeat (first | refine blk_drewN ?_ _ | refine blk_drew ?_ | refine blk_alloc ?_ _)); exact BK436.out⟩, ⟨bel⟩⟩
      ·
       have H' := Aside0.mk H
       clear H
       go_wp2
       go_loopg [34] k1 (fun kq v34 w' => ∃ (x34_2 : Int), v34 = .int .i64 x34_2 ∧ Aside0 (impl_FormOf.l1 kq t440 (t440.length : Int) x34_2 a0_0 a0_1 a0_2 = some r) ∧ Aside0 (kq ≤ k1) ∧ Aside0 (Kd.R k79 79 w' w.heap.size (fun _ => True) (.slice Ao18 t440.length co18) t440) ∧ Aside0 (w'.heap[gb436]? = some (.cells #[.int .i64 a0_0, .int .i64 a0_1, .string a0_2] 30 (0, 0))) ∧ Aside0 (Below w.heap.size w w'))
       case atStart => exact ⟨(0), rf, H', ⟨Nat.le_refl _⟩, ⟨kr HO_3⟩, ⟨bk BK436⟩, ⟨bel⟩⟩
       case round =>
        clear H'
        obtain ⟨x34_2, rfl, HA, HK2, HO_32, BK436, HB⟩ := hrel
        cases gk with
        | zero => exact absurd HA.out (by simp [impl_FormOf.l1])
        | succ k2 =>
         have H := HA.out
         clear HA
         simp only [impl_FormOf.l1] at H
         replace H := zc H
         rcases H with ⟨c29b0, H⟩ | ⟨c29b0, H⟩
         ·
          replace H := zr H
          obtain ⟨c30b0, H⟩ := H
          replace H := zr H
          obtain ⟨c31b0, H⟩ := H
          replace H := zs H
          obtain ⟨t447, A32, H⟩ := H
          replace H := zc H
          rcases H with ⟨c33b0, H⟩ | ⟨c33b0, H⟩
          ·
           obtain rfl := Option.some.inj H
           obtain ⟨p445, q445, ad445, e445, hx445_0, hx445_1, hx445_2, hx445_3⟩ := zx (at_T79 (Kd.R_reads' HO_32.out).2.2 x34_2)
           cases e445
           try go_wp2_with (first | ((with_reducible refine zd 7 rfl ?_); refine zbx (w := w) #[.int .i64 0, .bool false, .int .i64 0, .int .i64 0] 79 ?_; intro gb446 hg w34 BK446 hb; replace HO_32 := Aside0.mk (Kd.R_below (Kd.R_elderB (kr HO_32) gb446 (Nat.le_of_eq hg.symm)) hb); have GW446 := zg (w := w) hg; replace HB := zB hb; have NB436_446 := zn hg BK436; have NB446_436 := zm hg BK436; replace BK436 := zk BK436 hb; clear hb hg; have hnb35 := NB446_436.out; have hnc35 := NB436_446.out; have ⟨_, _, _, _, _, _, _, _⟩ := cz4 BK446))
           have n0_ : Aside0 (Kd.R k79 79 ((((w34.setCell ⟨gb446, 0, none⟩ (.int .i64 ((rd_T79 t440 x34_2).f0))).setCell ⟨gb446, 1, none⟩ (.bool ((rd_T79 t440 x34_2).f1))).setCell ⟨gb446, 2, none⟩ (.int .i64 ((rd_T79 t440 x34_2).f2))).setCell ⟨gb446, 3, none⟩ (.int .i64 ((rd_T79 t440 x34_2).f3))) w.heap.size (fun k_ => k_ ≠ gb446) (.slice (some ad445) t440.length co18) t440) := ⟨by (with_reducible repeat (first | apply Kd.R_alloc | apply Kd.R_drewN | apply Kd.R_drew)); exact Kd.R_mono (Kd.R_far (p := ⟨gb446, 3, none⟩) (Kd.R_far (p := ⟨gb446, 2, none⟩) (Kd.R_far (p := ⟨gb446, 1, none⟩) (Kd.R_far (p := ⟨gb446, 0, none⟩) (Kd.R_mono HO_32.out (fun k_ hk => (⟨hk, hk.2⟩ : _ ∧ k_ ≠ gb446))) (fun _ hk => hk.2) (.int .i64 ((rd_T79 t440 x34_2).f0))) (fun _ hk => hk.2) (.bool ((rd_T79 t440 x34_2).f1))) (fun _ hk => hk.2) (.int .i64 ((rd_T79 t440 x34_2).f2))) (fun _ hk => hk.2) (.int .i64 ((rd_T79 t440 x34_2).f3))) (fun _ hk => hk.1.2)⟩
           have n1_ : Aside0 (((((w34.setCell ⟨gb446, 0, none⟩ (.int .i64 ((rd_T79 t440 x34_2).f0))).setCell ⟨gb446, 1, none⟩ (.bool ((rd_T79 t440 x34_2).f1))).setCell ⟨gb446, 2, none⟩ (.int .i64 ((rd_T79 t440 x34_2).f2))).setCell ⟨gb446, 3, none⟩ (.int .i64 ((rd_T79 t440 x34_2).f3))).heap[gb436]? = some (.cells #[.int .i64 a0_0, .int .i64 a0_1, .string a0_2] 30 (0, 0))) := ⟨by (with_reducible repeat (first | refine blk_drewN ?_ _ | refine blk_drew ?_ | refine blk_alloc ?_ _)); refine blk_far ?_ NB436_446.out _; (with_reducible repeat (first | refine blk_drewN ?_ _ | refine blk_drew ?_ | refine blk_alloc ?_ _)); refine blk_far ?_ NB436_446.out _; (with_reducible repeat (first | refine blk_drewN ?_ _ | refine blk_drew ?_ | refine blk_alloc ?_ _)); refine blk_far ?_ NB436_446.out _; (with_reducible repeat (first | refine blk_drewN ?_ _ | refine blk_drew ?_ | refine blk_alloc ?_ _)); refine blk_far ?_ NB436_446.out _; (with_reducible repeat (first | refine blk_drewN ?_ _ | refine blk_drew ?_ | refine blk_alloc ?_ _)); exact BK436.out⟩
           have n2_ : Aside0 (((((w34.setCell ⟨gb446, 0, none⟩ (.int .i64 ((rd_T79 t440 x34_2).f0))).setCell ⟨gb446, 1, none⟩ (.bool ((rd_T79 t440 x34_2).f1))).setCell ⟨gb446, 2, none⟩ (.int .i64 ((rd_T79 t440 x34_2).f2))).setCell ⟨gb446, 3, none⟩ (.int .i64 ((rd_T79 t440 x34_2).f3))).heap[gb446]? = some (.cells #[.int .i64 ((rd_T79 t440 x34_2).f0), .bool ((rd_T79 t440 x34_2).f1), .int .i64 ((rd_T79 t440 x34_2).f2), .int .i64 ((rd_T79 t440 x34_2).f3)] 79 (0, 0))) := ⟨by (with_reducible repeat (first | refine blk_drewN ?_ _ | refine blk_drew ?_ | refine blk_alloc ?_ _)); refine blk_put (cs := #[.int .i64 ((rd_T79 t440 x34_2).f0), .bool ((rd_T79 t440 x34_2).f1), .int .i64 ((rd_T79 t440 x34_2).f2), .int .i64 0]) ?_ 3 _ rfl; (with_reducible repeat (first | refine blk_drewN ?_ _ | refine blk_drew ?_ | refine blk_alloc ?_ _)); refine blk_put (cs := #[.int .i64 ((rd_T79 t440 x34_2).f0), .bool ((rd_T79 t440 x34_2).f1), .int .i64 0, .int .i64 0]) ?_ 2 _ rfl; (with_reducible repeat (first | refine blk_drewN ?_ _ | refine blk_drew ?_ | refine blk_alloc ?_ _)); refine blk_put (cs := #[.int .i64 ((rd_T79 t440 x34_2).f0), .bool false, .int .i64 0, .int .i64 0]) ?_ 1 _ rfl; (with_reducible repeat (first | refine blk_drewN ?_ _ | refine blk_drew ?_ | refine blk_alloc ?_ _)); refine blk_put (cs := #[.int .i64 0, .bool false, .int .i64 0, .int .i64 0]) ?_ 0 _ rfl; (with_reducible repeat (first | refine blk_drewN ?_ _ | refine blk_drew ?_ | refine blk_alloc ?_ _)); exact BK446.out⟩
           have n3_ : Aside0 (Below w.heap.size w ((((w34.setCell ⟨gb446, 0, none⟩ (.int .i64 ((rd_T79 t440 x34_2).f0))).setCell ⟨gb446, 1, none⟩ (.bool ((rd_T79 t440 x34_2).f1))).setCell ⟨gb446, 2, none⟩ (.int .i64 ((rd_T79 t440 x34_2).f2))).setCell ⟨gb446, 3, none⟩ (.int .i64 ((rd_T79 t440 x34_2).f3)))) := ⟨bel⟩
           (try clear HO_32)
           (try clear BK436)
           (try clear BK446)
           (try clear HB)
           generalize ((((w34.setCell ⟨gb446, 0, none⟩ (.int .i64 ((rd_T79 t440 x34_2).f0))).setCell ⟨gb446, 1, none⟩ (.bool ((rd_T79 t440 x34_2).f1))).setCell ⟨gb446, 2, none⟩ (.int .i64 ((rd_T79 t440 x34_2).f2))).setCell ⟨gb446, 3, none⟩ (.int .i64 ((rd_T79 t440 x34_2).f3))) = w37 at n0_ n1_ n2_ n3_ ⊢
           have HO_32 := n0_
           have BK436 := n1_
           have BK446 := n2_
           have HB := n3_
           clear n0_ n1_ n2_ n3_
           replace HO_32 := zRd HO_32
           replace BK436 := zkd BK436
           replace BK446 := zkd BK446
           replace HB := zBd HB
           refine zst 7 rfl (zb3 BK436 <| zb4 BK446 <| zn0) fun hHeld HT_ => ?_
           generalize w37.drew = w38 at HO_32 BK436 BK446 HB hHeld ⊢
           repeat (first | refine zs1 ?_ | (refine zcl Try.func88 (impl_UncheckedIn.calls k2 a0_0 a0_1 a0_2 x34_2 t447 _ A32.out) ?_; rintro e w39 ⟨rfl, hb⟩; replace HO_32 := zR HO_32 hb; replace BK436 := zk BK436 hb; replace BK446 := zk BK446 hb; replace HB := zB hb; refine ⟨_, rfl, zHb hb hHeld, _, znb, fun hHeld => ?_⟩))
           refine zdn ?_
           try go_wp2
           go_ret
           exact ⟨er, bel⟩
          ·
           have H' := Aside0.mk H
           clear H
           obtain ⟨p445, q445, ad445, e445, hx445_0, hx445_1, hx445_2, hx445_3⟩ := zx (at_T79 (Kd.R_reads' HO_32.out).2.2 x34_2)
           cases e445
           try go_wp2_with (first | ((with_reducible refine zd 7 rfl ?_); refine zbx (w := w) #[.int .i64 0, .bool false, .int .i64 0, .int .i64 0] 79 ?_; intro gb446 hg w40 BK446 hb; replace HO_32 := Aside0.mk (Kd.R_below (Kd.R_elderB (kr HO_32) gb446 (Nat.le_of_eq hg.symm)) hb); have GW446 := zg (w := w) hg; replace HB := zB hb; have NB436_446 := zn hg BK436; have NB446_436 := zm hg BK436; replace BK436 := zk BK436 hb; clear hb hg; have hnb41 := NB446_436.out; have hnc41 := NB436_446.out; have ⟨_, _, _, _, _, _, _, _⟩ := cz4 BK446))
           have n0_ : Aside0 (Kd.R k79 79 ((((w40.setCell ⟨gb446, 0, none⟩ (.int .i64 ((rd_T79 t440 x34_2).f0))).setCell ⟨gb446, 1, none⟩ (.bool ((rd_T79 t440 x34_2).f1))).setCell ⟨gb446, 2, none⟩ (.int .i64 ((rd_T79 t440 x34_2).f2))).setCell ⟨gb446, 3, none⟩ (.int .i64 ((rd_T79 t440 x34_2).f3))) w.heap.size (fun k_ => k_ ≠ gb446) (.slice (some ad445) t440.length co18) t440) := ⟨by (with_reducible repeat (first | apply Kd.R_alloc | apply Kd.R_drewN | apply Kd.R_drew)); exact Kd.R_mono (Kd.R_far (p := ⟨gb446, 3, none⟩) (Kd.R_far (p := ⟨gb446, 2, none⟩) (Kd.R_far (p := ⟨gb446, 1, none⟩) (Kd.R_far (p := ⟨gb446, 0, none⟩) (Kd.R_mono HO_32.out (fun k_ hk => (⟨hk, hk.2⟩ : _ ∧ k_ ≠ gb446))) (fun _ hk => hk.2) (.int .i64 ((rd_T79 t440 x34_2).f0))) (fun _ hk => hk.2) (.bool ((rd_T79 t440 x34_2).f1))) (fun _ hk => hk.2) (.int .i64 ((rd_T79 t440 x34_2).f2))) (fun _ hk => hk.2) (.int .i64 ((rd_T79 t440 x34_2).f3))) (fun _ hk => hk.1.2)⟩
           have n1_ : Aside0 (((((w40.setCell ⟨gb446, 0, none⟩ (.int .i64 ((rd_T79 t440 x34_2).f0))).setCell ⟨gb446, 1, none⟩ (.bool ((rd_T79 t440 x34_2).f1))).setCell ⟨gb446, 2, none⟩ (.int .i64 ((rd_T79 t440 x34_2).f2))).setCell ⟨gb446, 3, none⟩ (.int .i64 ((rd_T79 t440 x34_2).f3))).heap[gb436]? = some (.cells #[.int .i64 a0_0, .int .i64 a0_1, .string a0_2] 30 (0, 0))) := ⟨by (with_reducible repeat (first | refine blk_drewN ?_ _ | refine blk_drew ?_ | refine blk_alloc ?_ _)); refine blk_far ?_ NB436_446.out _; (with_reducible repeat (first | refine blk_drewN ?_ _ | refine blk_drew ?_ | refine blk_alloc ?_ _)); refine blk_far ?_ NB436_446.out _; (with_reducible repeat (first | refine blk_drewN ?_ _ | refine blk_drew ?_ | refine blk_alloc ?_ _)); refine blk_far ?_ NB436_446.out _; (with_reducible repeat (first | refine blk_drewN ?_ _ | refine blk_drew ?_ | refine blk_alloc ?_ _)); refine blk_far ?_ NB436_446.out _; (with_reducible repeat (first | refine blk_drewN ?_ _ | refine blk_drew ?_ | refine blk_alloc ?_ _)); exact BK436.out⟩
           have n2_ : Aside0 (((((w40.setCell ⟨gb446, 0, none⟩ (.int .i64 ((rd_T79 t440 x34_2).f0))).setCell ⟨gb446, 1, none⟩ (.bool ((rd_T79 t440 x34_2).f1))).setCell ⟨gb446, 2, none⟩ (.int .i64 ((rd_T79 t440 x34_2).f2))).setCell ⟨gb446, 3, none⟩ (.int .i64 ((rd_T79 t440 x34_2).f3))).heap[gb446]? = some (.cells #[.int .i64 ((rd_T79 t440 x34_2).f0), .bool ((rd_T79 t440 x34_2).f1), .int .i64 ((rd_T79 t440 x34_2).f2), .int .i64 ((rd_T79 t440 x34_2).f3)] 79 (0, 0))) := ⟨by (with_reducible repeat (first | refine blk_drewN ?_ _ | refine blk_drew ?_ | refine blk_alloc ?_ _)); refine blk_put (cs := #[.int .i64 ((rd_T79 t440 x34_2).f0), .bool ((rd_T79 t440 x34_2).f1), .int .i64 ((rd_T79 t440 x34_2).f2), .int .i64 0]) ?_ 3 _ rfl; (with_reducible repeat (first | refine blk_drewN ?_ _ | refine blk_drew ?_ | refine blk_alloc ?_ _)); refine blk_put (cs := #[.int .i64 ((rd_T79 t440 x34_2).f0), .bool ((rd_T79 t440 x34_2).f1), .int .i64 0, .int .i64 0]) ?_ 2 _ rfl; (with_reducible repeat (first | refine blk_drewN ?_ _ | refine blk_drew ?_ | refine blk_alloc ?_ _)); refine blk_put (cs := #[.int .i64 ((rd_T79 t440 x34_2).f0), .bool false, .int .i64 0, .int .i64 0]) ?_ 1 _ rfl; (with_reducible repeat (first | refine blk_drewN ?_ _ | refine blk_drew ?_ | refine blk_alloc ?_ _)); refine blk_put (cs := #[.int .i64 0, .bool false, .int .i64 0, .int .i64 0]) ?_ 0 _ rfl; (with_reducible repeat (first | refine blk_drewN ?_ _ | refine blk_drew ?_ | refine blk_alloc ?_ _)); exact BK446.out⟩
           have n3_ : Aside0 (Below w.heap.size w ((((w40.setCell ⟨gb446, 0, none⟩ (.int .i64 ((rd_T79 t440 x34_2).f0))).setCell ⟨gb446, 1, none⟩ (.bool ((rd_T79 t440 x34_2).f1))).setCell ⟨gb446, 2, none⟩ (.int .i64 ((rd_T79 t440 x34_2).f2))).setCell ⟨gb446, 3, none⟩ (.int .i64 ((rd_T79 t440 x34_2).f3)))) := ⟨bel⟩
           (try clear HO_32)
           (try clear BK436)
           (try clear BK446)
           (try clear HB)
           generalize ((((w40.setCell ⟨gb446, 0, none⟩ (.int .i64 ((rd_T79 t440 x34_2).f0))).setCell ⟨gb446, 1, none⟩ (.bool ((rd_T79 t440 x34_2).f1))).setCell ⟨gb446, 2, none⟩ (.int .i64 ((rd_T79 t440 x34_2).f2))).setCell ⟨gb446, 3, none⟩ (.int .i64 ((rd_T79 t440 x34_2).f3))) = w43 at n0_ n1_ n2_ n3_ ⊢
           have HO_32 := n0_
           have BK436 := n1_
           have BK446 := n2_
           have HB := n3_
           clear n0_ n1_ n2_ n3_
           replace HO_32 := zRd HO_32
           replace BK436 := zkd BK436
           replace BK446 := zkd BK446
           replace HB := zBd HB
           refine zst 7 rfl (zb3 BK436 <| zb4 BK446 <| zn0) fun hHeld HT_ => ?_
           generalize w43.drew = w44 at HO_32 BK436 BK446 HB hHeld ⊢
           repeat (first | refine zs1 ?_ | (refine zcl Try.func88 (impl_UncheckedIn.calls k2 a0_0 a0_1 a0_2 x34_2 t447 _ A32.out) ?_; rintro e w45 ⟨rfl, hb⟩; replace HO_32 := zR HO_32 hb; replace BK436 := zk BK436 hb; replace BK446 := zk BK446 hb; replace HB := zB hb; refine ⟨_, rfl, zHb hb hHeld, _, znb, fun hHeld => ?_⟩))
           refine zdn ?_
           try go_wp2
           go_roundg k2
           case measure => have := HK1.out; have := HK2.out; omega
           case rel => exact ⟨(wrap64 (x34_2 + 1)), rf, H', ⟨by have := HK1.out; have := HK2.out; omega⟩, ⟨by (with_reducible repeat (first | apply Kd.R_alloc | apply Kd.R_drewN | apply Kd.R_drew)); exact Kd.R_mono HO_32.out (fun _ hk => trivial)⟩, ⟨bk BK436⟩, ⟨bel⟩⟩
         ·
          replace H := zs H
          obtain ⟨t448, A46, H⟩ := H
          replace H := zb H
          rcases H with ⟨rfl, H⟩ | ⟨rfl, H⟩
          ·
           obtain rfl := Option.some.inj H
           have ⟨_, _, _, _, _, _⟩ := cz3 BK436
           go_wp2_with (first | ((with_reducible refine zd 50 rfl ?_); refine zgl Try.func89 (impl_alone.calls k2 a0_0 a0_1 a0_2 a0_2 true _ A46.out) ?_; rintro e w49 ⟨rfl, hb⟩; refine ⟨_, rfl, ?_⟩; replace HO_32 := zR HO_32 hb; replace BK436 := zk BK436 hb; replace HB := zB hb))
           go_ret
           exact ⟨er, bel⟩
          ·
           obtain rfl := Option.some.inj H
           have ⟨_, _, _, _, _, _⟩ := cz3 BK436
           go_wp2_with (first | ((with_reducible refine zd 50 rfl ?_); refine zgl Try.func89 (impl_alone.calls k2 a0_0 a0_1 a0_2 a0_2 false _ A46.out) ?_; rintro e w51 ⟨rfl, hb⟩; refine ⟨_, rfl, ?_⟩; replace HO_32 := zR HO_32 hb; replace BK436 := zk BK436 hb; replace HB := zB hb))
           go_ret
           exact ⟨er, bel⟩
 all_goals
  go_enter Try.func59, Try.ntmps59
  go_wp2_with (first | ((with_reducible refine zd 1 rfl ?_); refine zbx (w := w) #[.int .i64 a0_0, .int .i64 a0_1, .string a0_2] 30 ?_; intro gb436 hg w1000 BK436 hb; have GW436 := zg (w := w) hg; replace HB := zB hb; clear hb hg; have ⟨_, _, _, _, _, _⟩ := cz3 BK436) | ((with_reducible refine zd 10 rfl ?_); refine zgl Try.func85 (impl_IsGrid.calls k a0_0 a0_1 a0_2 _ _ A2.out) ?_; rintro e w1001 ⟨rfl, hb⟩; refine ⟨_, rfl, ?_⟩; replace BK436 := zk BK436 hb; replace HB := zB hb; have ⟨_, _, _, _, _, _⟩ := cz3 BK436) | ((with_reducible refine zd 14 rfl ?_); refine zgl Try.func86 (impl_IsSymmetric.calls k a0_0 a0_1 a0_2 _ _ A4.out) ?_; rintro e w1002 ⟨rfl, hb⟩; refine ⟨_, rfl, ?_⟩; replace BK436 := zk BK436 hb; replace HB := zB hb; have ⟨_, _, _, _, _, _⟩ := cz3 BK436) | ((with_reducible refine zd 18 rfl ?_); refine zgl Try.func87 (impl_IsConnected.calls k a0_0 a0_1 a0_2 _ _ A6.out) ?_; rintro e w1003 ⟨rfl, hb⟩; refine ⟨_, rfl, ?_⟩; replace BK436 := zk BK436 hb; replace HB := zB hb) | ((with_reducible refine zd 14 rfl ?_); refine zgl Try.func86 (impl_IsSymmetric.calls k a0_0 a0_1 a0_2 _ _ A4.out) ?_; rintro e w1002 ⟨rfl, hb⟩; refine ⟨_, rfl, ?_⟩; replace BK436 := zk BK436 hb; replace HB := zB hb) | ((with_reducible refine zd 10 rfl ?_); refine zgl Try.func85 (impl_IsGrid.calls k a0_0 a0_1 a0_2 _ _ A2.out) ?_; rintro e w1001 ⟨rfl, hb⟩; refine ⟨_, rfl, ?_⟩; replace BK436 := zk BK436 hb; replace HB := zB hb))
  go_ret
  exact ⟨er, bel⟩

/-! ### impl_IsFill: function 60 -/
mutual
def impl_IsFill.j0 : Nat → ByteArray → Bool → Int → Int → ByteArray → Option (Bool)
 | 0, _, _, _, _, _ => none
 | k + 1, x1, x16, x450000, x450001, x450002 => if x16 = true then (some false) else (impl_IsFill.l0 k x1 (x1.size : Int) 0 x450000 x450001 x450002)
def impl_IsFill.l0 : Nat → ByteArray → Int → Int → Int → Int → ByteArray → Option (Bool)
 | 0, _, _, _, _, _, _ => none
 | k + 1, x1, x18, x19, x450000, x450001, x450002 => if x19 < x18 then (if 0 ≤ x19 then (if x19 < (x450002.size : Int) then (if x19 < (x1.size : Int) then (if (((bt x450002 x19) == 35) != ((bt x1 x19) == 35)) = true then (some false) else (if (bt x1 x19) = 35 then (impl_IsFill.l0 k x1 x18 (wrap64 (x19 + 1)) x450000 x450001 x450002) else (if (bt x1 x19) = 63 then (impl_IsFill.l0 k x1 x18 (wrap64 (x19 + 1)) x450000 x450001 x450002) else ((impl_isLetter.f (bt x1 x19)).bind fun t451 => (if t451 = true then (impl_IsFill.l0 k x1 x18 (wrap64 (x19 + 1)) x450000 x450001 x450002) else (some false)))))) else (none)) else (none)) else (none)) else (some true)
end
def impl_IsFill.f (k : Nat) (a0_0 : Int) (a0_1 : Int) (a0_2 : ByteArray) (a1 : ByteArray) : Option (Bool) := (impl_IsGrid.f k a0_0 a0_1 a0_2).bind fun t450 => (if t450 = true then (impl_IsFill.j0 k a1 ((a1.size : Int) != (a0_2.size : Int)) a0_0 a0_1 a0_2) else (impl_IsFill.j0 k a1 true a0_0 a0_1 a0_2))
set_option maxHeartbeats 8000000 in
set_option maxRecDepth 100000 in
theorem impl_IsFill.calls (k : Nat) (a0_0 : Int) (a0_1 : Int) (a0_2 : ByteArray) (a1 : ByteArray) (r : Bool) (w : World) (H : impl_IsFill.f k a0_0 a0_1 a0_2 a1 = some r) :
  Calls Try.prog 60 #[.agg #[.int .i64 a0_0, .int .i64 a0_1, .string a0_2], .string a1] w fun e w' => e = .returned (.bool r) ∧ Below w.heap.size w w' := by
 have hu30 := Try.underlying30
 have HB := Aside0.mk (Below.refl w.heap.size w)
 unfold impl_IsFill.f at H
 have HC3 := Aside0.mk H
 clear H
 go_enter Try.func60, Try.ntmps60
 go_upto_region 1 with (first | ((with_reducible refine zd 2 rfl ?_); (try (refine gate_guard (by rfl) ?_; dsimp only)); refine zbx (w := w) #[.int .i64 a0_0, .int .i64 a0_1, .string a0_2] 30 ?_; intro gb449 hg w4 BK449 hb; have GW449 := zg (w := w) hg; replace HB := zB hb; clear hb hg))
 repeat (go_quiet (first | ((with_reducible refine zd 2 rfl ?_); (try (refine gate_guard (by rfl) ?_; dsimp only)); refine zbx (w := w) #[.int .i64 a0_0, .int .i64 a0_1, .string a0_2] 30 ?_; intro gb449 hg w4 BK449 hb; have GW449 := zg (w := w) hg; replace HB := zB hb; clear hb hg)); go_upto_region 1 with (first | ((with_reducible refine zd 2 rfl ?_); (try (refine gate_guard (by rfl) ?_; dsimp only)); refine zbx (w := w) #[.int .i64 a0_0, .int .i64 a0_1, .string a0_2] 30 ?_; intro gb449 hg w4 BK449 hb; have GW449 := zg (w := w) hg; replace HB := zB hb; clear hb hg)))
 (try simp only [Act.put, List.setIfInBounds_toArray, List.set_cons_zero, List.set_cons_succ])
 go_cut [16] (fun v16 wc => ∃ (kq : Nat) (x16_2 : Bool), v16 = .bool x16_2 ∧ Aside0 (impl_IsFill.j0 kq a1 x16_2 a0_0 a0_1 a0_2 = some r) ∧ Aside0 (kq ≤ k) ∧ Aside0 (wc.heap[gb449]? = some (.cells #[.int .i64 a0_0, .int .i64 a0_1, .string a0_2] 30 (0, 0))) ∧ Aside0 (Below w.heap.size w wc))
 case first =>
  have H := HC3.out
  clear HC3
  replace H := zs H
  obtain ⟨t450, A5, H⟩ := H
  replace H := zb H
  rcases H with ⟨rfl, H⟩ | ⟨rfl, H⟩
  ·
   have H' := Aside0.mk H
   clear H
   have ⟨_, _, _, _, _, _⟩ := cz3 BK449
   go_wp2_with (first | (go_at_call 85; (with_reducible refine (impl_IsGrid.calls k a0_0 a0_1 a0_2 true _ A5.out).mono ?_); rintro e w8 ⟨rfl, hb⟩; replace BK449 := zk BK449 hb; replace HB := zB hb; have ⟨_, _, _, _, _, _⟩ := cz3 BK449))
   repeat (go_quiet (first | (go_at_call 85; (with_reducible refine (impl_IsGrid.calls k a0_0 a0_1 a0_2 true _ A5.out).mono ?_); rintro e w8 ⟨rfl, hb⟩; replace BK449 := zk BK449 hb; replace HB := zB hb; have ⟨_, _, _, _, _, _⟩ := cz3 BK449)); try go_wp2_with (first | (go_at_call 85; (with_reducible refine (impl_IsGrid.calls k a0_0 a0_1 a0_2 true _ A5.out).mono ?_); rintro e w8 ⟨rfl, hb⟩; replace BK449 := zk BK449 hb; replace HB := zB hb; have ⟨_, _, _, _, _, _⟩ := cz3 BK449)))
   go_meet
   case rel => exact ⟨_, (((a1.size : Int) != (a0_2.size : Int))), rf, H', ⟨by first | omega | exact Nat.le_refl _⟩, ⟨bk BK449⟩, ⟨bel⟩⟩
  ·
   have H' := Aside0.mk H
   clear H
   have ⟨_, _, _, _, _, _⟩ := cz3 BK449
   go_wp2_with (first | (go_at_call 85; (with_reducible refine (impl_IsGrid.calls k a0_0 a0_1 a0_2 false _ A5.out).mono ?_); rintro e w11 ⟨rfl, hb⟩; replace BK449 := zk BK449 hb; replace HB := zB hb))
   repeat (go_quiet (first | (go_at_call 85; (with_reducible refine (impl_IsGrid.calls k a0_0 a0_1 a0_2 false _ A5.out).mono ?_); rintro e w11 ⟨rfl, hb⟩; replace BK449 := zk BK449 hb; replace HB := zB hb)); try go_wp2_with (first | (go_at_call 85; (with_reducible refine (impl_IsGrid.calls k a0_0 a0_1 a0_2 false _ A5.out).mono ?_); rintro e w11 ⟨rfl, hb⟩; replace BK449 := zk BK449 hb; replace HB := zB hb)))
   go_meet
   case rel => exact ⟨_, (true), rf, H', ⟨by first | omega | exact Nat.le_refl _⟩, ⟨bk BK449⟩, ⟨bel⟩⟩
 case rest =>
  clear HC3
  obtain ⟨kq, x16_2, rfl, HA, HJ2, BK449, HB⟩ := hcut
  cases kq with
  | zero => exact absurd HA.out (by simp [impl_IsFill.j0])
  | succ kj2 =>
   have H := HA.out
   clear HA
   simp only [impl_IsFill.j0] at H
   replace H := zb H
   rcases H with ⟨rfl, H⟩ | ⟨rfl, H⟩
   ·
    obtain rfl := Option.some.inj H
    go_wp2
    repeat (go_quiet (fail); try go_wp2)
    go_ret
    exact ⟨er, bel⟩
   ·
    have H' := Aside0.mk H
    clear H
    go_wp2
    repeat (go_quiet (fail); try go_wp2)
    go_loopg [19] kj2 (fun kq v19 w' => ∃ (x19_2 : Int), v19 = .int .i64 x19_2 ∧ Aside0 (impl_IsFill.l0 kq a1 (a1.size : Int) x19_2 a0_0 a0_1 a0_2 = some r) ∧ Aside0 (kq ≤ kj2) ∧ Aside0 (w'.heap[gb449]? = some (.cells #[.int .i64 a0_0, .int .i64 a0_1, .string a0_2] 30 (0, 0))) ∧ Aside0 (Below w.heap.size w w'))
    case atStart => exact ⟨(0), rf, H', ⟨Nat.le_refl _⟩, ⟨bk BK449⟩, ⟨bel⟩⟩
    case round =>
     clear H'
     obtain ⟨x19_2, rfl, HA, HK2, BK449, HB⟩ := hrel
     cases gk with
     | zero => exact absurd HA.out (by simp [impl_IsFill.l0])
     | succ k2 =>
      have H := HA.out
      clear HA
      simp only [impl_IsFill.l0] at H
      replace H := zc H
      rcases H with ⟨c13b0, H⟩ | ⟨c13b0, H⟩
      ·
       replace H := zr H
       obtain ⟨c14b0, H⟩ := H
       replace H := zr H
       obtain ⟨c15b0, H⟩ := H
       replace H := zr H
       obtain ⟨c17b0, H⟩ := H
       by_cases c19 : (((bt a0_2 x19_2) == 35) != ((bt a1 x19_2) == 35)) = true
       ·
        rw [if_pos c19] at H
        have c19b0 : (((bt a0_2 x19_2) == 35) != ((bt a1 x19_2) == 35)) = true := c19
        (try (have c19b1 : decide (((bt a0_2 x19_2) == 35) = ((bt a1 x19_2) == 35)) = false := by simpa using c19))
        (try (have c19b2 : (((bt a0_2 x19_2) == 35) == ((bt a1 x19_2) == 35)) = false := by simpa using c19))
        (try (have c19b3 : ¬ (((bt a0_2 x19_2) == 35) = ((bt a1 x19_2) == 35)) := by simpa using c19))
        clear c19
        obtain rfl := Option.some.inj H
        have ⟨_, _, _, _, _, _⟩ := cz3 BK449
        have p16 : 0 ≤ (x19_2 : Int) := of_decide_eq_true asm
        have q16 : x19_2 < (a0_2.size : Int) := of_decide_eq_true asm
        have hx16 := bt_at a0_2 x19_2
        replace p16 := eq_true p16
        replace q16 := eq_true q16
        have p18 : 0 ≤ (x19_2 : Int) := of_decide_eq_true asm
        have q18 : x19_2 < (a1.size : Int) := of_decide_eq_true asm
        have hx18 := bt_at a1 x19_2
        replace p18 := eq_true p18
        replace q18 := eq_true q18
        go_wp2
        repeat (go_quiet (fail); try go_wp2)
        go_ret
        exact ⟨er, bel⟩
       ·
        rw [if_neg c19] at H
        have c19b0 : (((bt a0_2 x19_2) == 35) != ((bt a1 x19_2) == 35)) = false := by simpa using c19
        (try (have c19b1 : decide (((bt a0_2 x19_2) == 35) = ((bt a1 x19_2) == 35)) = true := by simpa using c19))
        (try (have c19b2 : (((bt a0_2 x19_2) == 35) == ((bt a1 x19_2) == 35)) = true := by simpa using c19))
        clear c19
        by_cases c22 : (bt a1 x19_2) = 35
        ·
         rw [if_pos c22] at H
         have c22b0 : ((bt a1 x19_2) == 35) = true := beq_iff_eq.mpr c22
         have c22b1 : ((bt a1 x19_2) != 35) = false := bne_eq_false_iff_eq.mpr c22
         have ht_ : ((bt a0_2 x19_2) == 35) = true := by rw [c22b0] at c19b0; simpa using c19b0
         have ht2_ : ((bt a0_2 x19_2) != 35) = false := by rw [bne, ht_]; rfl
         clear c22
         have H' := Aside0.mk H
         clear H
         have ⟨_, _, _, _, _, _⟩ := cz3 BK449
         have p16 : 0 ≤ (x19_2 : Int) := of_decide_eq_true asm
         have q16 : x19_2 < (a0_2.size : Int) := of_decide_eq_true asm
         have hx16 := bt_at a0_2 x19_2
         replace p16 := eq_true p16
         replace q16 := eq_true q16
         have p18 : 0 ≤ (x19_2 : Int) := of_decide_eq_true asm
         have q18 : x19_2 < (a1.size : Int) := of_decide_eq_true asm
         have hx18 := bt_at a1 x19_2
         replace p18 := eq_true p18
         replace q18 := eq_true q18
         have p21 : 0 ≤ (x19_2 : Int) := of_decide_eq_true asm
         have q21 : x19_2 < (a1.size : Int) := of_decide_eq_true asm
         have hx21 := bt_at a1 x19_2
         replace p21 := eq_true p21
         replace q21 := eq_true q21
         go_wp2
         repeat (go_quiet (fail); try go_wp2)
         go_roundg k2
         case measure => have := HJ2.out; have := HK2.out; omega
         case rel => exact ⟨(wrap64 (x19_2 + 1)), rf, H', ⟨by have := HJ2.out; have := HK2.out; omega⟩, ⟨bk BK449⟩, ⟨bel⟩⟩
        ·
         rw [if_neg c22] at H
         have c22b0 : ((bt a1 x19_2) == 35) = false := beq_eq_false_iff_ne.mpr c22
         have c22b1 : ((bt a1 x19_2) != 35) = true := bne_iff_ne.mpr c22
         have ht_ : ((bt a0_2 x19_2) == 35) = false := by rw [c22b0] at c19b0; simpa using c19b0
         have ht2_ : ((bt a0_2 x19_2) != 35) = true := by rw [bne, ht_]; rfl
         by_cases c25 : (bt a1 x19_2) = 63
         ·
          rw [if_pos c25] at H
          have c25b0 : ((bt a1 x19_2) == 63) = true := beq_iff_eq.mpr c25
          have c25b1 : ((bt a1 x19_2) != 63) = false := bne_eq_false_iff_eq.mpr c25
          clear c25
          have H' := Aside0.mk H
          clear H
          have ⟨_, _, _, _, _, _⟩ := cz3 BK449
          have p16 : 0 ≤ (x19_2 : Int) := of_decide_eq_true asm
          have q16 : x19_2 < (a0_2.size : Int) := of_decide_eq_true asm
          have hx16 := bt_at a0_2 x19_2
          replace p16 := eq_true p16
          replace q16 := eq_true q16
          have p18 : 0 ≤ (x19_2 : Int) := of_decide_eq_true asm
          have q18 : x19_2 < (a1.size : Int) := of_decide_eq_true asm
          have hx18 := bt_at a1 x19_2
          replace p18 := eq_true p18
          replace q18 := eq_true q18
          have p21 : 0 ≤ (x19_2 : Int) := of_decide_eq_true asm
          have q21 : x19_2 < (a1.size : Int) := of_decide_eq_true asm
          have hx21 := bt_at a1 x19_2
          replace p21 := eq_true p21
          replace q21 := eq_true q21
          have p24 : 0 ≤ (x19_2 : Int) := of_decide_eq_true asm
          have q24 : x19_2 < (a1.size : Int) := of_decide_eq_true asm
          have hx24 := bt_at a1 x19_2
          replace p24 := eq_true p24
          replace q24 := eq_true q24
          go_wp2
          repeat (go_quiet (fail); try go_wp2)
          go_roundg k2
          case measure => have := HJ2.out; have := HK2.out; omega
          case rel => exact ⟨(wrap64 (x19_2 + 1)), rf, H', ⟨by have := HJ2.out; have := HK2.out; omega⟩, ⟨bk BK449⟩, ⟨bel⟩⟩
         ·
          rw [if_neg c25] at H
          have c25b0 : ((bt a1 x19_2) == 63) = false := beq_eq_false_iff_ne.mpr c25
          have c25b1 : ((bt a1 x19_2) != 63) = true := bne_iff_ne.mpr c25
          replace H := zs H
          obtain ⟨t451, A28, H⟩ := H
          replace H := zb H
          rcases H with ⟨rfl, H⟩ | ⟨rfl, H⟩
          ·
           have H' := Aside0.mk H
           clear H
           have ⟨_, _, _, _, _, _⟩ := cz3 BK449
           have p16 : 0 ≤ (x19_2 : Int) := of_decide_eq_true asm
           have q16 : x19_2 < (a0_2.size : Int) := of_decide_eq_true asm
           have hx16 := bt_at a0_2 x19_2
           replace p16 := eq_true p16
           replace q16 := eq_true q16
           have p18 : 0 ≤ (x19_2 : Int) := of_decide_eq_true asm
           have q18 : x19_2 < (a1.size : Int) := of_decide_eq_true asm
           have hx18 := bt_at a1 x19_2
           replace p18 := eq_true p18
           replace q18 := eq_true q18
           have p21 : 0 ≤ (x19_2 : Int) := of_decide_eq_true asm
           have q21 : x19_2 < (a1.size : Int) := of_decide_eq_true asm
           have hx21 := bt_at a1 x19_2
           replace p21 := eq_true p21
           replace q21 := eq_true q21
           have p24 : 0 ≤ (x19_2 : Int) := of_decide_eq_true asm
           have q24 : x19_2 < (a1.size : Int) := of_decide_eq_true asm
           have hx24 := bt_at a1 x19_2
           replace p24 := eq_true p24
           replace q24 := eq_true q24
           have p27 : 0 ≤ (x19_2 : Int) := of_decide_eq_true asm
           have q27 : x19_2 < (a1.size : Int) := of_decide_eq_true asm
           have hx27 := bt_at a1 x19_2
           replace p27 := eq_true p27
           replace q27 := eq_true q27
           go_wp2_with (first | (go_at_call 80; (with_reducible refine (impl_isLetter.calls (bt a1 x19_2) true _ A28.out).mono ?_); rintro e w' ⟨rfl, ⟨nd, rfl⟩⟩; (try first | exact ⟨rfl, _, World.drewN_drewN _ _ _⟩ | exact ⟨rfl, _, Eq.trans (World.drewN_drewN _ _ _) (congrArg (World.drewN _) (Nat.add_assoc _ _ _))⟩)))
           repeat (go_quiet (first | (go_at_call 80; (with_reducible refine (impl_isLetter.calls (bt a1 x19_2) true _ A28.out).mono ?_); rintro e w' ⟨rfl, ⟨nd, rfl⟩⟩; (try first | exact ⟨rfl, _, World.drewN_drewN _ _ _⟩ | exact ⟨rfl, _, Eq.trans (World.drewN_drewN _ _ _) (congrArg (World.drewN _) (Nat.add_assoc _ _ _))⟩))); try go_wp2_with (first | (go_at_call 80; (with_reducible refine (impl_isLetter.calls (bt a1 x19_2) true _ A28.out).mono ?_); rintro e w' ⟨rfl, ⟨nd, rfl⟩⟩; (try first | exact ⟨rfl, _, World.drewN_drewN _ _ _⟩ | exact ⟨rfl, _, Eq.trans (World.drewN_drewN _ _ _) (congrArg (World.drewN _) (Nat.add_assoc _ _ _))⟩))))
           go_roundg k2
           case measure => have := HJ2.out; have := HK2.out; omega
           case rel => exact ⟨(wrap64 (x19_2 + 1)), rf, H', ⟨by have := HJ2.out; have := HK2.out; omega⟩, ⟨bk BK449⟩, ⟨bel⟩⟩
          ·
           obtain rfl := Option.some.inj H
           have ⟨_, _, _, _, _, _⟩ := cz3 BK449
           have p16 : 0 ≤ (x19_2 : Int) := of_decide_eq_true asm
           have q16 : x19_2 < (a0_2.size : Int) := of_decide_eq_true asm
           have hx16 := bt_at a0_2 x19_2
           replace p16 := eq_true p16
           replace q16 := eq_true q16
           have p18 : 0 ≤ (x19_2 : Int) := of_decide_eq_true asm
           have q18 : x19_2 < (a1.size : Int) := of_decide_eq_true asm
           have hx18 := bt_at a1 x19_2
           replace p18 := eq_true p18
           replace q18 := eq_true q18
           have p21 : 0 ≤ (x19_2 : Int) := of_decide_eq_true asm
           have q21 : x19_2 < (a1.size : Int) := of_decide_eq_true asm
           have hx21 := bt_at a1 x19_2
           replace p21 := eq_true p21
           replace q21 := eq_true q21
           have p24 : 0 ≤ (x19_2 : Int) := of_decide_eq_true asm
           have q24 : x19_2 < (a1.size : Int) := of_decide_eq_true asm
           have hx24 := bt_at a1 x19_2
           replace p24 := eq_true p24
           replace q24 := eq_true q24
           have p27 : 0 ≤ (x19_2 : Int) := of_decide_eq_true asm
           have q27 : x19_2 < (a1.size : Int) := of_decide_eq_true asm
           have hx27 := bt_at a1 x19_2
           replace p27 := eq_true p27
           replace q27 := eq_true q27
           go_wp2_with (first | (go_at_call 80; (with_reducible refine (impl_isLetter.calls (bt a1 x19_2) false _ A28.out).mono ?_); rintro e w' ⟨rfl, ⟨nd, rfl⟩⟩; (try first | exact ⟨rfl, _, World.drewN_drewN _ _ _⟩ | exact ⟨rfl, _, Eq.trans (World.drewN_drewN _ _ _) (congrArg (World.drewN _) (Nat.add_assoc _ _ _))⟩)))
           repeat (go_quiet (first | (go_at_call 80; (with_reducible refine (impl_isLetter.calls (bt a1 x19_2) false _ A28.out).mono ?_); rintro e w' ⟨rfl, ⟨nd, rfl⟩⟩; (try first | exact ⟨rfl, _, World.drewN_drewN _ _ _⟩ | exact ⟨rfl, _, Eq.trans (World.drewN_drewN _ _ _) (congrArg (World.drewN _) (Nat.add_assoc _ _ _))⟩))); try go_wp2_with (first | (go_at_call 80; (with_reducible refine (impl_isLetter.calls (bt a1 x19_2) false _ A28.out).mono ?_); rintro e w' ⟨rfl, ⟨nd, rfl⟩⟩; (try first | exact ⟨rfl, _, World.drewN_drewN _ _ _⟩ | exact ⟨rfl, _, Eq.trans (World.drewN_drewN _ _ _) (congrArg (World.drewN _) (Nat.add_assoc _ _ _))⟩))))
           go_ret
           exact ⟨er, bel⟩
      ·
       obtain rfl := Option.some.inj H
       go_wp2
       repeat (go_quiet (fail); try go_wp2)
       go_ret
       exact ⟨er, bel⟩

/-! ### impl_Step: function 66 -/
def impl_Step.l0 : Nat → List (S87) → List (S87) → Int → Int → Option (Bool)
 | 0, _, _, _, _ => none
 | k + 1, x0, x1, x12, x13 => if x13 < x12 then (if 0 ≤ x13 then (if x13 < (x0.length : Int) then (if x13 < (x1.length : Int) then (if (!(((rd_T87 x0 x13).f0) == ((rd_T87 x1 x13).f0)) || (!((((rd_T87 x0 x13).f1).toList) == (((rd_T87 x1 x13).f1).toList)) || (!(((rd_T87 x0 x13).f2) == ((rd_T87 x1 x13).f2)) || (!(((rd_T87 x0 x13).f3) == ((rd_T87 x1 x13).f3)))))) = true then (some false) else (impl_Step.l0 k x0 x1 x12 (wrap64 (x13 + 1)))) else (none)) else (none)) else (none)) else (some true)
def impl_Step.f (k : Nat) (l0 : List (S87)) (l1 : List (S87)) : Option (Bool) := if (l0.length : Int) = (l1.length : Int) then (impl_Step.l0 k l0 l1 (l0.length : Int) 0) else (some false)
set_option maxHeartbeats 8000000 in
set_option maxRecDepth 100000 in
theorem impl_Step.calls (k : Nat) (A0 : Option Addr) (c0 : Nat) (l0 : List (S87)) (A1 : Option Addr) (c1 : Nat) (l1 : List (S87)) (r : Bool) (w : World) (hr0 : Kd.C k87 w A0 l0.length l0) (hc0 : l0.length ≤ c0) (hr1 : Kd.C k87 w A1 l1.length l1) (hc1 : l1.length ≤ c1) (H : impl_Step.f k l0 l1 = some r) :
  Calls Try.prog 66 #[.slice A0 l0.length c0, .slice A1 l1.length c1] w fun e w' => e = .returned (.bool r) ∧ Drawn0 w w' := by
 have hu87 := Try.underlying87
 have HR0 := Aside0.mk hr0
 have HC0 := Aside0.mk hc0
 clear hr0 hc0
 have HR1 := Aside0.mk hr1
 have HC1 := Aside0.mk hc1
 clear hr1 hc1
 unfold impl_Step.f at H
 by_cases c3 : (l0.length : Int) = (l1.length : Int)
 ·
  rw [if_pos c3] at H
  have c3b0 : ((l0.length : Int) == (l1.length : Int)) = true := beq_iff_eq.mpr c3
  have c3b1 : ((l0.length : Int) != (l1.length : Int)) = false := bne_eq_false_iff_eq.mpr c3
  have c3b2 : (l0.length == l1.length) = true := by first | simpa using c3 | (simp at c3 ⊢; omega)
  clear c3
  have H' := Aside0.mk H
  clear H
  go_enter Try.func66, Try.ntmps66
  go_wp2
  repeat (go_quiet (fail); try go_wp2)
  go_loopg [13] k (fun kq v13 w' => ∃ (x13_1 : Int), v13 = .int .i64 x13_1 ∧ Aside0 (impl_Step.l0 kq l0 l1 (l0.length : Int) x13_1 = some r) ∧ Aside0 (kq ≤ k) ∧ Drawn0 w w')
  case atStart => exact ⟨(0), rf, H', ⟨Nat.le_refl _⟩, by repeat (first | exact Drawn0.refl _ | apply Drawn0.step)⟩
  case round =>
   clear H'
   obtain ⟨x13_1, rfl, HA, HK1, ⟨m1, rfl⟩⟩ := hrel
   cases gk with
   | zero => exact absurd HA.out (by simp [impl_Step.l0])
   | succ k1 =>
    have H := HA.out
    clear HA
    simp only [impl_Step.l0] at H
    replace H := zc H
    rcases H with ⟨c4b0, H⟩ | ⟨c4b0, H⟩
    ·
     replace H := zr H
     obtain ⟨c5b0, H⟩ := H
     replace H := zr H
     obtain ⟨c6b0, H⟩ := H
     replace H := zr H
     obtain ⟨c7b0, H⟩ := H
     by_cases c8 : (!(((rd_T87 l0 x13_1).f0) == ((rd_T87 l1 x13_1).f0)) || (!((((rd_T87 l0 x13_1).f1).toList) == (((rd_T87 l1 x13_1).f1).toList)) || (!(((rd_T87 l0 x13_1).f2) == ((rd_T87 l1 x13_1).f2)) || (!(((rd_T87 l0 x13_1).f3) == ((rd_T87 l1 x13_1).f3)))))) = true
     ·
      rw [if_pos c8] at H
      have c8b0 : (!(((rd_T87 l0 x13_1).f0) == ((rd_T87 l1 x13_1).f0)) || (!((((rd_T87 l0 x13_1).f1).toList) == (((rd_T87 l1 x13_1).f1).toList)) || (!(((rd_T87 l0 x13_1).f2) == ((rd_T87 l1 x13_1).f2)) || (!(((rd_T87 l0 x13_1).f3) == ((rd_T87 l1 x13_1).f3)))))) = true := c8
      clear c8
      obtain rfl := Option.some.inj H
      obtain ⟨p452, q452, ad452, e452, hx452_0, hx452_1, hx452_2, hx452_3⟩ := zx (at_T87 HR0.out x13_1)
      cases e452
      obtain ⟨p453, q453, ad453, e453, hx453_0, hx453_1, hx453_2, hx453_3⟩ := zx (at_T87 HR1.out x13_1)
      cases e453
      go_wp2
      repeat (go_quiet (fail); try go_wp2)
      go_ret
      exact ⟨by first | rfl | (simp; done) | (simp [*]; done), by repeat (first | exact Drawn0.refl _ | apply Drawn0.step)⟩
     ·
      rw [if_neg c8] at H
      have c8b0 : (!(((rd_T87 l0 x13_1).f0) == ((rd_T87 l1 x13_1).f0)) || (!((((rd_T87 l0 x13_1).f1).toList) == (((rd_T87 l1 x13_1).f1).toList)) || (!(((rd_T87 l0 x13_1).f2) == ((rd_T87 l1 x13_1).f2)) || (!(((rd_T87 l0 x13_1).f3) == ((rd_T87 l1 x13_1).f3)))))) = false := by simpa using c8
      clear c8
      have H' := Aside0.mk H
      clear H
      obtain ⟨p452, q452, ad452, e452, hx452_0, hx452_1, hx452_2, hx452_3⟩ := zx (at_T87 HR0.out x13_1)
      cases e452
      obtain ⟨p453, q453, ad453, e453, hx453_0, hx453_1, hx453_2, hx453_3⟩ := zx (at_T87 HR1.out x13_1)
      cases e453
      go_wp2
      repeat (go_quiet (fail); try go_wp2)
      go_roundg k1
      case measure => have := HK1.out; omega
      case rel => exact ⟨(wrap64 (x13_1 + 1)), rf, H', ⟨by have := HK1.out; omega⟩, by repeat (first | exact Drawn0.refl _ | apply Drawn0.step)⟩
    ·
     obtain rfl := Option.some.inj H
     go_wp2
     repeat (go_quiet (fail); try go_wp2)
     go_ret
     exact ⟨by first | rfl | (simp; done) | (simp [*]; done), by repeat (first | exact Drawn0.refl _ | apply Drawn0.step)⟩
 ·
  rw [if_neg c3] at H
  have c3b0 : ((l0.length : Int) == (l1.length : Int)) = false := beq_eq_false_iff_ne.mpr c3
  have c3b1 : ((l0.length : Int) != (l1.length : Int)) = true := bne_iff_ne.mpr c3
  have c3b2 : (l0.length == l1.length) = false := by first | simpa using c3 | (simp at c3 ⊢; omega)
  obtain rfl := Option.some.inj H
  go_enter Try.func66, Try.ntmps66
  go_wp2
  repeat (go_quiet (fail); try go_wp2)
  go_ret
  exact ⟨by first | rfl | (simp; done) | (simp [*]; done), by repeat (first | exact Drawn0.refl _ | apply Drawn0.step)⟩

/-! ### impl_sameClue: function 33 -/
def impl_sameClue.f (k : Nat) (a0_0 : Int) (l0_1 : List (S87)) (a1_0 : Int) (l1_1 : List (S87)) : Option (Bool) := if a0_0 = a1_0 then ((impl_Step.f k l0_1 l1_1).bind fun t456 => (some t456)) else (some false)
set_option maxHeartbeats 8000000 in
set_option maxRecDepth 100000 in
theorem impl_sameClue.calls (k : Nat) (a0_0 : Int) (A0_1 : Option Addr) (c0_1 : Nat) (l0_1 : List (S87)) (a1_0 : Int) (A1_1 : Option Addr) (c1_1 : Nat) (l1_1 : List (S87)) (r : Bool) (w : World) (hr0_1 : Kd.C k87 w A0_1 l0_1.length l0_1) (hc0_1 : l0_1.length ≤ c0_1) (hr1_1 : Kd.C k87 w A1_1 l1_1.length l1_1) (hc1_1 : l1_1.length ≤ c1_1) (H : impl_sameClue.f k a0_0 l0_1 a1_0 l1_1 = some r) :
  Calls Try.prog 33 #[.agg #[.int .i64 a0_0, .slice A0_1 l0_1.length c0_1], .agg #[.int .i64 a1_0, .slice A1_1 l1_1.length c1_1]] w fun e w' => e = .returned (.bool r) ∧ Below w.heap.size w w' := by
 have hu48 := Try.underlying48
 have HR0_1 := Aside0.mk hr0_1
 have HC0_1 := Aside0.mk hc0_1
 clear hr0_1 hc0_1
 have HR1_1 := Aside0.mk hr1_1
 have HC1_1 := Aside0.mk hc1_1
 clear hr1_1 hc1_1
 have HB := Aside0.mk (Below.refl w.heap.size w)
 unfold impl_sameClue.f at H
 by_cases c3 : a0_0 = a1_0
 rotate_left
 focus
  rw [if_neg c3] at H
  have c3b0 : (a0_0 == a1_0) = false := beq_eq_false_iff_ne.mpr c3
  have c3b1 : (a0_0 != a1_0) = true := bne_iff_ne.mpr c3
  obtain rfl := Option.some.inj H
 rotate_right
 focus
  rw [if_pos c3] at H
  have c3b0 : (a0_0 == a1_0) = true := beq_iff_eq.mpr c3
  have c3b1 : (a0_0 != a1_0) = false := bne_eq_false_iff_eq.mpr c3
  clear c3
  replace H := zs H
  obtain ⟨t456, A4, H⟩ := H
  obtain rfl := Option.some.inj H
 all_goals
  go_enter Try.func33, Try.ntmps33
  go_wp2_with (first | ((with_reducible refine zd 2 rfl ?_); refine zbx (w := w) #[.int .i64 a0_0, .slice A0_1 l0_1.length c0_1] 48 ?_; intro gb454 hg w1000 BK454 hb; have GW454 := zg (w := w) hg; replace HB := zB hb; clear hb hg) | ((with_reducible refine zd 3 rfl ?_); refine zbx (w := w) #[.int .i64 a1_0, .slice A1_1 l1_1.length c1_1] 48 ?_; intro gb455 hg w1001 BK455 hb; have GW455 := zg (w := w) hg; replace HB := zB hb; have NB454_455 := zn hg BK454; have NB455_454 := zm hg BK454; replace BK454 := zk BK454 hb; clear hb hg; have hnb7 := NB454_455.out; have hnc7 := NB455_454.out; have ⟨_, _, _, _⟩ := cz2 BK454; have ⟨_, _, _, _⟩ := cz2 BK455) | (go_at_call 66; (with_reducible refine (impl_Step.calls k _ _ l0_1 _ _ l1_1 t456 _ ?side1 ?side2 ?side3 ?side4 A4.out).mono ?_); (case side1 => repeat (first | exact (Kd.C_below HR0_1.out HB.out) | (with_reducible refine Kd.C_alloc ?_ _) | (with_reducible refine Kd.C_drewN ?_ _) | (with_reducible refine Kd.C_drew ?_))); (case side2 => exact HC0_1.out); (case side3 => repeat (first | exact (Kd.C_below HR1_1.out HB.out) | (with_reducible refine Kd.C_alloc ?_ _) | (with_reducible refine Kd.C_drewN ?_ _) | (with_reducible refine Kd.C_drew ?_))); (case side4 => exact HC1_1.out); rintro e w' ⟨rfl, ⟨nd, rfl⟩⟩) | ((with_reducible refine zd 3 rfl ?_); refine zbx (w := w) #[.int .i64 a1_0, .slice A1_1 l1_1.length c1_1] 48 ?_; intro gb455 hg w1001 BK455 hb; have GW455 := zg (w := w) hg; replace HB := zB hb; have NB454_455 := zn hg BK454; have NB455_454 := zm hg BK454; replace BK454 := zk BK454 hb; clear hb hg; have hnb12 := NB454_455.out; have hnc12 := NB455_454.out; have ⟨_, _, _, _⟩ := cz2 BK454; have ⟨_, _, _, _⟩ := cz2 BK455))
  go_ret
  exact ⟨er, bel⟩

end Go.Proofs.Ytpcdfjcbjbkliaa.E
