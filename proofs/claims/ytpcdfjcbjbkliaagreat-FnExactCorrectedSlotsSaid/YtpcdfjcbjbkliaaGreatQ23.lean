import Derived.Test.YtpcdfjcbjbkliaaGreatSq
import Derived.Test.YtpcdfjcbjbkliaaGreatQ0
import Derived.Test.YtpcdfjcbjbkliaaGreatQ17
import Derived.Test.YtpcdfjcbjbkliaaGreatQ18
import Derived.Test.YtpcdfjcbjbkliaaGreatQ19
import Derived.Test.YtpcdfjcbjbkliaaGreatQ22
namespace Go.Proofs.YtpcdfjcbjbkliaaGreat.E
open Go.RowKit Go.Proofs.YtpcdfjcbjbkliaaGreatW.PrintWords Go.Proofs.YtpcdfjcbjbkliaaGreatW.PrintLast Go.Proofs.YtpcdfjcbjbkliaaGreatW.PrintMore
attribute [local go_sem] max2_int min2_int max_two min_two max_three min_three max_four min_four
set_option linter.unusedVariables false
set_option linter.unusedSimpArgs false

/-! ### impl_IsPlay: function 135 -/
mutual
def impl_IsPlay.l0 : Nat → List (S121) → List (S121) → Int → Int → Option (Bool)
 | 0, _, _, _, _ => none
 | k + 1, a, b, c, d => if d < c then (if 0 ≤ d then (if d < (b.length : Int) then ((impl_InRange.f ((rd_T121 b d).f0) 1 9).bind fun e => (if e = true then (if ((rd_T121 b d).f0) = 1 then ((impl_IsWord.f k ((rd_T121 b d).f1)).bind fun f => (if f = true then (if ((rd_T121 b d).f2) = 0 then (if ((rd_T121 b d).f3) = 0 then (impl_IsPlay.l0 k a b c (wrap64 (d + 1))) else (some false)) else (some false)) else (some false))) else (if ((rd_T121 b d).f1).toList = ([] : List UInt8) then ((impl_at.f ((rd_T121 b d).f2) d).bind fun g => (if g = true then ((impl_needsWord.f ((rd_T121 b d).f0)).bind fun h => (if h = true then (if 0 ≤ ((rd_T121 b d).f2) then (if ((rd_T121 b d).f2) < (a.length : Int) then (impl_IsPlay.j1 k a d b c d (((rd_T121 a ((rd_T121 b d).f2)).f0) != 1) ((rd_T121 b d).f0) ((rd_T121 b d).f1) ((rd_T121 b d).f2) ((rd_T121 b d).f3)) else (none)) else (none)) else (impl_IsPlay.j1 k a d b c d false ((rd_T121 b d).f0) ((rd_T121 b d).f1) ((rd_T121 b d).f2) ((rd_T121 b d).f3)))) else (impl_IsPlay.j1 k a d b c d true ((rd_T121 b d).f0) ((rd_T121 b d).f1) ((rd_T121 b d).f2) ((rd_T121 b d).f3)))) else (impl_IsPlay.j1 k a d b c d true ((rd_T121 b d).f0) ((rd_T121 b d).f1) ((rd_T121 b d).f2) ((rd_T121 b d).f3)))) else (some false))) else (none)) else (none)) else (some true)
def impl_IsPlay.j1 : Nat → List (S121) → Int → List (S121) → Int → Int → Bool → Int → ByteArray → Int → Int → Option (Bool)
 | 0, _, _, _, _, _, _, _, _, _, _ => none
 | k + 1, a, b, c, d, e, f, g, h, i, j => if f = true then (some false) else ((impl_isPair.f g).bind fun l => (if l = true then ((impl_at.f j b).bind fun m => (if m = true then ((impl_isPair.f g).bind fun n => (if n = true then (impl_IsPlay.l0 k a c d (wrap64 (e + 1))) else (if j = 0 then (impl_IsPlay.l0 k a c d (wrap64 (e + 1))) else (some false)))) else (some false))) else ((impl_isPair.f g).bind fun o => (if o = true then (impl_IsPlay.l0 k a c d (wrap64 (e + 1))) else (if j = 0 then (impl_IsPlay.l0 k a c d (wrap64 (e + 1))) else (some false))))))
end
def impl_IsPlay.f (k : Nat) (a : List (S121)) : Option (Bool) := (impl_InRange.f (a.length : Int) 1 9).bind fun b => (if b = true then (impl_IsPlay.l0 k a a (a.length : Int) 0) else (some false))
set_option maxHeartbeats 8000000 in
set_option maxRecDepth 100000 in
theorem impl_IsPlay.calls (k : Nat) (A0 : Option Addr) (c0 : Nat) (l0 : List (S121)) (r : Bool) (w : World) (hr0 : Kd.C k121 w A0 l0.length l0) (hc0 : l0.length ≤ c0) (H : impl_IsPlay.f k l0 = some r) :
  Calls Tryz.prog 135 #[.slice A0 l0.length c0] w fun e w' => e = .returned (.bool r) ∧ Below w.heap.size w w' := by
 have hu121 := Tryz.underlying121
 have HR0 := Aside0.mk hr0
 have HC0 := Aside0.mk hc0
 clear hr0 hc0
 have HB := Aside0.mk (Below.refl w.heap.size w)
 unfold impl_IsPlay.f at H
 replace H := zs H
 obtain ⟨t653, A2, H⟩ := H
 replace H := zb H
 rcases H with ⟨rfl, H⟩ | ⟨rfl, H⟩
 ·
  have H' := Aside0.mk H
  clear H
  go_enter Tryz.func135, Tryz.ntmps135
  go_wp2_with (first | ((with_reducible refine zd 7 rfl ?_); refine zgl Tryz.func47 (impl_InRange.calls (l0.length : Int) 1 9 true _ A2.out) ?_; rintro e w' ⟨rfl, ⟨nd, rfl⟩⟩; refine ⟨_, rfl, ?_⟩))
  go_loopg [11] k (fun kq v11 w' => ∃ (x11_1 : Int), v11 = .int .i64 x11_1 ∧ Aside0 (impl_IsPlay.l0 kq l0 l0 (l0.length : Int) x11_1 = some r) ∧ Aside0 (kq ≤ k) ∧ Aside0 (Below w.heap.size w w'))
  case atStart => exact ⟨(0), rf, H', ⟨Nat.le_refl _⟩, ⟨bel⟩⟩
  case round =>
   clear H'
   obtain ⟨x11_1, rfl, HA, HK1, HB⟩ := hrel
   cases gk with
   | zero => exact absurd HA.out (by simp [impl_IsPlay.l0])
   | succ k1 =>
    have H := HA.out
    clear HA
    simp only [impl_IsPlay.l0] at H
    replace H := zc H
    rcases H with ⟨c4b0, H⟩ | ⟨c4b0, H⟩
    ·
     replace H := zr H
     obtain ⟨c5b0, H⟩ := H
     replace H := zr H
     obtain ⟨c6b0, H⟩ := H
     replace H := zs H
     obtain ⟨t656, A7, H⟩ := H
     replace H := zb H
     rcases H with ⟨rfl, H⟩ | ⟨rfl, H⟩
     ·
      by_cases c9 : ((rd_T121 l0 x11_1).f0) = 1
      ·
       rw [if_pos c9] at H
       have c9b0 : (((rd_T121 l0 x11_1).f0) == 1) = true := beq_iff_eq.mpr c9
       have c9b1 : (((rd_T121 l0 x11_1).f0) != 1) = false := bne_eq_false_iff_eq.mpr c9
       clear c9
       replace H := zs H
       obtain ⟨t657, A10, H⟩ := H
       replace H := zb H
       rcases H with ⟨rfl, H⟩ | ⟨rfl, H⟩
       ·
        by_cases c12 : ((rd_T121 l0 x11_1).f2) = 0
        ·
         rw [if_pos c12] at H
         have c12b0 : (((rd_T121 l0 x11_1).f2) == 0) = true := beq_iff_eq.mpr c12
         have c12b1 : (((rd_T121 l0 x11_1).f2) != 0) = false := bne_eq_false_iff_eq.mpr c12
         clear c12
         by_cases c13 : ((rd_T121 l0 x11_1).f3) = 0
         ·
          rw [if_pos c13] at H
          have c13b0 : (((rd_T121 l0 x11_1).f3) == 0) = true := beq_iff_eq.mpr c13
          have c13b1 : (((rd_T121 l0 x11_1).f3) != 0) = false := bne_eq_false_iff_eq.mpr c13
          clear c13
          have H' := Aside0.mk H
          clear H
          obtain ⟨p654, q654, ad654, e654, hx654_0, hx654_1, hx654_2, hx654_3⟩ := zx (at_T121 HR0.out x11_1)
          cases e654
          replace hx654_0 := zh HB hx654_0
          replace hx654_1 := zh HB hx654_1
          replace hx654_2 := zh HB hx654_2
          replace hx654_3 := zh HB hx654_3
          go_wp2_with (first | ((with_reducible refine zd 4 rfl ?_); refine zbx (w := w) #[.int .i64 0, .string (⟨#[]⟩ : ByteArray), .int .i64 0, .int .i64 0] 121 ?_; intro gb655 hg w14 BK655 hb; have GW655 := zg (w := w) hg; replace HB := zB hb; clear hb hg; have ⟨_, _, _, _, _, _, _, _⟩ := cz4 BK655) | ((with_reducible refine zd 18 rfl ?_); refine zgl Tryz.func47 (impl_InRange.calls ((rd_T121 l0 x11_1).f0) 1 9 true _ A7.out) ?_; rintro e w' ⟨rfl, ⟨nd, rfl⟩⟩; refine ⟨_, rfl, ?_⟩) | ((with_reducible refine zd 25 rfl ?_); refine zgl Tryz.func119 (impl_IsWord.calls k1 ((rd_T121 l0 x11_1).f1) true _ A10.out) ?_; rintro e w' ⟨rfl, ⟨nd, rfl⟩⟩; refine ⟨_, rfl, ?_⟩))
          go_roundg k1
          case measure => have := HK1.out; omega
          case rel => exact ⟨(wrap64 (x11_1 + 1)), rf, H', ⟨by have := HK1.out; omega⟩, ⟨bel⟩⟩
         ·
          rw [if_neg c13] at H
          have c13b0 : (((rd_T121 l0 x11_1).f3) == 0) = false := beq_eq_false_iff_ne.mpr c13
          have c13b1 : (((rd_T121 l0 x11_1).f3) != 0) = true := bne_iff_ne.mpr c13
          obtain rfl := Option.some.inj H
          obtain ⟨p654, q654, ad654, e654, hx654_0, hx654_1, hx654_2, hx654_3⟩ := zx (at_T121 HR0.out x11_1)
          cases e654
          replace hx654_0 := zh HB hx654_0
          replace hx654_1 := zh HB hx654_1
          replace hx654_2 := zh HB hx654_2
          replace hx654_3 := zh HB hx654_3
          go_wp2_with (first | ((with_reducible refine zd 4 rfl ?_); refine zbx (w := w) #[.int .i64 0, .string (⟨#[]⟩ : ByteArray), .int .i64 0, .int .i64 0] 121 ?_; intro gb655 hg w16 BK655 hb; have GW655 := zg (w := w) hg; replace HB := zB hb; clear hb hg; have ⟨_, _, _, _, _, _, _, _⟩ := cz4 BK655) | ((with_reducible refine zd 18 rfl ?_); refine zgl Tryz.func47 (impl_InRange.calls ((rd_T121 l0 x11_1).f0) 1 9 true _ A7.out) ?_; rintro e w' ⟨rfl, ⟨nd, rfl⟩⟩; refine ⟨_, rfl, ?_⟩) | ((with_reducible refine zd 25 rfl ?_); refine zgl Tryz.func119 (impl_IsWord.calls k1 ((rd_T121 l0 x11_1).f1) true _ A10.out) ?_; rintro e w' ⟨rfl, ⟨nd, rfl⟩⟩; refine ⟨_, rfl, ?_⟩))
          go_ret
          exact ⟨er, bel⟩
        ·
         rw [if_neg c12] at H
         have c12b0 : (((rd_T121 l0 x11_1).f2) == 0) = false := beq_eq_false_iff_ne.mpr c12
         have c12b1 : (((rd_T121 l0 x11_1).f2) != 0) = true := bne_iff_ne.mpr c12
         obtain rfl := Option.some.inj H
         obtain ⟨p654, q654, ad654, e654, hx654_0, hx654_1, hx654_2, hx654_3⟩ := zx (at_T121 HR0.out x11_1)
         cases e654
         replace hx654_0 := zh HB hx654_0
         replace hx654_1 := zh HB hx654_1
         replace hx654_2 := zh HB hx654_2
         replace hx654_3 := zh HB hx654_3
         go_wp2_with (first | ((with_reducible refine zd 4 rfl ?_); refine zbx (w := w) #[.int .i64 0, .string (⟨#[]⟩ : ByteArray), .int .i64 0, .int .i64 0] 121 ?_; intro gb655 hg w18 BK655 hb; have GW655 := zg (w := w) hg; replace HB := zB hb; clear hb hg; have ⟨_, _, _, _, _, _, _, _⟩ := cz4 BK655) | ((with_reducible refine zd 18 rfl ?_); refine zgl Tryz.func47 (impl_InRange.calls ((rd_T121 l0 x11_1).f0) 1 9 true _ A7.out) ?_; rintro e w' ⟨rfl, ⟨nd, rfl⟩⟩; refine ⟨_, rfl, ?_⟩) | ((with_reducible refine zd 25 rfl ?_); refine zgl Tryz.func119 (impl_IsWord.calls k1 ((rd_T121 l0 x11_1).f1) true _ A10.out) ?_; rintro e w' ⟨rfl, ⟨nd, rfl⟩⟩; refine ⟨_, rfl, ?_⟩))
         go_ret
         exact ⟨er, bel⟩
       ·
        obtain rfl := Option.some.inj H
        obtain ⟨p654, q654, ad654, e654, hx654_0, hx654_1, hx654_2, hx654_3⟩ := zx (at_T121 HR0.out x11_1)
        cases e654
        replace hx654_0 := zh HB hx654_0
        replace hx654_1 := zh HB hx654_1
        replace hx654_2 := zh HB hx654_2
        replace hx654_3 := zh HB hx654_3
        go_wp2_with (first | ((with_reducible refine zd 4 rfl ?_); refine zbx (w := w) #[.int .i64 0, .string (⟨#[]⟩ : ByteArray), .int .i64 0, .int .i64 0] 121 ?_; intro gb655 hg w20 BK655 hb; have GW655 := zg (w := w) hg; replace HB := zB hb; clear hb hg; have ⟨_, _, _, _, _, _, _, _⟩ := cz4 BK655) | ((with_reducible refine zd 18 rfl ?_); refine zgl Tryz.func47 (impl_InRange.calls ((rd_T121 l0 x11_1).f0) 1 9 true _ A7.out) ?_; rintro e w' ⟨rfl, ⟨nd, rfl⟩⟩; refine ⟨_, rfl, ?_⟩) | ((with_reducible refine zd 25 rfl ?_); refine zgl Tryz.func119 (impl_IsWord.calls k1 ((rd_T121 l0 x11_1).f1) false _ A10.out) ?_; rintro e w' ⟨rfl, ⟨nd, rfl⟩⟩; refine ⟨_, rfl, ?_⟩))
        go_ret
        exact ⟨er, bel⟩
      ·
       rw [if_neg c9] at H
       have c9b0 : (((rd_T121 l0 x11_1).f0) == 1) = false := beq_eq_false_iff_ne.mpr c9
       have c9b1 : (((rd_T121 l0 x11_1).f0) != 1) = true := bne_iff_ne.mpr c9
       have HC22 := Aside0.mk H
       clear H
       obtain ⟨p654, q654, ad654, e654, hx654_0, hx654_1, hx654_2, hx654_3⟩ := zx (at_T121 HR0.out x11_1)
       cases e654
       replace hx654_0 := zh HB hx654_0
       replace hx654_1 := zh HB hx654_1
       replace hx654_2 := zh HB hx654_2
       replace hx654_3 := zh HB hx654_3
       go_upto_region 11 with (first | ((with_reducible refine zd 4 rfl ?_); refine zbx (w := w) #[.int .i64 0, .string (⟨#[]⟩ : ByteArray), .int .i64 0, .int .i64 0] 121 ?_; intro gb655 hg w23 BK655 hb; have GW655 := zg (w := w) hg; replace HB := zB hb; clear hb hg; have ⟨_, _, _, _, _, _, _, _⟩ := cz4 BK655) | ((with_reducible refine zd 18 rfl ?_); refine zgl Tryz.func47 (impl_InRange.calls ((rd_T121 l0 x11_1).f0) 1 9 true _ A7.out) ?_; rintro e w' ⟨rfl, ⟨nd, rfl⟩⟩; refine ⟨_, rfl, ?_⟩))
       (try simp only [Act.put, List.setIfInBounds_toArray, List.set_cons_zero, List.set_cons_succ])
       go_cut [60] (fun v60 wc => ∃ (kq : Nat) (x60_21 : Bool), v60 = .bool x60_21 ∧ Aside0 (impl_IsPlay.j1 kq l0 x11_1 l0 (l0.length : Int) x11_1 x60_21 ((rd_T121 l0 x11_1).f0) ((rd_T121 l0 x11_1).f1) ((rd_T121 l0 x11_1).f2) ((rd_T121 l0 x11_1).f3) = some r) ∧ Aside0 (kq ≤ k1) ∧ Aside0 (wc.heap[gb655]? = some (.cells #[.int .i64 ((rd_T121 l0 x11_1).f0), .string ((rd_T121 l0 x11_1).f1), .int .i64 ((rd_T121 l0 x11_1).f2), .int .i64 ((rd_T121 l0 x11_1).f3)] 121 (0, 0))) ∧ Aside0 (Below w.heap.size w wc))
       case first =>
        have H := HC22.out
        clear HC22
        by_cases c25 : ((rd_T121 l0 x11_1).f1).toList = ([] : List UInt8)
        ·
         rw [if_pos c25] at H
         have c25b0 : (((rd_T121 l0 x11_1).f1).toList == ([] : List UInt8)) = true := beq_iff_eq.mpr c25
         have c25b1 : (((rd_T121 l0 x11_1).f1).toList != ([] : List UInt8)) = false := bne_eq_false_iff_eq.mpr c25
         clear c25
         (first | rw [c25b0] | (simp only [i64_w, i32_w]; rw [c25b0]) | skip)
         replace H := zs H
         obtain ⟨t658, A26, H⟩ := H
         replace H := zb H
         rcases H with ⟨rfl, H⟩ | ⟨rfl, H⟩
         ·
          replace H := zs H
          obtain ⟨t659, A28, H⟩ := H
          replace H := zb H
          rcases H with ⟨rfl, H⟩ | ⟨rfl, H⟩
          ·
           replace H := zr H
           obtain ⟨c30b0, H⟩ := H
           replace H := zr H
           obtain ⟨c31b0, H⟩ := H
           have H' := Aside0.mk H
           clear H
           have ⟨_, _, _, _, _, _, _, _⟩ := cz4 BK655
           go_wp2_with (first | (go_at_call 118; (with_reducible refine (impl_at.calls ((rd_T121 l0 x11_1).f2) x11_1 true _ A26.out).mono ?_); rintro e w' ⟨rfl, ⟨nd, rfl⟩⟩) | (go_at_call 155; (with_reducible refine (impl_needsWord.calls ((rd_T121 l0 x11_1).f0) true _ A28.out).mono ?_); rintro e w' ⟨rfl, ⟨nd, rfl⟩⟩; have p660 : 0 ≤ (((rd_T121 l0 x11_1).f2) : Int) := of_decide_eq_true asm; have q660 : ((rd_T121 l0 x11_1).f2) < (l0.length : Int) := of_decide_eq_true asm; obtain ⟨ad660, e660, hx660_0, hx660_1, hx660_2, hx660_3⟩ := at_T121 HR0.out ((rd_T121 l0 x11_1).f2) p660 q660; obtain rfl : ad654 = ad660 := (by injection e660); have hn660_0 : ad654.block ≠ gb655 := Nat.ne_of_lt (Nat.lt_of_lt_of_le (by have := World.block_lt_of_cell? _ _ hx660_0; first | rwa [add_block] at this | exact this) GW655.out); have hn660_1 : ad654.block ≠ gb655 := Nat.ne_of_lt (Nat.lt_of_lt_of_le (by have := World.block_lt_of_cell? _ _ hx660_0; first | rwa [add_block] at this | exact this) GW655.out); have hn660_2 : ad654.block ≠ gb655 := Nat.ne_of_lt (Nat.lt_of_lt_of_le (by have := World.block_lt_of_cell? _ _ hx660_0; first | rwa [add_block] at this | exact this) GW655.out); have hn660_3 : ad654.block ≠ gb655 := Nat.ne_of_lt (Nat.lt_of_lt_of_le (by have := World.block_lt_of_cell? _ _ hx660_0; first | rwa [add_block] at this | exact this) GW655.out); replace hx660_0 := (HB.out.cell (World.block_lt_of_cell? w _ hx660_0)).trans hx660_0; replace hx660_1 := (HB.out.cell (World.block_lt_of_cell? w _ hx660_1)).trans hx660_1; replace hx660_2 := (HB.out.cell (World.block_lt_of_cell? w _ hx660_2)).trans hx660_2; replace hx660_3 := (HB.out.cell (World.block_lt_of_cell? w _ hx660_3)).trans hx660_3; replace hx660_0 := (cell_far (p := ⟨gb655, 0, none⟩) (by first | (rw [add_block]; exact hn660_0) | (show (Addr.add _ _).block ≠ _; rw [add_block]; exact hn660_0) | exact hn660_0) (.int .i64 ((rd_T121 l0 x11_1).f0))).trans hx660_0; replace hx660_1 := (cell_far (p := ⟨gb655, 0, none⟩) (by first | (rw [add_block]; exact hn660_0) | (show (Addr.add _ _).block ≠ _; rw [add_block]; exact hn660_0) | exact hn660_0) (.int .i64 ((rd_T121 l0 x11_1).f0))).trans hx660_1; replace hx660_2 := (cell_far (p := ⟨gb655, 0, none⟩) (by first | (rw [add_block]; exact hn660_0) | (show (Addr.add _ _).block ≠ _; rw [add_block]; exact hn660_0) | exact hn660_0) (.int .i64 ((rd_T121 l0 x11_1).f0))).trans hx660_2; replace hx660_3 := (cell_far (p := ⟨gb655, 0, none⟩) (by first | (rw [add_block]; exact hn660_0) | (show (Addr.add _ _).block ≠ _; rw [add_block]; exact hn660_0) | exact hn660_0) (.int .i64 ((rd_T121 l0 x11_1).f0))).trans hx660_3; replace hx660_0 := (cell_far (p := ⟨gb655, 1, none⟩) (by first | (rw [add_block]; exact hn660_1) | (show (Addr.add _ _).block ≠ _; rw [add_block]; exact hn660_1) | exact hn660_1) (.string ((rd_T121 l0 x11_1).f1))).trans hx660_0; replace hx660_1 := (cell_far (p := ⟨gb655, 1, none⟩) (by first | (rw [add_block]; exact hn660_1) | (show (Addr.add _ _).block ≠ _; rw [add_block]; exact hn660_1) | exact hn660_1) (.string ((rd_T121 l0 x11_1).f1))).trans hx660_1; replace hx660_2 := (cell_far (p := ⟨gb655, 1, none⟩) (by first | (rw [add_block]; exact hn660_1) | (show (Addr.add _ _).block ≠ _; rw [add_block]; exact hn660_1) | exact hn660_1) (.string ((rd_T121 l0 x11_1).f1))).trans hx660_2; replace hx660_3 := (cell_far (p := ⟨gb655, 1, none⟩) (by first | (rw [add_block]; exact hn660_1) | (show (Addr.add _ _).block ≠ _; rw [add_block]; exact hn660_1) | exact hn660_1) (.string ((rd_T121 l0 x11_1).f1))).trans hx660_3; replace hx660_0 := (cell_far (p := ⟨gb655, 2, none⟩) (by first | (rw [add_block]; exact hn660_2) | (show (Addr.add _ _).block ≠ _; rw [add_block]; exact hn660_2) | exact hn660_2) (.int .i64 ((rd_T121 l0 x11_1).f2))).trans hx660_0; replace hx660_1 := (cell_far (p := ⟨gb655, 2, none⟩) (by first | (rw [add_block]; exact hn660_2) | (show (Addr.add _ _).block ≠ _; rw [add_block]; exact hn660_2) | exact hn660_2) (.int .i64 ((rd_T121 l0 x11_1).f2))).trans hx660_1; replace hx660_2 := (cell_far (p := ⟨gb655, 2, none⟩) (by first | (rw [add_block]; exact hn660_2) | (show (Addr.add _ _).block ≠ _; rw [add_block]; exact hn660_2) | exact hn660_2) (.int .i64 ((rd_T121 l0 x11_1).f2))).trans hx660_2; replace hx660_3 := (cell_far (p := ⟨gb655, 2, none⟩) (by first | (rw [add_block]; exact hn660_2) | (show (Addr.add _ _).block ≠ _; rw [add_block]; exact hn660_2) | exact hn660_2) (.int .i64 ((rd_T121 l0 x11_1).f2))).trans hx660_3; replace hx660_0 := (cell_far (p := ⟨gb655, 3, none⟩) (by first | (rw [add_block]; exact hn660_3) | (show (Addr.add _ _).block ≠ _; rw [add_block]; exact hn660_3) | exact hn660_3) (.int .i64 ((rd_T121 l0 x11_1).f3))).trans hx660_0; replace hx660_1 := (cell_far (p := ⟨gb655, 3, none⟩) (by first | (rw [add_block]; exact hn660_3) | (show (Addr.add _ _).block ≠ _; rw [add_block]; exact hn660_3) | exact hn660_3) (.int .i64 ((rd_T121 l0 x11_1).f3))).trans hx660_1; replace hx660_2 := (cell_far (p := ⟨gb655, 3, none⟩) (by first | (rw [add_block]; exact hn660_3) | (show (Addr.add _ _).block ≠ _; rw [add_block]; exact hn660_3) | exact hn660_3) (.int .i64 ((rd_T121 l0 x11_1).f3))).trans hx660_2; replace hx660_3 := (cell_far (p := ⟨gb655, 3, none⟩) (by first | (rw [add_block]; exact hn660_3) | (show (Addr.add _ _).block ≠ _; rw [add_block]; exact hn660_3) | exact hn660_3) (.int .i64 ((rd_T121 l0 x11_1).f3))).trans hx660_3; clear hn660_0; clear hn660_1; clear hn660_2; clear hn660_3; replace p660 := eq_true p660; replace q660 := eq_true q660))
           go_meet
           case rel => exact ⟨_, ((((rd_T121 l0 ((rd_T121 l0 x11_1).f2)).f0) != 1)), rf, H', ⟨by have := HK1.out; first | omega | exact Nat.le_refl _⟩, zkg BK655, ⟨bel⟩⟩
          ·
           have H' := Aside0.mk H
           clear H
           have ⟨_, _, _, _, _, _, _, _⟩ := cz4 BK655
           go_wp2_with (first | (go_at_call 118; (with_reducible refine (impl_at.calls ((rd_T121 l0 x11_1).f2) x11_1 true _ A26.out).mono ?_); rintro e w' ⟨rfl, ⟨nd, rfl⟩⟩) | (go_at_call 155; (with_reducible refine (impl_needsWord.calls ((rd_T121 l0 x11_1).f0) false _ A28.out).mono ?_); rintro e w' ⟨rfl, ⟨nd, rfl⟩⟩))
           go_meet
           case rel => exact ⟨_, (false), rf, H', ⟨by have := HK1.out; first | omega | exact Nat.le_refl _⟩, zkg BK655, ⟨bel⟩⟩
         ·
          have H' := Aside0.mk H
          clear H
          have ⟨_, _, _, _, _, _, _, _⟩ := cz4 BK655
          go_wp2_with (first | (go_at_call 118; (with_reducible refine (impl_at.calls ((rd_T121 l0 x11_1).f2) x11_1 false _ A26.out).mono ?_); rintro e w' ⟨rfl, ⟨nd, rfl⟩⟩))
          go_meet
          case rel => exact ⟨_, (true), rf, H', ⟨by have := HK1.out; first | omega | exact Nat.le_refl _⟩, zkg BK655, ⟨bel⟩⟩
        ·
         rw [if_neg c25] at H
         have c25b0 : (((rd_T121 l0 x11_1).f1).toList == ([] : List UInt8)) = false := beq_eq_false_iff_ne.mpr c25
         have c25b1 : (((rd_T121 l0 x11_1).f1).toList != ([] : List UInt8)) = true := bne_iff_ne.mpr c25
         (first | rw [c25b0] | (simp only [i64_w, i32_w]; rw [c25b0]) | skip)
         have H' := Aside0.mk H
         clear H
         have ⟨_, _, _, _, _, _, _, _⟩ := cz4 BK655
         go_wp2
         go_meet
         case rel => exact ⟨_, (true), rf, H', ⟨by have := HK1.out; first | omega | exact Nat.le_refl _⟩, zkg BK655, ⟨bel⟩⟩
       case rest =>
        clear HC22
        obtain ⟨kq, x60_21, rfl, HA, HJ21, BK655, HB⟩ := hcut
        cases kq with
        | zero => exact absurd HA.out (by simp [impl_IsPlay.j1])
        | succ kj21 =>
         have H := HA.out
         clear HA
         simp only [impl_IsPlay.j1] at H
         replace H := zb H
         rcases H with ⟨rfl, H⟩ | ⟨rfl, H⟩
         ·
          obtain rfl := Option.some.inj H
          go_wp2
          go_ret
          exact ⟨er, bel⟩
         ·
          replace H := zs H
          obtain ⟨t661, A37, H⟩ := H
          replace H := zb H
          rcases H with ⟨rfl, H⟩ | ⟨rfl, H⟩
          ·
           replace H := zs H
           obtain ⟨t662, A39, H⟩ := H
           replace H := zb H
           rcases H with ⟨rfl, H⟩ | ⟨rfl, H⟩
           ·
            replace H := zs H
            obtain ⟨t663, A41, H⟩ := H
            replace H := zb H
            rcases H with ⟨rfl, H⟩ | ⟨rfl, H⟩
            ·
             have H' := Aside0.mk H
             clear H
             have ⟨_, _, _, _, _, _, _, _⟩ := cz4 BK655
             go_wp2_with (first | ((with_reducible refine zd 63 rfl ?_); refine zgl Tryz.func156 (impl_isPair.calls ((rd_T121 l0 x11_1).f0) true _ A37.out) ?_; rintro e w' ⟨rfl, ⟨nd, rfl⟩⟩; refine ⟨_, rfl, ?_⟩) | (go_at_call 118; (with_reducible refine (impl_at.calls ((rd_T121 l0 x11_1).f3) x11_1 true _ A39.out).mono ?_); rintro e w' ⟨rfl, ⟨nd, rfl⟩⟩) | (go_at_call 156; (with_reducible refine (impl_isPair.calls ((rd_T121 l0 x11_1).f0) true _ A41.out).mono ?_); rintro e w' ⟨rfl, ⟨nd, rfl⟩⟩))
             go_roundg kj21
             case measure => have := HK1.out; have := HJ21.out; omega
             case rel => exact ⟨(wrap64 (x11_1 + 1)), rf, H', ⟨by have := HK1.out; have := HJ21.out; omega⟩, ⟨bel⟩⟩
            ·
             by_cases c44 : ((rd_T121 l0 x11_1).f3) = 0
             ·
              rw [if_pos c44] at H
              have c44b0 : (((rd_T121 l0 x11_1).f3) == 0) = true := beq_iff_eq.mpr c44
              have c44b1 : (((rd_T121 l0 x11_1).f3) != 0) = false := bne_eq_false_iff_eq.mpr c44
              clear c44
              have H' := Aside0.mk H
              clear H
              have ⟨_, _, _, _, _, _, _, _⟩ := cz4 BK655
              go_wp2_with (first | ((with_reducible refine zd 63 rfl ?_); refine zgl Tryz.func156 (impl_isPair.calls ((rd_T121 l0 x11_1).f0) true _ A37.out) ?_; rintro e w' ⟨rfl, ⟨nd, rfl⟩⟩; refine ⟨_, rfl, ?_⟩) | (go_at_call 118; (with_reducible refine (impl_at.calls ((rd_T121 l0 x11_1).f3) x11_1 true _ A39.out).mono ?_); rintro e w' ⟨rfl, ⟨nd, rfl⟩⟩) | (go_at_call 156; (with_reducible refine (impl_isPair.calls ((rd_T121 l0 x11_1).f0) false _ A41.out).mono ?_); rintro e w' ⟨rfl, ⟨nd, rfl⟩⟩))
              go_roundg kj21
              case measure => have := HK1.out; have := HJ21.out; omega
              case rel => exact ⟨(wrap64 (x11_1 + 1)), rf, H', ⟨by have := HK1.out; have := HJ21.out; omega⟩, ⟨bel⟩⟩
             ·
              rw [if_neg c44] at H
              have c44b0 : (((rd_T121 l0 x11_1).f3) == 0) = false := beq_eq_false_iff_ne.mpr c44
              have c44b1 : (((rd_T121 l0 x11_1).f3) != 0) = true := bne_iff_ne.mpr c44
              obtain rfl := Option.some.inj H
              have ⟨_, _, _, _, _, _, _, _⟩ := cz4 BK655
              go_wp2_with (first | ((with_reducible refine zd 63 rfl ?_); refine zgl Tryz.func156 (impl_isPair.calls ((rd_T121 l0 x11_1).f0) true _ A37.out) ?_; rintro e w' ⟨rfl, ⟨nd, rfl⟩⟩; refine ⟨_, rfl, ?_⟩) | (go_at_call 118; (with_reducible refine (impl_at.calls ((rd_T121 l0 x11_1).f3) x11_1 true _ A39.out).mono ?_); rintro e w' ⟨rfl, ⟨nd, rfl⟩⟩) | (go_at_call 156; (with_reducible refine (impl_isPair.calls ((rd_T121 l0 x11_1).f0) false _ A41.out).mono ?_); rintro e w' ⟨rfl, ⟨nd, rfl⟩⟩))
              go_ret
              exact ⟨er, bel⟩
           ·
            obtain rfl := Option.some.inj H
            have ⟨_, _, _, _, _, _, _, _⟩ := cz4 BK655
            go_wp2_with (first | ((with_reducible refine zd 63 rfl ?_); refine zgl Tryz.func156 (impl_isPair.calls ((rd_T121 l0 x11_1).f0) true _ A37.out) ?_; rintro e w' ⟨rfl, ⟨nd, rfl⟩⟩; refine ⟨_, rfl, ?_⟩) | (go_at_call 118; (with_reducible refine (impl_at.calls ((rd_T121 l0 x11_1).f3) x11_1 false _ A39.out).mono ?_); rintro e w' ⟨rfl, ⟨nd, rfl⟩⟩))
            go_ret
            exact ⟨er, bel⟩
          ·
           replace H := zs H
           obtain ⟨t664, A48, H⟩ := H
           replace H := zb H
           rcases H with ⟨rfl, H⟩ | ⟨rfl, H⟩
           ·
            have H' := Aside0.mk H
            clear H
            have ⟨_, _, _, _, _, _, _, _⟩ := cz4 BK655
            go_wp2_with (first | ((with_reducible refine zd 63 rfl ?_); refine zgl Tryz.func156 (impl_isPair.calls ((rd_T121 l0 x11_1).f0) false _ A37.out) ?_; rintro e w' ⟨rfl, ⟨nd, rfl⟩⟩; refine ⟨_, rfl, ?_⟩) | (go_at_call 156; (with_reducible refine (impl_isPair.calls ((rd_T121 l0 x11_1).f0) true _ A48.out).mono ?_); rintro e w' ⟨rfl, ⟨nd, rfl⟩⟩))
            go_roundg kj21
            case measure => have := HK1.out; have := HJ21.out; omega
            case rel => exact ⟨(wrap64 (x11_1 + 1)), rf, H', ⟨by have := HK1.out; have := HJ21.out; omega⟩, ⟨bel⟩⟩
           ·
            by_cases c51 : ((rd_T121 l0 x11_1).f3) = 0
            ·
             rw [if_pos c51] at H
             have c51b0 : (((rd_T121 l0 x11_1).f3) == 0) = true := beq_iff_eq.mpr c51
             have c51b1 : (((rd_T121 l0 x11_1).f3) != 0) = false := bne_eq_false_iff_eq.mpr c51
             clear c51
             have H' := Aside0.mk H
             clear H
             have ⟨_, _, _, _, _, _, _, _⟩ := cz4 BK655
             go_wp2_with (first | ((with_reducible refine zd 63 rfl ?_); refine zgl Tryz.func156 (impl_isPair.calls ((rd_T121 l0 x11_1).f0) false _ A37.out) ?_; rintro e w' ⟨rfl, ⟨nd, rfl⟩⟩; refine ⟨_, rfl, ?_⟩) | (go_at_call 156; (with_reducible refine (impl_isPair.calls ((rd_T121 l0 x11_1).f0) false _ A48.out).mono ?_); rintro e w' ⟨rfl, ⟨nd, rfl⟩⟩))
             go_roundg kj21
             case measure => have := HK1.out; have := HJ21.out; omega
             case rel => exact ⟨(wrap64 (x11_1 + 1)), rf, H', ⟨by have := HK1.out; have := HJ21.out; omega⟩, ⟨bel⟩⟩
            ·
             rw [if_neg c51] at H
             have c51b0 : (((rd_T121 l0 x11_1).f3) == 0) = false := beq_eq_false_iff_ne.mpr c51
             have c51b1 : (((rd_T121 l0 x11_1).f3) != 0) = true := bne_iff_ne.mpr c51
             obtain rfl := Option.some.inj H
             have ⟨_, _, _, _, _, _, _, _⟩ := cz4 BK655
             go_wp2_with (first | ((with_reducible refine zd 63 rfl ?_); refine zgl Tryz.func156 (impl_isPair.calls ((rd_T121 l0 x11_1).f0) false _ A37.out) ?_; rintro e w' ⟨rfl, ⟨nd, rfl⟩⟩; refine ⟨_, rfl, ?_⟩) | (go_at_call 156; (with_reducible refine (impl_isPair.calls ((rd_T121 l0 x11_1).f0) false _ A48.out).mono ?_); rintro e w' ⟨rfl, ⟨nd, rfl⟩⟩))
             go_ret
             exact ⟨er, bel⟩
     ·
      obtain rfl := Option.some.inj H
      obtain ⟨p654, q654, ad654, e654, hx654_0, hx654_1, hx654_2, hx654_3⟩ := zx (at_T121 HR0.out x11_1)
      cases e654
      replace hx654_0 := zh HB hx654_0
      replace hx654_1 := zh HB hx654_1
      replace hx654_2 := zh HB hx654_2
      replace hx654_3 := zh HB hx654_3
      go_wp2_with (first | ((with_reducible refine zd 4 rfl ?_); refine zbx (w := w) #[.int .i64 0, .string (⟨#[]⟩ : ByteArray), .int .i64 0, .int .i64 0] 121 ?_; intro gb655 hg w54 BK655 hb; have GW655 := zg (w := w) hg; replace HB := zB hb; clear hb hg; have ⟨_, _, _, _, _, _, _, _⟩ := cz4 BK655) | ((with_reducible refine zd 18 rfl ?_); refine zgl Tryz.func47 (impl_InRange.calls ((rd_T121 l0 x11_1).f0) 1 9 false _ A7.out) ?_; rintro e w' ⟨rfl, ⟨nd, rfl⟩⟩; refine ⟨_, rfl, ?_⟩))
      go_ret
      exact ⟨er, bel⟩
    ·
     obtain rfl := Option.some.inj H
     go_wp2
     go_ret
     exact ⟨er, bel⟩
 ·
  obtain rfl := Option.some.inj H
  go_enter Tryz.func135, Tryz.ntmps135
  go_wp2_with (first | ((with_reducible refine zd 7 rfl ?_); refine zgl Tryz.func47 (impl_InRange.calls (l0.length : Int) 1 9 false _ A2.out) ?_; rintro e w' ⟨rfl, ⟨nd, rfl⟩⟩; refine ⟨_, rfl, ?_⟩))
  go_ret
  exact ⟨er, bel⟩

/-! ### impl_IsClue: function 102 -/
def impl_IsClue.f (k : Nat) (a : Int) (b : List (S121)) : Option (Bool) := (impl_InRange.f a 1 99).bind fun c => (if c = true then ((impl_IsPlay.f k b).bind fun d => (some d)) else (some false))
set_option maxHeartbeats 8000000 in
set_option maxRecDepth 100000 in
theorem impl_IsClue.calls (k : Nat) (a0_0 : Int) (A0_1 : Option Addr) (c0_1 : Nat) (l0_1 : List (S121)) (r : Bool) (w : World) (hr0_1 : Kd.C k121 w A0_1 l0_1.length l0_1) (hc0_1 : l0_1.length ≤ c0_1) (H : impl_IsClue.f k a0_0 l0_1 = some r) :
  Calls Tryz.prog 102 #[.agg #[.int .i64 a0_0, .slice A0_1 l0_1.length c0_1]] w fun e w' => e = .returned (.bool r) ∧ Below w.heap.size w w' := by
 have hu89 := Tryz.underlying89
 have HR0_1 := Aside0.mk hr0_1
 have HC0_1 := Aside0.mk hc0_1
 clear hr0_1 hc0_1
 have HB := Aside0.mk (Below.refl w.heap.size w)
 unfold impl_IsClue.f at H
 replace H := zs H
 obtain ⟨t666, A2, H⟩ := H
 replace H := zb H
 rcases H with ⟨rfl, H⟩ | ⟨rfl, H⟩
 rotate_left
 focus
  obtain rfl := Option.some.inj H
 rotate_right
 focus
  replace H := zs H
  obtain ⟨t667, A4, H⟩ := H
  obtain rfl := Option.some.inj H
 all_goals
  go_enter Tryz.func102, Tryz.ntmps102
  go_wp2_with (first | ((with_reducible refine zd 1 rfl ?_); refine zbx (w := w) #[.int .i64 a0_0, .slice A0_1 l0_1.length c0_1] 89 ?_; intro gb665 hg w1000 BK665 hb; have GW665 := zg (w := w) hg; replace HB := zB hb; clear hb hg; have ⟨_, _, _, _⟩ := cz2 BK665) | ((with_reducible refine zd 5 rfl ?_); refine zgl Tryz.func47 (impl_InRange.calls a0_0 1 99 _ _ A2.out) ?_; rintro e w' ⟨rfl, ⟨nd, rfl⟩⟩; refine ⟨_, rfl, ?_⟩) | (go_at_call 135; (with_reducible refine (impl_IsPlay.calls k _ _ l0_1 t667 _ ?side1 ?side2 A4.out).mono ?_); (case side1 => repeat (first | exact (Kd.C_below HR0_1.out bel) | (with_reducible refine Kd.C_alloc ?_ _) | (with_reducible refine Kd.C_drewN ?_ _) | (with_reducible refine Kd.C_drew ?_))); (case side2 => exact HC0_1.out); rintro e w1001 ⟨rfl, hb⟩; replace BK665 := zk BK665 hb; replace HB := zB hb))
  go_ret
  exact ⟨er, bel⟩

/-! ### impl_IsPuzzle_1: function 101 -/
def impl_IsPuzzle_1.f (k : Nat) (a : Int) (b : List (S121)) : Option (Bool) := (impl_IsClue.f k a b).bind fun c => (some (!c))
set_option maxHeartbeats 8000000 in
set_option maxRecDepth 100000 in
theorem impl_IsPuzzle_1.calls (k : Nat) (a0_0 : Int) (A0_1 : Option Addr) (c0_1 : Nat) (l0_1 : List (S121)) (r : Bool) (w : World) (hr0_1 : Kd.C k121 w A0_1 l0_1.length l0_1) (hc0_1 : l0_1.length ≤ c0_1) (H : impl_IsPuzzle_1.f k a0_0 l0_1 = some r) :
  Calls Tryz.prog 101 #[.agg #[.int .i64 a0_0, .slice A0_1 l0_1.length c0_1]] w fun e w' => e = .returned (.bool r) ∧ Below w.heap.size w w' := by
 have hu89 := Tryz.underlying89
 have HR0_1 := Aside0.mk hr0_1
 have HC0_1 := Aside0.mk hc0_1
 clear hr0_1 hc0_1
 have HB := Aside0.mk (Below.refl w.heap.size w)
 unfold impl_IsPuzzle_1.f at H
 replace H := zs H
 obtain ⟨t669, A2, H⟩ := H
 obtain rfl := Option.some.inj H
 go_enter Tryz.func101, Tryz.ntmps101
 go_wp2_with (first | ((with_reducible refine zd 1 rfl ?_); refine zbx (w := w) #[.int .i64 a0_0, .slice A0_1 l0_1.length c0_1] 89 ?_; intro gb668 hg w3 BK668 hb; have GW668 := zg (w := w) hg; replace HB := zB hb; clear hb hg; have ⟨_, _, _, _⟩ := cz2 BK668) | ((with_reducible refine zd 4 rfl ?_); refine zgl Tryz.func102 (impl_IsClue.calls k a0_0 _ _ l0_1 t669 _ (zC HR0_1) HC0_1.out A2.out) ?_; rintro e w5 ⟨rfl, hb⟩; refine ⟨_, rfl, ?_⟩; replace BK668 := zk BK668 hb; replace HB := zB hb))
 go_ret
 exact ⟨er, bel⟩

-- BY HAND ELSEWHERE: function 134 (impl_Clue_134)

/-! ### impl_Clue_100: function 100 -/
def impl_Clue_100.idx (p : S89 → Option Bool) : List (S89) → Int → Option Int
 | [], _ => some (-1)
 | x :: t, i => (p x).bind fun b => if b = true then some i else impl_Clue_100.idx p t (i + 1)
set_option maxHeartbeats 4000000 in
set_option maxRecDepth 100000 in
theorem impl_Clue_100.idx_101 (k : Nat) (A0 : Option Addr) (c0 : Nat) (l0 : List (S89)) (r : Int) (w : World) (hr0 : Kd.C k89 w A0 l0.length l0) (h : impl_Clue_100.idx (fun x => impl_IsPuzzle_1.f k (x).f0 (x).f1) l0 0 = some r) :
  Calls Tryz.prog 134 #[.slice A0 l0.length c0, .func (.func 101) #[] #[]] w fun e w' => e = .returned (.int .i64 r) ∧ Below w.heap.size w w' := by
 have hm := hr0.2.1
 have HR0 := Aside0.mk hr0
 have HB := Aside0.mk (Below.refl w.heap.size w)
 have HA0 := Aside0.mk h
 clear hr0 h
 go_enter Tryz.func134, Tryz.ntmps134
 go_wp2_with fail
 go_loopg [8] l0.length (fun kq v8 wr => ∃ (i : Nat), v8 = .int .i64 i ∧ i ≤ l0.length ∧ Aside0 (kq + i = l0.length) ∧ Aside0 (Below w.heap.size w wr) ∧ Aside0 (impl_Clue_100.idx (fun x => impl_IsPuzzle_1.f k (x).f0 (x).f1) (l0.drop i) i = some r))
 case atStart => exact ⟨0, rfl, Nat.zero_le _, ⟨rfl⟩, HB, HA0⟩
 case round =>
  clear HB HA0
  obtain ⟨i, rfl, hi, HK, HB, HA⟩ := hrel
  by_cases hlt : i < l0.length
  ·
   have hA := HA.out
   rw [List.drop_eq_getElem_cons hlt] at hA
   simp only [impl_Clue_100.idx] at hA
   obtain ⟨b, hb, hA⟩ := Option.bind_eq_some_iff.mp hA
   have HP := Aside0.mk hb
   clear hb HA
   obtain ⟨ad, A_1, c_1, e0, q0, q1, hl_1, hi_1⟩ := at_T89 HR0.out (i : Int) (by omega) (by omega)
   subst e0
   have hrd : rd_T89 l0 (i : Int) = l0[i] := by simp [rd_T89, List.getD_eq_getElem?_getD, List.getElem?_eq_getElem hlt]
   simp only [hrd, Int.toNat_natCast] at q0 q1 hl_1 hi_1
   replace q0 := (HB.out.cell (World.block_lt_of_cell? w _ q0)).trans q0
   replace q1 := (HB.out.cell (World.block_lt_of_cell? w _ q1)).trans q1
   have HL1 := Aside0.mk hl_1
   have HI1 := Aside0.mk hi_1
   clear hrd hl_1 hi_1
   cases b with
   | true =>
    rw [if_pos rfl] at hA
    obtain rfl := Option.some.inj hA
    clear hA
    go_wp2_with (go_at_call 101; refine (impl_IsPuzzle_1.calls k ((l0[i]).f0) _ _ ((l0[i]).f1) _ _ ?s1 ?t1 HP.out).mono ?_; (case s1 => exact Kd.C_below HI1.out HB.out); (case t1 => exact HL1.out); rintro e w2 ⟨rfl, hd⟩; have HB2 := Aside0.mk (below_step HB.out hd); clear hd HB)
    go_ret
    exact ⟨rfl, HB2.out⟩
   | false =>
    rw [if_neg (by decide)] at hA
    have HA := Aside0.mk (show impl_Clue_100.idx (fun x => impl_IsPuzzle_1.f k (x).f0 (x).f1) (l0.drop (i + 1)) ((i + 1 : Nat) : Int) = some r from hA)
    clear hA
    go_wp2_with (go_at_call 101; refine (impl_IsPuzzle_1.calls k ((l0[i]).f0) _ _ ((l0[i]).f1) _ _ ?s1 ?t1 HP.out).mono ?_; (case s1 => exact Kd.C_below HI1.out HB.out); (case t1 => exact HL1.out); rintro e w2 ⟨rfl, hd⟩; have HB2 := Aside0.mk (below_step HB.out hd); clear hd HB)
    go_roundg (l0.length - (i + 1))
    case measure => have := HK.out; omega
    case rel => exact ⟨i + 1, by simp, by omega, ⟨by omega⟩, HB2, HA⟩
  ·
   obtain rfl : i = l0.length := by omega
   have hA := HA.out
   rw [List.drop_length] at hA
   simp only [impl_Clue_100.idx, Option.some.injEq] at hA
   subst hA
   go_wp2
   go_ret
   exact ⟨rfl, HB.out⟩
def impl_Clue_100.f (k : Nat) (a : List (S89)) (b : Nat) : Option Bool := if b = 101 then (impl_Clue_100.idx (fun c => impl_IsPuzzle_1.f k (c).f0 (c).f1) a 0).bind fun d => some (decide (d ≥ 0)) else none
set_option maxHeartbeats 4000000 in
theorem impl_Clue_100.calls (k : Nat) (A0 : Option Addr) (c0 : Nat) (l0 : List (S89)) (a1 : Nat) (r : Bool) (w : World) (hr0 : Kd.C k89 w A0 l0.length l0) (hc0 : l0.length ≤ c0) (h : impl_Clue_100.f k l0 a1 = some r) :
  Calls Tryz.prog 100 #[.slice A0 l0.length c0, .func (.func a1) #[] #[]] w fun e w' => e = .returned (.bool r) ∧ Below w.heap.size w w' := by
 unfold impl_Clue_100.f at h
 by_cases e101 : a1 = 101
 ·
  rw [if_pos e101] at h
  subst e101
  obtain ⟨i, hi, h⟩ := Option.bind_eq_some_iff.mp h
  obtain rfl := Option.some.inj h
  have HI := Aside0.mk hi
  have HR := Aside0.mk hr0
  clear hi h hr0
  go_enter Tryz.func100, Tryz.ntmps100
  go_wp2_with (go_at_call 134; refine (impl_Clue_100.idx_101 k _ _ l0 i _ HR.out HI.out).mono ?_; rintro e w2 ⟨rfl, hb⟩; have HB := Aside0.mk hb; clear hb)
  go_ret
  exact ⟨by first | rfl | simp, HB.out⟩
 rw [if_neg e101] at h
 cases h

/-! ### impl_IsPuzzle: function 69 -/
def impl_IsPuzzle.f (k : Nat) (a b : Int) (c : ByteArray) (d : List (S89)) (e : List Int) (f : Int) : Option (Bool) := (impl_FormOf.f k a b c).bind fun g => (if g = 0 then ((impl_SlotsOf.f k a b c).bind fun h => (if (d.length : Int) = (h.length : Int) then (if (e.length : Int) = (h.length : Int) then ((impl_InRange.f f 1 9999).bind fun i => (if i = true then ((impl_Clue_100.f k d 101).bind fun j => (some (!j))) else (some false))) else (some false)) else (some false))) else (some false))
set_option maxHeartbeats 8000000 in
set_option maxRecDepth 100000 in
theorem impl_IsPuzzle.calls (k : Nat) (a0_0 a0_1 : Int) (a0_2 : ByteArray) (A0_3 : Option Addr) (c0_3 : Nat) (l0_3 : List (S89)) (A0_4 : Option Addr) (c0_4 : Nat) (l0_4 : List Int) (a0_5 : Int) (r : Bool) (w : World) (hr0_3 : Kd.C k89 w A0_3 l0_3.length l0_3) (hc0_3 : l0_3.length ≤ c0_3) (hr0_4 : Kd.C (Kd.int .i64) w A0_4 l0_4.length l0_4) (hc0_4 : l0_4.length ≤ c0_4) (H : impl_IsPuzzle.f k a0_0 a0_1 a0_2 l0_3 l0_4 a0_5 = some r) :
  Calls Tryz.prog 69 #[.agg #[.int .i64 a0_0, .int .i64 a0_1, .string a0_2, .slice A0_3 l0_3.length c0_3, .slice A0_4 l0_4.length c0_4, .int .i64 a0_5]] w fun e w' => e = .returned (.bool r) ∧ Below w.heap.size w w' := by
 have hu35 := Tryz.underlying35
 have hu32 := Tryz.underlying32
 have HR0_3 := Aside0.mk hr0_3
 have HC0_3 := Aside0.mk hc0_3
 clear hr0_3 hc0_3
 have HR0_4 := Aside0.mk hr0_4
 have HC0_4 := Aside0.mk hc0_4
 clear hr0_4 hc0_4
 have HB := Aside0.mk (Below.refl w.heap.size w)
 unfold impl_IsPuzzle.f at H
 replace H := zs H
 obtain ⟨t671, A2, H⟩ := H
 by_cases c3 : t671 = 0
 rotate_left
 focus
  rw [if_neg c3] at H
  have c3b0 : (t671 == 0) = false := beq_eq_false_iff_ne.mpr c3
  have c3b1 : (t671 != 0) = true := bne_iff_ne.mpr c3
  obtain rfl := Option.some.inj H
 rotate_right
 focus
  rw [if_pos c3] at H
  have c3b0 : (t671 == 0) = true := beq_iff_eq.mpr c3
  have c3b1 : (t671 != 0) = false := bne_eq_false_iff_eq.mpr c3
  clear c3
  replace H := zs H
  obtain ⟨t672, A4, H⟩ := H
  by_cases c5 : (l0_3.length : Int) = (t672.length : Int)
  rotate_left
  focus
   rw [if_neg c5] at H
   have c5b0 : ((l0_3.length : Int) == (t672.length : Int)) = false := beq_eq_false_iff_ne.mpr c5
   have c5b1 : ((l0_3.length : Int) != (t672.length : Int)) = true := bne_iff_ne.mpr c5
   have c5b2 : (l0_3.length == t672.length) = false := by first | simpa using c5 | (simp at c5 ⊢; omega)
   obtain rfl := Option.some.inj H
  rotate_right
  focus
   rw [if_pos c5] at H
   have c5b0 : ((l0_3.length : Int) == (t672.length : Int)) = true := beq_iff_eq.mpr c5
   have c5b1 : ((l0_3.length : Int) != (t672.length : Int)) = false := bne_eq_false_iff_eq.mpr c5
   have c5b2 : (l0_3.length == t672.length) = true := by first | simpa using c5 | (simp at c5 ⊢; omega)
   clear c5
   by_cases c6 : (l0_4.length : Int) = (t672.length : Int)
   rotate_left
   focus
    rw [if_neg c6] at H
    have c6b0 : ((l0_4.length : Int) == (t672.length : Int)) = false := beq_eq_false_iff_ne.mpr c6
    have c6b1 : ((l0_4.length : Int) != (t672.length : Int)) = true := bne_iff_ne.mpr c6
    have c6b2 : (l0_4.length == t672.length) = false := by first | simpa using c6 | (simp at c6 ⊢; omega)
    obtain rfl := Option.some.inj H
   rotate_right
   focus
    rw [if_pos c6] at H
    have c6b0 : ((l0_4.length : Int) == (t672.length : Int)) = true := beq_iff_eq.mpr c6
    have c6b1 : ((l0_4.length : Int) != (t672.length : Int)) = false := bne_eq_false_iff_eq.mpr c6
    have c6b2 : (l0_4.length == t672.length) = true := by first | simpa using c6 | (simp at c6 ⊢; omega)
    clear c6
    replace H := zs H
    obtain ⟨t675, A7, H⟩ := H
    replace H := zb H
    rcases H with ⟨rfl, H⟩ | ⟨rfl, H⟩
    rotate_left
    focus
     obtain rfl := Option.some.inj H
    rotate_right
    focus
     replace H := zs H
     obtain ⟨t676, A9, H⟩ := H
     obtain rfl := Option.some.inj H
 all_goals
  go_enter Tryz.func69, Tryz.ntmps69
  go_wp2_with (first | ((with_reducible refine zd 1 rfl ?_); (try (refine gate_guard (by rfl) ?_; dsimp only)); refine zbx (w := w) #[.int .i64 a0_0, .int .i64 a0_1, .string a0_2, .slice A0_3 l0_3.length c0_3, .slice A0_4 l0_4.length c0_4, .int .i64 a0_5] 35 ?_; intro gb670 hg w1000 BK670 hb; have GW670 := zg (w := w) hg; replace HB := zB hb; clear hb hg; have ⟨_, _, _, _, _, _, _, _, _, _, _, _⟩ := cz6 BK670) | ((with_reducible refine zd 6 rfl ?_); refine zgl Tryz.func98 (impl_FormOf.calls k a0_0 a0_1 a0_2 t671 _ A2.out) ?_; rintro e w1001 ⟨rfl, hb⟩; refine ⟨_, rfl, ?_⟩; replace BK670 := zk BK670 hb; replace HB := zB hb; have ⟨_, _, _, _, _, _, _, _, _, _, _, _⟩ := cz6 BK670) | ((with_reducible refine zd 10 rfl ?_); refine zgl Tryz.func99 (impl_SlotsOf.calls k a0_0 a0_1 a0_2 t672 _ A4.out) ?_; rintro e w1002 ⟨v673, rfl, ho0, hb⟩; refine ⟨_, rfl, ?_⟩; have HO674 := zl2 ho0; replace BK670 := zk BK670 hb; replace HB := zB hb; obtain ⟨Ao1003, co1004, eo1005⟩ := Kd.R_slice HO674.out; subst eo1005; have ⟨_, _, _, _, _, _, _, _, _, _, _, _⟩ := cz6 BK670) | (go_at_call 47; (with_reducible refine (impl_InRange.calls a0_5 1 9999 _ _ A7.out).mono ?_); rintro e w' ⟨rfl, ⟨nd, rfl⟩⟩) | (go_at_call 100; (with_reducible refine (impl_Clue_100.calls k _ _ l0_3 101 t676 _ ?side1 ?side2 A9.out).mono ?_); (case side1 => repeat (first | exact (Kd.C_below HR0_3.out bel) | (with_reducible refine Kd.C_alloc ?_ _) | (with_reducible refine Kd.C_drewN ?_ _) | (with_reducible refine Kd.C_drew ?_))); (case side2 => exact HC0_3.out); rintro e w1006 ⟨rfl, hb⟩; replace HO674 := zR HO674 hb; replace BK670 := zk BK670 hb; replace HB := zB hb) | ((with_reducible refine zd 6 rfl ?_); refine zgl Tryz.func98 (impl_FormOf.calls k a0_0 a0_1 a0_2 t671 _ A2.out) ?_; rintro e w1001 ⟨rfl, hb⟩; refine ⟨_, rfl, ?_⟩; replace BK670 := zk BK670 hb; replace HB := zB hb))
  go_ret
  exact ⟨er, bel⟩

/-! ### impl_openIn: function 111 -/
def impl_openIn.l0 : Nat → ByteArray → Int → Int → Int → Option (Int)
 | 0, _, _, _, _ => none
 | k + 1, a, b, c, d => if d < c then (if 0 ≤ d then (if d < (a.size : Int) then (if (bt a d) = 63 then (impl_openIn.l0 k a (wrap64 (b + 1)) c (wrap64 (d + 1))) else (impl_openIn.l0 k a b c (wrap64 (d + 1)))) else (none)) else (none)) else (some b)
def impl_openIn.f (k : Nat) (a : ByteArray) : Option (Int) := impl_openIn.l0 k a 0 (a.size : Int) 0
set_option maxHeartbeats 8000000 in
set_option maxRecDepth 100000 in
theorem impl_openIn.calls (k : Nat) (a0 : ByteArray) (r : Int) (w : World) (H : impl_openIn.f k a0 = some r) :
  Calls Tryz.prog 111 #[.string a0] w fun e w' => e = .returned (.int .i64 r) ∧ Drawn0 w w' := by
 unfold impl_openIn.f at H
 have H' := Aside0.mk H
 clear H
 go_enter Tryz.func111, Tryz.ntmps111
 go_wp2
 go_loopg [3, 7] k (fun kq v3 v7 w' => ∃ (x3_1 : Int) (x7_1 : Int), v3 = .int .i64 x3_1 ∧ v7 = .int .i64 x7_1 ∧ Aside0 (impl_openIn.l0 kq a0 x3_1 (a0.size : Int) x7_1 = some r) ∧ Aside0 (kq ≤ k) ∧ Drawn0 w w')
 case atStart => exact ⟨(0), (0), rf, rf, H', ⟨Nat.le_refl _⟩, by repeat (first | exact Drawn0.refl _ | apply Drawn0.step)⟩
 case round =>
  clear H'
  obtain ⟨x3_1, x7_1, rfl, rfl, HA, HK1, ⟨m1, rfl⟩⟩ := hrel
  cases gk with
  | zero => exact absurd HA.out (by simp [impl_openIn.l0])
  | succ k1 =>
   have H := HA.out
   clear HA
   simp only [impl_openIn.l0] at H
   replace H := zc H
   rcases H with ⟨c2b0, H⟩ | ⟨c2b0, H⟩
   ·
    replace H := zr H
    obtain ⟨c3b0, H⟩ := H
    replace H := zr H
    obtain ⟨c4b0, H⟩ := H
    by_cases c6 : (bt a0 x7_1) = 63
    ·
     rw [if_pos c6] at H
     have c6b0 : ((bt a0 x7_1) == 63) = true := beq_iff_eq.mpr c6
     have c6b1 : ((bt a0 x7_1) != 63) = false := bne_eq_false_iff_eq.mpr c6
     clear c6
     have H' := Aside0.mk H
     clear H
     obtain ⟨p5, q5, hx5⟩ := zxb a0 x7_1
     go_wp2
     go_roundg k1
     case measure => have := HK1.out; omega
     case rel => exact ⟨(wrap64 (x3_1 + 1)), (wrap64 (x7_1 + 1)), rf, rf, H', ⟨by have := HK1.out; omega⟩, by repeat (first | exact Drawn0.refl _ | apply Drawn0.step)⟩
    ·
     rw [if_neg c6] at H
     have c6b0 : ((bt a0 x7_1) == 63) = false := beq_eq_false_iff_ne.mpr c6
     have c6b1 : ((bt a0 x7_1) != 63) = true := bne_iff_ne.mpr c6
     have H' := Aside0.mk H
     clear H
     obtain ⟨p5, q5, hx5⟩ := zxb a0 x7_1
     go_wp2
     go_roundg k1
     case measure => have := HK1.out; omega
     case rel => exact ⟨(x3_1), (wrap64 (x7_1 + 1)), rf, rf, H', ⟨by have := HK1.out; omega⟩, by repeat (first | exact Drawn0.refl _ | apply Drawn0.step)⟩
   ·
    obtain rfl := Option.some.inj H
    go_wp2
    go_ret
    exact ⟨by first | rfl | (simp; done) | (simp [*]; done), by repeat (first | exact Drawn0.refl _ | apply Drawn0.step)⟩

/-! ### impl_IsFull: function 83 -/
def impl_IsFull.f (k : Nat) (a b : Int) (c d : ByteArray) : Option (Bool) := (impl_IsFill.f k a b c d).bind fun e => (if e = true then ((impl_openIn.f k d).bind fun f => (some (f == 0))) else (some false))
set_option maxHeartbeats 8000000 in
set_option maxRecDepth 100000 in
theorem impl_IsFull.calls (k : Nat) (a0_0 a0_1 : Int) (a0_2 a1 : ByteArray) (r : Bool) (w : World) (H : impl_IsFull.f k a0_0 a0_1 a0_2 a1 = some r) :
  Calls Tryz.prog 83 #[.agg #[.int .i64 a0_0, .int .i64 a0_1, .string a0_2], .string a1] w fun e w' => e = .returned (.bool r) ∧ Below w.heap.size w w' := by
 have hu32 := Tryz.underlying32
 have HB := Aside0.mk (Below.refl w.heap.size w)
 unfold impl_IsFull.f at H
 replace H := zs H
 obtain ⟨t678, A3, H⟩ := H
 replace H := zb H
 rcases H with ⟨rfl, H⟩ | ⟨rfl, H⟩
 rotate_left
 focus
  obtain rfl := Option.some.inj H
 rotate_right
 focus
  replace H := zs H
  obtain ⟨t679, A5, H⟩ := H
  obtain rfl := Option.some.inj H
 all_goals
  go_enter Tryz.func83, Tryz.ntmps83
  go_wp2_with (first | ((with_reducible refine zd 2 rfl ?_); refine zbx (w := w) #[.int .i64 a0_0, .int .i64 a0_1, .string a0_2] 32 ?_; intro gb677 hg w1000 BK677 hb; have GW677 := zg (w := w) hg; replace HB := zB hb; clear hb hg; have ⟨_, _, _, _, _, _⟩ := cz3 BK677) | ((with_reducible refine zd 7 rfl ?_); refine zgl Tryz.func52 (impl_IsFill.calls k a0_0 a0_1 a0_2 a1 _ _ A3.out) ?_; rintro e w1001 ⟨rfl, hb⟩; refine ⟨_, rfl, ?_⟩; replace BK677 := zk BK677 hb; replace HB := zB hb) | (go_at_call 111; (with_reducible refine (impl_openIn.calls k a1 t679 _ A5.out).mono ?_); rintro e w' ⟨rfl, ⟨nd, rfl⟩⟩))
  go_ret
  exact ⟨er, bel⟩

end Go.Proofs.YtpcdfjcbjbkliaaGreat.E
