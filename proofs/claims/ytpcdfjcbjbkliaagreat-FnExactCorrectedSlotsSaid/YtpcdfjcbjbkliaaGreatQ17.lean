import Derived.Test.YtpcdfjcbjbkliaaGreatSq
import Derived.Test.YtpcdfjcbjbkliaaGreatQ0
import Derived.Test.YtpcdfjcbjbkliaaGreatQ3
import Derived.Test.YtpcdfjcbjbkliaaGreatQ14
import Derived.Test.YtpcdfjcbjbkliaaGreatQ15
import Derived.Test.YtpcdfjcbjbkliaaGreatQ16
namespace Go.Proofs.YtpcdfjcbjbkliaaGreat.E
open Go.RowKit Go.Proofs.YtpcdfjcbjbkliaaGreatW.PrintWords Go.Proofs.YtpcdfjcbjbkliaaGreatW.PrintLast Go.Proofs.YtpcdfjcbjbkliaaGreatW.PrintMore
attribute [local go_sem] max2_int min2_int max_two min_two max_three min_three max_four min_four
set_option linter.unusedVariables false
set_option linter.unusedSimpArgs false

/-! ### spec_CorrectedSlots: function 24 -/
mutual
def spec_CorrectedSlots.l0 : Nat → List (S91) → Int → List Int → Int → Int → Int → Int → ByteArray → List (S89) → List Int → Int → ByteArray → Int → Int → Option (List Int)
 | 0, _, _, _, _, _, _, _, _, _, _, _, _, _, _ => none
 | k + 1, a, b, c, d, e, f, g, h, i, j, l, m, n, o => if d < (a.length : Int) then ((spec_IsIssue.f k e f g h i j l m n o).bind fun p => (if p = true then ((spec_AreCorrections.f k a).bind fun q => (spec_CorrectedSlots.j1 k a b c d q e f g h i j l m n o)) else (spec_CorrectedSlots.j1 k a b c d false e f g h i j l m n o))) else (spec_CorrectedSlots.j1 k a b c d false e f g h i j l m n o)
def spec_CorrectedSlots.j1 : Nat → List (S91) → Int → List Int → Int → Bool → Int → Int → Int → ByteArray → List (S89) → List Int → Int → ByteArray → Int → Int → Option (List Int)
 | 0, _, _, _, _, _, _, _, _, _, _, _, _, _, _, _ => none
 | k + 1, a, b, c, d, e, f, g, h, i, j, l, m, n, o, p => if e = true then (if 0 ≤ d then (if d < (a.length : Int) then (if ((rd_T91 a d).f0) = f then (if ((rd_T91 a d).f3) ≤ b then (if ((rd_T91 a d).f1) < (j.length : Int) then ((spec_l9Put.f k c ((rd_T91 a d).f1)).bind fun q => (spec_CorrectedSlots.l0 k a b q (wrap64 (d + 1)) f g h i j l m n o p)) else (spec_CorrectedSlots.l0 k a b c (wrap64 (d + 1)) f g h i j l m n o p)) else (spec_CorrectedSlots.l0 k a b c (wrap64 (d + 1)) f g h i j l m n o p)) else (spec_CorrectedSlots.l0 k a b c (wrap64 (d + 1)) f g h i j l m n o p)) else (none)) else (none)) else (some c)
end
def spec_CorrectedSlots.f (k : Nat) (a b c : Int) (d : ByteArray) (e : List (S89)) (f : List Int) (g : Int) (h : ByteArray) (i j : Int) (l : List (S91)) (m : Int) : Option (List Int) := spec_CorrectedSlots.l0 k l m (([] : List Int)) 0 a b c d e f g h i j
set_option maxHeartbeats 8000000 in
set_option maxRecDepth 100000 in
theorem spec_CorrectedSlots.calls (k : Nat) (a0_0 a0_1 a0_2 : Int) (a0_3 : ByteArray) (A0_4 : Option Addr) (c0_4 : Nat) (l0_4 : List (S89)) (A0_5 : Option Addr) (c0_5 : Nat) (l0_5 : List Int) (a0_6 : Int) (a0_7 : ByteArray) (a0_8 a0_9 : Int) (A1 : Option Addr) (c1 : Nat) (l1 : List (S91)) (a2 : Int) (r : List Int) (w : World) (hr0_4 : Kd.C k89 w A0_4 l0_4.length l0_4) (hc0_4 : l0_4.length ≤ c0_4) (hr0_5 : Kd.C (Kd.int .i64) w A0_5 l0_5.length l0_5) (hc0_5 : l0_5.length ≤ c0_5) (hr1 : Kd.C k91 w A1 l1.length l1) (hc1 : l1.length ≤ c1) (H : spec_CorrectedSlots.f k a0_0 a0_1 a0_2 a0_3 l0_4 l0_5 a0_6 a0_7 a0_8 a0_9 l1 a2 = some r) :
  Calls Tryz.prog 24 #[.agg #[.int .i64 a0_0, .int .i64 a0_1, .int .i64 a0_2, .string a0_3, .slice A0_4 l0_4.length c0_4, .slice A0_5 l0_5.length c0_5, .int .i64 a0_6, .string a0_7, .int .i64 a0_8, .int .i64 a0_9], .slice A1 l1.length c1, .int .i64 a2] w fun e w' => ∃ v0_ : Value, e = .returned (v0_) ∧ Kd.R (Kd.int .i64) 3 w' w.heap.size (fun _ => True) v0_ r ∧ Below w.heap.size w w' := by
 have hu37 := Tryz.underlying37
 have HR0_4 := Aside0.mk hr0_4
 have HC0_4 := Aside0.mk hc0_4
 clear hr0_4 hc0_4
 have HR0_5 := Aside0.mk hr0_5
 have HC0_5 := Aside0.mk hc0_5
 clear hr0_5 hc0_5
 have HR1 := Aside0.mk hr1
 have HC1 := Aside0.mk hc1
 clear hr1 hc1
 have HB := Aside0.mk (Below.refl w.heap.size w)
 unfold spec_CorrectedSlots.f at H
 generalize hy492 : (([] : List Int) : List Int) = y492 at H
 have Ny492 := Aside0.mk hy492.symm
 clear hy492
 have H' := Aside0.mk H
 clear H
 go_enter Tryz.func24, Tryz.ntmps24
 go_wp2_with (first | ((with_reducible refine zd 3 rfl ?_); (try (refine gate_guard (by rfl) ?_; dsimp only)); refine zbx (w := w) #[.int .i64 a0_0, .int .i64 a0_1, .int .i64 a0_2, .string a0_3, .slice A0_4 l0_4.length c0_4, .slice A0_5 l0_5.length c0_5, .int .i64 a0_6, .string a0_7, .int .i64 a0_8, .int .i64 a0_9] 37 ?_; intro gb491 hg w4 BK491 hb; have GW491 := zg (w := w) hg; replace HB := zB hb; clear hb hg) | ((with_reducible refine gate_dst (N := 9) rfl ?_); (try (refine gate_guard (by rfl) ?_; dsimp only)); refine Kd.R_lit (Kd.int .i64) _ 3 ?hg (N := 9) ?hd (xs := ([] : List Int)) (inner := []) (ok := fun _ => True) (okp := fun _ => True) ?hr ?hp (fun _ hk => hk) trivial (Below.refl _ _) (Nat.le_refl _) (by simp) ?_; (case hd => rfl); (case hg => rfl); (case hr => first | (go_simp; done) | (go_simp; rfl)); (case hp => exact (Reps.none _ _)); intro v493 w5 ho6 hb hg_ hnew_; clear hg_ hnew_; (first | rw [← Ny492.out] at ho6 | (simp only [Int.reduceToNat] at ho6; rw [← Ny492.out] at ho6)); have HO494 := zl2 ho6; replace BK491 := zk BK491 hb; replace HB := zB hb; clear hb ho6))
 repeat (go_quiet (first | ((with_reducible refine zd 3 rfl ?_); (try (refine gate_guard (by rfl) ?_; dsimp only)); refine zbx (w := w) #[.int .i64 a0_0, .int .i64 a0_1, .int .i64 a0_2, .string a0_3, .slice A0_4 l0_4.length c0_4, .slice A0_5 l0_5.length c0_5, .int .i64 a0_6, .string a0_7, .int .i64 a0_8, .int .i64 a0_9] 37 ?_; intro gb491 hg w4 BK491 hb; have GW491 := zg (w := w) hg; replace HB := zB hb; clear hb hg) | ((with_reducible refine gate_dst (N := 9) rfl ?_); (try (refine gate_guard (by rfl) ?_; dsimp only)); refine Kd.R_lit (Kd.int .i64) _ 3 ?hg (N := 9) ?hd (xs := ([] : List Int)) (inner := []) (ok := fun _ => True) (okp := fun _ => True) ?hr ?hp (fun _ hk => hk) trivial (Below.refl _ _) (Nat.le_refl _) (by simp) ?_; (case hd => rfl); (case hg => rfl); (case hr => first | (go_simp; done) | (go_simp; rfl)); (case hp => exact (Reps.none _ _)); intro v493 w5 ho6 hb hg_ hnew_; clear hg_ hnew_; (first | rw [← Ny492.out] at ho6 | (simp only [Int.reduceToNat] at ho6; rw [← Ny492.out] at ho6)); have HO494 := zl2 ho6; replace BK491 := zk BK491 hb; replace HB := zB hb; clear hb ho6)); try go_wp2_with (first | ((with_reducible refine zd 3 rfl ?_); (try (refine gate_guard (by rfl) ?_; dsimp only)); refine zbx (w := w) #[.int .i64 a0_0, .int .i64 a0_1, .int .i64 a0_2, .string a0_3, .slice A0_4 l0_4.length c0_4, .slice A0_5 l0_5.length c0_5, .int .i64 a0_6, .string a0_7, .int .i64 a0_8, .int .i64 a0_9] 37 ?_; intro gb491 hg w4 BK491 hb; have GW491 := zg (w := w) hg; replace HB := zB hb; clear hb hg) | ((with_reducible refine gate_dst (N := 9) rfl ?_); (try (refine gate_guard (by rfl) ?_; dsimp only)); refine Kd.R_lit (Kd.int .i64) _ 3 ?hg (N := 9) ?hd (xs := ([] : List Int)) (inner := []) (ok := fun _ => True) (okp := fun _ => True) ?hr ?hp (fun _ hk => hk) trivial (Below.refl _ _) (Nat.le_refl _) (by simp) ?_; (case hd => rfl); (case hg => rfl); (case hr => first | (go_simp; done) | (go_simp; rfl)); (case hp => exact (Reps.none _ _)); intro v493 w5 ho6 hb hg_ hnew_; clear hg_ hnew_; (first | rw [← Ny492.out] at ho6 | (simp only [Int.reduceToNat] at ho6; rw [← Ny492.out] at ho6)); have HO494 := zl2 ho6; replace BK491 := zk BK491 hb; replace HB := zB hb; clear hb ho6)))
 go_loopg [7, 8] k (fun kq v7 v8 w' => ∃ (x7_1 : List Int) (x8_1 : Int), v8 = .int .i64 x8_1 ∧ Aside0 (spec_CorrectedSlots.l0 kq l1 a2 x7_1 x8_1 a0_0 a0_1 a0_2 a0_3 l0_4 l0_5 a0_6 a0_7 a0_8 a0_9 = some r) ∧ Aside0 (kq ≤ k) ∧ Aside0 (Kd.R (Kd.int .i64) 3 w' w.heap.size (fun _ => True) v7 x7_1) ∧ Aside0 (w'.heap[gb491]? = some (.cells #[.int .i64 a0_0, .int .i64 a0_1, .int .i64 a0_2, .string a0_3, (.slice A0_4 l0_4.length c0_4), (.slice A0_5 l0_5.length c0_5), .int .i64 a0_6, .string a0_7, .int .i64 a0_8, .int .i64 a0_9] 37 (0, 0))) ∧ Aside0 (Below w.heap.size w w'))
 case atStart => exact ⟨(y492), (0), rf, H', ⟨Nat.le_refl _⟩, ⟨kr HO494⟩, ⟨bk BK491⟩, ⟨bel⟩⟩
 case round =>
  clear H'
  obtain ⟨x7_1, x8_1, rfl, HA, HK1, HO_7, BK491, HB⟩ := hrel
  cases gk with
  | zero => exact absurd HA.out (by simp [spec_CorrectedSlots.l0])
  | succ k1 =>
   have H := HA.out
   clear HA
   simp only [spec_CorrectedSlots.l0] at H
   have HC7 := Aside0.mk H
   clear H
   go_upto_region 3 with (fail)
   repeat (go_quiet (fail); go_upto_region 3 with (fail))
   go_cut [21] (fun v21 wc => ∃ (kq : Nat) (x21_6 : Bool), v21 = .bool x21_6 ∧ Aside0 (spec_CorrectedSlots.j1 kq l1 a2 x7_1 x8_1 x21_6 a0_0 a0_1 a0_2 a0_3 l0_4 l0_5 a0_6 a0_7 a0_8 a0_9 = some r) ∧ Aside0 (kq ≤ k1) ∧ Aside0 (Kd.R (Kd.int .i64) 3 wc w.heap.size (fun _ => True) u7 x7_1) ∧ Aside0 (wc.heap[gb491]? = some (.cells #[.int .i64 a0_0, .int .i64 a0_1, .int .i64 a0_2, .string a0_3, (.slice A0_4 l0_4.length c0_4), (.slice A0_5 l0_5.length c0_5), .int .i64 a0_6, .string a0_7, .int .i64 a0_8, .int .i64 a0_9] 37 (0, 0))) ∧ Aside0 (Below w.heap.size w wc))
   case first =>
    have H := HC7.out
    clear HC7
    replace H := zc H
    rcases H with ⟨c8b0, H⟩ | ⟨c8b0, H⟩
    ·
     (first | rw [c8b0] | (simp only [i64_w, i32_w]; rw [c8b0]) | skip)
     replace H := zs H
     obtain ⟨t495, A9, H⟩ := H
     replace H := zb H
     rcases H with ⟨rfl, H⟩ | ⟨rfl, H⟩
     ·
      replace H := zs H
      obtain ⟨t496, A11, H⟩ := H
      have H' := Aside0.mk H
      clear H
      have ⟨_, _, _, _, _, _, _, _, _, _, _, _, _, _, _, _, _, _, _, _⟩ := cz10 BK491
      go_wp2_with (first | (go_at_call 11; (with_reducible refine (spec_IsIssue.calls k1 a0_0 a0_1 a0_2 a0_3 _ _ l0_4 _ _ l0_5 a0_6 a0_7 a0_8 a0_9 true _ ?side1 ?side2 ?side3 ?side4 A9.out).mono ?_); (case side1 => repeat (first | exact (Kd.C_below HR0_4.out HB.out) | (with_reducible refine Kd.C_alloc ?_ _) | (with_reducible refine Kd.C_drewN ?_ _) | (with_reducible refine Kd.C_drew ?_))); (case side2 => exact HC0_4.out); (case side3 => repeat (first | exact (Kd.C_below HR0_5.out HB.out) | (with_reducible refine Kd.C_alloc ?_ _) | (with_reducible refine Kd.C_drewN ?_ _) | (with_reducible refine Kd.C_drew ?_))); (case side4 => exact HC0_5.out); rintro e w13 ⟨rfl, hb⟩; replace HO_7 := zR HO_7 hb; replace BK491 := zk BK491 hb; replace HB := zB hb) | (go_at_call 56; (with_reducible refine (spec_AreCorrections.calls k1 _ _ l1 t496 _ ?side1 ?side2 A11.out).mono ?_); (case side1 => repeat (first | exact (Kd.C_below HR1.out HB.out) | (with_reducible refine Kd.C_alloc ?_ _) | (with_reducible refine Kd.C_drewN ?_ _) | (with_reducible refine Kd.C_drew ?_))); (case side2 => exact HC1.out); rintro e w14 ⟨rfl, hb⟩; replace HO_7 := zR HO_7 hb; replace BK491 := zk BK491 hb; replace HB := zB hb))
      repeat (go_quiet (first | (go_at_call 11; (with_reducible refine (spec_IsIssue.calls k1 a0_0 a0_1 a0_2 a0_3 _ _ l0_4 _ _ l0_5 a0_6 a0_7 a0_8 a0_9 true _ ?side1 ?side2 ?side3 ?side4 A9.out).mono ?_); (case side1 => repeat (first | exact (Kd.C_below HR0_4.out HB.out) | (with_reducible refine Kd.C_alloc ?_ _) | (with_reducible refine Kd.C_drewN ?_ _) | (with_reducible refine Kd.C_drew ?_))); (case side2 => exact HC0_4.out); (case side3 => repeat (first | exact (Kd.C_below HR0_5.out HB.out) | (with_reducible refine Kd.C_alloc ?_ _) | (with_reducible refine Kd.C_drewN ?_ _) | (with_reducible refine Kd.C_drew ?_))); (case side4 => exact HC0_5.out); rintro e w13 ⟨rfl, hb⟩; replace HO_7 := zR HO_7 hb; replace BK491 := zk BK491 hb; replace HB := zB hb) | (go_at_call 56; (with_reducible refine (spec_AreCorrections.calls k1 _ _ l1 t496 _ ?side1 ?side2 A11.out).mono ?_); (case side1 => repeat (first | exact (Kd.C_below HR1.out HB.out) | (with_reducible refine Kd.C_alloc ?_ _) | (with_reducible refine Kd.C_drewN ?_ _) | (with_reducible refine Kd.C_drew ?_))); (case side2 => exact HC1.out); rintro e w14 ⟨rfl, hb⟩; replace HO_7 := zR HO_7 hb; replace BK491 := zk BK491 hb; replace HB := zB hb)); try go_wp2_with (first | (go_at_call 11; (with_reducible refine (spec_IsIssue.calls k1 a0_0 a0_1 a0_2 a0_3 _ _ l0_4 _ _ l0_5 a0_6 a0_7 a0_8 a0_9 true _ ?side1 ?side2 ?side3 ?side4 A9.out).mono ?_); (case side1 => repeat (first | exact (Kd.C_below HR0_4.out HB.out) | (with_reducible refine Kd.C_alloc ?_ _) | (with_reducible refine Kd.C_drewN ?_ _) | (with_reducible refine Kd.C_drew ?_))); (case side2 => exact HC0_4.out); (case side3 => repeat (first | exact (Kd.C_below HR0_5.out HB.out) | (with_reducible refine Kd.C_alloc ?_ _) | (with_reducible refine Kd.C_drewN ?_ _) | (with_reducible refine Kd.C_drew ?_))); (case side4 => exact HC0_5.out); rintro e w13 ⟨rfl, hb⟩; replace HO_7 := zR HO_7 hb; replace BK491 := zk BK491 hb; replace HB := zB hb) | (go_at_call 56; (with_reducible refine (spec_AreCorrections.calls k1 _ _ l1 t496 _ ?side1 ?side2 A11.out).mono ?_); (case side1 => repeat (first | exact (Kd.C_below HR1.out HB.out) | (with_reducible refine Kd.C_alloc ?_ _) | (with_reducible refine Kd.C_drewN ?_ _) | (with_reducible refine Kd.C_drew ?_))); (case side2 => exact HC1.out); rintro e w14 ⟨rfl, hb⟩; replace HO_7 := zR HO_7 hb; replace BK491 := zk BK491 hb; replace HB := zB hb)))
      go_meet
      case rel => exact ⟨_, (t496), rf, H', ⟨by have := HK1.out; first | omega | exact Nat.le_refl _⟩, ⟨kr HO_7⟩, ⟨bk BK491⟩, ⟨bel⟩⟩
     ·
      have H' := Aside0.mk H
      clear H
      have ⟨_, _, _, _, _, _, _, _, _, _, _, _, _, _, _, _, _, _, _, _⟩ := cz10 BK491
      go_wp2_with (first | (go_at_call 11; (with_reducible refine (spec_IsIssue.calls k1 a0_0 a0_1 a0_2 a0_3 _ _ l0_4 _ _ l0_5 a0_6 a0_7 a0_8 a0_9 false _ ?side1 ?side2 ?side3 ?side4 A9.out).mono ?_); (case side1 => repeat (first | exact (Kd.C_below HR0_4.out HB.out) | (with_reducible refine Kd.C_alloc ?_ _) | (with_reducible refine Kd.C_drewN ?_ _) | (with_reducible refine Kd.C_drew ?_))); (case side2 => exact HC0_4.out); (case side3 => repeat (first | exact (Kd.C_below HR0_5.out HB.out) | (with_reducible refine Kd.C_alloc ?_ _) | (with_reducible refine Kd.C_drewN ?_ _) | (with_reducible refine Kd.C_drew ?_))); (case side4 => exact HC0_5.out); rintro e w16 ⟨rfl, hb⟩; replace HO_7 := zR HO_7 hb; replace BK491 := zk BK491 hb; replace HB := zB hb))
      repeat (go_quiet (first | (go_at_call 11; (with_reducible refine (spec_IsIssue.calls k1 a0_0 a0_1 a0_2 a0_3 _ _ l0_4 _ _ l0_5 a0_6 a0_7 a0_8 a0_9 false _ ?side1 ?side2 ?side3 ?side4 A9.out).mono ?_); (case side1 => repeat (first | exact (Kd.C_below HR0_4.out HB.out) | (with_reducible refine Kd.C_alloc ?_ _) | (with_reducible refine Kd.C_drewN ?_ _) | (with_reducible refine Kd.C_drew ?_))); (case side2 => exact HC0_4.out); (case side3 => repeat (first | exact (Kd.C_below HR0_5.out HB.out) | (with_reducible refine Kd.C_alloc ?_ _) | (with_reducible refine Kd.C_drewN ?_ _) | (with_reducible refine Kd.C_drew ?_))); (case side4 => exact HC0_5.out); rintro e w16 ⟨rfl, hb⟩; replace HO_7 := zR HO_7 hb; replace BK491 := zk BK491 hb; replace HB := zB hb)); try go_wp2_with (first | (go_at_call 11; (with_reducible refine (spec_IsIssue.calls k1 a0_0 a0_1 a0_2 a0_3 _ _ l0_4 _ _ l0_5 a0_6 a0_7 a0_8 a0_9 false _ ?side1 ?side2 ?side3 ?side4 A9.out).mono ?_); (case side1 => repeat (first | exact (Kd.C_below HR0_4.out HB.out) | (with_reducible refine Kd.C_alloc ?_ _) | (with_reducible refine Kd.C_drewN ?_ _) | (with_reducible refine Kd.C_drew ?_))); (case side2 => exact HC0_4.out); (case side3 => repeat (first | exact (Kd.C_below HR0_5.out HB.out) | (with_reducible refine Kd.C_alloc ?_ _) | (with_reducible refine Kd.C_drewN ?_ _) | (with_reducible refine Kd.C_drew ?_))); (case side4 => exact HC0_5.out); rintro e w16 ⟨rfl, hb⟩; replace HO_7 := zR HO_7 hb; replace BK491 := zk BK491 hb; replace HB := zB hb)))
      go_meet
      case rel => exact ⟨_, (false), rf, H', ⟨by have := HK1.out; first | omega | exact Nat.le_refl _⟩, ⟨kr HO_7⟩, ⟨bk BK491⟩, ⟨bel⟩⟩
    ·
     (first | rw [c8b0] | (simp only [i64_w, i32_w]; rw [c8b0]) | skip)
     have H' := Aside0.mk H
     clear H
     go_wp2
     repeat (go_quiet (fail); try go_wp2)
     go_meet
     case rel => exact ⟨_, (false), rf, H', ⟨by have := HK1.out; first | omega | exact Nat.le_refl _⟩, ⟨kr HO_7⟩, ⟨bk BK491⟩, ⟨bel⟩⟩
   case rest =>
    clear HC7
    obtain ⟨kq, x21_6, rfl, HA, HJ6, HO_7, BK491, HB⟩ := hcut
    cases kq with
    | zero => exact absurd HA.out (by simp [spec_CorrectedSlots.j1])
    | succ kj6 =>
     have H := HA.out
     clear HA
     simp only [spec_CorrectedSlots.j1] at H
     replace H := zb H
     rcases H with ⟨rfl, H⟩ | ⟨rfl, H⟩
     ·
      replace H := zr H
      obtain ⟨c18b0, H⟩ := H
      replace H := zr H
      obtain ⟨c19b0, H⟩ := H
      by_cases c20 : ((rd_T91 l1 x8_1).f0) = a0_0
      ·
       rw [if_pos c20] at H
       have c20b0 : (((rd_T91 l1 x8_1).f0) == a0_0) = true := beq_iff_eq.mpr c20
       have c20b1 : (((rd_T91 l1 x8_1).f0) != a0_0) = false := bne_eq_false_iff_eq.mpr c20
       clear c20
       replace H := zc H
       rcases H with ⟨c21b0, H⟩ | ⟨c21b0, H⟩
       ·
        replace H := zc H
        rcases H with ⟨c22b0, H⟩ | ⟨c22b0, H⟩
        ·
         replace H := zs H
         obtain ⟨t501, A23, H⟩ := H
         have H' := Aside0.mk H
         clear H
         obtain ⟨p497, q497, ad497, A497_3, c497_3, e497, hx497_0, hx497_1, hx497_2, hx497_3, hx497_4, hl497_3, hi497_3⟩ := zx (at_T91 HR1.out x8_1)
         cases e497
         replace hx497_0 := zh HB hx497_0
         replace hx497_1 := zh HB hx497_1
         replace hx497_2 := zh HB hx497_2
         replace hx497_3 := zh HB hx497_3
         replace hx497_4 := zh HB hx497_4
         have HR497_3 := Aside0.mk hi497_3
         have HC497_3 := Aside0.mk hl497_3
         clear hi497_3 hl497_3
         have ⟨_, _, _, _, _, _, _, _, _, _, _, _, _, _, _, _, _, _, _, _⟩ := cz10 BK491
         obtain ⟨p498, q498, ad498, A498_3, c498_3, e498, hx498_0, hx498_1, hx498_2, hx498_3, hx498_4, hl498_3, hi498_3⟩ := zx (at_T91 HR1.out x8_1)
         obtain rfl : ad497 = ad498 := (by injection e498)
         replace hx498_0 := zh HB hx498_0
         replace hx498_1 := zh HB hx498_1
         replace hx498_2 := zh HB hx498_2
         replace hx498_3 := zh HB hx498_3
         replace hx498_4 := zh HB hx498_4
         have HR498_3 := Aside0.mk hi498_3
         have HC498_3 := Aside0.mk hl498_3
         clear hi498_3 hl498_3
         have ea_ := Option.some.inj (hx497_3.symm.trans hx498_3)
         injection ea_ with ea_ en_ ec_
         subst ea_
         subst ec_
         clear en_
         obtain ⟨p499, q499, ad499, A499_3, c499_3, e499, hx499_0, hx499_1, hx499_2, hx499_3, hx499_4, hl499_3, hi499_3⟩ := zx (at_T91 HR1.out x8_1)
         obtain rfl : ad497 = ad499 := (by injection e499)
         replace hx499_0 := zh HB hx499_0
         replace hx499_1 := zh HB hx499_1
         replace hx499_2 := zh HB hx499_2
         replace hx499_3 := zh HB hx499_3
         replace hx499_4 := zh HB hx499_4
         have HR499_3 := Aside0.mk hi499_3
         have HC499_3 := Aside0.mk hl499_3
         clear hi499_3 hl499_3
         have ea_ := Option.some.inj (hx497_3.symm.trans hx499_3)
         injection ea_ with ea_ en_ ec_
         subst ea_
         subst ec_
         clear en_
         obtain ⟨p500, q500, ad500, A500_3, c500_3, e500, hx500_0, hx500_1, hx500_2, hx500_3, hx500_4, hl500_3, hi500_3⟩ := zx (at_T91 HR1.out x8_1)
         obtain rfl : ad497 = ad500 := (by injection e500)
         replace hx500_0 := zh HB hx500_0
         replace hx500_1 := zh HB hx500_1
         replace hx500_2 := zh HB hx500_2
         replace hx500_3 := zh HB hx500_3
         replace hx500_4 := zh HB hx500_4
         have HR500_3 := Aside0.mk hi500_3
         have HC500_3 := Aside0.mk hl500_3
         clear hi500_3 hl500_3
         have ea_ := Option.some.inj (hx497_3.symm.trans hx500_3)
         injection ea_ with ea_ en_ ec_
         subst ea_
         subst ec_
         clear en_
         obtain ⟨Ao25, co25, eo25⟩ := Kd.R_slice HO_7.out
         subst eo25
         go_wp2_with (first | (go_at_call 57; (with_reducible refine (spec_l9Put.calls kj6 _ _ x7_1 ((rd_T91 l1 x8_1).f1) t501 _ ?side1 ?side2 A23.out).mono ?_); (case side1 => repeat (first | exact (Kd.R_reads' HO_7.out).2.2 | (with_reducible refine Kd.C_alloc ?_ _) | (with_reducible refine Kd.C_drewN ?_ _) | (with_reducible refine Kd.C_drew ?_))); (case side2 => exact (Kd.R_reads' HO_7.out).2.1); rintro e w26 ⟨v502, rfl, ho0, hb⟩; have HO503 := Aside0.mk (Kd.R_lower (Kd.R_new' ho0 (Kd.R_lt (kr HO_7))) bsz); replace HO_7 := Aside0.mk (Kd.R_elder' (kr HO_7) (Kd.R_base ho0) hb); replace BK491 := zk BK491 hb; replace HB := zB hb))
         repeat (go_quiet (first | (go_at_call 57; (with_reducible refine (spec_l9Put.calls kj6 _ _ x7_1 ((rd_T91 l1 x8_1).f1) t501 _ ?side1 ?side2 A23.out).mono ?_); (case side1 => repeat (first | exact (Kd.R_reads' HO_7.out).2.2 | (with_reducible refine Kd.C_alloc ?_ _) | (with_reducible refine Kd.C_drewN ?_ _) | (with_reducible refine Kd.C_drew ?_))); (case side2 => exact (Kd.R_reads' HO_7.out).2.1); rintro e w26 ⟨v502, rfl, ho0, hb⟩; have HO503 := Aside0.mk (Kd.R_lower (Kd.R_new' ho0 (Kd.R_lt (kr HO_7))) bsz); replace HO_7 := Aside0.mk (Kd.R_elder' (kr HO_7) (Kd.R_base ho0) hb); replace BK491 := zk BK491 hb; replace HB := zB hb)); try go_wp2_with (first | (go_at_call 57; (with_reducible refine (spec_l9Put.calls kj6 _ _ x7_1 ((rd_T91 l1 x8_1).f1) t501 _ ?side1 ?side2 A23.out).mono ?_); (case side1 => repeat (first | exact (Kd.R_reads' HO_7.out).2.2 | (with_reducible refine Kd.C_alloc ?_ _) | (with_reducible refine Kd.C_drewN ?_ _) | (with_reducible refine Kd.C_drew ?_))); (case side2 => exact (Kd.R_reads' HO_7.out).2.1); rintro e w26 ⟨v502, rfl, ho0, hb⟩; have HO503 := Aside0.mk (Kd.R_lower (Kd.R_new' ho0 (Kd.R_lt (kr HO_7))) bsz); replace HO_7 := Aside0.mk (Kd.R_elder' (kr HO_7) (Kd.R_base ho0) hb); replace BK491 := zk BK491 hb; replace HB := zB hb)))
         go_roundg kj6
         case measure => have := HK1.out; have := HJ6.out; omega
         case rel => exact ⟨(t501), (wrap64 (x8_1 + 1)), rf, H', ⟨by have := HK1.out; have := HJ6.out; omega⟩, ⟨by (with_reducible repeat (first | apply Kd.R_alloc | apply Kd.R_drewN | apply Kd.R_drew)); exact Kd.R_mono HO503.out (fun _ hk => trivial)⟩, ⟨bk BK491⟩, ⟨bel⟩⟩
        ·
         have H' := Aside0.mk H
         clear H
         obtain ⟨p497, q497, ad497, A497_3, c497_3, e497, hx497_0, hx497_1, hx497_2, hx497_3, hx497_4, hl497_3, hi497_3⟩ := zx (at_T91 HR1.out x8_1)
         cases e497
         replace hx497_0 := zh HB hx497_0
         replace hx497_1 := zh HB hx497_1
         replace hx497_2 := zh HB hx497_2
         replace hx497_3 := zh HB hx497_3
         replace hx497_4 := zh HB hx497_4
         have HR497_3 := Aside0.mk hi497_3
         have HC497_3 := Aside0.mk hl497_3
         clear hi497_3 hl497_3
         have ⟨_, _, _, _, _, _, _, _, _, _, _, _, _, _, _, _, _, _, _, _⟩ := cz10 BK491
         obtain ⟨p498, q498, ad498, A498_3, c498_3, e498, hx498_0, hx498_1, hx498_2, hx498_3, hx498_4, hl498_3, hi498_3⟩ := zx (at_T91 HR1.out x8_1)
         obtain rfl : ad497 = ad498 := (by injection e498)
         replace hx498_0 := zh HB hx498_0
         replace hx498_1 := zh HB hx498_1
         replace hx498_2 := zh HB hx498_2
         replace hx498_3 := zh HB hx498_3
         replace hx498_4 := zh HB hx498_4
         have HR498_3 := Aside0.mk hi498_3
         have HC498_3 := Aside0.mk hl498_3
         clear hi498_3 hl498_3
         have ea_ := Option.some.inj (hx497_3.symm.trans hx498_3)
         injection ea_ with ea_ en_ ec_
         subst ea_
         subst ec_
         clear en_
         obtain ⟨p499, q499, ad499, A499_3, c499_3, e499, hx499_0, hx499_1, hx499_2, hx499_3, hx499_4, hl499_3, hi499_3⟩ := zx (at_T91 HR1.out x8_1)
         obtain rfl : ad497 = ad499 := (by injection e499)
         replace hx499_0 := zh HB hx499_0
         replace hx499_1 := zh HB hx499_1
         replace hx499_2 := zh HB hx499_2
         replace hx499_3 := zh HB hx499_3
         replace hx499_4 := zh HB hx499_4
         have HR499_3 := Aside0.mk hi499_3
         have HC499_3 := Aside0.mk hl499_3
         clear hi499_3 hl499_3
         have ea_ := Option.some.inj (hx497_3.symm.trans hx499_3)
         injection ea_ with ea_ en_ ec_
         subst ea_
         subst ec_
         clear en_
         go_wp2
         repeat (go_quiet (fail); try go_wp2)
         go_roundg kj6
         case measure => have := HK1.out; have := HJ6.out; omega
         case rel => exact ⟨(x7_1), (wrap64 (x8_1 + 1)), rf, H', ⟨by have := HK1.out; have := HJ6.out; omega⟩, ⟨kr HO_7⟩, ⟨bk BK491⟩, ⟨bel⟩⟩
       ·
        have H' := Aside0.mk H
        clear H
        obtain ⟨p497, q497, ad497, A497_3, c497_3, e497, hx497_0, hx497_1, hx497_2, hx497_3, hx497_4, hl497_3, hi497_3⟩ := zx (at_T91 HR1.out x8_1)
        cases e497
        replace hx497_0 := zh HB hx497_0
        replace hx497_1 := zh HB hx497_1
        replace hx497_2 := zh HB hx497_2
        replace hx497_3 := zh HB hx497_3
        replace hx497_4 := zh HB hx497_4
        have HR497_3 := Aside0.mk hi497_3
        have HC497_3 := Aside0.mk hl497_3
        clear hi497_3 hl497_3
        have ⟨_, _, _, _, _, _, _, _, _, _, _, _, _, _, _, _, _, _, _, _⟩ := cz10 BK491
        obtain ⟨p498, q498, ad498, A498_3, c498_3, e498, hx498_0, hx498_1, hx498_2, hx498_3, hx498_4, hl498_3, hi498_3⟩ := zx (at_T91 HR1.out x8_1)
        obtain rfl : ad497 = ad498 := (by injection e498)
        replace hx498_0 := zh HB hx498_0
        replace hx498_1 := zh HB hx498_1
        replace hx498_2 := zh HB hx498_2
        replace hx498_3 := zh HB hx498_3
        replace hx498_4 := zh HB hx498_4
        have HR498_3 := Aside0.mk hi498_3
        have HC498_3 := Aside0.mk hl498_3
        clear hi498_3 hl498_3
        have ea_ := Option.some.inj (hx497_3.symm.trans hx498_3)
        injection ea_ with ea_ en_ ec_
        subst ea_
        subst ec_
        clear en_
        go_wp2
        repeat (go_quiet (fail); try go_wp2)
        go_roundg kj6
        case measure => have := HK1.out; have := HJ6.out; omega
        case rel => exact ⟨(x7_1), (wrap64 (x8_1 + 1)), rf, H', ⟨by have := HK1.out; have := HJ6.out; omega⟩, ⟨kr HO_7⟩, ⟨bk BK491⟩, ⟨bel⟩⟩
      ·
       rw [if_neg c20] at H
       have c20b0 : (((rd_T91 l1 x8_1).f0) == a0_0) = false := beq_eq_false_iff_ne.mpr c20
       have c20b1 : (((rd_T91 l1 x8_1).f0) != a0_0) = true := bne_iff_ne.mpr c20
       have H' := Aside0.mk H
       clear H
       obtain ⟨p497, q497, ad497, A497_3, c497_3, e497, hx497_0, hx497_1, hx497_2, hx497_3, hx497_4, hl497_3, hi497_3⟩ := zx (at_T91 HR1.out x8_1)
       cases e497
       replace hx497_0 := zh HB hx497_0
       replace hx497_1 := zh HB hx497_1
       replace hx497_2 := zh HB hx497_2
       replace hx497_3 := zh HB hx497_3
       replace hx497_4 := zh HB hx497_4
       have HR497_3 := Aside0.mk hi497_3
       have HC497_3 := Aside0.mk hl497_3
       clear hi497_3 hl497_3
       have ⟨_, _, _, _, _, _, _, _, _, _, _, _, _, _, _, _, _, _, _, _⟩ := cz10 BK491
       go_wp2
       repeat (go_quiet (fail); try go_wp2)
       go_roundg kj6
       case measure => have := HK1.out; have := HJ6.out; omega
       case rel => exact ⟨(x7_1), (wrap64 (x8_1 + 1)), rf, H', ⟨by have := HK1.out; have := HJ6.out; omega⟩, ⟨kr HO_7⟩, ⟨bk BK491⟩, ⟨bel⟩⟩
     ·
      obtain rfl := Option.some.inj H
      go_wp2
      repeat (go_quiet (fail); try go_wp2)
      go_ret
      exact ⟨_, er, kr HO_7, bel⟩

/-! ### laws_toCorrection: function 58 -/
def laws_toCorrection.f (k : Nat) (a b c : Int) (d : List (S152)) (e : Int) : Option (Int × Int × Int × (List (S121)) × Int) := (laws_toClue.f k c d).bind fun f => (some (a, b, f.1, f.2, e))
set_option maxHeartbeats 8000000 in
set_option maxRecDepth 100000 in
theorem laws_toCorrection.calls (k : Nat) (a0_0 a0_1 a0_2 : Int) (A0_3 : Option Addr) (c0_3 : Nat) (l0_3 : List (S152)) (a0_4 r1 : Int) (r2 r3 : Int) (r4 : List (S121)) (r5 : Int) (w : World) (hr0_3 : Kd.C k152 w A0_3 l0_3.length l0_3) (hc0_3 : l0_3.length ≤ c0_3) (H : laws_toCorrection.f k a0_0 a0_1 a0_2 l0_3 a0_4 = some (r1, r2, r3, r4, r5)) :
  Calls Tryz.prog 58 #[.agg #[.int .i64 a0_0, .int .i64 a0_1, .int .i64 a0_2, .slice A0_3 l0_3.length c0_3, .int .i64 a0_4]] w fun e w' => ∃ v3_ : Value, e = .returned (.agg #[.int .i64 r1, .int .i64 r2, .int .i64 r3, v3_, .int .i64 r5]) ∧ Kd.R k121 121 w' w.heap.size (fun _ => True) v3_ r4 ∧ Below w.heap.size w w' := by
 have hu85 := Tryz.underlying85
 have hu91 := Tryz.underlying91
 have hu83 := Tryz.underlying83
 have hu89 := Tryz.underlying89
 have HR0_3 := Aside0.mk hr0_3
 have HC0_3 := Aside0.mk hc0_3
 clear hr0_3 hc0_3
 have HB := Aside0.mk (Below.refl w.heap.size w)
 unfold laws_toCorrection.f at H
 replace H := Option.bind_eq_some_iff.mp H
 obtain ⟨⟨t507, t508⟩, A20, H⟩ := H
 replace H : (some (a0_0, a0_1, t507, t508, a0_4)) = some (r1, r2, r3, r4, r5) := H
 have A2 := Aside0.mk A20
 clear A20
 simp only [Option.some.injEq, Prod.mk.injEq] at H
 obtain ⟨rfl, rfl, rfl, rfl, rfl⟩ := H
 go_enter Tryz.func58, Tryz.ntmps58
 go_wp2_with (first | ((with_reducible refine zd 1 rfl ?_); refine zbx (w := w) #[.int .i64 a0_0, .int .i64 a0_1, .int .i64 a0_2, .slice A0_3 l0_3.length c0_3, .int .i64 a0_4] 85 ?_; intro gb504 hg w3 BK504 hb; have GW504 := zg (w := w) hg; replace HB := zB hb; clear hb hg) | ((with_reducible refine zd 2 rfl ?_); refine zbx (w := w) #[.int .i64 0, .int .i64 0, .int .i64 0, .slice none 0 0, .int .i64 0] 91 ?_; intro gb505 hg w4 BK505 hb; have GW505 := zg (w := w) hg; replace HB := zB hb; have NB504_505 := zn hg BK504; have NB505_504 := zm hg BK504; replace BK504 := zk BK504 hb; clear hb hg) | ((with_reducible refine zd 3 rfl ?_); refine zbx (w := w) #[.int .i64 0, .int .i64 0, .int .i64 0, .slice none 0 0, .int .i64 0] 91 ?_; intro gb506 hg w5 BK506 hb; have GW506 := zg (w := w) hg; replace HB := zB hb; have NB504_506 := zn hg BK504; have NB506_504 := zm hg BK504; replace BK504 := zk BK504 hb; have NB505_506 := zn hg BK505; have NB506_505 := zm hg BK505; replace BK505 := zk BK505 hb; clear hb hg; have hnb6 := NB504_505.out; have hnc6 := NB505_504.out; have hnb7 := NB504_506.out; have hnc7 := NB506_504.out; have ⟨_, _, _, _, _, _, _, _, _, _⟩ := cz5 BK504; have hnb9 := NB506_505.out; have hnc9 := NB505_506.out; have ⟨_, _, _, _, _, _, _, _, _, _⟩ := cz5 BK506) | ((with_reducible refine zd 12 rfl ?_); refine zgl Tryz.func94 (laws_toClue.calls k a0_2 _ _ l0_3 t507 t508 _ (Kd.C_below HR0_3.out bel) HC0_3.out A2.out) ?_; rintro e w11 ⟨v509, rfl, ho0, hb⟩; refine ⟨_, rfl, ?_⟩; have HO510 := zl2 ho0; replace BK504 := zkf BK504 hb; replace BK505 := zkf BK505 hb; replace BK506 := zkf BK506 hb; replace HB := zB hb; have ⟨_, _, _, _, _, _, _, _, _, _⟩ := cz5 BK506; obtain ⟨Ao13, co13, eo13⟩ := Kd.R_slice HO510.out; subst eo13; have ⟨_, _, _, _, _, _, _, _, _, _⟩ := cz5 BK504; have ⟨_, _, _, _, _, _, _, _, _, _⟩ := cz5 BK505))
 refine bodyPost_ret (results_cell_row rfl _ _ gb505 91 #[.int .i64 a0_0, .int .i64 a0_1, .int .i64 t507, .slice Ao13 t508.length co13, .int .i64 a0_4] (0, 0) _ rfl (by (with_reducible repeat (first | refine blk_drewN ?_ _ | refine blk_drew ?_ | refine blk_alloc ?_ _)); refine blk_put (cs := #[.int .i64 a0_0, .int .i64 a0_1, .int .i64 t507, .slice Ao13 t508.length co13, .int .i64 0]) ?_ 4 _ rfl; (with_reducible repeat (first | refine blk_drewN ?_ _ | refine blk_drew ?_ | refine blk_alloc ?_ _)); refine blk_put (cs := #[.int .i64 a0_0, .int .i64 a0_1, .int .i64 t507, .slice none 0 0, .int .i64 0]) ?_ 3 _ rfl; (with_reducible repeat (first | refine blk_drewN ?_ _ | refine blk_drew ?_ | refine blk_alloc ?_ _)); refine blk_put (cs := #[.int .i64 a0_0, .int .i64 a0_1, .int .i64 0, .slice none 0 0, .int .i64 0]) ?_ 2 _ rfl; (with_reducible repeat (first | refine blk_drewN ?_ _ | refine blk_drew ?_ | refine blk_alloc ?_ _)); refine blk_put (cs := #[.int .i64 a0_0, .int .i64 0, .int .i64 0, .slice none 0 0, .int .i64 0]) ?_ 1 _ rfl; (with_reducible repeat (first | refine blk_drewN ?_ _ | refine blk_drew ?_ | refine blk_alloc ?_ _)); refine blk_put (cs := #[.int .i64 0, .int .i64 0, .int .i64 0, .slice none 0 0, .int .i64 0]) ?_ 0 _ rfl; (with_reducible repeat (first | refine blk_drewN ?_ _ | refine blk_drew ?_ | refine blk_alloc ?_ _)); refine blk_far ?_ NB505_506.out _; (with_reducible repeat (first | refine blk_drewN ?_ _ | refine blk_drew ?_ | refine blk_alloc ?_ _)); refine blk_far ?_ NB505_506.out _; (with_reducible repeat (first | refine blk_drewN ?_ _ | refine blk_drew ?_ | refine blk_alloc ?_ _)); refine blk_far ?_ NB505_506.out _; (with_reducible repeat (first | refine blk_drewN ?_ _ | refine blk_drew ?_ | refine blk_alloc ?_ _)); exact BK505.out) Tryz.underlying91 rfl (by kernel_rfl)) rfl ?_
 exact ⟨_, er, by (with_reducible repeat (first | apply Kd.R_alloc | apply Kd.R_drewN | apply Kd.R_drew)); exact Kd.R_mono (Kd.R_far (p := ⟨gb505, 4, none⟩) (Kd.R_far (p := ⟨gb505, 3, none⟩) (Kd.R_far (p := ⟨gb505, 2, none⟩) (Kd.R_far (p := ⟨gb505, 1, none⟩) (Kd.R_far (p := ⟨gb505, 0, none⟩) (Kd.R_far (p := ⟨gb506, 4, none⟩) (Kd.R_far (p := ⟨gb506, 3, none⟩) (Kd.R_far (p := ⟨gb506, 2, none⟩) (Kd.R_types (Kd.R_types HO510.out BK506.out (by decide)) BK505.out (by decide)) (fun _ hk => hk.1.2) (.int .i64 t507)) (fun _ hk => hk.1.2) (.slice Ao13 t508.length co13)) (fun _ hk => hk.1.2) (.int .i64 a0_4)) (fun _ hk => hk.2) (.int .i64 a0_0)) (fun _ hk => hk.2) (.int .i64 a0_1)) (fun _ hk => hk.2) (.int .i64 t507)) (fun _ hk => hk.2) (.slice Ao13 t508.length co13)) (fun _ hk => hk.2) (.int .i64 a0_4)) (fun _ hk => trivial), bel⟩

/-! ### laws_toCorrectionS: function 25 -/
def laws_toCorrectionS.l0 : Nat → List (S85) → List (S91) → Int → Option ((List (S91)))
 | 0, _, _, _ => none
 | k + 1, a, b, c => if c < (a.length : Int) then (if 0 ≤ c then ((laws_toCorrection.f k ((rd_T85 a c).f0) ((rd_T85 a c).f1) ((rd_T85 a c).f2.f0) ((rd_T85 a c).f2.f1) ((rd_T85 a c).f3)).bind fun d => (if c < (b.length : Int) then (laws_toCorrectionS.l0 k a (b.set (c : Int).toNat (⟨d.1, d.2.1, (⟨d.2.2.1, d.2.2.2.1⟩ : S89), d.2.2.2.2⟩ : S91)) (wrap64 (c + 1))) else (none))) else (none)) else (some b)
def laws_toCorrectionS.f (k : Nat) (a : List (S85)) : Option ((List (S91))) := if 0 ≤ (a.length : Int) then (if ((a.length : Int) : Int).toNat ≤ 5026338869833 then (laws_toCorrectionS.l0 k a (List.replicate ((a.length : Int) : Int).toNat z91) 0) else (none)) else (none)
set_option maxHeartbeats 8000000 in
set_option maxRecDepth 100000 in
theorem laws_toCorrectionS.calls (k : Nat) (A0 : Option Addr) (c0 : Nat) (l0 : List (S85)) (r : List (S91)) (w : World) (hr0 : Kd.C k85 w A0 l0.length l0) (hc0 : l0.length ≤ c0) (H : laws_toCorrectionS.f k l0 = some r) :
  Calls Tryz.prog 25 #[.slice A0 l0.length c0] w fun e w' => ∃ v0_ : Value, e = .returned (v0_) ∧ Kd.S k91 91 w' w.heap.size (fun _ => True) v0_ r ∧ Below w.heap.size w w' := by
 have hu85 := Tryz.underlying85
 have hu91 := Tryz.underlying91
 have HR0 := Aside0.mk hr0
 have HC0 := Aside0.mk hc0
 clear hr0 hc0
 have HB := Aside0.mk (Below.refl w.heap.size w)
 unfold laws_toCorrectionS.f at H
 by_cases c2 : 0 ≤ (l0.length : Int)
 ·
  rw [if_pos c2] at H
  have c2b0 := eq_true c2
  have c2b1 : decide (0 ≤ (l0.length : Int)) = true := decide_eq_true c2
  clear c2
  by_cases c3 : ((l0.length : Int) : Int).toNat ≤ 5026338869833
  ·
   rw [if_pos c3] at H
   have c3b0 := eq_true c3
   have c3b1 : decide (((l0.length : Int) : Int).toNat ≤ 5026338869833) = true := decide_eq_true c3
   clear c3
   generalize hy511 : (List.replicate ((l0.length : Int) : Int).toNat z91 : List (S91)) = y511 at H
   have Ny511 := Aside0.mk hy511.symm
   clear hy511
   have H' := Aside0.mk H
   clear H
   go_enter Tryz.func25, Tryz.ntmps25
   go_wp2_with (first | ((with_reducible refine gate_dst (N := 7) rfl ?_); refine Kd.S_make k91 _ 91 rfl (N := 7) rfl 54 _ _ rfl (l0.length : Int) rfl rfl Tryz.underlying54 (.agg #[(.int .i64 0), (.int .i64 0), (.int .i64 0), (.slice none 0 0), (.int .i64 0)]) 56 info91 rfl (by decide) (by omega) z91 (ok := fun _ => True) (okp := fun _ => True) (k91_mkM _ _ _ z91 (Kd.R_nil _ _ _ _ _)) (fun _ hk => hk) trivial (of_decide_eq_true asm) (Nat.le_trans (Nat.mul_le_mul_right _ (of_decide_eq_true asm : (l0.length : Int).toNat ≤ 5026338869833)) (by omega)) (Below.refl _ _) (Nat.le_refl _) ?_; intro v512 w4 ho5 hb hg_ hnew_; clear hg_ hnew_; (first | rw [← Ny511.out] at ho5 | (simp only [Int.reduceToNat] at ho5; rw [← Ny511.out] at ho5)); have HO513 := Aside0.mk (Kd.S_lower ho5 bsz); replace HB := zB hb; clear hb ho5))
   go_loopg [4] k (fun kq v4 w' => ∃ (x3_1 : List (S91)) (x4_1 : Int), v4 = .int .i64 x4_1 ∧ Aside0 (laws_toCorrectionS.l0 kq l0 x3_1 x4_1 = some r) ∧ Aside0 (kq ≤ k) ∧ Aside0 (Kd.S k91 91 w' w.heap.size (fun _ => True) v512 x3_1) ∧ Aside0 (Below w.heap.size w w'))
   case atStart => exact ⟨(y511), (0), rf, H', ⟨Nat.le_refl _⟩, ⟨ks HO513⟩, ⟨bel⟩⟩
   case round =>
    clear H'
    obtain ⟨x3_1, x4_1, rfl, HA, HK1, HO_3, HB⟩ := hrel
    cases gk with
    | zero => exact absurd HA.out (by simp [laws_toCorrectionS.l0])
    | succ k1 =>
     have H := HA.out
     clear HA
     simp only [laws_toCorrectionS.l0] at H
     replace H := zc H
     rcases H with ⟨c6b0, H⟩ | ⟨c6b0, H⟩
     ·
      replace H := zr H
      obtain ⟨c7b0, H⟩ := H
      replace H := Option.bind_eq_some_iff.mp H
      obtain ⟨⟨t515, t516, t517, t518, t521⟩, A80, H⟩ := H
      have A8 := Aside0.mk A80
      clear A80
      replace H := zr H
      obtain ⟨c9b0, H⟩ := H
      generalize hy522 : (x3_1.set (x4_1 : Int).toNat (⟨t515, t516, (⟨t517, t518⟩ : S89), t521⟩ : S91) : List (S91)) = y522 at H
      have Ny522 := Aside0.mk hy522.symm
      clear hy522
      have H' := Aside0.mk H
      clear H
      obtain ⟨p514, q514, ad514, A514_3, c514_3, e514, hx514_0, hx514_1, hx514_2, hx514_3, hx514_4, hl514_3, hi514_3⟩ := zx (at_T85 HR0.out x4_1)
      cases e514
      replace hx514_0 := zh HB hx514_0
      replace hx514_1 := zh HB hx514_1
      replace hx514_2 := zh HB hx514_2
      replace hx514_3 := zh HB hx514_3
      replace hx514_4 := zh HB hx514_4
      have HR514_3 := Aside0.mk hi514_3
      have HC514_3 := Aside0.mk hl514_3
      clear hi514_3 hl514_3
      go_wp2_with (first | ((with_reducible refine zd 20 rfl ?_); refine zgl Tryz.func58 (laws_toCorrection.calls k1 ((rd_T85 l0 x4_1).f0) ((rd_T85 l0 x4_1).f1) ((rd_T85 l0 x4_1).f2.f0) _ _ ((rd_T85 l0 x4_1).f2.f1) ((rd_T85 l0 x4_1).f3) t515 t516 t517 t518 t521 _ (zC HR514_3) HC514_3.out A8.out) ?_; rintro e w11 ⟨v519, rfl, ho0, hb⟩; refine ⟨_, rfl, ?_⟩; replace HO_3 := Aside0.mk (Kd.S_elder' (ks HO_3) (Kd.R_base ho0) hb); have HO520 := zl2 ho0; replace HB := zB hb; have p10 : 0 ≤ (x4_1 : Int) := of_decide_eq_true asm; have q10 : (x4_1 : Int) < ((x3_1.length : Int) : Int) := of_decide_eq_true asm; obtain ⟨go10, co10, eo10, gb10, gl10, cl10, HG10⟩ := Kd.S_form HO_3.out (by omega); (first | cases eo10 | (injection eo10 with ea_ en_ ec_; (first | subst ea_ | (injection ea_ with ea_; subst ea_)); subst ec_; clear en_)); have GB10 := Aside0.mk gb10; have GG10 := Aside0.mk HG10; clear gb10 gl10 HG10; obtain ⟨_, ce10, hcl10, hM10, hcc10, hfr10, _, _⟩ := Kd.S_elem HO_3.out z91 (x4_1 : Int) p10 q10; obtain ⟨ve10_3, rfl, ge10_3⟩ := k91_openM hM10; have hx10_0 : w11.cell? ⟨go10, (x4_1 : Int).toNat * 5, none⟩ = some (.int .i64 ((rd_T91 x3_1 x4_1).f0)) := hcc10 0 _ rfl; have hx10_1 : w11.cell? ⟨go10, (x4_1 : Int).toNat * 5 + 1, none⟩ = some (.int .i64 ((rd_T91 x3_1 x4_1).f1)) := hcc10 1 _ rfl; have hx10_2 : w11.cell? ⟨go10, (x4_1 : Int).toNat * 5 + 2, none⟩ = some (.int .i64 ((rd_T91 x3_1 x4_1).f2.f0)) := hcc10 2 _ rfl; have hx10_3 : w11.cell? ⟨go10, (x4_1 : Int).toNat * 5 + 3, none⟩ = some (ve10_3) := hcc10 3 _ rfl; have hx10_4 : w11.cell? ⟨go10, (x4_1 : Int).toNat * 5 + 4, none⟩ = some (.int .i64 ((rd_T91 x3_1 x4_1).f3)) := hcc10 4 _ rfl; have hf10_0 : w11.frozen? ⟨go10, (x4_1 : Int).toNat * 5, none⟩ = false := hfr10 0; have hf10_1 : w11.frozen? ⟨go10, (x4_1 : Int).toNat * 5 + 1, none⟩ = false := hfr10 1; have hf10_2 : w11.frozen? ⟨go10, (x4_1 : Int).toNat * 5 + 2, none⟩ = false := hfr10 2; have hf10_3 : w11.frozen? ⟨go10, (x4_1 : Int).toNat * 5 + 3, none⟩ = false := hfr10 3; have hf10_4 : w11.frozen? ⟨go10, (x4_1 : Int).toNat * 5 + 4, none⟩ = false := hfr10 4; clear hcl10 hcc10 hfr10 hM10; replace p10 := eq_true p10; replace q10 := eq_true q10; have n_ := Aside0.mk (Kd.S_mono (ok' := (fun k_ => some k_ ≠ (v519 : Value).ownBlock)) HO_3.out (fun k_ hk => hk.2)); clear HO_3; have HO_3 := n_; clear n_; have HX12 := Aside0.mk (show Kd.S k91 91 w11 w.heap.size (fun k_ => ((fun _ => True)) k_ ∧ ¬ ((fun k_ => some k_ = (v519 : Value).ownBlock)) k_) (.slice (some ⟨go10, 0, none⟩) x3_1.length co10) x3_1 from (by (with_reducible repeat (first | apply Kd.S_alloc | apply Kd.S_drewN | apply Kd.S_drew)); exact Kd.S_mono HO_3.out (fun k_ hk => ⟨trivial, fun e_ => hk e_⟩))); obtain ⟨oki12, ce12, hcl12, hM12, hcc12, hfr12, hoki12, hH12⟩ := Kd.S_elem HX12.out z91 (x4_1 : Int) (of_decide_eq_true asm) (by have h_ : (x4_1 : Int) < ((x3_1.length : Int) : Int) := of_decide_eq_true asm; first | exact h_ | (have e_ := (Kd.S_reads' HO_3.out).1; omega) | simpa using h_); obtain ⟨ve12_3, rfl, ge12_3⟩ := k91_openM hM12; have HP12 := Kd.S_seg hH12 (of_decide_eq_true asm) (by have h_ : (x4_1 : Int) < ((x3_1.length : Int) : Int) := of_decide_eq_true asm; first | exact h_ | (have e_ := (Kd.S_reads' HO_3.out).1; omega) | simpa using h_) (seg := [.int .i64 t515, .int .i64 t516, .int .i64 t517, v519, .int .i64 t521]) (j := 0) (show 5 ≤ 5 from by decide) (x' := (⟨t515, t516, (⟨t517, t518⟩ : S89), t521⟩ : S91)) (k91_mkM _ _ _ (⟨t515, t516, (⟨t517, t518⟩ : S89), t521⟩ : S91) (Kd.R_mono (Kd.R_tight rfl (Kd.R_mono (ok' := fun k_ => ((fun _ => True)) k_ ∧ k_ ≠ go10) (Kd.R_apart' (HO520.out) (Kd.S_typed HO_3.out) (by decide)) (fun k_ hk => ⟨trivial, fun e_ => (hk.2) (by rw [e_]; rfl)⟩))) (fun _ h_ => Or.inr (h_)))) (fun _ hk => hk) (fun k_ hk_ => ((Kd.R_mono (ok' := fun k_ => ((fun _ => True)) k_ ∧ k_ ≠ go10) (Kd.R_apart' (HO520.out) (Kd.S_typed HO_3.out) (by decide)) (fun k_ hk => ⟨trivial, fun e_ => (hk.2) (by rw [e_]; rfl)⟩))).1 k_ hk_.symm); have hx12_0 := hcc12 0 _ rfl; (try simp only [show (k91).sz = 5 from rfl, Nat.mul_one, Nat.add_zero] at hx12_0); have hf12_0 := hfr12 0; (try simp only [show (k91).sz = 5 from rfl, Nat.mul_one, Nat.add_zero] at hf12_0); have hx12_1 := hcc12 1 _ rfl; (try simp only [show (k91).sz = 5 from rfl, Nat.mul_one, Nat.add_zero] at hx12_1); have hf12_1 := hfr12 1; (try simp only [show (k91).sz = 5 from rfl, Nat.mul_one, Nat.add_zero] at hf12_1); have hx12_2 := hcc12 2 _ rfl; (try simp only [show (k91).sz = 5 from rfl, Nat.mul_one, Nat.add_zero] at hx12_2); have hf12_2 := hfr12 2; (try simp only [show (k91).sz = 5 from rfl, Nat.mul_one, Nat.add_zero] at hf12_2); have hx12_3 := hcc12 3 _ rfl; (try simp only [show (k91).sz = 5 from rfl, Nat.mul_one, Nat.add_zero] at hx12_3); have hf12_3 := hfr12 3; (try simp only [show (k91).sz = 5 from rfl, Nat.mul_one, Nat.add_zero] at hf12_3); have hx12_4 := hcc12 4 _ rfl; (try simp only [show (k91).sz = 5 from rfl, Nat.mul_one, Nat.add_zero] at hx12_4); have hf12_4 := hfr12 4; (try simp only [show (k91).sz = 5 from rfl, Nat.mul_one, Nat.add_zero] at hf12_4); obtain ⟨aov519_, cov519_, eov519_⟩ := Kd.R_slice HO520.out; clear hcl12 hcc12 hfr12 hM12 hoki12 hH12) | ((with_reducible refine gate_store (t := 91) (p := 21) rfl ?_); refine store_event (t := 91) (p := 21) (v := ?vo_w13) (w1 := (((((w11.setCell ⟨go10, (x4_1 : Int).toNat * 5, none⟩ (.int .i64 t515)).setCell ⟨go10, (x4_1 : Int).toNat * 5 + 1, none⟩ (.int .i64 t516)).setCell ⟨go10, (x4_1 : Int).toNat * 5 + 2, none⟩ (.int .i64 t517)).setCell ⟨go10, (x4_1 : Int).toNat * 5 + 3, none⟩ (v519)).setCell ⟨go10, (x4_1 : Int).toNat * 5 + 4, none⟩ (.int .i64 t521))) ?hg ?ho ?hn ?hr ?_; (case ho => rfl); (case hg => rfl); (case hn => rfl); (case hr => first | (go_simp; done) | (go_simp; rfl)); intro w13 hw; have hg : w11.grownBy w13 (some go10) := (by rw [hw]; exact HP12.2); have hp_ : Kd.S k91 91 w13 w.heap.size (fun _ => True) (.slice (some ⟨go10, 0, none⟩) x3_1.length co10) y522 := (by rw [hw, Ny522.out]; exact HP12.1); clear HP12; replace HO_3 := Aside0.mk hp_; replace HB := Aside0.mk ((by rw [hw]; exact below_set (below_set (below_set (below_set (below_set (HB.out) GB10.out) GB10.out) GB10.out) GB10.out) GB10.out : Below w.heap.size w w13)); clear HO520; clear hg hw hp_))
      go_roundg k1
      case measure => have := HK1.out; omega
      case rel => exact ⟨(y522), (wrap64 (x4_1 + 1)), rf, H', ⟨by have := HK1.out; omega⟩, ⟨ks HO_3⟩, ⟨bel⟩⟩
     ·
      obtain rfl := Option.some.inj H
      go_wp2
      go_ret
      exact ⟨_, er, ks HO_3, bel⟩
  ·
   rw [if_neg c3] at H
   exact absurd H (by simp)
 ·
  rw [if_neg c2] at H
  exact absurd H (by simp)

/-! ### impl_InRange: function 47 -/
def impl_InRange.f (a b c : Int) : Option (Bool) := if b ≤ a then (some (decide (a ≤ c))) else (some false)
set_option maxHeartbeats 8000000 in
set_option maxRecDepth 100000 in
theorem impl_InRange.calls (a0 a1 a2 : Int) (r : Bool) (w : World) (H : impl_InRange.f a0 a1 a2 = some r) :
  Calls Tryz.prog 47 #[.int .i64 a0, .int .i64 a1, .int .i64 a2] w fun e w' => e = .returned (.bool r) ∧ Drawn0 w w' := by
 unfold impl_InRange.f at H
 replace H := zc H
 rcases H with ⟨c4b0, H⟩ | ⟨c4b0, H⟩
 rotate_left
 focus
  obtain rfl := Option.some.inj H
 rotate_right
 focus
  obtain rfl := Option.some.inj H
 all_goals
  go_enter Tryz.func47, Tryz.ntmps47
  go_wp2
  go_ret
  exact ⟨by first | rfl | (simp; done) | (simp [*]; done), by repeat (first | exact Drawn0.refl _ | apply Drawn0.step)⟩

/-! ### impl_IsGrid: function 85 -/
mutual
def impl_IsGrid.j0 : Nat → Bool → Int → Int → ByteArray → Option (Bool)
 | 0, _, _, _, _ => none
 | k + 1, a, b, c, d => if a = true then (some false) else (impl_IsGrid.l0 k (d.size : Int) 0 b c d)
def impl_IsGrid.l0 : Nat → Int → Int → Int → Int → ByteArray → Option (Bool)
 | 0, _, _, _, _, _ => none
 | k + 1, a, b, c, d, e => if b < a then (if 0 ≤ b then (if b < (e.size : Int) then (if (bt e b) = 35 then (impl_IsGrid.l0 k a (wrap64 (b + 1)) c d e) else (if (bt e b) = 46 then (impl_IsGrid.l0 k a (wrap64 (b + 1)) c d e) else (some false))) else (none)) else (none)) else (some true)
end
def impl_IsGrid.f (k : Nat) (a b : Int) (c : ByteArray) : Option (Bool) := (impl_InRange.f a 2 6).bind fun d => (if d = true then ((impl_InRange.f b 2 6).bind fun e => (if e = true then (impl_IsGrid.j0 k ((c.size : Int) != (wrap64 (a * b))) a b c) else (impl_IsGrid.j0 k true a b c))) else (impl_IsGrid.j0 k true a b c))
set_option maxHeartbeats 8000000 in
set_option maxRecDepth 100000 in
theorem impl_IsGrid.calls (k : Nat) (a0_0 a0_1 : Int) (a0_2 : ByteArray) (r : Bool) (w : World) (H : impl_IsGrid.f k a0_0 a0_1 a0_2 = some r) :
  Calls Tryz.prog 85 #[.agg #[.int .i64 a0_0, .int .i64 a0_1, .string a0_2]] w fun e w' => e = .returned (.bool r) ∧ Below w.heap.size w w' := by
 have hu32 := Tryz.underlying32
 have HB := Aside0.mk (Below.refl w.heap.size w)
 unfold impl_IsGrid.f at H
 have HC2 := Aside0.mk H
 clear H
 go_enter Tryz.func85, Tryz.ntmps85
 go_upto_region 1 with (first | ((with_reducible refine zd 1 rfl ?_); (try (refine gate_guard (by rfl) ?_; dsimp only)); refine zbx (w := w) #[.int .i64 a0_0, .int .i64 a0_1, .string a0_2] 32 ?_; intro gb523 hg w3 BK523 hb; have GW523 := zg (w := w) hg; replace HB := zB hb; clear hb hg))
 (try simp only [Act.put, List.setIfInBounds_toArray, List.set_cons_zero, List.set_cons_succ])
 go_cut [24] (fun v24 wc => ∃ (kq : Nat) (x24_1 : Bool), v24 = .bool x24_1 ∧ Aside0 (impl_IsGrid.j0 kq x24_1 a0_0 a0_1 a0_2 = some r) ∧ Aside0 (kq ≤ k) ∧ Aside0 (wc.heap[gb523]? = some (.cells #[.int .i64 a0_0, .int .i64 a0_1, .string a0_2] 32 (0, 0))) ∧ Aside0 (Below w.heap.size w wc))
 case first =>
  have H := HC2.out
  clear HC2
  replace H := zs H
  obtain ⟨t524, A4, H⟩ := H
  replace H := zb H
  rcases H with ⟨rfl, H⟩ | ⟨rfl, H⟩
  ·
   replace H := zs H
   obtain ⟨t525, A6, H⟩ := H
   replace H := zb H
   rcases H with ⟨rfl, H⟩ | ⟨rfl, H⟩
   ·
    have H' := Aside0.mk H
    clear H
    have ⟨_, _, _, _, _, _⟩ := cz3 BK523
    go_wp2_with (first | ((with_reducible refine zd 6 rfl ?_); refine zgl Tryz.func47 (impl_InRange.calls a0_0 2 6 true _ A4.out) ?_; rintro e w' ⟨rfl, ⟨nd, rfl⟩⟩; refine ⟨_, rfl, ?_⟩) | (go_at_call 47; (with_reducible refine (impl_InRange.calls a0_1 2 6 true _ A6.out).mono ?_); rintro e w' ⟨rfl, ⟨nd, rfl⟩⟩))
    go_meet
    case rel => exact ⟨_, (((a0_2.size : Int) != (wrap64 (a0_0 * a0_1)))), rf, H', ⟨by first | omega | exact Nat.le_refl _⟩, ⟨bk BK523⟩, ⟨bel⟩⟩
   ·
    have H' := Aside0.mk H
    clear H
    have ⟨_, _, _, _, _, _⟩ := cz3 BK523
    go_wp2_with (first | ((with_reducible refine zd 6 rfl ?_); refine zgl Tryz.func47 (impl_InRange.calls a0_0 2 6 true _ A4.out) ?_; rintro e w' ⟨rfl, ⟨nd, rfl⟩⟩; refine ⟨_, rfl, ?_⟩) | (go_at_call 47; (with_reducible refine (impl_InRange.calls a0_1 2 6 false _ A6.out).mono ?_); rintro e w' ⟨rfl, ⟨nd, rfl⟩⟩))
    go_meet
    case rel => exact ⟨_, (true), rf, H', ⟨by first | omega | exact Nat.le_refl _⟩, ⟨bk BK523⟩, ⟨bel⟩⟩
  ·
   have H' := Aside0.mk H
   clear H
   have ⟨_, _, _, _, _, _⟩ := cz3 BK523
   go_wp2_with (first | ((with_reducible refine zd 6 rfl ?_); refine zgl Tryz.func47 (impl_InRange.calls a0_0 2 6 false _ A4.out) ?_; rintro e w' ⟨rfl, ⟨nd, rfl⟩⟩; refine ⟨_, rfl, ?_⟩))
   go_meet
   case rel => exact ⟨_, (true), rf, H', ⟨by first | omega | exact Nat.le_refl _⟩, ⟨bk BK523⟩, ⟨bel⟩⟩
 case rest =>
  clear HC2
  obtain ⟨kq, x24_1, rfl, HA, HJ1, BK523, HB⟩ := hcut
  cases kq with
  | zero => exact absurd HA.out (by simp [impl_IsGrid.j0])
  | succ kj1 =>
   have H := HA.out
   clear HA
   simp only [impl_IsGrid.j0] at H
   replace H := zb H
   rcases H with ⟨rfl, H⟩ | ⟨rfl, H⟩
   ·
    obtain rfl := Option.some.inj H
    go_wp2
    go_ret
    exact ⟨er, bel⟩
   ·
    have H' := Aside0.mk H
    clear H
    have ⟨_, _, _, _, _, _⟩ := cz3 BK523
    go_wp2
    go_loopg [28] kj1 (fun kq v28 w' => ∃ (x28_2 : Int), v28 = .int .i64 x28_2 ∧ Aside0 (impl_IsGrid.l0 kq (a0_2.size : Int) x28_2 a0_0 a0_1 a0_2 = some r) ∧ Aside0 (kq ≤ kj1) ∧ Aside0 (w'.heap[gb523]? = some (.cells #[.int .i64 a0_0, .int .i64 a0_1, .string a0_2] 32 (0, 0))) ∧ Aside0 (Below w.heap.size w w'))
    case atStart => exact ⟨(0), rf, H', ⟨Nat.le_refl _⟩, ⟨bk BK523⟩, ⟨bel⟩⟩
    case round =>
     clear H'
     obtain ⟨x28_2, rfl, HA, HK2, BK523, HB⟩ := hrel
     cases gk with
     | zero => exact absurd HA.out (by simp [impl_IsGrid.l0])
     | succ k2 =>
      have H := HA.out
      clear HA
      simp only [impl_IsGrid.l0] at H
      replace H := zc H
      rcases H with ⟨c13b0, H⟩ | ⟨c13b0, H⟩
      ·
       replace H := zr H
       obtain ⟨c14b0, H⟩ := H
       replace H := zr H
       obtain ⟨c15b0, H⟩ := H
       by_cases c17 : (bt a0_2 x28_2) = 35
       ·
        rw [if_pos c17] at H
        have c17b0 : ((bt a0_2 x28_2) == 35) = true := beq_iff_eq.mpr c17
        have c17b1 : ((bt a0_2 x28_2) != 35) = false := bne_eq_false_iff_eq.mpr c17
        clear c17
        have H' := Aside0.mk H
        clear H
        have ⟨_, _, _, _, _, _⟩ := cz3 BK523
        obtain ⟨p16, q16, hx16⟩ := zxb a0_2 x28_2
        go_wp2
        go_roundg k2
        case measure => have := HJ1.out; have := HK2.out; omega
        case rel => exact ⟨(wrap64 (x28_2 + 1)), rf, H', ⟨by have := HJ1.out; have := HK2.out; omega⟩, ⟨bk BK523⟩, ⟨bel⟩⟩
       ·
        rw [if_neg c17] at H
        have c17b0 : ((bt a0_2 x28_2) == 35) = false := beq_eq_false_iff_ne.mpr c17
        have c17b1 : ((bt a0_2 x28_2) != 35) = true := bne_iff_ne.mpr c17
        by_cases c20 : (bt a0_2 x28_2) = 46
        ·
         rw [if_pos c20] at H
         have c20b0 : ((bt a0_2 x28_2) == 46) = true := beq_iff_eq.mpr c20
         have c20b1 : ((bt a0_2 x28_2) != 46) = false := bne_eq_false_iff_eq.mpr c20
         clear c20
         have H' := Aside0.mk H
         clear H
         have ⟨_, _, _, _, _, _⟩ := cz3 BK523
         obtain ⟨p16, q16, hx16⟩ := zxb a0_2 x28_2
         obtain ⟨p19, q19, hx19⟩ := zxb a0_2 x28_2
         go_wp2
         go_roundg k2
         case measure => have := HJ1.out; have := HK2.out; omega
         case rel => exact ⟨(wrap64 (x28_2 + 1)), rf, H', ⟨by have := HJ1.out; have := HK2.out; omega⟩, ⟨bk BK523⟩, ⟨bel⟩⟩
        ·
         rw [if_neg c20] at H
         have c20b0 : ((bt a0_2 x28_2) == 46) = false := beq_eq_false_iff_ne.mpr c20
         have c20b1 : ((bt a0_2 x28_2) != 46) = true := bne_iff_ne.mpr c20
         obtain rfl := Option.some.inj H
         have ⟨_, _, _, _, _, _⟩ := cz3 BK523
         obtain ⟨p16, q16, hx16⟩ := zxb a0_2 x28_2
         obtain ⟨p19, q19, hx19⟩ := zxb a0_2 x28_2
         go_wp2
         go_ret
         exact ⟨er, bel⟩
      ·
       obtain rfl := Option.some.inj H
       go_wp2
       go_ret
       exact ⟨er, bel⟩

/-! ### impl_isLetter: function 86 -/
def impl_isLetter.f (a : Int) : Option (Bool) := if a ≥ 97 then (some (decide (a ≤ 122))) else (some false)
set_option maxHeartbeats 8000000 in
set_option maxRecDepth 100000 in
theorem impl_isLetter.calls (a0 : Int) (r : Bool) (w : World) (H : impl_isLetter.f a0 = some r) :
  Calls Tryz.prog 86 #[.int .u8 a0] w fun e w' => e = .returned (.bool r) ∧ Drawn0 w w' := by
 unfold impl_isLetter.f at H
 replace H := zc H
 rcases H with ⟨c2b0, H⟩ | ⟨c2b0, H⟩
 rotate_left
 focus
  obtain rfl := Option.some.inj H
 rotate_right
 focus
  obtain rfl := Option.some.inj H
 all_goals
  go_enter Tryz.func86, Tryz.ntmps86
  go_wp2
  go_ret
  exact ⟨by first | rfl | (simp; done) | (simp [*]; done), by repeat (first | exact Drawn0.refl _ | apply Drawn0.step)⟩

end Go.Proofs.YtpcdfjcbjbkliaaGreat.E
