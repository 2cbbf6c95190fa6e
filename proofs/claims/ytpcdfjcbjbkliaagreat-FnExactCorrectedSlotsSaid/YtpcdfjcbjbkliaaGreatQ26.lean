import Derived.Test.YtpcdfjcbjbkliaaGreatSq
import Derived.Test.YtpcdfjcbjbkliaaGreatQ0
import Derived.Test.YtpcdfjcbjbkliaaGreatQ4
import Derived.Test.YtpcdfjcbjbkliaaGreatQ24
import Derived.Test.YtpcdfjcbjbkliaaGreatQ25
namespace Go.Proofs.YtpcdfjcbjbkliaaGreat.E
open Go.RowKit Go.Proofs.YtpcdfjcbjbkliaaGreatW.PrintWords Go.Proofs.YtpcdfjcbjbkliaaGreatW.PrintLast Go.Proofs.YtpcdfjcbjbkliaaGreatW.PrintMore
attribute [local go_sem] max2_int min2_int max_two min_two max_three min_three max_four min_four
set_option linter.unusedVariables false
set_option linter.unusedSimpArgs false

/-! ### impl_correctedAt: function 59 -/
mutual
def impl_correctedAt.j0 : Nat → List (S91) → Int → Bool → Int → Int → Int → ByteArray → List (S89) → List Int → Int → ByteArray → Int → Int → Option (List Int)
 | 0, _, _, _, _, _, _, _, _, _, _, _, _, _ => none
 | k + 1, a, b, c, d, e, f, g, h, i, j, l, m, n => if c = true then (some ([] : List Int)) else (impl_correctedAt.l0 k a b ([] : List Int) (h.length : Int) 0 d e f g h i j l m n)
def impl_correctedAt.l0 : Nat → List (S91) → Int → List Int → Int → Int → Int → Int → Int → ByteArray → List (S89) → List Int → Int → ByteArray → Int → Int → Option (List Int)
 | 0, _, _, _, _, _, _, _, _, _, _, _, _, _, _, _ => none
 | k + 1, a, b, c, d, e, f, g, h, i, j, l, m, n, o, p => if e < d then (impl_correctedAt.l1 k a b c e (-1) d e a (a.length : Int) 0 f g h i j l m n o p) else (some c)
def impl_correctedAt.l1 : Nat → List (S91) → Int → List Int → Int → Int → Int → Int → List (S91) → Int → Int → Int → Int → Int → ByteArray → List (S89) → List Int → Int → ByteArray → Int → Int → Option (List Int)
 | 0, _, _, _, _, _, _, _, _, _, _, _, _, _, _, _, _, _, _, _, _ => none
 | k + 1, a, b, c, d, e, f, g, h, i, j, l, m, n, o, p, q, r, s, t, u => if j < i then (if 0 ≤ j then (if j < (h.length : Int) then (if ((rd_T91 h j).f0) = l then (if ((rd_T91 h j).f1) = d then (if ((rd_T91 h j).f3) ≤ b then (impl_correctedAt.l1 k a b c d j f g h i (wrap64 (j + 1)) l m n o p q r s t u) else (impl_correctedAt.l1 k a b c d e f g h i (wrap64 (j + 1)) l m n o p q r s t u)) else (impl_correctedAt.l1 k a b c d e f g h i (wrap64 (j + 1)) l m n o p q r s t u)) else (impl_correctedAt.l1 k a b c d e f g h i (wrap64 (j + 1)) l m n o p q r s t u)) else (none)) else (none)) else (if c.length < 17592186044416 then (impl_correctedAt.l0 k a b (c ++ [e]) f (wrap64 (g + 1)) l m n o p q r s t u) else (none))
end
def impl_correctedAt.f (k : Nat) (a b c : Int) (d : ByteArray) (e : List (S89)) (f : List Int) (g : Int) (h : ByteArray) (i j : Int) (l : List (S91)) (m : Int) : Option (List Int) := (impl_IsIssue.f k a b c d e f g h i j).bind fun n => (if n = true then ((impl_AreCorrections.f k l).bind fun o => (impl_correctedAt.j0 k l m (!o) a b c d e f g h i j)) else (impl_correctedAt.j0 k l m true a b c d e f g h i j))
set_option maxHeartbeats 8000000 in
set_option maxRecDepth 100000 in
theorem impl_correctedAt.calls (k : Nat) (a0_0 a0_1 a0_2 : Int) (a0_3 : ByteArray) (A0_4 : Option Addr) (c0_4 : Nat) (l0_4 : List (S89)) (A0_5 : Option Addr) (c0_5 : Nat) (l0_5 : List Int) (a0_6 : Int) (a0_7 : ByteArray) (a0_8 a0_9 : Int) (A1 : Option Addr) (c1 : Nat) (l1 : List (S91)) (a2 : Int) (r : List Int) (w : World) (hr0_4 : Kd.C k89 w A0_4 l0_4.length l0_4) (hc0_4 : l0_4.length ≤ c0_4) (hr0_5 : Kd.C (Kd.int .i64) w A0_5 l0_5.length l0_5) (hc0_5 : l0_5.length ≤ c0_5) (hr1 : Kd.C k91 w A1 l1.length l1) (hc1 : l1.length ≤ c1) (H : impl_correctedAt.f k a0_0 a0_1 a0_2 a0_3 l0_4 l0_5 a0_6 a0_7 a0_8 a0_9 l1 a2 = some r) :
  Calls Tryz.prog 59 #[.agg #[.int .i64 a0_0, .int .i64 a0_1, .int .i64 a0_2, .string a0_3, .slice A0_4 l0_4.length c0_4, .slice A0_5 l0_5.length c0_5, .int .i64 a0_6, .string a0_7, .int .i64 a0_8, .int .i64 a0_9], .slice A1 l1.length c1, .int .i64 a2] w fun e w' => ∃ v0_ : Value, e = .returned (v0_) ∧ Kd.R (Kd.int .i64) 3 w' w.heap.size (fun _ => True) v0_ r ∧ Below w.heap.size w w' := by
 have hu37 := Tryz.underlying37
 have hu91 := Tryz.underlying91
 have HR0_4 := Aside0.mk hr0_4
 have HC0_4 := Aside0.mk hc0_4
 clear hr0_4 hc0_4
 have HR0_5 := Aside0.mk hr0_5
 have HC0_5 := Aside0.mk hc0_5
 clear hr0_5 hc0_5
 have HR1 := Aside0.mk hr1
 have HC1 := Aside0.mk hc1
 clear hr1 hc1
 have HB := Aside0.mk (Below.refl w.heap.size w)
 unfold impl_correctedAt.f at H
 have HC4 := Aside0.mk H
 clear H
 go_enter Tryz.func59, Tryz.ntmps59
 go_upto_region 1 with (first | ((with_reducible refine zd 3 rfl ?_); refine zbx (w := w) #[.int .i64 a0_0, .int .i64 a0_1, .int .i64 a0_2, .string a0_3, .slice A0_4 l0_4.length c0_4, .slice A0_5 l0_5.length c0_5, .int .i64 a0_6, .string a0_7, .int .i64 a0_8, .int .i64 a0_9] 37 ?_; intro gb696 hg w5 BK696 hb; have GW696 := zg (w := w) hg; replace HB := zB hb; clear hb hg))
 (try simp only [Act.put, List.setIfInBounds_toArray, List.set_cons_zero, List.set_cons_succ])
 go_cut [19] (fun v19 wc => ∃ (kq : Nat) (x19_3 : Bool), v19 = .bool x19_3 ∧ Aside0 (impl_correctedAt.j0 kq l1 a2 x19_3 a0_0 a0_1 a0_2 a0_3 l0_4 l0_5 a0_6 a0_7 a0_8 a0_9 = some r) ∧ Aside0 (kq ≤ k) ∧ Aside0 (wc.heap[gb696]? = some (.cells #[.int .i64 a0_0, .int .i64 a0_1, .int .i64 a0_2, .string a0_3, (.slice A0_4 l0_4.length c0_4), (.slice A0_5 l0_5.length c0_5), .int .i64 a0_6, .string a0_7, .int .i64 a0_8, .int .i64 a0_9] 37 (0, 0))) ∧ Aside0 (Below w.heap.size w wc))
 case first =>
  have H := HC4.out
  clear HC4
  replace H := zs H
  obtain ⟨t697, A6, H⟩ := H
  replace H := zb H
  rcases H with ⟨rfl, H⟩ | ⟨rfl, H⟩
  ·
   replace H := zs H
   obtain ⟨t698, A8, H⟩ := H
   have H' := Aside0.mk H
   clear H
   have ⟨_, _, _, _, _, _, _, _, _, _, _, _, _, _, _, _, _, _, _, _⟩ := cz10 BK696
   go_wp2_with (first | ((with_reducible refine zd 13 rfl ?_); refine zgl Tryz.func13 (impl_IsIssue.calls k a0_0 a0_1 a0_2 a0_3 _ _ l0_4 _ _ l0_5 a0_6 a0_7 a0_8 a0_9 true _ (zC HR0_4) HC0_4.out (zC HR0_5) HC0_5.out A6.out) ?_; rintro e w10 ⟨rfl, hb⟩; refine ⟨_, rfl, ?_⟩; replace BK696 := zk BK696 hb; replace HB := zB hb) | (go_at_call 77; (with_reducible refine (impl_AreCorrections.calls k _ _ l1 t698 _ ?side1 ?side2 A8.out).mono ?_); (case side1 => repeat (first | exact (Kd.C_below HR1.out HB.out) | (with_reducible refine Kd.C_alloc ?_ _) | (with_reducible refine Kd.C_drewN ?_ _) | (with_reducible refine Kd.C_drew ?_))); (case side2 => exact HC1.out); rintro e w11 ⟨rfl, hb⟩; replace BK696 := zk BK696 hb; replace HB := zB hb))
   go_meet
   case rel => exact ⟨_, (!t698), rf, H', ⟨by first | omega | exact Nat.le_refl _⟩, ⟨bk BK696⟩, ⟨bel⟩⟩
  ·
   have H' := Aside0.mk H
   clear H
   have ⟨_, _, _, _, _, _, _, _, _, _, _, _, _, _, _, _, _, _, _, _⟩ := cz10 BK696
   go_wp2_with (first | ((with_reducible refine zd 13 rfl ?_); refine zgl Tryz.func13 (impl_IsIssue.calls k a0_0 a0_1 a0_2 a0_3 _ _ l0_4 _ _ l0_5 a0_6 a0_7 a0_8 a0_9 false _ (zC HR0_4) HC0_4.out (zC HR0_5) HC0_5.out A6.out) ?_; rintro e w13 ⟨rfl, hb⟩; refine ⟨_, rfl, ?_⟩; replace BK696 := zk BK696 hb; replace HB := zB hb))
   go_meet
   case rel => exact ⟨_, (true), rf, H', ⟨by first | omega | exact Nat.le_refl _⟩, ⟨bk BK696⟩, ⟨bel⟩⟩
 case rest =>
  clear HC4
  obtain ⟨kq, x19_3, rfl, HA, HJ3, BK696, HB⟩ := hcut
  cases kq with
  | zero => exact absurd HA.out (by simp [impl_correctedAt.j0])
  | succ kj3 =>
   have H := HA.out
   clear HA
   simp only [impl_correctedAt.j0] at H
   replace H := zb H
   rcases H with ⟨rfl, H⟩ | ⟨rfl, H⟩
   ·
    obtain rfl := Option.some.inj H
    go_wp2
    go_ret
    exact ⟨_, er, by first | exact Kd.R_nil _ _ _ _ _ | exact Kd.N_nil _ _ _ _ _ | exact Kd.V_nil _ _ _ _ _ | exact Kd.Q_nil _ _ _ _ _ | exact Kd.S_nil _ _ _ _ _, bel⟩
   ·
    have H' := Aside0.mk H
    clear H
    have ⟨_, _, _, _, _, _, _, _, _, _, _, _, _, _, _, _, _, _, _, _⟩ := cz10 BK696
    go_wp2
    go_loopg [7, 24] kj3 (fun kq v7 v24 w' => ∃ (x7_2 : List Int) (x24_2 : Int), v24 = .int .i64 x24_2 ∧ Aside0 (impl_correctedAt.l0 kq l1 a2 x7_2 (l0_4.length : Int) x24_2 a0_0 a0_1 a0_2 a0_3 l0_4 l0_5 a0_6 a0_7 a0_8 a0_9 = some r) ∧ Aside0 (kq ≤ kj3) ∧ Aside0 (Kd.R (Kd.int .i64) 3 w' w.heap.size (fun _ => True) v7 x7_2) ∧ Aside0 (w'.heap[gb696]? = some (.cells #[.int .i64 a0_0, .int .i64 a0_1, .int .i64 a0_2, .string a0_3, (.slice A0_4 l0_4.length c0_4), (.slice A0_5 l0_5.length c0_5), .int .i64 a0_6, .string a0_7, .int .i64 a0_8, .int .i64 a0_9] 37 (0, 0))) ∧ Aside0 (Below w.heap.size w w'))
    case atStart => exact ⟨(([] : List Int)), (0), rf, H', ⟨Nat.le_refl _⟩, ⟨by first | exact Kd.R_nil _ _ _ _ _ | exact Kd.N_nil _ _ _ _ _ | exact Kd.V_nil _ _ _ _ _ | exact Kd.Q_nil _ _ _ _ _ | exact Kd.S_nil _ _ _ _ _⟩, ⟨bk BK696⟩, ⟨bel⟩⟩
    case round =>
     clear H'
     obtain ⟨x7_2, x24_2, rfl, HA, HK2, HO_7, BK696, HB⟩ := hrel
     cases gk with
     | zero => exact absurd HA.out (by simp [impl_correctedAt.l0])
     | succ k2 =>
      have H := HA.out
      clear HA
      simp only [impl_correctedAt.l0] at H
      replace H := zc H
      rcases H with ⟨c16b0, H⟩ | ⟨c16b0, H⟩
      ·
       have H' := Aside0.mk H
       clear H
       go_wp2
       go_loopg [9, 29] k2 (fun kq v9 v29 w' => ∃ (x9_3 : Int) (x29_3 : Int), v9 = .int .i64 x9_3 ∧ v29 = .int .i64 x29_3 ∧ Aside0 (impl_correctedAt.l1 kq l1 a2 x7_2 x24_2 x9_3 (l0_4.length : Int) x24_2 l1 (l1.length : Int) x29_3 a0_0 a0_1 a0_2 a0_3 l0_4 l0_5 a0_6 a0_7 a0_8 a0_9 = some r) ∧ Aside0 (kq ≤ k2) ∧ Aside0 (Kd.R (Kd.int .i64) 3 w' w.heap.size (fun _ => True) u7 x7_2) ∧ Aside0 (w'.heap[gb696]? = some (.cells #[.int .i64 a0_0, .int .i64 a0_1, .int .i64 a0_2, .string a0_3, (.slice A0_4 l0_4.length c0_4), (.slice A0_5 l0_5.length c0_5), .int .i64 a0_6, .string a0_7, .int .i64 a0_8, .int .i64 a0_9] 37 (0, 0))) ∧ Aside0 (Below w.heap.size w w'))
       case atStart => exact ⟨((-1)), (0), rf, rf, H', ⟨Nat.le_refl _⟩, ⟨kr HO_7⟩, ⟨bk BK696⟩, ⟨bel⟩⟩
       case round =>
        clear H'
        obtain ⟨x9_3, x29_3, rfl, rfl, HA, HK3, HO_7, BK696, HB⟩ := hrel
        cases gk with
        | zero => exact absurd HA.out (by simp [impl_correctedAt.l1])
        | succ k3 =>
         have H := HA.out
         clear HA
         simp only [impl_correctedAt.l1] at H
         replace H := zc H
         rcases H with ⟨c17b0, H⟩ | ⟨c17b0, H⟩
         ·
          replace H := zr H
          obtain ⟨c18b0, H⟩ := H
          replace H := zr H
          obtain ⟨c19b0, H⟩ := H
          by_cases c20 : ((rd_T91 l1 x29_3).f0) = a0_0
          ·
           rw [if_pos c20] at H
           have c20b0 : (((rd_T91 l1 x29_3).f0) == a0_0) = true := beq_iff_eq.mpr c20
           have c20b1 : (((rd_T91 l1 x29_3).f0) != a0_0) = false := bne_eq_false_iff_eq.mpr c20
           clear c20
           by_cases c21 : ((rd_T91 l1 x29_3).f1) = x24_2
           ·
            rw [if_pos c21] at H
            have c21b0 : (((rd_T91 l1 x29_3).f1) == x24_2) = true := beq_iff_eq.mpr c21
            have c21b1 : (((rd_T91 l1 x29_3).f1) != x24_2) = false := bne_eq_false_iff_eq.mpr c21
            clear c21
            replace H := zc H
            rcases H with ⟨c22b0, H⟩ | ⟨c22b0, H⟩
            ·
             have H' := Aside0.mk H
             clear H
             obtain ⟨p699, q699, ad699, A699_3, c699_3, e699, hx699_0, hx699_1, hx699_2, hx699_3, hx699_4, hl699_3, hi699_3⟩ := zx (at_T91 HR1.out x29_3)
             cases e699
             replace hx699_0 := zh HB hx699_0
             replace hx699_1 := zh HB hx699_1
             replace hx699_2 := zh HB hx699_2
             replace hx699_3 := zh HB hx699_3
             replace hx699_4 := zh HB hx699_4
             have HR699_3 := Aside0.mk hi699_3
             have HC699_3 := Aside0.mk hl699_3
             clear hi699_3 hl699_3
             go_wp2_with (first | ((with_reducible refine zd 11 rfl ?_); refine zbx (w := w) #[.int .i64 0, .int .i64 0, .int .i64 0, .slice none 0 0, .int .i64 0] 91 ?_; intro gb700 hg w23 BK700 hb; replace HO_7 := zR HO_7 hb; have GW700 := zg (w := w) hg; replace HB := zB hb; have NB696_700 := zn hg BK696; have NB700_696 := zm hg BK696; replace BK696 := zk BK696 hb; clear hb hg; have hnb24 := NB700_696.out; have hnc24 := NB696_700.out; have ⟨_, _, _, _, _, _, _, _, _, _⟩ := cz5 BK700; have ⟨_, _, _, _, _, _, _, _, _, _, _, _, _, _, _, _, _, _, _, _⟩ := cz10 BK696))
             go_roundg k3
             case measure => have := HJ3.out; have := HK2.out; have := HK3.out; omega
             case rel => exact ⟨(x29_3), (wrap64 (x29_3 + 1)), rf, rf, H', ⟨by have := HJ3.out; have := HK2.out; have := HK3.out; omega⟩, ⟨by (with_reducible repeat (first | apply Kd.R_alloc | apply Kd.R_drewN | apply Kd.R_drew)); exact Kd.R_mono (Kd.R_far (p := ⟨gb700, 4, none⟩) (Kd.R_far (p := ⟨gb700, 3, none⟩) (Kd.R_far (p := ⟨gb700, 2, none⟩) (Kd.R_far (p := ⟨gb700, 1, none⟩) (Kd.R_far (p := ⟨gb700, 0, none⟩) (Kd.R_types HO_7.out BK700.out (by decide)) (fun _ hk => hk.2) (.int .i64 ((rd_T91 l1 x29_3).f0))) (fun _ hk => hk.2) (.int .i64 ((rd_T91 l1 x29_3).f1))) (fun _ hk => hk.2) (.int .i64 ((rd_T91 l1 x29_3).f2.f0))) (fun _ hk => hk.2) (.slice A699_3 ((rd_T91 l1 x29_3).f2.f1).length c699_3)) (fun _ hk => hk.2) (.int .i64 ((rd_T91 l1 x29_3).f3))) (fun _ hk => trivial)⟩, zkg BK696, ⟨bel⟩⟩
            ·
             have H' := Aside0.mk H
             clear H
             obtain ⟨p699, q699, ad699, A699_3, c699_3, e699, hx699_0, hx699_1, hx699_2, hx699_3, hx699_4, hl699_3, hi699_3⟩ := zx (at_T91 HR1.out x29_3)
             cases e699
             replace hx699_0 := zh HB hx699_0
             replace hx699_1 := zh HB hx699_1
             replace hx699_2 := zh HB hx699_2
             replace hx699_3 := zh HB hx699_3
             replace hx699_4 := zh HB hx699_4
             have HR699_3 := Aside0.mk hi699_3
             have HC699_3 := Aside0.mk hl699_3
             clear hi699_3 hl699_3
             go_wp2_with (first | ((with_reducible refine zd 11 rfl ?_); refine zbx (w := w) #[.int .i64 0, .int .i64 0, .int .i64 0, .slice none 0 0, .int .i64 0] 91 ?_; intro gb700 hg w27 BK700 hb; replace HO_7 := zR HO_7 hb; have GW700 := zg (w := w) hg; replace HB := zB hb; have NB696_700 := zn hg BK696; have NB700_696 := zm hg BK696; replace BK696 := zk BK696 hb; clear hb hg; have hnb28 := NB700_696.out; have hnc28 := NB696_700.out; have ⟨_, _, _, _, _, _, _, _, _, _⟩ := cz5 BK700; have ⟨_, _, _, _, _, _, _, _, _, _, _, _, _, _, _, _, _, _, _, _⟩ := cz10 BK696))
             go_roundg k3
             case measure => have := HJ3.out; have := HK2.out; have := HK3.out; omega
             case rel => exact ⟨(x9_3), (wrap64 (x29_3 + 1)), rf, rf, H', ⟨by have := HJ3.out; have := HK2.out; have := HK3.out; omega⟩, ⟨by (with_reducible repeat (first | apply Kd.R_alloc | apply Kd.R_drewN | apply Kd.R_drew)); exact Kd.R_mono (Kd.R_far (p := ⟨gb700, 4, none⟩) (Kd.R_far (p := ⟨gb700, 3, none⟩) (Kd.R_far (p := ⟨gb700, 2, none⟩) (Kd.R_far (p := ⟨gb700, 1, none⟩) (Kd.R_far (p := ⟨gb700, 0, none⟩) (Kd.R_types HO_7.out BK700.out (by decide)) (fun _ hk => hk.2) (.int .i64 ((rd_T91 l1 x29_3).f0))) (fun _ hk => hk.2) (.int .i64 ((rd_T91 l1 x29_3).f1))) (fun _ hk => hk.2) (.int .i64 ((rd_T91 l1 x29_3).f2.f0))) (fun _ hk => hk.2) (.slice A699_3 ((rd_T91 l1 x29_3).f2.f1).length c699_3)) (fun _ hk => hk.2) (.int .i64 ((rd_T91 l1 x29_3).f3))) (fun _ hk => trivial)⟩, zkg BK696, ⟨bel⟩⟩
           ·
            rw [if_neg c21] at H
            have c21b0 : (((rd_T91 l1 x29_3).f1) == x24_2) = false := beq_eq_false_iff_ne.mpr c21
            have c21b1 : (((rd_T91 l1 x29_3).f1) != x24_2) = true := bne_iff_ne.mpr c21
            have H' := Aside0.mk H
            clear H
            obtain ⟨p699, q699, ad699, A699_3, c699_3, e699, hx699_0, hx699_1, hx699_2, hx699_3, hx699_4, hl699_3, hi699_3⟩ := zx (at_T91 HR1.out x29_3)
            cases e699
            replace hx699_0 := zh HB hx699_0
            replace hx699_1 := zh HB hx699_1
            replace hx699_2 := zh HB hx699_2
            replace hx699_3 := zh HB hx699_3
            replace hx699_4 := zh HB hx699_4
            have HR699_3 := Aside0.mk hi699_3
            have HC699_3 := Aside0.mk hl699_3
            clear hi699_3 hl699_3
            go_wp2_with (first | ((with_reducible refine zd 11 rfl ?_); refine zbx (w := w) #[.int .i64 0, .int .i64 0, .int .i64 0, .slice none 0 0, .int .i64 0] 91 ?_; intro gb700 hg w31 BK700 hb; replace HO_7 := zR HO_7 hb; have GW700 := zg (w := w) hg; replace HB := zB hb; have NB696_700 := zn hg BK696; have NB700_696 := zm hg BK696; replace BK696 := zk BK696 hb; clear hb hg; have hnb32 := NB700_696.out; have hnc32 := NB696_700.out; have ⟨_, _, _, _, _, _, _, _, _, _⟩ := cz5 BK700; have ⟨_, _, _, _, _, _, _, _, _, _, _, _, _, _, _, _, _, _, _, _⟩ := cz10 BK696))
            go_roundg k3
            case measure => have := HJ3.out; have := HK2.out; have := HK3.out; omega
            case rel => exact ⟨(x9_3), (wrap64 (x29_3 + 1)), rf, rf, H', ⟨by have := HJ3.out; have := HK2.out; have := HK3.out; omega⟩, ⟨by (with_reducible repeat (first | apply Kd.R_alloc | apply Kd.R_drewN | apply Kd.R_drew)); exact Kd.R_mono (Kd.R_far (p := ⟨gb700, 4, none⟩) (Kd.R_far (p := ⟨gb700, 3, none⟩) (Kd.R_far (p := ⟨gb700, 2, none⟩) (Kd.R_far (p := ⟨gb700, 1, none⟩) (Kd.R_far (p := ⟨gb700, 0, none⟩) (Kd.R_types HO_7.out BK700.out (by decide)) (fun _ hk => hk.2) (.int .i64 ((rd_T91 l1 x29_3).f0))) (fun _ hk => hk.2) (.int .i64 ((rd_T91 l1 x29_3).f1))) (fun _ hk => hk.2) (.int .i64 ((rd_T91 l1 x29_3).f2.f0))) (fun _ hk => hk.2) (.slice A699_3 ((rd_T91 l1 x29_3).f2.f1).length c699_3)) (fun _ hk => hk.2) (.int .i64 ((rd_T91 l1 x29_3).f3))) (fun _ hk => trivial)⟩, zkg BK696, ⟨bel⟩⟩
          ·
           rw [if_neg c20] at H
           have c20b0 : (((rd_T91 l1 x29_3).f0) == a0_0) = false := beq_eq_false_iff_ne.mpr c20
           have c20b1 : (((rd_T91 l1 x29_3).f0) != a0_0) = true := bne_iff_ne.mpr c20
           have H' := Aside0.mk H
           clear H
           obtain ⟨p699, q699, ad699, A699_3, c699_3, e699, hx699_0, hx699_1, hx699_2, hx699_3, hx699_4, hl699_3, hi699_3⟩ := zx (at_T91 HR1.out x29_3)
           cases e699
           replace hx699_0 := zh HB hx699_0
           replace hx699_1 := zh HB hx699_1
           replace hx699_2 := zh HB hx699_2
           replace hx699_3 := zh HB hx699_3
           replace hx699_4 := zh HB hx699_4
           have HR699_3 := Aside0.mk hi699_3
           have HC699_3 := Aside0.mk hl699_3
           clear hi699_3 hl699_3
           go_wp2_with (first | ((with_reducible refine zd 11 rfl ?_); refine zbx (w := w) #[.int .i64 0, .int .i64 0, .int .i64 0, .slice none 0 0, .int .i64 0] 91 ?_; intro gb700 hg w35 BK700 hb; replace HO_7 := zR HO_7 hb; have GW700 := zg (w := w) hg; replace HB := zB hb; have NB696_700 := zn hg BK696; have NB700_696 := zm hg BK696; replace BK696 := zk BK696 hb; clear hb hg; have hnb36 := NB700_696.out; have hnc36 := NB696_700.out; have ⟨_, _, _, _, _, _, _, _, _, _⟩ := cz5 BK700; have ⟨_, _, _, _, _, _, _, _, _, _, _, _, _, _, _, _, _, _, _, _⟩ := cz10 BK696))
           go_roundg k3
           case measure => have := HJ3.out; have := HK2.out; have := HK3.out; omega
           case rel => exact ⟨(x9_3), (wrap64 (x29_3 + 1)), rf, rf, H', ⟨by have := HJ3.out; have := HK2.out; have := HK3.out; omega⟩, ⟨by (with_reducible repeat (first | apply Kd.R_alloc | apply Kd.R_drewN | apply Kd.R_drew)); exact Kd.R_mono (Kd.R_far (p := ⟨gb700, 4, none⟩) (Kd.R_far (p := ⟨gb700, 3, none⟩) (Kd.R_far (p := ⟨gb700, 2, none⟩) (Kd.R_far (p := ⟨gb700, 1, none⟩) (Kd.R_far (p := ⟨gb700, 0, none⟩) (Kd.R_types HO_7.out BK700.out (by decide)) (fun _ hk => hk.2) (.int .i64 ((rd_T91 l1 x29_3).f0))) (fun _ hk => hk.2) (.int .i64 ((rd_T91 l1 x29_3).f1))) (fun _ hk => hk.2) (.int .i64 ((rd_T91 l1 x29_3).f2.f0))) (fun _ hk => hk.2) (.slice A699_3 ((rd_T91 l1 x29_3).f2.f1).length c699_3)) (fun _ hk => hk.2) (.int .i64 ((rd_T91 l1 x29_3).f3))) (fun _ hk => trivial)⟩, zkg BK696, ⟨bel⟩⟩
         ·
          replace H := zl H
          obtain ⟨LMc39, H⟩ := H
          generalize hy701 : (x7_2 ++ [x9_3] : List Int) = y701 at H
          have Ny701 := Aside0.mk hy701.symm
          clear hy701
          have H' := Aside0.mk H
          clear H
          go_wp2_with (first | ((with_reducible refine gate_builtin (b := .append) (xs := #[.tmp 53, .tmp 55]) rfl ?_); at_builtin; refine Kd.R_append (Kd.int .i64) (w0 := w) w.heap.size rfl (.tmp 53) (.tmp 55) 25 3 (.int .i64 0) 8 rfl Tryz.underlying25 info3 rfl (by decide) (by omega) u7 x7_2 x9_3 [.int .i64 x9_3] (fun _ => True) (fun _ => False) rfl rfl ?aP (fun _ hk => hk.elim) ?aF ?aO ?aB ?aS ?aL ?_; (case aP => exact rfl); (case aB => exact bel); (case aF => exact (fun _ _ => trivial)); (case aO => exact (kr HO_7)); (case aS => exact bsz); (case aL => have := LMc39.out; omega); intro v702 w40 ho hb hg hat; rw [← Ny701.out] at ho; replace BK696 := Aside0.mk (blk_grown (bk BK696) hg (Kd.R_ne HO_7.out BK696.out (by decide))); replace HB := Aside0.mk hb; have HO703 := Aside0.mk ho; clear HO_7; clear ho hb hg hat))
          go_roundg k3
          case measure => have := HJ3.out; have := HK2.out; have := HK3.out; omega
          case rel => exact ⟨(y701), (wrap64 (x24_2 + 1)), rf, H', ⟨by have := HJ3.out; have := HK2.out; have := HK3.out; omega⟩, ⟨kr HO703⟩, ⟨bk BK696⟩, ⟨bel⟩⟩
      ·
       obtain rfl := Option.some.inj H
       go_wp2
       go_ret
       exact ⟨_, er, kr HO_7, bel⟩

/-! ### impl_CorrectedSlots: function 26 -/
def impl_CorrectedSlots.l0 : Nat → List Int → List Int → Int → Int → Option (List Int)
 | 0, _, _, _, _ => none
 | k + 1, a, b, c, d => if d < c then (if 0 ≤ d then (if d < (b.length : Int) then (if (rd b d) ≥ 0 then (if a.length < 17592186044416 then (impl_CorrectedSlots.l0 k (a ++ [d]) b c (wrap64 (d + 1))) else (none)) else (impl_CorrectedSlots.l0 k a b c (wrap64 (d + 1)))) else (none)) else (none)) else (some a)
def impl_CorrectedSlots.f (k : Nat) (a b c : Int) (d : ByteArray) (e : List (S89)) (f : List Int) (g : Int) (h : ByteArray) (i j : Int) (l : List (S91)) (m : Int) : Option (List Int) := (impl_correctedAt.f k a b c d e f g h i j l m).bind fun n => (impl_CorrectedSlots.l0 k ([] : List Int) n (n.length : Int) 0)
set_option maxHeartbeats 8000000 in
set_option maxRecDepth 100000 in
theorem impl_CorrectedSlots.calls (k : Nat) (a0_0 a0_1 a0_2 : Int) (a0_3 : ByteArray) (A0_4 : Option Addr) (c0_4 : Nat) (l0_4 : List (S89)) (A0_5 : Option Addr) (c0_5 : Nat) (l0_5 : List Int) (a0_6 : Int) (a0_7 : ByteArray) (a0_8 a0_9 : Int) (A1 : Option Addr) (c1 : Nat) (l1 : List (S91)) (a2 : Int) (r : List Int) (w : World) (hr0_4 : Kd.C k89 w A0_4 l0_4.length l0_4) (hc0_4 : l0_4.length ≤ c0_4) (hr0_5 : Kd.C (Kd.int .i64) w A0_5 l0_5.length l0_5) (hc0_5 : l0_5.length ≤ c0_5) (hr1 : Kd.C k91 w A1 l1.length l1) (hc1 : l1.length ≤ c1) (H : impl_CorrectedSlots.f k a0_0 a0_1 a0_2 a0_3 l0_4 l0_5 a0_6 a0_7 a0_8 a0_9 l1 a2 = some r) :
  Calls Tryz.prog 26 #[.agg #[.int .i64 a0_0, .int .i64 a0_1, .int .i64 a0_2, .string a0_3, .slice A0_4 l0_4.length c0_4, .slice A0_5 l0_5.length c0_5, .int .i64 a0_6, .string a0_7, .int .i64 a0_8, .int .i64 a0_9], .slice A1 l1.length c1, .int .i64 a2] w fun e w' => ∃ v0_ : Value, e = .returned (v0_) ∧ Kd.R (Kd.int .i64) 3 w' w.heap.size (fun _ => True) v0_ r ∧ Below w.heap.size w w' := by
 have hu37 := Tryz.underlying37
 have HR0_4 := Aside0.mk hr0_4
 have HC0_4 := Aside0.mk hc0_4
 clear hr0_4 hc0_4
 have HR0_5 := Aside0.mk hr0_5
 have HC0_5 := Aside0.mk hc0_5
 clear hr0_5 hc0_5
 have HR1 := Aside0.mk hr1
 have HC1 := Aside0.mk hc1
 clear hr1 hc1
 have HB := Aside0.mk (Below.refl w.heap.size w)
 unfold impl_CorrectedSlots.f at H
 replace H := zs H
 obtain ⟨t705, A4, H⟩ := H
 have H' := Aside0.mk H
 clear H
 go_enter Tryz.func26, Tryz.ntmps26
 go_wp2_with (first | ((with_reducible refine zd 3 rfl ?_); refine zbx (w := w) #[.int .i64 a0_0, .int .i64 a0_1, .int .i64 a0_2, .string a0_3, .slice A0_4 l0_4.length c0_4, .slice A0_5 l0_5.length c0_5, .int .i64 a0_6, .string a0_7, .int .i64 a0_8, .int .i64 a0_9] 37 ?_; intro gb704 hg w5 BK704 hb; have GW704 := zg (w := w) hg; replace HB := zB hb; clear hb hg; have ⟨_, _, _, _, _, _, _, _, _, _, _, _, _, _, _, _, _, _, _, _⟩ := cz10 BK704) | ((with_reducible refine zd 13 rfl ?_); refine zgl Tryz.func59 (impl_correctedAt.calls k a0_0 a0_1 a0_2 a0_3 _ _ l0_4 _ _ l0_5 a0_6 a0_7 a0_8 a0_9 _ _ l1 a2 t705 _ (zC HR0_4) HC0_4.out (zC HR0_5) HC0_5.out (zC HR1) HC1.out A4.out) ?_; rintro e w7 ⟨v706, rfl, ho0, hb⟩; refine ⟨_, rfl, ?_⟩; have HO707 := zl2 ho0; replace BK704 := zk BK704 hb; replace HB := zB hb; obtain ⟨Ao8, co8, eo8⟩ := Kd.R_slice HO707.out; subst eo8))
 go_loopg [7, 15] k (fun kq v7 v15 w' => ∃ (x7_1 : List Int) (x15_1 : Int), v15 = .int .i64 x15_1 ∧ Aside0 (impl_CorrectedSlots.l0 kq x7_1 t705 (t705.length : Int) x15_1 = some r) ∧ Aside0 (kq ≤ k) ∧ Aside0 (Kd.R (Kd.int .i64) 3 w' w.heap.size (fun k_ => some k_ ≠ ((.slice Ao8 t705.length co8) : Value).ownBlock) v7 x7_1) ∧ Aside0 (Kd.R (Kd.int .i64) 3 w' w.heap.size (fun k_ => some k_ ≠ (v7 : Value).ownBlock) (.slice Ao8 t705.length co8) t705) ∧ Aside0 (w'.heap[gb704]? = some (.cells #[.int .i64 a0_0, .int .i64 a0_1, .int .i64 a0_2, .string a0_3, (.slice A0_4 l0_4.length c0_4), (.slice A0_5 l0_5.length c0_5), .int .i64 a0_6, .string a0_7, .int .i64 a0_8, .int .i64 a0_9] 37 (0, 0))) ∧ Aside0 (Below w.heap.size w w'))
 case atStart => exact ⟨(([] : List Int)), (0), rf, H', ⟨Nat.le_refl _⟩, ⟨by first | exact Kd.R_nil _ _ _ _ _ | exact Kd.N_nil _ _ _ _ _ | exact Kd.V_nil _ _ _ _ _ | exact Kd.Q_nil _ _ _ _ _ | exact Kd.S_nil _ _ _ _ _⟩, ⟨by (with_reducible repeat (first | apply Kd.R_alloc | apply Kd.R_drewN | apply Kd.R_drew)); exact Kd.R_mono HO707.out (fun _ hk => (by simp [Value.ownBlock]))⟩, ⟨bk BK704⟩, ⟨bel⟩⟩
 case round =>
  clear H'
  obtain ⟨x7_1, x15_1, rfl, HA, HK1, HO_7, HO_13, BK704, HB⟩ := hrel
  cases gk with
  | zero => exact absurd HA.out (by simp [impl_CorrectedSlots.l0])
  | succ k1 =>
   have H := HA.out
   clear HA
   simp only [impl_CorrectedSlots.l0] at H
   replace H := zc H
   rcases H with ⟨c9b0, H⟩ | ⟨c9b0, H⟩
   ·
    replace H := zr H
    obtain ⟨c10b0, H⟩ := H
    replace H := zr H
    obtain ⟨c11b0, H⟩ := H
    replace H := zc H
    rcases H with ⟨c12b0, H⟩ | ⟨c12b0, H⟩
    ·
     replace H := zl H
     obtain ⟨LMc13, H⟩ := H
     generalize hy709 : (x7_1 ++ [x15_1] : List Int) = y709 at H
     have Ny709 := Aside0.mk hy709.symm
     clear hy709
     have H' := Aside0.mk H
     clear H
     obtain ⟨p708, q708, ad708, e708, hx708_0⟩ := zx (Kd.at_int (Kd.R_reads' HO_13.out).2.2 x15_1)
     cases e708
     go_wp2_with (first | ((with_reducible refine gate_builtin (b := .append) (xs := #[.tmp 22, .tmp 24]) rfl ?_); at_builtin; refine Kd.R_append (Kd.int .i64) (w0 := w) w.heap.size rfl (.tmp 22) (.tmp 24) 25 3 (.int .i64 0) 8 rfl Tryz.underlying25 info3 rfl (by decide) (by omega) u7 x7_1 x15_1 [.int .i64 x15_1] (fun k_ => some k_ ≠ (.slice (some ad708) t705.length co8 : Value).ownBlock) (fun _ => False) rfl rfl ?aP (fun _ hk => hk.elim) ?aF ?aO ?aB ?aS ?aL ?_; (case aP => exact rfl); (case aB => exact bel); (case aF => exact (fun k_ hk => Kd.fresh' (Kd.R_lt (kr HO_13)) k_ hk)); (case aO => exact (kr HO_7)); (case aS => exact bsz); (case aL => have := LMc13.out; omega); intro v710 w14 ho hb hg hat; rw [← Ny709.out] at ho; replace HO_13 := Aside0.mk (Kd.R_after (ok := (fun _ => True)) (by (with_reducible repeat (first | apply Kd.R_alloc | apply Kd.R_drewN | apply Kd.R_drew)); exact Kd.R_mono HO_13.out (fun _ hk => ⟨trivial, hk⟩)) hg hat); replace BK704 := Aside0.mk (blk_grown (bk BK704) hg (Kd.R_ne HO_7.out BK704.out (by decide))); replace HB := Aside0.mk hb; have HO711 := Aside0.mk ho; clear HO_7; clear ho hb hg hat))
     go_roundg k1
     case measure => have := HK1.out; omega
     case rel => exact ⟨(y709), (wrap64 (x15_1 + 1)), rf, H', ⟨by have := HK1.out; omega⟩, ⟨kr HO711⟩, ⟨by (with_reducible repeat (first | apply Kd.R_alloc | apply Kd.R_drewN | apply Kd.R_drew)); exact Kd.R_mono HO_13.out (fun _ hk => hk.2)⟩, ⟨bk BK704⟩, ⟨bel⟩⟩
    ·
     have H' := Aside0.mk H
     clear H
     obtain ⟨p708, q708, ad708, e708, hx708_0⟩ := zx (Kd.at_int (Kd.R_reads' HO_13.out).2.2 x15_1)
     cases e708
     go_wp2
     go_roundg k1
     case measure => have := HK1.out; omega
     case rel => exact ⟨(x7_1), (wrap64 (x15_1 + 1)), rf, H', ⟨by have := HK1.out; omega⟩, ⟨kr HO_7⟩, ⟨kr HO_13⟩, ⟨bk BK704⟩, ⟨bel⟩⟩
   ·
    obtain rfl := Option.some.inj H
    go_wp2
    go_ret
    exact ⟨_, er, by (with_reducible repeat (first | apply Kd.R_alloc | apply Kd.R_drewN | apply Kd.R_drew)); exact Kd.R_mono HO_7.out (fun _ hk => trivial), bel⟩

/-! ### laws_eqCorrection: function 60 -/
def laws_eqCorrection.f (k : Nat) (a b c : Int) (d : List (S121)) (e f : Int) (g h : Int) (i : List (S121)) (j : Int) : Option (Bool) := if a = f then (if b = g then ((laws_eqClue.f k c d h i).bind fun l => (if l = true then (if e = j then (some true) else (some false)) else (some false))) else (some false)) else (some false)
set_option maxHeartbeats 8000000 in
set_option maxRecDepth 100000 in
theorem laws_eqCorrection.calls (k : Nat) (a0_0 a0_1 a0_2 : Int) (A0_3 : Option Addr) (c0_3 : Nat) (l0_3 : List (S121)) (a0_4 a1_0 : Int) (a1_1 a1_2 : Int) (A1_3 : Option Addr) (c1_3 : Nat) (l1_3 : List (S121)) (a1_4 : Int) (r : Bool) (w : World) (hr0_3 : Kd.C k121 w A0_3 l0_3.length l0_3) (hc0_3 : l0_3.length ≤ c0_3) (hr1_3 : Kd.C k121 w A1_3 l1_3.length l1_3) (hc1_3 : l1_3.length ≤ c1_3) (H : laws_eqCorrection.f k a0_0 a0_1 a0_2 l0_3 a0_4 a1_0 a1_1 a1_2 l1_3 a1_4 = some r) :
  Calls Tryz.prog 60 #[.agg #[.int .i64 a0_0, .int .i64 a0_1, .int .i64 a0_2, .slice A0_3 l0_3.length c0_3, .int .i64 a0_4], .agg #[.int .i64 a1_0, .int .i64 a1_1, .int .i64 a1_2, .slice A1_3 l1_3.length c1_3, .int .i64 a1_4]] w fun e w' => e = .returned (.bool r) ∧ Below w.heap.size w w' := by
 have hu91 := Tryz.underlying91
 have hu89 := Tryz.underlying89
 have HR0_3 := Aside0.mk hr0_3
 have HC0_3 := Aside0.mk hc0_3
 clear hr0_3 hc0_3
 have HR1_3 := Aside0.mk hr1_3
 have HC1_3 := Aside0.mk hc1_3
 clear hr1_3 hc1_3
 have HB := Aside0.mk (Below.refl w.heap.size w)
 unfold laws_eqCorrection.f at H
 by_cases c3 : a0_0 = a1_0
 rotate_left
 focus
  rw [if_neg c3] at H
  have c3b0 : (a0_0 == a1_0) = false := beq_eq_false_iff_ne.mpr c3
  have c3b1 : (a0_0 != a1_0) = true := bne_iff_ne.mpr c3
  obtain rfl := Option.some.inj H
 rotate_right
 focus
  rw [if_pos c3] at H
  have c3b0 : (a0_0 == a1_0) = true := beq_iff_eq.mpr c3
  have c3b1 : (a0_0 != a1_0) = false := bne_eq_false_iff_eq.mpr c3
  clear c3
  by_cases c4 : a0_1 = a1_1
  rotate_left
  focus
   rw [if_neg c4] at H
   have c4b0 : (a0_1 == a1_1) = false := beq_eq_false_iff_ne.mpr c4
   have c4b1 : (a0_1 != a1_1) = true := bne_iff_ne.mpr c4
   obtain rfl := Option.some.inj H
  rotate_right
  focus
   rw [if_pos c4] at H
   have c4b0 : (a0_1 == a1_1) = true := beq_iff_eq.mpr c4
   have c4b1 : (a0_1 != a1_1) = false := bne_eq_false_iff_eq.mpr c4
   clear c4
   replace H := zs H
   obtain ⟨t714, A5, H⟩ := H
   replace H := zb H
   rcases H with ⟨rfl, H⟩ | ⟨rfl, H⟩
   rotate_left
   focus
    obtain rfl := Option.some.inj H
   rotate_right
   focus
    by_cases c7 : a0_4 = a1_4
    rotate_left
    focus
     rw [if_neg c7] at H
     have c7b0 : (a0_4 == a1_4) = false := beq_eq_false_iff_ne.mpr c7
     have c7b1 : (a0_4 != a1_4) = true := bne_iff_ne.mpr c7
     obtain rfl := Option.some.inj H
    rotate_right
    focus
     rw [if_pos c7] at H
     have c7b0 : (a0_4 == a1_4) = true := beq_iff_eq.mpr c7
     have c7b1 : (a0_4 != a1_4) = false := bne_eq_false_iff_eq.mpr c7
     clear c7
     obtain rfl := Option.some.inj H
 all_goals
  go_enter Tryz.func60, Tryz.ntmps60
  go_wp2_with (first | ((with_reducible refine zd 2 rfl ?_); refine zbx (w := w) #[.int .i64 a0_0, .int .i64 a0_1, .int .i64 a0_2, .slice A0_3 l0_3.length c0_3, .int .i64 a0_4] 91 ?_; intro gb712 hg w1000 BK712 hb; have GW712 := zg (w := w) hg; replace HB := zB hb; clear hb hg) | ((with_reducible refine zd 3 rfl ?_); refine zbx (w := w) #[.int .i64 a1_0, .int .i64 a1_1, .int .i64 a1_2, .slice A1_3 l1_3.length c1_3, .int .i64 a1_4] 91 ?_; intro gb713 hg w1001 BK713 hb; have GW713 := zg (w := w) hg; replace HB := zB hb; have NB712_713 := zn hg BK712; have NB713_712 := zm hg BK712; replace BK712 := zk BK712 hb; clear hb hg; have hnb18 := NB712_713.out; have hnc18 := NB713_712.out; have ⟨_, _, _, _, _, _, _, _, _, _⟩ := cz5 BK712; have ⟨_, _, _, _, _, _, _, _, _, _⟩ := cz5 BK713) | ((with_reducible refine zd 19 rfl ?_); refine zgl Tryz.func95 (laws_eqClue.calls k a0_2 _ _ l0_3 a1_2 _ _ l1_3 _ _ (zC HR0_3) HC0_3.out (zC HR1_3) HC1_3.out A5.out) ?_; rintro e w1002 ⟨rfl, hb⟩; refine ⟨_, rfl, ?_⟩; replace BK712 := zk BK712 hb; replace BK713 := zk BK713 hb; replace HB := zB hb; have ⟨_, _, _, _, _, _, _, _, _, _⟩ := cz5 BK712; have ⟨_, _, _, _, _, _, _, _, _, _⟩ := cz5 BK713) | ((with_reducible refine zd 3 rfl ?_); refine zbx (w := w) #[.int .i64 a1_0, .int .i64 a1_1, .int .i64 a1_2, .slice A1_3 l1_3.length c1_3, .int .i64 a1_4] 91 ?_; intro gb713 hg w1001 BK713 hb; have GW713 := zg (w := w) hg; replace HB := zB hb; have NB712_713 := zn hg BK712; have NB713_712 := zm hg BK712; replace BK712 := zk BK712 hb; clear hb hg; have hnb10 := NB712_713.out; have hnc10 := NB713_712.out; have ⟨_, _, _, _, _, _, _, _, _, _⟩ := cz5 BK712; have ⟨_, _, _, _, _, _, _, _, _, _⟩ := cz5 BK713) | ((with_reducible refine zd 3 rfl ?_); refine zbx (w := w) #[.int .i64 a1_0, .int .i64 a1_1, .int .i64 a1_2, .slice A1_3 l1_3.length c1_3, .int .i64 a1_4] 91 ?_; intro gb713 hg w1001 BK713 hb; have GW713 := zg (w := w) hg; replace HB := zB hb; have NB712_713 := zn hg BK712; have NB713_712 := zm hg BK712; replace BK712 := zk BK712 hb; clear hb hg; have hnb26 := NB712_713.out; have hnc26 := NB713_712.out; have ⟨_, _, _, _, _, _, _, _, _, _⟩ := cz5 BK712; have ⟨_, _, _, _, _, _, _, _, _, _⟩ := cz5 BK713) | ((with_reducible refine zd 19 rfl ?_); refine zgl Tryz.func95 (laws_eqClue.calls k a0_2 _ _ l0_3 a1_2 _ _ l1_3 _ _ (zC HR0_3) HC0_3.out (zC HR1_3) HC1_3.out A5.out) ?_; rintro e w1002 ⟨rfl, hb⟩; refine ⟨_, rfl, ?_⟩; replace BK712 := zk BK712 hb; replace BK713 := zk BK713 hb; replace HB := zB hb) | ((with_reducible refine zd 3 rfl ?_); refine zbx (w := w) #[.int .i64 a1_0, .int .i64 a1_1, .int .i64 a1_2, .slice A1_3 l1_3.length c1_3, .int .i64 a1_4] 91 ?_; intro gb713 hg w1001 BK713 hb; have GW713 := zg (w := w) hg; replace HB := zB hb; have NB712_713 := zn hg BK712; have NB713_712 := zm hg BK712; replace BK712 := zk BK712 hb; clear hb hg; have hnb32 := NB712_713.out; have hnc32 := NB713_712.out; have ⟨_, _, _, _, _, _, _, _, _, _⟩ := cz5 BK712; have ⟨_, _, _, _, _, _, _, _, _, _⟩ := cz5 BK713) | ((with_reducible refine zd 3 rfl ?_); refine zbx (w := w) #[.int .i64 a1_0, .int .i64 a1_1, .int .i64 a1_2, .slice A1_3 l1_3.length c1_3, .int .i64 a1_4] 91 ?_; intro gb713 hg w1001 BK713 hb; have GW713 := zg (w := w) hg; replace HB := zB hb; have NB712_713 := zn hg BK712; have NB713_712 := zm hg BK712; replace BK712 := zk BK712 hb; clear hb hg; have hnb37 := NB712_713.out; have hnc37 := NB713_712.out; have ⟨_, _, _, _, _, _, _, _, _, _⟩ := cz5 BK712; have ⟨_, _, _, _, _, _, _, _, _, _⟩ := cz5 BK713))
  go_ret
  exact ⟨er, bel⟩

/-! ### laws_eqCorrectionS: function 28 -/
def laws_eqCorrectionS.l0 : Nat → List (S91) → List (S91) → Int → Option (Bool)
 | 0, _, _, _ => none
 | k + 1, a, b, c => if c < (a.length : Int) then (if 0 ≤ c then (if c < (b.length : Int) then ((laws_eqCorrection.f k ((rd_T91 a c).f0) ((rd_T91 a c).f1) ((rd_T91 a c).f2.f0) ((rd_T91 a c).f2.f1) ((rd_T91 a c).f3) ((rd_T91 b c).f0) ((rd_T91 b c).f1) ((rd_T91 b c).f2.f0) ((rd_T91 b c).f2.f1) ((rd_T91 b c).f3)).bind fun d => (if d = true then (laws_eqCorrectionS.l0 k a b (wrap64 (c + 1))) else (some false))) else (none)) else (none)) else (some true)
def laws_eqCorrectionS.f (k : Nat) (a b : List (S91)) : Option (Bool) := if (a.length : Int) = (b.length : Int) then (laws_eqCorrectionS.l0 k a b 0) else (some false)
def laws_eqCorrectionS.T6 : Bool × List (List Nat × List Nat) := (true, [([], []), ([], []), ([0, 1], [0, 1]), ([2], [2]), ([], []), ([], []), ([4, 5], [4, 5]), ([6], [6]), ([3, 7], [3, 7]), ([8], [8])])
theorem laws_eqCorrectionS.tab6 : rtab .any (opsOf Tryz.f28 6) = laws_eqCorrectionS.T6 := by kernel_rfl
set_option maxHeartbeats 8000000 in
set_option maxRecDepth 100000 in
theorem laws_eqCorrectionS.calls (k : Nat) (A0 : Option Addr) (c0 : Nat) (l0 : List (S91)) (A1 : Option Addr) (c1 : Nat) (l1 : List (S91)) (r : Bool) (w : World) (hr0 : Kd.C k91 w A0 l0.length l0) (hc0 : l0.length ≤ c0) (hr1 : Kd.C k91 w A1 l1.length l1) (hc1 : l1.length ≤ c1) (H : laws_eqCorrectionS.f k l0 l1 = some r) :
  Calls Tryz.prog 28 #[.slice A0 l0.length c0, .slice A1 l1.length c1] w fun e w' => e = .returned (.bool r) ∧ Below w.heap.size w w' := by
 have hu91 := Tryz.underlying91
 have HR0 := Aside0.mk hr0
 have HC0 := Aside0.mk hc0
 clear hr0 hc0
 have HR1 := Aside0.mk hr1
 have HC1 := Aside0.mk hc1
 clear hr1 hc1
 have HB := Aside0.mk (Below.refl w.heap.size w)
 unfold laws_eqCorrectionS.f at H
 by_cases c3 : (l0.length : Int) = (l1.length : Int)
 ·
  rw [if_pos c3] at H
  have c3b0 : ((l0.length : Int) == (l1.length : Int)) = true := beq_iff_eq.mpr c3
  have c3b1 : ((l0.length : Int) != (l1.length : Int)) = false := bne_eq_false_iff_eq.mpr c3
  have c3b2 : (l0.length == l1.length) = true := by first | simpa using c3 | (simp at c3 ⊢; omega)
  clear c3
  have H' := Aside0.mk H
  clear H
  go_enter Tryz.func28, Tryz.ntmps28
  go_wp2
  go_loopg [5] k (fun kq v5 w' => ∃ (x5_1 : Int), v5 = .int .i64 x5_1 ∧ Aside0 (laws_eqCorrectionS.l0 kq l0 l1 x5_1 = some r) ∧ Aside0 (kq ≤ k) ∧ Aside0 (Below w.heap.size w w'))
  case atStart => exact ⟨(0), rf, H', ⟨Nat.le_refl _⟩, ⟨bel⟩⟩
  case round =>
   clear H'
   obtain ⟨x5_1, rfl, HA, HK1, HB⟩ := hrel
   cases gk with
   | zero => exact absurd HA.out (by simp [laws_eqCorrectionS.l0])
   | succ k1 =>
    have H := HA.out
    clear HA
    simp only [laws_eqCorrectionS.l0] at H
    replace H := zc H
    rcases H with ⟨c4b0, H⟩ | ⟨c4b0, H⟩
    ·
     replace H := zr H
     obtain ⟨c5b0, H⟩ := H
     replace H := zr H
     obtain ⟨c6b0, H⟩ := H
     replace H := zs H
     obtain ⟨t717, A7, H⟩ := H
     replace H := zb H
     rcases H with ⟨rfl, H⟩ | ⟨rfl, H⟩
     ·
      have H' := Aside0.mk H
      clear H
      try go_wp2
      replace HB := zBd HB
      obtain ⟨p715, q715, ad715, A715_3, c715_3, e715, hx715_0, hx715_1, hx715_2, hx715_3, hx715_4, hl715_3, hi715_3⟩ := zx (at_T91 HR0.out x5_1)
      have hw715_4 := hx715_4
      have hw715_3 := hx715_3
      have hw715_2 := hx715_2
      have hw715_1 := hx715_1
      have hw715_0 := hx715_0
      cases e715
      replace hx715_0 := zh HB hx715_0
      replace hx715_1 := zh HB hx715_1
      replace hx715_2 := zh HB hx715_2
      replace hx715_3 := zh HB hx715_3
      replace hx715_4 := zh HB hx715_4
      have HR715_3 := Aside0.mk hi715_3
      have HC715_3 := Aside0.mk hl715_3
      clear hi715_3 hl715_3
      obtain ⟨p716, q716, ad716, A716_3, c716_3, e716, hx716_0, hx716_1, hx716_2, hx716_3, hx716_4, hl716_3, hi716_3⟩ := zx (at_T91 HR1.out x5_1)
      have hw716_4 := hx716_4
      have hw716_3 := hx716_3
      have hw716_2 := hx716_2
      have hw716_1 := hx716_1
      have hw716_0 := hx716_0
      cases e716
      replace hx716_0 := zh HB hx716_0
      replace hx716_1 := zh HB hx716_1
      replace hx716_2 := zh HB hx716_2
      replace hx716_3 := zh HB hx716_3
      replace hx716_4 := zh HB hx716_4
      have HR716_3 := Aside0.mk hi716_3
      have HC716_3 := Aside0.mk hl716_3
      clear hi716_3 hl716_3
      refine zst 10 laws_eqCorrectionS.tab6 (zhc (((HB.out.cell (World.block_lt_of_cell? w _ hw715_0)).trans hw715_0)) <| zhc (((HB.out.cell (World.block_lt_of_cell? w _ hw715_1)).trans hw715_1)) <| zhc (((HB.out.cell (World.block_lt_of_cell? w _ hw715_2)).trans hw715_2)) <| zhc (((HB.out.cell (World.block_lt_of_cell? w _ hw715_3)).trans hw715_3)) <| zhc (((HB.out.cell (World.block_lt_of_cell? w _ hw715_4)).trans hw715_4)) <| zhc (((HB.out.cell (World.block_lt_of_cell? w _ hw716_0)).trans hw716_0)) <| zhc (((HB.out.cell (World.block_lt_of_cell? w _ hw716_1)).trans hw716_1)) <| zhc (((HB.out.cell (World.block_lt_of_cell? w _ hw716_2)).trans hw716_2)) <| zhc (((HB.out.cell (World.block_lt_of_cell? w _ hw716_3)).trans hw716_3)) <| zhc (((HB.out.cell (World.block_lt_of_cell? w _ hw716_4)).trans hw716_4)) <| zn0) fun hHeld HT_ => ?_
      generalize wr.drew = w9 at HB HR715_3 HR716_3 hx715_0 hx715_1 hx715_2 hx715_3 hx715_4 hx716_0 hx716_1 hx716_2 hx716_3 hx716_4 hHeld ⊢
      repeat (first | refine zs1 ?_ | (refine zcl Tryz.func60 (laws_eqCorrection.calls k1 ((rd_T91 l0 x5_1).f0) ((rd_T91 l0 x5_1).f1) ((rd_T91 l0 x5_1).f2.f0) _ _ ((rd_T91 l0 x5_1).f2.f1) ((rd_T91 l0 x5_1).f3) ((rd_T91 l1 x5_1).f0) ((rd_T91 l1 x5_1).f1) ((rd_T91 l1 x5_1).f2.f0) _ _ ((rd_T91 l1 x5_1).f2.f1) ((rd_T91 l1 x5_1).f3) true _ (zC HR715_3) HC715_3.out (zC HR716_3) HC716_3.out A7.out) ?_; rintro e w10 ⟨rfl, hb⟩; replace HB := zB hb; refine ⟨_, rfl, zHb hb hHeld, _, znb, fun hHeld => ?_⟩))
      refine zdn ?_
      try go_wp2
      go_roundg k1
      case measure => have := HK1.out; omega
      case rel => exact ⟨(wrap64 (x5_1 + 1)), rf, H', ⟨by have := HK1.out; omega⟩, ⟨bel⟩⟩
     ·
      obtain rfl := Option.some.inj H
      try go_wp2
      replace HB := zBd HB
      obtain ⟨p715, q715, ad715, A715_3, c715_3, e715, hx715_0, hx715_1, hx715_2, hx715_3, hx715_4, hl715_3, hi715_3⟩ := zx (at_T91 HR0.out x5_1)
      have hw715_4 := hx715_4
      have hw715_3 := hx715_3
      have hw715_2 := hx715_2
      have hw715_1 := hx715_1
      have hw715_0 := hx715_0
      cases e715
      replace hx715_0 := zh HB hx715_0
      replace hx715_1 := zh HB hx715_1
      replace hx715_2 := zh HB hx715_2
      replace hx715_3 := zh HB hx715_3
      replace hx715_4 := zh HB hx715_4
      have HR715_3 := Aside0.mk hi715_3
      have HC715_3 := Aside0.mk hl715_3
      clear hi715_3 hl715_3
      obtain ⟨p716, q716, ad716, A716_3, c716_3, e716, hx716_0, hx716_1, hx716_2, hx716_3, hx716_4, hl716_3, hi716_3⟩ := zx (at_T91 HR1.out x5_1)
      have hw716_4 := hx716_4
      have hw716_3 := hx716_3
      have hw716_2 := hx716_2
      have hw716_1 := hx716_1
      have hw716_0 := hx716_0
      cases e716
      replace hx716_0 := zh HB hx716_0
      replace hx716_1 := zh HB hx716_1
      replace hx716_2 := zh HB hx716_2
      replace hx716_3 := zh HB hx716_3
      replace hx716_4 := zh HB hx716_4
      have HR716_3 := Aside0.mk hi716_3
      have HC716_3 := Aside0.mk hl716_3
      clear hi716_3 hl716_3
      refine zst 10 laws_eqCorrectionS.tab6 (zhc (((HB.out.cell (World.block_lt_of_cell? w _ hw715_0)).trans hw715_0)) <| zhc (((HB.out.cell (World.block_lt_of_cell? w _ hw715_1)).trans hw715_1)) <| zhc (((HB.out.cell (World.block_lt_of_cell? w _ hw715_2)).trans hw715_2)) <| zhc (((HB.out.cell (World.block_lt_of_cell? w _ hw715_3)).trans hw715_3)) <| zhc (((HB.out.cell (World.block_lt_of_cell? w _ hw715_4)).trans hw715_4)) <| zhc (((HB.out.cell (World.block_lt_of_cell? w _ hw716_0)).trans hw716_0)) <| zhc (((HB.out.cell (World.block_lt_of_cell? w _ hw716_1)).trans hw716_1)) <| zhc (((HB.out.cell (World.block_lt_of_cell? w _ hw716_2)).trans hw716_2)) <| zhc (((HB.out.cell (World.block_lt_of_cell? w _ hw716_3)).trans hw716_3)) <| zhc (((HB.out.cell (World.block_lt_of_cell? w _ hw716_4)).trans hw716_4)) <| zn0) fun hHeld HT_ => ?_
      generalize wr.drew = w11 at HB HR715_3 HR716_3 hx715_0 hx715_1 hx715_2 hx715_3 hx715_4 hx716_0 hx716_1 hx716_2 hx716_3 hx716_4 hHeld ⊢
      repeat (first | refine zs1 ?_ | (refine zcl Tryz.func60 (laws_eqCorrection.calls k1 ((rd_T91 l0 x5_1).f0) ((rd_T91 l0 x5_1).f1) ((rd_T91 l0 x5_1).f2.f0) _ _ ((rd_T91 l0 x5_1).f2.f1) ((rd_T91 l0 x5_1).f3) ((rd_T91 l1 x5_1).f0) ((rd_T91 l1 x5_1).f1) ((rd_T91 l1 x5_1).f2.f0) _ _ ((rd_T91 l1 x5_1).f2.f1) ((rd_T91 l1 x5_1).f3) false _ (zC HR715_3) HC715_3.out (zC HR716_3) HC716_3.out A7.out) ?_; rintro e w12 ⟨rfl, hb⟩; replace HB := zB hb; refine ⟨_, rfl, zHb hb hHeld, _, znb, fun hHeld => ?_⟩))
      refine zdn ?_
      try go_wp2
      go_ret
      exact ⟨er, bel⟩
    ·
     obtain rfl := Option.some.inj H
     go_wp2
     go_ret
     exact ⟨er, bel⟩
 ·
  rw [if_neg c3] at H
  have c3b0 : ((l0.length : Int) == (l1.length : Int)) = false := beq_eq_false_iff_ne.mpr c3
  have c3b1 : ((l0.length : Int) != (l1.length : Int)) = true := bne_iff_ne.mpr c3
  have c3b2 : (l0.length == l1.length) = false := by first | simpa using c3 | (simp at c3 ⊢; omega)
  obtain rfl := Option.some.inj H
  go_enter Tryz.func28, Tryz.ntmps28
  go_wp2
  go_ret
  exact ⟨er, bel⟩

/-! ### laws_markIntS: function 31 -/
def laws_markIntS.l0 : Nat → List Int → Int → Int → Option (Int × List Int)
 | 0, _, _, _ => none
 | k + 1, a, b, c => if c < (a.length : Int) then (if 0 ≤ c then (laws_markIntS.l0 k (a.set (c : Int).toNat b) (wrap64 (b + 1)) (wrap64 (c + 1))) else (none)) else (some (b, a))
def laws_markIntS.f (k : Nat) (a : List Int) (b : Int) : Option (Int × List Int) := laws_markIntS.l0 k a b 0
set_option maxHeartbeats 8000000 in
set_option maxRecDepth 100000 in
theorem laws_markIntS.calls (k : Nat) (P0_ : Nat → Prop) (u9000_ : Value) (l0 : List Int) (a1 r1 : Int) (r2 : List Int) (w0 w : World) (hB : Below w0.heap.size w0 w) (ho0 : Kd.R (Kd.int .i64) 3 w w0.heap.size P0_ u9000_ l0) (H : laws_markIntS.f k l0 a1 = some (r1, r2)) :
  Calls Tryz.prog 31 #[u9000_, .int .i64 a1] w fun e w' => e = .returned (.int .i64 r1) ∧ Kd.R (Kd.int .i64) 3 w' w0.heap.size (fun k_ => (P0_ k_ ∨ w.heap.size ≤ k_)) u9000_ r2 ∧ Below w0.heap.size w0 w' ∧ Kept w w' (fun k_ => P0_ k_) := by
 have HO0 := Aside0.mk (show Kd.R (Kd.int .i64) 3 w w0.heap.size (fun k_ => (P0_ k_ ∨ w.heap.size ≤ k_)) u9000_ l0 from Kd.R_mono ho0 (fun k_ hk => (.inl hk)))
 have HK := Aside0.mk (Kept.refl w (fun k_ => P0_ k_))
 have HW0 := Aside0.mk hB.size
 have HB := Aside0.mk hB
 clear hB
 unfold laws_markIntS.f at H
 have H' := Aside0.mk H
 clear H
 go_enter Tryz.func31, Tryz.ntmps31
 go_wp2
 go_loopg [1, 5] k (fun kq v1 v5 w' => ∃ (x0_1 : List Int) (x1_1 : Int) (x5_1 : Int), v1 = .int .i64 x1_1 ∧ v5 = .int .i64 x5_1 ∧ Aside0 (laws_markIntS.l0 kq x0_1 x1_1 x5_1 = some (r1, r2)) ∧ Aside0 (kq ≤ k) ∧ Aside0 (Kd.R (Kd.int .i64) 3 w' w0.heap.size (fun k_ => (P0_ k_ ∨ w.heap.size ≤ k_)) u9000_ x0_1) ∧ Aside0 (Kept w w' (fun k_ => P0_ k_)) ∧ Aside0 (Below w0.heap.size w0 w'))
 case atStart => exact ⟨(l0), (a1), (0), rf, rf, H', ⟨Nat.le_refl _⟩, ⟨kr HO0⟩, ⟨by repeat (first | (with_reducible first | exact HK.out | apply Kept.alloc | apply Kept.drewN | apply Kept.drew) | exact HK.out)⟩, ⟨bel⟩⟩
 case round =>
  clear H'
  obtain ⟨x0_1, x1_1, x5_1, rfl, rfl, HA, HK1, HO_0, HK, HB⟩ := hrel
  cases gk with
  | zero => exact absurd HA.out (by simp [laws_markIntS.l0])
  | succ k1 =>
   have H := HA.out
   clear HA
   simp only [laws_markIntS.l0] at H
   replace H := zc H
   rcases H with ⟨c3b0, H⟩ | ⟨c3b0, H⟩
   ·
    replace H := zr H
    obtain ⟨c4b0, H⟩ := H
    generalize hy718 : (x0_1.set (x5_1 : Int).toNat x1_1 : List Int) = y718 at H
    have Ny718 := Aside0.mk hy718.symm
    clear hy718
    have H' := Aside0.mk H
    clear H
    obtain ⟨Ao6, co6, eo6⟩ := Kd.R_slice HO_0.out
    subst eo6
    have p5 : 0 ≤ (x5_1 : Int) := of_decide_eq_true asm
    have q5 : (x5_1 : Int) < ((x0_1.length : Int) : Int) := of_decide_eq_true asm
    obtain ⟨go5, co5, eo5, gb5, gl5, cl5, HG5⟩ := Kd.R_form HO_0.out (by omega)
    (first | cases eo5 | (injection eo5 with ea_ en_ ec_; (first | subst ea_ | (injection ea_ with ea_; subst ea_)); subst ec_; clear en_))
    have GB5 := Aside0.mk gb5
    have GG5 := Aside0.mk HG5
    clear gb5 gl5 HG5
    have HMgo5 := Aside0.mk (show (P0_ go5 ∨ w.heap.size ≤ go5) from (HO_0.out.1 _ rfl))
    obtain ⟨hx5_0, hf5_0⟩ := Kd.R_celln 0 HO_0.out (x5_1 : Int) p5 q5
    replace p5 := eq_true p5
    replace q5 := eq_true q5
    have HP7 := Kd.R_putg HO_0.out (x5_1 : Int) x1_1
    go_wp2_with (first | ((with_reducible refine gate_store (t := 3) (p := 15) rfl ?_); refine store_event (t := 3) (p := 15) (v := ?vo_w8) (w1 := (wr.setCell ⟨go5, (x5_1 : Int).toNat, none⟩ (.int .i64 x1_1))) ?hg ?ho ?hn ?hr ?_; (case ho => rfl); (case hg => rfl); (case hn => rfl); (case hr => first | (go_simp; done) | (go_simp; rfl)); intro w8 hw; have hg : wr.grownBy w8 (some go5) := (by rw [hw]; exact HP7.2); have hp_ : Kd.R (Kd.int .i64) 3 w8 w0.heap.size (fun k_ => (P0_ k_ ∨ w.heap.size ≤ k_)) (.slice (some ⟨go5, 0, none⟩) x0_1.length co6) y718 := (by rw [hw, Ny718.out]; exact HP7.1); clear HP7; replace HB := Aside0.mk ((by rw [hw]; exact below_set (HB.out) GB5.out : Below w0.heap.size w0 w8)); replace HK := Aside0.mk (Kept.of_grown (S := (fun k_ => P0_ k_)) hg (by repeat (first | (with_reducible first | exact HK.out | apply Kept.alloc | apply Kept.drewN | apply Kept.drew) | exact HK.out)) (fun k_ e_ => (HO_0.out.1 k_ e_))); replace HO_0 := Aside0.mk hp_; clear hg hw hp_))
    go_roundg k1
    case measure => have := HK1.out; omega
    case rel => exact ⟨(y718), (wrap64 (x1_1 + 1)), (wrap64 (x5_1 + 1)), rf, rf, H', ⟨by have := HK1.out; omega⟩, ⟨kr HO_0⟩, ⟨by repeat (first | (with_reducible first | exact HK.out | apply Kept.alloc | apply Kept.drewN | apply Kept.drew) | exact HK.out)⟩, ⟨bel⟩⟩
   ·
    simp only [Option.some.injEq, Prod.mk.injEq] at H
    obtain ⟨rfl, rfl⟩ := H
    obtain ⟨Ao9, co9, eo9⟩ := Kd.R_slice HO_0.out
    subst eo9
    go_wp2
    go_ret
    exact ⟨er, kr HO_0, bel, by repeat (first | (with_reducible first | exact HK.out | apply Kept.alloc | apply Kept.drewN | apply Kept.drew) | exact HK.out)⟩

end Go.Proofs.YtpcdfjcbjbkliaaGreat.E
