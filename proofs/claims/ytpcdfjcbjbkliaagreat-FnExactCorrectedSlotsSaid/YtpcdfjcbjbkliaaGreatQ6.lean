import Derived.Test.YtpcdfjcbjbkliaaGreatSq
import Derived.Test.YtpcdfjcbjbkliaaGreatQ0
import Derived.Test.YtpcdfjcbjbkliaaGreatQ4
import Derived.Test.YtpcdfjcbjbkliaaGreatQ5
namespace Go.Proofs.YtpcdfjcbjbkliaaGreat.E
open Go.RowKit Go.Proofs.YtpcdfjcbjbkliaaGreatW.PrintWords Go.Proofs.YtpcdfjcbjbkliaaGreatW.PrintLast Go.Proofs.YtpcdfjcbjbkliaaGreatW.PrintMore
attribute [local go_sem] max2_int min2_int max_two min_two max_three min_three max_four min_four
set_option linter.unusedVariables false
set_option linter.unusedSimpArgs false

/-! ### spec_l8From: function 112 -/
mutual
def spec_l8From.j0 : Nat → Int → Int → Int → Int → Int → Int → ByteArray → Option (Int)
 | 0, _, _, _, _, _, _, _ => none
 | k + 1, a, b, c, d, e, f, g => if 0 ≤ a then (if a < (g.size : Int) then (if (bt g a) = 46 then (if c > 0 then (if 0 ≤ (wrap64 (a - b)) then (if (wrap64 (a - b)) < (g.size : Int) then (spec_l8From.j1 k a b c d ((bt g (wrap64 (a - b))) == 46) e f g) else (none)) else (none)) else (spec_l8From.j1 k a b c d false e f g)) else (spec_l8From.j1 k a b c d true e f g)) else (none)) else (none)
def spec_l8From.j1 : Nat → Int → Int → Int → Int → Bool → Int → Int → ByteArray → Option (Int)
 | 0, _, _, _, _, _, _, _, _ => none
 | k + 1, a, b, c, d, e, f, g, h => if e = true then (some 0) else (spec_l8From.l0 k a b c d 0 f g h)
def spec_l8From.l0 : Nat → Int → Int → Int → Int → Int → Int → Int → ByteArray → Option (Int)
 | 0, _, _, _, _, _, _, _, _ => none
 | k + 1, a, b, c, d, e, f, g, h => if (wrap64 (c + e)) < d then (if 0 ≤ (wrap64 (a + (wrap64 (e * b)))) then (if (wrap64 (a + (wrap64 (e * b)))) < (h.size : Int) then (if (bt h (wrap64 (a + (wrap64 (e * b))))) = 46 then (spec_l8From.l0 k a b c d (wrap64 (e + 1)) f g h) else (some e)) else (none)) else (none)) else (some e)
end
def spec_l8From.f (k : Nat) (a b : Int) (c : ByteArray) (d : Int) (e : Bool) : Option (Int) := if b = 0 then (none) else (if e = true then (spec_l8From.j0 k d b (wrap64 (Int.tdiv d b)) a a b c) else (spec_l8From.j0 k d 1 (Int.tmod d b) b a b c))
set_option maxHeartbeats 8000000 in
set_option maxRecDepth 100000 in
theorem spec_l8From.calls (k : Nat) (a0_0 a0_1 : Int) (a0_2 : ByteArray) (a1 : Int) (a2 : Bool) (r : Int) (w : World) (H : spec_l8From.f k a0_0 a0_1 a0_2 a1 a2 = some r) :
  Calls Tryz.prog 112 #[.agg #[.int .i64 a0_0, .int .i64 a0_1, .string a0_2], .int .i64 a1, .bool a2] w fun e w' => e = .returned (.int .i64 r) ∧ Below w.heap.size w w' := by
 have hu32 := Tryz.underlying32
 have HB := Aside0.mk (Below.refl w.heap.size w)
 unfold spec_l8From.f at H
 by_cases c4 : a0_1 = 0
 ·
  rw [if_pos c4] at H
  exact absurd H (by simp)
 ·
  rw [if_neg c4] at H
  have c4b0 : (a0_1 == 0) = false := beq_eq_false_iff_ne.mpr c4
  have c4b1 : (a0_1 != 0) = true := bne_iff_ne.mpr c4
  have HC5 := Aside0.mk H
  clear H
  go_enter Tryz.func112, Tryz.ntmps112
  go_upto_if 17 with (first | ((with_reducible refine zd 3 rfl ?_); refine zbx (w := w) #[.int .i64 a0_0, .int .i64 a0_1, .string a0_2] 32 ?_; intro gb207 hg w6 BK207 hb; have GW207 := zg (w := w) hg; replace HB := zB hb; clear hb hg; have ⟨_, _, _, _, _, _⟩ := cz3 BK207))
  (try simp only [Act.put, List.setIfInBounds_toArray, List.set_cons_zero, List.set_cons_succ])
  go_cut [7, 8, 9] (fun v7 v8 v9 wc => ∃ (kq : Nat) (x7_4 : Int) (x8_4 : Int) (x9_4 : Int), v7 = .int .i64 x7_4 ∧ v8 = .int .i64 x8_4 ∧ v9 = .int .i64 x9_4 ∧ Aside0 (spec_l8From.j0 kq a1 x7_4 x8_4 x9_4 a0_0 a0_1 a0_2 = some r) ∧ Aside0 (kq ≤ k) ∧ Aside0 (wc.heap[gb207]? = some (.cells #[.int .i64 a0_0, .int .i64 a0_1, .string a0_2] 32 (0, 0))) ∧ Aside0 (Below w.heap.size w wc))
  case first =>
   have H := HC5.out
   clear HC5
   replace H := zb H
   rcases H with ⟨rfl, H⟩ | ⟨rfl, H⟩
   ·
    have H' := Aside0.mk H
    clear H
    have ⟨_, _, _, _, _, _⟩ := cz3 BK207
    go_wp2
    go_meet
    case rel => exact ⟨_, (a0_1), (wrap64 (Int.tdiv a1 a0_1)), (a0_0), rf, rf, rf, H', ⟨by first | omega | exact Nat.le_refl _⟩, ⟨bk BK207⟩, ⟨bel⟩⟩
   ·
    have H' := Aside0.mk H
    clear H
    go_wp2
    go_meet
    case rel => exact ⟨_, (1), (Int.tmod a1 a0_1), (a0_1), rf, rf, rf, H', ⟨by first | omega | exact Nat.le_refl _⟩, ⟨bk BK207⟩, ⟨bel⟩⟩
  case rest =>
   clear HC5
   obtain ⟨kq, x7_4, x8_4, x9_4, rfl, rfl, rfl, HA, HJ4, BK207, HB⟩ := hcut
   cases kq with
   | zero => exact absurd HA.out (by simp [spec_l8From.j0])
   | succ kj4 =>
    have H := HA.out
    clear HA
    simp only [spec_l8From.j0] at H
    have HC10 := Aside0.mk H
    clear H
    go_upto_region 8 with (fail)
    go_cut [43] (fun v43 wc => ∃ (kq : Nat) (x43_9 : Bool), v43 = .bool x43_9 ∧ Aside0 (spec_l8From.j1 kq a1 x7_4 x8_4 x9_4 x43_9 a0_0 a0_1 a0_2 = some r) ∧ Aside0 (kq ≤ kj4) ∧ Aside0 (wc.heap[gb207]? = some (.cells #[.int .i64 a0_0, .int .i64 a0_1, .string a0_2] 32 (0, 0))) ∧ Aside0 (Below w.heap.size w wc))
    case first =>
     have H := HC10.out
     clear HC10
     replace H := zr H
     obtain ⟨c11b0, H⟩ := H
     (first | rw [c11b0] | (simp only [i64_w, i32_w]; rw [c11b0]) | skip)
     replace H := zr H
     obtain ⟨c12b0, H⟩ := H
     by_cases c14 : (bt a0_2 a1) = 46
     ·
      rw [if_pos c14] at H
      have c14b0 : ((bt a0_2 a1) == 46) = true := beq_iff_eq.mpr c14
      have c14b1 : ((bt a0_2 a1) != 46) = false := bne_eq_false_iff_eq.mpr c14
      clear c14
      replace H := zc H
      rcases H with ⟨c15b0, H⟩ | ⟨c15b0, H⟩
      ·
       obtain ⟨ji16, hji16⟩ : ∃ j_ : Int, (wrap64 (a1 - x7_4)) = j_ := ⟨_, rfl⟩
       replace H : (if 0 ≤ (ji16) then (if (ji16) < (a0_2.size : Int) then (spec_l8From.j1 kj4 a1 x7_4 x8_4 x9_4 ((bt a0_2 (ji16)) == 46) a0_0 a0_1 a0_2) else (none)) else (none)) = some r := by first | (rw [hji16] at H; exact H) | (simp only [hji16] at H ⊢; exact H)
       have hji16w : (IntKind.i64.wrap (a1 - x7_4)) = ji16 := (i64_w _).trans hji16
       replace H := zr H
       obtain ⟨c17b0, H⟩ := H
       replace H := zr H
       obtain ⟨c18b0, H⟩ := H
       have H' := Aside0.mk H
       clear H
       have ⟨_, _, _, _, _, _⟩ := cz3 BK207
       obtain ⟨p13, q13, hx13⟩ := zxb a0_2 a1
       obtain ⟨p19, q19, hx19⟩ := zxb a0_2 (ji16)
       go_wp2
       go_meet
       case rel => exact ⟨_, (((bt a0_2 (ji16)) == 46)), (by first | rfl | (simp; done) | (simp only [← hji16] <;> (first | rfl | simp)) | (simp [*]; done)), H', ⟨by have := HJ4.out; first | omega | exact Nat.le_refl _⟩, ⟨bk BK207⟩, ⟨bel⟩⟩
      ·
       have H' := Aside0.mk H
       clear H
       have ⟨_, _, _, _, _, _⟩ := cz3 BK207
       obtain ⟨p13, q13, hx13⟩ := zxb a0_2 a1
       go_wp2
       go_meet
       case rel => exact ⟨_, (false), rf, H', ⟨by have := HJ4.out; first | omega | exact Nat.le_refl _⟩, ⟨bk BK207⟩, ⟨bel⟩⟩
     ·
      rw [if_neg c14] at H
      have c14b0 : ((bt a0_2 a1) == 46) = false := beq_eq_false_iff_ne.mpr c14
      have c14b1 : ((bt a0_2 a1) != 46) = true := bne_iff_ne.mpr c14
      have H' := Aside0.mk H
      clear H
      have ⟨_, _, _, _, _, _⟩ := cz3 BK207
      obtain ⟨p13, q13, hx13⟩ := zxb a0_2 a1
      go_wp2
      go_meet
      case rel => exact ⟨_, (true), rf, H', ⟨by have := HJ4.out; first | omega | exact Nat.le_refl _⟩, ⟨bk BK207⟩, ⟨bel⟩⟩
    case rest =>
     clear HC10
     obtain ⟨kq, x43_9, rfl, HA, HJ9, BK207, HB⟩ := hcut
     cases kq with
     | zero => exact absurd HA.out (by simp [spec_l8From.j1])
     | succ kj9 =>
      have H := HA.out
      clear HA
      simp only [spec_l8From.j1] at H
      replace H := zb H
      rcases H with ⟨rfl, H⟩ | ⟨rfl, H⟩
      ·
       obtain rfl := Option.some.inj H
       go_wp2
       go_ret
       exact ⟨er, bel⟩
      ·
       have H' := Aside0.mk H
       clear H
       go_wp2
       go_loopg [10] kj9 (fun kq v10 w' => ∃ (x10_3 : Int), v10 = .int .i64 x10_3 ∧ Aside0 (spec_l8From.l0 kq a1 x7_4 x8_4 x9_4 x10_3 a0_0 a0_1 a0_2 = some r) ∧ Aside0 (kq ≤ kj9) ∧ Aside0 (w'.heap[gb207]? = some (.cells #[.int .i64 a0_0, .int .i64 a0_1, .string a0_2] 32 (0, 0))) ∧ Aside0 (Below w.heap.size w w'))
       case atStart => exact ⟨(0), rf, H', ⟨Nat.le_refl _⟩, ⟨bk BK207⟩, ⟨bel⟩⟩
       case round =>
        clear H'
        obtain ⟨x10_3, rfl, HA, HK3, BK207, HB⟩ := hrel
        cases gk with
        | zero => exact absurd HA.out (by simp [spec_l8From.l0])
        | succ k3 =>
         have H := HA.out
         clear HA
         simp only [spec_l8From.l0] at H
         replace H := zc H
         rcases H with ⟨c24b0, H⟩ | ⟨c24b0, H⟩
         ·
          obtain ⟨ji25, hji25⟩ : ∃ j_ : Int, (wrap64 (a1 + (wrap64 (x10_3 * x7_4)))) = j_ := ⟨_, rfl⟩
          replace H : (if 0 ≤ (ji25) then (if (ji25) < (a0_2.size : Int) then (if (bt a0_2 (ji25)) = 46 then (spec_l8From.l0 k3 a1 x7_4 x8_4 x9_4 (wrap64 (x10_3 + 1)) a0_0 a0_1 a0_2) else (some x10_3)) else (none)) else (none)) = some r := by first | (rw [hji25] at H; exact H) | (simp only [hji25] at H ⊢; exact H)
          have hji25w : (IntKind.i64.wrap (a1 + (wrap64 (x10_3 * x7_4)))) = ji25 := (i64_w _).trans hji25
          replace H := zr H
          obtain ⟨c26b0, H⟩ := H
          replace H := zr H
          obtain ⟨c27b0, H⟩ := H
          by_cases c29 : (bt a0_2 (ji25)) = 46
          ·
           rw [if_pos c29] at H
           have c29b0 : ((bt a0_2 (ji25)) == 46) = true := beq_iff_eq.mpr c29
           have c29b1 : ((bt a0_2 (ji25)) != 46) = false := bne_eq_false_iff_eq.mpr c29
           clear c29
           have H' := Aside0.mk H
           clear H
           have ⟨_, _, _, _, _, _⟩ := cz3 BK207
           obtain ⟨p28, q28, hx28⟩ := zxb a0_2 (ji25)
           go_wp2
           go_roundg k3
           case measure => have := HJ4.out; have := HJ9.out; have := HK3.out; omega
           case rel => exact ⟨(wrap64 (x10_3 + 1)), rf, H', ⟨by have := HJ4.out; have := HJ9.out; have := HK3.out; omega⟩, ⟨bk BK207⟩, ⟨bel⟩⟩
          ·
           rw [if_neg c29] at H
           have c29b0 : ((bt a0_2 (ji25)) == 46) = false := beq_eq_false_iff_ne.mpr c29
           have c29b1 : ((bt a0_2 (ji25)) != 46) = true := bne_iff_ne.mpr c29
           obtain rfl := Option.some.inj H
           have ⟨_, _, _, _, _, _⟩ := cz3 BK207
           obtain ⟨p28, q28, hx28⟩ := zxb a0_2 (ji25)
           go_wp2
           go_ret
           exact ⟨by first | rfl | (simp [errW_none, errW_some] <;> rfl) | (simp only [← hji25]; first | rfl | (simp [errW_none, errW_some] <;> rfl)) | (simp [*, errW_none, errW_some] <;> rfl), bel⟩
         ·
          obtain rfl := Option.some.inj H
          go_wp2
          go_ret
          exact ⟨er, bel⟩

/-! ### spec_SlotsOf: function 87 -/
mutual
def spec_SlotsOf.l0 : Nat → List (S132) → Int → Int → Int → Int → ByteArray → Option ((List (S132)))
 | 0, _, _, _, _, _, _ => none
 | k + 1, a, b, c, d, e, f => if c < (f.size : Int) then ((spec_IsGrid.f k d e f).bind fun g => (spec_SlotsOf.j1 k a b c g d e f)) else (spec_SlotsOf.j1 k a b c false d e f)
def spec_SlotsOf.j1 : Nat → List (S132) → Int → Int → Bool → Int → Int → ByteArray → Option ((List (S132)))
 | 0, _, _, _, _, _, _, _ => none
 | k + 1, a, b, c, d, e, f, g => if d = true then ((spec_l8From.f k e f g c false).bind fun h => ((spec_l8From.f k e f g c true).bind fun i => (if h ≥ 2 then (spec_SlotsOf.j2 k a b c h i true e f g) else (spec_SlotsOf.j2 k a b c h i (decide (i ≥ 2)) e f g)))) else (some a)
def spec_SlotsOf.j2 : Nat → List (S132) → Int → Int → Int → Int → Bool → Int → Int → ByteArray → Option ((List (S132)))
 | 0, _, _, _, _, _, _, _, _, _ => none
 | k + 1, a, b, c, d, e, f, g, h, i => if f = true then (spec_SlotsOf.j3 k a (wrap64 (b + 1)) c d e g h i) else (spec_SlotsOf.j3 k a b c d e g h i)
def spec_SlotsOf.j3 : Nat → List (S132) → Int → Int → Int → Int → Int → Int → ByteArray → Option ((List (S132)))
 | 0, _, _, _, _, _, _, _, _ => none
 | k + 1, a, b, c, d, e, f, g, h => if d ≥ 2 then (if a.length < 4398046511104 then ((some (a ++ [(⟨b, false, c, d⟩ : S132)] : List (S132))).bind fun i => (if e ≥ 2 then (if i.length < 4398046511104 then (spec_SlotsOf.l0 k (i ++ [(⟨b, true, c, e⟩ : S132)]) b (wrap64 (c + 1)) f g h) else (none)) else (spec_SlotsOf.l0 k i b (wrap64 (c + 1)) f g h))) else (none)) else (if e ≥ 2 then (if a.length < 4398046511104 then (spec_SlotsOf.l0 k (a ++ [(⟨b, true, c, e⟩ : S132)]) b (wrap64 (c + 1)) f g h) else (none)) else (spec_SlotsOf.l0 k a b (wrap64 (c + 1)) f g h))
end
def spec_SlotsOf.f (k : Nat) (a b : Int) (c : ByteArray) : Option ((List (S132))) := spec_SlotsOf.l0 k (([] : List (S132))) 0 0 a b c
set_option maxHeartbeats 8000000 in
set_option maxRecDepth 100000 in
theorem spec_SlotsOf.calls (k : Nat) (a0_0 a0_1 : Int) (a0_2 : ByteArray) (r : List (S132)) (w : World) (H : spec_SlotsOf.f k a0_0 a0_1 a0_2 = some r) :
  Calls Tryz.prog 87 #[.agg #[.int .i64 a0_0, .int .i64 a0_1, .string a0_2]] w fun e w' => ∃ v0_ : Value, e = .returned (v0_) ∧ Kd.R k132 132 w' w.heap.size (fun _ => True) v0_ r ∧ Below w.heap.size w w' := by
 have hu32 := Tryz.underlying32
 have hu132 := Tryz.underlying132
 have HB := Aside0.mk (Below.refl w.heap.size w)
 unfold spec_SlotsOf.f at H
 generalize hy209 : (([] : List (S132)) : List (S132)) = y209 at H
 have Ny209 := Aside0.mk hy209.symm
 clear hy209
 have H' := Aside0.mk H
 clear H
 go_enter Tryz.func87, Tryz.ntmps87
 go_wp2_with (first | ((with_reducible refine zd 1 rfl ?_); refine zbx (w := w) #[.int .i64 a0_0, .int .i64 a0_1, .string a0_2] 32 ?_; intro gb208 hg w2 BK208 hb; have GW208 := zg (w := w) hg; replace HB := zB hb; clear hb hg) | ((with_reducible refine gate_dst (N := 8) rfl ?_); refine Kd.R_lit k132 _ 132 ?hg (N := 8) ?hd (xs := ([] : List (S132))) (inner := []) (ok := fun _ => True) (okp := fun _ => True) ?hr ?hp (fun _ hk => hk) trivial (Below.refl _ _) (Nat.le_refl _) (by simp) ?_; (case hd => rfl); (case hg => rfl); (case hr => first | (go_simp; done) | (go_simp; rfl)); (case hp => exact (Reps.none _ _)); intro v210 w3 ho4 hb hg_ hnew_; clear hg_ hnew_; (first | rw [← Ny209.out] at ho4 | (simp only [Int.reduceToNat] at ho4; rw [← Ny209.out] at ho4)); have HO211 := zl2 ho4; replace BK208 := zk BK208 hb; replace HB := zB hb; clear hb ho4))
 go_loopg [3, 4, 5] k (fun kq v3 v4 v5 w' => ∃ (x3_1 : List (S132)) (x4_1 : Int) (x5_1 : Int), v4 = .int .i64 x4_1 ∧ v5 = .int .i64 x5_1 ∧ Aside0 (spec_SlotsOf.l0 kq x3_1 x4_1 x5_1 a0_0 a0_1 a0_2 = some r) ∧ Aside0 (kq ≤ k) ∧ Aside0 (Kd.R k132 132 w' w.heap.size (fun _ => True) v3 x3_1) ∧ Aside0 (w'.heap[gb208]? = some (.cells #[.int .i64 a0_0, .int .i64 a0_1, .string a0_2] 32 (0, 0))) ∧ Aside0 (Below w.heap.size w w'))
 case atStart => exact ⟨(y209), (0), (0), rf, rf, H', ⟨Nat.le_refl _⟩, ⟨kr HO211⟩, ⟨bk BK208⟩, ⟨bel⟩⟩
 case round =>
  clear H'
  obtain ⟨x3_1, x4_1, x5_1, rfl, rfl, HA, HK1, HO_3, BK208, HB⟩ := hrel
  cases gk with
  | zero => exact absurd HA.out (by simp [spec_SlotsOf.l0])
  | succ k1 =>
   have H := HA.out
   clear HA
   simp only [spec_SlotsOf.l0] at H
   have HC5 := Aside0.mk H
   clear H
   go_upto_region 4 with (fail)
   go_cut [17] (fun v17 wc => ∃ (kq : Nat) (x17_4 : Bool), v17 = .bool x17_4 ∧ Aside0 (spec_SlotsOf.j1 kq x3_1 x4_1 x5_1 x17_4 a0_0 a0_1 a0_2 = some r) ∧ Aside0 (kq ≤ k1) ∧ Aside0 (Kd.R k132 132 wc w.heap.size (fun _ => True) u3 x3_1) ∧ Aside0 (wc.heap[gb208]? = some (.cells #[.int .i64 a0_0, .int .i64 a0_1, .string a0_2] 32 (0, 0))) ∧ Aside0 (Below w.heap.size w wc))
   case first =>
    have H := HC5.out
    clear HC5
    replace H := zc H
    rcases H with ⟨c6b0, H⟩ | ⟨c6b0, H⟩
    ·
     (first | rw [c6b0] | (simp only [i64_w, i32_w]; rw [c6b0]) | skip)
     replace H := zs H
     obtain ⟨t212, A7, H⟩ := H
     have H' := Aside0.mk H
     clear H
     have ⟨_, _, _, _, _, _⟩ := cz3 BK208
     go_wp2_with (first | (go_at_call 84; (with_reducible refine (spec_IsGrid.calls k1 a0_0 a0_1 a0_2 t212 _ A7.out).mono ?_); rintro e w9 ⟨rfl, hb⟩; replace HO_3 := zR HO_3 hb; replace BK208 := zk BK208 hb; replace HB := zB hb))
     go_meet
     case rel => exact ⟨_, (t212), rf, H', ⟨by have := HK1.out; first | omega | exact Nat.le_refl _⟩, ⟨kr HO_3⟩, ⟨bk BK208⟩, ⟨bel⟩⟩
    ·
     (first | rw [c6b0] | (simp only [i64_w, i32_w]; rw [c6b0]) | skip)
     have H' := Aside0.mk H
     clear H
     have ⟨_, _, _, _, _, _⟩ := cz3 BK208
     go_wp2
     go_meet
     case rel => exact ⟨_, (false), rf, H', ⟨by have := HK1.out; first | omega | exact Nat.le_refl _⟩, ⟨kr HO_3⟩, ⟨bk BK208⟩, ⟨bel⟩⟩
   case rest =>
    clear HC5
    obtain ⟨kq, x17_4, rfl, HA, HJ4, HO_3, BK208, HB⟩ := hcut
    cases kq with
    | zero => exact absurd HA.out (by simp [spec_SlotsOf.j1])
    | succ kj4 =>
     have H := HA.out
     clear HA
     simp only [spec_SlotsOf.j1] at H
     replace H := zb H
     rcases H with ⟨rfl, H⟩ | ⟨rfl, H⟩
     ·
      replace H := zs H
      obtain ⟨t213, A12, H⟩ := H
      replace H := zs H
      obtain ⟨t214, A13, H⟩ := H
      have HC14 := Aside0.mk H
      clear H
      have ⟨_, _, _, _, _, _⟩ := cz3 BK208
      go_upto_region 8 with (first | ((with_reducible refine zd 22 rfl ?_); refine zgl Tryz.func112 (spec_l8From.calls kj4 a0_0 a0_1 a0_2 x5_1 false t213 _ A12.out) ?_; rintro e w16 ⟨rfl, hb⟩; refine ⟨_, rfl, ?_⟩; replace HO_3 := zR HO_3 hb; replace BK208 := zk BK208 hb; replace HB := zB hb; have ⟨_, _, _, _, _, _⟩ := cz3 BK208) | ((with_reducible refine zd 25 rfl ?_); refine zgl Tryz.func112 (spec_l8From.calls kj4 a0_0 a0_1 a0_2 x5_1 true t214 _ A13.out) ?_; rintro e w18 ⟨rfl, hb⟩; refine ⟨_, rfl, ?_⟩; replace HO_3 := zR HO_3 hb; replace BK208 := zk BK208 hb; replace HB := zB hb))
      (try simp only [Act.put, List.setIfInBounds_toArray, List.set_cons_zero, List.set_cons_succ])
      go_cut [31] (fun v31 wc => ∃ (kq : Nat) (x31_13 : Bool), v31 = .bool x31_13 ∧ Aside0 (spec_SlotsOf.j2 kq x3_1 x4_1 x5_1 t213 t214 x31_13 a0_0 a0_1 a0_2 = some r) ∧ Aside0 (kq ≤ kj4) ∧ Aside0 (Kd.R k132 132 wc w.heap.size (fun _ => True) u3 x3_1) ∧ Aside0 (wc.heap[gb208]? = some (.cells #[.int .i64 a0_0, .int .i64 a0_1, .string a0_2] 32 (0, 0))) ∧ Aside0 (Below w.heap.size w wc))
      case first =>
       have H := HC14.out
       clear HC14
       replace H := zc H
       rcases H with ⟨c19b0, H⟩ | ⟨c19b0, H⟩
       ·
        (first | rw [c19b0] | (simp only [i64_w, i32_w]; rw [c19b0]) | skip)
        have H' := Aside0.mk H
        clear H
        go_wp2
        go_meet
        case rel => exact ⟨_, (true), rf, H', ⟨by have := HK1.out; have := HJ4.out; first | omega | exact Nat.le_refl _⟩, ⟨kr HO_3⟩, ⟨bk BK208⟩, ⟨bel⟩⟩
       ·
        (first | rw [c19b0] | (simp only [i64_w, i32_w]; rw [c19b0]) | skip)
        have H' := Aside0.mk H
        clear H
        go_wp2
        go_meet
        case rel => exact ⟨_, (decide (t214 ≥ 2)), rf, H', ⟨by have := HK1.out; have := HJ4.out; first | omega | exact Nat.le_refl _⟩, ⟨kr HO_3⟩, ⟨bk BK208⟩, ⟨bel⟩⟩
      case rest =>
       clear HC14
       obtain ⟨kq, x31_13, rfl, HA, HJ13, HO_3, BK208, HB⟩ := hcut
       cases kq with
       | zero => exact absurd HA.out (by simp [spec_SlotsOf.j2])
       | succ kj13 =>
        have H := HA.out
        clear HA
        simp only [spec_SlotsOf.j2] at H
        have HC20 := Aside0.mk H
        clear H
        go_upto_if 31 with (fail)
        go_cut [4] (fun v4 wc => ∃ (kq : Nat) (x4_19 : Int), v4 = .int .i64 x4_19 ∧ Aside0 (spec_SlotsOf.j3 kq x3_1 x4_19 x5_1 t213 t214 a0_0 a0_1 a0_2 = some r) ∧ Aside0 (kq ≤ kj13) ∧ Aside0 (Kd.R k132 132 wc w.heap.size (fun _ => True) u3 x3_1) ∧ Aside0 (wc.heap[gb208]? = some (.cells #[.int .i64 a0_0, .int .i64 a0_1, .string a0_2] 32 (0, 0))) ∧ Aside0 (Below w.heap.size w wc))
        case first =>
         have H := HC20.out
         clear HC20
         replace H := zb H
         rcases H with ⟨rfl, H⟩ | ⟨rfl, H⟩
         ·
          have H' := Aside0.mk H
          clear H
          go_wp2
          go_meet
          case rel => exact ⟨_, (wrap64 (x4_1 + 1)), rf, H', ⟨by have := HK1.out; have := HJ4.out; have := HJ13.out; first | omega | exact Nat.le_refl _⟩, ⟨kr HO_3⟩, ⟨bk BK208⟩, ⟨bel⟩⟩
         ·
          have H' := Aside0.mk H
          clear H
          go_wp2
          go_meet
          case rel => exact ⟨_, (x4_1), rf, H', ⟨by have := HK1.out; have := HJ4.out; have := HJ13.out; first | omega | exact Nat.le_refl _⟩, ⟨kr HO_3⟩, ⟨bk BK208⟩, ⟨bel⟩⟩
        case rest =>
         clear HC20
         obtain ⟨kq, x4_19, rfl, HA, HJ19, HO_3, BK208, HB⟩ := hcut
         cases kq with
         | zero => exact absurd HA.out (by simp [spec_SlotsOf.j3])
         | succ kj19 =>
          have H := HA.out
          clear HA
          simp only [spec_SlotsOf.j3] at H
          replace H := zc H
          rcases H with ⟨c22b0, H⟩ | ⟨c22b0, H⟩
          ·
           replace H := zl H
           obtain ⟨LMc23, H⟩ := H
           replace H := zy H
           obtain ⟨y215, Ny215, H⟩ := H
           replace H := zc H
           rcases H with ⟨c24b0, H⟩ | ⟨c24b0, H⟩
           ·
            replace H := zl H
            obtain ⟨LMc25, H⟩ := H
            generalize hy218 : (y215 ++ [(⟨x4_19, true, x5_1, t214⟩ : S132)] : List (S132)) = y218 at H
            have Ny218 := Aside0.mk hy218.symm
            clear hy218
            have H' := Aside0.mk H
            clear H
            go_wp2_with (first | ((with_reducible refine gate_builtin (b := .append) (xs := #[.tmp 36, .tmp 41]) rfl ?_); at_builtin; refine Kd.R_append k132 (w0 := w) w.heap.size rfl (.tmp 36) (.tmp 41) 110 132 (.agg #[(.int .i64 0), (.bool false), (.int .i64 0), (.int .i64 0)]) 32 rfl Tryz.underlying110 info132 rfl (by decide) (by omega) u3 x3_1 (⟨x4_19, false, x5_1, t213⟩ : S132) [.int .i64 x4_19, .bool false, .int .i64 x5_1, .int .i64 t213] (fun _ => True) (fun _ => False) rfl rfl ?aP (fun _ hk => hk.elim) ?aF ?aO ?aB ?aS ?aL ?_; (case aP => exact k132_mkM _ _ _ (⟨x4_19, false, x5_1, t213⟩ : S132)); (case aB => exact bel); (case aF => exact (fun _ _ => trivial)); (case aO => exact (kr HO_3)); (case aS => exact bsz); (case aL => have := LMc23.out; omega); intro v216 w26 ho hb hg hat; rw [← Ny215.out] at ho; replace BK208 := Aside0.mk (blk_grown (bk BK208) hg (Kd.R_ne HO_3.out BK208.out (by decide))); replace HB := Aside0.mk hb; have HO217 := Aside0.mk ho; clear HO_3; clear ho hb hg hat) | ((with_reducible refine gate_builtin (b := .append) (xs := #[.tmp 45, .tmp 50]) rfl ?_); at_builtin; refine Kd.R_append k132 (w0 := w) w.heap.size rfl (.tmp 45) (.tmp 50) 110 132 (.agg #[(.int .i64 0), (.bool false), (.int .i64 0), (.int .i64 0)]) 32 rfl Tryz.underlying110 info132 rfl (by decide) (by omega) v216 y215 (⟨x4_19, true, x5_1, t214⟩ : S132) [.int .i64 x4_19, .bool true, .int .i64 x5_1, .int .i64 t214] (fun _ => True) (fun _ => False) rfl rfl ?aP (fun _ hk => hk.elim) ?aF ?aO ?aB ?aS ?aL ?_; (case aP => exact k132_mkM _ _ _ (⟨x4_19, true, x5_1, t214⟩ : S132)); (case aB => exact bel); (case aF => exact (fun _ _ => trivial)); (case aO => exact (kr HO217)); (case aS => exact bsz); (case aL => have := LMc25.out; omega); intro v219 w27 ho hb hg hat; rw [← Ny218.out] at ho; replace BK208 := Aside0.mk (blk_grown (bk BK208) hg (Kd.R_ne HO217.out BK208.out (by decide))); replace HB := Aside0.mk hb; have HO220 := Aside0.mk ho; clear HO217; clear ho hb hg hat))
            go_roundg kj19
            case measure => have := HK1.out; have := HJ4.out; have := HJ13.out; have := HJ19.out; omega
            case rel => exact ⟨(y218), (x4_19), (wrap64 (x5_1 + 1)), rf, rf, H', ⟨by have := HK1.out; have := HJ4.out; have := HJ13.out; have := HJ19.out; omega⟩, ⟨kr HO220⟩, ⟨bk BK208⟩, ⟨bel⟩⟩
           ·
            have H' := Aside0.mk H
            clear H
            go_wp2_with (first | ((with_reducible refine gate_builtin (b := .append) (xs := #[.tmp 36, .tmp 41]) rfl ?_); at_builtin; refine Kd.R_append k132 (w0 := w) w.heap.size rfl (.tmp 36) (.tmp 41) 110 132 (.agg #[(.int .i64 0), (.bool false), (.int .i64 0), (.int .i64 0)]) 32 rfl Tryz.underlying110 info132 rfl (by decide) (by omega) u3 x3_1 (⟨x4_19, false, x5_1, t213⟩ : S132) [.int .i64 x4_19, .bool false, .int .i64 x5_1, .int .i64 t213] (fun _ => True) (fun _ => False) rfl rfl ?aP (fun _ hk => hk.elim) ?aF ?aO ?aB ?aS ?aL ?_; (case aP => exact k132_mkM _ _ _ (⟨x4_19, false, x5_1, t213⟩ : S132)); (case aB => exact bel); (case aF => exact (fun _ _ => trivial)); (case aO => exact (kr HO_3)); (case aS => exact bsz); (case aL => have := LMc23.out; omega); intro v216 w28 ho hb hg hat; rw [← Ny215.out] at ho; replace BK208 := Aside0.mk (blk_grown (bk BK208) hg (Kd.R_ne HO_3.out BK208.out (by decide))); replace HB := Aside0.mk hb; have HO217 := Aside0.mk ho; clear HO_3; clear ho hb hg hat))
            go_roundg kj19
            case measure => have := HK1.out; have := HJ4.out; have := HJ13.out; have := HJ19.out; omega
            case rel => exact ⟨(y215), (x4_19), (wrap64 (x5_1 + 1)), rf, rf, H', ⟨by have := HK1.out; have := HJ4.out; have := HJ13.out; have := HJ19.out; omega⟩, ⟨kr HO217⟩, ⟨bk BK208⟩, ⟨bel⟩⟩
          ·
           replace H := zc H
           rcases H with ⟨c29b0, H⟩ | ⟨c29b0, H⟩
           ·
            replace H := zl H
            obtain ⟨LMc30, H⟩ := H
            generalize hy221 : (x3_1 ++ [(⟨x4_19, true, x5_1, t214⟩ : S132)] : List (S132)) = y221 at H
            have Ny221 := Aside0.mk hy221.symm
            clear hy221
            have H' := Aside0.mk H
            clear H
            go_wp2_with (first | ((with_reducible refine gate_builtin (b := .append) (xs := #[.tmp 45, .tmp 50]) rfl ?_); at_builtin; refine Kd.R_append k132 (w0 := w) w.heap.size rfl (.tmp 45) (.tmp 50) 110 132 (.agg #[(.int .i64 0), (.bool false), (.int .i64 0), (.int .i64 0)]) 32 rfl Tryz.underlying110 info132 rfl (by decide) (by omega) u3 x3_1 (⟨x4_19, true, x5_1, t214⟩ : S132) [.int .i64 x4_19, .bool true, .int .i64 x5_1, .int .i64 t214] (fun _ => True) (fun _ => False) rfl rfl ?aP (fun _ hk => hk.elim) ?aF ?aO ?aB ?aS ?aL ?_; (case aP => exact k132_mkM _ _ _ (⟨x4_19, true, x5_1, t214⟩ : S132)); (case aB => exact bel); (case aF => exact (fun _ _ => trivial)); (case aO => exact (kr HO_3)); (case aS => exact bsz); (case aL => have := LMc30.out; omega); intro v222 w31 ho hb hg hat; rw [← Ny221.out] at ho; replace BK208 := Aside0.mk (blk_grown (bk BK208) hg (Kd.R_ne HO_3.out BK208.out (by decide))); replace HB := Aside0.mk hb; have HO223 := Aside0.mk ho; clear HO_3; clear ho hb hg hat))
            go_roundg kj19
            case measure => have := HK1.out; have := HJ4.out; have := HJ13.out; have := HJ19.out; omega
            case rel => exact ⟨(y221), (x4_19), (wrap64 (x5_1 + 1)), rf, rf, H', ⟨by have := HK1.out; have := HJ4.out; have := HJ13.out; have := HJ19.out; omega⟩, ⟨kr HO223⟩, ⟨bk BK208⟩, ⟨bel⟩⟩
           ·
            have H' := Aside0.mk H
            clear H
            go_wp2
            go_roundg kj19
            case measure => have := HK1.out; have := HJ4.out; have := HJ13.out; have := HJ19.out; omega
            case rel => exact ⟨(x3_1), (x4_19), (wrap64 (x5_1 + 1)), rf, rf, H', ⟨by have := HK1.out; have := HJ4.out; have := HJ13.out; have := HJ19.out; omega⟩, ⟨kr HO_3⟩, ⟨bk BK208⟩, ⟨bel⟩⟩
     ·
      obtain rfl := Option.some.inj H
      go_wp2
      go_ret
      exact ⟨_, er, kr HO_3, bel⟩

/-! ### spec_IsWord: function 113 -/
def spec_IsWord.l0 : Nat → ByteArray → Int → Option (Bool)
 | 0, _, _ => none
 | k + 1, a, b => if b < (a.size : Int) then (if 0 ≤ b then (if (bt a b) < 97 then (some false) else (if (bt a b) > 122 then (some false) else (spec_IsWord.l0 k a (wrap64 (b + 1))))) else (none)) else (some true)
def spec_IsWord.f (k : Nat) (a : ByteArray) : Option (Bool) := (spec_l1In.f (a.size : Int) 1 8).bind fun b => (if b = true then (spec_IsWord.l0 k a 0) else (some false))
set_option maxHeartbeats 8000000 in
set_option maxRecDepth 100000 in
theorem spec_IsWord.calls (k : Nat) (a0 : ByteArray) (r : Bool) (w : World) (H : spec_IsWord.f k a0 = some r) :
  Calls Tryz.prog 113 #[.string a0] w fun e w' => e = .returned (.bool r) ∧ Drawn0 w w' := by
 unfold spec_IsWord.f at H
 replace H := zs H
 obtain ⟨t224, A2, H⟩ := H
 replace H := zb H
 rcases H with ⟨rfl, H⟩ | ⟨rfl, H⟩
 ·
  have H' := Aside0.mk H
  clear H
  go_enter Tryz.func113, Tryz.ntmps113
  go_wp2_with (first | ((with_reducible refine zd 6 rfl ?_); refine zgl Tryz.func45 (spec_l1In.calls (a0.size : Int) 1 8 true _ A2.out) ?_; rintro e w' ⟨rfl, ⟨nd, rfl⟩⟩; refine ⟨_, rfl, ?_⟩))
  go_loopg [3] k (fun kq v3 w' => ∃ (x3_1 : Int), v3 = .int .i64 x3_1 ∧ Aside0 (spec_IsWord.l0 kq a0 x3_1 = some r) ∧ Aside0 (kq ≤ k) ∧ Drawn0 w w')
  case atStart => exact ⟨(0), rf, H', ⟨Nat.le_refl _⟩, by repeat (first | exact Drawn0.refl _ | apply Drawn0.step)⟩
  case round =>
   clear H'
   obtain ⟨x3_1, rfl, HA, HK1, ⟨m1, rfl⟩⟩ := hrel
   cases gk with
   | zero => exact absurd HA.out (by simp [spec_IsWord.l0])
   | succ k1 =>
    have H := HA.out
    clear HA
    simp only [spec_IsWord.l0] at H
    replace H := zc H
    rcases H with ⟨c4b0, H⟩ | ⟨c4b0, H⟩
    ·
     replace H := zr H
     obtain ⟨c5b0, H⟩ := H
     replace H := zc H
     rcases H with ⟨c7b0, H⟩ | ⟨c7b0, H⟩
     ·
      obtain rfl := Option.some.inj H
      obtain ⟨p6, q6, hx6⟩ := zxb a0 x3_1
      go_wp2
      go_ret
      exact ⟨by first | rfl | (simp; done) | (simp [*]; done), by repeat (first | exact Drawn0.refl _ | apply Drawn0.step)⟩
     ·
      replace H := zc H
      rcases H with ⟨c9b0, H⟩ | ⟨c9b0, H⟩
      ·
       obtain rfl := Option.some.inj H
       obtain ⟨p6, q6, hx6⟩ := zxb a0 x3_1
       obtain ⟨p8, q8, hx8⟩ := zxb a0 x3_1
       go_wp2
       go_ret
       exact ⟨by first | rfl | (simp; done) | (simp [*]; done), by repeat (first | exact Drawn0.refl _ | apply Drawn0.step)⟩
      ·
       have H' := Aside0.mk H
       clear H
       obtain ⟨p6, q6, hx6⟩ := zxb a0 x3_1
       obtain ⟨p8, q8, hx8⟩ := zxb a0 x3_1
       go_wp2
       go_roundg k1
       case measure => have := HK1.out; omega
       case rel => exact ⟨(wrap64 (x3_1 + 1)), rf, H', ⟨by have := HK1.out; omega⟩, by repeat (first | exact Drawn0.refl _ | apply Drawn0.step)⟩
    ·
     obtain rfl := Option.some.inj H
     go_wp2
     go_ret
     exact ⟨by first | rfl | (simp; done) | (simp [*]; done), by repeat (first | exact Drawn0.refl _ | apply Drawn0.step)⟩
 ·
  obtain rfl := Option.some.inj H
  go_enter Tryz.func113, Tryz.ntmps113
  go_wp2_with (first | ((with_reducible refine zd 6 rfl ?_); refine zgl Tryz.func45 (spec_l1In.calls (a0.size : Int) 1 8 false _ A2.out) ?_; rintro e w' ⟨rfl, ⟨nd, rfl⟩⟩; refine ⟨_, rfl, ?_⟩))
  go_ret
  exact ⟨by first | rfl | (simp; done) | (simp [*]; done), by repeat (first | exact Drawn0.refl _ | apply Drawn0.step)⟩

/-! ### spec_Mod: function 168 -/
def spec_Mod.f (a b : Int) : Option (Int) := (spec_l1In.f b 1 1000000000000).bind fun c => (if c = true then (if b = 0 then (none) else (some (Int.tmod (wrap64 ((Int.tmod a b) + b)) b))) else (some 0))
set_option maxHeartbeats 8000000 in
set_option maxRecDepth 100000 in
theorem spec_Mod.calls (a0 a1 r : Int) (w : World) (H : spec_Mod.f a0 a1 = some r) :
  Calls Tryz.prog 168 #[.int .i64 a0, .int .i64 a1] w fun e w' => e = .returned (.int .i64 r) ∧ Drawn0 w w' := by
 unfold spec_Mod.f at H
 replace H := zs H
 obtain ⟨t225, A3, H⟩ := H
 replace H := zb H
 rcases H with ⟨rfl, H⟩ | ⟨rfl, H⟩
 rotate_left
 focus
  obtain rfl := Option.some.inj H
 rotate_right
 focus
  by_cases c5 : a1 = 0
  rotate_left
  focus
   rw [if_neg c5] at H
   have c5b0 : (a1 == 0) = false := beq_eq_false_iff_ne.mpr c5
   have c5b1 : (a1 != 0) = true := bne_iff_ne.mpr c5
   obtain rfl := Option.some.inj H
  rotate_right
  focus
   rw [if_pos c5] at H
   exact absurd H (by simp)
 all_goals
  go_enter Tryz.func168, Tryz.ntmps168
  go_wp2_with (first | ((with_reducible refine zd 6 rfl ?_); refine zgl Tryz.func45 (spec_l1In.calls a1 1 1000000000000 _ _ A3.out) ?_; rintro e w' ⟨rfl, ⟨nd, rfl⟩⟩; refine ⟨_, rfl, ?_⟩))
  go_ret
  exact ⟨by first | rfl | (simp; done) | (simp [*]; done), by repeat (first | exact Drawn0.refl _ | apply Drawn0.step)⟩

/-! ### spec_Hash: function 138 -/
def spec_Hash.l0 : Nat → List Int → Int → Int → Option (Int)
 | 0, _, _, _ => none
 | k + 1, a, b, c => if c < (a.length : Int) then (if 0 ≤ c then ((spec_Mod.f (rd a c) 2147483647).bind fun d => (spec_Hash.l0 k a (Int.tmod (wrap64 ((wrap64 ((wrap64 (b * 1000003)) + d)) + 13)) 2147483647) (wrap64 (c + 1)))) else (none)) else (some b)
def spec_Hash.f (k : Nat) (a : List Int) : Option (Int) := spec_Hash.l0 k a 11 0
set_option maxHeartbeats 8000000 in
set_option maxRecDepth 100000 in
theorem spec_Hash.calls (k : Nat) (A0 : Option Addr) (c0 : Nat) (l0 : List Int) (r : Int) (w : World) (hr0 : Kd.C (Kd.int .i64) w A0 l0.length l0) (hc0 : l0.length ≤ c0) (H : spec_Hash.f k l0 = some r) :
  Calls Tryz.prog 138 #[.slice A0 l0.length c0] w fun e w' => e = .returned (.int .i64 r) ∧ Drawn0 w w' := by
 have HR0 := Aside0.mk hr0
 have HC0 := Aside0.mk hc0
 clear hr0 hc0
 unfold spec_Hash.f at H
 have H' := Aside0.mk H
 clear H
 go_enter Tryz.func138, Tryz.ntmps138
 go_wp2
 go_loopg [3, 4] k (fun kq v3 v4 w' => ∃ (x3_1 : Int) (x4_1 : Int), v3 = .int .i64 x3_1 ∧ v4 = .int .i64 x4_1 ∧ Aside0 (spec_Hash.l0 kq l0 x3_1 x4_1 = some r) ∧ Aside0 (kq ≤ k) ∧ Drawn0 w w')
 case atStart => exact ⟨(11), (0), rf, rf, H', ⟨Nat.le_refl _⟩, by repeat (first | exact Drawn0.refl _ | apply Drawn0.step)⟩
 case round =>
  clear H'
  obtain ⟨x3_1, x4_1, rfl, rfl, HA, HK1, ⟨m1, rfl⟩⟩ := hrel
  cases gk with
  | zero => exact absurd HA.out (by simp [spec_Hash.l0])
  | succ k1 =>
   have H := HA.out
   clear HA
   simp only [spec_Hash.l0] at H
   replace H := zc H
   rcases H with ⟨c2b0, H⟩ | ⟨c2b0, H⟩
   ·
    replace H := zr H
    obtain ⟨c3b0, H⟩ := H
    replace H := zs H
    obtain ⟨t227, A4, H⟩ := H
    have H' := Aside0.mk H
    clear H
    obtain ⟨p226, q226, ad226, e226, hx226_0⟩ := zx (Kd.at_int HR0.out x4_1)
    cases e226
    go_wp2_with (first | ((with_reducible refine zd 17 rfl ?_); refine zgl Tryz.func168 (spec_Mod.calls (rd l0 x4_1) 2147483647 t227 _ A4.out) ?_; rintro e w' ⟨rfl, ⟨nd, rfl⟩⟩; refine ⟨_, rfl, ?_⟩))
    go_roundg k1
    case measure => have := HK1.out; omega
    case rel => exact ⟨(Int.tmod (wrap64 ((wrap64 ((wrap64 (x3_1 * 1000003)) + t227)) + 13)) 2147483647), (wrap64 (x4_1 + 1)), rf, rf, H', ⟨by have := HK1.out; omega⟩, by repeat (first | exact Drawn0.refl _ | apply Drawn0.step)⟩
   ·
    obtain rfl := Option.some.inj H
    go_wp2
    go_ret
    exact ⟨by first | rfl | (simp; done) | (simp [*]; done), by repeat (first | exact Drawn0.refl _ | apply Drawn0.step)⟩

/-! ### spec_LettersOf: function 139 -/
def spec_LettersOf.l0 : Nat → ByteArray → List Int → Int → Option (List Int)
 | 0, _, _, _ => none
 | k + 1, a, b, c => if c < (a.size : Int) then (if 0 ≤ c then (if b.length < 17592186044416 then (spec_LettersOf.l0 k a (b ++ [wrap64 (bt a c)]) (wrap64 (c + 1))) else (none)) else (none)) else (some b)
def spec_LettersOf.f (k : Nat) (a : ByteArray) : Option (List Int) := spec_LettersOf.l0 k a (([] : List Int)) 0
set_option maxHeartbeats 8000000 in
set_option maxRecDepth 100000 in
theorem spec_LettersOf.calls (k : Nat) (a0 : ByteArray) (r : List Int) (w : World) (H : spec_LettersOf.f k a0 = some r) :
  Calls Tryz.prog 139 #[.string a0] w fun e w' => ∃ v0_ : Value, e = .returned (v0_) ∧ Kd.R (Kd.int .i64) 3 w' w.heap.size (fun _ => True) v0_ r ∧ Below w.heap.size w w' := by
 have HB := Aside0.mk (Below.refl w.heap.size w)
 unfold spec_LettersOf.f at H
 generalize hy228 : (([] : List Int) : List Int) = y228 at H
 have Ny228 := Aside0.mk hy228.symm
 clear hy228
 have H' := Aside0.mk H
 clear H
 go_enter Tryz.func139, Tryz.ntmps139
 go_wp2_with (first | ((with_reducible refine gate_dst (N := 5) rfl ?_); refine Kd.R_lit (Kd.int .i64) _ 3 ?hg (N := 5) ?hd (xs := ([] : List Int)) (inner := []) (ok := fun _ => True) (okp := fun _ => True) ?hr ?hp (fun _ hk => hk) trivial (Below.refl _ _) (Nat.le_refl _) (by simp) ?_; (case hd => rfl); (case hg => rfl); (case hr => first | (go_simp; done) | (go_simp; rfl)); (case hp => exact (Reps.none _ _)); intro v229 w2 ho3 hb hg_ hnew_; clear hg_ hnew_; (first | rw [← Ny228.out] at ho3 | (simp only [Int.reduceToNat] at ho3; rw [← Ny228.out] at ho3)); have HO230 := zl2 ho3; replace HB := zB hb; clear hb ho3))
 go_loopg [3, 4] k (fun kq v3 v4 w' => ∃ (x3_1 : List Int) (x4_1 : Int), v4 = .int .i64 x4_1 ∧ Aside0 (spec_LettersOf.l0 kq a0 x3_1 x4_1 = some r) ∧ Aside0 (kq ≤ k) ∧ Aside0 (Kd.R (Kd.int .i64) 3 w' w.heap.size (fun _ => True) v3 x3_1) ∧ Aside0 (Below w.heap.size w w'))
 case atStart => exact ⟨(y228), (0), rf, H', ⟨Nat.le_refl _⟩, ⟨kr HO230⟩, ⟨bel⟩⟩
 case round =>
  clear H'
  obtain ⟨x3_1, x4_1, rfl, HA, HK1, HO_3, HB⟩ := hrel
  cases gk with
  | zero => exact absurd HA.out (by simp [spec_LettersOf.l0])
  | succ k1 =>
   have H := HA.out
   clear HA
   simp only [spec_LettersOf.l0] at H
   replace H := zc H
   rcases H with ⟨c4b0, H⟩ | ⟨c4b0, H⟩
   ·
    replace H := zr H
    obtain ⟨c5b0, H⟩ := H
    replace H := zl H
    obtain ⟨LMc7, H⟩ := H
    generalize hy231 : (x3_1 ++ [wrap64 (bt a0 x4_1)] : List Int) = y231 at H
    have Ny231 := Aside0.mk hy231.symm
    clear hy231
    have H' := Aside0.mk H
    clear H
    obtain ⟨p6, q6, hx6⟩ := zxb a0 x4_1
    go_wp2_with (first | ((with_reducible refine gate_builtin (b := .append) (xs := #[.tmp 12, .tmp 17]) rfl ?_); at_builtin; refine Kd.R_append (Kd.int .i64) (w0 := w) w.heap.size rfl (.tmp 12) (.tmp 17) 25 3 (.int .i64 0) 8 rfl Tryz.underlying25 info3 rfl (by decide) (by omega) u3 x3_1 (wrap64 (bt a0 x4_1)) [.int .i64 (wrap64 (bt a0 x4_1))] (fun _ => True) (fun _ => False) rfl rfl ?aP (fun _ hk => hk.elim) ?aF ?aO ?aB ?aS ?aL ?_; (case aP => exact rfl); (case aB => exact bel); (case aF => exact (fun _ _ => trivial)); (case aO => exact (kr HO_3)); (case aS => exact bsz); (case aL => have := LMc7.out; omega); intro v232 w8 ho hb hg hat; rw [← Ny231.out] at ho; replace HB := Aside0.mk hb; have HO233 := Aside0.mk ho; clear HO_3; clear ho hb hg hat))
    go_roundg k1
    case measure => have := HK1.out; omega
    case rel => exact ⟨(y231), (wrap64 (x4_1 + 1)), rf, H', ⟨by have := HK1.out; omega⟩, ⟨kr HO233⟩, ⟨bel⟩⟩
   ·
    obtain rfl := Option.some.inj H
    go_wp2
    go_ret
    exact ⟨_, er, kr HO_3, bel⟩

end Go.Proofs.YtpcdfjcbjbkliaaGreat.E
