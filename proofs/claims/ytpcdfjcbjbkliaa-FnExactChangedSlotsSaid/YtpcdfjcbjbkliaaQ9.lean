import Derived.Test.YtpcdfjcbjbkliaaSq
import Derived.Test.YtpcdfjcbjbkliaaQ0
import Derived.Test.YtpcdfjcbjbkliaaQ2
import Derived.Test.YtpcdfjcbjbkliaaQ4
import Derived.Test.YtpcdfjcbjbkliaaQ6
namespace Go.Proofs.Ytpcdfjcbjbkliaa.E
open Go.RowKit Go.Proofs.YtpcdfjcbjbkliaaW.PrintWords Go.Proofs.YtpcdfjcbjbkliaaW.PrintLast Go.Proofs.YtpcdfjcbjbkliaaW.PrintMore
attribute [local go_sem] max2_int min2_int max_two min_two max_three min_three max_four min_four
set_option linter.unusedVariables false
set_option linter.unusedSimpArgs false

attribute [local go_sem high] eqA79
/-! ### spec_CellsOf: function 52 -/
mutual
def spec_CellsOf.l0 : Nat → List Int → List (S79) → Int → Int → Int → ByteArray → Int → Bool → Int → Int → Option (List Int)
 | 0, _, _, _, _, _, _, _, _, _, _ => none
 | k + 1, x5, x6, x7, x218000, x218001, x218002, x219000, x219001, x219002, x219003 => if x7 < (x6.length : Int) then (if 0 ≤ x7 then (if (!(((rd_T79 x6 x7).f0) == x219000) || (!(((rd_T79 x6 x7).f1) == x219001) || (!(((rd_T79 x6 x7).f2) == x219002) || (!(((rd_T79 x6 x7).f3) == x219003))))) = true then (spec_CellsOf.l0 k x5 x6 (wrap64 (x7 + 1)) x218000 x218001 x218002 x219000 x219001 x219002 x219003) else (spec_CellsOf.l1 k x5 x6 x7 0 x218000 x218001 x218002 x219000 x219001 x219002 x219003)) else (none)) else (some x5)
def spec_CellsOf.l1 : Nat → List Int → List (S79) → Int → Int → Int → Int → ByteArray → Int → Bool → Int → Int → Option (List Int)
 | 0, _, _, _, _, _, _, _, _, _, _, _ => none
 | k + 1, x5, x6, x7, x8, x218000, x218001, x218002, x219000, x219001, x219002, x219003 => if x8 < x219003 then (if x219001 = true then (if x5.length < 17592186044416 then (spec_CellsOf.l1 k (x5 ++ [wrap64 (x219002 + (wrap64 (x8 * x218001)))]) x6 x7 (wrap64 (x8 + 1)) x218000 x218001 x218002 x219000 x219001 x219002 x219003) else (none)) else (if x5.length < 17592186044416 then (spec_CellsOf.l1 k (x5 ++ [wrap64 (x219002 + x8)]) x6 x7 (wrap64 (x8 + 1)) x218000 x218001 x218002 x219000 x219001 x219002 x219003) else (none))) else (spec_CellsOf.l0 k x5 x6 (wrap64 (x7 + 1)) x218000 x218001 x218002 x219000 x219001 x219002 x219003)
end
def spec_CellsOf.f (k : Nat) (a0_0 : Int) (a0_1 : Int) (a0_2 : ByteArray) (a1_0 : Int) (a1_1 : Bool) (a1_2 : Int) (a1_3 : Int) : Option (List Int) := (spec_SlotsOf.f k a0_0 a0_1 a0_2).bind fun t222 => (spec_CellsOf.l0 k (([] : List Int)) t222 0 a0_0 a0_1 a0_2 a1_0 a1_1 a1_2 a1_3)
set_option maxHeartbeats 8000000 in
set_option maxRecDepth 100000 in
theorem spec_CellsOf.calls (k : Nat) (a0_0 : Int) (a0_1 : Int) (a0_2 : ByteArray) (a1_0 : Int) (a1_1 : Bool) (a1_2 : Int) (a1_3 : Int) (r : List Int) (w : World) (H : spec_CellsOf.f k a0_0 a0_1 a0_2 a1_0 a1_1 a1_2 a1_3 = some r) :
  Calls Try.prog 52 #[.agg #[.int .i64 a0_0, .int .i64 a0_1, .string a0_2], .agg #[.int .i64 a1_0, .bool a1_1, .int .i64 a1_2, .int .i64 a1_3]] w fun e w' => ∃ v0_ : Value, e = .returned (v0_) ∧ Kd.R (Kd.int .i64) 3 w' w.heap.size (fun _ => True) v0_ r ∧ Below w.heap.size w w' := by
 have hu30 := Try.underlying30
 have hu79 := Try.underlying79
 have HB := Aside0.mk (Below.refl w.heap.size w)
 unfold spec_CellsOf.f at H
 generalize hy219 : (([] : List Int) : List Int) = y219 at H
 have Ny219 := Aside0.mk hy219.symm
 clear hy219
 replace H := zs H
 obtain ⟨t222, A3, H⟩ := H
 have H' := Aside0.mk H
 clear H
 go_enter Try.func52, Try.ntmps52
 go_wp2_with (first | ((with_reducible refine zd 2 rfl ?_); refine zbx (w := w) #[.int .i64 a0_0, .int .i64 a0_1, .string a0_2] 30 ?_; intro gb217 hg w4 BK217 hb; have GW217 := zg (w := w) hg; replace HB := zB hb; clear hb hg) | ((with_reducible refine zd 3 rfl ?_); refine zbx (w := w) #[.int .i64 a1_0, .bool a1_1, .int .i64 a1_2, .int .i64 a1_3] 79 ?_; intro gb218 hg w5 BK218 hb; have GW218 := zg (w := w) hg; replace HB := zB hb; have NB217_218 := zn hg BK217; have NB218_217 := zm hg BK217; replace BK217 := zk BK217 hb; clear hb hg) | ((with_reducible refine gate_dst (N := 9) rfl ?_); refine Kd.R_lit (Kd.int .i64) _ 3 ?hg (N := 9) ?hd (xs := ([] : List Int)) (inner := []) (ok := fun _ => True) (okp := fun _ => True) ?hr ?hp (fun _ hk => hk) trivial (Below.refl _ _) (Nat.le_refl _) (by simp) ?_; (case hd => rfl); (case hg => rfl); (case hr => first | (go_simp; done) | (go_simp; rfl)); (case hp => exact (Reps.none _ _)); intro v220 w6 ho7 hb hg_ hnew_; clear hg_ hnew_; (first | rw [← Ny219.out] at ho7 | (simp only [Int.reduceToNat] at ho7; rw [← Ny219.out] at ho7)); have HO221 := zl2 ho7; replace BK217 := zk BK217 hb; replace BK218 := zk BK218 hb; replace HB := zB hb; clear hb ho7; have hnb8 := NB217_218.out; have hnc8 := NB218_217.out; have ⟨_, _, _, _, _, _⟩ := cz3 BK217) | (go_at_call 50; (with_reducible refine (spec_SlotsOf.calls k a0_0 a0_1 a0_2 t222 _ A3.out).mono ?_); rintro e w10 ⟨v223, rfl, ho0, hb⟩; replace HO221 := zR HO221 hb; have HO224 := Aside0.mk (Kd.R_lower (Kd.R_newB ho0 (bk BK218)) bsz); replace BK217 := zk BK217 hb; replace BK218 := zk BK218 hb; replace HB := zB hb))
 repeat (go_quiet (first | ((with_reducible refine zd 2 rfl ?_); refine zbx (w := w) #[.int .i64 a0_0, .int .i64 a0_1, .string a0_2] 30 ?_; intro gb217 hg w4 BK217 hb; have GW217 := zg (w := w) hg; replace HB := zB hb; clear hb hg) | ((with_reducible refine zd 3 rfl ?_); refine zbx (w := w) #[.int .i64 a1_0, .bool a1_1, .int .i64 a1_2, .int .i64 a1_3] 79 ?_; intro gb218 hg w5 BK218 hb; have GW218 := zg (w := w) hg; replace HB := zB hb; have NB217_218 := zn hg BK217; have NB218_217 := zm hg BK217; replace BK217 := zk BK217 hb; clear hb hg) | ((with_reducible refine gate_dst (N := 9) rfl ?_); refine Kd.R_lit (Kd.int .i64) _ 3 ?hg (N := 9) ?hd (xs := ([] : List Int)) (inner := []) (ok := fun _ => True) (okp := fun _ => True) ?hr ?hp (fun _ hk => hk) trivial (Below.refl _ _) (Nat.le_refl _) (by simp) ?_; (case hd => rfl); (case hg => rfl); (case hr => first | (go_simp; done) | (go_simp; rfl)); (case hp => exact (Reps.none _ _)); intro v220 w6 ho7 hb hg_ hnew_; clear hg_ hnew_; (first | rw [← Ny219.out] at ho7 | (simp only [Int.reduceToNat] at ho7; rw [← Ny219.out] at ho7)); have HO221 := zl2 ho7; replace BK217 := zk BK217 hb; replace BK218 := zk BK218 hb; replace HB := zB hb; clear hb ho7; have hnb8 := NB217_218.out; have hnc8 := NB218_217.out; have ⟨_, _, _, _, _, _⟩ := cz3 BK217) | (go_at_call 50; (with_reducible refine (spec_SlotsOf.calls k a0_0 a0_1 a0_2 t222 _ A3.out).mono ?_); rintro e w10 ⟨v223, rfl, ho0, hb⟩; replace HO221 := zR HO221 hb; have HO224 := Aside0.mk (Kd.R_lower (Kd.R_newB ho0 (bk BK218)) bsz); replace BK217 := zk BK217 hb; replace BK218 := zk BK218 hb; replace HB := zB hb)); try go_wp2_with (first | ((with_reducible refine zd 2 rfl ?_); refine zbx (w := w) #[.int .i64 a0_0, .int .i64 a0_1, .string a0_2] 30 ?_; intro gb217 hg w4 BK217 hb; have GW217 := zg (w := w) hg; replace HB := zB hb; clear hb hg) | ((with_reducible refine zd 3 rfl ?_); refine zbx (w := w) #[.int .i64 a1_0, .bool a1_1, .int .i64 a1_2, .int .i64 a1_3] 79 ?_; intro gb218 hg w5 BK218 hb; have GW218 := zg (w := w) hg; replace HB := zB hb; have NB217_218 := zn hg BK217; have NB218_217 := zm hg BK217; replace BK217 := zk BK217 hb; clear hb hg) | ((with_reducible refine gate_dst (N := 9) rfl ?_); refine Kd.R_lit (Kd.int .i64) _ 3 ?hg (N := 9) ?hd (xs := ([] : List Int)) (inner := []) (ok := fun _ => True) (okp := fun _ => True) ?hr ?hp (fun _ hk => hk) trivial (Below.refl _ _) (Nat.le_refl _) (by simp) ?_; (case hd => rfl); (case hg => rfl); (case hr => first | (go_simp; done) | (go_simp; rfl)); (case hp => exact (Reps.none _ _)); intro v220 w6 ho7 hb hg_ hnew_; clear hg_ hnew_; (first | rw [← Ny219.out] at ho7 | (simp only [Int.reduceToNat] at ho7; rw [← Ny219.out] at ho7)); have HO221 := zl2 ho7; replace BK217 := zk BK217 hb; replace BK218 := zk BK218 hb; replace HB := zB hb; clear hb ho7; have hnb8 := NB217_218.out; have hnc8 := NB218_217.out; have ⟨_, _, _, _, _, _⟩ := cz3 BK217) | (go_at_call 50; (with_reducible refine (spec_SlotsOf.calls k a0_0 a0_1 a0_2 t222 _ A3.out).mono ?_); rintro e w10 ⟨v223, rfl, ho0, hb⟩; replace HO221 := zR HO221 hb; have HO224 := Aside0.mk (Kd.R_lower (Kd.R_newB ho0 (bk BK218)) bsz); replace BK217 := zk BK217 hb; replace BK218 := zk BK218 hb; replace HB := zB hb)))
 go_loopg [5, 7] k (fun kq v5 v7 w' => ∃ (x5_1 : List Int) (x7_1 : Int), v7 = .int .i64 x7_1 ∧ Aside0 (spec_CellsOf.l0 kq x5_1 t222 x7_1 a0_0 a0_1 a0_2 a1_0 a1_1 a1_2 a1_3 = some r) ∧ Aside0 (kq ≤ k) ∧ Aside0 (Kd.R (Kd.int .i64) 3 w' w.heap.size (fun _ => True) v5 x5_1) ∧ Aside0 (Kd.R k79 79 w' w.heap.size (fun k_ => k_ ≠ gb218) v223 t222) ∧ Aside0 (w'.heap[gb217]? = some (.cells #[.int .i64 a0_0, .int .i64 a0_1, .string a0_2] 30 (0, 0))) ∧ Aside0 (w'.heap[gb218]? = some (.cells #[.int .i64 a1_0, .bool a1_1, .int .i64 a1_2, .int .i64 a1_3] 79 (0, 0))) ∧ Aside0 (Below w.heap.size w w'))
 case atStart => exact ⟨(y219), (0), rf, H', ⟨Nat.le_refl _⟩, ⟨kr HO221⟩, ⟨by (with_reducible repeat (first | apply Kd.R_alloc | apply Kd.R_drewN | apply Kd.R_drew)); exact Kd.R_mono HO224.out (fun _ hk => hk.2)⟩, ⟨bk BK217⟩, ⟨bk BK218⟩, ⟨bel⟩⟩
 case round =>
  clear H'
  obtain ⟨x5_1, x7_1, rfl, HA, HK1, HO_5, HO_6, BK217, BK218, HB⟩ := hrel
  cases gk with
  | zero => exact absurd HA.out (by simp [spec_CellsOf.l0])
  | succ k1 =>
   have H := HA.out
   clear HA
   simp only [spec_CellsOf.l0] at H
   replace H := zc H
   rcases H with ⟨c11b0, H⟩ | ⟨c11b0, H⟩
   ·
    replace H := zr H
    obtain ⟨c12b0, H⟩ := H
    by_cases c13 : (!(((rd_T79 t222 x7_1).f0) == a1_0) || (!(((rd_T79 t222 x7_1).f1) == a1_1) || (!(((rd_T79 t222 x7_1).f2) == a1_2) || (!(((rd_T79 t222 x7_1).f3) == a1_3))))) = true
    ·
     rw [if_pos c13] at H
     have c13b0 : (!(((rd_T79 t222 x7_1).f0) == a1_0) || (!(((rd_T79 t222 x7_1).f1) == a1_1) || (!(((rd_T79 t222 x7_1).f2) == a1_2) || (!(((rd_T79 t222 x7_1).f3) == a1_3))))) = true := c13
     clear c13
     have H' := Aside0.mk H
     clear H
     obtain ⟨Ao14, co14, eo14⟩ := Kd.R_slice HO_6.out
     subst eo14
     obtain ⟨p225, q225, ad225, e225, hx225_0, hx225_1, hx225_2, hx225_3⟩ := zx (at_T79 (Kd.R_reads' HO_6.out).2.2 x7_1)
     cases e225
     have hnb15 := NB218_217.out
     have hnc15 := NB217_218.out
     have ⟨_, _, _, _, _, _, _, _⟩ := cz4 BK218
     go_wp2
     repeat (go_quiet (fail); try go_wp2)
     go_roundg k1
     case measure => have := HK1.out; omega
     case rel => exact ⟨(x5_1), (wrap64 (x7_1 + 1)), rf, H', ⟨by have := HK1.out; omega⟩, ⟨kr HO_5⟩, ⟨kr HO_6⟩, ⟨bk BK217⟩, ⟨bk BK218⟩, ⟨bel⟩⟩
    ·
     rw [if_neg c13] at H
     have c13b0 : (!(((rd_T79 t222 x7_1).f0) == a1_0) || (!(((rd_T79 t222 x7_1).f1) == a1_1) || (!(((rd_T79 t222 x7_1).f2) == a1_2) || (!(((rd_T79 t222 x7_1).f3) == a1_3))))) = false := by simpa using c13
     clear c13
     have H' := Aside0.mk H
     clear H
     obtain ⟨Ao17, co17, eo17⟩ := Kd.R_slice HO_6.out
     subst eo17
     obtain ⟨p225, q225, ad225, e225, hx225_0, hx225_1, hx225_2, hx225_3⟩ := zx (at_T79 (Kd.R_reads' HO_6.out).2.2 x7_1)
     cases e225
     have hnb18 := NB218_217.out
     have hnc18 := NB217_218.out
     have ⟨_, _, _, _, _, _, _, _⟩ := cz4 BK218
     go_wp2
     repeat (go_quiet (fail); try go_wp2)
     go_loopg [5, 8] k1 (fun kq v5 v8 w' => ∃ (x5_2 : List Int) (x8_2 : Int), v8 = .int .i64 x8_2 ∧ Aside0 (spec_CellsOf.l1 kq x5_2 t222 x7_1 x8_2 a0_0 a0_1 a0_2 a1_0 a1_1 a1_2 a1_3 = some r) ∧ Aside0 (kq ≤ k1) ∧ Aside0 (Kd.R (Kd.int .i64) 3 w' w.heap.size (fun _ => True) v5 x5_2) ∧ Aside0 (Kd.R k79 79 w' w.heap.size (fun k_ => k_ ≠ gb218) (.slice (some ad225) t222.length co17) t222) ∧ Aside0 (w'.heap[gb217]? = some (.cells #[.int .i64 a0_0, .int .i64 a0_1, .string a0_2] 30 (0, 0))) ∧ Aside0 (w'.heap[gb218]? = some (.cells #[.int .i64 a1_0, .bool a1_1, .int .i64 a1_2, .int .i64 a1_3] 79 (0, 0))) ∧ Aside0 (Below w.heap.size w w'))
     case atStart => exact ⟨(x5_1), (0), rf, H', ⟨Nat.le_refl _⟩, ⟨kr HO_5⟩, ⟨kr HO_6⟩, ⟨bk BK217⟩, ⟨bk BK218⟩, ⟨bel⟩⟩
     case round =>
      clear H'
      obtain ⟨x5_2, x8_2, rfl, HA, HK2, HO_5, HO_6, BK217, BK218, HB⟩ := hrel
      cases gk with
      | zero => exact absurd HA.out (by simp [spec_CellsOf.l1])
      | succ k2 =>
       have H := HA.out
       clear HA
       simp only [spec_CellsOf.l1] at H
       replace H := zc H
       rcases H with ⟨c20b0, H⟩ | ⟨c20b0, H⟩
       ·
        replace H := zb H
        rcases H with ⟨rfl, H⟩ | ⟨rfl, H⟩
        ·
         replace H := zl H
         obtain ⟨LMc22, H⟩ := H
         generalize hy226 : (x5_2 ++ [wrap64 (a1_2 + (wrap64 (x8_2 * a0_1)))] : List Int) = y226 at H
         have Ny226 := Aside0.mk hy226.symm
         clear hy226
         have H' := Aside0.mk H
         clear H
         have hnb23 := NB218_217.out
         have hnc23 := NB217_218.out
         have ⟨_, _, _, _, _, _, _, _⟩ := cz4 BK218
         have ⟨_, _, _, _, _, _⟩ := cz3 BK217
         go_wp2_with (first | ((with_reducible refine gate_builtin (b := .append) (xs := #[.tmp 32, .tmp 40]) rfl ?_); at_builtin; refine Kd.R_append (Kd.int .i64) (w0 := w) w.heap.size rfl (.tmp 32) (.tmp 40) 28 3 (.int .i64 0) 8 rfl Try.underlying28 info3 rfl (by decide) (by omega) u5 x5_2 (wrap64 (a1_2 + (wrap64 (x8_2 * a0_1)))) [.int .i64 (wrap64 (a1_2 + (wrap64 (x8_2 * a0_1))))] (fun _ => True) (fun _ => False) rfl rfl ?aP (fun _ hk => hk.elim) ?aF ?aO ?aB ?aS ?aL ?_; (case aP => exact rfl); (case aB => exact bel); (case aF => exact (fun _ _ => trivial)); (case aO => exact (kr HO_5)); (case aS => exact bsz); (case aL => have := LMc22.out; omega); intro v227 w26 ho hb hg hat; rw [← Ny226.out] at ho; replace HO_6 := Aside0.mk (Kd.R_over' (kr HO_6) (Kd.R_typed (kr HO_5)) (by decide) hg); replace BK217 := Aside0.mk (blk_grown (bk BK217) hg (Kd.R_ne HO_5.out BK217.out (by decide))); replace BK218 := Aside0.mk (blk_grown (bk BK218) hg (Kd.R_ne HO_5.out BK218.out (by decide))); replace HB := Aside0.mk hb; have HO228 := Aside0.mk ho; clear HO_5; clear ho hb hg hat))
         repeat (go_quiet (first | ((with_reducible refine gate_builtin (b := .append) (xs := #[.tmp 32, .tmp 40]) rfl ?_); at_builtin; refine Kd.R_append (Kd.int .i64) (w0 := w) w.heap.size rfl (.tmp 32) (.tmp 40) 28 3 (.int .i64 0) 8 rfl Try.underlying28 info3 rfl (by decide) (by omega) u5 x5_2 (wrap64 (a1_2 + (wrap64 (x8_2 * a0_1)))) [.int .i64 (wrap64 (a1_2 + (wrap64 (x8_2 * a0_1))))] (fun _ => True) (fun _ => False) rfl rfl ?aP (fun _ hk => hk.elim) ?aF ?aO ?aB ?aS ?aL ?_; (case aP => exact rfl); (case aB => exact bel); (case aF => exact (fun _ _ => trivial)); (case aO => exact (kr HO_5)); (case aS => exact bsz); (case aL => have := LMc22.out; omega); intro v227 w26 ho hb hg hat; rw [← Ny226.out] at ho; replace HO_6 := Aside0.mk (Kd.R_over' (kr HO_6) (Kd.R_typed (kr HO_5)) (by decide) hg); replace BK217 := Aside0.mk (blk_grown (bk BK217) hg (Kd.R_ne HO_5.out BK217.out (by decide))); replace BK218 := Aside0.mk (blk_grown (bk BK218) hg (Kd.R_ne HO_5.out BK218.out (by decide))); replace HB := Aside0.mk hb; have HO228 := Aside0.mk ho; clear HO_5; clear ho hb hg hat)); try go_wp2_with (first | ((with_reducible refine gate_builtin (b := .append) (xs := #[.tmp 32, .tmp 40]) rfl ?_); at_builtin; refine Kd.R_append (Kd.int .i64) (w0 := w) w.heap.size rfl (.tmp 32) (.tmp 40) 28 3 (.int .i64 0) 8 rfl Try.underlying28 info3 rfl (by decide) (by omega) u5 x5_2 (wrap64 (a1_2 + (wrap64 (x8_2 * a0_1)))) [.int .i64 (wrap64 (a1_2 + (wrap64 (x8_2 * a0_1))))] (fun _ => True) (fun _ => False) rfl rfl ?aP (fun _ hk => hk.elim) ?aF ?aO ?aB ?aS ?aL ?_; (case aP => exact rfl); (case aB => exact bel); (case aF => exact (fun _ _ => trivial)); (case aO => exact (kr HO_5)); (case aS => exact bsz); (case aL => have := LMc22.out; omega); intro v227 w26 ho hb hg hat; rw [← Ny226.out] at ho; replace HO_6 := Aside0.mk (Kd.R_over' (kr HO_6) (Kd.R_typed (kr HO_5)) (by decide) hg); replace BK217 := Aside0.mk (blk_grown (bk BK217) hg (Kd.R_ne HO_5.out BK217.out (by decide))); replace BK218 := Aside0.mk (blk_grown (bk BK218) hg (Kd.R_ne HO_5.out BK218.out (by decide))); replace HB := Aside0.mk hb; have HO228 := Aside0.mk ho; clear HO_5; clear ho hb hg hat)))
         go_roundg k2
         case measure => have := HK1.out; have := HK2.out; omega
         case rel => exact ⟨(y226), (wrap64 (x8_2 + 1)), rf, H', ⟨by have := HK1.out; have := HK2.out; omega⟩, ⟨kr HO228⟩, ⟨kr HO_6⟩, ⟨bk BK217⟩, ⟨bk BK218⟩, ⟨bel⟩⟩
        ·
         replace H := zl H
         obtain ⟨LMc27, H⟩ := H
         generalize hy229 : (x5_2 ++ [wrap64 (a1_2 + x8_2)] : List Int) = y229 at H
         have Ny229 := Aside0.mk hy229.symm
         clear hy229
         have H' := Aside0.mk H
         clear H
         have hnb28 := NB218_217.out
         have hnc28 := NB217_218.out
         have ⟨_, _, _, _, _, _, _, _⟩ := cz4 BK218
         go_wp2_with (first | ((with_reducible refine gate_builtin (b := .append) (xs := #[.tmp 42, .tmp 47]) rfl ?_); at_builtin; refine Kd.R_append (Kd.int .i64) (w0 := w) w.heap.size rfl (.tmp 42) (.tmp 47) 28 3 (.int .i64 0) 8 rfl Try.underlying28 info3 rfl (by decide) (by omega) u5 x5_2 (wrap64 (a1_2 + x8_2)) [.int .i64 (wrap64 (a1_2 + x8_2))] (fun _ => True) (fun _ => False) rfl rfl ?aP (fun _ hk => hk.elim) ?aF ?aO ?aB ?aS ?aL ?_; (case aP => exact rfl); (case aB => exact bel); (case aF => exact (fun _ _ => trivial)); (case aO => exact (kr HO_5)); (case aS => exact bsz); (case aL => have := LMc27.out; omega); intro v230 w30 ho hb hg hat; rw [← Ny229.out] at ho; replace HO_6 := Aside0.mk (Kd.R_over' (kr HO_6) (Kd.R_typed (kr HO_5)) (by decide) hg); replace BK217 := Aside0.mk (blk_grown (bk BK217) hg (Kd.R_ne HO_5.out BK217.out (by decide))); replace BK218 := Aside0.mk (blk_grown (bk BK218) hg (Kd.R_ne HO_5.out BK218.out (by decide))); replace HB := Aside0.mk hb; have HO231 := Aside0.mk ho; clear HO_5; clear ho hb hg hat))
         repeat (go_quiet (first | ((with_reducible refine gate_builtin (b := .append) (xs := #[.tmp 42, .tmp 47]) rfl ?_); at_builtin; refine Kd.R_append (Kd.int .i64) (w0 := w) w.heap.size rfl (.tmp 42) (.tmp 47) 28 3 (.int .i64 0) 8 rfl Try.underlying28 info3 rfl (by decide) (by omega) u5 x5_2 (wrap64 (a1_2 + x8_2)) [.int .i64 (wrap64 (a1_2 + x8_2))] (fun _ => True) (fun _ => False) rfl rfl ?aP (fun _ hk => hk.elim) ?aF ?aO ?aB ?aS ?aL ?_; (case aP => exact rfl); (case aB => exact bel); (case aF => exact (fun _ _ => trivial)); (case aO => exact (kr HO_5)); (case aS => exact bsz); (case aL => have := LMc27.out; omega); intro v230 w30 ho hb hg hat; rw [← Ny229.out] at ho; replace HO_6 := Aside0.mk (Kd.R_over' (kr HO_6) (Kd.R_typed (kr HO_5)) (by decide) hg); replace BK217 := Aside0.mk (blk_grown (bk BK217) hg (Kd.R_ne HO_5.out BK217.out (by decide))); replace BK218 := Aside0.mk (blk_grown (bk BK218) hg (Kd.R_ne HO_5.out BK218.out (by decide))); replace HB := Aside0.mk hb; have HO231 := Aside0.mk ho; clear HO_5; clear ho hb hg hat)); try go_wp2_with (first | ((with_reducible refine gate_builtin (b := .append) (xs := #[.tmp 42, .tmp 47]) rfl ?_); at_builtin; refine Kd.R_append (Kd.int .i64) (w0 := w) w.heap.size rfl (.tmp 42) (.tmp 47) 28 3 (.int .i64 0) 8 rfl Try.underlying28 info3 rfl (by decide) (by omega) u5 x5_2 (wrap64 (a1_2 + x8_2)) [.int .i64 (wrap64 (a1_2 + x8_2))] (fun _ => True) (fun _ => False) rfl rfl ?aP (fun _ hk => hk.elim) ?aF ?aO ?aB ?aS ?aL ?_; (case aP => exact rfl); (case aB => exact bel); (case aF => exact (fun _ _ => trivial)); (case aO => exact (kr HO_5)); (case aS => exact bsz); (case aL => have := LMc27.out; omega); intro v230 w30 ho hb hg hat; rw [← Ny229.out] at ho; replace HO_6 := Aside0.mk (Kd.R_over' (kr HO_6) (Kd.R_typed (kr HO_5)) (by decide) hg); replace BK217 := Aside0.mk (blk_grown (bk BK217) hg (Kd.R_ne HO_5.out BK217.out (by decide))); replace BK218 := Aside0.mk (blk_grown (bk BK218) hg (Kd.R_ne HO_5.out BK218.out (by decide))); replace HB := Aside0.mk hb; have HO231 := Aside0.mk ho; clear HO_5; clear ho hb hg hat)))
         go_roundg k2
         case measure => have := HK1.out; have := HK2.out; omega
         case rel => exact ⟨(y229), (wrap64 (x8_2 + 1)), rf, H', ⟨by have := HK1.out; have := HK2.out; omega⟩, ⟨kr HO231⟩, ⟨kr HO_6⟩, ⟨bk BK217⟩, ⟨bk BK218⟩, ⟨bel⟩⟩
       ·
        have H' := Aside0.mk H
        clear H
        have hnb31 := NB218_217.out
        have hnc31 := NB217_218.out
        have ⟨_, _, _, _, _, _, _, _⟩ := cz4 BK218
        go_wp2
        repeat (go_quiet (fail); try go_wp2)
        go_roundg k2
        case measure => have := HK1.out; have := HK2.out; omega
        case rel => exact ⟨(x5_2), (wrap64 (x7_1 + 1)), rf, H', ⟨by have := HK1.out; have := HK2.out; omega⟩, ⟨kr HO_5⟩, ⟨kr HO_6⟩, ⟨bk BK217⟩, ⟨bk BK218⟩, ⟨bel⟩⟩
   ·
    obtain rfl := Option.some.inj H
    obtain ⟨Ao33, co33, eo33⟩ := Kd.R_slice HO_6.out
    subst eo33
    go_wp2
    repeat (go_quiet (fail); try go_wp2)
    go_ret
    exact ⟨_, er, kr HO_5, bel⟩

/-! ### spec_l8Has: function 106 -/
def spec_l8Has.l0 : Nat → List Int → Int → Int → Option (Bool)
 | 0, _, _, _ => none
 | k + 1, x0, x1, x5 => if x5 < (x0.length : Int) then (if 0 ≤ x5 then (if (rd x0 x5) = x1 then (some true) else (spec_l8Has.l0 k x0 x1 (wrap64 (x5 + 1)))) else (none)) else (some false)
def spec_l8Has.f (k : Nat) (l0 : List Int) (a1 : Int) : Option (Bool) := spec_l8Has.l0 k l0 a1 0
set_option maxHeartbeats 8000000 in
set_option maxRecDepth 100000 in
theorem spec_l8Has.calls (k : Nat) (A0 : Option Addr) (c0 : Nat) (l0 : List Int) (a1 : Int) (r : Bool) (w : World) (hr0 : Kd.C (Kd.int .i64) w A0 l0.length l0) (hc0 : l0.length ≤ c0) (H : spec_l8Has.f k l0 a1 = some r) :
  Calls Try.prog 106 #[.slice A0 l0.length c0, .int .i64 a1] w fun e w' => e = .returned (.bool r) ∧ Drawn0 w w' := by
 have HR0 := Aside0.mk hr0
 have HC0 := Aside0.mk hc0
 clear hr0 hc0
 unfold spec_l8Has.f at H
 have H' := Aside0.mk H
 clear H
 go_enter Try.func106, Try.ntmps106
 go_wp2
 go_loopg [5] k (fun kq v5 w' => ∃ (x5_1 : Int), v5 = .int .i64 x5_1 ∧ Aside0 (spec_l8Has.l0 kq l0 a1 x5_1 = some r) ∧ Aside0 (kq ≤ k) ∧ Drawn0 w w')
 case atStart => exact ⟨(0), rf, H', ⟨Nat.le_refl _⟩, by repeat (first | exact Drawn0.refl _ | apply Drawn0.step)⟩
 case round =>
  clear H'
  obtain ⟨x5_1, rfl, HA, HK1, ⟨m1, rfl⟩⟩ := hrel
  cases gk with
  | zero => exact absurd HA.out (by simp [spec_l8Has.l0])
  | succ k1 =>
   have H := HA.out
   clear HA
   simp only [spec_l8Has.l0] at H
   replace H := zc H
   rcases H with ⟨c3b0, H⟩ | ⟨c3b0, H⟩
   ·
    replace H := zr H
    obtain ⟨c4b0, H⟩ := H
    by_cases c5 : (rd l0 x5_1) = a1
    ·
     rw [if_pos c5] at H
     have c5b0 : ((rd l0 x5_1) == a1) = true := beq_iff_eq.mpr c5
     have c5b1 : ((rd l0 x5_1) != a1) = false := bne_eq_false_iff_eq.mpr c5
     clear c5
     obtain rfl := Option.some.inj H
     obtain ⟨p232, q232, ad232, e232, hx232_0⟩ := zx (Kd.at_int HR0.out x5_1)
     cases e232
     go_wp2
     go_ret
     exact ⟨by first | rfl | (simp; done) | (simp [*]; done), by repeat (first | exact Drawn0.refl _ | apply Drawn0.step)⟩
    ·
     rw [if_neg c5] at H
     have c5b0 : ((rd l0 x5_1) == a1) = false := beq_eq_false_iff_ne.mpr c5
     have c5b1 : ((rd l0 x5_1) != a1) = true := bne_iff_ne.mpr c5
     have H' := Aside0.mk H
     clear H
     obtain ⟨p232, q232, ad232, e232, hx232_0⟩ := zx (Kd.at_int HR0.out x5_1)
     cases e232
     go_wp2
     go_roundg k1
     case measure => have := HK1.out; omega
     case rel => exact ⟨(wrap64 (x5_1 + 1)), rf, H', ⟨by have := HK1.out; omega⟩, by repeat (first | exact Drawn0.refl _ | apply Drawn0.step)⟩
   ·
    obtain rfl := Option.some.inj H
    go_wp2
    go_ret
    exact ⟨by first | rfl | (simp; done) | (simp [*]; done), by repeat (first | exact Drawn0.refl _ | apply Drawn0.step)⟩

/-! ### spec_SlotsAt: function 99 -/
def spec_SlotsAt.l0 : Nat → Int → List Int → List (S79) → Int → Int → Int → ByteArray → Option (List Int)
 | 0, _, _, _, _, _, _, _ => none
 | k + 1, x1, x5, x6, x7, x234000, x234001, x234002 => if x7 < (x6.length : Int) then (if 0 ≤ x7 then ((spec_CellsOf.f k x234000 x234001 x234002 ((rd_T79 x6 x7).f0) ((rd_T79 x6 x7).f1) ((rd_T79 x6 x7).f2) ((rd_T79 x6 x7).f3)).bind fun t241 => ((spec_l8Has.f k t241 x1).bind fun t244 => (if t244 = true then (if x5.length < 17592186044416 then (spec_SlotsAt.l0 k x1 (x5 ++ [x7]) x6 (wrap64 (x7 + 1)) x234000 x234001 x234002) else (none)) else (spec_SlotsAt.l0 k x1 x5 x6 (wrap64 (x7 + 1)) x234000 x234001 x234002)))) else (none)) else (some x5)
def spec_SlotsAt.f (k : Nat) (a0_0 : Int) (a0_1 : Int) (a0_2 : ByteArray) (a1 : Int) : Option (List Int) := (spec_SlotsOf.f k a0_0 a0_1 a0_2).bind fun t237 => (spec_SlotsAt.l0 k a1 (([] : List Int)) t237 0 a0_0 a0_1 a0_2)
def spec_SlotsAt.T6 : Bool × List (List Nat × List Nat) := (true, [([], []), ([], []), ([], []), ([1, 2], [1, 2]), ([3], [3]), ([0, 4], [0, 4]), ([], []), ([5, 6, 5], [5, 6])])
theorem spec_SlotsAt.tab6 : rtab .any (opsOf Try.f99 6) = spec_SlotsAt.T6 := by kernel_rfl
set_option maxHeartbeats 8000000 in
set_option maxRecDepth 100000 in
theorem spec_SlotsAt.calls (k : Nat) (a0_0 : Int) (a0_1 : Int) (a0_2 : ByteArray) (a1 : Int) (r : List Int) (w : World) (H : spec_SlotsAt.f k a0_0 a0_1 a0_2 a1 = some r) :
  Calls Try.prog 99 #[.agg #[.int .i64 a0_0, .int .i64 a0_1, .string a0_2], .int .i64 a1] w fun e w' => ∃ v0_ : Value, e = .returned (v0_) ∧ Kd.R (Kd.int .i64) 3 w' w.heap.size (fun _ => True) v0_ r ∧ Below w.heap.size w w' := by
 have hu30 := Try.underlying30
 have hu79 := Try.underlying79
 have HB := Aside0.mk (Below.refl w.heap.size w)
 unfold spec_SlotsAt.f at H
 generalize hy234 : (([] : List Int) : List Int) = y234 at H
 have Ny234 := Aside0.mk hy234.symm
 clear hy234
 replace H := zs H
 obtain ⟨t237, A3, H⟩ := H
 have H' := Aside0.mk H
 clear H
 go_enter Try.func99, Try.ntmps99
 go_wp2_with (first | ((with_reducible refine zd 2 rfl ?_); refine zbx (w := w) #[.int .i64 a0_0, .int .i64 a0_1, .string a0_2] 30 ?_; intro gb233 hg w4 BK233 hb; have GW233 := zg (w := w) hg; replace HB := zB hb; clear hb hg) | ((with_reducible refine gate_dst (N := 8) rfl ?_); refine Kd.R_lit (Kd.int .i64) _ 3 ?hg (N := 8) ?hd (xs := ([] : List Int)) (inner := []) (ok := fun _ => True) (okp := fun _ => True) ?hr ?hp (fun _ hk => hk) trivial (Below.refl _ _) (Nat.le_refl _) (by simp) ?_; (case hd => rfl); (case hg => rfl); (case hr => first | (go_simp; done) | (go_simp; rfl)); (case hp => exact (Reps.none _ _)); intro v235 w5 ho6 hb hg_ hnew_; clear hg_ hnew_; (first | rw [← Ny234.out] at ho6 | (simp only [Int.reduceToNat] at ho6; rw [← Ny234.out] at ho6)); have HO236 := zl2 ho6; replace BK233 := zk BK233 hb; replace HB := zB hb; clear hb ho6; have ⟨_, _, _, _, _, _⟩ := cz3 BK233) | ((with_reducible refine zd 10 rfl ?_); refine zgl Try.func50 (spec_SlotsOf.calls k a0_0 a0_1 a0_2 t237 _ A3.out) ?_; rintro e w8 ⟨v238, rfl, ho0, hb⟩; refine ⟨_, rfl, ?_⟩; replace HO236 := zR HO236 hb; have HO239 := zl2 ho0; replace BK233 := zk BK233 hb; replace HB := zB hb))
 go_loopg [5, 7] k (fun kq v5 v7 w' => ∃ (x5_1 : List Int) (x7_1 : Int), v7 = .int .i64 x7_1 ∧ Aside0 (spec_SlotsAt.l0 kq a1 x5_1 t237 x7_1 a0_0 a0_1 a0_2 = some r) ∧ Aside0 (kq ≤ k) ∧ Aside0 (Kd.R (Kd.int .i64) 3 w' w.heap.size (fun _ => True) v5 x5_1) ∧ Aside0 (Kd.R k79 79 w' w.heap.size (fun _ => True) v238 t237) ∧ Aside0 (w'.heap[gb233]? = some (.cells #[.int .i64 a0_0, .int .i64 a0_1, .string a0_2] 30 (0, 0))) ∧ Aside0 (Below w.heap.size w w'))
 case atStart => exact ⟨(y234), (0), rf, H', ⟨Nat.le_refl _⟩, ⟨kr HO236⟩, ⟨kr HO239⟩, ⟨bk BK233⟩, ⟨bel⟩⟩
 case round =>
  clear H'
  obtain ⟨x5_1, x7_1, rfl, HA, HK1, HO_5, HO_6, BK233, HB⟩ := hrel
  cases gk with
  | zero => exact absurd HA.out (by simp [spec_SlotsAt.l0])
  | succ k1 =>
   have H := HA.out
   clear HA
   simp only [spec_SlotsAt.l0] at H
   replace H := zc H
   rcases H with ⟨c9b0, H⟩ | ⟨c9b0, H⟩
   ·
    replace H := zr H
    obtain ⟨c10b0, H⟩ := H
    replace H := zs H
    obtain ⟨t241, A11, H⟩ := H
    replace H := zs H
    obtain ⟨t244, A12, H⟩ := H
    replace H := zb H
    rcases H with ⟨rfl, H⟩ | ⟨rfl, H⟩
    ·
     replace H := zl H
     obtain ⟨LMc14, H⟩ := H
     generalize hy245 : (x5_1 ++ [x7_1] : List Int) = y245 at H
     have Ny245 := Aside0.mk hy245.symm
     clear hy245
     have H' := Aside0.mk H
     clear H
     obtain ⟨Ao15, co15, eo15⟩ := Kd.R_slice HO_6.out
     subst eo15
     try go_wp2
     replace HO_5 := zRd HO_5
     replace HO_6 := zRd HO_6
     replace BK233 := zkd BK233
     replace HB := zBd HB
     obtain ⟨p240, q240, ad240, e240, hx240_0, hx240_1, hx240_2, hx240_3⟩ := zx (at_T79 (Kd.R_reads' HO_6.out).2.2 x7_1)
     cases e240
     refine zst 8 spec_SlotsAt.tab6 (zb3 BK233 <| zhc hx240_0 <| zhc hx240_1 <| zhc hx240_2 <| zhc hx240_3 <| zn0) fun hHeld HT_ => ?_
     generalize wr.drew = w16 at HO_5 HO_6 BK233 HB hx240_0 hx240_1 hx240_2 hx240_3 hHeld ⊢
     repeat (first | refine zs1 ?_ | (refine zcl Try.func52 (spec_CellsOf.calls k1 a0_0 a0_1 a0_2 ((rd_T79 t237 x7_1).f0) ((rd_T79 t237 x7_1).f1) ((rd_T79 t237 x7_1).f2) ((rd_T79 t237 x7_1).f3) t241 _ A11.out) ?_; rintro e w17 ⟨v242, rfl, ho0, hb⟩; replace HO_6 := zR HO_6 hb; have HO243 := Aside0.mk (Kd.R_lower (Kd.R_new' ho0 (Kd.R_lt (kr HO_5))) bsz); replace HO_5 := Aside0.mk (Kd.R_elder' (kr HO_5) (Kd.R_base ho0) hb); replace BK233 := zk BK233 hb; replace HB := zB hb; obtain ⟨Ao18, co18, eo18⟩ := Kd.R_slice HO243.out; (first | subst eo18 | (injection eo18 with f1_ f2_ f3_; have f4_ := f1_.symm; have f5_ := f3_.symm; clear f1_ f2_ f3_; subst f4_; subst f5_)); refine ⟨_, rfl, zHb hb hHeld, _, znb, fun hHeld => ?_⟩) | (refine zcl Try.func106 (spec_l8Has.calls k1 _ _ t241 a1 true _ (zCr HO243) ((Kd.R_reads' HO243.out).2.1) A12.out) ?_; rintro e w' ⟨rfl, ⟨nd, rfl⟩⟩; refine ⟨_, rfl, zHd hHeld, _, znb, fun hHeld => ?_⟩))
     refine zdn ?_
     try go_wp2_with (first | ((with_reducible refine gate_builtin (b := .append) (xs := #[.tmp 25, .tmp 27]) rfl ?_); at_builtin; refine Kd.R_append (Kd.int .i64) (w0 := w) w.heap.size rfl (.tmp 25) (.tmp 27) 28 3 (.int .i64 0) 8 rfl Try.underlying28 info3 rfl (by decide) (by omega) u5 x5_1 x7_1 [.int .i64 x7_1] (fun k_ => some k_ ≠ (.slice Ao18 t241.length co18 : Value).ownBlock) (fun _ => False) rfl rfl ?aP (fun _ hk => hk.elim) ?aF ?aO ?aB ?aS ?aL ?_; (case aP => exact rfl); (case aB => exact bel); (case aF => exact (fun k_ hk => Kd.fresh' (Kd.R_lt (kr HO243)) k_ hk)); (case aO => exact (by (with_reducible repeat (first | apply Kd.R_alloc | apply Kd.R_drewN | apply Kd.R_drew)); exact Kd.R_mono HO_5.out (fun _ hk => hk.2))); (case aS => exact bsz); (case aL => have := LMc14.out; omega); intro v246 w19 ho hb hg hat; rw [← Ny245.out] at ho; replace HO_6 := Aside0.mk (Kd.R_over' (kr HO_6) (Kd.R_typed (kr HO_5)) (by decide) hg); replace BK233 := Aside0.mk (blk_grown (bk BK233) hg (Kd.R_ne HO_5.out BK233.out (by decide))); replace HO243 := Aside0.mk (Kd.R_after (ok := (fun _ => True)) (kr HO243) hg hat); replace HB := Aside0.mk hb; have HO247 := Aside0.mk ho; clear HO_5; clear ho hb hg hat))
     go_roundg k1
     case measure => have := HK1.out; omega
     case rel => exact ⟨(y245), (wrap64 (x7_1 + 1)), rf, H', ⟨by have := HK1.out; omega⟩, ⟨by (with_reducible repeat (first | apply Kd.R_alloc | apply Kd.R_drewN | apply Kd.R_drew)); exact Kd.R_mono HO247.out (fun _ hk => trivial)⟩, ⟨kr HO_6⟩, ⟨bk BK233⟩, ⟨bel⟩⟩
    ·
     have H' := Aside0.mk H
     clear H
     obtain ⟨Ao20, co20, eo20⟩ := Kd.R_slice HO_6.out
     subst eo20
     try go_wp2
     replace HO_5 := zRd HO_5
     replace HO_6 := zRd HO_6
     replace BK233 := zkd BK233
     replace HB := zBd HB
     obtain ⟨p240, q240, ad240, e240, hx240_0, hx240_1, hx240_2, hx240_3⟩ := zx (at_T79 (Kd.R_reads' HO_6.out).2.2 x7_1)
     cases e240
     refine zst 8 spec_SlotsAt.tab6 (zb3 BK233 <| zhc hx240_0 <| zhc hx240_1 <| zhc hx240_2 <| zhc hx240_3 <| zn0) fun hHeld HT_ => ?_
     generalize wr.drew = w21 at HO_5 HO_6 BK233 HB hx240_0 hx240_1 hx240_2 hx240_3 hHeld ⊢
     repeat (first | refine zs1 ?_ | (refine zcl Try.func52 (spec_CellsOf.calls k1 a0_0 a0_1 a0_2 ((rd_T79 t237 x7_1).f0) ((rd_T79 t237 x7_1).f1) ((rd_T79 t237 x7_1).f2) ((rd_T79 t237 x7_1).f3) t241 _ A11.out) ?_; rintro e w22 ⟨v242, rfl, ho0, hb⟩; replace HO_6 := zR HO_6 hb; have HO243 := Aside0.mk (Kd.R_lower (Kd.R_new' ho0 (Kd.R_lt (kr HO_5))) bsz); replace HO_5 := Aside0.mk (Kd.R_elder' (kr HO_5) (Kd.R_base ho0) hb); replace BK233 := zk BK233 hb; replace HB := zB hb; obtain ⟨Ao23, co23, eo23⟩ := Kd.R_slice HO243.out; (first | subst eo23 | (injection eo23 with f1_ f2_ f3_; have f4_ := f1_.symm; have f5_ := f3_.symm; clear f1_ f2_ f3_; subst f4_; subst f5_)); refine ⟨_, rfl, zHb hb hHeld, _, znb, fun hHeld => ?_⟩) | (refine zcl Try.func106 (spec_l8Has.calls k1 _ _ t241 a1 false _ (zCr HO243) ((Kd.R_reads' HO243.out).2.1) A12.out) ?_; rintro e w' ⟨rfl, ⟨nd, rfl⟩⟩; refine ⟨_, rfl, zHd hHeld, _, znb, fun hHeld => ?_⟩))
     refine zdn ?_
     try go_wp2
     go_roundg k1
     case measure => have := HK1.out; omega
     case rel => exact ⟨(x5_1), (wrap64 (x7_1 + 1)), rf, H', ⟨by have := HK1.out; omega⟩, ⟨by (with_reducible repeat (first | apply Kd.R_alloc | apply Kd.R_drewN | apply Kd.R_drew)); exact Kd.R_mono HO_5.out (fun _ hk => trivial)⟩, ⟨kr HO_6⟩, ⟨bk BK233⟩, ⟨bel⟩⟩
   ·
    obtain rfl := Option.some.inj H
    obtain ⟨Ao24, co24, eo24⟩ := Kd.R_slice HO_6.out
    subst eo24
    go_wp2
    go_ret
    exact ⟨_, er, kr HO_5, bel⟩

/-! ### spec_IsChecked: function 105 -/
def spec_IsChecked.f (k : Nat) (a0_0 : Int) (a0_1 : Int) (a0_2 : ByteArray) (a1 : Int) : Option (Bool) := (spec_SlotsAt.f k a0_0 a0_1 a0_2 a1).bind fun t249 => (some ((t249.length : Int) == 2))
set_option maxHeartbeats 8000000 in
set_option maxRecDepth 100000 in
theorem spec_IsChecked.calls (k : Nat) (a0_0 : Int) (a0_1 : Int) (a0_2 : ByteArray) (a1 : Int) (r : Bool) (w : World) (H : spec_IsChecked.f k a0_0 a0_1 a0_2 a1 = some r) :
  Calls Try.prog 105 #[.agg #[.int .i64 a0_0, .int .i64 a0_1, .string a0_2], .int .i64 a1] w fun e w' => e = .returned (.bool r) ∧ Below w.heap.size w w' := by
 have hu30 := Try.underlying30
 have HB := Aside0.mk (Below.refl w.heap.size w)
 unfold spec_IsChecked.f at H
 replace H := zs H
 obtain ⟨t249, A3, H⟩ := H
 obtain rfl := Option.some.inj H
 go_enter Try.func105, Try.ntmps105
 go_wp2_with (first | ((with_reducible refine zd 2 rfl ?_); refine zbx (w := w) #[.int .i64 a0_0, .int .i64 a0_1, .string a0_2] 30 ?_; intro gb248 hg w4 BK248 hb; have GW248 := zg (w := w) hg; replace HB := zB hb; clear hb hg; have ⟨_, _, _, _, _, _⟩ := cz3 BK248) | ((with_reducible refine zd 7 rfl ?_); refine zgl Try.func99 (spec_SlotsAt.calls k a0_0 a0_1 a0_2 a1 t249 _ A3.out) ?_; rintro e w6 ⟨v250, rfl, ho0, hb⟩; refine ⟨_, rfl, ?_⟩; have HO251 := zl2 ho0; replace BK248 := zk BK248 hb; replace HB := zB hb; obtain ⟨Ao7, co7, eo7⟩ := Kd.R_slice HO251.out; subst eo7))
 go_ret
 exact ⟨er, bel⟩

/-! ### spec_UncheckedIn: function 97 -/
def spec_UncheckedIn.l0 : Nat → List Int → Int → Int → Int → Int → ByteArray → Option (Int)
 | 0, _, _, _, _, _, _ => none
 | k + 1, x6, x7, x8, x253000, x253001, x253002 => if x8 < (x6.length : Int) then (if 0 ≤ x8 then ((spec_IsChecked.f k x253000 x253001 x253002 (rd x6 x8)).bind fun t262 => (if t262 = true then (spec_UncheckedIn.l0 k x6 x7 (wrap64 (x8 + 1)) x253000 x253001 x253002) else (spec_UncheckedIn.l0 k x6 (wrap64 (x7 + 1)) (wrap64 (x8 + 1)) x253000 x253001 x253002))) else (none)) else (some x7)
def spec_UncheckedIn.f (k : Nat) (a0_0 : Int) (a0_1 : Int) (a0_2 : ByteArray) (a1 : Int) : Option (Int) := (spec_SlotsOf.f k a0_0 a0_1 a0_2).bind fun t253 => ((spec_l1In.f a1 0 (wrap64 ((t253.length : Int) - 1))).bind fun t256 => (if t256 = true then (if 0 ≤ a1 then (if a1 < (t253.length : Int) then ((spec_CellsOf.f k a0_0 a0_1 a0_2 ((rd_T79 t253 a1).f0) ((rd_T79 t253 a1).f1) ((rd_T79 t253 a1).f2) ((rd_T79 t253 a1).f3)).bind fun t258 => (spec_UncheckedIn.l0 k t258 0 0 a0_0 a0_1 a0_2)) else (none)) else (none)) else (some (-1))))
set_option maxHeartbeats 8000000 in
set_option maxRecDepth 100000 in
theorem spec_UncheckedIn.calls (k : Nat) (a0_0 : Int) (a0_1 : Int) (a0_2 : ByteArray) (a1 : Int) (r : Int) (w : World) (H : spec_UncheckedIn.f k a0_0 a0_1 a0_2 a1 = some r) :
  Calls Try.prog 97 #[.agg #[.int .i64 a0_0, .int .i64 a0_1, .string a0_2], .int .i64 a1] w fun e w' => e = .returned (.int .i64 r) ∧ Below w.heap.size w w' := by
 have hu30 := Try.underlying30
 have hu79 := Try.underlying79
 have HB := Aside0.mk (Below.refl w.heap.size w)
 unfold spec_UncheckedIn.f at H
 replace H := zs H
 obtain ⟨t253, A3, H⟩ := H
 replace H := zs H
 obtain ⟨t256, A4, H⟩ := H
 replace H := zb H
 rcases H with ⟨rfl, H⟩ | ⟨rfl, H⟩
 ·
  replace H := zr H
  obtain ⟨c6b0, H⟩ := H
  replace H := zr H
  obtain ⟨c7b0, H⟩ := H
  replace H := zs H
  obtain ⟨t258, A8, H⟩ := H
  have H' := Aside0.mk H
  clear H
  go_enter Try.func97, Try.ntmps97
  try go_wp2_with (first | ((with_reducible refine zd 2 rfl ?_); refine zbx (w := w) #[.int .i64 a0_0, .int .i64 a0_1, .string a0_2] 30 ?_; intro gb252 hg w9 BK252 hb; have GW252 := zg (w := w) hg; replace HB := zB hb; clear hb hg; have ⟨_, _, _, _, _, _⟩ := cz3 BK252) | ((with_reducible refine zd 10 rfl ?_); refine zgl Try.func50 (spec_SlotsOf.calls k a0_0 a0_1 a0_2 t253 _ A3.out) ?_; rintro e w11 ⟨v254, rfl, ho0, hb⟩; refine ⟨_, rfl, ?_⟩; have HO255 := zl2 ho0; replace BK252 := zk BK252 hb; replace HB := zB hb; obtain ⟨Ao12, co12, eo12⟩ := Kd.R_slice HO255.out; subst eo12) | ((with_reducible refine zd 15 rfl ?_); refine zgl Try.func39 (spec_l1In.calls a1 0 (wrap64 ((t253.length : Int) - 1)) true _ A4.out) ?_; rintro e w' ⟨rfl, ⟨nd, rfl⟩⟩; refine ⟨_, rfl, ?_⟩))
  (try (rw [drewN_self w11]; generalize hq_ : World.drewN w11 _ = w11; have n0_ : Aside0 (Kd.R k79 79 w11 w.heap.size (fun _ => True) (.slice Ao12 t253.length co12) t253) := ⟨by rw [← hq_]; exact (kr HO255)⟩; have n1_ : Aside0 (w11.heap[gb252]? = some (.cells #[.int .i64 a0_0, .int .i64 a0_1, .string a0_2] 30 (0, 0))) := ⟨by rw [← hq_]; exact (bk BK252)⟩; have n2_ : Aside0 (Below w.heap.size w w11) := ⟨by rw [← hq_]; exact bel⟩; clear HO255 BK252 HB hq_; have HO255 := n0_; have BK252 := n1_; have HB := n2_; clear n0_ n1_ n2_))
  replace HO255 := zRd HO255
  replace BK252 := zkd BK252
  replace HB := zBd HB
  obtain ⟨p257, q257, ad257, e257, hx257_0, hx257_1, hx257_2, hx257_3⟩ := zx (at_T79 (Kd.R_reads' HO255.out).2.2 a1)
  cases e257
  refine zst 7 rfl (zb3 BK252 <| zhc hx257_0 <| zhc hx257_1 <| zhc hx257_2 <| zhc hx257_3 <| zn0) fun hHeld HT_ => ?_
  generalize w11.drew = w13 at HO255 BK252 HB hx257_0 hx257_1 hx257_2 hx257_3 hHeld ⊢
  repeat (first | refine zs1 ?_ | (refine zcl Try.func52 (spec_CellsOf.calls k a0_0 a0_1 a0_2 ((rd_T79 t253 a1).f0) ((rd_T79 t253 a1).f1) ((rd_T79 t253 a1).f2) ((rd_T79 t253 a1).f3) t258 _ A8.out) ?_; rintro e w14 ⟨v259, rfl, ho0, hb⟩; replace HO255 := zR HO255 hb; have HO260 := zl2 ho0; replace BK252 := zk BK252 hb; replace HB := zB hb; refine ⟨_, rfl, zHb hb hHeld, _, znb, fun hHeld => ?_⟩))
  refine zdn ?_
  try go_wp2
  go_loopg [7, 8] k (fun kq v7 v8 w' => ∃ (x7_1 : Int) (x8_1 : Int), v7 = .int .i64 x7_1 ∧ v8 = .int .i64 x8_1 ∧ Aside0 (spec_UncheckedIn.l0 kq t258 x7_1 x8_1 a0_0 a0_1 a0_2 = some r) ∧ Aside0 (kq ≤ k) ∧ Aside0 (Kd.R (Kd.int .i64) 3 w' w.heap.size (fun _ => True) v259 t258) ∧ Aside0 (w'.heap[gb252]? = some (.cells #[.int .i64 a0_0, .int .i64 a0_1, .string a0_2] 30 (0, 0))) ∧ Aside0 (Below w.heap.size w w'))
  case atStart => exact ⟨(0), (0), rf, rf, H', ⟨Nat.le_refl _⟩, ⟨kr HO260⟩, ⟨bk BK252⟩, ⟨bel⟩⟩
  case round =>
   clear H'
   obtain ⟨x7_1, x8_1, rfl, rfl, HA, HK1, HO_6, BK252, HB⟩ := hrel
   cases gk with
   | zero => exact absurd HA.out (by simp [spec_UncheckedIn.l0])
   | succ k1 =>
    have H := HA.out
    clear HA
    simp only [spec_UncheckedIn.l0] at H
    replace H := zc H
    rcases H with ⟨c15b0, H⟩ | ⟨c15b0, H⟩
    ·
     replace H := zr H
     obtain ⟨c16b0, H⟩ := H
     replace H := zs H
     obtain ⟨t262, A17, H⟩ := H
     replace H := zb H
     rcases H with ⟨rfl, H⟩ | ⟨rfl, H⟩
     ·
      have H' := Aside0.mk H
      clear H
      obtain ⟨Ao19, co19, eo19⟩ := Kd.R_slice HO_6.out
      subst eo19
      try go_wp2
      replace HO_6 := zRd HO_6
      replace BK252 := zkd BK252
      replace HB := zBd HB
      obtain ⟨p261, q261, ad261, e261, hx261_0⟩ := zx (Kd.at_int (Kd.R_reads' HO_6.out).2.2 x8_1)
      cases e261
      refine zst 7 rfl (zb3 BK252 <| zhc hx261_0 <| zn0) fun hHeld HT_ => ?_
      generalize wr.drew = w20 at HO_6 BK252 HB hx261_0 hHeld ⊢
      repeat (first | refine zs1 ?_ | (refine zcl Try.func105 (spec_IsChecked.calls k1 a0_0 a0_1 a0_2 (rd t258 x8_1) true _ A17.out) ?_; rintro e w21 ⟨rfl, hb⟩; replace HO_6 := zR HO_6 hb; replace BK252 := zk BK252 hb; replace HB := zB hb; refine ⟨_, rfl, zHb hb hHeld, _, znb, fun hHeld => ?_⟩))
      refine zdn ?_
      try go_wp2
      go_roundg k1
      case measure => have := HK1.out; omega
      case rel => exact ⟨(x7_1), (wrap64 (x8_1 + 1)), rf, rf, H', ⟨by have := HK1.out; omega⟩, ⟨kr HO_6⟩, ⟨bk BK252⟩, ⟨bel⟩⟩
     ·
      have H' := Aside0.mk H
      clear H
      obtain ⟨Ao22, co22, eo22⟩ := Kd.R_slice HO_6.out
      subst eo22
      try go_wp2
      replace HO_6 := zRd HO_6
      replace BK252 := zkd BK252
      replace HB := zBd HB
      obtain ⟨p261, q261, ad261, e261, hx261_0⟩ := zx (Kd.at_int (Kd.R_reads' HO_6.out).2.2 x8_1)
      cases e261
      refine zst 7 rfl (zb3 BK252 <| zhc hx261_0 <| zn0) fun hHeld HT_ => ?_
      generalize wr.drew = w23 at HO_6 BK252 HB hx261_0 hHeld ⊢
      repeat (first | refine zs1 ?_ | (refine zcl Try.func105 (spec_IsChecked.calls k1 a0_0 a0_1 a0_2 (rd t258 x8_1) false _ A17.out) ?_; rintro e w24 ⟨rfl, hb⟩; replace HO_6 := zR HO_6 hb; replace BK252 := zk BK252 hb; replace HB := zB hb; refine ⟨_, rfl, zHb hb hHeld, _, znb, fun hHeld => ?_⟩))
      refine zdn ?_
      try go_wp2
      go_roundg k1
      case measure => have := HK1.out; omega
      case rel => exact ⟨(wrap64 (x7_1 + 1)), (wrap64 (x8_1 + 1)), rf, rf, H', ⟨by have := HK1.out; omega⟩, ⟨kr HO_6⟩, ⟨bk BK252⟩, ⟨bel⟩⟩
    ·
     obtain rfl := Option.some.inj H
     obtain ⟨Ao25, co25, eo25⟩ := Kd.R_slice HO_6.out
     subst eo25
     go_wp2
     go_ret
     exact ⟨er, bel⟩
 ·
  obtain rfl := Option.some.inj H
  go_enter Try.func97, Try.ntmps97
  go_wp2_with (first | ((with_reducible refine zd 2 rfl ?_); refine zbx (w := w) #[.int .i64 a0_0, .int .i64 a0_1, .string a0_2] 30 ?_; intro gb252 hg w26 BK252 hb; have GW252 := zg (w := w) hg; replace HB := zB hb; clear hb hg; have ⟨_, _, _, _, _, _⟩ := cz3 BK252) | ((with_reducible refine zd 10 rfl ?_); refine zgl Try.func50 (spec_SlotsOf.calls k a0_0 a0_1 a0_2 t253 _ A3.out) ?_; rintro e w28 ⟨v254, rfl, ho0, hb⟩; refine ⟨_, rfl, ?_⟩; have HO255 := zl2 ho0; replace BK252 := zk BK252 hb; replace HB := zB hb; obtain ⟨Ao29, co29, eo29⟩ := Kd.R_slice HO255.out; subst eo29) | ((with_reducible refine zd 15 rfl ?_); refine zgl Try.func39 (spec_l1In.calls a1 0 (wrap64 ((t253.length : Int) - 1)) false _ A4.out) ?_; rintro e w' ⟨rfl, ⟨nd, rfl⟩⟩; refine ⟨_, rfl, ?_⟩))
  go_ret
  exact ⟨er, bel⟩

end Go.Proofs.Ytpcdfjcbjbkliaa.E
