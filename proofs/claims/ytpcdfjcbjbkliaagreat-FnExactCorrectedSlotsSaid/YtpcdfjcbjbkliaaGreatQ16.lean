import Derived.Test.YtpcdfjcbjbkliaaGreatSq
import Derived.Test.YtpcdfjcbjbkliaaGreatQ0
namespace Go.Proofs.YtpcdfjcbjbkliaaGreat.E
open Go.RowKit Go.Proofs.YtpcdfjcbjbkliaaGreatW.PrintWords Go.Proofs.YtpcdfjcbjbkliaaGreatW.PrintLast Go.Proofs.YtpcdfjcbjbkliaaGreatW.PrintMore
attribute [local go_sem] max2_int min2_int max_two min_two max_three min_three max_four min_four
set_option linter.unusedVariables false
set_option linter.unusedSimpArgs false
theorem zAR {α : Type} {R : α → List Value → Prop} {z : Nat} {w : World} {A : Option Addr} {m m' : Nat} {xs : List α} (e : m = m') (h : ReadsRow R z w A m xs) : ReadsRow R z w A m' xs := e ▸ h

/-! ### spec_l9Put: function 57 -/
def spec_l9Put.l0 : Nat → List Int → Int → Int → Option (List Int)
 | 0, _, _, _ => none
 | k + 1, a, b, c => if c < (a.length : Int) then (if 0 ≤ c then (if (rd a c) < b then (spec_l9Put.l0 k a b (wrap64 (c + 1))) else (if (rd a c) = b then ((some (([] : List Int) : List Int)).bind fun d => (if d.length + a.length < 17592186044416 then (some (d ++ a)) else (none))) else ((some (([] : List Int) : List Int)).bind fun e => (if c ≤ (a.length : Int) then (if e.length + (a.take (c : Int).toNat).length < 17592186044416 then ((some (e ++ (a.take (c : Int).toNat) : List Int)).bind fun f => ((some (([b] : List Int) : List Int)).bind fun g => (if f.length + g.length < 17592186044416 then ((some (f ++ g : List Int)).bind fun h => (if h.length + (a.drop (c : Int).toNat).length < 17592186044416 then (some (h ++ (a.drop (c : Int).toNat))) else (none))) else (none)))) else (none)) else (none))))) else (none)) else ((some (([] : List Int) : List Int)).bind fun i => (if 0 ≤ c then (if c ≤ (a.length : Int) then (if i.length + (a.take (c : Int).toNat).length < 17592186044416 then ((some (i ++ (a.take (c : Int).toNat) : List Int)).bind fun j => ((some (([b] : List Int) : List Int)).bind fun l => (if j.length + l.length < 17592186044416 then ((some (j ++ l : List Int)).bind fun m => (if m.length + (a.drop (c : Int).toNat).length < 17592186044416 then (some (m ++ (a.drop (c : Int).toNat))) else (none))) else (none)))) else (none)) else (none)) else (none)))
def spec_l9Put.f (k : Nat) (a : List Int) (b : Int) : Option (List Int) := spec_l9Put.l0 k a b 0
def spec_l9Put.T6 : Bool × List (List Nat × List Nat) := (true, [([], []), ([], []), ([], []), ([1, 2], [1, 2]), ([0, 3], [0, 3]), ([], []), ([5], [5]), ([4, 6, 4], [4, 6]), ([], []), ([], []), ([8, 9], [8, 9]), ([7, 10, 7], [7, 10]), ([11, 11, 0, 1, 2, 3, 4, 5, 6, 7, 8, 9, 10, 11], [11])])
def spec_l9Put.B6 : List Nat := [0, 0, 0, 6, 15, 0, 32, 127, 0, 0, 768, 2047, 4095]
theorem spec_l9Put.tab6 : rtab .any (opsOf Tryz.f57 6) = spec_l9Put.T6 := by kernel_rfl
theorem spec_l9Put.bits6 : waitsOk spec_l9Put.T6.2 spec_l9Put.B6 = true := by kernel_rfl
set_option maxHeartbeats 8000000 in
set_option maxRecDepth 100000 in
theorem spec_l9Put.calls (k : Nat) (A0 : Option Addr) (c0 : Nat) (l0 : List Int) (a1 : Int) (r : List Int) (w : World) (hr0 : Kd.C (Kd.int .i64) w A0 l0.length l0) (hc0 : l0.length ≤ c0) (H : spec_l9Put.f k l0 a1 = some r) :
  Calls Tryz.prog 57 #[.slice A0 l0.length c0, .int .i64 a1] w fun e w' => ∃ v0_ : Value, e = .returned (v0_) ∧ Kd.R (Kd.int .i64) 3 w' w.heap.size (fun _ => True) v0_ r ∧ Below w.heap.size w w' := by
 have HR0 := Aside0.mk hr0
 have HC0 := Aside0.mk hc0
 clear hr0 hc0
 have HB := Aside0.mk (Below.refl w.heap.size w)
 unfold spec_l9Put.f at H
 have H' := Aside0.mk H
 clear H
 go_enter Tryz.func57, Tryz.ntmps57
 go_wp2
 go_loopg [5] k (fun kq v5 w' => ∃ (x5_1 : Int), v5 = .int .i64 x5_1 ∧ Aside0 (spec_l9Put.l0 kq l0 a1 x5_1 = some r) ∧ Aside0 (kq ≤ k) ∧ Aside0 (Below w.heap.size w w'))
 case atStart => exact ⟨(0), rf, H', ⟨Nat.le_refl _⟩, ⟨bel⟩⟩
 case round =>
  clear H'
  obtain ⟨x5_1, rfl, HA, HK1, HB⟩ := hrel
  cases gk with
  | zero => exact absurd HA.out (by simp [spec_l9Put.l0])
  | succ k1 =>
   have H := HA.out
   clear HA
   simp only [spec_l9Put.l0] at H
   replace H := zc H
   rcases H with ⟨c3b0, H⟩ | ⟨c3b0, H⟩
   ·
    replace H := zr H
    obtain ⟨c4b0, H⟩ := H
    replace H := zc H
    rcases H with ⟨c5b0, H⟩ | ⟨c5b0, H⟩
    ·
     have H' := Aside0.mk H
     clear H
     obtain ⟨p449, q449, ad449, e449, hx449_0⟩ := zx (Kd.at_int HR0.out x5_1)
     cases e449
     replace hx449_0 := zh HB hx449_0
     go_wp2
     go_roundg k1
     case measure => have := HK1.out; omega
     case rel => exact ⟨(wrap64 (x5_1 + 1)), rf, H', ⟨by have := HK1.out; omega⟩, ⟨bel⟩⟩
    ·
     by_cases c6 : (rd l0 x5_1) = a1
     ·
      rw [if_pos c6] at H
      have c6b0 : ((rd l0 x5_1) == a1) = true := beq_iff_eq.mpr c6
      have c6b1 : ((rd l0 x5_1) != a1) = false := bne_eq_false_iff_eq.mpr c6
      clear c6
      replace H := zy H
      obtain ⟨y451, Ny451, H⟩ := H
      replace H := zl H
      obtain ⟨LMc7, H⟩ := H
      generalize hy454 : (y451 ++ l0 : List Int) = y454 at H
      have Ny454 := Aside0.mk hy454.symm
      clear hy454
      obtain rfl := Option.some.inj H
      obtain ⟨p449, q449, ad449, e449, hx449_0⟩ := zx (Kd.at_int HR0.out x5_1)
      cases e449
      replace hx449_0 := zh HB hx449_0
      obtain ⟨p450, q450, ad450, e450, hx450_0⟩ := zx (Kd.at_int HR0.out x5_1)
      obtain rfl : ad449 = ad450 := (by injection e450)
      replace hx450_0 := zh HB hx450_0
      go_wp2_with (first | ((with_reducible refine gate_dst (N := 32) rfl ?_); refine Kd.R_lit (Kd.int .i64) _ 3 ?hg (N := 32) ?hd (xs := ([] : List Int)) (inner := []) (ok := fun _ => True) (okp := fun _ => True) ?hr ?hp (fun _ hk => hk) trivial (Below.refl _ _) (Nat.le_refl _) (by simp) ?_; (case hd => rfl); (case hg => rfl); (case hr => first | (go_simp; done) | (go_simp; rfl)); (case hp => exact (Reps.none _ _)); intro v452 w8 ho9 hb hg_ hnew_; clear hg_ hnew_; (first | rw [← Ny451.out] at ho9 | (simp only [Int.reduceToNat] at ho9; rw [← Ny451.out] at ho9)); have HO453 := zl2 ho9; replace HB := zB hb; clear hb ho9) | ((with_reducible refine gate_builtin (b := .append) (xs := #[.tmp 32, .tmp 33]) rfl ?_); at_builtin; refine Kd.R_append_rows (Kd.int .i64) (w0 := w) w.heap.size rfl (.tmp 32) (.tmp 33) 25 3 (.int .i64 0) 8 rfl Tryz.underlying25 info3 rfl (by decide) (by omega) v452 y451 l0 _ _ _ (fun _ => True) (fun _ => False) rfl rfl ?aO ?aR (fun _ _ h => h) (fun _ h => h.elim) ?aF ?aB ?aS ?aL ?_; (case aR => repeat (first | exact (Kd.C_below HR0.out HB.out) | (with_reducible refine Kd.C_alloc ?_ _) | (with_reducible refine Kd.C_drewN ?_ _) | (with_reducible refine Kd.C_drew ?_))); (case aB => exact bel); (case aF => exact (fun _ _ => trivial)); (case aO => exact (kr HO453)); (case aS => exact bsz); (case aL => have := LMc7.out; omega); intro v455 w10 ho hb hg hat; rw [← Ny454.out] at ho; replace HB := Aside0.mk hb; have HO456 := Aside0.mk ho; clear HO453; clear ho hb hg hat))
      go_ret
      exact ⟨_, er, kr HO456, bel⟩
     ·
      rw [if_neg c6] at H
      have c6b0 : ((rd l0 x5_1) == a1) = false := beq_eq_false_iff_ne.mpr c6
      have c6b1 : ((rd l0 x5_1) != a1) = true := bne_iff_ne.mpr c6
      replace H := zy H
      obtain ⟨y457, Ny457, H⟩ := H
      have c11b0 := eq_true (of_decide_eq_true asm : 0 ≤ x5_1)
      by_cases c12 : x5_1 ≤ (l0.length : Int)
      ·
       rw [if_pos c12] at H
       have c12b0 := eq_true c12
       have c12b1 : decide (x5_1 ≤ (l0.length : Int)) = true := decide_eq_true c12
       clear c12
       replace H := zl H
       obtain ⟨LMc13, H⟩ := H
       replace H := zy H
       obtain ⟨y461, Ny461, H⟩ := H
       replace H := zy H
       obtain ⟨y464, Ny464, H⟩ := H
       replace H := zl H
       obtain ⟨LMc14, H⟩ := H
       replace H := zy H
       obtain ⟨y467, Ny467, H⟩ := H
       have c15b0 := eq_true (of_decide_eq_true asm : 0 ≤ x5_1)
       have c16b0 := eq_true (of_decide_eq_true asm : x5_1 ≤ (l0.length : Int))
       replace H := zl H
       obtain ⟨LMc17, H⟩ := H
       generalize hy471 : (y467 ++ (l0.drop (x5_1 : Int).toNat) : List Int) = y471 at H
       have Ny471 := Aside0.mk hy471.symm
       clear hy471
       obtain rfl := Option.some.inj H
       obtain ⟨p449, q449, ad449, e449, hx449_0⟩ := zx (Kd.at_int HR0.out x5_1)
       cases e449
       replace hx449_0 := zh HB hx449_0
       obtain ⟨p450, q450, ad450, e450, hx450_0⟩ := zx (Kd.at_int HR0.out x5_1)
       obtain rfl : ad449 = ad450 := (by injection e450)
       replace hx450_0 := zh HB hx450_0
       try go_wp2
       replace HB := zBd HB
       obtain ⟨i019, hi019, _, hsz19, _⟩ := info_parts info3
       obtain ⟨hcut19, hA19, hC19⟩ := print_take_of (P := Tryz.prog) (Value.int .i64) 0 25 3 .i64 Tryz.underlying25 hi019 hsz19 (some ad449) c0 l0 x5_1 (of_decide_eq_true asm) (of_decide_eq_true asm) HC0.out
       have HR460 := Aside0.mk (Kd.C_of_reads (h1 := fun _ => rfl) (hA19 _ (Kd.reads_of_C HR0.out)))
       have HC460 := Aside0.mk hC19
       clear hA19 hC19 hi019 hsz19
       obtain ⟨i020, hi020, _, hsz20, _⟩ := info_parts info3
       obtain ⟨A20, hcut20, hA20, hC20⟩ := print_drop_of (P := Tryz.prog) (Value.int .i64) 0 25 3 .i64 Tryz.underlying25 hi020 hsz20 (some ad449) c0 l0 x5_1 (of_decide_eq_true asm) (of_decide_eq_true asm) HC0.out
       have HR470 := Aside0.mk (Kd.C_of_reads (h1 := fun _ => rfl) (hA20 _ (Kd.reads_of_C HR0.out)))
       have HC470 := Aside0.mk hC20
       clear hA20 hC20 hi020 hsz20
       refine start_ (n := 13) (S := fun w' => True) (ds := []) #[false, false, false, false, false, false, false, false, false, false, false, false, false] (by kernel_rfl) rfl rfl trivial (fun hHeld => ?_); refine with_tabW spec_l9Put.tab6 spec_l9Put.bits6 (fun HT_ HW_ => ?_)
       generalize wr.drew = w18 at HB HR460 HR470 hHeld ⊢
       refine pu 1 (some 36) (bA 13 2) (ao HT_) ?_
       refine pu 2 (some 37) (bA 13 6) (ao HT_) ?_
       refine pu 3 (some 38) (bA 13 14) (ao HT_) ?_
       refine pu 5 (some 40) (bA 13 46) (ao HT_) ?_
       refine pu 8 (some 43) (bA 13 302) (ao HT_) ?_
       refine pu 9 (some 44) (bA 13 814) (ao HT_) ?_
       refine pu 10 (some 45) (bA 13 1838) (ao HT_) ?_
       refine join_ (σ := Value × Value × Value) 3 #[true, true, true, true, true, true, true, false, true, true, true, false, false] (fun s_ => [(35, s_.1), (39, s_.2.1), (41, s_.2.2)]) (fun s_ w' => (Kd.R (Kd.int .i64) 3 w' w.heap.size (fun k_ => some k_ ≠ (s_.2.2 : Value).ownBlock) s_.2.1 y461) ∧ (Kd.R (Kd.int .i64) 3 w' w.heap.size (fun k_ => some k_ ≠ (s_.2.1 : Value).ownBlock) s_.2.2 y464) ∧ (Below w.heap.size w w')) ?_ ?_
       rotate_left
       ·
        intro hCont
        refine two_ (i := 0) (j := 6) (Ni := some 35) (Nj := some 41) #[true, true, true, true, false, true, false, false, true, true, true, false, false] #[false, true, true, true, false, true, true, false, true, true, true, false, false] rfl rfl rfl rfl (two_of HT_.out (by kernel_rfl)) (by decide) (by decide) (fun K hK => ?_) (fun K hK => ?_)
        ·
         skip
         refine Kd.R_lit_step (Kd.int .i64) _ 3 ?hg (N := 35) ?hd (xs := ([] : List Int)) (inner := []) (ok := fun _ => True) (okp := fun _ => True) ?hr ?hp (fun _ hk => hk) trivial (Below.refl _ _) (Nat.le_refl _) (by simp) ?_; (case hd => rfl); (case hg => rfl); (case hr => first | (go_simp; done) | (go_simp; rfl)); (case hp => exact (Reps.none _ _))
         intro v458 w21 ho22 hb hg_ hnew_
         clear hg_ hnew_
         (first | rw [← Ny457.out] at ho22 | (simp only [Int.reduceToNat] at ho22; rw [← Ny457.out] at ho22))
         have HO459 := zl2 ho22
         replace HB := zB hb
         clear hb ho22
         refine hK.out _ _ trivial (fun hHeld => ?_)
         clear hK K
         refine norm_ (a' := ?_) ?_ ?_
         rotate_left
         ·
          show Act.put _ (some 35) _ = _
          simp only [Act.put, List.setIfInBounds_toArray, List.set_cons_zero, List.set_cons_succ, i64_w, i32_w]
          rfl
         refine two_ (i := 4) (j := 6) (Ni := some 39) (Nj := some 41) #[true, true, true, true, true, true, false, false, true, true, true, false, false] #[true, true, true, true, false, true, true, false, true, true, true, false, false] rfl rfl rfl rfl (two_of HT_.out (by kernel_rfl)) (by decide) (by decide) (fun K hK => ?_) (fun K hK => ?_)
         ·
          skip
          refine Kd.R_append_rows_step (Kd.int .i64) (w0 := w) w.heap.size (by rfl) (.tmp 35) (.tmp 38) 25 3 (.int .i64 0) 8 rfl Tryz.underlying25 info3 rfl (by decide) (by omega) v458 y457 (l0.take (x5_1 : Int).toNat) _ _ _ (fun _ => True) (fun _ => False) rfl rfl ?aO ?aR (fun _ _ h => h) (fun _ h => h.elim) ?aF ?aB ?aS ?aL ?_
          (case aR => first | (refine zAR (show (l0.take (x5_1 : Int).toNat).length = x5_1.toNat from (by rw [List.length_take]; have h_ : (x5_1 : Int) ≤ (l0.length : Int) := of_decide_eq_true asm; omega)) ?_; repeat (first | exact (Kd.C_below HR460.out HB.out) | (with_reducible refine Kd.C_alloc ?_ _) | (with_reducible refine Kd.C_drewN ?_ _) | (with_reducible refine Kd.C_drew ?_))) | (repeat (first | exact (Kd.C_below HR460.out HB.out) | (with_reducible refine Kd.C_alloc ?_ _) | (with_reducible refine Kd.C_drewN ?_ _) | (with_reducible refine Kd.C_drew ?_))))
          (case aB => exact bel)
          (case aF => exact (fun _ _ => trivial))
          (case aO => exact (kr HO459))
          (case aS => exact bsz)
          (case aL => have := LMc13.out; have hlx_ := (show (l0.take (x5_1 : Int).toNat).length = x5_1.toNat from (by rw [List.length_take]; have h_ : (x5_1 : Int) ≤ (l0.length : Int) := of_decide_eq_true asm; omega)); omega)
          intro v462 w23 ho hb hg hat
          rw [← Ny461.out] at ho
          replace HB := Aside0.mk hb
          have HO463 := Aside0.mk ho
          clear HO459
          clear ho hb hg hat
          refine hK.out _ _ trivial (fun hHeld => ?_)
          clear hK K
          refine norm_ (a' := ?_) ?_ ?_
          rotate_left
          ·
           show Act.put _ (some 39) _ = _
           simp only [Act.put, List.setIfInBounds_toArray, List.set_cons_zero, List.set_cons_succ, i64_w, i32_w]
           rfl
          refine one_ (i := 6) (N := some 41) (bA 13 1919) rfl rfl (one_of HT_.out (by kernel_rfl)) (by decide) (fun K hK => ?_)
          refine Kd.R_lit_step (Kd.int .i64) _ 3 ?hg (N := 41) ?hd (xs := ([a1] : List Int)) (inner := [.int .i64 a1]) (ok := fun _ => True) (okp := fun _ => True) ?hr ?hp (fun _ hk => hk) trivial (Below.refl _ _) (Nat.le_refl _) (by simp) ?_; (case hd => rfl); (case hg => rfl); (case hr => first | (go_simp; done) | (go_simp; rfl)); (case hp => exact (Reps.one (show Kd.M (Kd.int .i64) _ _ _ a1 [.int .i64 a1] from rfl) (Reps.none _ _)))
          intro v465 w24 ho25 hb hg_ hnew_
          clear hg_ hnew_
          (first | rw [← Ny464.out] at ho25 | (simp only [Int.reduceToNat] at ho25; rw [← Ny464.out] at ho25))
          have HO466 := Aside0.mk (Kd.R_lower (Kd.R_new' ho25 (Kd.R_lt (kr HO463))) bsz)
          replace HO463 := Aside0.mk (Kd.R_elder' (kr HO463) (Kd.R_base ho25) hb)
          replace HB := zB hb
          clear hb ho25
          refine hK.out _ _ trivial (fun hHeld => ?_)
          clear hK K
          refine norm_ (a' := ?_) ?_ ?_
          rotate_left
          ·
           show Act.put _ (some 41) _ = _
           simp only [Act.put, List.setIfInBounds_toArray, List.set_cons_zero, List.set_cons_succ, i64_w, i32_w]
           rfl
          exact norm_ (by simp only [putAll, Act.put, List.setIfInBounds_toArray, List.set_cons_zero, List.set_cons_succ]) (hCont (v458, v462, v465) _ ⟨(by (with_reducible repeat (first | apply Kd.R_alloc | apply Kd.R_drewN | apply Kd.R_drew)); exact Kd.R_mono HO463.out (fun _ hk => hk.2)), (by (with_reducible repeat (first | apply Kd.R_alloc | apply Kd.R_drewN | apply Kd.R_drew)); exact Kd.R_mono HO466.out (fun _ hk => hk.2)), bel⟩)
         ·
          skip
          refine Kd.R_lit_step (Kd.int .i64) _ 3 ?hg (N := 41) ?hd (xs := ([a1] : List Int)) (inner := [.int .i64 a1]) (ok := fun _ => True) (okp := fun _ => True) ?hr ?hp (fun _ hk => hk) trivial (Below.refl _ _) (Nat.le_refl _) (by simp) ?_; (case hd => rfl); (case hg => rfl); (case hr => first | (go_simp; done) | (go_simp; rfl)); (case hp => exact (Reps.one (show Kd.M (Kd.int .i64) _ _ _ a1 [.int .i64 a1] from rfl) (Reps.none _ _)))
          intro v465 w23 ho24 hb hg_ hnew_
          clear hg_ hnew_
          (first | rw [← Ny464.out] at ho24 | (simp only [Int.reduceToNat] at ho24; rw [← Ny464.out] at ho24))
          have HO466 := Aside0.mk (Kd.R_lower (Kd.R_new' ho24 (Kd.R_lt (kr HO459))) bsz)
          replace HO459 := Aside0.mk (Kd.R_elder' (kr HO459) (Kd.R_base ho24) hb)
          replace HB := zB hb
          clear hb ho24
          refine hK.out _ _ trivial (fun hHeld => ?_)
          clear hK K
          refine norm_ (a' := ?_) ?_ ?_
          rotate_left
          ·
           show Act.put _ (some 41) _ = _
           simp only [Act.put, List.setIfInBounds_toArray, List.set_cons_zero, List.set_cons_succ, i64_w, i32_w]
           rfl
          refine one_ (i := 4) (N := some 39) (bA 13 1919) rfl rfl (one_of HT_.out (by kernel_rfl)) (by decide) (fun K hK => ?_)
          refine Kd.R_append_rows_step (Kd.int .i64) (w0 := w) w.heap.size (by rfl) (.tmp 35) (.tmp 38) 25 3 (.int .i64 0) 8 rfl Tryz.underlying25 info3 rfl (by decide) (by omega) v458 y457 (l0.take (x5_1 : Int).toNat) _ _ _ (fun k_ => some k_ ≠ (v465 : Value).ownBlock) (fun _ => False) rfl rfl ?aO ?aR (fun _ _ h => h) (fun _ h => h.elim) ?aF ?aB ?aS ?aL ?_
          (case aR => first | (refine zAR (show (l0.take (x5_1 : Int).toNat).length = x5_1.toNat from (by rw [List.length_take]; have h_ : (x5_1 : Int) ≤ (l0.length : Int) := of_decide_eq_true asm; omega)) ?_; repeat (first | exact (Kd.C_below HR460.out HB.out) | (with_reducible refine Kd.C_alloc ?_ _) | (with_reducible refine Kd.C_drewN ?_ _) | (with_reducible refine Kd.C_drew ?_))) | (repeat (first | exact (Kd.C_below HR460.out HB.out) | (with_reducible refine Kd.C_alloc ?_ _) | (with_reducible refine Kd.C_drewN ?_ _) | (with_reducible refine Kd.C_drew ?_))))
          (case aB => exact bel)
          (case aF => exact (fun k_ hk => Kd.fresh' (Kd.R_lt (kr HO466)) k_ hk))
          (case aO => exact (by (with_reducible repeat (first | apply Kd.R_alloc | apply Kd.R_drewN | apply Kd.R_drew)); exact Kd.R_mono HO459.out (fun _ hk => hk.2)))
          (case aS => exact bsz)
          (case aL => have := LMc13.out; have hlx_ := (show (l0.take (x5_1 : Int).toNat).length = x5_1.toNat from (by rw [List.length_take]; have h_ : (x5_1 : Int) ≤ (l0.length : Int) := of_decide_eq_true asm; omega)); omega)
          intro v462 w25 ho hb hg hat
          rw [← Ny461.out] at ho
          replace HO466 := Aside0.mk (Kd.R_after (ok := (fun _ => True)) (kr HO466) hg hat)
          replace HB := Aside0.mk hb
          have HO463 := Aside0.mk ho
          clear HO459
          clear ho hb hg hat
          refine hK.out _ _ trivial (fun hHeld => ?_)
          clear hK K
          refine norm_ (a' := ?_) ?_ ?_
          rotate_left
          ·
           show Act.put _ (some 39) _ = _
           simp only [Act.put, List.setIfInBounds_toArray, List.set_cons_zero, List.set_cons_succ, i64_w, i32_w]
           rfl
          exact norm_ (by simp only [putAll, Act.put, List.setIfInBounds_toArray, List.set_cons_zero, List.set_cons_succ]) (hCont (v458, v462, v465) _ ⟨(kr HO463), (by (with_reducible repeat (first | apply Kd.R_alloc | apply Kd.R_drewN | apply Kd.R_drew)); exact Kd.R_mono HO466.out (fun _ hk => hk.2)), bel⟩)
        ·
         skip
         refine Kd.R_lit_step (Kd.int .i64) _ 3 ?hg (N := 41) ?hd (xs := ([a1] : List Int)) (inner := [.int .i64 a1]) (ok := fun _ => True) (okp := fun _ => True) ?hr ?hp (fun _ hk => hk) trivial (Below.refl _ _) (Nat.le_refl _) (by simp) ?_; (case hd => rfl); (case hg => rfl); (case hr => first | (go_simp; done) | (go_simp; rfl)); (case hp => exact (Reps.one (show Kd.M (Kd.int .i64) _ _ _ a1 [.int .i64 a1] from rfl) (Reps.none _ _)))
         intro v465 w21 ho22 hb hg_ hnew_
         clear hg_ hnew_
         (first | rw [← Ny464.out] at ho22 | (simp only [Int.reduceToNat] at ho22; rw [← Ny464.out] at ho22))
         have HO466 := zl2 ho22
         replace HB := zB hb
         clear hb ho22
         refine hK.out _ _ trivial (fun hHeld => ?_)
         clear hK K
         refine norm_ (a' := ?_) ?_ ?_
         rotate_left
         ·
          show Act.put _ (some 41) _ = _
          simp only [Act.put, List.setIfInBounds_toArray, List.set_cons_zero, List.set_cons_succ, i64_w, i32_w]
          rfl
         refine one_ (i := 0) (N := some 35) (bA 13 1903) rfl rfl (one_of HT_.out (by kernel_rfl)) (by decide) (fun K hK => ?_)
         refine Kd.R_lit_step (Kd.int .i64) _ 3 ?hg (N := 35) ?hd (xs := ([] : List Int)) (inner := []) (ok := fun _ => True) (okp := fun _ => True) ?hr ?hp (fun _ hk => hk) trivial (Below.refl _ _) (Nat.le_refl _) (by simp) ?_; (case hd => rfl); (case hg => rfl); (case hr => first | (go_simp; done) | (go_simp; rfl)); (case hp => exact (Reps.none _ _))
         intro v458 w23 ho24 hb hg_ hnew_
         clear hg_ hnew_
         (first | rw [← Ny457.out] at ho24 | (simp only [Int.reduceToNat] at ho24; rw [← Ny457.out] at ho24))
         have HO459 := Aside0.mk (Kd.R_lower (Kd.R_new' ho24 (Kd.R_lt (kr HO466))) bsz)
         replace HO466 := Aside0.mk (Kd.R_elder' (kr HO466) (Kd.R_base ho24) hb)
         replace HB := zB hb
         clear hb ho24
         refine hK.out _ _ trivial (fun hHeld => ?_)
         clear hK K
         refine norm_ (a' := ?_) ?_ ?_
         rotate_left
         ·
          show Act.put _ (some 35) _ = _
          simp only [Act.put, List.setIfInBounds_toArray, List.set_cons_zero, List.set_cons_succ, i64_w, i32_w]
          rfl
         refine one_ (i := 4) (N := some 39) (bA 13 1919) rfl rfl (one_of HT_.out (by kernel_rfl)) (by decide) (fun K hK => ?_)
         refine Kd.R_append_rows_step (Kd.int .i64) (w0 := w) w.heap.size (by rfl) (.tmp 35) (.tmp 38) 25 3 (.int .i64 0) 8 rfl Tryz.underlying25 info3 rfl (by decide) (by omega) v458 y457 (l0.take (x5_1 : Int).toNat) _ _ _ (fun k_ => some k_ ≠ (v465 : Value).ownBlock) (fun _ => False) rfl rfl ?aO ?aR (fun _ _ h => h) (fun _ h => h.elim) ?aF ?aB ?aS ?aL ?_
         (case aR => first | (refine zAR (show (l0.take (x5_1 : Int).toNat).length = x5_1.toNat from (by rw [List.length_take]; have h_ : (x5_1 : Int) ≤ (l0.length : Int) := of_decide_eq_true asm; omega)) ?_; repeat (first | exact (Kd.C_below HR460.out HB.out) | (with_reducible refine Kd.C_alloc ?_ _) | (with_reducible refine Kd.C_drewN ?_ _) | (with_reducible refine Kd.C_drew ?_))) | (repeat (first | exact (Kd.C_below HR460.out HB.out) | (with_reducible refine Kd.C_alloc ?_ _) | (with_reducible refine Kd.C_drewN ?_ _) | (with_reducible refine Kd.C_drew ?_))))
         (case aB => exact bel)
         (case aF => exact (fun k_ hk => Kd.fresh' (Kd.R_lt (kr HO466)) k_ hk))
         (case aO => exact (by (with_reducible repeat (first | apply Kd.R_alloc | apply Kd.R_drewN | apply Kd.R_drew)); exact Kd.R_mono HO459.out (fun _ hk => hk.2)))
         (case aS => exact bsz)
         (case aL => have := LMc13.out; have hlx_ := (show (l0.take (x5_1 : Int).toNat).length = x5_1.toNat from (by rw [List.length_take]; have h_ : (x5_1 : Int) ≤ (l0.length : Int) := of_decide_eq_true asm; omega)); omega)
         intro v462 w25 ho hb hg hat
         rw [← Ny461.out] at ho
         replace HO466 := Aside0.mk (Kd.R_after (ok := (fun _ => True)) (kr HO466) hg hat)
         replace HB := Aside0.mk hb
         have HO463 := Aside0.mk ho
         clear HO459
         clear ho hb hg hat
         refine hK.out _ _ trivial (fun hHeld => ?_)
         clear hK K
         refine norm_ (a' := ?_) ?_ ?_
         rotate_left
         ·
          show Act.put _ (some 39) _ = _
          simp only [Act.put, List.setIfInBounds_toArray, List.set_cons_zero, List.set_cons_succ, i64_w, i32_w]
          rfl
         exact norm_ (by simp only [putAll, Act.put, List.setIfInBounds_toArray, List.set_cons_zero, List.set_cons_succ]) (hCont (v458, v462, v465) _ ⟨(kr HO463), (by (with_reducible repeat (first | apply Kd.R_alloc | apply Kd.R_drewN | apply Kd.R_drew)); exact Kd.R_mono HO466.out (fun _ hk => hk.2)), bel⟩)
       rintro ⟨v458, v462, v465⟩ w26 ⟨h0_, h1_, h2_⟩
       have n0_ : Aside0 (Kd.R (Kd.int .i64) 3 w26 w.heap.size (fun k_ => some k_ ≠ (v465 : Value).ownBlock) v462 y461) := ⟨h0_⟩
       have n1_ : Aside0 (Kd.R (Kd.int .i64) 3 w26 w.heap.size (fun k_ => some k_ ≠ (v462 : Value).ownBlock) v465 y464) := ⟨h1_⟩
       have n2_ : Aside0 (Below w.heap.size w w26) := ⟨h2_⟩
       clear HB
       clear h0_ h1_ h2_
       have HO463 := n0_
       have HO466 := n1_
       have HB := n2_
       clear n0_ n1_ n2_
       have hHeld := trivial
       obtain ⟨Ao28, co28, eo28⟩ := Kd.R_slice HO466.out
       (first | subst eo28 | (injection eo28 with f1_ f2_ f3_; have f4_ := f1_.symm; have f5_ := f3_.symm; clear f1_ f2_ f3_; subst f4_; subst f5_))
       refine norm_ (a' := ?_) ?_ ?_
       rotate_left
       ·
        simp only [putAll, Act.put, List.setIfInBounds_toArray, List.set_cons_zero, List.set_cons_succ]
        rfl
       refine one_ (i := 7) (N := some 42) (bA 13 2047) rfl rfl (one_of HT_.out (by kernel_rfl)) (by decide) (fun K hK => ?_)
       refine Kd.R_append_rows_step (Kd.int .i64) (w0 := w) w.heap.size (by rfl) (.tmp 39) (.tmp 41) 25 3 (.int .i64 0) 8 rfl Tryz.underlying25 info3 rfl (by decide) (by omega) v462 y461 y464 _ _ _ (fun k_ => some k_ ≠ (.slice Ao28 y464.length co28 : Value).ownBlock) (fun _ => False) rfl rfl ?aO ?aR (fun _ _ h => h) (fun _ h => h.elim) ?aF ?aB ?aS ?aL ?_
       (case aR => repeat (first | exact (Kd.R_reads' HO466.out).2.2 | (with_reducible refine Kd.C_alloc ?_ _) | (with_reducible refine Kd.C_drewN ?_ _) | (with_reducible refine Kd.C_drew ?_)))
       (case aB => exact bel)
       (case aF => exact (fun k_ hk => Kd.fresh' (Kd.R_lt (kr HO466)) k_ hk))
       (case aO => exact (kr HO463))
       (case aS => exact bsz)
       (case aL => have := LMc14.out; omega)
       intro v468 w27 ho hb hg hat
       rw [← Ny467.out] at ho
       replace HO466 := Aside0.mk (Kd.R_after (ok := (fun _ => True)) (by (with_reducible repeat (first | apply Kd.R_alloc | apply Kd.R_drewN | apply Kd.R_drew)); exact Kd.R_mono HO466.out (fun _ hk => ⟨trivial, hk⟩)) hg hat)
       replace HB := Aside0.mk hb
       have HO469 := Aside0.mk ho
       clear HO463
       clear ho hb hg hat
       refine hK.out _ _ trivial (fun hHeld => ?_)
       clear hK K
       refine norm_ (a' := ?_) ?_ ?_
       rotate_left
       ·
        show Act.put _ (some 42) _ = _
        simp only [Act.put, List.setIfInBounds_toArray, List.set_cons_zero, List.set_cons_succ, i64_w, i32_w]
        rfl
       refine one_ (i := 11) (N := some 46) (bA 13 4095) rfl rfl (one_of HT_.out (by kernel_rfl)) (by decide) (fun K hK => ?_)
       refine Kd.R_append_rows_step (Kd.int .i64) (w0 := w) w.heap.size (by rfl) (.tmp 42) (.tmp 45) 25 3 (.int .i64 0) 8 rfl Tryz.underlying25 info3 rfl (by decide) (by omega) v468 y467 (l0.drop (x5_1 : Int).toNat) _ _ _ (fun k_ => some k_ ≠ (.slice Ao28 y464.length co28 : Value).ownBlock) (fun _ => False) rfl rfl ?aO ?aR (fun _ _ h => h) (fun _ h => h.elim) ?aF ?aB ?aS ?aL ?_
       (case aR => first | (rw [← show (l0.drop (x5_1 : Int).toNat).length = (l0.length - x5_1.toNat) from List.length_drop]; repeat (first | exact (Kd.C_below HR470.out HB.out) | (with_reducible refine Kd.C_alloc ?_ _) | (with_reducible refine Kd.C_drewN ?_ _) | (with_reducible refine Kd.C_drew ?_))) | (repeat (first | exact (Kd.C_below HR470.out HB.out) | (with_reducible refine Kd.C_alloc ?_ _) | (with_reducible refine Kd.C_drewN ?_ _) | (with_reducible refine Kd.C_drew ?_))))
       (case aB => exact bel)
       (case aF => exact (fun k_ hk => Kd.fresh' (Kd.R_lt (kr HO466)) k_ hk))
       (case aO => exact (kr HO469))
       (case aS => exact bsz)
       (case aL => have := LMc17.out; have hlx_ := (show (l0.drop (x5_1 : Int).toNat).length = (l0.length - x5_1.toNat) from List.length_drop); omega)
       intro v472 w29 ho hb hg hat
       rw [← Ny471.out] at ho
       replace HO466 := Aside0.mk (Kd.R_after (ok := (fun _ => True)) (kr HO466) hg hat)
       replace HB := Aside0.mk hb
       have HO473 := Aside0.mk ho
       clear HO469
       clear ho hb hg hat
       refine hK.out _ _ trivial (fun hHeld => ?_)
       clear hK K
       refine norm_ (a' := ?_) ?_ ?_
       rotate_left
       ·
        show Act.put _ (some 46) _ = _
        simp only [Act.put, List.setIfInBounds_toArray, List.set_cons_zero, List.set_cons_succ, i64_w, i32_w]
        rfl
       refine pu 12 (some 4) (bA 13 8191) (ao HT_) ?_
       refine done_ (done_of HT_.out (by kernel_rfl)) ?_
       try go_wp2
       go_ret
       exact ⟨_, er, by (with_reducible repeat (first | apply Kd.R_alloc | apply Kd.R_drewN | apply Kd.R_drew)); exact Kd.R_mono HO473.out (fun _ hk => trivial), bel⟩
      ·
       rw [if_neg c12] at H
       exact absurd H (by simp)
   ·
    replace H := zy H
    obtain ⟨y474, Ny474, H⟩ := H
    by_cases c30 : 0 ≤ x5_1
    ·
     rw [if_pos c30] at H
     have c30b0 := eq_true c30
     have c30b1 : decide (0 ≤ x5_1) = true := decide_eq_true c30
     clear c30
     by_cases c31 : x5_1 ≤ (l0.length : Int)
     ·
      rw [if_pos c31] at H
      have c31b0 := eq_true c31
      have c31b1 : decide (x5_1 ≤ (l0.length : Int)) = true := decide_eq_true c31
      clear c31
      replace H := zl H
      obtain ⟨LMc32, H⟩ := H
      replace H := zy H
      obtain ⟨y478, Ny478, H⟩ := H
      replace H := zy H
      obtain ⟨y481, Ny481, H⟩ := H
      replace H := zl H
      obtain ⟨LMc33, H⟩ := H
      replace H := zy H
      obtain ⟨y484, Ny484, H⟩ := H
      have c34b0 := eq_true (of_decide_eq_true asm : 0 ≤ x5_1)
      have c35b0 := eq_true (of_decide_eq_true asm : x5_1 ≤ (l0.length : Int))
      replace H := zl H
      obtain ⟨LMc36, H⟩ := H
      generalize hy488 : (y484 ++ (l0.drop (x5_1 : Int).toNat) : List Int) = y488 at H
      have Ny488 := Aside0.mk hy488.symm
      clear hy488
      obtain rfl := Option.some.inj H
      try go_wp2
      replace HB := zBd HB
      obtain ⟨i038, hi038, _, hsz38, _⟩ := info_parts info3
      obtain ⟨hcut38, hA38, hC38⟩ := print_take_of (P := Tryz.prog) (Value.int .i64) 0 25 3 .i64 Tryz.underlying25 hi038 hsz38 A0 c0 l0 x5_1 (of_decide_eq_true asm) (of_decide_eq_true asm) HC0.out
      have HR477 := Aside0.mk (Kd.C_of_reads (h1 := fun _ => rfl) (hA38 _ (Kd.reads_of_C HR0.out)))
      have HC477 := Aside0.mk hC38
      clear hA38 hC38 hi038 hsz38
      obtain ⟨i039, hi039, _, hsz39, _⟩ := info_parts info3
      obtain ⟨A39, hcut39, hA39, hC39⟩ := print_drop_of (P := Tryz.prog) (Value.int .i64) 0 25 3 .i64 Tryz.underlying25 hi039 hsz39 A0 c0 l0 x5_1 (of_decide_eq_true asm) (of_decide_eq_true asm) HC0.out
      have HR487 := Aside0.mk (Kd.C_of_reads (h1 := fun _ => rfl) (hA39 _ (Kd.reads_of_C HR0.out)))
      have HC487 := Aside0.mk hC39
      clear hA39 hC39 hi039 hsz39
      refine start_ (n := 13) (S := fun w' => True) (ds := []) #[false, false, false, false, false, false, false, false, false, false, false, false, false] (by kernel_rfl) rfl rfl trivial (fun hHeld => ?_); refine with_tabW spec_l9Put.tab6 spec_l9Put.bits6 (fun HT_ HW_ => ?_)
      generalize wr.drew = w37 at HB HR477 HR487 hHeld ⊢
      refine pu 1 (some 36) (bA 13 2) (ao HT_) ?_
      refine pu 2 (some 37) (bA 13 6) (ao HT_) ?_
      refine pu 3 (some 38) (bA 13 14) (ao HT_) ?_
      refine pu 5 (some 40) (bA 13 46) (ao HT_) ?_
      refine pu 8 (some 43) (bA 13 302) (ao HT_) ?_
      refine pu 9 (some 44) (bA 13 814) (ao HT_) ?_
      refine pu 10 (some 45) (bA 13 1838) (ao HT_) ?_
      refine join_ (σ := Value × Value × Value) 3 #[true, true, true, true, true, true, true, false, true, true, true, false, false] (fun s_ => [(35, s_.1), (39, s_.2.1), (41, s_.2.2)]) (fun s_ w' => (Kd.R (Kd.int .i64) 3 w' w.heap.size (fun k_ => some k_ ≠ (s_.2.2 : Value).ownBlock) s_.2.1 y478) ∧ (Kd.R (Kd.int .i64) 3 w' w.heap.size (fun k_ => some k_ ≠ (s_.2.1 : Value).ownBlock) s_.2.2 y481) ∧ (Below w.heap.size w w')) ?_ ?_
      rotate_left
      ·
       intro hCont
       refine two_ (i := 0) (j := 6) (Ni := some 35) (Nj := some 41) #[true, true, true, true, false, true, false, false, true, true, true, false, false] #[false, true, true, true, false, true, true, false, true, true, true, false, false] rfl rfl rfl rfl (two_of HT_.out (by kernel_rfl)) (by decide) (by decide) (fun K hK => ?_) (fun K hK => ?_)
       ·
        skip
        refine Kd.R_lit_step (Kd.int .i64) _ 3 ?hg (N := 35) ?hd (xs := ([] : List Int)) (inner := []) (ok := fun _ => True) (okp := fun _ => True) ?hr ?hp (fun _ hk => hk) trivial (Below.refl _ _) (Nat.le_refl _) (by simp) ?_; (case hd => rfl); (case hg => rfl); (case hr => first | (go_simp; done) | (go_simp; rfl)); (case hp => exact (Reps.none _ _))
        intro v475 w40 ho41 hb hg_ hnew_
        clear hg_ hnew_
        (first | rw [← Ny474.out] at ho41 | (simp only [Int.reduceToNat] at ho41; rw [← Ny474.out] at ho41))
        have HO476 := zl2 ho41
        replace HB := zB hb
        clear hb ho41
        refine hK.out _ _ trivial (fun hHeld => ?_)
        clear hK K
        refine norm_ (a' := ?_) ?_ ?_
        rotate_left
        ·
         show Act.put _ (some 35) _ = _
         simp only [Act.put, List.setIfInBounds_toArray, List.set_cons_zero, List.set_cons_succ, i64_w, i32_w]
         rfl
        refine two_ (i := 4) (j := 6) (Ni := some 39) (Nj := some 41) #[true, true, true, true, true, true, false, false, true, true, true, false, false] #[true, true, true, true, false, true, true, false, true, true, true, false, false] rfl rfl rfl rfl (two_of HT_.out (by kernel_rfl)) (by decide) (by decide) (fun K hK => ?_) (fun K hK => ?_)
        ·
         skip
         refine Kd.R_append_rows_step (Kd.int .i64) (w0 := w) w.heap.size (by rfl) (.tmp 35) (.tmp 38) 25 3 (.int .i64 0) 8 rfl Tryz.underlying25 info3 rfl (by decide) (by omega) v475 y474 (l0.take (x5_1 : Int).toNat) _ _ _ (fun _ => True) (fun _ => False) rfl rfl ?aO ?aR (fun _ _ h => h) (fun _ h => h.elim) ?aF ?aB ?aS ?aL ?_
         (case aR => first | (refine zAR (show (l0.take (x5_1 : Int).toNat).length = x5_1.toNat from (by rw [List.length_take]; have h_ : (x5_1 : Int) ≤ (l0.length : Int) := of_decide_eq_true asm; omega)) ?_; repeat (first | exact (Kd.C_below HR477.out HB.out) | (with_reducible refine Kd.C_alloc ?_ _) | (with_reducible refine Kd.C_drewN ?_ _) | (with_reducible refine Kd.C_drew ?_))) | (repeat (first | exact (Kd.C_below HR477.out HB.out) | (with_reducible refine Kd.C_alloc ?_ _) | (with_reducible refine Kd.C_drewN ?_ _) | (with_reducible refine Kd.C_drew ?_))))
         (case aB => exact bel)
         (case aF => exact (fun _ _ => trivial))
         (case aO => exact (kr HO476))
         (case aS => exact bsz)
         (case aL => have := LMc32.out; have hlx_ := (show (l0.take (x5_1 : Int).toNat).length = x5_1.toNat from (by rw [List.length_take]; have h_ : (x5_1 : Int) ≤ (l0.length : Int) := of_decide_eq_true asm; omega)); omega)
         intro v479 w42 ho hb hg hat
         rw [← Ny478.out] at ho
         replace HB := Aside0.mk hb
         have HO480 := Aside0.mk ho
         clear HO476
         clear ho hb hg hat
         refine hK.out _ _ trivial (fun hHeld => ?_)
         clear hK K
         refine norm_ (a' := ?_) ?_ ?_
         rotate_left
         ·
          show Act.put _ (some 39) _ = _
          simp only [Act.put, List.setIfInBounds_toArray, List.set_cons_zero, List.set_cons_succ, i64_w, i32_w]
          rfl
         refine one_ (i := 6) (N := some 41) (bA 13 1919) rfl rfl (one_of HT_.out (by kernel_rfl)) (by decide) (fun K hK => ?_)
         refine Kd.R_lit_step (Kd.int .i64) _ 3 ?hg (N := 41) ?hd (xs := ([a1] : List Int)) (inner := [.int .i64 a1]) (ok := fun _ => True) (okp := fun _ => True) ?hr ?hp (fun _ hk => hk) trivial (Below.refl _ _) (Nat.le_refl _) (by simp) ?_; (case hd => rfl); (case hg => rfl); (case hr => first | (go_simp; done) | (go_simp; rfl)); (case hp => exact (Reps.one (show Kd.M (Kd.int .i64) _ _ _ a1 [.int .i64 a1] from rfl) (Reps.none _ _)))
         intro v482 w43 ho44 hb hg_ hnew_
         clear hg_ hnew_
         (first | rw [← Ny481.out] at ho44 | (simp only [Int.reduceToNat] at ho44; rw [← Ny481.out] at ho44))
         have HO483 := Aside0.mk (Kd.R_lower (Kd.R_new' ho44 (Kd.R_lt (kr HO480))) bsz)
         replace HO480 := Aside0.mk (Kd.R_elder' (kr HO480) (Kd.R_base ho44) hb)
         replace HB := zB hb
         clear hb ho44
         refine hK.out _ _ trivial (fun hHeld => ?_)
         clear hK K
         refine norm_ (a' := ?_) ?_ ?_
         rotate_left
         ·
          show Act.put _ (some 41) _ = _
          simp only [Act.put, List.setIfInBounds_toArray, List.set_cons_zero, List.set_cons_succ, i64_w, i32_w]
          rfl
         exact norm_ (by simp only [putAll, Act.put, List.setIfInBounds_toArray, List.set_cons_zero, List.set_cons_succ]) (hCont (v475, v479, v482) _ ⟨(by (with_reducible repeat (first | apply Kd.R_alloc | apply Kd.R_drewN | apply Kd.R_drew)); exact Kd.R_mono HO480.out (fun _ hk => hk.2)), (by (with_reducible repeat (first | apply Kd.R_alloc | apply Kd.R_drewN | apply Kd.R_drew)); exact Kd.R_mono HO483.out (fun _ hk => hk.2)), bel⟩)
        ·
         skip
         refine Kd.R_lit_step (Kd.int .i64) _ 3 ?hg (N := 41) ?hd (xs := ([a1] : List Int)) (inner := [.int .i64 a1]) (ok := fun _ => True) (okp := fun _ => True) ?hr ?hp (fun _ hk => hk) trivial (Below.refl _ _) (Nat.le_refl _) (by simp) ?_; (case hd => rfl); (case hg => rfl); (case hr => first | (go_simp; done) | (go_simp; rfl)); (case hp => exact (Reps.one (show Kd.M (Kd.int .i64) _ _ _ a1 [.int .i64 a1] from rfl) (Reps.none _ _)))
         intro v482 w42 ho43 hb hg_ hnew_
         clear hg_ hnew_
         (first | rw [← Ny481.out] at ho43 | (simp only [Int.reduceToNat] at ho43; rw [← Ny481.out] at ho43))
         have HO483 := Aside0.mk (Kd.R_lower (Kd.R_new' ho43 (Kd.R_lt (kr HO476))) bsz)
         replace HO476 := Aside0.mk (Kd.R_elder' (kr HO476) (Kd.R_base ho43) hb)
         replace HB := zB hb
         clear hb ho43
         refine hK.out _ _ trivial (fun hHeld => ?_)
         clear hK K
         refine norm_ (a' := ?_) ?_ ?_
         rotate_left
         ·
          show Act.put _ (some 41) _ = _
          simp only [Act.put, List.setIfInBounds_toArray, List.set_cons_zero, List.set_cons_succ, i64_w, i32_w]
          rfl
         refine one_ (i := 4) (N := some 39) (bA 13 1919) rfl rfl (one_of HT_.out (by kernel_rfl)) (by decide) (fun K hK => ?_)
         refine Kd.R_append_rows_step (Kd.int .i64) (w0 := w) w.heap.size (by rfl) (.tmp 35) (.tmp 38) 25 3 (.int .i64 0) 8 rfl Tryz.underlying25 info3 rfl (by decide) (by omega) v475 y474 (l0.take (x5_1 : Int).toNat) _ _ _ (fun k_ => some k_ ≠ (v482 : Value).ownBlock) (fun _ => False) rfl rfl ?aO ?aR (fun _ _ h => h) (fun _ h => h.elim) ?aF ?aB ?aS ?aL ?_
         (case aR => first | (refine zAR (show (l0.take (x5_1 : Int).toNat).length = x5_1.toNat from (by rw [List.length_take]; have h_ : (x5_1 : Int) ≤ (l0.length : Int) := of_decide_eq_true asm; omega)) ?_; repeat (first | exact (Kd.C_below HR477.out HB.out) | (with_reducible refine Kd.C_alloc ?_ _) | (with_reducible refine Kd.C_drewN ?_ _) | (with_reducible refine Kd.C_drew ?_))) | (repeat (first | exact (Kd.C_below HR477.out HB.out) | (with_reducible refine Kd.C_alloc ?_ _) | (with_reducible refine Kd.C_drewN ?_ _) | (with_reducible refine Kd.C_drew ?_))))
         (case aB => exact bel)
         (case aF => exact (fun k_ hk => Kd.fresh' (Kd.R_lt (kr HO483)) k_ hk))
         (case aO => exact (by (with_reducible repeat (first | apply Kd.R_alloc | apply Kd.R_drewN | apply Kd.R_drew)); exact Kd.R_mono HO476.out (fun _ hk => hk.2)))
         (case aS => exact bsz)
         (case aL => have := LMc32.out; have hlx_ := (show (l0.take (x5_1 : Int).toNat).length = x5_1.toNat from (by rw [List.length_take]; have h_ : (x5_1 : Int) ≤ (l0.length : Int) := of_decide_eq_true asm; omega)); omega)
         intro v479 w44 ho hb hg hat
         rw [← Ny478.out] at ho
         replace HO483 := Aside0.mk (Kd.R_after (ok := (fun _ => True)) (kr HO483) hg hat)
         replace HB := Aside0.mk hb
         have HO480 := Aside0.mk ho
         clear HO476
         clear ho hb hg hat
         refine hK.out _ _ trivial (fun hHeld => ?_)
         clear hK K
         refine norm_ (a' := ?_) ?_ ?_
         rotate_left
         ·
          show Act.put _ (some 39) _ = _
          simp only [Act.put, List.setIfInBounds_toArray, List.set_cons_zero, List.set_cons_succ, i64_w, i32_w]
          rfl
         exact norm_ (by simp only [putAll, Act.put, List.setIfInBounds_toArray, List.set_cons_zero, List.set_cons_succ]) (hCont (v475, v479, v482) _ ⟨(kr HO480), (by (with_reducible repeat (first | apply Kd.R_alloc | apply Kd.R_drewN | apply Kd.R_drew)); exact Kd.R_mono HO483.out (fun _ hk => hk.2)), bel⟩)
       ·
        skip
        refine Kd.R_lit_step (Kd.int .i64) _ 3 ?hg (N := 41) ?hd (xs := ([a1] : List Int)) (inner := [.int .i64 a1]) (ok := fun _ => True) (okp := fun _ => True) ?hr ?hp (fun _ hk => hk) trivial (Below.refl _ _) (Nat.le_refl _) (by simp) ?_; (case hd => rfl); (case hg => rfl); (case hr => first | (go_simp; done) | (go_simp; rfl)); (case hp => exact (Reps.one (show Kd.M (Kd.int .i64) _ _ _ a1 [.int .i64 a1] from rfl) (Reps.none _ _)))
        intro v482 w40 ho41 hb hg_ hnew_
        clear hg_ hnew_
        (first | rw [← Ny481.out] at ho41 | (simp only [Int.reduceToNat] at ho41; rw [← Ny481.out] at ho41))
        have HO483 := zl2 ho41
        replace HB := zB hb
        clear hb ho41
        refine hK.out _ _ trivial (fun hHeld => ?_)
        clear hK K
        refine norm_ (a' := ?_) ?_ ?_
        rotate_left
        ·
         show Act.put _ (some 41) _ = _
         simp only [Act.put, List.setIfInBounds_toArray, List.set_cons_zero, List.set_cons_succ, i64_w, i32_w]
         rfl
        refine one_ (i := 0) (N := some 35) (bA 13 1903) rfl rfl (one_of HT_.out (by kernel_rfl)) (by decide) (fun K hK => ?_)
        refine Kd.R_lit_step (Kd.int .i64) _ 3 ?hg (N := 35) ?hd (xs := ([] : List Int)) (inner := []) (ok := fun _ => True) (okp := fun _ => True) ?hr ?hp (fun _ hk => hk) trivial (Below.refl _ _) (Nat.le_refl _) (by simp) ?_; (case hd => rfl); (case hg => rfl); (case hr => first | (go_simp; done) | (go_simp; rfl)); (case hp => exact (Reps.none _ _))
        intro v475 w42 ho43 hb hg_ hnew_
        clear hg_ hnew_
        (first | rw [← Ny474.out] at ho43 | (simp only [Int.reduceToNat] at ho43; rw [← Ny474.out] at ho43))
        have HO476 := Aside0.mk (Kd.R_lower (Kd.R_new' ho43 (Kd.R_lt (kr HO483))) bsz)
        replace HO483 := Aside0.mk (Kd.R_elder' (kr HO483) (Kd.R_base ho43) hb)
        replace HB := zB hb
        clear hb ho43
        refine hK.out _ _ trivial (fun hHeld => ?_)
        clear hK K
        refine norm_ (a' := ?_) ?_ ?_
        rotate_left
        ·
         show Act.put _ (some 35) _ = _
         simp only [Act.put, List.setIfInBounds_toArray, List.set_cons_zero, List.set_cons_succ, i64_w, i32_w]
         rfl
        refine one_ (i := 4) (N := some 39) (bA 13 1919) rfl rfl (one_of HT_.out (by kernel_rfl)) (by decide) (fun K hK => ?_)
        refine Kd.R_append_rows_step (Kd.int .i64) (w0 := w) w.heap.size (by rfl) (.tmp 35) (.tmp 38) 25 3 (.int .i64 0) 8 rfl Tryz.underlying25 info3 rfl (by decide) (by omega) v475 y474 (l0.take (x5_1 : Int).toNat) _ _ _ (fun k_ => some k_ ≠ (v482 : Value).ownBlock) (fun _ => False) rfl rfl ?aO ?aR (fun _ _ h => h) (fun _ h => h.elim) ?aF ?aB ?aS ?aL ?_
        (case aR => first | (refine zAR (show (l0.take (x5_1 : Int).toNat).length = x5_1.toNat from (by rw [List.length_take]; have h_ : (x5_1 : Int) ≤ (l0.length : Int) := of_decide_eq_true asm; omega)) ?_; repeat (first | exact (Kd.C_below HR477.out HB.out) | (with_reducible refine Kd.C_alloc ?_ _) | (with_reducible refine Kd.C_drewN ?_ _) | (with_reducible refine Kd.C_drew ?_))) | (repeat (first | exact (Kd.C_below HR477.out HB.out) | (with_reducible refine Kd.C_alloc ?_ _) | (with_reducible refine Kd.C_drewN ?_ _) | (with_reducible refine Kd.C_drew ?_))))
        (case aB => exact bel)
        (case aF => exact (fun k_ hk => Kd.fresh' (Kd.R_lt (kr HO483)) k_ hk))
        (case aO => exact (by (with_reducible repeat (first | apply Kd.R_alloc | apply Kd.R_drewN | apply Kd.R_drew)); exact Kd.R_mono HO476.out (fun _ hk => hk.2)))
        (case aS => exact bsz)
        (case aL => have := LMc32.out; have hlx_ := (show (l0.take (x5_1 : Int).toNat).length = x5_1.toNat from (by rw [List.length_take]; have h_ : (x5_1 : Int) ≤ (l0.length : Int) := of_decide_eq_true asm; omega)); omega)
        intro v479 w44 ho hb hg hat
        rw [← Ny478.out] at ho
        replace HO483 := Aside0.mk (Kd.R_after (ok := (fun _ => True)) (kr HO483) hg hat)
        replace HB := Aside0.mk hb
        have HO480 := Aside0.mk ho
        clear HO476
        clear ho hb hg hat
        refine hK.out _ _ trivial (fun hHeld => ?_)
        clear hK K
        refine norm_ (a' := ?_) ?_ ?_
        rotate_left
        ·
         show Act.put _ (some 39) _ = _
         simp only [Act.put, List.setIfInBounds_toArray, List.set_cons_zero, List.set_cons_succ, i64_w, i32_w]
         rfl
        exact norm_ (by simp only [putAll, Act.put, List.setIfInBounds_toArray, List.set_cons_zero, List.set_cons_succ]) (hCont (v475, v479, v482) _ ⟨(kr HO480), (by (with_reducible repeat (first | apply Kd.R_alloc | apply Kd.R_drewN | apply Kd.R_drew)); exact Kd.R_mono HO483.out (fun _ hk => hk.2)), bel⟩)
      rintro ⟨v475, v479, v482⟩ w45 ⟨h0_, h1_, h2_⟩
      have n0_ : Aside0 (Kd.R (Kd.int .i64) 3 w45 w.heap.size (fun k_ => some k_ ≠ (v482 : Value).ownBlock) v479 y478) := ⟨h0_⟩
      have n1_ : Aside0 (Kd.R (Kd.int .i64) 3 w45 w.heap.size (fun k_ => some k_ ≠ (v479 : Value).ownBlock) v482 y481) := ⟨h1_⟩
      have n2_ : Aside0 (Below w.heap.size w w45) := ⟨h2_⟩
      clear HB
      clear h0_ h1_ h2_
      have HO480 := n0_
      have HO483 := n1_
      have HB := n2_
      clear n0_ n1_ n2_
      have hHeld := trivial
      obtain ⟨Ao47, co47, eo47⟩ := Kd.R_slice HO483.out
      (first | subst eo47 | (injection eo47 with f1_ f2_ f3_; have f4_ := f1_.symm; have f5_ := f3_.symm; clear f1_ f2_ f3_; subst f4_; subst f5_))
      refine norm_ (a' := ?_) ?_ ?_
      rotate_left
      ·
       simp only [putAll, Act.put, List.setIfInBounds_toArray, List.set_cons_zero, List.set_cons_succ]
       rfl
      refine one_ (i := 7) (N := some 42) (bA 13 2047) rfl rfl (one_of HT_.out (by kernel_rfl)) (by decide) (fun K hK => ?_)
      refine Kd.R_append_rows_step (Kd.int .i64) (w0 := w) w.heap.size (by rfl) (.tmp 39) (.tmp 41) 25 3 (.int .i64 0) 8 rfl Tryz.underlying25 info3 rfl (by decide) (by omega) v479 y478 y481 _ _ _ (fun k_ => some k_ ≠ (.slice Ao47 y481.length co47 : Value).ownBlock) (fun _ => False) rfl rfl ?aO ?aR (fun _ _ h => h) (fun _ h => h.elim) ?aF ?aB ?aS ?aL ?_
      (case aR => repeat (first | exact (Kd.R_reads' HO483.out).2.2 | (with_reducible refine Kd.C_alloc ?_ _) | (with_reducible refine Kd.C_drewN ?_ _) | (with_reducible refine Kd.C_drew ?_)))
      (case aB => exact bel)
      (case aF => exact (fun k_ hk => Kd.fresh' (Kd.R_lt (kr HO483)) k_ hk))
      (case aO => exact (kr HO480))
      (case aS => exact bsz)
      (case aL => have := LMc33.out; omega)
      intro v485 w46 ho hb hg hat
      rw [← Ny484.out] at ho
      replace HO483 := Aside0.mk (Kd.R_after (ok := (fun _ => True)) (by (with_reducible repeat (first | apply Kd.R_alloc | apply Kd.R_drewN | apply Kd.R_drew)); exact Kd.R_mono HO483.out (fun _ hk => ⟨trivial, hk⟩)) hg hat)
      replace HB := Aside0.mk hb
      have HO486 := Aside0.mk ho
      clear HO480
      clear ho hb hg hat
      refine hK.out _ _ trivial (fun hHeld => ?_)
      clear hK K
      refine norm_ (a' := ?_) ?_ ?_
      rotate_left
      ·
       show Act.put _ (some 42) _ = _
       simp only [Act.put, List.setIfInBounds_toArray, List.set_cons_zero, List.set_cons_succ, i64_w, i32_w]
       rfl
      refine one_ (i := 11) (N := some 46) (bA 13 4095) rfl rfl (one_of HT_.out (by kernel_rfl)) (by decide) (fun K hK => ?_)
      refine Kd.R_append_rows_step (Kd.int .i64) (w0 := w) w.heap.size (by rfl) (.tmp 42) (.tmp 45) 25 3 (.int .i64 0) 8 rfl Tryz.underlying25 info3 rfl (by decide) (by omega) v485 y484 (l0.drop (x5_1 : Int).toNat) _ _ _ (fun k_ => some k_ ≠ (.slice Ao47 y481.length co47 : Value).ownBlock) (fun _ => False) rfl rfl ?aO ?aR (fun _ _ h => h) (fun _ h => h.elim) ?aF ?aB ?aS ?aL ?_
      (case aR => first | (rw [← show (l0.drop (x5_1 : Int).toNat).length = (l0.length - x5_1.toNat) from List.length_drop]; repeat (first | exact (Kd.C_below HR487.out HB.out) | (with_reducible refine Kd.C_alloc ?_ _) | (with_reducible refine Kd.C_drewN ?_ _) | (with_reducible refine Kd.C_drew ?_))) | (repeat (first | exact (Kd.C_below HR487.out HB.out) | (with_reducible refine Kd.C_alloc ?_ _) | (with_reducible refine Kd.C_drewN ?_ _) | (with_reducible refine Kd.C_drew ?_))))
      (case aB => exact bel)
      (case aF => exact (fun k_ hk => Kd.fresh' (Kd.R_lt (kr HO483)) k_ hk))
      (case aO => exact (kr HO486))
      (case aS => exact bsz)
      (case aL => have := LMc36.out; have hlx_ := (show (l0.drop (x5_1 : Int).toNat).length = (l0.length - x5_1.toNat) from List.length_drop); omega)
      intro v489 w48 ho hb hg hat
      rw [← Ny488.out] at ho
      replace HO483 := Aside0.mk (Kd.R_after (ok := (fun _ => True)) (kr HO483) hg hat)
      replace HB := Aside0.mk hb
      have HO490 := Aside0.mk ho
      clear HO486
      clear ho hb hg hat
      refine hK.out _ _ trivial (fun hHeld => ?_)
      clear hK K
      refine norm_ (a' := ?_) ?_ ?_
      rotate_left
      ·
       show Act.put _ (some 46) _ = _
       simp only [Act.put, List.setIfInBounds_toArray, List.set_cons_zero, List.set_cons_succ, i64_w, i32_w]
       rfl
      refine pu 12 (some 4) (bA 13 8191) (ao HT_) ?_
      refine done_ (done_of HT_.out (by kernel_rfl)) ?_
      try go_wp2
      go_ret
      exact ⟨_, er, by (with_reducible repeat (first | apply Kd.R_alloc | apply Kd.R_drewN | apply Kd.R_drew)); exact Kd.R_mono HO490.out (fun _ hk => trivial), bel⟩
     ·
      rw [if_neg c31] at H
      exact absurd H (by simp)
    ·
     rw [if_neg c30] at H
     exact absurd H (by simp)

end Go.Proofs.YtpcdfjcbjbkliaaGreat.E
