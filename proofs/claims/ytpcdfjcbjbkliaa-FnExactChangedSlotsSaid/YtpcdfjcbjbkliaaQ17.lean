import Derived.Test.YtpcdfjcbjbkliaaSq
import Derived.Test.YtpcdfjcbjbkliaaQ0
import Derived.Test.YtpcdfjcbjbkliaaQ16
namespace Go.Proofs.Ytpcdfjcbjbkliaa.E
open Go.RowKit Go.Proofs.YtpcdfjcbjbkliaaW.PrintWords Go.Proofs.YtpcdfjcbjbkliaaW.PrintLast Go.Proofs.YtpcdfjcbjbkliaaW.PrintMore
attribute [local go_sem] max2_int min2_int max_two min_two max_three min_three max_four min_four
set_option linter.unusedVariables false
set_option linter.unusedSimpArgs false

/-! ### impl_cells: function 79 -/
mutual
def impl_cells.j0 : Nat → Int → Int → Bool → Int → Int → Option (List Int)
 | 0, _, _, _, _, _ => none
 | k + 1, x5, x398000, x398001, x398002, x398003 => impl_cells.l0 k x5 ([] : List Int) x398003 0 x398000 x398001 x398002 x398003
def impl_cells.l0 : Nat → Int → List Int → Int → Int → Int → Bool → Int → Int → Option (List Int)
 | 0, _, _, _, _, _, _, _, _ => none
 | k + 1, x5, x6, x13, x14, x398000, x398001, x398002, x398003 => if x14 < x13 then (if x6.length < 17592186044416 then (impl_cells.l0 k x5 (x6 ++ [wrap64 (x398002 + (wrap64 (x14 * x5)))]) x13 (wrap64 (x14 + 1)) x398000 x398001 x398002 x398003) else (none)) else (some x6)
end
def impl_cells.f (k : Nat) (a0_0 : Int) (a0_1 : Int) (a0_2 : ByteArray) (a1_0 : Int) (a1_1 : Bool) (a1_2 : Int) (a1_3 : Int) : Option (List Int) := if a1_1 = true then (impl_cells.j0 k a0_1 a1_0 a1_1 a1_2 a1_3) else (impl_cells.j0 k 1 a1_0 a1_1 a1_2 a1_3)
set_option maxHeartbeats 8000000 in
set_option maxRecDepth 100000 in
theorem impl_cells.calls (k : Nat) (a0_0 : Int) (a0_1 : Int) (a0_2 : ByteArray) (a1_0 : Int) (a1_1 : Bool) (a1_2 : Int) (a1_3 : Int) (r : List Int) (w : World) (H : impl_cells.f k a0_0 a0_1 a0_2 a1_0 a1_1 a1_2 a1_3 = some r) :
  Calls Try.prog 79 #[.agg #[.int .i64 a0_0, .int .i64 a0_1, .string a0_2], .agg #[.int .i64 a1_0, .bool a1_1, .int .i64 a1_2, .int .i64 a1_3]] w fun e w' => ∃ v0_ : Value, e = .returned (v0_) ∧ Kd.R (Kd.int .i64) 3 w' w.heap.size (fun _ => True) v0_ r ∧ Below w.heap.size w w' := by
 have hu30 := Try.underlying30
 have hu79 := Try.underlying79
 have HB := Aside0.mk (Below.refl w.heap.size w)
 unfold impl_cells.f at H
 have HC3 := Aside0.mk H
 clear H
 go_enter Try.func79, Try.ntmps79
 go_upto_if 9 with (first | ((with_reducible refine zd 2 rfl ?_); refine zbx (w := w) #[.int .i64 a0_0, .int .i64 a0_1, .string a0_2] 30 ?_; intro gb396 hg w4 BK396 hb; have GW396 := zg (w := w) hg; replace HB := zB hb; clear hb hg) | ((with_reducible refine zd 3 rfl ?_); refine zbx (w := w) #[.int .i64 a1_0, .bool a1_1, .int .i64 a1_2, .int .i64 a1_3] 79 ?_; intro gb397 hg w5 BK397 hb; have GW397 := zg (w := w) hg; replace HB := zB hb; have NB396_397 := zn hg BK396; have NB397_396 := zm hg BK396; replace BK396 := zk BK396 hb; clear hb hg; have hnb6 := NB397_396.out; have hnc6 := NB396_397.out; have ⟨_, _, _, _, _, _, _, _⟩ := cz4 BK397))
 (try simp only [Act.put, List.setIfInBounds_toArray, List.set_cons_zero, List.set_cons_succ])
 go_cut [5] (fun v5 wc => ∃ (kq : Nat) (x5_2 : Int), v5 = .int .i64 x5_2 ∧ Aside0 (impl_cells.j0 kq x5_2 a1_0 a1_1 a1_2 a1_3 = some r) ∧ Aside0 (kq ≤ k) ∧ Aside0 (wc.heap[gb396]? = some (.cells #[.int .i64 a0_0, .int .i64 a0_1, .string a0_2] 30 (0, 0))) ∧ Aside0 (wc.heap[gb397]? = some (.cells #[.int .i64 a1_0, .bool a1_1, .int .i64 a1_2, .int .i64 a1_3] 79 (0, 0))) ∧ Aside0 (Below w.heap.size w wc))
 case first =>
  have H := HC3.out
  clear HC3
  replace H := zb H
  rcases H with ⟨rfl, H⟩ | ⟨rfl, H⟩
  ·
   have H' := Aside0.mk H
   clear H
   have hnb9 := NB396_397.out
   have hnc9 := NB397_396.out
   have ⟨_, _, _, _, _, _⟩ := cz3 BK396
   go_wp2
   go_meet
   case rel => exact ⟨_, (a0_1), rf, H', ⟨by first | omega | exact Nat.le_refl _⟩, ⟨bk BK396⟩, ⟨bk BK397⟩, ⟨bel⟩⟩
  ·
   have H' := Aside0.mk H
   clear H
   go_wp2
   go_meet
   case rel => exact ⟨_, (1), rf, H', ⟨by first | omega | exact Nat.le_refl _⟩, ⟨bk BK396⟩, ⟨bk BK397⟩, ⟨bel⟩⟩
 case rest =>
  clear HC3
  obtain ⟨kq, x5_2, rfl, HA, HJ2, BK396, BK397, HB⟩ := hcut
  cases kq with
  | zero => exact absurd HA.out (by simp [impl_cells.j0])
  | succ kj2 =>
   have H := HA.out
   clear HA
   simp only [impl_cells.j0] at H
   have H' := Aside0.mk H
   clear H
   have hnb11 := NB397_396.out
   have hnc11 := NB396_397.out
   have ⟨_, _, _, _, _, _, _, _⟩ := cz4 BK397
   go_wp2
   go_loopg [6, 14] kj2 (fun kq v6 v14 w' => ∃ (x6_2 : List Int) (x14_2 : Int), v14 = .int .i64 x14_2 ∧ Aside0 (impl_cells.l0 kq x5_2 x6_2 a1_3 x14_2 a1_0 a1_1 a1_2 a1_3 = some r) ∧ Aside0 (kq ≤ kj2) ∧ Aside0 (Kd.R (Kd.int .i64) 3 w' w.heap.size (fun _ => True) v6 x6_2) ∧ Aside0 (w'.heap[gb396]? = some (.cells #[.int .i64 a0_0, .int .i64 a0_1, .string a0_2] 30 (0, 0))) ∧ Aside0 (w'.heap[gb397]? = some (.cells #[.int .i64 a1_0, .bool a1_1, .int .i64 a1_2, .int .i64 a1_3] 79 (0, 0))) ∧ Aside0 (Below w.heap.size w w'))
   case atStart => exact ⟨(([] : List Int)), (0), rf, H', ⟨Nat.le_refl _⟩, ⟨by first | exact Kd.R_nil _ _ _ _ _ | exact Kd.N_nil _ _ _ _ _ | exact Kd.V_nil _ _ _ _ _ | exact Kd.Q_nil _ _ _ _ _ | exact Kd.S_nil _ _ _ _ _⟩, ⟨bk BK396⟩, ⟨bk BK397⟩, ⟨bel⟩⟩
   case round =>
    clear H'
    obtain ⟨x6_2, x14_2, rfl, HA, HK2, HO_6, BK396, BK397, HB⟩ := hrel
    cases gk with
    | zero => exact absurd HA.out (by simp [impl_cells.l0])
    | succ k2 =>
     have H := HA.out
     clear HA
     simp only [impl_cells.l0] at H
     replace H := zc H
     rcases H with ⟨c13b0, H⟩ | ⟨c13b0, H⟩
     ·
      replace H := zl H
      obtain ⟨LMc14, H⟩ := H
      generalize hy398 : (x6_2 ++ [wrap64 (a1_2 + (wrap64 (x14_2 * x5_2)))] : List Int) = y398 at H
      have Ny398 := Aside0.mk hy398.symm
      clear hy398
      have H' := Aside0.mk H
      clear H
      have hnb15 := NB397_396.out
      have hnc15 := NB396_397.out
      have ⟨_, _, _, _, _, _, _, _⟩ := cz4 BK397
      go_wp2_with (first | ((with_reducible refine gate_builtin (b := .append) (xs := #[.tmp 17, .tmp 24]) rfl ?_); at_builtin; refine Kd.R_append (Kd.int .i64) (w0 := w) w.heap.size rfl (.tmp 17) (.tmp 24) 28 3 (.int .i64 0) 8 rfl Try.underlying28 info3 rfl (by decide) (by omega) u6 x6_2 (wrap64 (a1_2 + (wrap64 (x14_2 * x5_2)))) [.int .i64 (wrap64 (a1_2 + (wrap64 (x14_2 * x5_2))))] (fun _ => True) (fun _ => False) rfl rfl ?aP (fun _ hk => hk.elim) ?aF ?aO ?aB ?aS ?aL ?_; (case aP => exact rfl); (case aB => exact bel); (case aF => exact (fun _ _ => trivial)); (case aO => exact (kr HO_6)); (case aS => exact bsz); (case aL => have := LMc14.out; omega); intro v399 w17 ho hb hg hat; rw [← Ny398.out] at ho; replace BK396 := Aside0.mk (blk_grown (bk BK396) hg (Kd.R_ne HO_6.out BK396.out (by decide))); replace BK397 := Aside0.mk (blk_grown (bk BK397) hg (Kd.R_ne HO_6.out BK397.out (by decide))); replace HB := Aside0.mk hb; have HO400 := Aside0.mk ho; clear HO_6; clear ho hb hg hat))
      go_roundg k2
      case measure => have := HJ2.out; have := HK2.out; omega
      case rel => exact ⟨(y398), (wrap64 (x14_2 + 1)), rf, H', ⟨by have := HJ2.out; have := HK2.out; omega⟩, ⟨kr HO400⟩, ⟨bk BK396⟩, ⟨bk BK397⟩, ⟨bel⟩⟩
     ·
      obtain rfl := Option.some.inj H
      go_wp2
      go_ret
      exact ⟨_, er, kr HO_6, bel⟩

/-! ### impl_layout: function 53 -/
def impl_layout.l0 : Nat → List (List Int) → List (S79) → Int → Int → Int → Int → ByteArray → Option ((List (List Int)))
 | 0, _, _, _, _, _, _, _ => none
 | k + 1, x3, x7, x8, x9, x402000, x402001, x402002 => if x9 < x8 then (if 0 ≤ x9 then (if x9 < (x7.length : Int) then ((impl_cells.f k x402000 x402001 x402002 ((rd_T79 x7 x9).f0) ((rd_T79 x7 x9).f1) ((rd_T79 x7 x9).f2) ((rd_T79 x7 x9).f3)).bind fun t407 => (if x3.length < 5864062014805 then (impl_layout.l0 k (x3 ++ [t407]) x7 x8 (wrap64 (x9 + 1)) x402000 x402001 x402002) else (none))) else (none)) else (none)) else (some x3)
def impl_layout.f (k : Nat) (a0_0 : Int) (a0_1 : Int) (a0_2 : ByteArray) : Option ((List (List Int))) := (impl_SlotsOf.f k a0_0 a0_1 a0_2).bind fun t402 => (impl_layout.l0 k ([] : List (List Int)) t402 (t402.length : Int) 0 a0_0 a0_1 a0_2)
set_option maxHeartbeats 8000000 in
set_option maxRecDepth 100000 in
theorem impl_layout.calls (k : Nat) (a0_0 : Int) (a0_1 : Int) (a0_2 : ByteArray) (r : List (List Int)) (w : World) (H : impl_layout.f k a0_0 a0_1 a0_2 = some r) :
  Calls Try.prog 53 #[.agg #[.int .i64 a0_0, .int .i64 a0_1, .string a0_2]] w fun e w' => ∃ v0_ : Value, e = .returned (v0_) ∧ Kd.S (Kd.slice 3 (Kd.int .i64)) 28 w' w.heap.size (fun _ => True) v0_ r ∧ Below w.heap.size w w' := by
 have hu30 := Try.underlying30
 have hu79 := Try.underlying79
 have HB := Aside0.mk (Below.refl w.heap.size w)
 unfold impl_layout.f at H
 replace H := zs H
 obtain ⟨t402, A2, H⟩ := H
 have H' := Aside0.mk H
 clear H
 go_enter Try.func53, Try.ntmps53
 go_wp2_with (first | ((with_reducible refine zd 1 rfl ?_); refine zbx (w := w) #[.int .i64 a0_0, .int .i64 a0_1, .string a0_2] 30 ?_; intro gb401 hg w3 BK401 hb; have GW401 := zg (w := w) hg; replace HB := zB hb; clear hb hg; have ⟨_, _, _, _, _, _⟩ := cz3 BK401) | ((with_reducible refine zd 7 rfl ?_); refine zgl Try.func61 (impl_SlotsOf.calls k a0_0 a0_1 a0_2 t402 _ A2.out) ?_; rintro e w5 ⟨v403, rfl, ho0, hb⟩; refine ⟨_, rfl, ?_⟩; have HO404 := zl2 ho0; replace BK401 := zk BK401 hb; replace HB := zB hb; obtain ⟨Ao6, co6, eo6⟩ := Kd.R_slice HO404.out; subst eo6))
 go_loopg [3, 9] k (fun kq v3 v9 w' => ∃ (x3_1 : List (List Int)) (x9_1 : Int), v9 = .int .i64 x9_1 ∧ Aside0 (impl_layout.l0 kq x3_1 t402 (t402.length : Int) x9_1 a0_0 a0_1 a0_2 = some r) ∧ Aside0 (kq ≤ k) ∧ Aside0 (Kd.S (Kd.slice 3 (Kd.int .i64)) 28 w' w.heap.size (fun _ => True) v3 x3_1) ∧ Aside0 (Kd.R k79 79 w' w.heap.size (fun _ => True) (.slice Ao6 t402.length co6) t402) ∧ Aside0 (w'.heap[gb401]? = some (.cells #[.int .i64 a0_0, .int .i64 a0_1, .string a0_2] 30 (0, 0))) ∧ Aside0 (Below w.heap.size w w'))
 case atStart => exact ⟨(([] : List (List Int))), (0), rf, H', ⟨Nat.le_refl _⟩, ⟨by first | exact Kd.S_nil _ _ _ _ _ | exact Kd.N_nil _ _ _ _ _ | exact Kd.V_nil _ _ _ _ _ | exact Kd.Q_nil _ _ _ _ _ | exact Kd.R_nil _ _ _ _ _⟩, ⟨kr HO404⟩, ⟨bk BK401⟩, ⟨bel⟩⟩
 case round =>
  clear H'
  obtain ⟨x3_1, x9_1, rfl, HA, HK1, HO_3, HO_7, BK401, HB⟩ := hrel
  cases gk with
  | zero => exact absurd HA.out (by simp [impl_layout.l0])
  | succ k1 =>
   have H := HA.out
   clear HA
   simp only [impl_layout.l0] at H
   replace H := zc H
   rcases H with ⟨c7b0, H⟩ | ⟨c7b0, H⟩
   ·
    replace H := zr H
    obtain ⟨c8b0, H⟩ := H
    replace H := zr H
    obtain ⟨c9b0, H⟩ := H
    replace H := zs H
    obtain ⟨t407, A10, H⟩ := H
    replace H := zl H
    obtain ⟨LMc11, H⟩ := H
    generalize hy410 : (x3_1 ++ [t407] : List (List Int)) = y410 at H
    have Ny410 := Aside0.mk hy410.symm
    clear hy410
    have H' := Aside0.mk H
    clear H
    obtain ⟨p405, q405, ad405, e405, hx405_0, hx405_1, hx405_2, hx405_3⟩ := zx (at_T79 (Kd.R_reads' HO_7.out).2.2 x9_1)
    cases e405
    go_wp2_with (first | ((with_reducible refine zd 5 rfl ?_); refine zbx (w := w) #[.int .i64 0, .bool false, .int .i64 0, .int .i64 0] 79 ?_; intro gb406 hg w12 BK406 hb; replace HO_3 := zS HO_3 hb; replace HO_7 := Aside0.mk (Kd.R_below (Kd.R_elderB (kr HO_7) gb406 (Nat.le_of_eq hg.symm)) hb); have GW406 := zg (w := w) hg; replace HB := zB hb; have NB401_406 := zn hg BK401; have NB406_401 := zm hg BK401; replace BK401 := zk BK401 hb; clear hb hg; have hnb13 := NB406_401.out; have hnc13 := NB401_406.out; have ⟨_, _, _, _, _, _, _, _⟩ := cz4 BK406; have ⟨_, _, _, _, _, _⟩ := cz3 BK401) | ((with_reducible refine zd 16 rfl ?_); refine zgl Try.func79 (impl_cells.calls k1 a0_0 a0_1 a0_2 ((rd_T79 t402 x9_1).f0) ((rd_T79 t402 x9_1).f1) ((rd_T79 t402 x9_1).f2) ((rd_T79 t402 x9_1).f3) t407 _ A10.out) ?_; rintro e w16 ⟨v408, rfl, ho0, hb⟩; refine ⟨_, rfl, ?_⟩; replace HO_3 := Aside0.mk (Kd.S_elder' (zSf HO_3 BK406) (Kd.R_base ho0) hb); replace HO_7 := Aside0.mk (Kd.R_below (by (with_reducible repeat (first | apply Kd.R_alloc | apply Kd.R_drewN | apply Kd.R_drew)); exact (Kd.R_mono (Kd.R_far (p := ⟨gb406, 3, none⟩) (Kd.R_far (p := ⟨gb406, 2, none⟩) (Kd.R_far (p := ⟨gb406, 1, none⟩) (Kd.R_far (p := ⟨gb406, 0, none⟩) (Kd.R_mono HO_7.out (fun k_ hk => (⟨hk, hk.2⟩ : _ ∧ k_ ≠ gb406))) (fun _ hk => hk.2) (.int .i64 ((rd_T79 t402 x9_1).f0))) (fun _ hk => hk.2) (.bool ((rd_T79 t402 x9_1).f1))) (fun _ hk => hk.2) (.int .i64 ((rd_T79 t402 x9_1).f2))) (fun _ hk => hk.2) (.int .i64 ((rd_T79 t402 x9_1).f3))) (fun _ h_ => h_.1))) hb); have HO409 := zl2 ho0; replace BK401 := zkf BK401 hb; replace BK406 := zkf BK406 hb; replace HB := zB hb; obtain ⟨Ao18, co18, eo18⟩ := Kd.R_slice HO409.out; subst eo18) | ((with_reducible refine gate_builtin (b := .append) (xs := #[.tmp 13, .tmp 17]) rfl ?_); at_builtin; refine Kd.S_append (Kd.slice 3 (Kd.int .i64)) (w0 := w) w.heap.size rfl (.tmp 13) (.tmp 17) 81 28 (.slice none 0 0) 24 rfl Try.underlying81 info28 rfl (by decide) (by omega) u3 x3_1 t407 [.slice Ao18 t407.length co18] (fun _ => True) (fun k_ => some k_ = (.slice Ao18 t407.length co18 : Value).ownBlock) rfl rfl ?aP (fun k_ hk_ => ((Kd.R_mono (ok' := fun k_ => ((fun _ => True)) k_ ∧ some k_ ≠ (u3 : Value).ownBlock) (Kd.R_apart' (HO409.out) (Kd.S_typed HO_3.out) (by decide)) (fun k_ hk => ⟨trivial, hk.2⟩))).1 k_ hk_.symm) ?aF ?aO ?aB ?aS ?aL ?_; (case aP => exact Kd.M_row (Kd.R_mono (Kd.R_tight rfl (Kd.R_mono (ok' := fun k_ => ((fun _ => True)) k_ ∧ some k_ ≠ (u3 : Value).ownBlock) (Kd.R_apart' (HO409.out) (Kd.S_typed HO_3.out) (by decide)) (fun k_ hk => ⟨trivial, hk.2⟩))) (fun _ h_ => h_))); (case aB => exact bel); (case aF => exact (fun _ _ => trivial)); (case aO => exact (by (with_reducible repeat (first | apply Kd.S_alloc | apply Kd.S_drewN | apply Kd.S_drew)); exact Kd.S_mono HO_3.out (fun k_ hk => ⟨trivial, fun e_ => hk.2 e_⟩))); (case aS => exact bsz); (case aL => have := LMc11.out; omega); intro v411 w17 ho hb hg hat; rw [← Ny410.out] at ho; replace HO_7 := Aside0.mk (Kd.R_over' (kr HO_7) (Kd.S_typed (ks HO_3)) (by decide) hg); replace BK401 := Aside0.mk (blk_grown (bk BK401) hg (Kd.S_ne HO_3.out BK401.out (by decide))); replace BK406 := Aside0.mk (blk_grown (bk BK406) hg (Kd.S_ne HO_3.out BK406.out (by decide))); replace HB := Aside0.mk hb; have HO412 := Aside0.mk ho; clear HO_3; clear HO409; clear ho hb hg hat))
    go_roundg k1
    case measure => have := HK1.out; omega
    case rel => exact ⟨(y410), (wrap64 (x9_1 + 1)), rf, H', ⟨by have := HK1.out; omega⟩, ⟨ks HO412⟩, ⟨by (with_reducible repeat (first | apply Kd.R_alloc | apply Kd.R_drewN | apply Kd.R_drew)); exact Kd.R_mono HO_7.out (fun _ hk => trivial)⟩, ⟨bk BK401⟩, ⟨bel⟩⟩
   ·
    obtain rfl := Option.some.inj H
    go_wp2
    go_ret
    exact ⟨_, er, ks HO_3, bel⟩

/-! ### slices_Index_int_int: function 112 -/
def slices_Index_int_int.l0 : Nat → List Int → Int → Int → Int → Option (Int)
 | 0, _, _, _, _ => none
 | k + 1, x0, x1, x7, x8 => if x8 < x7 then (if 0 ≤ x8 then (if x8 < (x0.length : Int) then (if x1 = (rd x0 x8) then (some x8) else (slices_Index_int_int.l0 k x0 x1 x7 (wrap64 (x8 + 1)))) else (none)) else (none)) else (some (-1))
def slices_Index_int_int.f (k : Nat) (l0 : List Int) (a1 : Int) : Option (Int) := slices_Index_int_int.l0 k l0 a1 (l0.length : Int) 0
set_option maxHeartbeats 8000000 in
set_option maxRecDepth 100000 in
theorem slices_Index_int_int.calls (k : Nat) (A0 : Option Addr) (c0 : Nat) (l0 : List Int) (a1 : Int) (r : Int) (w : World) (hr0 : Kd.C (Kd.int .i64) w A0 l0.length l0) (hc0 : l0.length ≤ c0) (H : slices_Index_int_int.f k l0 a1 = some r) :
  Calls Try.prog 112 #[.slice A0 l0.length c0, .int .i64 a1] w fun e w' => e = .returned (.int .i64 r) ∧ Drawn0 w w' := by
 have HR0 := Aside0.mk hr0
 have HC0 := Aside0.mk hc0
 clear hr0 hc0
 unfold slices_Index_int_int.f at H
 have H' := Aside0.mk H
 clear H
 go_enter Try.func112, Try.ntmps112
 go_wp2
 go_loopg [8] k (fun kq v8 w' => ∃ (x8_1 : Int), v8 = .int .i64 x8_1 ∧ Aside0 (slices_Index_int_int.l0 kq l0 a1 (l0.length : Int) x8_1 = some r) ∧ Aside0 (kq ≤ k) ∧ Drawn0 w w')
 case atStart => exact ⟨(0), rf, H', ⟨Nat.le_refl _⟩, by repeat (first | exact Drawn0.refl _ | apply Drawn0.step)⟩
 case round =>
  clear H'
  obtain ⟨x8_1, rfl, HA, HK1, ⟨m1, rfl⟩⟩ := hrel
  cases gk with
  | zero => exact absurd HA.out (by simp [slices_Index_int_int.l0])
  | succ k1 =>
   have H := HA.out
   clear HA
   simp only [slices_Index_int_int.l0] at H
   replace H := zc H
   rcases H with ⟨c3b0, H⟩ | ⟨c3b0, H⟩
   ·
    replace H := zr H
    obtain ⟨c4b0, H⟩ := H
    replace H := zr H
    obtain ⟨c5b0, H⟩ := H
    by_cases c6 : a1 = (rd l0 x8_1)
    ·
     rw [if_pos c6] at H
     have c6b0 : (a1 == (rd l0 x8_1)) = true := beq_iff_eq.mpr c6
     have c6b1 : (a1 != (rd l0 x8_1)) = false := bne_eq_false_iff_eq.mpr c6
     clear c6
     obtain rfl := Option.some.inj H
     obtain ⟨p413, q413, ad413, e413, hx413_0⟩ := zx (Kd.at_int HR0.out x8_1)
     cases e413
     go_wp2
     go_ret
     exact ⟨by first | rfl | (simp; done) | (simp [*]; done), by repeat (first | exact Drawn0.refl _ | apply Drawn0.step)⟩
    ·
     rw [if_neg c6] at H
     have c6b0 : (a1 == (rd l0 x8_1)) = false := beq_eq_false_iff_ne.mpr c6
     have c6b1 : (a1 != (rd l0 x8_1)) = true := bne_iff_ne.mpr c6
     have H' := Aside0.mk H
     clear H
     obtain ⟨p413, q413, ad413, e413, hx413_0⟩ := zx (Kd.at_int HR0.out x8_1)
     cases e413
     go_wp2
     go_roundg k1
     case measure => have := HK1.out; omega
     case rel => exact ⟨(wrap64 (x8_1 + 1)), rf, H', ⟨by have := HK1.out; omega⟩, by repeat (first | exact Drawn0.refl _ | apply Drawn0.step)⟩
   ·
    obtain rfl := Option.some.inj H
    go_wp2
    go_ret
    exact ⟨by first | rfl | (simp; done) | (simp [*]; done), by repeat (first | exact Drawn0.refl _ | apply Drawn0.step)⟩

/-! ### slices_Contains_int_int: function 111 -/
def slices_Contains_int_int.f (k : Nat) (l0 : List Int) (a1 : Int) : Option (Bool) := (slices_Index_int_int.f k l0 a1).bind fun t414 => (some (decide (t414 ≥ 0)))
set_option maxHeartbeats 8000000 in
set_option maxRecDepth 100000 in
theorem slices_Contains_int_int.calls (k : Nat) (A0 : Option Addr) (c0 : Nat) (l0 : List Int) (a1 : Int) (r : Bool) (w : World) (hr0 : Kd.C (Kd.int .i64) w A0 l0.length l0) (hc0 : l0.length ≤ c0) (H : slices_Contains_int_int.f k l0 a1 = some r) :
  Calls Try.prog 111 #[.slice A0 l0.length c0, .int .i64 a1] w fun e w' => e = .returned (.bool r) ∧ Drawn0 w w' := by
 have HR0 := Aside0.mk hr0
 have HC0 := Aside0.mk hc0
 clear hr0 hc0
 unfold slices_Contains_int_int.f at H
 replace H := zs H
 obtain ⟨t414, A3, H⟩ := H
 obtain rfl := Option.some.inj H
 go_enter Try.func111, Try.ntmps111
 go_wp2_with (first | ((with_reducible refine gate_callee (f := 112) rfl ?_); refine goesL_ (some 7) rfl rfl Try.func112 (by kernel_rfl) rfl #[.slice A0 l0.length c0, .int .i64 a1] rfl ga ?_; (with_reducible refine (slices_Index_int_int.calls k _ _ l0 a1 t414 _ ?side1 ?side2 A3.out).mono ?_); (case side1 => repeat (first | exact HR0.out | (with_reducible refine Kd.C_alloc ?_ _) | (with_reducible refine Kd.C_drewN ?_ _) | (with_reducible refine Kd.C_drew ?_))); (case side2 => exact HC0.out); rintro e w' ⟨rfl, ⟨nd, rfl⟩⟩; refine ⟨_, rfl, ?_⟩))
 go_ret
 exact ⟨by first | rfl | (simp; done) | (simp [*]; done), by repeat (first | exact Drawn0.refl _ | apply Drawn0.step)⟩

/-! ### impl_SlotsAt: function 109 -/
def impl_SlotsAt.l0 : Nat → Int → List Int → List (List Int) → Int → Int → Option (List Int)
 | 0, _, _, _, _, _ => none
 | k + 1, x1, x5, x9, x10, x11 => if x11 < x10 then (if 0 ≤ x11 then (if x11 < (x9.length : Int) then ((slices_Contains_int_int.f k (rd_L10 x9 x11) x1).bind fun t420 => (if t420 = true then (if x5.length < 17592186044416 then (impl_SlotsAt.l0 k x1 (x5 ++ [x11]) x9 x10 (wrap64 (x11 + 1))) else (none)) else (impl_SlotsAt.l0 k x1 x5 x9 x10 (wrap64 (x11 + 1))))) else (none)) else (none)) else (some x5)
def impl_SlotsAt.f (k : Nat) (a0_0 : Int) (a0_1 : Int) (a0_2 : ByteArray) (a1 : Int) : Option (List Int) := (impl_layout.f k a0_0 a0_1 a0_2).bind fun t416 => (impl_SlotsAt.l0 k a1 ([] : List Int) t416 (t416.length : Int) 0)
set_option maxHeartbeats 8000000 in
set_option maxRecDepth 100000 in
theorem impl_SlotsAt.calls (k : Nat) (a0_0 : Int) (a0_1 : Int) (a0_2 : ByteArray) (a1 : Int) (r : List Int) (w : World) (H : impl_SlotsAt.f k a0_0 a0_1 a0_2 a1 = some r) :
  Calls Try.prog 109 #[.agg #[.int .i64 a0_0, .int .i64 a0_1, .string a0_2], .int .i64 a1] w fun e w' => ∃ v0_ : Value, e = .returned (v0_) ∧ Kd.R (Kd.int .i64) 3 w' w.heap.size (fun _ => True) v0_ r ∧ Below w.heap.size w w' := by
 have hu30 := Try.underlying30
 have HB := Aside0.mk (Below.refl w.heap.size w)
 unfold impl_SlotsAt.f at H
 replace H := zs H
 obtain ⟨t416, A3, H⟩ := H
 have H' := Aside0.mk H
 clear H
 go_enter Try.func109, Try.ntmps109
 go_wp2_with (first | ((with_reducible refine zd 2 rfl ?_); refine zbx (w := w) #[.int .i64 a0_0, .int .i64 a0_1, .string a0_2] 30 ?_; intro gb415 hg w4 BK415 hb; have GW415 := zg (w := w) hg; replace HB := zB hb; clear hb hg; have ⟨_, _, _, _, _, _⟩ := cz3 BK415) | ((with_reducible refine zd 9 rfl ?_); refine zgl Try.func53 (impl_layout.calls k a0_0 a0_1 a0_2 t416 _ A3.out) ?_; rintro e w6 ⟨v417, rfl, ho0, hb⟩; refine ⟨_, rfl, ?_⟩; have HO418 := Aside0.mk (Kd.S_lower ho0 bsz); replace BK415 := zk BK415 hb; replace HB := zB hb; obtain ⟨Ao7, co7, eo7⟩ := Kd.S_slice HO418.out; subst eo7))
 go_loopg [5, 11] k (fun kq v5 v11 w' => ∃ (x5_1 : List Int) (x11_1 : Int), v11 = .int .i64 x11_1 ∧ Aside0 (impl_SlotsAt.l0 kq a1 x5_1 t416 (t416.length : Int) x11_1 = some r) ∧ Aside0 (kq ≤ k) ∧ Aside0 (Kd.R (Kd.int .i64) 3 w' w.heap.size (fun _ => True) v5 x5_1) ∧ Aside0 (Kd.S (Kd.slice 3 (Kd.int .i64)) 28 w' w.heap.size (fun k_ => some k_ ≠ (v5 : Value).ownBlock) (.slice Ao7 t416.length co7) t416) ∧ Aside0 (w'.heap[gb415]? = some (.cells #[.int .i64 a0_0, .int .i64 a0_1, .string a0_2] 30 (0, 0))) ∧ Aside0 (Below w.heap.size w w'))
 case atStart => exact ⟨(([] : List Int)), (0), rf, H', ⟨Nat.le_refl _⟩, ⟨by first | exact Kd.R_nil _ _ _ _ _ | exact Kd.N_nil _ _ _ _ _ | exact Kd.V_nil _ _ _ _ _ | exact Kd.Q_nil _ _ _ _ _ | exact Kd.S_nil _ _ _ _ _⟩, ⟨by (with_reducible repeat (first | apply Kd.S_alloc | apply Kd.S_drewN | apply Kd.S_drew)); exact Kd.S_mono HO418.out (fun _ hk => (by simp [Value.ownBlock]))⟩, ⟨bk BK415⟩, ⟨bel⟩⟩
 case round =>
  clear H'
  obtain ⟨x5_1, x11_1, rfl, HA, HK1, HO_5, HO_9, BK415, HB⟩ := hrel
  cases gk with
  | zero => exact absurd HA.out (by simp [impl_SlotsAt.l0])
  | succ k1 =>
   have H := HA.out
   clear HA
   simp only [impl_SlotsAt.l0] at H
   replace H := zc H
   rcases H with ⟨c8b0, H⟩ | ⟨c8b0, H⟩
   ·
    replace H := zr H
    obtain ⟨c9b0, H⟩ := H
    replace H := zr H
    obtain ⟨c10b0, H⟩ := H
    replace H := zs H
    obtain ⟨t420, A11, H⟩ := H
    replace H := zb H
    rcases H with ⟨rfl, H⟩ | ⟨rfl, H⟩
    ·
     replace H := zl H
     obtain ⟨LMc13, H⟩ := H
     generalize hy421 : (x5_1 ++ [x11_1] : List Int) = y421 at H
     have Ny421 := Aside0.mk hy421.symm
     clear hy421
     have H' := Aside0.mk H
     clear H
     have p419 : 0 ≤ (x11_1 : Int) := of_decide_eq_true asm
     have q419 : x11_1 < (t416.length : Int) := of_decide_eq_true asm
     obtain ⟨ad419, A419_0, c419_0, e419, hx419_0, hl419_0, hi419_0⟩ := at_L10 (Kd.S_reads' HO_9.out).2.2 x11_1 p419 q419
     cases e419
     obtain ⟨ce419, hce419, hMe419, hcc419⟩ := Kd.S_get HO_9.out [] x11_1 p419 (by first | exact q419 | exact of_decide_eq_true asm | (have e_ := (Kd.S_reads' HO_9.out).1; omega))
     obtain ⟨ve419_0, rfl, ge419_0⟩ := hMe419
     have hv419_0 := hcc419 0 _ rfl
     rw [Nat.add_zero, show ((Kd.slice 3 (Kd.int .i64))).sz = 1 from rfl, Nat.mul_one] at hv419_0
     replace hv419_0 := Option.some.inj (hv419_0.symm.trans hx419_0)
     rw [hv419_0] at ge419_0
     have HL419_0 := Aside0.mk (show Kd.R (Kd.int .i64) 3 _ _ _ _ (rd_L10 t416 x11_1) from ge419_0)
     clear hv419_0 ge419_0
     clear hcc419 hce419
     have HR419_0 := Aside0.mk hi419_0
     have HC419_0 := Aside0.mk hl419_0
     clear hi419_0 hl419_0
     replace p419 := eq_true p419
     replace q419 := eq_true q419
     go_wp2_with (first | ((with_reducible refine gate_callee (f := 111) rfl ?_); refine goesL_ (some 18) rfl rfl Try.func111 (by kernel_rfl) rfl #[.slice A419_0 (rd_L10 t416 x11_1).length c419_0, .int .i64 a1] rfl ga ?_; (with_reducible refine (slices_Contains_int_int.calls k1 _ _ (rd_L10 t416 x11_1) a1 true _ ?side1 ?side2 A11.out).mono ?_); (case side1 => repeat (first | exact (by repeat (first | (with_reducible exact HR419_0.out) | (with_reducible refine Kd.C_alloc ?_ _) | (with_reducible refine Kd.C_drewN ?_ _) | (with_reducible refine Kd.C_drew ?_) | exact HR419_0.out)) | (with_reducible refine Kd.C_alloc ?_ _) | (with_reducible refine Kd.C_drewN ?_ _) | (with_reducible refine Kd.C_drew ?_))); (case side2 => exact HC419_0.out); rintro e w' ⟨rfl, ⟨nd, rfl⟩⟩; refine ⟨_, rfl, ?_⟩) | ((with_reducible refine gate_builtin (b := .append) (xs := #[.tmp 19, .tmp 21]) rfl ?_); at_builtin; refine Kd.R_append (Kd.int .i64) (w0 := w) w.heap.size rfl (.tmp 19) (.tmp 21) 28 3 (.int .i64 0) 8 rfl Try.underlying28 info3 rfl (by decide) (by omega) u5 x5_1 x11_1 [.int .i64 x11_1] (fun _ => True) (fun _ => False) rfl rfl ?aP (fun _ hk => hk.elim) ?aF ?aO ?aB ?aS ?aL ?_; (case aP => exact rfl); (case aB => exact bel); (case aF => exact (fun _ _ => trivial)); (case aO => exact (kr HO_5)); (case aS => exact bsz); (case aL => have := LMc13.out; omega); intro v422 w14 ho hb hg hat; rw [← Ny421.out] at ho; replace HO_9 := Aside0.mk (Kd.S_after (ok := (fun _ => True)) (by (with_reducible repeat (first | apply Kd.S_alloc | apply Kd.S_drewN | apply Kd.S_drew)); exact Kd.S_mono HO_9.out (fun _ hk => ⟨trivial, hk⟩)) hg hat); replace BK415 := Aside0.mk (blk_grown (bk BK415) hg (Kd.R_ne HO_5.out BK415.out (by decide))); replace HL419_0 := Aside0.mk (Kd.R_after (ok := (fun k_ => some k_ ≠ (.slice (some ad419) t416.length co7 : Value).ownBlock)) (by (with_reducible repeat (first | apply Kd.R_alloc | apply Kd.R_drewN | apply Kd.R_drew)); exact Kd.R_mono HL419_0.out (fun _ hk => ⟨hk.2, hk.1⟩)) hg hat); replace HB := Aside0.mk hb; have HO423 := Aside0.mk ho; clear HO_5; clear ho hb hg hat))
     go_roundg k1
     case measure => have := HK1.out; omega
     case rel => exact ⟨(y421), (wrap64 (x11_1 + 1)), rf, H', ⟨by have := HK1.out; omega⟩, ⟨kr HO423⟩, ⟨by (with_reducible repeat (first | apply Kd.S_alloc | apply Kd.S_drewN | apply Kd.S_drew)); exact Kd.S_mono HO_9.out (fun _ hk => hk.2)⟩, ⟨bk BK415⟩, ⟨bel⟩⟩
    ·
     have H' := Aside0.mk H
     clear H
     have p419 : 0 ≤ (x11_1 : Int) := of_decide_eq_true asm
     have q419 : x11_1 < (t416.length : Int) := of_decide_eq_true asm
     obtain ⟨ad419, A419_0, c419_0, e419, hx419_0, hl419_0, hi419_0⟩ := at_L10 (Kd.S_reads' HO_9.out).2.2 x11_1 p419 q419
     cases e419
     obtain ⟨ce419, hce419, hMe419, hcc419⟩ := Kd.S_get HO_9.out [] x11_1 p419 (by first | exact q419 | exact of_decide_eq_true asm | (have e_ := (Kd.S_reads' HO_9.out).1; omega))
     obtain ⟨ve419_0, rfl, ge419_0⟩ := hMe419
     have hv419_0 := hcc419 0 _ rfl
     rw [Nat.add_zero, show ((Kd.slice 3 (Kd.int .i64))).sz = 1 from rfl, Nat.mul_one] at hv419_0
     replace hv419_0 := Option.some.inj (hv419_0.symm.trans hx419_0)
     rw [hv419_0] at ge419_0
     have HL419_0 := Aside0.mk (show Kd.R (Kd.int .i64) 3 _ _ _ _ (rd_L10 t416 x11_1) from ge419_0)
     clear hv419_0 ge419_0
     clear hcc419 hce419
     have HR419_0 := Aside0.mk hi419_0
     have HC419_0 := Aside0.mk hl419_0
     clear hi419_0 hl419_0
     replace p419 := eq_true p419
     replace q419 := eq_true q419
     go_wp2_with (first | ((with_reducible refine gate_callee (f := 111) rfl ?_); refine goesL_ (some 18) rfl rfl Try.func111 (by kernel_rfl) rfl #[.slice A419_0 (rd_L10 t416 x11_1).length c419_0, .int .i64 a1] rfl ga ?_; (with_reducible refine (slices_Contains_int_int.calls k1 _ _ (rd_L10 t416 x11_1) a1 false _ ?side1 ?side2 A11.out).mono ?_); (case side1 => repeat (first | exact (by repeat (first | (with_reducible exact HR419_0.out) | (with_reducible refine Kd.C_alloc ?_ _) | (with_reducible refine Kd.C_drewN ?_ _) | (with_reducible refine Kd.C_drew ?_) | exact HR419_0.out)) | (with_reducible refine Kd.C_alloc ?_ _) | (with_reducible refine Kd.C_drewN ?_ _) | (with_reducible refine Kd.C_drew ?_))); (case side2 => exact HC419_0.out); rintro e w' ⟨rfl, ⟨nd, rfl⟩⟩; refine ⟨_, rfl, ?_⟩))
     go_roundg k1
     case measure => have := HK1.out; omega
     case rel => exact ⟨(x5_1), (wrap64 (x11_1 + 1)), rf, H', ⟨by have := HK1.out; omega⟩, ⟨kr HO_5⟩, ⟨ks HO_9⟩, ⟨bk BK415⟩, ⟨bel⟩⟩
   ·
    obtain rfl := Option.some.inj H
    go_wp2
    go_ret
    exact ⟨_, er, kr HO_5, bel⟩

/-! ### impl_IsChecked: function 102 -/
def impl_IsChecked.f (k : Nat) (a0_0 : Int) (a0_1 : Int) (a0_2 : ByteArray) (a1 : Int) : Option (Bool) := (impl_SlotsAt.f k a0_0 a0_1 a0_2 a1).bind fun t425 => (some ((t425.length : Int) == 2))
set_option maxHeartbeats 8000000 in
set_option maxRecDepth 100000 in
theorem impl_IsChecked.calls (k : Nat) (a0_0 : Int) (a0_1 : Int) (a0_2 : ByteArray) (a1 : Int) (r : Bool) (w : World) (H : impl_IsChecked.f k a0_0 a0_1 a0_2 a1 = some r) :
  Calls Try.prog 102 #[.agg #[.int .i64 a0_0, .int .i64 a0_1, .string a0_2], .int .i64 a1] w fun e w' => e = .returned (.bool r) ∧ Below w.heap.size w w' := by
 have hu30 := Try.underlying30
 have HB := Aside0.mk (Below.refl w.heap.size w)
 unfold impl_IsChecked.f at H
 replace H := zs H
 obtain ⟨t425, A3, H⟩ := H
 obtain rfl := Option.some.inj H
 go_enter Try.func102, Try.ntmps102
 go_wp2_with (first | ((with_reducible refine zd 2 rfl ?_); refine zbx (w := w) #[.int .i64 a0_0, .int .i64 a0_1, .string a0_2] 30 ?_; intro gb424 hg w4 BK424 hb; have GW424 := zg (w := w) hg; replace HB := zB hb; clear hb hg; have ⟨_, _, _, _, _, _⟩ := cz3 BK424) | ((with_reducible refine zd 7 rfl ?_); refine zgl Try.func109 (impl_SlotsAt.calls k a0_0 a0_1 a0_2 a1 t425 _ A3.out) ?_; rintro e w6 ⟨v426, rfl, ho0, hb⟩; refine ⟨_, rfl, ?_⟩; have HO427 := zl2 ho0; replace BK424 := zk BK424 hb; replace HB := zB hb; obtain ⟨Ao7, co7, eo7⟩ := Kd.R_slice HO427.out; subst eo7))
 go_ret
 exact ⟨er, bel⟩

/-! ### impl_UncheckedIn: function 88 -/
def impl_UncheckedIn.l0 : Nat → Int → List Int → Int → Int → Int → Int → ByteArray → Option (Int)
 | 0, _, _, _, _, _, _, _ => none
 | k + 1, x6, x19, x20, x21, x429000, x429001, x429002 => if x21 < x20 then (if 0 ≤ x21 then (if x21 < (x19.length : Int) then ((impl_IsChecked.f k x429000 x429001 x429002 (rd x19 x21)).bind fun t435 => (if t435 = true then (impl_UncheckedIn.l0 k x6 x19 x20 (wrap64 (x21 + 1)) x429000 x429001 x429002) else (impl_UncheckedIn.l0 k (wrap64 (x6 + 1)) x19 x20 (wrap64 (x21 + 1)) x429000 x429001 x429002))) else (none)) else (none)) else (some x6)
def impl_UncheckedIn.f (k : Nat) (a0_0 : Int) (a0_1 : Int) (a0_2 : ByteArray) (a1 : Int) : Option (Int) := (impl_layout.f k a0_0 a0_1 a0_2).bind fun t429 => ((impl_at.f a1 (t429.length : Int)).bind fun t432 => (if t432 = true then (if 0 ≤ a1 then (if a1 < (t429.length : Int) then (impl_UncheckedIn.l0 k 0 (rd_L10 t429 a1) ((rd_L10 t429 a1).length : Int) 0 a0_0 a0_1 a0_2) else (none)) else (none)) else (some (-1))))
set_option maxHeartbeats 8000000 in
set_option maxRecDepth 100000 in
theorem impl_UncheckedIn.calls (k : Nat) (a0_0 : Int) (a0_1 : Int) (a0_2 : ByteArray) (a1 : Int) (r : Int) (w : World) (H : impl_UncheckedIn.f k a0_0 a0_1 a0_2 a1 = some r) :
  Calls Try.prog 88 #[.agg #[.int .i64 a0_0, .int .i64 a0_1, .string a0_2], .int .i64 a1] w fun e w' => e = .returned (.int .i64 r) ∧ Below w.heap.size w w' := by
 have hu30 := Try.underlying30
 have HB := Aside0.mk (Below.refl w.heap.size w)
 unfold impl_UncheckedIn.f at H
 replace H := zs H
 obtain ⟨t429, A3, H⟩ := H
 replace H := zs H
 obtain ⟨t432, A4, H⟩ := H
 replace H := zb H
 rcases H with ⟨rfl, H⟩ | ⟨rfl, H⟩
 ·
  replace H := zr H
  obtain ⟨c6b0, H⟩ := H
  replace H := zr H
  obtain ⟨c7b0, H⟩ := H
  have H' := Aside0.mk H
  clear H
  go_enter Try.func88, Try.ntmps88
  go_wp2_with (first | ((with_reducible refine zd 2 rfl ?_); refine zbx (w := w) #[.int .i64 a0_0, .int .i64 a0_1, .string a0_2] 30 ?_; intro gb428 hg w8 BK428 hb; have GW428 := zg (w := w) hg; replace HB := zB hb; clear hb hg; have ⟨_, _, _, _, _, _⟩ := cz3 BK428) | ((with_reducible refine zd 10 rfl ?_); refine zgl Try.func53 (impl_layout.calls k a0_0 a0_1 a0_2 t429 _ A3.out) ?_; rintro e w10 ⟨v430, rfl, ho0, hb⟩; refine ⟨_, rfl, ?_⟩; have HO431 := Aside0.mk (Kd.S_lower ho0 bsz); replace BK428 := zk BK428 hb; replace HB := zB hb; obtain ⟨Ao11, co11, eo11⟩ := Kd.S_slice HO431.out; subst eo11) | ((with_reducible refine zd 14 rfl ?_); refine zgl Try.func44 (impl_at.calls a1 (t429.length : Int) true _ A4.out) ?_; rintro e w' ⟨rfl, ⟨nd, rfl⟩⟩; refine ⟨_, rfl, ?_⟩; have p433 : 0 ≤ (a1 : Int) := of_decide_eq_true asm; have q433 : a1 < (t429.length : Int) := of_decide_eq_true asm; obtain ⟨ad433, A433_0, c433_0, e433, hx433_0, hl433_0, hi433_0⟩ := at_L10 (Kd.S_reads' HO431.out).2.2 a1 p433 q433; cases e433; obtain ⟨ce433, hce433, hMe433, hcc433⟩ := Kd.S_get HO431.out [] a1 p433 (by first | exact q433 | exact of_decide_eq_true asm | (have e_ := (Kd.S_reads' HO431.out).1; omega)); obtain ⟨ve433_0, rfl, ge433_0⟩ := hMe433; have hv433_0 := hcc433 0 _ rfl; rw [Nat.add_zero, show ((Kd.slice 3 (Kd.int .i64))).sz = 1 from rfl, Nat.mul_one] at hv433_0; replace hv433_0 := Option.some.inj (hv433_0.symm.trans hx433_0); rw [hv433_0] at ge433_0; have HL433_0 := Aside0.mk (show Kd.R (Kd.int .i64) 3 _ _ _ _ (rd_L10 t429 a1) from ge433_0); clear hv433_0 ge433_0; clear hcc433 hce433; have HR433_0 := Aside0.mk hi433_0; have HC433_0 := Aside0.mk hl433_0; clear hi433_0 hl433_0; replace p433 := eq_true p433; replace q433 := eq_true q433))
  go_loopg [6, 21] k (fun kq v6 v21 w' => ∃ (x6_1 : Int) (x21_1 : Int), v6 = .int .i64 x6_1 ∧ v21 = .int .i64 x21_1 ∧ Aside0 (impl_UncheckedIn.l0 kq x6_1 (rd_L10 t429 a1) ((rd_L10 t429 a1).length : Int) x21_1 a0_0 a0_1 a0_2 = some r) ∧ Aside0 (kq ≤ k) ∧ Aside0 (w'.heap[gb428]? = some (.cells #[.int .i64 a0_0, .int .i64 a0_1, .string a0_2] 30 (0, 0))) ∧ Aside0 (Kd.C (Kd.int .i64) w' A433_0 (rd_L10 t429 a1).length (rd_L10 t429 a1)) ∧ Aside0 (Below w.heap.size w w'))
  case atStart => exact ⟨(0), (0), rf, rf, H', ⟨Nat.le_refl _⟩, ⟨bk BK428⟩, ⟨by repeat (first | (with_reducible exact HR433_0.out) | (with_reducible refine Kd.C_alloc ?_ _) | (with_reducible refine Kd.C_drewN ?_ _) | (with_reducible refine Kd.C_drew ?_) | exact HR433_0.out)⟩, ⟨bel⟩⟩
  case round =>
   clear H'
   obtain ⟨x6_1, x21_1, rfl, rfl, HA, HK1, BK428, HR433_0, HB⟩ := hrel
   cases gk with
   | zero => exact absurd HA.out (by simp [impl_UncheckedIn.l0])
   | succ k1 =>
    have H := HA.out
    clear HA
    simp only [impl_UncheckedIn.l0] at H
    replace H := zc H
    rcases H with ⟨c12b0, H⟩ | ⟨c12b0, H⟩
    ·
     replace H := zr H
     obtain ⟨c13b0, H⟩ := H
     replace H := zr H
     obtain ⟨c14b0, H⟩ := H
     replace H := zs H
     obtain ⟨t435, A15, H⟩ := H
     replace H := zb H
     rcases H with ⟨rfl, H⟩ | ⟨rfl, H⟩
     ·
      have H' := Aside0.mk H
      clear H
      obtain ⟨p434, q434, ad434, e434, hx434_0⟩ := zx (Kd.at_int HR433_0.out x21_1)
      cases e434
      have ⟨_, _, _, _, _, _⟩ := cz3 BK428
      go_wp2_with (first | ((with_reducible refine zd 27 rfl ?_); refine zgl Try.func102 (impl_IsChecked.calls k1 a0_0 a0_1 a0_2 (rd (rd_L10 t429 a1) x21_1) true _ A15.out) ?_; rintro e w18 ⟨rfl, hb⟩; refine ⟨_, rfl, ?_⟩; replace BK428 := zk BK428 hb; replace HR433_0 := Aside0.mk (Kd.C_below (by repeat (first | (with_reducible exact HR433_0.out) | (with_reducible refine Kd.C_alloc ?_ _) | (with_reducible refine Kd.C_drewN ?_ _) | (with_reducible refine Kd.C_drew ?_) | exact HR433_0.out)) hb); replace HB := zB hb))
      go_roundg k1
      case measure => have := HK1.out; omega
      case rel => exact ⟨(x6_1), (wrap64 (x21_1 + 1)), rf, rf, H', ⟨by have := HK1.out; omega⟩, ⟨bk BK428⟩, ⟨by repeat (first | (with_reducible exact HR433_0.out) | (with_reducible refine Kd.C_alloc ?_ _) | (with_reducible refine Kd.C_drewN ?_ _) | (with_reducible refine Kd.C_drew ?_) | exact HR433_0.out)⟩, ⟨bel⟩⟩
     ·
      have H' := Aside0.mk H
      clear H
      obtain ⟨p434, q434, ad434, e434, hx434_0⟩ := zx (Kd.at_int HR433_0.out x21_1)
      cases e434
      have ⟨_, _, _, _, _, _⟩ := cz3 BK428
      go_wp2_with (first | ((with_reducible refine zd 27 rfl ?_); refine zgl Try.func102 (impl_IsChecked.calls k1 a0_0 a0_1 a0_2 (rd (rd_L10 t429 a1) x21_1) false _ A15.out) ?_; rintro e w20 ⟨rfl, hb⟩; refine ⟨_, rfl, ?_⟩; replace BK428 := zk BK428 hb; replace HR433_0 := Aside0.mk (Kd.C_below (by repeat (first | (with_reducible exact HR433_0.out) | (with_reducible refine Kd.C_alloc ?_ _) | (with_reducible refine Kd.C_drewN ?_ _) | (with_reducible refine Kd.C_drew ?_) | exact HR433_0.out)) hb); replace HB := zB hb))
      go_roundg k1
      case measure => have := HK1.out; omega
      case rel => exact ⟨(wrap64 (x6_1 + 1)), (wrap64 (x21_1 + 1)), rf, rf, H', ⟨by have := HK1.out; omega⟩, ⟨bk BK428⟩, ⟨by repeat (first | (with_reducible exact HR433_0.out) | (with_reducible refine Kd.C_alloc ?_ _) | (with_reducible refine Kd.C_drewN ?_ _) | (with_reducible refine Kd.C_drew ?_) | exact HR433_0.out)⟩, ⟨bel⟩⟩
    ·
     obtain rfl := Option.some.inj H
     go_wp2
     go_ret
     exact ⟨er, bel⟩
 ·
  obtain rfl := Option.some.inj H
  go_enter Try.func88, Try.ntmps88
  go_wp2_with (first | ((with_reducible refine zd 2 rfl ?_); refine zbx (w := w) #[.int .i64 a0_0, .int .i64 a0_1, .string a0_2] 30 ?_; intro gb428 hg w21 BK428 hb; have GW428 := zg (w := w) hg; replace HB := zB hb; clear hb hg; have ⟨_, _, _, _, _, _⟩ := cz3 BK428) | ((with_reducible refine zd 10 rfl ?_); refine zgl Try.func53 (impl_layout.calls k a0_0 a0_1 a0_2 t429 _ A3.out) ?_; rintro e w23 ⟨v430, rfl, ho0, hb⟩; refine ⟨_, rfl, ?_⟩; have HO431 := Aside0.mk (Kd.S_lower ho0 bsz); replace BK428 := zk BK428 hb; replace HB := zB hb; obtain ⟨Ao24, co24, eo24⟩ := Kd.S_slice HO431.out; subst eo24) | ((with_reducible refine zd 14 rfl ?_); refine zgl Try.func44 (impl_at.calls a1 (t429.length : Int) false _ A4.out) ?_; rintro e w' ⟨rfl, ⟨nd, rfl⟩⟩; refine ⟨_, rfl, ?_⟩))
  go_ret
  exact ⟨er, bel⟩

/-! ### impl_isLetter: function 80 -/
def impl_isLetter.f (a0 : Int) : Option (Bool) := if a0 ≥ 97 then (some (decide (a0 ≤ 122))) else (some false)
set_option maxHeartbeats 8000000 in
set_option maxRecDepth 100000 in
theorem impl_isLetter.calls (a0 : Int) (r : Bool) (w : World) (H : impl_isLetter.f a0 = some r) :
  Calls Try.prog 80 #[.int .u8 a0] w fun e w' => e = .returned (.bool r) ∧ Drawn0 w w' := by
 unfold impl_isLetter.f at H
 replace H := zc H
 rcases H with ⟨c2b0, H⟩ | ⟨c2b0, H⟩
 rotate_left
 focus
  obtain rfl := Option.some.inj H
 rotate_right
 focus
  obtain rfl := Option.some.inj H
 all_goals
  go_enter Try.func80, Try.ntmps80
  go_wp2
  go_ret
  exact ⟨by first | rfl | (simp; done) | (simp [*]; done), by repeat (first | exact Drawn0.refl _ | apply Drawn0.step)⟩

/-! ### impl_alone: function 89 -/
def impl_alone.go (s fill : ByteArray) (fl : List Int) : Nat → Nat → Option Bool
 | 0, _ => some false
 | d + 1, i =>
  if bt s i = 46 then
   if (i : Int) ∈ fl then impl_alone.go s fill fl d (i + 1)
   else if i < fill.size then (impl_isLetter.f (bt fill i)).bind fun t => if t = true then impl_alone.go s fill fl d (i + 1) else some true
   else none
  else impl_alone.go s fill fl d (i + 1)
def impl_alone.f (k : Nat) (a0_0 : Int) (a0_1 : Int) (a0_2 : ByteArray) (a1 : ByteArray) : Option Bool :=
 (impl_layout.f k a0_0 a0_1 a0_2).bind fun ls =>
  if (ls.flatten.length ≤ 1000000 ∧ ∀ c ∈ ls.flatten, 0 ≤ c ∧ c ≤ 1000000) ∧ a0_2.size ≤ 1000000 ∧ ls.length ≤ 1000000 then impl_alone.go a0_2 a1 ls.flatten a0_2.size 0 else none
def impl_alone.PD (D : DataW Unit) (xs : List Int) : Prop := Maps.IsMap D ∧ ∀ c : Int, D.atKey (.int .i64 c) (.lit (.int .i64 0)) = .lit (.int .i64 (if c ∈ xs then 1 else 0))
theorem impl_alone.PD_nil : impl_alone.PD (.map []) [] := ⟨Maps.isMap_empty, fun c => by simp [DataW.atKey]⟩
theorem impl_alone.PD_step {D : DataW Unit} {xs : List Int} (h : impl_alone.PD D xs) (c : Int) : impl_alone.PD (D.put (.int .i64 c) (.lit (.int .i64 1))) (xs ++ [c]) := by
 refine ⟨h.1.put _ _, fun c' => ?_⟩
 by_cases e : c' = c
 ·
  subst e
  rw [Maps.atKey_put_same h.1 (by simp [WideAt.IsKeyLit])]
  simp
 ·
  rw [Maps.atKey_put_other (by simpa using e), h.2 c']
  simp [e]
theorem impl_alone.one {a b : Int} (h : (DataW.lit (.int .i64 a) : DataW Unit) = .lit (.int .i64 b)) : a = b := by
 injection h with h
 injection h
theorem impl_alone.law : Maps.Keyed Try.prog 3 := Maps.int_keyed Try.underlying3
theorem impl_alone.zero (w : World) : (zeroValue 3).run Try.prog w = .ok (.int .i64 0) w := by kernel_rfl

/-- what stands of the map, the lists, the grid's box -/
structure impl_alone.St (w W : World) (B G : Nat) (base : Nat) (ls : List (List Int)) (A : Option Addr) (c : Nat) (a0 a1 : Int) (s : ByteArray) (n : Nat) (D : DataW Unit) (xs : List Int) : Prop where
 cnt : n ≤ xs.length
 pd : impl_alone.PD D xs
 map : W.ownsMap Try.prog 3 (plainElem Try.prog 3) B n D
 rows : Kd.R (Kd.slice 3 (Kd.int .i64)) 28 W base (fun k => B < k) (.slice A ls.length c) ls
 box : W.heap[G]? = some (.cells #[.int .i64 a0, .int .i64 a1, .string s] 30 (0, 0))
 below : Below w.heap.size w W
theorem impl_alone.St.to {w W W1 : World} {B G base c n : Nat} {ls : List (List Int)} {A : Option Addr} {a0 a1 : Int} {s : ByteArray} {D : DataW Unit} {xs : List Int}
  (h : impl_alone.St w W B G base ls A c a0 a1 s n D xs) (hb : Below W.heap.size W W1) : impl_alone.St w W1 B G base ls A c a0 a1 s n D xs :=
 ⟨h.cnt, h.pd, h.map.kept (grown_of_below hb none) (by simp), Kd.R_below h.rows hb, blk_below h.box hb, below_step h.below hb⟩
theorem impl_alone.St.put {w W W1 : World} {B G base c n : Nat} {ls : List (List Int)} {A : Option Addr} {a0 a1 : Int} {s : ByteArray} {D : DataW Unit} {xs : List Int} {x : Int}
  (h : impl_alone.St w W B G base ls A c a0 a1 s n D xs) (hg : W.grownBy W1 (some B)) (hm : W1.ownsMap Try.prog 3 (plainElem Try.prog 3) B (n + 1) (D.put (.int .i64 x) (.lit (.int .i64 1)))) (hGB : G ≠ B) (hB : w.heap.size ≤ B) :
  impl_alone.St w W1 B G base ls A c a0 a1 s (n + 1) (D.put (.int .i64 x) (.lit (.int .i64 1))) (xs ++ [x]) :=
 ⟨by have := h.cnt; simp; omega, impl_alone.PD_step h.pd x, hm, Kd.R_grown h.rows hg (fun k hk e => by injection e with e; omega), blk_grown h.box hg (fun e => by injection e with e; exact hGB e),
  h.below.grown hg (below_size h.below) (fun k e => by injection e with e; omega)⟩
theorem impl_alone.start {w w1 w13 : World} {G : Nat} {ls : List (List Int)} {A : Option Addr} {c : Nat} {a0 a1 : Int} {s : ByteArray} (hB : Below w.heap.size w w1) (bg : w1.heap[G]? = some (.cells #[.int .i64 a0, .int .i64 a1, .string s] 30 (0, 0)))
  (hS : Kd.S (Kd.slice 3 (Kd.int .i64)) 28 w13 (w1.alloc (.map #[] 0)).heap.size (fun _ => True) (.slice A ls.length c) ls) (hb : Below (w1.alloc (.map #[] 0)).heap.size (w1.alloc (.map #[] 0)) w13) :
  impl_alone.St w w13 w1.heap.size G (w1.heap.size + 1) ls A c a0 a1 s 0 (.map []) [] := by
 have hsz : (w1.alloc (.map #[] 0)).heap.size = w1.heap.size + 1 := by simp
 refine ⟨Nat.zero_le _, impl_alone.PD_nil, (World.ownsMap_made w1 _ _ _).kept (grown_of_below hb none) (by simp), ?_, blk_below (blk_alloc bg _) hb, below_step (below_alloc hB _) hb⟩
 rw [← hsz]
 exact Kd.R_mono (Kd.R_bound (Kd.S_R hS)) (fun k hk => by have := hk.2.1; omega)
set_option maxHeartbeats 4000000 in
set_option maxRecDepth 100000 in
theorem impl_alone.calls (k : Nat) (a0_0 : Int) (a0_1 : Int) (a0_2 : ByteArray) (a1 : ByteArray) (r : Bool) (w : World) (h : impl_alone.f k a0_0 a0_1 a0_2 a1 = some r) :
  Calls Try.prog 89 #[.agg #[.int .i64 a0_0, .int .i64 a0_1, .string a0_2], .string a1] w fun e w' => e = .returned (.bool r) ∧ Below w.heap.size w w' := by
 have hu_ := Try.underlying30
 have hmm := @run_makeMap Try.prog
 have HB := Aside0.mk (Below.refl w.heap.size w)
 obtain ⟨ls, hls, h⟩ := Option.bind_eq_some_iff.mp h
 split at h
 case isFalse => cases h
 rename_i hc
 obtain ⟨⟨hc1, hc2⟩, hc3, hc4⟩ := hc
 have A2 := Aside0.mk hls
 have HG := Aside0.mk h
 have C1 := Aside0.mk hc1
 have C2 := Aside0.mk hc2
 clear h hls hc1 hc2
 go_enter Try.func89, Try.ntmps89
 go_wp2_with (first
  | ((with_reducible refine gate_dst (N := 2) rfl ?_); refine box_event ?hg (N := 2) ?hd (cs := #[.int .i64 a0_0, .int .i64 a0_1, .string a0_2]) (t := 30) ?hr ?_; (case hd => rfl); (case hg => rfl); (case hr => first | (go_simp; done) | (go_simp; rfl)); intro G hg w1 hbox hb; have n0_ := Aside0.mk (below_step HB.out hb); have n1_ := Aside0.mk hbox; have n2_ := Aside0.mk (show w.heap.size ≤ G by rw [hg]; exact Nat.le_refl _); have n3_ := Aside0.mk (show G < w1.heap.size from blk_lt hbox); clear HB; have HB := n0_; have BG := n1_; have GG := n2_; have GL := n3_; have q0 : w1.cell? ⟨G, 0, none⟩ = some (.int .i64 a0_0) := (blk_cell BG.out 0).trans rfl; have q1 : w1.cell? ⟨G, 1, none⟩ = some (.int .i64 a0_1) := (blk_cell BG.out 1).trans rfl; have q2 : w1.cell? ⟨G, 2, none⟩ = some (.string a0_2) := (blk_cell BG.out 2).trans rfl; have q3 : (w1.alloc (.map #[] 0)).cell? ⟨G, 0, none⟩ = some (.int .i64 a0_0) := (blk_cell (blk_alloc BG.out _) 0).trans rfl; have q4 : (w1.alloc (.map #[] 0)).cell? ⟨G, 1, none⟩ = some (.int .i64 a0_1) := (blk_cell (blk_alloc BG.out _) 1).trans rfl; have q5 : (w1.alloc (.map #[] 0)).cell? ⟨G, 2, none⟩ = some (.string a0_2) := (blk_cell (blk_alloc BG.out _) 2).trans rfl; clear n0_ n1_ n2_ n3_ hb hbox hg)
  | (go_at_call 53; (with_reducible refine (impl_layout.calls k a0_0 a0_1 a0_2 ls _ A2.out).mono ?_); rintro e w13 ⟨v0, rfl, hS, hb⟩; obtain ⟨A, c, rfl⟩ := Kd.S_slice hS; have HS := Aside0.mk (show impl_alone.St w w13 w1.heap.size G (w1.heap.size + 1) ls A c a0_0 a0_1 a0_2 0 (.map []) [] from impl_alone.start HB.out BG.out hS hb); have GL2 := Aside0.mk (show w.heap.size ≤ w1.heap.size from below_size HB.out); clear hS hb q0 q1 q2 q3 q4 q5 BG HB))
 have GB := Aside0.mk (show G ≠ w1.heap.size from Nat.ne_of_lt GL.out)
 obtain ⟨B, hB⟩ : ∃ B, B = w1.heap.size := ⟨_, rfl⟩
 obtain ⟨base, hbase⟩ : ∃ base, base = w1.heap.size + 1 := ⟨_, rfl⟩
 rw [← hbase, ← hB] at HS
 rw [← hB] at GB GL2 ⊢
 clear hB hbase GL hmm
 go_loopg [15] ls.length (fun kq v15 wr => ∃ (i n : Nat) (D : DataW Unit), v15 = .int .i64 i ∧ i ≤ ls.length ∧ Aside0 (kq + i = ls.length) ∧ Aside0 (impl_alone.St w wr B G base ls A c a0_0 a0_1 a0_2 n D (ls.take i).flatten))
 case atStart => exact ⟨0, 0, .map [], rfl, Nat.zero_le _, ⟨rfl⟩, ⟨by simpa using HS.out⟩⟩
 case round =>
  clear HS
  obtain ⟨i, n, D, rfl, hi, HK, HS⟩ := hrel
  by_cases hlt : i < ls.length
  ·
   have hl1 : (ls.take (i + 1)).flatten = (ls.take i).flatten ++ ls[i] := by
    rw [List.take_succ_eq_append_getElem hlt, List.flatten_append]; simp
   have HL1 := Aside0.mk hl1
   have HI := Aside0.mk (show ∀ x ∈ ls[i], 0 ≤ x ∧ x ≤ 1000000 from fun x hx => C2.out x (List.mem_flatten.mpr ⟨_, List.getElem_mem hlt, hx⟩))
   have HN := Aside0.mk (show ((ls.take i).flatten ++ ls[i]).length ≤ 1000000 by
    rw [← hl1]
    refine Nat.le_trans ?_ C1.out
    have e : ls.flatten = (ls.take (i + 1)).flatten ++ (ls.drop (i + 1)).flatten := by rw [← List.flatten_append, List.take_append_drop]
    rw [e, List.length_append]; omega)
   obtain ⟨g, cap, eg, _, _, _⟩ := Kd.R_form HS.out.rows (by omega)
   injection eg with eg1 eg2 eg3
   subst eg1
   obtain ⟨cs, _, hM, hc, _⟩ := Kd.R_elem HS.out.rows [] (i : Int) (by omega) (by omega)
   obtain ⟨v, rfl, hR⟩ := hM
   have hgi : ls.getD i [] = ls[i] := by simp [List.getD_eq_getElem?_getD, List.getElem?_eq_getElem hlt]
   simp only [Int.toNat_natCast] at hR hc
   rw [hgi] at hR
   obtain ⟨l, hl⟩ : ∃ l, l = ls[i] := ⟨_, rfl⟩
   rw [← hl] at hR HL1 HI HN
   clear hl hl1 hgi eg2 eg3
   obtain ⟨A0, c0, rfl⟩ := Kd.R_slice hR
   have q6 : wr.cell? ⟨g, i, none⟩ = some (.slice A0 l.length c0) := by
    have := hc 0 _ rfl
    simpa [show (Kd.slice 3 (Kd.int .i64)).sz = 1 from rfl] using this
   clear hc
   have HR := Aside0.mk (Kd.R_mono (ok' := fun k => B < k) hR (fun k hk => hk.1))
   clear hR
   have b1 : l.length ≤ 1000000 := by have := HN.out; rw [List.length_append] at this; omega
   go_wp2_with fail
   obtain ⟨wo, rfl⟩ : ∃ wo : World, wo = wr := ⟨_, rfl⟩
   go_loopg [21] l.length (fun kq v21 wr => ∃ (j n : Nat) (D : DataW Unit), v21 = .int .i64 j ∧ j ≤ l.length ∧ Aside0 (kq + j = l.length) ∧ Aside0 (impl_alone.St w wr B G base ls (some ⟨g, 0, none⟩) c a0_0 a0_1 a0_2 n D ((ls.take i).flatten ++ l.take j)) ∧ Aside0 (Kd.R (Kd.int .i64) 3 wr base (fun k => B < k) (.slice A0 l.length c0) l))
   case atStart => exact ⟨0, n, D, rfl, Nat.zero_le _, ⟨rfl⟩, ⟨by simpa using HS.out⟩, HR⟩
   case round =>
    clear HS HR q6 n D
    obtain ⟨j, n, D, rfl, hj, HK2, HS, HR⟩ := hrel
    by_cases hlt2 : j < l.length
    ·
     obtain ⟨_, _, hC⟩ := Kd.R_reads' HR.out
     obtain ⟨ad, e0, q7⟩ := Kd.at_int hC (j : Int) (by omega) (by omega)
     subst e0
     simp only [Int.toNat_natCast] at q7
     have hrd : rd l (j : Int) = l[j] := by simp [rd, List.getD_eq_getElem?_getD, List.getElem?_eq_getElem hlt2]
     rw [hrd] at q7
     have hmem := HI.out l[j] (List.getElem_mem hlt2)
     have HT := Aside0.mk (show l.take (j + 1) = l.take j ++ [l[j]] from List.take_succ_eq_append_getElem hlt2)
     generalize l[j] = x at q7 hmem HT
     have HKEY := Aside0.mk (show keyOf Try.prog 3 (.int .i64 x) = some (.int .i64 x) from Maps.keyOf_int_mk Try.underlying3 (WalkArith.wf_i64 (by omega)))
     have HCNT := Aside0.mk (show n < maxLen by have := HS.out.cnt; have := HN.out; simp at *; unfold maxLen; omega)
     have HOWN := Aside0.mk HS.out.map
     clear hC hrd
     go_wp2_with (at_mapUpdate; refine wpList_mapUpdate_own _ rfl _ _ _ 109 rfl 3 3 impl_alone.law Try.underlying109 _ B n _ rfl HOWN.out HCNT.out _ _ _ rfl rfl HKEY.out _ [] (plainElem_int Try.underlying3 (WalkArith.wf_i64 (by omega))) ?_; intro w1 hown1 hgrow1; have HS1 := Aside0.mk (impl_alone.St.put HS.out hgrow1 hown1 GB.out GL2.out); have HR1 := Aside0.mk (Kd.R_grown HR.out hgrow1 (fun k hk e => by injection e with e; omega)); clear hown1 hgrow1 HS HR HOWN HCNT HKEY)
     go_roundg (l.length - (j + 1))
     case measure => have := HK2.out; omega
     case rel => exact ⟨j + 1, n + 1, _, by simp, by omega, ⟨by omega⟩, ⟨by rw [HT.out, ← List.append_assoc]; exact HS1.out⟩, HR1⟩
    ·
     obtain rfl : j = l.length := by omega
     have HS2 := Aside0.mk (show impl_alone.St w wr B G base ls (some ⟨g, 0, none⟩) c a0_0 a0_1 a0_2 n D (ls.take (i + 1)).flatten by rw [HL1.out]; have := HS.out; rwa [List.take_length] at this)
     clear HS HR
     go_wp2
     go_roundg (ls.length - (i + 1))
     case measure => have := HK.out; omega
     case rel => exact ⟨i + 1, n, D, by simp, by omega, ⟨by omega⟩, HS2⟩
  ·
   obtain rfl : i = ls.length := by omega
   have HS2 := Aside0.mk (show impl_alone.St w wr B G base ls A c a0_0 a0_1 a0_2 n D ls.flatten by have := HS.out; rwa [List.take_length] at this)
   clear HS
   have q8 : wr.cell? ⟨G, 2, none⟩ = some (.string a0_2) := (blk_cell HS2.out.box 2).trans rfl
   go_wp2_with fail
   obtain ⟨wo, rfl⟩ : ∃ wo : World, wo = wr := ⟨_, rfl⟩
   go_loopg [32] a0_2.size (fun kq v32 wr => ∃ (i : Nat), v32 = .int .i64 i ∧ i ≤ a0_2.size ∧ Aside0 (kq + i = a0_2.size) ∧ Aside0 (impl_alone.St w wr B G base ls A c a0_0 a0_1 a0_2 n D ls.flatten) ∧ Aside0 (impl_alone.go a0_2 a1 ls.flatten (a0_2.size - i) i = some r))
   case atStart => exact ⟨0, rfl, Nat.zero_le _, ⟨rfl⟩, HS2, ⟨HG.out⟩⟩
   case round =>
    clear HS2 q8 HG
    obtain ⟨i, rfl, hi, HK2, HS, HA⟩ := hrel
    have q8 : wr.cell? ⟨G, 2, none⟩ = some (.string a0_2) := (blk_cell HS.out.box 2).trans rfl
    by_cases hlt : i < a0_2.size
    ·
     have hA := HA.out
     rw [show a0_2.size - i = (a0_2.size - (i + 1)) + 1 by omega] at hA
     simp only [impl_alone.go] at hA
     clear HA
     have hbt := bt_at a0_2 (i : Int)
     rw [Int.toNat_natCast] at hbt
     have hbt2 := hbt hlt
     by_cases c1 : bt a0_2 i = 46
     ·
      rw [if_pos c1] at hA
      have c1b : (bt a0_2 i == 46) = true := beq_iff_eq.mpr c1
      clear c1
      have HKEY := Aside0.mk (show keyOf Try.prog 3 (.int .i64 (i : Int)) = some (.int .i64 (i : Int)) from Maps.keyOf_int_mk Try.underlying3 (WalkArith.wf_i64 (by omega)))
      have HOWN := Aside0.mk HS.out.map
      have HPD := Aside0.mk (HS.out.pd.2 (i : Int))
      by_cases c2 : (i : Int) ∈ ls.flatten
      ·
       rw [if_pos c2] at hA
       have HA := Aside0.mk hA
       have HPD2 := Aside0.mk (HPD.out.trans (by rw [if_pos c2]))
       clear hA c2 HPD
       go_wp2_with ((try (refine gate_guard (by rfl) ?_; dsimp only)); at_lookup; refine wpList_lookup_own_int _ rfl _ _ 109 rfl 3 3 .i64 impl_alone.law Try.underlying109 Try.underlying3 (impl_alone.zero _) B n _ rfl HOWN.out _ _ rfl HKEY.out ?_; intro vv hat hwc; obtain rfl : vv = 1 := (impl_alone.one (hat.symm.trans HPD2.out)); clear hat hwc)
       go_roundg (a0_2.size - (i + 1))
       case measure => have := HK2.out; omega
       case rel => exact ⟨i + 1, by simp, by omega, ⟨by omega⟩, HS, HA⟩
      ·
       rw [if_neg c2] at hA
       have HPD2 := Aside0.mk (HPD.out.trans (by rw [if_neg c2]))
       clear c2 HPD
       split at hA
       case isFalse => cases hA
       rename_i c3
       have hbu := bt_at a1 (i : Int)
       rw [Int.toNat_natCast] at hbu
       have hbu2 := hbu c3
       obtain ⟨t, ht, hA⟩ := Option.bind_eq_some_iff.mp hA
       have HT := Aside0.mk ht
       clear ht
       cases t with
       | true =>
        rw [if_pos rfl] at hA
        have HA := Aside0.mk hA
        clear hA
        go_wp2_with (first | ((try (refine gate_guard (by rfl) ?_; dsimp only)); at_lookup; refine wpList_lookup_own_int _ rfl _ _ 109 rfl 3 3 .i64 impl_alone.law Try.underlying109 Try.underlying3 (impl_alone.zero _) B n _ rfl HOWN.out _ _ rfl HKEY.out ?_; intro vv hat hwc; obtain rfl : vv = 0 := (impl_alone.one (hat.symm.trans HPD2.out)); clear hat hwc) | (go_at_call 80; refine (impl_isLetter.calls (bt a1 i) true _ HT.out).mono ?_; rintro e w2 ⟨rfl, hd⟩; have HS1 := Aside0.mk (impl_alone.St.to HS.out (Drawn0.below hd)); clear hd HS))
        go_roundg (a0_2.size - (i + 1))
        case measure => have := HK2.out; omega
        case rel => exact ⟨i + 1, by simp, by omega, ⟨by omega⟩, HS1, HA⟩
       | false =>
        rw [if_neg (by decide)] at hA
        obtain rfl := Option.some.inj hA
        clear hA
        go_wp2_with (first | ((try (refine gate_guard (by rfl) ?_; dsimp only)); at_lookup; refine wpList_lookup_own_int _ rfl _ _ 109 rfl 3 3 .i64 impl_alone.law Try.underlying109 Try.underlying3 (impl_alone.zero _) B n _ rfl HOWN.out _ _ rfl HKEY.out ?_; intro vv hat hwc; obtain rfl : vv = 0 := (impl_alone.one (hat.symm.trans HPD2.out)); clear hat hwc) | (go_at_call 80; refine (impl_isLetter.calls (bt a1 i) false _ HT.out).mono ?_; rintro e w2 ⟨rfl, hd⟩; have HS1 := Aside0.mk (impl_alone.St.to HS.out (Drawn0.below hd)); clear hd HS))
        go_ret
        exact ⟨rfl, HS1.out.below⟩
     ·
      rw [if_neg c1] at hA
      have c1b : (bt a0_2 i == 46) = false := beq_eq_false_iff_ne.mpr c1
      have HA := Aside0.mk hA
      clear hA c1
      go_wp2
      go_roundg (a0_2.size - (i + 1))
      case measure => have := HK2.out; omega
      case rel => exact ⟨i + 1, by simp, by omega, ⟨by omega⟩, HS, HA⟩
    ·
     obtain rfl : i = a0_2.size := by omega
     have hA := HA.out
     rw [Nat.sub_self] at hA
     simp only [impl_alone.go, Option.some.injEq] at hA
     subst hA
     go_wp2
     go_ret
     exact ⟨rfl, HS.out.below⟩

end Go.Proofs.Ytpcdfjcbjbkliaa.E
