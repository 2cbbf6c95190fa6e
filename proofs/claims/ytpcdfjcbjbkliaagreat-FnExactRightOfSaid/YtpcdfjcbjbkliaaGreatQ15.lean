import Derived.Test.YtpcdfjcbjbkliaaGreatSq
import Derived.Test.YtpcdfjcbjbkliaaGreatQ0
import Derived.Test.YtpcdfjcbjbkliaaGreatQ13
import Derived.Test.YtpcdfjcbjbkliaaGreatQ14
namespace Go.Proofs.YtpcdfjcbjbkliaaGreat.E
open Go.RowKit Go.Proofs.YtpcdfjcbjbkliaaGreatW.PrintWords Go.Proofs.YtpcdfjcbjbkliaaGreatW.PrintLast Go.Proofs.YtpcdfjcbjbkliaaGreatW.PrintMore
attribute [local go_sem] max2_int min2_int max_two min_two max_three min_three max_four min_four
set_option linter.unusedVariables false
set_option linter.unusedSimpArgs false

/-! ### impl_SlotsOf: function 99 -/
mutual
def impl_SlotsOf.l0 : Nat → List (S132) → Int → Int → Int → Int → Int → ByteArray → Option ((List (S132)))
 | 0, _, _, _, _, _, _, _ => none
 | k + 1, x3, x4, x13, x14, x423000, x423001, x423002 => if x14 < x13 then ((impl_run.f k x423000 x423001 x423002 x14 false).bind fun t424 => ((impl_run.f k x423000 x423001 x423002 x14 true).bind fun t425 => (if t424 ≥ 2 then (impl_SlotsOf.j1 k x3 x4 x14 t424 t425 x13 x14 true x423000 x423001 x423002) else (impl_SlotsOf.j1 k x3 x4 x14 t424 t425 x13 x14 (decide (t425 ≥ 2)) x423000 x423001 x423002)))) else (some x3)
def impl_SlotsOf.j1 : Nat → List (S132) → Int → Int → Int → Int → Int → Int → Bool → Int → Int → ByteArray → Option ((List (S132)))
 | 0, _, _, _, _, _, _, _, _, _, _, _ => none
 | k + 1, x3, x4, x5, x6, x7, x13, x14, x28, x423000, x423001, x423002 => if x28 = true then (impl_SlotsOf.j2 k x3 (wrap64 (x4 + 1)) x5 x6 x7 x13 x14 x423000 x423001 x423002) else (impl_SlotsOf.j2 k x3 x4 x5 x6 x7 x13 x14 x423000 x423001 x423002)
def impl_SlotsOf.j2 : Nat → List (S132) → Int → Int → Int → Int → Int → Int → Int → Int → ByteArray → Option ((List (S132)))
 | 0, _, _, _, _, _, _, _, _, _, _ => none
 | k + 1, x3, x4, x5, x6, x7, x13, x14, x423000, x423001, x423002 => if x6 ≥ 2 then (if x3.length < 4398046511104 then ((some (x3 ++ [(⟨x4, false, x5, x6⟩ : S132)] : List (S132))).bind fun y426 => (if x7 ≥ 2 then (if y426.length < 4398046511104 then (impl_SlotsOf.l0 k (y426 ++ [(⟨x4, true, x5, x7⟩ : S132)]) x4 x13 (wrap64 (x14 + 1)) x423000 x423001 x423002) else (none)) else (impl_SlotsOf.l0 k y426 x4 x13 (wrap64 (x14 + 1)) x423000 x423001 x423002))) else (none)) else (if x7 ≥ 2 then (if x3.length < 4398046511104 then (impl_SlotsOf.l0 k (x3 ++ [(⟨x4, true, x5, x7⟩ : S132)]) x4 x13 (wrap64 (x14 + 1)) x423000 x423001 x423002) else (none)) else (impl_SlotsOf.l0 k x3 x4 x13 (wrap64 (x14 + 1)) x423000 x423001 x423002))
end
def impl_SlotsOf.f (k : Nat) (a0_0 : Int) (a0_1 : Int) (a0_2 : ByteArray) : Option ((List (S132))) := (impl_IsGrid.f k a0_0 a0_1 a0_2).bind fun t423 => (if t423 = true then (impl_SlotsOf.l0 k ([] : List (S132)) 0 (a0_2.size : Int) 0 a0_0 a0_1 a0_2) else (some ([] : List (S132))))
def impl_SlotsOf.T8 : Bool × List (List Nat × List Nat) := (true, [([], []), ([], []), ([0, 1], [0, 1]), ([], []), ([], []), ([3, 4, 2], [3, 4]), ([2, 5, 0, 1, 2], [2]), ([5, 6, 0, 1, 2, 3, 4, 5, 6], [5])])
theorem impl_SlotsOf.tab8 : rtab .any (opsOf Tryz.f99 8) = impl_SlotsOf.T8 := by kernel_rfl
set_option maxHeartbeats 8000000 in
set_option maxRecDepth 100000 in
theorem impl_SlotsOf.calls (k : Nat) (a0_0 : Int) (a0_1 : Int) (a0_2 : ByteArray) (r : List (S132)) (w : World) (H : impl_SlotsOf.f k a0_0 a0_1 a0_2 = some r) :
  Calls Tryz.prog 99 #[.agg #[.int .i64 a0_0, .int .i64 a0_1, .string a0_2]] w fun e w' => ∃ v0_ : Value, e = .returned (v0_) ∧ Kd.R k132 132 w' w.heap.size (fun _ => True) v0_ r ∧ Below w.heap.size w w' := by
 have hu32 := Tryz.underlying32
 have hu132 := Tryz.underlying132
 have HB := Aside0.mk (Below.refl w.heap.size w)
 unfold impl_SlotsOf.f at H
 replace H := zs H
 obtain ⟨t423, A2, H⟩ := H
 replace H := zb H
 rcases H with ⟨rfl, H⟩ | ⟨rfl, H⟩
 ·
  have H' := Aside0.mk H
  clear H
  go_enter Tryz.func99, Tryz.ntmps99
  go_wp2_with (first | ((with_reducible refine zd 1 rfl ?_); refine zbx (w := w) #[.int .i64 a0_0, .int .i64 a0_1, .string a0_2] 32 ?_; intro gb422 hg w4 BK422 hb; have GW422 := zg (w := w) hg; replace HB := zB hb; clear hb hg; have ⟨_, _, _, _, _, _⟩ := cz3 BK422) | ((with_reducible refine zd 9 rfl ?_); refine zgl Tryz.func85 (impl_IsGrid.calls k a0_0 a0_1 a0_2 true _ A2.out) ?_; rintro e w6 ⟨rfl, hb⟩; refine ⟨_, rfl, ?_⟩; replace BK422 := zk BK422 hb; replace HB := zB hb; have ⟨_, _, _, _, _, _⟩ := cz3 BK422))
  go_loopg [3, 4, 14] k (fun kq v3 v4 v14 w' => ∃ (x3_1 : List (S132)) (x4_1 : Int) (x14_1 : Int), v4 = .int .i64 x4_1 ∧ v14 = .int .i64 x14_1 ∧ Aside0 (impl_SlotsOf.l0 kq x3_1 x4_1 (a0_2.size : Int) x14_1 a0_0 a0_1 a0_2 = some r) ∧ Aside0 (kq ≤ k) ∧ Aside0 (Kd.R k132 132 w' w.heap.size (fun _ => True) v3 x3_1) ∧ Aside0 (w'.heap[gb422]? = some (.cells #[.int .i64 a0_0, .int .i64 a0_1, .string a0_2] 32 (0, 0))) ∧ Aside0 (Below w.heap.size w w'))
  case atStart => exact ⟨(([] : List (S132))), (0), (0), rf, rf, H', ⟨Nat.le_refl _⟩, ⟨by first | exact Kd.R_nil _ _ _ _ _ | exact Kd.N_nil _ _ _ _ _ | exact Kd.V_nil _ _ _ _ _ | exact Kd.Q_nil _ _ _ _ _ | exact Kd.S_nil _ _ _ _ _⟩, ⟨bk BK422⟩, ⟨bel⟩⟩
  case round =>
   clear H'
   obtain ⟨x3_1, x4_1, x14_1, rfl, rfl, HA, HK1, HO_3, BK422, HB⟩ := hrel
   cases gk with
   | zero => exact absurd HA.out (by simp [impl_SlotsOf.l0])
   | succ k1 =>
    have H := HA.out
    clear HA
    simp only [impl_SlotsOf.l0] at H
    replace H := zc H
    rcases H with ⟨c8b0, H⟩ | ⟨c8b0, H⟩
    ·
     replace H := zs H
     obtain ⟨t424, A9, H⟩ := H
     replace H := zs H
     obtain ⟨t425, A10, H⟩ := H
     have HC11 := Aside0.mk H
     clear H
     try go_wp2
     replace HO_3 := zRd HO_3
     replace BK422 := zkd BK422
     replace HB := zBd HB
     refine zst 8 impl_SlotsOf.tab8 (zb3 BK422 <| zn0) fun hHeld HT_ => ?_
     generalize wr.drew = w12 at HO_3 BK422 HB hHeld ⊢
     repeat (first | refine zs1 ?_ | (refine zcl Tryz.func133 (impl_run.calls k1 a0_0 a0_1 a0_2 x14_1 false t424 _ A9.out) ?_; rintro e w13 ⟨rfl, hb⟩; replace HO_3 := zR HO_3 hb; replace BK422 := zk BK422 hb; replace HB := zB hb; refine ⟨_, rfl, zHb hb hHeld, _, znb, fun hHeld => ?_⟩) | (refine zcl Tryz.func133 (impl_run.calls k1 a0_0 a0_1 a0_2 x14_1 true t425 _ A10.out) ?_; rintro e w14 ⟨rfl, hb⟩; replace HO_3 := zR HO_3 hb; replace BK422 := zk BK422 hb; replace HB := zB hb; refine ⟨_, rfl, zHb hb hHeld, _, znb, fun hHeld => ?_⟩))
     refine zdn ?_
     go_upto_region 9 with (fail)
     go_cut [28] (fun v28 wc => ∃ (kq : Nat) (x28_10 : Bool), v28 = .bool x28_10 ∧ Aside0 (impl_SlotsOf.j1 kq x3_1 x4_1 x14_1 t424 t425 (a0_2.size : Int) x14_1 x28_10 a0_0 a0_1 a0_2 = some r) ∧ Aside0 (kq ≤ k1) ∧ Aside0 (Kd.R k132 132 wc w.heap.size (fun _ => True) u3 x3_1) ∧ Aside0 (wc.heap[gb422]? = some (.cells #[.int .i64 a0_0, .int .i64 a0_1, .string a0_2] 32 (0, 0))) ∧ Aside0 (Below w.heap.size w wc))
     case first =>
      have H := HC11.out
      clear HC11
      replace H := zc H
      rcases H with ⟨c15b0, H⟩ | ⟨c15b0, H⟩
      ·
       (first | rw [c15b0] | (simp only [i64_w, i32_w]; rw [c15b0]) | skip)
       have H' := Aside0.mk H
       clear H
       go_wp2
       go_meet
       case rel => exact ⟨_, (true), rf, H', ⟨by have := HK1.out; first | omega | exact Nat.le_refl _⟩, ⟨kr HO_3⟩, ⟨bk BK422⟩, ⟨bel⟩⟩
      ·
       (first | rw [c15b0] | (simp only [i64_w, i32_w]; rw [c15b0]) | skip)
       have H' := Aside0.mk H
       clear H
       go_wp2
       go_meet
       case rel => exact ⟨_, (decide (t425 ≥ 2)), rf, H', ⟨by have := HK1.out; first | omega | exact Nat.le_refl _⟩, ⟨kr HO_3⟩, ⟨bk BK422⟩, ⟨bel⟩⟩
     case rest =>
      clear HC11
      obtain ⟨kq, x28_10, rfl, HA, HJ10, HO_3, BK422, HB⟩ := hcut
      cases kq with
      | zero => exact absurd HA.out (by simp [impl_SlotsOf.j1])
      | succ kj10 =>
       have H := HA.out
       clear HA
       simp only [impl_SlotsOf.j1] at H
       have HC16 := Aside0.mk H
       clear H
       go_upto_if 28 with (fail)
       go_cut [4] (fun v4 wc => ∃ (kq : Nat) (x4_15 : Int), v4 = .int .i64 x4_15 ∧ Aside0 (impl_SlotsOf.j2 kq x3_1 x4_15 x14_1 t424 t425 (a0_2.size : Int) x14_1 a0_0 a0_1 a0_2 = some r) ∧ Aside0 (kq ≤ kj10) ∧ Aside0 (Kd.R k132 132 wc w.heap.size (fun _ => True) u3 x3_1) ∧ Aside0 (wc.heap[gb422]? = some (.cells #[.int .i64 a0_0, .int .i64 a0_1, .string a0_2] 32 (0, 0))) ∧ Aside0 (Below w.heap.size w wc))
       case first =>
        have H := HC16.out
        clear HC16
        replace H := zb H
        rcases H with ⟨rfl, H⟩ | ⟨rfl, H⟩
        ·
         have H' := Aside0.mk H
         clear H
         go_wp2
         go_meet
         case rel => exact ⟨_, (wrap64 (x4_1 + 1)), rf, H', ⟨by have := HK1.out; have := HJ10.out; first | omega | exact Nat.le_refl _⟩, ⟨kr HO_3⟩, ⟨bk BK422⟩, ⟨bel⟩⟩
        ·
         have H' := Aside0.mk H
         clear H
         go_wp2
         go_meet
         case rel => exact ⟨_, (x4_1), rf, H', ⟨by have := HK1.out; have := HJ10.out; first | omega | exact Nat.le_refl _⟩, ⟨kr HO_3⟩, ⟨bk BK422⟩, ⟨bel⟩⟩
       case rest =>
        clear HC16
        obtain ⟨kq, x4_15, rfl, HA, HJ15, HO_3, BK422, HB⟩ := hcut
        cases kq with
        | zero => exact absurd HA.out (by simp [impl_SlotsOf.j2])
        | succ kj15 =>
         have H := HA.out
         clear HA
         simp only [impl_SlotsOf.j2] at H
         replace H := zc H
         rcases H with ⟨c18b0, H⟩ | ⟨c18b0, H⟩
         ·
          replace H := zl H
          obtain ⟨LMc19, H⟩ := H
          replace H := zy H
          obtain ⟨y426, Ny426, H⟩ := H
          replace H := zc H
          rcases H with ⟨c20b0, H⟩ | ⟨c20b0, H⟩
          ·
           replace H := zl H
           obtain ⟨LMc21, H⟩ := H
           generalize hy429 : (y426 ++ [(⟨x4_15, true, x14_1, t425⟩ : S132)] : List (S132)) = y429 at H
           have Ny429 := Aside0.mk hy429.symm
           clear hy429
           have H' := Aside0.mk H
           clear H
           go_wp2_with (first | ((with_reducible refine gate_builtin (b := .append) (xs := #[.tmp 33, .tmp 38]) rfl ?_); at_builtin; refine Kd.R_append k132 (w0 := w) w.heap.size rfl (.tmp 33) (.tmp 38) 110 132 (.agg #[(.int .i64 0), (.bool false), (.int .i64 0), (.int .i64 0)]) 32 rfl Tryz.underlying110 info132 rfl (by decide) (by omega) u3 x3_1 (⟨x4_15, false, x14_1, t424⟩ : S132) [.int .i64 x4_15, .bool false, .int .i64 x14_1, .int .i64 t424] (fun _ => True) (fun _ => False) rfl rfl ?aP (fun _ hk => hk.elim) ?aF ?aO ?aB ?aS ?aL ?_; (case aP => exact k132_mkM _ _ _ (⟨x4_15, false, x14_1, t424⟩ : S132)); (case aB => exact bel); (case aF => exact (fun _ _ => trivial)); (case aO => exact (kr HO_3)); (case aS => exact bsz); (case aL => have := LMc19.out; omega); intro v427 w22 ho hb hg hat; rw [← Ny426.out] at ho; replace BK422 := Aside0.mk (blk_grown (bk BK422) hg (Kd.R_ne HO_3.out BK422.out (by decide))); replace HB := Aside0.mk hb; have HO428 := Aside0.mk ho; clear HO_3; clear ho hb hg hat) | ((with_reducible refine gate_builtin (b := .append) (xs := #[.tmp 42, .tmp 47]) rfl ?_); at_builtin; refine Kd.R_append k132 (w0 := w) w.heap.size rfl (.tmp 42) (.tmp 47) 110 132 (.agg #[(.int .i64 0), (.bool false), (.int .i64 0), (.int .i64 0)]) 32 rfl Tryz.underlying110 info132 rfl (by decide) (by omega) v427 y426 (⟨x4_15, true, x14_1, t425⟩ : S132) [.int .i64 x4_15, .bool true, .int .i64 x14_1, .int .i64 t425] (fun _ => True) (fun _ => False) rfl rfl ?aP (fun _ hk => hk.elim) ?aF ?aO ?aB ?aS ?aL ?_; (case aP => exact k132_mkM _ _ _ (⟨x4_15, true, x14_1, t425⟩ : S132)); (case aB => exact bel); (case aF => exact (fun _ _ => trivial)); (case aO => exact (kr HO428)); (case aS => exact bsz); (case aL => have := LMc21.out; omega); intro v430 w23 ho hb hg hat; rw [← Ny429.out] at ho; replace BK422 := Aside0.mk (blk_grown (bk BK422) hg (Kd.R_ne HO428.out BK422.out (by decide))); replace HB := Aside0.mk hb; have HO431 := Aside0.mk ho; clear HO428; clear ho hb hg hat))
           go_roundg kj15
           case measure => have := HK1.out; have := HJ10.out; have := HJ15.out; omega
           case rel => exact ⟨(y429), (x4_15), (wrap64 (x14_1 + 1)), rf, rf, H', ⟨by have := HK1.out; have := HJ10.out; have := HJ15.out; omega⟩, ⟨kr HO431⟩, ⟨bk BK422⟩, ⟨bel⟩⟩
          ·
           have H' := Aside0.mk H
           clear H
           go_wp2_with (first | ((with_reducible refine gate_builtin (b := .append) (xs := #[.tmp 33, .tmp 38]) rfl ?_); at_builtin; refine Kd.R_append k132 (w0 := w) w.heap.size rfl (.tmp 33) (.tmp 38) 110 132 (.agg #[(.int .i64 0), (.bool false), (.int .i64 0), (.int .i64 0)]) 32 rfl Tryz.underlying110 info132 rfl (by decide) (by omega) u3 x3_1 (⟨x4_15, false, x14_1, t424⟩ : S132) [.int .i64 x4_15, .bool false, .int .i64 x14_1, .int .i64 t424] (fun _ => True) (fun _ => False) rfl rfl ?aP (fun _ hk => hk.elim) ?aF ?aO ?aB ?aS ?aL ?_; (case aP => exact k132_mkM _ _ _ (⟨x4_15, false, x14_1, t424⟩ : S132)); (case aB => exact bel); (case aF => exact (fun _ _ => trivial)); (case aO => exact (kr HO_3)); (case aS => exact bsz); (case aL => have := LMc19.out; omega); intro v427 w24 ho hb hg hat; rw [← Ny426.out] at ho; replace BK422 := Aside0.mk (blk_grown (bk BK422) hg (Kd.R_ne HO_3.out BK422.out (by decide))); replace HB := Aside0.mk hb; have HO428 := Aside0.mk ho; clear HO_3; clear ho hb hg hat))
           go_roundg kj15
           case measure => have := HK1.out; have := HJ10.out; have := HJ15.out; omega
           case rel => exact ⟨(y426), (x4_15), (wrap64 (x14_1 + 1)), rf, rf, H', ⟨by have := HK1.out; have := HJ10.out; have := HJ15.out; omega⟩, ⟨kr HO428⟩, ⟨bk BK422⟩, ⟨bel⟩⟩
         ·
          replace H := zc H
          rcases H with ⟨c25b0, H⟩ | ⟨c25b0, H⟩
          ·
           replace H := zl H
           obtain ⟨LMc26, H⟩ := H
           generalize hy432 : (x3_1 ++ [(⟨x4_15, true, x14_1, t425⟩ : S132)] : List (S132)) = y432 at H
           have Ny432 := Aside0.mk hy432.symm
           clear hy432
           have H' := Aside0.mk H
           clear H
           go_wp2_with (first | ((with_reducible refine gate_builtin (b := .append) (xs := #[.tmp 42, .tmp 47]) rfl ?_); at_builtin; refine Kd.R_append k132 (w0 := w) w.heap.size rfl (.tmp 42) (.tmp 47) 110 132 (.agg #[(.int .i64 0), (.bool false), (.int .i64 0), (.int .i64 0)]) 32 rfl Tryz.underlying110 info132 rfl (by decide) (by omega) u3 x3_1 (⟨x4_15, true, x14_1, t425⟩ : S132) [.int .i64 x4_15, .bool true, .int .i64 x14_1, .int .i64 t425] (fun _ => True) (fun _ => False) rfl rfl ?aP (fun _ hk => hk.elim) ?aF ?aO ?aB ?aS ?aL ?_; (case aP => exact k132_mkM _ _ _ (⟨x4_15, true, x14_1, t425⟩ : S132)); (case aB => exact bel); (case aF => exact (fun _ _ => trivial)); (case aO => exact (kr HO_3)); (case aS => exact bsz); (case aL => have := LMc26.out; omega); intro v433 w27 ho hb hg hat; rw [← Ny432.out] at ho; replace BK422 := Aside0.mk (blk_grown (bk BK422) hg (Kd.R_ne HO_3.out BK422.out (by decide))); replace HB := Aside0.mk hb; have HO434 := Aside0.mk ho; clear HO_3; clear ho hb hg hat))
           go_roundg kj15
           case measure => have := HK1.out; have := HJ10.out; have := HJ15.out; omega
           case rel => exact ⟨(y432), (x4_15), (wrap64 (x14_1 + 1)), rf, rf, H', ⟨by have := HK1.out; have := HJ10.out; have := HJ15.out; omega⟩, ⟨kr HO434⟩, ⟨bk BK422⟩, ⟨bel⟩⟩
          ·
           have H' := Aside0.mk H
           clear H
           go_wp2
           go_roundg kj15
           case measure => have := HK1.out; have := HJ10.out; have := HJ15.out; omega
           case rel => exact ⟨(x3_1), (x4_15), (wrap64 (x14_1 + 1)), rf, rf, H', ⟨by have := HK1.out; have := HJ10.out; have := HJ15.out; omega⟩, ⟨kr HO_3⟩, ⟨bk BK422⟩, ⟨bel⟩⟩
    ·
     obtain rfl := Option.some.inj H
     go_wp2
     go_ret
     exact ⟨_, er, kr HO_3, bel⟩
 ·
  obtain rfl := Option.some.inj H
  go_enter Tryz.func99, Tryz.ntmps99
  go_wp2_with (first | ((with_reducible refine zd 1 rfl ?_); refine zbx (w := w) #[.int .i64 a0_0, .int .i64 a0_1, .string a0_2] 32 ?_; intro gb422 hg w28 BK422 hb; have GW422 := zg (w := w) hg; replace HB := zB hb; clear hb hg; have ⟨_, _, _, _, _, _⟩ := cz3 BK422) | ((with_reducible refine zd 9 rfl ?_); refine zgl Tryz.func85 (impl_IsGrid.calls k a0_0 a0_1 a0_2 false _ A2.out) ?_; rintro e w30 ⟨rfl, hb⟩; refine ⟨_, rfl, ?_⟩; replace BK422 := zk BK422 hb; replace HB := zB hb))
  go_ret
  exact ⟨_, er, by first | exact Kd.R_nil _ _ _ _ _ | exact Kd.N_nil _ _ _ _ _ | exact Kd.V_nil _ _ _ _ _ | exact Kd.Q_nil _ _ _ _ _ | exact Kd.S_nil _ _ _ _ _, bel⟩

/-! ### impl_cells: function 140 -/
mutual
def impl_cells.j0 : Nat → Int → Int → Bool → Int → Int → Option (List Int)
 | 0, _, _, _, _, _ => none
 | k + 1, x5, x437000, x437001, x437002, x437003 => impl_cells.l0 k x5 ([] : List Int) x437003 0 x437000 x437001 x437002 x437003
def impl_cells.l0 : Nat → Int → List Int → Int → Int → Int → Bool → Int → Int → Option (List Int)
 | 0, _, _, _, _, _, _, _, _ => none
 | k + 1, x5, x6, x13, x14, x437000, x437001, x437002, x437003 => if x14 < x13 then (if x6.length < 17592186044416 then (impl_cells.l0 k x5 (x6 ++ [wrap64 (x437002 + (wrap64 (x14 * x5)))]) x13 (wrap64 (x14 + 1)) x437000 x437001 x437002 x437003) else (none)) else (some x6)
end
def impl_cells.f (k : Nat) (a0_0 : Int) (a0_1 : Int) (a0_2 : ByteArray) (a1_0 : Int) (a1_1 : Bool) (a1_2 : Int) (a1_3 : Int) : Option (List Int) := if a1_1 = true then (impl_cells.j0 k a0_1 a1_0 a1_1 a1_2 a1_3) else (impl_cells.j0 k 1 a1_0 a1_1 a1_2 a1_3)
set_option maxHeartbeats 8000000 in
set_option maxRecDepth 100000 in
theorem impl_cells.calls (k : Nat) (a0_0 : Int) (a0_1 : Int) (a0_2 : ByteArray) (a1_0 : Int) (a1_1 : Bool) (a1_2 : Int) (a1_3 : Int) (r : List Int) (w : World) (H : impl_cells.f k a0_0 a0_1 a0_2 a1_0 a1_1 a1_2 a1_3 = some r) :
  Calls Tryz.prog 140 #[.agg #[.int .i64 a0_0, .int .i64 a0_1, .string a0_2], .agg #[.int .i64 a1_0, .bool a1_1, .int .i64 a1_2, .int .i64 a1_3]] w fun e w' => ∃ v0_ : Value, e = .returned (v0_) ∧ Kd.R (Kd.int .i64) 3 w' w.heap.size (fun _ => True) v0_ r ∧ Below w.heap.size w w' := by
 have hu32 := Tryz.underlying32
 have hu132 := Tryz.underlying132
 have HB := Aside0.mk (Below.refl w.heap.size w)
 unfold impl_cells.f at H
 have HC3 := Aside0.mk H
 clear H
 go_enter Tryz.func140, Tryz.ntmps140
 go_upto_if 9 with (first | ((with_reducible refine zd 2 rfl ?_); refine zbx (w := w) #[.int .i64 a0_0, .int .i64 a0_1, .string a0_2] 32 ?_; intro gb435 hg w4 BK435 hb; have GW435 := zg (w := w) hg; replace HB := zB hb; clear hb hg) | ((with_reducible refine zd 3 rfl ?_); refine zbx (w := w) #[.int .i64 a1_0, .bool a1_1, .int .i64 a1_2, .int .i64 a1_3] 132 ?_; intro gb436 hg w5 BK436 hb; have GW436 := zg (w := w) hg; replace HB := zB hb; have NB435_436 := zn hg BK435; have NB436_435 := zm hg BK435; replace BK435 := zk BK435 hb; clear hb hg; have hnb6 := NB436_435.out; have hnc6 := NB435_436.out; have ⟨_, _, _, _, _, _, _, _⟩ := cz4 BK436))
 (try simp only [Act.put, List.setIfInBounds_toArray, List.set_cons_zero, List.set_cons_succ])
 go_cut [5] (fun v5 wc => ∃ (kq : Nat) (x5_2 : Int), v5 = .int .i64 x5_2 ∧ Aside0 (impl_cells.j0 kq x5_2 a1_0 a1_1 a1_2 a1_3 = some r) ∧ Aside0 (kq ≤ k) ∧ Aside0 (wc.heap[gb435]? = some (.cells #[.int .i64 a0_0, .int .i64 a0_1, .string a0_2] 32 (0, 0))) ∧ Aside0 (wc.heap[gb436]? = some (.cells #[.int .i64 a1_0, .bool a1_1, .int .i64 a1_2, .int .i64 a1_3] 132 (0, 0))) ∧ Aside0 (Below w.heap.size w wc))
 case first =>
  have H := HC3.out
  clear HC3
  replace H := zb H
  rcases H with ⟨rfl, H⟩ | ⟨rfl, H⟩
  ·
   have H' := Aside0.mk H
   clear H
   have hnb9 := NB435_436.out
   have hnc9 := NB436_435.out
   have ⟨_, _, _, _, _, _⟩ := cz3 BK435
   go_wp2
   go_meet
   case rel => exact ⟨_, (a0_1), rf, H', ⟨by first | omega | exact Nat.le_refl _⟩, ⟨bk BK435⟩, ⟨bk BK436⟩, ⟨bel⟩⟩
  ·
   have H' := Aside0.mk H
   clear H
   go_wp2
   go_meet
   case rel => exact ⟨_, (1), rf, H', ⟨by first | omega | exact Nat.le_refl _⟩, ⟨bk BK435⟩, ⟨bk BK436⟩, ⟨bel⟩⟩
 case rest =>
  clear HC3
  obtain ⟨kq, x5_2, rfl, HA, HJ2, BK435, BK436, HB⟩ := hcut
  cases kq with
  | zero => exact absurd HA.out (by simp [impl_cells.j0])
  | succ kj2 =>
   have H := HA.out
   clear HA
   simp only [impl_cells.j0] at H
   have H' := Aside0.mk H
   clear H
   have hnb11 := NB436_435.out
   have hnc11 := NB435_436.out
   have ⟨_, _, _, _, _, _, _, _⟩ := cz4 BK436
   go_wp2
   go_loopg [6, 14] kj2 (fun kq v6 v14 w' => ∃ (x6_2 : List Int) (x14_2 : Int), v14 = .int .i64 x14_2 ∧ Aside0 (impl_cells.l0 kq x5_2 x6_2 a1_3 x14_2 a1_0 a1_1 a1_2 a1_3 = some r) ∧ Aside0 (kq ≤ kj2) ∧ Aside0 (Kd.R (Kd.int .i64) 3 w' w.heap.size (fun _ => True) v6 x6_2) ∧ Aside0 (w'.heap[gb435]? = some (.cells #[.int .i64 a0_0, .int .i64 a0_1, .string a0_2] 32 (0, 0))) ∧ Aside0 (w'.heap[gb436]? = some (.cells #[.int .i64 a1_0, .bool a1_1, .int .i64 a1_2, .int .i64 a1_3] 132 (0, 0))) ∧ Aside0 (Below w.heap.size w w'))
   case atStart => exact ⟨(([] : List Int)), (0), rf, H', ⟨Nat.le_refl _⟩, ⟨by first | exact Kd.R_nil _ _ _ _ _ | exact Kd.N_nil _ _ _ _ _ | exact Kd.V_nil _ _ _ _ _ | exact Kd.Q_nil _ _ _ _ _ | exact Kd.S_nil _ _ _ _ _⟩, ⟨bk BK435⟩, ⟨bk BK436⟩, ⟨bel⟩⟩
   case round =>
    clear H'
    obtain ⟨x6_2, x14_2, rfl, HA, HK2, HO_6, BK435, BK436, HB⟩ := hrel
    cases gk with
    | zero => exact absurd HA.out (by simp [impl_cells.l0])
    | succ k2 =>
     have H := HA.out
     clear HA
     simp only [impl_cells.l0] at H
     replace H := zc H
     rcases H with ⟨c13b0, H⟩ | ⟨c13b0, H⟩
     ·
      replace H := zl H
      obtain ⟨LMc14, H⟩ := H
      generalize hy437 : (x6_2 ++ [wrap64 (a1_2 + (wrap64 (x14_2 * x5_2)))] : List Int) = y437 at H
      have Ny437 := Aside0.mk hy437.symm
      clear hy437
      have H' := Aside0.mk H
      clear H
      have hnb15 := NB436_435.out
      have hnc15 := NB435_436.out
      have ⟨_, _, _, _, _, _, _, _⟩ := cz4 BK436
      go_wp2_with (first | ((with_reducible refine gate_builtin (b := .append) (xs := #[.tmp 17, .tmp 24]) rfl ?_); at_builtin; refine Kd.R_append (Kd.int .i64) (w0 := w) w.heap.size rfl (.tmp 17) (.tmp 24) 25 3 (.int .i64 0) 8 rfl Tryz.underlying25 info3 rfl (by decide) (by omega) u6 x6_2 (wrap64 (a1_2 + (wrap64 (x14_2 * x5_2)))) [.int .i64 (wrap64 (a1_2 + (wrap64 (x14_2 * x5_2))))] (fun _ => True) (fun _ => False) rfl rfl ?aP (fun _ hk => hk.elim) ?aF ?aO ?aB ?aS ?aL ?_; (case aP => exact rfl); (case aB => exact bel); (case aF => exact (fun _ _ => trivial)); (case aO => exact (kr HO_6)); (case aS => exact bsz); (case aL => have := LMc14.out; omega); intro v438 w17 ho hb hg hat; rw [← Ny437.out] at ho; replace BK435 := Aside0.mk (blk_grown (bk BK435) hg (Kd.R_ne HO_6.out BK435.out (by decide))); replace BK436 := Aside0.mk (blk_grown (bk BK436) hg (Kd.R_ne HO_6.out BK436.out (by decide))); replace HB := Aside0.mk hb; have HO439 := Aside0.mk ho; clear HO_6; clear ho hb hg hat))
      go_roundg k2
      case measure => have := HJ2.out; have := HK2.out; omega
      case rel => exact ⟨(y437), (wrap64 (x14_2 + 1)), rf, H', ⟨by have := HJ2.out; have := HK2.out; omega⟩, ⟨kr HO439⟩, ⟨bk BK435⟩, ⟨bk BK436⟩, ⟨bel⟩⟩
     ·
      obtain rfl := Option.some.inj H
      go_wp2
      go_ret
      exact ⟨_, er, kr HO_6, bel⟩

/-! ### impl_layout: function 116 -/
def impl_layout.l0 : Nat → List (List Int) → List (S132) → Int → Int → Int → Int → ByteArray → Option ((List (List Int)))
 | 0, _, _, _, _, _, _, _ => none
 | k + 1, x3, x7, x8, x9, x441000, x441001, x441002 => if x9 < x8 then (if 0 ≤ x9 then (if x9 < (x7.length : Int) then ((impl_cells.f k x441000 x441001 x441002 ((rd_T132 x7 x9).f0) ((rd_T132 x7 x9).f1) ((rd_T132 x7 x9).f2) ((rd_T132 x7 x9).f3)).bind fun t446 => (if x3.length < 5864062014805 then (impl_layout.l0 k (x3 ++ [t446]) x7 x8 (wrap64 (x9 + 1)) x441000 x441001 x441002) else (none))) else (none)) else (none)) else (some x3)
def impl_layout.f (k : Nat) (a0_0 : Int) (a0_1 : Int) (a0_2 : ByteArray) : Option ((List (List Int))) := (impl_SlotsOf.f k a0_0 a0_1 a0_2).bind fun t441 => (impl_layout.l0 k ([] : List (List Int)) t441 (t441.length : Int) 0 a0_0 a0_1 a0_2)
set_option maxHeartbeats 8000000 in
set_option maxRecDepth 100000 in
theorem impl_layout.calls (k : Nat) (a0_0 : Int) (a0_1 : Int) (a0_2 : ByteArray) (r : List (List Int)) (w : World) (H : impl_layout.f k a0_0 a0_1 a0_2 = some r) :
  Calls Tryz.prog 116 #[.agg #[.int .i64 a0_0, .int .i64 a0_1, .string a0_2]] w fun e w' => ∃ v0_ : Value, e = .returned (v0_) ∧ Kd.S (Kd.slice 3 (Kd.int .i64)) 25 w' w.heap.size (fun _ => True) v0_ r ∧ Below w.heap.size w w' := by
 have hu32 := Tryz.underlying32
 have hu132 := Tryz.underlying132
 have HB := Aside0.mk (Below.refl w.heap.size w)
 unfold impl_layout.f at H
 replace H := zs H
 obtain ⟨t441, A2, H⟩ := H
 have H' := Aside0.mk H
 clear H
 go_enter Tryz.func116, Tryz.ntmps116
 go_wp2_with (first | ((with_reducible refine zd 1 rfl ?_); refine zbx (w := w) #[.int .i64 a0_0, .int .i64 a0_1, .string a0_2] 32 ?_; intro gb440 hg w3 BK440 hb; have GW440 := zg (w := w) hg; replace HB := zB hb; clear hb hg; have ⟨_, _, _, _, _, _⟩ := cz3 BK440) | ((with_reducible refine zd 7 rfl ?_); refine zgl Tryz.func99 (impl_SlotsOf.calls k a0_0 a0_1 a0_2 t441 _ A2.out) ?_; rintro e w5 ⟨v442, rfl, ho0, hb⟩; refine ⟨_, rfl, ?_⟩; have HO443 := zl2 ho0; replace BK440 := zk BK440 hb; replace HB := zB hb; obtain ⟨Ao6, co6, eo6⟩ := Kd.R_slice HO443.out; subst eo6))
 go_loopg [3, 9] k (fun kq v3 v9 w' => ∃ (x3_1 : List (List Int)) (x9_1 : Int), v9 = .int .i64 x9_1 ∧ Aside0 (impl_layout.l0 kq x3_1 t441 (t441.length : Int) x9_1 a0_0 a0_1 a0_2 = some r) ∧ Aside0 (kq ≤ k) ∧ Aside0 (Kd.S (Kd.slice 3 (Kd.int .i64)) 25 w' w.heap.size (fun _ => True) v3 x3_1) ∧ Aside0 (Kd.R k132 132 w' w.heap.size (fun _ => True) (.slice Ao6 t441.length co6) t441) ∧ Aside0 (w'.heap[gb440]? = some (.cells #[.int .i64 a0_0, .int .i64 a0_1, .string a0_2] 32 (0, 0))) ∧ Aside0 (Below w.heap.size w w'))
 case atStart => exact ⟨(([] : List (List Int))), (0), rf, H', ⟨Nat.le_refl _⟩, ⟨by first | exact Kd.S_nil _ _ _ _ _ | exact Kd.N_nil _ _ _ _ _ | exact Kd.V_nil _ _ _ _ _ | exact Kd.Q_nil _ _ _ _ _ | exact Kd.R_nil _ _ _ _ _⟩, ⟨kr HO443⟩, ⟨bk BK440⟩, ⟨bel⟩⟩
 case round =>
  clear H'
  obtain ⟨x3_1, x9_1, rfl, HA, HK1, HO_3, HO_7, BK440, HB⟩ := hrel
  cases gk with
  | zero => exact absurd HA.out (by simp [impl_layout.l0])
  | succ k1 =>
   have H := HA.out
   clear HA
   simp only [impl_layout.l0] at H
   replace H := zc H
   rcases H with ⟨c7b0, H⟩ | ⟨c7b0, H⟩
   ·
    replace H := zr H
    obtain ⟨c8b0, H⟩ := H
    replace H := zr H
    obtain ⟨c9b0, H⟩ := H
    replace H := zs H
    obtain ⟨t446, A10, H⟩ := H
    replace H := zl H
    obtain ⟨LMc11, H⟩ := H
    generalize hy449 : (x3_1 ++ [t446] : List (List Int)) = y449 at H
    have Ny449 := Aside0.mk hy449.symm
    clear hy449
    have H' := Aside0.mk H
    clear H
    obtain ⟨p444, q444, ad444, e444, hx444_0, hx444_1, hx444_2, hx444_3⟩ := zx (at_T132 (Kd.R_reads' HO_7.out).2.2 x9_1)
    cases e444
    go_wp2_with (first | ((with_reducible refine zd 5 rfl ?_); refine zbx (w := w) #[.int .i64 0, .bool false, .int .i64 0, .int .i64 0] 132 ?_; intro gb445 hg w12 BK445 hb; replace HO_3 := zS HO_3 hb; replace HO_7 := Aside0.mk (Kd.R_below (Kd.R_elderB (kr HO_7) gb445 (Nat.le_of_eq hg.symm)) hb); have GW445 := zg (w := w) hg; replace HB := zB hb; have NB440_445 := zn hg BK440; have NB445_440 := zm hg BK440; replace BK440 := zk BK440 hb; clear hb hg; have hnb13 := NB445_440.out; have hnc13 := NB440_445.out; have ⟨_, _, _, _, _, _, _, _⟩ := cz4 BK445; have ⟨_, _, _, _, _, _⟩ := cz3 BK440) | ((with_reducible refine zd 16 rfl ?_); refine zgl Tryz.func140 (impl_cells.calls k1 a0_0 a0_1 a0_2 ((rd_T132 t441 x9_1).f0) ((rd_T132 t441 x9_1).f1) ((rd_T132 t441 x9_1).f2) ((rd_T132 t441 x9_1).f3) t446 _ A10.out) ?_; rintro e w16 ⟨v447, rfl, ho0, hb⟩; refine ⟨_, rfl, ?_⟩; replace HO_3 := Aside0.mk (Kd.S_elder' (zSf HO_3 BK445) (Kd.R_base ho0) hb); replace HO_7 := Aside0.mk (Kd.R_below (by (with_reducible repeat (first | apply Kd.R_alloc | apply Kd.R_drewN | apply Kd.R_drew)); exact (Kd.R_mono (Kd.R_far (p := ⟨gb445, 3, none⟩) (Kd.R_far (p := ⟨gb445, 2, none⟩) (Kd.R_far (p := ⟨gb445, 1, none⟩) (Kd.R_far (p := ⟨gb445, 0, none⟩) (Kd.R_mono HO_7.out (fun k_ hk => (⟨hk, hk.2⟩ : _ ∧ k_ ≠ gb445))) (fun _ hk => hk.2) (.int .i64 ((rd_T132 t441 x9_1).f0))) (fun _ hk => hk.2) (.bool ((rd_T132 t441 x9_1).f1))) (fun _ hk => hk.2) (.int .i64 ((rd_T132 t441 x9_1).f2))) (fun _ hk => hk.2) (.int .i64 ((rd_T132 t441 x9_1).f3))) (fun _ h_ => h_.1))) hb); have HO448 := zl2 ho0; replace BK440 := zkf BK440 hb; replace BK445 := zkf BK445 hb; replace HB := zB hb; obtain ⟨Ao18, co18, eo18⟩ := Kd.R_slice HO448.out; subst eo18) | ((with_reducible refine gate_builtin (b := .append) (xs := #[.tmp 13, .tmp 17]) rfl ?_); at_builtin; refine Kd.S_append (Kd.slice 3 (Kd.int .i64)) (w0 := w) w.heap.size rfl (.tmp 13) (.tmp 17) 135 25 (.slice none 0 0) 24 rfl Tryz.underlying135 info25 rfl (by decide) (by omega) u3 x3_1 t446 [.slice Ao18 t446.length co18] (fun _ => True) (fun k_ => some k_ = (.slice Ao18 t446.length co18 : Value).ownBlock) rfl rfl ?aP (fun k_ hk_ => ((Kd.R_mono (ok' := fun k_ => ((fun _ => True)) k_ ∧ some k_ ≠ (u3 : Value).ownBlock) (Kd.R_apart' (HO448.out) (Kd.S_typed HO_3.out) (by decide)) (fun k_ hk => ⟨trivial, hk.2⟩))).1 k_ hk_.symm) ?aF ?aO ?aB ?aS ?aL ?_; (case aP => exact Kd.M_row (Kd.R_mono (Kd.R_tight rfl (Kd.R_mono (ok' := fun k_ => ((fun _ => True)) k_ ∧ some k_ ≠ (u3 : Value).ownBlock) (Kd.R_apart' (HO448.out) (Kd.S_typed HO_3.out) (by decide)) (fun k_ hk => ⟨trivial, hk.2⟩))) (fun _ h_ => h_))); (case aB => exact bel); (case aF => exact (fun _ _ => trivial)); (case aO => exact (by (with_reducible repeat (first | apply Kd.S_alloc | apply Kd.S_drewN | apply Kd.S_drew)); exact Kd.S_mono HO_3.out (fun k_ hk => ⟨trivial, fun e_ => hk.2 e_⟩))); (case aS => exact bsz); (case aL => have := LMc11.out; omega); intro v450 w17 ho hb hg hat; rw [← Ny449.out] at ho; replace HO_7 := Aside0.mk (Kd.R_over' (kr HO_7) (Kd.S_typed (ks HO_3)) (by decide) hg); replace BK440 := Aside0.mk (blk_grown (bk BK440) hg (Kd.S_ne HO_3.out BK440.out (by decide))); replace BK445 := Aside0.mk (blk_grown (bk BK445) hg (Kd.S_ne HO_3.out BK445.out (by decide))); replace HB := Aside0.mk hb; have HO451 := Aside0.mk ho; clear HO_3; clear HO448; clear ho hb hg hat))
    go_roundg k1
    case measure => have := HK1.out; omega
    case rel => exact ⟨(y449), (wrap64 (x9_1 + 1)), rf, H', ⟨by have := HK1.out; omega⟩, ⟨ks HO451⟩, ⟨by (with_reducible repeat (first | apply Kd.R_alloc | apply Kd.R_drewN | apply Kd.R_drew)); exact Kd.R_mono HO_7.out (fun _ hk => trivial)⟩, ⟨bk BK440⟩, ⟨bel⟩⟩
   ·
    obtain rfl := Option.some.inj H
    go_wp2
    go_ret
    exact ⟨_, er, ks HO_3, bel⟩

/-! ### impl_readCells: function 117 -/
def impl_readCells.l0 : Nat → ByteArray → List Int → List Int → Int → Int → Option (ByteArray)
 | 0, _, _, _, _, _ => none
 | k + 1, x0, x5, x8, x9, x10 => if x10 < x9 then (if 0 ≤ x10 then (if x10 < (x8.length : Int) then (if 0 ≤ (rd x8 x10) then (if (rd x8 x10) < (x0.size : Int) then (if x5.length < 140737488355328 then (impl_readCells.l0 k x0 (x5 ++ [bt x0 (rd x8 x10)]) x8 x9 (wrap64 (x10 + 1))) else (none)) else (none)) else (none)) else (none)) else (none)) else (some (strOfNums x5))
def impl_readCells.f (k : Nat) (a0 : ByteArray) (l1 : List Int) : Option (ByteArray) := impl_readCells.l0 k a0 ([] : List Int) l1 (l1.length : Int) 0
set_option maxHeartbeats 8000000 in
set_option maxRecDepth 100000 in
theorem impl_readCells.calls (k : Nat) (a0 : ByteArray) (A1 : Option Addr) (c1 : Nat) (l1 : List Int) (r : ByteArray) (w : World) (hr1 : Kd.C (Kd.int .i64) w A1 l1.length l1) (hc1 : l1.length ≤ c1) (H : impl_readCells.f k a0 l1 = some r) :
  Calls Tryz.prog 117 #[.string a0, .slice A1 l1.length c1] w fun e w' => e = .returned (.string r) ∧ Below w.heap.size w w' := by
 have HR1 := Aside0.mk hr1
 have HC1 := Aside0.mk hc1
 clear hr1 hc1
 have HB := Aside0.mk (Below.refl w.heap.size w)
 unfold impl_readCells.f at H
 have H' := Aside0.mk H
 clear H
 go_enter Tryz.func117, Tryz.ntmps117
 go_wp2
 go_loopg [5, 10] k (fun kq v5 v10 w' => ∃ (x5_1 : List Int) (x10_1 : Int), v10 = .int .i64 x10_1 ∧ Aside0 (impl_readCells.l0 kq a0 x5_1 l1 (l1.length : Int) x10_1 = some r) ∧ Aside0 (kq ≤ k) ∧ Aside0 (Kd.R (Kd.int .u8) 5 w' w.heap.size (fun _ => True) v5 x5_1) ∧ Aside0 (Below w.heap.size w w'))
 case atStart => exact ⟨(([] : List Int)), (0), rf, H', ⟨Nat.le_refl _⟩, ⟨by first | exact Kd.R_nil _ _ _ _ _ | exact Kd.N_nil _ _ _ _ _ | exact Kd.V_nil _ _ _ _ _ | exact Kd.Q_nil _ _ _ _ _ | exact Kd.S_nil _ _ _ _ _⟩, ⟨bel⟩⟩
 case round =>
  clear H'
  obtain ⟨x5_1, x10_1, rfl, HA, HK1, HO_5, HB⟩ := hrel
  cases gk with
  | zero => exact absurd HA.out (by simp [impl_readCells.l0])
  | succ k1 =>
   have H := HA.out
   clear HA
   simp only [impl_readCells.l0] at H
   replace H := zc H
   rcases H with ⟨c3b0, H⟩ | ⟨c3b0, H⟩
   ·
    replace H := zr H
    obtain ⟨c4b0, H⟩ := H
    replace H := zr H
    obtain ⟨c5b0, H⟩ := H
    replace H := zr H
    obtain ⟨c6b0, H⟩ := H
    replace H := zr H
    obtain ⟨c7b0, H⟩ := H
    replace H := zl H
    obtain ⟨LMc9, H⟩ := H
    generalize hy453 : (x5_1 ++ [bt a0 (rd l1 x10_1)] : List Int) = y453 at H
    have Ny453 := Aside0.mk hy453.symm
    clear hy453
    have H' := Aside0.mk H
    clear H
    obtain ⟨p452, q452, ad452, e452, hx452_0⟩ := zx (Kd.at_int HR1.out x10_1)
    cases e452
    replace hx452_0 := zh HB hx452_0
    have p8 : 0 ≤ ((rd l1 x10_1) : Int) := of_decide_eq_true asm
    have q8 : (rd l1 x10_1) < (a0.size : Int) := of_decide_eq_true asm
    have hx8 := bt_at a0 (rd l1 x10_1)
    replace p8 := eq_true p8
    replace q8 := eq_true q8
    go_wp2_with (first | ((with_reducible refine gate_builtin (b := .append) (xs := #[.tmp 14, .tmp 18]) rfl ?_); at_builtin; refine Kd.R_append (Kd.int .u8) (w0 := w) w.heap.size rfl (.tmp 14) (.tmp 18) 143 5 (.int .u8 0) 1 rfl Tryz.underlying143 info5 rfl (by decide) (by omega) u5 x5_1 (bt a0 (rd l1 x10_1)) [.int .u8 (bt a0 (rd l1 x10_1))] (fun _ => True) (fun _ => False) rfl rfl ?aP (fun _ hk => hk.elim) ?aF ?aO ?aB ?aS ?aL ?_; (case aP => exact rfl); (case aB => exact bel); (case aF => exact (fun _ _ => trivial)); (case aO => exact (kr HO_5)); (case aS => exact bsz); (case aL => have := LMc9.out; omega); intro v454 w10 ho hb hg hat; rw [← Ny453.out] at ho; replace HB := Aside0.mk hb; have HO455 := Aside0.mk ho; clear HO_5; clear ho hb hg hat))
    go_roundg k1
    case measure => have := HK1.out; omega
    case rel => exact ⟨(y453), (wrap64 (x10_1 + 1)), rf, H', ⟨by have := HK1.out; omega⟩, ⟨kr HO455⟩, ⟨bel⟩⟩
   ·
    obtain rfl := Option.some.inj H
    have hcv11 := own_string (P := Tryz.prog) Tryz.underlying143 Tryz.underlying5 Tryz.underlying9 (Kd.own_of_R HO_5.out)
    go_wp2
    go_ret
    exact ⟨er, bel⟩

/-! ### impl_patterns: function 90 -/
def impl_patterns.l0 : Nat → ByteArray → List ByteArray → List (List Int) → Int → Int → Option (List ByteArray)
 | 0, _, _, _, _, _ => none
 | k + 1, x1, x5, x13, x14, x15 => if x15 < x14 then (if 0 ≤ x15 then (if x15 < (x13.length : Int) then ((impl_readCells.f k x1 (rd_L10 x13 x15)).bind fun t462 => (if x5.length < 8796093022208 then (impl_patterns.l0 k x1 (x5 ++ [t462]) x13 x14 (wrap64 (x15 + 1))) else (none))) else (none)) else (none)) else (some x5)
def impl_patterns.f (k : Nat) (a0_0 : Int) (a0_1 : Int) (a0_2 : ByteArray) (a1 : ByteArray) : Option (List ByteArray) := (impl_IsFill.f k a0_0 a0_1 a0_2 a1).bind fun t457 => (if t457 = true then ((impl_layout.f k a0_0 a0_1 a0_2).bind fun t458 => (impl_patterns.l0 k a1 ([] : List ByteArray) t458 (t458.length : Int) 0)) else (some ([] : List ByteArray)))
set_option maxHeartbeats 8000000 in
set_option maxRecDepth 100000 in
theorem impl_patterns.calls (k : Nat) (a0_0 : Int) (a0_1 : Int) (a0_2 : ByteArray) (a1 : ByteArray) (r : List ByteArray) (w : World) (H : impl_patterns.f k a0_0 a0_1 a0_2 a1 = some r) :
  Calls Tryz.prog 90 #[.agg #[.int .i64 a0_0, .int .i64 a0_1, .string a0_2], .string a1] w fun e w' => ∃ v0_ : Value, e = .returned (v0_) ∧ Kd.R Kd.string 9 w' w.heap.size (fun _ => True) v0_ r ∧ Below w.heap.size w w' := by
 have hu32 := Tryz.underlying32
 have HB := Aside0.mk (Below.refl w.heap.size w)
 unfold impl_patterns.f at H
 replace H := zs H
 obtain ⟨t457, A3, H⟩ := H
 replace H := zb H
 rcases H with ⟨rfl, H⟩ | ⟨rfl, H⟩
 ·
  replace H := zs H
  obtain ⟨t458, A5, H⟩ := H
  have H' := Aside0.mk H
  clear H
  go_enter Tryz.func90, Tryz.ntmps90
  go_wp2_with (first | ((with_reducible refine zd 2 rfl ?_); refine zbx (w := w) #[.int .i64 a0_0, .int .i64 a0_1, .string a0_2] 32 ?_; intro gb456 hg w6 BK456 hb; have GW456 := zg (w := w) hg; replace HB := zB hb; clear hb hg; have ⟨_, _, _, _, _, _⟩ := cz3 BK456) | ((with_reducible refine zd 10 rfl ?_); refine zgl Tryz.func52 (impl_IsFill.calls k a0_0 a0_1 a0_2 a1 true _ A3.out) ?_; rintro e w8 ⟨rfl, hb⟩; refine ⟨_, rfl, ?_⟩; replace BK456 := zk BK456 hb; replace HB := zB hb; have ⟨_, _, _, _, _, _⟩ := cz3 BK456) | ((with_reducible refine zd 13 rfl ?_); refine zgl Tryz.func116 (impl_layout.calls k a0_0 a0_1 a0_2 t458 _ A5.out) ?_; rintro e w10 ⟨v459, rfl, ho0, hb⟩; refine ⟨_, rfl, ?_⟩; have HO460 := Aside0.mk (Kd.S_lower ho0 bsz); replace BK456 := zk BK456 hb; replace HB := zB hb; obtain ⟨Ao11, co11, eo11⟩ := Kd.S_slice HO460.out; subst eo11))
  go_loopg [5, 15] k (fun kq v5 v15 w' => ∃ (x5_1 : List ByteArray) (x15_1 : Int), v15 = .int .i64 x15_1 ∧ Aside0 (impl_patterns.l0 kq a1 x5_1 t458 (t458.length : Int) x15_1 = some r) ∧ Aside0 (kq ≤ k) ∧ Aside0 (Kd.R Kd.string 9 w' w.heap.size (fun _ => True) v5 x5_1) ∧ Aside0 (Kd.S (Kd.slice 3 (Kd.int .i64)) 25 w' w.heap.size (fun _ => True) (.slice Ao11 t458.length co11) t458) ∧ Aside0 (w'.heap[gb456]? = some (.cells #[.int .i64 a0_0, .int .i64 a0_1, .string a0_2] 32 (0, 0))) ∧ Aside0 (Below w.heap.size w w'))
  case atStart => exact ⟨(([] : List ByteArray)), (0), rf, H', ⟨Nat.le_refl _⟩, ⟨by first | exact Kd.R_nil _ _ _ _ _ | exact Kd.N_nil _ _ _ _ _ | exact Kd.V_nil _ _ _ _ _ | exact Kd.Q_nil _ _ _ _ _ | exact Kd.S_nil _ _ _ _ _⟩, ⟨ks HO460⟩, ⟨bk BK456⟩, ⟨bel⟩⟩
  case round =>
   clear H'
   obtain ⟨x5_1, x15_1, rfl, HA, HK1, HO_5, HO_13, BK456, HB⟩ := hrel
   cases gk with
   | zero => exact absurd HA.out (by simp [impl_patterns.l0])
   | succ k1 =>
    have H := HA.out
    clear HA
    simp only [impl_patterns.l0] at H
    replace H := zc H
    rcases H with ⟨c12b0, H⟩ | ⟨c12b0, H⟩
    ·
     replace H := zr H
     obtain ⟨c13b0, H⟩ := H
     replace H := zr H
     obtain ⟨c14b0, H⟩ := H
     replace H := zs H
     obtain ⟨t462, A15, H⟩ := H
     replace H := zl H
     obtain ⟨LMc16, H⟩ := H
     generalize hy463 : (x5_1 ++ [t462] : List ByteArray) = y463 at H
     have Ny463 := Aside0.mk hy463.symm
     clear hy463
     have H' := Aside0.mk H
     clear H
     have p461 : 0 ≤ (x15_1 : Int) := of_decide_eq_true asm
     have q461 : x15_1 < (t458.length : Int) := of_decide_eq_true asm
     obtain ⟨ad461, A461_0, c461_0, e461, hx461_0, hl461_0, hi461_0⟩ := at_L10 (Kd.S_reads' HO_13.out).2.2 x15_1 p461 q461
     cases e461
     obtain ⟨ce461, hce461, hMe461, hcc461⟩ := Kd.S_get HO_13.out [] x15_1 p461 (by first | exact q461 | exact of_decide_eq_true asm | (have e_ := (Kd.S_reads' HO_13.out).1; omega))
     obtain ⟨ve461_0, rfl, ge461_0⟩ := hMe461
     have hv461_0 := hcc461 0 _ rfl
     rw [Nat.add_zero, show ((Kd.slice 3 (Kd.int .i64))).sz = 1 from rfl, Nat.mul_one] at hv461_0
     replace hv461_0 := Option.some.inj (hv461_0.symm.trans hx461_0)
     rw [hv461_0] at ge461_0
     have HL461_0 := Aside0.mk (show Kd.R (Kd.int .i64) 3 _ _ _ _ (rd_L10 t458 x15_1) from ge461_0)
     clear hv461_0 ge461_0
     clear hcc461 hce461
     have HR461_0 := Aside0.mk hi461_0
     have HC461_0 := Aside0.mk hl461_0
     clear hi461_0 hl461_0
     replace p461 := eq_true p461
     replace q461 := eq_true q461
     go_wp2_with (first | ((with_reducible refine gate_callee (f := 117) rfl ?_); refine goesL_ (some 22) rfl rfl Tryz.func117 (by kernel_rfl) rfl #[.string a1, .slice A461_0 (rd_L10 t458 x15_1).length c461_0] rfl ga ?_; (with_reducible refine (impl_readCells.calls k1 a1 _ _ (rd_L10 t458 x15_1) t462 _ ?side1 ?side2 A15.out).mono ?_); (case side1 => repeat (first | exact (by repeat (first | (with_reducible exact HR461_0.out) | (with_reducible refine Kd.C_alloc ?_ _) | (with_reducible refine Kd.C_drewN ?_ _) | (with_reducible refine Kd.C_drew ?_) | exact HR461_0.out)) | (with_reducible refine Kd.C_alloc ?_ _) | (with_reducible refine Kd.C_drewN ?_ _) | (with_reducible refine Kd.C_drew ?_))); (case side2 => exact HC461_0.out); rintro e w17 ⟨rfl, hb⟩; refine ⟨_, rfl, ?_⟩; replace HO_5 := zR HO_5 hb; replace HO_13 := zS HO_13 hb; replace HL461_0 := Aside0.mk (Kd.R_below (kr HL461_0) hb); replace BK456 := zk BK456 hb; replace HR461_0 := Aside0.mk (Kd.C_below (by repeat (first | (with_reducible exact HR461_0.out) | (with_reducible refine Kd.C_alloc ?_ _) | (with_reducible refine Kd.C_drewN ?_ _) | (with_reducible refine Kd.C_drew ?_) | exact HR461_0.out)) hb); replace HB := zB hb) | ((with_reducible refine gate_builtin (b := .append) (xs := #[.tmp 19, .tmp 23]) rfl ?_); at_builtin; refine Kd.R_append Kd.string (w0 := w) w.heap.size rfl (.tmp 19) (.tmp 23) 114 9 (.string ⟨#[]⟩) 16 rfl Tryz.underlying114 info9 rfl (by decide) (by omega) u5 x5_1 t462 [.string t462] (fun _ => True) (fun _ => False) rfl rfl ?aP (fun _ hk => hk.elim) ?aF ?aO ?aB ?aS ?aL ?_; (case aP => exact rfl); (case aB => exact bel); (case aF => exact (fun _ _ => trivial)); (case aO => exact (kr HO_5)); (case aS => exact bsz); (case aL => have := LMc16.out; omega); intro v464 w18 ho hb hg hat; rw [← Ny463.out] at ho; replace HO_13 := Aside0.mk (Kd.S_over' (ks HO_13) (Kd.R_typed (kr HO_5)) (by decide) hg); replace BK456 := Aside0.mk (blk_grown (bk BK456) hg (Kd.R_ne HO_5.out BK456.out (by decide))); replace HL461_0 := Aside0.mk (Kd.R_over' (kr HL461_0) (Kd.R_typed (kr HO_5)) (by decide) hg); replace HB := Aside0.mk hb; have HO465 := Aside0.mk ho; clear HO_5; clear ho hb hg hat))
     go_roundg k1
     case measure => have := HK1.out; omega
     case rel => exact ⟨(y463), (wrap64 (x15_1 + 1)), rf, H', ⟨by have := HK1.out; omega⟩, ⟨kr HO465⟩, ⟨ks HO_13⟩, ⟨bk BK456⟩, ⟨bel⟩⟩
    ·
     obtain rfl := Option.some.inj H
     go_wp2
     go_ret
     exact ⟨_, er, kr HO_5, bel⟩
 ·
  obtain rfl := Option.some.inj H
  go_enter Tryz.func90, Tryz.ntmps90
  go_wp2_with (first | ((with_reducible refine zd 2 rfl ?_); refine zbx (w := w) #[.int .i64 a0_0, .int .i64 a0_1, .string a0_2] 32 ?_; intro gb456 hg w19 BK456 hb; have GW456 := zg (w := w) hg; replace HB := zB hb; clear hb hg; have ⟨_, _, _, _, _, _⟩ := cz3 BK456) | ((with_reducible refine zd 10 rfl ?_); refine zgl Tryz.func52 (impl_IsFill.calls k a0_0 a0_1 a0_2 a1 false _ A3.out) ?_; rintro e w21 ⟨rfl, hb⟩; refine ⟨_, rfl, ?_⟩; replace BK456 := zk BK456 hb; replace HB := zB hb))
  go_ret
  exact ⟨_, er, by first | exact Kd.R_nil _ _ _ _ _ | exact Kd.N_nil _ _ _ _ _ | exact Kd.V_nil _ _ _ _ _ | exact Kd.Q_nil _ _ _ _ _ | exact Kd.S_nil _ _ _ _ _, bel⟩

/-! ### impl_at: function 118 -/
def impl_at.f (a0 : Int) (a1 : Int) : Option (Bool) := if a0 ≥ 0 then (some (decide (a0 < a1))) else (some false)
set_option maxHeartbeats 8000000 in
set_option maxRecDepth 100000 in
theorem impl_at.calls (a0 : Int) (a1 : Int) (r : Bool) (w : World) (H : impl_at.f a0 a1 = some r) :
  Calls Tryz.prog 118 #[.int .i64 a0, .int .i64 a1] w fun e w' => e = .returned (.bool r) ∧ Drawn0 w w' := by
 unfold impl_at.f at H
 replace H := zc H
 rcases H with ⟨c3b0, H⟩ | ⟨c3b0, H⟩
 rotate_left
 focus
  obtain rfl := Option.some.inj H
 rotate_right
 focus
  obtain rfl := Option.some.inj H
 all_goals
  go_enter Tryz.func118, Tryz.ntmps118
  go_wp2
  go_ret
  exact ⟨by first | rfl | (simp; done) | (simp [*]; done), by repeat (first | exact Drawn0.refl _ | apply Drawn0.step)⟩

/-! ### impl_IsWord: function 119 -/
def impl_IsWord.l0 : Nat → ByteArray → Int → Int → Option (Bool)
 | 0, _, _, _ => none
 | k + 1, x0, x9, x10 => if x10 < x9 then (if 0 ≤ x10 then (if x10 < (x0.size : Int) then ((impl_isLetter.f (bt x0 x10)).bind fun t467 => (if t467 = true then (impl_IsWord.l0 k x0 x9 (wrap64 (x10 + 1))) else (some false))) else (none)) else (none)) else (some true)
def impl_IsWord.f (k : Nat) (a0 : ByteArray) : Option (Bool) := (impl_InRange.f (a0.size : Int) 1 8).bind fun t466 => (if t466 = true then (impl_IsWord.l0 k a0 (a0.size : Int) 0) else (some false))
set_option maxHeartbeats 8000000 in
set_option maxRecDepth 100000 in
theorem impl_IsWord.calls (k : Nat) (a0 : ByteArray) (r : Bool) (w : World) (H : impl_IsWord.f k a0 = some r) :
  Calls Tryz.prog 119 #[.string a0] w fun e w' => e = .returned (.bool r) ∧ Drawn0 w w' := by
 unfold impl_IsWord.f at H
 replace H := zs H
 obtain ⟨t466, A2, H⟩ := H
 replace H := zb H
 rcases H with ⟨rfl, H⟩ | ⟨rfl, H⟩
 ·
  have H' := Aside0.mk H
  clear H
  go_enter Tryz.func119, Tryz.ntmps119
  go_wp2_with (first | ((with_reducible refine zd 6 rfl ?_); refine zgl Tryz.func47 (impl_InRange.calls (a0.size : Int) 1 8 true _ A2.out) ?_; rintro e w' ⟨rfl, ⟨nd, rfl⟩⟩; refine ⟨_, rfl, ?_⟩))
  go_loopg [10] k (fun kq v10 w' => ∃ (x10_1 : Int), v10 = .int .i64 x10_1 ∧ Aside0 (impl_IsWord.l0 kq a0 (a0.size : Int) x10_1 = some r) ∧ Aside0 (kq ≤ k) ∧ Drawn0 w w')
  case atStart => exact ⟨(0), rf, H', ⟨Nat.le_refl _⟩, by repeat (first | exact Drawn0.refl _ | apply Drawn0.step)⟩
  case round =>
   clear H'
   obtain ⟨x10_1, rfl, HA, HK1, ⟨m1, rfl⟩⟩ := hrel
   cases gk with
   | zero => exact absurd HA.out (by simp [impl_IsWord.l0])
   | succ k1 =>
    have H := HA.out
    clear HA
    simp only [impl_IsWord.l0] at H
    replace H := zc H
    rcases H with ⟨c4b0, H⟩ | ⟨c4b0, H⟩
    ·
     replace H := zr H
     obtain ⟨c5b0, H⟩ := H
     replace H := zr H
     obtain ⟨c6b0, H⟩ := H
     replace H := zs H
     obtain ⟨t467, A8, H⟩ := H
     replace H := zb H
     rcases H with ⟨rfl, H⟩ | ⟨rfl, H⟩
     ·
      have H' := Aside0.mk H
      clear H
      have p7 : 0 ≤ (x10_1 : Int) := of_decide_eq_true asm
      have q7 : x10_1 < (a0.size : Int) := of_decide_eq_true asm
      have hx7 := bt_at a0 x10_1
      replace p7 := eq_true p7
      replace q7 := eq_true q7
      go_wp2_with (first | ((with_reducible refine zd 16 rfl ?_); refine zgl Tryz.func86 (impl_isLetter.calls (bt a0 x10_1) true _ A8.out) ?_; rintro e w' ⟨rfl, ⟨nd, rfl⟩⟩; refine ⟨_, rfl, ?_⟩))
      go_roundg k1
      case measure => have := HK1.out; omega
      case rel => exact ⟨(wrap64 (x10_1 + 1)), rf, H', ⟨by have := HK1.out; omega⟩, by repeat (first | exact Drawn0.refl _ | apply Drawn0.step)⟩
     ·
      obtain rfl := Option.some.inj H
      have p7 : 0 ≤ (x10_1 : Int) := of_decide_eq_true asm
      have q7 : x10_1 < (a0.size : Int) := of_decide_eq_true asm
      have hx7 := bt_at a0 x10_1
      replace p7 := eq_true p7
      replace q7 := eq_true q7
      go_wp2_with (first | ((with_reducible refine zd 16 rfl ?_); refine zgl Tryz.func86 (impl_isLetter.calls (bt a0 x10_1) false _ A8.out) ?_; rintro e w' ⟨rfl, ⟨nd, rfl⟩⟩; refine ⟨_, rfl, ?_⟩))
      go_ret
      exact ⟨by first | rfl | (simp; done) | (simp [*]; done), by repeat (first | exact Drawn0.refl _ | apply Drawn0.step)⟩
    ·
     obtain rfl := Option.some.inj H
     go_wp2
     go_ret
     exact ⟨by first | rfl | (simp; done) | (simp [*]; done), by repeat (first | exact Drawn0.refl _ | apply Drawn0.step)⟩
 ·
  obtain rfl := Option.some.inj H
  go_enter Tryz.func119, Tryz.ntmps119
  go_wp2_with (first | ((with_reducible refine zd 6 rfl ?_); refine zgl Tryz.func47 (impl_InRange.calls (a0.size : Int) 1 8 false _ A2.out) ?_; rintro e w' ⟨rfl, ⟨nd, rfl⟩⟩; refine ⟨_, rfl, ?_⟩))
  go_ret
  exact ⟨by first | rfl | (simp; done) | (simp [*]; done), by repeat (first | exact Drawn0.refl _ | apply Drawn0.step)⟩

/-! ### impl_Mod: function 169 -/
def impl_Mod.f (a0 : Int) (a1 : Int) : Option (Int) := (impl_InRange.f a1 1 1000000000000).bind fun t468 => (if t468 = true then (if a1 = 0 then (none) else (some (Int.tmod (wrap64 ((Int.tmod a0 a1) + a1)) a1))) else (some 0))
set_option maxHeartbeats 8000000 in
set_option maxRecDepth 100000 in
theorem impl_Mod.calls (a0 : Int) (a1 : Int) (r : Int) (w : World) (H : impl_Mod.f a0 a1 = some r) :
  Calls Tryz.prog 169 #[.int .i64 a0, .int .i64 a1] w fun e w' => e = .returned (.int .i64 r) ∧ Drawn0 w w' := by
 unfold impl_Mod.f at H
 replace H := zs H
 obtain ⟨t468, A3, H⟩ := H
 replace H := zb H
 rcases H with ⟨rfl, H⟩ | ⟨rfl, H⟩
 rotate_left
 focus
  obtain rfl := Option.some.inj H
 rotate_right
 focus
  by_cases c5 : a1 = 0
  rotate_left
  focus
   rw [if_neg c5] at H
   have c5b0 : (a1 == 0) = false := beq_eq_false_iff_ne.mpr c5
   have c5b1 : (a1 != 0) = true := bne_iff_ne.mpr c5
   obtain rfl := Option.some.inj H
  rotate_right
  focus
   rw [if_pos c5] at H
   exact absurd H (by simp)
 all_goals
  go_enter Tryz.func169, Tryz.ntmps169
  go_wp2_with (first | ((with_reducible refine zd 6 rfl ?_); refine zgl Tryz.func47 (impl_InRange.calls a1 1 1000000000000 _ _ A3.out) ?_; rintro e w' ⟨rfl, ⟨nd, rfl⟩⟩; refine ⟨_, rfl, ?_⟩))
  go_ret
  exact ⟨by first | rfl | (simp; done) | (simp [*]; done), by repeat (first | exact Drawn0.refl _ | apply Drawn0.step)⟩

end Go.Proofs.YtpcdfjcbjbkliaaGreat.E
