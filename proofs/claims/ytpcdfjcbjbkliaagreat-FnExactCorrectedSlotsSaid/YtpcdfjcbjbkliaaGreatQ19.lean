import Derived.Test.YtpcdfjcbjbkliaaGreatSq
import Derived.Test.YtpcdfjcbjbkliaaGreatQ0
import Derived.Test.YtpcdfjcbjbkliaaGreatQ17
import Derived.Test.YtpcdfjcbjbkliaaGreatQ18
namespace Go.Proofs.YtpcdfjcbjbkliaaGreat.E
open Go.RowKit Go.Proofs.YtpcdfjcbjbkliaaGreatW.PrintWords Go.Proofs.YtpcdfjcbjbkliaaGreatW.PrintLast Go.Proofs.YtpcdfjcbjbkliaaGreatW.PrintMore
attribute [local go_sem] max2_int min2_int max_two min_two max_three min_three max_four min_four
set_option linter.unusedVariables false
set_option linter.unusedSimpArgs false

/-! ### impl_SlotsOf: function 99 -/
mutual
def impl_SlotsOf.l0 : Nat → List (S132) → Int → Int → Int → Int → Int → ByteArray → Option ((List (S132)))
 | 0, _, _, _, _, _, _, _ => none
 | k + 1, a, b, c, d, e, f, g => if d < c then ((impl_run.f k e f g d false).bind fun h => ((impl_run.f k e f g d true).bind fun i => (if h ≥ 2 then (impl_SlotsOf.j1 k a b d h i c d true e f g) else (impl_SlotsOf.j1 k a b d h i c d (decide (i ≥ 2)) e f g)))) else (some a)
def impl_SlotsOf.j1 : Nat → List (S132) → Int → Int → Int → Int → Int → Int → Bool → Int → Int → ByteArray → Option ((List (S132)))
 | 0, _, _, _, _, _, _, _, _, _, _, _ => none
 | k + 1, a, b, c, d, e, f, g, h, i, j, l => if h = true then (impl_SlotsOf.j2 k a (wrap64 (b + 1)) c d e f g i j l) else (impl_SlotsOf.j2 k a b c d e f g i j l)
def impl_SlotsOf.j2 : Nat → List (S132) → Int → Int → Int → Int → Int → Int → Int → Int → ByteArray → Option ((List (S132)))
 | 0, _, _, _, _, _, _, _, _, _, _ => none
 | k + 1, a, b, c, d, e, f, g, h, i, j => if d ≥ 2 then (if a.length < 4398046511104 then ((some (a ++ [(⟨b, false, c, d⟩ : S132)] : List (S132))).bind fun l => (if e ≥ 2 then (if l.length < 4398046511104 then (impl_SlotsOf.l0 k (l ++ [(⟨b, true, c, e⟩ : S132)]) b f (wrap64 (g + 1)) h i j) else (none)) else (impl_SlotsOf.l0 k l b f (wrap64 (g + 1)) h i j))) else (none)) else (if e ≥ 2 then (if a.length < 4398046511104 then (impl_SlotsOf.l0 k (a ++ [(⟨b, true, c, e⟩ : S132)]) b f (wrap64 (g + 1)) h i j) else (none)) else (impl_SlotsOf.l0 k a b f (wrap64 (g + 1)) h i j))
end
def impl_SlotsOf.f (k : Nat) (a b : Int) (c : ByteArray) : Option ((List (S132))) := (impl_IsGrid.f k a b c).bind fun d => (if d = true then (impl_SlotsOf.l0 k ([] : List (S132)) 0 (c.size : Int) 0 a b c) else (some ([] : List (S132))))
def impl_SlotsOf.T8 : Bool × List (List Nat × List Nat) := (true, [([], []), ([], []), ([0, 1], [0, 1]), ([], []), ([], []), ([3, 4, 2], [3, 4]), ([2, 5, 0, 1, 2], [2]), ([5, 6, 0, 1, 2, 3, 4, 5, 6], [5])])
theorem impl_SlotsOf.tab8 : rtab .any (opsOf Tryz.f99 8) = impl_SlotsOf.T8 := by kernel_rfl
set_option maxHeartbeats 8000000 in
set_option maxRecDepth 100000 in
theorem impl_SlotsOf.calls (k : Nat) (a0_0 a0_1 : Int) (a0_2 : ByteArray) (r : List (S132)) (w : World) (H : impl_SlotsOf.f k a0_0 a0_1 a0_2 = some r) :
  Calls Tryz.prog 99 #[.agg #[.int .i64 a0_0, .int .i64 a0_1, .string a0_2]] w fun e w' => ∃ v0_ : Value, e = .returned (v0_) ∧ Kd.R k132 132 w' w.heap.size (fun _ => True) v0_ r ∧ Below w.heap.size w w' := by
 have hu32 := Tryz.underlying32
 have hu132 := Tryz.underlying132
 have HB := Aside0.mk (Below.refl w.heap.size w)
 unfold impl_SlotsOf.f at H
 replace H := zs H
 obtain ⟨t531, A2, H⟩ := H
 replace H := zb H
 rcases H with ⟨rfl, H⟩ | ⟨rfl, H⟩
 ·
  have H' := Aside0.mk H
  clear H
  go_enter Tryz.func99, Tryz.ntmps99
  go_wp2_with (first | ((with_reducible refine zd 1 rfl ?_); refine zbx (w := w) #[.int .i64 a0_0, .int .i64 a0_1, .string a0_2] 32 ?_; intro gb530 hg w4 BK530 hb; have GW530 := zg (w := w) hg; replace HB := zB hb; clear hb hg; have ⟨_, _, _, _, _, _⟩ := cz3 BK530) | ((with_reducible refine zd 9 rfl ?_); refine zgl Tryz.func85 (impl_IsGrid.calls k a0_0 a0_1 a0_2 true _ A2.out) ?_; rintro e w6 ⟨rfl, hb⟩; refine ⟨_, rfl, ?_⟩; replace BK530 := zk BK530 hb; replace HB := zB hb; have ⟨_, _, _, _, _, _⟩ := cz3 BK530))
  go_loopg [3, 4, 14] k (fun kq v3 v4 v14 w' => ∃ (x3_1 : List (S132)) (x4_1 : Int) (x14_1 : Int), v4 = .int .i64 x4_1 ∧ v14 = .int .i64 x14_1 ∧ Aside0 (impl_SlotsOf.l0 kq x3_1 x4_1 (a0_2.size : Int) x14_1 a0_0 a0_1 a0_2 = some r) ∧ Aside0 (kq ≤ k) ∧ Aside0 (Kd.R k132 132 w' w.heap.size (fun _ => True) v3 x3_1) ∧ Aside0 (w'.heap[gb530]? = some (.cells #[.int .i64 a0_0, .int .i64 a0_1, .string a0_2] 32 (0, 0))) ∧ Aside0 (Below w.heap.size w w'))
  case atStart => exact ⟨(([] : List (S132))), (0), (0), rf, rf, H', ⟨Nat.le_refl _⟩, ⟨by first | exact Kd.R_nil _ _ _ _ _ | exact Kd.N_nil _ _ _ _ _ | exact Kd.V_nil _ _ _ _ _ | exact Kd.Q_nil _ _ _ _ _ | exact Kd.S_nil _ _ _ _ _⟩, ⟨bk BK530⟩, ⟨bel⟩⟩
  case round =>
   clear H'
   obtain ⟨x3_1, x4_1, x14_1, rfl, rfl, HA, HK1, HO_3, BK530, HB⟩ := hrel
   cases gk with
   | zero => exact absurd HA.out (by simp [impl_SlotsOf.l0])
   | succ k1 =>
    have H := HA.out
    clear HA
    simp only [impl_SlotsOf.l0] at H
    replace H := zc H
    rcases H with ⟨c8b0, H⟩ | ⟨c8b0, H⟩
    ·
     replace H := zs H
     obtain ⟨t532, A9, H⟩ := H
     replace H := zs H
     obtain ⟨t533, A10, H⟩ := H
     have HC11 := Aside0.mk H
     clear H
     try go_wp2
     replace HO_3 := zRd HO_3
     replace BK530 := zkd BK530
     replace HB := zBd HB
     refine zst 8 impl_SlotsOf.tab8 (zb3 BK530 <| zn0) fun hHeld HT_ => ?_
     generalize wr.drew = w12 at HO_3 BK530 HB hHeld ⊢
     repeat (first | refine zs1 ?_ | (refine zcl Tryz.func133 (impl_run.calls k1 a0_0 a0_1 a0_2 x14_1 false t532 _ A9.out) ?_; rintro e w13 ⟨rfl, hb⟩; replace HO_3 := zR HO_3 hb; replace BK530 := zk BK530 hb; replace HB := zB hb; refine ⟨_, rfl, zHb hb hHeld, _, znb, fun hHeld => ?_⟩) | (refine zcl Tryz.func133 (impl_run.calls k1 a0_0 a0_1 a0_2 x14_1 true t533 _ A10.out) ?_; rintro e w14 ⟨rfl, hb⟩; replace HO_3 := zR HO_3 hb; replace BK530 := zk BK530 hb; replace HB := zB hb; refine ⟨_, rfl, zHb hb hHeld, _, znb, fun hHeld => ?_⟩))
     refine zdn ?_
     go_upto_region 9 with (fail)
     go_cut [28] (fun v28 wc => ∃ (kq : Nat) (x28_10 : Bool), v28 = .bool x28_10 ∧ Aside0 (impl_SlotsOf.j1 kq x3_1 x4_1 x14_1 t532 t533 (a0_2.size : Int) x14_1 x28_10 a0_0 a0_1 a0_2 = some r) ∧ Aside0 (kq ≤ k1) ∧ Aside0 (Kd.R k132 132 wc w.heap.size (fun _ => True) u3 x3_1) ∧ Aside0 (wc.heap[gb530]? = some (.cells #[.int .i64 a0_0, .int .i64 a0_1, .string a0_2] 32 (0, 0))) ∧ Aside0 (Below w.heap.size w wc))
     case first =>
      have H := HC11.out
      clear HC11
      replace H := zc H
      rcases H with ⟨c15b0, H⟩ | ⟨c15b0, H⟩
      ·
       (first | rw [c15b0] | (simp only [i64_w, i32_w]; rw [c15b0]) | skip)
       have H' := Aside0.mk H
       clear H
       go_wp2
       go_meet
       case rel => exact ⟨_, (true), rf, H', ⟨by have := HK1.out; first | omega | exact Nat.le_refl _⟩, ⟨kr HO_3⟩, ⟨bk BK530⟩, ⟨bel⟩⟩
      ·
       (first | rw [c15b0] | (simp only [i64_w, i32_w]; rw [c15b0]) | skip)
       have H' := Aside0.mk H
       clear H
       go_wp2
       go_meet
       case rel => exact ⟨_, (decide (t533 ≥ 2)), rf, H', ⟨by have := HK1.out; first | omega | exact Nat.le_refl _⟩, ⟨kr HO_3⟩, ⟨bk BK530⟩, ⟨bel⟩⟩
     case rest =>
      clear HC11
      obtain ⟨kq, x28_10, rfl, HA, HJ10, HO_3, BK530, HB⟩ := hcut
      cases kq with
      | zero => exact absurd HA.out (by simp [impl_SlotsOf.j1])
      | succ kj10 =>
       have H := HA.out
       clear HA
       simp only [impl_SlotsOf.j1] at H
       have HC16 := Aside0.mk H
       clear H
       go_upto_if 28 with (fail)
       go_cut [4] (fun v4 wc => ∃ (kq : Nat) (x4_15 : Int), v4 = .int .i64 x4_15 ∧ Aside0 (impl_SlotsOf.j2 kq x3_1 x4_15 x14_1 t532 t533 (a0_2.size : Int) x14_1 a0_0 a0_1 a0_2 = some r) ∧ Aside0 (kq ≤ kj10) ∧ Aside0 (Kd.R k132 132 wc w.heap.size (fun _ => True) u3 x3_1) ∧ Aside0 (wc.heap[gb530]? = some (.cells #[.int .i64 a0_0, .int .i64 a0_1, .string a0_2] 32 (0, 0))) ∧ Aside0 (Below w.heap.size w wc))
       case first =>
        have H := HC16.out
        clear HC16
        replace H := zb H
        rcases H with ⟨rfl, H⟩ | ⟨rfl, H⟩
        ·
         have H' := Aside0.mk H
         clear H
         go_wp2
         go_meet
         case rel => exact ⟨_, (wrap64 (x4_1 + 1)), rf, H', ⟨by have := HK1.out; have := HJ10.out; first | omega | exact Nat.le_refl _⟩, ⟨kr HO_3⟩, ⟨bk BK530⟩, ⟨bel⟩⟩
        ·
         have H' := Aside0.mk H
         clear H
         go_wp2
         go_meet
         case rel => exact ⟨_, (x4_1), rf, H', ⟨by have := HK1.out; have := HJ10.out; first | omega | exact Nat.le_refl _⟩, ⟨kr HO_3⟩, ⟨bk BK530⟩, ⟨bel⟩⟩
       case rest =>
        clear HC16
        obtain ⟨kq, x4_15, rfl, HA, HJ15, HO_3, BK530, HB⟩ := hcut
        cases kq with
        | zero => exact absurd HA.out (by simp [impl_SlotsOf.j2])
        | succ kj15 =>
         have H := HA.out
         clear HA
         simp only [impl_SlotsOf.j2] at H
         replace H := zc H
         rcases H with ⟨c18b0, H⟩ | ⟨c18b0, H⟩
         ·
          replace H := zl H
          obtain ⟨LMc19, H⟩ := H
          replace H := zy H
          obtain ⟨y534, Ny534, H⟩ := H
          replace H := zc H
          rcases H with ⟨c20b0, H⟩ | ⟨c20b0, H⟩
          ·
           replace H := zl H
           obtain ⟨LMc21, H⟩ := H
           generalize hy537 : (y534 ++ [(⟨x4_15, true, x14_1, t533⟩ : S132)] : List (S132)) = y537 at H
           have Ny537 := Aside0.mk hy537.symm
           clear hy537
           have H' := Aside0.mk H
           clear H
           go_wp2_with (first | ((with_reducible refine gate_builtin (b := .append) (xs := #[.tmp 33, .tmp 38]) rfl ?_); at_builtin; refine Kd.R_append k132 (w0 := w) w.heap.size rfl (.tmp 33) (.tmp 38) 110 132 (.agg #[(.int .i64 0), (.bool false), (.int .i64 0), (.int .i64 0)]) 32 rfl Tryz.underlying110 info132 rfl (by decide) (by omega) u3 x3_1 (⟨x4_15, false, x14_1, t532⟩ : S132) [.int .i64 x4_15, .bool false, .int .i64 x14_1, .int .i64 t532] (fun _ => True) (fun _ => False) rfl rfl ?aP (fun _ hk => hk.elim) ?aF ?aO ?aB ?aS ?aL ?_; (case aP => exact k132_mkM _ _ _ (⟨x4_15, false, x14_1, t532⟩ : S132)); (case aB => exact bel); (case aF => exact (fun _ _ => trivial)); (case aO => exact (kr HO_3)); (case aS => exact bsz); (case aL => have := LMc19.out; omega); intro v535 w22 ho hb hg hat; rw [← Ny534.out] at ho; replace BK530 := Aside0.mk (blk_grown (bk BK530) hg (Kd.R_ne HO_3.out BK530.out (by decide))); replace HB := Aside0.mk hb; have HO536 := Aside0.mk ho; clear HO_3; clear ho hb hg hat) | ((with_reducible refine gate_builtin (b := .append) (xs := #[.tmp 42, .tmp 47]) rfl ?_); at_builtin; refine Kd.R_append k132 (w0 := w) w.heap.size rfl (.tmp 42) (.tmp 47) 110 132 (.agg #[(.int .i64 0), (.bool false), (.int .i64 0), (.int .i64 0)]) 32 rfl Tryz.underlying110 info132 rfl (by decide) (by omega) v535 y534 (⟨x4_15, true, x14_1, t533⟩ : S132) [.int .i64 x4_15, .bool true, .int .i64 x14_1, .int .i64 t533] (fun _ => True) (fun _ => False) rfl rfl ?aP (fun _ hk => hk.elim) ?aF ?aO ?aB ?aS ?aL ?_; (case aP => exact k132_mkM _ _ _ (⟨x4_15, true, x14_1, t533⟩ : S132)); (case aB => exact bel); (case aF => exact (fun _ _ => trivial)); (case aO => exact (kr HO536)); (case aS => exact bsz); (case aL => have := LMc21.out; omega); intro v538 w23 ho hb hg hat; rw [← Ny537.out] at ho; replace BK530 := Aside0.mk (blk_grown (bk BK530) hg (Kd.R_ne HO536.out BK530.out (by decide))); replace HB := Aside0.mk hb; have HO539 := Aside0.mk ho; clear HO536; clear ho hb hg hat))
           go_roundg kj15
           case measure => have := HK1.out; have := HJ10.out; have := HJ15.out; omega
           case rel => exact ⟨(y537), (x4_15), (wrap64 (x14_1 + 1)), rf, rf, H', ⟨by have := HK1.out; have := HJ10.out; have := HJ15.out; omega⟩, ⟨kr HO539⟩, ⟨bk BK530⟩, ⟨bel⟩⟩
          ·
           have H' := Aside0.mk H
           clear H
           go_wp2_with (first | ((with_reducible refine gate_builtin (b := .append) (xs := #[.tmp 33, .tmp 38]) rfl ?_); at_builtin; refine Kd.R_append k132 (w0 := w) w.heap.size rfl (.tmp 33) (.tmp 38) 110 132 (.agg #[(.int .i64 0), (.bool false), (.int .i64 0), (.int .i64 0)]) 32 rfl Tryz.underlying110 info132 rfl (by decide) (by omega) u3 x3_1 (⟨x4_15, false, x14_1, t532⟩ : S132) [.int .i64 x4_15, .bool false, .int .i64 x14_1, .int .i64 t532] (fun _ => True) (fun _ => False) rfl rfl ?aP (fun _ hk => hk.elim) ?aF ?aO ?aB ?aS ?aL ?_; (case aP => exact k132_mkM _ _ _ (⟨x4_15, false, x14_1, t532⟩ : S132)); (case aB => exact bel); (case aF => exact (fun _ _ => trivial)); (case aO => exact (kr HO_3)); (case aS => exact bsz); (case aL => have := LMc19.out; omega); intro v535 w24 ho hb hg hat; rw [← Ny534.out] at ho; replace BK530 := Aside0.mk (blk_grown (bk BK530) hg (Kd.R_ne HO_3.out BK530.out (by decide))); replace HB := Aside0.mk hb; have HO536 := Aside0.mk ho; clear HO_3; clear ho hb hg hat))
           go_roundg kj15
           case measure => have := HK1.out; have := HJ10.out; have := HJ15.out; omega
           case rel => exact ⟨(y534), (x4_15), (wrap64 (x14_1 + 1)), rf, rf, H', ⟨by have := HK1.out; have := HJ10.out; have := HJ15.out; omega⟩, ⟨kr HO536⟩, ⟨bk BK530⟩, ⟨bel⟩⟩
         ·
          replace H := zc H
          rcases H with ⟨c25b0, H⟩ | ⟨c25b0, H⟩
          ·
           replace H := zl H
           obtain ⟨LMc26, H⟩ := H
           generalize hy540 : (x3_1 ++ [(⟨x4_15, true, x14_1, t533⟩ : S132)] : List (S132)) = y540 at H
           have Ny540 := Aside0.mk hy540.symm
           clear hy540
           have H' := Aside0.mk H
           clear H
           go_wp2_with (first | ((with_reducible refine gate_builtin (b := .append) (xs := #[.tmp 42, .tmp 47]) rfl ?_); at_builtin; refine Kd.R_append k132 (w0 := w) w.heap.size rfl (.tmp 42) (.tmp 47) 110 132 (.agg #[(.int .i64 0), (.bool false), (.int .i64 0), (.int .i64 0)]) 32 rfl Tryz.underlying110 info132 rfl (by decide) (by omega) u3 x3_1 (⟨x4_15, true, x14_1, t533⟩ : S132) [.int .i64 x4_15, .bool true, .int .i64 x14_1, .int .i64 t533] (fun _ => True) (fun _ => False) rfl rfl ?aP (fun _ hk => hk.elim) ?aF ?aO ?aB ?aS ?aL ?_; (case aP => exact k132_mkM _ _ _ (⟨x4_15, true, x14_1, t533⟩ : S132)); (case aB => exact bel); (case aF => exact (fun _ _ => trivial)); (case aO => exact (kr HO_3)); (case aS => exact bsz); (case aL => have := LMc26.out; omega); intro v541 w27 ho hb hg hat; rw [← Ny540.out] at ho; replace BK530 := Aside0.mk (blk_grown (bk BK530) hg (Kd.R_ne HO_3.out BK530.out (by decide))); replace HB := Aside0.mk hb; have HO542 := Aside0.mk ho; clear HO_3; clear ho hb hg hat))
           go_roundg kj15
           case measure => have := HK1.out; have := HJ10.out; have := HJ15.out; omega
           case rel => exact ⟨(y540), (x4_15), (wrap64 (x14_1 + 1)), rf, rf, H', ⟨by have := HK1.out; have := HJ10.out; have := HJ15.out; omega⟩, ⟨kr HO542⟩, ⟨bk BK530⟩, ⟨bel⟩⟩
          ·
           have H' := Aside0.mk H
           clear H
           go_wp2
           go_roundg kj15
           case measure => have := HK1.out; have := HJ10.out; have := HJ15.out; omega
           case rel => exact ⟨(x3_1), (x4_15), (wrap64 (x14_1 + 1)), rf, rf, H', ⟨by have := HK1.out; have := HJ10.out; have := HJ15.out; omega⟩, ⟨kr HO_3⟩, ⟨bk BK530⟩, ⟨bel⟩⟩
    ·
     obtain rfl := Option.some.inj H
     go_wp2
     go_ret
     exact ⟨_, er, kr HO_3, bel⟩
 ·
  obtain rfl := Option.some.inj H
  go_enter Tryz.func99, Tryz.ntmps99
  go_wp2_with (first | ((with_reducible refine zd 1 rfl ?_); refine zbx (w := w) #[.int .i64 a0_0, .int .i64 a0_1, .string a0_2] 32 ?_; intro gb530 hg w28 BK530 hb; have GW530 := zg (w := w) hg; replace HB := zB hb; clear hb hg; have ⟨_, _, _, _, _, _⟩ := cz3 BK530) | ((with_reducible refine zd 9 rfl ?_); refine zgl Tryz.func85 (impl_IsGrid.calls k a0_0 a0_1 a0_2 false _ A2.out) ?_; rintro e w30 ⟨rfl, hb⟩; refine ⟨_, rfl, ?_⟩; replace BK530 := zk BK530 hb; replace HB := zB hb))
  go_ret
  exact ⟨_, er, by first | exact Kd.R_nil _ _ _ _ _ | exact Kd.N_nil _ _ _ _ _ | exact Kd.V_nil _ _ _ _ _ | exact Kd.Q_nil _ _ _ _ _ | exact Kd.S_nil _ _ _ _ _, bel⟩

/-! ### impl_cells: function 140 -/
mutual
def impl_cells.j0 : Nat → Int → Int → Bool → Int → Int → Option (List Int)
 | 0, _, _, _, _, _ => none
 | k + 1, a, b, c, d, e => impl_cells.l0 k a ([] : List Int) e 0 b c d e
def impl_cells.l0 : Nat → Int → List Int → Int → Int → Int → Bool → Int → Int → Option (List Int)
 | 0, _, _, _, _, _, _, _, _ => none
 | k + 1, a, b, c, d, e, f, g, h => if d < c then (if b.length < 17592186044416 then (impl_cells.l0 k a (b ++ [wrap64 (g + (wrap64 (d * a)))]) c (wrap64 (d + 1)) e f g h) else (none)) else (some b)
end
def impl_cells.f (k : Nat) (a b : Int) (c : ByteArray) (d : Int) (e : Bool) (f g : Int) : Option (List Int) := if e = true then (impl_cells.j0 k b d e f g) else (impl_cells.j0 k 1 d e f g)
set_option maxHeartbeats 8000000 in
set_option maxRecDepth 100000 in
theorem impl_cells.calls (k : Nat) (a0_0 a0_1 : Int) (a0_2 : ByteArray) (a1_0 : Int) (a1_1 : Bool) (a1_2 a1_3 : Int) (r : List Int) (w : World) (H : impl_cells.f k a0_0 a0_1 a0_2 a1_0 a1_1 a1_2 a1_3 = some r) :
  Calls Tryz.prog 140 #[.agg #[.int .i64 a0_0, .int .i64 a0_1, .string a0_2], .agg #[.int .i64 a1_0, .bool a1_1, .int .i64 a1_2, .int .i64 a1_3]] w fun e w' => ∃ v0_ : Value, e = .returned (v0_) ∧ Kd.R (Kd.int .i64) 3 w' w.heap.size (fun _ => True) v0_ r ∧ Below w.heap.size w w' := by
 have hu32 := Tryz.underlying32
 have hu132 := Tryz.underlying132
 have HB := Aside0.mk (Below.refl w.heap.size w)
 unfold impl_cells.f at H
 have HC3 := Aside0.mk H
 clear H
 go_enter Tryz.func140, Tryz.ntmps140
 go_upto_if 9 with (first | ((with_reducible refine zd 2 rfl ?_); refine zbx (w := w) #[.int .i64 a0_0, .int .i64 a0_1, .string a0_2] 32 ?_; intro gb543 hg w4 BK543 hb; have GW543 := zg (w := w) hg; replace HB := zB hb; clear hb hg) | ((with_reducible refine zd 3 rfl ?_); refine zbx (w := w) #[.int .i64 a1_0, .bool a1_1, .int .i64 a1_2, .int .i64 a1_3] 132 ?_; intro gb544 hg w5 BK544 hb; have GW544 := zg (w := w) hg; replace HB := zB hb; have NB543_544 := zn hg BK543; have NB544_543 := zm hg BK543; replace BK543 := zk BK543 hb; clear hb hg; have hnb6 := NB544_543.out; have hnc6 := NB543_544.out; have ⟨_, _, _, _, _, _, _, _⟩ := cz4 BK544))
 (try simp only [Act.put, List.setIfInBounds_toArray, List.set_cons_zero, List.set_cons_succ])
 go_cut [5] (fun v5 wc => ∃ (kq : Nat) (x5_2 : Int), v5 = .int .i64 x5_2 ∧ Aside0 (impl_cells.j0 kq x5_2 a1_0 a1_1 a1_2 a1_3 = some r) ∧ Aside0 (kq ≤ k) ∧ Aside0 (wc.heap[gb543]? = some (.cells #[.int .i64 a0_0, .int .i64 a0_1, .string a0_2] 32 (0, 0))) ∧ Aside0 (wc.heap[gb544]? = some (.cells #[.int .i64 a1_0, .bool a1_1, .int .i64 a1_2, .int .i64 a1_3] 132 (0, 0))) ∧ Aside0 (Below w.heap.size w wc))
 case first =>
  have H := HC3.out
  clear HC3
  replace H := zb H
  rcases H with ⟨rfl, H⟩ | ⟨rfl, H⟩
  ·
   have H' := Aside0.mk H
   clear H
   have hnb9 := NB543_544.out
   have hnc9 := NB544_543.out
   have ⟨_, _, _, _, _, _⟩ := cz3 BK543
   go_wp2
   go_meet
   case rel => exact ⟨_, (a0_1), rf, H', ⟨by first | omega | exact Nat.le_refl _⟩, ⟨bk BK543⟩, ⟨bk BK544⟩, ⟨bel⟩⟩
  ·
   have H' := Aside0.mk H
   clear H
   go_wp2
   go_meet
   case rel => exact ⟨_, (1), rf, H', ⟨by first | omega | exact Nat.le_refl _⟩, ⟨bk BK543⟩, ⟨bk BK544⟩, ⟨bel⟩⟩
 case rest =>
  clear HC3
  obtain ⟨kq, x5_2, rfl, HA, HJ2, BK543, BK544, HB⟩ := hcut
  cases kq with
  | zero => exact absurd HA.out (by simp [impl_cells.j0])
  | succ kj2 =>
   have H := HA.out
   clear HA
   simp only [impl_cells.j0] at H
   have H' := Aside0.mk H
   clear H
   have hnb11 := NB544_543.out
   have hnc11 := NB543_544.out
   have ⟨_, _, _, _, _, _, _, _⟩ := cz4 BK544
   go_wp2
   go_loopg [6, 14] kj2 (fun kq v6 v14 w' => ∃ (x6_2 : List Int) (x14_2 : Int), v14 = .int .i64 x14_2 ∧ Aside0 (impl_cells.l0 kq x5_2 x6_2 a1_3 x14_2 a1_0 a1_1 a1_2 a1_3 = some r) ∧ Aside0 (kq ≤ kj2) ∧ Aside0 (Kd.R (Kd.int .i64) 3 w' w.heap.size (fun _ => True) v6 x6_2) ∧ Aside0 (w'.heap[gb543]? = some (.cells #[.int .i64 a0_0, .int .i64 a0_1, .string a0_2] 32 (0, 0))) ∧ Aside0 (w'.heap[gb544]? = some (.cells #[.int .i64 a1_0, .bool a1_1, .int .i64 a1_2, .int .i64 a1_3] 132 (0, 0))) ∧ Aside0 (Below w.heap.size w w'))
   case atStart => exact ⟨(([] : List Int)), (0), rf, H', ⟨Nat.le_refl _⟩, ⟨by first | exact Kd.R_nil _ _ _ _ _ | exact Kd.N_nil _ _ _ _ _ | exact Kd.V_nil _ _ _ _ _ | exact Kd.Q_nil _ _ _ _ _ | exact Kd.S_nil _ _ _ _ _⟩, ⟨bk BK543⟩, ⟨bk BK544⟩, ⟨bel⟩⟩
   case round =>
    clear H'
    obtain ⟨x6_2, x14_2, rfl, HA, HK2, HO_6, BK543, BK544, HB⟩ := hrel
    cases gk with
    | zero => exact absurd HA.out (by simp [impl_cells.l0])
    | succ k2 =>
     have H := HA.out
     clear HA
     simp only [impl_cells.l0] at H
     replace H := zc H
     rcases H with ⟨c13b0, H⟩ | ⟨c13b0, H⟩
     ·
      replace H := zl H
      obtain ⟨LMc14, H⟩ := H
      generalize hy545 : (x6_2 ++ [wrap64 (a1_2 + (wrap64 (x14_2 * x5_2)))] : List Int) = y545 at H
      have Ny545 := Aside0.mk hy545.symm
      clear hy545
      have H' := Aside0.mk H
      clear H
      have hnb15 := NB544_543.out
      have hnc15 := NB543_544.out
      have ⟨_, _, _, _, _, _, _, _⟩ := cz4 BK544
      go_wp2_with (first | ((with_reducible refine gate_builtin (b := .append) (xs := #[.tmp 17, .tmp 24]) rfl ?_); at_builtin; refine Kd.R_append (Kd.int .i64) (w0 := w) w.heap.size rfl (.tmp 17) (.tmp 24) 25 3 (.int .i64 0) 8 rfl Tryz.underlying25 info3 rfl (by decide) (by omega) u6 x6_2 (wrap64 (a1_2 + (wrap64 (x14_2 * x5_2)))) [.int .i64 (wrap64 (a1_2 + (wrap64 (x14_2 * x5_2))))] (fun _ => True) (fun _ => False) rfl rfl ?aP (fun _ hk => hk.elim) ?aF ?aO ?aB ?aS ?aL ?_; (case aP => exact rfl); (case aB => exact bel); (case aF => exact (fun _ _ => trivial)); (case aO => exact (kr HO_6)); (case aS => exact bsz); (case aL => have := LMc14.out; omega); intro v546 w17 ho hb hg hat; rw [← Ny545.out] at ho; replace BK543 := Aside0.mk (blk_grown (bk BK543) hg (Kd.R_ne HO_6.out BK543.out (by decide))); replace BK544 := Aside0.mk (blk_grown (bk BK544) hg (Kd.R_ne HO_6.out BK544.out (by decide))); replace HB := Aside0.mk hb; have HO547 := Aside0.mk ho; clear HO_6; clear ho hb hg hat))
      go_roundg k2
      case measure => have := HJ2.out; have := HK2.out; omega
      case rel => exact ⟨(y545), (wrap64 (x14_2 + 1)), rf, H', ⟨by have := HJ2.out; have := HK2.out; omega⟩, ⟨kr HO547⟩, ⟨bk BK543⟩, ⟨bk BK544⟩, ⟨bel⟩⟩
     ·
      obtain rfl := Option.some.inj H
      go_wp2
      go_ret
      exact ⟨_, er, kr HO_6, bel⟩

/-! ### impl_layout: function 116 -/
def impl_layout.l0 : Nat → List (List Int) → List (S132) → Int → Int → Int → Int → ByteArray → Option ((List (List Int)))
 | 0, _, _, _, _, _, _, _ => none
 | k + 1, a, b, c, d, e, f, g => if d < c then (if 0 ≤ d then (if d < (b.length : Int) then ((impl_cells.f k e f g ((rd_T132 b d).f0) ((rd_T132 b d).f1) ((rd_T132 b d).f2) ((rd_T132 b d).f3)).bind fun h => (if a.length < 5864062014805 then (impl_layout.l0 k (a ++ [h]) b c (wrap64 (d + 1)) e f g) else (none))) else (none)) else (none)) else (some a)
def impl_layout.f (k : Nat) (a b : Int) (c : ByteArray) : Option ((List (List Int))) := (impl_SlotsOf.f k a b c).bind fun d => (impl_layout.l0 k ([] : List (List Int)) d (d.length : Int) 0 a b c)
set_option maxHeartbeats 8000000 in
set_option maxRecDepth 100000 in
theorem impl_layout.calls (k : Nat) (a0_0 a0_1 : Int) (a0_2 : ByteArray) (r : List (List Int)) (w : World) (H : impl_layout.f k a0_0 a0_1 a0_2 = some r) :
  Calls Tryz.prog 116 #[.agg #[.int .i64 a0_0, .int .i64 a0_1, .string a0_2]] w fun e w' => ∃ v0_ : Value, e = .returned (v0_) ∧ Kd.S (Kd.slice 3 (Kd.int .i64)) 25 w' w.heap.size (fun _ => True) v0_ r ∧ Below w.heap.size w w' := by
 have hu32 := Tryz.underlying32
 have hu132 := Tryz.underlying132
 have HB := Aside0.mk (Below.refl w.heap.size w)
 unfold impl_layout.f at H
 replace H := zs H
 obtain ⟨t549, A2, H⟩ := H
 have H' := Aside0.mk H
 clear H
 go_enter Tryz.func116, Tryz.ntmps116
 go_wp2_with (first | ((with_reducible refine zd 1 rfl ?_); refine zbx (w := w) #[.int .i64 a0_0, .int .i64 a0_1, .string a0_2] 32 ?_; intro gb548 hg w3 BK548 hb; have GW548 := zg (w := w) hg; replace HB := zB hb; clear hb hg; have ⟨_, _, _, _, _, _⟩ := cz3 BK548) | ((with_reducible refine zd 7 rfl ?_); refine zgl Tryz.func99 (impl_SlotsOf.calls k a0_0 a0_1 a0_2 t549 _ A2.out) ?_; rintro e w5 ⟨v550, rfl, ho0, hb⟩; refine ⟨_, rfl, ?_⟩; have HO551 := zl2 ho0; replace BK548 := zk BK548 hb; replace HB := zB hb; obtain ⟨Ao6, co6, eo6⟩ := Kd.R_slice HO551.out; subst eo6))
 go_loopg [3, 9] k (fun kq v3 v9 w' => ∃ (x3_1 : List (List Int)) (x9_1 : Int), v9 = .int .i64 x9_1 ∧ Aside0 (impl_layout.l0 kq x3_1 t549 (t549.length : Int) x9_1 a0_0 a0_1 a0_2 = some r) ∧ Aside0 (kq ≤ k) ∧ Aside0 (Kd.S (Kd.slice 3 (Kd.int .i64)) 25 w' w.heap.size (fun _ => True) v3 x3_1) ∧ Aside0 (Kd.R k132 132 w' w.heap.size (fun _ => True) (.slice Ao6 t549.length co6) t549) ∧ Aside0 (w'.heap[gb548]? = some (.cells #[.int .i64 a0_0, .int .i64 a0_1, .string a0_2] 32 (0, 0))) ∧ Aside0 (Below w.heap.size w w'))
 case atStart => exact ⟨(([] : List (List Int))), (0), rf, H', ⟨Nat.le_refl _⟩, ⟨by first | exact Kd.S_nil _ _ _ _ _ | exact Kd.N_nil _ _ _ _ _ | exact Kd.V_nil _ _ _ _ _ | exact Kd.Q_nil _ _ _ _ _ | exact Kd.R_nil _ _ _ _ _⟩, ⟨kr HO551⟩, ⟨bk BK548⟩, ⟨bel⟩⟩
 case round =>
  clear H'
  obtain ⟨x3_1, x9_1, rfl, HA, HK1, HO_3, HO_7, BK548, HB⟩ := hrel
  cases gk with
  | zero => exact absurd HA.out (by simp [impl_layout.l0])
  | succ k1 =>
   have H := HA.out
   clear HA
   simp only [impl_layout.l0] at H
   replace H := zc H
   rcases H with ⟨c7b0, H⟩ | ⟨c7b0, H⟩
   ·
    replace H := zr H
    obtain ⟨c8b0, H⟩ := H
    replace H := zr H
    obtain ⟨c9b0, H⟩ := H
    replace H := zs H
    obtain ⟨t554, A10, H⟩ := H
    replace H := zl H
    obtain ⟨LMc11, H⟩ := H
    generalize hy557 : (x3_1 ++ [t554] : List (List Int)) = y557 at H
    have Ny557 := Aside0.mk hy557.symm
    clear hy557
    have H' := Aside0.mk H
    clear H
    obtain ⟨p552, q552, ad552, e552, hx552_0, hx552_1, hx552_2, hx552_3⟩ := zx (at_T132 (Kd.R_reads' HO_7.out).2.2 x9_1)
    cases e552
    go_wp2_with (first | ((with_reducible refine zd 5 rfl ?_); refine zbx (w := w) #[.int .i64 0, .bool false, .int .i64 0, .int .i64 0] 132 ?_; intro gb553 hg w12 BK553 hb; replace HO_3 := zS HO_3 hb; replace HO_7 := Aside0.mk (Kd.R_below (Kd.R_elderB (kr HO_7) gb553 (Nat.le_of_eq hg.symm)) hb); have GW553 := zg (w := w) hg; replace HB := zB hb; have NB548_553 := zn hg BK548; have NB553_548 := zm hg BK548; replace BK548 := zk BK548 hb; clear hb hg; have hnb13 := NB553_548.out; have hnc13 := NB548_553.out; have ⟨_, _, _, _, _, _, _, _⟩ := cz4 BK553; have ⟨_, _, _, _, _, _⟩ := cz3 BK548) | ((with_reducible refine zd 16 rfl ?_); refine zgl Tryz.func140 (impl_cells.calls k1 a0_0 a0_1 a0_2 ((rd_T132 t549 x9_1).f0) ((rd_T132 t549 x9_1).f1) ((rd_T132 t549 x9_1).f2) ((rd_T132 t549 x9_1).f3) t554 _ A10.out) ?_; rintro e w16 ⟨v555, rfl, ho0, hb⟩; refine ⟨_, rfl, ?_⟩; replace HO_3 := Aside0.mk (Kd.S_elder' (zSf HO_3 BK553) (Kd.R_base ho0) hb); replace HO_7 := Aside0.mk (Kd.R_below (by (with_reducible repeat (first | apply Kd.R_alloc | apply Kd.R_drewN | apply Kd.R_drew)); exact (Kd.R_mono (Kd.R_far (p := ⟨gb553, 3, none⟩) (Kd.R_far (p := ⟨gb553, 2, none⟩) (Kd.R_far (p := ⟨gb553, 1, none⟩) (Kd.R_far (p := ⟨gb553, 0, none⟩) (Kd.R_mono HO_7.out (fun k_ hk => (⟨hk, hk.2⟩ : _ ∧ k_ ≠ gb553))) (fun _ hk => hk.2) (.int .i64 ((rd_T132 t549 x9_1).f0))) (fun _ hk => hk.2) (.bool ((rd_T132 t549 x9_1).f1))) (fun _ hk => hk.2) (.int .i64 ((rd_T132 t549 x9_1).f2))) (fun _ hk => hk.2) (.int .i64 ((rd_T132 t549 x9_1).f3))) (fun _ h_ => h_.1))) hb); have HO556 := zl2 ho0; replace BK548 := zkf BK548 hb; replace BK553 := zkf BK553 hb; replace HB := zB hb; obtain ⟨Ao18, co18, eo18⟩ := Kd.R_slice HO556.out; subst eo18) | ((with_reducible refine gate_builtin (b := .append) (xs := #[.tmp 13, .tmp 17]) rfl ?_); at_builtin; refine Kd.S_append (Kd.slice 3 (Kd.int .i64)) (w0 := w) w.heap.size rfl (.tmp 13) (.tmp 17) 135 25 (.slice none 0 0) 24 rfl Tryz.underlying135 info25 rfl (by decide) (by omega) u3 x3_1 t554 [.slice Ao18 t554.length co18] (fun _ => True) (fun k_ => some k_ = (.slice Ao18 t554.length co18 : Value).ownBlock) rfl rfl ?aP (fun k_ hk_ => ((Kd.R_mono (ok' := fun k_ => ((fun _ => True)) k_ ∧ some k_ ≠ (u3 : Value).ownBlock) (Kd.R_apart' (HO556.out) (Kd.S_typed HO_3.out) (by decide)) (fun k_ hk => ⟨trivial, hk.2⟩))).1 k_ hk_.symm) ?aF ?aO ?aB ?aS ?aL ?_; (case aP => exact Kd.M_row (Kd.R_mono (Kd.R_tight rfl (Kd.R_mono (ok' := fun k_ => ((fun _ => True)) k_ ∧ some k_ ≠ (u3 : Value).ownBlock) (Kd.R_apart' (HO556.out) (Kd.S_typed HO_3.out) (by decide)) (fun k_ hk => ⟨trivial, hk.2⟩))) (fun _ h_ => h_))); (case aB => exact bel); (case aF => exact (fun _ _ => trivial)); (case aO => exact (by (with_reducible repeat (first | apply Kd.S_alloc | apply Kd.S_drewN | apply Kd.S_drew)); exact Kd.S_mono HO_3.out (fun k_ hk => ⟨trivial, fun e_ => hk.2 e_⟩))); (case aS => exact bsz); (case aL => have := LMc11.out; omega); intro v558 w17 ho hb hg hat; rw [← Ny557.out] at ho; replace HO_7 := Aside0.mk (Kd.R_over' (kr HO_7) (Kd.S_typed (ks HO_3)) (by decide) hg); replace BK548 := Aside0.mk (blk_grown (bk BK548) hg (Kd.S_ne HO_3.out BK548.out (by decide))); replace BK553 := Aside0.mk (blk_grown (bk BK553) hg (Kd.S_ne HO_3.out BK553.out (by decide))); replace HB := Aside0.mk hb; have HO559 := Aside0.mk ho; clear HO_3; clear HO556; clear ho hb hg hat))
    go_roundg k1
    case measure => have := HK1.out; omega
    case rel => exact ⟨(y557), (wrap64 (x9_1 + 1)), rf, H', ⟨by have := HK1.out; omega⟩, ⟨ks HO559⟩, ⟨by (with_reducible repeat (first | apply Kd.R_alloc | apply Kd.R_drewN | apply Kd.R_drew)); exact Kd.R_mono HO_7.out (fun _ hk => trivial)⟩, ⟨bk BK548⟩, ⟨bel⟩⟩
   ·
    obtain rfl := Option.some.inj H
    go_wp2
    go_ret
    exact ⟨_, er, ks HO_3, bel⟩

/-! ### impl_readCells: function 117 -/
def impl_readCells.l0 : Nat → ByteArray → List Int → List Int → Int → Int → Option (ByteArray)
 | 0, _, _, _, _, _ => none
 | k + 1, a, b, c, d, e => if e < d then (if 0 ≤ e then (if e < (c.length : Int) then (if 0 ≤ (rd c e) then (if (rd c e) < (a.size : Int) then (if b.length < 140737488355328 then (impl_readCells.l0 k a (b ++ [bt a (rd c e)]) c d (wrap64 (e + 1))) else (none)) else (none)) else (none)) else (none)) else (none)) else (some (strOfNums b))
def impl_readCells.f (k : Nat) (a : ByteArray) (b : List Int) : Option (ByteArray) := impl_readCells.l0 k a ([] : List Int) b (b.length : Int) 0
set_option maxHeartbeats 8000000 in
set_option maxRecDepth 100000 in
theorem impl_readCells.calls (k : Nat) (a0 : ByteArray) (A1 : Option Addr) (c1 : Nat) (l1 : List Int) (r : ByteArray) (w : World) (hr1 : Kd.C (Kd.int .i64) w A1 l1.length l1) (hc1 : l1.length ≤ c1) (H : impl_readCells.f k a0 l1 = some r) :
  Calls Tryz.prog 117 #[.string a0, .slice A1 l1.length c1] w fun e w' => e = .returned (.string r) ∧ Below w.heap.size w w' := by
 have HR1 := Aside0.mk hr1
 have HC1 := Aside0.mk hc1
 clear hr1 hc1
 have HB := Aside0.mk (Below.refl w.heap.size w)
 unfold impl_readCells.f at H
 have H' := Aside0.mk H
 clear H
 go_enter Tryz.func117, Tryz.ntmps117
 go_wp2
 go_loopg [5, 10] k (fun kq v5 v10 w' => ∃ (x5_1 : List Int) (x10_1 : Int), v10 = .int .i64 x10_1 ∧ Aside0 (impl_readCells.l0 kq a0 x5_1 l1 (l1.length : Int) x10_1 = some r) ∧ Aside0 (kq ≤ k) ∧ Aside0 (Kd.R (Kd.int .u8) 5 w' w.heap.size (fun _ => True) v5 x5_1) ∧ Aside0 (Below w.heap.size w w'))
 case atStart => exact ⟨(([] : List Int)), (0), rf, H', ⟨Nat.le_refl _⟩, ⟨by first | exact Kd.R_nil _ _ _ _ _ | exact Kd.N_nil _ _ _ _ _ | exact Kd.V_nil _ _ _ _ _ | exact Kd.Q_nil _ _ _ _ _ | exact Kd.S_nil _ _ _ _ _⟩, ⟨bel⟩⟩
 case round =>
  clear H'
  obtain ⟨x5_1, x10_1, rfl, HA, HK1, HO_5, HB⟩ := hrel
  cases gk with
  | zero => exact absurd HA.out (by simp [impl_readCells.l0])
  | succ k1 =>
   have H := HA.out
   clear HA
   simp only [impl_readCells.l0] at H
   replace H := zc H
   rcases H with ⟨c3b0, H⟩ | ⟨c3b0, H⟩
   ·
    replace H := zr H
    obtain ⟨c4b0, H⟩ := H
    replace H := zr H
    obtain ⟨c5b0, H⟩ := H
    replace H := zr H
    obtain ⟨c6b0, H⟩ := H
    replace H := zr H
    obtain ⟨c7b0, H⟩ := H
    replace H := zl H
    obtain ⟨LMc9, H⟩ := H
    generalize hy561 : (x5_1 ++ [bt a0 (rd l1 x10_1)] : List Int) = y561 at H
    have Ny561 := Aside0.mk hy561.symm
    clear hy561
    have H' := Aside0.mk H
    clear H
    obtain ⟨p560, q560, ad560, e560, hx560_0⟩ := zx (Kd.at_int HR1.out x10_1)
    cases e560
    replace hx560_0 := zh HB hx560_0
    obtain ⟨p8, q8, hx8⟩ := zxb a0 (rd l1 x10_1)
    go_wp2_with (first | ((with_reducible refine gate_builtin (b := .append) (xs := #[.tmp 14, .tmp 18]) rfl ?_); at_builtin; refine Kd.R_append (Kd.int .u8) (w0 := w) w.heap.size rfl (.tmp 14) (.tmp 18) 143 5 (.int .u8 0) 1 rfl Tryz.underlying143 info5 rfl (by decide) (by omega) u5 x5_1 (bt a0 (rd l1 x10_1)) [.int .u8 (bt a0 (rd l1 x10_1))] (fun _ => True) (fun _ => False) rfl rfl ?aP (fun _ hk => hk.elim) ?aF ?aO ?aB ?aS ?aL ?_; (case aP => exact rfl); (case aB => exact bel); (case aF => exact (fun _ _ => trivial)); (case aO => exact (kr HO_5)); (case aS => exact bsz); (case aL => have := LMc9.out; omega); intro v562 w10 ho hb hg hat; rw [← Ny561.out] at ho; replace HB := Aside0.mk hb; have HO563 := Aside0.mk ho; clear HO_5; clear ho hb hg hat))
    go_roundg k1
    case measure => have := HK1.out; omega
    case rel => exact ⟨(y561), (wrap64 (x10_1 + 1)), rf, H', ⟨by have := HK1.out; omega⟩, ⟨kr HO563⟩, ⟨bel⟩⟩
   ·
    obtain rfl := Option.some.inj H
    have hcv11 := own_string (P := Tryz.prog) Tryz.underlying143 Tryz.underlying5 Tryz.underlying9 (Kd.own_of_R HO_5.out)
    go_wp2
    go_ret
    exact ⟨er, bel⟩

/-! ### impl_patterns: function 90 -/
def impl_patterns.l0 : Nat → ByteArray → List ByteArray → List (List Int) → Int → Int → Option (List ByteArray)
 | 0, _, _, _, _, _ => none
 | k + 1, a, b, c, d, e => if e < d then (if 0 ≤ e then (if e < (c.length : Int) then ((impl_readCells.f k a (rd_L12 c e)).bind fun f => (if b.length < 8796093022208 then (impl_patterns.l0 k a (b ++ [f]) c d (wrap64 (e + 1))) else (none))) else (none)) else (none)) else (some b)
def impl_patterns.f (k : Nat) (a b : Int) (c d : ByteArray) : Option (List ByteArray) := (impl_IsFill.f k a b c d).bind fun e => (if e = true then ((impl_layout.f k a b c).bind fun f => (impl_patterns.l0 k d ([] : List ByteArray) f (f.length : Int) 0)) else (some ([] : List ByteArray)))
set_option maxHeartbeats 8000000 in
set_option maxRecDepth 100000 in
theorem impl_patterns.calls (k : Nat) (a0_0 a0_1 : Int) (a0_2 a1 : ByteArray) (r : List ByteArray) (w : World) (H : impl_patterns.f k a0_0 a0_1 a0_2 a1 = some r) :
  Calls Tryz.prog 90 #[.agg #[.int .i64 a0_0, .int .i64 a0_1, .string a0_2], .string a1] w fun e w' => ∃ v0_ : Value, e = .returned (v0_) ∧ Kd.R Kd.string 9 w' w.heap.size (fun _ => True) v0_ r ∧ Below w.heap.size w w' := by
 have hu32 := Tryz.underlying32
 have HB := Aside0.mk (Below.refl w.heap.size w)
 unfold impl_patterns.f at H
 replace H := zs H
 obtain ⟨t565, A3, H⟩ := H
 replace H := zb H
 rcases H with ⟨rfl, H⟩ | ⟨rfl, H⟩
 ·
  replace H := zs H
  obtain ⟨t566, A5, H⟩ := H
  have H' := Aside0.mk H
  clear H
  go_enter Tryz.func90, Tryz.ntmps90
  go_wp2_with (first | ((with_reducible refine zd 2 rfl ?_); refine zbx (w := w) #[.int .i64 a0_0, .int .i64 a0_1, .string a0_2] 32 ?_; intro gb564 hg w6 BK564 hb; have GW564 := zg (w := w) hg; replace HB := zB hb; clear hb hg; have ⟨_, _, _, _, _, _⟩ := cz3 BK564) | ((with_reducible refine zd 10 rfl ?_); refine zgl Tryz.func52 (impl_IsFill.calls k a0_0 a0_1 a0_2 a1 true _ A3.out) ?_; rintro e w8 ⟨rfl, hb⟩; refine ⟨_, rfl, ?_⟩; replace BK564 := zk BK564 hb; replace HB := zB hb; have ⟨_, _, _, _, _, _⟩ := cz3 BK564) | ((with_reducible refine zd 13 rfl ?_); refine zgl Tryz.func116 (impl_layout.calls k a0_0 a0_1 a0_2 t566 _ A5.out) ?_; rintro e w10 ⟨v567, rfl, ho0, hb⟩; refine ⟨_, rfl, ?_⟩; have HO568 := Aside0.mk (Kd.S_lower ho0 bsz); replace BK564 := zk BK564 hb; replace HB := zB hb; obtain ⟨Ao11, co11, eo11⟩ := Kd.S_slice HO568.out; subst eo11))
  go_loopg [5, 15] k (fun kq v5 v15 w' => ∃ (x5_1 : List ByteArray) (x15_1 : Int), v15 = .int .i64 x15_1 ∧ Aside0 (impl_patterns.l0 kq a1 x5_1 t566 (t566.length : Int) x15_1 = some r) ∧ Aside0 (kq ≤ k) ∧ Aside0 (Kd.R Kd.string 9 w' w.heap.size (fun _ => True) v5 x5_1) ∧ Aside0 (Kd.S (Kd.slice 3 (Kd.int .i64)) 25 w' w.heap.size (fun _ => True) (.slice Ao11 t566.length co11) t566) ∧ Aside0 (w'.heap[gb564]? = some (.cells #[.int .i64 a0_0, .int .i64 a0_1, .string a0_2] 32 (0, 0))) ∧ Aside0 (Below w.heap.size w w'))
  case atStart => exact ⟨(([] : List ByteArray)), (0), rf, H', ⟨Nat.le_refl _⟩, ⟨by first | exact Kd.R_nil _ _ _ _ _ | exact Kd.N_nil _ _ _ _ _ | exact Kd.V_nil _ _ _ _ _ | exact Kd.Q_nil _ _ _ _ _ | exact Kd.S_nil _ _ _ _ _⟩, ⟨ks HO568⟩, ⟨bk BK564⟩, ⟨bel⟩⟩
  case round =>
   clear H'
   obtain ⟨x5_1, x15_1, rfl, HA, HK1, HO_5, HO_13, BK564, HB⟩ := hrel
   cases gk with
   | zero => exact absurd HA.out (by simp [impl_patterns.l0])
   | succ k1 =>
    have H := HA.out
    clear HA
    simp only [impl_patterns.l0] at H
    replace H := zc H
    rcases H with ⟨c12b0, H⟩ | ⟨c12b0, H⟩
    ·
     replace H := zr H
     obtain ⟨c13b0, H⟩ := H
     replace H := zr H
     obtain ⟨c14b0, H⟩ := H
     replace H := zs H
     obtain ⟨t570, A15, H⟩ := H
     replace H := zl H
     obtain ⟨LMc16, H⟩ := H
     generalize hy571 : (x5_1 ++ [t570] : List ByteArray) = y571 at H
     have Ny571 := Aside0.mk hy571.symm
     clear hy571
     have H' := Aside0.mk H
     clear H
     have p569 : 0 ≤ (x15_1 : Int) := of_decide_eq_true asm
     have q569 : x15_1 < (t566.length : Int) := of_decide_eq_true asm
     obtain ⟨ad569, A569_0, c569_0, e569, hx569_0, hl569_0, hi569_0⟩ := at_L12 (Kd.S_reads' HO_13.out).2.2 x15_1 p569 q569
     cases e569
     obtain ⟨ce569, hce569, hMe569, hcc569⟩ := Kd.S_get HO_13.out [] x15_1 p569 (by first | exact q569 | exact of_decide_eq_true asm | (have e_ := (Kd.S_reads' HO_13.out).1; omega))
     obtain ⟨ve569_0, rfl, ge569_0⟩ := hMe569
     have hv569_0 := hcc569 0 _ rfl
     rw [Nat.add_zero, show ((Kd.slice 3 (Kd.int .i64))).sz = 1 from rfl, Nat.mul_one] at hv569_0
     replace hv569_0 := Option.some.inj (hv569_0.symm.trans hx569_0)
     rw [hv569_0] at ge569_0
     have HL569_0 := Aside0.mk (show Kd.R (Kd.int .i64) 3 _ _ _ _ (rd_L12 t566 x15_1) from ge569_0)
     clear hv569_0 ge569_0
     clear hcc569 hce569
     have HR569_0 := Aside0.mk hi569_0
     have HC569_0 := Aside0.mk hl569_0
     clear hi569_0 hl569_0
     replace p569 := eq_true p569
     replace q569 := eq_true q569
     go_wp2_with (first | ((with_reducible refine gate_callee (f := 117) rfl ?_); refine goesL_ (some 22) rfl rfl Tryz.func117 (by kernel_rfl) rfl #[.string a1, .slice A569_0 (rd_L12 t566 x15_1).length c569_0] rfl ga ?_; (with_reducible refine (impl_readCells.calls k1 a1 _ _ (rd_L12 t566 x15_1) t570 _ ?side1 ?side2 A15.out).mono ?_); (case side1 => repeat (first | exact (by repeat (first | (with_reducible exact HR569_0.out) | (with_reducible refine Kd.C_alloc ?_ _) | (with_reducible refine Kd.C_drewN ?_ _) | (with_reducible refine Kd.C_drew ?_) | exact HR569_0.out)) | (with_reducible refine Kd.C_alloc ?_ _) | (with_reducible refine Kd.C_drewN ?_ _) | (with_reducible refine Kd.C_drew ?_))); (case side2 => exact HC569_0.out); rintro e w17 ⟨rfl, hb⟩; refine ⟨_, rfl, ?_⟩; replace HO_5 := zR HO_5 hb; replace HO_13 := zS HO_13 hb; replace HL569_0 := Aside0.mk (Kd.R_below (kr HL569_0) hb); replace BK564 := zk BK564 hb; replace HR569_0 := Aside0.mk (Kd.C_below (by repeat (first | (with_reducible exact HR569_0.out) | (with_reducible refine Kd.C_alloc ?_ _) | (with_reducible refine Kd.C_drewN ?_ _) | (with_reducible refine Kd.C_drew ?_) | exact HR569_0.out)) hb); replace HB := zB hb) | ((with_reducible refine gate_builtin (b := .append) (xs := #[.tmp 19, .tmp 23]) rfl ?_); at_builtin; refine Kd.R_append Kd.string (w0 := w) w.heap.size rfl (.tmp 19) (.tmp 23) 114 9 (.string ⟨#[]⟩) 16 rfl Tryz.underlying114 info9 rfl (by decide) (by omega) u5 x5_1 t570 [.string t570] (fun _ => True) (fun _ => False) rfl rfl ?aP (fun _ hk => hk.elim) ?aF ?aO ?aB ?aS ?aL ?_; (case aP => exact rfl); (case aB => exact bel); (case aF => exact (fun _ _ => trivial)); (case aO => exact (kr HO_5)); (case aS => exact bsz); (case aL => have := LMc16.out; omega); intro v572 w18 ho hb hg hat; rw [← Ny571.out] at ho; replace HO_13 := Aside0.mk (Kd.S_over' (ks HO_13) (Kd.R_typed (kr HO_5)) (by decide) hg); replace BK564 := Aside0.mk (blk_grown (bk BK564) hg (Kd.R_ne HO_5.out BK564.out (by decide))); replace HL569_0 := Aside0.mk (Kd.R_over' (kr HL569_0) (Kd.R_typed (kr HO_5)) (by decide) hg); replace HB := Aside0.mk hb; have HO573 := Aside0.mk ho; clear HO_5; clear ho hb hg hat))
     go_roundg k1
     case measure => have := HK1.out; omega
     case rel => exact ⟨(y571), (wrap64 (x15_1 + 1)), rf, H', ⟨by have := HK1.out; omega⟩, ⟨kr HO573⟩, ⟨ks HO_13⟩, ⟨bk BK564⟩, ⟨bel⟩⟩
    ·
     obtain rfl := Option.some.inj H
     go_wp2
     go_ret
     exact ⟨_, er, kr HO_5, bel⟩
 ·
  obtain rfl := Option.some.inj H
  go_enter Tryz.func90, Tryz.ntmps90
  go_wp2_with (first | ((with_reducible refine zd 2 rfl ?_); refine zbx (w := w) #[.int .i64 a0_0, .int .i64 a0_1, .string a0_2] 32 ?_; intro gb564 hg w19 BK564 hb; have GW564 := zg (w := w) hg; replace HB := zB hb; clear hb hg; have ⟨_, _, _, _, _, _⟩ := cz3 BK564) | ((with_reducible refine zd 10 rfl ?_); refine zgl Tryz.func52 (impl_IsFill.calls k a0_0 a0_1 a0_2 a1 false _ A3.out) ?_; rintro e w21 ⟨rfl, hb⟩; refine ⟨_, rfl, ?_⟩; replace BK564 := zk BK564 hb; replace HB := zB hb))
  go_ret
  exact ⟨_, er, by first | exact Kd.R_nil _ _ _ _ _ | exact Kd.N_nil _ _ _ _ _ | exact Kd.V_nil _ _ _ _ _ | exact Kd.Q_nil _ _ _ _ _ | exact Kd.S_nil _ _ _ _ _, bel⟩

/-! ### impl_at: function 118 -/
def impl_at.f (a b : Int) : Option (Bool) := if a ≥ 0 then (some (decide (a < b))) else (some false)
set_option maxHeartbeats 8000000 in
set_option maxRecDepth 100000 in
theorem impl_at.calls (a0 a1 : Int) (r : Bool) (w : World) (H : impl_at.f a0 a1 = some r) :
  Calls Tryz.prog 118 #[.int .i64 a0, .int .i64 a1] w fun e w' => e = .returned (.bool r) ∧ Drawn0 w w' := by
 unfold impl_at.f at H
 replace H := zc H
 rcases H with ⟨c3b0, H⟩ | ⟨c3b0, H⟩
 rotate_left
 focus
  obtain rfl := Option.some.inj H
 rotate_right
 focus
  obtain rfl := Option.some.inj H
 all_goals
  go_enter Tryz.func118, Tryz.ntmps118
  go_wp2
  go_ret
  exact ⟨by first | rfl | (simp; done) | (simp [*]; done), by repeat (first | exact Drawn0.refl _ | apply Drawn0.step)⟩

/-! ### impl_IsWord: function 119 -/
def impl_IsWord.l0 : Nat → ByteArray → Int → Int → Option (Bool)
 | 0, _, _, _ => none
 | k + 1, a, b, c => if c < b then (if 0 ≤ c then (if c < (a.size : Int) then ((impl_isLetter.f (bt a c)).bind fun d => (if d = true then (impl_IsWord.l0 k a b (wrap64 (c + 1))) else (some false))) else (none)) else (none)) else (some true)
def impl_IsWord.f (k : Nat) (a : ByteArray) : Option (Bool) := (impl_InRange.f (a.size : Int) 1 8).bind fun b => (if b = true then (impl_IsWord.l0 k a (a.size : Int) 0) else (some false))
set_option maxHeartbeats 8000000 in
set_option maxRecDepth 100000 in
theorem impl_IsWord.calls (k : Nat) (a0 : ByteArray) (r : Bool) (w : World) (H : impl_IsWord.f k a0 = some r) :
  Calls Tryz.prog 119 #[.string a0] w fun e w' => e = .returned (.bool r) ∧ Drawn0 w w' := by
 unfold impl_IsWord.f at H
 replace H := zs H
 obtain ⟨t574, A2, H⟩ := H
 replace H := zb H
 rcases H with ⟨rfl, H⟩ | ⟨rfl, H⟩
 ·
  have H' := Aside0.mk H
  clear H
  go_enter Tryz.func119, Tryz.ntmps119
  go_wp2_with (first | ((with_reducible refine zd 6 rfl ?_); refine zgl Tryz.func47 (impl_InRange.calls (a0.size : Int) 1 8 true _ A2.out) ?_; rintro e w' ⟨rfl, ⟨nd, rfl⟩⟩; refine ⟨_, rfl, ?_⟩))
  go_loopg [10] k (fun kq v10 w' => ∃ (x10_1 : Int), v10 = .int .i64 x10_1 ∧ Aside0 (impl_IsWord.l0 kq a0 (a0.size : Int) x10_1 = some r) ∧ Aside0 (kq ≤ k) ∧ Drawn0 w w')
  case atStart => exact ⟨(0), rf, H', ⟨Nat.le_refl _⟩, by repeat (first | exact Drawn0.refl _ | apply Drawn0.step)⟩
  case round =>
   clear H'
   obtain ⟨x10_1, rfl, HA, HK1, ⟨m1, rfl⟩⟩ := hrel
   cases gk with
   | zero => exact absurd HA.out (by simp [impl_IsWord.l0])
   | succ k1 =>
    have H := HA.out
    clear HA
    simp only [impl_IsWord.l0] at H
    replace H := zc H
    rcases H with ⟨c4b0, H⟩ | ⟨c4b0, H⟩
    ·
     replace H := zr H
     obtain ⟨c5b0, H⟩ := H
     replace H := zr H
     obtain ⟨c6b0, H⟩ := H
     replace H := zs H
     obtain ⟨t575, A8, H⟩ := H
     replace H := zb H
     rcases H with ⟨rfl, H⟩ | ⟨rfl, H⟩
     ·
      have H' := Aside0.mk H
      clear H
      obtain ⟨p7, q7, hx7⟩ := zxb a0 x10_1
      go_wp2_with (first | ((with_reducible refine zd 16 rfl ?_); refine zgl Tryz.func86 (impl_isLetter.calls (bt a0 x10_1) true _ A8.out) ?_; rintro e w' ⟨rfl, ⟨nd, rfl⟩⟩; refine ⟨_, rfl, ?_⟩))
      go_roundg k1
      case measure => have := HK1.out; omega
      case rel => exact ⟨(wrap64 (x10_1 + 1)), rf, H', ⟨by have := HK1.out; omega⟩, by repeat (first | exact Drawn0.refl _ | apply Drawn0.step)⟩
     ·
      obtain rfl := Option.some.inj H
      obtain ⟨p7, q7, hx7⟩ := zxb a0 x10_1
      go_wp2_with (first | ((with_reducible refine zd 16 rfl ?_); refine zgl Tryz.func86 (impl_isLetter.calls (bt a0 x10_1) false _ A8.out) ?_; rintro e w' ⟨rfl, ⟨nd, rfl⟩⟩; refine ⟨_, rfl, ?_⟩))
      go_ret
      exact ⟨by first | rfl | (simp; done) | (simp [*]; done), by repeat (first | exact Drawn0.refl _ | apply Drawn0.step)⟩
    ·
     obtain rfl := Option.some.inj H
     go_wp2
     go_ret
     exact ⟨by first | rfl | (simp; done) | (simp [*]; done), by repeat (first | exact Drawn0.refl _ | apply Drawn0.step)⟩
 ·
  obtain rfl := Option.some.inj H
  go_enter Tryz.func119, Tryz.ntmps119
  go_wp2_with (first | ((with_reducible refine zd 6 rfl ?_); refine zgl Tryz.func47 (impl_InRange.calls (a0.size : Int) 1 8 false _ A2.out) ?_; rintro e w' ⟨rfl, ⟨nd, rfl⟩⟩; refine ⟨_, rfl, ?_⟩))
  go_ret
  exact ⟨by first | rfl | (simp; done) | (simp [*]; done), by repeat (first | exact Drawn0.refl _ | apply Drawn0.step)⟩

/-! ### impl_Mod: function 169 -/
def impl_Mod.f (a b : Int) : Option (Int) := (impl_InRange.f b 1 1000000000000).bind fun c => (if c = true then (if b = 0 then (none) else (some (Int.tmod (wrap64 ((Int.tmod a b) + b)) b))) else (some 0))
set_option maxHeartbeats 8000000 in
set_option maxRecDepth 100000 in
theorem impl_Mod.calls (a0 a1 r : Int) (w : World) (H : impl_Mod.f a0 a1 = some r) :
  Calls Tryz.prog 169 #[.int .i64 a0, .int .i64 a1] w fun e w' => e = .returned (.int .i64 r) ∧ Drawn0 w w' := by
 unfold impl_Mod.f at H
 replace H := zs H
 obtain ⟨t576, A3, H⟩ := H
 replace H := zb H
 rcases H with ⟨rfl, H⟩ | ⟨rfl, H⟩
 rotate_left
 focus
  obtain rfl := Option.some.inj H
 rotate_right
 focus
  by_cases c5 : a1 = 0
  rotate_left
  focus
   rw [if_neg c5] at H
   have c5b0 : (a1 == 0) = false := beq_eq_false_iff_ne.mpr c5
   have c5b1 : (a1 != 0) = true := bne_iff_ne.mpr c5
   obtain rfl := Option.some.inj H
  rotate_right
  focus
   rw [if_pos c5] at H
   exact absurd H (by simp)
 all_goals
  go_enter Tryz.func169, Tryz.ntmps169
  go_wp2_with (first | ((with_reducible refine zd 6 rfl ?_); refine zgl Tryz.func47 (impl_InRange.calls a1 1 1000000000000 _ _ A3.out) ?_; rintro e w' ⟨rfl, ⟨nd, rfl⟩⟩; refine ⟨_, rfl, ?_⟩))
  go_ret
  exact ⟨by first | rfl | (simp; done) | (simp [*]; done), by repeat (first | exact Drawn0.refl _ | apply Drawn0.step)⟩

end Go.Proofs.YtpcdfjcbjbkliaaGreat.E
