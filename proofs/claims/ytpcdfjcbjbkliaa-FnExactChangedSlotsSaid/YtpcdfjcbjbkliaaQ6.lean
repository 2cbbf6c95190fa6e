import Derived.Test.YtpcdfjcbjbkliaaSq
import Derived.Test.YtpcdfjcbjbkliaaQ0
import Derived.Test.YtpcdfjcbjbkliaaQ1
import Derived.Test.YtpcdfjcbjbkliaaQ5
namespace Go.Proofs.Ytpcdfjcbjbkliaa.E
open Go.RowKit Go.Proofs.YtpcdfjcbjbkliaaW.PrintWords Go.Proofs.YtpcdfjcbjbkliaaW.PrintLast Go.Proofs.YtpcdfjcbjbkliaaW.PrintMore
attribute [local go_sem] max2_int min2_int max_two min_two max_three min_three max_four min_four
set_option linter.unusedVariables false
set_option linter.unusedSimpArgs false

attribute [local go_sem high] eqA30
/-! ### spec_SlotsOf: function 50 -/
mutual
def spec_SlotsOf.l0 : Nat → List (S79) → Int → Int → Int → Int → ByteArray → Option ((List (S79)))
 | 0, _, _, _, _, _, _ => none
 | k + 1, x3, x4, x5, x130000, x130001, x130002 => if x5 < (x130002.size : Int) then ((spec_IsGrid.f k x130000 x130001 x130002).bind fun t133 => (spec_SlotsOf.j1 k x3 x4 x5 t133 x130000 x130001 x130002)) else (spec_SlotsOf.j1 k x3 x4 x5 false x130000 x130001 x130002)
def spec_SlotsOf.j1 : Nat → List (S79) → Int → Int → Bool → Int → Int → ByteArray → Option ((List (S79)))
 | 0, _, _, _, _, _, _, _ => none
 | k + 1, x3, x4, x5, x17, x130000, x130001, x130002 => if x17 = true then ((spec_l8From.f k x130000 x130001 x130002 x5 false).bind fun t134 => ((spec_l8From.f k x130000 x130001 x130002 x5 true).bind fun t135 => (if t134 ≥ 2 then (spec_SlotsOf.j2 k x3 x4 x5 t134 t135 true x130000 x130001 x130002) else (spec_SlotsOf.j2 k x3 x4 x5 t134 t135 (decide (t135 ≥ 2)) x130000 x130001 x130002)))) else (some x3)
def spec_SlotsOf.j2 : Nat → List (S79) → Int → Int → Int → Int → Bool → Int → Int → ByteArray → Option ((List (S79)))
 | 0, _, _, _, _, _, _, _, _, _ => none
 | k + 1, x3, x4, x5, x6, x7, x31, x130000, x130001, x130002 => if x31 = true then (spec_SlotsOf.j3 k x3 (wrap64 (x4 + 1)) x5 x6 x7 x130000 x130001 x130002) else (spec_SlotsOf.j3 k x3 x4 x5 x6 x7 x130000 x130001 x130002)
def spec_SlotsOf.j3 : Nat → List (S79) → Int → Int → Int → Int → Int → Int → ByteArray → Option ((List (S79)))
 | 0, _, _, _, _, _, _, _, _ => none
 | k + 1, x3, x4, x5, x6, x7, x130000, x130001, x130002 => if x6 ≥ 2 then (if x3.length < 4398046511104 then ((some (x3 ++ [(⟨x4, false, x5, x6⟩ : S79)] : List (S79))).bind fun y136 => (if x7 ≥ 2 then (if y136.length < 4398046511104 then (spec_SlotsOf.l0 k (y136 ++ [(⟨x4, true, x5, x7⟩ : S79)]) x4 (wrap64 (x5 + 1)) x130000 x130001 x130002) else (none)) else (spec_SlotsOf.l0 k y136 x4 (wrap64 (x5 + 1)) x130000 x130001 x130002))) else (none)) else (if x7 ≥ 2 then (if x3.length < 4398046511104 then (spec_SlotsOf.l0 k (x3 ++ [(⟨x4, true, x5, x7⟩ : S79)]) x4 (wrap64 (x5 + 1)) x130000 x130001 x130002) else (none)) else (spec_SlotsOf.l0 k x3 x4 (wrap64 (x5 + 1)) x130000 x130001 x130002))
end
def spec_SlotsOf.f (k : Nat) (a0_0 : Int) (a0_1 : Int) (a0_2 : ByteArray) : Option ((List (S79))) := spec_SlotsOf.l0 k (([] : List (S79))) 0 0 a0_0 a0_1 a0_2
set_option maxHeartbeats 8000000 in
set_option maxRecDepth 100000 in
theorem spec_SlotsOf.calls (k : Nat) (a0_0 : Int) (a0_1 : Int) (a0_2 : ByteArray) (r : List (S79)) (w : World) (H : spec_SlotsOf.f k a0_0 a0_1 a0_2 = some r) :
  Calls Try.prog 50 #[.agg #[.int .i64 a0_0, .int .i64 a0_1, .string a0_2]] w fun e w' => ∃ v0_ : Value, e = .returned (v0_) ∧ Kd.R k79 79 w' w.heap.size (fun _ => True) v0_ r ∧ Below w.heap.size w w' := by
 have hu30 := Try.underlying30
 have hu79 := Try.underlying79
 have HB := Aside0.mk (Below.refl w.heap.size w)
 unfold spec_SlotsOf.f at H
 generalize hy130 : (([] : List (S79)) : List (S79)) = y130 at H
 have Ny130 := Aside0.mk hy130.symm
 clear hy130
 have H' := Aside0.mk H
 clear H
 go_enter Try.func50, Try.ntmps50
 go_wp2_with (first | ((with_reducible refine zd 1 rfl ?_); refine zbx (w := w) #[.int .i64 a0_0, .int .i64 a0_1, .string a0_2] 30 ?_; intro gb129 hg w2 BK129 hb; have GW129 := zg (w := w) hg; replace HB := zB hb; clear hb hg) | ((with_reducible refine gate_dst (N := 8) rfl ?_); refine Kd.R_lit k79 _ 79 ?hg (N := 8) ?hd (xs := ([] : List (S79))) (inner := []) (ok := fun _ => True) (okp := fun _ => True) ?hr ?hp (fun _ hk => hk) trivial (Below.refl _ _) (Nat.le_refl _) (by simp) ?_; (case hd => rfl); (case hg => rfl); (case hr => first | (go_simp; done) | (go_simp; rfl)); (case hp => exact (Reps.none _ _)); intro v131 w3 ho4 hb hg_ hnew_; clear hg_ hnew_; (first | rw [← Ny130.out] at ho4 | (simp only [Int.reduceToNat] at ho4; rw [← Ny130.out] at ho4)); have HO132 := zl2 ho4; replace BK129 := zk BK129 hb; replace HB := zB hb; clear hb ho4))
 go_loopg [3, 4, 5] k (fun kq v3 v4 v5 w' => ∃ (x3_1 : List (S79)) (x4_1 : Int) (x5_1 : Int), v4 = .int .i64 x4_1 ∧ v5 = .int .i64 x5_1 ∧ Aside0 (spec_SlotsOf.l0 kq x3_1 x4_1 x5_1 a0_0 a0_1 a0_2 = some r) ∧ Aside0 (kq ≤ k) ∧ Aside0 (Kd.R k79 79 w' w.heap.size (fun _ => True) v3 x3_1) ∧ Aside0 (w'.heap[gb129]? = some (.cells #[.int .i64 a0_0, .int .i64 a0_1, .string a0_2] 30 (0, 0))) ∧ Aside0 (Below w.heap.size w w'))
 case atStart => exact ⟨(y130), (0), (0), rf, rf, H', ⟨Nat.le_refl _⟩, ⟨kr HO132⟩, ⟨bk BK129⟩, ⟨bel⟩⟩
 case round =>
  clear H'
  obtain ⟨x3_1, x4_1, x5_1, rfl, rfl, HA, HK1, HO_3, BK129, HB⟩ := hrel
  cases gk with
  | zero => exact absurd HA.out (by simp [spec_SlotsOf.l0])
  | succ k1 =>
   have H := HA.out
   clear HA
   simp only [spec_SlotsOf.l0] at H
   have HC5 := Aside0.mk H
   clear H
   go_upto_region 4 with (fail)
   go_cut [17] (fun v17 wc => ∃ (kq : Nat) (x17_4 : Bool), v17 = .bool x17_4 ∧ Aside0 (spec_SlotsOf.j1 kq x3_1 x4_1 x5_1 x17_4 a0_0 a0_1 a0_2 = some r) ∧ Aside0 (kq ≤ k1) ∧ Aside0 (Kd.R k79 79 wc w.heap.size (fun _ => True) u3 x3_1) ∧ Aside0 (wc.heap[gb129]? = some (.cells #[.int .i64 a0_0, .int .i64 a0_1, .string a0_2] 30 (0, 0))) ∧ Aside0 (Below w.heap.size w wc))
   case first =>
    have H := HC5.out
    clear HC5
    replace H := zc H
    rcases H with ⟨c6b0, H⟩ | ⟨c6b0, H⟩
    ·
     (first | rw [c6b0] | (simp only [i64_w, i32_w]; rw [c6b0]) | skip)
     replace H := zs H
     obtain ⟨t133, A7, H⟩ := H
     have H' := Aside0.mk H
     clear H
     have ⟨_, _, _, _, _, _⟩ := cz3 BK129
     go_wp2_with (first | (go_at_call 77; (with_reducible refine (spec_IsGrid.calls k1 a0_0 a0_1 a0_2 t133 _ A7.out).mono ?_); rintro e w9 ⟨rfl, hb⟩; replace HO_3 := zR HO_3 hb; replace BK129 := zk BK129 hb; replace HB := zB hb))
     go_meet
     case rel => exact ⟨_, (t133), rf, H', ⟨by have := HK1.out; first | omega | exact Nat.le_refl _⟩, ⟨kr HO_3⟩, ⟨bk BK129⟩, ⟨bel⟩⟩
    ·
     (first | rw [c6b0] | (simp only [i64_w, i32_w]; rw [c6b0]) | skip)
     have H' := Aside0.mk H
     clear H
     have ⟨_, _, _, _, _, _⟩ := cz3 BK129
     go_wp2
     go_meet
     case rel => exact ⟨_, (false), rf, H', ⟨by have := HK1.out; first | omega | exact Nat.le_refl _⟩, ⟨kr HO_3⟩, ⟨bk BK129⟩, ⟨bel⟩⟩
   case rest =>
    clear HC5
    obtain ⟨kq, x17_4, rfl, HA, HJ4, HO_3, BK129, HB⟩ := hcut
    cases kq with
    | zero => exact absurd HA.out (by simp [spec_SlotsOf.j1])
    | succ kj4 =>
     have H := HA.out
     clear HA
     simp only [spec_SlotsOf.j1] at H
     replace H := zb H
     rcases H with ⟨rfl, H⟩ | ⟨rfl, H⟩
     ·
      replace H := zs H
      obtain ⟨t134, A12, H⟩ := H
      replace H := zs H
      obtain ⟨t135, A13, H⟩ := H
      have HC14 := Aside0.mk H
      clear H
      have ⟨_, _, _, _, _, _⟩ := cz3 BK129
      go_upto_region 8 with (first | ((with_reducible refine zd 22 rfl ?_); refine zgl Try.func78 (spec_l8From.calls kj4 a0_0 a0_1 a0_2 x5_1 false t134 _ A12.out) ?_; rintro e w16 ⟨rfl, hb⟩; refine ⟨_, rfl, ?_⟩; replace HO_3 := zR HO_3 hb; replace BK129 := zk BK129 hb; replace HB := zB hb; have ⟨_, _, _, _, _, _⟩ := cz3 BK129) | ((with_reducible refine zd 25 rfl ?_); refine zgl Try.func78 (spec_l8From.calls kj4 a0_0 a0_1 a0_2 x5_1 true t135 _ A13.out) ?_; rintro e w18 ⟨rfl, hb⟩; refine ⟨_, rfl, ?_⟩; replace HO_3 := zR HO_3 hb; replace BK129 := zk BK129 hb; replace HB := zB hb))
      (try simp only [Act.put, List.setIfInBounds_toArray, List.set_cons_zero, List.set_cons_succ])
      go_cut [31] (fun v31 wc => ∃ (kq : Nat) (x31_13 : Bool), v31 = .bool x31_13 ∧ Aside0 (spec_SlotsOf.j2 kq x3_1 x4_1 x5_1 t134 t135 x31_13 a0_0 a0_1 a0_2 = some r) ∧ Aside0 (kq ≤ kj4) ∧ Aside0 (Kd.R k79 79 wc w.heap.size (fun _ => True) u3 x3_1) ∧ Aside0 (wc.heap[gb129]? = some (.cells #[.int .i64 a0_0, .int .i64 a0_1, .string a0_2] 30 (0, 0))) ∧ Aside0 (Below w.heap.size w wc))
      case first =>
       have H := HC14.out
       clear HC14
       replace H := zc H
       rcases H with ⟨c19b0, H⟩ | ⟨c19b0, H⟩
       ·
        (first | rw [c19b0] | (simp only [i64_w, i32_w]; rw [c19b0]) | skip)
        have H' := Aside0.mk H
        clear H
        go_wp2
        go_meet
        case rel => exact ⟨_, (true), rf, H', ⟨by have := HK1.out; have := HJ4.out; first | omega | exact Nat.le_refl _⟩, ⟨kr HO_3⟩, ⟨bk BK129⟩, ⟨bel⟩⟩
       ·
        (first | rw [c19b0] | (simp only [i64_w, i32_w]; rw [c19b0]) | skip)
        have H' := Aside0.mk H
        clear H
        go_wp2
        go_meet
        case rel => exact ⟨_, (decide (t135 ≥ 2)), rf, H', ⟨by have := HK1.out; have := HJ4.out; first | omega | exact Nat.le_refl _⟩, ⟨kr HO_3⟩, ⟨bk BK129⟩, ⟨bel⟩⟩
      case rest =>
       clear HC14
       obtain ⟨kq, x31_13, rfl, HA, HJ13, HO_3, BK129, HB⟩ := hcut
       cases kq with
       | zero => exact absurd HA.out (by simp [spec_SlotsOf.j2])
       | succ kj13 =>
        have H := HA.out
        clear HA
        simp only [spec_SlotsOf.j2] at H
        have HC20 := Aside0.mk H
        clear H
        go_upto_if 31 with (fail)
        go_cut [4] (fun v4 wc => ∃ (kq : Nat) (x4_19 : Int), v4 = .int .i64 x4_19 ∧ Aside0 (spec_SlotsOf.j3 kq x3_1 x4_19 x5_1 t134 t135 a0_0 a0_1 a0_2 = some r) ∧ Aside0 (kq ≤ kj13) ∧ Aside0 (Kd.R k79 79 wc w.heap.size (fun _ => True) u3 x3_1) ∧ Aside0 (wc.heap[gb129]? = some (.cells #[.int .i64 a0_0, .int .i64 a0_1, .string a0_2] 30 (0, 0))) ∧ Aside0 (Below w.heap.size w wc))
        case first =>
         have H := HC20.out
         clear HC20
         replace H := zb H
         rcases H with ⟨rfl, H⟩ | ⟨rfl, H⟩
         ·
          have H' := Aside0.mk H
          clear H
          go_wp2
          go_meet
          case rel => exact ⟨_, (wrap64 (x4_1 + 1)), rf, H', ⟨by have := HK1.out; have := HJ4.out; have := HJ13.out; first | omega | exact Nat.le_refl _⟩, ⟨kr HO_3⟩, ⟨bk BK129⟩, ⟨bel⟩⟩
         ·
          have H' := Aside0.mk H
          clear H
          go_wp2
          go_meet
          case rel => exact ⟨_, (x4_1), rf, H', ⟨by have := HK1.out; have := HJ4.out; have := HJ13.out; first | omega | exact Nat.le_refl _⟩, ⟨kr HO_3⟩, ⟨bk BK129⟩, ⟨bel⟩⟩
        case rest =>
         clear HC20
         obtain ⟨kq, x4_19, rfl, HA, HJ19, HO_3, BK129, HB⟩ := hcut
         cases kq with
         | zero => exact absurd HA.out (by simp [spec_SlotsOf.j3])
         | succ kj19 =>
          have H := HA.out
          clear HA
          simp only [spec_SlotsOf.j3] at H
          replace H := zc H
          rcases H with ⟨c22b0, H⟩ | ⟨c22b0, H⟩
          ·
           replace H := zl H
           obtain ⟨LMc23, H⟩ := H
           replace H := zy H
           obtain ⟨y136, Ny136, H⟩ := H
           replace H := zc H
           rcases H with ⟨c24b0, H⟩ | ⟨c24b0, H⟩
           ·
            replace H := zl H
            obtain ⟨LMc25, H⟩ := H
            generalize hy139 : (y136 ++ [(⟨x4_19, true, x5_1, t135⟩ : S79)] : List (S79)) = y139 at H
            have Ny139 := Aside0.mk hy139.symm
            clear hy139
            have H' := Aside0.mk H
            clear H
            go_wp2_with (first | ((with_reducible refine gate_builtin (b := .append) (xs := #[.tmp 36, .tmp 41]) rfl ?_); at_builtin; refine Kd.R_append k79 (w0 := w) w.heap.size rfl (.tmp 36) (.tmp 41) 75 79 (.agg #[(.int .i64 0), (.bool false), (.int .i64 0), (.int .i64 0)]) 32 rfl Try.underlying75 info79 rfl (by decide) (by omega) u3 x3_1 (⟨x4_19, false, x5_1, t134⟩ : S79) [.int .i64 x4_19, .bool false, .int .i64 x5_1, .int .i64 t134] (fun _ => True) (fun _ => False) rfl rfl ?aP (fun _ hk => hk.elim) ?aF ?aO ?aB ?aS ?aL ?_; (case aP => exact k79_mkM _ _ _ (⟨x4_19, false, x5_1, t134⟩ : S79)); (case aB => exact bel); (case aF => exact (fun _ _ => trivial)); (case aO => exact (kr HO_3)); (case aS => exact bsz); (case aL => have := LMc23.out; omega); intro v137 w26 ho hb hg hat; rw [← Ny136.out] at ho; replace BK129 := Aside0.mk (blk_grown (bk BK129) hg (Kd.R_ne HO_3.out BK129.out (by decide))); replace HB := Aside0.mk hb; have HO138 := Aside0.mk ho; clear HO_3; clear ho hb hg hat) | ((with_reducible refine gate_builtin (b := .append) (xs := #[.tmp 45, .tmp 50]) rfl ?_); at_builtin; refine Kd.R_append k79 (w0 := w) w.heap.size rfl (.tmp 45) (.tmp 50) 75 79 (.agg #[(.int .i64 0), (.bool false), (.int .i64 0), (.int .i64 0)]) 32 rfl Try.underlying75 info79 rfl (by decide) (by omega) v137 y136 (⟨x4_19, true, x5_1, t135⟩ : S79) [.int .i64 x4_19, .bool true, .int .i64 x5_1, .int .i64 t135] (fun _ => True) (fun _ => False) rfl rfl ?aP (fun _ hk => hk.elim) ?aF ?aO ?aB ?aS ?aL ?_; (case aP => exact k79_mkM _ _ _ (⟨x4_19, true, x5_1, t135⟩ : S79)); (case aB => exact bel); (case aF => exact (fun _ _ => trivial)); (case aO => exact (kr HO138)); (case aS => exact bsz); (case aL => have := LMc25.out; omega); intro v140 w27 ho hb hg hat; rw [← Ny139.out] at ho; replace BK129 := Aside0.mk (blk_grown (bk BK129) hg (Kd.R_ne HO138.out BK129.out (by decide))); replace HB := Aside0.mk hb; have HO141 := Aside0.mk ho; clear HO138; clear ho hb hg hat))
            go_roundg kj19
            case measure => have := HK1.out; have := HJ4.out; have := HJ13.out; have := HJ19.out; omega
            case rel => exact ⟨(y139), (x4_19), (wrap64 (x5_1 + 1)), rf, rf, H', ⟨by have := HK1.out; have := HJ4.out; have := HJ13.out; have := HJ19.out; omega⟩, ⟨kr HO141⟩, ⟨bk BK129⟩, ⟨bel⟩⟩
           ·
            have H' := Aside0.mk H
            clear H
            go_wp2_with (first | ((with_reducible refine gate_builtin (b := .append) (xs := #[.tmp 36, .tmp 41]) rfl ?_); at_builtin; refine Kd.R_append k79 (w0 := w) w.heap.size rfl (.tmp 36) (.tmp 41) 75 79 (.agg #[(.int .i64 0), (.bool false), (.int .i64 0), (.int .i64 0)]) 32 rfl Try.underlying75 info79 rfl (by decide) (by omega) u3 x3_1 (⟨x4_19, false, x5_1, t134⟩ : S79) [.int .i64 x4_19, .bool false, .int .i64 x5_1, .int .i64 t134] (fun _ => True) (fun _ => False) rfl rfl ?aP (fun _ hk => hk.elim) ?aF ?aO ?aB ?aS ?aL ?_; (case aP => exact k79_mkM _ _ _ (⟨x4_19, false, x5_1, t134⟩ : S79)); (case aB => exact bel); (case aF => exact (fun _ _ => trivial)); (case aO => exact (kr HO_3)); (case aS => exact bsz); (case aL => have := LMc23.out; omega); intro v137 w28 ho hb hg hat; rw [← Ny136.out] at ho; replace BK129 := Aside0.mk (blk_grown (bk BK129) hg (Kd.R_ne HO_3.out BK129.out (by decide))); replace HB := Aside0.mk hb; have HO138 := Aside0.mk ho; clear HO_3; clear ho hb hg hat))
            go_roundg kj19
            case measure => have := HK1.out; have := HJ4.out; have := HJ13.out; have := HJ19.out; omega
            case rel => exact ⟨(y136), (x4_19), (wrap64 (x5_1 + 1)), rf, rf, H', ⟨by have := HK1.out; have := HJ4.out; have := HJ13.out; have := HJ19.out; omega⟩, ⟨kr HO138⟩, ⟨bk BK129⟩, ⟨bel⟩⟩
          ·
           replace H := zc H
           rcases H with ⟨c29b0, H⟩ | ⟨c29b0, H⟩
           ·
            replace H := zl H
            obtain ⟨LMc30, H⟩ := H
            generalize hy142 : (x3_1 ++ [(⟨x4_19, true, x5_1, t135⟩ : S79)] : List (S79)) = y142 at H
            have Ny142 := Aside0.mk hy142.symm
            clear hy142
            have H' := Aside0.mk H
            clear H
            go_wp2_with (first | ((with_reducible refine gate_builtin (b := .append) (xs := #[.tmp 45, .tmp 50]) rfl ?_); at_builtin; refine Kd.R_append k79 (w0 := w) w.heap.size rfl (.tmp 45) (.tmp 50) 75 79 (.agg #[(.int .i64 0), (.bool false), (.int .i64 0), (.int .i64 0)]) 32 rfl Try.underlying75 info79 rfl (by decide) (by omega) u3 x3_1 (⟨x4_19, true, x5_1, t135⟩ : S79) [.int .i64 x4_19, .bool true, .int .i64 x5_1, .int .i64 t135] (fun _ => True) (fun _ => False) rfl rfl ?aP (fun _ hk => hk.elim) ?aF ?aO ?aB ?aS ?aL ?_; (case aP => exact k79_mkM _ _ _ (⟨x4_19, true, x5_1, t135⟩ : S79)); (case aB => exact bel); (case aF => exact (fun _ _ => trivial)); (case aO => exact (kr HO_3)); (case aS => exact bsz); (case aL => have := LMc30.out; omega); intro v143 w31 ho hb hg hat; rw [← Ny142.out] at ho; replace BK129 := Aside0.mk (blk_grown (bk BK129) hg (Kd.R_ne HO_3.out BK129.out (by decide))); replace HB := Aside0.mk hb; have HO144 := Aside0.mk ho; clear HO_3; clear ho hb hg hat))
            go_roundg kj19
            case measure => have := HK1.out; have := HJ4.out; have := HJ13.out; have := HJ19.out; omega
            case rel => exact ⟨(y142), (x4_19), (wrap64 (x5_1 + 1)), rf, rf, H', ⟨by have := HK1.out; have := HJ4.out; have := HJ13.out; have := HJ19.out; omega⟩, ⟨kr HO144⟩, ⟨bk BK129⟩, ⟨bel⟩⟩
           ·
            have H' := Aside0.mk H
            clear H
            go_wp2
            go_roundg kj19
            case measure => have := HK1.out; have := HJ4.out; have := HJ13.out; have := HJ19.out; omega
            case rel => exact ⟨(x3_1), (x4_19), (wrap64 (x5_1 + 1)), rf, rf, H', ⟨by have := HK1.out; have := HJ4.out; have := HJ13.out; have := HJ19.out; omega⟩, ⟨kr HO_3⟩, ⟨bk BK129⟩, ⟨bel⟩⟩
     ·
      obtain rfl := Option.some.inj H
      go_wp2
      go_ret
      exact ⟨_, er, kr HO_3, bel⟩

/-! ### spec_l27Zero: function 56 -/
def spec_l27Zero.f (a0_0 : Int) (l0_1 : List (S87)) : Option (Bool) := if a0_0 = 0 then (some ((l0_1.length : Int) == 0)) else (some false)
set_option maxHeartbeats 8000000 in
set_option maxRecDepth 100000 in
theorem spec_l27Zero.calls (a0_0 : Int) (A0_1 : Option Addr) (c0_1 : Nat) (l0_1 : List (S87)) (r : Bool) (w : World) (hr0_1 : Kd.C k87 w A0_1 l0_1.length l0_1) (hc0_1 : l0_1.length ≤ c0_1) (H : spec_l27Zero.f a0_0 l0_1 = some r) :
  Calls Try.prog 56 #[.agg #[.int .i64 a0_0, .slice A0_1 l0_1.length c0_1]] w fun e w' => e = .returned (.bool r) ∧ Below w.heap.size w w' := by
 have hu48 := Try.underlying48
 have HR0_1 := Aside0.mk hr0_1
 have HC0_1 := Aside0.mk hc0_1
 clear hr0_1 hc0_1
 have HB := Aside0.mk (Below.refl w.heap.size w)
 unfold spec_l27Zero.f at H
 by_cases c2 : a0_0 = 0
 rotate_left
 focus
  rw [if_neg c2] at H
  have c2b0 : (a0_0 == 0) = false := beq_eq_false_iff_ne.mpr c2
  have c2b1 : (a0_0 != 0) = true := bne_iff_ne.mpr c2
  obtain rfl := Option.some.inj H
 rotate_right
 focus
  rw [if_pos c2] at H
  have c2b0 : (a0_0 == 0) = true := beq_iff_eq.mpr c2
  have c2b1 : (a0_0 != 0) = false := bne_eq_false_iff_eq.mpr c2
  clear c2
  obtain rfl := Option.some.inj H
 all_goals
  go_enter Try.func56, Try.ntmps56
  go_wp2_with (first | ((with_reducible refine zd 1 rfl ?_); (try (refine gate_guard (by rfl) ?_; dsimp only)); refine zbx (w := w) #[.int .i64 a0_0, .slice A0_1 l0_1.length c0_1] 48 ?_; intro gb145 hg w1000 BK145 hb; have GW145 := zg (w := w) hg; replace HB := zB hb; clear hb hg; have ⟨_, _, _, _⟩ := cz2 BK145))
  go_ret
  exact ⟨er, bel⟩

/-! ### spec_Backwards: function 103 -/
def spec_Backwards.l0 : Nat → ByteArray → ByteArray → Int → Option (ByteArray)
 | 0, _, _, _ => none
 | k + 1, x0, x3, x4 => if x4 < (x0.size : Int) then (if (x0.size : Int) ≤ 100 then (if 0 ≤ x4 then (if x4 ≤ (wrap64 (x4 + 1)) then (if (wrap64 (x4 + 1)) ≤ (x0.size : Int) then (if (x0.extract (x4 : Int).toNat ((wrap64 (x4 + 1)) : Int).toNat).size + x3.size ≤ 9223372036854775807 then (spec_Backwards.l0 k x0 ((x0.extract (x4 : Int).toNat ((wrap64 (x4 + 1)) : Int).toNat) ++ x3) (wrap64 (x4 + 1))) else (none)) else (none)) else (none)) else (none)) else (some x3)) else (some x3)
def spec_Backwards.f (k : Nat) (a0 : ByteArray) : Option (ByteArray) := spec_Backwards.l0 k a0 (⟨#[]⟩ : ByteArray) 0
set_option maxHeartbeats 8000000 in
set_option maxRecDepth 100000 in
theorem spec_Backwards.calls (k : Nat) (a0 : ByteArray) (r : ByteArray) (w : World) (H : spec_Backwards.f k a0 = some r) :
  Calls Try.prog 103 #[.string a0] w fun e w' => e = .returned (.string r) ∧ Drawn0 w w' := by
 unfold spec_Backwards.f at H
 have H' := Aside0.mk H
 clear H
 go_enter Try.func103, Try.ntmps103
 go_wp2
 go_loopg [3, 4] k (fun kq v3 v4 w' => ∃ (x3_1 : ByteArray) (x4_1 : Int), v3 = .string x3_1 ∧ v4 = .int .i64 x4_1 ∧ Aside0 (spec_Backwards.l0 kq a0 x3_1 x4_1 = some r) ∧ Aside0 (kq ≤ k) ∧ Drawn0 w w')
 case atStart => exact ⟨((⟨#[]⟩ : ByteArray)), (0), rf, rf, H', ⟨Nat.le_refl _⟩, by repeat (first | exact Drawn0.refl _ | apply Drawn0.step)⟩
 case round =>
  clear H'
  obtain ⟨x3_1, x4_1, rfl, rfl, HA, HK1, ⟨m1, rfl⟩⟩ := hrel
  cases gk with
  | zero => exact absurd HA.out (by simp [spec_Backwards.l0])
  | succ k1 =>
   have H := HA.out
   clear HA
   simp only [spec_Backwards.l0] at H
   replace H := zc H
   rcases H with ⟨c2b0, H⟩ | ⟨c2b0, H⟩
   ·
    by_cases c3 : (a0.size : Int) ≤ 100
    ·
     rw [if_pos c3] at H
     have c3b0 : decide ((a0.size : Int) ≤ 100) = true := decide_eq_true c3
     have c3b1 : decide (a0.size ≤ 100) = true := decide_eq_true (by omega)
     clear c3
     by_cases c4 : 0 ≤ x4_1
     ·
      rw [if_pos c4] at H
      have c4b0 := eq_true c4
      have c4b1 : decide (0 ≤ x4_1) = true := decide_eq_true c4
      clear c4
      by_cases c5 : x4_1 ≤ (wrap64 (x4_1 + 1))
      ·
       rw [if_pos c5] at H
       have c5b0 := eq_true c5
       have c5b1 : decide (x4_1 ≤ (wrap64 (x4_1 + 1))) = true := decide_eq_true c5
       by_cases c6 : (wrap64 (x4_1 + 1)) ≤ (a0.size : Int)
       ·
        rw [if_pos c6] at H
        have c6b0 := eq_true c6
        have c6b1 : decide ((wrap64 (x4_1 + 1)) ≤ (a0.size : Int)) = true := decide_eq_true c6
        by_cases c7 : (a0.extract (x4_1 : Int).toNat ((wrap64 (x4_1 + 1)) : Int).toNat).size + x3_1.size ≤ 9223372036854775807
        ·
         rw [if_pos c7] at H
         have c7b0 := eq_true c7
         have c7b1 : decide ((a0.extract (x4_1 : Int).toNat ((wrap64 (x4_1 + 1)) : Int).toNat).size + x3_1.size ≤ 9223372036854775807) = true := decide_eq_true c7
         try have c7b2 : (9223372036854775807 < (a0.extract (x4_1 : Int).toNat ((wrap64 (x4_1 + 1)) : Int).toNat).size + x3_1.size) = False := eq_false (Nat.not_lt.2 c7)
         have H' := Aside0.mk H
         clear H
         go_wp2
         go_roundg k1
         case measure => have := HK1.out; omega
         case rel => exact ⟨((a0.extract (x4_1 : Int).toNat ((wrap64 (x4_1 + 1)) : Int).toNat) ++ x3_1), (wrap64 (x4_1 + 1)), rf, rf, H', ⟨by have := HK1.out; omega⟩, by repeat (first | exact Drawn0.refl _ | apply Drawn0.step)⟩
        ·
         rw [if_neg c7] at H
         exact absurd H (by simp)
       ·
        rw [if_neg c6] at H
        exact absurd H (by simp)
      ·
       rw [if_neg c5] at H
       exact absurd H (by simp)
     ·
      rw [if_neg c4] at H
      exact absurd H (by simp)
    ·
     rw [if_neg c3] at H
     have c3b0 : decide ((a0.size : Int) ≤ 100) = false := decide_eq_false c3
     have c3b1 : decide (a0.size ≤ 100) = false := decide_eq_false (by omega)
     clear c3
     obtain rfl := Option.some.inj H
     go_wp2
     go_ret
     exact ⟨by first | rfl | (simp; done) | (simp [*]; done), by repeat (first | exact Drawn0.refl _ | apply Drawn0.step)⟩
   ·
    obtain rfl := Option.some.inj H
    go_wp2
    go_ret
    exact ⟨by first | rfl | (simp; done) | (simp [*]; done), by repeat (first | exact Drawn0.refl _ | apply Drawn0.step)⟩

/-! ### spec_TurnGrid: function 95 -/
def spec_TurnGrid.f (k : Nat) (a0_0 : Int) (a0_1 : Int) (a0_2 : ByteArray) : Option (Int × Int × ByteArray) := (spec_IsGrid.f k a0_0 a0_1 a0_2).bind fun t148 => (if t148 = true then ((spec_Backwards.f k a0_2).bind fun t149 => (some (a0_0, a0_1, t149))) else (some (0, 0, (⟨#[]⟩ : ByteArray))))
set_option maxHeartbeats 8000000 in
set_option maxRecDepth 100000 in
theorem spec_TurnGrid.calls (k : Nat) (a0_0 : Int) (a0_1 : Int) (a0_2 : ByteArray) (r1 : Int) (r2 : Int) (r3 : ByteArray) (w : World) (H : spec_TurnGrid.f k a0_0 a0_1 a0_2 = some (r1, r2, r3)) :
  Calls Try.prog 95 #[.agg #[.int .i64 a0_0, .int .i64 a0_1, .string a0_2]] w fun e w' => e = .returned (.agg #[.int .i64 r1, .int .i64 r2, .string r3]) ∧ Below w.heap.size w w' := by
 have hu30 := Try.underlying30
 have HB := Aside0.mk (Below.refl w.heap.size w)
 unfold spec_TurnGrid.f at H
 replace H := zs H
 obtain ⟨t148, A2, H⟩ := H
 replace H := zb H
 rcases H with ⟨rfl, H⟩ | ⟨rfl, H⟩
 ·
  replace H := zs H
  obtain ⟨t149, A4, H⟩ := H
  simp only [Option.some.injEq, Prod.mk.injEq] at H
  obtain ⟨rfl, rfl, rfl⟩ := H
  go_enter Try.func95, Try.ntmps95
  go_wp2_with (first | ((with_reducible refine zd 1 rfl ?_); refine zbx (w := w) #[.int .i64 a0_0, .int .i64 a0_1, .string a0_2] 30 ?_; intro gb146 hg w5 BK146 hb; have GW146 := zg (w := w) hg; replace HB := zB hb; clear hb hg) | ((with_reducible refine zd 2 rfl ?_); refine zbx (w := w) #[.int .i64 0, .int .i64 0, .string (⟨#[]⟩ : ByteArray)] 30 ?_; intro gb147 hg w6 BK147 hb; have GW147 := zg (w := w) hg; replace HB := zB hb; have NB146_147 := zn hg BK146; have NB147_146 := zm hg BK146; replace BK146 := zk BK146 hb; clear hb hg; have hnb7 := NB146_147.out; have hnc7 := NB147_146.out; have ⟨_, _, _, _, _, _⟩ := cz3 BK146) | ((with_reducible refine zd 4 rfl ?_); refine zgl Try.func77 (spec_IsGrid.calls k a0_0 a0_1 a0_2 true _ A2.out) ?_; rintro e w9 ⟨rfl, hb⟩; refine ⟨_, rfl, ?_⟩; replace BK146 := zk BK146 hb; replace BK147 := zk BK147 hb; replace HB := zB hb; have ⟨_, _, _, _, _, _⟩ := cz3 BK146) | ((with_reducible refine zd 9 rfl ?_); refine zgl Try.func103 (spec_Backwards.calls k a0_2 t149 _ A4.out) ?_; rintro e w' ⟨rfl, ⟨nd, rfl⟩⟩; refine ⟨_, rfl, ?_⟩; (try (rw [drewN_self w9]; generalize hq_ : World.drewN w9 _ = w9; have n0_ : Aside0 (w9.heap[gb146]? = some (.cells #[.int .i64 a0_0, .int .i64 a0_1, .string a0_2] 30 (0, 0))) := ⟨by rw [← hq_]; exact (bk BK146)⟩; have n1_ : Aside0 (w9.heap[gb147]? = some (.cells #[.int .i64 0, .int .i64 0, .string (⟨#[]⟩ : ByteArray)] 30 (0, 0))) := ⟨by rw [← hq_]; exact (bk BK147)⟩; have n2_ : Aside0 (Below w.heap.size w w9) := ⟨by rw [← hq_]; exact bel⟩; clear BK146 BK147 HB hq_; have BK146 := n0_; have BK147 := n1_; have HB := n2_; clear n0_ n1_ n2_)); have ⟨_, _, _, _, _, _⟩ := cz3 BK147; have hcy146_0 : w9.cell? ⟨gb146, 0, none⟩ = some (.int .i64 a0_0) := (blk_cell BK146.out 0).trans rfl; have hfy146_0 : w9.frozen? ⟨gb146, 0, none⟩ = false := blk_frozen BK146.out 0; have hcy146_1 : w9.cell? ⟨gb146, 1, none⟩ = some (.int .i64 a0_1) := (blk_cell BK146.out 1).trans rfl; have hfy146_1 : w9.frozen? ⟨gb146, 1, none⟩ = false := blk_frozen BK146.out 1; have hcy146_2 : w9.cell? ⟨gb146, 2, none⟩ = some (.string a0_2) := (blk_cell BK146.out 2).trans rfl; have hfy146_2 : w9.frozen? ⟨gb146, 2, none⟩ = false := blk_frozen BK146.out 2))
  refine bodyPost_ret (results_cell_row rfl _ _ gb147 30 #[.int .i64 a0_0, .int .i64 a0_1, .string t149] (0, 0) _ rfl (by (with_reducible repeat (first | refine blk_drewN ?_ _ | refine blk_drew ?_ | refine blk_alloc ?_ _)); refine blk_put (cs := #[.int .i64 a0_0, .int .i64 a0_1, .string (⟨#[]⟩ : ByteArray)]) ?_ 2 _ rfl; (with_reducible repeat (first | refine blk_drewN ?_ _ | refine blk_drew ?_ | refine blk_alloc ?_ _)); refine blk_put (cs := #[.int .i64 a0_0, .int .i64 0, .string (⟨#[]⟩ : ByteArray)]) ?_ 1 _ rfl; (with_reducible repeat (first | refine blk_drewN ?_ _ | refine blk_drew ?_ | refine blk_alloc ?_ _)); refine blk_put (cs := #[.int .i64 0, .int .i64 0, .string (⟨#[]⟩ : ByteArray)]) ?_ 0 _ rfl; (with_reducible repeat (first | refine blk_drewN ?_ _ | refine blk_drew ?_ | refine blk_alloc ?_ _)); refine blk_far ?_ NB147_146.out _; (with_reducible repeat (first | refine blk_drewN ?_ _ | refine blk_drew ?_ | refine blk_alloc ?_ _)); exact BK147.out) Try.underlying30 rfl (by kernel_rfl)) rfl ?_
  exact ⟨er, bel⟩
 ·
  simp only [Option.some.injEq, Prod.mk.injEq] at H
  obtain ⟨rfl, rfl, rfl⟩ := H
  go_enter Try.func95, Try.ntmps95
  go_wp2_with (first | ((with_reducible refine zd 1 rfl ?_); refine zbx (w := w) #[.int .i64 a0_0, .int .i64 a0_1, .string a0_2] 30 ?_; intro gb146 hg w12 BK146 hb; have GW146 := zg (w := w) hg; replace HB := zB hb; clear hb hg) | ((with_reducible refine zd 2 rfl ?_); refine zbx (w := w) #[.int .i64 0, .int .i64 0, .string (⟨#[]⟩ : ByteArray)] 30 ?_; intro gb147 hg w13 BK147 hb; have GW147 := zg (w := w) hg; replace HB := zB hb; have NB146_147 := zn hg BK146; have NB147_146 := zm hg BK146; replace BK146 := zk BK146 hb; clear hb hg; have hnb14 := NB146_147.out; have hnc14 := NB147_146.out; have ⟨_, _, _, _, _, _⟩ := cz3 BK146) | ((with_reducible refine zd 4 rfl ?_); refine zgl Try.func77 (spec_IsGrid.calls k a0_0 a0_1 a0_2 false _ A2.out) ?_; rintro e w16 ⟨rfl, hb⟩; refine ⟨_, rfl, ?_⟩; replace BK146 := zk BK146 hb; replace BK147 := zk BK147 hb; replace HB := zB hb; have ⟨_, _, _, _, _, _⟩ := cz3 BK147))
  refine bodyPost_ret (results_cell_row rfl _ _ gb147 30 #[.int .i64 0, .int .i64 0, .string (⟨#[]⟩ : ByteArray)] (0, 0) _ rfl (by (with_reducible repeat (first | refine blk_drewN ?_ _ | refine blk_drew ?_ | refine blk_alloc ?_ _)); refine blk_put (cs := #[.int .i64 0, .int .i64 0, .string (⟨#[]⟩ : ByteArray)]) ?_ 2 _ rfl; (with_reducible repeat (first | refine blk_drewN ?_ _ | refine blk_drew ?_ | refine blk_alloc ?_ _)); refine blk_put (cs := #[.int .i64 0, .int .i64 0, .string (⟨#[]⟩ : ByteArray)]) ?_ 1 _ rfl; (with_reducible repeat (first | refine blk_drewN ?_ _ | refine blk_drew ?_ | refine blk_alloc ?_ _)); refine blk_put (cs := #[.int .i64 0, .int .i64 0, .string (⟨#[]⟩ : ByteArray)]) ?_ 0 _ rfl; (with_reducible repeat (first | refine blk_drewN ?_ _ | refine blk_drew ?_ | refine blk_alloc ?_ _)); exact BK147.out) Try.underlying30 rfl (by kernel_rfl)) rfl ?_
  exact ⟨er, bel⟩

/-! ### spec_IsSymmetric: function 81 -/
def spec_IsSymmetric.f (k : Nat) (a0_0 : Int) (a0_1 : Int) (a0_2 : ByteArray) : Option (Bool) := (spec_IsGrid.f k a0_0 a0_1 a0_2).bind fun t151 => (if t151 = true then ((spec_TurnGrid.f k a0_0 a0_1 a0_2).bind fun bt152 => (some (bt152.1 == a0_0 && (bt152.2.1 == a0_1 && (bt152.2.2.toList == a0_2.toList))))) else (some false))
def spec_IsSymmetric.T1 : Bool × List (List Nat × List Nat) := (true, [([], []), ([0], [0]), ([1, 1], [1]), ([2], [2]), ([3, 2, 2], [2, 3]), ([2], [2]), ([4, 5, 2], [2, 4, 5]), ([2, 6], [2, 6]), ([7, 4, 0, 1, 2, 3, 4, 5, 6, 7], [7])])
theorem spec_IsSymmetric.tab1 : rtab .any (opsOf Try.f81 1) = spec_IsSymmetric.T1 := by kernel_rfl
set_option maxHeartbeats 8000000 in
set_option maxRecDepth 100000 in
theorem spec_IsSymmetric.calls (k : Nat) (a0_0 : Int) (a0_1 : Int) (a0_2 : ByteArray) (r : Bool) (w : World) (H : spec_IsSymmetric.f k a0_0 a0_1 a0_2 = some r) :
  Calls Try.prog 81 #[.agg #[.int .i64 a0_0, .int .i64 a0_1, .string a0_2]] w fun e w' => e = .returned (.bool r) ∧ Below w.heap.size w w' := by
 have hu30 := Try.underlying30
 have HB := Aside0.mk (Below.refl w.heap.size w)
 unfold spec_IsSymmetric.f at H
 replace H := zs H
 obtain ⟨t151, A2, H⟩ := H
 replace H := zb H
 rcases H with ⟨rfl, H⟩ | ⟨rfl, H⟩
 ·
  replace H := Option.bind_eq_some_iff.mp H
  obtain ⟨⟨t152, t153, t154⟩, A40, H⟩ := H
  have A4 := Aside0.mk A40
  clear A40
  obtain rfl := Option.some.inj H
  go_enter Try.func81, Try.ntmps81
  try go_wp2_with (first | ((with_reducible refine zd 1 rfl ?_); refine zbx (w := w) #[.int .i64 a0_0, .int .i64 a0_1, .string a0_2] 30 ?_; intro gb150 hg w5 BK150 hb; have GW150 := zg (w := w) hg; replace HB := zB hb; clear hb hg))
  replace BK150 := zkd BK150
  replace HB := zBd HB
  refine zst 9 spec_IsSymmetric.tab1 (zb3 BK150 <| zn0) fun hHeld HT_ => ?_
  generalize w5.drew = w6 at BK150 HB hHeld ⊢
  repeat (first | refine zs1 ?_ | (refine zcl Try.func77 (spec_IsGrid.calls k a0_0 a0_1 a0_2 true _ A2.out) ?_; rintro e w7 ⟨rfl, hb⟩; replace BK150 := zk BK150 hb; replace HB := zB hb; refine ⟨_, rfl, zHb hb hHeld, _, znb, fun hHeld => ?_⟩) | (refine zcl Try.func95 (spec_TurnGrid.calls k a0_0 a0_1 a0_2 t152 t153 t154 _ A4.out) ?_; rintro e w8 ⟨rfl, hb⟩; replace BK150 := zk BK150 hb; replace HB := zB hb; refine ⟨_, rfl, zHb hb hHeld, _, znb, fun hHeld => ?_⟩))
  refine zdn ?_
  try go_wp2
  go_ret
  exact ⟨er, bel⟩
 ·
  obtain rfl := Option.some.inj H
  go_enter Try.func81, Try.ntmps81
  try go_wp2_with (first | ((with_reducible refine zd 1 rfl ?_); refine zbx (w := w) #[.int .i64 a0_0, .int .i64 a0_1, .string a0_2] 30 ?_; intro gb150 hg w9 BK150 hb; have GW150 := zg (w := w) hg; replace HB := zB hb; clear hb hg))
  replace BK150 := zkd BK150
  replace HB := zBd HB
  refine zst 9 spec_IsSymmetric.tab1 (zb3 BK150 <| zn0) fun hHeld HT_ => ?_
  generalize w9.drew = w10 at BK150 HB hHeld ⊢
  repeat (first | refine zs1 ?_ | (refine zcl Try.func77 (spec_IsGrid.calls k a0_0 a0_1 a0_2 false _ A2.out) ?_; rintro e w11 ⟨rfl, hb⟩; replace BK150 := zk BK150 hb; replace HB := zB hb; refine ⟨_, rfl, zHb hb hHeld, _, znb, fun hHeld => ?_⟩))
  refine zdn ?_
  try go_wp2
  go_ret
  exact ⟨er, bel⟩

end Go.Proofs.Ytpcdfjcbjbkliaa.E
