import Derived.Test.YtpcdfjcbjbkliaaGreatSq
import Derived.Test.YtpcdfjcbjbkliaaGreatQ0
import Derived.Test.YtpcdfjcbjbkliaaGreatQ5
import Derived.Test.YtpcdfjcbjbkliaaGreatQ6
import Derived.Test.YtpcdfjcbjbkliaaGreatQ10
namespace Go.Proofs.YtpcdfjcbjbkliaaGreat.E
open Go.RowKit Go.Proofs.YtpcdfjcbjbkliaaGreatW.PrintWords Go.Proofs.YtpcdfjcbjbkliaaGreatW.PrintLast Go.Proofs.YtpcdfjcbjbkliaaGreatW.PrintMore
attribute [local go_sem] max2_int min2_int max_two min_two max_three min_three max_four min_four
set_option linter.unusedVariables false
set_option linter.unusedSimpArgs false

/-! ### spec_PartsOf: function 148 -/
mutual
def spec_PartsOf.l0 : Nat → Int → List Bool → Int → Int → Int → ByteArray → Option (Int)
 | 0, _, _, _, _, _, _ => none
 | k + 1, a, b, c, d, e, f => if c < (f.size : Int) then (if b.length < 140737488355328 then (spec_PartsOf.l0 k a (b ++ [false]) (wrap64 (c + 1)) d e f) else (none)) else (spec_PartsOf.l1 k a b 0 d e f)
def spec_PartsOf.l1 : Nat → Int → List Bool → Int → Int → Int → ByteArray → Option (Int)
 | 0, _, _, _, _, _, _ => none
 | k + 1, a, b, c, d, e, f => if c < (f.size : Int) then ((spec_IsGrid.f k d e f).bind fun g => (spec_PartsOf.j2 k a b c g d e f)) else (spec_PartsOf.j2 k a b c false d e f)
def spec_PartsOf.j2 : Nat → Int → List Bool → Int → Bool → Int → Int → ByteArray → Option (Int)
 | 0, _, _, _, _, _, _, _ => none
 | k + 1, a, b, c, d, e, f, g => if d = true then (if 0 ≤ c then (if c < (g.size : Int) then (if (bt g c) = 46 then (if c < (b.length : Int) then (spec_PartsOf.j3 k a b c (!(rdOf false b c)) e f g) else (none)) else (spec_PartsOf.j3 k a b c false e f g)) else (none)) else (none)) else (some a)
def spec_PartsOf.j3 : Nat → Int → List Bool → Int → Bool → Int → Int → ByteArray → Option (Int)
 | 0, _, _, _, _, _, _, _ => none
 | k + 1, a, b, c, d, e, f, g => if d = true then (spec_PartsOf.l2 k (wrap64 (a + 1)) b c (([] : List Bool)) 0 e f g) else (spec_PartsOf.l1 k a b (wrap64 (c + 1)) e f g)
def spec_PartsOf.l2 : Nat → Int → List Bool → Int → List Bool → Int → Int → Int → ByteArray → Option (Int)
 | 0, _, _, _, _, _, _, _, _ => none
 | k + 1, a, b, c, d, e, f, g, h => if e < (b.length : Int) then (if d.length < 140737488355328 then (spec_PartsOf.l2 k a b c (d ++ [false]) (wrap64 (e + 1)) f g h) else (none)) else ((spec_l10Reach.f k f g h d c).bind fun i => (spec_PartsOf.l3 k a b c i 0 f g h))
def spec_PartsOf.l3 : Nat → Int → List Bool → Int → List Bool → Int → Int → Int → ByteArray → Option (Int)
 | 0, _, _, _, _, _, _, _, _ => none
 | k + 1, a, b, c, d, e, f, g, h => if e < (b.length : Int) then (if 0 ≤ e then (if rdOf false b e = true then (spec_PartsOf.l3 k a (b.set (e : Int).toNat true) c d (wrap64 (e + 1)) f g h) else (if e < (d.length : Int) then (spec_PartsOf.l3 k a (b.set (e : Int).toNat (rdOf false d e)) c d (wrap64 (e + 1)) f g h) else (none))) else (none)) else (spec_PartsOf.l1 k a b (wrap64 (c + 1)) f g h)
end
def spec_PartsOf.f (k : Nat) (a b : Int) (c : ByteArray) : Option (Int) := spec_PartsOf.l0 k 0 (([] : List Bool)) 0 a b c
set_option maxHeartbeats 8000000 in
set_option maxRecDepth 100000 in
theorem spec_PartsOf.calls (k : Nat) (a0_0 a0_1 : Int) (a0_2 : ByteArray) (r : Int) (w : World) (H : spec_PartsOf.f k a0_0 a0_1 a0_2 = some r) :
  Calls Tryz.prog 148 #[.agg #[.int .i64 a0_0, .int .i64 a0_1, .string a0_2]] w fun e w' => e = .returned (.int .i64 r) ∧ Below w.heap.size w w' := by
 have hu32 := Tryz.underlying32
 have HB := Aside0.mk (Below.refl w.heap.size w)
 unfold spec_PartsOf.f at H
 generalize hy344 : (([] : List Bool) : List Bool) = y344 at H
 have Ny344 := Aside0.mk hy344.symm
 clear hy344
 have H' := Aside0.mk H
 clear H
 go_enter Tryz.func148, Tryz.ntmps148
 go_wp2_with (first | ((with_reducible refine zd 1 rfl ?_); refine zbx (w := w) #[.int .i64 a0_0, .int .i64 a0_1, .string a0_2] 32 ?_; intro gb343 hg w2 BK343 hb; have GW343 := zg (w := w) hg; have GE343 := zg (w := w) hg; replace HB := zB hb; clear hb hg) | ((with_reducible refine gate_dst (N := 10) rfl ?_); refine Kd.R_lit Kd.bool _ 4 ?hg (N := 10) ?hd (xs := ([] : List Bool)) (inner := []) (ok := fun _ => True) (okp := fun _ => True) ?hr ?hp (fun _ hk => hk) trivial (Below.refl _ _) (Nat.le_refl _) (by simp) ?_; (case hd => rfl); (case hg => rfl); (case hr => first | (go_simp; done) | (go_simp; rfl)); (case hp => exact (Reps.none _ _)); intro v345 w3 ho4 hb hg_ hnew_; clear hg_ hnew_; (first | rw [← Ny344.out] at ho4 | (simp only [Int.reduceToNat] at ho4; rw [← Ny344.out] at ho4)); have HO346 := zl2 ho4; replace BK343 := zk BK343 hb; replace HB := zB hb; clear hb ho4))
 go_loopg [4, 5] k (fun kq v4 v5 w' => ∃ (x4_1 : List Bool) (x5_1 : Int), v5 = .int .i64 x5_1 ∧ Aside0 (spec_PartsOf.l0 kq 0 x4_1 x5_1 a0_0 a0_1 a0_2 = some r) ∧ Aside0 (kq ≤ k) ∧ Aside0 (Kd.R Kd.bool 4 w' w.heap.size (fun _ => True) v4 x4_1) ∧ Aside0 (w'.heap[gb343]? = some (.cells #[.int .i64 a0_0, .int .i64 a0_1, .string a0_2] 32 (0, 0))) ∧ Aside0 (Below w.heap.size w w'))
 case atStart => exact ⟨(y344), (0), rf, H', ⟨Nat.le_refl _⟩, ⟨kr HO346⟩, ⟨bk BK343⟩, ⟨bel⟩⟩
 case round =>
  clear H'
  obtain ⟨x4_1, x5_1, rfl, HA, HK1, HO_4, BK343, HB⟩ := hrel
  cases gk with
  | zero => exact absurd HA.out (by simp [spec_PartsOf.l0])
  | succ k1 =>
   have H := HA.out
   clear HA
   simp only [spec_PartsOf.l0] at H
   replace H := zc H
   rcases H with ⟨c5b0, H⟩ | ⟨c5b0, H⟩
   ·
    replace H := zl H
    obtain ⟨LMc6, H⟩ := H
    generalize hy347 : (x4_1 ++ [false] : List Bool) = y347 at H
    have Ny347 := Aside0.mk hy347.symm
    clear hy347
    have H' := Aside0.mk H
    clear H
    have ⟨_, _, _, _, _, _⟩ := cz3 BK343
    go_wp2_with (first | ((with_reducible refine gate_builtin (b := .append) (xs := #[.tmp 18, .tmp 19]) rfl ?_); at_builtin; refine Kd.R_append Kd.bool (w0 := w) w.heap.size rfl (.tmp 18) (.tmp 19) 174 4 (.bool false) 1 rfl Tryz.underlying174 info4 rfl (by decide) (by omega) u4 x4_1 false [.bool false] (fun _ => True) (fun _ => False) rfl rfl ?aP (fun _ hk => hk.elim) ?aF ?aO ?aB ?aS ?aL ?_; (case aP => exact rfl); (case aB => exact bel); (case aF => exact (fun _ _ => trivial)); (case aO => exact (kr HO_4)); (case aS => exact bsz); (case aL => have := LMc6.out; omega); intro v348 w8 ho hb hg hat; rw [← Ny347.out] at ho; replace BK343 := Aside0.mk (blk_grown (bk BK343) hg (Kd.R_ne HO_4.out BK343.out (by decide))); replace HB := Aside0.mk hb; have HO349 := Aside0.mk ho; clear HO_4; clear ho hb hg hat))
    go_roundg k1
    case measure => have := HK1.out; omega
    case rel => exact ⟨(y347), (wrap64 (x5_1 + 1)), rf, H', ⟨by have := HK1.out; omega⟩, ⟨kr HO349⟩, ⟨bk BK343⟩, ⟨bel⟩⟩
   ·
    have H' := Aside0.mk H
    clear H
    have ⟨_, _, _, _, _, _⟩ := cz3 BK343
    go_wp2
    go_loopg [3, 6] k1 (fun kq v3 v6 w' => ∃ (x3_2 : Int) (x4_2 : List Bool) (x6_2 : Int), v3 = .int .i64 x3_2 ∧ v6 = .int .i64 x6_2 ∧ Aside0 (spec_PartsOf.l1 kq x3_2 x4_2 x6_2 a0_0 a0_1 a0_2 = some r) ∧ Aside0 (kq ≤ k1) ∧ Aside0 (Kd.R Kd.bool 4 w' w.heap.size (fun _ => True) u4 x4_2) ∧ Aside0 (w'.heap[gb343]? = some (.cells #[.int .i64 a0_0, .int .i64 a0_1, .string a0_2] 32 (0, 0))) ∧ Aside0 (Below w.heap.size w w'))
    case atStart => exact ⟨(0), (x4_1), (0), rf, rf, H', ⟨Nat.le_refl _⟩, ⟨kr HO_4⟩, ⟨bk BK343⟩, ⟨bel⟩⟩
    case round =>
     clear H'
     obtain ⟨x3_2, x4_2, x6_2, rfl, rfl, HA, HK2, HO_4, BK343, HB⟩ := hrel
     cases gk with
     | zero => exact absurd HA.out (by simp [spec_PartsOf.l1])
     | succ k2 =>
      have H := HA.out
      clear HA
      simp only [spec_PartsOf.l1] at H
      have HC10 := Aside0.mk H
      clear H
      go_upto_region 8 with (fail)
      go_cut [29] (fun v29 wc => ∃ (kq : Nat) (x29_9 : Bool), v29 = .bool x29_9 ∧ Aside0 (spec_PartsOf.j2 kq x3_2 x4_2 x6_2 x29_9 a0_0 a0_1 a0_2 = some r) ∧ Aside0 (kq ≤ k2) ∧ Aside0 (Kd.R Kd.bool 4 wc w.heap.size (fun _ => True) u4 x4_2) ∧ Aside0 (wc.heap[gb343]? = some (.cells #[.int .i64 a0_0, .int .i64 a0_1, .string a0_2] 32 (0, 0))) ∧ Aside0 (Below w.heap.size w wc))
      case first =>
       have H := HC10.out
       clear HC10
       replace H := zc H
       rcases H with ⟨c11b0, H⟩ | ⟨c11b0, H⟩
       ·
        (first | rw [c11b0] | (simp only [i64_w, i32_w]; rw [c11b0]) | skip)
        replace H := zs H
        obtain ⟨t350, A12, H⟩ := H
        have H' := Aside0.mk H
        clear H
        have ⟨_, _, _, _, _, _⟩ := cz3 BK343
        go_wp2_with (first | (go_at_call 84; (with_reducible refine (spec_IsGrid.calls k2 a0_0 a0_1 a0_2 t350 _ A12.out).mono ?_); rintro e w14 ⟨rfl, hb⟩; replace HO_4 := zR HO_4 hb; replace BK343 := zk BK343 hb; replace HB := zB hb))
        go_meet
        case rel => exact ⟨_, (t350), rf, H', ⟨by have := HK1.out; have := HK2.out; first | omega | exact Nat.le_refl _⟩, ⟨kr HO_4⟩, ⟨bk BK343⟩, ⟨bel⟩⟩
       ·
        (first | rw [c11b0] | (simp only [i64_w, i32_w]; rw [c11b0]) | skip)
        have H' := Aside0.mk H
        clear H
        have ⟨_, _, _, _, _, _⟩ := cz3 BK343
        go_wp2
        go_meet
        case rel => exact ⟨_, (false), rf, H', ⟨by have := HK1.out; have := HK2.out; first | omega | exact Nat.le_refl _⟩, ⟨kr HO_4⟩, ⟨bk BK343⟩, ⟨bel⟩⟩
      case rest =>
       clear HC10
       obtain ⟨kq, x29_9, rfl, HA, HJ9, HO_4, BK343, HB⟩ := hcut
       cases kq with
       | zero => exact absurd HA.out (by simp [spec_PartsOf.j2])
       | succ kj9 =>
        have H := HA.out
        clear HA
        simp only [spec_PartsOf.j2] at H
        replace H := zb H
        rcases H with ⟨rfl, H⟩ | ⟨rfl, H⟩
        ·
         have HC17 := Aside0.mk H
         clear H
         go_upto_region 10 with (fail)
         go_cut [43] (fun v43 wc => ∃ (kq : Nat) (x43_16 : Bool), v43 = .bool x43_16 ∧ Aside0 (spec_PartsOf.j3 kq x3_2 x4_2 x6_2 x43_16 a0_0 a0_1 a0_2 = some r) ∧ Aside0 (kq ≤ kj9) ∧ Aside0 (Kd.R Kd.bool 4 wc w.heap.size (fun _ => True) u4 x4_2) ∧ Aside0 (wc.heap[gb343]? = some (.cells #[.int .i64 a0_0, .int .i64 a0_1, .string a0_2] 32 (0, 0))) ∧ Aside0 (Below w.heap.size w wc))
         case first =>
          have H := HC17.out
          clear HC17
          replace H := zr H
          obtain ⟨c18b0, H⟩ := H
          (first | rw [c18b0] | (simp only [i64_w, i32_w]; rw [c18b0]) | skip)
          replace H := zr H
          obtain ⟨c19b0, H⟩ := H
          by_cases c21 : (bt a0_2 x6_2) = 46
          ·
           rw [if_pos c21] at H
           have c21b0 : ((bt a0_2 x6_2) == 46) = true := beq_iff_eq.mpr c21
           have c21b1 : ((bt a0_2 x6_2) != 46) = false := bne_eq_false_iff_eq.mpr c21
           clear c21
           replace H := zr H
           obtain ⟨c22b0, H⟩ := H
           have H' := Aside0.mk H
           clear H
           have ⟨_, _, _, _, _, _⟩ := cz3 BK343
           obtain ⟨p20, q20, hx20⟩ := zxb a0_2 x6_2
           obtain ⟨Ao24, co24, eo24⟩ := Kd.R_slice HO_4.out
           subst eo24
           obtain ⟨p351, q351, ad351, e351, hx351_0⟩ := zx (Kd.at_bool (Kd.R_reads' HO_4.out).2.2 x6_2)
           cases e351
           go_wp2
           go_meet
           case rel => exact ⟨_, (!(rdOf false x4_2 x6_2)), rf, H', ⟨by have := HK1.out; have := HK2.out; have := HJ9.out; first | omega | exact Nat.le_refl _⟩, ⟨kr HO_4⟩, ⟨bk BK343⟩, ⟨bel⟩⟩
          ·
           rw [if_neg c21] at H
           have c21b0 : ((bt a0_2 x6_2) == 46) = false := beq_eq_false_iff_ne.mpr c21
           have c21b1 : ((bt a0_2 x6_2) != 46) = true := bne_iff_ne.mpr c21
           have H' := Aside0.mk H
           clear H
           have ⟨_, _, _, _, _, _⟩ := cz3 BK343
           obtain ⟨p20, q20, hx20⟩ := zxb a0_2 x6_2
           go_wp2
           go_meet
           case rel => exact ⟨_, (false), rf, H', ⟨by have := HK1.out; have := HK2.out; have := HJ9.out; first | omega | exact Nat.le_refl _⟩, ⟨kr HO_4⟩, ⟨bk BK343⟩, ⟨bel⟩⟩
         case rest =>
          clear HC17
          obtain ⟨kq, x43_16, rfl, HA, HJ16, HO_4, BK343, HB⟩ := hcut
          cases kq with
          | zero => exact absurd HA.out (by simp [spec_PartsOf.j3])
          | succ kj16 =>
           have H := HA.out
           clear HA
           simp only [spec_PartsOf.j3] at H
           replace H := zb H
           rcases H with ⟨rfl, H⟩ | ⟨rfl, H⟩
           ·
            generalize hy352 : (([] : List Bool) : List Bool) = y352 at H
            have Ny352 := Aside0.mk hy352.symm
            clear hy352
            have H' := Aside0.mk H
            clear H
            go_wp2_with (first | ((with_reducible refine gate_dst (N := 46) rfl ?_); refine Kd.R_lit Kd.bool _ 4 ?hg (N := 46) ?hd (xs := ([] : List Bool)) (inner := []) (ok := fun _ => True) (okp := fun _ => True) ?hr ?hp (fun _ hk => hk) trivial (Below.refl _ _) (Nat.le_refl _) (by simp) ?_; (case hd => rfl); (case hg => rfl); (case hr => first | (go_simp; done) | (go_simp; rfl)); (case hp => exact (Reps.none _ _)); intro v353 w27 ho28 hb hg_ hnew_; clear hg_ hnew_; (first | rw [← Ny352.out] at ho28 | (simp only [Int.reduceToNat] at ho28; rw [← Ny352.out] at ho28)); have HO354 := Aside0.mk (Kd.R_lower (Kd.R_new' ho28 (Kd.R_lt (kr HO_4))) bsz); replace HO_4 := Aside0.mk (Kd.R_elder' (kr HO_4) (Kd.R_base ho28) hb); replace BK343 := zk BK343 hb; replace HB := zB hb; clear hb ho28))
            go_loopg [7, 8] kj16 (fun kq v7 v8 w' => ∃ (x7_5 : List Bool) (x8_5 : Int), v8 = .int .i64 x8_5 ∧ Aside0 (spec_PartsOf.l2 kq (wrap64 (x3_2 + 1)) x4_2 x6_2 x7_5 x8_5 a0_0 a0_1 a0_2 = some r) ∧ Aside0 (kq ≤ kj16) ∧ Aside0 (Kd.R Kd.bool 4 w' w.heap.size (fun k_ => some k_ ≠ (v7 : Value).ownBlock) u4 x4_2) ∧ Aside0 (Kd.R Kd.bool 4 w' w.heap.size (fun k_ => some k_ ≠ (u4 : Value).ownBlock) v7 x7_5) ∧ Aside0 (w'.heap[gb343]? = some (.cells #[.int .i64 a0_0, .int .i64 a0_1, .string a0_2] 32 (0, 0))) ∧ Aside0 (Below w.heap.size w w'))
            case atStart => exact ⟨(y352), (0), rf, H', ⟨Nat.le_refl _⟩, ⟨by (with_reducible repeat (first | apply Kd.R_alloc | apply Kd.R_drewN | apply Kd.R_drew)); exact Kd.R_mono HO_4.out (fun _ hk => hk.2)⟩, ⟨by (with_reducible repeat (first | apply Kd.R_alloc | apply Kd.R_drewN | apply Kd.R_drew)); exact Kd.R_mono HO354.out (fun _ hk => hk.2)⟩, ⟨bk BK343⟩, ⟨bel⟩⟩
            case round =>
             clear H'
             obtain ⟨x7_5, x8_5, rfl, HA, HK5, HO_4, HO_7, BK343, HB⟩ := hrel
             cases gk with
             | zero => exact absurd HA.out (by simp [spec_PartsOf.l2])
             | succ k5 =>
              have H := HA.out
              clear HA
              simp only [spec_PartsOf.l2] at H
              replace H := zc H
              rcases H with ⟨c29b0, H⟩ | ⟨c29b0, H⟩
              ·
               replace H := zl H
               obtain ⟨LMc30, H⟩ := H
               generalize hy355 : (x7_5 ++ [false] : List Bool) = y355 at H
               have Ny355 := Aside0.mk hy355.symm
               clear hy355
               have H' := Aside0.mk H
               clear H
               obtain ⟨Ao31, co31, eo31⟩ := Kd.R_slice HO_4.out
               subst eo31
               go_wp2_with (first | ((with_reducible refine gate_builtin (b := .append) (xs := #[.tmp 53, .tmp 54]) rfl ?_); at_builtin; refine Kd.R_append Kd.bool (w0 := w) w.heap.size rfl (.tmp 53) (.tmp 54) 174 4 (.bool false) 1 rfl Tryz.underlying174 info4 rfl (by decide) (by omega) u7 x7_5 false [.bool false] (fun k_ => some k_ ≠ (.slice Ao31 x4_2.length co31 : Value).ownBlock) (fun _ => False) rfl rfl ?aP (fun _ hk => hk.elim) ?aF ?aO ?aB ?aS ?aL ?_; (case aP => exact rfl); (case aB => exact bel); (case aF => exact (fun k_ hk => Kd.fresh' (Kd.R_lt (kr HO_4)) k_ hk)); (case aO => exact (kr HO_7)); (case aS => exact bsz); (case aL => have := LMc30.out; omega); intro v356 w32 ho hb hg hat; rw [← Ny355.out] at ho; replace HO_4 := Aside0.mk (Kd.R_after (ok := (fun _ => True)) (by (with_reducible repeat (first | apply Kd.R_alloc | apply Kd.R_drewN | apply Kd.R_drew)); exact Kd.R_mono HO_4.out (fun _ hk => ⟨trivial, hk⟩)) hg hat); replace BK343 := Aside0.mk (blk_grown (bk BK343) hg (Kd.R_ne HO_7.out BK343.out (by decide))); replace HB := Aside0.mk hb; have HO357 := Aside0.mk ho; clear HO_7; clear ho hb hg hat))
               go_roundg k5
               case measure => have := HK1.out; have := HK2.out; have := HJ9.out; have := HJ16.out; have := HK5.out; omega
               case rel => exact ⟨(y355), (wrap64 (x8_5 + 1)), rf, H', ⟨by have := HK1.out; have := HK2.out; have := HJ9.out; have := HJ16.out; have := HK5.out; omega⟩, ⟨by (with_reducible repeat (first | apply Kd.R_alloc | apply Kd.R_drewN | apply Kd.R_drew)); exact Kd.R_mono HO_4.out (fun _ hk => hk.2)⟩, ⟨kr HO357⟩, ⟨bk BK343⟩, ⟨bel⟩⟩
              ·
               replace H := zs H
               obtain ⟨t358, A33, H⟩ := H
               have H' := Aside0.mk H
               clear H
               obtain ⟨Ao34, co34, eo34⟩ := Kd.R_slice HO_4.out
               subst eo34
               have ⟨_, _, _, _, _, _⟩ := cz3 BK343
               obtain ⟨Ao36, co36, eo36⟩ := Kd.R_slice HO_7.out
               subst eo36
               go_wp2_with (first | ((with_reducible refine gate_callee (f := 171) rfl ?_); refine goesL_ (some 59) rfl rfl Tryz.func171 (by kernel_rfl) rfl #[.agg #[.int .i64 a0_0, .int .i64 a0_1, .string a0_2], .slice Ao36 x7_5.length co36, .int .i64 x6_2] rfl ga ?_; (with_reducible refine (spec_l10Reach.calls k5 a0_0 a0_1 a0_2 (fun k_ => some k_ = (.slice Ao36 x7_5.length co36 : Value).ownBlock) (.slice Ao36 x7_5.length co36) x7_5 x6_2 t358 w _ ?side1 ?side2 A33.out).mono ?_); (case side1 => repeat (first | (with_reducible first | exact HB.out | apply below_alloc | apply pw_below_drewN | apply below_drew1 | refine below_set ?_ GE343.out) | exact HB.out)); (case side2 => exact Kd.R_tight rfl HO_7.out); rintro e w37 ⟨v359, rfl, ho0, hb, hkp⟩; refine ⟨_, rfl, ?_⟩; replace BK343 := Aside0.mk (blk_kept (bk BK343) hkp (fun hs_ => (fun e_ => (Kd.R_ne HO_7.out BK343.out (by decide)) e_) hs_)); have HO360 := Aside0.mk (Kd.R_mono (ok' := fun k_ => some k_ ≠ (.slice Ao34 x4_2.length co34 : Value).ownBlock) ho0 (fun k_ hk_ => Or.elim hk_ (fun hs_ => fun e_ => (((HO_4.out).1 k_ e_.symm)) hs_) (fun hn_ => (Kd.fresh' (Kd.R_lt (kr HO_4)) k_ hn_)))); replace HO_4 := Aside0.mk (Kd.R_mono (ok' := fun k_ => some k_ ≠ (v359 : Value).ownBlock) (Kd.R_keptB (HO_4.out) hkp (fun k_ hk_ hs_ => (hk_) hs_)) (fun k_ hk_ => fun e_ => Or.elim (ho0.1 k_ e_.symm) (fun hs_ => hk_.2.1 hs_) (fun hn_ => Nat.not_le.2 hk_.2.2 hn_))); replace HB := Aside0.mk hb; clear HO_7))
               go_loopg [9] k5 (fun kq v9 w' => ∃ (x4_6 : List Bool) (x9_6 : Int), v9 = .int .i64 x9_6 ∧ Aside0 (spec_PartsOf.l3 kq (wrap64 (x3_2 + 1)) x4_6 x6_2 t358 x9_6 a0_0 a0_1 a0_2 = some r) ∧ Aside0 (kq ≤ k5) ∧ Aside0 (Kd.R Kd.bool 4 w' w.heap.size (fun k_ => some k_ ≠ (v359 : Value).ownBlock) (.slice Ao34 x4_2.length co34) x4_6) ∧ Aside0 (Kd.R Kd.bool 4 w' w.heap.size (fun k_ => some k_ ≠ ((.slice Ao34 x4_2.length co34) : Value).ownBlock) v359 t358) ∧ Aside0 (w'.heap[gb343]? = some (.cells #[.int .i64 a0_0, .int .i64 a0_1, .string a0_2] 32 (0, 0))) ∧ Aside0 (Below w.heap.size w w'))
               case atStart => exact ⟨(x4_2), (0), rf, H', ⟨Nat.le_refl _⟩, ⟨kr HO_4⟩, ⟨kr HO360⟩, ⟨bk BK343⟩, ⟨bel⟩⟩
               case round =>
                clear H'
                obtain ⟨x4_6, x9_6, rfl, HA, HK6, HO_4, HO_7, BK343, HB⟩ := hrel
                have hl4_6 := (Kd.R_reads' HO_4.out).1
                rw [hl4_6] at HO_4
                (try simp only [hl4_6])
                (try simp only [hl4_6] at BK343)
                (try simp only [hl4_6] at HO_7)
                cases gk with
                | zero => exact absurd HA.out (by simp [spec_PartsOf.l3])
                | succ k6 =>
                 have H := HA.out
                 clear HA
                 simp only [spec_PartsOf.l3] at H
                 replace H := zc H
                 rcases H with ⟨c38b0, H⟩ | ⟨c38b0, H⟩
                 ·
                  replace H := zr H
                  obtain ⟨c39b0, H⟩ := H
                  obtain ⟨bq40, hbq40⟩ : ∃ b_ : Bool, b_ = (rdOf false x4_6 x9_6) := ⟨_, rfl⟩
                  replace H : (if bq40 = true then (spec_PartsOf.l3 k6 (wrap64 (x3_2 + 1)) (x4_6.set (x9_6 : Int).toNat true) x6_2 t358 (wrap64 (x9_6 + 1)) a0_0 a0_1 a0_2) else (if x9_6 < (t358.length : Int) then (spec_PartsOf.l3 k6 (wrap64 (x3_2 + 1)) (x4_6.set (x9_6 : Int).toNat (rdOf false t358 x9_6)) x6_2 t358 (wrap64 (x9_6 + 1)) a0_0 a0_1 a0_2) else (none))) = some r := by rw [← hbq40] at H; exact H
                  have Nbq40 := Aside0.mk hbq40
                  clear hbq40
                  replace H := zb H
                  rcases H with ⟨rfl, H⟩ | ⟨rfl, H⟩
                  ·
                   generalize hy362 : (x4_6.set (x9_6 : Int).toNat true : List Bool) = y362 at H
                   have Ny362 := Aside0.mk hy362.symm
                   clear hy362
                   have H' := Aside0.mk H
                   clear H
                   obtain ⟨p361, q361, ad361, e361, hx361_0⟩ := zx (Kd.at_bool (Kd.R_reads' HO_4.out).2.2 x9_6)
                   (try rw [← Nbq40.out] at hx361_0)
                   cases e361
                   have p42 : 0 ≤ (x9_6 : Int) := of_decide_eq_true asm
                   have q42 : (x9_6 : Int) < ((x4_6.length : Int) : Int) := of_decide_eq_true asm
                   obtain ⟨go42, co42, eo42, gb42, gl42, cl42, HG42⟩ := Kd.R_form HO_4.out (by omega)
                   (first | cases eo42 | (injection eo42 with ea_ en_ ec_; (first | subst ea_ | (injection ea_ with ea_; subst ea_)); subst ec_; clear en_))
                   have GB42 := Aside0.mk gb42
                   have GG42 := Aside0.mk HG42
                   clear gb42 gl42 HG42
                   (first | simp only [add_plain] at hx361_0 | skip)
                   obtain ⟨hx42_0, hf42_0⟩ := Kd.R_celln false HO_4.out (x9_6 : Int) p42 q42
                   replace p42 := eq_true p42
                   replace q42 := eq_true q42
                   have HP43 := Kd.R_putg HO_4.out (x9_6 : Int) true
                   go_wp2_with (first | ((with_reducible refine gate_store (t := 4) (p := 78) rfl ?_); refine store_event (t := 4) (p := 78) (v := ?vo_w44) (w1 := (wr.setCell ⟨go42, (x9_6 : Int).toNat, none⟩ (.bool true))) ?hg ?ho ?hn ?hr ?_; (case ho => rfl); (case hg => rfl); (case hn => rfl); (case hr => first | (go_simp; done) | (go_simp; rfl)); intro w44 hw; have hg : wr.grownBy w44 (some go42) := (by rw [hw]; exact HP43.2); have hp_ : Kd.R Kd.bool 4 w44 w.heap.size (fun k_ => some k_ ≠ (v359 : Value).ownBlock) (.slice (some ⟨go42, 0, none⟩) x4_6.length co34) y362 := (by rw [hw, Ny362.out]; exact HP43.1); clear HP43; replace HO_7 := Aside0.mk (Kd.R_after (v := (.slice (some ⟨go42, 0, none⟩) x4_6.length co34)) (v1 := (.slice (some ⟨go42, 0, none⟩) x4_6.length co34)) (ok := (fun _ => True)) (by (with_reducible repeat (first | apply Kd.R_alloc | apply Kd.R_drewN | apply Kd.R_drew)); exact Kd.R_mono HO_7.out (fun _ hk => ⟨trivial, hk⟩)) hg (.inl rfl)); replace BK343 := Aside0.mk (blk_grown (bk BK343) hg (Kd.R_ne HO_4.out BK343.out (by decide))); replace HO_4 := Aside0.mk hp_; replace HB := Aside0.mk ((by rw [hw]; exact below_set (HB.out) GB42.out : Below w.heap.size w w44)); clear hg hw hp_))
                   (try simp only [← hl4_6])
                   go_roundg k6
                   case measure => have := HK1.out; have := HK2.out; have := HJ9.out; have := HJ16.out; have := HK5.out; have := HK6.out; omega
                   case rel => exact ⟨(y362), (wrap64 (x9_6 + 1)), rf, H', ⟨by have := HK1.out; have := HK2.out; have := HJ9.out; have := HJ16.out; have := HK5.out; have := HK6.out; omega⟩, ⟨by (try simp only [hl4_6]); (with_reducible repeat (first | apply Kd.R_alloc | apply Kd.R_drewN | apply Kd.R_drew)); exact HO_4.out⟩, ⟨by (try simp only [hl4_6]); (with_reducible repeat (first | apply Kd.R_alloc | apply Kd.R_drewN | apply Kd.R_drew)); exact Kd.R_mono HO_7.out (fun _ hk => hk.2)⟩, ⟨by (try simp only [hl4_6]); (with_reducible repeat (first | refine blk_drewN ?_ _ | refine blk_drew ?_ | refine blk_alloc ?_ _)); exact BK343.out⟩, ⟨bel⟩⟩
                  ·
                   replace H := zr H
                   obtain ⟨c45b0, H⟩ := H
                   generalize hy364 : (x4_6.set (x9_6 : Int).toNat (rdOf false t358 x9_6) : List Bool) = y364 at H
                   have Ny364 := Aside0.mk hy364.symm
                   clear hy364
                   have H' := Aside0.mk H
                   clear H
                   obtain ⟨p361, q361, ad361, e361, hx361_0⟩ := zx (Kd.at_bool (Kd.R_reads' HO_4.out).2.2 x9_6)
                   (try rw [← Nbq40.out] at hx361_0)
                   cases e361
                   obtain ⟨Ao47, co47, eo47⟩ := Kd.R_slice HO_7.out
                   subst eo47
                   obtain ⟨p363, q363, ad363, e363, hx363_0⟩ := zx (Kd.at_bool (Kd.R_reads' HO_7.out).2.2 x9_6)
                   (try rw [← Nbq40.out] at hx363_0)
                   cases e363
                   have p46 : 0 ≤ (x9_6 : Int) := of_decide_eq_true asm
                   have q46 : (x9_6 : Int) < ((x4_6.length : Int) : Int) := of_decide_eq_true asm
                   obtain ⟨go46, co46, eo46, gb46, gl46, cl46, HG46⟩ := Kd.R_form HO_4.out (by omega)
                   (first | cases eo46 | (injection eo46 with ea_ en_ ec_; (first | subst ea_ | (injection ea_ with ea_; subst ea_)); subst ec_; clear en_))
                   have GB46 := Aside0.mk gb46
                   have GG46 := Aside0.mk HG46
                   clear gb46 gl46 HG46
                   (first | simp only [add_plain] at hx361_0 | skip)
                   obtain ⟨hx46_0, hf46_0⟩ := Kd.R_celln false HO_4.out (x9_6 : Int) p46 q46
                   replace p46 := eq_true p46
                   replace q46 := eq_true q46
                   have HP48 := Kd.R_putg HO_4.out (x9_6 : Int) (rdOf false t358 x9_6)
                   go_wp2_with (first | ((with_reducible refine gate_store (t := 4) (p := 78) rfl ?_); refine store_event (t := 4) (p := 78) (v := ?vo_w49) (w1 := (wr.setCell ⟨go46, (x9_6 : Int).toNat, none⟩ (.bool (rdOf false t358 x9_6)))) ?hg ?ho ?hn ?hr ?_; (case ho => rfl); (case hg => rfl); (case hn => rfl); (case hr => first | (go_simp; done) | (go_simp; rfl)); intro w49 hw; have hg : wr.grownBy w49 (some go46) := (by rw [hw]; exact HP48.2); have hp_ : Kd.R Kd.bool 4 w49 w.heap.size (fun k_ => some k_ ≠ (.slice (some ad363) t358.length co47 : Value).ownBlock) (.slice (some ⟨go46, 0, none⟩) x4_6.length co34) y364 := (by rw [hw, Ny364.out]; exact HP48.1); clear HP48; replace HO_7 := Aside0.mk (Kd.R_after (v := (.slice (some ⟨go46, 0, none⟩) x4_6.length co34)) (v1 := (.slice (some ⟨go46, 0, none⟩) x4_6.length co34)) (ok := (fun _ => True)) (by (with_reducible repeat (first | apply Kd.R_alloc | apply Kd.R_drewN | apply Kd.R_drew)); exact Kd.R_mono HO_7.out (fun _ hk => ⟨trivial, hk⟩)) hg (.inl rfl)); replace BK343 := Aside0.mk (blk_grown (bk BK343) hg (Kd.R_ne HO_4.out BK343.out (by decide))); replace HO_4 := Aside0.mk hp_; replace HB := Aside0.mk ((by rw [hw]; exact below_set (HB.out) GB46.out : Below w.heap.size w w49)); clear hg hw hp_))
                   (try simp only [← hl4_6])
                   go_roundg k6
                   case measure => have := HK1.out; have := HK2.out; have := HJ9.out; have := HJ16.out; have := HK5.out; have := HK6.out; omega
                   case rel => exact ⟨(y364), (wrap64 (x9_6 + 1)), rf, H', ⟨by have := HK1.out; have := HK2.out; have := HJ9.out; have := HJ16.out; have := HK5.out; have := HK6.out; omega⟩, ⟨by (try simp only [hl4_6]); (with_reducible repeat (first | apply Kd.R_alloc | apply Kd.R_drewN | apply Kd.R_drew)); exact HO_4.out⟩, ⟨by (try simp only [hl4_6]); (with_reducible repeat (first | apply Kd.R_alloc | apply Kd.R_drewN | apply Kd.R_drew)); exact Kd.R_mono HO_7.out (fun _ hk => hk.2)⟩, ⟨by (try simp only [hl4_6]); (with_reducible repeat (first | refine blk_drewN ?_ _ | refine blk_drew ?_ | refine blk_alloc ?_ _)); exact BK343.out⟩, ⟨bel⟩⟩
                 ·
                  have H' := Aside0.mk H
                  clear H
                  go_wp2
                  (try simp only [← hl4_6])
                  go_roundg k6
                  case measure => have := HK1.out; have := HK2.out; have := HJ9.out; have := HJ16.out; have := HK5.out; have := HK6.out; omega
                  case rel => exact ⟨((wrap64 (x3_2 + 1))), (x4_6), (wrap64 (x6_2 + 1)), rf, rf, H', ⟨by have := HK1.out; have := HK2.out; have := HJ9.out; have := HJ16.out; have := HK5.out; have := HK6.out; omega⟩, ⟨by (try simp only [hl4_6]); (with_reducible repeat (first | apply Kd.R_alloc | apply Kd.R_drewN | apply Kd.R_drew)); exact Kd.R_mono HO_4.out (fun _ hk => trivial)⟩, ⟨by (try simp only [hl4_6]); (with_reducible repeat (first | refine blk_drewN ?_ _ | refine blk_drew ?_ | refine blk_alloc ?_ _)); exact BK343.out⟩, ⟨bel⟩⟩
           ·
            have H' := Aside0.mk H
            clear H
            go_wp2
            go_roundg kj16
            case measure => have := HK1.out; have := HK2.out; have := HJ9.out; have := HJ16.out; omega
            case rel => exact ⟨(x3_2), (x4_2), (wrap64 (x6_2 + 1)), rf, rf, H', ⟨by have := HK1.out; have := HK2.out; have := HJ9.out; have := HJ16.out; omega⟩, ⟨kr HO_4⟩, ⟨bk BK343⟩, ⟨bel⟩⟩
        ·
         obtain rfl := Option.some.inj H
         go_wp2
         go_ret
         exact ⟨er, bel⟩

/-! ### spec_IsConnected: function 126 -/
def spec_IsConnected.f (k : Nat) (a b : Int) (c : ByteArray) : Option (Bool) := (spec_PartsOf.f k a b c).bind fun d => (some (d == 1))
set_option maxHeartbeats 8000000 in
set_option maxRecDepth 100000 in
theorem spec_IsConnected.calls (k : Nat) (a0_0 a0_1 : Int) (a0_2 : ByteArray) (r : Bool) (w : World) (H : spec_IsConnected.f k a0_0 a0_1 a0_2 = some r) :
  Calls Tryz.prog 126 #[.agg #[.int .i64 a0_0, .int .i64 a0_1, .string a0_2]] w fun e w' => e = .returned (.bool r) ∧ Below w.heap.size w w' := by
 have hu32 := Tryz.underlying32
 have HB := Aside0.mk (Below.refl w.heap.size w)
 unfold spec_IsConnected.f at H
 replace H := zs H
 obtain ⟨t366, A2, H⟩ := H
 obtain rfl := Option.some.inj H
 go_enter Tryz.func126, Tryz.ntmps126
 go_wp2_with (first | ((with_reducible refine zd 1 rfl ?_); refine zbx (w := w) #[.int .i64 a0_0, .int .i64 a0_1, .string a0_2] 32 ?_; intro gb365 hg w3 BK365 hb; have GW365 := zg (w := w) hg; replace HB := zB hb; clear hb hg; have ⟨_, _, _, _, _, _⟩ := cz3 BK365) | ((with_reducible refine zd 4 rfl ?_); refine zgl Tryz.func148 (spec_PartsOf.calls k a0_0 a0_1 a0_2 t366 _ A2.out) ?_; rintro e w5 ⟨rfl, hb⟩; refine ⟨_, rfl, ?_⟩; replace BK365 := zk BK365 hb; replace HB := zB hb))
 go_ret
 exact ⟨er, bel⟩

/-! ### spec_l10Short: function 127 -/
def spec_l10Short.l0 : Nat → List (S132) → Int → Option (Bool)
 | 0, _, _ => none
 | k + 1, a, b => if b < (a.length : Int) then (if 0 ≤ b then (if ((rd_T132 a b).f3) < 3 then (some true) else (spec_l10Short.l0 k a (wrap64 (b + 1)))) else (none)) else (some false)
def spec_l10Short.f (k : Nat) (a b : Int) (c : ByteArray) : Option (Bool) := (spec_SlotsOf.f k a b c).bind fun d => (spec_l10Short.l0 k d 0)
set_option maxHeartbeats 8000000 in
set_option maxRecDepth 100000 in
theorem spec_l10Short.calls (k : Nat) (a0_0 a0_1 : Int) (a0_2 : ByteArray) (r : Bool) (w : World) (H : spec_l10Short.f k a0_0 a0_1 a0_2 = some r) :
  Calls Tryz.prog 127 #[.agg #[.int .i64 a0_0, .int .i64 a0_1, .string a0_2]] w fun e w' => e = .returned (.bool r) ∧ Below w.heap.size w w' := by
 have hu32 := Tryz.underlying32
 have HB := Aside0.mk (Below.refl w.heap.size w)
 unfold spec_l10Short.f at H
 replace H := zs H
 obtain ⟨t368, A2, H⟩ := H
 have H' := Aside0.mk H
 clear H
 go_enter Tryz.func127, Tryz.ntmps127
 go_wp2_with (first | ((with_reducible refine zd 1 rfl ?_); refine zbx (w := w) #[.int .i64 a0_0, .int .i64 a0_1, .string a0_2] 32 ?_; intro gb367 hg w3 BK367 hb; have GW367 := zg (w := w) hg; replace HB := zB hb; clear hb hg; have ⟨_, _, _, _, _, _⟩ := cz3 BK367) | ((with_reducible refine zd 6 rfl ?_); refine zgl Tryz.func87 (spec_SlotsOf.calls k a0_0 a0_1 a0_2 t368 _ A2.out) ?_; rintro e w5 ⟨v369, rfl, ho0, hb⟩; refine ⟨_, rfl, ?_⟩; have HO370 := zl2 ho0; replace BK367 := zk BK367 hb; replace HB := zB hb))
 go_loopg [4] k (fun kq v4 w' => ∃ (x4_1 : Int), v4 = .int .i64 x4_1 ∧ Aside0 (spec_l10Short.l0 kq t368 x4_1 = some r) ∧ Aside0 (kq ≤ k) ∧ Aside0 (Kd.R k132 132 w' w.heap.size (fun _ => True) v369 t368) ∧ Aside0 (w'.heap[gb367]? = some (.cells #[.int .i64 a0_0, .int .i64 a0_1, .string a0_2] 32 (0, 0))) ∧ Aside0 (Below w.heap.size w w'))
 case atStart => exact ⟨(0), rf, H', ⟨Nat.le_refl _⟩, ⟨kr HO370⟩, ⟨bk BK367⟩, ⟨bel⟩⟩
 case round =>
  clear H'
  obtain ⟨x4_1, rfl, HA, HK1, HO_3, BK367, HB⟩ := hrel
  cases gk with
  | zero => exact absurd HA.out (by simp [spec_l10Short.l0])
  | succ k1 =>
   have H := HA.out
   clear HA
   simp only [spec_l10Short.l0] at H
   replace H := zc H
   rcases H with ⟨c6b0, H⟩ | ⟨c6b0, H⟩
   ·
    replace H := zr H
    obtain ⟨c7b0, H⟩ := H
    replace H := zc H
    rcases H with ⟨c8b0, H⟩ | ⟨c8b0, H⟩
    ·
     obtain rfl := Option.some.inj H
     obtain ⟨Ao9, co9, eo9⟩ := Kd.R_slice HO_3.out
     subst eo9
     obtain ⟨p371, q371, ad371, e371, hx371_0, hx371_1, hx371_2, hx371_3⟩ := zx (at_T132 (Kd.R_reads' HO_3.out).2.2 x4_1)
     cases e371
     go_wp2
     go_ret
     exact ⟨er, bel⟩
    ·
     have H' := Aside0.mk H
     clear H
     obtain ⟨Ao10, co10, eo10⟩ := Kd.R_slice HO_3.out
     subst eo10
     obtain ⟨p371, q371, ad371, e371, hx371_0, hx371_1, hx371_2, hx371_3⟩ := zx (at_T132 (Kd.R_reads' HO_3.out).2.2 x4_1)
     cases e371
     go_wp2
     go_roundg k1
     case measure => have := HK1.out; omega
     case rel => exact ⟨(wrap64 (x4_1 + 1)), rf, H', ⟨by have := HK1.out; omega⟩, ⟨kr HO_3⟩, ⟨bk BK367⟩, ⟨bel⟩⟩
   ·
    obtain rfl := Option.some.inj H
    obtain ⟨Ao11, co11, eo11⟩ := Kd.R_slice HO_3.out
    subst eo11
    go_wp2
    go_ret
    exact ⟨er, bel⟩

/-! ### spec_l8Has: function 173 -/
def spec_l8Has.l0 : Nat → List Int → Int → Int → Option (Bool)
 | 0, _, _, _ => none
 | k + 1, a, b, c => if c < (a.length : Int) then (if 0 ≤ c then (if (rd a c) = b then (some true) else (spec_l8Has.l0 k a b (wrap64 (c + 1)))) else (none)) else (some false)
def spec_l8Has.f (k : Nat) (a : List Int) (b : Int) : Option (Bool) := spec_l8Has.l0 k a b 0
set_option maxHeartbeats 8000000 in
set_option maxRecDepth 100000 in
theorem spec_l8Has.calls (k : Nat) (A0 : Option Addr) (c0 : Nat) (l0 : List Int) (a1 : Int) (r : Bool) (w : World) (hr0 : Kd.C (Kd.int .i64) w A0 l0.length l0) (hc0 : l0.length ≤ c0) (H : spec_l8Has.f k l0 a1 = some r) :
  Calls Tryz.prog 173 #[.slice A0 l0.length c0, .int .i64 a1] w fun e w' => e = .returned (.bool r) ∧ Drawn0 w w' := by
 have HR0 := Aside0.mk hr0
 have HC0 := Aside0.mk hc0
 clear hr0 hc0
 unfold spec_l8Has.f at H
 have H' := Aside0.mk H
 clear H
 go_enter Tryz.func173, Tryz.ntmps173
 go_wp2
 go_loopg [5] k (fun kq v5 w' => ∃ (x5_1 : Int), v5 = .int .i64 x5_1 ∧ Aside0 (spec_l8Has.l0 kq l0 a1 x5_1 = some r) ∧ Aside0 (kq ≤ k) ∧ Drawn0 w w')
 case atStart => exact ⟨(0), rf, H', ⟨Nat.le_refl _⟩, by repeat (first | exact Drawn0.refl _ | apply Drawn0.step)⟩
 case round =>
  clear H'
  obtain ⟨x5_1, rfl, HA, HK1, ⟨m1, rfl⟩⟩ := hrel
  cases gk with
  | zero => exact absurd HA.out (by simp [spec_l8Has.l0])
  | succ k1 =>
   have H := HA.out
   clear HA
   simp only [spec_l8Has.l0] at H
   replace H := zc H
   rcases H with ⟨c3b0, H⟩ | ⟨c3b0, H⟩
   ·
    replace H := zr H
    obtain ⟨c4b0, H⟩ := H
    by_cases c5 : (rd l0 x5_1) = a1
    ·
     rw [if_pos c5] at H
     have c5b0 : ((rd l0 x5_1) == a1) = true := beq_iff_eq.mpr c5
     have c5b1 : ((rd l0 x5_1) != a1) = false := bne_eq_false_iff_eq.mpr c5
     clear c5
     obtain rfl := Option.some.inj H
     obtain ⟨p372, q372, ad372, e372, hx372_0⟩ := zx (Kd.at_int HR0.out x5_1)
     cases e372
     go_wp2
     go_ret
     exact ⟨by first | rfl | (simp; done) | (simp [*]; done), by repeat (first | exact Drawn0.refl _ | apply Drawn0.step)⟩
    ·
     rw [if_neg c5] at H
     have c5b0 : ((rd l0 x5_1) == a1) = false := beq_eq_false_iff_ne.mpr c5
     have c5b1 : ((rd l0 x5_1) != a1) = true := bne_iff_ne.mpr c5
     have H' := Aside0.mk H
     clear H
     obtain ⟨p372, q372, ad372, e372, hx372_0⟩ := zx (Kd.at_int HR0.out x5_1)
     cases e372
     go_wp2
     go_roundg k1
     case measure => have := HK1.out; omega
     case rel => exact ⟨(wrap64 (x5_1 + 1)), rf, H', ⟨by have := HK1.out; omega⟩, by repeat (first | exact Drawn0.refl _ | apply Drawn0.step)⟩
   ·
    obtain rfl := Option.some.inj H
    go_wp2
    go_ret
    exact ⟨by first | rfl | (simp; done) | (simp [*]; done), by repeat (first | exact Drawn0.refl _ | apply Drawn0.step)⟩

end Go.Proofs.YtpcdfjcbjbkliaaGreat.E
