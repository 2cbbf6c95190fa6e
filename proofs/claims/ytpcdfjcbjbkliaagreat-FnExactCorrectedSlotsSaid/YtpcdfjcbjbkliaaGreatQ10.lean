import Derived.Test.YtpcdfjcbjbkliaaGreatSq
import Derived.Test.YtpcdfjcbjbkliaaGreatQ0
namespace Go.Proofs.YtpcdfjcbjbkliaaGreat.E
open Go.RowKit Go.Proofs.YtpcdfjcbjbkliaaGreatW.PrintWords Go.Proofs.YtpcdfjcbjbkliaaGreatW.PrintLast Go.Proofs.YtpcdfjcbjbkliaaGreatW.PrintMore
attribute [local go_sem] max2_int min2_int max_two min_two max_three min_three max_four min_four
set_option linter.unusedVariables false
set_option linter.unusedSimpArgs false

/-! ### spec_l10Reach: function 171 -/
def spec_l10Reach.n1 (p : Prop) [Decidable p] (x : List Bool) (j : Int) (D : Option Bool) : Option Bool := if p then (if 0 ≤ j then (if j < (x.length : Int) then (if rdOf false x j = true then some true else D) else none) else none) else D
def spec_l10Reach.nr (a : List Bool) (b c : Int) : Option Bool := spec_l10Reach.n1 (Int.tmod b c > 0) a (wrap64 (b - 1)) (spec_l10Reach.n1 (wrap64 ((Int.tmod b c) + 1) < c) a (wrap64 (b + 1)) (spec_l10Reach.n1 (b ≥ c) a (wrap64 (b - c)) (spec_l10Reach.n1 (wrap64 (b + c) < (a.length : Int)) a (wrap64 (b + c)) (some false))))
theorem spec_l10Reach.n1_cases {p : Prop} [d : Decidable p] {x : List Bool} {j : Int} {D : Option Bool} {b : Bool} (h : spec_l10Reach.n1 p x j D = some b) :
  (decide p = true ∧ decide (0 ≤ j) = true ∧ decide (j < (x.length : Int)) = true ∧ rdOf false x j = true ∧ b = true) ∨ (decide p = true ∧ decide (0 ≤ j) = true ∧ decide (j < (x.length : Int)) = true ∧ rdOf false x j = false ∧ D = some b) ∨ (decide p = false ∧ D = some b) := by
 unfold spec_l10Reach.n1 at h
 rcases zc h with ⟨c1, h⟩ | ⟨c1, h⟩
 ·
  obtain ⟨c2, h⟩ := zr h
  obtain ⟨c3, h⟩ := zr h
  rcases zb h with ⟨c4, h⟩ | ⟨c4, h⟩
  · cases h; exact .inl ⟨c1, c2, c3, c4, rfl⟩
  · exact .inr (.inl ⟨c1, c2, c3, c4, h⟩)
 · exact .inr (.inr ⟨c1, h⟩)
theorem spec_l10Reach.rd {w : World} {g c base : Nat} {ok : Nat → Prop} {x : List Bool} {j : Int} {b : Bool} (h : Aside0 (Kd.R Kd.bool 4 w base ok (.slice (some ⟨g, 0, none⟩) x.length c) x)) (p : decide (0 ≤ j) = true) (q : decide (j < (x.length : Int)) = true) (v : rdOf false x j = b) :
  (0 ≤ j) = True ∧ (j < (x.length : Int)) = True ∧ w.cell? ⟨g, j.toNat, none⟩ = some (.bool b) := by
 obtain ⟨ad, e, hx⟩ := Kd.at_bool (Kd.R_reads' h.out).2.2 j (of_decide_eq_true p) (of_decide_eq_true q)
 obtain rfl : (⟨g, 0, none⟩ : Addr) = ad := (by injection e)
 rw [v, add_plain] at hx
 exact ⟨eq_true (of_decide_eq_true p), eq_true (of_decide_eq_true q), hx⟩
mutual
def spec_l10Reach.l0 : Nat → List Bool → Bool → Int → Int → ByteArray → Option (List Bool)
 | 0, _, _, _, _, _ => none
 | k + 1, a, b, c, d, e => if b = true then (spec_l10Reach.l1 k a false 0 c d e) else (some a)
def spec_l10Reach.l1 : Nat → List Bool → Bool → Int → Int → Int → ByteArray → Option (List Bool)
 | 0, _, _, _, _, _, _ => none
 | k + 1, a, b, c, d, e, f => if c < (a.length : Int) then (if 0 ≤ c then (if rdOf false a c = true then (spec_l10Reach.j2 k a b c true d e f) else (if c < (f.size : Int) then (spec_l10Reach.j2 k a b c ((bt f c) != 46) d e f) else (none))) else (none)) else (spec_l10Reach.l0 k a b d e f)
def spec_l10Reach.j2 : Nat → List Bool → Bool → Int → Bool → Int → Int → ByteArray → Option (List Bool)
 | 0, _, _, _, _, _, _, _ => none
 | k + 1, a, b, c, d, e, f, g => if d = true then (spec_l10Reach.l1 k a b (wrap64 (c + 1)) e f g) else (if f = 0 then (none) else ((spec_l10Reach.nr a c f).bind fun h => if h = true then (if 0 ≤ c then (if c < (a.length : Int) then (spec_l10Reach.l1 k (a.set (c : Int).toNat true) true (wrap64 (c + 1)) e f g) else (none)) else (none)) else (spec_l10Reach.l1 k a b (wrap64 (c + 1)) e f g)))
end
def spec_l10Reach.f (k : Nat) (a b : Int) (c : ByteArray) (d : List Bool) (e : Int) : Option (List Bool) := if 0 ≤ e then (if e < (d.length : Int) then (spec_l10Reach.l0 k (d.set (e : Int).toNat true) true a b c) else (none)) else (none)
set_option maxHeartbeats 8000000 in
set_option maxRecDepth 100000 in
theorem spec_l10Reach.calls (k : Nat) (a0_0 a0_1 : Int) (a0_2 : ByteArray) (P1_ : Nat → Prop) (u9000_ : Value) (l1 : List Bool) (a2 : Int) (r : List Bool) (w0 w : World) (hB : Below w0.heap.size w0 w) (ho1 : Kd.R Kd.bool 4 w w0.heap.size P1_ u9000_ l1) (H : spec_l10Reach.f k a0_0 a0_1 a0_2 l1 a2 = some r) :
  Calls Tryz.prog 171 #[.agg #[.int .i64 a0_0, .int .i64 a0_1, .string a0_2], u9000_, .int .i64 a2] w fun e w' => ∃ v0_ : Value, e = .returned (v0_) ∧ Kd.R Kd.bool 4 w' w0.heap.size (fun k_ => (P1_ k_ ∨ w.heap.size ≤ k_)) v0_ r ∧ Below w0.heap.size w0 w' ∧ Kept w w' (fun k_ => P1_ k_) := by
 have hu32 := Tryz.underlying32
 have HO1 := Aside0.mk (show Kd.R Kd.bool 4 w w0.heap.size (fun k_ => (P1_ k_ ∨ w.heap.size ≤ k_)) u9000_ l1 from Kd.R_mono ho1 (fun k_ hk => (.inl hk)))
 have HK := Aside0.mk (Kept.refl w (fun k_ => P1_ k_))
 have HW0 := Aside0.mk hB.size
 have HB := Aside0.mk hB
 clear hB
 unfold spec_l10Reach.f at H
 replace H := zr H
 obtain ⟨c4b0, H⟩ := H
 replace H := zr H
 obtain ⟨c5b0, H⟩ := H
 generalize hy311 : (l1.set (a2 : Int).toNat true : List Bool) = y311 at H
 have Ny311 := Aside0.mk hy311.symm
 clear hy311
 have H' := Aside0.mk H
 clear H
 go_enter Tryz.func171, Tryz.ntmps171
 go_wp2_with (first | ((with_reducible refine zd 3 rfl ?_); (try (refine gate_guard (by rfl) ?_; dsimp only)); refine zbx (w := w) #[.int .i64 a0_0, .int .i64 a0_1, .string a0_2] 32 ?_; intro gb310 hg w7 BK310 hb; replace HO1 := zR HO1 hb; have GW310 := Aside0.mk ((by rw [hg]; exact (by first | exact HK.out.1 | exact (show Kept w _ (fun k_ => P1_ k_) from by repeat (first | (with_reducible first | exact HK.out | apply Kept.alloc | apply Kept.drewN | apply Kept.drew) | exact HK.out)).1) : w.heap.size ≤ gb310)); replace HK := Aside0.mk (Kept.below (S := (fun k_ => P1_ k_)) (by repeat (first | (with_reducible first | exact HK.out | apply Kept.alloc | apply Kept.drewN | apply Kept.drew) | exact HK.out)) hb); have GE310 := Aside0.mk ((by rw [hg]; exact bsz : w0.heap.size ≤ gb310)); replace HB := zB hb; clear hb hg; have p6 : 0 ≤ (a2 : Int) := of_decide_eq_true (by assumption); have q6 : (a2 : Int) < ((l1.length : Int) : Int) := of_decide_eq_true (by assumption); obtain ⟨go6, co6, eo6, gb6, gl6, cl6, HG6⟩ := Kd.R_form HO1.out (by omega); (first | cases eo6 | (injection eo6 with ea_ en_ ec_; (first | subst ea_ | (injection ea_ with ea_; subst ea_)); subst ec_; clear en_)); have GB6 := Aside0.mk gb6; have GG6 := Aside0.mk HG6; clear gb6 gl6 HG6; have HMgo6 := Aside0.mk (show (P1_ go6 ∨ w.heap.size ≤ go6) from (HO1.out.1 _ rfl)); obtain ⟨hx6_0, hf6_0⟩ := Kd.R_celln false HO1.out (a2 : Int) p6 q6; replace p6 := eq_true p6; replace q6 := eq_true q6; obtain ⟨hy8_, hz8_⟩ := Kd.R_celln false HO1.out (a2 : Int) (of_decide_eq_true (by assumption)) (of_decide_eq_true (by assumption)); have HP8 := Kd.R_putg HO1.out (a2 : Int) true) | ((with_reducible refine gate_store (t := 4) (p := 13) rfl ?_); refine store_event (t := 4) (p := 13) (v := ?vo_w9) (w1 := (w7.setCell ⟨go6, (a2 : Int).toNat, none⟩ (.bool true))) ?hg ?ho ?hn ?hr ?_; (case ho => rfl); (case hg => rfl); (case hn => rfl); (case hr => first | (go_simp; done) | (go_simp; rfl)); intro w9 hw; have hg : w7.grownBy w9 (some go6) := (by rw [hw]; exact HP8.2); have hp_ : Kd.R Kd.bool 4 w9 w0.heap.size (fun k_ => (P1_ k_ ∨ w.heap.size ≤ k_)) (.slice (some ⟨go6, 0, none⟩) l1.length co6) y311 := (by rw [hw, Ny311.out]; exact HP8.1); clear HP8; replace BK310 := Aside0.mk (blk_grown (bk BK310) hg (Kd.R_ne HO1.out BK310.out (by decide))); replace HB := Aside0.mk ((by rw [hw]; exact below_set (HB.out) GB6.out : Below w0.heap.size w0 w9)); replace HK := Aside0.mk (Kept.of_grown (S := (fun k_ => P1_ k_)) hg (by repeat (first | (with_reducible first | exact HK.out | apply Kept.alloc | apply Kept.drewN | apply Kept.drew | refine Kept.setCell ?_ (.inr GW310.out) _) | exact HK.out)) (fun k_ e_ => (HO1.out.1 k_ e_))); replace HO1 := Aside0.mk hp_; clear hg hw hp_))
 go_loopg [7] k (fun kq v7 w' => ∃ (x1_1 : List Bool) (x7_1 : Bool), v7 = .bool x7_1 ∧ Aside0 (spec_l10Reach.l0 kq x1_1 x7_1 a0_0 a0_1 a0_2 = some r) ∧ Aside0 (kq ≤ k) ∧ Aside0 (Kd.R Kd.bool 4 w' w0.heap.size (fun k_ => (P1_ k_ ∨ w.heap.size ≤ k_)) (.slice (some ⟨go6, 0, none⟩) l1.length co6) x1_1) ∧ Aside0 (w'.heap[gb310]? = some (.cells #[.int .i64 a0_0, .int .i64 a0_1, .string a0_2] 32 (0, 0))) ∧ Aside0 (Kept w w' (fun k_ => P1_ k_)) ∧ Aside0 (Below w0.heap.size w0 w'))
 case atStart => exact ⟨(y311), (true), rf, H', ⟨Nat.le_refl _⟩, ⟨kr HO1⟩, ⟨bk BK310⟩, ⟨by repeat (first | (with_reducible first | exact HK.out | apply Kept.alloc | apply Kept.drewN | apply Kept.drew | refine Kept.setCell ?_ (.inr GW310.out) _) | exact HK.out)⟩, ⟨bel⟩⟩
 case round =>
  clear H'
  obtain ⟨x1_1, x7_1, rfl, HA, HK1, HO_1, BK310, HK, HB⟩ := hrel
  have hl1_1 := (Kd.R_reads' HO_1.out).1
  rw [hl1_1] at HO_1
  (try simp only [hl1_1])
  (try simp only [hl1_1] at BK310)
  cases gk with
  | zero => exact absurd HA.out (by simp [spec_l10Reach.l0])
  | succ k1 =>
   have H := HA.out
   clear HA
   simp only [spec_l10Reach.l0] at H
   replace H := zb H
   rcases H with ⟨rfl, H⟩ | ⟨rfl, H⟩
   ·
    have H' := Aside0.mk H
    clear H
    go_wp2
    go_loopg [7, 8] k1 (fun kq v7 v8 w' => ∃ (x1_2 : List Bool) (x7_2 : Bool) (x8_2 : Int), v7 = .bool x7_2 ∧ v8 = .int .i64 x8_2 ∧ Aside0 (spec_l10Reach.l1 kq x1_2 x7_2 x8_2 a0_0 a0_1 a0_2 = some r) ∧ Aside0 (kq ≤ k1) ∧ Aside0 (Kd.R Kd.bool 4 w' w0.heap.size (fun k_ => (P1_ k_ ∨ w.heap.size ≤ k_)) (.slice (some ⟨go6, 0, none⟩) x1_1.length co6) x1_2) ∧ Aside0 (w'.heap[gb310]? = some (.cells #[.int .i64 a0_0, .int .i64 a0_1, .string a0_2] 32 (0, 0))) ∧ Aside0 (Kept w w' (fun k_ => P1_ k_)) ∧ Aside0 (Below w0.heap.size w0 w'))
    case atStart => exact ⟨(x1_1), (false), (0), rf, rf, H', ⟨Nat.le_refl _⟩, ⟨by (try simp only [hl1_1]); (with_reducible repeat (first | apply Kd.R_alloc | apply Kd.R_drewN | apply Kd.R_drew)); exact HO_1.out⟩, ⟨by (try simp only [hl1_1]); (with_reducible repeat (first | refine blk_drewN ?_ _ | refine blk_drew ?_ | refine blk_alloc ?_ _)); exact BK310.out⟩, ⟨by repeat (first | (with_reducible first | exact HK.out | apply Kept.alloc | apply Kept.drewN | apply Kept.drew | refine Kept.setCell ?_ (.inr GW310.out) _) | exact HK.out)⟩, ⟨bel⟩⟩
    case round =>
     clear H'
     obtain ⟨x1_2, x7_2, x8_2, rfl, rfl, HA, HK2, HO_1, BK310, HK, HB⟩ := hrel
     have hl1_2 := (Kd.R_reads' HO_1.out).1
     rw [hl1_2] at HO_1
     (try simp only [hl1_2])
     (try simp only [hl1_2] at BK310)
     cases gk with
     | zero => exact absurd HA.out (by simp [spec_l10Reach.l1])
     | succ k2 =>
      have H := HA.out
      clear HA
      simp only [spec_l10Reach.l1] at H
      replace H := zc H
      rcases H with ⟨c11b0, H⟩ | ⟨c11b0, H⟩
      ·
       have HC12 := Aside0.mk H
       clear H
       go_upto_region 8 with (fail)
       go_cut [31] (fun v31 wc => ∃ (kq : Nat) (x31_11 : Bool), v31 = .bool x31_11 ∧ Aside0 (spec_l10Reach.j2 kq x1_2 x7_2 x8_2 x31_11 a0_0 a0_1 a0_2 = some r) ∧ Aside0 (kq ≤ k2) ∧ Aside0 (Kd.R Kd.bool 4 wc w0.heap.size (fun k_ => (P1_ k_ ∨ w.heap.size ≤ k_)) (.slice (some ⟨go6, 0, none⟩) x1_2.length co6) x1_2) ∧ Aside0 (wc.heap[gb310]? = some (.cells #[.int .i64 a0_0, .int .i64 a0_1, .string a0_2] 32 (0, 0))) ∧ Aside0 (Kept w wc (fun k_ => P1_ k_)) ∧ Aside0 (Below w0.heap.size w0 wc))
       case first =>
        have H := HC12.out
        clear HC12
        replace H := zr H
        obtain ⟨c13b0, H⟩ := H
        (first | rw [c13b0] | (simp only [i64_w, i32_w]; rw [c13b0]) | skip)
        obtain ⟨bq14, hbq14⟩ : ∃ b_ : Bool, b_ = (rdOf false x1_2 x8_2) := ⟨_, rfl⟩
        replace H : (if bq14 = true then (spec_l10Reach.j2 k2 x1_2 x7_2 x8_2 true a0_0 a0_1 a0_2) else (if x8_2 < (a0_2.size : Int) then (spec_l10Reach.j2 k2 x1_2 x7_2 x8_2 ((bt a0_2 x8_2) != 46) a0_0 a0_1 a0_2) else (none))) = some r := by rw [← hbq14] at H; exact H
        have Nbq14 := Aside0.mk hbq14
        clear hbq14
        replace H := zb H
        rcases H with ⟨rfl, H⟩ | ⟨rfl, H⟩
        ·
         have H' := Aside0.mk H
         clear H
         have p312 : 0 ≤ (x8_2 : Int) := of_decide_eq_true (by assumption)
         have q312 : x8_2 < (x1_2.length : Int) := of_decide_eq_true (by assumption)
         obtain ⟨ad312, e312, hx312_0⟩ := Kd.at_bool (Kd.R_reads' HO_1.out).2.2 x8_2 p312 q312
         (try rw [← Nbq14.out] at hx312_0)
         obtain rfl : (⟨go6, 0, none⟩ : Addr) = ad312 := (by injection e312)
         (first | simp only [add_plain] at hx312_0 | simp only [add_at] at hx312_0 | simp only [Addr.add, Nat.zero_add] at hx312_0 | skip)
         replace p312 := eq_true p312
         replace q312 := eq_true q312
         go_wp2
         go_meet
         case rel => exact ⟨_, (true), rf, H', ⟨by have := HK1.out; have := HK2.out; first | omega | exact Nat.le_refl _⟩, ⟨by (try simp only [hl1_1]); (try simp only [hl1_2]); (with_reducible repeat (first | apply Kd.R_alloc | apply Kd.R_drewN | apply Kd.R_drew)); exact HO_1.out⟩, ⟨by (try simp only [hl1_1]); (try simp only [hl1_2]); (with_reducible repeat (first | refine blk_drewN ?_ _ | refine blk_drew ?_ | refine blk_alloc ?_ _)); exact BK310.out⟩, ⟨by repeat (first | (with_reducible first | exact HK.out | apply Kept.alloc | apply Kept.drewN | apply Kept.drew | refine Kept.setCell ?_ (.inr GW310.out) _) | exact HK.out)⟩, ⟨bel⟩⟩
        ·
         replace H := zr H
         obtain ⟨c16b0, H⟩ := H
         have H' := Aside0.mk H
         clear H
         have p312 : 0 ≤ (x8_2 : Int) := of_decide_eq_true (by assumption)
         have q312 : x8_2 < (x1_2.length : Int) := of_decide_eq_true (by assumption)
         obtain ⟨ad312, e312, hx312_0⟩ := Kd.at_bool (Kd.R_reads' HO_1.out).2.2 x8_2 p312 q312
         (try rw [← Nbq14.out] at hx312_0)
         obtain rfl : (⟨go6, 0, none⟩ : Addr) = ad312 := (by injection e312)
         (first | simp only [add_plain] at hx312_0 | simp only [add_at] at hx312_0 | simp only [Addr.add, Nat.zero_add] at hx312_0 | skip)
         replace p312 := eq_true p312
         replace q312 := eq_true q312
         have ⟨_, _, _, _, _, _⟩ := cz3 BK310
         have p17 : 0 ≤ (x8_2 : Int) := of_decide_eq_true (by assumption)
         have q17 : x8_2 < (a0_2.size : Int) := of_decide_eq_true (by assumption)
         have hx17 := bt_at a0_2 x8_2
         replace p17 := eq_true p17
         replace q17 := eq_true q17
         go_wp2
         go_meet
         case rel => exact ⟨_, (((bt a0_2 x8_2) != 46)), rf, H', ⟨by have := HK1.out; have := HK2.out; first | omega | exact Nat.le_refl _⟩, ⟨by (try simp only [hl1_1]); (try simp only [hl1_2]); (with_reducible repeat (first | apply Kd.R_alloc | apply Kd.R_drewN | apply Kd.R_drew)); exact HO_1.out⟩, ⟨by (try simp only [hl1_1]); (try simp only [hl1_2]); (with_reducible repeat (first | refine blk_drewN ?_ _ | refine blk_drew ?_ | refine blk_alloc ?_ _)); exact BK310.out⟩, ⟨by repeat (first | (with_reducible first | exact HK.out | apply Kept.alloc | apply Kept.drewN | apply Kept.drew | refine Kept.setCell ?_ (.inr GW310.out) _) | exact HK.out)⟩, ⟨bel⟩⟩
       case rest =>
        clear HC12
        obtain ⟨kq, x31_11, rfl, HA, HJ11, HO_1, BK310, HK, HB⟩ := hcut
        cases kq with
        | zero => exact absurd HA.out (by simp [spec_l10Reach.j2])
        | succ kj11 =>
         have H := HA.out
         clear HA
         simp only [spec_l10Reach.j2] at H
         replace H := zb H
         rcases H with ⟨rfl, H⟩ | ⟨rfl, H⟩
         ·
          have H' := Aside0.mk H
          clear H
          go_wp2
          (try simp only [← hl1_2])
          go_roundg kj11
          case measure => have := HK1.out; have := HK2.out; have := HJ11.out; omega
          case rel => exact ⟨(x1_2), (x7_2), (wrap64 (x8_2 + 1)), rf, rf, H', ⟨by have := HK1.out; have := HK2.out; have := HJ11.out; omega⟩, ⟨by (try simp only [hl1_1]); (try simp only [hl1_2]); exact kr HO_1⟩, ⟨by (try simp only [hl1_1]); (try simp only [hl1_2]); exact bk BK310⟩, ⟨by repeat (first | (with_reducible first | exact HK.out | apply Kept.alloc | apply Kept.drewN | apply Kept.drew | refine Kept.setCell ?_ (.inr GW310.out) _) | exact HK.out)⟩, ⟨bel⟩⟩
         ·
          by_cases c20 : a0_1 = 0
          ·
           rw [if_pos c20] at H
           exact absurd H (by simp)
          rw [if_neg c20] at H
          have c20b0 : (a0_1 == 0) = false := beq_eq_false_iff_ne.mpr c20
          have c20b1 : (a0_1 != 0) = true := bne_iff_ne.mpr c20
          replace H := zs H
          obtain ⟨b, N, H⟩ := H
          have HC := Aside0.mk H
          clear H
          have ⟨_, _, _, _, _, _⟩ := cz3 BK310
          go_upto_region 10 with (fail)
          go_cut [10] (fun v10 wc => v10 = .bool b ∧ Aside0 (Kd.R Kd.bool 4 wc w0.heap.size (fun k_ => (P1_ k_ ∨ w.heap.size ≤ k_)) (.slice (some ⟨go6, 0, none⟩) x1_2.length co6) x1_2) ∧ Aside0 (wc.heap[gb310]? = some (.cells #[.int .i64 a0_0, .int .i64 a0_1, .string a0_2] 32 (0, 0))) ∧ Aside0 (Kept w wc (fun k_ => P1_ k_)) ∧ Aside0 (Below w0.heap.size w0 wc))
          case first =>
           obtain ⟨N⟩ := N
           unfold spec_l10Reach.nr at N
           generalize h1 : wrap64 (x8_2 - 1) = j1 at N
           have w1 : IntKind.i64.wrap (x8_2 - 1) = j1 := (i64_w _).trans h1
           generalize h2 : wrap64 (x8_2 + 1) = j2 at N
           have w2 : IntKind.i64.wrap (x8_2 + 1) = j2 := (i64_w _).trans h2
           generalize h3 : wrap64 (x8_2 - a0_1) = j3 at N
           have w3 : IntKind.i64.wrap (x8_2 - a0_1) = j3 := (i64_w _).trans h3
           generalize h4 : wrap64 (x8_2 + a0_1) = j4 at N
           have w4 : IntKind.i64.wrap (x8_2 + a0_1) = j4 := (i64_w _).trans h4
           replace N := spec_l10Reach.n1_cases N
           rcases N with ⟨c1, p, q, v, rfl⟩ | ⟨c1, p, q, v, N⟩ | ⟨c1, N⟩
           all_goals try (have hr := spec_l10Reach.rd HO_1 p q v; obtain ⟨p, q, v⟩ := hr)
           all_goals try (replace N := spec_l10Reach.n1_cases N; rcases N with ⟨c2, p2, q2, v2, rfl⟩ | ⟨c2, p2, q2, v2, N⟩ | ⟨c2, N⟩)
           all_goals try (have hr := spec_l10Reach.rd HO_1 p2 q2 v2; obtain ⟨p2, q2, v2⟩ := hr)
           all_goals try (replace N := spec_l10Reach.n1_cases N; rcases N with ⟨c3, p3, q3, v3, rfl⟩ | ⟨c3, p3, q3, v3, N⟩ | ⟨c3, N⟩)
           all_goals try (have hr := spec_l10Reach.rd HO_1 p3 q3 v3; obtain ⟨p3, q3, v3⟩ := hr)
           all_goals try (replace N := spec_l10Reach.n1_cases N; rcases N with ⟨c4, p4, q4, v4, rfl⟩ | ⟨c4, p4, q4, v4, N⟩ | ⟨c4, N⟩)
           all_goals try (have hr := spec_l10Reach.rd HO_1 p4 q4 v4; obtain ⟨p4, q4, v4⟩ := hr)
           all_goals try (obtain rfl := Option.some.inj N)
           all_goals
            go_wp2
            go_meet
            case rel => exact ⟨rf, ⟨kr HO_1⟩, ⟨bk BK310⟩, ⟨by repeat (first | (with_reducible first | exact HK.out | apply Kept.alloc | apply Kept.drewN | apply Kept.drew | refine Kept.setCell ?_ (.inr GW310.out) _) | exact HK.out)⟩, ⟨bel⟩⟩
          case rest =>
           clear N
           obtain ⟨rfl, HO_1, BK310, HK, HB⟩ := hcut
           have H := HC.out
           clear HC
           replace H := zb H
           rcases H with ⟨rfl, H⟩ | ⟨rfl, H⟩
           ·
            replace H := zr H
            obtain ⟨c27b0, H⟩ := H
            replace H := zr H
            obtain ⟨c28b0, H⟩ := H
            generalize hy314 : (x1_2.set (x8_2 : Int).toNat true : List Bool) = y314 at H
            have Ny314 := Aside0.mk hy314.symm
            clear hy314
            have H' := Aside0.mk H
            clear H
            have p29 : 0 ≤ (x8_2 : Int) := of_decide_eq_true (by assumption)
            have q29 : (x8_2 : Int) < ((x1_2.length : Int) : Int) := of_decide_eq_true (by assumption)
            obtain ⟨hx29_0, hf29_0⟩ := Kd.R_celln false HO_1.out (x8_2 : Int) p29 q29
            replace p29 := eq_true p29
            replace q29 := eq_true q29
            have HP31 := Kd.R_putg HO_1.out (x8_2 : Int) true
            go_wp2_with (first | ((with_reducible refine gate_store (t := 4) (p := 95) rfl ?_); refine store_event (t := 4) (p := 95) (v := ?vo_w32) (w1 := (wc.setCell ⟨go6, (x8_2 : Int).toNat, none⟩ (.bool true))) ?hg ?ho ?hn ?hr ?_; (case ho => rfl); (case hg => rfl); (case hn => rfl); (case hr => first | (go_simp; done) | (go_simp; rfl)); intro w32 hw; have hg : wc.grownBy w32 (some go6) := (by rw [hw]; exact HP31.2); have hp_ : Kd.R Kd.bool 4 w32 w0.heap.size (fun k_ => (P1_ k_ ∨ w.heap.size ≤ k_)) (.slice (some ⟨go6, 0, none⟩) x1_2.length co6) y314 := (by rw [hw, Ny314.out]; exact HP31.1); clear HP31; replace BK310 := Aside0.mk (blk_grown (bk BK310) hg (Kd.R_ne HO_1.out BK310.out (by decide))); replace HB := Aside0.mk ((by rw [hw]; exact below_set (HB.out) GB6.out : Below w0.heap.size w0 w32)); replace HK := Aside0.mk (Kept.of_grown (S := (fun k_ => P1_ k_)) hg (by repeat (first | (with_reducible first | exact HK.out | apply Kept.alloc | apply Kept.drewN | apply Kept.drew | refine Kept.setCell ?_ (.inr GW310.out) _) | exact HK.out)) (fun k_ e_ => (HO_1.out.1 k_ e_))); replace HO_1 := Aside0.mk hp_; clear hg hw hp_))
            (try simp only [← hl1_2])
            go_roundg kj11
            case measure => have := HK1.out; have := HK2.out; have := HJ11.out; omega
            case rel => exact ⟨(y314), (true), (wrap64 (x8_2 + 1)), rf, rf, H', ⟨by have := HK1.out; have := HK2.out; have := HJ11.out; omega⟩, ⟨by (try simp only [hl1_1]); (try simp only [hl1_2]); exact kr HO_1⟩, ⟨by (try simp only [hl1_1]); (try simp only [hl1_2]); exact bk BK310⟩, ⟨by repeat (first | (with_reducible first | exact HK.out | apply Kept.alloc | apply Kept.drewN | apply Kept.drew | refine Kept.setCell ?_ (.inr GW310.out) _) | exact HK.out)⟩, ⟨bel⟩⟩
           ·
            have H' := Aside0.mk H
            clear H
            go_wp2
            (try simp only [← hl1_2])
            go_roundg kj11
            case measure => have := HK1.out; have := HK2.out; have := HJ11.out; omega
            case rel => exact ⟨(x1_2), (x7_2), (wrap64 (x8_2 + 1)), rf, rf, H', ⟨by have := HK1.out; have := HK2.out; have := HJ11.out; omega⟩, ⟨by (try simp only [hl1_1]); (try simp only [hl1_2]); exact kr HO_1⟩, ⟨by (try simp only [hl1_1]); (try simp only [hl1_2]); exact bk BK310⟩, ⟨by repeat (first | (with_reducible first | exact HK.out | apply Kept.alloc | apply Kept.drewN | apply Kept.drew | refine Kept.setCell ?_ (.inr GW310.out) _) | exact HK.out)⟩, ⟨bel⟩⟩
      ·
       have H' := Aside0.mk H
       clear H
       go_wp2
       (try simp only [← hl1_1, ← hl1_2])
       go_roundg k2
       case measure => have := HK1.out; have := HK2.out; omega
       case rel => exact ⟨(x1_2), (x7_2), rf, H', ⟨by have := HK1.out; have := HK2.out; omega⟩, ⟨by (try simp only [hl1_1]); (try simp only [hl1_2]); (with_reducible repeat (first | apply Kd.R_alloc | apply Kd.R_drewN | apply Kd.R_drew)); exact HO_1.out⟩, ⟨by (try simp only [hl1_1]); (try simp only [hl1_2]); (with_reducible repeat (first | refine blk_drewN ?_ _ | refine blk_drew ?_ | refine blk_alloc ?_ _)); exact BK310.out⟩, ⟨by repeat (first | (with_reducible first | exact HK.out | apply Kept.alloc | apply Kept.drewN | apply Kept.drew | refine Kept.setCell ?_ (.inr GW310.out) _) | exact HK.out)⟩, ⟨bel⟩⟩
   ·
    obtain rfl := Option.some.inj H
    go_wp2
    go_ret
    exact ⟨_, er, kr HO_1, bel, by repeat (first | (with_reducible first | exact HK.out | apply Kept.alloc | apply Kept.drewN | apply Kept.drew | refine Kept.setCell ?_ (.inr GW310.out) _) | exact HK.out)⟩

end Go.Proofs.YtpcdfjcbjbkliaaGreat.E
