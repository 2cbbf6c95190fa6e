import Derived.Test.YtpcdfjcbjbkliaaGreatSq
import Derived.Test.YtpcdfjcbjbkliaaGreatQ27
namespace Go.Proofs.YtpcdfjcbjbkliaaGreat.E
open Go.RowKit Go.Proofs.YtpcdfjcbjbkliaaGreatW.PrintWords Go.Proofs.YtpcdfjcbjbkliaaGreatW.PrintLast Go.Proofs.YtpcdfjcbjbkliaaGreatW.PrintMore
attribute [local go_sem] max2_int min2_int max_two min_two max_three min_three max_four min_four
set_option linter.unusedVariables false
set_option linter.unusedSimpArgs false
/-- Go's markClueS: the next number and what the clues are marked with. -/
def laws_markClueS.f (k : Nat) : List S89 → Int → Option (Int × List S89)
  | [], a => some (a, [])
  | x :: t, a => (laws_markStepS.f k x.f1 (wrap64 (a + 1))).bind fun p => (laws_markClueS.f k t p.1).bind fun q => some (q.1, (⟨a, p.2⟩ : S89) :: q.2)
/-- Go's markCorrectionS: the next number and what the corrections are marked with. -/
def laws_markCorrectionS.f (k : Nat) : List S91 → Int → Option (Int × List S91)
  | [], a => some (a, [])
  | x :: t, a => (laws_markStepS.f k x.f2.f1 (wrap64 (wrap64 (wrap64 (a + 1) + 1) + 1))).bind fun p => (laws_markCorrectionS.f k t (wrap64 (p.1 + 1))).bind fun q => some (q.1, (⟨a, wrap64 (a + 1), ⟨wrap64 (wrap64 (a + 1) + 1), p.2⟩, p.1⟩ : S91) :: q.2)
theorem set_mid {α : Type} (xs ys : List α) (x y : α) : (xs ++ x :: ys).set xs.length y = xs ++ y :: ys := by
  rw [List.set_append_right _ _ (Nat.le_refl _), Nat.sub_self, List.set_cons_zero]
theorem get_mid {α : Type} (xs ys : List α) (x z : α) : (xs ++ x :: ys).getD xs.length z = x := by
  rw [List.getD_eq_getElem?_getD, List.getElem?_append_right (Nat.le_refl _), Nat.sub_self]; rfl
set_option maxHeartbeats 4000000 in
set_option maxRecDepth 100000 in
theorem laws_markClueS.calls (k : Nat) (v : Value) (l0 : List S89) (a1 r1 : Int) (r2 : List S89) (ok : Nat → Prop) (w0 w : World) (hB : Below w0.heap.size w0 w) (hs : Kd.S k89 89 w w0.heap.size ok v l0) (h : laws_markClueS.f k l0 a1 = some (r1, r2)) :
    Calls Tryz.prog 80 #[v, .int .i64 a1] w fun e w' => e = .returned (.int .i64 r1) ∧ Kd.S k89 89 w' w0.heap.size ok v r2 ∧ Below w0.heap.size w0 w' ∧ Kept w w' ok := by
  obtain ⟨A, c, rfl⟩ := Kd.S_slice hs
  have hm := (Kd.S_reads' hs).2.2.2.1
  have HB := Aside0.mk hB
  have HS := Aside0.mk hs
  have HA := Aside0.mk h
  have HK := Aside0.mk (Kept.refl w ok)
  have hu89 := Tryz.underlying89
  clear hB hs h
  go_enter Tryz.func80, Tryz.ntmps80
  go_wp2_with fail
  go_loopg [1, 5] l0.length (fun kq v1 v5 wr => ∃ (i : Nat) (a : Int) (xs ys rest : List S89), v1 = .int .i64 a ∧ v5 = .int .i64 i ∧ i ≤ l0.length ∧ Aside0 (kq + i = l0.length) ∧ Aside0 (xs.length = i) ∧ Aside0 (ys.length + i = l0.length) ∧ Aside0 (Kd.S k89 89 wr w0.heap.size ok (.slice A l0.length c) (xs ++ ys)) ∧ Aside0 (laws_markClueS.f k ys a = some (r1, rest)) ∧ Aside0 (r2 = xs ++ rest) ∧ Aside0 (Below w0.heap.size w0 wr) ∧ Aside0 (Kept w wr ok))
  case atStart => exact ⟨0, a1, [], l0, r2, rfl, rfl, Nat.zero_le _, ⟨rfl⟩, ⟨rfl⟩, ⟨rfl⟩, HS, HA, ⟨rfl⟩, HB, HK⟩
  case round =>
    clear HS HA HB HK
    obtain ⟨i, a, xs, ys, rest, rfl, rfl, hi, HM, HX, HY, HS, HA, HR, HB, HK⟩ := hrel
    by_cases hlt : i < l0.length
    · have hyy : ∃ x ys', ys = x :: ys' := by
        cases ys with
        | nil => have := HY.out; simp at this; omega
        | cons x t => exact ⟨x, t, rfl⟩
      obtain ⟨x, ys', rfl⟩ := hyy
      have hA := HA.out
      simp only [laws_markClueS.f] at hA
      obtain ⟨p, hp, hA⟩ := Option.bind_eq_some_iff.mp hA
      obtain ⟨q, hq, hA⟩ := Option.bind_eq_some_iff.mp hA
      obtain ⟨p1, p2⟩ := p
      obtain ⟨q1, q2⟩ := q
      simp only [Option.some.injEq, Prod.mk.injEq] at hA
      obtain ⟨rfl, rfl⟩ := hA
      have HP := Aside0.mk hp
      have HQ := Aside0.mk hq
      clear hp hq HA
      have hxl : xs.length = i := HX.out
      subst hxl
      obtain ⟨g, cap, eg, _, _, _⟩ := Kd.S_form HS.out (by simp only [List.length_append, List.length_cons]; omega)
      injection eg with eg1 eg2 eg3
      subst eg1
      have hgok : ok g := (Kd.S_R HS.out).1 g (by simp [Value.ownBlock])
      have hin : ((xs.length : Nat) : Int) < ((l0.length : Nat) : Int) := by omega
      obtain ⟨oki, ce, hcl, hM, hcc, hfr, hoki, hH⟩ := Kd.S_elem (Kd.S_mono (ok' := fun k => ok k ∧ ¬ (fun _ => False) k) HS.out (fun k hk => ⟨hk, fun e => e⟩)) z89 (xs.length : Int) (by omega) hin
      obtain ⟨v1, rfl, hR⟩ := k89_openM hM
      rw [Int.toNat_natCast, get_mid] at hR
      have HP2 := Kd.S_seg hH (by omega) hin (seg := [.int .i64 a]) (j := 0) (show 1 ≤ 2 by decide) (x' := (⟨a, x.f1⟩ : S89)) (k89_mkM _ _ _ (⟨a, x.f1⟩ : S89) hR) (fun k hk => .inl hk) (fun k hk => hk.elim)
      rw [Int.toNat_natCast, set_mid] at HP2
      have q0 := hcc 0 _ rfl
      have f0 := hfr 0
      simp only [show (k89).sz = 2 from rfl, Int.toNat_natCast, Nat.add_zero] at q0 f0
      have HW := Aside0.mk (show Kd.S k89 89 (wr.setCell ⟨g, xs.length * 2, none⟩ (.int .i64 a)) w0.heap.size ok (.slice (some ⟨g, 0, none⟩) l0.length c) (xs ++ (⟨a, x.f1⟩ : S89) :: ys') from HP2.1)
      have HBs := Aside0.mk (show Below w0.heap.size w0 (wr.setCell ⟨g, xs.length * 2, none⟩ (.int .i64 a)) from below_set HB.out (Kd.S_base HS.out g (by simp [Value.ownBlock])))
      have HKs := Aside0.mk (show Kept w (wr.setCell ⟨g, xs.length * 2, none⟩ (.int .i64 a)) ok from Kept.setCell HK.out (.inl hgok) _)
      clear hcl hM hcc hfr hoki hH hR HP2 eg2 eg3 HS HB HK
      go_wp2_with (first
        | ((with_reducible refine gate_store (t := 3) (p := 16) rfl ?_); refine store_event (t := 3) (p := 16) (v := ?vo) (w1 := wr.setCell ⟨g, xs.length * 2, none⟩ (.int .i64 a)) ?hg ?ho ?hn ?hr ?_; (case ho => rfl); (case hg => rfl); (case hn => rfl); (case hr => first | (go_simp; done) | (go_simp; rfl)); intro w13 hw; rw [← hw] at HW HBs HKs; clear hw q0 f0; obtain ⟨oki, ce, hcl, hM, hcc, hfr, hoki, hH⟩ := Kd.S_elem HW.out z89 (xs.length : Int) (by omega) (by omega); obtain ⟨v1, rfl, hR⟩ := k89_openM hM; rw [Int.toNat_natCast, get_mid] at hR; obtain ⟨A1, c1, rfl⟩ := Kd.R_slice hR; have q1 := hcc 1 _ rfl; simp only [show (k89).sz = 2 from rfl, Int.toNat_natCast] at q1; have HH := Aside0.mk hH; have HRR := Aside0.mk hR; have HOI := Aside0.mk hoki; clear hcl hM hcc hfr hoki hH hR))
      go_at_call 61
      refine (laws_markStepS.calls k (fun k_ => some k_ = (Value.slice A1 x.f1.length c1).ownBlock) _ x.f1 (wrap64 (a + 1)) p1 p2 w0 _ HBs.out (Kd.R_tight rfl HRR.out) HP.out).mono ?_
      rintro e w14 ⟨rfl, hr, hb, hk⟩
      have HB2 := Aside0.mk hb
      have HK2 := Aside0.mk (Kept.then_ HKs.out hk (fun k_ he => .inl (HOI.out k_ (HRR.out.1 k_ he.symm)).1))
      have h1 := (Kd.H_kept HH.out hk (fun k_ ho hn he => hn (HRR.out.1 k_ he.symm)))
      have h2 := (k89_mkM _ _ _ (⟨a, p2⟩ : S89) (Kd.R_tight rfl hr))
      simp only [Int.toNat_natCast, get_mid] at h1
      have h3 := Kd.H_back h1 (x' := (⟨a, p2⟩ : S89)) h2 (fun k_ he => HRR.out.1 k_ he.symm)
      rw [Int.toNat_natCast, set_mid] at h3
      have HW2 := Aside0.mk h3
      clear hr hb hk q1 HBs HKs HW HH HRR HOI h1 h2 h3
      go_wp2
      go_roundg (l0.length - (xs.length + 1))
      case measure => have := HM.out; omega
      case rel => exact ⟨xs.length + 1, p1, xs ++ [(⟨a, p2⟩ : S89)], ys', q2, rfl, by go_num, by omega, ⟨by omega⟩, ⟨by simp⟩, ⟨by have := HY.out; simp at this; omega⟩, ⟨by rw [List.append_assoc]; exact HW2.out⟩, HQ, ⟨by rw [HR.out, List.append_assoc]; rfl⟩, HB2, HK2⟩
    · have hn : ys = [] := by
        cases ys with
        | nil => rfl
        | cons x t => have := HY.out; simp at this; omega
      subst hn
      have hA := HA.out
      simp only [laws_markClueS.f, Option.some.injEq, Prod.mk.injEq] at hA
      obtain ⟨rfl, rfl⟩ := hA
      have HR2 := HR.out
      subst HR2
      obtain rfl : i = l0.length := by omega
      have hl : ¬ (l0.length : Int) < (l0.length : Int) := by omega
      clear hlt HA
      go_wp2
      go_ret
      exact ⟨rfl, by simpa using HS.out, HB.out, HK.out⟩
set_option maxHeartbeats 4000000 in
set_option maxRecDepth 100000 in
theorem laws_markCorrectionS.calls (k : Nat) (v : Value) (l0 : List S91) (a1 r1 : Int) (r2 : List S91) (ok : Nat → Prop) (w0 w : World) (hB : Below w0.heap.size w0 w) (hs : Kd.S k91 91 w w0.heap.size ok v l0) (h : laws_markCorrectionS.f k l0 a1 = some (r1, r2)) :
    Calls Tryz.prog 30 #[v, .int .i64 a1] w fun e w' => e = .returned (.int .i64 r1) ∧ Kd.S k91 91 w' w0.heap.size ok v r2 ∧ Below w0.heap.size w0 w' ∧ Kept w w' ok := by
  obtain ⟨A, c, rfl⟩ := Kd.S_slice hs
  have hm := (Kd.S_reads' hs).2.2.2.1
  have HB := Aside0.mk hB
  have HS := Aside0.mk hs
  have HA := Aside0.mk h
  have HK := Aside0.mk (Kept.refl w ok)
  have hu91 := Tryz.underlying91
  clear hB hs h
  go_enter Tryz.func30, Tryz.ntmps30
  go_wp2_with fail
  go_loopg [1, 5] l0.length (fun kq v1 v5 wr => ∃ (i : Nat) (a : Int) (xs ys rest : List S91), v1 = .int .i64 a ∧ v5 = .int .i64 i ∧ i ≤ l0.length ∧ Aside0 (kq + i = l0.length) ∧ Aside0 (xs.length = i) ∧ Aside0 (ys.length + i = l0.length) ∧ Aside0 (Kd.S k91 91 wr w0.heap.size ok (.slice A l0.length c) (xs ++ ys)) ∧ Aside0 (laws_markCorrectionS.f k ys a = some (r1, rest)) ∧ Aside0 (r2 = xs ++ rest) ∧ Aside0 (Below w0.heap.size w0 wr) ∧ Aside0 (Kept w wr ok))
  case atStart => exact ⟨0, a1, [], l0, r2, rfl, rfl, Nat.zero_le _, ⟨rfl⟩, ⟨rfl⟩, ⟨rfl⟩, HS, HA, ⟨rfl⟩, HB, HK⟩
  case round =>
    clear HS HA HB HK
    obtain ⟨i, a, xs, ys, rest, rfl, rfl, hi, HM, HX, HY, HS, HA, HR, HB, HK⟩ := hrel
    by_cases hlt : i < l0.length
    · have hyy : ∃ x ys', ys = x :: ys' := by
        cases ys with
        | nil => have := HY.out; simp at this; omega
        | cons x t => exact ⟨x, t, rfl⟩
      obtain ⟨x, ys', rfl⟩ := hyy
      have hA := HA.out
      simp only [laws_markCorrectionS.f] at hA
      obtain ⟨p, hp, hA⟩ := Option.bind_eq_some_iff.mp hA
      obtain ⟨q, hq, hA⟩ := Option.bind_eq_some_iff.mp hA
      obtain ⟨p1, p2⟩ := p
      obtain ⟨q1, q2⟩ := q
      simp only [Option.some.injEq, Prod.mk.injEq] at hA
      obtain ⟨rfl, rfl⟩ := hA
      have HP := Aside0.mk hp
      have HQ := Aside0.mk hq
      clear hp hq HA
      have hxl : xs.length = i := HX.out
      subst hxl
      obtain ⟨g, cap, eg, _, _, _⟩ := Kd.S_form HS.out (by simp only [List.length_append, List.length_cons]; omega)
      injection eg with eg1 eg2 eg3
      subst eg1
      have hgok : ok g := (Kd.S_R HS.out).1 g (by simp [Value.ownBlock])
      have hin : ((xs.length : Nat) : Int) < ((l0.length : Nat) : Int) := by omega
      obtain ⟨oki, ce, hcl, hM, hcc, hfr, hoki, hH⟩ := Kd.S_elem (Kd.S_mono (ok' := fun k => ok k ∧ ¬ (fun _ => False) k) HS.out (fun k hk => ⟨hk, fun e => e⟩)) z91 (xs.length : Int) (by omega) hin
      rw [Int.toNat_natCast, get_mid] at hM
      obtain ⟨v1, rfl, hR⟩ := k91_openM hM
      have HP2 := Kd.S_seg hH (by omega) hin (seg := [.int .i64 a, .int .i64 (wrap64 (a + 1)), .int .i64 (wrap64 (wrap64 (a + 1) + 1))]) (j := 0) (show 3 ≤ 5 by decide) (x' := (⟨a, wrap64 (a + 1), ⟨wrap64 (wrap64 (a + 1) + 1), x.f2.f1⟩, x.f3⟩ : S91)) (k91_mkM _ _ _ (⟨a, wrap64 (a + 1), ⟨wrap64 (wrap64 (a + 1) + 1), x.f2.f1⟩, x.f3⟩ : S91) hR) (fun k hk => .inl hk) (fun k hk => hk.elim)
      rw [Int.toNat_natCast, set_mid] at HP2
      have q0 := hcc 0 _ rfl
      have f0 := hfr 0
      have q01 := hcc 1 _ rfl
      have f01 := hfr 1
      have q02 := hcc 2 _ rfl
      have f02 := hfr 2
      simp only [show (k91).sz = 5 from rfl, Int.toNat_natCast, Nat.add_zero] at q0 f0 q01 f01 q02 f02
      have HW := Aside0.mk (show Kd.S k91 91 (((wr.setCell ⟨g, xs.length * 5, none⟩ (.int .i64 a)).setCell ⟨g, xs.length * 5 + 1, none⟩ (.int .i64 (wrap64 (a + 1)))).setCell ⟨g, xs.length * 5 + 2, none⟩ (.int .i64 (wrap64 (wrap64 (a + 1) + 1)))) w0.heap.size ok (.slice (some ⟨g, 0, none⟩) l0.length c) (xs ++ (⟨a, wrap64 (a + 1), ⟨wrap64 (wrap64 (a + 1) + 1), x.f2.f1⟩, x.f3⟩ : S91) :: ys') from HP2.1)
      have hgb := Kd.S_base HS.out g (by simp [Value.ownBlock])
      have HBs := Aside0.mk (show Below w0.heap.size w0 (((wr.setCell ⟨g, xs.length * 5, none⟩ (.int .i64 a)).setCell ⟨g, xs.length * 5 + 1, none⟩ (.int .i64 (wrap64 (a + 1)))).setCell ⟨g, xs.length * 5 + 2, none⟩ (.int .i64 (wrap64 (wrap64 (a + 1) + 1)))) from below_set (below_set (below_set HB.out hgb) hgb) hgb)
      have HKs := Aside0.mk (show Kept w (((wr.setCell ⟨g, xs.length * 5, none⟩ (.int .i64 a)).setCell ⟨g, xs.length * 5 + 1, none⟩ (.int .i64 (wrap64 (a + 1)))).setCell ⟨g, xs.length * 5 + 2, none⟩ (.int .i64 (wrap64 (wrap64 (a + 1) + 1)))) ok from Kept.setCell (Kept.setCell (Kept.setCell HK.out (.inl hgok) _) (.inl hgok) _) (.inl hgok) _)
      have HGB := Aside0.mk hgb
      have HGO := Aside0.mk hgok
      clear hcl hM hcc hfr hoki hH hR HP2 eg2 eg3 HS HB HK hgb hgok
      go_wp2_with (first
        | ((with_reducible refine gate_store (t := 3) (p := 16) rfl ?_); refine store_event (t := 3) (p := 16) (v := ?vo16) (w1 := (wr.setCell ⟨g, xs.length * 5, none⟩ (.int .i64 a))) ?hg ?ho ?hn ?hr ?_; (case ho => rfl); (case hg => rfl); (case hn => rfl); (case hr => first | (go_simp; done) | (go_simp; rfl)); intro w11 hw; subst hw)
        | ((with_reducible refine gate_store (t := 3) (p := 23) rfl ?_); refine store_event (t := 3) (p := 23) (v := ?vo23) (w1 := ((wr.setCell ⟨g, xs.length * 5, none⟩ (.int .i64 a)).setCell ⟨g, xs.length * 5 + 1, none⟩ (.int .i64 (wrap64 (a + 1))))) ?hg ?ho ?hn ?hr ?_; (case ho => rfl); (case hg => rfl); (case hn => rfl); (case hr => first | (go_simp; done) | (go_simp; rfl)); intro w12 hw; subst hw)
        | ((with_reducible refine gate_store (t := 3) (p := 31) rfl ?_); refine store_event (t := 3) (p := 31) (v := ?vo31) (w1 := (((wr.setCell ⟨g, xs.length * 5, none⟩ (.int .i64 a)).setCell ⟨g, xs.length * 5 + 1, none⟩ (.int .i64 (wrap64 (a + 1)))).setCell ⟨g, xs.length * 5 + 2, none⟩ (.int .i64 (wrap64 (wrap64 (a + 1) + 1))))) ?hg ?ho ?hn ?hr ?_; (case ho => rfl); (case hg => rfl); (case hn => rfl); (case hr => first | (go_simp; done) | (go_simp; rfl)); intro w13 hw; rw [← hw] at HW HBs HKs; clear hw q0 f0 q01 f01 q02 f02; obtain ⟨oki, ce, hcl, hM, hcc, hfr, hoki, hH⟩ := Kd.S_elem HW.out z91 (xs.length : Int) (by omega) (by omega); rw [Int.toNat_natCast, get_mid] at hM; obtain ⟨v3, rfl, hR⟩ := k91_openM hM; obtain ⟨A1, c1, rfl⟩ := Kd.R_slice hR; have q1 := hcc 3 _ rfl; simp only [show (k91).sz = 5 from rfl, Int.toNat_natCast] at q1; have HH := Aside0.mk hH; have HRR := Aside0.mk hR; have HOI := Aside0.mk hoki; clear hcl hM hcc hfr hoki hH hR))
      go_at_call 61
      refine (laws_markStepS.calls k (fun k_ => some k_ = (Value.slice A1 x.f2.f1.length c1).ownBlock) _ x.f2.f1 (wrap64 (wrap64 (wrap64 (a + 1) + 1) + 1)) p1 p2 w0 _ HBs.out (Kd.R_tight rfl HRR.out) HP.out).mono ?_
      rintro e w14 ⟨rfl, hr, hb, hk⟩
      have HB2 := Aside0.mk hb
      have HK2 := Aside0.mk (Kept.then_ HKs.out hk (fun k_ he => .inl (HOI.out k_ (HRR.out.1 k_ he.symm)).1))
      have h1 := (Kd.H_kept HH.out hk (fun k_ ho hn he => hn (HRR.out.1 k_ he.symm)))
      have h2 := (k91_mkM _ _ _ (⟨a, wrap64 (a + 1), ⟨wrap64 (wrap64 (a + 1) + 1), p2⟩, x.f3⟩ : S91) (Kd.R_tight rfl hr))
      try simp only [Int.toNat_natCast, get_mid] at h1
      have h3 := Kd.H_back h1 (x' := (⟨a, wrap64 (a + 1), ⟨wrap64 (wrap64 (a + 1) + 1), p2⟩, x.f3⟩ : S91)) h2 (fun k_ he => HRR.out.1 k_ he.symm)
      rw [Int.toNat_natCast, set_mid] at h3
      have HS2 := Aside0.mk h3
      clear hr hb hk q1 HBs HKs HW HH HRR HOI h1 h2 h3
      obtain ⟨oki2, ce2, hcl, hM, hcc, hfr, hoki, hH⟩ := Kd.S_elem (Kd.S_mono (ok' := fun k => ok k ∧ ¬ (fun _ => False) k) HS2.out (fun k hk => ⟨hk, fun e => e⟩)) z91 (xs.length : Int) (by omega) hin
      rw [Int.toNat_natCast, get_mid] at hM
      obtain ⟨v4, rfl, hR⟩ := k91_openM hM
      have HP2 := Kd.S_seg hH (by omega) hin (seg := [.int .i64 p1]) (j := 4) (show 5 ≤ 5 by decide) (x' := (⟨a, wrap64 (a + 1), ⟨wrap64 (wrap64 (a + 1) + 1), p2⟩, p1⟩ : S91)) (k91_mkM _ _ _ (⟨a, wrap64 (a + 1), ⟨wrap64 (wrap64 (a + 1) + 1), p2⟩, p1⟩ : S91) hR) (fun k hk => .inl hk) (fun k hk => hk.elim)
      rw [Int.toNat_natCast, set_mid] at HP2
      have q0 := hcc 4 _ rfl
      have f0 := hfr 4
      simp only [show (k91).sz = 5 from rfl, Int.toNat_natCast] at q0 f0
      have HW2 := Aside0.mk (show Kd.S k91 91 (w14.setCell ⟨g, xs.length * 5 + 4, none⟩ (.int .i64 p1)) w0.heap.size ok (.slice (some ⟨g, 0, none⟩) l0.length c) (xs ++ (⟨a, wrap64 (a + 1), ⟨wrap64 (wrap64 (a + 1) + 1), p2⟩, p1⟩ : S91) :: ys') from HP2.1)
      replace HB2 := Aside0.mk (show Below w0.heap.size w0 (w14.setCell ⟨g, xs.length * 5 + 4, none⟩ (.int .i64 p1)) from below_set HB2.out HGB.out)
      replace HK2 := Aside0.mk (show Kept w (w14.setCell ⟨g, xs.length * 5 + 4, none⟩ (.int .i64 p1)) ok from Kept.setCell HK2.out (.inl HGO.out) _)
      clear hcl hM hcc hfr hoki hH hR HP2 HS2
      go_wp2_with (first
        | ((with_reducible refine gate_store (t := 3) (p := 46) rfl ?_); refine store_event (t := 3) (p := 46) (v := ?vo46) (w1 := w14.setCell ⟨g, xs.length * 5 + 4, none⟩ (.int .i64 p1)) ?hg ?ho ?hn ?hr ?_; (case ho => rfl); (case hg => rfl); (case hn => rfl); (case hr => first | (go_simp; done) | (go_simp; rfl)); intro w15 hw; rw [← hw] at HW2 HB2 HK2; clear hw q0 f0))
      go_roundg (l0.length - (xs.length + 1))
      case measure => have := HM.out; omega
      case rel => exact ⟨xs.length + 1, wrap64 (p1 + 1), xs ++ [(⟨a, wrap64 (a + 1), ⟨wrap64 (wrap64 (a + 1) + 1), p2⟩, p1⟩ : S91)], ys', q2, rfl, by go_num, by omega, ⟨by omega⟩, ⟨by simp⟩, ⟨by have := HY.out; simp at this; omega⟩, ⟨by rw [List.append_assoc]; exact HW2.out⟩, HQ, ⟨by rw [HR.out, List.append_assoc]; rfl⟩, HB2, HK2⟩
    · have hn : ys = [] := by
        cases ys with
        | nil => rfl
        | cons x t => have := HY.out; simp at this; omega
      subst hn
      have hA := HA.out
      simp only [laws_markCorrectionS.f, Option.some.injEq, Prod.mk.injEq] at hA
      obtain ⟨rfl, rfl⟩ := hA
      have HR2 := HR.out
      subst HR2
      obtain rfl : i = l0.length := by omega
      have hl : ¬ (l0.length : Int) < (l0.length : Int) := by omega
      clear hlt HA
      go_wp2
      go_ret
      exact ⟨rfl, by simpa using HS.out, HB.out, HK.out⟩
end Go.Proofs.YtpcdfjcbjbkliaaGreat.E
