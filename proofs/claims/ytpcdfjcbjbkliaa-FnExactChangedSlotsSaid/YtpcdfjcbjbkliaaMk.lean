import Derived.Test.YtpcdfjcbjbkliaaSq
import Derived.Test.YtpcdfjcbjbkliaaQ24
namespace Go.Proofs.Ytpcdfjcbjbkliaa.E
open Go.RowKit Go.Proofs.YtpcdfjcbjbkliaaW.PrintWords Go.Proofs.YtpcdfjcbjbkliaaW.PrintLast Go.Proofs.YtpcdfjcbjbkliaaW.PrintMore
attribute [local go_sem] max2_int min2_int max_two min_two max_three min_three max_four min_four
set_option linter.unusedVariables false
set_option linter.unusedSimpArgs false
/-- Go's markClueS: the next number and what the clues are marked with. -/
def laws_markClueS.f (k : Nat) : List S48 → Int → Option (Int × List S48)
  | [], a => some (a, [])
  | x :: t, a => (laws_markStepS.f k x.f1 (wrap64 (a + 1))).bind fun p => (laws_markClueS.f k t p.1).bind fun q => some (q.1, (⟨a, p.2⟩ : S48) :: q.2)
theorem set_mid {α : Type} (xs ys : List α) (x y : α) : (xs ++ x :: ys).set xs.length y = xs ++ y :: ys := by
  rw [List.set_append_right _ _ (Nat.le_refl _), Nat.sub_self, List.set_cons_zero]
theorem get_mid {α : Type} (xs ys : List α) (x z : α) : (xs ++ x :: ys).getD xs.length z = x := by
  rw [List.getD_eq_getElem?_getD, List.getElem?_append_right (Nat.le_refl _), Nat.sub_self]; rfl
set_option maxHeartbeats 4000000 in
set_option maxRecDepth 100000 in
theorem laws_markClueS.calls (k : Nat) (v : Value) (l0 : List S48) (a1 r1 : Int) (r2 : List S48) (ok : Nat → Prop) (w0 w : World) (hB : Below w0.heap.size w0 w) (hs : Kd.S k48 48 w w0.heap.size ok v l0) (h : laws_markClueS.f k l0 a1 = some (r1, r2)) :
    Calls Try.prog 36 #[v, .int .i64 a1] w fun e w' => e = .returned (.int .i64 r1) ∧ Kd.S k48 48 w' w0.heap.size ok v r2 ∧ Below w0.heap.size w0 w' ∧ Kept w w' ok := by
  obtain ⟨A, c, rfl⟩ := Kd.S_slice hs
  have hm := (Kd.S_reads' hs).2.2.2.1
  have HB := Aside0.mk hB
  have HS := Aside0.mk hs
  have HA := Aside0.mk h
  have HK := Aside0.mk (Kept.refl w ok)
  have hu48 := Try.underlying48
  clear hB hs h
  go_enter Try.func36, Try.ntmps36
  go_wp2_with fail
  go_loopg [1, 5] l0.length (fun kq v1 v5 wr => ∃ (i : Nat) (a : Int) (xs ys rest : List S48), v1 = .int .i64 a ∧ v5 = .int .i64 i ∧ i ≤ l0.length ∧ Aside0 (kq + i = l0.length) ∧ Aside0 (xs.length = i) ∧ Aside0 (ys.length + i = l0.length) ∧ Aside0 (Kd.S k48 48 wr w0.heap.size ok (.slice A l0.length c) (xs ++ ys)) ∧ Aside0 (laws_markClueS.f k ys a = some (r1, rest)) ∧ Aside0 (r2 = xs ++ rest) ∧ Aside0 (Below w0.heap.size w0 wr) ∧ Aside0 (Kept w wr ok))
  case atStart => exact ⟨0, a1, [], l0, r2, rfl, rfl, Nat.zero_le _, ⟨rfl⟩, ⟨rfl⟩, ⟨rfl⟩, HS, HA, ⟨rfl⟩, HB, HK⟩
  case round =>
    clear HS HA HB HK
    obtain ⟨i, a, xs, ys, rest, rfl, rfl, hi, HM, HX, HY, HS, HA, HR, HB, HK⟩ := hrel
    by_cases hlt : i < l0.length
    · have hyy : ∃ x ys', ys = x :: ys' := by
        cases ys with
        | nil => have := HY.out; simp at this; omega
        | cons x t => exact ⟨x, t, rfl⟩
      obtain ⟨x, ys', rfl⟩ := hyy
      have hA := HA.out
      simp only [laws_markClueS.f] at hA
      obtain ⟨p, hp, hA⟩ := Option.bind_eq_some_iff.mp hA
      obtain ⟨q, hq, hA⟩ := Option.bind_eq_some_iff.mp hA
      obtain ⟨p1, p2⟩ := p
      obtain ⟨q1, q2⟩ := q
      simp only [Option.some.injEq, Prod.mk.injEq] at hA
      obtain ⟨rfl, rfl⟩ := hA
      have HP := Aside0.mk hp
      have HQ := Aside0.mk hq
      clear hp hq HA
      have hxl : xs.length = i := HX.out
      subst hxl
      obtain ⟨g, cap, eg, _, _, _⟩ := Kd.S_form HS.out (by simp only [List.length_append, List.length_cons]; omega)
      injection eg with eg1 eg2 eg3
      subst eg1
      have hgok : ok g := (Kd.S_R HS.out).1 g (by simp [Value.ownBlock])
      have hin : ((xs.length : Nat) : Int) < ((l0.length : Nat) : Int) := by omega
      obtain ⟨oki, ce, hcl, hM, hcc, hfr, hoki, hH⟩ := Kd.S_elem (Kd.S_mono (ok' := fun k => ok k ∧ ¬ (fun _ => False) k) HS.out (fun k hk => ⟨hk, fun e => e⟩)) z48 (xs.length : Int) (by omega) hin
      obtain ⟨v1, rfl, hR⟩ := k48_openM hM
      rw [Int.toNat_natCast, get_mid] at hR
      have HP2 := Kd.S_seg hH (by omega) hin (seg := [.int .i64 a]) (j := 0) (show 1 ≤ 2 by decide) (x' := (⟨a, x.f1⟩ : S48)) (k48_mkM _ _ _ (⟨a, x.f1⟩ : S48) hR) (fun k hk => .inl hk) (fun k hk => hk.elim)
      rw [Int.toNat_natCast, set_mid] at HP2
      have q0 := hcc 0 _ rfl
      have f0 := hfr 0
      simp only [show (k48).sz = 2 from rfl, Int.toNat_natCast, Nat.add_zero] at q0 f0
      have HW := Aside0.mk (show Kd.S k48 48 (wr.setCell ⟨g, xs.length * 2, none⟩ (.int .i64 a)) w0.heap.size ok (.slice (some ⟨g, 0, none⟩) l0.length c) (xs ++ (⟨a, x.f1⟩ : S48) :: ys') from HP2.1)
      have HBs := Aside0.mk (show Below w0.heap.size w0 (wr.setCell ⟨g, xs.length * 2, none⟩ (.int .i64 a)) from below_set HB.out (Kd.S_base HS.out g (by simp [Value.ownBlock])))
      have HKs := Aside0.mk (show Kept w (wr.setCell ⟨g, xs.length * 2, none⟩ (.int .i64 a)) ok from Kept.setCell HK.out (.inl hgok) _)
      clear hcl hM hcc hfr hoki hH hR HP2 eg2 eg3 HS HB HK
      go_wp2_with (first
        | ((with_reducible refine gate_store (t := 3) (p := 16) rfl ?_); refine store_event (t := 3) (p := 16) (v := ?vo) (w1 := wr.setCell ⟨g, xs.length * 2, none⟩ (.int .i64 a)) ?hg ?ho ?hn ?hr ?_; (case ho => rfl); (case hg => rfl); (case hn => rfl); (case hr => first | (go_simp; done) | (go_simp; rfl)); intro w13 hw; rw [← hw] at HW HBs HKs; clear hw q0 f0; obtain ⟨oki, ce, hcl, hM, hcc, hfr, hoki, hH⟩ := Kd.S_elem HW.out z48 (xs.length : Int) (by omega) (by omega); obtain ⟨v1, rfl, hR⟩ := k48_openM hM; rw [Int.toNat_natCast, get_mid] at hR; obtain ⟨A1, c1, rfl⟩ := Kd.R_slice hR; have q1 := hcc 1 _ rfl; simp only [show (k48).sz = 2 from rfl, Int.toNat_natCast] at q1; have HH := Aside0.mk hH; have HRR := Aside0.mk hR; have HOI := Aside0.mk hoki; clear hcl hM hcc hfr hoki hH hR)
        | (go_at_call 48; refine (laws_markStepS.calls k (fun k_ => some k_ = (Value.slice A1 x.f1.length c1).ownBlock) _ x.f1 (wrap64 (a + 1)) p1 p2 w0 _ HBs.out (Kd.R_tight rfl HRR.out) HP.out).mono ?_; rintro e w14 ⟨rfl, hr, hb, hk⟩; have HW2 := Aside0.mk (Kd.H_back (Kd.H_kept HH.out hk (fun k_ ho hn he => hn (HRR.out.1 k_ he.symm))) (x' := (⟨a, p2⟩ : S48)) (k48_mkM _ _ _ (⟨a, p2⟩ : S48) (Kd.R_tight rfl hr)) (fun k_ he => HRR.out.1 k_ he.symm)); have HB2 := Aside0.mk hb; have HK2 := Aside0.mk (Kept.then_ HKs.out hk (fun k_ he => .inl (HOI.out k_ (HRR.out.1 k_ he.symm)).1)); clear hr hb hk q1 HBs HKs HW HH HRR HOI))
      go_at_call 48
      refine (laws_markStepS.calls k (fun k_ => some k_ = (Value.slice A1 x.f1.length c1).ownBlock) _ x.f1 (wrap64 (a + 1)) p1 p2 w0 _ HBs.out (Kd.R_tight rfl HRR.out) HP.out).mono ?_
      rintro e w14 ⟨rfl, hr, hb, hk⟩
      have HB2 := Aside0.mk hb
      have HK2 := Aside0.mk (Kept.then_ HKs.out hk (fun k_ he => .inl (HOI.out k_ (HRR.out.1 k_ he.symm)).1))
      have h1 := (Kd.H_kept HH.out hk (fun k_ ho hn he => hn (HRR.out.1 k_ he.symm)))
      have h2 := (k48_mkM _ _ _ (⟨a, p2⟩ : S48) (Kd.R_tight rfl hr))
      simp only [Int.toNat_natCast, get_mid] at h1
      have h3 := Kd.H_back h1 (x' := (⟨a, p2⟩ : S48)) h2 (fun k_ he => HRR.out.1 k_ he.symm)
      rw [Int.toNat_natCast, set_mid] at h3
      have HW2 := Aside0.mk h3
      clear hr hb hk q1 HBs HKs HW HH HRR HOI h1 h2 h3
      go_wp2
      go_roundg (l0.length - (xs.length + 1))
      case measure => have := HM.out; omega
      case rel => exact ⟨xs.length + 1, p1, xs ++ [(⟨a, p2⟩ : S48)], ys', q2, rfl, by go_num, by omega, ⟨by omega⟩, ⟨by simp⟩, ⟨by have := HY.out; simp at this; omega⟩, ⟨by rw [List.append_assoc]; exact HW2.out⟩, HQ, ⟨by rw [HR.out, List.append_assoc]; rfl⟩, HB2, HK2⟩
    · have hn : ys = [] := by
        cases ys with
        | nil => rfl
        | cons x t => have := HY.out; simp at this; omega
      subst hn
      have hA := HA.out
      simp only [laws_markClueS.f, Option.some.injEq, Prod.mk.injEq] at hA
      obtain ⟨rfl, rfl⟩ := hA
      have HR2 := HR.out
      subst HR2
      obtain rfl : i = l0.length := by omega
      have hl : ¬ (l0.length : Int) < (l0.length : Int) := by omega
      clear hlt HA
      go_wp2
      go_ret
      exact ⟨rfl, by simpa using HS.out, HB.out, HK.out⟩
end Go.Proofs.Ytpcdfjcbjbkliaa.E
