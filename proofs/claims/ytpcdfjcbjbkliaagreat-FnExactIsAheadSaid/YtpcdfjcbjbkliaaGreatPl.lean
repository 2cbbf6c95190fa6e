import Derived.Test.YtpcdfjcbjbkliaaGreatPk
namespace Go.Proofs.YtpcdfjcbjbkliaaGreat.E
open Go.RowKit Go.Proofs.YtpcdfjcbjbkliaaGreatW.PrintWords Go.Proofs.YtpcdfjcbjbkliaaGreatW.PrintLast Go.Proofs.YtpcdfjcbjbkliaaGreatW.PrintMore
set_option linter.unusedVariables false
set_option linter.unusedSimpArgs false
/-! ### puzzles and issues -/
def cluesV : List S89 → Bool
  | [] => true
  | c :: t => if clueV c.f0 c.f1 = true then cluesV t else false
theorem rdC {xs : List S89} {i : Nat} (h : i < xs.length) : rd_T89 xs (i : Int) = xs[i] := by
  unfold rd_T89; simp [List.getD_eq_getElem?_getD, List.getElem?_eq_getElem h]
theorem slotsBoth (R C : Int) (s : ByteArray) : ∃ v : List S132, Ev (fun k => spec_SlotsOf.f k R C s) v ∧ Ev (fun k => impl_SlotsOf.f k R C s) v := by
  cases hg : isG R C s with
  | false => exact ⟨[], sSlotsOf_no hg, iSlotsOf_no hg⟩
  | true =>
    obtain ⟨r, c, g⟩ := isG_gr hg
    exact ⟨_, sSlotsOf g hg, iSlotsOf g hg⟩
theorem sPuz_l0 {R C : Int} {s : ByteArray} {cl : List S89} {se : List Int} {sa : Int} (hl : cl.length ≤ 10000000) {v : Int} {sl : List S132} (hv : Ev (fun k => spec_FormOf.f k R C s) v) (hs : Ev (fun k => spec_SlotsOf.f k R C s) sl) : ∀ d i, i + d = cl.length →
    Ev (fun k => spec_IsPuzzle.l0 k (i : Int) R C s cl se sa) (cluesV (cl.drop i) && (decide (v = 0) && (decide (cl.length = sl.length) && (decide (se.length = sl.length) && decide (1 ≤ sa ∧ sa ≤ 9999)))))
  | 0, i, h => by
    refine Ev.succ (fun k => by rw [spec_IsPuzzle.l0]) ?_
    refine Ev.neg (by omega) (Ev.bind hs (Ev.bind hv ?_))
    rw [List.drop_eq_nil_of_le (by omega)]
    simp only [l1In_eq, Option.bind_some, cluesV, Bool.true_and]
    refine Ev.ite (fun h => ?_) (fun h => (Ev.pure _).eq (by simp [h]))
    refine Ev.ite (fun h => ?_) (fun h => (Ev.pure _).eq (by simp; omega))
    refine Ev.ite (fun h => ?_) (fun h => (Ev.pure _).eq (by simp; omega))
    exact (Ev.pure _).eq (by simp [show v = 0 by assumption, show cl.length = sl.length by omega, show se.length = sl.length by omega])
  | d + 1, i, h => by
    have hlt : i < cl.length := by omega
    have ih := sPuz_l0 (sa := sa) (se := se) hl hv hs d (i + 1) (by omega)
    rw [Int.natCast_add] at ih
    refine Ev.succ (fun k => by rw [spec_IsPuzzle.l0]) ?_
    refine Ev.pos (by omega) (Ev.pos (by omega) ?_)
    rw [rdC hlt, w64 (by omega), List.drop_eq_getElem_cons hlt, cluesV]
    refine Ev.bind (sClue _ _) ?_
    refine Ev.ite (fun h => ?_) (fun h => (Ev.pure _).eq (by simp [h]))
    exact ih.eq (by simp [h])
theorem idx_ev : ∀ (cl : List S89) (i : Int), 0 ≤ i → ∃ v : Int, Ev (fun k => impl_Clue_100.idx (fun x => impl_IsPuzzle_1.f k (x).f0 (x).f1) cl i) v ∧ (decide (v ≥ 0) = !cluesV cl)
  | [], i, hi => ⟨-1, Ev.pure _, by simp [cluesV]⟩
  | c :: t, i, hi => by
    obtain ⟨v, h1, h2⟩ := idx_ev t (i + 1) (by omega)
    have hc : Ev (fun k => impl_IsPuzzle_1.f k c.f0 c.f1) (!clueV c.f0 c.f1) := by
      unfold impl_IsPuzzle_1.f
      exact Ev.bind (iClue _ _) (Ev.pure _)
    by_cases e : clueV c.f0 c.f1 = true
    · refine ⟨v, ?_, by rw [h2, cluesV, if_pos e]⟩
      unfold impl_Clue_100.idx
      exact Ev.bind hc (Ev.neg (by simp [e]) h1)
    · refine ⟨i, ?_, by rw [cluesV, if_neg e]; simp; omega⟩
      unfold impl_Clue_100.idx
      exact Ev.bind hc (Ev.pos (by simpa using e) (Ev.pure _))
theorem puzzle (R C : Int) (s : ByteArray) (cl : List S89) (se : List Int) (sa : Int) (hl : cl.length ≤ 10000000) : ∃ b : Bool, Ev (fun k => spec_IsPuzzle.f k R C s cl se sa) b ∧ Ev (fun k => impl_IsPuzzle.f k R C s cl se sa) b ∧ (b = true → cl.length = se.length) := by
  obtain ⟨v, v1, v2, _⟩ := form R C s
  obtain ⟨sl, s1, s2⟩ := slotsBoth R C s
  have h0 := sPuz_l0 (se := se) (sa := sa) hl v1 s1 cl.length 0 (by omega)
  rw [List.drop_zero] at h0
  refine ⟨_, h0, ?_, fun h => by simp only [Bool.and_eq_true, decide_eq_true_eq] at h; omega⟩
  unfold impl_IsPuzzle.f
  refine Ev.bind v2 ?_
  refine Ev.ite (fun h => ?_) (fun h => (Ev.pure _).eq (by simp [h]))
  refine Ev.bind s2 ?_
  refine Ev.ite (fun h => ?_) (fun h => (Ev.pure _).eq (by rw [show decide (cl.length = sl.length) = false by simp; omega]; simp))
  refine Ev.ite (fun h => ?_) (fun h => (Ev.pure _).eq (by rw [show decide (se.length = sl.length) = false by simp; omega]; simp))
  simp only [InRange_eq, Option.bind_some, decide_eq_true_eq]
  refine Ev.ite (fun h => ?_) (fun h => (Ev.pure _).eq (by simp only [h, decide_false, Bool.and_false]))
  obtain ⟨w, w1, w2⟩ := idx_ev cl 0 (by omega)
  unfold impl_Clue_100.f
  refine Ev.bind (Ev.pos rfl (Ev.bind w1 (Ev.pure _))) ((Ev.pure _).eq ?_)
  rw [w2]
  simp [show v = 0 by assumption, show cl.length = sl.length by omega, show se.length = sl.length by omega, show 1 ≤ sa ∧ sa ≤ 9999 by assumption]
theorem solved (R C : Int) (s : ByteArray) (cl : List S89) (se : List Int) (sa : Int) (f : ByteArray) (hl : cl.length ≤ 10000000) (hs : se.length ≤ 10000000) : ∃ b : Bool, Ev (fun k => spec_IsSolved.f k R C s cl se sa f) b ∧ Ev (fun k => impl_IsSolved.f k R C s cl se sa f) b := by
  obtain ⟨b, b1, b2, b3⟩ := puzzle R C s cl se sa hl
  obtain ⟨u, u1, u2, u3⟩ := full R C s f
  unfold spec_IsSolved.f impl_IsSolved.f
  by_cases hb : b = true
  · by_cases hu : u = true
    · obtain ⟨v, v1, v2⟩ := right (u3 hu) (l := se) hs sa
      refine ⟨_, Ev.bind b1 (Ev.pos hb (Ev.bind u1 (Ev.pos hu (Ev.bind v1 (Ev.pure _))))), Ev.bind b2 (Ev.pos hb (Ev.bind u2 (Ev.pos hu (Ev.bind v2 ((Ev.pure _).eq ?_)))))⟩
      rw [b3 hb]
    · exact ⟨false, Ev.bind b1 (Ev.pos hb (Ev.bind u1 (Ev.neg hu (Ev.pure _)))), Ev.bind b2 (Ev.pos hb (Ev.bind u2 (Ev.neg hu (Ev.pure _))))⟩
  · exact ⟨false, Ev.bind b1 (Ev.neg hb (Ev.pure _)), Ev.bind b2 (Ev.neg hb (Ev.pure _))⟩
theorem issue (n R C : Int) (s : ByteArray) (cl : List S89) (se : List Int) (sa : Int) (f : ByteArray) (o c : Int) (hl : cl.length ≤ 10000000) (hs : se.length ≤ 10000000) : ∃ b : Bool, Ev (fun k => spec_IsIssue.f k n R C s cl se sa f o c) b ∧ Ev (fun k => impl_IsIssue.f k n R C s cl se sa f o c) b := by
  obtain ⟨b, b1, b2⟩ := solved R C s cl se sa f hl hs
  unfold spec_IsIssue.f impl_IsIssue.f
  simp only [l1In_eq, InRange_eq, Option.bind_some, decide_eq_true_eq]
  by_cases hn : 1 ≤ n ∧ n ≤ 999
  · by_cases hb : b = true
    · have tail : Ev (fun _ => if o ≥ 0 then (if o < c then some (decide (c ≤ 1000)) else some false) else some false) (if o ≥ 0 then (if o < c then decide (c ≤ 1000) else false) else false) := by
        refine Ev.ite (fun h => ?_) (fun h => (Ev.pure _).eq (if_neg h).symm)
        rw [if_pos h]
        exact Ev.ite (fun h => (Ev.pure _).eq (if_pos h).symm) (fun h => (Ev.pure _).eq (if_neg h).symm)
      exact ⟨_, Ev.pos hn (Ev.bind b1 (Ev.pos hb tail)), Ev.pos hn (Ev.bind b2 (Ev.pos hb tail))⟩
    · exact ⟨false, Ev.pos hn (Ev.bind b1 (Ev.neg hb (Ev.pure _))), Ev.pos hn (Ev.bind b2 (Ev.neg hb (Ev.pure _)))⟩
  · exact ⟨false, Ev.neg hn (Ev.pure _), Ev.neg hn (Ev.pure _)⟩
end Go.Proofs.YtpcdfjcbjbkliaaGreat.E
