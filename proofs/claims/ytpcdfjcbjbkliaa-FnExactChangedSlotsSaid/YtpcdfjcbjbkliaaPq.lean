import Derived.Test.YtpcdfjcbjbkliaaPk
namespace Go.Proofs.Ytpcdfjcbjbkliaa.E
open Go.RowKit Go.Proofs.YtpcdfjcbjbkliaaW.PrintWords Go.Proofs.YtpcdfjcbjbkliaaW.PrintLast Go.Proofs.YtpcdfjcbjbkliaaW.PrintMore
set_option linter.unusedVariables false
set_option linter.unusedSimpArgs false
/-! ### like clues -/
def stepNe (l m : List S87) (i : Int) : Bool := (!(((rd_T87 l i).f0) == ((rd_T87 m i).f0)) || (!((((rd_T87 l i).f1).toList) == (((rd_T87 m i).f1).toList)) || (!(((rd_T87 l i).f2) == ((rd_T87 m i).f2)) || (!(((rd_T87 l i).f3) == ((rd_T87 m i).f3))))))
def sameF (l m : List S87) : Nat → Nat → Bool
  | 0, _ => true
  | d + 1, i => if stepNe l m (i : Int) = true then false else sameF l m d (i + 1)
def sameC (a : Int) (l : List S87) (b : Int) (m : List S87) : Bool := decide (a = b) && (decide (l.length = m.length) && sameF l m l.length 0)
def mid : Nat := 10000000
theorem sSame_l0 {a b : Int} {l m : List S87} (hl : l.length ≤ 10000000) (hm : l.length = m.length) : ∀ d i, i + d = l.length → Ev (fun k => spec_l21SameClue.l0 k (i : Int) a l b m) (sameF l m d i)
  | 0, i, h => by
    refine Ev.succ (fun k => by rw [spec_l21SameClue.l0]) ?_
    exact Ev.neg (by omega) (Ev.pure _)
  | d + 1, i, h => by
    have ih := sSame_l0 (a := a) (b := b) hl hm d (i + 1) (by omega)
    rw [Int.natCast_add] at ih
    refine Ev.succ (fun k => by rw [spec_l21SameClue.l0]) ?_
    refine Ev.pos (by omega) (Ev.pos (by omega) (Ev.pos (by omega) ?_))
    rw [w64 (by omega), sameF]
    exact Ev.ite (fun h => (Ev.pure _).eq (if_pos h).symm) (fun h => ih.eq (if_neg h).symm)
theorem iSame_l0 {l m : List S87} (hl : l.length ≤ 10000000) (hm : l.length = m.length) : ∀ d i, i + d = l.length → Ev (fun k => impl_Step.l0 k l m (l.length : Int) (i : Int)) (sameF l m d i)
  | 0, i, h => by
    refine Ev.succ (fun k => by rw [impl_Step.l0]) ?_
    exact Ev.neg (by omega) (Ev.pure _)
  | d + 1, i, h => by
    have ih := iSame_l0 hl hm d (i + 1) (by omega)
    rw [Int.natCast_add] at ih
    refine Ev.succ (fun k => by rw [impl_Step.l0]) ?_
    refine Ev.pos (by omega) (Ev.pos (by omega) (Ev.pos (by omega) (Ev.pos (by omega) ?_)))
    rw [w64 (by omega), sameF]
    exact Ev.ite (fun h => (Ev.pure _).eq (if_pos h).symm) (fun h => ih.eq (if_neg h).symm)
theorem sSame (a b : Int) {l m : List S87} (hl : l.length ≤ 10000000) : Ev (fun k => spec_l21SameClue.f k a l b m) (sameC a l b m) := by
  unfold spec_l21SameClue.f sameC
  by_cases h : a = b
  · refine Ev.pos h (Ev.succ (fun k => by rw [spec_l21SameClue.j0]) ?_)
    by_cases hm : l.length = m.length
    · refine Ev.neg (by simp; omega) ((sSame_l0 hl hm l.length 0 (by omega)).eq ?_)
      simp [h, hm]
    · exact Ev.pos (by simp; omega) ((Ev.pure _).eq (by simp [hm]))
  · exact Ev.neg h (Ev.succ (fun k => by rw [spec_l21SameClue.j0]) (Ev.pos rfl ((Ev.pure _).eq (by simp [h]))))
theorem iSame (a b : Int) {l m : List S87} (hl : l.length ≤ 10000000) : Ev (fun k => impl_sameClue.f k a l b m) (sameC a l b m) := by
  unfold impl_sameClue.f sameC impl_Step.f
  by_cases h : a = b
  · refine Ev.pos h (Ev.bind ?_ (Ev.pure _))
    by_cases hm : l.length = m.length
    · refine Ev.pos (by omega) ((iSame_l0 hl hm l.length 0 (by omega)).eq ?_)
      simp [h, hm]
    · exact Ev.neg (by omega) ((Ev.pure _).eq (by simp [hm]))
  · exact Ev.neg h ((Ev.pure _).eq (by simp [h]))
/-! ### drafts -/
theorem rdC {xs : List S48} {i : Nat} (h : i < xs.length) : rd_T48 xs (i : Int) = xs[i] := by
  unfold rd_T48; simp [List.getD_eq_getElem?_getD, List.getElem?_eq_getElem h]
def okD (c : S48) : Bool := (decide (c.f0 = 0) && decide (c.f1.length = 0)) || clueV c.f0 c.f1
def cluesD : List S48 → Bool
  | [] => true
  | c :: t => if okD c = true then cluesD t else false
theorem sDraft_l0 {R C : Int} {s f : ByteArray} {cl : List S48} {n : Int} (hl : cl.length ≤ 10000000) {v : Int} {sl : List S79} (hv : Ev (fun k => spec_FormOf.f k R C s) v) (hs : Ev (fun k => spec_SlotsOf.f k R C s) sl) : ∀ d i, i + d = cl.length →
    Ev (fun k => spec_IsDraft.l0 k (i : Int) R C s f cl n) (cluesD (cl.drop i) && (decide (v = 0) && (isF R C s f && (decide (cl.length = sl.length) && decide (1 ≤ n ∧ n ≤ 9999)))))
  | 0, i, h => by
    refine Ev.succ (fun k => by rw [spec_IsDraft.l0]) ?_
    refine Ev.neg (by omega) (Ev.bind hv ?_)
    rw [List.drop_eq_nil_of_le (by omega)]
    simp only [l1In_eq, Option.bind_some, cluesD, Bool.true_and]
    refine Ev.ite (fun h => Ev.bind (sFill R C s f) ?_) (fun h => (Ev.pure _).eq (by simp [h]))
    refine Ev.ite (fun h => Ev.bind hs ?_) (fun h => (Ev.pure _).eq (by simp [h]))
    refine Ev.ite (fun h => ?_) (fun h => (Ev.pure _).eq (by rw [show decide (cl.length = sl.length) = false by simp; omega]; simp))
    exact (Ev.pure _).eq (by simp [show v = 0 by assumption, show isF R C s f = true by assumption, show cl.length = sl.length by omega])
  | d + 1, i, h => by
    have hlt : i < cl.length := by omega
    have ih := sDraft_l0 (f := f) (n := n) hl hv hs d (i + 1) (by omega)
    rw [Int.natCast_add] at ih
    refine Ev.succ (fun k => by rw [spec_IsDraft.l0]) ?_
    refine Ev.pos (by omega) (Ev.pos (by omega) ?_)
    rw [rdC hlt, w64 (by omega), List.drop_eq_getElem_cons hlt, cluesD]
    have hz : spec_l27Zero.f cl[i].f0 cl[i].f1 = some (decide (cl[i].f0 = 0) && decide (cl[i].f1.length = 0)) := by
      unfold spec_l27Zero.f
      by_cases h0 : cl[i].f0 = 0
      · rw [if_pos h0]; simp only [h0, decide_true, Bool.true_and]; congr 1; rw [Bool.eq_iff_iff]; simp
      · rw [if_neg h0]; simp [h0]
    refine Ev.bind (Ev.const hz) ?_
    refine Ev.ite (fun h => ih.eq (by rw [if_pos (by rw [okD, h]; rfl)])) (fun h => ?_)
    refine Ev.bind (sClue _ _) ?_
    refine Ev.ite (fun h2 => ih.eq (by rw [if_pos (by rw [okD, h2]; simp)])) (fun h2 => (Ev.pure _).eq ?_)
    rw [if_neg (by rw [okD]; simp only [Bool.not_eq_true] at h h2; rw [h, h2]; decide)]
    simp
theorem idxD : ∀ (cl : List S48) (i : Int), 0 ≤ i → (∀ c ∈ cl, c.f1.length ≤ 10000000) → ∃ v : Int, Ev (fun k => impl_Clue_63.idx (fun x => impl_IsDraft_1.f k (x).f0 (x).f1) cl i) v ∧ (decide (v ≥ 0) = !cluesD cl)
  | [], i, hi, _ => ⟨-1, Ev.pure _, by simp [cluesD]⟩
  | c :: t, i, hi, hc => by
    obtain ⟨v, h1, h2⟩ := idxD t (i + 1) (by omega) (fun x hx => hc x (List.mem_cons_of_mem _ hx))
    have hd : Ev (fun k => impl_IsDraft_1.f k c.f0 c.f1) (!okD c) := by
      unfold impl_IsDraft_1.f
      refine Ev.bind (iClue _ _) ?_
      refine Ev.ite (fun h => (Ev.pure _).eq (by rw [okD, h]; simp)) (fun h => ?_)
      refine Ev.bind (iSame c.f0 0 (m := ([] : List S87)) (hc c List.mem_cons_self)) ((Ev.pure _).eq ?_)
      simp only [Bool.not_eq_true] at h
      rw [okD, h, Bool.or_false, sameC]
      by_cases h0 : c.f1.length = 0
      · rw [h0]; simp [sameF]
      · simp [h0, show ¬ c.f1 = [] from fun e => h0 (by rw [e]; rfl)]
    by_cases e : okD c = true
    · refine ⟨v, ?_, by rw [h2, cluesD, if_pos e]⟩
      unfold impl_Clue_63.idx
      exact Ev.bind hd (Ev.neg (by simp [e]) h1)
    · refine ⟨i, ?_, by rw [cluesD, if_neg e]; simp; omega⟩
      unfold impl_Clue_63.idx
      exact Ev.bind hd (Ev.pos (by simpa using e) (Ev.pure _))
theorem slotsBoth (R C : Int) (s : ByteArray) : ∃ v : List S79, Ev (fun k => spec_SlotsOf.f k R C s) v ∧ Ev (fun k => impl_SlotsOf.f k R C s) v ∧ (isG R C s = true → ∀ r c, Gr R C s r c → v = slots r c s) := by
  cases hg : isG R C s with
  | false => exact ⟨[], sSlotsOf_no hg, iSlotsOf_no hg, fun h => by cases h⟩
  | true =>
    obtain ⟨r, c, g⟩ := isG_gr hg
    refine ⟨_, sSlotsOf g hg, iSlotsOf g hg, fun _ r' c' g' => ?_⟩
    obtain rfl : r' = r := by have := g.er; have := g'.er; omega
    obtain rfl : c' = c := by have := g.ec; have := g'.ec; omega
    rfl
theorem draft (R C : Int) (s f : ByteArray) (cl : List S48) (n : Int) (hl : cl.length ≤ 10000000) (hc : ∀ c ∈ cl, c.f1.length ≤ 10000000) : ∃ b : Bool, Ev (fun k => spec_IsDraft.f k R C s f cl n) b ∧ Ev (fun k => impl_IsDraft.f k R C s f cl n) b ∧ (b = true → isF R C s f = true ∧ ∀ r c, Gr R C s r c → cl.length = (slots r c s).length) := by
  obtain ⟨v, v1, v2, _⟩ := form R C s
  obtain ⟨sl, s1, s2, s3⟩ := slotsBoth R C s
  have h0 := sDraft_l0 (f := f) (n := n) hl v1 s1 cl.length 0 (by omega)
  rw [List.drop_zero] at h0
  refine ⟨_, h0, ?_, fun h => by simp only [Bool.and_eq_true, decide_eq_true_eq] at h; exact ⟨h.2.2.1, fun r c g => by rw [← s3 (isF_gr h.2.2.1).1 r c g]; exact h.2.2.2.1⟩⟩
  unfold impl_IsDraft.f
  refine Ev.bind v2 ?_
  refine Ev.ite (fun h => Ev.bind (iFill R C s f) ?_) (fun h => (Ev.pure _).eq (by simp [h]))
  refine Ev.ite (fun h => Ev.bind s2 ?_) (fun h => (Ev.pure _).eq (by simp [h]))
  refine Ev.ite (fun h => ?_) (fun h => (Ev.pure _).eq (by rw [show decide (cl.length = sl.length) = false by simp; omega]; simp))
  simp only [InRange_eq, Option.bind_some, decide_eq_true_eq]
  refine Ev.ite (fun h => ?_) (fun h => (Ev.pure _).eq (by simp only [h, decide_false, Bool.and_false]))
  obtain ⟨w, w1, w2⟩ := idxD cl 0 (by omega) hc
  unfold impl_Clue_63.f
  refine Ev.bind (Ev.pos rfl (Ev.bind w1 (Ev.pure _))) ((Ev.pure _).eq ?_)
  rw [w2]
  simp [show v = 0 by assumption, show isF R C s f = true by assumption, show cl.length = sl.length by omega, show 1 ≤ n ∧ n ≤ 9999 by assumption]
end Go.Proofs.Ytpcdfjcbjbkliaa.E
