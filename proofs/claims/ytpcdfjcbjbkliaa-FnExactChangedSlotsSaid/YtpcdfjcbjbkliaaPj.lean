import Derived.Test.YtpcdfjcbjbkliaaPi
namespace Go.Proofs.Ytpcdfjcbjbkliaa.E
open Go.RowKit Go.Proofs.YtpcdfjcbjbkliaaW.PrintWords Go.Proofs.YtpcdfjcbjbkliaaW.PrintLast Go.Proofs.YtpcdfjcbjbkliaaW.PrintMore
set_option linter.unusedVariables false
set_option linter.unusedSimpArgs false
/-! ### wordplay -/
theorem rdS {xs : List S87} {i : Nat} (h : i < xs.length) : rd_T87 xs (i : Int) = xs[i] := by
  unfold rd_T87; simp [List.getD_eq_getElem?_getD, List.getElem?_eq_getElem h]
/-- one step of a wordplay is right -/
def stepP (l : List S87) (i : Nat) (x : S87) : Prop :=
  (1 ≤ x.f0 ∧ x.f0 ≤ 9) ∧ ((x.f0 = 1 ∧ isW x.f1 = true ∧ x.f2 = 0 ∧ x.f3 = 0) ∨
    (x.f0 ≠ 1 ∧ x.f1.toList = [] ∧ (0 ≤ x.f2 ∧ x.f2 < i) ∧ (((x.f0 = 4 ∨ x.f0 = 5) ∧ 0 ≤ x.f3 ∧ x.f3 < i) ∨ (¬ (x.f0 = 4 ∨ x.f0 = 5) ∧ x.f3 = 0 ∧ (x.f0 = 2 ∨ (rd_T87 l x.f2).f0 = 1)))))
instance stepD (l : List S87) (i : Nat) (x : S87) : Decidable (stepP l i x) := by unfold stepP; infer_instance
theorem isW_empty {f : ByteArray} (h : f.toList = []) : isW f = false := by
  cases hw : isW f with
  | false => rfl
  | true =>
    have := isW_size hw
    have hl : f.toList.length = f.size := by rw [Go.ByteArray.toList_eq]; rfl
    rw [h] at hl
    simp at hl
    omega
theorem sOk_j1 {l : List S87} {i : Nat} (hi : i < 100) (hl : i < l.length) {two : Bool} {k0 A B : Int} {w : ByteArray} (ht : two = true ↔ (k0 = 4 ∨ k0 = 5)) :
    Ev (fun k => spec_l15Ok.j1 k l (i : Int) two k0 w A B) (decide ((k0 = 1 ∧ A = 0 ∧ B = 0) ∨ (k0 ≠ 1 ∧ (0 ≤ A ∧ A < i) ∧ (((k0 = 4 ∨ k0 = 5) ∧ 0 ≤ B ∧ B < i) ∨ (¬ (k0 = 4 ∨ k0 = 5) ∧ B = 0 ∧ (k0 = 2 ∨ (rd_T87 l A).f0 = 1)))))) := by
  refine Ev.succ (fun k => by rw [spec_l15Ok.j1]) ?_
  rw [w64 (by omega)]
  simp only [l1In_eq, Option.bind_some, decide_eq_true_eq, ht]
  generalize (rd_T87 l A).f0 = K
  repeat' refine Ev.ite (fun h => ?_) (fun h => ?_)
  all_goals first
    | (exfalso; omega)
    | (refine (Ev.pure _).eq ?_; rw [Bool.eq_iff_iff]; simp only [beq_iff_eq, decide_eq_true_eq, true_iff, false_iff, Bool.false_eq_true, iff_true, iff_false]; omega)
theorem sOk {l : List S87} {i : Nat} (hi : i < 100) (hl : i < l.length) : Ev (fun k => spec_l15Ok.f k l (i : Int)) (decide (stepP l i l[i])) := by
  unfold spec_l15Ok.f
  refine Ev.pos (by omega) (Ev.pos (by omega) ?_)
  rw [rdS hl]
  simp only [l1In_eq, Option.bind_some, decide_eq_true_eq]
  generalize l[i] = x
  have j0 : ∀ (b : Bool), Ev (fun k => spec_l15Ok.j0 k l (i : Int) b x.f0 x.f1 x.f2 x.f3) (if b = true then false else decide ((x.f0 = 1 ∧ x.f2 = 0 ∧ x.f3 = 0) ∨ (x.f0 ≠ 1 ∧ (0 ≤ x.f2 ∧ x.f2 < i) ∧ (((x.f0 = 4 ∨ x.f0 = 5) ∧ 0 ≤ x.f3 ∧ x.f3 < i) ∨ (¬ (x.f0 = 4 ∨ x.f0 = 5) ∧ x.f3 = 0 ∧ (x.f0 = 2 ∨ (rd_T87 l x.f2).f0 = 1)))))) := by
    intro b
    refine Ev.succ (fun k => by rw [spec_l15Ok.j0]) ?_
    cases b with
    | true => exact Ev.pos rfl (Ev.pure _)
    | false =>
      refine Ev.neg (by decide) ?_
      by_cases h4 : x.f0 = 4
      · exact Ev.pos h4 (sOk_j1 hi hl (by simp [h4]))
      · exact Ev.neg h4 (sOk_j1 hi hl (by simp [h4]))
  by_cases hk : 1 ≤ x.f0 ∧ x.f0 ≤ 9
  · refine Ev.pos hk (Ev.bind (sWord x.f1) ?_)
    by_cases h1 : x.f0 = 1
    · cases hw : isW x.f1 with
      | true =>
        refine Ev.neg (by simp [h1]) (Ev.pos h1 ((j0 false).eq ?_))
        rw [if_neg (by decide), Bool.eq_iff_iff]
        simp only [decide_eq_true_eq, stepP, hw, true_and]
        omega
      | false =>
        refine Ev.pos (by simp [h1]) ((j0 true).eq ?_)
        rw [if_pos rfl]
        simp [stepP, hw, h1]
    · cases hw : isW x.f1 with
      | true =>
        have hE : ¬ x.f1.toList = [] := fun h => by rw [isW_empty h] at hw; cases hw
        refine Ev.pos (by simp [h1]) ((j0 true).eq ?_)
        rw [if_pos rfl]
        simp [stepP, hE, h1]
      | false =>
        refine Ev.neg (by simp [h1]) (Ev.neg h1 ((j0 _).eq ?_))
        by_cases hE : x.f1.toList = []
        · rw [if_neg (by simp [hE]), Bool.eq_iff_iff]
          simp only [decide_eq_true_eq, stepP, hw, hE, true_and, Bool.false_eq_true, false_and, and_false, false_or]
          omega
        · rw [if_pos (by simpa using hE)]
          simp [stepP, hE, h1]
  · refine Ev.neg hk ((j0 true).eq ?_)
    rw [if_pos rfl]
    simp only [stepP, hk, false_and, decide_false]
def playC (l : List S87) : Nat → Nat → Bool
  | 0, _ => true
  | d + 1, i => if h : i < l.length then (if stepP l i l[i] then playC l d (i + 1) else false) else false
def playV (l : List S87) : Bool := decide (1 ≤ (l.length : Int) ∧ (l.length : Int) ≤ 9) && playC l l.length 0
theorem sPlay_l0 {l : List S87} (h9 : 1 ≤ l.length ∧ l.length ≤ 9) : ∀ d i, i + d = l.length → Ev (fun k => spec_IsPlay.l0 k l (i : Int)) (playC l d i)
  | 0, i, h => by
    refine Ev.succ (fun k => by rw [spec_IsPlay.l0]) ?_
    refine Ev.neg (by omega) (Ev.succ (fun k => by rw [spec_IsPlay.j1]) ?_)
    refine Ev.neg (by decide) ?_
    simp only [l1In_eq, Option.bind_some]
    exact (Ev.pure _).eq (by simp [playC]; omega)
  | d + 1, i, h => by
    have ih := sPlay_l0 h9 d (i + 1) (by omega)
    rw [Int.natCast_add] at ih
    refine Ev.succ (fun k => by rw [spec_IsPlay.l0]) ?_
    refine Ev.pos (by omega) (Ev.succ (fun k => by rw [spec_IsPlay.j1]) ?_)
    refine Ev.pos (by simp; omega) (Ev.bind (sOk (by omega) (by omega)) ?_)
    rw [w64 (by omega)]
    unfold playC
    rw [dif_pos (show i < l.length by omega)]
    refine Ev.ite (fun h => ?_) (fun h => ?_)
    · exact ih.eq (if_pos (by simpa using h)).symm
    · exact (Ev.pure _).eq (if_neg (by simpa using h)).symm
theorem sPlay (l : List S87) : Ev (fun k => spec_IsPlay.f k l) (playV l) := by
  unfold spec_IsPlay.f playV
  by_cases h9 : 1 ≤ l.length ∧ l.length ≤ 9
  · have := sPlay_l0 h9 l.length 0 (by omega)
    exact this.eq (by simp; intro; omega)
  · have e : decide (1 ≤ (l.length : Int) ∧ (l.length : Int) ≤ 9) = false := by simp; omega
    rw [e, Bool.false_and]
    have j : ∀ b : Bool, b = false → Ev (fun k => spec_IsPlay.j1 k l 0 b) false := by
      rintro b rfl
      refine Ev.succ (fun k => by rw [spec_IsPlay.j1]) ?_
      refine Ev.neg (by decide) ?_
      simp only [l1In_eq, Option.bind_some, e]
      exact Ev.pure _
    refine Ev.succ (fun k => by rw [spec_IsPlay.l0]) ?_
    exact Ev.ite (fun h => j _ (by simp; omega)) (fun h => j _ rfl)
theorem needs_eq (a : Int) : impl_needsWord.f a = some (decide (a = 3 ∨ a ≥ 6)) := by
  unfold impl_needsWord.f
  by_cases h : a = 3 <;> simp [h]
theorem pair_eq (a : Int) : impl_isPair.f a = some (decide (a = 4 ∨ a = 5)) := by
  unfold impl_isPair.f
  by_cases h : a = 4
  · simp [h]
  · rw [if_neg h]; congr 1; rw [Bool.eq_iff_iff]; simp [h]
theorem iPlay_j1 {l : List S87} {i : Nat} (hi : i < 100) {b : Bool} {k0 A B : Int} {w : ByteArray} {n : Int} {q : Bool}
    (hq : (b = false ∧ (((k0 = 4 ∨ k0 = 5) ∧ 0 ≤ B ∧ B < i) ∨ (¬ (k0 = 4 ∨ k0 = 5) ∧ B = 0))) → Ev (fun k => impl_IsPlay.l0 k l l n ((i + 1 : Nat) : Int)) q) (hn : ¬ (b = false ∧ (((k0 = 4 ∨ k0 = 5) ∧ 0 ≤ B ∧ B < i) ∨ (¬ (k0 = 4 ∨ k0 = 5) ∧ B = 0))) → q = false) :
    Ev (fun k => impl_IsPlay.j1 k l (i : Int) l n (i : Int) b k0 w A B) q := by
  refine Ev.succ (fun k => by rw [impl_IsPlay.j1]) ?_
  rw [Int.natCast_add] at hq
  rw [w64 (by omega)]
  simp only [pair_eq, at_eq, Option.bind_some, decide_eq_true_eq]
  cases b with
  | true => exact Ev.pos rfl ((Ev.pure _).eq (hn (by simp)).symm)
  | false =>
    refine Ev.neg (by decide) ?_
    simp only [true_and] at hq hn
    repeat' refine Ev.ite (fun h => ?_) (fun h => ?_)
    all_goals first
      | exact hq (by omega)
      | exact (Ev.pure _).eq (hn (by omega)).symm
theorem iPlay_l0 {l : List S87} (h9 : l.length ≤ 9) : ∀ d i, i + d = l.length → Ev (fun k => impl_IsPlay.l0 k l l (l.length : Int) (i : Int)) (playC l d i)
  | 0, i, h => by
    refine Ev.succ (fun k => by rw [impl_IsPlay.l0]) ?_
    exact Ev.neg (by omega) (Ev.pure _)
  | d + 1, i, h => by
    have ih := iPlay_l0 h9 d (i + 1) (by omega)
    refine Ev.succ (fun k => by rw [impl_IsPlay.l0]) ?_
    refine Ev.pos (by omega) (Ev.pos (by omega) (Ev.pos (by omega) ?_))
    rw [rdS (by omega)]
    unfold playC
    rw [dif_pos (show i < l.length by omega)]
    simp only [InRange_eq, needs_eq, at_eq, Option.bind_some, decide_eq_true_eq]
    generalize l[i] = x
    by_cases hk : 1 ≤ x.f0 ∧ x.f0 ≤ 9
    · refine Ev.pos hk ?_
      by_cases h1 : x.f0 = 1
      · refine Ev.pos h1 (Ev.bind (iWord x.f1) ?_)
        rw [Int.natCast_add] at ih
        rw [w64 (by omega)]
        cases hw : isW x.f1 with
        | true =>
          refine Ev.pos rfl ?_
          repeat' refine Ev.ite (fun h => ?_) (fun h => ?_)
          all_goals first
            | exact ih.eq (if_pos (by simp only [stepP, hw, true_and]; omega)).symm
            | exact (Ev.pure _).eq (if_neg (by simp only [stepP, hw, true_and]; omega)).symm
        | false => exact Ev.neg (by decide) ((Ev.pure _).eq (if_neg (by simp [stepP, hw, h1])).symm)
      · refine Ev.neg h1 ?_
        by_cases hE : x.f1.toList = []
        · refine Ev.pos hE ?_
          have fin : ∀ b : Bool, (b = false ↔ ((0 ≤ x.f2 ∧ x.f2 < i) ∧ (x.f0 = 2 ∨ x.f0 = 4 ∨ x.f0 = 5 ∨ (rd_T87 l x.f2).f0 = 1))) → Ev (fun k => impl_IsPlay.j1 k l (i : Int) l (l.length : Int) (i : Int) b x.f0 x.f1 x.f2 x.f3) (if stepP l i x then playC l d (i + 1) else false) := by
            intro b hb
            refine iPlay_j1 (by omega) (fun h => ih.eq (if_pos ?_).symm) (fun h => if_neg ?_)
            · rw [hb] at h
              simp only [stepP, hE, true_and]
              omega
            · rw [hb] at h
              simp only [stepP, hE, true_and]
              omega
          by_cases hA : 0 ≤ x.f2 ∧ x.f2 < (i : Int)
          · refine Ev.pos hA ?_
            by_cases hn : x.f0 = 3 ∨ x.f0 ≥ 6
            · refine Ev.pos hn (Ev.pos (by omega) (Ev.pos (by omega) (fin _ ?_)))
              simp only [bne_eq_false_iff_eq]
              omega
            · refine Ev.neg hn (fin _ ?_)
              simp only [true_iff]
              omega
          · refine Ev.neg hA (fin _ ?_)
            simp only [Bool.true_eq_false, false_iff]
            omega
        · exact Ev.neg hE (iPlay_j1 (by omega) (fun h => by cases h.1) (fun _ => if_neg (by simp [stepP, hE, h1])))
    · exact Ev.neg hk ((Ev.pure _).eq (if_neg (by simp only [stepP, hk, false_and, not_false_eq_true])).symm)
theorem iPlay (l : List S87) : Ev (fun k => impl_IsPlay.f k l) (playV l) := by
  unfold impl_IsPlay.f playV
  simp only [InRange_eq, Option.bind_some, decide_eq_true_eq]
  refine Ev.ite (fun h => ?_) (fun h => ?_)
  · simp only [h, and_self, decide_true, Bool.true_and]
    exact iPlay_l0 (by omega) l.length 0 (by omega)
  · simp only [h, decide_false, Bool.false_and]
    exact Ev.pure _
def clueV (a : Int) (l : List S87) : Bool := decide (1 ≤ a ∧ a ≤ 99) && playV l
theorem sClue (a : Int) (l : List S87) : Ev (fun k => spec_IsClue.f k a l) (clueV a l) := by
  unfold spec_IsClue.f clueV
  simp only [l1In_eq, Option.bind_some, decide_eq_true_eq]
  refine Ev.ite (fun h => ?_) (fun h => ?_)
  · exact Ev.bind (sPlay l) ((Ev.pure _).eq (by simp [h]))
  · exact (Ev.pure _).eq (by simp only [h, decide_false, Bool.false_and])
theorem iClue (a : Int) (l : List S87) : Ev (fun k => impl_IsClue.f k a l) (clueV a l) := by
  unfold impl_IsClue.f clueV
  simp only [InRange_eq, Option.bind_some, decide_eq_true_eq]
  refine Ev.ite (fun h => ?_) (fun h => ?_)
  · exact Ev.bind (iPlay l) ((Ev.pure _).eq (by simp [h]))
  · exact (Ev.pure _).eq (by simp only [h, decide_false, Bool.false_and])
end Go.Proofs.Ytpcdfjcbjbkliaa.E
