import Derived.Test.YtpcdfjcbjbkliaaPh
namespace Go.Proofs.Ytpcdfjcbjbkliaa.E
open Go.RowKit Go.Proofs.YtpcdfjcbjbkliaaW.PrintWords Go.Proofs.YtpcdfjcbjbkliaaW.PrintLast Go.Proofs.YtpcdfjcbjbkliaaW.PrintMore
set_option linter.unusedVariables false
set_option linter.unusedSimpArgs false
/-! ### fills -/
theorem isLetter_eq (a : Int) : impl_isLetter.f a = some (decide (97 ≤ a ∧ a ≤ 122)) := by
  unfold impl_isLetter.f
  by_cases h : a ≥ 97
  · rw [if_pos h]; congr 1; simp; omega
  · rw [if_neg h]; congr 1; simp; omega
def fillC (s f : ByteArray) : Nat → Nat → Bool
  | 0, _ => true
  | d + 1, i => if (bt s (i : Int) = 35 → bt f (i : Int) = 35) ∧ (bt s (i : Int) ≠ 35 → (bt f (i : Int) = 63 ∨ (97 ≤ bt f (i : Int) ∧ bt f (i : Int) ≤ 122))) then fillC s f d (i + 1) else false
theorem sFill_l0 {R C : Int} {s f : ByteArray} {r c : Nat} (g : Gr R C s r c) (hf : f.size = s.size) : ∀ d i, i + d = s.size → Ev (fun k => spec_IsFill.l0 k f (i : Int) R C s) (fillC s f d i)
  | 0, i, h => by
    refine Ev.succ (fun k => by rw [spec_IsFill.l0]) ?_
    exact Ev.neg (by omega) (Ev.pure _)
  | d + 1, i, h => by
    have hz : s.size ≤ 36 := by have := g.sz; have := g.mx; omega
    have ho := g.ok i (by omega)
    have ih := sFill_l0 g hf d (i + 1) (by omega)
    rw [Int.natCast_add] at ih
    refine Ev.succ (fun k => by rw [spec_IsFill.l0]) ?_
    rw [w64 (by omega)]
    unfold fillC
    refine Ev.pos (by omega) (Ev.pos (by omega) ?_)
    generalize bt s (i : Int) = a at ho ⊢
    generalize bt f (i : Int) = b
    repeat' refine Ev.ite (fun h => ?_) (fun h => ?_)
    all_goals first | exact ih.eq (if_pos (by omega)).symm | exact (Ev.pure false).eq (if_neg (by omega)).symm | (exfalso; omega)
theorem bne35 {a b : Int} : (((a == 35) != (b == 35)) = true) ↔ ¬ (a = 35 ↔ b = 35) := by
  rw [bne_iff_ne, ne_eq, Bool.eq_iff_iff]
  simp only [beq_iff_eq]
theorem iFill_l0 {R C : Int} {s f : ByteArray} {r c : Nat} (g : Gr R C s r c) (hf : f.size = s.size) : ∀ d i, i + d = s.size → Ev (fun k => impl_IsFill.l0 k f (f.size : Int) (i : Int) R C s) (fillC s f d i)
  | 0, i, h => by
    refine Ev.succ (fun k => by rw [impl_IsFill.l0]) ?_
    exact Ev.neg (by omega) (Ev.pure _)
  | d + 1, i, h => by
    have hz : s.size ≤ 36 := by have := g.sz; have := g.mx; omega
    have ho := g.ok i (by omega)
    have ih := iFill_l0 g hf d (i + 1) (by omega)
    rw [Int.natCast_add] at ih
    refine Ev.succ (fun k => by rw [impl_IsFill.l0]) ?_
    rw [w64 (by omega)]
    unfold fillC
    refine Ev.pos (by omega) (Ev.pos (by omega) (Ev.pos (by omega) (Ev.pos (by omega) ?_)))
    simp only [isLetter_eq, Option.bind_some, decide_eq_true_eq, bne35]
    generalize bt s (i : Int) = a at ho ⊢
    generalize bt f (i : Int) = b
    repeat' refine Ev.ite (fun h => ?_) (fun h => ?_)
    all_goals first | exact ih.eq (if_pos (by omega)).symm | exact (Ev.pure false).eq (if_neg (by omega)).symm | (exfalso; omega)
def isF (R C : Int) (s f : ByteArray) : Bool := isG R C s && (decide (f.size = s.size) && fillC s f s.size 0)
theorem sFill (R C : Int) (s f : ByteArray) : Ev (fun k => spec_IsFill.f k R C s f) (isF R C s f) := by
  unfold spec_IsFill.f isF
  refine Ev.bind (sIsGrid R C s) ?_
  cases hg : isG R C s with
  | false =>
    refine Ev.neg (by decide) (Ev.succ (fun k => by rw [spec_IsFill.j0]) ?_)
    exact Ev.pos rfl (Ev.pure _)
  | true =>
    obtain ⟨r, c, g⟩ := isG_gr hg
    refine Ev.pos rfl (Ev.succ (fun k => by rw [spec_IsFill.j0]) ?_)
    by_cases hf : f.size = s.size
    · refine Ev.neg (by simp; omega) ?_
      have := sFill_l0 g hf s.size 0 (by omega)
      simpa [hf] using this
    · refine Ev.pos (by simp; omega) ((Ev.pure _).eq (by simp [hf]))
theorem iFill (R C : Int) (s f : ByteArray) : Ev (fun k => impl_IsFill.f k R C s f) (isF R C s f) := by
  unfold impl_IsFill.f isF
  refine Ev.bind (iIsGrid R C s) ?_
  cases hg : isG R C s with
  | false =>
    refine Ev.neg (by decide) (Ev.succ (fun k => by rw [impl_IsFill.j0]) ?_)
    exact Ev.pos rfl (Ev.pure _)
  | true =>
    obtain ⟨r, c, g⟩ := isG_gr hg
    refine Ev.pos rfl (Ev.succ (fun k => by rw [impl_IsFill.j0]) ?_)
    by_cases hf : f.size = s.size
    · refine Ev.neg (by simp; omega) ?_
      have := iFill_l0 g hf s.size 0 (by omega)
      simpa [hf] using this
    · refine Ev.pos (by simp; omega) ((Ev.pure _).eq (by simp [hf]))
/-! ### open cells -/
/-! ### words -/
def wordC (f : ByteArray) : Nat → Nat → Bool
  | 0, _ => true
  | d + 1, i => if 97 ≤ bt f (i : Int) ∧ bt f (i : Int) ≤ 122 then wordC f d (i + 1) else false
def isW (f : ByteArray) : Bool := decide (1 ≤ (f.size : Int) ∧ (f.size : Int) ≤ 8) && wordC f f.size 0
theorem isW_size {f : ByteArray} (h : isW f = true) : 1 ≤ f.size ∧ f.size ≤ 8 := by
  unfold isW at h
  simp only [Bool.and_eq_true, decide_eq_true_eq] at h
  omega
theorem sWord_l0 {f : ByteArray} (hz : f.size ≤ 8) : ∀ d i, i + d = f.size → Ev (fun k => spec_IsWord.l0 k f (i : Int)) (wordC f d i)
  | 0, i, h => by
    refine Ev.succ (fun k => by rw [spec_IsWord.l0]) ?_
    exact Ev.neg (by omega) (Ev.pure _)
  | d + 1, i, h => by
    have ih := sWord_l0 hz d (i + 1) (by omega)
    rw [Int.natCast_add] at ih
    refine Ev.succ (fun k => by rw [spec_IsWord.l0]) ?_
    rw [w64 (by omega)]
    unfold wordC
    refine Ev.pos (by omega) (Ev.pos (by omega) ?_)
    repeat' refine Ev.ite (fun h => ?_) (fun h => ?_)
    all_goals first | exact ih.eq (if_pos (by omega)).symm | exact (Ev.pure false).eq (if_neg (by omega)).symm
theorem iWord_l0 {f : ByteArray} (hz : f.size ≤ 8) : ∀ d i, i + d = f.size → Ev (fun k => impl_IsWord.l0 k f (f.size : Int) (i : Int)) (wordC f d i)
  | 0, i, h => by
    refine Ev.succ (fun k => by rw [impl_IsWord.l0]) ?_
    exact Ev.neg (by omega) (Ev.pure _)
  | d + 1, i, h => by
    have ih := iWord_l0 hz d (i + 1) (by omega)
    rw [Int.natCast_add] at ih
    refine Ev.succ (fun k => by rw [impl_IsWord.l0]) ?_
    rw [w64 (by omega)]
    unfold wordC
    refine Ev.pos (by omega) (Ev.pos (by omega) (Ev.pos (by omega) ?_))
    simp only [isLetter_eq, Option.bind_some, decide_eq_true_eq]
    refine Ev.ite (fun h => ?_) (fun h => ?_)
    · exact ih.eq (if_pos h).symm
    · exact (Ev.pure _).eq (if_neg h).symm
theorem sWord (f : ByteArray) : Ev (fun k => spec_IsWord.f k f) (isW f) := by
  unfold spec_IsWord.f isW
  simp only [l1In_eq, Option.bind_some, decide_eq_true_eq]
  refine Ev.ite (fun h => ?_) (fun h => ?_)
  · simp only [h, and_self, decide_true, Bool.true_and]
    exact sWord_l0 (by omega) f.size 0 (by omega)
  · simp only [h, decide_false, Bool.false_and]
    exact Ev.pure _
theorem iWord (f : ByteArray) : Ev (fun k => impl_IsWord.f k f) (isW f) := by
  unfold impl_IsWord.f isW
  simp only [InRange_eq, Option.bind_some, decide_eq_true_eq]
  refine Ev.ite (fun h => ?_) (fun h => ?_)
  · simp only [h, and_self, decide_true, Bool.true_and]
    exact iWord_l0 (by omega) f.size 0 (by omega)
  · simp only [h, decide_false, Bool.false_and]
    exact Ev.pure _
end Go.Proofs.Ytpcdfjcbjbkliaa.E
