import Derived.Test.YtpcdfjcbjbkliaaGreatPm
import Derived.Test.YtpcdfjcbjbkliaaGreatQ23
namespace Go.Proofs.YtpcdfjcbjbkliaaGreat.E
open Go.RowKit Go.Proofs.YtpcdfjcbjbkliaaGreatW.PrintWords Go.Proofs.YtpcdfjcbjbkliaaGreatW.PrintLast Go.Proofs.YtpcdfjcbjbkliaaGreatW.PrintMore
set_option linter.unusedVariables false
set_option linter.unusedSimpArgs false
/-! ### entries -/
theorem szEntry (p i t : Int) {f : ByteArray} (hf : f.size ≤ big) {a : Int} (ha : 0 ≤ a ∧ a ≤ 1048576) : ∃ v : Int, laws_szEntry.f p i t f a = some v ∧ v ≤ 1048576 := by
  unfold laws_szEntry.f
  have hw := left_ev hf ha
  by_cases h : wrap64 (a - (f.size : Int)) < 0
  · exact ⟨-1, if_pos h, by omega⟩
  · exact ⟨_, if_neg h, by omega⟩
theorem entry (p i t : Int) (e : ByteArray) (n R C : Int) (s : ByteArray) (cl : List S89) (se : List Int) (sa : Int) (f : ByteArray) (o c : Int) (hl : cl.length ≤ 10000000) (hs : se.length ≤ 10000000) :
    ∃ b : Bool, Ev (fun k => spec_IsEntry.f k p i t e n R C s cl se sa f o c) b ∧ Ev (fun k => impl_IsEntry.f k p i t e n R C s cl se sa f o c) b ∧ (b = true → isF R C s e = true) := by
  obtain ⟨b, b1, b2⟩ := issue n R C s cl se sa f o c hl hs
  unfold spec_IsEntry.f impl_IsEntry.f spec_IsOpen.f impl_IsOpen.f
  simp only [l1In_eq, InRange_eq, Option.bind_some, decide_eq_true_eq]
  by_cases hp : 1 ≤ p ∧ p ≤ 99
  · by_cases hi : i = n
    · by_cases hb : b = true
      · by_cases ho : t ≥ o
        · simp only [if_pos ho, Option.bind_some, decide_eq_true_eq]
          by_cases hc : t < c
          · exact ⟨_, Ev.pos hp (Ev.pos hi (Ev.bind b1 (Ev.pos hb (Ev.pos hc (Ev.bind (sFill R C s e) (Ev.pure _)))))), Ev.pos hp (Ev.pos hi (Ev.bind b2 (Ev.pos hb (Ev.pos hc (Ev.bind (iFill R C s e) (Ev.pure _)))))), fun h => h⟩
          · exact ⟨false, Ev.pos hp (Ev.pos hi (Ev.bind b1 (Ev.pos hb (Ev.neg hc (Ev.pure _))))), Ev.pos hp (Ev.pos hi (Ev.bind b2 (Ev.pos hb (Ev.neg hc (Ev.pure _))))), fun h => by cases h⟩
        · simp only [if_neg ho, Option.bind_some]
          exact ⟨false, Ev.pos hp (Ev.pos hi (Ev.bind b1 (Ev.pos hb (Ev.neg (by decide) (Ev.pure _))))), Ev.pos hp (Ev.pos hi (Ev.bind b2 (Ev.pos hb (Ev.neg (by decide) (Ev.pure _))))), fun h => by cases h⟩
      · exact ⟨false, Ev.pos hp (Ev.pos hi (Ev.bind b1 (Ev.neg hb (Ev.pure _)))), Ev.pos hp (Ev.pos hi (Ev.bind b2 (Ev.neg hb (Ev.pure _)))), fun h => by cases h⟩
    · exact ⟨false, Ev.pos hp (Ev.neg hi (Ev.pure _)), Ev.pos hp (Ev.neg hi (Ev.pure _)), fun h => by cases h⟩
  · exact ⟨false, Ev.neg hp (Ev.pure _), Ev.neg hp (Ev.pure _), fun h => by cases h⟩
/-- What the laws over an issue have at hand: sizes told, the issue copied, a copy is its like. -/
theorem issueOk {n R C : Int} {s f : ByteArray} {cl : List S83} {se : List Int} {sa o c : Int} (hs : s.size ≤ big) (hc : FitC cl) (he : se.length ≤ big) (hf : f.size ≤ big) {a : Int} (ha : 0 ≤ a ∧ a ≤ 1048576) :
    ∃ v : Int, Ev (fun k => laws_szIssue.f k n R C s cl se sa f o c a) v ∧ (¬ v < 0 → Ev (fun k => laws_toIssue.f k n R C s cl se sa f o c) (n, R, C, s, cl.map clueW, se, sa, f, o, c) ∧
      Ev (fun k => laws_eqIssue.f k n R C s (cl.map clueW) se sa f o c n R C s (cl.map clueW) se sa f o c) true ∧ (cl.map clueW).length ≤ 10000000 ∧ se.length ≤ 10000000) := by
  obtain ⟨v, v1, v2⟩ := szIssue (n := n) (R := R) (C := C) (sa := sa) (o := o) (c := c) hs hc he hf ha
  refine ⟨v, v1, fun hv => ?_⟩
  obtain ⟨⟨a1, a2⟩, a3⟩ := v2 hv
  exact ⟨toIssue a1 a2 a3, eqIssue (by rw [List.length_map]; exact a1) (fun x hx => by
    obtain ⟨y, hy, rfl⟩ := List.mem_map.mp hx
    show (y.f1.map stepW).length ≤ 1048576
    rw [List.length_map]
    exact a2 y hy) a3, by rw [List.length_map]; omega, by omega⟩
/-- The law of IsEntry: true of all arguments whose sizes a machine can hold. -/
theorem law_IsEntry {p i t : Int} {e : ByteArray} {n R C : Int} {s f : ByteArray} {cl : List S83} {se : List Int} {sa o c : Int} (hz : e.size ≤ big) (hs : s.size ≤ big) (hc : FitC cl) (he : se.length ≤ big) (hf : f.size ≤ big) :
    ∃ k, laws_FnExactIsEntry.f k p i t e n R C s cl se sa f o c = some true := by
  apply Ev.ex (F := fun k => laws_FnExactIsEntry.f k p i t e n R C s cl se sa f o c)
  unfold laws_FnExactIsEntry.f
  obtain ⟨w, w1, w2⟩ := szEntry p i t hz (a := 1048576) (by omega)
  refine Ev.bind (Ev.const w1) ?_
  by_cases hw : w < 0
  · exact Ev.pos hw (Ev.pure _)
  refine Ev.neg hw ?_
  obtain ⟨v, v1, v2⟩ := issueOk (n := n) (R := R) (C := C) (sa := sa) (o := o) (c := c) hs hc he hf (a := w) (by omega)
  refine Ev.bind v1 ?_
  by_cases hv : v < 0
  · exact Ev.pos hv (Ev.pure _)
  refine Ev.neg hv ?_
  obtain ⟨ht, hq, l1, l2⟩ := v2 hv
  obtain ⟨b, b1, b2, _⟩ := entry p i t e n R C s (cl.map clueW) se sa f o c l1 l2
  have e0 : Ev (fun _ => laws_toEntry.f p i t e) (p, i, t, e) := Ev.const rfl
  exact Ev.bind e0 (Ev.bind ht (Ev.bind b1 (Ev.bind ht (Ev.bind e0 (Ev.bind b2 (Ev.neg (by simp) (Ev.bind ht (Ev.bind hq (Ev.pos rfl (Ev.pure _))))))))))
end Go.Proofs.YtpcdfjcbjbkliaaGreat.E
