import Derived.Test.YtpcdfjcbjbkliaaGreatPn
import Derived.Test.YtpcdfjcbjbkliaaGreatQ24
import Derived.Test.YtpcdfjcbjbkliaaGreatQ25
namespace Go.Proofs.YtpcdfjcbjbkliaaGreat.E
open Go.RowKit Go.Proofs.YtpcdfjcbjbkliaaGreatW.PrintWords Go.Proofs.YtpcdfjcbjbkliaaGreatW.PrintLast Go.Proofs.YtpcdfjcbjbkliaaGreatW.PrintMore
set_option linter.unusedVariables false
set_option linter.unusedSimpArgs false
/-! ### right -/
theorem rightOf (p i t : Int) (e : ByteArray) (n R C : Int) (s : ByteArray) (cl : List S89) (se : List Int) (sa : Int) (f : ByteArray) (o c : Int) (hl : cl.length ≤ 10000000) (hs : se.length ≤ 10000000) :
    ∃ v : Int, Ev (fun k => spec_RightOf.f k p i t e n R C s cl se sa f o c) v ∧ Ev (fun k => impl_RightOf.f k p i t e n R C s cl se sa f o c) v := by
  obtain ⟨b, b1, b2, b3⟩ := entry p i t e n R C s cl se sa f o c hl hs
  unfold spec_RightOf.f impl_RightOf.f
  by_cases hb : b = true
  · obtain ⟨v, v1, v2⟩ := right (b3 hb) (l := se) hs sa
    exact ⟨_, Ev.bind b1 (Ev.pos hb (Ev.bind v1 (Ev.pure _))), Ev.bind b2 (Ev.pos hb (Ev.bind v2 (Ev.pure _)))⟩
  · exact ⟨0, Ev.bind b1 (Ev.neg hb (Ev.pure _)), Ev.bind b2 (Ev.neg hb (Ev.pure _))⟩
/-- The law of RightOf: true of all arguments whose sizes a machine can hold. -/
theorem law_RightOf {p i t : Int} {e : ByteArray} {n R C : Int} {s f : ByteArray} {cl : List S83} {se : List Int} {sa o c : Int} (hz : e.size ≤ big) (hs : s.size ≤ big) (hc : FitC cl) (he : se.length ≤ big) (hf : f.size ≤ big) :
    ∃ k, laws_FnExactRightOf.f k p i t e n R C s cl se sa f o c = some true := by
  apply Ev.ex (F := fun k => laws_FnExactRightOf.f k p i t e n R C s cl se sa f o c)
  unfold laws_FnExactRightOf.f
  obtain ⟨w, w1, w2⟩ := szEntry p i t hz (a := 1048576) (by omega)
  refine Ev.bind (Ev.const w1) ?_
  by_cases hw : w < 0
  · exact Ev.pos hw (Ev.pure _)
  refine Ev.neg hw ?_
  obtain ⟨v, v1, v2⟩ := issueOk (n := n) (R := R) (C := C) (sa := sa) (o := o) (c := c) hs hc he hf (a := w) (by omega)
  refine Ev.bind v1 ?_
  by_cases hv : v < 0
  · exact Ev.pos hv (Ev.pure _)
  refine Ev.neg hv ?_
  obtain ⟨ht, hq, l1, l2⟩ := v2 hv
  obtain ⟨b, b1, b2⟩ := rightOf p i t e n R C s (cl.map clueW) se sa f o c l1 l2
  have e0 : Ev (fun _ => laws_toEntry.f p i t e) (p, i, t, e) := Ev.const rfl
  exact Ev.bind e0 (Ev.bind ht (Ev.bind b1 (Ev.bind ht (Ev.bind e0 (Ev.bind b2 (Ev.pos rfl (Ev.bind ht (Ev.bind hq (Ev.pos rfl (Ev.pure _))))))))))
end Go.Proofs.YtpcdfjcbjbkliaaGreat.E
