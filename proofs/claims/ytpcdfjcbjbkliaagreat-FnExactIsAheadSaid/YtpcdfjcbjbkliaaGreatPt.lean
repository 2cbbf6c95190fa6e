import Derived.Test.YtpcdfjcbjbkliaaGreatPs
import Derived.Test.YtpcdfjcbjbkliaaGreatQ26
import Derived.Test.YtpcdfjcbjbkliaaGreatQ27
namespace Go.Proofs.YtpcdfjcbjbkliaaGreat.E
open Go.RowKit Go.Proofs.YtpcdfjcbjbkliaaGreatW.PrintWords Go.Proofs.YtpcdfjcbjbkliaaGreatW.PrintLast Go.Proofs.YtpcdfjcbjbkliaaGreatW.PrintMore
set_option linter.unusedVariables false
set_option linter.unusedSimpArgs false
/-! ### ahead -/
theorem ahead (p i t : Int) (e : ByteArray) (p' i' t' : Int) (e' : ByteArray) (n R C : Int) (s : ByteArray) (cl : List S89) (se : List Int) (sa : Int) (f : ByteArray) (o c : Int) (hl : cl.length ≤ 10000000) (hs : se.length ≤ 10000000) :
    ∃ v : Bool, Ev (fun k => spec_IsAhead.f k p i t e p' i' t' e' n R C s cl se sa f o c) v ∧ Ev (fun k => impl_IsAhead.f k p i t e p' i' t' e' n R C s cl se sa f o c) v := by
  obtain ⟨u, u1, u2⟩ := rightOf p i t e n R C s cl se sa f o c hl hs
  obtain ⟨v, v1, v2⟩ := rightOf p' i' t' e' n R C s cl se sa f o c hl hs
  unfold spec_IsAhead.f impl_IsAhead.f
  have tail : Ev (fun _ => if u = v then (if t = t' then (some (decide (p < p'))) else (some (decide (t < t')))) else (some (decide (u > v)))) (if u = v then (if t = t' then decide (p < p') else decide (t < t')) else decide (u > v)) := by
    refine Ev.ite (fun h => ?_) (fun h => (Ev.pure _).eq (if_neg h).symm)
    rw [if_pos h]
    exact Ev.ite (fun h => (Ev.pure _).eq (if_pos h).symm) (fun h => (Ev.pure _).eq (if_neg h).symm)
  exact ⟨_, Ev.bind u1 (Ev.bind v1 tail), Ev.bind u2 (Ev.bind v2 tail)⟩
/-- The law of IsAhead: true of all arguments whose sizes a machine can hold. -/
theorem law_IsAhead {p i t : Int} {e : ByteArray} {p' i' t' : Int} {e' : ByteArray} {n R C : Int} {s f : ByteArray} {cl : List S83} {se : List Int} {sa o c : Int} (hz : e.size ≤ big) (hz' : e'.size ≤ big) (hs : s.size ≤ big) (hc : FitC cl) (he : se.length ≤ big) (hf : f.size ≤ big) :
    ∃ k, laws_FnExactIsAhead.f k p i t e p' i' t' e' n R C s cl se sa f o c = some true := by
  apply Ev.ex (F := fun k => laws_FnExactIsAhead.f k p i t e p' i' t' e' n R C s cl se sa f o c)
  unfold laws_FnExactIsAhead.f
  obtain ⟨w, w1, w2⟩ := szEntry p i t hz (a := 1048576) (by omega)
  refine Ev.bind (Ev.const w1) ?_
  by_cases hw : w < 0
  · exact Ev.pos hw (Ev.pure _)
  refine Ev.neg hw ?_
  obtain ⟨x, x1, x2⟩ := szEntry p' i' t' hz' (a := w) (by omega)
  refine Ev.bind (Ev.const x1) ?_
  by_cases hx : x < 0
  · exact Ev.pos hx (Ev.pure _)
  refine Ev.neg hx ?_
  obtain ⟨v, v1, v2⟩ := issueOk (n := n) (R := R) (C := C) (sa := sa) (o := o) (c := c) hs hc he hf (a := x) (by omega)
  refine Ev.bind v1 ?_
  by_cases hv : v < 0
  · exact Ev.pos hv (Ev.pure _)
  refine Ev.neg hv ?_
  obtain ⟨ht, hq, l1, l2⟩ := v2 hv
  obtain ⟨b, b1, b2⟩ := ahead p i t e p' i' t' e' n R C s (cl.map clueW) se sa f o c l1 l2
  have e0 : Ev (fun _ => laws_toEntry.f p i t e) (p, i, t, e) := Ev.const rfl
  have e1 : Ev (fun _ => laws_toEntry.f p' i' t' e') (p', i', t', e') := Ev.const rfl
  exact Ev.bind e0 (Ev.bind e1 (Ev.bind ht (Ev.bind b1 (Ev.bind ht (Ev.bind e0 (Ev.bind e1 (Ev.bind b2 (Ev.neg (by simp) (Ev.bind ht (Ev.bind hq (Ev.pos rfl (Ev.pure _))))))))))))
end Go.Proofs.YtpcdfjcbjbkliaaGreat.E
