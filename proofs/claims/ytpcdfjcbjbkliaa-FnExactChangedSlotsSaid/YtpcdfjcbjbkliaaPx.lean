import Derived.Test.YtpcdfjcbjbkliaaPw
import Derived.Test.YtpcdfjcbjbkliaaLw
namespace Go.Proofs.Ytpcdfjcbjbkliaa.E
open Go.RowKit Go.Proofs.YtpcdfjcbjbkliaaW.PrintWords Go.Proofs.YtpcdfjcbjbkliaaW.PrintLast Go.Proofs.YtpcdfjcbjbkliaaW.PrintMore
set_option linter.unusedVariables false
set_option linter.unusedSimpArgs false
/-- The law of ChangedSlots: true of all arguments whose sizes a machine can hold. -/
theorem law_ChangedSlots {R C n : Int} {s f : ByteArray} {l : List S42} {R' C' n' : Int} {s' f' : ByteArray} {l' : List S42} (hs : s.size ≤ big) (hf : f.size ≤ big) (hc : FitC l) (hs' : s'.size ≤ big) (hf' : f'.size ≤ big) (hc' : FitC l') :
    ∃ k, laws_FnExactChangedSlots.Fine k R C s f l n R' C' s' f' l' n' := by
  obtain ⟨v1, ⟨k1, e1⟩, b1, g1⟩ := draftOk (R := R) (C := C) (n := n) hs hf hc (a := 1048576) (by omega)
  by_cases h1 : v1 < 0
  · exact ⟨k1, .inl ⟨v1, e1 _ (Nat.le_refl _), h1⟩⟩
  obtain ⟨⟨k3, e3⟩, ⟨k4, e4⟩, l1, l2⟩ := g1 h1
  obtain ⟨v2, ⟨k2, e2⟩, b2, g2⟩ := draftOk (R := R') (C := C') (n := n') hs' hf' hc' (a := v1) (by omega)
  by_cases h2 : v2 < 0
  · exact ⟨k1 + k2, .inr (.inl ⟨v1, v2, e1 _ (by omega), h1, e2 _ (by omega), h2⟩)⟩
  obtain ⟨⟨k5, e5⟩, ⟨k6, e6⟩, l1', l2'⟩ := g2 h2
  obtain ⟨ch, ⟨k7, e7⟩, ⟨k8, e8⟩, lc⟩ := chg R C s f (l.map clueW) n R' C' s' f' (l'.map clueW) n' (by omega) (fun c h => by have := l2 c h; omega) (by omega) (fun c h => by have := l2' c h; omega)
  obtain ⟨k9, e9⟩ := eqIntS (l := ch) (by omega)
  obtain ⟨r1, m1, ⟨k10, e10⟩, r10, r11⟩ := markClueS (l.map clueW) 1 l2 (by omega) (by omega)
  obtain ⟨r2, m2, ⟨k11, e11⟩, r20, r21⟩ := markClueS (l'.map clueW) r1 l2' r10 (by omega)
  obtain ⟨q, ⟨k12, e12⟩, ⟨k13, e13⟩⟩ := markHeld (l := ch) (by omega)
  refine ⟨k1 + k2 + k3 + k4 + k5 + k6 + k7 + k8 + k9 + k10 + k11 + k12 + k13, .inr (.inr ⟨v1, v2, e1 _ (by omega), h1, e2 _ (by omega), h2, l.map clueW, l'.map clueW, ch, r1, r2, m1, m2, q, 1 + (ch.length : Int), e3 _ (by omega), e5 _ (by omega), e7 _ (by omega), e8 _ (by omega), e9 _ (by omega), e4 _ (by omega), e6 _ (by omega), e10 _ (by omega), e11 _ (by omega), by omega, e12 _ (by omega), e13 _ (by omega), by omega⟩)⟩
end Go.Proofs.Ytpcdfjcbjbkliaa.E
