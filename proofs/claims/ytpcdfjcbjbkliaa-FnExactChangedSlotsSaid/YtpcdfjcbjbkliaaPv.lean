import Derived.Test.YtpcdfjcbjbkliaaPm
namespace Go.Proofs.Ytpcdfjcbjbkliaa.E
open Go.RowKit Go.Proofs.YtpcdfjcbjbkliaaW.PrintWords Go.Proofs.YtpcdfjcbjbkliaaW.PrintLast Go.Proofs.YtpcdfjcbjbkliaaW.PrintMore
set_option linter.unusedVariables false
set_option linter.unusedSimpArgs false
/-! ### marks -/
theorem strOne (x : Int) : (strOfNums [x]).size = 1 := rfl
theorem markText_l0 : ∀ d (x : Int) (acc : ByteArray), 0 ≤ x → x ≤ 9223372036854775807 → x < 10 ^ d → acc.size + d ≤ 1000 → ∃ q : ByteArray, Ev (fun k => laws_markText.l0 k x acc) q
  | 0, x, acc, h0, hm, h1, ha => by
    refine ⟨(⟨#[109]⟩ : ByteArray) ++ acc, Ev.succ (fun k => by rw [laws_markText.l0]) ?_⟩
    simp only [Int.pow_zero] at h1
    exact Ev.neg (by omega) (Ev.pos (by omega) (Ev.pure _))
  | d + 1, x, acc, h0, hm, h1, ha => by
    by_cases hx : x > 0
    · have e : Int.tdiv x 10 = x / 10 := Int.tdiv_eq_ediv_of_nonneg h0
      have hb : 0 ≤ x / 10 := Int.ediv_nonneg h0 (by decide)
      have hc : x / 10 < 10 ^ d := by
        have : x < 10 ^ d * 10 := by rw [Int.pow_succ] at h1; exact h1
        omega
      obtain ⟨q, hq⟩ := markText_l0 d (x / 10) ((strOfNums [(wrap64 (48 + (Int.tmod x 10))) % 256]) ++ acc) hb (by omega) hc (by rw [ByteArray.size_append, strOne]; omega)
      refine ⟨q, Ev.succ (fun k => by rw [laws_markText.l0]) ?_⟩
      refine Ev.pos hx (Ev.bind (Ev.const rfl) (Ev.pos (by rw [strOne]; omega) ?_))
      rw [e, w64 (by omega)]
      exact hq
    · refine ⟨(⟨#[109]⟩ : ByteArray) ++ acc, Ev.succ (fun k => by rw [laws_markText.l0]) ?_⟩
      exact Ev.neg hx (Ev.pos (by omega) (Ev.pure _))
theorem markText {x : Int} (h0 : 0 ≤ x) (h1 : x ≤ 9223372036854775807) : ∃ q : ByteArray, Ev (fun k => laws_markText.f k x) q := by
  unfold laws_markText.f
  by_cases h : x ≤ 0
  · exact ⟨_, Ev.pos h (Ev.pure _)⟩
  · obtain ⟨q, hq⟩ := markText_l0 20 x (⟨#[]⟩ : ByteArray) h0 h1 (by omega) (by decide)
    exact ⟨q, Ev.neg h hq⟩
theorem markStepS_l0 {n : Nat} (hn : n ≤ 10000000) : ∀ d i (l : List S87) (a : Int), l.length = n → i + d = n → 0 ≤ a → a + 4 * d ≤ 4000000000000000000 → ∃ m : List S87, Ev (fun k => laws_markStepS.l0 k l a (i : Int)) (a + 4 * d, m)
  | 0, i, l, a, hl, h, h0, h1 => by
    refine ⟨l, Ev.succ (fun k => by rw [laws_markStepS.l0]) ?_⟩
    exact Ev.neg (by omega) ((Ev.pure _).eq (by simp))
  | d + 1, i, l, a, hl, h, h0, h1 => by
    obtain ⟨t, ht⟩ := markText (x := a + 1) (by omega) (by omega)
    obtain ⟨m, hm⟩ := markStepS_l0 hn d (i + 1) ((((l.set (i : Int).toNat (⟨a, (rd_T87 l (i : Int)).f1, (rd_T87 l (i : Int)).f2, (rd_T87 l (i : Int)).f3⟩ : S87)).set (i : Int).toNat (⟨(rd_T87 (l.set (i : Int).toNat (⟨a, (rd_T87 l (i : Int)).f1, (rd_T87 l (i : Int)).f2, (rd_T87 l (i : Int)).f3⟩ : S87)) (i : Int)).f0, t, (rd_T87 (l.set (i : Int).toNat (⟨a, (rd_T87 l (i : Int)).f1, (rd_T87 l (i : Int)).f2, (rd_T87 l (i : Int)).f3⟩ : S87)) (i : Int)).f2, (rd_T87 (l.set (i : Int).toNat (⟨a, (rd_T87 l (i : Int)).f1, (rd_T87 l (i : Int)).f2, (rd_T87 l (i : Int)).f3⟩ : S87)) (i : Int)).f3⟩ : S87)).set (i : Int).toNat _).set (i : Int).toNat _) (a + 4) (by simp [hl]) (by omega) (by omega) (by omega)
    refine ⟨m, Ev.succ (fun k => by rw [laws_markStepS.l0]) ?_⟩
    refine Ev.pos (by omega) (Ev.pos (by omega) (Ev.bind (Ev.const rfl) (Ev.bind (a := t) ?_ (Ev.bind (Ev.const rfl) (Ev.bind (Ev.const rfl) ?_)))))
    · rw [w64 (by omega)]; exact ht
    · rw [w64 (n := a + 1) (by omega), w64 (n := a + 1 + 1) (by omega), w64 (n := a + 1 + 1 + 1) (by omega), w64 (n := a + 1 + 1 + 1 + 1) (by omega), w64 (n := (i : Int) + 1) (by omega)]
      have e : a + 1 + 1 + 1 + 1 = a + 4 := by omega
      rw [e]
      rw [Int.natCast_add] at hm
      refine hm.eq ?_
      congr 1
      omega
end Go.Proofs.Ytpcdfjcbjbkliaa.E
