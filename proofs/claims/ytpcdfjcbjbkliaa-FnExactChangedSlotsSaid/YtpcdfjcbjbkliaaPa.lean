import Derived.Test.YtpcdfjcbjbkliaaQx
namespace Go.Proofs.Ytpcdfjcbjbkliaa.E
open Go.RowKit Go.Proofs.YtpcdfjcbjbkliaaW.PrintWords Go.Proofs.YtpcdfjcbjbkliaaW.PrintLast Go.Proofs.YtpcdfjcbjbkliaaW.PrintMore
set_option linter.unusedVariables false
set_option linter.unusedSimpArgs false
/-! ### eventually: a function with rounds answers from some number of rounds on -/
def Ev {α : Type} (F : Nat → Option α) (r : α) : Prop := ∃ K, ∀ k, K ≤ k → F k = some r
theorem Ev.pure {α : Type} (r : α) : Ev (fun _ => some r) r := ⟨0, fun _ _ => rfl⟩
theorem Ev.const {α : Type} {x : Option α} {r : α} (h : x = some r) : Ev (fun _ => x) r := ⟨0, fun _ _ => h⟩
theorem Ev.bind {α β : Type} {F : Nat → Option α} {G : Nat → α → Option β} {a : α} {b : β} (h : Ev F a) (g : Ev (fun k => G k a) b) : Ev (fun k => (F k).bind (G k)) b := by
  obtain ⟨K, h⟩ := h
  obtain ⟨L, g⟩ := g
  exact ⟨K + L, fun k hk => by show (F k).bind (G k) = some b; rw [h k (by omega)]; exact g k (by omega)⟩
theorem Ev.succ {α : Type} {F G : Nat → Option α} {r : α} (e : ∀ k, F (k + 1) = G k) (h : Ev G r) : Ev F r := by
  obtain ⟨K, h⟩ := h
  exact ⟨K + 1, fun k hk => by obtain ⟨j, rfl⟩ : ∃ j, k = j + 1 := ⟨k - 1, by omega⟩; rw [e]; exact h j (by omega)⟩
theorem Ev.pos {α : Type} {c : Prop} [Decidable c] {A B : Nat → Option α} {r : α} (hc : c) (h : Ev A r) : Ev (fun k => if c then A k else B k) r := by
  simp only [if_pos hc]; exact h
theorem Ev.neg {α : Type} {c : Prop} [Decidable c] {A B : Nat → Option α} {r : α} (hc : ¬ c) (h : Ev B r) : Ev (fun k => if c then A k else B k) r := by
  simp only [if_neg hc]; exact h
theorem Ev.ite {α : Type} {c : Prop} [Decidable c] {A B : Nat → Option α} {r : α} (hp : c → Ev A r) (hn : ¬ c → Ev B r) : Ev (fun k => if c then A k else B k) r := by
  by_cases hc : c
  · exact Ev.pos hc (hp hc)
  · exact Ev.neg hc (hn hc)
theorem Ev.eq {α : Type} {F : Nat → Option α} {r s : α} (h : Ev F r) (e : r = s) : Ev F s := e ▸ h
theorem Ev.congr {α : Type} {F G : Nat → Option α} {r : α} (h : Ev F r) (e : ∀ k, G k = F k) : Ev G r := by
  obtain ⟨K, h⟩ := h
  exact ⟨K, fun k hk => by rw [e]; exact h k hk⟩
theorem Ev.ex {α : Type} {F : Nat → Option α} {r : α} (h : Ev F r) : ∃ k, F k = some r := ⟨h.choose, h.choose_spec _ (Nat.le_refl _)⟩
theorem w64 {n : Int} (h : -9223372036854775808 ≤ n ∧ n ≤ 9223372036854775807) : wrap64 n = n := by unfold wrap64; omega

/-! ### small ones -/
theorem l1In_eq (a b c : Int) : spec_l1In.f a b c = some (decide (b ≤ a ∧ a ≤ c)) := by
  unfold spec_l1In.f
  by_cases h : a ≥ b
  · rw [if_pos h]; congr 1; simp; omega
  · rw [if_neg h]; congr 1; simp; omega
theorem InRange_eq (a b c : Int) : impl_InRange.f a b c = some (decide (b ≤ a ∧ a ≤ c)) := by
  unfold impl_InRange.f
  by_cases h : b ≤ a
  · rw [if_pos h]; congr 1; simp; omega
  · rw [if_neg h]; congr 1; simp; omega
theorem at_eq (a b : Int) : impl_at.f a b = some (decide (0 ≤ a ∧ a < b)) := by
  unfold impl_at.f
  by_cases h : a ≥ 0
  · rw [if_pos h]; congr 1; simp; omega
  · rw [if_neg h]; congr 1; simp; omega

/-! ### IsGrid -/
def okC (s : ByteArray) : Nat → Nat → Bool
  | 0, _ => true
  | d + 1, i => if bt s i = 35 then okC s d (i + 1) else if bt s i = 46 then okC s d (i + 1) else false
theorem okC_at {s : ByteArray} : ∀ d i, okC s d i = true → ∀ j, i ≤ j → j < i + d → bt s (j : Int) = 35 ∨ bt s (j : Int) = 46
  | 0, i, _, j, h1, h2 => by omega
  | d + 1, i, h, j, h1, h2 => by
    unfold okC at h
    by_cases e : j = i
    · subst e
      split at h
      · left; assumption
      · split at h
        · right; assumption
        · cases h
    · have : okC s d (i + 1) = true := by
        split at h
        · exact h
        · split at h
          · exact h
          · cases h
      exact okC_at d (i + 1) this j (by omega) (by omega)
def isG (R C : Int) (s : ByteArray) : Bool := decide (2 ≤ R ∧ R ≤ 6) && (decide (2 ≤ C ∧ C ≤ 6) && (decide ((s.size : Int) = R * C) && okC s s.size 0))
theorem mulGrid {R C : Int} (h : 2 ≤ R ∧ R ≤ 6) (h' : 2 ≤ C ∧ C ≤ 6) : 4 ≤ R * C ∧ R * C ≤ 36 := by
  have ha : R = 2 ∨ R = 3 ∨ R = 4 ∨ R = 5 ∨ R = 6 := by omega
  rcases ha with rfl | rfl | rfl | rfl | rfl <;> omega
theorem sIsGrid_l0 {R C : Int} {s : ByteArray} (hs : s.size ≤ 36) : ∀ d i, i + d = s.size → Ev (fun k => spec_IsGrid.l0 k (i : Int) R C s) (okC s d i)
  | 0, i, h => by
    refine Ev.succ (fun k => by rw [spec_IsGrid.l0]) ?_
    refine Ev.neg (by omega) (Ev.pure _)
  | d + 1, i, h => by
    refine Ev.succ (fun k => by rw [spec_IsGrid.l0]) ?_
    refine Ev.pos (by omega) (Ev.pos (by omega) ?_)
    rw [w64 (by omega)]
    unfold okC
    have ih := sIsGrid_l0 (R := R) (C := C) hs d (i + 1) (by omega)
    rw [Int.natCast_add] at ih
    by_cases e : bt s i = 35
    · rw [if_pos e]; exact Ev.pos e ih
    · rw [if_neg e]
      refine Ev.neg e ?_
      by_cases e' : bt s i = 46
      · rw [if_pos e']; exact Ev.pos e' ih
      · rw [if_neg e']; exact Ev.neg e' (Ev.pure _)
theorem iIsGrid_l0 {R C : Int} {s : ByteArray} (hs : s.size ≤ 36) : ∀ d i, i + d = s.size → Ev (fun k => impl_IsGrid.l0 k (s.size : Int) (i : Int) R C s) (okC s d i)
  | 0, i, h => by
    refine Ev.succ (fun k => by rw [impl_IsGrid.l0]) ?_
    refine Ev.neg (by omega) (Ev.pure _)
  | d + 1, i, h => by
    refine Ev.succ (fun k => by rw [impl_IsGrid.l0]) ?_
    refine Ev.pos (by omega) (Ev.pos (by omega) (Ev.pos (by omega) ?_))
    rw [w64 (by omega)]
    unfold okC
    have ih := iIsGrid_l0 (R := R) (C := C) hs d (i + 1) (by omega)
    rw [Int.natCast_add] at ih
    by_cases e : bt s i = 35
    · rw [if_pos e]; exact Ev.pos e ih
    · rw [if_neg e]
      refine Ev.neg e ?_
      by_cases e' : bt s i = 46
      · rw [if_pos e']; exact Ev.pos e' ih
      · rw [if_neg e']; exact Ev.neg e' (Ev.pure _)
theorem sIsGrid (R C : Int) (s : ByteArray) : Ev (fun k => spec_IsGrid.f k R C s) (isG R C s) := by
  unfold spec_IsGrid.f isG
  simp only [l1In_eq, Option.bind_some, decide_eq_true_eq]
  by_cases hR : 2 ≤ R ∧ R ≤ 6
  · refine Ev.pos hR ?_
    simp only [hR, and_self, decide_true, Bool.true_and]
    by_cases hC : 2 ≤ C ∧ C ≤ 6
    · refine Ev.pos hC ?_
      simp only [hC, and_self, decide_true, Bool.true_and]
      have hm := mulGrid hR hC
      rw [w64 (by omega)]
      refine Ev.succ (fun k => by rw [spec_IsGrid.j0]) ?_
      by_cases hz : (s.size : Int) = R * C
      · refine Ev.neg (by simpa using hz) ?_
        simp only [hz, decide_true, Bool.true_and]
        exact sIsGrid_l0 (by omega) s.size 0 (by omega)
      · refine Ev.pos (by simpa using hz) ?_
        simp only [hz, decide_false, Bool.false_and]
        exact Ev.pure _
    · refine Ev.neg hC ?_
      simp only [hC, decide_false, Bool.false_and]
      exact Ev.succ (fun k => by rw [spec_IsGrid.j0]) (Ev.pos rfl (Ev.pure _))
  · refine Ev.neg hR ?_
    simp only [hR, decide_false, Bool.false_and]
    exact Ev.succ (fun k => by rw [spec_IsGrid.j0]) (Ev.pos rfl (Ev.pure _))
theorem iIsGrid (R C : Int) (s : ByteArray) : Ev (fun k => impl_IsGrid.f k R C s) (isG R C s) := by
  unfold impl_IsGrid.f isG
  simp only [InRange_eq, Option.bind_some, decide_eq_true_eq]
  by_cases hR : 2 ≤ R ∧ R ≤ 6
  · refine Ev.pos hR ?_
    simp only [hR, and_self, decide_true, Bool.true_and]
    by_cases hC : 2 ≤ C ∧ C ≤ 6
    · refine Ev.pos hC ?_
      simp only [hC, and_self, decide_true, Bool.true_and]
      have hm := mulGrid hR hC
      rw [w64 (by omega)]
      refine Ev.succ (fun k => by rw [impl_IsGrid.j0]) ?_
      by_cases hz : (s.size : Int) = R * C
      · refine Ev.neg (by simpa using hz) ?_
        simp only [hz, decide_true, Bool.true_and]
        have := iIsGrid_l0 (R := R) (C := C) (s := s) (by omega) s.size 0 (by omega)
        rw [hz] at this
        exact this
      · refine Ev.pos (by simpa using hz) ?_
        simp only [hz, decide_false, Bool.false_and]
        exact Ev.pure _
    · refine Ev.neg hC ?_
      simp only [hC, decide_false, Bool.false_and]
      exact Ev.succ (fun k => by rw [impl_IsGrid.j0]) (Ev.pos rfl (Ev.pure _))
  · refine Ev.neg hR ?_
    simp only [hR, decide_false, Bool.false_and]
    exact Ev.succ (fun k => by rw [impl_IsGrid.j0]) (Ev.pos rfl (Ev.pure _))
/-- A grid: its sides and its cells. -/
structure Gr (R C : Int) (s : ByteArray) (r c : Nat) : Prop where
  er : R = r
  ec : C = c
  r2 : 2 ≤ r
  r6 : r ≤ 6
  c2 : 2 ≤ c
  c6 : c ≤ 6
  sz : s.size = r * c
  mx : r * c ≤ 36
  ok : ∀ j : Nat, j < s.size → bt s (j : Int) = 35 ∨ bt s (j : Int) = 46
theorem isG_gr {R C : Int} {s : ByteArray} (h : isG R C s = true) : ∃ r c, Gr R C s r c := by
  unfold isG at h
  simp only [Bool.and_eq_true, decide_eq_true_eq] at h
  obtain ⟨hR, hC, hz, ho⟩ := h
  have hm := mulGrid hR hC
  obtain ⟨r, rfl⟩ : ∃ r : Nat, R = r := ⟨R.toNat, by omega⟩
  obtain ⟨c, rfl⟩ : ∃ c : Nat, C = c := ⟨C.toNat, by omega⟩
  have e : ((r * c : Nat) : Int) = (r : Int) * c := Int.natCast_mul r c
  exact ⟨r, c, rfl, rfl, by omega, by omega, by omega, by omega, by omega, by omega, fun j hj => okC_at _ _ ho j (by omega) (by omega)⟩
end Go.Proofs.Ytpcdfjcbjbkliaa.E
