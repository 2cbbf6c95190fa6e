import Derived.Test.YtpcdfjcbjbkliaaGreatQx
namespace Go.Proofs.YtpcdfjcbjbkliaaGreat.E
open Go.RowKit Go.Proofs.YtpcdfjcbjbkliaaGreatW.PrintWords Go.Proofs.YtpcdfjcbjbkliaaGreatW.PrintLast Go.Proofs.YtpcdfjcbjbkliaaGreatW.PrintMore
set_option linter.unusedVariables false
set_option linter.unusedSimpArgs false
/-! ### eventually: a function with rounds answers from some number of rounds on -/
def Ev {α : Type} (F : Nat → Option α) (r : α) : Prop := ∃ K, ∀ k, K ≤ k → F k = some r
theorem Ev.pure {α : Type} (r : α) : Ev (fun _ => some r) r := ⟨0, fun _ _ => rfl⟩
theorem Ev.const {α : Type} {x : Option α} {r : α} (h : x = some r) : Ev (fun _ => x) r := ⟨0, fun _ _ => h⟩
theorem Ev.bind {α β : Type} {F : Nat → Option α} {G : Nat → α → Option β} {a : α} {b : β} (h : Ev F a) (g : Ev (fun k => G k a) b) : Ev (fun k => (F k).bind (G k)) b := by
  obtain ⟨K, h⟩ := h
  obtain ⟨L, g⟩ := g
  exact ⟨K + L, fun k hk => by show (F k).bind (G k) = some b; rw [h k (by omega)]; exact g k (by omega)⟩
theorem Ev.succ {α : Type} {F G : Nat → Option α} {r : α} (e : ∀ k, F (k + 1) = G k) (h : Ev G r) : Ev F r := by
  obtain ⟨K, h⟩ := h
  exact ⟨K + 1, fun k hk => by obtain ⟨j, rfl⟩ : ∃ j, k = j + 1 := ⟨k - 1, by omega⟩; rw [e]; exact h j (by omega)⟩
theorem Ev.pos {α : Type} {c : Prop} [Decidable c] {A B : Nat → Option α} {r : α} (hc : c) (h : Ev A r) : Ev (fun k => if c then A k else B k) r := by
  simp only [if_pos hc]; exact h
theorem Ev.neg {α : Type} {c : Prop} [Decidable c] {A B : Nat → Option α} {r : α} (hc : ¬ c) (h : Ev B r) : Ev (fun k => if c then A k else B k) r := by
  simp only [if_neg hc]; exact h
theorem Ev.ite {α : Type} {c : Prop} [Decidable c] {A B : Nat → Option α} {r : α} (hp : c → Ev A r) (hn : ¬ c → Ev B r) : Ev (fun k => if c then A k else B k) r := by
  by_cases hc : c
  · exact Ev.pos hc (hp hc)
  · exact Ev.neg hc (hn hc)
theorem Ev.eq {α : Type} {F : Nat → Option α} {r s : α} (h : Ev F r) (e : r = s) : Ev F s := e ▸ h
theorem Ev.congr {α : Type} {F G : Nat → Option α} {r : α} (h : Ev F r) (e : ∀ k, G k = F k) : Ev G r := by
  obtain ⟨K, h⟩ := h
  exact ⟨K, fun k hk => by rw [e]; exact h k hk⟩
theorem Ev.ex {α : Type} {F : Nat → Option α} {r : α} (h : Ev F r) : ∃ k, F k = some r := ⟨h.choose, h.choose_spec _ (Nat.le_refl _)⟩
theorem w64 {n : Int} (h : -9223372036854775808 ≤ n ∧ n ≤ 9223372036854775807) : wrap64 n = n := by unfold wrap64; omega

/-! ### small ones -/
theorem l1In_eq (a b c : Int) : spec_l1In.f a b c = some (decide (b ≤ a ∧ a ≤ c)) := by
  unfold spec_l1In.f
  by_cases h : a ≥ b
  · rw [if_pos h]; congr 1; simp; omega
  · rw [if_neg h]; congr 1; simp; omega
theorem InRange_eq (a b c : Int) : impl_InRange.f a b c = some (decide (b ≤ a ∧ a ≤ c)) := by
  unfold impl_InRange.f
  by_cases h : b ≤ a
  · rw [if_pos h]; congr 1; simp; omega
  · rw [if_neg h]; congr 1; simp; omega
theorem at_eq (a b : Int) : impl_at.f a b = some (decide (0 ≤ a ∧ a < b)) := by
  unfold impl_at.f
  by_cases h : a ≥ 0
  · rw [if_pos h]; congr 1; simp; omega
  · rw [if_neg h]; congr 1; simp; omega

/-! ### IsGrid -/
def okC (s : ByteArray) : Nat → Nat → Bool
  | 0, _ => true
  | d + 1, i => if bt s i = 35 then okC s d (i + 1) else if bt s i = 46 then okC s d (i + 1) else false
theorem okC_at {s : ByteArray} : ∀ d i, okC s d i = true → ∀ j, i ≤ j → j < i + d → bt s (j : Int) = 35 ∨ bt s (j : Int) = 46
  | 0, i, _, j, h1, h2 => by omega
  | d + 1, i, h, j, h1, h2 => by
    unfold okC at h
    by_cases e : j = i
    · subst e
      split at h
      · left; assumption
      · split at h
        · right; assumption
        · cases h
    · have : okC s d (i + 1) = true := by
        split at h
        · exact h
        · split at h
          · exact h
          · cases h
      exact okC_at d (i + 1) this j (by omega) (by omega)
def isG (R C : Int) (s : ByteArray) : Bool := decide (2 ≤ R ∧ R ≤ 6) && (decide (2 ≤ C ∧ C ≤ 6) && (decide ((s.size : Int) = R * C) && okC s s.size 0))
theorem mulGrid {R C : Int} (h : 2 ≤ R ∧ R ≤ 6) (h' : 2 ≤ C ∧ C ≤ 6) : 4 ≤ R * C ∧ R * C ≤ 36 := by
  have ha : R = 2 ∨ R = 3 ∨ R = 4 ∨ R = 5 ∨ R = 6 := by omega
  rcases ha with rfl | rfl | rfl | rfl | rfl <;> omega
theorem sIsGrid_l0 {R C : Int} {s : ByteArray} (hs : s.size ≤ 36) : ∀ d i, i + d = s.size → Ev (fun k => spec_IsGrid.l0 k (i : Int) R C s) (okC s d i)
  | 0, i, h => by
    refine Ev.succ (fun k => by rw [spec_IsGrid.l0]) ?_
    refine Ev.neg (by omega) (Ev.pure _)
  | d + 1, i, h => by
    refine Ev.succ (fun k => by rw [spec_IsGrid.l0]) ?_
    refine Ev.pos (by omega) (Ev.pos (by omega) ?_)
    rw [w64 (by omega)]
    unfold okC
    have ih := sIsGrid_l0 (R := R) (C := C) hs d (i + 1) (by omega)
    rw [Int.natCast_add] at ih
    by_cases e : bt s i = 35
    · rw [if_pos e]; exact Ev.pos e ih
    · rw [if_neg e]
      refine Ev.neg e ?_
      by_cases e' : bt s i = 46
      · rw [if_pos e']; exact Ev.pos e' ih
      · rw [if_neg e']; exact Ev.neg e' (Ev.pure _)
theorem iIsGrid_l0 {R C : Int} {s : ByteArray} (hs : s.size ≤ 36) : ∀ d i, i + d = s.size → Ev (fun k => impl_IsGrid.l0 k (s.size : Int) (i : Int) R C s) (okC s d i)
  | 0, i, h => by
    refine Ev.succ (fun k => by rw [impl_IsGrid.l0]) ?_
    refine Ev.neg (by omega) (Ev.pure _)
  | d + 1, i, h => by
    refine Ev.succ (fun k => by rw [impl_IsGrid.l0]) ?_
    refine Ev.pos (by omega) (Ev.pos (by omega) (Ev.pos (by omega) ?_))
    rw [w64 (by omega)]
    unfold okC
    have ih := iIsGrid_l0 (R := R) (C := C) hs d (i + 1) (by omega)
    rw [Int.natCast_add] at ih
    by_cases e : bt s i = 35
    · rw [if_pos e]; exact Ev.pos e ih
    · rw [if_neg e]
      refine Ev.neg e ?_
      by_cases e' : bt s i = 46
      · rw [if_pos e']; exact Ev.pos e' ih
      · rw [if_neg e']; exact Ev.neg e' (Ev.pure _)
theorem sIsGrid (R C : Int) (s : ByteArray) : Ev (fun k => spec_IsGrid.f k R C s) (isG R C s) := by
  unfold spec_IsGrid.f isG
  simp only [l1In_eq, Option.bind_some, decide_eq_true_eq]
  by_cases hR : 2 ≤ R ∧ R ≤ 6
  · refine Ev.pos hR ?_
    simp only [hR, and_self, decide_true, Bool.true_and]
    by_cases hC : 2 ≤ C ∧ C ≤ 6
    · refine Ev.pos hC ?_
      simp only [hC, and_self, decide_true, Bool.true_and]
      have hm := mulGrid hR hC
      rw [w64 (by omega)]
      refine Ev.succ (fun k => by rw [spec_IsGrid.j0]) ?_
      by_cases hz : (s.size : Int) = R * C
      · refine Ev.neg (by simpa using hz) ?_
        simp only [hz, decide_true, Bool.true_and]
        exact sIsGrid_l0 (by omega) s.size 0 (by omega)
      · refine Ev.pos (by simpa using hz) ?_
        simp only [hz, decide_false, Bool.false_and]
        exact Ev.pure _
    · refine Ev.neg hC ?_
      simp only [hC, decide_false, Bool.false_and]
      exact Ev.succ (fun k => by rw [spec_IsGrid.j0]) (Ev.pos rfl (Ev.pure _))
  · refine Ev.neg hR ?_
    simp only [hR, decide_false, Bool.false_and]
    exact Ev.succ (fun k => by rw [spec_IsGrid.j0]) (Ev.pos rfl (Ev.pure _))
theorem iIsGrid (R C : Int) (s : ByteArray) : Ev (fun k => impl_IsGrid.f k R C s) (isG R C s) := by
  unfold impl_IsGrid.f isG
  simp only [InRange_eq, Option.bind_some, decide_eq_true_eq]
  by_cases hR : 2 ≤ R ∧ R ≤ 6
  · refine Ev.pos hR ?_
    simp only [hR, and_self, decide_true, Bool.true_and]
    by_cases hC : 2 ≤ C ∧ C ≤ 6
    · refine Ev.pos hC ?_
      simp only [hC, and_self, decide_true, Bool.true_and]
      have hm := mulGrid hR hC
      rw [w64 (by omega)]
      refine Ev.succ (fun k => by rw [impl_IsGrid.j0]) ?_
      by_cases hz : (s.size : Int) = R * C
      · refine Ev.neg (by simpa using hz) ?_
        simp only [hz, decide_true, Bool.true_and]
        have := iIsGrid_l0 (R := R) (C := C) (s := s) (by omega) s.size 0 (by omega)
        rw [hz] at this
        exact this
      · refine Ev.pos (by simpa using hz) ?_
        simp only [hz, decide_false, Bool.false_and]
        exact Ev.pure _
    · refine Ev.neg hC ?_
      simp only [hC, decide_false, Bool.false_and]
      exact Ev.succ (fun k => by rw [impl_IsGrid.j0]) (Ev.pos rfl (Ev.pure _))
  · refine Ev.neg hR ?_
    simp only [hR, decide_false, Bool.false_and]
    exact Ev.succ (fun k => by rw [impl_IsGrid.j0]) (Ev.pos rfl (Ev.pure _))
/-- A grid: its sides and its cells. -/
structure Gr (R C : Int) (s : ByteArray) (r c : Nat) : Prop where
  er : R = r
  ec : C = c
  r2 : 2 ≤ r
  r6 : r ≤ 6
  c2 : 2 ≤ c
  c6 : c ≤ 6
  sz : s.size = r * c
  mx : r * c ≤ 36
  ok : ∀ j : Nat, j < s.size → bt s (j : Int) = 35 ∨ bt s (j : Int) = 46
theorem isG_gr {R C : Int} {s : ByteArray} (h : isG R C s = true) : ∃ r c, Gr R C s r c := by
  unfold isG at h
  simp only [Bool.and_eq_true, decide_eq_true_eq] at h
  obtain ⟨hR, hC, hz, ho⟩ := h
  have hm := mulGrid hR hC
  obtain ⟨r, rfl⟩ : ∃ r : Nat, R = r := ⟨R.toNat, by omega⟩
  obtain ⟨c, rfl⟩ : ∃ c : Nat, C = c := ⟨C.toNat, by omega⟩
  have e : ((r * c : Nat) : Int) = (r : Int) * c := Int.natCast_mul r c
  exact ⟨r, c, rfl, rfl, by omega, by omega, by omega, by omega, by omega, by omega, fun j hj => okC_at _ _ ho j (by omega) (by omega)⟩
/-! ### runs -/
def cnt (s : ByteArray) (x step : Nat) : Nat → Nat → Nat
  | 0, n => n
  | d + 1, n => if bt s ((x + n * step : Nat) : Int) = 46 then cnt s x step d (n + 1) else n
theorem cnt_le (s : ByteArray) (x step : Nat) : ∀ d n, n ≤ cnt s x step d n ∧ cnt s x step d n ≤ n + d
  | 0, n => by unfold cnt; omega
  | d + 1, n => by
    unfold cnt
    have := cnt_le s x step d (n + 1)
    split <;> omega
theorem cnt_at (s : ByteArray) (x step : Nat) : ∀ d n j, n ≤ j → j < cnt s x step d n → bt s ((x + j * step : Nat) : Int) = 46
  | 0, n, j, h1, h2 => by unfold cnt at h2; omega
  | d + 1, n, j, h1, h2 => by
    unfold cnt at h2
    by_cases e : bt s ((x + n * step : Nat) : Int) = 46
    · rw [if_pos e] at h2
      by_cases ej : j = n
      · subst ej; exact e
      · exact cnt_at s x step d (n + 1) j (by omega) h2
    · rw [if_neg e] at h2; omega
def runAt (s : ByteArray) (x step at_ most : Nat) : Nat := if bt s (x : Int) = 46 then (if 0 < at_ ∧ bt s ((x - step : Nat) : Int) = 46 then 0 else cnt s x step (most - at_) 0) else 0
def runN (r c : Nat) (s : ByteArray) (i : Nat) (down : Bool) : Nat := if down = true then runAt s i c (i / c) r else runAt s i 1 (i % c) c
theorem irun_l0 {R C : Int} {s : ByteArray} {x step most : Nat} {at_ : Nat} (hz : s.size ≤ 36) (h6 : most ≤ 6) (hs : step ≤ 6) (hr : ∀ n, at_ + n < most → x + n * step < s.size) :
    ∀ d n, at_ + n + d = most → Ev (fun k => impl_run.l0 k (x : Int) (step : Int) (at_ : Int) (most : Int) (n : Int) R C s) (cnt s x step d n : Int)
  | 0, n, h => by
    refine Ev.succ (fun k => by rw [impl_run.l0]) ?_
    rw [w64 (by omega)]
    exact Ev.neg (by omega) (Ev.pure _)
  | d + 1, n, h => by
    refine Ev.succ (fun k => by rw [impl_run.l0]) ?_
    have hn := hr n (by omega)
    have e : ((n * step : Nat) : Int) = (n : Int) * step := Int.natCast_mul n step
    have hle : n * step ≤ 6 * 6 := Nat.mul_le_mul (by omega) hs
    rw [w64 (n := (at_ : Int) + n) (by omega), ← e, w64 (n := ((n * step : Nat) : Int)) (by omega), w64 (n := (x : Int) + ((n * step : Nat) : Int)) (by omega), w64 (n := (n : Int) + 1) (by omega)]
    refine Ev.pos (by omega) (Ev.pos (by omega) (Ev.pos (by omega) ?_))
    unfold cnt
    rw [← Int.natCast_add]
    have ih := irun_l0 (R := R) (C := C) hz h6 hs hr d (n + 1) (by omega)
    rw [Int.natCast_add] at ih
    by_cases e' : bt s ((x + n * step : Nat) : Int) = 46
    · rw [if_pos e']; exact Ev.pos e' ih
    · rw [if_neg e']; exact Ev.neg e' (Ev.pure _)
theorem irun_j0 {R C : Int} {s : ByteArray} {x step most at_ : Nat} (hz : s.size ≤ 36) (h6 : most ≤ 6) (hs : step ≤ 6) (hx : x < s.size) (ha : at_ ≤ most) (hb : 0 < at_ → step ≤ x) (hr : ∀ n, at_ + n < most → x + n * step < s.size) :
    Ev (fun k => impl_run.j0 k (x : Int) (step : Int) (at_ : Int) (most : Int) R C s) (runAt s x step at_ most : Int) := by
  refine Ev.succ (fun k => by rw [impl_run.j0]) ?_
  unfold runAt
  refine Ev.pos (by omega) (Ev.pos (by omega) ?_)
  have hl := irun_l0 (R := R) (C := C) hz h6 hs hr (most - at_) 0 (by omega)
  by_cases e : bt s (x : Int) = 46
  · rw [if_pos e]
    refine Ev.pos e ?_
    by_cases h0 : 0 < at_
    · have hb := hb h0
      rw [w64 (by omega), ← Int.natCast_sub hb]
      refine Ev.pos (by omega) (Ev.pos (by omega) (Ev.pos (by omega) ?_))
      refine Ev.succ (fun k => by rw [impl_run.j1]) ?_
      by_cases e2 : bt s ((x - step : Nat) : Int) = 46
      · rw [if_pos ⟨h0, e2⟩]
        exact Ev.pos (by simpa using e2) (Ev.pure _)
      · rw [if_neg (fun h => e2 h.2)]
        exact Ev.neg (by simpa using e2) hl
    · refine Ev.neg (by omega) (Ev.succ (fun k => by rw [impl_run.j1]) ?_)
      rw [if_neg (fun h => h0 h.1)]
      exact Ev.neg (by decide) hl
  · rw [if_neg e]
    refine Ev.neg e ?_
    refine Ev.succ (fun k => by rw [impl_run.j1]) ?_
    exact Ev.pos rfl (Ev.pure 0)
theorem gr_run {R C : Int} {s : ByteArray} {r c : Nat} (g : Gr R C s r c) {i : Nat} (hi : i < s.size) : i / c < r ∧ i % c < c ∧ (0 < i / c → c ≤ i) ∧ (0 < i % c → 1 ≤ i) ∧ (∀ n, i / c + n < r → i + n * c < s.size) ∧ (∀ n, i % c + n < c → i + n * 1 < s.size) := by
  have hc := g.c2
  have hz := g.sz
  have hd : i / c < r := Nat.div_lt_of_lt_mul (by rw [Nat.mul_comm]; omega)
  have hm : i % c < c := Nat.mod_lt _ (by omega)
  have he := Nat.div_add_mod i c
  refine ⟨hd, hm, fun h => ?_, fun h => ?_, fun n h => ?_, fun n h => ?_⟩
  · have := Nat.le_of_lt_succ (show c < i + 1 from by
      have : c * 1 ≤ c * (i / c) := Nat.mul_le_mul_left _ h
      omega)
    exact this
  · rcases Nat.eq_zero_or_pos i with h0 | h0
    · subst h0; simp at h
    · exact h0
  · have h1 : c * (i / c + n + 1) ≤ c * r := Nat.mul_le_mul_left _ h
    rw [Nat.mul_add, Nat.mul_add, Nat.mul_comm c r, Nat.mul_comm c n] at h1
    omega
  · have h1 : c * (i / c + 1) ≤ c * r := Nat.mul_le_mul_left _ hd
    rw [Nat.mul_add, Nat.mul_comm c r] at h1
    omega
theorem irun {R C : Int} {s : ByteArray} {r c : Nat} (g : Gr R C s r c) {i : Nat} (hi : i < s.size) (down : Bool) :
    Ev (fun k => impl_run.f k R C s (i : Int) down) (runN r c s i down : Int) := by
  obtain ⟨hd, hm, h1, h2, h3, h4⟩ := gr_run g hi
  have hz : s.size ≤ 36 := by have := g.sz; have := g.mx; omega
  have hr6 := g.r6
  have hc6 := g.c6
  unfold impl_run.f runN
  rw [g.er, g.ec]
  refine Ev.neg (by have := g.c2; omega) ?_
  have e1 : Int.tdiv (i : Int) (c : Int) = ((i / c : Nat) : Int) := rfl
  have e2 : Int.tmod (i : Int) (c : Int) = ((i % c : Nat) : Int) := rfl
  rw [e1, e2]
  generalize i / c = q at hd h1 h3 ⊢
  generalize i % c = m at hm h2 h4 ⊢
  rw [w64 (by omega)]
  cases down with
  | true => exact Ev.pos rfl (irun_j0 hz hr6 hc6 hi (by omega) h1 h3)
  | false => exact Ev.neg (by decide) (irun_j0 (step := 1) hz hc6 (by omega) hi (by omega) h2 h4)
theorem from_l0 (x1 x7 x8 x9 : Int) (R C : Int) (s : ByteArray) : ∀ k x10, spec_l8From.l0 k x1 x7 x8 x9 x10 R C s = impl_run.l0 k x1 x7 x8 x9 x10 R C s
  | 0, _ => rfl
  | k + 1, x10 => by rw [spec_l8From.l0, impl_run.l0]; simp only [from_l0 x1 x7 x8 x9 R C s k]
theorem from_j1 (x1 x7 x8 x9 : Int) (R C : Int) (s : ByteArray) : ∀ k b, spec_l8From.j1 k x1 x7 x8 x9 b R C s = impl_run.j1 k x1 x7 x8 x9 b R C s
  | 0, _ => rfl
  | k + 1, b => by rw [spec_l8From.j1, impl_run.j1]; simp only [from_l0 x1 x7 x8 x9 R C s k]
theorem from_j0 (x1 x7 x8 x9 : Int) (R C : Int) (s : ByteArray) : ∀ k, spec_l8From.j0 k x1 x7 x8 x9 R C s = impl_run.j0 k x1 x7 x8 x9 R C s
  | 0 => rfl
  | k + 1 => by rw [spec_l8From.j0, impl_run.j0]; simp only [from_j1 x1 x7 x8 x9 R C s k]
theorem srun {R C : Int} {s : ByteArray} {r c : Nat} (g : Gr R C s r c) {i : Nat} (hi : i < s.size) (down : Bool) :
    Ev (fun k => spec_l8From.f k R C s (i : Int) down) (runN r c s i down : Int) :=
  (irun g hi down).congr (fun k => by unfold spec_l8From.f impl_run.f; simp only [from_j0])
/-! ### slots -/
def slotsF (r c : Nat) (s : ByteArray) : Nat → Nat → Nat → List S132
  | 0, _, _ => []
  | d + 1, i, m =>
    (if 2 ≤ runN r c s i false then [(⟨((if 2 ≤ runN r c s i false ∨ 2 ≤ runN r c s i true then m + 1 else m : Nat) : Int), false, (i : Int), (runN r c s i false : Int)⟩ : S132)] else []) ++
    ((if 2 ≤ runN r c s i true then [(⟨((if 2 ≤ runN r c s i false ∨ 2 ≤ runN r c s i true then m + 1 else m : Nat) : Int), true, (i : Int), (runN r c s i true : Int)⟩ : S132)] else []) ++
    slotsF r c s d (i + 1) (if 2 ≤ runN r c s i false ∨ 2 ≤ runN r c s i true then m + 1 else m))
theorem len1 {α : Type} (p : Prop) [Decidable p] (x : α) : (if p then [x] else []).length ≤ 1 := by split <;> simp
theorem iSlotsOf_j2 {R C : Int} {s : ByteArray} {r c : Nat} {acc : List S132} {m i a d2 : Nat} {q : List S132} {x5 : Int} (ha : acc.length ≤ 1000) (hi : i < 100) (e5 : x5 = i)
    (ih : Ev (fun k => impl_SlotsOf.l0 k ((acc ++ (if 2 ≤ a then [(⟨(m : Int), false, (i : Int), (a : Int)⟩ : S132)] else [])) ++ (if 2 ≤ d2 then [(⟨(m : Int), true, (i : Int), (d2 : Int)⟩ : S132)] else [])) (m : Int) (s.size : Int) ((i + 1 : Nat) : Int) R C s) q) :
    Ev (fun k => impl_SlotsOf.j2 k acc (m : Int) x5 (a : Int) (d2 : Int) (s.size : Int) (i : Int) R C s) q := by
  subst e5
  refine Ev.succ (fun k => by rw [impl_SlotsOf.j2]) ?_
  rw [w64 (by omega)]
  rw [Int.natCast_add] at ih
  by_cases h1 : 2 ≤ a
  · rw [if_pos h1] at ih
    refine Ev.pos (by omega) (Ev.pos (by omega) (Ev.bind (Ev.pure _) ?_))
    by_cases h2 : 2 ≤ d2
    · rw [if_pos h2] at ih
      exact Ev.pos (by omega) (Ev.pos (by simp; omega) ih)
    · rw [if_neg h2, List.append_nil] at ih
      exact Ev.neg (by omega) ih
  · rw [if_neg h1, List.append_nil] at ih
    refine Ev.neg (by omega) ?_
    by_cases h2 : 2 ≤ d2
    · rw [if_pos h2] at ih
      exact Ev.pos (by omega) (Ev.pos (by omega) ih)
    · rw [if_neg h2, List.append_nil] at ih
      exact Ev.neg (by omega) ih
theorem iSlotsOf_l0 {R C : Int} {s : ByteArray} {r c : Nat} (g : Gr R C s r c) : ∀ d i acc m, i + d = s.size → m ≤ i → acc.length ≤ 2 * i →
    Ev (fun k => impl_SlotsOf.l0 k acc (m : Int) (s.size : Int) (i : Int) R C s) (acc ++ slotsF r c s d i m)
  | 0, i, acc, m, h, hm, ha => by
    refine Ev.succ (fun k => by rw [impl_SlotsOf.l0]) ?_
    refine Ev.neg (by omega) ?_
    exact (Ev.pure acc).eq (by simp [slotsF])
  | d + 1, i, acc, m, h, hm, ha => by
    have hz : s.size ≤ 36 := by have := g.sz; have := g.mx; omega
    refine Ev.succ (fun k => by rw [impl_SlotsOf.l0]) ?_
    refine Ev.pos (by omega) (Ev.bind (irun g (by omega) false) (Ev.bind (irun g (by omega) true) ?_))
    have ih := iSlotsOf_l0 g d (i + 1) ((acc ++ (if 2 ≤ runN r c s i false then [(⟨((if 2 ≤ runN r c s i false ∨ 2 ≤ runN r c s i true then m + 1 else m : Nat) : Int), false, (i : Int), (runN r c s i false : Int)⟩ : S132)] else [])) ++ (if 2 ≤ runN r c s i true then [(⟨((if 2 ≤ runN r c s i false ∨ 2 ≤ runN r c s i true then m + 1 else m : Nat) : Int), true, (i : Int), (runN r c s i true : Int)⟩ : S132)] else [])) (if 2 ≤ runN r c s i false ∨ 2 ≤ runN r c s i true then m + 1 else m) (by omega) (by split <;> omega) (by simp only [List.length_append]; exact Nat.le_trans (Nat.add_le_add (Nat.add_le_add ha (len1 _ _)) (len1 _ _)) (by omega))
    have fin := ih.eq (s := acc ++ slotsF r c s (d + 1) i m) (by simp only [slotsF, List.append_assoc])
    generalize runN r c s i false = a at fin ⊢
    generalize runN r c s i true = b at fin ⊢
    generalize acc ++ slotsF r c s (d + 1) i m = q at fin ⊢
    have go : ∀ t : Bool, (t = true ↔ (2 ≤ a ∨ 2 ≤ b)) → Ev (fun k => impl_SlotsOf.j1 k acc (m : Int) (i : Int) (a : Int) (b : Int) (s.size : Int) (i : Int) t R C s) q := by
      intro t ht
      refine Ev.succ (fun k => by rw [impl_SlotsOf.j1]) ?_
      by_cases hc : 2 ≤ a ∨ 2 ≤ b
      · simp only [if_pos hc] at fin
        refine Ev.pos (ht.2 hc) ?_
        rw [w64 (by omega)]
        rw [Int.natCast_add] at fin
        exact iSlotsOf_j2 (m := m + 1) (r := r) (c := c) (by omega) (by omega) rfl fin
      · simp only [if_neg hc] at fin
        refine Ev.neg (fun h => hc (ht.1 h)) ?_
        exact iSlotsOf_j2 (r := r) (c := c) (by omega) (by omega) rfl fin
    refine Ev.ite (fun h => go true (by simp; omega)) (fun h => go _ (by simp; omega))
theorem sSlotsOf_j3 {R C : Int} {s : ByteArray} {acc : List S132} {m i a d2 : Nat} {q : List S132} (ha : acc.length ≤ 1000) (hi : i < 100)
    (ih : Ev (fun k => spec_SlotsOf.l0 k ((acc ++ (if 2 ≤ a then [(⟨(m : Int), false, (i : Int), (a : Int)⟩ : S132)] else [])) ++ (if 2 ≤ d2 then [(⟨(m : Int), true, (i : Int), (d2 : Int)⟩ : S132)] else [])) (m : Int) ((i + 1 : Nat) : Int) R C s) q) :
    Ev (fun k => spec_SlotsOf.j3 k acc (m : Int) (i : Int) (a : Int) (d2 : Int) R C s) q := by
  refine Ev.succ (fun k => by rw [spec_SlotsOf.j3]) ?_
  rw [w64 (by omega)]
  rw [Int.natCast_add] at ih
  by_cases h1 : 2 ≤ a
  · rw [if_pos h1] at ih
    refine Ev.pos (by omega) (Ev.pos (by omega) (Ev.bind (Ev.pure _) ?_))
    by_cases h2 : 2 ≤ d2
    · rw [if_pos h2] at ih
      exact Ev.pos (by omega) (Ev.pos (by simp; omega) ih)
    · rw [if_neg h2, List.append_nil] at ih
      exact Ev.neg (by omega) ih
  · rw [if_neg h1, List.append_nil] at ih
    refine Ev.neg (by omega) ?_
    by_cases h2 : 2 ≤ d2
    · rw [if_pos h2] at ih
      exact Ev.pos (by omega) (Ev.pos (by omega) ih)
    · rw [if_neg h2, List.append_nil] at ih
      exact Ev.neg (by omega) ih
theorem sSlotsOf_l0 {R C : Int} {s : ByteArray} {r c : Nat} (g : Gr R C s r c) (hg : isG R C s = true) : ∀ d i acc m, i + d = s.size → m ≤ i → acc.length ≤ 2 * i →
    Ev (fun k => spec_SlotsOf.l0 k acc (m : Int) (i : Int) R C s) (acc ++ slotsF r c s d i m)
  | 0, i, acc, m, h, hm, ha => by
    refine Ev.succ (fun k => by rw [spec_SlotsOf.l0]) ?_
    refine Ev.neg (by omega) (Ev.succ (fun k => by rw [spec_SlotsOf.j1]) (Ev.neg (by decide) ?_))
    exact (Ev.pure acc).eq (by simp [slotsF])
  | d + 1, i, acc, m, h, hm, ha => by
    have hz : s.size ≤ 36 := by have := g.sz; have := g.mx; omega
    refine Ev.succ (fun k => by rw [spec_SlotsOf.l0]) ?_
    refine Ev.pos (by omega) (Ev.bind (sIsGrid R C s) ?_)
    refine Ev.succ (fun k => by rw [spec_SlotsOf.j1]) (Ev.pos hg ?_)
    refine Ev.bind (srun g (by omega) false) (Ev.bind (srun g (by omega) true) ?_)
    have ih := sSlotsOf_l0 g hg d (i + 1) ((acc ++ (if 2 ≤ runN r c s i false then [(⟨((if 2 ≤ runN r c s i false ∨ 2 ≤ runN r c s i true then m + 1 else m : Nat) : Int), false, (i : Int), (runN r c s i false : Int)⟩ : S132)] else [])) ++ (if 2 ≤ runN r c s i true then [(⟨((if 2 ≤ runN r c s i false ∨ 2 ≤ runN r c s i true then m + 1 else m : Nat) : Int), true, (i : Int), (runN r c s i true : Int)⟩ : S132)] else [])) (if 2 ≤ runN r c s i false ∨ 2 ≤ runN r c s i true then m + 1 else m) (by omega) (by split <;> omega) (by simp only [List.length_append]; exact Nat.le_trans (Nat.add_le_add (Nat.add_le_add ha (len1 _ _)) (len1 _ _)) (by omega))
    have fin := ih.eq (s := acc ++ slotsF r c s (d + 1) i m) (by simp only [slotsF, List.append_assoc])
    generalize runN r c s i false = a at fin ⊢
    generalize runN r c s i true = b at fin ⊢
    generalize acc ++ slotsF r c s (d + 1) i m = q at fin ⊢
    have go : ∀ t : Bool, (t = true ↔ (2 ≤ a ∨ 2 ≤ b)) → Ev (fun k => spec_SlotsOf.j2 k acc (m : Int) (i : Int) (a : Int) (b : Int) t R C s) q := by
      intro t ht
      refine Ev.succ (fun k => by rw [spec_SlotsOf.j2]) ?_
      by_cases hc : 2 ≤ a ∨ 2 ≤ b
      · simp only [if_pos hc] at fin
        refine Ev.pos (ht.2 hc) ?_
        rw [w64 (by omega)]
        rw [Int.natCast_add] at fin
        exact sSlotsOf_j3 (m := m + 1) (by omega) (by omega) fin
      · simp only [if_neg hc] at fin
        refine Ev.neg (fun h => hc (ht.1 h)) ?_
        exact sSlotsOf_j3 (by omega) (by omega) fin
    refine Ev.ite (fun h => go true (by simp; omega)) (fun h => go _ (by simp; omega))
def slots (r c : Nat) (s : ByteArray) : List S132 := slotsF r c s s.size 0 0
theorem iSlotsOf {R C : Int} {s : ByteArray} {r c : Nat} (g : Gr R C s r c) (hg : isG R C s = true) : Ev (fun k => impl_SlotsOf.f k R C s) (slots r c s) := by
  unfold impl_SlotsOf.f
  refine Ev.bind (iIsGrid R C s) (Ev.pos hg ?_)
  exact iSlotsOf_l0 g s.size 0 [] 0 (by omega) (by omega) (by simp)
theorem sSlotsOf {R C : Int} {s : ByteArray} {r c : Nat} (g : Gr R C s r c) (hg : isG R C s = true) : Ev (fun k => spec_SlotsOf.f k R C s) (slots r c s) := by
  unfold spec_SlotsOf.f
  exact sSlotsOf_l0 g hg s.size 0 [] 0 (by omega) (by omega) (by simp)
theorem iSlotsOf_no {R C : Int} {s : ByteArray} (hg : isG R C s = false) : Ev (fun k => impl_SlotsOf.f k R C s) [] := by
  unfold impl_SlotsOf.f
  exact Ev.bind (iIsGrid R C s) (Ev.neg (by simp [hg]) (Ev.pure _))
theorem sSlotsOf_no {R C : Int} {s : ByteArray} (hg : isG R C s = false) : Ev (fun k => spec_SlotsOf.f k R C s) [] := by
  unfold spec_SlotsOf.f
  refine Ev.succ (fun k => by rw [spec_SlotsOf.l0]) ?_
  have go : ∀ t : Bool, t = false → Ev (fun k => spec_SlotsOf.j1 k [] 0 0 t R C s) [] := by
    rintro t rfl
    exact Ev.succ (fun k => by rw [spec_SlotsOf.j1]) (Ev.neg (by decide) (Ev.pure _))
  exact Ev.ite (fun _ => Ev.bind (sIsGrid R C s) (go _ hg)) (fun _ => go _ rfl)
/-! what a slot of a grid is like -/
structure SlotOk (r c : Nat) (s : ByteArray) (x : S132) : Prop where
  cell : ∃ i : Nat, x.f2 = i ∧ i < s.size ∧ x.f3 = (runN r c s i x.f1 : Nat) ∧ 2 ≤ runN r c s i x.f1
theorem slotsF_mem {r c : Nat} {s : ByteArray} : ∀ d i m x, i + d = s.size → x ∈ slotsF r c s d i m → ∃ j : Nat, x.f2 = j ∧ i ≤ j ∧ j < s.size ∧ x.f3 = (runN r c s j x.f1 : Nat) ∧ 2 ≤ runN r c s j x.f1
  | 0, i, m, x, h, hx => by simp [slotsF] at hx
  | d + 1, i, m, x, h, hx => by
    unfold slotsF at hx
    rw [List.mem_append, List.mem_append] at hx
    rcases hx with hx | hx | hx
    · split at hx
      · simp only [List.mem_singleton] at hx; subst hx; exact ⟨i, rfl, by omega, by omega, rfl, by assumption⟩
      · simp at hx
    · split at hx
      · simp only [List.mem_singleton] at hx; subst hx; exact ⟨i, rfl, by omega, by omega, rfl, by assumption⟩
      · simp at hx
    · obtain ⟨j, h1, h2, h3⟩ := slotsF_mem d (i + 1) _ x (by omega) hx
      exact ⟨j, h1, by omega, h3⟩
theorem slots_ok {r c : Nat} {s : ByteArray} {x : S132} (hx : x ∈ slots r c s) : SlotOk r c s x := by
  obtain ⟨j, h1, h2, h3⟩ := slotsF_mem _ _ _ x (by omega) hx
  exact ⟨j, h1, h3⟩
theorem slotsF_len {r c : Nat} {s : ByteArray} : ∀ d i m, (slotsF r c s d i m).length ≤ 2 * d
  | 0, i, m => by simp [slotsF]
  | d + 1, i, m => by
    unfold slotsF
    have := slotsF_len (r := r) (c := c) (s := s) d (i + 1) (if 2 ≤ runN r c s i false ∨ 2 ≤ runN r c s i true then m + 1 else m)
    simp only [List.length_append]
    exact Nat.le_trans (Nat.add_le_add (len1 _ _) (Nat.add_le_add (len1 _ _) this)) (by omega)
theorem slots_len {r c : Nat} {s : ByteArray} : (slots r c s).length ≤ 2 * s.size := slotsF_len _ _ _
/-- no slot stands twice: place and direction tell it -/
theorem slotsF_nodup {r c : Nat} {s : ByteArray} : ∀ d i m, i + d = s.size → (slotsF r c s d i m).Pairwise (fun x y => x ≠ y)
  | 0, i, m, h => by simp [slotsF]
  | d + 1, i, m, h => by
    have ih := slotsF_nodup (r := r) (c := c) (s := s) d (i + 1) (if 2 ≤ runN r c s i false ∨ 2 ≤ runN r c s i true then m + 1 else m) (by omega)
    have hm := slotsF_mem (r := r) (c := c) (s := s) d (i + 1) (if 2 ≤ runN r c s i false ∨ 2 ≤ runN r c s i true then m + 1 else m)
    unfold slotsF
    have one : ∀ b : Bool, ∀ (l : List S132), (∀ y ∈ l, y.f2 ≠ (i : Int) ∨ y.f1 ≠ b) → l.Pairwise (fun x y => x ≠ y) → ∀ (p : Prop) [Decidable p] (q n : Int), ((if p then [(⟨q, b, (i : Int), n⟩ : S132)] else []) ++ l).Pairwise (fun x y => x ≠ y) := by
      intro b l hl hp p _ q n
      split
      · refine List.pairwise_cons.mpr ⟨fun y hy e => ?_, hp⟩
        subst e
        rcases hl _ hy with h | h <;> exact h rfl
      · exact hp
    have hl : ∀ y ∈ slotsF r c s d (i + 1) (if 2 ≤ runN r c s i false ∨ 2 ≤ runN r c s i true then m + 1 else m), y.f2 ≠ (i : Int) := by
      intro y hy
      obtain ⟨j, h1, h2, _⟩ := hm y (by omega) hy
      omega
    refine one false _ ?_ (one true _ (fun y hy => .inl (hl y hy)) ih _ _ _) _ _ _
    intro y hy
    rw [List.mem_append] at hy
    rcases hy with hy | hy
    · split at hy
      · simp only [List.mem_singleton] at hy; subst hy; right; simp
      · simp at hy
    · exact .inl (hl y hy)
theorem slots_nodup {r c : Nat} {s : ByteArray} : (slots r c s).Pairwise (fun x y => x ≠ y) := slotsF_nodup _ _ _ (by omega)
/-! ### cells of slots -/
theorem rdT {xs : List S132} {i : Nat} (h : i < xs.length) : rd_T132 xs (i : Int) = xs[i] := by
  unfold rd_T132; simp [List.getD_eq_getElem?_getD, List.getElem?_eq_getElem h]
theorem rdI {xs : List Int} {i : Nat} (h : i < xs.length) : rd xs (i : Int) = xs[i] := by
  unfold rd; simp [List.getD_eq_getElem?_getD, List.getElem?_eq_getElem h]
theorem rdL {xs : List (List Int)} {i : Nat} (h : i < xs.length) : rd_L12 xs (i : Int) = xs[i] := by
  unfold rd_L12; simp [List.getD_eq_getElem?_getD, List.getElem?_eq_getElem h]
theorem S132_eq {x y : S132} (h0 : x.f0 = y.f0) (h1 : x.f1 = y.f1) (h2 : x.f2 = y.f2) (h3 : x.f3 = y.f3) : x = y := by
  cases x; cases y; simp_all
def cellsN (c : Nat) (x : S132) : List Int := (List.range x.f3.toNat).map fun i : Nat => x.f2 + (i : Int) * (if x.f1 = true then (c : Int) else 1)
/-- the numbers of a slot of a grid -/
theorem slot_nums {R C : Int} {s : ByteArray} {r c : Nat} (g : Gr R C s r c) {x : S132} (hx : x ∈ slots r c s) : ∃ j n : Nat, x.f2 = j ∧ x.f3 = n ∧ j < s.size ∧ 2 ≤ n ∧ n ≤ 6 ∧ ∀ i : Nat, i < n → j + i * (if x.f1 = true then c else 1) < s.size := by
  obtain ⟨j, h2, hj, h3, hn⟩ := (slots_ok hx).cell
  obtain ⟨hd, hm, _, _, hA, hB⟩ := gr_run g hj
  refine ⟨j, _, h2, h3, hj, hn, ?_, ?_⟩
  · unfold runN runAt
    have := g.r6; have := g.c6
    generalize j / c = q
    generalize j % c = m
    split
    · split
      · split
        · omega
        · have := cnt_le s j c (r - q) 0; omega
      · omega
    · split
      · split
        · omega
        · have := cnt_le s j 1 (c - m) 0; omega
      · omega
  · intro i hi
    unfold runN at hi
    by_cases e : x.f1 = true
    · rw [if_pos e] at hi ⊢
      apply hA
      unfold runAt at hi
      generalize j / c = q at hi hd ⊢
      split at hi
      · split at hi
        · omega
        · have := cnt_le s j c (r - q) 0; omega
      · omega
    · rw [if_neg e] at hi ⊢
      apply hB
      unfold runAt at hi
      generalize j % c = m at hi hm ⊢
      split at hi
      · split at hi
        · omega
        · have := cnt_le s j 1 (c - m) 0; omega
      · omega
theorem icells_l0 {x5 f0 f2 f3 : Int} {f1 : Bool} {j n st : Nat} (e5 : x5 = st) (e2 : f2 = j) (hj : j ≤ 36) (hn : n ≤ 6) (hs : st ≤ 6) : ∀ d i acc, i + d = n → acc.length = i →
    Ev (fun k => impl_cells.l0 k x5 acc (n : Int) (i : Int) f0 f1 f2 f3) (acc ++ (List.range d).map fun t => f2 + ((i + t : Nat) : Int) * x5)
  | 0, i, acc, h, ha => by
    refine Ev.succ (fun k => by rw [impl_cells.l0]) (Ev.neg (by omega) ?_)
    exact (Ev.pure acc).eq (by simp)
  | d + 1, i, acc, h, ha => by
    refine Ev.succ (fun k => by rw [impl_cells.l0]) (Ev.pos (by omega) (Ev.pos (by omega) ?_))
    have e : ((i * st : Nat) : Int) = (i : Int) * st := Int.natCast_mul i st
    have hle : i * st ≤ 6 * 6 := Nat.mul_le_mul (by omega) hs
    have ih := icells_l0 (f0 := f0) (f1 := f1) (f3 := f3) e5 e2 hj hn hs d (i + 1) (acc ++ [f2 + (i : Int) * x5]) (by omega) (by simp [ha])
    rw [e5, ← e, w64 (n := ((i * st : Nat) : Int)) (by omega), w64 (n := f2 + _) (by omega), w64 (n := (i : Int) + 1) (by omega), e, ← e5]
    rw [Int.natCast_add] at ih
    refine ih.eq ?_
    rw [List.append_assoc, List.range_succ_eq_map, List.map_cons, List.map_map]
    simp only [List.singleton_append, Nat.add_zero]
    congr 2
    apply List.map_congr_left
    intro t _
    simp only [Function.comp, Nat.succ_eq_add_one]
    congr 2
    omega
theorem icells {R C : Int} {s : ByteArray} {r c : Nat} (g : Gr R C s r c) {x : S132} (hx : x ∈ slots r c s) : Ev (fun k => impl_cells.f k R C s x.f0 x.f1 x.f2 x.f3) (cellsN c x) := by
  obtain ⟨j, n, h2, h3, hj, hn, hn6, _⟩ := slot_nums g hx
  have hz : s.size ≤ 36 := by have := g.sz; have := g.mx; omega
  have hc6 := g.c6
  unfold impl_cells.f cellsN
  by_cases e : x.f1 = true
  · refine Ev.pos e (Ev.succ (fun k => by rw [impl_cells.j0]) ?_)
    have := icells_l0 (f0 := x.f0) (f1 := x.f1) (f3 := x.f3) g.ec h2 (by omega) hn6 hc6 n 0 [] (by omega) rfl
    rw [← h3] at this
    exact this.eq (by simp [e, h3, g.ec])
  · refine Ev.neg e (Ev.succ (fun k => by rw [impl_cells.j0]) ?_)
    have := icells_l0 (x5 := 1) (st := 1) (f0 := x.f0) (f1 := x.f1) (f3 := x.f3) rfl h2 (by omega) hn6 (by omega) n 0 [] (by omega) rfl
    rw [← h3] at this
    exact this.eq (by simp [e, h3])
def layoutN (r c : Nat) (s : ByteArray) : List (List Int) := (slots r c s).map (cellsN c)
theorem ilayout_l0 {R C : Int} {s : ByteArray} {r c : Nat} (g : Gr R C s r c) : ∀ d i acc, i + d = (slots r c s).length → acc.length ≤ i →
    Ev (fun k => impl_layout.l0 k acc (slots r c s) ((slots r c s).length : Int) (i : Int) R C s) (acc ++ ((slots r c s).drop i).map (cellsN c))
  | 0, i, acc, h, ha => by
    refine Ev.succ (fun k => by rw [impl_layout.l0]) (Ev.neg (by omega) ?_)
    exact (Ev.pure acc).eq (by rw [List.drop_eq_nil_of_le (by omega)]; simp)
  | d + 1, i, acc, h, ha => by
    have hl := slots_len (r := r) (c := c) (s := s)
    have hz : s.size ≤ 36 := by have := g.sz; have := g.mx; omega
    refine Ev.succ (fun k => by rw [impl_layout.l0]) (Ev.pos (by omega) (Ev.pos (by omega) (Ev.pos (by omega) ?_)))
    rw [rdT (by omega), w64 (by omega)]
    refine Ev.bind (icells g (List.getElem_mem _)) (Ev.pos (by omega) ?_)
    have ih := ilayout_l0 g d (i + 1) (acc ++ [cellsN c (slots r c s)[i]]) (by omega) (by simp; omega)
    rw [Int.natCast_add] at ih
    exact ih.eq (by rw [List.drop_eq_getElem_cons (show i < (slots r c s).length by omega), List.map_cons, List.append_assoc]; rfl)
theorem ilayout {R C : Int} {s : ByteArray} {r c : Nat} (g : Gr R C s r c) (hg : isG R C s = true) : Ev (fun k => impl_layout.f k R C s) (layoutN r c s) := by
  unfold impl_layout.f layoutN
  refine Ev.bind (iSlotsOf g hg) ?_
  have := ilayout_l0 g (slots r c s).length 0 [] (by omega) (by simp)
  simpa using this
/-! spec.CellsOf -/
theorem sCells_l1 {R C : Int} {s : ByteArray} {xs : List S132} {x7 f0 f2 f3 : Int} {f1 : Bool} {j n c : Nat} {q : List Int} (eC : C = c) (e2 : f2 = j) (e3 : f3 = n) (hj : j ≤ 36) (hn : n ≤ 6) (hc : c ≤ 6) (h7 : Ev (fun k => spec_CellsOf.l0 k (cellsN c ⟨f0, f1, f2, f3⟩) xs (wrap64 (x7 + 1)) R C s f0 f1 f2 f3) q) :
    ∀ d i, i + d = n → Ev (fun k => spec_CellsOf.l1 k ((List.range i).map fun i : Nat => f2 + (i : Int) * (if f1 = true then (c : Int) else 1)) xs x7 (i : Int) R C s f0 f1 f2 f3) q
  | 0, i, h => by
    refine Ev.succ (fun k => by rw [spec_CellsOf.l1]) (Ev.neg (by omega) ?_)
    have : i = n := by omega
    subst this
    simpa [cellsN, e3] using h7
  | d + 1, i, h => by
    have ih := sCells_l1 (xs := xs) (s := s) (R := R) eC e2 e3 hj hn hc h7 d (i + 1) (by omega)
    rw [List.range_succ, List.map_append, List.map_singleton, Int.natCast_add] at ih
    refine Ev.succ (fun k => by rw [spec_CellsOf.l1]) (Ev.pos (by omega) ?_)
    have e : ((i * c : Nat) : Int) = (i : Int) * c := Int.natCast_mul i c
    have hle : i * c ≤ 6 * 6 := Nat.mul_le_mul (by omega) hc
    by_cases h1 : f1 = true
    · refine Ev.pos h1 (Ev.pos (by simp; omega) ?_)
      simp only [if_pos h1] at ih ⊢
      rw [eC] at ih ⊢
      rw [← e, w64 (n := ((i * c : Nat) : Int)) (by omega), w64 (n := f2 + _) (by omega), w64 (n := (i : Int) + 1) (by omega), e]
      exact ih
    · refine Ev.neg h1 (Ev.pos (by simp; omega) ?_)
      simp only [if_neg h1, Int.mul_one] at ih ⊢
      rw [w64 (n := f2 + _) (by omega), w64 (n := (i : Int) + 1) (by omega)]
      exact ih
theorem sCells_no {R C : Int} {s : ByteArray} {xs : List S132} (hl : xs.length ≤ 1000) {x : S132} {acc : List Int} : ∀ d i, i + d = xs.length → x ∉ xs.drop i → Ev (fun k => spec_CellsOf.l0 k acc xs (i : Int) R C s x.f0 x.f1 x.f2 x.f3) acc
  | 0, i, h, hx => Ev.succ (fun k => by rw [spec_CellsOf.l0]) (Ev.neg (by omega) (Ev.pure _))
  | d + 1, i, h, hx => by
    rw [List.drop_eq_getElem_cons (show i < xs.length by omega), List.mem_cons, not_or] at hx
    refine Ev.succ (fun k => by rw [spec_CellsOf.l0]) (Ev.pos (by omega) (Ev.pos (by omega) ?_))
    rw [rdT (by omega), w64 (by omega)]
    have ih := sCells_no (R := R) (C := C) (s := s) (acc := acc) hl d (i + 1) (by omega) hx.2
    rw [Int.natCast_add] at ih
    refine Ev.pos ?_ ih
    have hne := hx.1
    simp only [Bool.or_eq_true, Bool.not_eq_true', beq_eq_false_iff_ne, ne_eq]
    by_cases h0 : xs[i].f0 = x.f0
    · by_cases h1 : xs[i].f1 = x.f1
      · by_cases h2 : xs[i].f2 = x.f2
        · by_cases h3 : xs[i].f3 = x.f3
          · exact absurd (S132_eq h0 h1 h2 h3).symm hne
          · exact .inr (.inr (.inr h3))
        · exact .inr (.inr (.inl h2))
      · exact .inr (.inl h1)
    · exact .inl h0
theorem sCells_yes {R C : Int} {s : ByteArray} {xs : List S132} (hl : xs.length ≤ 1000) {x : S132} {j n c : Nat} (eC : C = c) (e2 : x.f2 = j) (e3 : x.f3 = n) (hj : j ≤ 36) (hn : n ≤ 6) (hc : c ≤ 6) : ∀ d i, i + d = xs.length → x ∈ xs.drop i → (xs.drop i).Pairwise (fun a b => a ≠ b) → Ev (fun k => spec_CellsOf.l0 k [] xs (i : Int) R C s x.f0 x.f1 x.f2 x.f3) (cellsN c x)
  | 0, i, h, hx, hp => by rw [List.drop_eq_nil_of_le (by omega)] at hx; simp at hx
  | d + 1, i, h, hx, hp => by
    rw [List.drop_eq_getElem_cons (show i < xs.length by omega)] at hx hp
    rw [List.pairwise_cons] at hp
    refine Ev.succ (fun k => by rw [spec_CellsOf.l0]) (Ev.pos (by omega) (Ev.pos (by omega) ?_))
    rw [rdT (by omega)]
    by_cases he : xs[i] = x
    · refine Ev.neg (by simp [he]) ?_
      have hno := sCells_no (R := R) (C := C) (s := s) (acc := cellsN c x) hl d (i + 1) (by omega) (x := x) (fun hm => hp.1 _ hm he)
      rw [Int.natCast_add] at hno
      have := sCells_l1 (xs := xs) (s := s) (R := R) (x7 := i) (f0 := x.f0) (f1 := x.f1) (q := cellsN c x) eC e2 e3 hj hn hc (by rw [w64 (by omega)]; exact hno) n 0 (by omega)
      simpa using this
    · have hx' : x ∈ xs.drop (i + 1) := by
        rcases List.mem_cons.mp hx with h | h
        · exact absurd h.symm he
        · exact h
      have ih := sCells_yes (R := R) (s := s) hl eC e2 e3 hj hn hc d (i + 1) (by omega) hx' hp.2
      rw [Int.natCast_add] at ih
      rw [w64 (by omega)]
      refine Ev.pos ?_ ih
      simp only [Bool.or_eq_true, Bool.not_eq_true', beq_eq_false_iff_ne, ne_eq]
      by_cases h0 : xs[i].f0 = x.f0
      · by_cases h1 : xs[i].f1 = x.f1
        · by_cases h2 : xs[i].f2 = x.f2
          · by_cases h3 : xs[i].f3 = x.f3
            · exact absurd (S132_eq h0 h1 h2 h3) he
            · exact .inr (.inr (.inr h3))
          · exact .inr (.inr (.inl h2))
        · exact .inr (.inl h1)
      · exact .inl h0
theorem sCells {R C : Int} {s : ByteArray} {r c : Nat} (g : Gr R C s r c) (hg : isG R C s = true) {x : S132} (hx : x ∈ slots r c s) : Ev (fun k => spec_CellsOf.f k R C s x.f0 x.f1 x.f2 x.f3) (cellsN c x) := by
  obtain ⟨j, n, h2, h3, hj, hn, hn6, _⟩ := slot_nums g hx
  have hz : s.size ≤ 36 := by have := g.sz; have := g.mx; omega
  have hl := slots_len (r := r) (c := c) (s := s)
  unfold spec_CellsOf.f
  refine Ev.bind (sSlotsOf g hg) ?_
  exact sCells_yes (by omega) g.ec h2 h3 (by omega) hn6 g.c6 (slots r c s).length 0 (by omega) (by simpa using hx) (by simpa using slots_nodup)
/-! ### slots at a cell -/
def atF (a : Int) : List (List Int) → Nat → List Int
  | [], _ => []
  | l :: t, i => (if a ∈ l then [(i : Int)] else []) ++ atF a t (i + 1)
theorem atF_len (a : Int) : ∀ L i, (atF a L i).length ≤ L.length
  | [], _ => by simp [atF]
  | l :: t, i => by
    unfold atF
    have := atF_len a t (i + 1)
    rw [List.length_append, List.length_cons]
    have := len1 (a ∈ l) (i : Int)
    omega
theorem atF_zero (a : Int) : ∀ L i, (atF a L i).length = 0 ↔ a ∉ L.flatten
  | [], _ => by simp [atF]
  | l :: t, i => by
    unfold atF
    have := atF_zero a t (i + 1)
    by_cases h : a ∈ l
    · simp [h]
    · rw [if_neg h, List.nil_append, this, List.flatten_cons, List.mem_append]; simp [h]
theorem index_ev {xs : List Int} {a : Int} (hl : xs.length ≤ 100000) : ∀ d i, i + d = xs.length → ∃ v : Int, Ev (fun k => slices_Index_int_int.l0 k xs a (xs.length : Int) (i : Int)) v ∧ (v ≥ 0 ↔ a ∈ xs.drop i)
  | 0, i, h => ⟨-1, Ev.succ (fun k => by rw [slices_Index_int_int.l0]) (Ev.neg (by omega) (Ev.pure _)), by rw [List.drop_eq_nil_of_le (by omega)]; simp⟩
  | d + 1, i, h => by
    obtain ⟨v, hv, he⟩ := index_ev (a := a) hl d (i + 1) (by omega)
    have hr := rdI (xs := xs) (i := i) (by omega)
    rw [List.drop_eq_getElem_cons (show i < xs.length by omega)]
    by_cases e : a = xs[i]
    · exact ⟨i, Ev.succ (fun k => by rw [slices_Index_int_int.l0]) (Ev.pos (by omega) (Ev.pos (by omega) (Ev.pos (by omega) (Ev.pos (by rw [hr]; exact e) (Ev.pure _))))), ⟨fun _ => by rw [e]; exact List.mem_cons_self, fun _ => by omega⟩⟩
    · refine ⟨v, Ev.succ (fun k => by rw [slices_Index_int_int.l0]) (Ev.pos (by omega) (Ev.pos (by omega) (Ev.pos (by omega) (Ev.neg (by rw [hr]; exact e) ?_)))), by rw [he, List.mem_cons]; exact ⟨.inr, fun h => h.elim (fun h => absurd h e) id⟩⟩
      rw [w64 (by omega)]
      rw [Int.natCast_add] at hv
      exact hv
theorem contains_ev {xs : List Int} {a : Int} (hl : xs.length ≤ 100000) : Ev (fun k => slices_Contains_int_int.f k xs a) (decide (a ∈ xs)) := by
  obtain ⟨v, hv, he⟩ := index_ev (a := a) hl xs.length 0 (by omega)
  unfold slices_Contains_int_int.f slices_Index_int_int.f
  refine Ev.bind hv ?_
  refine (Ev.pure _).eq ?_
  rw [List.drop_zero] at he
  simp only [he]
theorem has_ev {xs : List Int} {a : Int} (hl : xs.length ≤ 100000) : ∀ d i, i + d = xs.length → Ev (fun k => spec_l8Has.l0 k xs a (i : Int)) (decide (a ∈ xs.drop i))
  | 0, i, h => Ev.succ (fun k => by rw [spec_l8Has.l0]) (Ev.neg (by omega) ((Ev.pure _).eq (by rw [List.drop_eq_nil_of_le (by omega)]; simp)))
  | d + 1, i, h => by
    have ih := has_ev (a := a) hl d (i + 1) (by omega)
    have hr := rdI (xs := xs) (i := i) (by omega)
    rw [List.drop_eq_getElem_cons (show i < xs.length by omega)]
    refine Ev.succ (fun k => by rw [spec_l8Has.l0]) (Ev.pos (by omega) (Ev.pos (by omega) ?_))
    rw [hr, w64 (by omega)]
    rw [Int.natCast_add] at ih
    by_cases e : xs[i] = a
    · exact Ev.pos e ((Ev.pure _).eq (by simp [e]))
    · refine Ev.neg e (ih.eq ?_)
      have : (a ∈ xs.drop (i + 1)) ↔ (a ∈ xs[i] :: xs.drop (i + 1)) := by rw [List.mem_cons]; exact ⟨.inr, fun h => h.elim (fun h => absurd h.symm e) id⟩
      simp only [this]
theorem layout_mem {R C : Int} {s : ByteArray} {r c : Nat} (g : Gr R C s r c) {l : List Int} (hl : l ∈ layoutN r c s) : l.length ≤ 6 ∧ ∀ a ∈ l, 0 ≤ a ∧ a < (s.size : Int) := by
  unfold layoutN at hl
  obtain ⟨x, hx, rfl⟩ := List.mem_map.mp hl
  obtain ⟨j, n, h2, h3, hj, hn, hn6, hin⟩ := slot_nums g hx
  unfold cellsN
  refine ⟨by simp [h3]; omega, fun a ha => ?_⟩
  obtain ⟨i, hi, rfl⟩ := List.mem_map.mp ha
  rw [List.mem_range, h3] at hi
  have := hin i (by omega)
  rw [h2]
  by_cases e : x.f1 = true
  · rw [if_pos e] at this ⊢
    rw [← Int.natCast_mul]
    omega
  · rw [if_neg e] at this ⊢
    omega
theorem layout_len {R C : Int} {s : ByteArray} {r c : Nat} (g : Gr R C s r c) : (layoutN r c s).length = (slots r c s).length ∧ (layoutN r c s).length ≤ 72 := by
  have hl := slots_len (r := r) (c := c) (s := s)
  have hz : s.size ≤ 36 := by have := g.sz; have := g.mx; omega
  unfold layoutN
  simp only [List.length_map, true_and]
  omega
theorem layout_at {r c : Nat} {s : ByteArray} {i : Nat} (h : i < (layoutN r c s).length) (h' : i < (slots r c s).length) : (layoutN r c s)[i] = cellsN c (slots r c s)[i] := List.getElem_map (cellsN c)
theorem iSlotsAt_l0 {L : List (List Int)} {a : Int} (hL : L.length ≤ 72) (h6 : ∀ l ∈ L, l.length ≤ 6) : ∀ d i acc, i + d = L.length → acc.length ≤ i →
    Ev (fun k => impl_SlotsAt.l0 k a acc L (L.length : Int) (i : Int)) (acc ++ atF a (L.drop i) i)
  | 0, i, acc, h, ha => Ev.succ (fun k => by rw [impl_SlotsAt.l0]) (Ev.neg (by omega) ((Ev.pure _).eq (by rw [List.drop_eq_nil_of_le (by omega)]; simp [atF])))
  | d + 1, i, acc, h, ha => by
    refine Ev.succ (fun k => by rw [impl_SlotsAt.l0]) (Ev.pos (by omega) (Ev.pos (by omega) (Ev.pos (by omega) ?_)))
    rw [rdL (by omega), w64 (by omega)]
    refine Ev.bind (contains_ev (by have := h6 L[i] (List.getElem_mem _); omega)) ?_
    rw [List.drop_eq_getElem_cons (show i < L.length by omega), atF]
    by_cases e : a ∈ L[i]
    · have ih := iSlotsAt_l0 (a := a) hL h6 d (i + 1) (acc ++ [(i : Int)]) (by omega) (by simp; omega)
      rw [Int.natCast_add] at ih
      exact Ev.pos (by simpa using e) (Ev.pos (by omega) (ih.eq (by simp [e])))
    · have ih := iSlotsAt_l0 (a := a) hL h6 d (i + 1) acc (by omega) (by omega)
      rw [Int.natCast_add] at ih
      exact Ev.neg (by simpa using e) (ih.eq (by simp [e]))
theorem iSlotsAt {R C : Int} {s : ByteArray} {r c : Nat} (g : Gr R C s r c) (hg : isG R C s = true) (a : Int) : Ev (fun k => impl_SlotsAt.f k R C s a) (atF a (layoutN r c s) 0) := by
  unfold impl_SlotsAt.f
  refine Ev.bind (ilayout g hg) ?_
  have := iSlotsAt_l0 (a := a) (layout_len g).2 (fun l hl => (layout_mem g hl).1) (layoutN r c s).length 0 [] (by omega) (by simp)
  simpa using this
theorem sSlotsAt_l0 {R C : Int} {s : ByteArray} {r c : Nat} (g : Gr R C s r c) (hg : isG R C s = true) {a : Int} : ∀ d i acc, i + d = (slots r c s).length → acc.length ≤ i →
    Ev (fun k => spec_SlotsAt.l0 k a acc (slots r c s) (i : Int) R C s) (acc ++ atF a ((layoutN r c s).drop i) i)
  | 0, i, acc, h, ha => Ev.succ (fun k => by rw [spec_SlotsAt.l0]) (Ev.neg (by omega) ((Ev.pure _).eq (by rw [List.drop_eq_nil_of_le (by rw [(layout_len g).1]; omega)]; simp [atF])))
  | d + 1, i, acc, h, ha => by
    have hll := layout_len g
    refine Ev.succ (fun k => by rw [spec_SlotsAt.l0]) (Ev.pos (by omega) (Ev.pos (by omega) ?_))
    rw [rdT (by omega), w64 (by omega)]
    refine Ev.bind (sCells g hg (List.getElem_mem _)) ?_
    have e0 := layout_at (i := i) (show i < (layoutN r c s).length by omega) (by omega)
    have h6 := (layout_mem g (List.getElem_mem (l := layoutN r c s) (n := i) (by omega))).1
    rw [e0] at h6
    have hh := has_ev (a := a) (xs := cellsN c (slots r c s)[i]) (by omega) (cellsN c (slots r c s)[i]).length 0 (by omega)
    rw [List.drop_zero] at hh
    unfold spec_l8Has.f
    refine Ev.bind hh ?_
    rw [List.drop_eq_getElem_cons (show i < (layoutN r c s).length by omega), atF, e0]
    by_cases e : a ∈ cellsN c (slots r c s)[i]
    · have ih := sSlotsAt_l0 g hg (a := a) d (i + 1) (acc ++ [(i : Int)]) (by omega) (by simp; omega)
      rw [Int.natCast_add] at ih
      exact Ev.pos (by simpa using e) (Ev.pos (by omega) (ih.eq (by simp [e])))
    · have ih := sSlotsAt_l0 g hg (a := a) d (i + 1) acc (by omega) (by omega)
      rw [Int.natCast_add] at ih
      exact Ev.neg (by simpa using e) (ih.eq (by simp [e]))
theorem sSlotsAt {R C : Int} {s : ByteArray} {r c : Nat} (g : Gr R C s r c) (hg : isG R C s = true) (a : Int) : Ev (fun k => spec_SlotsAt.f k R C s a) (atF a (layoutN r c s) 0) := by
  unfold spec_SlotsAt.f
  refine Ev.bind (sSlotsOf g hg) ?_
  have := sSlotsAt_l0 g hg (a := a) (slots r c s).length 0 [] (by omega) (by simp)
  simpa using this
/-! ### unchecked cells -/
def unF (L : List (List Int)) : List Int → Nat → Nat
  | [], n => n
  | a :: t, n => unF L t (if (atF a L 0).length = 2 then n else n + 1)
theorem unF_le (L : List (List Int)) : ∀ l n, unF L l n ≤ n + l.length
  | [], n => by simp [unF]
  | a :: t, n => by
    unfold unF
    have := unF_le L t (if (atF a L 0).length = 2 then n else n + 1)
    rw [List.length_cons]
    split at this <;> split <;> simp_all <;> omega
theorem iUn_l0 {R C : Int} {s : ByteArray} {r c : Nat} (g : Gr R C s r c) (hg : isG R C s = true) {l : List Int} (h6 : l.length ≤ 6) : ∀ d i n, i + d = l.length → n ≤ i →
    Ev (fun k => impl_UncheckedIn.l0 k (n : Int) l (l.length : Int) (i : Int) R C s) (unF (layoutN r c s) (l.drop i) n : Int)
  | 0, i, n, h, hn => Ev.succ (fun k => by rw [impl_UncheckedIn.l0]) (Ev.neg (by omega) ((Ev.pure _).eq (by rw [List.drop_eq_nil_of_le (by omega)]; simp [unF])))
  | d + 1, i, n, h, hn => by
    refine Ev.succ (fun k => by rw [impl_UncheckedIn.l0]) (Ev.pos (by omega) (Ev.pos (by omega) (Ev.pos (by omega) ?_)))
    rw [rdI (by omega), w64 (n := (i : Int) + 1) (by omega), w64 (n := (n : Int) + 1) (by omega)]
    unfold impl_IsChecked.f
    refine Ev.bind (Ev.bind (iSlotsAt g hg _) (Ev.pure _)) ?_
    rw [List.drop_eq_getElem_cons (show i < l.length by omega), unF]
    by_cases e : (atF l[i] (layoutN r c s) 0).length = 2
    · have ih := iUn_l0 g hg h6 d (i + 1) n (by omega) (by omega)
      rw [Int.natCast_add] at ih
      exact Ev.pos (by simp; omega) (ih.eq (by rw [if_pos e]))
    · have ih := iUn_l0 g hg h6 d (i + 1) (n + 1) (by omega) (by omega)
      rw [Int.natCast_add, Int.natCast_add] at ih
      exact Ev.neg (by simp; omega) (ih.eq (by rw [if_neg e]))
theorem sUn_l0 {R C : Int} {s : ByteArray} {r c : Nat} (g : Gr R C s r c) (hg : isG R C s = true) {l : List Int} (h6 : l.length ≤ 6) : ∀ d i n, i + d = l.length → n ≤ i →
    Ev (fun k => spec_UncheckedIn.l0 k l (n : Int) (i : Int) R C s) (unF (layoutN r c s) (l.drop i) n : Int)
  | 0, i, n, h, hn => Ev.succ (fun k => by rw [spec_UncheckedIn.l0]) (Ev.neg (by omega) ((Ev.pure _).eq (by rw [List.drop_eq_nil_of_le (by omega)]; simp [unF])))
  | d + 1, i, n, h, hn => by
    refine Ev.succ (fun k => by rw [spec_UncheckedIn.l0]) (Ev.pos (by omega) (Ev.pos (by omega) ?_))
    rw [rdI (by omega), w64 (n := (i : Int) + 1) (by omega), w64 (n := (n : Int) + 1) (by omega)]
    unfold spec_IsChecked.f
    refine Ev.bind (Ev.bind (sSlotsAt g hg _) (Ev.pure _)) ?_
    rw [List.drop_eq_getElem_cons (show i < l.length by omega), unF]
    by_cases e : (atF l[i] (layoutN r c s) 0).length = 2
    · have ih := sUn_l0 g hg h6 d (i + 1) n (by omega) (by omega)
      rw [Int.natCast_add] at ih
      exact Ev.pos (by simp; omega) (ih.eq (by rw [if_pos e]))
    · have ih := sUn_l0 g hg h6 d (i + 1) (n + 1) (by omega) (by omega)
      rw [Int.natCast_add, Int.natCast_add] at ih
      exact Ev.neg (by simp; omega) (ih.eq (by rw [if_neg e]))
theorem iUn {R C : Int} {s : ByteArray} {r c : Nat} (g : Gr R C s r c) (hg : isG R C s = true) {i : Nat} (hi : i < (layoutN r c s).length) : Ev (fun k => impl_UncheckedIn.f k R C s (i : Int)) (unF (layoutN r c s) (layoutN r c s)[i] 0 : Int) := by
  unfold impl_UncheckedIn.f
  refine Ev.bind (ilayout g hg) ?_
  simp only [at_eq, Option.bind_some]
  refine Ev.pos (by simp; omega) (Ev.pos (by omega) (Ev.pos (by omega) ?_))
  rw [rdL hi]
  have := iUn_l0 g hg (layout_mem g (List.getElem_mem hi)).1 _ 0 0 (by rw [Nat.zero_add]) (by omega)
  simpa using this
theorem sUn {R C : Int} {s : ByteArray} {r c : Nat} (g : Gr R C s r c) (hg : isG R C s = true) {i : Nat} (hi : i < (layoutN r c s).length) : Ev (fun k => spec_UncheckedIn.f k R C s (i : Int)) (unF (layoutN r c s) (layoutN r c s)[i] 0 : Int) := by
  have hll := layout_len g
  unfold spec_UncheckedIn.f
  refine Ev.bind (sSlotsOf g hg) ?_
  simp only [l1In_eq, Option.bind_some]
  rw [w64 (by omega)]
  refine Ev.pos (by simp; omega) (Ev.pos (by omega) (Ev.pos (by omega) ?_))
  rw [rdT (by omega)]
  refine Ev.bind (sCells g hg (List.getElem_mem _)) ?_
  have e0 := layout_at hi (by omega)
  rw [← e0]
  have := sUn_l0 g hg (layout_mem g (List.getElem_mem hi)).1 _ 0 0 (by rw [Nat.zero_add]) (by omega)
  simpa using this
/-! ### the rest of a grid's form -/
def unAny (L : List (List Int)) : List S132 → Nat → Bool
  | [], _ => false
  | x :: t, i => if x.f3 < 2 * (unF L (L.getD i []) 0 : Int) then true else unAny L t (i + 1)
def loneF (s : ByteArray) (L : List (List Int)) : Nat → Nat → Bool
  | 0, _ => false
  | d + 1, i => if bt s (i : Int) = 46 then (if (atF (i : Int) L 0).length = 0 then true else loneF s L d (i + 1)) else loneF s L d (i + 1)
theorem un_small {R C : Int} {s : ByteArray} {r c : Nat} (g : Gr R C s r c) {i : Nat} (hi : i < (layoutN r c s).length) : unF (layoutN r c s) (layoutN r c s)[i] 0 ≤ 6 := by
  have := unF_le (layoutN r c s) (layoutN r c s)[i] 0
  have := (layout_mem g (List.getElem_mem hi)).1
  omega
theorem getD_at {α : Type} {xs : List α} {i : Nat} (d : α) (h : i < xs.length) : xs.getD i d = xs[i] := by
  simp [List.getD_eq_getElem?_getD, List.getElem?_eq_getElem h]
theorem sLone_l1 {R C : Int} {s : ByteArray} {r c : Nat} (g : Gr R C s r c) (hg : isG R C s = true) : ∀ d i, i + d = s.size → Ev (fun k => spec_l10Alone.l1 k (i : Int) R C s) (loneF s (layoutN r c s) d i)
  | 0, i, h => by
    refine Ev.succ (fun k => by rw [spec_l10Alone.l1]) ?_
    refine Ev.neg (by omega) ?_
    exact Ev.pure _
  | d + 1, i, h => by
    have hz : s.size ≤ 36 := by have := g.sz; have := g.mx; omega
    have ih := sLone_l1 g hg d (i + 1) (by omega)
    rw [Int.natCast_add] at ih
    refine Ev.succ (fun k => by rw [spec_l10Alone.l1]) (Ev.pos (by omega) ?_)
    unfold spec_IsWhite.f loneF
    rw [w64 (n := (i : Int) + 1) (by omega), w64 (n := (s.size : Int) - 1) (by omega)]
    refine Ev.bind (a := decide (bt s i = 46)) (Ev.bind (sIsGrid R C s) (Ev.pos hg ?_)) ?_
    · simp only [l1In_eq, Option.bind_some]
      exact Ev.pos (by simp; omega) (Ev.pos (by omega) (Ev.pos (by omega) ((Ev.pure _).eq (by simp [BEq.beq]))))
    · by_cases e : bt s i = 46
      · rw [if_pos e]
        refine Ev.pos (by simpa using e) (Ev.bind (sSlotsAt g hg _) ?_)
        by_cases e2 : (atF (i : Int) (layoutN r c s) 0).length = 0
        · rw [if_pos e2]; exact Ev.pos (by omega) (Ev.pure _)
        · rw [if_neg e2]; exact Ev.neg (by omega) ih
      · rw [if_neg e]
        exact Ev.neg (by simpa using e) ih
theorem sLone_l0 {R C : Int} {s : ByteArray} {r c : Nat} (g : Gr R C s r c) (hg : isG R C s = true) : ∀ d i, i + d = (slots r c s).length →
    Ev (fun k => spec_l10Alone.l0 k (slots r c s) (i : Int) R C s) (unAny (layoutN r c s) ((slots r c s).drop i) i || loneF s (layoutN r c s) s.size 0)
  | 0, i, h => by
    refine Ev.succ (fun k => by rw [spec_l10Alone.l0]) ?_
    refine Ev.neg (by omega) ?_
    have := sLone_l1 g hg s.size 0 (by omega)
    refine Ev.eq (r := loneF s (layoutN r c s) s.size 0) ?_ (by rw [List.drop_eq_nil_of_le (by omega)]; simp [unAny])
    simpa using this
  | d + 1, i, h => by
    have hll := layout_len g
    have ih := sLone_l0 g hg d (i + 1) (by omega)
    rw [Int.natCast_add] at ih
    refine Ev.succ (fun k => by rw [spec_l10Alone.l0]) ?_
    refine Ev.pos (by omega) ?_
    refine Ev.bind (sUn g hg (show i < (layoutN r c s).length by omega)) ?_
    refine Ev.pos (by omega) ?_
    have hu := un_small g (i := i) (by omega)
    rw [w64 (by omega), w64 (by omega), rdT (by omega), List.drop_eq_getElem_cons (show i < (slots r c s).length by omega), unAny, getD_at _ (show i < (layoutN r c s).length by omega)]
    by_cases e : (slots r c s)[i].f3 < 2 * (unF (layoutN r c s) (layoutN r c s)[i] 0 : Int)
    · rw [if_pos e]; exact Ev.pos e ((Ev.pure _).eq (by simp))
    · rw [if_neg e]; exact Ev.neg e ih
theorem sAlone {R C : Int} {s : ByteArray} {r c : Nat} (g : Gr R C s r c) (hg : isG R C s = true) : Ev (fun k => spec_l10Alone.f k R C s) (unAny (layoutN r c s) (slots r c s) 0 || loneF s (layoutN r c s) s.size 0) := by
  unfold spec_l10Alone.f
  refine Ev.bind (sSlotsOf g hg) ?_
  exact sLone_l0 g hg (slots r c s).length 0 (by omega)
theorem sShort_l0 {xs : List S132} (hl : xs.length ≤ 1000) : ∀ d i, i + d = xs.length → Ev (fun k => spec_l10Short.l0 k xs (i : Int)) ((xs.drop i).any fun x => decide (x.f3 < 3))
  | 0, i, h => Ev.succ (fun k => by rw [spec_l10Short.l0]) (Ev.neg (by omega) ((Ev.pure _).eq (by rw [List.drop_eq_nil_of_le (by omega)]; simp)))
  | d + 1, i, h => by
    have ih := sShort_l0 hl d (i + 1) (by omega)
    rw [Int.natCast_add] at ih
    refine Ev.succ (fun k => by rw [spec_l10Short.l0]) (Ev.pos (by omega) (Ev.pos (by omega) ?_))
    rw [rdT (by omega), w64 (by omega), List.drop_eq_getElem_cons (show i < xs.length by omega), List.any_cons]
    by_cases e : xs[i].f3 < 3
    · exact Ev.pos e ((Ev.pure _).eq (by simp [e]))
    · exact Ev.neg e (ih.eq (by simp [e]))
theorem alone_go {s : ByteArray} {L : List (List Int)} : ∀ d i, i + d = s.size → impl_alone.go s s L.flatten d i = some (loneF s L d i)
  | 0, i, h => rfl
  | d + 1, i, h => by
    have ih := alone_go (s := s) (L := L) d (i + 1) (by omega)
    unfold impl_alone.go loneF
    by_cases e : bt s (i : Int) = 46
    · rw [if_pos e, if_pos e]
      by_cases e2 : (i : Int) ∈ L.flatten
      · rw [if_pos e2, if_neg (fun h => (atF_zero (i : Int) L 0).mp h e2)]
        exact ih
      · rw [if_neg e2, if_pos ((atF_zero (i : Int) L 0).mpr e2), if_pos (by omega), e]
        rfl
    · rw [if_neg e, if_neg e]
      exact ih
theorem iAlone {R C : Int} {s : ByteArray} {r c : Nat} (g : Gr R C s r c) (hg : isG R C s = true) : Ev (fun k => impl_alone.f k R C s s) (loneF s (layoutN r c s) s.size 0) := by
  have hz : s.size ≤ 36 := by have := g.sz; have := g.mx; omega
  unfold impl_alone.f
  refine Ev.bind (ilayout g hg) (Ev.pos ⟨⟨?_, ?_⟩, by omega, by have := (layout_len g).2; omega⟩ (Ev.const (alone_go s.size 0 (by omega))))
  · have hf : ∀ L : List (List Int), (∀ l ∈ L, l.length ≤ 6) → L.flatten.length ≤ 6 * L.length := by
      intro L
      induction L with
      | nil => simp
      | cons l t ih =>
        intro h
        have := ih (fun l hl => h l (List.mem_cons_of_mem _ hl))
        have := h l (List.mem_cons_self)
        rw [List.flatten_cons, List.length_append, List.length_cons]
        omega
    have := hf _ (fun l hl => (layout_mem g hl).1)
    have := (layout_len g).2
    omega
  · intro a ha
    obtain ⟨l, hl, hal⟩ := List.mem_flatten.mp ha
    have := (layout_mem g hl).2 a hal
    omega
theorem iForm_l1 {R C : Int} {s : ByteArray} {r c : Nat} (g : Gr R C s r c) (hg : isG R C s = true) : ∀ d i, i + d = (slots r c s).length →
    Ev (fun k => impl_FormOf.l1 k (slots r c s) ((slots r c s).length : Int) (i : Int) R C s) (if (unAny (layoutN r c s) ((slots r c s).drop i) i || loneF s (layoutN r c s) s.size 0) = true then 5 else 0)
  | 0, i, h => by
    refine Ev.succ (fun k => by rw [impl_FormOf.l1]) (Ev.neg (by omega) (Ev.bind (iAlone g hg) ?_))
    rw [List.drop_eq_nil_of_le (by omega), unAny, Bool.false_or]
    refine Ev.ite (fun e => ?_) (fun e => ?_)
    · rw [if_pos e]; exact Ev.pure _
    · rw [if_neg e]; exact Ev.pure _
  | d + 1, i, h => by
    have hll := layout_len g
    have ih := iForm_l1 g hg d (i + 1) (by omega)
    rw [Int.natCast_add] at ih
    refine Ev.succ (fun k => by rw [impl_FormOf.l1]) ?_
    refine Ev.pos (by omega) (Ev.pos (by omega) (Ev.pos (by omega) ?_))
    refine Ev.bind (iUn g hg (show i < (layoutN r c s).length by omega)) ?_
    have hu := un_small g (i := i) (by omega)
    rw [w64 (by omega), w64 (by omega), rdT (by omega), List.drop_eq_getElem_cons (show i < (slots r c s).length by omega), unAny, getD_at _ (show i < (layoutN r c s).length by omega)]
    by_cases e : (slots r c s)[i].f3 < 2 * (unF (layoutN r c s) (layoutN r c s)[i] 0 : Int)
    · rw [if_pos e]; exact Ev.pos e ((Ev.pure _).eq (by simp))
    · rw [if_neg e]; exact Ev.neg e ih
theorem iForm_l0 {R C : Int} {s : ByteArray} {r c : Nat} (g : Gr R C s r c) (hg : isG R C s = true) : ∀ d i, i + d = (slots r c s).length →
    Ev (fun k => impl_FormOf.l0 k (slots r c s) (slots r c s) ((slots r c s).length : Int) (i : Int) R C s) (if ((slots r c s).drop i).any (fun x => decide (x.f3 < 3)) = true then 4 else if (unAny (layoutN r c s) (slots r c s) 0 || loneF s (layoutN r c s) s.size 0) = true then 5 else 0)
  | 0, i, h => by
    refine Ev.succ (fun k => by rw [impl_FormOf.l0]) (Ev.neg (by omega) ?_)
    rw [List.drop_eq_nil_of_le (by omega)]
    exact iForm_l1 g hg (slots r c s).length 0 (by omega)
  | d + 1, i, h => by
    have hll := layout_len g
    have ih := iForm_l0 g hg d (i + 1) (by omega)
    rw [Int.natCast_add] at ih
    refine Ev.succ (fun k => by rw [impl_FormOf.l0]) (Ev.pos (by omega) (Ev.pos (by omega) (Ev.pos (by omega) ?_)))
    rw [w64 (by omega), rdT (by omega), List.drop_eq_getElem_cons (show i < (slots r c s).length by omega), List.any_cons]
    by_cases e : (slots r c s)[i].f3 < 3
    · exact Ev.pos e ((Ev.pure _).eq (by simp [e]))
    · exact Ev.neg e (ih.eq (by simp [e]))
/-! ### parts of a grid -/
def near (c i j : Nat) : Prop := (0 < i % c ∧ j + 1 = i) ∨ (0 < j % c ∧ i + 1 = j) ∨ j + c = i ∨ i + c = j
inductive Rch (s : ByteArray) (c N a : Nat) : Nat → Prop
  | base : a < N → bt s (a : Int) = 46 → Rch s c N a a
  | step {j i : Nat} : Rch s c N a j → i < N → bt s (i : Int) = 46 → near c i j → Rch s c N a i
theorem near_symm {c i j : Nat} (h : near c i j) : near c j i := by
  unfold near at h ⊢
  rcases h with h | h | h | h
  · exact .inr (.inl h)
  · exact .inl h
  · exact .inr (.inr (.inr h))
  · exact .inr (.inr (.inl h))
theorem Rch.lt {s : ByteArray} {c N a j : Nat} (h : Rch s c N a j) : j < N := by cases h <;> assumption
theorem Rch.white {s : ByteArray} {c N a j : Nat} (h : Rch s c N a j) : bt s (j : Int) = 46 := by cases h <;> assumption
theorem Rch.trans {s : ByteArray} {c N a b j : Nat} (h : Rch s c N a b) (h2 : Rch s c N b j) : Rch s c N a j := by
  induction h2 with
  | base _ _ => exact h
  | step _ hi hw hn ih => exact .step ih hi hw hn
theorem getD_set_true {S : List Bool} {i j : Nat} (hi : i < S.length) : (S.set i true).getD j false = if j = i then true else S.getD j false := by
  simp only [List.getD_eq_getElem?_getD, List.getElem?_set]
  by_cases e : i = j
  · subst e; simp [hi]
  · rw [if_neg e, if_neg (fun h => e h.symm)]
theorem count_set {S : List Bool} : ∀ {i : Nat}, i < S.length → S.getD i false = false → (S.set i true).count false + 1 = S.count false := by
  induction S with
  | nil => intro i hi; simp at hi
  | cons b t ih =>
    intro i hi h
    cases i with
    | zero =>
      have : b = false := by simpa using h
      subst this
      simp [List.set_cons_zero, List.count_cons]
    | succ i =>
      have := ih (i := i) (by simpa using hi) (by simpa using h)
      rw [List.set_cons_succ, List.count_cons, List.count_cons]
      omega
theorem near_one {α : Type} {F : Nat → Bool → Option α} {q : α} {p : Prop} [d : Decidable p] {S : List Bool} {j : Int} {D : Option Bool} {b : Bool} (e : rdOf false S j = b) (hA : p → 0 ≤ j) (hB : p → j < (S.length : Int)) (hx : p → b = true → Ev (fun k => F k true) q) (hy : (p → b = false) → Ev (fun k => D.bind (F k)) q) :
    Ev (fun k => (spec_l10Reach.n1 p S j D).bind (F k)) q := by
  unfold spec_l10Reach.n1
  by_cases hp : p
  · simp only [if_pos hp, if_pos (hA hp), if_pos (hB hp), e]
    cases b with
    | true => exact hx hp rfl
    | false => exact hy (fun _ => rfl)
  · simp only [if_neg hp]
    exact hy (fun h => absurd h hp)
theorem reach_j2 {R C : Int} {s : ByteArray} {r c : Nat} (g : Gr R C s r c) {S : List Bool} {ag : Bool} {i : Nat} {q : List Bool} (hi : i < s.size) (hS : S.length = s.size)
    (hset : (∃ j, j < s.size ∧ near c i j ∧ S.getD j false = true) → Ev (fun k => spec_l10Reach.l1 k (S.set i true) true ((i + 1 : Nat) : Int) R C s) q)
    (hno : (∀ j, j < s.size → near c i j → S.getD j false = false) → Ev (fun k => spec_l10Reach.l1 k S ag ((i + 1 : Nat) : Int) R C s) q) :
    Ev (fun k => spec_l10Reach.j2 k S ag (i : Int) false R C s) q := by
  have hz : s.size ≤ 36 := by have := g.sz; have := g.mx; omega
  have hc2 := g.c2
  have hc6 := g.c6
  have hm : i % c < c := Nat.mod_lt _ (by omega)
  refine Ev.succ (fun k => by rw [spec_l10Reach.j2]) ?_
  rw [g.ec]
  have e2 : Int.tmod (i : Int) (c : Int) = ((i % c : Nat) : Int) := rfl
  have d1 : (0 : Nat) < i % c → 1 ≤ i := fun h => by
    rcases Nat.eq_zero_or_pos i with h0 | h0
    · subst h0; simp at h
    · exact h0
  have d2 : ∀ x, i % c = x → x + 1 < c → i + 1 < s.size ∧ 0 < (i + 1) % c := fun x hx h => by
    have h4 := (gr_run g hi).2.2.2.2.2 1 (by omega)
    refine ⟨by omega, ?_⟩
    have : (i + 1) % c = x + 1 := by
      rw [Nat.add_mod, hx, Nat.mod_eq_of_lt (show 1 < c by omega)]
      exact Nat.mod_eq_of_lt h
    omega
  have d3 : ∀ j, i + 1 = j → 0 < j % c → i % c + 1 < c := fun j hj h => by
    subst hj
    rcases Nat.lt_or_ge (i % c + 1) c with h1 | h1
    · exact h1
    · have e : i % c + 1 = c := by omega
      have : (i + 1) % c = 0 := by
        rw [Nat.add_mod, Nat.mod_eq_of_lt (show 1 < c by omega), e, Nat.mod_self]
      omega
  unfold spec_l10Reach.nr
  rw [e2]
  have eC : ((c : Nat) : Int) ≠ 0 := by omega
  have fin0 : (∃ j, j < s.size ∧ near c i j ∧ S.getD j false = true) → Ev (fun k => (if 0 ≤ (i : Int) then (if (i : Int) < (S.length : Int) then (spec_l10Reach.l1 k (S.set ((i : Int)).toNat true) true (wrap64 ((i : Int) + 1)) R (c : Int) s) else none) else none)) q := fun h => by
    refine Ev.pos (by omega) (Ev.pos (by omega) ?_)
    have := hset h
    rw [Int.natCast_add, g.ec] at this
    rw [w64 (by omega)]
    exact this
  have fin1 : (∀ j, j < s.size → near c i j → S.getD j false = false) → Ev (fun k => spec_l10Reach.l1 k S ag (wrap64 ((i : Int) + 1)) R (c : Int) s) q := fun h => by
    have := hno h
    rw [Int.natCast_add, g.ec] at this
    rw [w64 (by omega)]
    exact this
  generalize hmm : i % c = m at *
  refine Ev.neg (by decide) (Ev.neg eC ?_)
  rw [w64 (n := (i : Int) - 1) (by omega), w64 (n := (m : Int) + 1) (by omega), w64 (n := (i : Int) - c) (by omega), w64 (n := (i : Int) + c) (by omega)]
  rw [w64 (n := (i : Int) + 1) (by omega)] at fin0 fin1 ⊢
  have t1 : ((i : Int) - 1).toNat = i - 1 := by omega
  have t2 : ((i : Int) + 1).toNat = i + 1 := by omega
  have t3 : ((i : Int) - c).toNat = i - c := by omega
  have t4 : ((i : Int) + c).toNat = i + c := by omega
  have fin2 : (∃ j, j < s.size ∧ near c i j ∧ S.getD j false = true) → Ev (fun k => if true = true then (if 0 ≤ (i : Int) then (if (i : Int) < (S.length : Int) then (spec_l10Reach.l1 k (S.set ((i : Int)).toNat true) true ((i : Int) + 1) R (c : Int) s) else none) else none) else (spec_l10Reach.l1 k S ag ((i : Int) + 1) R (c : Int) s)) q := fun h => Ev.pos rfl (fin0 h)
  refine near_one rfl (fun h => by have := d1 (by omega); omega) (fun h => by omega) (fun h b => fin2 ⟨i - 1, by omega, .inl ⟨by omega, by have := d1 (by omega); omega⟩, by simp only [rdOf, t1] at b; exact b⟩) (fun n1 => ?_)
  refine near_one rfl (fun h => by omega) (fun h => by have := d2 m rfl (by omega); omega) (fun h b => fin2 ⟨i + 1, (d2 m rfl (by omega)).1, .inr (.inl ⟨(d2 m rfl (by omega)).2, rfl⟩), by simp only [rdOf, t2] at b; exact b⟩) (fun n2 => ?_)
  refine near_one rfl (fun h => by omega) (fun h => by omega) (fun h b => fin2 ⟨i - c, by omega, .inr (.inr (.inl (by omega))), by simp only [rdOf, t3] at b; exact b⟩) (fun n3 => ?_)
  refine near_one rfl (fun h => by omega) (fun h => by omega) (fun h b => fin2 ⟨i + c, by omega, .inr (.inr (.inr rfl)), by simp only [rdOf, t4] at b; exact b⟩) (fun n4 => ?_)
  simp only [rdOf, t1] at n1
  simp only [rdOf, t2] at n2
  simp only [rdOf, t3] at n3
  simp only [rdOf, t4] at n4
  show Ev (fun k => if false = true then (if 0 ≤ (i : Int) then (if (i : Int) < (S.length : Int) then (spec_l10Reach.l1 k (S.set ((i : Int)).toNat true) true ((i : Int) + 1) R (c : Int) s) else none) else none) else (spec_l10Reach.l1 k S ag ((i : Int) + 1) R (c : Int) s)) q
  refine Ev.neg (by decide) ?_
  refine fin1 (fun j hj hn => ?_)
  rcases hn with ⟨h1, h2⟩ | ⟨h1, h2⟩ | h1 | h1
  · have := n1 (by omega); rw [show j = i - 1 by omega]; exact this
  · have := n2 (by have := d3 j h2 h1; omega); rw [show j = i + 1 by omega]; exact this
  · have := n3 (by omega); rw [show j = i - c by omega]; exact this
  · have := n4 (by omega); rw [show j = i + c by omega]; exact this
theorem reach_pass {R C : Int} {s : ByteArray} {r c a : Nat} (g : Gr R C s r c) : ∀ d i (S : List Bool) (ag : Bool), i + d = s.size → S.length = s.size →
    ∃ (S' : List Bool) (ag' : Bool), (∀ q, Ev (fun k => spec_l10Reach.l0 k S' ag' R C s) q → Ev (fun k => spec_l10Reach.l1 k S ag (i : Int) R C s) q) ∧ S'.length = s.size ∧
      (∀ j, S.getD j false = true → S'.getD j false = true) ∧
      ((∀ j, S.getD j false = true → Rch s c s.size a j) → ∀ j, S'.getD j false = true → Rch s c s.size a j) ∧
      (ag' = true → ag = true ∨ S'.count false < S.count false) ∧ S'.count false ≤ S.count false ∧
      (ag' = false → ag = false ∧ S' = S ∧ ∀ j, i ≤ j → j < s.size → bt s (j : Int) = 46 → S.getD j false = false → ∀ j', j' < s.size → near c j j' → S.getD j' false = false)
  | 0, i, S, ag, h, hS => by
    refine ⟨S, ag, fun q hq => ?_, hS, fun _ h => h, fun h => h, fun h => .inl h, Nat.le_refl _, fun h => ⟨h, rfl, fun j h1 h2 => by omega⟩⟩
    refine Ev.succ (fun k => by rw [spec_l10Reach.l1]) ?_
    exact Ev.neg (by omega) hq
  | d + 1, i, S, ag, h, hS => by
    have hz : s.size ≤ 36 := by have := g.sz; have := g.mx; omega
    -- the cell is met already, or black
    by_cases hsk : S.getD i false = true ∨ bt s (i : Int) ≠ 46
    · obtain ⟨S', ag', h1, h2, h3, h4, h5, h6, h7⟩ := reach_pass g (a := a) d (i + 1) S ag (by omega) hS
      refine ⟨S', ag', fun q hq => ?_, h2, h3, h4, h5, h6, fun hf => ⟨(h7 hf).1, (h7 hf).2.1, fun j hj1 hj2 hw hu => ?_⟩⟩
      · have hl := h1 q hq
        rw [Int.natCast_add] at hl
        have hj : ∀ b : Bool, b = true → Ev (fun k => spec_l10Reach.j2 k S ag (i : Int) b R C s) q := by
          rintro b rfl
          refine Ev.succ (fun k => by rw [spec_l10Reach.j2]) ?_
          rw [w64 (by omega)]
          exact Ev.pos rfl hl
        refine Ev.succ (fun k => by rw [spec_l10Reach.l1]) (Ev.pos (by omega) (Ev.pos (by omega) ?_))
        by_cases e : rdOf false S (i : Int) = true
        · exact Ev.pos e (hj true rfl)
        · refine Ev.neg e (Ev.pos (by omega) (hj _ ?_))
          rcases hsk with hsk | hsk
          · exact absurd hsk (by simpa [rdOf] using e)
          · simpa using hsk
      · by_cases e : j = i
        · subst e
          rcases hsk with hsk | hsk
          · rw [hsk] at hu; cases hu
          · exact absurd hw hsk
        · exact (h7 hf).2.2 j (by omega) hj2 hw hu
    · have hw : bt s (i : Int) = 46 := Classical.byContradiction fun h => hsk (.inr h)
      have hm' : S.getD i false = false := by simpa using fun h => hsk (.inl h)
      have enter : ∀ q, Ev (fun k => spec_l10Reach.j2 k S ag (i : Int) false R C s) q → Ev (fun k => spec_l10Reach.l1 k S ag (i : Int) R C s) q := fun q hq => by
        refine Ev.succ (fun k => by rw [spec_l10Reach.l1]) (Ev.pos (by omega) (Ev.pos (by omega) ?_))
        refine Ev.neg (by simpa [rdOf] using hm') (Ev.pos (by omega) ?_)
        rw [hw]
        exact hq
      by_cases hex : ∃ j, j < s.size ∧ near c i j ∧ S.getD j false = true
      · obtain ⟨S', ag', h1, h2, h3, h4, h5, h6, h7⟩ := reach_pass g (a := a) d (i + 1) (S.set i true) true (by omega) (by rw [List.length_set]; exact hS)
        have hc := count_set (S := S) (i := i) (by omega) hm'
        have hgs : ∀ j, (S.set i true).getD j false = if j = i then true else S.getD j false := fun j => getD_set_true (by omega)
        refine ⟨S', ag', fun q hq => enter q (reach_j2 g (by omega) hS (fun _ => h1 q hq) (fun hno => ?_)), h2, fun j hj => h3 j ?_, fun hs => h4 (fun j hj => ?_), fun _ => .inr (by omega), by omega, fun hf => absurd (h7 hf).1 (by decide)⟩
        · obtain ⟨j, hj1, hj2, hj3⟩ := hex
          rw [hno j hj1 hj2] at hj3; cases hj3
        · rw [hgs]; split
          · rfl
          · exact hj
        · rw [hgs] at hj
          by_cases e : j = i
          · subst e
            obtain ⟨j', hj1, hj2, hj3⟩ := hex
            exact .step (hs j' hj3) (by omega) hw hj2
          · rw [if_neg e] at hj; exact hs j hj
      · have hno : ∀ j, j < s.size → near c i j → S.getD j false = false := fun j h1 h2 => by
          cases e : S.getD j false with
          | true => exact absurd ⟨j, h1, h2, e⟩ hex
          | false => rfl
        obtain ⟨S', ag', h1, h2, h3, h4, h5, h6, h7⟩ := reach_pass g (a := a) d (i + 1) S ag (by omega) hS
        refine ⟨S', ag', fun q hq => enter q (reach_j2 g (by omega) hS (fun hx => absurd hx hex) (fun _ => h1 q hq)), h2, h3, h4, h5, h6, fun hf => ⟨(h7 hf).1, (h7 hf).2.1, fun j hj1 hj2 hw' hu => ?_⟩⟩
        by_cases e : j = i
        · subst e; exact hno
        · exact (h7 hf).2.2 j (by omega) hj2 hw' hu
theorem reach_t {R C : Int} {s : ByteArray} {S q : List Bool} (h : Ev (fun k => spec_l10Reach.l1 k S false ((0 : Nat) : Int) R C s) q) : Ev (fun k => spec_l10Reach.l0 k S true R C s) q := by
  refine Ev.succ (fun k => by rw [spec_l10Reach.l0]) ?_
  exact Ev.pos rfl h
theorem reach_n {R C : Int} {s : ByteArray} {S : List Bool} : Ev (fun k => spec_l10Reach.l0 k S false R C s) S := by
  refine Ev.succ (fun k => by rw [spec_l10Reach.l0]) ?_
  exact Ev.neg (by decide) (Ev.pure _)
theorem reach_l0 {R C : Int} {s : ByteArray} {r c a : Nat} (g : Gr R C s r c) : ∀ n (S : List Bool), S.count false ≤ n → S.length = s.size → (∀ j, S.getD j false = true → Rch s c s.size a j) →
    ∃ S', Ev (fun k => spec_l10Reach.l0 k S true R C s) S' ∧ S'.length = s.size ∧ (∀ j, S.getD j false = true → S'.getD j false = true) ∧ (∀ j, S'.getD j false = true → Rch s c s.size a j) ∧
      (∀ j, j < s.size → bt s (j : Int) = 46 → S'.getD j false = false → ∀ j', j' < s.size → near c j j' → S'.getD j' false = false) := by
  intro n
  induction n with
  | zero =>
    intro S hn hS hs
    obtain ⟨S', ag', h1, h2, h3, h4, h5, h6, h7⟩ := reach_pass g (a := a) s.size 0 S false (by omega) hS
    have hag : ag' = false := by
      cases e : ag' with
      | false => rfl
      | true => rcases h5 e with h | h
                · cases h
                · omega
    subst hag
    obtain ⟨_, rfl, hcl⟩ := h7 rfl
    refine ⟨S', reach_t (h1 S' reach_n), hS, fun _ h => h, hs, fun j hj => hcl j (by omega) hj⟩
  | succ n ih =>
    intro S hn hS hs
    obtain ⟨S', ag', h1, h2, h3, h4, h5, h6, h7⟩ := reach_pass g (a := a) s.size 0 S false (by omega) hS
    cases ag' with
    | false =>
      obtain ⟨_, rfl, hcl⟩ := h7 rfl
      refine ⟨S', reach_t (h1 S' reach_n), hS, fun _ h => h, hs, fun j hj => hcl j (by omega) hj⟩
    | true =>
      obtain ⟨S2, k1, k2, k3, k4, k5⟩ := ih S' (by rcases h5 rfl with h | h
                                                   · cases h
                                                   · omega) h2 (h4 hs)
      exact ⟨S2, reach_t (h1 S2 k1), k2, fun j hj => k3 j (h3 j hj), k4, k5⟩
theorem reach_f {R C : Int} {s : ByteArray} {r c a : Nat} (g : Gr R C s r c) (ha : a < s.size) (hw : bt s (a : Int) = 46) : ∃ S', Ev (fun k => spec_l10Reach.f k R C s (List.replicate s.size false) (a : Int)) S' ∧ S'.length = s.size ∧ ∀ j, S'.getD j false = true ↔ Rch s c s.size a j := by
  have hrep : ∀ j, (List.replicate s.size false).getD j false = false := fun j => by
    simp only [List.getD_eq_getElem?_getD, List.getElem?_replicate]
    split <;> rfl
  have hgs : ∀ j, ((List.replicate s.size false).set a true).getD j false = if j = a then true else false := fun j => by rw [getD_set_true (by simpa using ha), hrep]
  obtain ⟨S', k1, k2, k3, k4, k5⟩ := reach_l0 g (a := a) _ ((List.replicate s.size false).set a true) (Nat.le_refl _) (by simp) (fun j hj => by
    rw [hgs] at hj
    split at hj
    · subst_vars; exact .base ha hw
    · cases hj)
  refine ⟨S', ?_, k2, fun j => ⟨k4 j, fun h => ?_⟩⟩
  · unfold spec_l10Reach.f
    exact Ev.pos (by omega) (Ev.pos (by simpa using ha) k1)
  · induction h with
    | base _ _ => exact k3 a (by rw [hgs, if_pos rfl])
    | step hj hi hwi hn ih =>
      rename_i j i
      cases e : S'.getD i false with
      | true => rfl
      | false =>
        have := k5 i hi hwi e j hj.lt hn
        rw [ih] at this; cases this
/-! ### the search in depth -/
theorem Rch.src {s : ByteArray} {c N a j : Nat} (h : Rch s c N a j) : a < N ∧ bt s (a : Int) = 46 := by
  induction h with
  | base h1 h2 => exact ⟨h1, h2⟩
  | step _ _ _ _ ih => exact ih
structure Dfs (R C : Int) (s : ByteArray) (c : Nat) (x y : Int) (ms ms' : List Bool) : Prop where
  len : ms'.length = s.size
  up : ∀ j, ms.getD j false = true → ms'.getD j false = true
  cnt : ms'.count false ≤ ms.count false
  hit : ∀ i : Nat, (0 ≤ x ∧ x < R) → (0 ≤ y ∧ y < C) → (i : Int) = x * C + y → bt s (i : Int) = 46 → ms'.getD i false = true
  from_ : ∀ j, ms'.getD j false = true → ms.getD j false = true ∨ ∃ i : Nat, (0 ≤ x ∧ x < R) ∧ (0 ≤ y ∧ y < C) ∧ (i : Int) = x * C + y ∧ Rch s c s.size i j
  shut : ∀ j, ms'.getD j false = true → ms.getD j false = false → ∀ j', j' < s.size → near c j' j → bt s (j' : Int) = 46 → ms'.getD j' false = true
theorem dfs_ok {R C : Int} {s : ByteArray} {r c : Nat} (g : Gr R C s r c) : ∀ k (x y : Int) (ms : List Bool), ms.length = s.size → ms.count false < k → ∃ ms', impl_PartsOf.dfs R C s k x y ms = some ms' ∧ Dfs R C s c x y ms ms'
  | 0, x, y, ms, hl, hc => by omega
  | k + 1, x, y, ms, hl, hc => by
    have same : (∀ i : Nat, (0 ≤ x ∧ x < R) → (0 ≤ y ∧ y < C) → (i : Int) = x * C + y → bt s (i : Int) = 46 → ms.getD i false = true) → Dfs R C s c x y ms ms := fun h =>
      ⟨hl, fun _ h => h, Nat.le_refl _, h, fun j hj => .inl hj, fun j h1 h2 => by rw [h1] at h2; cases h2⟩
    unfold impl_PartsOf.dfs
    by_cases hx : 0 ≤ x ∧ x < R
    · rw [if_pos hx]
      by_cases hy : 0 ≤ y ∧ y < C
      · rw [if_pos hy]
        have eR := g.er
        have eC := g.ec
        obtain ⟨xn, rfl⟩ : ∃ n : Nat, x = n := ⟨x.toNat, by omega⟩
        obtain ⟨yn, rfl⟩ : ∃ n : Nat, y = n := ⟨y.toNat, by omega⟩
        have ei : (xn : Int) * C + yn = ((xn * c + yn : Nat) : Int) := by rw [eC, Int.natCast_add, Int.natCast_mul]
        have hz := g.sz
        have hmul : (xn + 1) * c ≤ r * c := Nat.mul_le_mul_right _ (by omega)
        rw [Nat.add_mul] at hmul
        have hiN : xn * c + yn < s.size := by omega
        have hmod : (xn * c + yn) % c = yn := by rw [Nat.mul_comm, Nat.mul_add_mod]; exact Nat.mod_eq_of_lt (by omega)
        rw [ei, Int.toNat_natCast]
        generalize hI : xn * c + yn = I at *
        have hitI : ∀ i : Nat, (i : Int) = ((I : Nat) : Int) → i = I := fun i h => by omega
        by_cases hm : ms.getD I false = true
        · rw [if_pos hm]
          exact ⟨ms, rfl, same (fun i _ _ h _ => by rw [ei] at h; rw [hitI i h]; exact hm)⟩
        · rw [if_neg hm]
          by_cases hw : bt s (I : Int) = 46
          · rw [if_pos hw]
            have hm' : ms.getD I false = false := by simpa using hm
            have hcs := count_set (S := ms) (i := I) (by omega) hm'
            have hgs : ∀ j, (ms.set I true).getD j false = if j = I then true else ms.getD j false := fun j => getD_set_true (by omega)
            obtain ⟨m1, e1, D1⟩ := dfs_ok g k ((xn : Int) - 1) yn (ms.set I true) (by rw [List.length_set]; exact hl) (by omega)
            have c1 := D1.cnt
            obtain ⟨m2, e2, D2⟩ := dfs_ok g k ((xn : Int) + 1) yn m1 D1.len (by omega)
            have c2 := D2.cnt
            obtain ⟨m3, e3, D3⟩ := dfs_ok g k (xn : Int) ((yn : Int) - 1) m2 D2.len (by omega)
            have c3 := D3.cnt
            obtain ⟨m4, e4, D4⟩ := dfs_ok g k (xn : Int) ((yn : Int) + 1) m3 D3.len (by omega)
            have c4 := D4.cnt
            refine ⟨m4, by rw [e1, Option.bind_some, e2, Option.bind_some, e3, Option.bind_some, e4], ?_⟩
            have a1 : ((xn : Int) - 1) * C + yn = (I : Int) - c := by rw [Int.sub_mul, Int.one_mul, eC, ← ei, eC]; omega
            have a2 : ((xn : Int) + 1) * C + yn = (I : Int) + c := by rw [Int.add_mul, Int.one_mul, eC, ← ei, eC]; omega
            have a3 : (xn : Int) * C + ((yn : Int) - 1) = (I : Int) - 1 := by rw [← ei]; omega
            have a4 : (xn : Int) * C + ((yn : Int) + 1) = (I : Int) + 1 := by rw [← ei]; omega
            have baseI : Rch s c s.size I I := .base hiN hw
            have f1 : ∀ j, m1.getD j false = true → ms.getD j false = true ∨ Rch s c s.size I j := fun j hj => by
              rcases D1.from_ j hj with h | ⟨i, h1, h2, h3, h4⟩
              · rw [hgs] at h
                split at h
                · right; subst_vars; exact baseI
                · exact .inl h
              · rw [a1] at h3
                exact .inr (Rch.trans (.step baseI h4.src.1 h4.src.2 (.inr (.inr (.inr (by omega))))) h4)
            have f2 : ∀ j, m2.getD j false = true → ms.getD j false = true ∨ Rch s c s.size I j := fun j hj => by
              rcases D2.from_ j hj with h | ⟨i, h1, h2, h3, h4⟩
              · exact f1 j h
              · rw [a2] at h3
                exact .inr (Rch.trans (.step baseI h4.src.1 h4.src.2 (.inr (.inr (.inl (by omega))))) h4)
            have f3 : ∀ j, m3.getD j false = true → ms.getD j false = true ∨ Rch s c s.size I j := fun j hj => by
              rcases D3.from_ j hj with h | ⟨i, h1, h2, h3, h4⟩
              · exact f2 j h
              · rw [a3] at h3
                exact .inr (Rch.trans (.step baseI h4.src.1 h4.src.2 (.inr (.inl ⟨by omega, by omega⟩))) h4)
            have f4 : ∀ j, m4.getD j false = true → ms.getD j false = true ∨ Rch s c s.size I j := fun j hj => by
              rcases D4.from_ j hj with h | ⟨i, h1, h2, h3, h4⟩
              · exact f3 j h
              · rw [a4] at h3
                have : i % c = yn + 1 := by
                  rw [show i = xn * c + (yn + 1) by omega, Nat.mul_comm, Nat.mul_add_mod]
                  exact Nat.mod_eq_of_lt (by omega)
                exact .inr (Rch.trans (.step baseI h4.src.1 h4.src.2 (.inl ⟨by omega, by omega⟩)) h4)
            have u14 : ∀ j, m1.getD j false = true → m4.getD j false = true := fun j h => D4.up j (D3.up j (D2.up j h))
            refine ⟨D4.len, fun j hj => u14 j (D1.up j (by rw [hgs]; split <;> first | rfl | exact hj)), by omega, fun i _ _ h _ => ?_, fun j hj => ?_, fun j h1 h2 j' hj' hn hw' => ?_⟩
            · rw [ei] at h; rw [hitI i h]
              exact u14 I (D1.up I (by rw [hgs, if_pos rfl]))
            · rcases f4 j hj with h | h
              · exact .inl h
              · exact .inr ⟨I, hx, hy, by rw [ei], h⟩
            · cases b3 : m3.getD j false with
              | false => exact D4.shut j h1 b3 j' hj' hn hw'
              | true =>
                cases b2 : m2.getD j false with
                | false => exact D4.up j' (D3.shut j b3 b2 j' hj' hn hw')
                | true =>
                  cases b1 : m1.getD j false with
                  | false => exact D4.up j' (D3.up j' (D2.shut j b2 b1 j' hj' hn hw'))
                  | true =>
                    by_cases ej : j = I
                    · subst ej
                      rcases hn with ⟨n1, n2⟩ | ⟨n1, n2⟩ | n1 | n1
                      · refine D4.hit j' hx ⟨by omega, ?_⟩ (by rw [a4]; omega) hw'
                        rcases Nat.lt_or_ge (yn + 1) c with hlt | hge
                        · omega
                        · have e : yn + 1 = c := by omega
                          have : j' % c = 0 := by
                            rw [show j' = xn * c + c by omega, Nat.mul_comm, Nat.mul_add_mod, Nat.mod_self]
                          omega
                      · exact D4.up j' (D3.hit j' hx ⟨by omega, by omega⟩ (by rw [a3]; omega) hw')
                      · refine D4.up j' (D3.up j' (D2.hit j' ⟨by omega, ?_⟩ hy (by rw [a2]; omega) hw'))
                        rcases Nat.lt_or_ge (xn + 1) r with hlt | hge
                        · omega
                        · have : r * c ≤ (xn + 1) * c := Nat.mul_le_mul_right _ hge
                          rw [Nat.add_mul] at this
                          omega
                      · refine u14 j' (D1.hit j' ⟨?_, by omega⟩ hy (by rw [a1]; omega) hw')
                        rcases Nat.eq_zero_or_pos xn with h0 | h0
                        · subst h0; omega
                        · omega
                    · exact u14 j' (D1.shut j b1 (by rw [hgs, if_neg ej]; exact h2) j' hj' hn hw')
          · rw [if_neg hw]
            exact ⟨ms, rfl, same (fun i _ _ h hw' => by rw [ei] at h; rw [hitI i h] at hw'; exact absurd hw' hw)⟩
      · rw [if_neg hy]
        exact ⟨ms, rfl, same (fun i _ h => absurd h hy)⟩
    · rw [if_neg hx]
      exact ⟨ms, rfl, same (fun i h => absurd h hx)⟩
theorem eqD {a b : List Bool} (h : a.length = b.length) (e : ∀ j, j < a.length → a.getD j false = b.getD j false) : a = b := by
  apply List.ext_getElem h
  intro j h1 h2
  have := e j h1
  rwa [getD_at false h1, getD_at false h2] at this
theorem parts_l3 {R C : Int} {s : ByteArray} {n : Int} {i : Nat} {one : List Bool} (hz : s.size ≤ 36) (h1 : one.length = s.size) (hi : i < 100) : ∀ d j (ms : List Bool), j + d = s.size → ms.length = s.size →
    ∃ ms', (∀ q, Ev (fun k => spec_PartsOf.l1 k n ms' ((i + 1 : Nat) : Int) R C s) q → Ev (fun k => spec_PartsOf.l3 k n ms (i : Int) one (j : Int) R C s) q) ∧ ms'.length = s.size ∧ ∀ t, t < s.size → ms'.getD t false = (ms.getD t false || (decide (j ≤ t) && one.getD t false))
  | 0, j, ms, h, hl => by
    refine ⟨ms, fun q hq => ?_, hl, fun t ht => by simp only [show ¬ j ≤ t by omega, decide_false, Bool.false_and, Bool.or_false]⟩
    rw [Int.natCast_add] at hq
    refine Ev.succ (fun k => by rw [spec_PartsOf.l3]) ?_
    refine Ev.neg (by omega) ?_
    rw [w64 (by omega)]
    exact hq
  | d + 1, j, ms, h, hl => by
    by_cases e : ms.getD j false = true
    · obtain ⟨ms', k1, k2, k3⟩ := parts_l3 (R := R) (C := C) (n := n) hz h1 hi d (j + 1) (ms.set j true) (by omega) (by rw [List.length_set]; exact hl)
      refine ⟨ms', fun q hq => ?_, k2, fun t ht => ?_⟩
      · have := k1 q hq
        rw [Int.natCast_add] at this
        refine Ev.succ (fun k => by rw [spec_PartsOf.l3]) ?_
        refine Ev.pos (by omega) (Ev.pos (by omega) (Ev.pos (by simpa [rdOf] using e) ?_))
        rw [w64 (n := (j : Int) + 1) (by omega)]
        exact this
      · rw [k3 t ht, getD_set_true (by omega)]
        by_cases et : t = j
        · subst et; rw [if_pos rfl, e]; rfl
        · rw [if_neg et]
          have : decide (j + 1 ≤ t) = decide (j ≤ t) := by simp only [decide_eq_decide]; omega
          rw [this]
    · have e' : ms.getD j false = false := by simpa using e
      cases ho : one.getD j false with
      | true =>
        obtain ⟨ms', k1, k2, k3⟩ := parts_l3 (R := R) (C := C) (n := n) hz h1 hi d (j + 1) (ms.set j true) (by omega) (by rw [List.length_set]; exact hl)
        refine ⟨ms', fun q hq => ?_, k2, fun t ht => ?_⟩
        · have := k1 q hq
          rw [Int.natCast_add] at this
          refine Ev.succ (fun k => by rw [spec_PartsOf.l3]) ?_
          refine Ev.pos (by omega) (Ev.pos (by omega) (Ev.neg (by simpa [rdOf] using e') (Ev.pos (by omega) ?_)))
          rw [w64 (n := (j : Int) + 1) (by omega), show rdOf false one (j : Int) = true from by simpa [rdOf] using ho]
          exact this
        · rw [k3 t ht, getD_set_true (by omega)]
          by_cases et : t = j
          · subst et; rw [if_pos rfl, ho]; simp
          · rw [if_neg et]
            have : decide (j + 1 ≤ t) = decide (j ≤ t) := by simp only [decide_eq_decide]; omega
            rw [this]
      | false =>
        have hset : ms.set j false = ms := by
          apply List.ext_getElem (by simp)
          intro t h1 h2
          rw [List.getElem_set]
          split
          · subst_vars; rw [← e', getD_at false h2]
          · rfl
        obtain ⟨ms', k1, k2, k3⟩ := parts_l3 (R := R) (C := C) (n := n) hz h1 hi d (j + 1) ms (by omega) hl
        refine ⟨ms', fun q hq => ?_, k2, fun t ht => ?_⟩
        · have := k1 q hq
          rw [Int.natCast_add] at this
          refine Ev.succ (fun k => by rw [spec_PartsOf.l3]) ?_
          refine Ev.pos (by omega) (Ev.pos (by omega) (Ev.neg (by simpa [rdOf] using e') (Ev.pos (by omega) ?_)))
          rw [w64 (n := (j : Int) + 1) (by omega), show rdOf false one (j : Int) = false from by simpa [rdOf] using ho, Int.toNat_natCast, hset]
          exact this
        · rw [k3 t ht]
          by_cases et : t = j
          · subst et; rw [ho, Bool.and_false, Bool.and_false]
          · have : decide (j + 1 ≤ t) = decide (j ≤ t) := by simp only [decide_eq_decide]; omega
            rw [this]
theorem parts_l2 {R C : Int} {s : ByteArray} {r c : Nat} (g : Gr R C s r c) {n : Int} {i : Nat} {ms : List Bool} (hl : ms.length = s.size) (hi : i < s.size) (hw : bt s (i : Int) = 46) {q : Int} {one : List Bool} (hr : Ev (fun k => spec_l10Reach.f k R C s (List.replicate s.size false) (i : Int)) one)
    (h3 : Ev (fun k => spec_PartsOf.l3 k n ms (i : Int) one ((0 : Nat) : Int) R C s) q) : ∀ d j, j + d = s.size → Ev (fun k => spec_PartsOf.l2 k n ms (i : Int) (List.replicate j false) (j : Int) R C s) q
  | 0, j, h => by
    have : j = s.size := by omega
    subst this
    refine Ev.succ (fun k => by rw [spec_PartsOf.l2]) ?_
    refine Ev.neg (by omega) ?_
    exact Ev.bind hr h3
  | d + 1, j, h => by
    have hz : s.size ≤ 36 := by have := g.sz; have := g.mx; omega
    have ih := parts_l2 g hl hi hw hr h3 d (j + 1) (by omega)
    rw [Int.natCast_add, List.replicate_succ'] at ih
    refine Ev.succ (fun k => by rw [spec_PartsOf.l2]) ?_
    refine Ev.pos (by omega) (Ev.pos (by simp; omega) ?_)
    rw [w64 (by omega)]
    exact ih
theorem parts_l1 {R C : Int} {s : ByteArray} {r c : Nat} (g : Gr R C s r c) (hg : isG R C s = true) : ∀ d i (n : Nat) (ms : List Bool), i + d = s.size → n ≤ i → ms.length = s.size → (∀ j, ms.getD j false = true → ∀ j', j' < s.size → near c j' j → bt s (j' : Int) = 46 → ms.getD j' false = true) →
    ∃ v : Int, Ev (fun k => spec_PartsOf.l1 k (n : Int) ms (i : Int) R C s) v ∧ impl_PartsOf.go R C s d i (n : Int) ms = some v
  | 0, i, n, ms, h, hn, hl, hcl => by
    refine ⟨n, ?_, rfl⟩
    refine Ev.succ (fun k => by rw [spec_PartsOf.l1]) ?_
    refine Ev.neg (by omega) ?_
    refine Ev.succ (fun k => by rw [spec_PartsOf.j2]) ?_
    exact Ev.neg (by decide) (Ev.pure _)
  | d + 1, i, n, ms, h, hn, hl, hcl => by
    have hz : s.size ≤ 36 := by have := g.sz; have := g.mx; omega
    have start : ∀ v, (bt s (i : Int) = 46 → Ev (fun k => spec_PartsOf.j3 k (n : Int) ms (i : Int) (!(rdOf false ms (i : Int))) R C s) v) → (bt s (i : Int) ≠ 46 → Ev (fun k => spec_PartsOf.j3 k (n : Int) ms (i : Int) false R C s) v) → Ev (fun k => spec_PartsOf.l1 k (n : Int) ms (i : Int) R C s) v := fun v h1 h2 => by
      refine Ev.succ (fun k => by rw [spec_PartsOf.l1]) ?_
      refine Ev.pos (by omega) (Ev.bind (sIsGrid R C s) ?_)
      rw [hg]
      refine Ev.succ (fun k => by rw [spec_PartsOf.j2]) ?_
      refine Ev.pos rfl (Ev.pos (by omega) (Ev.pos (by omega) ?_))
      exact Ev.ite (fun h => Ev.pos (by omega) (h1 h)) h2
    have skip : ∀ v, Ev (fun k => spec_PartsOf.l1 k (n : Int) ms ((i + 1 : Nat) : Int) R C s) v → ∀ b : Bool, b = false → Ev (fun k => spec_PartsOf.j3 k (n : Int) ms (i : Int) b R C s) v := by
      rintro v hv b rfl
      rw [Int.natCast_add] at hv
      refine Ev.succ (fun k => by rw [spec_PartsOf.j3]) ?_
      rw [w64 (n := (i : Int) + 1) (by omega)]
      exact Ev.neg (by decide) hv
    unfold impl_PartsOf.go
    by_cases hw : bt s (i : Int) = 46
    · rw [if_pos hw]
      by_cases hm : ms.getD i false = true
      · rw [if_pos hm]
        obtain ⟨v, hv, hgo⟩ := parts_l1 g hg d (i + 1) n ms (by omega) (by omega) hl hcl
        exact ⟨v, start v (fun _ => skip v hv _ (by simpa [rdOf] using hm)) (fun h => absurd hw h), hgo⟩
      · rw [if_neg hm]
        have hm' : ms.getD i false = false := by simpa using hm
        have e1 : (i : Int) / C = ((i / c : Nat) : Int) := by rw [g.ec]; rfl
        have e2 : (i : Int) % C = ((i % c : Nat) : Int) := by rw [g.ec]; rfl
        have hrun := gr_run g (show i < s.size by omega)
        have hcnt : ms.count false < 100 := by have := List.count_le_length (a := false) (l := ms); omega
        obtain ⟨m', ed, D⟩ := dfs_ok g 100 ((i : Int) / C) ((i : Int) % C) ms hl hcnt
        have hx : 0 ≤ (i : Int) / C ∧ (i : Int) / C < R := by rw [e1, g.er]; exact ⟨Int.natCast_nonneg _, Int.ofNat_lt.mpr hrun.1⟩
        have hy : 0 ≤ (i : Int) % C ∧ (i : Int) % C < C := by rw [e2, g.ec]; exact ⟨Int.natCast_nonneg _, Int.ofNat_lt.mpr hrun.2.1⟩
        have hi : (i : Int) = (i : Int) / C * C + (i : Int) % C := by rw [Int.mul_comm]; exact (Int.mul_ediv_add_emod _ _).symm
        obtain ⟨one, ho, hol, hor⟩ := reach_f g (show i < s.size by omega) hw
        have hin : ∀ j, m'.getD j false = true ↔ (ms.getD j false = true ∨ Rch s c s.size i j) := fun j => by
          constructor
          · intro hj
            rcases D.from_ j hj with h | ⟨i', _, _, h3, h4⟩
            · exact .inl h
            · have : i' = i := by rw [← hi] at h3; omega
              subst this; exact .inr h4
          · rintro (h | h)
            · exact D.up j h
            · induction h with
              | base _ hw => exact D.hit i hx hy hi hw
              | step hj hi' hw' hn ih =>
                rename_i j i'
                cases hms : ms.getD j false with
                | true => exact D.up i' (hcl j hms i' hi' hn hw')
                | false => exact D.shut j ih hms i' hi' hn hw'
        obtain ⟨ms', k1, k2, k3⟩ := parts_l3 (R := R) (C := C) (n := ((n + 1 : Nat) : Int)) hz hol (by omega : i < 100) s.size 0 ms (by omega) hl
        have hme : ms' = m' := eqD (by rw [k2, D.len]) (fun j hj => by
          rw [k3 j (by omega)]
          have := hin j
          rw [← hor j] at this
          rw [Bool.eq_iff_iff, this]
          simp only [Bool.or_eq_true, Bool.and_eq_true, decide_eq_true_eq, Nat.zero_le, true_and])
        subst hme
        obtain ⟨v, hv, hgo⟩ := parts_l1 g hg d (i + 1) (n + 1) ms' (by omega) (by omega) k2 (fun j hj j' hj' hn hw' => by
          cases hms : ms.getD j false with
          | true => exact D.up j' (hcl j hms j' hj' hn hw')
          | false => exact D.shut j hj hms j' hj' hn hw')
        refine ⟨v, start v (fun _ => ?_) (fun h => absurd hw h), by rw [ed, Option.bind_some]; rw [Int.natCast_add] at hgo; exact hgo⟩
        refine Ev.succ (fun k => by rw [spec_PartsOf.j3]) ?_
        refine Ev.pos (by simpa [rdOf] using hm') ?_
        rw [w64 (n := (n : Int) + 1) (by omega)]
        have := parts_l2 g hl (by omega) hw ho (k1 v hv) s.size 0 (by omega)
        rw [Int.natCast_add] at this
        exact this
    · rw [if_neg hw]
      obtain ⟨v, hv, hgo⟩ := parts_l1 g hg d (i + 1) n ms (by omega) (by omega) hl hcl
      exact ⟨v, start v (fun h => absurd h hw) (fun _ => skip v hv _ rfl), hgo⟩
theorem parts_l0 {R C : Int} {s : ByteArray} {q : Int} (hz : s.size ≤ 36) (h1 : Ev (fun k => spec_PartsOf.l1 k 0 (List.replicate s.size false) 0 R C s) q) : ∀ d j, j + d = s.size → Ev (fun k => spec_PartsOf.l0 k 0 (List.replicate j false) (j : Int) R C s) q
  | 0, j, h => by
    have : j = s.size := by omega
    subst this
    refine Ev.succ (fun k => by rw [spec_PartsOf.l0]) ?_
    exact Ev.neg (by omega) h1
  | d + 1, j, h => by
    have ih := parts_l0 hz h1 d (j + 1) (by omega)
    rw [Int.natCast_add, List.replicate_succ'] at ih
    refine Ev.succ (fun k => by rw [spec_PartsOf.l0]) ?_
    refine Ev.pos (by omega) (Ev.pos (by simp; omega) ?_)
    rw [w64 (by omega)]
    exact ih
theorem parts {R C : Int} {s : ByteArray} {r c : Nat} (g : Gr R C s r c) (hg : isG R C s = true) : ∃ v : Int, Ev (fun k => spec_PartsOf.f k R C s) v ∧ Ev (fun k => impl_PartsOf.f k R C s) v := by
  have hz : s.size ≤ 36 := by have := g.sz; have := g.mx; omega
  obtain ⟨v, hv, hgo⟩ := parts_l1 g hg s.size 0 0 (List.replicate s.size false) (by omega) (by omega) (by simp) (fun j hj => by
    simp only [List.getD_eq_getElem?_getD, List.getElem?_replicate] at hj
    split at hj <;> simp at hj)
  refine ⟨v, ?_, ?_⟩
  · unfold spec_PartsOf.f
    exact parts_l0 hz hv s.size 0 (by omega)
  · unfold impl_PartsOf.f
    exact Ev.bind (iIsGrid R C s) (Ev.pos hg (Ev.const hgo))
/-! ### turned grids, and a grid's form -/
theorem ba_ext {a b : ByteArray} (h : a.data.toList = b.data.toList) : a = b := by
  cases a; cases b
  simp only [ByteArray.mk.injEq]
  exact Array.toList_inj.mp h
theorem ex1 {s : ByteArray} {i : Nat} (h : i < s.size) : (s.extract i (i + 1)).data.toList = [s[i]] := by
  rw [ByteArray.data_extract]
  have h' : i < s.data.toList.length := h
  rw [Array.toList_extract, List.extract_eq_take_drop, Nat.add_sub_cancel_left, List.drop_eq_getElem_cons h', List.take_succ_cons, List.take_zero]
  rfl
theorem sBack_l0 {s : ByteArray} (hz : s.size ≤ 100) : ∀ d i (acc : ByteArray), i + d = s.size → acc.data.toList.length = i → ∃ q : ByteArray, Ev (fun k => spec_Backwards.l0 k s acc (i : Int)) q ∧ q.data.toList = (s.data.toList.drop i).reverse ++ acc.data.toList
  | 0, i, acc, h, ha => by
    refine ⟨acc, ?_, ?_⟩
    · refine Ev.succ (fun k => by rw [spec_Backwards.l0]) ?_
      exact Ev.neg (by omega) (Ev.pure _)
    · rw [List.drop_eq_nil_of_le (by show s.size ≤ i; omega)]; simp
  | d + 1, i, acc, h, ha => by
    have he := ex1 (s := s) (i := i) (by omega)
    have hd : (s.extract i (i + 1) ++ acc).data.toList = s[i] :: acc.data.toList := by
      rw [ByteArray.data_append, Array.toList_append, he]; rfl
    obtain ⟨q, k1, k2⟩ := sBack_l0 hz d (i + 1) (s.extract i (i + 1) ++ acc) (by omega) (by rw [hd]; simp [ha])
    refine ⟨q, ?_, ?_⟩
    · rw [Int.natCast_add] at k1
      refine Ev.succ (fun k => by rw [spec_Backwards.l0]) ?_
      rw [w64 (by omega)]
      have t1 : ((i : Int) + 1).toNat = i + 1 := by omega
      refine Ev.pos (by omega) (Ev.pos (by omega) (Ev.pos (by omega) (Ev.pos (by omega) (Ev.pos (by omega) (Ev.pos ?_ ?_)))))
      · rw [t1, Int.toNat_natCast]
        have h1 : (s.extract i (i + 1)).size = 1 := congrArg List.length he
        have h2 : acc.size = i := ha
        omega
      · rw [t1, Int.toNat_natCast]; exact k1
    · rw [k2, hd, List.drop_eq_getElem_cons (show i < s.data.toList.length from by show i < s.size; omega), List.reverse_cons, List.append_assoc]
      rfl
theorem sBack {s : ByteArray} (hz : s.size ≤ 100) : Ev (fun k => spec_Backwards.f k s) (strOfNums (bytesOf s).reverse) := by
  obtain ⟨q, k1, k2⟩ := sBack_l0 hz s.size 0 ⟨#[]⟩ (by omega) rfl
  unfold spec_Backwards.f
  refine k1.eq (ba_ext ?_)
  rw [k2]
  unfold strOfNums bytesOf
  simp [Function.comp_def]
theorem symm {R C : Int} {s : ByteArray} {r c : Nat} (g : Gr R C s r c) (hg : isG R C s = true) : ∃ b : Bool, Ev (fun k => spec_IsSymmetric.f k R C s) b ∧ Ev (fun k => impl_IsSymmetric.f k R C s) b := by
  have hz : s.size ≤ 36 := by have := g.sz; have := g.mx; omega
  refine ⟨(R == R && (C == C && ((strOfNums (bytesOf s).reverse).toList == s.toList))), ?_, ?_⟩
  · unfold spec_IsSymmetric.f spec_TurnGrid.f
    exact Ev.bind (sIsGrid R C s) (Ev.pos hg (Ev.bind (Ev.bind (sIsGrid R C s) (Ev.pos hg (Ev.bind (sBack (by omega)) (Ev.pure _)))) (Ev.pure _)))
  · unfold impl_IsSymmetric.f impl_TurnGrid.f
    refine Ev.bind (iIsGrid R C s) (Ev.pos hg (Ev.bind (Ev.bind (iIsGrid R C s) (Ev.pos hg (Ev.bind (Ev.const (by unfold impl_Backwards.f; rw [if_neg (by omega)])) (Ev.pure _)))) ((Ev.pure _).eq ?_)))
    simp [BEq.comm]
/-- The form of a grid is the same. -/
theorem form (R C : Int) (s : ByteArray) : ∃ v : Int, Ev (fun k => spec_FormOf.f k R C s) v ∧ Ev (fun k => impl_FormOf.f k R C s) v ∧ (v = 0 → isG R C s = true) := by
  unfold spec_FormOf.f impl_FormOf.f
  cases hg : isG R C s with
  | false =>
    refine ⟨1, Ev.bind (sIsGrid R C s) (Ev.neg (by simp [hg]) (Ev.pure _)), Ev.bind (iIsGrid R C s) (Ev.neg (by simp [hg]) (Ev.pure _)), by decide⟩
  | true =>
    obtain ⟨r, c, g⟩ := isG_gr hg
    have hl := slots_len (r := r) (c := c) (s := s)
    have hz : s.size ≤ 36 := by have := g.sz; have := g.mx; omega
    obtain ⟨b, b1, b2⟩ := symm g hg
    obtain ⟨v, v1, v2⟩ := parts g hg
    cases b with
    | false =>
      exact ⟨2, Ev.bind (sIsGrid R C s) (Ev.pos hg (Ev.bind b1 (Ev.neg (by decide) (Ev.pure _)))), Ev.bind (iIsGrid R C s) (Ev.pos hg (Ev.bind b2 (Ev.neg (by decide) (Ev.pure _)))), fun _ => rfl⟩
    | true =>
      by_cases hv : v = 1
      · subst hv
        refine ⟨if (slots r c s).any (fun x => decide (x.f3 < 3)) = true then 4 else if (unAny (layoutN r c s) (slots r c s) 0 || loneF s (layoutN r c s) s.size 0) = true then 5 else 0, Ev.bind (sIsGrid R C s) (Ev.pos hg (Ev.bind b1 ?_)), ?_, fun _ => rfl⟩
        · refine Ev.pos rfl ?_
          unfold spec_IsConnected.f spec_l10Short.f
          refine Ev.bind (Ev.bind v1 (Ev.pure _)) (Ev.pos (by decide) ?_)
          have hsh := sShort_l0 (xs := slots r c s) (by omega) (slots r c s).length 0 (by omega)
          refine Ev.bind (Ev.bind (sSlotsOf g hg) hsh) ?_
          rw [List.drop_zero]
          refine Ev.ite (fun h => ?_) (fun h => ?_)
          · rw [if_pos h]; exact Ev.pure _
          · rw [if_neg h]
            refine Ev.bind (sAlone g hg) ?_
            refine Ev.ite (fun h => ?_) (fun h => ?_)
            · rw [if_pos h]; exact Ev.pure _
            · rw [if_neg h]; exact Ev.pure _
        · refine Ev.bind (iIsGrid R C s) (Ev.pos hg (Ev.bind b2 (Ev.pos rfl ?_)))
          unfold impl_IsConnected.f
          refine Ev.bind (Ev.bind v2 (Ev.pure _)) (Ev.pos (by decide) ?_)
          refine Ev.bind (iSlotsOf g hg) ?_
          exact iForm_l0 g hg (slots r c s).length 0 (by omega)
      · refine ⟨3, Ev.bind (sIsGrid R C s) (Ev.pos hg (Ev.bind b1 (Ev.pos rfl ?_))), Ev.bind (iIsGrid R C s) (Ev.pos hg (Ev.bind b2 (Ev.pos rfl ?_))), fun _ => rfl⟩
        · unfold spec_IsConnected.f
          exact Ev.bind (Ev.bind v1 (Ev.pure _)) (Ev.neg (by simpa using hv) (Ev.pure _))
        · unfold impl_IsConnected.f
          exact Ev.bind (Ev.bind v2 (Ev.pure _)) (Ev.neg (by simpa using hv) (Ev.pure _))
/-! ### fills -/
theorem isLetter_eq (a : Int) : impl_isLetter.f a = some (decide (97 ≤ a ∧ a ≤ 122)) := by
  unfold impl_isLetter.f
  by_cases h : a ≥ 97
  · rw [if_pos h]; congr 1; simp; omega
  · rw [if_neg h]; congr 1; simp; omega
def fillC (s f : ByteArray) : Nat → Nat → Bool
  | 0, _ => true
  | d + 1, i => if (bt s (i : Int) = 35 → bt f (i : Int) = 35) ∧ (bt s (i : Int) ≠ 35 → (bt f (i : Int) = 63 ∨ (97 ≤ bt f (i : Int) ∧ bt f (i : Int) ≤ 122))) then fillC s f d (i + 1) else false
theorem sFill_l0 {R C : Int} {s f : ByteArray} {r c : Nat} (g : Gr R C s r c) (hf : f.size = s.size) : ∀ d i, i + d = s.size → Ev (fun k => spec_IsFill.l0 k f (i : Int) R C s) (fillC s f d i)
  | 0, i, h => by
    refine Ev.succ (fun k => by rw [spec_IsFill.l0]) ?_
    exact Ev.neg (by omega) (Ev.pure _)
  | d + 1, i, h => by
    have hz : s.size ≤ 36 := by have := g.sz; have := g.mx; omega
    have ho := g.ok i (by omega)
    have ih := sFill_l0 g hf d (i + 1) (by omega)
    rw [Int.natCast_add] at ih
    refine Ev.succ (fun k => by rw [spec_IsFill.l0]) ?_
    rw [w64 (by omega)]
    unfold fillC
    refine Ev.pos (by omega) (Ev.pos (by omega) ?_)
    generalize bt s (i : Int) = a at ho ⊢
    generalize bt f (i : Int) = b
    repeat' refine Ev.ite (fun h => ?_) (fun h => ?_)
    all_goals first | exact ih.eq (if_pos (by omega)).symm | exact (Ev.pure false).eq (if_neg (by omega)).symm | (exfalso; omega)
theorem bne35 {a b : Int} : (((a == 35) != (b == 35)) = true) ↔ ¬ (a = 35 ↔ b = 35) := by
  rw [bne_iff_ne, ne_eq, Bool.eq_iff_iff]
  simp only [beq_iff_eq]
theorem iFill_l0 {R C : Int} {s f : ByteArray} {r c : Nat} (g : Gr R C s r c) (hf : f.size = s.size) : ∀ d i, i + d = s.size → Ev (fun k => impl_IsFill.l0 k f (f.size : Int) (i : Int) R C s) (fillC s f d i)
  | 0, i, h => by
    refine Ev.succ (fun k => by rw [impl_IsFill.l0]) ?_
    exact Ev.neg (by omega) (Ev.pure _)
  | d + 1, i, h => by
    have hz : s.size ≤ 36 := by have := g.sz; have := g.mx; omega
    have ho := g.ok i (by omega)
    have ih := iFill_l0 g hf d (i + 1) (by omega)
    rw [Int.natCast_add] at ih
    refine Ev.succ (fun k => by rw [impl_IsFill.l0]) ?_
    rw [w64 (by omega)]
    unfold fillC
    refine Ev.pos (by omega) (Ev.pos (by omega) (Ev.pos (by omega) (Ev.pos (by omega) ?_)))
    simp only [isLetter_eq, Option.bind_some, decide_eq_true_eq, bne35]
    generalize bt s (i : Int) = a at ho ⊢
    generalize bt f (i : Int) = b
    repeat' refine Ev.ite (fun h => ?_) (fun h => ?_)
    all_goals first | exact ih.eq (if_pos (by omega)).symm | exact (Ev.pure false).eq (if_neg (by omega)).symm | (exfalso; omega)
def isF (R C : Int) (s f : ByteArray) : Bool := isG R C s && (decide (f.size = s.size) && fillC s f s.size 0)
theorem sFill (R C : Int) (s f : ByteArray) : Ev (fun k => spec_IsFill.f k R C s f) (isF R C s f) := by
  unfold spec_IsFill.f isF
  refine Ev.bind (sIsGrid R C s) ?_
  cases hg : isG R C s with
  | false =>
    refine Ev.neg (by decide) (Ev.succ (fun k => by rw [spec_IsFill.j0]) ?_)
    exact Ev.pos rfl (Ev.pure _)
  | true =>
    obtain ⟨r, c, g⟩ := isG_gr hg
    refine Ev.pos rfl (Ev.succ (fun k => by rw [spec_IsFill.j0]) ?_)
    by_cases hf : f.size = s.size
    · refine Ev.neg (by simp; omega) ?_
      have := sFill_l0 g hf s.size 0 (by omega)
      simpa [hf] using this
    · refine Ev.pos (by simp; omega) ((Ev.pure _).eq (by simp [hf]))
theorem iFill (R C : Int) (s f : ByteArray) : Ev (fun k => impl_IsFill.f k R C s f) (isF R C s f) := by
  unfold impl_IsFill.f isF
  refine Ev.bind (iIsGrid R C s) ?_
  cases hg : isG R C s with
  | false =>
    refine Ev.neg (by decide) (Ev.succ (fun k => by rw [impl_IsFill.j0]) ?_)
    exact Ev.pos rfl (Ev.pure _)
  | true =>
    obtain ⟨r, c, g⟩ := isG_gr hg
    refine Ev.pos rfl (Ev.succ (fun k => by rw [impl_IsFill.j0]) ?_)
    by_cases hf : f.size = s.size
    · refine Ev.neg (by simp; omega) ?_
      have := iFill_l0 g hf s.size 0 (by omega)
      simpa [hf] using this
    · refine Ev.pos (by simp; omega) ((Ev.pure _).eq (by simp [hf]))
/-! ### open cells -/
def openC (f : ByteArray) : Nat → Nat → Bool
  | 0, _ => false
  | d + 1, i => if bt f (i : Int) = 63 then true else openC f d (i + 1)
theorem sOpen_l0 {f : ByteArray} (hz : f.size ≤ 100000) : ∀ d i, i + d = f.size → Ev (fun k => spec_l11Open.l0 k f (i : Int)) (openC f d i)
  | 0, i, h => by
    refine Ev.succ (fun k => by rw [spec_l11Open.l0]) ?_
    exact Ev.neg (by omega) (Ev.pure _)
  | d + 1, i, h => by
    have ih := sOpen_l0 hz d (i + 1) (by omega)
    rw [Int.natCast_add] at ih
    refine Ev.succ (fun k => by rw [spec_l11Open.l0]) ?_
    rw [w64 (by omega)]
    unfold openC
    refine Ev.pos (by omega) (Ev.pos (by omega) ?_)
    refine Ev.ite (fun h => ?_) (fun h => ?_)
    · exact (Ev.pure _).eq (if_pos h).symm
    · exact ih.eq (if_neg h).symm
theorem iOpen_l0 {f : ByteArray} (hz : f.size ≤ 100000) : ∀ d i (n : Nat), i + d = f.size → n ≤ i → ∃ v : Nat, Ev (fun k => impl_openIn.l0 k f (n : Int) (f.size : Int) (i : Int)) (v : Int) ∧ n ≤ v ∧ (v = n ↔ openC f d i = false)
  | 0, i, n, h, hn => by
    refine ⟨n, ?_, Nat.le_refl _, by simp [openC]⟩
    refine Ev.succ (fun k => by rw [impl_openIn.l0]) ?_
    exact Ev.neg (by omega) (Ev.pure _)
  | d + 1, i, n, h, hn => by
    by_cases e : bt f (i : Int) = 63
    · obtain ⟨v, h1, h2, h3⟩ := iOpen_l0 hz d (i + 1) (n + 1) (by omega) (by omega)
      rw [Int.natCast_add, Int.natCast_add] at h1
      refine ⟨v, ?_, by omega, ?_⟩
      · refine Ev.succ (fun k => by rw [impl_openIn.l0]) ?_
        refine Ev.pos (by omega) (Ev.pos (by omega) (Ev.pos (by omega) (Ev.pos e ?_)))
        rw [w64 (n := (n : Int) + 1) (by omega), w64 (n := (i : Int) + 1) (by omega)]
        exact h1
      · unfold openC
        rw [if_pos e]
        exact ⟨fun h => by omega, fun h => by cases h⟩
    · obtain ⟨v, h1, h2, h3⟩ := iOpen_l0 hz d (i + 1) n (by omega) (by omega)
      rw [Int.natCast_add] at h1
      refine ⟨v, ?_, by omega, ?_⟩
      · refine Ev.succ (fun k => by rw [impl_openIn.l0]) ?_
        refine Ev.pos (by omega) (Ev.pos (by omega) (Ev.pos (by omega) (Ev.neg e ?_)))
        rw [w64 (n := (i : Int) + 1) (by omega)]
        exact h1
      · unfold openC
        rw [if_neg e]
        exact h3
theorem full (R C : Int) (s f : ByteArray) : ∃ b : Bool, Ev (fun k => spec_IsFull.f k R C s f) b ∧ Ev (fun k => impl_IsFull.f k R C s f) b ∧ (b = true → isF R C s f = true) := by
  unfold spec_IsFull.f impl_IsFull.f
  cases hF : isF R C s f with
  | false => exact ⟨false, Ev.bind (sFill R C s f) (Ev.neg (by simp [hF]) (Ev.pure _)), Ev.bind (iFill R C s f) (Ev.neg (by simp [hF]) (Ev.pure _)), by decide⟩
  | true =>
    have hz : f.size ≤ 100000 := by
      have h := hF
      unfold isF at h
      simp only [Bool.and_eq_true, decide_eq_true_eq] at h
      obtain ⟨r, c, g⟩ := isG_gr h.1
      have := g.sz; have := g.mx; omega
    obtain ⟨v, h1, h2, h3⟩ := iOpen_l0 hz f.size 0 0 (by omega) (by omega)
    refine ⟨!openC f f.size 0, Ev.bind (sFill R C s f) (Ev.pos hF ?_), Ev.bind (iFill R C s f) (Ev.pos hF ?_), fun _ => rfl⟩
    · unfold spec_l11Open.f
      exact Ev.bind (sOpen_l0 hz f.size 0 (by omega)) (Ev.pure _)
    · unfold impl_openIn.f
      refine Ev.bind h1 ((Ev.pure _).eq ?_)
      rw [Bool.eq_iff_iff]
      simp only [beq_iff_eq, Bool.not_eq_true']
      rw [← h3]
      omega
/-! ### words -/
def wordC (f : ByteArray) : Nat → Nat → Bool
  | 0, _ => true
  | d + 1, i => if 97 ≤ bt f (i : Int) ∧ bt f (i : Int) ≤ 122 then wordC f d (i + 1) else false
def isW (f : ByteArray) : Bool := decide (1 ≤ (f.size : Int) ∧ (f.size : Int) ≤ 8) && wordC f f.size 0
theorem isW_size {f : ByteArray} (h : isW f = true) : 1 ≤ f.size ∧ f.size ≤ 8 := by
  unfold isW at h
  simp only [Bool.and_eq_true, decide_eq_true_eq] at h
  omega
theorem sWord_l0 {f : ByteArray} (hz : f.size ≤ 8) : ∀ d i, i + d = f.size → Ev (fun k => spec_IsWord.l0 k f (i : Int)) (wordC f d i)
  | 0, i, h => by
    refine Ev.succ (fun k => by rw [spec_IsWord.l0]) ?_
    exact Ev.neg (by omega) (Ev.pure _)
  | d + 1, i, h => by
    have ih := sWord_l0 hz d (i + 1) (by omega)
    rw [Int.natCast_add] at ih
    refine Ev.succ (fun k => by rw [spec_IsWord.l0]) ?_
    rw [w64 (by omega)]
    unfold wordC
    refine Ev.pos (by omega) (Ev.pos (by omega) ?_)
    repeat' refine Ev.ite (fun h => ?_) (fun h => ?_)
    all_goals first | exact ih.eq (if_pos (by omega)).symm | exact (Ev.pure false).eq (if_neg (by omega)).symm
theorem iWord_l0 {f : ByteArray} (hz : f.size ≤ 8) : ∀ d i, i + d = f.size → Ev (fun k => impl_IsWord.l0 k f (f.size : Int) (i : Int)) (wordC f d i)
  | 0, i, h => by
    refine Ev.succ (fun k => by rw [impl_IsWord.l0]) ?_
    exact Ev.neg (by omega) (Ev.pure _)
  | d + 1, i, h => by
    have ih := iWord_l0 hz d (i + 1) (by omega)
    rw [Int.natCast_add] at ih
    refine Ev.succ (fun k => by rw [impl_IsWord.l0]) ?_
    rw [w64 (by omega)]
    unfold wordC
    refine Ev.pos (by omega) (Ev.pos (by omega) (Ev.pos (by omega) ?_))
    simp only [isLetter_eq, Option.bind_some, decide_eq_true_eq]
    refine Ev.ite (fun h => ?_) (fun h => ?_)
    · exact ih.eq (if_pos h).symm
    · exact (Ev.pure _).eq (if_neg h).symm
theorem sWord (f : ByteArray) : Ev (fun k => spec_IsWord.f k f) (isW f) := by
  unfold spec_IsWord.f isW
  simp only [l1In_eq, Option.bind_some, decide_eq_true_eq]
  refine Ev.ite (fun h => ?_) (fun h => ?_)
  · simp only [h, and_self, decide_true, Bool.true_and]
    exact sWord_l0 (by omega) f.size 0 (by omega)
  · simp only [h, decide_false, Bool.false_and]
    exact Ev.pure _
theorem iWord (f : ByteArray) : Ev (fun k => impl_IsWord.f k f) (isW f) := by
  unfold impl_IsWord.f isW
  simp only [InRange_eq, Option.bind_some, decide_eq_true_eq]
  refine Ev.ite (fun h => ?_) (fun h => ?_)
  · simp only [h, and_self, decide_true, Bool.true_and]
    exact iWord_l0 (by omega) f.size 0 (by omega)
  · simp only [h, decide_false, Bool.false_and]
    exact Ev.pure _
/-! ### wordplay -/
theorem rdS {xs : List S121} {i : Nat} (h : i < xs.length) : rd_T121 xs (i : Int) = xs[i] := by
  unfold rd_T121; simp [List.getD_eq_getElem?_getD, List.getElem?_eq_getElem h]
/-- one step of a wordplay is right -/
def stepP (l : List S121) (i : Nat) (x : S121) : Prop :=
  (1 ≤ x.f0 ∧ x.f0 ≤ 9) ∧ ((x.f0 = 1 ∧ isW x.f1 = true ∧ x.f2 = 0 ∧ x.f3 = 0) ∨
    (x.f0 ≠ 1 ∧ x.f1.toList = [] ∧ (0 ≤ x.f2 ∧ x.f2 < i) ∧ (((x.f0 = 4 ∨ x.f0 = 5) ∧ 0 ≤ x.f3 ∧ x.f3 < i) ∨ (¬ (x.f0 = 4 ∨ x.f0 = 5) ∧ x.f3 = 0 ∧ (x.f0 = 2 ∨ (rd_T121 l x.f2).f0 = 1)))))
instance stepD (l : List S121) (i : Nat) (x : S121) : Decidable (stepP l i x) := by unfold stepP; infer_instance
theorem isW_empty {f : ByteArray} (h : f.toList = []) : isW f = false := by
  cases hw : isW f with
  | false => rfl
  | true =>
    have := isW_size hw
    have hl : f.toList.length = f.size := by rw [Go.ByteArray.toList_eq]; rfl
    rw [h] at hl
    simp at hl
    omega
theorem sOk_j1 {l : List S121} {i : Nat} (hi : i < 100) (hl : i < l.length) {two : Bool} {k0 A B : Int} {w : ByteArray} (ht : two = true ↔ (k0 = 4 ∨ k0 = 5)) :
    Ev (fun k => spec_l15Ok.j1 k l (i : Int) two k0 w A B) (decide ((k0 = 1 ∧ A = 0 ∧ B = 0) ∨ (k0 ≠ 1 ∧ (0 ≤ A ∧ A < i) ∧ (((k0 = 4 ∨ k0 = 5) ∧ 0 ≤ B ∧ B < i) ∨ (¬ (k0 = 4 ∨ k0 = 5) ∧ B = 0 ∧ (k0 = 2 ∨ (rd_T121 l A).f0 = 1)))))) := by
  refine Ev.succ (fun k => by rw [spec_l15Ok.j1]) ?_
  rw [w64 (by omega)]
  simp only [l1In_eq, Option.bind_some, decide_eq_true_eq, ht]
  generalize (rd_T121 l A).f0 = K
  repeat' refine Ev.ite (fun h => ?_) (fun h => ?_)
  all_goals first
    | (exfalso; omega)
    | (refine (Ev.pure _).eq ?_; rw [Bool.eq_iff_iff]; simp only [beq_iff_eq, decide_eq_true_eq, true_iff, false_iff, Bool.false_eq_true, iff_true, iff_false]; omega)
theorem sOk {l : List S121} {i : Nat} (hi : i < 100) (hl : i < l.length) : Ev (fun k => spec_l15Ok.f k l (i : Int)) (decide (stepP l i l[i])) := by
  unfold spec_l15Ok.f
  refine Ev.pos (by omega) (Ev.pos (by omega) ?_)
  rw [rdS hl]
  simp only [l1In_eq, Option.bind_some, decide_eq_true_eq]
  generalize l[i] = x
  have j0 : ∀ (b : Bool), Ev (fun k => spec_l15Ok.j0 k l (i : Int) b x.f0 x.f1 x.f2 x.f3) (if b = true then false else decide ((x.f0 = 1 ∧ x.f2 = 0 ∧ x.f3 = 0) ∨ (x.f0 ≠ 1 ∧ (0 ≤ x.f2 ∧ x.f2 < i) ∧ (((x.f0 = 4 ∨ x.f0 = 5) ∧ 0 ≤ x.f3 ∧ x.f3 < i) ∨ (¬ (x.f0 = 4 ∨ x.f0 = 5) ∧ x.f3 = 0 ∧ (x.f0 = 2 ∨ (rd_T121 l x.f2).f0 = 1)))))) := by
    intro b
    refine Ev.succ (fun k => by rw [spec_l15Ok.j0]) ?_
    cases b with
    | true => exact Ev.pos rfl (Ev.pure _)
    | false =>
      refine Ev.neg (by decide) ?_
      by_cases h4 : x.f0 = 4
      · exact Ev.pos h4 (sOk_j1 hi hl (by simp [h4]))
      · exact Ev.neg h4 (sOk_j1 hi hl (by simp [h4]))
  by_cases hk : 1 ≤ x.f0 ∧ x.f0 ≤ 9
  · refine Ev.pos hk (Ev.bind (sWord x.f1) ?_)
    by_cases h1 : x.f0 = 1
    · cases hw : isW x.f1 with
      | true =>
        refine Ev.neg (by simp [h1]) (Ev.pos h1 ((j0 false).eq ?_))
        rw [if_neg (by decide), Bool.eq_iff_iff]
        simp only [decide_eq_true_eq, stepP, hw, true_and]
        omega
      | false =>
        refine Ev.pos (by simp [h1]) ((j0 true).eq ?_)
        rw [if_pos rfl]
        simp [stepP, hw, h1]
    · cases hw : isW x.f1 with
      | true =>
        have hE : ¬ x.f1.toList = [] := fun h => by rw [isW_empty h] at hw; cases hw
        refine Ev.pos (by simp [h1]) ((j0 true).eq ?_)
        rw [if_pos rfl]
        simp [stepP, hE, h1]
      | false =>
        refine Ev.neg (by simp [h1]) (Ev.neg h1 ((j0 _).eq ?_))
        by_cases hE : x.f1.toList = []
        · rw [if_neg (by simp [hE]), Bool.eq_iff_iff]
          simp only [decide_eq_true_eq, stepP, hw, hE, true_and, Bool.false_eq_true, false_and, and_false, false_or]
          omega
        · rw [if_pos (by simpa using hE)]
          simp [stepP, hE, h1]
  · refine Ev.neg hk ((j0 true).eq ?_)
    rw [if_pos rfl]
    simp only [stepP, hk, false_and, decide_false]
def playC (l : List S121) : Nat → Nat → Bool
  | 0, _ => true
  | d + 1, i => if h : i < l.length then (if stepP l i l[i] then playC l d (i + 1) else false) else false
def playV (l : List S121) : Bool := decide (1 ≤ (l.length : Int) ∧ (l.length : Int) ≤ 9) && playC l l.length 0
theorem sPlay_l0 {l : List S121} (h9 : 1 ≤ l.length ∧ l.length ≤ 9) : ∀ d i, i + d = l.length → Ev (fun k => spec_IsPlay.l0 k l (i : Int)) (playC l d i)
  | 0, i, h => by
    refine Ev.succ (fun k => by rw [spec_IsPlay.l0]) ?_
    refine Ev.neg (by omega) (Ev.succ (fun k => by rw [spec_IsPlay.j1]) ?_)
    refine Ev.neg (by decide) ?_
    simp only [l1In_eq, Option.bind_some]
    exact (Ev.pure _).eq (by simp [playC]; omega)
  | d + 1, i, h => by
    have ih := sPlay_l0 h9 d (i + 1) (by omega)
    rw [Int.natCast_add] at ih
    refine Ev.succ (fun k => by rw [spec_IsPlay.l0]) ?_
    refine Ev.pos (by omega) (Ev.succ (fun k => by rw [spec_IsPlay.j1]) ?_)
    refine Ev.pos (by simp; omega) (Ev.bind (sOk (by omega) (by omega)) ?_)
    rw [w64 (by omega)]
    unfold playC
    rw [dif_pos (show i < l.length by omega)]
    refine Ev.ite (fun h => ?_) (fun h => ?_)
    · exact ih.eq (if_pos (by simpa using h)).symm
    · exact (Ev.pure _).eq (if_neg (by simpa using h)).symm
theorem sPlay (l : List S121) : Ev (fun k => spec_IsPlay.f k l) (playV l) := by
  unfold spec_IsPlay.f playV
  by_cases h9 : 1 ≤ l.length ∧ l.length ≤ 9
  · have := sPlay_l0 h9 l.length 0 (by omega)
    exact this.eq (by simp; intro; omega)
  · have e : decide (1 ≤ (l.length : Int) ∧ (l.length : Int) ≤ 9) = false := by simp; omega
    rw [e, Bool.false_and]
    have j : ∀ b : Bool, b = false → Ev (fun k => spec_IsPlay.j1 k l 0 b) false := by
      rintro b rfl
      refine Ev.succ (fun k => by rw [spec_IsPlay.j1]) ?_
      refine Ev.neg (by decide) ?_
      simp only [l1In_eq, Option.bind_some, e]
      exact Ev.pure _
    refine Ev.succ (fun k => by rw [spec_IsPlay.l0]) ?_
    exact Ev.ite (fun h => j _ (by simp; omega)) (fun h => j _ rfl)
theorem needs_eq (a : Int) : impl_needsWord.f a = some (decide (a = 3 ∨ a ≥ 6)) := by
  unfold impl_needsWord.f
  by_cases h : a = 3 <;> simp [h]
theorem pair_eq (a : Int) : impl_isPair.f a = some (decide (a = 4 ∨ a = 5)) := by
  unfold impl_isPair.f
  by_cases h : a = 4
  · simp [h]
  · rw [if_neg h]; congr 1; rw [Bool.eq_iff_iff]; simp [h]
theorem iPlay_j1 {l : List S121} {i : Nat} (hi : i < 100) {b : Bool} {k0 A B : Int} {w : ByteArray} {n : Int} {q : Bool}
    (hq : (b = false ∧ (((k0 = 4 ∨ k0 = 5) ∧ 0 ≤ B ∧ B < i) ∨ (¬ (k0 = 4 ∨ k0 = 5) ∧ B = 0))) → Ev (fun k => impl_IsPlay.l0 k l l n ((i + 1 : Nat) : Int)) q) (hn : ¬ (b = false ∧ (((k0 = 4 ∨ k0 = 5) ∧ 0 ≤ B ∧ B < i) ∨ (¬ (k0 = 4 ∨ k0 = 5) ∧ B = 0))) → q = false) :
    Ev (fun k => impl_IsPlay.j1 k l (i : Int) l n (i : Int) b k0 w A B) q := by
  refine Ev.succ (fun k => by rw [impl_IsPlay.j1]) ?_
  rw [Int.natCast_add] at hq
  rw [w64 (by omega)]
  simp only [pair_eq, at_eq, Option.bind_some, decide_eq_true_eq]
  cases b with
  | true => exact Ev.pos rfl ((Ev.pure _).eq (hn (by simp)).symm)
  | false =>
    refine Ev.neg (by decide) ?_
    simp only [true_and] at hq hn
    repeat' refine Ev.ite (fun h => ?_) (fun h => ?_)
    all_goals first
      | exact hq (by omega)
      | exact (Ev.pure _).eq (hn (by omega)).symm
theorem iPlay_l0 {l : List S121} (h9 : l.length ≤ 9) : ∀ d i, i + d = l.length → Ev (fun k => impl_IsPlay.l0 k l l (l.length : Int) (i : Int)) (playC l d i)
  | 0, i, h => by
    refine Ev.succ (fun k => by rw [impl_IsPlay.l0]) ?_
    exact Ev.neg (by omega) (Ev.pure _)
  | d + 1, i, h => by
    have ih := iPlay_l0 h9 d (i + 1) (by omega)
    refine Ev.succ (fun k => by rw [impl_IsPlay.l0]) ?_
    refine Ev.pos (by omega) (Ev.pos (by omega) (Ev.pos (by omega) ?_))
    rw [rdS (by omega)]
    unfold playC
    rw [dif_pos (show i < l.length by omega)]
    simp only [InRange_eq, needs_eq, at_eq, Option.bind_some, decide_eq_true_eq]
    generalize l[i] = x
    by_cases hk : 1 ≤ x.f0 ∧ x.f0 ≤ 9
    · refine Ev.pos hk ?_
      by_cases h1 : x.f0 = 1
      · refine Ev.pos h1 (Ev.bind (iWord x.f1) ?_)
        rw [Int.natCast_add] at ih
        rw [w64 (by omega)]
        cases hw : isW x.f1 with
        | true =>
          refine Ev.pos rfl ?_
          repeat' refine Ev.ite (fun h => ?_) (fun h => ?_)
          all_goals first
            | exact ih.eq (if_pos (by simp only [stepP, hw, true_and]; omega)).symm
            | exact (Ev.pure _).eq (if_neg (by simp only [stepP, hw, true_and]; omega)).symm
        | false => exact Ev.neg (by decide) ((Ev.pure _).eq (if_neg (by simp [stepP, hw, h1])).symm)
      · refine Ev.neg h1 ?_
        by_cases hE : x.f1.toList = []
        · refine Ev.pos hE ?_
          have fin : ∀ b : Bool, (b = false ↔ ((0 ≤ x.f2 ∧ x.f2 < i) ∧ (x.f0 = 2 ∨ x.f0 = 4 ∨ x.f0 = 5 ∨ (rd_T121 l x.f2).f0 = 1))) → Ev (fun k => impl_IsPlay.j1 k l (i : Int) l (l.length : Int) (i : Int) b x.f0 x.f1 x.f2 x.f3) (if stepP l i x then playC l d (i + 1) else false) := by
            intro b hb
            refine iPlay_j1 (by omega) (fun h => ih.eq (if_pos ?_).symm) (fun h => if_neg ?_)
            · rw [hb] at h
              simp only [stepP, hE, true_and]
              omega
            · rw [hb] at h
              simp only [stepP, hE, true_and]
              omega
          by_cases hA : 0 ≤ x.f2 ∧ x.f2 < (i : Int)
          · refine Ev.pos hA ?_
            by_cases hn : x.f0 = 3 ∨ x.f0 ≥ 6
            · refine Ev.pos hn (Ev.pos (by omega) (Ev.pos (by omega) (fin _ ?_)))
              simp only [bne_eq_false_iff_eq]
              omega
            · refine Ev.neg hn (fin _ ?_)
              simp only [true_iff]
              omega
          · refine Ev.neg hA (fin _ ?_)
            simp only [Bool.true_eq_false, false_iff]
            omega
        · exact Ev.neg hE (iPlay_j1 (by omega) (fun h => by cases h.1) (fun _ => if_neg (by simp [stepP, hE, h1])))
    · exact Ev.neg hk ((Ev.pure _).eq (if_neg (by simp only [stepP, hk, false_and, not_false_eq_true])).symm)
theorem iPlay (l : List S121) : Ev (fun k => impl_IsPlay.f k l) (playV l) := by
  unfold impl_IsPlay.f playV
  simp only [InRange_eq, Option.bind_some, decide_eq_true_eq]
  refine Ev.ite (fun h => ?_) (fun h => ?_)
  · simp only [h, and_self, decide_true, Bool.true_and]
    exact iPlay_l0 (by omega) l.length 0 (by omega)
  · simp only [h, decide_false, Bool.false_and]
    exact Ev.pure _
def clueV (a : Int) (l : List S121) : Bool := decide (1 ≤ a ∧ a ≤ 99) && playV l
theorem sClue (a : Int) (l : List S121) : Ev (fun k => spec_IsClue.f k a l) (clueV a l) := by
  unfold spec_IsClue.f clueV
  simp only [l1In_eq, Option.bind_some, decide_eq_true_eq]
  refine Ev.ite (fun h => ?_) (fun h => ?_)
  · exact Ev.bind (sPlay l) ((Ev.pure _).eq (by simp [h]))
  · exact (Ev.pure _).eq (by simp only [h, decide_false, Bool.false_and])
theorem iClue (a : Int) (l : List S121) : Ev (fun k => impl_IsClue.f k a l) (clueV a l) := by
  unfold impl_IsClue.f clueV
  simp only [InRange_eq, Option.bind_some, decide_eq_true_eq]
  refine Ev.ite (fun h => ?_) (fun h => ?_)
  · exact Ev.bind (iPlay l) ((Ev.pure _).eq (by simp [h]))
  · exact (Ev.pure _).eq (by simp only [h, decide_false, Bool.false_and])
/-! ### corrections -/
theorem rdD {xs : List S91} {i : Nat} (h : i < xs.length) : rd_T91 xs (i : Int) = xs[i] := by
  unfold rd_T91; simp [List.getD_eq_getElem?_getD, List.getElem?_eq_getElem h]
def stV (l : List S91) (i : Nat) : Bool := decide (1 ≤ (rd_T91 l (i : Int)).f0 ∧ (rd_T91 l (i : Int)).f0 ≤ 999) && (decide (0 ≤ (rd_T91 l (i : Int)).f1 ∧ (rd_T91 l (i : Int)).f1 ≤ 99) && (clueV (rd_T91 l (i : Int)).f2.f0 (rd_T91 l (i : Int)).f2.f1 && (decide (0 ≤ (rd_T91 l (i : Int)).f3 ∧ (rd_T91 l (i : Int)).f3 ≤ 1000) && !(decide ((i : Int) > 0) && decide ((rd_T91 l ((i : Int) - 1)).f3 > (rd_T91 l (i : Int)).f3)))))
def corF (l : List S91) : Nat → Nat → Bool
  | 0, _ => true
  | d + 1, i => if stV l i = true then corF l d (i + 1) else false
theorem corF_at {l : List S91} : ∀ d i, corF l d i = true → ∀ j, i ≤ j → j < i + d → stV l j = true
  | 0, i, _, j, h1, h2 => by omega
  | d + 1, i, h, j, h1, h2 => by
    unfold corF at h
    by_cases e : stV l i = true
    · rw [if_pos e] at h
      by_cases e2 : j = i
      · subst e2; exact e
      · exact corF_at d (i + 1) h j (by omega) (by omega)
    · rw [if_neg e] at h; cases h
theorem sCor_l0 {l : List S91} (hl : l.length ≤ 10000000) : ∀ d i, i + d = l.length → Ev (fun k => spec_AreCorrections.l0 k l (i : Int)) (corF l d i && decide (l.length ≤ 12))
  | 0, i, h => by
    refine Ev.succ (fun k => by rw [spec_AreCorrections.l0]) ?_
    refine Ev.neg (by omega) ((Ev.pure _).eq ?_)
    simp only [corF, Bool.true_and]
    rw [Bool.eq_iff_iff]; simp; omega
  | d + 1, i, h => by
    have ih := sCor_l0 hl d (i + 1) (by omega)
    rw [Int.natCast_add] at ih
    refine Ev.succ (fun k => by rw [spec_AreCorrections.l0]) ?_
    simp only [l1In_eq, Option.bind_some, decide_eq_true_eq]
    rw [w64 (n := (i : Int) + 1) (by omega), w64 (n := (i : Int) - 1) (by omega), corF]
    have no : ∀ {X : Nat → Option Bool}, stV l i = false → Ev X false → Ev X ((if stV l i = true then corF l d (i + 1) else false) && decide (l.length ≤ 12)) := fun h x => x.eq (by rw [h]; rfl)
    refine Ev.pos (by omega) (Ev.pos (by omega) ?_)
    refine Ev.ite (fun h1 => ?_) (fun h1 => no (by simp only [stV, h1, decide_false, Bool.false_and]) (Ev.pure _))
    refine Ev.ite (fun h2 => ?_) (fun h2 => no (by simp only [stV, h2, decide_false, Bool.false_and, Bool.and_false]) (Ev.pure _))
    refine Ev.bind (sClue _ _) (Ev.ite (fun h3 => ?_) (fun h3 => no (by simp only [stV, h3, Bool.false_and, Bool.and_false]) (Ev.pure _)))
    refine Ev.ite (fun h4 => ?_) (fun h4 => no (by simp only [stV, h4, decide_false, Bool.false_and, Bool.and_false]) (Ev.pure _))
    refine Ev.ite (fun h5 => Ev.pos (by omega) (Ev.pos (by omega) (Ev.ite (fun h6 => no (by simp only [stV, h5, h6, decide_true, Bool.and_self, Bool.not_true, Bool.and_false]) (Ev.pure _)) (fun h6 => ih.eq ?_)))) (fun h5 => ih.eq ?_)
    · rw [if_pos (by simp only [stV, h1, h2, h3, h4, h5, h6, decide_true, decide_false, Bool.true_and, Bool.and_false, Bool.not_false, and_self])]
    · rw [if_pos (by simp only [stV, h1, h2, h3, h4, h5, decide_true, decide_false, Bool.true_and, Bool.false_and, Bool.not_false, and_self])]
theorem iCor_l0 {l : List S91} (hl : l.length ≤ 10000000) : ∀ d i, i + d = l.length → Ev (fun k => impl_AreCorrections.l0 k l l (l.length : Int) (i : Int)) (corF l d i)
  | 0, i, h => by
    refine Ev.succ (fun k => by rw [impl_AreCorrections.l0]) ?_
    exact Ev.neg (by omega) (Ev.pure _)
  | d + 1, i, h => by
    have ih := iCor_l0 hl d (i + 1) (by omega)
    rw [Int.natCast_add] at ih
    refine Ev.succ (fun k => by rw [impl_AreCorrections.l0]) ?_
    simp only [InRange_eq, Option.bind_some, decide_eq_true_eq]
    rw [w64 (n := (i : Int) + 1) (by omega), w64 (n := (i : Int) - 1) (by omega), corF]
    have no : ∀ {X : Nat → Option Bool}, stV l i = false → Ev X false → Ev X (if stV l i = true then corF l d (i + 1) else false) := fun h x => x.eq (by rw [h]; rfl)
    refine Ev.pos (by omega) (Ev.pos (by omega) (Ev.pos (by omega) ?_))
    refine Ev.ite (fun h1 => ?_) (fun h1 => no (by simp only [stV, h1, decide_false, Bool.false_and]) (Ev.pure _))
    refine Ev.ite (fun h2 => ?_) (fun h2 => no (by simp only [stV, h2, decide_false, Bool.false_and, Bool.and_false]) (Ev.pure _))
    refine Ev.bind (iClue _ _) (Ev.ite (fun h3 => ?_) (fun h3 => no (by simp only [stV, h3, Bool.false_and, Bool.and_false]) (Ev.pure _)))
    refine Ev.ite (fun h4 => ?_) (fun h4 => no (by simp only [stV, h4, decide_false, Bool.false_and, Bool.and_false]) (Ev.pure _))
    refine Ev.ite (fun h5 => Ev.pos (by omega) (Ev.pos (by omega) (Ev.ite (fun h6 => no (by simp only [stV, h5, show (rd_T91 l ((i : Int) - 1)).f3 > (rd_T91 l (i : Int)).f3 from h6, decide_true, Bool.and_self, Bool.not_true, Bool.and_false]) (Ev.pure _)) (fun h6 => ih.eq ?_)))) (fun h5 => ih.eq ?_)
    · have h7 : ¬ (rd_T91 l ((i : Int) - 1)).f3 > (rd_T91 l (i : Int)).f3 := h6
      rw [if_pos (by simp only [stV, h1, h2, h3, h4, h5, h7, decide_true, decide_false, Bool.true_and, Bool.and_false, Bool.not_false, and_self])]
    · rw [if_pos (by simp only [stV, h1, h2, h3, h4, h5, decide_true, decide_false, Bool.true_and, Bool.false_and, Bool.not_false, and_self])]
theorem corrections {l : List S91} (hl : l.length ≤ 10000000) : ∃ b : Bool, Ev (fun k => spec_AreCorrections.f k l) b ∧ Ev (fun k => impl_AreCorrections.f k l) b ∧ (b = true → ∀ j, j < l.length → stV l j = true) := by
  refine ⟨_, sCor_l0 hl l.length 0 (by omega), ?_, fun h j hj => ?_⟩
  · unfold impl_AreCorrections.f
    by_cases h : l.length ≤ 12
    · exact Ev.neg (by omega) ((iCor_l0 hl l.length 0 (by omega)).eq (by simp [h]))
    · exact Ev.pos (by omega) ((Ev.pure _).eq (by simp [h]))
  · simp only [Bool.and_eq_true] at h
    exact corF_at _ _ h.1 j (by omega) (by omega)
/-! ### a number put into its place -/
def putF : List Int → Int → List Int
  | [], v => [v]
  | x :: t, v => if x < v then x :: putF t v else if x = v then x :: t else v :: x :: t
theorem sPut_l0 {a : List Int} {v : Int} (ha : a.length ≤ 10000000) : ∀ d i, i + d = a.length → Ev (fun k => spec_l9Put.l0 k a v (i : Int)) (a.take i ++ putF (a.drop i) v)
  | 0, i, h => by
    obtain rfl : i = a.length := by omega
    refine Ev.succ (fun k => by rw [spec_l9Put.l0]) ?_
    refine Ev.neg (by omega) (Ev.bind (Ev.const rfl) ?_)
    refine Ev.pos (by omega) (Ev.pos (by omega) (Ev.pos (by simp; omega) (Ev.bind (Ev.const rfl) (Ev.bind (Ev.const rfl) (Ev.pos (by simp; omega) (Ev.bind (Ev.const rfl) (Ev.pos (by simp; omega) ((Ev.pure _).eq ?_))))))))
    simp [putF]
  | d + 1, i, h => by
    have hlt : i < a.length := by omega
    have ih := sPut_l0 (v := v) ha d (i + 1) (by omega)
    rw [Int.natCast_add] at ih
    refine Ev.succ (fun k => by rw [spec_l9Put.l0]) ?_
    have hr : rd a (i : Int) = a[i] := by unfold rd; simp [List.getD_eq_getElem?_getD, List.getElem?_eq_getElem hlt]
    rw [hr, w64 (by omega), List.drop_eq_getElem_cons hlt, putF]
    refine Ev.pos (by omega) (Ev.pos (by omega) (Ev.ite (fun h1 => ?_) (fun h1 => Ev.ite (fun h2 => ?_) (fun h2 => ?_))))
    · rw [if_pos h1]
      refine ih.eq ?_
      rw [List.take_succ_eq_append_getElem hlt, List.append_assoc]; rfl
    · rw [if_neg h1, if_pos h2]
      refine Ev.bind (Ev.const rfl) (Ev.pos (by simp; omega) ((Ev.pure _).eq ?_))
      rw [← List.drop_eq_getElem_cons hlt, List.take_append_drop]; rfl
    · rw [if_neg h1, if_neg h2]
      refine Ev.bind (Ev.const rfl) (Ev.pos (by omega) (Ev.pos (by simp; omega) (Ev.bind (Ev.const rfl) (Ev.bind (Ev.const rfl) (Ev.pos (by simp; omega) (Ev.bind (Ev.const rfl) (Ev.pos (by simp; omega) ((Ev.pure _).eq ?_))))))))
      rw [← List.drop_eq_getElem_cons hlt]
      simp
theorem sPut {a : List Int} (v : Int) (ha : a.length ≤ 10000000) : Ev (fun k => spec_l9Put.f k a v) (putF a v) := by
  unfold spec_l9Put.f
  exact (sPut_l0 ha a.length 0 (by omega)).eq (by simp)
/-- The numbers from s on that P takes. -/
def upF (P : Nat → Bool) : Nat → Nat → List Int
  | _, 0 => []
  | s, n + 1 => if P s = true then (s : Int) :: upF P (s + 1) n else upF P (s + 1) n
theorem upF_congr {P Q : Nat → Bool} : ∀ s n, (∀ x, s ≤ x → x < s + n → P x = Q x) → upF P s n = upF Q s n
  | s, 0, _ => rfl
  | s, n + 1, h => by
    rw [upF, upF, h s (by omega) (by omega), upF_congr (s + 1) n (fun x h1 h2 => h x (by omega) (by omega))]
theorem upF_len {P : Nat → Bool} : ∀ s n, (upF P s n).length ≤ n
  | s, 0 => by simp [upF]
  | s, n + 1 => by
    have := upF_len (P := P) (s + 1) n
    rw [upF]
    split
    · simp; omega
    · omega
theorem put_low {P : Nat → Bool} {v : Int} : ∀ (s n : Nat), v < (s : Int) → putF (upF P s n) v = v :: upF P s n
  | s, 0, _ => rfl
  | s, n + 1, h => by
    rw [upF]
    split
    · rw [putF, if_neg (by omega), if_neg (by omega)]
    · exact put_low (s + 1) n (by omega)
theorem put_up {P : Nat → Bool} {v : Nat} : ∀ s n, s ≤ v → v < s + n → putF (upF P s n) (v : Int) = upF (fun x => P x || decide (x = v)) s n
  | s, 0, h1, h2 => by omega
  | s, n + 1, h1, h2 => by
    by_cases e : v = s
    · subst e
      have hc : upF (fun x => P x || decide (x = v)) (v + 1) n = upF P (v + 1) n := upF_congr _ _ (fun x h3 _ => by rw [decide_eq_false (by omega), Bool.or_false])
      rw [upF, upF, hc, if_pos (show (P v || decide (v = v)) = true by simp)]
      split
      · rw [putF, if_neg (by omega), if_pos rfl]
      · exact put_low (v + 1) n (by omega)
    · have ih := put_up (P := P) (v := v) (s + 1) n (by omega) (by omega)
      rw [upF, upF]
      by_cases hp : P s = true
      · rw [if_pos hp, if_pos (by simp [hp]), putF, if_pos (by omega), ih]
      · rw [if_neg hp, if_neg (by simp [hp]; omega), ih]
/-! ### corrected slots -/
def mt (l : List S91) (n t : Int) (j s : Nat) : Bool := decide ((rd_T91 l (j : Int)).f0 = n) && (decide ((rd_T91 l (j : Int)).f1 = (s : Int)) && decide ((rd_T91 l (j : Int)).f3 ≤ t))
def pre (l : List S91) (n t : Int) : Nat → Nat → Bool
  | 0, _ => false
  | i + 1, s => pre l n t i s || mt l n t i s
def eV (l : List S91) (n t : Int) : Nat → Nat → Int
  | 0, _ => -1
  | i + 1, s => if mt l n t i s = true then (i : Int) else eV l n t i s
theorem eV_pre {l : List S91} {n t : Int} : ∀ i s, decide (eV l n t i s ≥ 0) = pre l n t i s
  | 0, s => by simp [eV, pre]
  | i + 1, s => by
    unfold eV pre
    rw [← eV_pre i s]
    by_cases h : mt l n t i s = true
    · rw [if_pos h, h]; simp
    · rw [if_neg h]; simp [Bool.not_eq_true] at h; rw [h]; simp
theorem sCS_l0 {l : List S91} {t a0 a1 a2 : Int} {a3 : ByteArray} {a4 : List S89} {a5 : List Int} {a6 : Int} {a7 : ByteArray} {a8 a9 : Int} (hI : Ev (fun k => spec_IsIssue.f k a0 a1 a2 a3 a4 a5 a6 a7 a8 a9) true) (hC : Ev (fun k => spec_AreCorrections.f k l) true) (st : ∀ j, j < l.length → stV l j = true) (hl : l.length ≤ 10000000) (hN : a4.length ≤ 10000000) :
    ∀ d i, i + d = l.length → Ev (fun k => spec_CorrectedSlots.l0 k l t (upF (pre l a0 t i) 0 a4.length) (i : Int) a0 a1 a2 a3 a4 a5 a6 a7 a8 a9) (upF (pre l a0 t l.length) 0 a4.length)
  | 0, i, h => by
    obtain rfl : i = l.length := by omega
    refine Ev.succ (fun k => by rw [spec_CorrectedSlots.l0]) (Ev.neg (by omega) ?_)
    exact Ev.succ (fun k => by rw [spec_CorrectedSlots.j1]) (Ev.neg (by simp) (Ev.pure _))
  | d + 1, i, h => by
    have ih := sCS_l0 (t := t) hI hC st hl hN d (i + 1) (by omega)
    rw [Int.natCast_add] at ih
    have sv := st i (by omega)
    simp only [stV, Bool.and_eq_true, decide_eq_true_eq] at sv
    obtain ⟨v, hv⟩ := Int.eq_ofNat_of_zero_le sv.2.1.1
    refine Ev.succ (fun k => by rw [spec_CorrectedSlots.l0]) (Ev.pos (by omega) (Ev.bind hI (Ev.pos rfl (Ev.bind hC ?_))))
    refine Ev.succ (fun k => by rw [spec_CorrectedSlots.j1]) (Ev.pos rfl (Ev.pos (by omega) (Ev.pos (by omega) ?_)))
    rw [w64 (n := (i : Int) + 1) (by omega)]
    have same : mt l a0 t i = (fun _ => false) → upF (pre l a0 t (i + 1)) 0 a4.length = upF (pre l a0 t i) 0 a4.length := fun e => upF_congr _ _ (fun x _ _ => by show (pre l a0 t i x || mt l a0 t i x) = _; rw [e]; simp)
    refine Ev.ite (fun h1 => ?_) (fun h1 => ?_)
    · refine Ev.ite (fun h2 => ?_) (fun h2 => ?_)
      · refine Ev.ite (fun h3 => ?_) (fun h3 => ?_)
        · refine Ev.bind (sPut _ (Nat.le_trans (upF_len _ _) hN)) ?_
          rw [hv, put_up 0 a4.length (by omega) (by omega)]
          rw [show upF (fun x => pre l a0 t i x || decide (x = v)) 0 a4.length = upF (pre l a0 t (i + 1)) 0 a4.length from upF_congr _ _ (fun x _ _ => by
            show _ = (pre l a0 t i x || mt l a0 t i x)
            simp only [mt, h1, h2, hv, decide_true, Bool.true_and, Bool.and_true]
            congr 1; rw [Bool.eq_iff_iff]; simp; omega)]
          exact ih
        · rw [show upF (pre l a0 t i) 0 a4.length = upF (pre l a0 t (i + 1)) 0 a4.length from (upF_congr _ _ (fun x _ hx => by
            show (pre l a0 t i x || mt l a0 t i x) = _
            have : ¬ (rd_T91 l (i : Int)).f1 = (x : Int) := by omega
            simp only [mt, this, decide_false, Bool.false_and, Bool.and_false, Bool.or_false])).symm]
          exact ih
      · rw [← same (by funext x; simp only [mt, h2, decide_false, Bool.and_false])]
        exact ih
    · rw [← same (by funext x; simp only [mt, h1, decide_false, Bool.false_and])]
      exact ih
theorem iCA_l1 {l : List S91} {t a0 a1 a2 : Int} {a3 : ByteArray} {a4 : List S89} {a5 : List Int} {a6 : Int} {a7 : ByteArray} {a8 a9 : Int} {acc r : List Int} {N : Int} {s : Nat} (hl : l.length ≤ 10000000) (ha : acc.length ≤ 10000000)
    (hr : Ev (fun k => impl_correctedAt.l0 k l t (acc ++ [eV l a0 t l.length s]) N (wrap64 ((s : Int) + 1)) a0 a1 a2 a3 a4 a5 a6 a7 a8 a9) r) :
    ∀ d j, j + d = l.length → Ev (fun k => impl_correctedAt.l1 k l t acc (s : Int) (eV l a0 t j s) N (s : Int) l (l.length : Int) (j : Int) a0 a1 a2 a3 a4 a5 a6 a7 a8 a9) r
  | 0, j, h => by
    obtain rfl : j = l.length := by omega
    exact Ev.succ (fun k => by rw [impl_correctedAt.l1]) (Ev.neg (by omega) (Ev.pos (by omega) hr))
  | d + 1, j, h => by
    have ih := iCA_l1 hl ha hr d (j + 1) (by omega)
    rw [Int.natCast_add, eV] at ih
    refine Ev.succ (fun k => by rw [impl_correctedAt.l1]) (Ev.pos (by omega) (Ev.pos (by omega) (Ev.pos (by omega) ?_)))
    rw [w64 (n := (j : Int) + 1) (by omega)]
    refine Ev.ite (fun h1 => ?_) (fun h1 => ?_)
    · refine Ev.ite (fun h2 => ?_) (fun h2 => ?_)
      · refine Ev.ite (fun h3 => ?_) (fun h3 => ?_)
        · rw [if_pos (by simp only [mt, h1, h2, h3, decide_true, Bool.and_self])] at ih; exact ih
        · rw [if_neg (by simp [mt, h3])] at ih; exact ih
      · rw [if_neg (by simp [mt, h2])] at ih; exact ih
    · rw [if_neg (by simp [mt, h1])] at ih; exact ih
theorem iCA_l0 {l : List S91} {t a0 a1 a2 : Int} {a3 : ByteArray} {a4 : List S89} {a5 : List Int} {a6 : Int} {a7 : ByteArray} {a8 a9 : Int} {N : Nat} (hl : l.length ≤ 10000000) (hN : N ≤ 10000000) :
    ∀ d s (acc : List Int), s + d = N → acc.length = s → Ev (fun k => impl_correctedAt.l0 k l t acc (N : Int) (s : Int) a0 a1 a2 a3 a4 a5 a6 a7 a8 a9) (acc ++ (List.range' s d).map (eV l a0 t l.length))
  | 0, s, acc, h, _ => by
    refine Ev.succ (fun k => by rw [impl_correctedAt.l0]) (Ev.neg (by omega) ((Ev.pure _).eq (by simp)))
  | d + 1, s, acc, h, ha => by
    have ih := iCA_l0 (t := t) (a0 := a0) (a1 := a1) (a2 := a2) (a3 := a3) (a4 := a4) (a5 := a5) (a6 := a6) (a7 := a7) (a8 := a8) (a9 := a9) hl hN d (s + 1) (acc ++ [eV l a0 t l.length s]) (by omega) (by simp [ha])
    refine Ev.succ (fun k => by rw [impl_correctedAt.l0]) (Ev.pos (by omega) ?_)
    refine iCA_l1 hl (by omega) ?_ l.length 0 (by omega)
    rw [w64 (n := (s : Int) + 1) (by omega), ← Int.natCast_add_one s]
    refine ih.eq ?_
    rw [List.range'_succ, List.map_cons, List.append_assoc]; rfl
theorem iCS_l0 {l : List S91} {n t : Int} {N : Nat} (hN : N ≤ 10000000) : ∀ d i (out : List Int), i + d = N → out.length ≤ i →
    Ev (fun k => impl_CorrectedSlots.l0 k out ((List.range' 0 N).map (eV l n t l.length)) (N : Int) (i : Int)) (out ++ upF (pre l n t l.length) i d)
  | 0, i, out, h, _ => by
    refine Ev.succ (fun k => by rw [impl_CorrectedSlots.l0]) (Ev.neg (by omega) ((Ev.pure _).eq (by simp [upF])))
  | d + 1, i, out, h, ho => by
    refine Ev.succ (fun k => by rw [impl_CorrectedSlots.l0]) (Ev.pos (by omega) (Ev.pos (by omega) (Ev.pos (by simp; omega) ?_)))
    have hx : rd ((List.range' 0 N).map (eV l n t l.length)) (i : Int) = eV l n t l.length i := by
      rw [rdI (by simp; omega)]; simp
    have hp := eV_pre (l := l) (n := n) (t := t) l.length i
    rw [hx, w64 (n := (i : Int) + 1) (by omega), upF, ← hp]
    refine Ev.ite (fun h1 => ?_) (fun h1 => ?_)
    · have ih := iCS_l0 (l := l) (n := n) (t := t) hN d (i + 1) (out ++ [(i : Int)]) (by omega) (by simp; omega)
      rw [Int.natCast_add] at ih
      refine Ev.pos (by omega) (ih.eq ?_)
      rw [if_pos (by simpa using h1), List.append_assoc]; rfl
    · have ih := iCS_l0 (l := l) (n := n) (t := t) hN d (i + 1) out (by omega) (by omega)
      rw [Int.natCast_add] at ih
      refine ih.eq ?_
      rw [if_neg (by simpa using h1)]
theorem corrected {l : List S91} {t a0 a1 a2 : Int} {a3 : ByteArray} {a4 : List S89} {a5 : List Int} {a6 : Int} {a7 : ByteArray} {a8 a9 : Int} (hI : ∃ b : Bool, Ev (fun k => spec_IsIssue.f k a0 a1 a2 a3 a4 a5 a6 a7 a8 a9) b ∧ Ev (fun k => impl_IsIssue.f k a0 a1 a2 a3 a4 a5 a6 a7 a8 a9) b) (hl : l.length ≤ 10000000) (hN : a4.length ≤ 10000000) :
    ∃ r : List Int, Ev (fun k => spec_CorrectedSlots.f k a0 a1 a2 a3 a4 a5 a6 a7 a8 a9 l t) r ∧ Ev (fun k => impl_CorrectedSlots.f k a0 a1 a2 a3 a4 a5 a6 a7 a8 a9 l t) r ∧ r.length ≤ a4.length := by
  obtain ⟨b, s1, i1⟩ := hI
  obtain ⟨c, s2, i2, st⟩ := corrections hl
  have nil : Ev (fun k => impl_CorrectedSlots.l0 k [] [] (([] : List Int).length : Int) 0) [] := Ev.succ (fun k => by rw [impl_CorrectedSlots.l0]) (Ev.neg (by simp) (Ev.pure _))
  have hj : Ev (fun k => spec_CorrectedSlots.j1 k l t [] 0 false a0 a1 a2 a3 a4 a5 a6 a7 a8 a9) [] := Ev.succ (fun k => by rw [spec_CorrectedSlots.j1]) (Ev.neg (by simp) (Ev.pure _))
  have bad : (b && c) = false → Ev (fun k => spec_CorrectedSlots.f k a0 a1 a2 a3 a4 a5 a6 a7 a8 a9 l t) [] ∧ Ev (fun k => impl_CorrectedSlots.f k a0 a1 a2 a3 a4 a5 a6 a7 a8 a9 l t) [] := by
    intro h
    constructor
    · unfold spec_CorrectedSlots.f
      refine Ev.succ (fun k => by rw [spec_CorrectedSlots.l0]) (Ev.ite (fun _ => Ev.bind s1 (Ev.ite (fun hb => Ev.bind s2 ?_) (fun _ => hj))) (fun _ => hj))
      rw [hb, Bool.true_and] at h; rw [h]; exact hj
    · unfold impl_CorrectedSlots.f
      refine Ev.bind ?_ nil
      unfold impl_correctedAt.f
      have hz : ∀ o, o = true → Ev (fun k => impl_correctedAt.j0 k l t o a0 a1 a2 a3 a4 a5 a6 a7 a8 a9) [] := fun o ho => Ev.succ (fun k => by rw [impl_correctedAt.j0]) (Ev.pos ho (Ev.pure _))
      refine Ev.bind i1 (Ev.ite (fun hb => Ev.bind i2 ?_) (fun _ => hz _ rfl))
      rw [hb, Bool.true_and] at h
      exact hz _ (by rw [h]; rfl)
  rcases b with _ | _
  · exact ⟨[], (bad rfl).1, (bad rfl).2, by simp⟩
  rcases c with _ | _
  · exact ⟨[], (bad rfl).1, (bad rfl).2, by simp⟩
  have s0 := st rfl
  refine ⟨upF (pre l a0 t l.length) 0 a4.length, ?_, ?_, upF_len _ _⟩
  · unfold spec_CorrectedSlots.f
    have h := sCS_l0 (t := t) s1 s2 s0 hl hN l.length 0 (by omega)
    have e : ∀ s n, upF (pre l a0 t 0) s n = [] := fun s n => by
      induction n generalizing s with
      | zero => rfl
      | succ n ih => rw [upF, if_neg (by simp [pre]), ih]
    rw [e] at h
    exact h
  · unfold impl_CorrectedSlots.f
    refine Ev.bind (a := (List.range' 0 a4.length).map (eV l a0 t l.length)) ?_ ?_
    · unfold impl_correctedAt.f
      refine Ev.bind i1 (Ev.pos rfl (Ev.bind i2 ?_))
      refine Ev.succ (fun k => by rw [impl_correctedAt.j0]) (Ev.neg (by simp) ?_)
      exact (iCA_l0 hl hN a4.length 0 [] (by omega) rfl).eq (by simp)
    · have := iCS_l0 (l := l) (n := a0) (t := t) hN a4.length 0 [] (by omega) (by simp)
      simpa using this
end Go.Proofs.YtpcdfjcbjbkliaaGreat.E
