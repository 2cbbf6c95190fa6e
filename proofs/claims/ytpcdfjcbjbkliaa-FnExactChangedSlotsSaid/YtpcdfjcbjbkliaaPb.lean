import Derived.Test.YtpcdfjcbjbkliaaPa
namespace Go.Proofs.Ytpcdfjcbjbkliaa.E
open Go.RowKit Go.Proofs.YtpcdfjcbjbkliaaW.PrintWords Go.Proofs.YtpcdfjcbjbkliaaW.PrintLast Go.Proofs.YtpcdfjcbjbkliaaW.PrintMore
set_option linter.unusedVariables false
set_option linter.unusedSimpArgs false
/-! ### runs -/
def cnt (s : ByteArray) (x step : Nat) : Nat → Nat → Nat
  | 0, n => n
  | d + 1, n => if bt s ((x + n * step : Nat) : Int) = 46 then cnt s x step d (n + 1) else n
theorem cnt_le (s : ByteArray) (x step : Nat) : ∀ d n, n ≤ cnt s x step d n ∧ cnt s x step d n ≤ n + d
  | 0, n => by unfold cnt; omega
  | d + 1, n => by
    unfold cnt
    have := cnt_le s x step d (n + 1)
    split <;> omega
theorem cnt_at (s : ByteArray) (x step : Nat) : ∀ d n j, n ≤ j → j < cnt s x step d n → bt s ((x + j * step : Nat) : Int) = 46
  | 0, n, j, h1, h2 => by unfold cnt at h2; omega
  | d + 1, n, j, h1, h2 => by
    unfold cnt at h2
    by_cases e : bt s ((x + n * step : Nat) : Int) = 46
    · rw [if_pos e] at h2
      by_cases ej : j = n
      · subst ej; exact e
      · exact cnt_at s x step d (n + 1) j (by omega) h2
    · rw [if_neg e] at h2; omega
def runAt (s : ByteArray) (x step at_ most : Nat) : Nat := if bt s (x : Int) = 46 then (if 0 < at_ ∧ bt s ((x - step : Nat) : Int) = 46 then 0 else cnt s x step (most - at_) 0) else 0
def runN (r c : Nat) (s : ByteArray) (i : Nat) (down : Bool) : Nat := if down = true then runAt s i c (i / c) r else runAt s i 1 (i % c) c
theorem irun_l0 {R C : Int} {s : ByteArray} {x step most : Nat} {at_ : Nat} (hz : s.size ≤ 36) (h6 : most ≤ 6) (hs : step ≤ 6) (hr : ∀ n, at_ + n < most → x + n * step < s.size) :
    ∀ d n, at_ + n + d = most → Ev (fun k => impl_run.l0 k (x : Int) (step : Int) (at_ : Int) (most : Int) (n : Int) R C s) (cnt s x step d n : Int)
  | 0, n, h => by
    refine Ev.succ (fun k => by rw [impl_run.l0]) ?_
    rw [w64 (by omega)]
    exact Ev.neg (by omega) (Ev.pure _)
  | d + 1, n, h => by
    refine Ev.succ (fun k => by rw [impl_run.l0]) ?_
    have hn := hr n (by omega)
    have e : ((n * step : Nat) : Int) = (n : Int) * step := Int.natCast_mul n step
    have hle : n * step ≤ 6 * 6 := Nat.mul_le_mul (by omega) hs
    rw [w64 (n := (at_ : Int) + n) (by omega), ← e, w64 (n := ((n * step : Nat) : Int)) (by omega), w64 (n := (x : Int) + ((n * step : Nat) : Int)) (by omega), w64 (n := (n : Int) + 1) (by omega)]
    refine Ev.pos (by omega) (Ev.pos (by omega) (Ev.pos (by omega) ?_))
    unfold cnt
    rw [← Int.natCast_add]
    have ih := irun_l0 (R := R) (C := C) hz h6 hs hr d (n + 1) (by omega)
    rw [Int.natCast_add] at ih
    by_cases e' : bt s ((x + n * step : Nat) : Int) = 46
    · rw [if_pos e']; exact Ev.pos e' ih
    · rw [if_neg e']; exact Ev.neg e' (Ev.pure _)
theorem irun_j0 {R C : Int} {s : ByteArray} {x step most at_ : Nat} (hz : s.size ≤ 36) (h6 : most ≤ 6) (hs : step ≤ 6) (hx : x < s.size) (ha : at_ ≤ most) (hb : 0 < at_ → step ≤ x) (hr : ∀ n, at_ + n < most → x + n * step < s.size) :
    Ev (fun k => impl_run.j0 k (x : Int) (step : Int) (at_ : Int) (most : Int) R C s) (runAt s x step at_ most : Int) := by
  refine Ev.succ (fun k => by rw [impl_run.j0]) ?_
  unfold runAt
  refine Ev.pos (by omega) (Ev.pos (by omega) ?_)
  have hl := irun_l0 (R := R) (C := C) hz h6 hs hr (most - at_) 0 (by omega)
  by_cases e : bt s (x : Int) = 46
  · rw [if_pos e]
    refine Ev.pos e ?_
    by_cases h0 : 0 < at_
    · have hb := hb h0
      rw [w64 (by omega), ← Int.natCast_sub hb]
      refine Ev.pos (by omega) (Ev.pos (by omega) (Ev.pos (by omega) ?_))
      refine Ev.succ (fun k => by rw [impl_run.j1]) ?_
      by_cases e2 : bt s ((x - step : Nat) : Int) = 46
      · rw [if_pos ⟨h0, e2⟩]
        exact Ev.pos (by simpa using e2) (Ev.pure _)
      · rw [if_neg (fun h => e2 h.2)]
        exact Ev.neg (by simpa using e2) hl
    · refine Ev.neg (by omega) (Ev.succ (fun k => by rw [impl_run.j1]) ?_)
      rw [if_neg (fun h => h0 h.1)]
      exact Ev.neg (by decide) hl
  · rw [if_neg e]
    refine Ev.neg e ?_
    refine Ev.succ (fun k => by rw [impl_run.j1]) ?_
    exact Ev.pos rfl (Ev.pure 0)
theorem gr_run {R C : Int} {s : ByteArray} {r c : Nat} (g : Gr R C s r c) {i : Nat} (hi : i < s.size) : i / c < r ∧ i % c < c ∧ (0 < i / c → c ≤ i) ∧ (0 < i % c → 1 ≤ i) ∧ (∀ n, i / c + n < r → i + n * c < s.size) ∧ (∀ n, i % c + n < c → i + n * 1 < s.size) := by
  have hc := g.c2
  have hz := g.sz
  have hd : i / c < r := Nat.div_lt_of_lt_mul (by rw [Nat.mul_comm]; omega)
  have hm : i % c < c := Nat.mod_lt _ (by omega)
  have he := Nat.div_add_mod i c
  refine ⟨hd, hm, fun h => ?_, fun h => ?_, fun n h => ?_, fun n h => ?_⟩
  · have := Nat.le_of_lt_succ (show c < i + 1 from by
      have : c * 1 ≤ c * (i / c) := Nat.mul_le_mul_left _ h
      omega)
    exact this
  · rcases Nat.eq_zero_or_pos i with h0 | h0
    · subst h0; simp at h
    · exact h0
  · have h1 : c * (i / c + n + 1) ≤ c * r := Nat.mul_le_mul_left _ h
    rw [Nat.mul_add, Nat.mul_add, Nat.mul_comm c r, Nat.mul_comm c n] at h1
    omega
  · have h1 : c * (i / c + 1) ≤ c * r := Nat.mul_le_mul_left _ hd
    rw [Nat.mul_add, Nat.mul_comm c r] at h1
    omega
theorem irun {R C : Int} {s : ByteArray} {r c : Nat} (g : Gr R C s r c) {i : Nat} (hi : i < s.size) (down : Bool) :
    Ev (fun k => impl_run.f k R C s (i : Int) down) (runN r c s i down : Int) := by
  obtain ⟨hd, hm, h1, h2, h3, h4⟩ := gr_run g hi
  have hz : s.size ≤ 36 := by have := g.sz; have := g.mx; omega
  have hr6 := g.r6
  have hc6 := g.c6
  unfold impl_run.f runN
  rw [g.er, g.ec]
  refine Ev.neg (by have := g.c2; omega) ?_
  have e1 : Int.tdiv (i : Int) (c : Int) = ((i / c : Nat) : Int) := rfl
  have e2 : Int.tmod (i : Int) (c : Int) = ((i % c : Nat) : Int) := rfl
  rw [e1, e2]
  generalize i / c = q at hd h1 h3 ⊢
  generalize i % c = m at hm h2 h4 ⊢
  rw [w64 (by omega)]
  cases down with
  | true => exact Ev.pos rfl (irun_j0 hz hr6 hc6 hi (by omega) h1 h3)
  | false => exact Ev.neg (by decide) (irun_j0 (step := 1) hz hc6 (by omega) hi (by omega) h2 h4)
theorem from_l0 (x1 x7 x8 x9 : Int) (R C : Int) (s : ByteArray) : ∀ k x10, spec_l8From.l0 k x1 x7 x8 x9 x10 R C s = impl_run.l0 k x1 x7 x8 x9 x10 R C s
  | 0, _ => rfl
  | k + 1, x10 => by rw [spec_l8From.l0, impl_run.l0]; simp only [from_l0 x1 x7 x8 x9 R C s k]
theorem from_j1 (x1 x7 x8 x9 : Int) (R C : Int) (s : ByteArray) : ∀ k b, spec_l8From.j1 k x1 x7 x8 x9 b R C s = impl_run.j1 k x1 x7 x8 x9 b R C s
  | 0, _ => rfl
  | k + 1, b => by rw [spec_l8From.j1, impl_run.j1]; simp only [from_l0 x1 x7 x8 x9 R C s k]
theorem from_j0 (x1 x7 x8 x9 : Int) (R C : Int) (s : ByteArray) : ∀ k, spec_l8From.j0 k x1 x7 x8 x9 R C s = impl_run.j0 k x1 x7 x8 x9 R C s
  | 0 => rfl
  | k + 1 => by rw [spec_l8From.j0, impl_run.j0]; simp only [from_j1 x1 x7 x8 x9 R C s k]
theorem srun {R C : Int} {s : ByteArray} {r c : Nat} (g : Gr R C s r c) {i : Nat} (hi : i < s.size) (down : Bool) :
    Ev (fun k => spec_l8From.f k R C s (i : Int) down) (runN r c s i down : Int) :=
  (irun g hi down).congr (fun k => by unfold spec_l8From.f impl_run.f; simp only [from_j0])
end Go.Proofs.Ytpcdfjcbjbkliaa.E
