import Derived.Test.YtpcdfjcbjbkliaaPb
namespace Go.Proofs.Ytpcdfjcbjbkliaa.E
open Go.RowKit Go.Proofs.YtpcdfjcbjbkliaaW.PrintWords Go.Proofs.YtpcdfjcbjbkliaaW.PrintLast Go.Proofs.YtpcdfjcbjbkliaaW.PrintMore
set_option linter.unusedVariables false
set_option linter.unusedSimpArgs false
/-! ### slots -/
def slotsF (r c : Nat) (s : ByteArray) : Nat → Nat → Nat → List S79
  | 0, _, _ => []
  | d + 1, i, m =>
    (if 2 ≤ runN r c s i false then [(⟨((if 2 ≤ runN r c s i false ∨ 2 ≤ runN r c s i true then m + 1 else m : Nat) : Int), false, (i : Int), (runN r c s i false : Int)⟩ : S79)] else []) ++
    ((if 2 ≤ runN r c s i true then [(⟨((if 2 ≤ runN r c s i false ∨ 2 ≤ runN r c s i true then m + 1 else m : Nat) : Int), true, (i : Int), (runN r c s i true : Int)⟩ : S79)] else []) ++
    slotsF r c s d (i + 1) (if 2 ≤ runN r c s i false ∨ 2 ≤ runN r c s i true then m + 1 else m))
theorem len1 {α : Type} (p : Prop) [Decidable p] (x : α) : (if p then [x] else []).length ≤ 1 := by split <;> simp
theorem iSlotsOf_j2 {R C : Int} {s : ByteArray} {r c : Nat} {acc : List S79} {m i a d2 : Nat} {q : List S79} {x5 : Int} (ha : acc.length ≤ 1000) (hi : i < 100) (e5 : x5 = i)
    (ih : Ev (fun k => impl_SlotsOf.l0 k ((acc ++ (if 2 ≤ a then [(⟨(m : Int), false, (i : Int), (a : Int)⟩ : S79)] else [])) ++ (if 2 ≤ d2 then [(⟨(m : Int), true, (i : Int), (d2 : Int)⟩ : S79)] else [])) (m : Int) (s.size : Int) ((i + 1 : Nat) : Int) R C s) q) :
    Ev (fun k => impl_SlotsOf.j2 k acc (m : Int) x5 (a : Int) (d2 : Int) (s.size : Int) (i : Int) R C s) q := by
  subst e5
  refine Ev.succ (fun k => by rw [impl_SlotsOf.j2]) ?_
  rw [w64 (by omega)]
  rw [Int.natCast_add] at ih
  by_cases h1 : 2 ≤ a
  · rw [if_pos h1] at ih
    refine Ev.pos (by omega) (Ev.pos (by omega) (Ev.bind (Ev.pure _) ?_))
    by_cases h2 : 2 ≤ d2
    · rw [if_pos h2] at ih
      exact Ev.pos (by omega) (Ev.pos (by simp; omega) ih)
    · rw [if_neg h2, List.append_nil] at ih
      exact Ev.neg (by omega) ih
  · rw [if_neg h1, List.append_nil] at ih
    refine Ev.neg (by omega) ?_
    by_cases h2 : 2 ≤ d2
    · rw [if_pos h2] at ih
      exact Ev.pos (by omega) (Ev.pos (by omega) ih)
    · rw [if_neg h2, List.append_nil] at ih
      exact Ev.neg (by omega) ih
theorem iSlotsOf_l0 {R C : Int} {s : ByteArray} {r c : Nat} (g : Gr R C s r c) : ∀ d i acc m, i + d = s.size → m ≤ i → acc.length ≤ 2 * i →
    Ev (fun k => impl_SlotsOf.l0 k acc (m : Int) (s.size : Int) (i : Int) R C s) (acc ++ slotsF r c s d i m)
  | 0, i, acc, m, h, hm, ha => by
    refine Ev.succ (fun k => by rw [impl_SlotsOf.l0]) ?_
    refine Ev.neg (by omega) ?_
    exact (Ev.pure acc).eq (by simp [slotsF])
  | d + 1, i, acc, m, h, hm, ha => by
    have hz : s.size ≤ 36 := by have := g.sz; have := g.mx; omega
    refine Ev.succ (fun k => by rw [impl_SlotsOf.l0]) ?_
    refine Ev.pos (by omega) (Ev.bind (irun g (by omega) false) (Ev.bind (irun g (by omega) true) ?_))
    have ih := iSlotsOf_l0 g d (i + 1) ((acc ++ (if 2 ≤ runN r c s i false then [(⟨((if 2 ≤ runN r c s i false ∨ 2 ≤ runN r c s i true then m + 1 else m : Nat) : Int), false, (i : Int), (runN r c s i false : Int)⟩ : S79)] else [])) ++ (if 2 ≤ runN r c s i true then [(⟨((if 2 ≤ runN r c s i false ∨ 2 ≤ runN r c s i true then m + 1 else m : Nat) : Int), true, (i : Int), (runN r c s i true : Int)⟩ : S79)] else [])) (if 2 ≤ runN r c s i false ∨ 2 ≤ runN r c s i true then m + 1 else m) (by omega) (by split <;> omega) (by simp only [List.length_append]; exact Nat.le_trans (Nat.add_le_add (Nat.add_le_add ha (len1 _ _)) (len1 _ _)) (by omega))
    have fin := ih.eq (s := acc ++ slotsF r c s (d + 1) i m) (by simp only [slotsF, List.append_assoc])
    generalize runN r c s i false = a at fin ⊢
    generalize runN r c s i true = b at fin ⊢
    generalize acc ++ slotsF r c s (d + 1) i m = q at fin ⊢
    have go : ∀ t : Bool, (t = true ↔ (2 ≤ a ∨ 2 ≤ b)) → Ev (fun k => impl_SlotsOf.j1 k acc (m : Int) (i : Int) (a : Int) (b : Int) (s.size : Int) (i : Int) t R C s) q := by
      intro t ht
      refine Ev.succ (fun k => by rw [impl_SlotsOf.j1]) ?_
      by_cases hc : 2 ≤ a ∨ 2 ≤ b
      · simp only [if_pos hc] at fin
        refine Ev.pos (ht.2 hc) ?_
        rw [w64 (by omega)]
        rw [Int.natCast_add] at fin
        exact iSlotsOf_j2 (m := m + 1) (r := r) (c := c) (by omega) (by omega) rfl fin
      · simp only [if_neg hc] at fin
        refine Ev.neg (fun h => hc (ht.1 h)) ?_
        exact iSlotsOf_j2 (r := r) (c := c) (by omega) (by omega) rfl fin
    refine Ev.ite (fun h => go true (by simp; omega)) (fun h => go _ (by simp; omega))
theorem sSlotsOf_j3 {R C : Int} {s : ByteArray} {acc : List S79} {m i a d2 : Nat} {q : List S79} (ha : acc.length ≤ 1000) (hi : i < 100)
    (ih : Ev (fun k => spec_SlotsOf.l0 k ((acc ++ (if 2 ≤ a then [(⟨(m : Int), false, (i : Int), (a : Int)⟩ : S79)] else [])) ++ (if 2 ≤ d2 then [(⟨(m : Int), true, (i : Int), (d2 : Int)⟩ : S79)] else [])) (m : Int) ((i + 1 : Nat) : Int) R C s) q) :
    Ev (fun k => spec_SlotsOf.j3 k acc (m : Int) (i : Int) (a : Int) (d2 : Int) R C s) q := by
  refine Ev.succ (fun k => by rw [spec_SlotsOf.j3]) ?_
  rw [w64 (by omega)]
  rw [Int.natCast_add] at ih
  by_cases h1 : 2 ≤ a
  · rw [if_pos h1] at ih
    refine Ev.pos (by omega) (Ev.pos (by omega) (Ev.bind (Ev.pure _) ?_))
    by_cases h2 : 2 ≤ d2
    · rw [if_pos h2] at ih
      exact Ev.pos (by omega) (Ev.pos (by simp; omega) ih)
    · rw [if_neg h2, List.append_nil] at ih
      exact Ev.neg (by omega) ih
  · rw [if_neg h1, List.append_nil] at ih
    refine Ev.neg (by omega) ?_
    by_cases h2 : 2 ≤ d2
    · rw [if_pos h2] at ih
      exact Ev.pos (by omega) (Ev.pos (by omega) ih)
    · rw [if_neg h2, List.append_nil] at ih
      exact Ev.neg (by omega) ih
theorem sSlotsOf_l0 {R C : Int} {s : ByteArray} {r c : Nat} (g : Gr R C s r c) (hg : isG R C s = true) : ∀ d i acc m, i + d = s.size → m ≤ i → acc.length ≤ 2 * i →
    Ev (fun k => spec_SlotsOf.l0 k acc (m : Int) (i : Int) R C s) (acc ++ slotsF r c s d i m)
  | 0, i, acc, m, h, hm, ha => by
    refine Ev.succ (fun k => by rw [spec_SlotsOf.l0]) ?_
    refine Ev.neg (by omega) (Ev.succ (fun k => by rw [spec_SlotsOf.j1]) (Ev.neg (by decide) ?_))
    exact (Ev.pure acc).eq (by simp [slotsF])
  | d + 1, i, acc, m, h, hm, ha => by
    have hz : s.size ≤ 36 := by have := g.sz; have := g.mx; omega
    refine Ev.succ (fun k => by rw [spec_SlotsOf.l0]) ?_
    refine Ev.pos (by omega) (Ev.bind (sIsGrid R C s) ?_)
    refine Ev.succ (fun k => by rw [spec_SlotsOf.j1]) (Ev.pos hg ?_)
    refine Ev.bind (srun g (by omega) false) (Ev.bind (srun g (by omega) true) ?_)
    have ih := sSlotsOf_l0 g hg d (i + 1) ((acc ++ (if 2 ≤ runN r c s i false then [(⟨((if 2 ≤ runN r c s i false ∨ 2 ≤ runN r c s i true then m + 1 else m : Nat) : Int), false, (i : Int), (runN r c s i false : Int)⟩ : S79)] else [])) ++ (if 2 ≤ runN r c s i true then [(⟨((if 2 ≤ runN r c s i false ∨ 2 ≤ runN r c s i true then m + 1 else m : Nat) : Int), true, (i : Int), (runN r c s i true : Int)⟩ : S79)] else [])) (if 2 ≤ runN r c s i false ∨ 2 ≤ runN r c s i true then m + 1 else m) (by omega) (by split <;> omega) (by simp only [List.length_append]; exact Nat.le_trans (Nat.add_le_add (Nat.add_le_add ha (len1 _ _)) (len1 _ _)) (by omega))
    have fin := ih.eq (s := acc ++ slotsF r c s (d + 1) i m) (by simp only [slotsF, List.append_assoc])
    generalize runN r c s i false = a at fin ⊢
    generalize runN r c s i true = b at fin ⊢
    generalize acc ++ slotsF r c s (d + 1) i m = q at fin ⊢
    have go : ∀ t : Bool, (t = true ↔ (2 ≤ a ∨ 2 ≤ b)) → Ev (fun k => spec_SlotsOf.j2 k acc (m : Int) (i : Int) (a : Int) (b : Int) t R C s) q := by
      intro t ht
      refine Ev.succ (fun k => by rw [spec_SlotsOf.j2]) ?_
      by_cases hc : 2 ≤ a ∨ 2 ≤ b
      · simp only [if_pos hc] at fin
        refine Ev.pos (ht.2 hc) ?_
        rw [w64 (by omega)]
        rw [Int.natCast_add] at fin
        exact sSlotsOf_j3 (m := m + 1) (by omega) (by omega) fin
      · simp only [if_neg hc] at fin
        refine Ev.neg (fun h => hc (ht.1 h)) ?_
        exact sSlotsOf_j3 (by omega) (by omega) fin
    refine Ev.ite (fun h => go true (by simp; omega)) (fun h => go _ (by simp; omega))
def slots (r c : Nat) (s : ByteArray) : List S79 := slotsF r c s s.size 0 0
theorem iSlotsOf {R C : Int} {s : ByteArray} {r c : Nat} (g : Gr R C s r c) (hg : isG R C s = true) : Ev (fun k => impl_SlotsOf.f k R C s) (slots r c s) := by
  unfold impl_SlotsOf.f
  refine Ev.bind (iIsGrid R C s) (Ev.pos hg ?_)
  exact iSlotsOf_l0 g s.size 0 [] 0 (by omega) (by omega) (by simp)
theorem sSlotsOf {R C : Int} {s : ByteArray} {r c : Nat} (g : Gr R C s r c) (hg : isG R C s = true) : Ev (fun k => spec_SlotsOf.f k R C s) (slots r c s) := by
  unfold spec_SlotsOf.f
  exact sSlotsOf_l0 g hg s.size 0 [] 0 (by omega) (by omega) (by simp)
theorem iSlotsOf_no {R C : Int} {s : ByteArray} (hg : isG R C s = false) : Ev (fun k => impl_SlotsOf.f k R C s) [] := by
  unfold impl_SlotsOf.f
  exact Ev.bind (iIsGrid R C s) (Ev.neg (by simp [hg]) (Ev.pure _))
theorem sSlotsOf_no {R C : Int} {s : ByteArray} (hg : isG R C s = false) : Ev (fun k => spec_SlotsOf.f k R C s) [] := by
  unfold spec_SlotsOf.f
  refine Ev.succ (fun k => by rw [spec_SlotsOf.l0]) ?_
  have go : ∀ t : Bool, t = false → Ev (fun k => spec_SlotsOf.j1 k [] 0 0 t R C s) [] := by
    rintro t rfl
    exact Ev.succ (fun k => by rw [spec_SlotsOf.j1]) (Ev.neg (by decide) (Ev.pure _))
  exact Ev.ite (fun _ => Ev.bind (sIsGrid R C s) (go _ hg)) (fun _ => go _ rfl)
/-! what a slot of a grid is like -/
structure SlotOk (r c : Nat) (s : ByteArray) (x : S79) : Prop where
  cell : ∃ i : Nat, x.f2 = i ∧ i < s.size ∧ x.f3 = (runN r c s i x.f1 : Nat) ∧ 2 ≤ runN r c s i x.f1
theorem slotsF_mem {r c : Nat} {s : ByteArray} : ∀ d i m x, i + d = s.size → x ∈ slotsF r c s d i m → ∃ j : Nat, x.f2 = j ∧ i ≤ j ∧ j < s.size ∧ x.f3 = (runN r c s j x.f1 : Nat) ∧ 2 ≤ runN r c s j x.f1
  | 0, i, m, x, h, hx => by simp [slotsF] at hx
  | d + 1, i, m, x, h, hx => by
    unfold slotsF at hx
    rw [List.mem_append, List.mem_append] at hx
    rcases hx with hx | hx | hx
    · split at hx
      · simp only [List.mem_singleton] at hx; subst hx; exact ⟨i, rfl, by omega, by omega, rfl, by assumption⟩
      · simp at hx
    · split at hx
      · simp only [List.mem_singleton] at hx; subst hx; exact ⟨i, rfl, by omega, by omega, rfl, by assumption⟩
      · simp at hx
    · obtain ⟨j, h1, h2, h3⟩ := slotsF_mem d (i + 1) _ x (by omega) hx
      exact ⟨j, h1, by omega, h3⟩
theorem slots_ok {r c : Nat} {s : ByteArray} {x : S79} (hx : x ∈ slots r c s) : SlotOk r c s x := by
  obtain ⟨j, h1, h2, h3⟩ := slotsF_mem _ _ _ x (by omega) hx
  exact ⟨j, h1, h3⟩
theorem slotsF_len {r c : Nat} {s : ByteArray} : ∀ d i m, (slotsF r c s d i m).length ≤ 2 * d
  | 0, i, m => by simp [slotsF]
  | d + 1, i, m => by
    unfold slotsF
    have := slotsF_len (r := r) (c := c) (s := s) d (i + 1) (if 2 ≤ runN r c s i false ∨ 2 ≤ runN r c s i true then m + 1 else m)
    simp only [List.length_append]
    exact Nat.le_trans (Nat.add_le_add (len1 _ _) (Nat.add_le_add (len1 _ _) this)) (by omega)
theorem slots_len {r c : Nat} {s : ByteArray} : (slots r c s).length ≤ 2 * s.size := slotsF_len _ _ _
/-- no slot stands twice: place and direction tell it -/
theorem slotsF_nodup {r c : Nat} {s : ByteArray} : ∀ d i m, i + d = s.size → (slotsF r c s d i m).Pairwise (fun x y => x ≠ y)
  | 0, i, m, h => by simp [slotsF]
  | d + 1, i, m, h => by
    have ih := slotsF_nodup (r := r) (c := c) (s := s) d (i + 1) (if 2 ≤ runN r c s i false ∨ 2 ≤ runN r c s i true then m + 1 else m) (by omega)
    have hm := slotsF_mem (r := r) (c := c) (s := s) d (i + 1) (if 2 ≤ runN r c s i false ∨ 2 ≤ runN r c s i true then m + 1 else m)
    unfold slotsF
    have one : ∀ b : Bool, ∀ (l : List S79), (∀ y ∈ l, y.f2 ≠ (i : Int) ∨ y.f1 ≠ b) → l.Pairwise (fun x y => x ≠ y) → ∀ (p : Prop) [Decidable p] (q n : Int), ((if p then [(⟨q, b, (i : Int), n⟩ : S79)] else []) ++ l).Pairwise (fun x y => x ≠ y) := by
      intro b l hl hp p _ q n
      split
      · refine List.pairwise_cons.mpr ⟨fun y hy e => ?_, hp⟩
        subst e
        rcases hl _ hy with h | h <;> exact h rfl
      · exact hp
    have hl : ∀ y ∈ slotsF r c s d (i + 1) (if 2 ≤ runN r c s i false ∨ 2 ≤ runN r c s i true then m + 1 else m), y.f2 ≠ (i : Int) := by
      intro y hy
      obtain ⟨j, h1, h2, _⟩ := hm y (by omega) hy
      omega
    refine one false _ ?_ (one true _ (fun y hy => .inl (hl y hy)) ih _ _ _) _ _ _
    intro y hy
    rw [List.mem_append] at hy
    rcases hy with hy | hy
    · split at hy
      · simp only [List.mem_singleton] at hy; subst hy; right; simp
      · simp at hy
    · exact .inl (hl y hy)
theorem slots_nodup {r c : Nat} {s : ByteArray} : (slots r c s).Pairwise (fun x y => x ≠ y) := slotsF_nodup _ _ _ (by omega)
end Go.Proofs.Ytpcdfjcbjbkliaa.E
