import Derived.Test.YtpcdfjcbjbkliaaPe
namespace Go.Proofs.Ytpcdfjcbjbkliaa.E
open Go.RowKit Go.Proofs.YtpcdfjcbjbkliaaW.PrintWords Go.Proofs.YtpcdfjcbjbkliaaW.PrintLast Go.Proofs.YtpcdfjcbjbkliaaW.PrintMore
set_option linter.unusedVariables false
set_option linter.unusedSimpArgs false
/-! ### parts of a grid -/
def near (c i j : Nat) : Prop := (0 < i % c ∧ j + 1 = i) ∨ (0 < j % c ∧ i + 1 = j) ∨ j + c = i ∨ i + c = j
inductive Rch (s : ByteArray) (c N a : Nat) : Nat → Prop
  | base : a < N → bt s (a : Int) = 46 → Rch s c N a a
  | step {j i : Nat} : Rch s c N a j → i < N → bt s (i : Int) = 46 → near c i j → Rch s c N a i
theorem near_symm {c i j : Nat} (h : near c i j) : near c j i := by
  unfold near at h ⊢
  rcases h with h | h | h | h
  · exact .inr (.inl h)
  · exact .inl h
  · exact .inr (.inr (.inr h))
  · exact .inr (.inr (.inl h))
theorem Rch.lt {s : ByteArray} {c N a j : Nat} (h : Rch s c N a j) : j < N := by cases h <;> assumption
theorem Rch.white {s : ByteArray} {c N a j : Nat} (h : Rch s c N a j) : bt s (j : Int) = 46 := by cases h <;> assumption
theorem Rch.trans {s : ByteArray} {c N a b j : Nat} (h : Rch s c N a b) (h2 : Rch s c N b j) : Rch s c N a j := by
  induction h2 with
  | base _ _ => exact h
  | step _ hi hw hn ih => exact .step ih hi hw hn
theorem getD_set_true {S : List Bool} {i j : Nat} (hi : i < S.length) : (S.set i true).getD j false = if j = i then true else S.getD j false := by
  simp only [List.getD_eq_getElem?_getD, List.getElem?_set]
  by_cases e : i = j
  · subst e; simp [hi]
  · rw [if_neg e, if_neg (fun h => e h.symm)]
theorem count_set {S : List Bool} : ∀ {i : Nat}, i < S.length → S.getD i false = false → (S.set i true).count false + 1 = S.count false := by
  induction S with
  | nil => intro i hi; simp at hi
  | cons b t ih =>
    intro i hi h
    cases i with
    | zero =>
      have : b = false := by simpa using h
      subst this
      simp [List.set_cons_zero, List.count_cons]
    | succ i =>
      have := ih (i := i) (by simpa using hi) (by simpa using h)
      rw [List.set_cons_succ, List.count_cons, List.count_cons]
      omega
theorem near_one {α : Type} {F : Nat → Bool → Option α} {q : α} {p : Prop} [d : Decidable p] {S : List Bool} {j : Int} {D : Option Bool} {b : Bool} (e : rdOf false S j = b) (hA : p → 0 ≤ j) (hB : p → j < (S.length : Int)) (hx : p → b = true → Ev (fun k => F k true) q) (hy : (p → b = false) → Ev (fun k => D.bind (F k)) q) :
    Ev (fun k => (spec_l10Reach.n1 p S j D).bind (F k)) q := by
  unfold spec_l10Reach.n1
  by_cases hp : p
  · simp only [if_pos hp, if_pos (hA hp), if_pos (hB hp), e]
    cases b with
    | true => exact hx hp rfl
    | false => exact hy (fun _ => rfl)
  · simp only [if_neg hp]
    exact hy (fun h => absurd h hp)
theorem reach_j2 {R C : Int} {s : ByteArray} {r c : Nat} (g : Gr R C s r c) {S : List Bool} {ag : Bool} {i : Nat} {q : List Bool} (hi : i < s.size) (hS : S.length = s.size)
    (hset : (∃ j, j < s.size ∧ near c i j ∧ S.getD j false = true) → Ev (fun k => spec_l10Reach.l1 k (S.set i true) true ((i + 1 : Nat) : Int) R C s) q)
    (hno : (∀ j, j < s.size → near c i j → S.getD j false = false) → Ev (fun k => spec_l10Reach.l1 k S ag ((i + 1 : Nat) : Int) R C s) q) :
    Ev (fun k => spec_l10Reach.j2 k S ag (i : Int) false R C s) q := by
  have hz : s.size ≤ 36 := by have := g.sz; have := g.mx; omega
  have hc2 := g.c2
  have hc6 := g.c6
  have hm : i % c < c := Nat.mod_lt _ (by omega)
  refine Ev.succ (fun k => by rw [spec_l10Reach.j2]) ?_
  rw [g.ec]
  have e2 : Int.tmod (i : Int) (c : Int) = ((i % c : Nat) : Int) := rfl
  have d1 : (0 : Nat) < i % c → 1 ≤ i := fun h => by
    rcases Nat.eq_zero_or_pos i with h0 | h0
    · subst h0; simp at h
    · exact h0
  have d2 : ∀ x, i % c = x → x + 1 < c → i + 1 < s.size ∧ 0 < (i + 1) % c := fun x hx h => by
    have h4 := (gr_run g hi).2.2.2.2.2 1 (by omega)
    refine ⟨by omega, ?_⟩
    have : (i + 1) % c = x + 1 := by
      rw [Nat.add_mod, hx, Nat.mod_eq_of_lt (show 1 < c by omega)]
      exact Nat.mod_eq_of_lt h
    omega
  have d3 : ∀ j, i + 1 = j → 0 < j % c → i % c + 1 < c := fun j hj h => by
    subst hj
    rcases Nat.lt_or_ge (i % c + 1) c with h1 | h1
    · exact h1
    · have e : i % c + 1 = c := by omega
      have : (i + 1) % c = 0 := by
        rw [Nat.add_mod, Nat.mod_eq_of_lt (show 1 < c by omega), e, Nat.mod_self]
      omega
  unfold spec_l10Reach.nr
  rw [e2]
  have eC : ((c : Nat) : Int) ≠ 0 := by omega
  have fin0 : (∃ j, j < s.size ∧ near c i j ∧ S.getD j false = true) → Ev (fun k => (if 0 ≤ (i : Int) then (if (i : Int) < (S.length : Int) then (spec_l10Reach.l1 k (S.set ((i : Int)).toNat true) true (wrap64 ((i : Int) + 1)) R (c : Int) s) else none) else none)) q := fun h => by
    refine Ev.pos (by omega) (Ev.pos (by omega) ?_)
    have := hset h
    rw [Int.natCast_add, g.ec] at this
    rw [w64 (by omega)]
    exact this
  have fin1 : (∀ j, j < s.size → near c i j → S.getD j false = false) → Ev (fun k => spec_l10Reach.l1 k S ag (wrap64 ((i : Int) + 1)) R (c : Int) s) q := fun h => by
    have := hno h
    rw [Int.natCast_add, g.ec] at this
    rw [w64 (by omega)]
    exact this
  generalize hmm : i % c = m at *
  refine Ev.neg (by decide) (Ev.neg eC ?_)
  rw [w64 (n := (i : Int) - 1) (by omega), w64 (n := (m : Int) + 1) (by omega), w64 (n := (i : Int) - c) (by omega), w64 (n := (i : Int) + c) (by omega)]
  rw [w64 (n := (i : Int) + 1) (by omega)] at fin0 fin1 ⊢
  have t1 : ((i : Int) - 1).toNat = i - 1 := by omega
  have t2 : ((i : Int) + 1).toNat = i + 1 := by omega
  have t3 : ((i : Int) - c).toNat = i - c := by omega
  have t4 : ((i : Int) + c).toNat = i + c := by omega
  have fin2 : (∃ j, j < s.size ∧ near c i j ∧ S.getD j false = true) → Ev (fun k => if true = true then (if 0 ≤ (i : Int) then (if (i : Int) < (S.length : Int) then (spec_l10Reach.l1 k (S.set ((i : Int)).toNat true) true ((i : Int) + 1) R (c : Int) s) else none) else none) else (spec_l10Reach.l1 k S ag ((i : Int) + 1) R (c : Int) s)) q := fun h => Ev.pos rfl (fin0 h)
  refine near_one rfl (fun h => by have := d1 (by omega); omega) (fun h => by omega) (fun h b => fin2 ⟨i - 1, by omega, .inl ⟨by omega, by have := d1 (by omega); omega⟩, by simp only [rdOf, t1] at b; exact b⟩) (fun n1 => ?_)
  refine near_one rfl (fun h => by omega) (fun h => by have := d2 m rfl (by omega); omega) (fun h b => fin2 ⟨i + 1, (d2 m rfl (by omega)).1, .inr (.inl ⟨(d2 m rfl (by omega)).2, rfl⟩), by simp only [rdOf, t2] at b; exact b⟩) (fun n2 => ?_)
  refine near_one rfl (fun h => by omega) (fun h => by omega) (fun h b => fin2 ⟨i - c, by omega, .inr (.inr (.inl (by omega))), by simp only [rdOf, t3] at b; exact b⟩) (fun n3 => ?_)
  refine near_one rfl (fun h => by omega) (fun h => by omega) (fun h b => fin2 ⟨i + c, by omega, .inr (.inr (.inr rfl)), by simp only [rdOf, t4] at b; exact b⟩) (fun n4 => ?_)
  simp only [rdOf, t1] at n1
  simp only [rdOf, t2] at n2
  simp only [rdOf, t3] at n3
  simp only [rdOf, t4] at n4
  show Ev (fun k => if false = true then (if 0 ≤ (i : Int) then (if (i : Int) < (S.length : Int) then (spec_l10Reach.l1 k (S.set ((i : Int)).toNat true) true ((i : Int) + 1) R (c : Int) s) else none) else none) else (spec_l10Reach.l1 k S ag ((i : Int) + 1) R (c : Int) s)) q
  refine Ev.neg (by decide) ?_
  refine fin1 (fun j hj hn => ?_)
  rcases hn with ⟨h1, h2⟩ | ⟨h1, h2⟩ | h1 | h1
  · have := n1 (by omega); rw [show j = i - 1 by omega]; exact this
  · have := n2 (by have := d3 j h2 h1; omega); rw [show j = i + 1 by omega]; exact this
  · have := n3 (by omega); rw [show j = i - c by omega]; exact this
  · have := n4 (by omega); rw [show j = i + c by omega]; exact this
theorem reach_pass {R C : Int} {s : ByteArray} {r c a : Nat} (g : Gr R C s r c) : ∀ d i (S : List Bool) (ag : Bool), i + d = s.size → S.length = s.size →
    ∃ (S' : List Bool) (ag' : Bool), (∀ q, Ev (fun k => spec_l10Reach.l0 k S' ag' R C s) q → Ev (fun k => spec_l10Reach.l1 k S ag (i : Int) R C s) q) ∧ S'.length = s.size ∧
      (∀ j, S.getD j false = true → S'.getD j false = true) ∧
      ((∀ j, S.getD j false = true → Rch s c s.size a j) → ∀ j, S'.getD j false = true → Rch s c s.size a j) ∧
      (ag' = true → ag = true ∨ S'.count false < S.count false) ∧ S'.count false ≤ S.count false ∧
      (ag' = false → ag = false ∧ S' = S ∧ ∀ j, i ≤ j → j < s.size → bt s (j : Int) = 46 → S.getD j false = false → ∀ j', j' < s.size → near c j j' → S.getD j' false = false)
  | 0, i, S, ag, h, hS => by
    refine ⟨S, ag, fun q hq => ?_, hS, fun _ h => h, fun h => h, fun h => .inl h, Nat.le_refl _, fun h => ⟨h, rfl, fun j h1 h2 => by omega⟩⟩
    refine Ev.succ (fun k => by rw [spec_l10Reach.l1]) ?_
    exact Ev.neg (by omega) hq
  | d + 1, i, S, ag, h, hS => by
    have hz : s.size ≤ 36 := by have := g.sz; have := g.mx; omega
    -- the cell is met already, or black
    by_cases hsk : S.getD i false = true ∨ bt s (i : Int) ≠ 46
    · obtain ⟨S', ag', h1, h2, h3, h4, h5, h6, h7⟩ := reach_pass g (a := a) d (i + 1) S ag (by omega) hS
      refine ⟨S', ag', fun q hq => ?_, h2, h3, h4, h5, h6, fun hf => ⟨(h7 hf).1, (h7 hf).2.1, fun j hj1 hj2 hw hu => ?_⟩⟩
      · have hl := h1 q hq
        rw [Int.natCast_add] at hl
        have hj : ∀ b : Bool, b = true → Ev (fun k => spec_l10Reach.j2 k S ag (i : Int) b R C s) q := by
          rintro b rfl
          refine Ev.succ (fun k => by rw [spec_l10Reach.j2]) ?_
          rw [w64 (by omega)]
          exact Ev.pos rfl hl
        refine Ev.succ (fun k => by rw [spec_l10Reach.l1]) (Ev.pos (by omega) (Ev.pos (by omega) ?_))
        by_cases e : rdOf false S (i : Int) = true
        · exact Ev.pos e (hj true rfl)
        · refine Ev.neg e (Ev.pos (by omega) (hj _ ?_))
          rcases hsk with hsk | hsk
          · exact absurd hsk (by simpa [rdOf] using e)
          · simpa using hsk
      · by_cases e : j = i
        · subst e
          rcases hsk with hsk | hsk
          · rw [hsk] at hu; cases hu
          · exact absurd hw hsk
        · exact (h7 hf).2.2 j (by omega) hj2 hw hu
    · have hw : bt s (i : Int) = 46 := Classical.byContradiction fun h => hsk (.inr h)
      have hm' : S.getD i false = false := by simpa using fun h => hsk (.inl h)
      have enter : ∀ q, Ev (fun k => spec_l10Reach.j2 k S ag (i : Int) false R C s) q → Ev (fun k => spec_l10Reach.l1 k S ag (i : Int) R C s) q := fun q hq => by
        refine Ev.succ (fun k => by rw [spec_l10Reach.l1]) (Ev.pos (by omega) (Ev.pos (by omega) ?_))
        refine Ev.neg (by simpa [rdOf] using hm') (Ev.pos (by omega) ?_)
        rw [hw]
        exact hq
      by_cases hex : ∃ j, j < s.size ∧ near c i j ∧ S.getD j false = true
      · obtain ⟨S', ag', h1, h2, h3, h4, h5, h6, h7⟩ := reach_pass g (a := a) d (i + 1) (S.set i true) true (by omega) (by rw [List.length_set]; exact hS)
        have hc := count_set (S := S) (i := i) (by omega) hm'
        have hgs : ∀ j, (S.set i true).getD j false = if j = i then true else S.getD j false := fun j => getD_set_true (by omega)
        refine ⟨S', ag', fun q hq => enter q (reach_j2 g (by omega) hS (fun _ => h1 q hq) (fun hno => ?_)), h2, fun j hj => h3 j ?_, fun hs => h4 (fun j hj => ?_), fun _ => .inr (by omega), by omega, fun hf => absurd (h7 hf).1 (by decide)⟩
        · obtain ⟨j, hj1, hj2, hj3⟩ := hex
          rw [hno j hj1 hj2] at hj3; cases hj3
        · rw [hgs]; split
          · rfl
          · exact hj
        · rw [hgs] at hj
          by_cases e : j = i
          · subst e
            obtain ⟨j', hj1, hj2, hj3⟩ := hex
            exact .step (hs j' hj3) (by omega) hw hj2
          · rw [if_neg e] at hj; exact hs j hj
      · have hno : ∀ j, j < s.size → near c i j → S.getD j false = false := fun j h1 h2 => by
          cases e : S.getD j false with
          | true => exact absurd ⟨j, h1, h2, e⟩ hex
          | false => rfl
        obtain ⟨S', ag', h1, h2, h3, h4, h5, h6, h7⟩ := reach_pass g (a := a) d (i + 1) S ag (by omega) hS
        refine ⟨S', ag', fun q hq => enter q (reach_j2 g (by omega) hS (fun hx => absurd hx hex) (fun _ => h1 q hq)), h2, h3, h4, h5, h6, fun hf => ⟨(h7 hf).1, (h7 hf).2.1, fun j hj1 hj2 hw' hu => ?_⟩⟩
        by_cases e : j = i
        · subst e; exact hno
        · exact (h7 hf).2.2 j (by omega) hj2 hw' hu
theorem reach_t {R C : Int} {s : ByteArray} {S q : List Bool} (h : Ev (fun k => spec_l10Reach.l1 k S false ((0 : Nat) : Int) R C s) q) : Ev (fun k => spec_l10Reach.l0 k S true R C s) q := by
  refine Ev.succ (fun k => by rw [spec_l10Reach.l0]) ?_
  exact Ev.pos rfl h
theorem reach_n {R C : Int} {s : ByteArray} {S : List Bool} : Ev (fun k => spec_l10Reach.l0 k S false R C s) S := by
  refine Ev.succ (fun k => by rw [spec_l10Reach.l0]) ?_
  exact Ev.neg (by decide) (Ev.pure _)
theorem reach_l0 {R C : Int} {s : ByteArray} {r c a : Nat} (g : Gr R C s r c) : ∀ n (S : List Bool), S.count false ≤ n → S.length = s.size → (∀ j, S.getD j false = true → Rch s c s.size a j) →
    ∃ S', Ev (fun k => spec_l10Reach.l0 k S true R C s) S' ∧ S'.length = s.size ∧ (∀ j, S.getD j false = true → S'.getD j false = true) ∧ (∀ j, S'.getD j false = true → Rch s c s.size a j) ∧
      (∀ j, j < s.size → bt s (j : Int) = 46 → S'.getD j false = false → ∀ j', j' < s.size → near c j j' → S'.getD j' false = false) := by
  intro n
  induction n with
  | zero =>
    intro S hn hS hs
    obtain ⟨S', ag', h1, h2, h3, h4, h5, h6, h7⟩ := reach_pass g (a := a) s.size 0 S false (by omega) hS
    have hag : ag' = false := by
      cases e : ag' with
      | false => rfl
      | true => rcases h5 e with h | h
                · cases h
                · omega
    subst hag
    obtain ⟨_, rfl, hcl⟩ := h7 rfl
    refine ⟨S', reach_t (h1 S' reach_n), hS, fun _ h => h, hs, fun j hj => hcl j (by omega) hj⟩
  | succ n ih =>
    intro S hn hS hs
    obtain ⟨S', ag', h1, h2, h3, h4, h5, h6, h7⟩ := reach_pass g (a := a) s.size 0 S false (by omega) hS
    cases ag' with
    | false =>
      obtain ⟨_, rfl, hcl⟩ := h7 rfl
      refine ⟨S', reach_t (h1 S' reach_n), hS, fun _ h => h, hs, fun j hj => hcl j (by omega) hj⟩
    | true =>
      obtain ⟨S2, k1, k2, k3, k4, k5⟩ := ih S' (by rcases h5 rfl with h | h
                                                   · cases h
                                                   · omega) h2 (h4 hs)
      exact ⟨S2, reach_t (h1 S2 k1), k2, fun j hj => k3 j (h3 j hj), k4, k5⟩
theorem reach_f {R C : Int} {s : ByteArray} {r c a : Nat} (g : Gr R C s r c) (ha : a < s.size) (hw : bt s (a : Int) = 46) : ∃ S', Ev (fun k => spec_l10Reach.f k R C s (List.replicate s.size false) (a : Int)) S' ∧ S'.length = s.size ∧ ∀ j, S'.getD j false = true ↔ Rch s c s.size a j := by
  have hrep : ∀ j, (List.replicate s.size false).getD j false = false := fun j => by
    simp only [List.getD_eq_getElem?_getD, List.getElem?_replicate]
    split <;> rfl
  have hgs : ∀ j, ((List.replicate s.size false).set a true).getD j false = if j = a then true else false := fun j => by rw [getD_set_true (by simpa using ha), hrep]
  obtain ⟨S', k1, k2, k3, k4, k5⟩ := reach_l0 g (a := a) _ ((List.replicate s.size false).set a true) (Nat.le_refl _) (by simp) (fun j hj => by
    rw [hgs] at hj
    split at hj
    · subst_vars; exact .base ha hw
    · cases hj)
  refine ⟨S', ?_, k2, fun j => ⟨k4 j, fun h => ?_⟩⟩
  · unfold spec_l10Reach.f
    exact Ev.pos (by omega) (Ev.pos (by simpa using ha) k1)
  · induction h with
    | base _ _ => exact k3 a (by rw [hgs, if_pos rfl])
    | step hj hi hwi hn ih =>
      rename_i j i
      cases e : S'.getD i false with
      | true => rfl
      | false =>
        have := k5 i hi hwi e j hj.lt hn
        rw [ih] at this; cases this
end Go.Proofs.Ytpcdfjcbjbkliaa.E
