import Derived.Test.YtpcdfjcbjbkliaaPc
namespace Go.Proofs.Ytpcdfjcbjbkliaa.E
open Go.RowKit Go.Proofs.YtpcdfjcbjbkliaaW.PrintWords Go.Proofs.YtpcdfjcbjbkliaaW.PrintLast Go.Proofs.YtpcdfjcbjbkliaaW.PrintMore
set_option linter.unusedVariables false
set_option linter.unusedSimpArgs false
/-! ### cells of slots -/
theorem rdT {xs : List S79} {i : Nat} (h : i < xs.length) : rd_T79 xs (i : Int) = xs[i] := by
  unfold rd_T79; simp [List.getD_eq_getElem?_getD, List.getElem?_eq_getElem h]
theorem rdI {xs : List Int} {i : Nat} (h : i < xs.length) : rd xs (i : Int) = xs[i] := by
  unfold rd; simp [List.getD_eq_getElem?_getD, List.getElem?_eq_getElem h]
theorem rdL {xs : List (List Int)} {i : Nat} (h : i < xs.length) : rd_L10 xs (i : Int) = xs[i] := by
  unfold rd_L10; simp [List.getD_eq_getElem?_getD, List.getElem?_eq_getElem h]
theorem S79_eq {x y : S79} (h0 : x.f0 = y.f0) (h1 : x.f1 = y.f1) (h2 : x.f2 = y.f2) (h3 : x.f3 = y.f3) : x = y := by
  cases x; cases y; simp_all
def cellsN (c : Nat) (x : S79) : List Int := (List.range x.f3.toNat).map fun i : Nat => x.f2 + (i : Int) * (if x.f1 = true then (c : Int) else 1)
/-- the numbers of a slot of a grid -/
theorem slot_nums {R C : Int} {s : ByteArray} {r c : Nat} (g : Gr R C s r c) {x : S79} (hx : x ∈ slots r c s) : ∃ j n : Nat, x.f2 = j ∧ x.f3 = n ∧ j < s.size ∧ 2 ≤ n ∧ n ≤ 6 ∧ ∀ i : Nat, i < n → j + i * (if x.f1 = true then c else 1) < s.size := by
  obtain ⟨j, h2, hj, h3, hn⟩ := (slots_ok hx).cell
  obtain ⟨hd, hm, _, _, hA, hB⟩ := gr_run g hj
  refine ⟨j, _, h2, h3, hj, hn, ?_, ?_⟩
  · unfold runN runAt
    have := g.r6; have := g.c6
    generalize j / c = q
    generalize j % c = m
    split
    · split
      · split
        · omega
        · have := cnt_le s j c (r - q) 0; omega
      · omega
    · split
      · split
        · omega
        · have := cnt_le s j 1 (c - m) 0; omega
      · omega
  · intro i hi
    unfold runN at hi
    by_cases e : x.f1 = true
    · rw [if_pos e] at hi ⊢
      apply hA
      unfold runAt at hi
      generalize j / c = q at hi hd ⊢
      split at hi
      · split at hi
        · omega
        · have := cnt_le s j c (r - q) 0; omega
      · omega
    · rw [if_neg e] at hi ⊢
      apply hB
      unfold runAt at hi
      generalize j % c = m at hi hm ⊢
      split at hi
      · split at hi
        · omega
        · have := cnt_le s j 1 (c - m) 0; omega
      · omega
theorem icells_l0 {x5 f0 f2 f3 : Int} {f1 : Bool} {j n st : Nat} (e5 : x5 = st) (e2 : f2 = j) (hj : j ≤ 36) (hn : n ≤ 6) (hs : st ≤ 6) : ∀ d i acc, i + d = n → acc.length = i →
    Ev (fun k => impl_cells.l0 k x5 acc (n : Int) (i : Int) f0 f1 f2 f3) (acc ++ (List.range d).map fun t => f2 + ((i + t : Nat) : Int) * x5)
  | 0, i, acc, h, ha => by
    refine Ev.succ (fun k => by rw [impl_cells.l0]) (Ev.neg (by omega) ?_)
    exact (Ev.pure acc).eq (by simp)
  | d + 1, i, acc, h, ha => by
    refine Ev.succ (fun k => by rw [impl_cells.l0]) (Ev.pos (by omega) (Ev.pos (by omega) ?_))
    have e : ((i * st : Nat) : Int) = (i : Int) * st := Int.natCast_mul i st
    have hle : i * st ≤ 6 * 6 := Nat.mul_le_mul (by omega) hs
    have ih := icells_l0 (f0 := f0) (f1 := f1) (f3 := f3) e5 e2 hj hn hs d (i + 1) (acc ++ [f2 + (i : Int) * x5]) (by omega) (by simp [ha])
    rw [e5, ← e, w64 (n := ((i * st : Nat) : Int)) (by omega), w64 (n := f2 + _) (by omega), w64 (n := (i : Int) + 1) (by omega), e, ← e5]
    rw [Int.natCast_add] at ih
    refine ih.eq ?_
    rw [List.append_assoc, List.range_succ_eq_map, List.map_cons, List.map_map]
    simp only [List.singleton_append, Nat.add_zero]
    congr 2
    apply List.map_congr_left
    intro t _
    simp only [Function.comp, Nat.succ_eq_add_one]
    congr 2
    omega
theorem icells {R C : Int} {s : ByteArray} {r c : Nat} (g : Gr R C s r c) {x : S79} (hx : x ∈ slots r c s) : Ev (fun k => impl_cells.f k R C s x.f0 x.f1 x.f2 x.f3) (cellsN c x) := by
  obtain ⟨j, n, h2, h3, hj, hn, hn6, _⟩ := slot_nums g hx
  have hz : s.size ≤ 36 := by have := g.sz; have := g.mx; omega
  have hc6 := g.c6
  unfold impl_cells.f cellsN
  by_cases e : x.f1 = true
  · refine Ev.pos e (Ev.succ (fun k => by rw [impl_cells.j0]) ?_)
    have := icells_l0 (f0 := x.f0) (f1 := x.f1) (f3 := x.f3) g.ec h2 (by omega) hn6 hc6 n 0 [] (by omega) rfl
    rw [← h3] at this
    exact this.eq (by simp [e, h3, g.ec])
  · refine Ev.neg e (Ev.succ (fun k => by rw [impl_cells.j0]) ?_)
    have := icells_l0 (x5 := 1) (st := 1) (f0 := x.f0) (f1 := x.f1) (f3 := x.f3) rfl h2 (by omega) hn6 (by omega) n 0 [] (by omega) rfl
    rw [← h3] at this
    exact this.eq (by simp [e, h3])
def layoutN (r c : Nat) (s : ByteArray) : List (List Int) := (slots r c s).map (cellsN c)
theorem ilayout_l0 {R C : Int} {s : ByteArray} {r c : Nat} (g : Gr R C s r c) : ∀ d i acc, i + d = (slots r c s).length → acc.length ≤ i →
    Ev (fun k => impl_layout.l0 k acc (slots r c s) ((slots r c s).length : Int) (i : Int) R C s) (acc ++ ((slots r c s).drop i).map (cellsN c))
  | 0, i, acc, h, ha => by
    refine Ev.succ (fun k => by rw [impl_layout.l0]) (Ev.neg (by omega) ?_)
    exact (Ev.pure acc).eq (by rw [List.drop_eq_nil_of_le (by omega)]; simp)
  | d + 1, i, acc, h, ha => by
    have hl := slots_len (r := r) (c := c) (s := s)
    have hz : s.size ≤ 36 := by have := g.sz; have := g.mx; omega
    refine Ev.succ (fun k => by rw [impl_layout.l0]) (Ev.pos (by omega) (Ev.pos (by omega) (Ev.pos (by omega) ?_)))
    rw [rdT (by omega), w64 (by omega)]
    refine Ev.bind (icells g (List.getElem_mem _)) (Ev.pos (by omega) ?_)
    have ih := ilayout_l0 g d (i + 1) (acc ++ [cellsN c (slots r c s)[i]]) (by omega) (by simp; omega)
    rw [Int.natCast_add] at ih
    exact ih.eq (by rw [List.drop_eq_getElem_cons (show i < (slots r c s).length by omega), List.map_cons, List.append_assoc]; rfl)
theorem ilayout {R C : Int} {s : ByteArray} {r c : Nat} (g : Gr R C s r c) (hg : isG R C s = true) : Ev (fun k => impl_layout.f k R C s) (layoutN r c s) := by
  unfold impl_layout.f layoutN
  refine Ev.bind (iSlotsOf g hg) ?_
  have := ilayout_l0 g (slots r c s).length 0 [] (by omega) (by simp)
  simpa using this
/-! spec.CellsOf -/
theorem sCells_l1 {R C : Int} {s : ByteArray} {xs : List S79} {x7 f0 f2 f3 : Int} {f1 : Bool} {j n c : Nat} {q : List Int} (eC : C = c) (e2 : f2 = j) (e3 : f3 = n) (hj : j ≤ 36) (hn : n ≤ 6) (hc : c ≤ 6) (h7 : Ev (fun k => spec_CellsOf.l0 k (cellsN c ⟨f0, f1, f2, f3⟩) xs (wrap64 (x7 + 1)) R C s f0 f1 f2 f3) q) :
    ∀ d i, i + d = n → Ev (fun k => spec_CellsOf.l1 k ((List.range i).map fun i : Nat => f2 + (i : Int) * (if f1 = true then (c : Int) else 1)) xs x7 (i : Int) R C s f0 f1 f2 f3) q
  | 0, i, h => by
    refine Ev.succ (fun k => by rw [spec_CellsOf.l1]) (Ev.neg (by omega) ?_)
    have : i = n := by omega
    subst this
    simpa [cellsN, e3] using h7
  | d + 1, i, h => by
    have ih := sCells_l1 (xs := xs) (s := s) (R := R) eC e2 e3 hj hn hc h7 d (i + 1) (by omega)
    rw [List.range_succ, List.map_append, List.map_singleton, Int.natCast_add] at ih
    refine Ev.succ (fun k => by rw [spec_CellsOf.l1]) (Ev.pos (by omega) ?_)
    have e : ((i * c : Nat) : Int) = (i : Int) * c := Int.natCast_mul i c
    have hle : i * c ≤ 6 * 6 := Nat.mul_le_mul (by omega) hc
    by_cases h1 : f1 = true
    · refine Ev.pos h1 (Ev.pos (by simp; omega) ?_)
      simp only [if_pos h1] at ih ⊢
      rw [eC] at ih ⊢
      rw [← e, w64 (n := ((i * c : Nat) : Int)) (by omega), w64 (n := f2 + _) (by omega), w64 (n := (i : Int) + 1) (by omega), e]
      exact ih
    · refine Ev.neg h1 (Ev.pos (by simp; omega) ?_)
      simp only [if_neg h1, Int.mul_one] at ih ⊢
      rw [w64 (n := f2 + _) (by omega), w64 (n := (i : Int) + 1) (by omega)]
      exact ih
theorem sCells_no {R C : Int} {s : ByteArray} {xs : List S79} (hl : xs.length ≤ 1000) {x : S79} {acc : List Int} : ∀ d i, i + d = xs.length → x ∉ xs.drop i → Ev (fun k => spec_CellsOf.l0 k acc xs (i : Int) R C s x.f0 x.f1 x.f2 x.f3) acc
  | 0, i, h, hx => Ev.succ (fun k => by rw [spec_CellsOf.l0]) (Ev.neg (by omega) (Ev.pure _))
  | d + 1, i, h, hx => by
    rw [List.drop_eq_getElem_cons (show i < xs.length by omega), List.mem_cons, not_or] at hx
    refine Ev.succ (fun k => by rw [spec_CellsOf.l0]) (Ev.pos (by omega) (Ev.pos (by omega) ?_))
    rw [rdT (by omega), w64 (by omega)]
    have ih := sCells_no (R := R) (C := C) (s := s) (acc := acc) hl d (i + 1) (by omega) hx.2
    rw [Int.natCast_add] at ih
    refine Ev.pos ?_ ih
    have hne := hx.1
    simp only [Bool.or_eq_true, Bool.not_eq_true', beq_eq_false_iff_ne, ne_eq]
    by_cases h0 : xs[i].f0 = x.f0
    · by_cases h1 : xs[i].f1 = x.f1
      · by_cases h2 : xs[i].f2 = x.f2
        · by_cases h3 : xs[i].f3 = x.f3
          · exact absurd (S79_eq h0 h1 h2 h3).symm hne
          · exact .inr (.inr (.inr h3))
        · exact .inr (.inr (.inl h2))
      · exact .inr (.inl h1)
    · exact .inl h0
theorem sCells_yes {R C : Int} {s : ByteArray} {xs : List S79} (hl : xs.length ≤ 1000) {x : S79} {j n c : Nat} (eC : C = c) (e2 : x.f2 = j) (e3 : x.f3 = n) (hj : j ≤ 36) (hn : n ≤ 6) (hc : c ≤ 6) : ∀ d i, i + d = xs.length → x ∈ xs.drop i → (xs.drop i).Pairwise (fun a b => a ≠ b) → Ev (fun k => spec_CellsOf.l0 k [] xs (i : Int) R C s x.f0 x.f1 x.f2 x.f3) (cellsN c x)
  | 0, i, h, hx, hp => by rw [List.drop_eq_nil_of_le (by omega)] at hx; simp at hx
  | d + 1, i, h, hx, hp => by
    rw [List.drop_eq_getElem_cons (show i < xs.length by omega)] at hx hp
    rw [List.pairwise_cons] at hp
    refine Ev.succ (fun k => by rw [spec_CellsOf.l0]) (Ev.pos (by omega) (Ev.pos (by omega) ?_))
    rw [rdT (by omega)]
    by_cases he : xs[i] = x
    · refine Ev.neg (by simp [he]) ?_
      have hno := sCells_no (R := R) (C := C) (s := s) (acc := cellsN c x) hl d (i + 1) (by omega) (x := x) (fun hm => hp.1 _ hm he)
      rw [Int.natCast_add] at hno
      have := sCells_l1 (xs := xs) (s := s) (R := R) (x7 := i) (f0 := x.f0) (f1 := x.f1) (q := cellsN c x) eC e2 e3 hj hn hc (by rw [w64 (by omega)]; exact hno) n 0 (by omega)
      simpa using this
    · have hx' : x ∈ xs.drop (i + 1) := by
        rcases List.mem_cons.mp hx with h | h
        · exact absurd h.symm he
        · exact h
      have ih := sCells_yes (R := R) (s := s) hl eC e2 e3 hj hn hc d (i + 1) (by omega) hx' hp.2
      rw [Int.natCast_add] at ih
      rw [w64 (by omega)]
      refine Ev.pos ?_ ih
      simp only [Bool.or_eq_true, Bool.not_eq_true', beq_eq_false_iff_ne, ne_eq]
      by_cases h0 : xs[i].f0 = x.f0
      · by_cases h1 : xs[i].f1 = x.f1
        · by_cases h2 : xs[i].f2 = x.f2
          · by_cases h3 : xs[i].f3 = x.f3
            · exact absurd (S79_eq h0 h1 h2 h3) he
            · exact .inr (.inr (.inr h3))
          · exact .inr (.inr (.inl h2))
        · exact .inr (.inl h1)
      · exact .inl h0
theorem sCells {R C : Int} {s : ByteArray} {r c : Nat} (g : Gr R C s r c) (hg : isG R C s = true) {x : S79} (hx : x ∈ slots r c s) : Ev (fun k => spec_CellsOf.f k R C s x.f0 x.f1 x.f2 x.f3) (cellsN c x) := by
  obtain ⟨j, n, h2, h3, hj, hn, hn6, _⟩ := slot_nums g hx
  have hz : s.size ≤ 36 := by have := g.sz; have := g.mx; omega
  have hl := slots_len (r := r) (c := c) (s := s)
  unfold spec_CellsOf.f
  refine Ev.bind (sSlotsOf g hg) ?_
  exact sCells_yes (by omega) g.ec h2 h3 (by omega) hn6 g.c6 (slots r c s).length 0 (by omega) (by simpa using hx) (by simpa using slots_nodup)
end Go.Proofs.Ytpcdfjcbjbkliaa.E
