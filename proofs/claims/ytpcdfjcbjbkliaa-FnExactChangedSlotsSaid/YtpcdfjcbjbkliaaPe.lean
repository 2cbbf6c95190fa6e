import Derived.Test.YtpcdfjcbjbkliaaPd
namespace Go.Proofs.Ytpcdfjcbjbkliaa.E
open Go.RowKit Go.Proofs.YtpcdfjcbjbkliaaW.PrintWords Go.Proofs.YtpcdfjcbjbkliaaW.PrintLast Go.Proofs.YtpcdfjcbjbkliaaW.PrintMore
set_option linter.unusedVariables false
set_option linter.unusedSimpArgs false
/-! ### slots at a cell -/
def atF (a : Int) : List (List Int) → Nat → List Int
  | [], _ => []
  | l :: t, i => (if a ∈ l then [(i : Int)] else []) ++ atF a t (i + 1)
theorem atF_len (a : Int) : ∀ L i, (atF a L i).length ≤ L.length
  | [], _ => by simp [atF]
  | l :: t, i => by
    unfold atF
    have := atF_len a t (i + 1)
    rw [List.length_append, List.length_cons]
    have := len1 (a ∈ l) (i : Int)
    omega
theorem atF_zero (a : Int) : ∀ L i, (atF a L i).length = 0 ↔ a ∉ L.flatten
  | [], _ => by simp [atF]
  | l :: t, i => by
    unfold atF
    have := atF_zero a t (i + 1)
    by_cases h : a ∈ l
    · simp [h]
    · rw [if_neg h, List.nil_append, this, List.flatten_cons, List.mem_append]; simp [h]
theorem index_ev {xs : List Int} {a : Int} (hl : xs.length ≤ 100000) : ∀ d i, i + d = xs.length → ∃ v : Int, Ev (fun k => slices_Index_int_int.l0 k xs a (xs.length : Int) (i : Int)) v ∧ (v ≥ 0 ↔ a ∈ xs.drop i)
  | 0, i, h => ⟨-1, Ev.succ (fun k => by rw [slices_Index_int_int.l0]) (Ev.neg (by omega) (Ev.pure _)), by rw [List.drop_eq_nil_of_le (by omega)]; simp⟩
  | d + 1, i, h => by
    obtain ⟨v, hv, he⟩ := index_ev (a := a) hl d (i + 1) (by omega)
    have hr := rdI (xs := xs) (i := i) (by omega)
    rw [List.drop_eq_getElem_cons (show i < xs.length by omega)]
    by_cases e : a = xs[i]
    · exact ⟨i, Ev.succ (fun k => by rw [slices_Index_int_int.l0]) (Ev.pos (by omega) (Ev.pos (by omega) (Ev.pos (by omega) (Ev.pos (by rw [hr]; exact e) (Ev.pure _))))), ⟨fun _ => by rw [e]; exact List.mem_cons_self, fun _ => by omega⟩⟩
    · refine ⟨v, Ev.succ (fun k => by rw [slices_Index_int_int.l0]) (Ev.pos (by omega) (Ev.pos (by omega) (Ev.pos (by omega) (Ev.neg (by rw [hr]; exact e) ?_)))), by rw [he, List.mem_cons]; exact ⟨.inr, fun h => h.elim (fun h => absurd h e) id⟩⟩
      rw [w64 (by omega)]
      rw [Int.natCast_add] at hv
      exact hv
theorem contains_ev {xs : List Int} {a : Int} (hl : xs.length ≤ 100000) : Ev (fun k => slices_Contains_int_int.f k xs a) (decide (a ∈ xs)) := by
  obtain ⟨v, hv, he⟩ := index_ev (a := a) hl xs.length 0 (by omega)
  unfold slices_Contains_int_int.f slices_Index_int_int.f
  refine Ev.bind hv ?_
  refine (Ev.pure _).eq ?_
  rw [List.drop_zero] at he
  simp only [he]
theorem has_ev {xs : List Int} {a : Int} (hl : xs.length ≤ 100000) : ∀ d i, i + d = xs.length → Ev (fun k => spec_l8Has.l0 k xs a (i : Int)) (decide (a ∈ xs.drop i))
  | 0, i, h => Ev.succ (fun k => by rw [spec_l8Has.l0]) (Ev.neg (by omega) ((Ev.pure _).eq (by rw [List.drop_eq_nil_of_le (by omega)]; simp)))
  | d + 1, i, h => by
    have ih := has_ev (a := a) hl d (i + 1) (by omega)
    have hr := rdI (xs := xs) (i := i) (by omega)
    rw [List.drop_eq_getElem_cons (show i < xs.length by omega)]
    refine Ev.succ (fun k => by rw [spec_l8Has.l0]) (Ev.pos (by omega) (Ev.pos (by omega) ?_))
    rw [hr, w64 (by omega)]
    rw [Int.natCast_add] at ih
    by_cases e : xs[i] = a
    · exact Ev.pos e ((Ev.pure _).eq (by simp [e]))
    · refine Ev.neg e (ih.eq ?_)
      have : (a ∈ xs.drop (i + 1)) ↔ (a ∈ xs[i] :: xs.drop (i + 1)) := by rw [List.mem_cons]; exact ⟨.inr, fun h => h.elim (fun h => absurd h.symm e) id⟩
      simp only [this]
theorem layout_mem {R C : Int} {s : ByteArray} {r c : Nat} (g : Gr R C s r c) {l : List Int} (hl : l ∈ layoutN r c s) : l.length ≤ 6 ∧ ∀ a ∈ l, 0 ≤ a ∧ a < (s.size : Int) := by
  unfold layoutN at hl
  obtain ⟨x, hx, rfl⟩ := List.mem_map.mp hl
  obtain ⟨j, n, h2, h3, hj, hn, hn6, hin⟩ := slot_nums g hx
  unfold cellsN
  refine ⟨by simp [h3]; omega, fun a ha => ?_⟩
  obtain ⟨i, hi, rfl⟩ := List.mem_map.mp ha
  rw [List.mem_range, h3] at hi
  have := hin i (by omega)
  rw [h2]
  by_cases e : x.f1 = true
  · rw [if_pos e] at this ⊢
    rw [← Int.natCast_mul]
    omega
  · rw [if_neg e] at this ⊢
    omega
theorem layout_len {R C : Int} {s : ByteArray} {r c : Nat} (g : Gr R C s r c) : (layoutN r c s).length = (slots r c s).length ∧ (layoutN r c s).length ≤ 72 := by
  have hl := slots_len (r := r) (c := c) (s := s)
  have hz : s.size ≤ 36 := by have := g.sz; have := g.mx; omega
  unfold layoutN
  simp only [List.length_map, true_and]
  omega
theorem layout_at {r c : Nat} {s : ByteArray} {i : Nat} (h : i < (layoutN r c s).length) (h' : i < (slots r c s).length) : (layoutN r c s)[i] = cellsN c (slots r c s)[i] := List.getElem_map (cellsN c)
theorem iSlotsAt_l0 {L : List (List Int)} {a : Int} (hL : L.length ≤ 72) (h6 : ∀ l ∈ L, l.length ≤ 6) : ∀ d i acc, i + d = L.length → acc.length ≤ i →
    Ev (fun k => impl_SlotsAt.l0 k a acc L (L.length : Int) (i : Int)) (acc ++ atF a (L.drop i) i)
  | 0, i, acc, h, ha => Ev.succ (fun k => by rw [impl_SlotsAt.l0]) (Ev.neg (by omega) ((Ev.pure _).eq (by rw [List.drop_eq_nil_of_le (by omega)]; simp [atF])))
  | d + 1, i, acc, h, ha => by
    refine Ev.succ (fun k => by rw [impl_SlotsAt.l0]) (Ev.pos (by omega) (Ev.pos (by omega) (Ev.pos (by omega) ?_)))
    rw [rdL (by omega), w64 (by omega)]
    refine Ev.bind (contains_ev (by have := h6 L[i] (List.getElem_mem _); omega)) ?_
    rw [List.drop_eq_getElem_cons (show i < L.length by omega), atF]
    by_cases e : a ∈ L[i]
    · have ih := iSlotsAt_l0 (a := a) hL h6 d (i + 1) (acc ++ [(i : Int)]) (by omega) (by simp; omega)
      rw [Int.natCast_add] at ih
      exact Ev.pos (by simpa using e) (Ev.pos (by omega) (ih.eq (by simp [e])))
    · have ih := iSlotsAt_l0 (a := a) hL h6 d (i + 1) acc (by omega) (by omega)
      rw [Int.natCast_add] at ih
      exact Ev.neg (by simpa using e) (ih.eq (by simp [e]))
theorem iSlotsAt {R C : Int} {s : ByteArray} {r c : Nat} (g : Gr R C s r c) (hg : isG R C s = true) (a : Int) : Ev (fun k => impl_SlotsAt.f k R C s a) (atF a (layoutN r c s) 0) := by
  unfold impl_SlotsAt.f
  refine Ev.bind (ilayout g hg) ?_
  have := iSlotsAt_l0 (a := a) (layout_len g).2 (fun l hl => (layout_mem g hl).1) (layoutN r c s).length 0 [] (by omega) (by simp)
  simpa using this
theorem sSlotsAt_l0 {R C : Int} {s : ByteArray} {r c : Nat} (g : Gr R C s r c) (hg : isG R C s = true) {a : Int} : ∀ d i acc, i + d = (slots r c s).length → acc.length ≤ i →
    Ev (fun k => spec_SlotsAt.l0 k a acc (slots r c s) (i : Int) R C s) (acc ++ atF a ((layoutN r c s).drop i) i)
  | 0, i, acc, h, ha => Ev.succ (fun k => by rw [spec_SlotsAt.l0]) (Ev.neg (by omega) ((Ev.pure _).eq (by rw [List.drop_eq_nil_of_le (by rw [(layout_len g).1]; omega)]; simp [atF])))
  | d + 1, i, acc, h, ha => by
    have hll := layout_len g
    refine Ev.succ (fun k => by rw [spec_SlotsAt.l0]) (Ev.pos (by omega) (Ev.pos (by omega) ?_))
    rw [rdT (by omega), w64 (by omega)]
    refine Ev.bind (sCells g hg (List.getElem_mem _)) ?_
    have e0 := layout_at (i := i) (show i < (layoutN r c s).length by omega) (by omega)
    have h6 := (layout_mem g (List.getElem_mem (l := layoutN r c s) (n := i) (by omega))).1
    rw [e0] at h6
    have hh := has_ev (a := a) (xs := cellsN c (slots r c s)[i]) (by omega) (cellsN c (slots r c s)[i]).length 0 (by omega)
    rw [List.drop_zero] at hh
    unfold spec_l8Has.f
    refine Ev.bind hh ?_
    rw [List.drop_eq_getElem_cons (show i < (layoutN r c s).length by omega), atF, e0]
    by_cases e : a ∈ cellsN c (slots r c s)[i]
    · have ih := sSlotsAt_l0 g hg (a := a) d (i + 1) (acc ++ [(i : Int)]) (by omega) (by simp; omega)
      rw [Int.natCast_add] at ih
      exact Ev.pos (by simpa using e) (Ev.pos (by omega) (ih.eq (by simp [e])))
    · have ih := sSlotsAt_l0 g hg (a := a) d (i + 1) acc (by omega) (by omega)
      rw [Int.natCast_add] at ih
      exact Ev.neg (by simpa using e) (ih.eq (by simp [e]))
theorem sSlotsAt {R C : Int} {s : ByteArray} {r c : Nat} (g : Gr R C s r c) (hg : isG R C s = true) (a : Int) : Ev (fun k => spec_SlotsAt.f k R C s a) (atF a (layoutN r c s) 0) := by
  unfold spec_SlotsAt.f
  refine Ev.bind (sSlotsOf g hg) ?_
  have := sSlotsAt_l0 g hg (a := a) (slots r c s).length 0 [] (by omega) (by simp)
  simpa using this
/-! ### unchecked cells -/
def unF (L : List (List Int)) : List Int → Nat → Nat
  | [], n => n
  | a :: t, n => unF L t (if (atF a L 0).length = 2 then n else n + 1)
theorem unF_le (L : List (List Int)) : ∀ l n, unF L l n ≤ n + l.length
  | [], n => by simp [unF]
  | a :: t, n => by
    unfold unF
    have := unF_le L t (if (atF a L 0).length = 2 then n else n + 1)
    rw [List.length_cons]
    split at this <;> split <;> simp_all <;> omega
theorem iUn_l0 {R C : Int} {s : ByteArray} {r c : Nat} (g : Gr R C s r c) (hg : isG R C s = true) {l : List Int} (h6 : l.length ≤ 6) : ∀ d i n, i + d = l.length → n ≤ i →
    Ev (fun k => impl_UncheckedIn.l0 k (n : Int) l (l.length : Int) (i : Int) R C s) (unF (layoutN r c s) (l.drop i) n : Int)
  | 0, i, n, h, hn => Ev.succ (fun k => by rw [impl_UncheckedIn.l0]) (Ev.neg (by omega) ((Ev.pure _).eq (by rw [List.drop_eq_nil_of_le (by omega)]; simp [unF])))
  | d + 1, i, n, h, hn => by
    refine Ev.succ (fun k => by rw [impl_UncheckedIn.l0]) (Ev.pos (by omega) (Ev.pos (by omega) (Ev.pos (by omega) ?_)))
    rw [rdI (by omega), w64 (n := (i : Int) + 1) (by omega), w64 (n := (n : Int) + 1) (by omega)]
    unfold impl_IsChecked.f
    refine Ev.bind (Ev.bind (iSlotsAt g hg _) (Ev.pure _)) ?_
    rw [List.drop_eq_getElem_cons (show i < l.length by omega), unF]
    by_cases e : (atF l[i] (layoutN r c s) 0).length = 2
    · have ih := iUn_l0 g hg h6 d (i + 1) n (by omega) (by omega)
      rw [Int.natCast_add] at ih
      exact Ev.pos (by simp; omega) (ih.eq (by rw [if_pos e]))
    · have ih := iUn_l0 g hg h6 d (i + 1) (n + 1) (by omega) (by omega)
      rw [Int.natCast_add, Int.natCast_add] at ih
      exact Ev.neg (by simp; omega) (ih.eq (by rw [if_neg e]))
theorem sUn_l0 {R C : Int} {s : ByteArray} {r c : Nat} (g : Gr R C s r c) (hg : isG R C s = true) {l : List Int} (h6 : l.length ≤ 6) : ∀ d i n, i + d = l.length → n ≤ i →
    Ev (fun k => spec_UncheckedIn.l0 k l (n : Int) (i : Int) R C s) (unF (layoutN r c s) (l.drop i) n : Int)
  | 0, i, n, h, hn => Ev.succ (fun k => by rw [spec_UncheckedIn.l0]) (Ev.neg (by omega) ((Ev.pure _).eq (by rw [List.drop_eq_nil_of_le (by omega)]; simp [unF])))
  | d + 1, i, n, h, hn => by
    refine Ev.succ (fun k => by rw [spec_UncheckedIn.l0]) (Ev.pos (by omega) (Ev.pos (by omega) ?_))
    rw [rdI (by omega), w64 (n := (i : Int) + 1) (by omega), w64 (n := (n : Int) + 1) (by omega)]
    unfold spec_IsChecked.f
    refine Ev.bind (Ev.bind (sSlotsAt g hg _) (Ev.pure _)) ?_
    rw [List.drop_eq_getElem_cons (show i < l.length by omega), unF]
    by_cases e : (atF l[i] (layoutN r c s) 0).length = 2
    · have ih := sUn_l0 g hg h6 d (i + 1) n (by omega) (by omega)
      rw [Int.natCast_add] at ih
      exact Ev.pos (by simp; omega) (ih.eq (by rw [if_pos e]))
    · have ih := sUn_l0 g hg h6 d (i + 1) (n + 1) (by omega) (by omega)
      rw [Int.natCast_add, Int.natCast_add] at ih
      exact Ev.neg (by simp; omega) (ih.eq (by rw [if_neg e]))
theorem iUn {R C : Int} {s : ByteArray} {r c : Nat} (g : Gr R C s r c) (hg : isG R C s = true) {i : Nat} (hi : i < (layoutN r c s).length) : Ev (fun k => impl_UncheckedIn.f k R C s (i : Int)) (unF (layoutN r c s) (layoutN r c s)[i] 0 : Int) := by
  unfold impl_UncheckedIn.f
  refine Ev.bind (ilayout g hg) ?_
  simp only [at_eq, Option.bind_some]
  refine Ev.pos (by simp; omega) (Ev.pos (by omega) (Ev.pos (by omega) ?_))
  rw [rdL hi]
  have := iUn_l0 g hg (layout_mem g (List.getElem_mem hi)).1 _ 0 0 (by rw [Nat.zero_add]) (by omega)
  simpa using this
theorem sUn {R C : Int} {s : ByteArray} {r c : Nat} (g : Gr R C s r c) (hg : isG R C s = true) {i : Nat} (hi : i < (layoutN r c s).length) : Ev (fun k => spec_UncheckedIn.f k R C s (i : Int)) (unF (layoutN r c s) (layoutN r c s)[i] 0 : Int) := by
  have hll := layout_len g
  unfold spec_UncheckedIn.f
  refine Ev.bind (sSlotsOf g hg) ?_
  simp only [l1In_eq, Option.bind_some]
  rw [w64 (by omega)]
  refine Ev.pos (by simp; omega) (Ev.pos (by omega) (Ev.pos (by omega) ?_))
  rw [rdT (by omega)]
  refine Ev.bind (sCells g hg (List.getElem_mem _)) ?_
  have e0 := layout_at hi (by omega)
  rw [← e0]
  have := sUn_l0 g hg (layout_mem g (List.getElem_mem hi)).1 _ 0 0 (by rw [Nat.zero_add]) (by omega)
  simpa using this
/-! ### the rest of a grid's form -/
def unAny (L : List (List Int)) : List S79 → Nat → Bool
  | [], _ => false
  | x :: t, i => if x.f3 < 2 * (unF L (L.getD i []) 0 : Int) then true else unAny L t (i + 1)
def loneF (s : ByteArray) (L : List (List Int)) : Nat → Nat → Bool
  | 0, _ => false
  | d + 1, i => if bt s (i : Int) = 46 then (if (atF (i : Int) L 0).length = 0 then true else loneF s L d (i + 1)) else loneF s L d (i + 1)
theorem un_small {R C : Int} {s : ByteArray} {r c : Nat} (g : Gr R C s r c) {i : Nat} (hi : i < (layoutN r c s).length) : unF (layoutN r c s) (layoutN r c s)[i] 0 ≤ 6 := by
  have := unF_le (layoutN r c s) (layoutN r c s)[i] 0
  have := (layout_mem g (List.getElem_mem hi)).1
  omega
theorem getD_at {α : Type} {xs : List α} {i : Nat} (d : α) (h : i < xs.length) : xs.getD i d = xs[i] := by
  simp [List.getD_eq_getElem?_getD, List.getElem?_eq_getElem h]
theorem sLone_l1 {R C : Int} {s : ByteArray} {r c : Nat} (g : Gr R C s r c) (hg : isG R C s = true) : ∀ d i, i + d = s.size → Ev (fun k => spec_l10Alone.l1 k (i : Int) R C s) (loneF s (layoutN r c s) d i)
  | 0, i, h => by
    refine Ev.succ (fun k => by rw [spec_l10Alone.l1]) ?_
    refine Ev.neg (by omega) ?_
    exact Ev.pure _
  | d + 1, i, h => by
    have hz : s.size ≤ 36 := by have := g.sz; have := g.mx; omega
    have ih := sLone_l1 g hg d (i + 1) (by omega)
    rw [Int.natCast_add] at ih
    refine Ev.succ (fun k => by rw [spec_l10Alone.l1]) (Ev.pos (by omega) ?_)
    unfold spec_IsWhite.f loneF
    rw [w64 (n := (i : Int) + 1) (by omega), w64 (n := (s.size : Int) - 1) (by omega)]
    refine Ev.bind (a := decide (bt s i = 46)) (Ev.bind (sIsGrid R C s) (Ev.pos hg ?_)) ?_
    · simp only [l1In_eq, Option.bind_some]
      exact Ev.pos (by simp; omega) (Ev.pos (by omega) (Ev.pos (by omega) ((Ev.pure _).eq (by simp [BEq.beq]))))
    · by_cases e : bt s i = 46
      · rw [if_pos e]
        refine Ev.pos (by simpa using e) (Ev.bind (sSlotsAt g hg _) ?_)
        by_cases e2 : (atF (i : Int) (layoutN r c s) 0).length = 0
        · rw [if_pos e2]; exact Ev.pos (by omega) (Ev.pure _)
        · rw [if_neg e2]; exact Ev.neg (by omega) ih
      · rw [if_neg e]
        exact Ev.neg (by simpa using e) ih
theorem sLone_l0 {R C : Int} {s : ByteArray} {r c : Nat} (g : Gr R C s r c) (hg : isG R C s = true) : ∀ d i, i + d = (slots r c s).length →
    Ev (fun k => spec_l10Alone.l0 k (slots r c s) (i : Int) R C s) (unAny (layoutN r c s) ((slots r c s).drop i) i || loneF s (layoutN r c s) s.size 0)
  | 0, i, h => by
    refine Ev.succ (fun k => by rw [spec_l10Alone.l0]) ?_
    refine Ev.neg (by omega) ?_
    have := sLone_l1 g hg s.size 0 (by omega)
    refine Ev.eq (r := loneF s (layoutN r c s) s.size 0) ?_ (by rw [List.drop_eq_nil_of_le (by omega)]; simp [unAny])
    simpa using this
  | d + 1, i, h => by
    have hll := layout_len g
    have ih := sLone_l0 g hg d (i + 1) (by omega)
    rw [Int.natCast_add] at ih
    refine Ev.succ (fun k => by rw [spec_l10Alone.l0]) ?_
    refine Ev.pos (by omega) ?_
    refine Ev.bind (sUn g hg (show i < (layoutN r c s).length by omega)) ?_
    refine Ev.pos (by omega) ?_
    have hu := un_small g (i := i) (by omega)
    rw [w64 (by omega), w64 (by omega), rdT (by omega), List.drop_eq_getElem_cons (show i < (slots r c s).length by omega), unAny, getD_at _ (show i < (layoutN r c s).length by omega)]
    by_cases e : (slots r c s)[i].f3 < 2 * (unF (layoutN r c s) (layoutN r c s)[i] 0 : Int)
    · rw [if_pos e]; exact Ev.pos e ((Ev.pure _).eq (by simp))
    · rw [if_neg e]; exact Ev.neg e ih
theorem sAlone {R C : Int} {s : ByteArray} {r c : Nat} (g : Gr R C s r c) (hg : isG R C s = true) : Ev (fun k => spec_l10Alone.f k R C s) (unAny (layoutN r c s) (slots r c s) 0 || loneF s (layoutN r c s) s.size 0) := by
  unfold spec_l10Alone.f
  refine Ev.bind (sSlotsOf g hg) ?_
  exact sLone_l0 g hg (slots r c s).length 0 (by omega)
theorem sShort_l0 {xs : List S79} (hl : xs.length ≤ 1000) : ∀ d i, i + d = xs.length → Ev (fun k => spec_l10Short.l0 k xs (i : Int)) ((xs.drop i).any fun x => decide (x.f3 < 3))
  | 0, i, h => Ev.succ (fun k => by rw [spec_l10Short.l0]) (Ev.neg (by omega) ((Ev.pure _).eq (by rw [List.drop_eq_nil_of_le (by omega)]; simp)))
  | d + 1, i, h => by
    have ih := sShort_l0 hl d (i + 1) (by omega)
    rw [Int.natCast_add] at ih
    refine Ev.succ (fun k => by rw [spec_l10Short.l0]) (Ev.pos (by omega) (Ev.pos (by omega) ?_))
    rw [rdT (by omega), w64 (by omega), List.drop_eq_getElem_cons (show i < xs.length by omega), List.any_cons]
    by_cases e : xs[i].f3 < 3
    · exact Ev.pos e ((Ev.pure _).eq (by simp [e]))
    · exact Ev.neg e (ih.eq (by simp [e]))
theorem alone_go {s : ByteArray} {L : List (List Int)} : ∀ d i, i + d = s.size → impl_alone.go s s L.flatten d i = some (loneF s L d i)
  | 0, i, h => rfl
  | d + 1, i, h => by
    have ih := alone_go (s := s) (L := L) d (i + 1) (by omega)
    unfold impl_alone.go loneF
    by_cases e : bt s (i : Int) = 46
    · rw [if_pos e, if_pos e]
      by_cases e2 : (i : Int) ∈ L.flatten
      · rw [if_pos e2, if_neg (fun h => (atF_zero (i : Int) L 0).mp h e2)]
        exact ih
      · rw [if_neg e2, if_pos ((atF_zero (i : Int) L 0).mpr e2), if_pos (by omega), e]
        rfl
    · rw [if_neg e, if_neg e]
      exact ih
theorem iAlone {R C : Int} {s : ByteArray} {r c : Nat} (g : Gr R C s r c) (hg : isG R C s = true) : Ev (fun k => impl_alone.f k R C s s) (loneF s (layoutN r c s) s.size 0) := by
  have hz : s.size ≤ 36 := by have := g.sz; have := g.mx; omega
  unfold impl_alone.f
  refine Ev.bind (ilayout g hg) (Ev.pos ⟨⟨?_, ?_⟩, by omega, by have := (layout_len g).2; omega⟩ (Ev.const (alone_go s.size 0 (by omega))))
  · have hf : ∀ L : List (List Int), (∀ l ∈ L, l.length ≤ 6) → L.flatten.length ≤ 6 * L.length := by
      intro L
      induction L with
      | nil => simp
      | cons l t ih =>
        intro h
        have := ih (fun l hl => h l (List.mem_cons_of_mem _ hl))
        have := h l (List.mem_cons_self)
        rw [List.flatten_cons, List.length_append, List.length_cons]
        omega
    have := hf _ (fun l hl => (layout_mem g hl).1)
    have := (layout_len g).2
    omega
  · intro a ha
    obtain ⟨l, hl, hal⟩ := List.mem_flatten.mp ha
    have := (layout_mem g hl).2 a hal
    omega
theorem iForm_l1 {R C : Int} {s : ByteArray} {r c : Nat} (g : Gr R C s r c) (hg : isG R C s = true) : ∀ d i, i + d = (slots r c s).length →
    Ev (fun k => impl_FormOf.l1 k (slots r c s) ((slots r c s).length : Int) (i : Int) R C s) (if (unAny (layoutN r c s) ((slots r c s).drop i) i || loneF s (layoutN r c s) s.size 0) = true then 5 else 0)
  | 0, i, h => by
    refine Ev.succ (fun k => by rw [impl_FormOf.l1]) (Ev.neg (by omega) (Ev.bind (iAlone g hg) ?_))
    rw [List.drop_eq_nil_of_le (by omega), unAny, Bool.false_or]
    refine Ev.ite (fun e => ?_) (fun e => ?_)
    · rw [if_pos e]; exact Ev.pure _
    · rw [if_neg e]; exact Ev.pure _
  | d + 1, i, h => by
    have hll := layout_len g
    have ih := iForm_l1 g hg d (i + 1) (by omega)
    rw [Int.natCast_add] at ih
    refine Ev.succ (fun k => by rw [impl_FormOf.l1]) ?_
    refine Ev.pos (by omega) (Ev.pos (by omega) (Ev.pos (by omega) ?_))
    refine Ev.bind (iUn g hg (show i < (layoutN r c s).length by omega)) ?_
    have hu := un_small g (i := i) (by omega)
    rw [w64 (by omega), w64 (by omega), rdT (by omega), List.drop_eq_getElem_cons (show i < (slots r c s).length by omega), unAny, getD_at _ (show i < (layoutN r c s).length by omega)]
    by_cases e : (slots r c s)[i].f3 < 2 * (unF (layoutN r c s) (layoutN r c s)[i] 0 : Int)
    · rw [if_pos e]; exact Ev.pos e ((Ev.pure _).eq (by simp))
    · rw [if_neg e]; exact Ev.neg e ih
theorem iForm_l0 {R C : Int} {s : ByteArray} {r c : Nat} (g : Gr R C s r c) (hg : isG R C s = true) : ∀ d i, i + d = (slots r c s).length →
    Ev (fun k => impl_FormOf.l0 k (slots r c s) (slots r c s) ((slots r c s).length : Int) (i : Int) R C s) (if ((slots r c s).drop i).any (fun x => decide (x.f3 < 3)) = true then 4 else if (unAny (layoutN r c s) (slots r c s) 0 || loneF s (layoutN r c s) s.size 0) = true then 5 else 0)
  | 0, i, h => by
    refine Ev.succ (fun k => by rw [impl_FormOf.l0]) (Ev.neg (by omega) ?_)
    rw [List.drop_eq_nil_of_le (by omega)]
    exact iForm_l1 g hg (slots r c s).length 0 (by omega)
  | d + 1, i, h => by
    have hll := layout_len g
    have ih := iForm_l0 g hg d (i + 1) (by omega)
    rw [Int.natCast_add] at ih
    refine Ev.succ (fun k => by rw [impl_FormOf.l0]) (Ev.pos (by omega) (Ev.pos (by omega) (Ev.pos (by omega) ?_)))
    rw [w64 (by omega), rdT (by omega), List.drop_eq_getElem_cons (show i < (slots r c s).length by omega), List.any_cons]
    by_cases e : (slots r c s)[i].f3 < 3
    · exact Ev.pos e ((Ev.pure _).eq (by simp [e]))
    · exact Ev.neg e (ih.eq (by simp [e]))
end Go.Proofs.Ytpcdfjcbjbkliaa.E
