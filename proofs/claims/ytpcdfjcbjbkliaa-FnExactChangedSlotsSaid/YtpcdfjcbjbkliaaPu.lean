import Derived.Test.YtpcdfjcbjbkliaaPq
namespace Go.Proofs.Ytpcdfjcbjbkliaa.E
open Go.RowKit Go.Proofs.YtpcdfjcbjbkliaaW.PrintWords Go.Proofs.YtpcdfjcbjbkliaaW.PrintLast Go.Proofs.YtpcdfjcbjbkliaaW.PrintMore
set_option linter.unusedVariables false
set_option linter.unusedSimpArgs false
/-! ### changed slots -/
def chF (u v : List ByteArray) (p q : List S48) : Nat → Nat → List Int
  | 0, _ => []
  | d + 1, i => if (rdOf ByteArray.empty u (i : Int)).toList = (rdOf ByteArray.empty v (i : Int)).toList then (if sameC (rd_T48 p (i : Int)).f0 (rd_T48 p (i : Int)).f1 (rd_T48 q (i : Int)).f0 (rd_T48 q (i : Int)).f1 = true then chF u v p q d (i + 1) else (i : Int) :: chF u v p q d (i + 1)) else (i : Int) :: chF u v p q d (i + 1)
theorem rdMap {α : Type} {l : List α} {F : α → ByteArray} {i : Nat} (h : i < l.length) : rdOf ByteArray.empty (l.map F) (i : Int) = F l[i] := by
  unfold rdOf; simp [List.getD_eq_getElem?_getD, List.getElem?_eq_getElem h]
theorem mem_rd {p : List S48} {i : Nat} (h : i < p.length) {P : S48 → Prop} (hp : ∀ c ∈ p, P c) : P (rd_T48 p (i : Int)) := by
  rw [rdC h]; exact hp _ (List.getElem_mem h)
theorem jno {R C R' C' n m i : Int} {s f s' f' : ByteArray} {p q : List S48} {acc : List Int} {F : Bool} (h : F = false) : Ev (fun k => spec_ChangedSlots.j1 k acc i F R C s f p n R' C' s' f' q m) acc := by
  subst h
  exact Ev.succ (fun k => by rw [spec_ChangedSlots.j1]) (Ev.neg (by decide) (Ev.pure _))
theorem sCh_l0 {R C : Int} {s f f' : ByteArray} {p q : List S48} {n m : Int} {r c : Nat} (g : Gr R C s r c) (h1 : isF R C s f = true) (h2 : isF R C s f' = true) (d1 : Ev (fun k => spec_IsDraft.f k R C s f p n) true) (d2 : Ev (fun k => spec_IsDraft.f k R C s f' q m) true)
    (hp : p.length = (layoutN r c s).length) (hq : q.length = (layoutN r c s).length) (hc : ∀ c ∈ p, c.f1.length ≤ 10000000) : ∀ d i (acc : List Int), i + d = p.length → acc.length ≤ i →
    Ev (fun k => spec_ChangedSlots.l0 k acc (i : Int) R C s f p n R C s f' q m) (acc ++ chF ((layoutN r c s).map (readN f)) ((layoutN r c s).map (readN f')) p q d i)
  | 0, i, acc, h, ha => by
    refine Ev.succ (fun k => by rw [spec_ChangedSlots.l0]) ?_
    exact Ev.neg (by omega) ((jno rfl).eq (by simp [chF]))
  | d + 1, i, acc, h, ha => by
    have h72 := (layout_len g).2
    have ih := fun acc ha => sCh_l0 g h1 h2 d1 d2 hp hq hc d (i + 1) acc (by omega) ha
    simp only [Int.natCast_add] at ih
    have hi : i < (layoutN r c s).length := by omega
    refine Ev.succ (fun k => by rw [spec_ChangedSlots.l0]) ?_
    refine Ev.pos (by omega) (Ev.bind d1 (Ev.pos rfl (Ev.bind d2 (Ev.pos rfl ?_))))
    refine Ev.succ (fun k => by rw [spec_ChangedSlots.j1]) ?_
    refine Ev.pos (by simp) (Ev.bind (sPat g h1 hi) (Ev.bind (sPat g h2 hi) ?_))
    rw [w64 (by omega), chF, rdMap hi, rdMap hi]
    refine Ev.ite (fun e => ?_) (fun e => ?_)
    · rw [if_pos e]
      refine Ev.pos (by omega) (Ev.pos (by omega) (Ev.pos (by omega) (Ev.bind (sSame _ _ (mem_rd (by omega) hc)) ?_)))
      refine Ev.ite (fun e2 => ?_) (fun e2 => ?_)
      · rw [if_pos e2]; exact ih acc (by omega)
      · rw [if_neg e2]
        refine Ev.pos (by omega) ((ih (acc ++ [(i : Int)]) (by simp; omega)).eq ?_)
        rw [List.append_assoc]; rfl
    · rw [if_neg e]
      refine Ev.pos (by omega) ((ih (acc ++ [(i : Int)]) (by simp; omega)).eq ?_)
      rw [List.append_assoc]; rfl
theorem iCh_l0 {R C : Int} {s f R' C' n m : Int} {s1 f1 s2 f2 : ByteArray} {u v : List ByteArray} {p q : List S48} (hu : u.length ≤ 72) (hv : v.length = u.length) (hp : p.length = u.length) (hq : q.length = u.length) (hc : ∀ c ∈ p, c.f1.length ≤ 10000000) : ∀ d i (acc : List Int), i + d = u.length → acc.length ≤ i →
    Ev (fun k => impl_ChangedSlots.l0 k acc u v (u.length : Int) (i : Int) R C s1 f1 p n R' C' s2 f2 q m) (acc ++ chF u v p q d i)
  | 0, i, acc, h, ha => by
    refine Ev.succ (fun k => by rw [impl_ChangedSlots.l0]) ?_
    exact Ev.neg (by omega) ((Ev.pure _).eq (by simp [chF]))
  | d + 1, i, acc, h, ha => by
    have ih := fun acc ha => iCh_l0 (R := R) (C := C) (s := s) (f := f) (R' := R') (C' := C') (n := n) (m := m) (s1 := s1) (f1 := f1) (s2 := s2) (f2 := f2) hu hv hp hq hc d (i + 1) acc (by omega) ha
    simp only [Int.natCast_add] at ih
    refine Ev.succ (fun k => by rw [impl_ChangedSlots.l0]) ?_
    refine Ev.pos (by omega) (Ev.pos (by omega) (Ev.pos (by omega) (Ev.pos (by omega) ?_)))
    rw [w64 (by omega), chF]
    refine Ev.ite (fun e => ?_) (fun e => ?_)
    · rw [if_pos e]
      refine Ev.pos (by omega) (Ev.pos (by omega) (Ev.bind (iSame _ _ (mem_rd (by omega) hc)) ?_))
      refine Ev.ite (fun e2 => ?_) (fun e2 => ?_)
      · rw [if_pos e2]; exact ih acc (by omega)
      · rw [if_neg e2]
        refine Ev.pos (by omega) ((ih (acc ++ [(i : Int)]) (by simp; omega)).eq ?_)
        rw [List.append_assoc]; rfl
    · rw [if_neg e]
      refine Ev.pos (by omega) ((ih (acc ++ [(i : Int)]) (by simp; omega)).eq ?_)
      rw [List.append_assoc]; rfl
theorem chF_len {u v : List ByteArray} {p q : List S48} : ∀ d i, (chF u v p q d i).length ≤ d
  | 0, i => by simp [chF]
  | d + 1, i => by
    have ih := chF_len (u := u) (v := v) (p := p) (q := q) d (i + 1)
    unfold chF
    split
    · split
      · omega
      · simp; omega
    · simp; omega
theorem chg (R C : Int) (s f : ByteArray) (p : List S48) (n : Int) (R' C' : Int) (s' f' : ByteArray) (q : List S48) (m : Int) (hp : p.length ≤ 10000000) (hp2 : ∀ c ∈ p, c.f1.length ≤ 10000000) (hq : q.length ≤ 10000000) (hq2 : ∀ c ∈ q, c.f1.length ≤ 10000000) :
    ∃ v : List Int, Ev (fun k => spec_ChangedSlots.f k R C s f p n R' C' s' f' q m) v ∧ Ev (fun k => impl_ChangedSlots.f k R C s f p n R' C' s' f' q m) v ∧ v.length ≤ 72 := by
  obtain ⟨b, b1, b2, b3⟩ := draft R C s f p n hp hp2
  obtain ⟨b', b1', b2', b3'⟩ := draft R' C' s' f' q m hq hq2
  have sno : (b = true → b' = true → ¬ (R = R' ∧ C = C' ∧ s.toList = s'.toList)) → Ev (fun k => spec_ChangedSlots.f k R C s f p n R' C' s' f' q m) [] := fun hno => by
    unfold spec_ChangedSlots.f
    refine Ev.succ (fun k => by rw [spec_ChangedSlots.l0]) ?_
    refine Ev.ite (fun _ => ?_) (fun _ => jno rfl)
    refine Ev.bind b1 (Ev.ite (fun hb => ?_) (fun _ => jno rfl))
    refine Ev.bind b1' (Ev.ite (fun hb' => ?_) (fun _ => jno rfl))
    refine jno ?_
    have := hno hb hb'
    rw [Bool.eq_false_iff]
    intro h
    simp only [Bool.and_eq_true, beq_iff_eq] at h
    exact this ⟨h.1, h.2.1, h.2.2⟩
  have ino : ∀ x : Bool, x = true → Ev (fun k => impl_ChangedSlots.j0 k x R C s f p n R' C' s' f' q m) [] := fun x hx => by
    subst hx
    exact Ev.succ (fun k => by rw [impl_ChangedSlots.j0]) (Ev.pos rfl (Ev.pure _))
  by_cases hb : b = true
  · by_cases hb' : b' = true
    · by_cases he : R = R' ∧ C = C' ∧ s.toList = s'.toList
      · obtain ⟨rfl, rfl, hs⟩ := he
        obtain rfl : s = s' := ba_ext (by simpa [ByteArray.toList_eq] using hs)
        subst hb; subst hb'
        obtain ⟨h1, l1⟩ := b3 rfl
        obtain ⟨h2, l2⟩ := b3' rfl
        obtain ⟨r, c, g⟩ := isG_gr (isF_gr h1).1
        have hl := layout_len g
        have lp := l1 r c g
        have lq := l2 r c g
        refine ⟨_, sCh_l0 g h1 h2 b1 b1' (by omega) (by omega) hp2 p.length 0 [] (by omega) (by simp), ?_, ?_⟩
        · unfold impl_ChangedSlots.f
          refine Ev.bind b2 (Ev.pos rfl (Ev.bind b2' (Ev.pos rfl ?_)))
          refine Ev.succ (fun k => by rw [impl_ChangedSlots.j0]) ?_
          refine Ev.neg (by simp) (Ev.bind (iPat g h1) (Ev.bind (iPat g h2) ?_))
          have := iCh_l0 (R := R) (C := C) (s := 0) (f := 0) (R' := R) (C' := C) (n := n) (m := m) (s1 := s) (f1 := f) (s2 := s) (f2 := f') (u := (layoutN r c s).map (readN f)) (v := (layoutN r c s).map (readN f')) (p := p) (q := q) (by rw [List.length_map]; exact hl.2) (by simp) (by rw [List.length_map]; omega) (by rw [List.length_map]; omega) hp2 p.length 0 [] (by rw [List.length_map]; omega) (by simp)
          exact this
        · have := chF_len (u := (layoutN r c s).map (readN f)) (v := (layoutN r c s).map (readN f')) (p := p) (q := q) p.length 0
          simp only [List.nil_append]
          omega
      · refine ⟨[], sno (fun _ _ => he), ?_, by simp⟩
        unfold impl_ChangedSlots.f
        refine Ev.bind b2 (Ev.pos hb (Ev.bind b2' (Ev.pos hb' (ino _ ?_))))
        rw [Bool.eq_iff_iff]
        simp only [Bool.or_eq_true, Bool.not_eq_true', beq_eq_false_iff_ne, ne_eq, iff_true]
        by_cases e1 : R = R'
        · by_cases e2 : C = C'
          · exact .inr (.inr (fun e3 => he ⟨e1, e2, e3⟩))
          · exact .inr (.inl e2)
        · exact .inl e1
    · refine ⟨[], sno (fun _ h => absurd h hb'), ?_, by simp⟩
      unfold impl_ChangedSlots.f
      exact Ev.bind b2 (Ev.pos hb (Ev.bind b2' (Ev.neg hb' (ino _ rfl))))
  · refine ⟨[], sno (fun h => absurd h hb), ?_, by simp⟩
    unfold impl_ChangedSlots.f
    exact Ev.bind b2 (Ev.neg hb (ino _ rfl))
end Go.Proofs.Ytpcdfjcbjbkliaa.E
