import Derived.Test.YtpcdfjcbjbkliaaGreatPj
namespace Go.Proofs.YtpcdfjcbjbkliaaGreat.E
open Go.RowKit Go.Proofs.YtpcdfjcbjbkliaaGreatW.PrintWords Go.Proofs.YtpcdfjcbjbkliaaGreatW.PrintLast Go.Proofs.YtpcdfjcbjbkliaaGreatW.PrintMore
set_option linter.unusedVariables false
set_option linter.unusedSimpArgs false
/-! ### seals -/
def modV (a : Int) : Int := Int.tmod (wrap64 ((Int.tmod a 2147483647) + 2147483647)) 2147483647
theorem sMod (a : Int) : spec_Mod.f a 2147483647 = some (modV a) := by
  unfold spec_Mod.f modV
  rw [l1In_eq, Option.bind_some, if_pos (by decide), if_neg (by decide)]
theorem iMod (a : Int) : impl_Mod.f a 2147483647 = some (modV a) := by
  unfold impl_Mod.f modV
  rw [InRange_eq, Option.bind_some, if_pos (by decide), if_neg (by decide)]
def hashF : List Int → Int → Int
  | [], h => h
  | x :: t, h => hashF t (Int.tmod (wrap64 ((wrap64 ((wrap64 (h * 1000003)) + modV x)) + 13)) 2147483647)
theorem sHash_l0 {xs : List Int} (hl : xs.length ≤ 100000) : ∀ d i h, i + d = xs.length → Ev (fun k => spec_Hash.l0 k xs h (i : Int)) (hashF (xs.drop i) h)
  | 0, i, h, e => by
    refine Ev.succ (fun k => by rw [spec_Hash.l0]) ?_
    exact Ev.neg (by omega) ((Ev.pure _).eq (by rw [List.drop_eq_nil_of_le (by omega)]; rfl))
  | d + 1, i, h, e => by
    refine Ev.succ (fun k => by rw [spec_Hash.l0]) ?_
    refine Ev.pos (by omega) (Ev.pos (by omega) ?_)
    simp only [sMod, Option.bind_some]
    rw [rdI (show i < xs.length by omega), List.drop_eq_getElem_cons (show i < xs.length by omega), w64 (n := (i : Int) + 1) (by omega)]
    have ih := sHash_l0 hl d (i + 1) (Int.tmod (wrap64 ((wrap64 ((wrap64 (h * 1000003)) + modV (xs[i]'(by omega)))) + 13)) 2147483647) (by omega)
    rw [Int.natCast_add] at ih
    exact ih
theorem iHash_l0 {xs : List Int} (hl : xs.length ≤ 100000) : ∀ d i h, i + d = xs.length → Ev (fun k => impl_Hash.l0 k h xs (xs.length : Int) (i : Int)) (hashF (xs.drop i) h)
  | 0, i, h, e => by
    refine Ev.succ (fun k => by rw [impl_Hash.l0]) ?_
    exact Ev.neg (by omega) ((Ev.pure _).eq (by rw [List.drop_eq_nil_of_le (by omega)]; rfl))
  | d + 1, i, h, e => by
    refine Ev.succ (fun k => by rw [impl_Hash.l0]) ?_
    refine Ev.pos (by omega) (Ev.pos (by omega) (Ev.pos (by omega) ?_))
    simp only [iMod, Option.bind_some]
    rw [rdI (show i < xs.length by omega), List.drop_eq_getElem_cons (show i < xs.length by omega), w64 (n := (i : Int) + 1) (by omega)]
    have ih := iHash_l0 hl d (i + 1) (Int.tmod (wrap64 ((wrap64 ((wrap64 (h * 1000003)) + modV (xs[i]'(by omega)))) + 13)) 2147483647) (by omega)
    rw [Int.natCast_add] at ih
    exact ih
def lettersF (f : ByteArray) : Nat → Nat → List Int
  | 0, _ => []
  | d + 1, i => wrap64 (bt f (i : Int)) :: lettersF f d (i + 1)
theorem letters_len (f : ByteArray) : ∀ d i, (lettersF f d i).length = d
  | 0, _ => rfl
  | d + 1, i => by unfold lettersF; rw [List.length_cons, letters_len f d (i + 1)]
theorem sLet_l0 {f : ByteArray} (hz : f.size ≤ 8) : ∀ d i (acc : List Int), i + d = f.size → acc.length = i → Ev (fun k => spec_LettersOf.l0 k f acc (i : Int)) (acc ++ lettersF f d i)
  | 0, i, acc, h, ha => by
    refine Ev.succ (fun k => by rw [spec_LettersOf.l0]) ?_
    exact Ev.neg (by omega) ((Ev.pure _).eq (by simp [lettersF]))
  | d + 1, i, acc, h, ha => by
    have ih := sLet_l0 hz d (i + 1) (acc ++ [wrap64 (bt f (i : Int))]) (by omega) (by simp [ha])
    rw [Int.natCast_add] at ih
    refine Ev.succ (fun k => by rw [spec_LettersOf.l0]) ?_
    refine Ev.pos (by omega) (Ev.pos (by omega) (Ev.pos (by omega) ?_))
    rw [w64 (n := (i : Int) + 1) (by omega)]
    exact ih.eq (by simp [lettersF])
theorem iLet_l0 {f : ByteArray} (hz : f.size ≤ 8) : ∀ d i (acc : List Int), i + d = f.size → acc.length = i → Ev (fun k => impl_LettersOf.l0 k f acc (f.size : Int) (i : Int)) (acc ++ lettersF f d i)
  | 0, i, acc, h, ha => by
    refine Ev.succ (fun k => by rw [impl_LettersOf.l0]) ?_
    exact Ev.neg (by omega) ((Ev.pure _).eq (by simp [lettersF]))
  | d + 1, i, acc, h, ha => by
    have ih := iLet_l0 hz d (i + 1) (acc ++ [wrap64 (bt f (i : Int))]) (by omega) (by simp [ha])
    rw [Int.natCast_add] at ih
    refine Ev.succ (fun k => by rw [impl_LettersOf.l0]) ?_
    refine Ev.pos (by omega) (Ev.pos (by omega) (Ev.pos (by omega) (Ev.pos (by omega) ?_)))
    rw [w64 (n := (i : Int) + 1) (by omega)]
    exact ih.eq (by simp [lettersF])
def sealV (a b : Int) (f : ByteArray) : Int := if isW f = true then hashF ([a, b, (f.size : Int)] ++ lettersF f f.size 0) 11 else 0
theorem sSeal (a b : Int) (f : ByteArray) : Ev (fun k => spec_SealAnswer.f k a b f) (sealV a b f) := by
  unfold spec_SealAnswer.f sealV
  refine Ev.bind (sWord f) ?_
  refine Ev.ite (fun h => ?_) (fun h => ?_)
  · rw [if_pos h]
    have hz := isW_size h
    have hl := letters_len f f.size 0
    have h1 := sLet_l0 hz.2 f.size 0 [] (by omega) rfl
    have h2 := sHash_l0 (xs := [a, b, (f.size : Int)] ++ lettersF f f.size 0) (by rw [List.length_append, hl]; simp; omega) _ 0 11 (by rw [Nat.zero_add])
    unfold spec_LettersOf.f spec_Hash.f
    refine Ev.bind (Ev.pure _) (Ev.bind h1 (Ev.pos (by rw [List.nil_append, hl]; simp; omega) ?_))
    refine Ev.bind h2 ?_
    rw [List.drop_zero]
    exact Ev.pure _
  · rw [if_neg h]; exact Ev.pure _
theorem iSeal (a b : Int) (f : ByteArray) : Ev (fun k => impl_SealAnswer.f k a b f) (sealV a b f) := by
  unfold impl_SealAnswer.f sealV
  refine Ev.bind (iWord f) ?_
  refine Ev.ite (fun h => ?_) (fun h => ?_)
  · rw [if_pos h]
    have hz := isW_size h
    have hl := letters_len f f.size 0
    have h1 := iLet_l0 hz.2 f.size 0 [] (by omega) rfl
    have h2 := iHash_l0 (xs := [a, b, (f.size : Int)] ++ lettersF f f.size 0) (by rw [List.length_append, hl]; simp; omega) _ 0 11 (by rw [Nat.zero_add])
    unfold impl_LettersOf.f impl_Hash.f
    refine Ev.bind (Ev.pure _) (Ev.bind h1 (Ev.pos (by rw [List.nil_append, hl]; simp; omega) ?_))
    refine Ev.bind h2 ?_
    rw [List.drop_zero]
    exact Ev.pure _
  · rw [if_neg h]; exact Ev.pure _
def checkV (l : List Int) (a b : Int) (f : ByteArray) : Bool := decide (0 ≤ b ∧ b < (l.length : Int)) && (isW f && (sealV a b f == rd l b))
theorem sCheck {l : List Int} (hl : l.length ≤ 10000000) (a b : Int) (f : ByteArray) : Ev (fun k => spec_ChecksAnswer.f k l a b f) (checkV l a b f) := by
  unfold spec_ChecksAnswer.f checkV
  rw [w64 (by omega)]
  simp only [l1In_eq, Option.bind_some, decide_eq_true_eq]
  by_cases hb : 0 ≤ b ∧ b < (l.length : Int)
  · refine Ev.pos (by omega) (Ev.bind (sWord f) ?_)
    cases hw : isW f with
    | true => exact Ev.pos rfl (Ev.bind (sSeal a b f) (Ev.pos hb.1 (Ev.pos hb.2 ((Ev.pure _).eq (by simp [hb])))))
    | false => exact Ev.neg (by decide) ((Ev.pure _).eq (by simp))
  · exact Ev.neg (by omega) ((Ev.pure _).eq (by simp only [hb, decide_false, Bool.false_and]))
theorem iCheck {l : List Int} (hl : l.length ≤ 10000000) (a b : Int) (f : ByteArray) : Ev (fun k => impl_ChecksAnswer.f k l a b f) (checkV l a b f) := by
  unfold impl_ChecksAnswer.f checkV
  simp only [at_eq, Option.bind_some, decide_eq_true_eq]
  by_cases hb : 0 ≤ b ∧ b < (l.length : Int)
  · refine Ev.pos (by omega) (Ev.bind (iWord f) ?_)
    cases hw : isW f with
    | true => exact Ev.pos rfl (Ev.bind (iSeal a b f) (Ev.pos hb.1 (Ev.pos hb.2 ((Ev.pure _).eq (by simp [hb])))))
    | false => exact Ev.neg (by decide) ((Ev.pure _).eq (by simp))
  · exact Ev.neg (by omega) ((Ev.pure _).eq (by simp only [hb, decide_false, Bool.false_and]))
/-! ### patterns -/
def readN (f : ByteArray) (l : List Int) : ByteArray := strOfNums (l.map (bt f))
theorem iRead_l0 {f : ByteArray} {l : List Int} (h6 : l.length ≤ 6) (hr : ∀ a ∈ l, 0 ≤ a ∧ a < (f.size : Int)) : ∀ d i (acc : List Int), i + d = l.length → acc = (l.take i).map (bt f) → Ev (fun k => impl_readCells.l0 k f acc l (l.length : Int) (i : Int)) (readN f l)
  | 0, i, acc, h, ha => by
    refine Ev.succ (fun k => by rw [impl_readCells.l0]) ?_
    refine Ev.neg (by omega) ((Ev.pure _).eq ?_)
    rw [ha, List.take_of_length_le (by omega)]
    rfl
  | d + 1, i, acc, h, ha => by
    have hlt : i < l.length := by omega
    have ih := iRead_l0 h6 hr d (i + 1) (acc ++ [bt f l[i]]) (by omega) (by rw [ha, ← List.map_singleton, ← List.map_append, ← List.take_append_getElem hlt])
    rw [Int.natCast_add] at ih
    have hb := hr l[i] (List.getElem_mem hlt)
    have hal : acc.length ≤ 6 := by rw [ha, List.length_map, List.length_take]; omega
    refine Ev.succ (fun k => by rw [impl_readCells.l0]) ?_
    rw [rdI hlt, w64 (by omega)]
    exact Ev.pos (by omega) (Ev.pos (by omega) (Ev.pos (by omega) (Ev.pos hb.1 (Ev.pos hb.2 (Ev.pos (by omega) ih)))))
theorem sPat_l0 {f : ByteArray} {l : List Int} (hf : f.size ≤ 100000) (h6 : l.length ≤ 6) (hr : ∀ a ∈ l, 0 ≤ a ∧ a < (f.size : Int)) : ∀ d i (acc : ByteArray), i + d = l.length → acc = strOfNums ((l.take i).map (bt f)) → Ev (fun k => spec_SlotPattern.l0 k f acc l (i : Int)) (readN f l)
  | 0, i, acc, h, ha => by
    refine Ev.succ (fun k => by rw [spec_SlotPattern.l0]) ?_
    refine Ev.neg (by omega) ((Ev.pure _).eq ?_)
    rw [ha, List.take_of_length_le (by omega)]
    rfl
  | d + 1, i, acc, h, ha => by
    have hlt : i < l.length := by omega
    have hb := hr l[i] (List.getElem_mem hlt)
    obtain ⟨a, haa⟩ : ∃ a : Nat, l[i] = a := ⟨l[i].toNat, by omega⟩
    have he := ex1 (s := f) (i := a) (by omega)
    have hbt : bt f (a : Int) = ((f[a]'(by omega)).toNat : Int) := by
      unfold bt
      rw [dif_pos (by rw [Int.toNat_natCast]; omega)]
      rfl
    have hacc : acc ++ f.extract a (a + 1) = strOfNums ((l.take (i + 1)).map (bt f)) := by
      apply ba_ext
      rw [ByteArray.data_append, Array.toList_append, he, ha, ← List.take_append_getElem hlt, List.map_append, List.map_singleton, haa, hbt]
      unfold strOfNums
      simp
    have ih := sPat_l0 hf h6 hr d (i + 1) (acc ++ f.extract a (a + 1)) (by omega) hacc
    rw [Int.natCast_add] at ih
    have hal : acc.size ≤ 6 := by
      rw [ha]
      have hs : (strOfNums ((l.take i).map (bt f))).size = (((l.take i).map (bt f)).map (fun n => UInt8.ofNat n.toNat)).length := rfl
      rw [hs, List.length_map, List.length_map, List.length_take]; omega
    have h1 : (f.extract a (a + 1)).size = 1 := congrArg List.length he
    refine Ev.succ (fun k => by rw [spec_SlotPattern.l0]) ?_
    rw [rdI hlt, haa, w64 (n := (i : Int) + 1) (by omega), w64 (n := (a : Int) + 1) (by omega)]
    have t1 : ((a : Int) + 1).toNat = a + 1 := by omega
    refine Ev.pos (by omega) (Ev.pos (by omega) (Ev.pos (by omega) (Ev.pos (by omega) (Ev.pos (by omega) (Ev.pos ?_ ?_)))))
    · rw [t1, Int.toNat_natCast]; omega
    · rw [t1, Int.toNat_natCast]; exact ih
theorem isF_gr {R C : Int} {s f : ByteArray} (h : isF R C s f = true) : isG R C s = true ∧ f.size = s.size := by
  unfold isF at h
  simp only [Bool.and_eq_true, decide_eq_true_eq] at h
  exact ⟨h.1, h.2.1⟩
theorem iPat_l0 {R C : Int} {s f : ByteArray} {r c : Nat} (g : Gr R C s r c) (hf : f.size = s.size) : ∀ d i (acc : List ByteArray), i + d = (layoutN r c s).length → acc = ((layoutN r c s).take i).map (readN f) → Ev (fun k => impl_patterns.l0 k f acc (layoutN r c s) ((layoutN r c s).length : Int) (i : Int)) ((layoutN r c s).map (readN f))
  | 0, i, acc, h, ha => by
    refine Ev.succ (fun k => by rw [impl_patterns.l0]) ?_
    refine Ev.neg (by omega) ((Ev.pure _).eq ?_)
    rw [ha, List.take_of_length_le (by omega)]
  | d + 1, i, acc, h, ha => by
    have hll := layout_len g
    have hlt : i < (layoutN r c s).length := by omega
    have hm := layout_mem g (List.getElem_mem hlt)
    have ih := iPat_l0 g hf d (i + 1) (acc ++ [readN f (layoutN r c s)[i]]) (by omega) (by rw [ha, ← List.map_singleton, ← List.map_append, ← List.take_append_getElem hlt])
    rw [Int.natCast_add] at ih
    have hal : acc.length ≤ 72 := by rw [ha, List.length_map, List.length_take]; omega
    refine Ev.succ (fun k => by rw [impl_patterns.l0]) ?_
    refine Ev.pos (by omega) (Ev.pos (by omega) (Ev.pos (by omega) ?_))
    rw [rdL hlt, w64 (by omega)]
    unfold impl_readCells.f
    exact Ev.bind (iRead_l0 hm.1 (by rw [hf]; exact hm.2) _ 0 [] (by rw [Nat.zero_add]) rfl) (Ev.pos (by omega) ih)
theorem iPat {R C : Int} {s f : ByteArray} {r c : Nat} (g : Gr R C s r c) (h : isF R C s f = true) : Ev (fun k => impl_patterns.f k R C s f) ((layoutN r c s).map (readN f)) := by
  unfold impl_patterns.f
  refine Ev.bind (iFill R C s f) (Ev.pos h (Ev.bind (ilayout g (isF_gr h).1) ?_))
  exact iPat_l0 g (isF_gr h).2 _ 0 [] (by rw [Nat.zero_add]) rfl
theorem sPat {R C : Int} {s f : ByteArray} {r c : Nat} (g : Gr R C s r c) (h : isF R C s f = true) {i : Nat} (hi : i < (layoutN r c s).length) : Ev (fun k => spec_SlotPattern.f k R C s f (i : Int)) (readN f (layoutN r c s)[i]) := by
  have hll := layout_len g
  have hm := layout_mem g (List.getElem_mem hi)
  have hz : s.size ≤ 36 := by have := g.sz; have := g.mx; omega
  have hf := (isF_gr h).2
  unfold spec_SlotPattern.f
  refine Ev.bind (sSlotsOf g (isF_gr h).1) (Ev.bind (sFill R C s f) (Ev.pos h ?_))
  rw [w64 (by omega)]
  simp only [l1In_eq, Option.bind_some]
  have e : (!decide (0 ≤ (i : Int) ∧ (i : Int) ≤ ((slots r c s).length : Int) - 1)) = false := by simp; omega
  rw [e]
  refine Ev.succ (fun k => by rw [spec_SlotPattern.j0]) ?_
  refine Ev.neg (by decide) (Ev.pos (by omega) (Ev.pos (by omega) ?_))
  rw [rdT (by omega)]
  have e0 := layout_at hi (by omega)
  refine Ev.bind (sCells g (isF_gr h).1 (List.getElem_mem _)) ?_
  rw [← e0]
  exact sPat_l0 (by omega) hm.1 (by rw [hf]; exact hm.2) _ 0 _ (by rw [Nat.zero_add]) rfl
def rightF (l : List Int) (a : Int) : List ByteArray → Nat → List Int
  | [], _ => []
  | w :: t, i => (if checkV l a (i : Int) w = true then [(i : Int)] else []) ++ rightF l a t (i + 1)
theorem iRight_l0 {l : List Int} {a : Int} (hl : l.length ≤ 10000000) {ws : List ByteArray} (hw : ws.length ≤ 72) : ∀ d i (acc : List Int), i + d = ws.length → acc.length ≤ i → Ev (fun k => impl_RightSlots.l0 k l a acc ws (ws.length : Int) (i : Int)) (acc ++ rightF l a (ws.drop i) i)
  | 0, i, acc, h, ha => by
    refine Ev.succ (fun k => by rw [impl_RightSlots.l0]) ?_
    exact Ev.neg (by omega) ((Ev.pure _).eq (by rw [List.drop_eq_nil_of_le (by omega)]; simp [rightF]))
  | d + 1, i, acc, h, ha => by
    have hlt : i < ws.length := by omega
    refine Ev.succ (fun k => by rw [impl_RightSlots.l0]) ?_
    refine Ev.pos (by omega) (Ev.pos (by omega) (Ev.pos (by omega) ?_))
    have hr : rdOf ByteArray.empty ws (i : Int) = ws[i] := by unfold rdOf; rw [Int.toNat_natCast]; exact getD_at _ hlt
    rw [hr, w64 (by omega), List.drop_eq_getElem_cons hlt, rightF]
    refine Ev.bind (iCheck hl a (i : Int) ws[i]) ?_
    by_cases e : checkV l a (i : Int) ws[i] = true
    · have ih := iRight_l0 (a := a) hl hw d (i + 1) (acc ++ [(i : Int)]) (by omega) (by simp; omega)
      rw [Int.natCast_add] at ih
      exact Ev.pos e (Ev.pos (by omega) (ih.eq (by simp [e])))
    · have ih := iRight_l0 (a := a) hl hw d (i + 1) acc (by omega) (by omega)
      rw [Int.natCast_add] at ih
      exact Ev.neg e (ih.eq (by simp [e]))
theorem sRight_l0 {R C : Int} {s f : ByteArray} {r c : Nat} (g : Gr R C s r c) (hF : isF R C s f = true) {l : List Int} {a : Int} (hl : l.length ≤ 10000000) : ∀ d i (acc : List Int), i + d = (slots r c s).length → acc.length ≤ i →
    Ev (fun k => spec_RightSlots.l0 k f l a acc (slots r c s) (i : Int) R C s) (acc ++ rightF l a (((layoutN r c s).map (readN f)).drop i) i)
  | 0, i, acc, h, ha => by
    refine Ev.succ (fun k => by rw [spec_RightSlots.l0]) ?_
    refine Ev.neg (by omega) (Ev.succ (fun k => by rw [spec_RightSlots.j1]) ?_)
    have := (layout_len g).1
    exact Ev.neg (by decide) ((Ev.pure _).eq (by rw [List.drop_eq_nil_of_le (by rw [List.length_map]; omega)]; simp [rightF]))
  | d + 1, i, acc, h, ha => by
    have hll := layout_len g
    have hlt : i < ((layoutN r c s).map (readN f)).length := by rw [List.length_map]; omega
    refine Ev.succ (fun k => by rw [spec_RightSlots.l0]) ?_
    refine Ev.pos (by omega) (Ev.bind (sFill R C s f) ?_)
    rw [hF]
    refine Ev.succ (fun k => by rw [spec_RightSlots.j1]) ?_
    refine Ev.pos rfl (Ev.bind (sPat g hF (show i < (layoutN r c s).length by omega)) (Ev.bind (sCheck hl a (i : Int) _) ?_))
    rw [w64 (by omega), List.drop_eq_getElem_cons hlt, rightF, List.getElem_map]
    by_cases e : checkV l a (i : Int) (readN f ((layoutN r c s)[i]'(by omega))) = true
    · have ih := sRight_l0 g hF (a := a) hl d (i + 1) (acc ++ [(i : Int)]) (by omega) (by simp; omega)
      rw [Int.natCast_add] at ih
      exact Ev.pos e (Ev.pos (by omega) (ih.eq (by simp [e])))
    · have ih := sRight_l0 g hF (a := a) hl d (i + 1) acc (by omega) (by omega)
      rw [Int.natCast_add] at ih
      exact Ev.neg e (ih.eq (by simp [e]))
theorem right {R C : Int} {s f : ByteArray} (hF : isF R C s f = true) {l : List Int} (hl : l.length ≤ 10000000) (a : Int) : ∃ v : List Int, Ev (fun k => spec_RightSlots.f k R C s f l a) v ∧ Ev (fun k => impl_RightSlots.f k R C s f l a) v := by
  obtain ⟨r, c, g⟩ := isG_gr (isF_gr hF).1
  refine ⟨rightF l a ((layoutN r c s).map (readN f)) 0, ?_, ?_⟩
  · unfold spec_RightSlots.f
    refine Ev.bind (sSlotsOf g (isF_gr hF).1) ?_
    have := sRight_l0 g hF (a := a) hl (slots r c s).length 0 [] (by omega) (by simp)
    simpa using this
  · unfold impl_RightSlots.f
    refine Ev.bind (iPat g hF) ?_
    have := iRight_l0 (l := l) (a := a) hl (ws := (layoutN r c s).map (readN f)) (by rw [List.length_map]; exact (layout_len g).2) _ 0 [] (by rw [Nat.zero_add]) (by simp)
    simpa using this
end Go.Proofs.YtpcdfjcbjbkliaaGreat.E
