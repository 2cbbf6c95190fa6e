import Derived.Test.YtpcdfjcbjbkliaaGreatPa
import Derived.Test.YtpcdfjcbjbkliaaGreatMk
import Derived.Test.YtpcdfjcbjbkliaaGreatLw
namespace Go.Proofs.YtpcdfjcbjbkliaaGreat.E
open Go.RowKit Go.Proofs.YtpcdfjcbjbkliaaGreatW.PrintWords Go.Proofs.YtpcdfjcbjbkliaaGreatW.PrintLast Go.Proofs.YtpcdfjcbjbkliaaGreatW.PrintMore
set_option linter.unusedVariables false
set_option linter.unusedSimpArgs false
/-! ### seals -/
def modV (a : Int) : Int := Int.tmod (wrap64 ((Int.tmod a 2147483647) + 2147483647)) 2147483647
theorem sMod (a : Int) : spec_Mod.f a 2147483647 = some (modV a) := by
  unfold spec_Mod.f modV
  rw [l1In_eq, Option.bind_some, if_pos (by decide), if_neg (by decide)]
theorem iMod (a : Int) : impl_Mod.f a 2147483647 = some (modV a) := by
  unfold impl_Mod.f modV
  rw [InRange_eq, Option.bind_some, if_pos (by decide), if_neg (by decide)]
def hashF : List Int → Int → Int
  | [], h => h
  | x :: t, h => hashF t (Int.tmod (wrap64 ((wrap64 ((wrap64 (h * 1000003)) + modV x)) + 13)) 2147483647)
theorem sHash_l0 {xs : List Int} (hl : xs.length ≤ 100000) : ∀ d i h, i + d = xs.length → Ev (fun k => spec_Hash.l0 k xs h (i : Int)) (hashF (xs.drop i) h)
  | 0, i, h, e => by
    refine Ev.succ (fun k => by rw [spec_Hash.l0]) ?_
    exact Ev.neg (by omega) ((Ev.pure _).eq (by rw [List.drop_eq_nil_of_le (by omega)]; rfl))
  | d + 1, i, h, e => by
    refine Ev.succ (fun k => by rw [spec_Hash.l0]) ?_
    refine Ev.pos (by omega) (Ev.pos (by omega) ?_)
    simp only [sMod, Option.bind_some]
    rw [rdI (show i < xs.length by omega), List.drop_eq_getElem_cons (show i < xs.length by omega), w64 (n := (i : Int) + 1) (by omega)]
    have ih := sHash_l0 hl d (i + 1) (Int.tmod (wrap64 ((wrap64 ((wrap64 (h * 1000003)) + modV (xs[i]'(by omega)))) + 13)) 2147483647) (by omega)
    rw [Int.natCast_add] at ih
    exact ih
theorem iHash_l0 {xs : List Int} (hl : xs.length ≤ 100000) : ∀ d i h, i + d = xs.length → Ev (fun k => impl_Hash.l0 k h xs (xs.length : Int) (i : Int)) (hashF (xs.drop i) h)
  | 0, i, h, e => by
    refine Ev.succ (fun k => by rw [impl_Hash.l0]) ?_
    exact Ev.neg (by omega) ((Ev.pure _).eq (by rw [List.drop_eq_nil_of_le (by omega)]; rfl))
  | d + 1, i, h, e => by
    refine Ev.succ (fun k => by rw [impl_Hash.l0]) ?_
    refine Ev.pos (by omega) (Ev.pos (by omega) (Ev.pos (by omega) ?_))
    simp only [iMod, Option.bind_some]
    rw [rdI (show i < xs.length by omega), List.drop_eq_getElem_cons (show i < xs.length by omega), w64 (n := (i : Int) + 1) (by omega)]
    have ih := iHash_l0 hl d (i + 1) (Int.tmod (wrap64 ((wrap64 ((wrap64 (h * 1000003)) + modV (xs[i]'(by omega)))) + 13)) 2147483647) (by omega)
    rw [Int.natCast_add] at ih
    exact ih
def lettersF (f : ByteArray) : Nat → Nat → List Int
  | 0, _ => []
  | d + 1, i => wrap64 (bt f (i : Int)) :: lettersF f d (i + 1)
theorem letters_len (f : ByteArray) : ∀ d i, (lettersF f d i).length = d
  | 0, _ => rfl
  | d + 1, i => by unfold lettersF; rw [List.length_cons, letters_len f d (i + 1)]
theorem sLet_l0 {f : ByteArray} (hz : f.size ≤ 8) : ∀ d i (acc : List Int), i + d = f.size → acc.length = i → Ev (fun k => spec_LettersOf.l0 k f acc (i : Int)) (acc ++ lettersF f d i)
  | 0, i, acc, h, ha => by
    refine Ev.succ (fun k => by rw [spec_LettersOf.l0]) ?_
    exact Ev.neg (by omega) ((Ev.pure _).eq (by simp [lettersF]))
  | d + 1, i, acc, h, ha => by
    have ih := sLet_l0 hz d (i + 1) (acc ++ [wrap64 (bt f (i : Int))]) (by omega) (by simp [ha])
    rw [Int.natCast_add] at ih
    refine Ev.succ (fun k => by rw [spec_LettersOf.l0]) ?_
    refine Ev.pos (by omega) (Ev.pos (by omega) (Ev.pos (by omega) ?_))
    rw [w64 (n := (i : Int) + 1) (by omega)]
    exact ih.eq (by simp [lettersF])
theorem iLet_l0 {f : ByteArray} (hz : f.size ≤ 8) : ∀ d i (acc : List Int), i + d = f.size → acc.length = i → Ev (fun k => impl_LettersOf.l0 k f acc (f.size : Int) (i : Int)) (acc ++ lettersF f d i)
  | 0, i, acc, h, ha => by
    refine Ev.succ (fun k => by rw [impl_LettersOf.l0]) ?_
    exact Ev.neg (by omega) ((Ev.pure _).eq (by simp [lettersF]))
  | d + 1, i, acc, h, ha => by
    have ih := iLet_l0 hz d (i + 1) (acc ++ [wrap64 (bt f (i : Int))]) (by omega) (by simp [ha])
    rw [Int.natCast_add] at ih
    refine Ev.succ (fun k => by rw [impl_LettersOf.l0]) ?_
    refine Ev.pos (by omega) (Ev.pos (by omega) (Ev.pos (by omega) (Ev.pos (by omega) ?_)))
    rw [w64 (n := (i : Int) + 1) (by omega)]
    exact ih.eq (by simp [lettersF])
def sealV (a b : Int) (f : ByteArray) : Int := if isW f = true then hashF ([a, b, (f.size : Int)] ++ lettersF f f.size 0) 11 else 0
theorem sSeal (a b : Int) (f : ByteArray) : Ev (fun k => spec_SealAnswer.f k a b f) (sealV a b f) := by
  unfold spec_SealAnswer.f sealV
  refine Ev.bind (sWord f) ?_
  refine Ev.ite (fun h => ?_) (fun h => ?_)
  · rw [if_pos h]
    have hz := isW_size h
    have hl := letters_len f f.size 0
    have h1 := sLet_l0 hz.2 f.size 0 [] (by omega) rfl
    have h2 := sHash_l0 (xs := [a, b, (f.size : Int)] ++ lettersF f f.size 0) (by rw [List.length_append, hl]; simp; omega) _ 0 11 (by rw [Nat.zero_add])
    unfold spec_LettersOf.f spec_Hash.f
    refine Ev.bind (Ev.pure _) (Ev.bind h1 (Ev.pos (by rw [List.nil_append, hl]; simp; omega) ?_))
    refine Ev.bind h2 ?_
    rw [List.drop_zero]
    exact Ev.pure _
  · rw [if_neg h]; exact Ev.pure _
theorem iSeal (a b : Int) (f : ByteArray) : Ev (fun k => impl_SealAnswer.f k a b f) (sealV a b f) := by
  unfold impl_SealAnswer.f sealV
  refine Ev.bind (iWord f) ?_
  refine Ev.ite (fun h => ?_) (fun h => ?_)
  · rw [if_pos h]
    have hz := isW_size h
    have hl := letters_len f f.size 0
    have h1 := iLet_l0 hz.2 f.size 0 [] (by omega) rfl
    have h2 := iHash_l0 (xs := [a, b, (f.size : Int)] ++ lettersF f f.size 0) (by rw [List.length_append, hl]; simp; omega) _ 0 11 (by rw [Nat.zero_add])
    unfold impl_LettersOf.f impl_Hash.f
    refine Ev.bind (Ev.pure _) (Ev.bind h1 (Ev.pos (by rw [List.nil_append, hl]; simp; omega) ?_))
    refine Ev.bind h2 ?_
    rw [List.drop_zero]
    exact Ev.pure _
  · rw [if_neg h]; exact Ev.pure _
def checkV (l : List Int) (a b : Int) (f : ByteArray) : Bool := decide (0 ≤ b ∧ b < (l.length : Int)) && (isW f && (sealV a b f == rd l b))
theorem sCheck {l : List Int} (hl : l.length ≤ 10000000) (a b : Int) (f : ByteArray) : Ev (fun k => spec_ChecksAnswer.f k l a b f) (checkV l a b f) := by
  unfold spec_ChecksAnswer.f checkV
  rw [w64 (by omega)]
  simp only [l1In_eq, Option.bind_some, decide_eq_true_eq]
  by_cases hb : 0 ≤ b ∧ b < (l.length : Int)
  · refine Ev.pos (by omega) (Ev.bind (sWord f) ?_)
    cases hw : isW f with
    | true => exact Ev.pos rfl (Ev.bind (sSeal a b f) (Ev.pos hb.1 (Ev.pos hb.2 ((Ev.pure _).eq (by simp [hb])))))
    | false => exact Ev.neg (by decide) ((Ev.pure _).eq (by simp))
  · exact Ev.neg (by omega) ((Ev.pure _).eq (by simp only [hb, decide_false, Bool.false_and]))
theorem iCheck {l : List Int} (hl : l.length ≤ 10000000) (a b : Int) (f : ByteArray) : Ev (fun k => impl_ChecksAnswer.f k l a b f) (checkV l a b f) := by
  unfold impl_ChecksAnswer.f checkV
  simp only [at_eq, Option.bind_some, decide_eq_true_eq]
  by_cases hb : 0 ≤ b ∧ b < (l.length : Int)
  · refine Ev.pos (by omega) (Ev.bind (iWord f) ?_)
    cases hw : isW f with
    | true => exact Ev.pos rfl (Ev.bind (iSeal a b f) (Ev.pos hb.1 (Ev.pos hb.2 ((Ev.pure _).eq (by simp [hb])))))
    | false => exact Ev.neg (by decide) ((Ev.pure _).eq (by simp))
  · exact Ev.neg (by omega) ((Ev.pure _).eq (by simp only [hb, decide_false, Bool.false_and]))
/-! ### patterns -/
def readN (f : ByteArray) (l : List Int) : ByteArray := strOfNums (l.map (bt f))
theorem iRead_l0 {f : ByteArray} {l : List Int} (h6 : l.length ≤ 6) (hr : ∀ a ∈ l, 0 ≤ a ∧ a < (f.size : Int)) : ∀ d i (acc : List Int), i + d = l.length → acc = (l.take i).map (bt f) → Ev (fun k => impl_readCells.l0 k f acc l (l.length : Int) (i : Int)) (readN f l)
  | 0, i, acc, h, ha => by
    refine Ev.succ (fun k => by rw [impl_readCells.l0]) ?_
    refine Ev.neg (by omega) ((Ev.pure _).eq ?_)
    rw [ha, List.take_of_length_le (by omega)]
    rfl
  | d + 1, i, acc, h, ha => by
    have hlt : i < l.length := by omega
    have ih := iRead_l0 h6 hr d (i + 1) (acc ++ [bt f l[i]]) (by omega) (by rw [ha, ← List.map_singleton, ← List.map_append, ← List.take_append_getElem hlt])
    rw [Int.natCast_add] at ih
    have hb := hr l[i] (List.getElem_mem hlt)
    have hal : acc.length ≤ 6 := by rw [ha, List.length_map, List.length_take]; omega
    refine Ev.succ (fun k => by rw [impl_readCells.l0]) ?_
    rw [rdI hlt, w64 (by omega)]
    exact Ev.pos (by omega) (Ev.pos (by omega) (Ev.pos (by omega) (Ev.pos hb.1 (Ev.pos hb.2 (Ev.pos (by omega) ih)))))
theorem sPat_l0 {f : ByteArray} {l : List Int} (hf : f.size ≤ 100000) (h6 : l.length ≤ 6) (hr : ∀ a ∈ l, 0 ≤ a ∧ a < (f.size : Int)) : ∀ d i (acc : ByteArray), i + d = l.length → acc = strOfNums ((l.take i).map (bt f)) → Ev (fun k => spec_SlotPattern.l0 k f acc l (i : Int)) (readN f l)
  | 0, i, acc, h, ha => by
    refine Ev.succ (fun k => by rw [spec_SlotPattern.l0]) ?_
    refine Ev.neg (by omega) ((Ev.pure _).eq ?_)
    rw [ha, List.take_of_length_le (by omega)]
    rfl
  | d + 1, i, acc, h, ha => by
    have hlt : i < l.length := by omega
    have hb := hr l[i] (List.getElem_mem hlt)
    obtain ⟨a, haa⟩ : ∃ a : Nat, l[i] = a := ⟨l[i].toNat, by omega⟩
    have he := ex1 (s := f) (i := a) (by omega)
    have hbt : bt f (a : Int) = ((f[a]'(by omega)).toNat : Int) := by
      unfold bt
      rw [dif_pos (by rw [Int.toNat_natCast]; omega)]
      rfl
    have hacc : acc ++ f.extract a (a + 1) = strOfNums ((l.take (i + 1)).map (bt f)) := by
      apply ba_ext
      rw [ByteArray.data_append, Array.toList_append, he, ha, ← List.take_append_getElem hlt, List.map_append, List.map_singleton, haa, hbt]
      unfold strOfNums
      simp
    have ih := sPat_l0 hf h6 hr d (i + 1) (acc ++ f.extract a (a + 1)) (by omega) hacc
    rw [Int.natCast_add] at ih
    have hal : acc.size ≤ 6 := by
      rw [ha]
      have hs : (strOfNums ((l.take i).map (bt f))).size = (((l.take i).map (bt f)).map (fun n => UInt8.ofNat n.toNat)).length := rfl
      rw [hs, List.length_map, List.length_map, List.length_take]; omega
    have h1 : (f.extract a (a + 1)).size = 1 := congrArg List.length he
    refine Ev.succ (fun k => by rw [spec_SlotPattern.l0]) ?_
    rw [rdI hlt, haa, w64 (n := (i : Int) + 1) (by omega), w64 (n := (a : Int) + 1) (by omega)]
    have t1 : ((a : Int) + 1).toNat = a + 1 := by omega
    refine Ev.pos (by omega) (Ev.pos (by omega) (Ev.pos (by omega) (Ev.pos (by omega) (Ev.pos (by omega) (Ev.pos ?_ ?_)))))
    · rw [t1, Int.toNat_natCast]; omega
    · rw [t1, Int.toNat_natCast]; exact ih
theorem isF_gr {R C : Int} {s f : ByteArray} (h : isF R C s f = true) : isG R C s = true ∧ f.size = s.size := by
  unfold isF at h
  simp only [Bool.and_eq_true, decide_eq_true_eq] at h
  exact ⟨h.1, h.2.1⟩
theorem iPat_l0 {R C : Int} {s f : ByteArray} {r c : Nat} (g : Gr R C s r c) (hf : f.size = s.size) : ∀ d i (acc : List ByteArray), i + d = (layoutN r c s).length → acc = ((layoutN r c s).take i).map (readN f) → Ev (fun k => impl_patterns.l0 k f acc (layoutN r c s) ((layoutN r c s).length : Int) (i : Int)) ((layoutN r c s).map (readN f))
  | 0, i, acc, h, ha => by
    refine Ev.succ (fun k => by rw [impl_patterns.l0]) ?_
    refine Ev.neg (by omega) ((Ev.pure _).eq ?_)
    rw [ha, List.take_of_length_le (by omega)]
  | d + 1, i, acc, h, ha => by
    have hll := layout_len g
    have hlt : i < (layoutN r c s).length := by omega
    have hm := layout_mem g (List.getElem_mem hlt)
    have ih := iPat_l0 g hf d (i + 1) (acc ++ [readN f (layoutN r c s)[i]]) (by omega) (by rw [ha, ← List.map_singleton, ← List.map_append, ← List.take_append_getElem hlt])
    rw [Int.natCast_add] at ih
    have hal : acc.length ≤ 72 := by rw [ha, List.length_map, List.length_take]; omega
    refine Ev.succ (fun k => by rw [impl_patterns.l0]) ?_
    refine Ev.pos (by omega) (Ev.pos (by omega) (Ev.pos (by omega) ?_))
    rw [rdL hlt, w64 (by omega)]
    unfold impl_readCells.f
    exact Ev.bind (iRead_l0 hm.1 (by rw [hf]; exact hm.2) _ 0 [] (by rw [Nat.zero_add]) rfl) (Ev.pos (by omega) ih)
theorem iPat {R C : Int} {s f : ByteArray} {r c : Nat} (g : Gr R C s r c) (h : isF R C s f = true) : Ev (fun k => impl_patterns.f k R C s f) ((layoutN r c s).map (readN f)) := by
  unfold impl_patterns.f
  refine Ev.bind (iFill R C s f) (Ev.pos h (Ev.bind (ilayout g (isF_gr h).1) ?_))
  exact iPat_l0 g (isF_gr h).2 _ 0 [] (by rw [Nat.zero_add]) rfl
theorem sPat {R C : Int} {s f : ByteArray} {r c : Nat} (g : Gr R C s r c) (h : isF R C s f = true) {i : Nat} (hi : i < (layoutN r c s).length) : Ev (fun k => spec_SlotPattern.f k R C s f (i : Int)) (readN f (layoutN r c s)[i]) := by
  have hll := layout_len g
  have hm := layout_mem g (List.getElem_mem hi)
  have hz : s.size ≤ 36 := by have := g.sz; have := g.mx; omega
  have hf := (isF_gr h).2
  unfold spec_SlotPattern.f
  refine Ev.bind (sSlotsOf g (isF_gr h).1) (Ev.bind (sFill R C s f) (Ev.pos h ?_))
  rw [w64 (by omega)]
  simp only [l1In_eq, Option.bind_some]
  have e : (!decide (0 ≤ (i : Int) ∧ (i : Int) ≤ ((slots r c s).length : Int) - 1)) = false := by simp; omega
  rw [e]
  refine Ev.succ (fun k => by rw [spec_SlotPattern.j0]) ?_
  refine Ev.neg (by decide) (Ev.pos (by omega) (Ev.pos (by omega) ?_))
  rw [rdT (by omega)]
  have e0 := layout_at hi (by omega)
  refine Ev.bind (sCells g (isF_gr h).1 (List.getElem_mem _)) ?_
  rw [← e0]
  exact sPat_l0 (by omega) hm.1 (by rw [hf]; exact hm.2) _ 0 _ (by rw [Nat.zero_add]) rfl
def rightF (l : List Int) (a : Int) : List ByteArray → Nat → List Int
  | [], _ => []
  | w :: t, i => (if checkV l a (i : Int) w = true then [(i : Int)] else []) ++ rightF l a t (i + 1)
theorem iRight_l0 {l : List Int} {a : Int} (hl : l.length ≤ 10000000) {ws : List ByteArray} (hw : ws.length ≤ 72) : ∀ d i (acc : List Int), i + d = ws.length → acc.length ≤ i → Ev (fun k => impl_RightSlots.l0 k l a acc ws (ws.length : Int) (i : Int)) (acc ++ rightF l a (ws.drop i) i)
  | 0, i, acc, h, ha => by
    refine Ev.succ (fun k => by rw [impl_RightSlots.l0]) ?_
    exact Ev.neg (by omega) ((Ev.pure _).eq (by rw [List.drop_eq_nil_of_le (by omega)]; simp [rightF]))
  | d + 1, i, acc, h, ha => by
    have hlt : i < ws.length := by omega
    refine Ev.succ (fun k => by rw [impl_RightSlots.l0]) ?_
    refine Ev.pos (by omega) (Ev.pos (by omega) (Ev.pos (by omega) ?_))
    have hr : rdOf ByteArray.empty ws (i : Int) = ws[i] := by unfold rdOf; rw [Int.toNat_natCast]; exact getD_at _ hlt
    rw [hr, w64 (by omega), List.drop_eq_getElem_cons hlt, rightF]
    refine Ev.bind (iCheck hl a (i : Int) ws[i]) ?_
    by_cases e : checkV l a (i : Int) ws[i] = true
    · have ih := iRight_l0 (a := a) hl hw d (i + 1) (acc ++ [(i : Int)]) (by omega) (by simp; omega)
      rw [Int.natCast_add] at ih
      exact Ev.pos e (Ev.pos (by omega) (ih.eq (by simp [e])))
    · have ih := iRight_l0 (a := a) hl hw d (i + 1) acc (by omega) (by omega)
      rw [Int.natCast_add] at ih
      exact Ev.neg e (ih.eq (by simp [e]))
theorem sRight_l0 {R C : Int} {s f : ByteArray} {r c : Nat} (g : Gr R C s r c) (hF : isF R C s f = true) {l : List Int} {a : Int} (hl : l.length ≤ 10000000) : ∀ d i (acc : List Int), i + d = (slots r c s).length → acc.length ≤ i →
    Ev (fun k => spec_RightSlots.l0 k f l a acc (slots r c s) (i : Int) R C s) (acc ++ rightF l a (((layoutN r c s).map (readN f)).drop i) i)
  | 0, i, acc, h, ha => by
    refine Ev.succ (fun k => by rw [spec_RightSlots.l0]) ?_
    refine Ev.neg (by omega) (Ev.succ (fun k => by rw [spec_RightSlots.j1]) ?_)
    have := (layout_len g).1
    exact Ev.neg (by decide) ((Ev.pure _).eq (by rw [List.drop_eq_nil_of_le (by rw [List.length_map]; omega)]; simp [rightF]))
  | d + 1, i, acc, h, ha => by
    have hll := layout_len g
    have hlt : i < ((layoutN r c s).map (readN f)).length := by rw [List.length_map]; omega
    refine Ev.succ (fun k => by rw [spec_RightSlots.l0]) ?_
    refine Ev.pos (by omega) (Ev.bind (sFill R C s f) ?_)
    rw [hF]
    refine Ev.succ (fun k => by rw [spec_RightSlots.j1]) ?_
    refine Ev.pos rfl (Ev.bind (sPat g hF (show i < (layoutN r c s).length by omega)) (Ev.bind (sCheck hl a (i : Int) _) ?_))
    rw [w64 (by omega), List.drop_eq_getElem_cons hlt, rightF, List.getElem_map]
    by_cases e : checkV l a (i : Int) (readN f ((layoutN r c s)[i]'(by omega))) = true
    · have ih := sRight_l0 g hF (a := a) hl d (i + 1) (acc ++ [(i : Int)]) (by omega) (by simp; omega)
      rw [Int.natCast_add] at ih
      exact Ev.pos e (Ev.pos (by omega) (ih.eq (by simp [e])))
    · have ih := sRight_l0 g hF (a := a) hl d (i + 1) acc (by omega) (by omega)
      rw [Int.natCast_add] at ih
      exact Ev.neg e (ih.eq (by simp [e]))
theorem right {R C : Int} {s f : ByteArray} (hF : isF R C s f = true) {l : List Int} (hl : l.length ≤ 10000000) (a : Int) : ∃ v : List Int, Ev (fun k => spec_RightSlots.f k R C s f l a) v ∧ Ev (fun k => impl_RightSlots.f k R C s f l a) v := by
  obtain ⟨r, c, g⟩ := isG_gr (isF_gr hF).1
  refine ⟨rightF l a ((layoutN r c s).map (readN f)) 0, ?_, ?_⟩
  · unfold spec_RightSlots.f
    refine Ev.bind (sSlotsOf g (isF_gr hF).1) ?_
    have := sRight_l0 g hF (a := a) hl (slots r c s).length 0 [] (by omega) (by simp)
    simpa using this
  · unfold impl_RightSlots.f
    refine Ev.bind (iPat g hF) ?_
    have := iRight_l0 (l := l) (a := a) hl (ws := (layoutN r c s).map (readN f)) (by rw [List.length_map]; exact (layout_len g).2) _ 0 [] (by rw [Nat.zero_add]) (by simp)
    simpa using this
/-! ### puzzles and issues -/
def cluesV : List S89 → Bool
  | [] => true
  | c :: t => if clueV c.f0 c.f1 = true then cluesV t else false
theorem rdC {xs : List S89} {i : Nat} (h : i < xs.length) : rd_T89 xs (i : Int) = xs[i] := by
  unfold rd_T89; simp [List.getD_eq_getElem?_getD, List.getElem?_eq_getElem h]
theorem slotsBoth (R C : Int) (s : ByteArray) : ∃ v : List S132, Ev (fun k => spec_SlotsOf.f k R C s) v ∧ Ev (fun k => impl_SlotsOf.f k R C s) v := by
  cases hg : isG R C s with
  | false => exact ⟨[], sSlotsOf_no hg, iSlotsOf_no hg⟩
  | true =>
    obtain ⟨r, c, g⟩ := isG_gr hg
    exact ⟨_, sSlotsOf g hg, iSlotsOf g hg⟩
theorem sPuz_l0 {R C : Int} {s : ByteArray} {cl : List S89} {se : List Int} {sa : Int} (hl : cl.length ≤ 10000000) {v : Int} {sl : List S132} (hv : Ev (fun k => spec_FormOf.f k R C s) v) (hs : Ev (fun k => spec_SlotsOf.f k R C s) sl) : ∀ d i, i + d = cl.length →
    Ev (fun k => spec_IsPuzzle.l0 k (i : Int) R C s cl se sa) (cluesV (cl.drop i) && (decide (v = 0) && (decide (cl.length = sl.length) && (decide (se.length = sl.length) && decide (1 ≤ sa ∧ sa ≤ 9999)))))
  | 0, i, h => by
    refine Ev.succ (fun k => by rw [spec_IsPuzzle.l0]) ?_
    refine Ev.neg (by omega) (Ev.bind hs (Ev.bind hv ?_))
    rw [List.drop_eq_nil_of_le (by omega)]
    simp only [l1In_eq, Option.bind_some, cluesV, Bool.true_and]
    refine Ev.ite (fun h => ?_) (fun h => (Ev.pure _).eq (by simp [h]))
    refine Ev.ite (fun h => ?_) (fun h => (Ev.pure _).eq (by simp; omega))
    refine Ev.ite (fun h => ?_) (fun h => (Ev.pure _).eq (by simp; omega))
    exact (Ev.pure _).eq (by simp [show v = 0 by assumption, show cl.length = sl.length by omega, show se.length = sl.length by omega])
  | d + 1, i, h => by
    have hlt : i < cl.length := by omega
    have ih := sPuz_l0 (sa := sa) (se := se) hl hv hs d (i + 1) (by omega)
    rw [Int.natCast_add] at ih
    refine Ev.succ (fun k => by rw [spec_IsPuzzle.l0]) ?_
    refine Ev.pos (by omega) (Ev.pos (by omega) ?_)
    rw [rdC hlt, w64 (by omega), List.drop_eq_getElem_cons hlt, cluesV]
    refine Ev.bind (sClue _ _) ?_
    refine Ev.ite (fun h => ?_) (fun h => (Ev.pure _).eq (by simp [h]))
    exact ih.eq (by simp [h])
theorem idx_ev : ∀ (cl : List S89) (i : Int), 0 ≤ i → ∃ v : Int, Ev (fun k => impl_Clue_100.idx (fun x => impl_IsPuzzle_1.f k (x).f0 (x).f1) cl i) v ∧ (decide (v ≥ 0) = !cluesV cl)
  | [], i, hi => ⟨-1, Ev.pure _, by simp [cluesV]⟩
  | c :: t, i, hi => by
    obtain ⟨v, h1, h2⟩ := idx_ev t (i + 1) (by omega)
    have hc : Ev (fun k => impl_IsPuzzle_1.f k c.f0 c.f1) (!clueV c.f0 c.f1) := by
      unfold impl_IsPuzzle_1.f
      exact Ev.bind (iClue _ _) (Ev.pure _)
    by_cases e : clueV c.f0 c.f1 = true
    · refine ⟨v, ?_, by rw [h2, cluesV, if_pos e]⟩
      unfold impl_Clue_100.idx
      exact Ev.bind hc (Ev.neg (by simp [e]) h1)
    · refine ⟨i, ?_, by rw [cluesV, if_neg e]; simp; omega⟩
      unfold impl_Clue_100.idx
      exact Ev.bind hc (Ev.pos (by simpa using e) (Ev.pure _))
theorem puzzle (R C : Int) (s : ByteArray) (cl : List S89) (se : List Int) (sa : Int) (hl : cl.length ≤ 10000000) : ∃ b : Bool, Ev (fun k => spec_IsPuzzle.f k R C s cl se sa) b ∧ Ev (fun k => impl_IsPuzzle.f k R C s cl se sa) b ∧ (b = true → cl.length = se.length) := by
  obtain ⟨v, v1, v2, _⟩ := form R C s
  obtain ⟨sl, s1, s2⟩ := slotsBoth R C s
  have h0 := sPuz_l0 (se := se) (sa := sa) hl v1 s1 cl.length 0 (by omega)
  rw [List.drop_zero] at h0
  refine ⟨_, h0, ?_, fun h => by simp only [Bool.and_eq_true, decide_eq_true_eq] at h; omega⟩
  unfold impl_IsPuzzle.f
  refine Ev.bind v2 ?_
  refine Ev.ite (fun h => ?_) (fun h => (Ev.pure _).eq (by simp [h]))
  refine Ev.bind s2 ?_
  refine Ev.ite (fun h => ?_) (fun h => (Ev.pure _).eq (by rw [show decide (cl.length = sl.length) = false by simp; omega]; simp))
  refine Ev.ite (fun h => ?_) (fun h => (Ev.pure _).eq (by rw [show decide (se.length = sl.length) = false by simp; omega]; simp))
  simp only [InRange_eq, Option.bind_some, decide_eq_true_eq]
  refine Ev.ite (fun h => ?_) (fun h => (Ev.pure _).eq (by simp only [h, decide_false, Bool.and_false]))
  obtain ⟨w, w1, w2⟩ := idx_ev cl 0 (by omega)
  unfold impl_Clue_100.f
  refine Ev.bind (Ev.pos rfl (Ev.bind w1 (Ev.pure _))) ((Ev.pure _).eq ?_)
  rw [w2]
  simp [show v = 0 by assumption, show cl.length = sl.length by omega, show se.length = sl.length by omega, show 1 ≤ sa ∧ sa ≤ 9999 by assumption]
theorem solved (R C : Int) (s : ByteArray) (cl : List S89) (se : List Int) (sa : Int) (f : ByteArray) (hl : cl.length ≤ 10000000) (hs : se.length ≤ 10000000) : ∃ b : Bool, Ev (fun k => spec_IsSolved.f k R C s cl se sa f) b ∧ Ev (fun k => impl_IsSolved.f k R C s cl se sa f) b := by
  obtain ⟨b, b1, b2, b3⟩ := puzzle R C s cl se sa hl
  obtain ⟨u, u1, u2, u3⟩ := full R C s f
  unfold spec_IsSolved.f impl_IsSolved.f
  by_cases hb : b = true
  · by_cases hu : u = true
    · obtain ⟨v, v1, v2⟩ := right (u3 hu) (l := se) hs sa
      refine ⟨_, Ev.bind b1 (Ev.pos hb (Ev.bind u1 (Ev.pos hu (Ev.bind v1 (Ev.pure _))))), Ev.bind b2 (Ev.pos hb (Ev.bind u2 (Ev.pos hu (Ev.bind v2 ((Ev.pure _).eq ?_)))))⟩
      rw [b3 hb]
    · exact ⟨false, Ev.bind b1 (Ev.pos hb (Ev.bind u1 (Ev.neg hu (Ev.pure _)))), Ev.bind b2 (Ev.pos hb (Ev.bind u2 (Ev.neg hu (Ev.pure _))))⟩
  · exact ⟨false, Ev.bind b1 (Ev.neg hb (Ev.pure _)), Ev.bind b2 (Ev.neg hb (Ev.pure _))⟩
theorem issue (n R C : Int) (s : ByteArray) (cl : List S89) (se : List Int) (sa : Int) (f : ByteArray) (o c : Int) (hl : cl.length ≤ 10000000) (hs : se.length ≤ 10000000) : ∃ b : Bool, Ev (fun k => spec_IsIssue.f k n R C s cl se sa f o c) b ∧ Ev (fun k => impl_IsIssue.f k n R C s cl se sa f o c) b := by
  obtain ⟨b, b1, b2⟩ := solved R C s cl se sa f hl hs
  unfold spec_IsIssue.f impl_IsIssue.f
  simp only [l1In_eq, InRange_eq, Option.bind_some, decide_eq_true_eq]
  by_cases hn : 1 ≤ n ∧ n ≤ 999
  · by_cases hb : b = true
    · have tail : Ev (fun _ => if o ≥ 0 then (if o < c then some (decide (c ≤ 1000)) else some false) else some false) (if o ≥ 0 then (if o < c then decide (c ≤ 1000) else false) else false) := by
        refine Ev.ite (fun h => ?_) (fun h => (Ev.pure _).eq (if_neg h).symm)
        rw [if_pos h]
        exact Ev.ite (fun h => (Ev.pure _).eq (if_pos h).symm) (fun h => (Ev.pure _).eq (if_neg h).symm)
      exact ⟨_, Ev.pos hn (Ev.bind b1 (Ev.pos hb tail)), Ev.pos hn (Ev.bind b2 (Ev.pos hb tail))⟩
    · exact ⟨false, Ev.pos hn (Ev.bind b1 (Ev.neg hb (Ev.pure _))), Ev.pos hn (Ev.bind b2 (Ev.neg hb (Ev.pure _)))⟩
  · exact ⟨false, Ev.neg hn (Ev.pure _), Ev.neg hn (Ev.pure _)⟩
/-! ### the law's own helpers -/
def big : Nat := 9223372036854775807
def stepW (x : S152) : S121 := ⟨x.f0, x.f1, x.f2, x.f3⟩
def clueW (x : S83) : S89 := ⟨x.f0, x.f1.map stepW⟩
def FitS (l : List S152) : Prop := l.length ≤ big ∧ ∀ x ∈ l, x.f1.size ≤ big
def FitC (l : List S83) : Prop := l.length ≤ big ∧ ∀ x ∈ l, FitS x.f1
def cap : Nat := 1048576
theorem rdA {xs : List S152} {i : Nat} (h : i < xs.length) : rd_T152 xs (i : Int) = xs[i] := by
  unfold rd_T152; simp [List.getD_eq_getElem?_getD, List.getElem?_eq_getElem h]
theorem rdB {xs : List S83} {i : Nat} (h : i < xs.length) : rd_T83 xs (i : Int) = xs[i] := by
  unfold rd_T83; simp [List.getD_eq_getElem?_getD, List.getElem?_eq_getElem h]
/-- what is left after a size: negative, or the size was small -/
theorem left_ev {n : Nat} {a : Int} (hn : n ≤ big) (ha : 0 ≤ a ∧ a ≤ 1048576) : wrap64 (a - n) = a - n ∧ (¬ a - (n : Int) < 0 → n ≤ 1048576) := by
  unfold big at hn
  exact ⟨w64 (by omega), by omega⟩
theorem szStep_eq {x : S152} (hx : x.f1.size ≤ big) {a : Int} (ha : 0 ≤ a ∧ a ≤ 1048576) : ∃ v : Int, laws_szStep.f x.f0 x.f1 x.f2 x.f3 a = some v ∧ v ≤ 1048576 := by
  unfold laws_szStep.f
  rw [(left_ev hx ha).1]
  by_cases h : a - (x.f1.size : Int) < 0
  · exact ⟨-1, by rw [if_pos h], by omega⟩
  · exact ⟨_, by rw [if_neg h], by omega⟩
theorem szStepS_l0 {l : List S152} (hl : l.length ≤ 1048576) (hf : ∀ x ∈ l, x.f1.size ≤ big) : ∀ d i (a : Int), i + d = l.length → 0 ≤ a ∧ a ≤ 1048576 → ∃ v : Int, Ev (fun k => laws_szStepS.l0 k l a (i : Int)) v ∧ v ≤ 1048576
  | 0, i, a, h, ha => by
    refine ⟨a, ?_, ha.2⟩
    refine Ev.succ (fun k => by rw [laws_szStepS.l0]) ?_
    exact Ev.neg (by omega) (Ev.pure _)
  | d + 1, i, a, h, ha => by
    have hlt : i < l.length := by omega
    obtain ⟨u, u1, u2⟩ := szStep_eq (hf _ (List.getElem_mem hlt)) ha
    by_cases hu : u < 0
    · refine ⟨-1, ?_, by omega⟩
      refine Ev.succ (fun k => by rw [laws_szStepS.l0]) ?_
      refine Ev.pos (by omega) (Ev.pos (by omega) ?_)
      rw [rdA hlt]
      exact Ev.bind (Ev.const u1) (Ev.pos hu (Ev.pure _))
    · obtain ⟨v, v1, v2⟩ := szStepS_l0 hl hf d (i + 1) u (by omega) (by omega)
      refine ⟨v, ?_, v2⟩
      rw [Int.natCast_add] at v1
      refine Ev.succ (fun k => by rw [laws_szStepS.l0]) ?_
      refine Ev.pos (by omega) (Ev.pos (by omega) ?_)
      rw [rdA hlt, w64 (by omega)]
      exact Ev.bind (Ev.const u1) (Ev.neg hu v1)
theorem szStepS {l : List S152} (hf : FitS l) {a : Int} (ha : 0 ≤ a ∧ a ≤ 1048576) : ∃ v : Int, Ev (fun k => laws_szStepS.f k l a) v ∧ v ≤ 1048576 ∧ (¬ v < 0 → l.length ≤ 1048576) := by
  unfold laws_szStepS.f
  have hw := left_ev hf.1 ha
  rw [hw.1]
  by_cases h : a - (l.length : Int) < 0
  · exact ⟨-1, Ev.pos h (Ev.pure _), by omega, by omega⟩
  · obtain ⟨v, v1, v2⟩ := szStepS_l0 (hw.2 h) hf.2 l.length 0 (a - l.length) (by omega) (by omega)
    exact ⟨v, Ev.neg h v1, v2, fun _ => hw.2 h⟩
theorem szClue {x : S83} (hf : FitS x.f1) {a : Int} (ha : 0 ≤ a ∧ a ≤ 1048576) : ∃ v : Int, Ev (fun k => laws_szClue.f k x.f0 x.f1 a) v ∧ v ≤ 1048576 ∧ (¬ v < 0 → x.f1.length ≤ 1048576) := by
  unfold laws_szClue.f
  obtain ⟨v, v1, v2, v3⟩ := szStepS hf ha
  by_cases h : v < 0
  · exact ⟨-1, Ev.bind v1 (Ev.pos h (Ev.pure _)), by omega, by omega⟩
  · exact ⟨v, Ev.bind v1 (Ev.neg h (Ev.pure _)), v2, v3⟩
theorem szClueS_l0 {l : List S83} (hl : l.length ≤ 1048576) (hf : ∀ x ∈ l, FitS x.f1) : ∀ d i (a : Int), i + d = l.length → 0 ≤ a ∧ a ≤ 1048576 → ∃ v : Int, Ev (fun k => laws_szClueS.l0 k l a (i : Int)) v ∧ v ≤ 1048576 ∧ (¬ v < 0 → ∀ x ∈ l.drop i, x.f1.length ≤ 1048576)
  | 0, i, a, h, ha => by
    refine ⟨a, ?_, ha.2, fun _ => by rw [List.drop_eq_nil_of_le (by omega)]; simp⟩
    refine Ev.succ (fun k => by rw [laws_szClueS.l0]) ?_
    exact Ev.neg (by omega) (Ev.pure _)
  | d + 1, i, a, h, ha => by
    have hlt : i < l.length := by omega
    obtain ⟨u, u1, u2, u3⟩ := szClue (hf _ (List.getElem_mem hlt)) ha
    by_cases hu : u < 0
    · refine ⟨-1, ?_, by omega, by omega⟩
      refine Ev.succ (fun k => by rw [laws_szClueS.l0]) ?_
      refine Ev.pos (by omega) (Ev.pos (by omega) ?_)
      rw [rdB hlt]
      exact Ev.bind u1 (Ev.pos hu (Ev.pure _))
    · obtain ⟨v, v1, v2, v3⟩ := szClueS_l0 hl hf d (i + 1) u (by omega) (by omega)
      refine ⟨v, ?_, v2, fun hv => ?_⟩
      · rw [Int.natCast_add] at v1
        refine Ev.succ (fun k => by rw [laws_szClueS.l0]) ?_
        refine Ev.pos (by omega) (Ev.pos (by omega) ?_)
        rw [rdB hlt, w64 (by omega)]
        exact Ev.bind u1 (Ev.neg hu v1)
      · rw [List.drop_eq_getElem_cons hlt]
        intro x hx
        rcases List.mem_cons.mp hx with rfl | hx
        · exact u3 hu
        · exact v3 hv x hx
theorem szClueS {l : List S83} (hf : FitC l) {a : Int} (ha : 0 ≤ a ∧ a ≤ 1048576) : ∃ v : Int, Ev (fun k => laws_szClueS.f k l a) v ∧ v ≤ 1048576 ∧ (¬ v < 0 → l.length ≤ 1048576 ∧ ∀ x ∈ l, x.f1.length ≤ 1048576) := by
  unfold laws_szClueS.f
  have hw := left_ev hf.1 ha
  rw [hw.1]
  by_cases h : a - (l.length : Int) < 0
  · exact ⟨-1, Ev.pos h (Ev.pure _), by omega, by omega⟩
  · obtain ⟨v, v1, v2, v3⟩ := szClueS_l0 (hw.2 h) hf.2 l.length 0 (a - l.length) (by omega) (by omega)
    exact ⟨v, Ev.neg h v1, v2, fun hv => ⟨hw.2 h, by simpa using v3 hv⟩⟩
theorem szGrid_eq {R C : Int} {s : ByteArray} (hs : s.size ≤ big) {a : Int} (ha : 0 ≤ a ∧ a ≤ 1048576) : ∃ v : Int, laws_szGrid.f R C s a = some v ∧ v ≤ 1048576 := by
  unfold laws_szGrid.f
  rw [(left_ev hs ha).1]
  by_cases h : a - (s.size : Int) < 0
  · exact ⟨-1, by rw [if_pos h], by omega⟩
  · exact ⟨_, by rw [if_neg h], by omega⟩
theorem szIntS_eq {l : List Int} (hs : l.length ≤ big) {a : Int} (ha : 0 ≤ a ∧ a ≤ 1048576) : ∃ v : Int, laws_szIntS.f l a = some v ∧ v ≤ 1048576 ∧ (¬ v < 0 → l.length ≤ 1048576) := by
  unfold laws_szIntS.f
  have hw := left_ev hs ha
  rw [hw.1]
  by_cases h : a - (l.length : Int) < 0
  · exact ⟨-1, by rw [if_pos h], by omega, by omega⟩
  · exact ⟨_, by rw [if_neg h], by omega, fun _ => hw.2 h⟩
theorem szPuzzle {R C : Int} {s : ByteArray} {cl : List S83} {se : List Int} {sa : Int} (hs : s.size ≤ big) (hc : FitC cl) (he : se.length ≤ big) {a : Int} (ha : 0 ≤ a ∧ a ≤ 1048576) :
    ∃ v : Int, Ev (fun k => laws_szPuzzle.f k R C s cl se sa a) v ∧ v ≤ 1048576 ∧ (¬ v < 0 → (cl.length ≤ 1048576 ∧ ∀ x ∈ cl, x.f1.length ≤ 1048576) ∧ se.length ≤ 1048576) := by
  unfold laws_szPuzzle.f
  obtain ⟨u, u1, u2⟩ := szGrid_eq (R := R) (C := C) hs ha
  by_cases hu : u < 0
  · exact ⟨-1, Ev.bind (Ev.const u1) (Ev.pos hu (Ev.pure _)), by omega, by omega⟩
  · obtain ⟨v, v1, v2, v3⟩ := szClueS hc (a := u) (by omega)
    by_cases hv : v < 0
    · exact ⟨-1, Ev.bind (Ev.const u1) (Ev.neg hu (Ev.bind v1 (Ev.pos hv (Ev.pure _)))), by omega, by omega⟩
    · obtain ⟨w, w1, w2, w3⟩ := szIntS_eq he (a := v) (by omega)
      by_cases hw : w < 0
      · exact ⟨-1, Ev.bind (Ev.const u1) (Ev.neg hu (Ev.bind v1 (Ev.neg hv (Ev.bind (Ev.const w1) (Ev.pos hw (Ev.pure _)))))), by omega, by omega⟩
      · exact ⟨w, Ev.bind (Ev.const u1) (Ev.neg hu (Ev.bind v1 (Ev.neg hv (Ev.bind (Ev.const w1) (Ev.neg hw (Ev.pure _)))))), w2, fun h => ⟨v3 hv, w3 h⟩⟩
theorem szIssue {n R C : Int} {s f : ByteArray} {cl : List S83} {se : List Int} {sa o c : Int} (hs : s.size ≤ big) (hc : FitC cl) (he : se.length ≤ big) (hf : f.size ≤ big) {a : Int} (ha : 0 ≤ a ∧ a ≤ 1048576) :
    ∃ v : Int, Ev (fun k => laws_szIssue.f k n R C s cl se sa f o c a) v ∧ v ≤ 1048576 ∧ (¬ v < 0 → (cl.length ≤ 1048576 ∧ ∀ x ∈ cl, x.f1.length ≤ 1048576) ∧ se.length ≤ 1048576) := by
  unfold laws_szIssue.f
  obtain ⟨u, u1, u2, u3⟩ := szPuzzle (R := R) (C := C) (sa := sa) hs hc he ha
  by_cases hu : u < 0
  · exact ⟨-1, Ev.bind u1 (Ev.pos hu (Ev.pure _)), by omega, by omega⟩
  · have hw := left_ev hf (a := u) (by omega)
    by_cases h : wrap64 (u - (f.size : Int)) < 0
    · exact ⟨-1, Ev.bind u1 (Ev.neg hu (Ev.pos h (Ev.pure _))), by omega, by omega⟩
    · exact ⟨_, Ev.bind u1 (Ev.neg hu (Ev.neg h (Ev.pure _))), by omega, fun _ => u3 hu⟩
/-! copies -/
theorem fill_set {α β : Type} {l : List α} {F : α → β} {z : β} {i : Nat} (h : i < l.length) : ((l.take i).map F ++ List.replicate (l.length - i) z).set i (F l[i]) = (l.take (i + 1)).map F ++ List.replicate (l.length - (i + 1)) z := by
  have hl : ((l.take i).map F).length = i := by rw [List.length_map, List.length_take]; omega
  rw [List.set_append_right i _ (by omega), hl, Nat.sub_self, show l.length - i = (l.length - (i + 1)) + 1 by omega, List.replicate_succ, List.set_cons_zero, ← List.take_append_getElem h, List.map_append]
  simp
theorem fill_len {α β : Type} {l : List α} {F : α → β} {z : β} {i : Nat} (h : i ≤ l.length) : ((l.take i).map F ++ List.replicate (l.length - i) z).length = l.length := by
  rw [List.length_append, List.length_map, List.length_take, List.length_replicate]; omega
theorem toStepS_l0 {l : List S152} (hl : l.length ≤ 1048576) : ∀ d i, i + d = l.length → Ev (fun k => laws_toStepS.l0 k l ((l.take i).map stepW ++ List.replicate (l.length - i) z121) (i : Int)) (l.map stepW)
  | 0, i, h => by
    refine Ev.succ (fun k => by rw [laws_toStepS.l0]) ?_
    refine Ev.neg (by omega) ((Ev.pure _).eq ?_)
    rw [List.take_of_length_le (by omega), show l.length - i = 0 by omega]
    simp
  | d + 1, i, h => by
    have hlt : i < l.length := by omega
    have ih := toStepS_l0 hl d (i + 1) (by omega)
    rw [← fill_set hlt, Int.natCast_add] at ih
    refine Ev.succ (fun k => by rw [laws_toStepS.l0]) ?_
    refine Ev.pos (by omega) (Ev.pos (by omega) ?_)
    rw [rdA hlt, w64 (by omega)]
    unfold laws_toStep.f
    refine Ev.bind (Ev.pure _) (Ev.pos (by rw [fill_len (by omega)]; omega) ?_)
    rw [Int.toNat_natCast]
    exact ih
theorem toStepS {l : List S152} (hl : l.length ≤ 1048576) : Ev (fun k => laws_toStepS.f k l) (l.map stepW) := by
  unfold laws_toStepS.f
  refine Ev.pos (by omega) (Ev.pos (by omega) ?_)
  exact toStepS_l0 hl l.length 0 (by omega)
theorem toClueS_l0 {l : List S83} (hl : l.length ≤ 1048576) (hf : ∀ x ∈ l, x.f1.length ≤ 1048576) : ∀ d i, i + d = l.length → Ev (fun k => laws_toClueS.l0 k l ((l.take i).map clueW ++ List.replicate (l.length - i) z89) (i : Int)) (l.map clueW)
  | 0, i, h => by
    refine Ev.succ (fun k => by rw [laws_toClueS.l0]) ?_
    refine Ev.neg (by omega) ((Ev.pure _).eq ?_)
    rw [List.take_of_length_le (by omega), show l.length - i = 0 by omega]
    simp
  | d + 1, i, h => by
    have hlt : i < l.length := by omega
    have ih := toClueS_l0 hl hf d (i + 1) (by omega)
    rw [← fill_set hlt, Int.natCast_add] at ih
    refine Ev.succ (fun k => by rw [laws_toClueS.l0]) ?_
    refine Ev.pos (by omega) (Ev.pos (by omega) ?_)
    rw [rdB hlt, w64 (by omega)]
    unfold laws_toClue.f
    refine Ev.bind (Ev.bind (toStepS (hf _ (List.getElem_mem hlt))) (Ev.pure _)) (Ev.pos (by rw [fill_len (by omega)]; omega) ?_)
    rw [Int.toNat_natCast]
    exact ih
theorem toClueS {l : List S83} (hl : l.length ≤ 1048576) (hf : ∀ x ∈ l, x.f1.length ≤ 1048576) : Ev (fun k => laws_toClueS.f k l) (l.map clueW) := by
  unfold laws_toClueS.f
  refine Ev.pos (by omega) (Ev.pos (by omega) ?_)
  exact toClueS_l0 hl hf l.length 0 (by omega)
theorem toIntS_l0 {l : List Int} (hl : l.length ≤ 1048576) : ∀ d i, i + d = l.length → Ev (fun k => laws_toIntS.l0 k l ((l.take i).map id ++ List.replicate (l.length - i) 0) (i : Int)) (l.map id)
  | 0, i, h => by
    refine Ev.succ (fun k => by rw [laws_toIntS.l0]) ?_
    refine Ev.neg (by omega) ((Ev.pure _).eq ?_)
    rw [List.take_of_length_le (by omega), show l.length - i = 0 by omega]
    simp
  | d + 1, i, h => by
    have hlt : i < l.length := by omega
    have ih := toIntS_l0 hl d (i + 1) (by omega)
    rw [← fill_set hlt, Int.natCast_add] at ih
    refine Ev.succ (fun k => by rw [laws_toIntS.l0]) ?_
    refine Ev.pos (by omega) (Ev.pos (by omega) (Ev.pos (by rw [fill_len (by omega)]; omega) ?_))
    rw [rdI hlt, w64 (by omega), Int.toNat_natCast]
    exact ih
theorem toIntS {l : List Int} (hl : l.length ≤ 1048576) : Ev (fun k => laws_toIntS.f k l) l := by
  unfold laws_toIntS.f
  refine Ev.pos (by omega) (Ev.pos (by omega) ?_)
  have := toIntS_l0 hl l.length 0 (by omega)
  simpa using this
theorem toIssue {n R C : Int} {s f : ByteArray} {cl : List S83} {se : List Int} {sa o c : Int} (hl : cl.length ≤ 1048576) (hf : ∀ x ∈ cl, x.f1.length ≤ 1048576) (he : se.length ≤ 1048576) :
    Ev (fun k => laws_toIssue.f k n R C s cl se sa f o c) (n, R, C, s, cl.map clueW, se, sa, f, o, c) := by
  unfold laws_toIssue.f laws_toPuzzle.f laws_toGrid.f
  exact Ev.bind (Ev.bind (Ev.pure _) (Ev.bind (toClueS hl hf) (Ev.bind (toIntS he) (Ev.pure _)))) (Ev.pure _)
/-! a value is equal to itself -/
theorem eqStepS_l0 {l : List S121} (hl : l.length ≤ 1048576) : ∀ d i, i + d = l.length → Ev (fun k => laws_eqStepS.l0 k l l (i : Int)) true
  | 0, i, h => by
    refine Ev.succ (fun k => by rw [laws_eqStepS.l0]) ?_
    exact Ev.neg (by omega) (Ev.pure _)
  | d + 1, i, h => by
    have ih := eqStepS_l0 hl d (i + 1) (by omega)
    rw [Int.natCast_add] at ih
    refine Ev.succ (fun k => by rw [laws_eqStepS.l0]) ?_
    refine Ev.pos (by omega) (Ev.pos (by omega) (Ev.pos (by omega) ?_))
    rw [w64 (by omega)]
    unfold laws_eqStep.f
    exact Ev.bind (Ev.pos rfl (Ev.pos rfl (Ev.pos rfl (Ev.pos rfl (Ev.pure _))))) (Ev.pos rfl ih)
theorem eqClueS_l0 {l : List S89} (hl : l.length ≤ 1048576) (hf : ∀ x ∈ l, x.f1.length ≤ 1048576) : ∀ d i, i + d = l.length → Ev (fun k => laws_eqClueS.l0 k l l (i : Int)) true
  | 0, i, h => by
    refine Ev.succ (fun k => by rw [laws_eqClueS.l0]) ?_
    exact Ev.neg (by omega) (Ev.pure _)
  | d + 1, i, h => by
    have hlt : i < l.length := by omega
    have ih := eqClueS_l0 hl hf d (i + 1) (by omega)
    rw [Int.natCast_add] at ih
    refine Ev.succ (fun k => by rw [laws_eqClueS.l0]) ?_
    refine Ev.pos (by omega) (Ev.pos (by omega) (Ev.pos (by omega) ?_))
    rw [rdC hlt, w64 (by omega)]
    unfold laws_eqClue.f laws_eqStepS.f
    exact Ev.bind (Ev.pos rfl (Ev.bind (Ev.pos rfl (eqStepS_l0 (hf _ (List.getElem_mem hlt)) _ 0 (by rw [Nat.zero_add]))) (Ev.pos rfl (Ev.pure _)))) (Ev.pos rfl ih)
theorem eqIntS_l0 {l : List Int} (hl : l.length ≤ 1048576) : ∀ d i, i + d = l.length → Ev (fun k => laws_eqIntS.l0 k l l (i : Int)) true
  | 0, i, h => by
    refine Ev.succ (fun k => by rw [laws_eqIntS.l0]) ?_
    exact Ev.neg (by omega) (Ev.pure _)
  | d + 1, i, h => by
    have ih := eqIntS_l0 hl d (i + 1) (by omega)
    rw [Int.natCast_add] at ih
    refine Ev.succ (fun k => by rw [laws_eqIntS.l0]) ?_
    refine Ev.pos (by omega) (Ev.pos (by omega) (Ev.pos (by omega) (Ev.pos rfl ?_)))
    rw [w64 (by omega)]
    exact ih
theorem eqIssue {n R C : Int} {s f : ByteArray} {cl : List S89} {se : List Int} {sa o c : Int} (hl : cl.length ≤ 1048576) (hf : ∀ x ∈ cl, x.f1.length ≤ 1048576) (he : se.length ≤ 1048576) :
    Ev (fun k => laws_eqIssue.f k n R C s cl se sa f o c n R C s cl se sa f o c) true := by
  unfold laws_eqIssue.f laws_eqPuzzle.f laws_eqGrid.f laws_eqClueS.f laws_eqIntS.f
  have h1 := eqClueS_l0 hl hf _ 0 (by rw [Nat.zero_add])
  have h2 := eqIntS_l0 he _ 0 (by rw [Nat.zero_add])
  exact Ev.pos rfl (Ev.bind (Ev.bind (Ev.pos rfl (Ev.pos rfl (Ev.pos rfl (Ev.pure _)))) (Ev.pos rfl (Ev.bind (Ev.pos rfl h1) (Ev.pos rfl (Ev.bind (Ev.pos rfl h2) (Ev.pos rfl (Ev.pos rfl (Ev.pure _)))))))) (Ev.pos rfl (Ev.pos rfl (Ev.pos rfl (Ev.pos rfl (Ev.pure _))))))
/-! ### marks -/
theorem strOne (x : Int) : (strOfNums [x]).size = 1 := rfl
theorem markText_l0 : ∀ d (x : Int) (acc : ByteArray), 0 ≤ x → x ≤ 9223372036854775807 → x < 10 ^ d → acc.size + d ≤ 1000 → ∃ q : ByteArray, Ev (fun k => laws_markText.l0 k x acc) q
  | 0, x, acc, h0, hm, h1, ha => by
    refine ⟨(⟨#[109]⟩ : ByteArray) ++ acc, Ev.succ (fun k => by rw [laws_markText.l0]) ?_⟩
    simp only [Int.pow_zero] at h1
    exact Ev.neg (by omega) (Ev.pos (by omega) (Ev.pure _))
  | d + 1, x, acc, h0, hm, h1, ha => by
    by_cases hx : x > 0
    · have e : Int.tdiv x 10 = x / 10 := Int.tdiv_eq_ediv_of_nonneg h0
      have hb : 0 ≤ x / 10 := Int.ediv_nonneg h0 (by decide)
      have hc : x / 10 < 10 ^ d := by
        have : x < 10 ^ d * 10 := by rw [Int.pow_succ] at h1; exact h1
        omega
      obtain ⟨q, hq⟩ := markText_l0 d (x / 10) ((strOfNums [(wrap64 (48 + (Int.tmod x 10))) % 256]) ++ acc) hb (by omega) hc (by rw [ByteArray.size_append, strOne]; omega)
      refine ⟨q, Ev.succ (fun k => by rw [laws_markText.l0]) ?_⟩
      refine Ev.pos hx (Ev.bind (Ev.const rfl) (Ev.pos (by rw [strOne]; omega) ?_))
      rw [e, w64 (by omega)]
      exact hq
    · refine ⟨(⟨#[109]⟩ : ByteArray) ++ acc, Ev.succ (fun k => by rw [laws_markText.l0]) ?_⟩
      exact Ev.neg hx (Ev.pos (by omega) (Ev.pure _))
theorem markText {x : Int} (h0 : 0 ≤ x) (h1 : x ≤ 9223372036854775807) : ∃ q : ByteArray, Ev (fun k => laws_markText.f k x) q := by
  unfold laws_markText.f
  by_cases h : x ≤ 0
  · exact ⟨_, Ev.pos h (Ev.pure _)⟩
  · obtain ⟨q, hq⟩ := markText_l0 20 x (⟨#[]⟩ : ByteArray) h0 h1 (by omega) (by decide)
    exact ⟨q, Ev.neg h hq⟩
theorem markStepS_l0 {n : Nat} (hn : n ≤ 10000000) : ∀ d i (l : List S121) (a : Int), l.length = n → i + d = n → 0 ≤ a → a + 4 * d ≤ 4000000000000000000 → ∃ m : List S121, Ev (fun k => laws_markStepS.l0 k l a (i : Int)) (a + 4 * d, m)
  | 0, i, l, a, hl, h, h0, h1 => by
    refine ⟨l, Ev.succ (fun k => by rw [laws_markStepS.l0]) ?_⟩
    exact Ev.neg (by omega) ((Ev.pure _).eq (by simp))
  | d + 1, i, l, a, hl, h, h0, h1 => by
    obtain ⟨t, ht⟩ := markText (x := a + 1) (by omega) (by omega)
    obtain ⟨m, hm⟩ := markStepS_l0 hn d (i + 1) ((((l.set (i : Int).toNat (⟨a, (rd_T121 l (i : Int)).f1, (rd_T121 l (i : Int)).f2, (rd_T121 l (i : Int)).f3⟩ : S121)).set (i : Int).toNat (⟨(rd_T121 (l.set (i : Int).toNat (⟨a, (rd_T121 l (i : Int)).f1, (rd_T121 l (i : Int)).f2, (rd_T121 l (i : Int)).f3⟩ : S121)) (i : Int)).f0, t, (rd_T121 (l.set (i : Int).toNat (⟨a, (rd_T121 l (i : Int)).f1, (rd_T121 l (i : Int)).f2, (rd_T121 l (i : Int)).f3⟩ : S121)) (i : Int)).f2, (rd_T121 (l.set (i : Int).toNat (⟨a, (rd_T121 l (i : Int)).f1, (rd_T121 l (i : Int)).f2, (rd_T121 l (i : Int)).f3⟩ : S121)) (i : Int)).f3⟩ : S121)).set (i : Int).toNat _).set (i : Int).toNat _) (a + 4) (by simp [hl]) (by omega) (by omega) (by omega)
    refine ⟨m, Ev.succ (fun k => by rw [laws_markStepS.l0]) ?_⟩
    refine Ev.pos (by omega) (Ev.pos (by omega) (Ev.bind (Ev.const rfl) (Ev.bind (a := t) ?_ (Ev.bind (Ev.const rfl) (Ev.bind (Ev.const rfl) ?_)))))
    · rw [w64 (by omega)]; exact ht
    · rw [w64 (n := a + 1) (by omega), w64 (n := a + 1 + 1) (by omega), w64 (n := a + 1 + 1 + 1) (by omega), w64 (n := a + 1 + 1 + 1 + 1) (by omega), w64 (n := (i : Int) + 1) (by omega)]
      have e : a + 1 + 1 + 1 + 1 = a + 4 := by omega
      rw [e]
      rw [Int.natCast_add] at hm
      refine hm.eq ?_
      congr 1
      omega
theorem markClueS : ∀ (l : List S89) (a : Int), (∀ c ∈ l, c.f1.length ≤ 1048576) → 0 ≤ a → a + 5000000 * l.length ≤ 1000000000000000000 → ∃ (r : Int) (m : List S89), Ev (fun k => laws_markClueS.f k l a) (r, m) ∧ 0 ≤ r ∧ r ≤ a + 5000000 * l.length
  | [], a, _, h0, h1 => ⟨a, [], Ev.pure _, h0, by simp⟩
  | x :: t, a, hc, h0, h1 => by
    have hx := hc x List.mem_cons_self
    simp only [List.length_cons] at h1
    obtain ⟨p, hp⟩ := markStepS_l0 (n := x.f1.length) (by omega) x.f1.length 0 x.f1 (a + 1) rfl (by omega) (by omega) (by omega)
    obtain ⟨r, m, hr, r0, r1⟩ := markClueS t (a + 1 + 4 * x.f1.length) (fun c h => hc c (List.mem_cons_of_mem _ h)) (by omega) (by omega)
    refine ⟨r, (⟨a, p⟩ : S89) :: m, ?_, r0, by simp only [List.length_cons]; omega⟩
    unfold laws_markClueS.f
    rw [w64 (n := a + 1) (by omega)]
    refine Ev.bind (a := (a + 1 + 4 * (x.f1.length : Int), p)) ?_ (Ev.bind hr (Ev.pure _))
    unfold laws_markStepS.f
    exact hp
def markI : Nat → List Int → Nat → Int → List Int
  | 0, l, _, _ => l
  | d + 1, l, i, a => markI d (l.set i a) (i + 1) (a + 1)
theorem markI_len : ∀ d (l : List Int) i a, (markI d l i a).length = l.length
  | 0, l, i, a => rfl
  | d + 1, l, i, a => by rw [markI, markI_len d, List.length_set]
theorem markI_get : ∀ d (l : List Int) (i : Nat) (a : Int) (j : Nat), i + d ≤ l.length → (markI d l i a).getD j 0 = if i ≤ j ∧ j < i + d then a + ((j - i : Nat) : Int) else l.getD j 0
  | 0, l, i, a, j, h => by rw [if_neg (by omega)]; rfl
  | d + 1, l, i, a, j, h => by
    rw [markI, markI_get d (l.set i a) (i + 1) (a + 1) j (by simp; omega)]
    by_cases h1 : i + 1 ≤ j ∧ j < i + 1 + d
    · rw [if_pos h1, if_pos (by omega)]; omega
    · rw [if_neg h1]
      by_cases h2 : j = i
      · subst h2
        rw [if_pos (by omega)]
        simp [List.getD_eq_getElem?_getD, List.getElem?_set, show j < l.length by omega]
      · rw [if_neg (by omega)]
        simp [List.getD_eq_getElem?_getD, List.getElem?_set, show ¬ i = j by omega]
theorem markIntS_l0 {n : Nat} (hn : n ≤ 10000000) : ∀ d i (l : List Int) (a : Int), l.length = n → i + d = n → 0 ≤ a → a + d ≤ 4000000000000000000 → Ev (fun k => laws_markIntS.l0 k l a (i : Int)) (a + d, markI d l i a)
  | 0, i, l, a, hl, h, h0, h1 => by
    refine Ev.succ (fun k => by rw [laws_markIntS.l0]) ?_
    exact Ev.neg (by omega) ((Ev.pure _).eq (by simp [markI]))
  | d + 1, i, l, a, hl, h, h0, h1 => by
    have ih := markIntS_l0 hn d (i + 1) (l.set i a) (a + 1) (by simp [hl]) (by omega) (by omega) (by omega)
    rw [Int.natCast_add] at ih
    refine Ev.succ (fun k => by rw [laws_markIntS.l0]) ?_
    refine Ev.pos (by omega) (Ev.pos (by omega) ?_)
    rw [w64 (by omega), w64 (by omega)]
    refine ih.eq ?_
    rw [markI]
    congr 1
    omega
theorem heldIntS_l0 {m : List Int} (hn : m.length ≤ 10000000) (hg : ∀ j, j < m.length → m.getD j 0 = 1 + (j : Int)) : ∀ d i, i + d = m.length → Ev (fun k => laws_heldIntS.l0 k m (1 + (i : Int)) (i : Int)) (1 + (m.length : Int))
  | 0, i, h => by
    refine Ev.succ (fun k => by rw [laws_heldIntS.l0]) ?_
    exact Ev.neg (by omega) ((Ev.pure _).eq (by omega))
  | d + 1, i, h => by
    have ih := heldIntS_l0 hn hg d (i + 1) (by omega)
    rw [Int.natCast_add] at ih
    refine Ev.succ (fun k => by rw [laws_heldIntS.l0]) ?_
    refine Ev.pos (by omega) (Ev.pos (by omega) (Ev.pos ?_ ?_))
    · have := hg i (by omega)
      unfold rd
      rw [Int.toNat_natCast]
      exact this
    · rw [w64 (by omega), w64 (by omega)]
      have e : 1 + (i : Int) + 1 = 1 + ((i : Int) + 1) := by omega
      rw [e]
      exact ih
theorem markHeld {l : List Int} (hl : l.length ≤ 10000000) : ∃ m : List Int, Ev (fun k => laws_markIntS.f k l 1) (1 + (l.length : Int), m) ∧ Ev (fun k => laws_heldIntS.f k m 1) (1 + (l.length : Int)) := by
  have hm := markI_len l.length l 0 1
  refine ⟨markI l.length l 0 1, ?_, ?_⟩
  · unfold laws_markIntS.f
    exact markIntS_l0 hl l.length 0 l 1 rfl (by omega) (by omega) (by omega)
  · unfold laws_heldIntS.f
    have := heldIntS_l0 (m := markI l.length l 0 1) (by omega) (fun j hj => by
      rw [markI_get _ _ _ _ _ (by omega), if_pos (by omega)]; omega) l.length 0 (by omega)
    rw [hm] at this
    exact this
theorem eqIntS {l : List Int} (hl : l.length ≤ 1048576) : Ev (fun k => laws_eqIntS.f k l l) true := by
  unfold laws_eqIntS.f
  exact Ev.pos rfl (eqIntS_l0 hl _ 0 (by rw [Nat.zero_add]))
/-! ### what the laws over drafts have at hand -/
/-! ### corrections as the law takes them -/
def corW (x : S85) : S91 := ⟨x.f0, x.f1, clueW x.f2, x.f3⟩
def FitQ (l : List S85) : Prop := l.length ≤ big ∧ ∀ x ∈ l, FitS x.f2.f1
theorem rdE {xs : List S85} {i : Nat} (h : i < xs.length) : rd_T85 xs (i : Int) = xs[i] := by
  unfold rd_T85; simp [List.getD_eq_getElem?_getD, List.getElem?_eq_getElem h]
theorem szCor {x : S85} (hf : FitS x.f2.f1) {a : Int} (ha : 0 ≤ a ∧ a ≤ 1048576) : ∃ v : Int, Ev (fun k => laws_szCorrection.f k x.f0 x.f1 x.f2.f0 x.f2.f1 x.f3 a) v ∧ v ≤ 1048576 ∧ (¬ v < 0 → x.f2.f1.length ≤ 1048576) := by
  unfold laws_szCorrection.f
  obtain ⟨v, v1, v2, v3⟩ := szClue (x := x.f2) hf ha
  by_cases h : v < 0
  · exact ⟨-1, Ev.bind v1 (Ev.pos h (Ev.pure _)), by omega, by omega⟩
  · exact ⟨v, Ev.bind v1 (Ev.neg h (Ev.pure _)), v2, v3⟩
theorem szCorS_l0 {l : List S85} (hl : l.length ≤ 1048576) (hf : ∀ x ∈ l, FitS x.f2.f1) : ∀ d i (a : Int), i + d = l.length → 0 ≤ a ∧ a ≤ 1048576 → ∃ v : Int, Ev (fun k => laws_szCorrectionS.l0 k l a (i : Int)) v ∧ v ≤ 1048576 ∧ (¬ v < 0 → ∀ x ∈ l.drop i, x.f2.f1.length ≤ 1048576)
  | 0, i, a, h, ha => by
    refine ⟨a, ?_, ha.2, fun _ => by rw [List.drop_eq_nil_of_le (by omega)]; simp⟩
    refine Ev.succ (fun k => by rw [laws_szCorrectionS.l0]) ?_
    exact Ev.neg (by omega) (Ev.pure _)
  | d + 1, i, a, h, ha => by
    have hlt : i < l.length := by omega
    obtain ⟨u, u1, u2, u3⟩ := szCor (hf _ (List.getElem_mem hlt)) ha
    by_cases hu : u < 0
    · refine ⟨-1, ?_, by omega, by omega⟩
      refine Ev.succ (fun k => by rw [laws_szCorrectionS.l0]) ?_
      refine Ev.pos (by omega) (Ev.pos (by omega) ?_)
      rw [rdE hlt]
      exact Ev.bind u1 (Ev.pos hu (Ev.pure _))
    · obtain ⟨v, v1, v2, v3⟩ := szCorS_l0 hl hf d (i + 1) u (by omega) (by omega)
      refine ⟨v, ?_, v2, fun hv => ?_⟩
      · rw [Int.natCast_add] at v1
        refine Ev.succ (fun k => by rw [laws_szCorrectionS.l0]) ?_
        refine Ev.pos (by omega) (Ev.pos (by omega) ?_)
        rw [rdE hlt, w64 (by omega)]
        exact Ev.bind u1 (Ev.neg hu v1)
      · rw [List.drop_eq_getElem_cons hlt]
        intro x hx
        rcases List.mem_cons.mp hx with rfl | hx
        · exact u3 hu
        · exact v3 hv x hx
theorem szCorS {l : List S85} (hf : FitQ l) {a : Int} (ha : 0 ≤ a ∧ a ≤ 1048576) : ∃ v : Int, Ev (fun k => laws_szCorrectionS.f k l a) v ∧ v ≤ 1048576 ∧ (¬ v < 0 → l.length ≤ 1048576 ∧ ∀ x ∈ l, x.f2.f1.length ≤ 1048576) := by
  unfold laws_szCorrectionS.f
  have hw := left_ev hf.1 ha
  rw [hw.1]
  by_cases h : a - (l.length : Int) < 0
  · exact ⟨-1, Ev.pos h (Ev.pure _), by omega, by omega⟩
  · obtain ⟨v, v1, v2, v3⟩ := szCorS_l0 (hw.2 h) hf.2 l.length 0 (a - l.length) (by omega) (by omega)
    exact ⟨v, Ev.neg h v1, v2, fun hv => ⟨hw.2 h, by simpa using v3 hv⟩⟩
theorem toCorS_l0 {l : List S85} (hl : l.length ≤ 1048576) (hf : ∀ x ∈ l, x.f2.f1.length ≤ 1048576) : ∀ d i, i + d = l.length → Ev (fun k => laws_toCorrectionS.l0 k l ((l.take i).map corW ++ List.replicate (l.length - i) z91) (i : Int)) (l.map corW)
  | 0, i, h => by
    refine Ev.succ (fun k => by rw [laws_toCorrectionS.l0]) ?_
    refine Ev.neg (by omega) ((Ev.pure _).eq ?_)
    rw [List.take_of_length_le (by omega), show l.length - i = 0 by omega]
    simp
  | d + 1, i, h => by
    have hlt : i < l.length := by omega
    have ih := toCorS_l0 hl hf d (i + 1) (by omega)
    rw [← fill_set hlt, Int.natCast_add] at ih
    refine Ev.succ (fun k => by rw [laws_toCorrectionS.l0]) ?_
    refine Ev.pos (by omega) (Ev.pos (by omega) ?_)
    rw [rdE hlt, w64 (by omega)]
    unfold laws_toCorrection.f laws_toClue.f
    refine Ev.bind (Ev.bind (Ev.bind (toStepS (hf _ (List.getElem_mem hlt))) (Ev.pure _)) (Ev.pure _)) (Ev.pos (by rw [fill_len (by omega)]; omega) ?_)
    rw [Int.toNat_natCast]
    exact ih
theorem toCorS {l : List S85} (hl : l.length ≤ 1048576) (hf : ∀ x ∈ l, x.f2.f1.length ≤ 1048576) : Ev (fun k => laws_toCorrectionS.f k l) (l.map corW) := by
  unfold laws_toCorrectionS.f
  refine Ev.pos (by omega) (Ev.pos (by omega) ?_)
  exact toCorS_l0 hl hf l.length 0 (by omega)
theorem eqCorS_l0 {l : List S91} (hl : l.length ≤ 1048576) (hf : ∀ x ∈ l, x.f2.f1.length ≤ 1048576) : ∀ d i, i + d = l.length → Ev (fun k => laws_eqCorrectionS.l0 k l l (i : Int)) true
  | 0, i, h => by
    refine Ev.succ (fun k => by rw [laws_eqCorrectionS.l0]) ?_
    exact Ev.neg (by omega) (Ev.pure _)
  | d + 1, i, h => by
    have hlt : i < l.length := by omega
    have ih := eqCorS_l0 hl hf d (i + 1) (by omega)
    rw [Int.natCast_add] at ih
    refine Ev.succ (fun k => by rw [laws_eqCorrectionS.l0]) ?_
    refine Ev.pos (by omega) (Ev.pos (by omega) (Ev.pos (by omega) ?_))
    rw [rdD hlt, w64 (by omega)]
    unfold laws_eqCorrection.f laws_eqClue.f laws_eqStepS.f
    have hs := eqStepS_l0 (hf _ (List.getElem_mem hlt)) _ 0 (by rw [Nat.zero_add])
    exact Ev.bind (Ev.pos rfl (Ev.pos rfl (Ev.bind (Ev.pos rfl (Ev.bind (Ev.pos rfl hs) (Ev.pos rfl (Ev.pure _)))) (Ev.pos rfl (Ev.pos rfl (Ev.pure _)))))) (Ev.pos rfl ih)
theorem markCorS : ∀ (l : List S91) (a : Int), (∀ c ∈ l, c.f2.f1.length ≤ 1048576) → 0 ≤ a → a + 5000000 * l.length ≤ 1000000000000000000 → ∃ (r : Int) (m : List S91), Ev (fun k => laws_markCorrectionS.f k l a) (r, m) ∧ 0 ≤ r ∧ r ≤ a + 5000000 * l.length
  | [], a, _, h0, h1 => ⟨a, [], Ev.pure _, h0, by simp⟩
  | x :: t, a, hc, h0, h1 => by
    have hx := hc x List.mem_cons_self
    simp only [List.length_cons] at h1
    obtain ⟨p, hp⟩ := markStepS_l0 (n := x.f2.f1.length) (by omega) x.f2.f1.length 0 x.f2.f1 (a + 1 + 1 + 1) rfl (by omega) (by omega) (by omega)
    obtain ⟨r, m, hr, r0, r1⟩ := markCorS t (a + 1 + 1 + 1 + 4 * x.f2.f1.length + 1) (fun c h => hc c (List.mem_cons_of_mem _ h)) (by omega) (by omega)
    refine ⟨r, (⟨a, a + 1, ⟨a + 1 + 1, p⟩, a + 1 + 1 + 1 + 4 * (x.f2.f1.length : Int)⟩ : S91) :: m, ?_, r0, by simp only [List.length_cons]; omega⟩
    · unfold laws_markCorrectionS.f
      rw [w64 (n := a + 1) (by omega), w64 (n := a + 1 + 1) (by omega), w64 (n := a + 1 + 1 + 1) (by omega)]
      refine Ev.bind (a := (a + 1 + 1 + 1 + 4 * (x.f2.f1.length : Int), p)) ?_ (Ev.bind (a := (r, m)) ?_ (Ev.pure _))
      · unfold laws_markStepS.f
        exact hp
      · dsimp only
        rw [w64 (by omega)]
        exact hr
theorem markIntsAny {l : List Int} (hl : l.length ≤ 1048576) {a : Int} (h0 : 0 ≤ a) (h1 : a ≤ 1000000000000000000) : ∃ m : List Int, Ev (fun k => laws_markIntS.f k l a) (a + (l.length : Int), m) := by
  unfold laws_markIntS.f
  exact ⟨_, markIntS_l0 (by omega) l.length 0 l a rfl (by omega) h0 (by omega)⟩
theorem law_cor {m R C : Int} {s f : ByteArray} {l : List S83} {t : List Int} {n o u : Int} {q : List S85} {tk : Int} (hs : s.size ≤ big) (hc : FitC l) (ht : t.length ≤ big) (hf : f.size ≤ big) (hq : FitQ q) :
    ∃ k, laws_FnExactCorrectedSlots.Fine k m R C s l t n f o u q tk := by
  obtain ⟨v1, ⟨k1, e1⟩, b1, g1⟩ := szIssue (n := m) (R := R) (C := C) (sa := n) (o := o) (c := u) hs hc ht hf (a := 1048576) (by omega)
  by_cases h1 : v1 < 0
  · exact ⟨k1, .inl ⟨v1, e1 _ (Nat.le_refl _), h1⟩⟩
  obtain ⟨⟨a1, a2⟩, a3⟩ := g1 h1
  obtain ⟨v2, ⟨k2, e2⟩, b2, g2⟩ := szCorS hq (a := v1) (by omega)
  by_cases h2 : v2 < 0
  · exact ⟨k1 + k2, .inr (.inl ⟨v1, v2, e1 _ (by omega), h1, e2 _ (by omega), h2⟩)⟩
  obtain ⟨d1, d2⟩ := g2 h2
  have a4 : ∀ c ∈ l.map clueW, c.f1.length ≤ 1048576 := fun x hx => by
    obtain ⟨y, hy, rfl⟩ := List.mem_map.mp hx
    show (y.f1.map stepW).length ≤ 1048576
    rw [List.length_map]
    exact a2 y hy
  have d4 : ∀ c ∈ q.map corW, c.f2.f1.length ≤ 1048576 := fun x hx => by
    obtain ⟨y, hy, rfl⟩ := List.mem_map.mp hx
    show (y.f2.f1.map stepW).length ≤ 1048576
    rw [List.length_map]
    exact d2 y hy
  have a5 : (l.map clueW).length ≤ 1048576 := by rw [List.length_map]; exact a1
  have d5 : (q.map corW).length ≤ 1048576 := by rw [List.length_map]; exact d1
  obtain ⟨k3, e3⟩ := toIssue (n := m) (R := R) (C := C) (s := s) (f := f) (sa := n) (o := o) (c := u) a1 a2 a3
  obtain ⟨k4, e4⟩ := toCorS d1 d2
  obtain ⟨ch, ⟨k5, e5⟩, ⟨k6, e6⟩, lc⟩ := corrected (t := tk) (issue m R C s (l.map clueW) t n f o u (by omega) (by omega)) (l := q.map corW) (by omega) (by omega)
  obtain ⟨k7, e7⟩ := eqIntS (l := ch) (by omega)
  obtain ⟨k8, e8⟩ := eqIssue (n := m) (R := R) (C := C) (s := s) (f := f) (sa := n) (o := o) (c := u) (cl := l.map clueW) a5 a4 a3
  obtain ⟨k9, e9⟩ := eqCorS_l0 d5 d4 _ 0 (by rw [Nat.zero_add])
  obtain ⟨r1, m1, ⟨k10, e10⟩, r10, r11⟩ := markClueS (l.map clueW) 1 a4 (by omega) (by omega)
  obtain ⟨t2, ⟨k11, e11⟩⟩ := markIntsAny a3 r10 (by omega)
  obtain ⟨r3, m2, ⟨k12, e12⟩, r30, r31⟩ := markCorS (q.map corW) (r1 + (t.length : Int)) d4 (by omega) (by omega)
  obtain ⟨qq, ⟨k13, e13⟩, ⟨k14, e14⟩⟩ := markHeld (l := ch) (by omega)
  refine ⟨k1 + k2 + k3 + k4 + k5 + k6 + k7 + k8 + k9 + k10 + k11 + k12 + k13 + k14, .inr (.inr ⟨v1, v2, e1 _ (by omega), h1, e2 _ (by omega), h2, l.map clueW, q.map corW, ch, r1, r1 + (t.length : Int), r3, m1, t2, m2, qq, 1 + (ch.length : Int), e3 _ (by omega), e4 _ (by omega), e5 _ (by omega), e6 _ (by omega), e7 _ (by omega), e8 _ (by omega), ?_, e10 _ (by omega), e11 _ (by omega), e12 _ (by omega), by omega, e13 _ (by omega), e14 _ (by omega), by omega⟩)⟩
  unfold laws_eqCorrectionS.f
  rw [if_pos rfl]
  exact e9 _ (by omega)
/-- The law of CorrectedSlots: true of all arguments whose sizes a machine can hold. -/
theorem law_CorrectedSlots {n R C : Int} {s f : ByteArray} {cl : List S83} {se : List Int} {sa o c : Int} {q : List S85} {tk : Int} (hs : s.size ≤ big) (hc : FitC cl) (he : se.length ≤ big) (hf : f.size ≤ big) (hq : FitQ q) :
    ∃ k, laws_FnExactCorrectedSlots.Fine k n R C s cl se sa f o c q tk := law_cor hs hc he hf hq
end Go.Proofs.YtpcdfjcbjbkliaaGreat.E
