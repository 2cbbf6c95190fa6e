import Derived.Test.YtpcdfjcbjbkliaaPj
namespace Go.Proofs.Ytpcdfjcbjbkliaa.E
open Go.RowKit Go.Proofs.YtpcdfjcbjbkliaaW.PrintWords Go.Proofs.YtpcdfjcbjbkliaaW.PrintLast Go.Proofs.YtpcdfjcbjbkliaaW.PrintMore
set_option linter.unusedVariables false
set_option linter.unusedSimpArgs false
/-! ### seals -/
/-! ### patterns -/
def readN (f : ByteArray) (l : List Int) : ByteArray := strOfNums (l.map (bt f))
theorem iRead_l0 {f : ByteArray} {l : List Int} (h6 : l.length ≤ 6) (hr : ∀ a ∈ l, 0 ≤ a ∧ a < (f.size : Int)) : ∀ d i (acc : List Int), i + d = l.length → acc = (l.take i).map (bt f) → Ev (fun k => impl_readCells.l0 k f acc l (l.length : Int) (i : Int)) (readN f l)
  | 0, i, acc, h, ha => by
    refine Ev.succ (fun k => by rw [impl_readCells.l0]) ?_
    refine Ev.neg (by omega) ((Ev.pure _).eq ?_)
    rw [ha, List.take_of_length_le (by omega)]
    rfl
  | d + 1, i, acc, h, ha => by
    have hlt : i < l.length := by omega
    have ih := iRead_l0 h6 hr d (i + 1) (acc ++ [bt f l[i]]) (by omega) (by rw [ha, ← List.map_singleton, ← List.map_append, ← List.take_append_getElem hlt])
    rw [Int.natCast_add] at ih
    have hb := hr l[i] (List.getElem_mem hlt)
    have hal : acc.length ≤ 6 := by rw [ha, List.length_map, List.length_take]; omega
    refine Ev.succ (fun k => by rw [impl_readCells.l0]) ?_
    rw [rdI hlt, w64 (by omega)]
    exact Ev.pos (by omega) (Ev.pos (by omega) (Ev.pos (by omega) (Ev.pos hb.1 (Ev.pos hb.2 (Ev.pos (by omega) ih)))))
theorem sPat_l0 {f : ByteArray} {l : List Int} (hf : f.size ≤ 100000) (h6 : l.length ≤ 6) (hr : ∀ a ∈ l, 0 ≤ a ∧ a < (f.size : Int)) : ∀ d i (acc : ByteArray), i + d = l.length → acc = strOfNums ((l.take i).map (bt f)) → Ev (fun k => spec_SlotPattern.l0 k f acc l (i : Int)) (readN f l)
  | 0, i, acc, h, ha => by
    refine Ev.succ (fun k => by rw [spec_SlotPattern.l0]) ?_
    refine Ev.neg (by omega) ((Ev.pure _).eq ?_)
    rw [ha, List.take_of_length_le (by omega)]
    rfl
  | d + 1, i, acc, h, ha => by
    have hlt : i < l.length := by omega
    have hb := hr l[i] (List.getElem_mem hlt)
    obtain ⟨a, haa⟩ : ∃ a : Nat, l[i] = a := ⟨l[i].toNat, by omega⟩
    have he := ex1 (s := f) (i := a) (by omega)
    have hbt : bt f (a : Int) = ((f[a]'(by omega)).toNat : Int) := by
      unfold bt
      rw [dif_pos (by rw [Int.toNat_natCast]; omega)]
      rfl
    have hacc : acc ++ f.extract a (a + 1) = strOfNums ((l.take (i + 1)).map (bt f)) := by
      apply ba_ext
      rw [ByteArray.data_append, Array.toList_append, he, ha, ← List.take_append_getElem hlt, List.map_append, List.map_singleton, haa, hbt]
      unfold strOfNums
      simp
    have ih := sPat_l0 hf h6 hr d (i + 1) (acc ++ f.extract a (a + 1)) (by omega) hacc
    rw [Int.natCast_add] at ih
    have hal : acc.size ≤ 6 := by
      rw [ha]
      have hs : (strOfNums ((l.take i).map (bt f))).size = (((l.take i).map (bt f)).map (fun n => UInt8.ofNat n.toNat)).length := rfl
      rw [hs, List.length_map, List.length_map, List.length_take]; omega
    have h1 : (f.extract a (a + 1)).size = 1 := congrArg List.length he
    refine Ev.succ (fun k => by rw [spec_SlotPattern.l0]) ?_
    rw [rdI hlt, haa, w64 (n := (i : Int) + 1) (by omega), w64 (n := (a : Int) + 1) (by omega)]
    have t1 : ((a : Int) + 1).toNat = a + 1 := by omega
    refine Ev.pos (by omega) (Ev.pos (by omega) (Ev.pos (by omega) (Ev.pos (by omega) (Ev.pos (by omega) (Ev.pos ?_ ?_)))))
    · rw [t1, Int.toNat_natCast]; omega
    · rw [t1, Int.toNat_natCast]; exact ih
theorem isF_gr {R C : Int} {s f : ByteArray} (h : isF R C s f = true) : isG R C s = true ∧ f.size = s.size := by
  unfold isF at h
  simp only [Bool.and_eq_true, decide_eq_true_eq] at h
  exact ⟨h.1, h.2.1⟩
theorem iPat_l0 {R C : Int} {s f : ByteArray} {r c : Nat} (g : Gr R C s r c) (hf : f.size = s.size) : ∀ d i (acc : List ByteArray), i + d = (layoutN r c s).length → acc = ((layoutN r c s).take i).map (readN f) → Ev (fun k => impl_patterns.l0 k f acc (layoutN r c s) ((layoutN r c s).length : Int) (i : Int)) ((layoutN r c s).map (readN f))
  | 0, i, acc, h, ha => by
    refine Ev.succ (fun k => by rw [impl_patterns.l0]) ?_
    refine Ev.neg (by omega) ((Ev.pure _).eq ?_)
    rw [ha, List.take_of_length_le (by omega)]
  | d + 1, i, acc, h, ha => by
    have hll := layout_len g
    have hlt : i < (layoutN r c s).length := by omega
    have hm := layout_mem g (List.getElem_mem hlt)
    have ih := iPat_l0 g hf d (i + 1) (acc ++ [readN f (layoutN r c s)[i]]) (by omega) (by rw [ha, ← List.map_singleton, ← List.map_append, ← List.take_append_getElem hlt])
    rw [Int.natCast_add] at ih
    have hal : acc.length ≤ 72 := by rw [ha, List.length_map, List.length_take]; omega
    refine Ev.succ (fun k => by rw [impl_patterns.l0]) ?_
    refine Ev.pos (by omega) (Ev.pos (by omega) (Ev.pos (by omega) ?_))
    rw [rdL hlt, w64 (by omega)]
    unfold impl_readCells.f
    exact Ev.bind (iRead_l0 hm.1 (by rw [hf]; exact hm.2) _ 0 [] (by rw [Nat.zero_add]) rfl) (Ev.pos (by omega) ih)
theorem iPat {R C : Int} {s f : ByteArray} {r c : Nat} (g : Gr R C s r c) (h : isF R C s f = true) : Ev (fun k => impl_patterns.f k R C s f) ((layoutN r c s).map (readN f)) := by
  unfold impl_patterns.f
  refine Ev.bind (iFill R C s f) (Ev.pos h (Ev.bind (ilayout g (isF_gr h).1) ?_))
  exact iPat_l0 g (isF_gr h).2 _ 0 [] (by rw [Nat.zero_add]) rfl
theorem sPat {R C : Int} {s f : ByteArray} {r c : Nat} (g : Gr R C s r c) (h : isF R C s f = true) {i : Nat} (hi : i < (layoutN r c s).length) : Ev (fun k => spec_SlotPattern.f k R C s f (i : Int)) (readN f (layoutN r c s)[i]) := by
  have hll := layout_len g
  have hm := layout_mem g (List.getElem_mem hi)
  have hz : s.size ≤ 36 := by have := g.sz; have := g.mx; omega
  have hf := (isF_gr h).2
  unfold spec_SlotPattern.f
  refine Ev.bind (sSlotsOf g (isF_gr h).1) (Ev.bind (sFill R C s f) (Ev.pos h ?_))
  rw [w64 (by omega)]
  simp only [l1In_eq, Option.bind_some]
  have e : (!decide (0 ≤ (i : Int) ∧ (i : Int) ≤ ((slots r c s).length : Int) - 1)) = false := by simp; omega
  rw [e]
  refine Ev.succ (fun k => by rw [spec_SlotPattern.j0]) ?_
  refine Ev.neg (by decide) (Ev.pos (by omega) (Ev.pos (by omega) ?_))
  rw [rdT (by omega)]
  have e0 := layout_at hi (by omega)
  refine Ev.bind (sCells g (isF_gr h).1 (List.getElem_mem _)) ?_
  rw [← e0]
  exact sPat_l0 (by omega) hm.1 (by rw [hf]; exact hm.2) _ 0 _ (by rw [Nat.zero_add]) rfl
end Go.Proofs.Ytpcdfjcbjbkliaa.E
