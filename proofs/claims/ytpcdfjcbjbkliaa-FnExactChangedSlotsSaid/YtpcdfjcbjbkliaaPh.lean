import Derived.Test.YtpcdfjcbjbkliaaPg
namespace Go.Proofs.Ytpcdfjcbjbkliaa.E
open Go.RowKit Go.Proofs.YtpcdfjcbjbkliaaW.PrintWords Go.Proofs.YtpcdfjcbjbkliaaW.PrintLast Go.Proofs.YtpcdfjcbjbkliaaW.PrintMore
set_option linter.unusedVariables false
set_option linter.unusedSimpArgs false
/-! ### turned grids, and a grid's form -/
theorem ba_ext {a b : ByteArray} (h : a.data.toList = b.data.toList) : a = b := by
  cases a; cases b
  simp only [ByteArray.mk.injEq]
  exact Array.toList_inj.mp h
theorem ex1 {s : ByteArray} {i : Nat} (h : i < s.size) : (s.extract i (i + 1)).data.toList = [s[i]] := by
  rw [ByteArray.data_extract]
  have h' : i < s.data.toList.length := h
  rw [Array.toList_extract, List.extract_eq_take_drop, Nat.add_sub_cancel_left, List.drop_eq_getElem_cons h', List.take_succ_cons, List.take_zero]
  rfl
theorem sBack_l0 {s : ByteArray} (hz : s.size ≤ 100) : ∀ d i (acc : ByteArray), i + d = s.size → acc.data.toList.length = i → ∃ q : ByteArray, Ev (fun k => spec_Backwards.l0 k s acc (i : Int)) q ∧ q.data.toList = (s.data.toList.drop i).reverse ++ acc.data.toList
  | 0, i, acc, h, ha => by
    refine ⟨acc, ?_, ?_⟩
    · refine Ev.succ (fun k => by rw [spec_Backwards.l0]) ?_
      exact Ev.neg (by omega) (Ev.pure _)
    · rw [List.drop_eq_nil_of_le (by show s.size ≤ i; omega)]; simp
  | d + 1, i, acc, h, ha => by
    have he := ex1 (s := s) (i := i) (by omega)
    have hd : (s.extract i (i + 1) ++ acc).data.toList = s[i] :: acc.data.toList := by
      rw [ByteArray.data_append, Array.toList_append, he]; rfl
    obtain ⟨q, k1, k2⟩ := sBack_l0 hz d (i + 1) (s.extract i (i + 1) ++ acc) (by omega) (by rw [hd]; simp [ha])
    refine ⟨q, ?_, ?_⟩
    · rw [Int.natCast_add] at k1
      refine Ev.succ (fun k => by rw [spec_Backwards.l0]) ?_
      rw [w64 (by omega)]
      have t1 : ((i : Int) + 1).toNat = i + 1 := by omega
      refine Ev.pos (by omega) (Ev.pos (by omega) (Ev.pos (by omega) (Ev.pos (by omega) (Ev.pos (by omega) (Ev.pos ?_ ?_)))))
      · rw [t1, Int.toNat_natCast]
        have h1 : (s.extract i (i + 1)).size = 1 := congrArg List.length he
        have h2 : acc.size = i := ha
        omega
      · rw [t1, Int.toNat_natCast]; exact k1
    · rw [k2, hd, List.drop_eq_getElem_cons (show i < s.data.toList.length from by show i < s.size; omega), List.reverse_cons, List.append_assoc]
      rfl
theorem sBack {s : ByteArray} (hz : s.size ≤ 100) : Ev (fun k => spec_Backwards.f k s) (strOfNums (bytesOf s).reverse) := by
  obtain ⟨q, k1, k2⟩ := sBack_l0 hz s.size 0 ⟨#[]⟩ (by omega) rfl
  unfold spec_Backwards.f
  refine k1.eq (ba_ext ?_)
  rw [k2]
  unfold strOfNums bytesOf
  simp [Function.comp_def]
theorem symm {R C : Int} {s : ByteArray} {r c : Nat} (g : Gr R C s r c) (hg : isG R C s = true) : ∃ b : Bool, Ev (fun k => spec_IsSymmetric.f k R C s) b ∧ Ev (fun k => impl_IsSymmetric.f k R C s) b := by
  have hz : s.size ≤ 36 := by have := g.sz; have := g.mx; omega
  refine ⟨(R == R && (C == C && ((strOfNums (bytesOf s).reverse).toList == s.toList))), ?_, ?_⟩
  · unfold spec_IsSymmetric.f spec_TurnGrid.f
    exact Ev.bind (sIsGrid R C s) (Ev.pos hg (Ev.bind (Ev.bind (sIsGrid R C s) (Ev.pos hg (Ev.bind (sBack (by omega)) (Ev.pure _)))) (Ev.pure _)))
  · unfold impl_IsSymmetric.f impl_TurnGrid.f
    refine Ev.bind (iIsGrid R C s) (Ev.pos hg (Ev.bind (Ev.bind (iIsGrid R C s) (Ev.pos hg (Ev.bind (Ev.const (by unfold impl_Backwards.f; rw [if_neg (by omega)])) (Ev.pure _)))) ((Ev.pure _).eq ?_)))
    simp [BEq.comm]
/-- The form of a grid is the same. -/
theorem form (R C : Int) (s : ByteArray) : ∃ v : Int, Ev (fun k => spec_FormOf.f k R C s) v ∧ Ev (fun k => impl_FormOf.f k R C s) v ∧ (v = 0 → isG R C s = true) := by
  unfold spec_FormOf.f impl_FormOf.f
  cases hg : isG R C s with
  | false =>
    refine ⟨1, Ev.bind (sIsGrid R C s) (Ev.neg (by simp [hg]) (Ev.pure _)), Ev.bind (iIsGrid R C s) (Ev.neg (by simp [hg]) (Ev.pure _)), by decide⟩
  | true =>
    obtain ⟨r, c, g⟩ := isG_gr hg
    have hl := slots_len (r := r) (c := c) (s := s)
    have hz : s.size ≤ 36 := by have := g.sz; have := g.mx; omega
    obtain ⟨b, b1, b2⟩ := symm g hg
    obtain ⟨v, v1, v2⟩ := parts g hg
    cases b with
    | false =>
      exact ⟨2, Ev.bind (sIsGrid R C s) (Ev.pos hg (Ev.bind b1 (Ev.neg (by decide) (Ev.pure _)))), Ev.bind (iIsGrid R C s) (Ev.pos hg (Ev.bind b2 (Ev.neg (by decide) (Ev.pure _)))), fun _ => rfl⟩
    | true =>
      by_cases hv : v = 1
      · subst hv
        refine ⟨if (slots r c s).any (fun x => decide (x.f3 < 3)) = true then 4 else if (unAny (layoutN r c s) (slots r c s) 0 || loneF s (layoutN r c s) s.size 0) = true then 5 else 0, Ev.bind (sIsGrid R C s) (Ev.pos hg (Ev.bind b1 ?_)), ?_, fun _ => rfl⟩
        · refine Ev.pos rfl ?_
          unfold spec_IsConnected.f spec_l10Short.f
          refine Ev.bind (Ev.bind v1 (Ev.pure _)) (Ev.pos (by decide) ?_)
          have hsh := sShort_l0 (xs := slots r c s) (by omega) (slots r c s).length 0 (by omega)
          refine Ev.bind (Ev.bind (sSlotsOf g hg) hsh) ?_
          rw [List.drop_zero]
          refine Ev.ite (fun h => ?_) (fun h => ?_)
          · rw [if_pos h]; exact Ev.pure _
          · rw [if_neg h]
            refine Ev.bind (sAlone g hg) ?_
            refine Ev.ite (fun h => ?_) (fun h => ?_)
            · rw [if_pos h]; exact Ev.pure _
            · rw [if_neg h]; exact Ev.pure _
        · refine Ev.bind (iIsGrid R C s) (Ev.pos hg (Ev.bind b2 (Ev.pos rfl ?_)))
          unfold impl_IsConnected.f
          refine Ev.bind (Ev.bind v2 (Ev.pure _)) (Ev.pos (by decide) ?_)
          refine Ev.bind (iSlotsOf g hg) ?_
          exact iForm_l0 g hg (slots r c s).length 0 (by omega)
      · refine ⟨3, Ev.bind (sIsGrid R C s) (Ev.pos hg (Ev.bind b1 (Ev.pos rfl ?_))), Ev.bind (iIsGrid R C s) (Ev.pos hg (Ev.bind b2 (Ev.pos rfl ?_))), fun _ => rfl⟩
        · unfold spec_IsConnected.f
          exact Ev.bind (Ev.bind v1 (Ev.pure _)) (Ev.neg (by simpa using hv) (Ev.pure _))
        · unfold impl_IsConnected.f
          exact Ev.bind (Ev.bind v2 (Ev.pure _)) (Ev.neg (by simpa using hv) (Ev.pure _))
end Go.Proofs.Ytpcdfjcbjbkliaa.E
