import Derived.Test.YtpcdfjcbjbkliaaPv
import Derived.Test.YtpcdfjcbjbkliaaMk
namespace Go.Proofs.Ytpcdfjcbjbkliaa.E
open Go.RowKit Go.Proofs.YtpcdfjcbjbkliaaW.PrintWords Go.Proofs.YtpcdfjcbjbkliaaW.PrintLast Go.Proofs.YtpcdfjcbjbkliaaW.PrintMore
set_option linter.unusedVariables false
set_option linter.unusedSimpArgs false
theorem markClueS : ∀ (l : List S48) (a : Int), (∀ c ∈ l, c.f1.length ≤ 1048576) → 0 ≤ a → a + 5000000 * l.length ≤ 1000000000000000000 → ∃ (r : Int) (m : List S48), Ev (fun k => laws_markClueS.f k l a) (r, m) ∧ 0 ≤ r ∧ r ≤ a + 5000000 * l.length
  | [], a, _, h0, h1 => ⟨a, [], Ev.pure _, h0, by simp⟩
  | x :: t, a, hc, h0, h1 => by
    have hx := hc x List.mem_cons_self
    simp only [List.length_cons] at h1
    obtain ⟨p, hp⟩ := markStepS_l0 (n := x.f1.length) (by omega) x.f1.length 0 x.f1 (a + 1) rfl (by omega) (by omega) (by omega)
    obtain ⟨r, m, hr, r0, r1⟩ := markClueS t (a + 1 + 4 * x.f1.length) (fun c h => hc c (List.mem_cons_of_mem _ h)) (by omega) (by omega)
    refine ⟨r, (⟨a, p⟩ : S48) :: m, ?_, r0, by simp only [List.length_cons]; omega⟩
    unfold laws_markClueS.f
    rw [w64 (n := a + 1) (by omega)]
    refine Ev.bind (a := (a + 1 + 4 * (x.f1.length : Int), p)) ?_ (Ev.bind hr (Ev.pure _))
    unfold laws_markStepS.f
    exact hp
def markI : Nat → List Int → Nat → Int → List Int
  | 0, l, _, _ => l
  | d + 1, l, i, a => markI d (l.set i a) (i + 1) (a + 1)
theorem markI_len : ∀ d (l : List Int) i a, (markI d l i a).length = l.length
  | 0, l, i, a => rfl
  | d + 1, l, i, a => by rw [markI, markI_len d, List.length_set]
theorem markI_get : ∀ d (l : List Int) (i : Nat) (a : Int) (j : Nat), i + d ≤ l.length → (markI d l i a).getD j 0 = if i ≤ j ∧ j < i + d then a + ((j - i : Nat) : Int) else l.getD j 0
  | 0, l, i, a, j, h => by rw [if_neg (by omega)]; rfl
  | d + 1, l, i, a, j, h => by
    rw [markI, markI_get d (l.set i a) (i + 1) (a + 1) j (by simp; omega)]
    by_cases h1 : i + 1 ≤ j ∧ j < i + 1 + d
    · rw [if_pos h1, if_pos (by omega)]; omega
    · rw [if_neg h1]
      by_cases h2 : j = i
      · subst h2
        rw [if_pos (by omega)]
        simp [List.getD_eq_getElem?_getD, List.getElem?_set, show j < l.length by omega]
      · rw [if_neg (by omega)]
        simp [List.getD_eq_getElem?_getD, List.getElem?_set, show ¬ i = j by omega]
theorem markIntS_l0 {n : Nat} (hn : n ≤ 10000000) : ∀ d i (l : List Int) (a : Int), l.length = n → i + d = n → 0 ≤ a → a + d ≤ 4000000000000000000 → Ev (fun k => laws_markIntS.l0 k l a (i : Int)) (a + d, markI d l i a)
  | 0, i, l, a, hl, h, h0, h1 => by
    refine Ev.succ (fun k => by rw [laws_markIntS.l0]) ?_
    exact Ev.neg (by omega) ((Ev.pure _).eq (by simp [markI]))
  | d + 1, i, l, a, hl, h, h0, h1 => by
    have ih := markIntS_l0 hn d (i + 1) (l.set i a) (a + 1) (by simp [hl]) (by omega) (by omega) (by omega)
    rw [Int.natCast_add] at ih
    refine Ev.succ (fun k => by rw [laws_markIntS.l0]) ?_
    refine Ev.pos (by omega) (Ev.pos (by omega) ?_)
    rw [w64 (by omega), w64 (by omega)]
    refine ih.eq ?_
    rw [markI]
    congr 1
    omega
theorem heldIntS_l0 {m : List Int} (hn : m.length ≤ 10000000) (hg : ∀ j, j < m.length → m.getD j 0 = 1 + (j : Int)) : ∀ d i, i + d = m.length → Ev (fun k => laws_heldIntS.l0 k m (1 + (i : Int)) (i : Int)) (1 + (m.length : Int))
  | 0, i, h => by
    refine Ev.succ (fun k => by rw [laws_heldIntS.l0]) ?_
    exact Ev.neg (by omega) ((Ev.pure _).eq (by omega))
  | d + 1, i, h => by
    have ih := heldIntS_l0 hn hg d (i + 1) (by omega)
    rw [Int.natCast_add] at ih
    refine Ev.succ (fun k => by rw [laws_heldIntS.l0]) ?_
    refine Ev.pos (by omega) (Ev.pos (by omega) (Ev.pos ?_ ?_))
    · have := hg i (by omega)
      unfold rd
      rw [Int.toNat_natCast]
      exact this
    · rw [w64 (by omega), w64 (by omega)]
      have e : 1 + (i : Int) + 1 = 1 + ((i : Int) + 1) := by omega
      rw [e]
      exact ih
theorem markHeld {l : List Int} (hl : l.length ≤ 10000000) : ∃ m : List Int, Ev (fun k => laws_markIntS.f k l 1) (1 + (l.length : Int), m) ∧ Ev (fun k => laws_heldIntS.f k m 1) (1 + (l.length : Int)) := by
  have hm := markI_len l.length l 0 1
  refine ⟨markI l.length l 0 1, ?_, ?_⟩
  · unfold laws_markIntS.f
    exact markIntS_l0 hl l.length 0 l 1 rfl (by omega) (by omega) (by omega)
  · unfold laws_heldIntS.f
    have := heldIntS_l0 (m := markI l.length l 0 1) (by omega) (fun j hj => by
      rw [markI_get _ _ _ _ _ (by omega), if_pos (by omega)]; omega) l.length 0 (by omega)
    rw [hm] at this
    exact this
theorem eqIntS {l : List Int} (hl : l.length ≤ 1048576) : Ev (fun k => laws_eqIntS.f k l l) true := by
  unfold laws_eqIntS.f
  exact Ev.pos rfl (eqIntS_l0 hl _ 0 (by rw [Nat.zero_add]))
/-! ### what the laws over drafts have at hand -/
theorem draftOk {R C n : Int} {s f : ByteArray} {cl : List S42} (hs : s.size ≤ big) (hf : f.size ≤ big) (hc : FitC cl) {a : Int} (ha : 0 ≤ a ∧ a ≤ 1048576) :
    ∃ v : Int, Ev (fun k => laws_szDraft.f k R C s f cl n a) v ∧ v ≤ 1048576 ∧ (¬ v < 0 → Ev (fun k => laws_toDraft.f k R C s f cl n) (R, C, s, f, cl.map clueW, n) ∧
      Ev (fun k => laws_eqDraft.f k R C s f (cl.map clueW) n R C s f (cl.map clueW) n) true ∧ (cl.map clueW).length ≤ 1048576 ∧ ∀ c ∈ cl.map clueW, c.f1.length ≤ 1048576) := by
  unfold laws_szDraft.f
  obtain ⟨u, u1, u2⟩ := szGrid_eq (R := R) (C := C) hs ha
  by_cases hu : u < 0
  · exact ⟨-1, Ev.bind (Ev.const u1) (Ev.pos hu (Ev.pure _)), by omega, by omega⟩
  · have hw := left_ev hf (a := u) (by omega)
    by_cases h : wrap64 (u - (f.size : Int)) < 0
    · exact ⟨-1, Ev.bind (Ev.const u1) (Ev.neg hu (Ev.pos h (Ev.pure _))), by omega, by omega⟩
    · obtain ⟨v, v1, v2, v3⟩ := szClueS hc (a := wrap64 (u - (f.size : Int))) (by omega)
      by_cases hv : v < 0
      · exact ⟨-1, Ev.bind (Ev.const u1) (Ev.neg hu (Ev.neg h (Ev.bind v1 (Ev.pos hv (Ev.pure _))))), by omega, by omega⟩
      · have h2 := v3 hv
        have hq : ∀ c ∈ cl.map clueW, c.f1.length ≤ 1048576 := fun x hx => by
          obtain ⟨y, hy, rfl⟩ := List.mem_map.mp hx
          show (y.f1.map stepW).length ≤ 1048576
          rw [List.length_map]
          exact h2.2 y hy
        refine ⟨v, Ev.bind (Ev.const u1) (Ev.neg hu (Ev.neg h (Ev.bind v1 (Ev.neg hv (Ev.pure _))))), v2, fun _ => ⟨?_, ?_, by rw [List.length_map]; exact h2.1, hq⟩⟩
        · unfold laws_toDraft.f laws_toGrid.f
          exact Ev.bind (Ev.const rfl) (Ev.bind (toClueS h2.1 h2.2) (Ev.pure _))
        · unfold laws_eqDraft.f laws_eqGrid.f laws_eqClueS.f
          exact Ev.bind (Ev.pos rfl (Ev.pos rfl (Ev.pos rfl (Ev.pure _)))) (Ev.pos rfl (Ev.pos rfl (Ev.bind (Ev.pos rfl (eqClueS_l0 (by rw [List.length_map]; exact h2.1) hq _ 0 (by rw [Nat.zero_add]))) (Ev.pos rfl (Ev.pos rfl (Ev.pure _))))))
end Go.Proofs.Ytpcdfjcbjbkliaa.E
