import Derived.Test.YtpcdfjcbjbkliaaPu
namespace Go.Proofs.Ytpcdfjcbjbkliaa.E
open Go.RowKit Go.Proofs.YtpcdfjcbjbkliaaW.PrintWords Go.Proofs.YtpcdfjcbjbkliaaW.PrintLast Go.Proofs.YtpcdfjcbjbkliaaW.PrintMore
set_option linter.unusedVariables false
set_option linter.unusedSimpArgs false
/-! ### the law's own helpers -/
def big : Nat := 9223372036854775807
def stepW (x : S91) : S87 := ⟨x.f0, x.f1, x.f2, x.f3⟩
def clueW (x : S42) : S48 := ⟨x.f0, x.f1.map stepW⟩
def FitS (l : List S91) : Prop := l.length ≤ big ∧ ∀ x ∈ l, x.f1.size ≤ big
def FitC (l : List S42) : Prop := l.length ≤ big ∧ ∀ x ∈ l, FitS x.f1
def cap : Nat := 1048576
theorem rdA {xs : List S91} {i : Nat} (h : i < xs.length) : rd_T91 xs (i : Int) = xs[i] := by
  unfold rd_T91; simp [List.getD_eq_getElem?_getD, List.getElem?_eq_getElem h]
theorem rdB {xs : List S42} {i : Nat} (h : i < xs.length) : rd_T42 xs (i : Int) = xs[i] := by
  unfold rd_T42; simp [List.getD_eq_getElem?_getD, List.getElem?_eq_getElem h]
/-- what is left after a size: negative, or the size was small -/
theorem left_ev {n : Nat} {a : Int} (hn : n ≤ big) (ha : 0 ≤ a ∧ a ≤ 1048576) : wrap64 (a - n) = a - n ∧ (¬ a - (n : Int) < 0 → n ≤ 1048576) := by
  unfold big at hn
  exact ⟨w64 (by omega), by omega⟩
theorem szStep_eq {x : S91} (hx : x.f1.size ≤ big) {a : Int} (ha : 0 ≤ a ∧ a ≤ 1048576) : ∃ v : Int, laws_szStep.f x.f0 x.f1 x.f2 x.f3 a = some v ∧ v ≤ 1048576 := by
  unfold laws_szStep.f
  rw [(left_ev hx ha).1]
  by_cases h : a - (x.f1.size : Int) < 0
  · exact ⟨-1, by rw [if_pos h], by omega⟩
  · exact ⟨_, by rw [if_neg h], by omega⟩
theorem szStepS_l0 {l : List S91} (hl : l.length ≤ 1048576) (hf : ∀ x ∈ l, x.f1.size ≤ big) : ∀ d i (a : Int), i + d = l.length → 0 ≤ a ∧ a ≤ 1048576 → ∃ v : Int, Ev (fun k => laws_szStepS.l0 k l a (i : Int)) v ∧ v ≤ 1048576
  | 0, i, a, h, ha => by
    refine ⟨a, ?_, ha.2⟩
    refine Ev.succ (fun k => by rw [laws_szStepS.l0]) ?_
    exact Ev.neg (by omega) (Ev.pure _)
  | d + 1, i, a, h, ha => by
    have hlt : i < l.length := by omega
    obtain ⟨u, u1, u2⟩ := szStep_eq (hf _ (List.getElem_mem hlt)) ha
    by_cases hu : u < 0
    · refine ⟨-1, ?_, by omega⟩
      refine Ev.succ (fun k => by rw [laws_szStepS.l0]) ?_
      refine Ev.pos (by omega) (Ev.pos (by omega) ?_)
      rw [rdA hlt]
      exact Ev.bind (Ev.const u1) (Ev.pos hu (Ev.pure _))
    · obtain ⟨v, v1, v2⟩ := szStepS_l0 hl hf d (i + 1) u (by omega) (by omega)
      refine ⟨v, ?_, v2⟩
      rw [Int.natCast_add] at v1
      refine Ev.succ (fun k => by rw [laws_szStepS.l0]) ?_
      refine Ev.pos (by omega) (Ev.pos (by omega) ?_)
      rw [rdA hlt, w64 (by omega)]
      exact Ev.bind (Ev.const u1) (Ev.neg hu v1)
theorem szStepS {l : List S91} (hf : FitS l) {a : Int} (ha : 0 ≤ a ∧ a ≤ 1048576) : ∃ v : Int, Ev (fun k => laws_szStepS.f k l a) v ∧ v ≤ 1048576 ∧ (¬ v < 0 → l.length ≤ 1048576) := by
  unfold laws_szStepS.f
  have hw := left_ev hf.1 ha
  rw [hw.1]
  by_cases h : a - (l.length : Int) < 0
  · exact ⟨-1, Ev.pos h (Ev.pure _), by omega, by omega⟩
  · obtain ⟨v, v1, v2⟩ := szStepS_l0 (hw.2 h) hf.2 l.length 0 (a - l.length) (by omega) (by omega)
    exact ⟨v, Ev.neg h v1, v2, fun _ => hw.2 h⟩
theorem szClue {x : S42} (hf : FitS x.f1) {a : Int} (ha : 0 ≤ a ∧ a ≤ 1048576) : ∃ v : Int, Ev (fun k => laws_szClue.f k x.f0 x.f1 a) v ∧ v ≤ 1048576 ∧ (¬ v < 0 → x.f1.length ≤ 1048576) := by
  unfold laws_szClue.f
  obtain ⟨v, v1, v2, v3⟩ := szStepS hf ha
  by_cases h : v < 0
  · exact ⟨-1, Ev.bind v1 (Ev.pos h (Ev.pure _)), by omega, by omega⟩
  · exact ⟨v, Ev.bind v1 (Ev.neg h (Ev.pure _)), v2, v3⟩
theorem szClueS_l0 {l : List S42} (hl : l.length ≤ 1048576) (hf : ∀ x ∈ l, FitS x.f1) : ∀ d i (a : Int), i + d = l.length → 0 ≤ a ∧ a ≤ 1048576 → ∃ v : Int, Ev (fun k => laws_szClueS.l0 k l a (i : Int)) v ∧ v ≤ 1048576 ∧ (¬ v < 0 → ∀ x ∈ l.drop i, x.f1.length ≤ 1048576)
  | 0, i, a, h, ha => by
    refine ⟨a, ?_, ha.2, fun _ => by rw [List.drop_eq_nil_of_le (by omega)]; simp⟩
    refine Ev.succ (fun k => by rw [laws_szClueS.l0]) ?_
    exact Ev.neg (by omega) (Ev.pure _)
  | d + 1, i, a, h, ha => by
    have hlt : i < l.length := by omega
    obtain ⟨u, u1, u2, u3⟩ := szClue (hf _ (List.getElem_mem hlt)) ha
    by_cases hu : u < 0
    · refine ⟨-1, ?_, by omega, by omega⟩
      refine Ev.succ (fun k => by rw [laws_szClueS.l0]) ?_
      refine Ev.pos (by omega) (Ev.pos (by omega) ?_)
      rw [rdB hlt]
      exact Ev.bind u1 (Ev.pos hu (Ev.pure _))
    · obtain ⟨v, v1, v2, v3⟩ := szClueS_l0 hl hf d (i + 1) u (by omega) (by omega)
      refine ⟨v, ?_, v2, fun hv => ?_⟩
      · rw [Int.natCast_add] at v1
        refine Ev.succ (fun k => by rw [laws_szClueS.l0]) ?_
        refine Ev.pos (by omega) (Ev.pos (by omega) ?_)
        rw [rdB hlt, w64 (by omega)]
        exact Ev.bind u1 (Ev.neg hu v1)
      · rw [List.drop_eq_getElem_cons hlt]
        intro x hx
        rcases List.mem_cons.mp hx with rfl | hx
        · exact u3 hu
        · exact v3 hv x hx
theorem szClueS {l : List S42} (hf : FitC l) {a : Int} (ha : 0 ≤ a ∧ a ≤ 1048576) : ∃ v : Int, Ev (fun k => laws_szClueS.f k l a) v ∧ v ≤ 1048576 ∧ (¬ v < 0 → l.length ≤ 1048576 ∧ ∀ x ∈ l, x.f1.length ≤ 1048576) := by
  unfold laws_szClueS.f
  have hw := left_ev hf.1 ha
  rw [hw.1]
  by_cases h : a - (l.length : Int) < 0
  · exact ⟨-1, Ev.pos h (Ev.pure _), by omega, by omega⟩
  · obtain ⟨v, v1, v2, v3⟩ := szClueS_l0 (hw.2 h) hf.2 l.length 0 (a - l.length) (by omega) (by omega)
    exact ⟨v, Ev.neg h v1, v2, fun hv => ⟨hw.2 h, by simpa using v3 hv⟩⟩
theorem szGrid_eq {R C : Int} {s : ByteArray} (hs : s.size ≤ big) {a : Int} (ha : 0 ≤ a ∧ a ≤ 1048576) : ∃ v : Int, laws_szGrid.f R C s a = some v ∧ v ≤ 1048576 := by
  unfold laws_szGrid.f
  rw [(left_ev hs ha).1]
  by_cases h : a - (s.size : Int) < 0
  · exact ⟨-1, by rw [if_pos h], by omega⟩
  · exact ⟨_, by rw [if_neg h], by omega⟩
/-! copies -/
theorem fill_set {α β : Type} {l : List α} {F : α → β} {z : β} {i : Nat} (h : i < l.length) : ((l.take i).map F ++ List.replicate (l.length - i) z).set i (F l[i]) = (l.take (i + 1)).map F ++ List.replicate (l.length - (i + 1)) z := by
  have hl : ((l.take i).map F).length = i := by rw [List.length_map, List.length_take]; omega
  rw [List.set_append_right i _ (by omega), hl, Nat.sub_self, show l.length - i = (l.length - (i + 1)) + 1 by omega, List.replicate_succ, List.set_cons_zero, ← List.take_append_getElem h, List.map_append]
  simp
theorem fill_len {α β : Type} {l : List α} {F : α → β} {z : β} {i : Nat} (h : i ≤ l.length) : ((l.take i).map F ++ List.replicate (l.length - i) z).length = l.length := by
  rw [List.length_append, List.length_map, List.length_take, List.length_replicate]; omega
theorem toStepS_l0 {l : List S91} (hl : l.length ≤ 1048576) : ∀ d i, i + d = l.length → Ev (fun k => laws_toStepS.l0 k l ((l.take i).map stepW ++ List.replicate (l.length - i) z87) (i : Int)) (l.map stepW)
  | 0, i, h => by
    refine Ev.succ (fun k => by rw [laws_toStepS.l0]) ?_
    refine Ev.neg (by omega) ((Ev.pure _).eq ?_)
    rw [List.take_of_length_le (by omega), show l.length - i = 0 by omega]
    simp
  | d + 1, i, h => by
    have hlt : i < l.length := by omega
    have ih := toStepS_l0 hl d (i + 1) (by omega)
    rw [← fill_set hlt, Int.natCast_add] at ih
    refine Ev.succ (fun k => by rw [laws_toStepS.l0]) ?_
    refine Ev.pos (by omega) (Ev.pos (by omega) ?_)
    rw [rdA hlt, w64 (by omega)]
    unfold laws_toStep.f
    refine Ev.bind (Ev.pure _) (Ev.pos (by rw [fill_len (by omega)]; omega) ?_)
    rw [Int.toNat_natCast]
    exact ih
theorem toStepS {l : List S91} (hl : l.length ≤ 1048576) : Ev (fun k => laws_toStepS.f k l) (l.map stepW) := by
  unfold laws_toStepS.f
  refine Ev.pos (by omega) (Ev.pos (by omega) ?_)
  exact toStepS_l0 hl l.length 0 (by omega)
theorem toClueS_l0 {l : List S42} (hl : l.length ≤ 1048576) (hf : ∀ x ∈ l, x.f1.length ≤ 1048576) : ∀ d i, i + d = l.length → Ev (fun k => laws_toClueS.l0 k l ((l.take i).map clueW ++ List.replicate (l.length - i) z48) (i : Int)) (l.map clueW)
  | 0, i, h => by
    refine Ev.succ (fun k => by rw [laws_toClueS.l0]) ?_
    refine Ev.neg (by omega) ((Ev.pure _).eq ?_)
    rw [List.take_of_length_le (by omega), show l.length - i = 0 by omega]
    simp
  | d + 1, i, h => by
    have hlt : i < l.length := by omega
    have ih := toClueS_l0 hl hf d (i + 1) (by omega)
    rw [← fill_set hlt, Int.natCast_add] at ih
    refine Ev.succ (fun k => by rw [laws_toClueS.l0]) ?_
    refine Ev.pos (by omega) (Ev.pos (by omega) ?_)
    rw [rdB hlt, w64 (by omega)]
    unfold laws_toClue.f
    refine Ev.bind (Ev.bind (toStepS (hf _ (List.getElem_mem hlt))) (Ev.pure _)) (Ev.pos (by rw [fill_len (by omega)]; omega) ?_)
    rw [Int.toNat_natCast]
    exact ih
theorem toClueS {l : List S42} (hl : l.length ≤ 1048576) (hf : ∀ x ∈ l, x.f1.length ≤ 1048576) : Ev (fun k => laws_toClueS.f k l) (l.map clueW) := by
  unfold laws_toClueS.f
  refine Ev.pos (by omega) (Ev.pos (by omega) ?_)
  exact toClueS_l0 hl hf l.length 0 (by omega)
/-! a value is equal to itself -/
theorem eqStepS_l0 {l : List S87} (hl : l.length ≤ 1048576) : ∀ d i, i + d = l.length → Ev (fun k => laws_eqStepS.l0 k l l (i : Int)) true
  | 0, i, h => by
    refine Ev.succ (fun k => by rw [laws_eqStepS.l0]) ?_
    exact Ev.neg (by omega) (Ev.pure _)
  | d + 1, i, h => by
    have ih := eqStepS_l0 hl d (i + 1) (by omega)
    rw [Int.natCast_add] at ih
    refine Ev.succ (fun k => by rw [laws_eqStepS.l0]) ?_
    refine Ev.pos (by omega) (Ev.pos (by omega) (Ev.pos (by omega) ?_))
    rw [w64 (by omega)]
    unfold laws_eqStep.f
    exact Ev.bind (Ev.pos rfl (Ev.pos rfl (Ev.pos rfl (Ev.pos rfl (Ev.pure _))))) (Ev.pos rfl ih)
theorem eqClueS_l0 {l : List S48} (hl : l.length ≤ 1048576) (hf : ∀ x ∈ l, x.f1.length ≤ 1048576) : ∀ d i, i + d = l.length → Ev (fun k => laws_eqClueS.l0 k l l (i : Int)) true
  | 0, i, h => by
    refine Ev.succ (fun k => by rw [laws_eqClueS.l0]) ?_
    exact Ev.neg (by omega) (Ev.pure _)
  | d + 1, i, h => by
    have hlt : i < l.length := by omega
    have ih := eqClueS_l0 hl hf d (i + 1) (by omega)
    rw [Int.natCast_add] at ih
    refine Ev.succ (fun k => by rw [laws_eqClueS.l0]) ?_
    refine Ev.pos (by omega) (Ev.pos (by omega) (Ev.pos (by omega) ?_))
    rw [rdC hlt, w64 (by omega)]
    unfold laws_eqClue.f laws_eqStepS.f
    exact Ev.bind (Ev.pos rfl (Ev.bind (Ev.pos rfl (eqStepS_l0 (hf _ (List.getElem_mem hlt)) _ 0 (by rw [Nat.zero_add]))) (Ev.pos rfl (Ev.pure _)))) (Ev.pos rfl ih)
theorem eqIntS_l0 {l : List Int} (hl : l.length ≤ 1048576) : ∀ d i, i + d = l.length → Ev (fun k => laws_eqIntS.l0 k l l (i : Int)) true
  | 0, i, h => by
    refine Ev.succ (fun k => by rw [laws_eqIntS.l0]) ?_
    exact Ev.neg (by omega) (Ev.pure _)
  | d + 1, i, h => by
    have ih := eqIntS_l0 hl d (i + 1) (by omega)
    rw [Int.natCast_add] at ih
    refine Ev.succ (fun k => by rw [laws_eqIntS.l0]) ?_
    refine Ev.pos (by omega) (Ev.pos (by omega) (Ev.pos (by omega) (Ev.pos rfl ?_)))
    rw [w64 (by omega)]
    exact ih
end Go.Proofs.Ytpcdfjcbjbkliaa.E
