import Derived.Test.YtpcdfjcbjbkliaaGreatPl
import Derived.Test.YtpcdfjcbjbkliaaGreatQ22
namespace Go.Proofs.YtpcdfjcbjbkliaaGreat.E
open Go.RowKit Go.Proofs.YtpcdfjcbjbkliaaGreatW.PrintWords Go.Proofs.YtpcdfjcbjbkliaaGreatW.PrintLast Go.Proofs.YtpcdfjcbjbkliaaGreatW.PrintMore
set_option linter.unusedVariables false
set_option linter.unusedSimpArgs false
/-! ### the law's own helpers -/
def big : Nat := 9223372036854775807
def stepW (x : S152) : S121 := ⟨x.f0, x.f1, x.f2, x.f3⟩
def clueW (x : S83) : S89 := ⟨x.f0, x.f1.map stepW⟩
def FitS (l : List S152) : Prop := l.length ≤ big ∧ ∀ x ∈ l, x.f1.size ≤ big
def FitC (l : List S83) : Prop := l.length ≤ big ∧ ∀ x ∈ l, FitS x.f1
def cap : Nat := 1048576
theorem rdA {xs : List S152} {i : Nat} (h : i < xs.length) : rd_T152 xs (i : Int) = xs[i] := by
  unfold rd_T152; simp [List.getD_eq_getElem?_getD, List.getElem?_eq_getElem h]
theorem rdB {xs : List S83} {i : Nat} (h : i < xs.length) : rd_T83 xs (i : Int) = xs[i] := by
  unfold rd_T83; simp [List.getD_eq_getElem?_getD, List.getElem?_eq_getElem h]
/-- what is left after a size: negative, or the size was small -/
theorem left_ev {n : Nat} {a : Int} (hn : n ≤ big) (ha : 0 ≤ a ∧ a ≤ 1048576) : wrap64 (a - n) = a - n ∧ (¬ a - (n : Int) < 0 → n ≤ 1048576) := by
  unfold big at hn
  exact ⟨w64 (by omega), by omega⟩
theorem szStep_eq {x : S152} (hx : x.f1.size ≤ big) {a : Int} (ha : 0 ≤ a ∧ a ≤ 1048576) : ∃ v : Int, laws_szStep.f x.f0 x.f1 x.f2 x.f3 a = some v ∧ v ≤ 1048576 := by
  unfold laws_szStep.f
  rw [(left_ev hx ha).1]
  by_cases h : a - (x.f1.size : Int) < 0
  · exact ⟨-1, by rw [if_pos h], by omega⟩
  · exact ⟨_, by rw [if_neg h], by omega⟩
theorem szStepS_l0 {l : List S152} (hl : l.length ≤ 1048576) (hf : ∀ x ∈ l, x.f1.size ≤ big) : ∀ d i (a : Int), i + d = l.length → 0 ≤ a ∧ a ≤ 1048576 → ∃ v : Int, Ev (fun k => laws_szStepS.l0 k l a (i : Int)) v ∧ v ≤ 1048576
  | 0, i, a, h, ha => by
    refine ⟨a, ?_, ha.2⟩
    refine Ev.succ (fun k => by rw [laws_szStepS.l0]) ?_
    exact Ev.neg (by omega) (Ev.pure _)
  | d + 1, i, a, h, ha => by
    have hlt : i < l.length := by omega
    obtain ⟨u, u1, u2⟩ := szStep_eq (hf _ (List.getElem_mem hlt)) ha
    by_cases hu : u < 0
    · refine ⟨-1, ?_, by omega⟩
      refine Ev.succ (fun k => by rw [laws_szStepS.l0]) ?_
      refine Ev.pos (by omega) (Ev.pos (by omega) ?_)
      rw [rdA hlt]
      exact Ev.bind (Ev.const u1) (Ev.pos hu (Ev.pure _))
    · obtain ⟨v, v1, v2⟩ := szStepS_l0 hl hf d (i + 1) u (by omega) (by omega)
      refine ⟨v, ?_, v2⟩
      rw [Int.natCast_add] at v1
      refine Ev.succ (fun k => by rw [laws_szStepS.l0]) ?_
      refine Ev.pos (by omega) (Ev.pos (by omega) ?_)
      rw [rdA hlt, w64 (by omega)]
      exact Ev.bind (Ev.const u1) (Ev.neg hu v1)
theorem szStepS {l : List S152} (hf : FitS l) {a : Int} (ha : 0 ≤ a ∧ a ≤ 1048576) : ∃ v : Int, Ev (fun k => laws_szStepS.f k l a) v ∧ v ≤ 1048576 ∧ (¬ v < 0 → l.length ≤ 1048576) := by
  unfold laws_szStepS.f
  have hw := left_ev hf.1 ha
  rw [hw.1]
  by_cases h : a - (l.length : Int) < 0
  · exact ⟨-1, Ev.pos h (Ev.pure _), by omega, by omega⟩
  · obtain ⟨v, v1, v2⟩ := szStepS_l0 (hw.2 h) hf.2 l.length 0 (a - l.length) (by omega) (by omega)
    exact ⟨v, Ev.neg h v1, v2, fun _ => hw.2 h⟩
theorem szClue {x : S83} (hf : FitS x.f1) {a : Int} (ha : 0 ≤ a ∧ a ≤ 1048576) : ∃ v : Int, Ev (fun k => laws_szClue.f k x.f0 x.f1 a) v ∧ v ≤ 1048576 ∧ (¬ v < 0 → x.f1.length ≤ 1048576) := by
  unfold laws_szClue.f
  obtain ⟨v, v1, v2, v3⟩ := szStepS hf ha
  by_cases h : v < 0
  · exact ⟨-1, Ev.bind v1 (Ev.pos h (Ev.pure _)), by omega, by omega⟩
  · exact ⟨v, Ev.bind v1 (Ev.neg h (Ev.pure _)), v2, v3⟩
theorem szClueS_l0 {l : List S83} (hl : l.length ≤ 1048576) (hf : ∀ x ∈ l, FitS x.f1) : ∀ d i (a : Int), i + d = l.length → 0 ≤ a ∧ a ≤ 1048576 → ∃ v : Int, Ev (fun k => laws_szClueS.l0 k l a (i : Int)) v ∧ v ≤ 1048576 ∧ (¬ v < 0 → ∀ x ∈ l.drop i, x.f1.length ≤ 1048576)
  | 0, i, a, h, ha => by
    refine ⟨a, ?_, ha.2, fun _ => by rw [List.drop_eq_nil_of_le (by omega)]; simp⟩
    refine Ev.succ (fun k => by rw [laws_szClueS.l0]) ?_
    exact Ev.neg (by omega) (Ev.pure _)
  | d + 1, i, a, h, ha => by
    have hlt : i < l.length := by omega
    obtain ⟨u, u1, u2, u3⟩ := szClue (hf _ (List.getElem_mem hlt)) ha
    by_cases hu : u < 0
    · refine ⟨-1, ?_, by omega, by omega⟩
      refine Ev.succ (fun k => by rw [laws_szClueS.l0]) ?_
      refine Ev.pos (by omega) (Ev.pos (by omega) ?_)
      rw [rdB hlt]
      exact Ev.bind u1 (Ev.pos hu (Ev.pure _))
    · obtain ⟨v, v1, v2, v3⟩ := szClueS_l0 hl hf d (i + 1) u (by omega) (by omega)
      refine ⟨v, ?_, v2, fun hv => ?_⟩
      · rw [Int.natCast_add] at v1
        refine Ev.succ (fun k => by rw [laws_szClueS.l0]) ?_
        refine Ev.pos (by omega) (Ev.pos (by omega) ?_)
        rw [rdB hlt, w64 (by omega)]
        exact Ev.bind u1 (Ev.neg hu v1)
      · rw [List.drop_eq_getElem_cons hlt]
        intro x hx
        rcases List.mem_cons.mp hx with rfl | hx
        · exact u3 hu
        · exact v3 hv x hx
theorem szClueS {l : List S83} (hf : FitC l) {a : Int} (ha : 0 ≤ a ∧ a ≤ 1048576) : ∃ v : Int, Ev (fun k => laws_szClueS.f k l a) v ∧ v ≤ 1048576 ∧ (¬ v < 0 → l.length ≤ 1048576 ∧ ∀ x ∈ l, x.f1.length ≤ 1048576) := by
  unfold laws_szClueS.f
  have hw := left_ev hf.1 ha
  rw [hw.1]
  by_cases h : a - (l.length : Int) < 0
  · exact ⟨-1, Ev.pos h (Ev.pure _), by omega, by omega⟩
  · obtain ⟨v, v1, v2, v3⟩ := szClueS_l0 (hw.2 h) hf.2 l.length 0 (a - l.length) (by omega) (by omega)
    exact ⟨v, Ev.neg h v1, v2, fun hv => ⟨hw.2 h, by simpa using v3 hv⟩⟩
theorem szGrid_eq {R C : Int} {s : ByteArray} (hs : s.size ≤ big) {a : Int} (ha : 0 ≤ a ∧ a ≤ 1048576) : ∃ v : Int, laws_szGrid.f R C s a = some v ∧ v ≤ 1048576 := by
  unfold laws_szGrid.f
  rw [(left_ev hs ha).1]
  by_cases h : a - (s.size : Int) < 0
  · exact ⟨-1, by rw [if_pos h], by omega⟩
  · exact ⟨_, by rw [if_neg h], by omega⟩
theorem szIntS_eq {l : List Int} (hs : l.length ≤ big) {a : Int} (ha : 0 ≤ a ∧ a ≤ 1048576) : ∃ v : Int, laws_szIntS.f l a = some v ∧ v ≤ 1048576 ∧ (¬ v < 0 → l.length ≤ 1048576) := by
  unfold laws_szIntS.f
  have hw := left_ev hs ha
  rw [hw.1]
  by_cases h : a - (l.length : Int) < 0
  · exact ⟨-1, by rw [if_pos h], by omega, by omega⟩
  · exact ⟨_, by rw [if_neg h], by omega, fun _ => hw.2 h⟩
theorem szPuzzle {R C : Int} {s : ByteArray} {cl : List S83} {se : List Int} {sa : Int} (hs : s.size ≤ big) (hc : FitC cl) (he : se.length ≤ big) {a : Int} (ha : 0 ≤ a ∧ a ≤ 1048576) :
    ∃ v : Int, Ev (fun k => laws_szPuzzle.f k R C s cl se sa a) v ∧ v ≤ 1048576 ∧ (¬ v < 0 → (cl.length ≤ 1048576 ∧ ∀ x ∈ cl, x.f1.length ≤ 1048576) ∧ se.length ≤ 1048576) := by
  unfold laws_szPuzzle.f
  obtain ⟨u, u1, u2⟩ := szGrid_eq (R := R) (C := C) hs ha
  by_cases hu : u < 0
  · exact ⟨-1, Ev.bind (Ev.const u1) (Ev.pos hu (Ev.pure _)), by omega, by omega⟩
  · obtain ⟨v, v1, v2, v3⟩ := szClueS hc (a := u) (by omega)
    by_cases hv : v < 0
    · exact ⟨-1, Ev.bind (Ev.const u1) (Ev.neg hu (Ev.bind v1 (Ev.pos hv (Ev.pure _)))), by omega, by omega⟩
    · obtain ⟨w, w1, w2, w3⟩ := szIntS_eq he (a := v) (by omega)
      by_cases hw : w < 0
      · exact ⟨-1, Ev.bind (Ev.const u1) (Ev.neg hu (Ev.bind v1 (Ev.neg hv (Ev.bind (Ev.const w1) (Ev.pos hw (Ev.pure _)))))), by omega, by omega⟩
      · exact ⟨w, Ev.bind (Ev.const u1) (Ev.neg hu (Ev.bind v1 (Ev.neg hv (Ev.bind (Ev.const w1) (Ev.neg hw (Ev.pure _)))))), w2, fun h => ⟨v3 hv, w3 h⟩⟩
theorem szIssue {n R C : Int} {s f : ByteArray} {cl : List S83} {se : List Int} {sa o c : Int} (hs : s.size ≤ big) (hc : FitC cl) (he : se.length ≤ big) (hf : f.size ≤ big) {a : Int} (ha : 0 ≤ a ∧ a ≤ 1048576) :
    ∃ v : Int, Ev (fun k => laws_szIssue.f k n R C s cl se sa f o c a) v ∧ (¬ v < 0 → (cl.length ≤ 1048576 ∧ ∀ x ∈ cl, x.f1.length ≤ 1048576) ∧ se.length ≤ 1048576) := by
  unfold laws_szIssue.f
  obtain ⟨u, u1, u2, u3⟩ := szPuzzle (R := R) (C := C) (sa := sa) hs hc he ha
  by_cases hu : u < 0
  · exact ⟨-1, Ev.bind u1 (Ev.pos hu (Ev.pure _)), by omega⟩
  · have hw := left_ev hf (a := u) (by omega)
    by_cases h : wrap64 (u - (f.size : Int)) < 0
    · exact ⟨-1, Ev.bind u1 (Ev.neg hu (Ev.pos h (Ev.pure _))), by omega⟩
    · exact ⟨_, Ev.bind u1 (Ev.neg hu (Ev.neg h (Ev.pure _))), fun _ => u3 hu⟩
/-! copies -/
theorem fill_set {α β : Type} {l : List α} {F : α → β} {z : β} {i : Nat} (h : i < l.length) : ((l.take i).map F ++ List.replicate (l.length - i) z).set i (F l[i]) = (l.take (i + 1)).map F ++ List.replicate (l.length - (i + 1)) z := by
  have hl : ((l.take i).map F).length = i := by rw [List.length_map, List.length_take]; omega
  rw [List.set_append_right i _ (by omega), hl, Nat.sub_self, show l.length - i = (l.length - (i + 1)) + 1 by omega, List.replicate_succ, List.set_cons_zero, ← List.take_append_getElem h, List.map_append]
  simp
theorem fill_len {α β : Type} {l : List α} {F : α → β} {z : β} {i : Nat} (h : i ≤ l.length) : ((l.take i).map F ++ List.replicate (l.length - i) z).length = l.length := by
  rw [List.length_append, List.length_map, List.length_take, List.length_replicate]; omega
theorem toStepS_l0 {l : List S152} (hl : l.length ≤ 1048576) : ∀ d i, i + d = l.length → Ev (fun k => laws_toStepS.l0 k l ((l.take i).map stepW ++ List.replicate (l.length - i) z121) (i : Int)) (l.map stepW)
  | 0, i, h => by
    refine Ev.succ (fun k => by rw [laws_toStepS.l0]) ?_
    refine Ev.neg (by omega) ((Ev.pure _).eq ?_)
    rw [List.take_of_length_le (by omega), show l.length - i = 0 by omega]
    simp
  | d + 1, i, h => by
    have hlt : i < l.length := by omega
    have ih := toStepS_l0 hl d (i + 1) (by omega)
    rw [← fill_set hlt, Int.natCast_add] at ih
    refine Ev.succ (fun k => by rw [laws_toStepS.l0]) ?_
    refine Ev.pos (by omega) (Ev.pos (by omega) ?_)
    rw [rdA hlt, w64 (by omega)]
    unfold laws_toStep.f
    refine Ev.bind (Ev.pure _) (Ev.pos (by rw [fill_len (by omega)]; omega) ?_)
    rw [Int.toNat_natCast]
    exact ih
theorem toStepS {l : List S152} (hl : l.length ≤ 1048576) : Ev (fun k => laws_toStepS.f k l) (l.map stepW) := by
  unfold laws_toStepS.f
  refine Ev.pos (by omega) (Ev.pos (by omega) ?_)
  exact toStepS_l0 hl l.length 0 (by omega)
theorem toClueS_l0 {l : List S83} (hl : l.length ≤ 1048576) (hf : ∀ x ∈ l, x.f1.length ≤ 1048576) : ∀ d i, i + d = l.length → Ev (fun k => laws_toClueS.l0 k l ((l.take i).map clueW ++ List.replicate (l.length - i) z89) (i : Int)) (l.map clueW)
  | 0, i, h => by
    refine Ev.succ (fun k => by rw [laws_toClueS.l0]) ?_
    refine Ev.neg (by omega) ((Ev.pure _).eq ?_)
    rw [List.take_of_length_le (by omega), show l.length - i = 0 by omega]
    simp
  | d + 1, i, h => by
    have hlt : i < l.length := by omega
    have ih := toClueS_l0 hl hf d (i + 1) (by omega)
    rw [← fill_set hlt, Int.natCast_add] at ih
    refine Ev.succ (fun k => by rw [laws_toClueS.l0]) ?_
    refine Ev.pos (by omega) (Ev.pos (by omega) ?_)
    rw [rdB hlt, w64 (by omega)]
    unfold laws_toClue.f
    refine Ev.bind (Ev.bind (toStepS (hf _ (List.getElem_mem hlt))) (Ev.pure _)) (Ev.pos (by rw [fill_len (by omega)]; omega) ?_)
    rw [Int.toNat_natCast]
    exact ih
theorem toClueS {l : List S83} (hl : l.length ≤ 1048576) (hf : ∀ x ∈ l, x.f1.length ≤ 1048576) : Ev (fun k => laws_toClueS.f k l) (l.map clueW) := by
  unfold laws_toClueS.f
  refine Ev.pos (by omega) (Ev.pos (by omega) ?_)
  exact toClueS_l0 hl hf l.length 0 (by omega)
theorem toIntS_l0 {l : List Int} (hl : l.length ≤ 1048576) : ∀ d i, i + d = l.length → Ev (fun k => laws_toIntS.l0 k l ((l.take i).map id ++ List.replicate (l.length - i) 0) (i : Int)) (l.map id)
  | 0, i, h => by
    refine Ev.succ (fun k => by rw [laws_toIntS.l0]) ?_
    refine Ev.neg (by omega) ((Ev.pure _).eq ?_)
    rw [List.take_of_length_le (by omega), show l.length - i = 0 by omega]
    simp
  | d + 1, i, h => by
    have hlt : i < l.length := by omega
    have ih := toIntS_l0 hl d (i + 1) (by omega)
    rw [← fill_set hlt, Int.natCast_add] at ih
    refine Ev.succ (fun k => by rw [laws_toIntS.l0]) ?_
    refine Ev.pos (by omega) (Ev.pos (by omega) (Ev.pos (by rw [fill_len (by omega)]; omega) ?_))
    rw [rdI hlt, w64 (by omega), Int.toNat_natCast]
    exact ih
theorem toIntS {l : List Int} (hl : l.length ≤ 1048576) : Ev (fun k => laws_toIntS.f k l) l := by
  unfold laws_toIntS.f
  refine Ev.pos (by omega) (Ev.pos (by omega) ?_)
  have := toIntS_l0 hl l.length 0 (by omega)
  simpa using this
theorem toIssue {n R C : Int} {s f : ByteArray} {cl : List S83} {se : List Int} {sa o c : Int} (hl : cl.length ≤ 1048576) (hf : ∀ x ∈ cl, x.f1.length ≤ 1048576) (he : se.length ≤ 1048576) :
    Ev (fun k => laws_toIssue.f k n R C s cl se sa f o c) (n, R, C, s, cl.map clueW, se, sa, f, o, c) := by
  unfold laws_toIssue.f laws_toPuzzle.f laws_toGrid.f
  exact Ev.bind (Ev.bind (Ev.pure _) (Ev.bind (toClueS hl hf) (Ev.bind (toIntS he) (Ev.pure _)))) (Ev.pure _)
/-! a value is equal to itself -/
theorem eqStepS_l0 {l : List S121} (hl : l.length ≤ 1048576) : ∀ d i, i + d = l.length → Ev (fun k => laws_eqStepS.l0 k l l (i : Int)) true
  | 0, i, h => by
    refine Ev.succ (fun k => by rw [laws_eqStepS.l0]) ?_
    exact Ev.neg (by omega) (Ev.pure _)
  | d + 1, i, h => by
    have ih := eqStepS_l0 hl d (i + 1) (by omega)
    rw [Int.natCast_add] at ih
    refine Ev.succ (fun k => by rw [laws_eqStepS.l0]) ?_
    refine Ev.pos (by omega) (Ev.pos (by omega) (Ev.pos (by omega) ?_))
    rw [w64 (by omega)]
    unfold laws_eqStep.f
    exact Ev.bind (Ev.pos rfl (Ev.pos rfl (Ev.pos rfl (Ev.pos rfl (Ev.pure _))))) (Ev.pos rfl ih)
theorem eqClueS_l0 {l : List S89} (hl : l.length ≤ 1048576) (hf : ∀ x ∈ l, x.f1.length ≤ 1048576) : ∀ d i, i + d = l.length → Ev (fun k => laws_eqClueS.l0 k l l (i : Int)) true
  | 0, i, h => by
    refine Ev.succ (fun k => by rw [laws_eqClueS.l0]) ?_
    exact Ev.neg (by omega) (Ev.pure _)
  | d + 1, i, h => by
    have hlt : i < l.length := by omega
    have ih := eqClueS_l0 hl hf d (i + 1) (by omega)
    rw [Int.natCast_add] at ih
    refine Ev.succ (fun k => by rw [laws_eqClueS.l0]) ?_
    refine Ev.pos (by omega) (Ev.pos (by omega) (Ev.pos (by omega) ?_))
    rw [rdC hlt, w64 (by omega)]
    unfold laws_eqClue.f laws_eqStepS.f
    exact Ev.bind (Ev.pos rfl (Ev.bind (Ev.pos rfl (eqStepS_l0 (hf _ (List.getElem_mem hlt)) _ 0 (by rw [Nat.zero_add]))) (Ev.pos rfl (Ev.pure _)))) (Ev.pos rfl ih)
theorem eqIntS_l0 {l : List Int} (hl : l.length ≤ 1048576) : ∀ d i, i + d = l.length → Ev (fun k => laws_eqIntS.l0 k l l (i : Int)) true
  | 0, i, h => by
    refine Ev.succ (fun k => by rw [laws_eqIntS.l0]) ?_
    exact Ev.neg (by omega) (Ev.pure _)
  | d + 1, i, h => by
    have ih := eqIntS_l0 hl d (i + 1) (by omega)
    rw [Int.natCast_add] at ih
    refine Ev.succ (fun k => by rw [laws_eqIntS.l0]) ?_
    refine Ev.pos (by omega) (Ev.pos (by omega) (Ev.pos (by omega) (Ev.pos rfl ?_)))
    rw [w64 (by omega)]
    exact ih
theorem eqIssue {n R C : Int} {s f : ByteArray} {cl : List S89} {se : List Int} {sa o c : Int} (hl : cl.length ≤ 1048576) (hf : ∀ x ∈ cl, x.f1.length ≤ 1048576) (he : se.length ≤ 1048576) :
    Ev (fun k => laws_eqIssue.f k n R C s cl se sa f o c n R C s cl se sa f o c) true := by
  unfold laws_eqIssue.f laws_eqPuzzle.f laws_eqGrid.f laws_eqClueS.f laws_eqIntS.f
  have h1 := eqClueS_l0 hl hf _ 0 (by rw [Nat.zero_add])
  have h2 := eqIntS_l0 he _ 0 (by rw [Nat.zero_add])
  exact Ev.pos rfl (Ev.bind (Ev.bind (Ev.pos rfl (Ev.pos rfl (Ev.pos rfl (Ev.pure _)))) (Ev.pos rfl (Ev.bind (Ev.pos rfl h1) (Ev.pos rfl (Ev.bind (Ev.pos rfl h2) (Ev.pos rfl (Ev.pos rfl (Ev.pure _)))))))) (Ev.pos rfl (Ev.pos rfl (Ev.pos rfl (Ev.pos rfl (Ev.pure _))))))
/-- The law of IsIssue: true of all arguments whose sizes a machine can hold. -/
theorem law_IsIssue {n R C : Int} {s f : ByteArray} {cl : List S83} {se : List Int} {sa o c : Int} (hs : s.size ≤ big) (hc : FitC cl) (he : se.length ≤ big) (hf : f.size ≤ big) :
    ∃ k, laws_FnExactIsIssue.f k n R C s cl se sa f o c = some true := by
  apply Ev.ex (F := fun k => laws_FnExactIsIssue.f k n R C s cl se sa f o c)
  unfold laws_FnExactIsIssue.f
  obtain ⟨v, v1, v2⟩ := szIssue (n := n) (R := R) (C := C) (sa := sa) (o := o) (c := c) hs hc he hf (a := 1048576) (by omega)
  refine Ev.bind v1 ?_
  by_cases hv : v < 0
  · exact Ev.pos hv (Ev.pure _)
  refine Ev.neg hv ?_
  obtain ⟨⟨a1, a2⟩, a3⟩ := v2 hv
  have ht := toIssue (n := n) (R := R) (C := C) (s := s) (f := f) (sa := sa) (o := o) (c := c) a1 a2 a3
  obtain ⟨b, b1, b2⟩ := issue n R C s (cl.map clueW) se sa f o c (by rw [List.length_map]; omega) (by omega)
  have hq := eqIssue (n := n) (R := R) (C := C) (s := s) (f := f) (sa := sa) (o := o) (c := c) (cl := cl.map clueW) (by rw [List.length_map]; exact a1) (fun x hx => by
    obtain ⟨y, hy, rfl⟩ := List.mem_map.mp hx
    show (y.f1.map stepW).length ≤ 1048576
    rw [List.length_map]
    exact a2 y hy) a3
  exact Ev.bind ht (Ev.bind b1 (Ev.bind ht (Ev.bind b2 (Ev.neg (by simp) (Ev.bind ht (Ev.bind hq (Ev.pos rfl (Ev.pure _))))))))
end Go.Proofs.YtpcdfjcbjbkliaaGreat.E
