import Derived.Test.YtpcdfjcbjbkliaaGreatPb
import Derived.Test.YtpcdfjcbjbkliaaGreatRows
import Derived.WalkKit
import Derived.ProofKit
import Derived.OpenShut
import Derived.ShutString
import Derived.ChangeOld
import Derived.Below
import Derived.SizedLaws
import Derived.ChangeSlices
import Derived.Deep.Slices
namespace Go.Proofs.YtpcdfjcbjbkliaaGreat.E
open Go.RowKit Go.Proofs.YtpcdfjcbjbkliaaGreatW.PrintWords Go.Proofs.YtpcdfjcbjbkliaaGreatW.PrintLast Go.Proofs.YtpcdfjcbjbkliaaGreatW.PrintMore
set_option linter.unusedVariables false
set_option linter.unusedSimpArgs false
/-! ### what a law is handed, opened -/
section
open Go.ChangeShapes Go.WideShapes Go.ChangeAt
def Op {α : Type} (d : Kd α) (Q : α → Prop) (t : TypeId) : Prop :=
  ∀ (H : Type) (enc : TypeId × Value → H) (W : World) (fuel : Nat) (cs : List Value) (x : DataW H × List MemPlace), DataW.trod enc Tryz.prog W 0 (fun _ => true) true fuel t cs = some x → ∃ a, d.K W a cs ∧ Q a
theorem op_int : Op (Kd.int .i64) (fun _ => True) 3 := fun H enc W fuel cs x h => by
  obtain ⟨n, e, _, _⟩ := DataW.trod_int Tryz.underlying3 h
  exact ⟨n, e, trivial⟩
theorem op_str : Op Kd.string (fun s => s.size ≤ big) 9 := fun H enc W fuel cs x h => by
  obtain ⟨s, e, _, hs⟩ := DataW.trod_string Tryz.underlying9 h
  exact ⟨s, e, Nat.le_trans hs (by decide)⟩
theorem rows_of {α : Type} {P : Nat → α → Prop} : ∀ n, (∀ i, i < n → ∃ y, P i y) → ∃ l : List α, l.length = n ∧ ∀ j y, l[j]? = some y → P j y
  | 0, _ => ⟨[], rfl, fun j y h => by simp at h⟩
  | n + 1, h => by
    obtain ⟨l, hl, hp⟩ := rows_of n (fun i hi => h i (by omega))
    obtain ⟨y, hy⟩ := h n (by omega)
    refine ⟨l ++ [y], by simp [hl], fun j z hz => ?_⟩
    rw [List.getElem?_append] at hz
    split at hz
    · exact hp j z hz
    · rename_i hj
      have : j = n := by
        have h1 : j - l.length < [y].length := by
          rcases Nat.lt_or_ge (j - l.length) [y].length with h | h
          · exact h
          · rw [List.getElem?_eq_none h] at hz; cases hz
        simp at h1
        omega
      subst this
      rw [hl, Nat.sub_self] at hz
      simp at hz
      subst hz
      exact hy
theorem op_slice {α : Type} {d : Kd α} {Q : α → Prop} {t e e' : TypeId} (ht : Tryz.prog.underlying t = some (.slice e)) (hc : Tryz.prog.cellsOf e = d.sz) (h : Op d Q e) : Op (Kd.slice e' d) (fun l => l.length ≤ big ∧ ∀ x ∈ l, Q x) t := fun H enc W fuel cs x hx => by
  rcases Go.Deep.open_slice ht hx with ⟨rfl, _⟩ | ⟨a, len, cap, m, n, D, Pl, rfl, _, hl, hm, hmm, _, hel⟩
  · exact ⟨[], ⟨none, 0, rfl, Nat.le_refl _, Kd.C_nil d W⟩, Nat.zero_le _, fun x hx => by simp at hx⟩
  · obtain ⟨l, hll, hp⟩ := rows_of (P := fun i y => ∃ cs', W.cells? 0 (a.add (i * Tryz.prog.cellsOf e)) (Tryz.prog.cellsOf e) = some cs' ∧ d.K W y cs' ∧ Q y) len (fun i hi => by
      obtain ⟨cs', h1, h2⟩ := hel i (by rw [hmm, if_pos rfl]; omega)
      obtain ⟨y, hy, hq⟩ := h H enc W n cs' _ h2
      exact ⟨y, cs', h1, hy, hq⟩)
    have hbig : len ≤ big := Nat.le_trans (Nat.le_trans hl hm) (by decide)
    refine ⟨l, ⟨some a, cap, by rw [hll], by omega, rfl, by rw [hll]; exact hbig, fun _ => ⟨a, rfl, fun j p hj => ?_⟩⟩, by rw [hll]; exact hbig, fun x hx => ?_⟩
    · obtain ⟨cs', h1, h2, _⟩ := hp j p hj
      rw [hc] at h1
      obtain ⟨_, h3, h4⟩ := World.cells?_some h1
      refine ⟨cs', h3, h2, fun i u hu => ?_⟩
      have hi : i < d.sz := by
        rcases Nat.lt_or_ge i cs'.length with hi | hi
        · omega
        · rw [List.getElem?_eq_none hi] at hu; cases hu
      have := h4 i hi
      rw [hu] at this
      rw [← this]
      rw [Addr.add_add]
    · obtain ⟨j, hj, rfl⟩ := List.getElem_of_mem hx
      obtain ⟨_, _, _, hq⟩ := hp j _ (List.getElem?_eq_getElem hj)
      exact hq
theorem field_at {H : Type} {enc : TypeId × Value → H} {W : World} {fuel : Nat} {t : TypeId} {fs : Array Field} {cs : List Value} {x : DataW H × List MemPlace} (ht : Tryz.prog.underlying t = some (.struct fs)) (h : DataW.trod enc Tryz.prog W 0 (fun _ => true) true fuel t cs = some x) (i : Nat) {f : Field} (hf : fs[i]? = some f) :
    ∃ n y, DataW.trod enc Tryz.prog W 0 (fun _ => true) true n f.type ((cs.drop f.offset).take (Tryz.prog.cellsOf f.type)) = some y := by
  obtain ⟨xs, n, _, _, _, hlen, hall⟩ := DataW.trod_struct ht h
  have hi : i < xs.length := by
    rw [hlen]
    exact (Array.getElem?_eq_some_iff.1 hf).1
  exact ⟨n, xs[i], by rw [hall i f hf, List.getElem?_eq_getElem hi]⟩
theorem fld {H : Type} {enc : TypeId × Value → H} {W : World} {fuel : Nat} {t : TypeId} {fs : Array Field} {cs : List Value} {x : DataW H × List MemPlace} (ht : Tryz.prog.underlying t = some (.struct fs)) (h : DataW.trod enc Tryz.prog W 0 (fun _ => true) true fuel t cs = some x) (i : Nat) (ty off sz : Nat) (hf : (fs[i]?).map (fun f => (f.type, f.offset)) = some (ty, off)) (hs : Tryz.prog.cellsOf ty = sz) :
    ∃ n y, DataW.trod enc Tryz.prog W 0 (fun _ => true) true n ty ((cs.drop off).take sz) = some y := by
  obtain ⟨f, h1, h2⟩ := Option.map_eq_some_iff.1 hf
  obtain ⟨n, y, hy⟩ := field_at ht h i h1
  obtain ⟨rfl, rfl⟩ := Prod.mk.inj h2
  rw [hs] at hy
  exact ⟨n, y, hy⟩
theorem struct_len {H : Type} {enc : TypeId × Value → H} {W : World} {fuel : Nat} {t : TypeId} {fs : Array Field} {cs : List Value} {x : DataW H × List MemPlace} (ht : Tryz.prog.underlying t = some (.struct fs)) (h : DataW.trod enc Tryz.prog W 0 (fun _ => true) true fuel t cs = some x) : cs.length = Tryz.prog.cellsOf t := by
  obtain ⟨xs, n, _, _, hl, _⟩ := DataW.trod_struct ht h
  exact hl
theorem size3 : Tryz.prog.cellsOf 3 = 1 := by kernel_rfl
theorem size9 : Tryz.prog.cellsOf 9 = 1 := by kernel_rfl
theorem size152 : Tryz.prog.cellsOf 152 = 4 := by kernel_rfl
theorem size83 : Tryz.prog.cellsOf 83 = 2 := by kernel_rfl
theorem size81 : Tryz.prog.cellsOf 81 = 1 := by kernel_rfl
theorem op_step : Op k152 (fun x => x.f1.size ≤ big) 152 := fun H enc W fuel cs x h => by
  have hl := struct_len Tryz.underlying152 h
  rw [size152] at hl
  match cs, hl with
  | [a, b, c, d], _ =>
    obtain ⟨_, _, h0⟩ := fld Tryz.underlying152 h 0 3 0 1 rfl size3
    obtain ⟨_, _, h1⟩ := fld Tryz.underlying152 h 1 9 1 1 rfl size9
    obtain ⟨_, _, h2⟩ := fld Tryz.underlying152 h 2 3 2 1 rfl size3
    obtain ⟨_, _, h3⟩ := fld Tryz.underlying152 h 3 3 3 1 rfl size3
    simp only [List.drop_zero, List.drop_succ_cons, List.take_succ_cons, List.take_zero] at h0 h1 h2 h3
    obtain ⟨x0, e0, _⟩ := op_int H enc W _ _ _ h0
    obtain ⟨x1, e1, q1⟩ := op_str H enc W _ _ _ h1
    obtain ⟨x2, e2, _⟩ := op_int H enc W _ _ _ h2
    obtain ⟨x3, e3, _⟩ := op_int H enc W _ _ _ h3
    exact ⟨⟨x0, x1, x2, x3⟩, ⟨[a], [b, c, d], rfl, e0, [b], [c, d], rfl, e1, [c], [d], rfl, e2, e3⟩, q1⟩
theorem op_clue : Op k83 (fun x => FitS x.f1) 83 := fun H enc W fuel cs x h => by
  have hl := struct_len Tryz.underlying83 h
  rw [size83] at hl
  match cs, hl with
  | [a, b], _ =>
    obtain ⟨_, _, h0⟩ := fld Tryz.underlying83 h 0 3 0 1 rfl size3
    obtain ⟨_, _, h1⟩ := fld Tryz.underlying83 h 1 81 1 1 rfl size81
    simp only [List.drop_zero, List.drop_succ_cons, List.take_succ_cons, List.take_zero] at h0 h1
    obtain ⟨x0, e0, _⟩ := op_int H enc W _ _ _ h0
    obtain ⟨x1, e1, q1⟩ := op_slice Tryz.underlying81 size152 op_step H enc W _ _ _ h1
    exact ⟨⟨x0, x1⟩, ⟨[a], [b], rfl, e0, e1⟩, q1⟩
theorem op_clues : Op (Kd.slice 83 k83) FitC 24 := op_slice Tryz.underlying24 size83 op_clue
theorem op_ints : Op (Kd.slice 3 (Kd.int .i64)) (fun l => l.length ≤ big ∧ ∀ x ∈ l, True) 25 := op_slice Tryz.underlying25 size3 op_int
theorem size23 : Tryz.prog.cellsOf 23 = 3 := by kernel_rfl
theorem size24 : Tryz.prog.cellsOf 24 = 1 := by kernel_rfl
theorem size25 : Tryz.prog.cellsOf 25 = 1 := by kernel_rfl
theorem size27 : Tryz.prog.cellsOf 27 = 6 := by kernel_rfl
theorem size29 : Tryz.prog.cellsOf 29 = 10 := by kernel_rfl
/-- a puzzle's six cells -/
theorem open_puzzle {H : Type} {enc : TypeId × Value → H} {W : World} {fuel : Nat} {v0 v1 v2 v3 v4 v5 : Value} {x : DataW H × List MemPlace} (h : DataW.trod enc Tryz.prog W 0 (fun _ => true) true fuel 27 [v0, v1, v2, v3, v4, v5] = some x) :
    ∃ (R C : Int) (s : ByteArray) (cl : List S83) (A : Option Addr) (k : Nat) (se : List Int) (A' : Option Addr) (k' : Nat) (sa : Int), v0 = .int .i64 R ∧ v1 = .int .i64 C ∧ v2 = .string s ∧ v3 = .slice A cl.length k ∧ v4 = .slice A' se.length k' ∧ v5 = .int .i64 sa ∧
      s.size ≤ big ∧ FitC cl ∧ cl.length ≤ k ∧ Kd.C k83 W A cl.length cl ∧ se.length ≤ big ∧ se.length ≤ k' ∧ Kd.C (Kd.int .i64) W A' se.length se := by
  obtain ⟨_, _, h0⟩ := fld Tryz.underlying27 h 0 23 0 3 rfl size23
  obtain ⟨_, _, h1⟩ := fld Tryz.underlying27 h 1 24 3 1 rfl size24
  obtain ⟨_, _, h2⟩ := fld Tryz.underlying27 h 2 25 4 1 rfl size25
  obtain ⟨_, _, h3⟩ := fld Tryz.underlying27 h 3 3 5 1 rfl size3
  simp only [List.drop_zero, List.drop_succ_cons, List.take_succ_cons, List.take_zero] at h0 h1 h2 h3
  obtain ⟨_, _, g0⟩ := fld Tryz.underlying23 h0 0 3 0 1 rfl size3
  obtain ⟨_, _, g1⟩ := fld Tryz.underlying23 h0 1 3 1 1 rfl size3
  obtain ⟨_, _, g2⟩ := fld Tryz.underlying23 h0 2 9 2 1 rfl size9
  simp only [List.drop_zero, List.drop_succ_cons, List.take_succ_cons, List.take_zero] at g0 g1 g2
  obtain ⟨R, e0, _⟩ := op_int H enc W _ _ _ g0
  obtain ⟨C, e1, _⟩ := op_int H enc W _ _ _ g1
  obtain ⟨s, e2, q2⟩ := op_str H enc W _ _ _ g2
  obtain ⟨cl, ⟨A, k, e3, hk, hC⟩, q3⟩ := op_clues H enc W _ _ _ h1
  obtain ⟨se, ⟨A', k', e4, hk', hC'⟩, q4⟩ := op_ints H enc W _ _ _ h2
  obtain ⟨sa, e5, _⟩ := op_int H enc W _ _ _ h3
  refine ⟨R, C, s, cl, A, k, se, A', k', sa, ?_, ?_, ?_, ?_, ?_, ?_, q2, q3, hk, hC, q4.1, hk', hC'⟩
  · exact (List.cons.inj e0).1
  · exact (List.cons.inj e1).1
  · exact (List.cons.inj e2).1
  · exact (List.cons.inj e3).1
  · exact (List.cons.inj e4).1
  · exact (List.cons.inj e5).1
/-- an issue's ten cells -/
theorem open_issue {H : Type} {enc : TypeId × Value → H} {W : World} {fuel : Nat} {v0 v1 v2 v3 v4 v5 v6 v7 v8 v9 : Value} {x : DataW H × List MemPlace} (h : DataW.trod enc Tryz.prog W 0 (fun _ => true) true fuel 29 [v0, v1, v2, v3, v4, v5, v6, v7, v8, v9] = some x) :
    ∃ (n R C : Int) (s : ByteArray) (cl : List S83) (A : Option Addr) (k : Nat) (se : List Int) (A' : Option Addr) (k' : Nat) (sa : Int) (f : ByteArray) (o c : Int), v0 = .int .i64 n ∧ v1 = .int .i64 R ∧ v2 = .int .i64 C ∧ v3 = .string s ∧ v4 = .slice A cl.length k ∧ v5 = .slice A' se.length k' ∧ v6 = .int .i64 sa ∧ v7 = .string f ∧ v8 = .int .i64 o ∧ v9 = .int .i64 c ∧
      f.size ≤ big ∧ s.size ≤ big ∧ FitC cl ∧ cl.length ≤ k ∧ Kd.C k83 W A cl.length cl ∧ se.length ≤ big ∧ se.length ≤ k' ∧ Kd.C (Kd.int .i64) W A' se.length se := by
  obtain ⟨_, _, h0⟩ := fld Tryz.underlying29 h 0 3 0 1 rfl size3
  obtain ⟨_, _, h1⟩ := fld Tryz.underlying29 h 1 27 1 6 rfl size27
  obtain ⟨_, _, h2⟩ := fld Tryz.underlying29 h 2 9 7 1 rfl size9
  obtain ⟨_, _, h3⟩ := fld Tryz.underlying29 h 3 3 8 1 rfl size3
  obtain ⟨_, _, h4⟩ := fld Tryz.underlying29 h 4 3 9 1 rfl size3
  simp only [List.drop_zero, List.drop_succ_cons, List.take_succ_cons, List.take_zero] at h0 h1 h2 h3 h4
  obtain ⟨n, e0, _⟩ := op_int H enc W _ _ _ h0
  obtain ⟨R, C, s, cl, A, k, se, A', k', sa, p0, p1, p2, p3, p4, p5, q⟩ := open_puzzle h1
  obtain ⟨f, e2, q2⟩ := op_str H enc W _ _ _ h2
  obtain ⟨o, e3, _⟩ := op_int H enc W _ _ _ h3
  obtain ⟨c, e4, _⟩ := op_int H enc W _ _ _ h4
  exact ⟨n, R, C, s, cl, A, k, se, A', k', sa, f, o, c, (List.cons.inj e0).1, p0, p1, p2, p3, p4, p5, (List.cons.inj e2).1, (List.cons.inj e3).1, (List.cons.inj e4).1, q2, q⟩
theorem size51 : Tryz.prog.cellsOf 51 = 1 := by kernel_rfl
theorem size85 : Tryz.prog.cellsOf 85 = 5 := by kernel_rfl
theorem op_cor : Op k85 (fun x => FitS x.f2.f1) 85 := fun H enc W fuel cs x h => by
  have hl := struct_len Tryz.underlying85 h
  rw [size85] at hl
  match cs, hl with
  | [a, b, c, d, e], _ =>
    obtain ⟨_, _, h0⟩ := fld Tryz.underlying85 h 0 3 0 1 rfl size3
    obtain ⟨_, _, h1⟩ := fld Tryz.underlying85 h 1 3 1 1 rfl size3
    obtain ⟨_, _, h2⟩ := fld Tryz.underlying85 h 2 83 2 2 rfl size83
    obtain ⟨_, _, h3⟩ := fld Tryz.underlying85 h 3 3 4 1 rfl size3
    simp only [List.drop_zero, List.drop_succ_cons, List.take_succ_cons, List.take_zero] at h0 h1 h2 h3
    obtain ⟨x0, e0, _⟩ := op_int H enc W _ _ _ h0
    obtain ⟨x1, e1, _⟩ := op_int H enc W _ _ _ h1
    obtain ⟨x2, e2, q2⟩ := op_clue H enc W _ _ _ h2
    obtain ⟨x3, e3, _⟩ := op_int H enc W _ _ _ h3
    exact ⟨⟨x0, x1, x2, x3⟩, ⟨[a], [b, c, d, e], rfl, e0, [b], [c, d, e], rfl, e1, [c, d], [e], rfl, e2, e3⟩, q2⟩
theorem op_cors : Op (Kd.slice 85 k85) FitQ 51 := op_slice Tryz.underlying51 size85 op_cor
end
end Go.Proofs.YtpcdfjcbjbkliaaGreat.E
