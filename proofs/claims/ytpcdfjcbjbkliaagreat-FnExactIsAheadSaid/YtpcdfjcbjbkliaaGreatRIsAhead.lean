/- The law FnExactIsAhead holds: for every entry and every entry and every issue that are handed in, the call returns true, and each argument reads afterwards as before. Conditions: those of the given row, and no other. -/
import Derived.Test.YtpcdfjcbjbkliaaGreatPo
import Derived.Test.YtpcdfjcbjbkliaaGreatPt
open Go.RowKit Go.Proofs.YtpcdfjcbjbkliaaGreatW.PrintWords Go.Proofs.YtpcdfjcbjbkliaaGreatW.PrintLast Go.Proofs.YtpcdfjcbjbkliaaGreatW.PrintMore
set_option linter.unusedVariables false
set_option linter.unusedSimpArgs false
namespace Go.Proofs.YtpcdfjcbjbkliaaGreat.fnExactIsAhead
open Go.ChangeShapes Go.WideShapes Go.ChangeAt Go.RowKit
open Go.ChangeMaps (open_string shut_string)
theorem own : ownKnob Tryz.prog.godebug = none := by kernel_rfl
theorem laidOut : laidOutB Tryz.prog = true := by kernel_rfl
theorem arr4 {cs : Array Value} (h : cs.size = 4) : ∃ v0 v1 v2 v3, cs = #[v0, v1, v2, v3] := by
  obtain ⟨l⟩ := cs
  match l, h with
  | [v0, v1, v2, v3], _ => exact ⟨v0, v1, v2, v3, rfl⟩
theorem arr10 {cs : Array Value} (h : cs.size = 10) : ∃ v0 v1 v2 v3 v4 v5 v6 v7 v8 v9, cs = #[v0, v1, v2, v3, v4, v5, v6, v7, v8, v9] := by
  obtain ⟨l⟩ := cs
  match l, h with
  | [v0, v1, v2, v3, v4, v5, v6, v7, v8, v9], _ => exact ⟨v0, v1, v2, v3, v4, v5, v6, v7, v8, v9, rfl⟩
set_option maxRecDepth 100000 in
theorem lifted (os : Os) (started : os.Started) (H : Type) (enc : TypeId × Value → H) :
    ReturnsInHanded {} Tryz.checked os 6 .any (Rows.fnExactIsAheadSpec.pre6 enc Tryz.prog Tryz.f6 Rows.fnExactIsAheadRow.domain false) (Rows.fnExactIsAheadSpec.post enc Tryz.prog Tryz.f6 false true false false) := by
  refine returnsInHanded_of_change_sized (C := Tryz.checked) own started (by kernel_rfl) Tryz.func6
    (ChangeSpec.witness6 (enc := enc) (C := Tryz.checked) false ⟨#[], #[.agg #[.int .i64 0, .int .i64 0, .int .i64 0, .string ByteArray.empty], .agg #[.int .i64 0, .int .i64 0, .int .i64 0, .string ByteArray.empty], .agg #[.int .i64 0, .int .i64 0, .int .i64 0, .string ByteArray.empty, .slice none 0 0, .slice none 0 0, .int .i64 0, .string ByteArray.empty, .int .i64 0, .int .i64 0]], []⟩ 20 (by kernel_rfl) (by kernel_rfl) (by kernel_rfl) (by kernel_rfl)) ?_
  intro W base args ds gs before hval0 hW hcnd hsz0 _
  have hval : ∀ (j : Nat) t v, Tryz.f6.params[j]? = some t → args[j]? = some v → Value.okWide Tryz.prog W .any base t v := hval0
  have hW' := hW
  obtain ⟨p, q, hA0, hV, rfl, hfz, hnd⟩ := hW
  have hA : DataW.TrodAll enc Tryz.prog W 0 (fun _ => true) true Tryz.f6.params.toList args.toList ds p := hA0
  rw [Tryz.params6] at hA hval
  obtain ⟨v0, vs0, d0, ds0, p0, q0, hargs, rfl, rfl, h0, r0⟩ := trodAll_cons hA
  obtain ⟨v1, vs1, d1, ds1, p1, q1, rfl, rfl, rfl, h1, r1⟩ := trodAll_cons r0
  obtain ⟨v2, vs2, d2, ds2, p2, q2, rfl, rfl, rfl, h2, r2⟩ := trodAll_cons r1
  obtain ⟨rfl, rfl, rfl⟩ := trodAll_nil r2
  obtain rfl : args = #[v0, v1, v2] := by cases args; simp_all
  obtain ⟨rfl, rfl⟩ := trodVars_none hV
  have lt0 : ∀ x ∈ p0, x.block < W.heap.size := by obtain ⟨m, hm⟩ := h0; exact DataW.trod_lt m _ _ _ hm
  have kk0 := h0
  obtain ⟨cs0, rfl, hz0⟩ := okWide_struct Tryz.underlying42 (hval 0 42 v0 rfl rfl)
  rw [E.size42] at hz0
  obtain ⟨w0_0, w0_1, w0_2, w0_3, rfl⟩ := arr4 hz0
  obtain ⟨fuel0, hf0⟩ := h0
  obtain ⟨p0, i0, t0, e0, rfl, rfl, rfl, rfl, qz0⟩ := E.open_entry hf0
  have lt1 : ∀ x ∈ p1, x.block < W.heap.size := by obtain ⟨m, hm⟩ := h1; exact DataW.trod_lt m _ _ _ hm
  have kk1 := h1
  obtain ⟨cs1, rfl, hz1⟩ := okWide_struct Tryz.underlying42 (hval 1 42 v1 rfl rfl)
  rw [E.size42] at hz1
  obtain ⟨w1_0, w1_1, w1_2, w1_3, rfl⟩ := arr4 hz1
  obtain ⟨fuel1, hf1⟩ := h1
  obtain ⟨p1, i1, t1, e1, rfl, rfl, rfl, rfl, qz1⟩ := E.open_entry hf1
  have lt2 : ∀ x ∈ p2, x.block < W.heap.size := by obtain ⟨m, hm⟩ := h2; exact DataW.trod_lt m _ _ _ hm
  have kk2 := h2
  obtain ⟨cs2, rfl, hz2⟩ := okWide_struct Tryz.underlying29 (hval 2 29 v2 rfl rfl)
  rw [E.size29] at hz2
  obtain ⟨w2_0, w2_1, w2_2, w2_3, w2_4, w2_5, w2_6, w2_7, w2_8, w2_9, rfl⟩ := arr10 hz2
  obtain ⟨fuel2, hf2⟩ := h2
  obtain ⟨n2, R2, C2, s2, cl2, A2, k2, se2, A_2, k_2, sa2, f2, o2, c2, rfl, rfl, rfl, rfl, rfl, rfl, rfl, rfl, rfl, rfl, qf2, qs2, qc2, hk2, hC2, qe2, hk2', hC2'⟩ := E.open_issue hf2
  obtain ⟨m, hm⟩ := E.law_IsAhead (p := p0) (i := i0) (t := t0) (e := e0) (p' := p1) (i' := i1) (t' := t1) (e' := e1) (n := n2) (R := R2) (C := C2) (s := s2) (f := f2) (cl := cl2) (se := se2) (sa := sa2) (o := o2) (c := c2) qz0 qz1 qs2 qc2 qe2 qf2
  clear hA0 hval0 hsz0
  refine (E.laws_FnExactIsAhead.calls m p0 i0 t0 e0 p1 i1 t1 e1 n2 R2 C2 s2 A2 k2 cl2 A_2 k_2 se2 sa2 f2 o2 c2 true W hC2 hk2 hC2' hk2' hm).mono fun e_ W' ⟨he, bel⟩ => ?_
  subst he
  exact ⟨_, rfl, _, _, _, [], _, [], hW', trodAll_mk1 (shut_bool Tryz.underlying4 _), (trodAll_cons_mk (Below.trod laidOut (by kernel_rfl) (of_decide_eq_true (by kernel_rfl)) kk0 bel lt0) (trodAll_cons_mk (Below.trod laidOut (by kernel_rfl) (of_decide_eq_true (by kernel_rfl)) kk1 bel lt1) (trodAll_cons_mk (Below.trod laidOut (by kernel_rfl) (of_decide_eq_true (by kernel_rfl)) kk2 bel lt2) trodAll_mk0))), rfl, bel.frame _, fun h => by cases h⟩
theorem over : Rows.fnExactIsAheadRow.holds Tryz.pinned (OpenSpec.ofChange Rows.fnExactIsAheadSpec) :=
  OpenClaim.holds_of_wide 6 Tryz.f6 rfl rfl rfl rfl rfl rfl rfl ⟨rfl, rfl, rfl, rfl, rfl⟩ rfl rfl rfl rfl rfl (by kernel_rfl) Tryz.func6 (by kernel_rfl)
    (of_decide_eq_true (by kernel_rfl)) (by unfold Func.isWrapper; first | (rw [if_pos (by decide +kernel)]; kernel_rfl) | (rw [if_neg (by decide +kernel)]; exact ⟨rfl, rfl⟩))
    (fun os started H enc _ => lifted os started H enc)
theorem proved : Rows.FnExactIsAheadSaid := over
end Go.Proofs.YtpcdfjcbjbkliaaGreat.fnExactIsAhead
namespace Go.Proofs.YtpcdfjcbjbkliaaGreat
theorem fnExactIsAhead_holds : Rows.FnExactIsAheadSaid := fnExactIsAhead.proved
end Go.Proofs.YtpcdfjcbjbkliaaGreat
#print axioms Go.Proofs.YtpcdfjcbjbkliaaGreat.fnExactIsAhead_holds
