/- The law FnExactRightOf holds: for every entry and every issue that are handed in, the call returns true, and each argument reads afterwards as before. Conditions: those of the given row, and no other. -/
import Derived.Test.YtpcdfjcbjbkliaaGreatPo
import Derived.Test.YtpcdfjcbjbkliaaGreatPs
open Go.RowKit Go.Proofs.YtpcdfjcbjbkliaaGreatW.PrintWords Go.Proofs.YtpcdfjcbjbkliaaGreatW.PrintLast Go.Proofs.YtpcdfjcbjbkliaaGreatW.PrintMore
set_option linter.unusedVariables false
set_option linter.unusedSimpArgs false
namespace Go.Proofs.YtpcdfjcbjbkliaaGreat.fnExactRightOf
open Go.ChangeShapes Go.WideShapes Go.ChangeAt Go.RowKit
open Go.ChangeMaps (open_string shut_string)
theorem own : ownKnob Tryz.prog.godebug = none := by kernel_rfl
theorem laidOut : laidOutB Tryz.prog = true := by kernel_rfl
theorem arr4 {cs : Array Value} (h : cs.size = 4) : ∃ v0 v1 v2 v3, cs = #[v0, v1, v2, v3] := by
  obtain ⟨l⟩ := cs
  match l, h with
  | [v0, v1, v2, v3], _ => exact ⟨v0, v1, v2, v3, rfl⟩
theorem arr10 {cs : Array Value} (h : cs.size = 10) : ∃ v0 v1 v2 v3 v4 v5 v6 v7 v8 v9, cs = #[v0, v1, v2, v3, v4, v5, v6, v7, v8, v9] := by
  obtain ⟨l⟩ := cs
  match l, h with
  | [v0, v1, v2, v3, v4, v5, v6, v7, v8, v9], _ => exact ⟨v0, v1, v2, v3, v4, v5, v6, v7, v8, v9, rfl⟩
set_option maxRecDepth 100000 in
theorem lifted (os : Os) (started : os.Started) (H : Type) (enc : TypeId × Value → H) :
    ReturnsInHanded {} Tryz.checked os 5 .any (Rows.fnExactRightOfSpec.pre6 enc Tryz.prog Tryz.f5 Rows.fnExactRightOfRow.domain false) (Rows.fnExactRightOfSpec.post enc Tryz.prog Tryz.f5 false true false false) := by
  refine returnsInHanded_of_change_sized (C := Tryz.checked) own started (by kernel_rfl) Tryz.func5
    (ChangeSpec.witness6 (enc := enc) (C := Tryz.checked) false ⟨#[], #[.agg #[.int .i64 0, .int .i64 0, .int .i64 0, .string ByteArray.empty], .agg #[.int .i64 0, .int .i64 0, .int .i64 0, .string ByteArray.empty, .slice none 0 0, .slice none 0 0, .int .i64 0, .string ByteArray.empty, .int .i64 0, .int .i64 0]], []⟩ 20 (by kernel_rfl) (by kernel_rfl) (by kernel_rfl) (by kernel_rfl)) ?_
  intro W base args ds gs before hval0 hW hcnd hsz0 _
  have hval : ∀ (j : Nat) t v, Tryz.f5.params[j]? = some t → args[j]? = some v → Value.okWide Tryz.prog W .any base t v := hval0
  have hW' := hW
  obtain ⟨p, q, hA0, hV, rfl, hfz, hnd⟩ := hW
  have hA : DataW.TrodAll enc Tryz.prog W 0 (fun _ => true) true Tryz.f5.params.toList args.toList ds p := hA0
  rw [Tryz.params5] at hA hval
  obtain ⟨v0, vs0, d0, ds0, p0, q0, hargs, rfl, rfl, h0, r0⟩ := trodAll_cons hA
  obtain ⟨v1, vs1, d1, ds1, p1, q1, rfl, rfl, rfl, h1, r1⟩ := trodAll_cons r0
  obtain ⟨rfl, rfl, rfl⟩ := trodAll_nil r1
  obtain rfl : args = #[v0, v1] := by cases args; simp_all
  obtain ⟨rfl, rfl⟩ := trodVars_none hV
  have lt0 : ∀ x ∈ p0, x.block < W.heap.size := by obtain ⟨m, hm⟩ := h0; exact DataW.trod_lt m _ _ _ hm
  have kk0 := h0
  obtain ⟨cs0, rfl, hz0⟩ := okWide_struct Tryz.underlying42 (hval 0 42 v0 rfl rfl)
  rw [E.size42] at hz0
  obtain ⟨w0_0, w0_1, w0_2, w0_3, rfl⟩ := arr4 hz0
  obtain ⟨fuel0, hf0⟩ := h0
  obtain ⟨p0, i0, t0, e0, rfl, rfl, rfl, rfl, qz0⟩ := E.open_entry hf0
  have lt1 : ∀ x ∈ p1, x.block < W.heap.size := by obtain ⟨m, hm⟩ := h1; exact DataW.trod_lt m _ _ _ hm
  have kk1 := h1
  obtain ⟨cs1, rfl, hz1⟩ := okWide_struct Tryz.underlying29 (hval 1 29 v1 rfl rfl)
  rw [E.size29] at hz1
  obtain ⟨w1_0, w1_1, w1_2, w1_3, w1_4, w1_5, w1_6, w1_7, w1_8, w1_9, rfl⟩ := arr10 hz1
  obtain ⟨fuel1, hf1⟩ := h1
  obtain ⟨n1, R1, C1, s1, cl1, A1, k1, se1, A_1, k_1, sa1, f1, o1, c1, rfl, rfl, rfl, rfl, rfl, rfl, rfl, rfl, rfl, rfl, qf1, qs1, qc1, hk1, hC1, qe1, hk1', hC1'⟩ := E.open_issue hf1
  obtain ⟨m, hm⟩ := E.law_RightOf (p := p0) (i := i0) (t := t0) (e := e0) (n := n1) (R := R1) (C := C1) (s := s1) (f := f1) (cl := cl1) (se := se1) (sa := sa1) (o := o1) (c := c1) qz0 qs1 qc1 qe1 qf1
  clear hA0 hval0 hsz0
  refine (E.laws_FnExactRightOf.calls m p0 i0 t0 e0 n1 R1 C1 s1 A1 k1 cl1 A_1 k_1 se1 sa1 f1 o1 c1 true W hC1 hk1 hC1' hk1' hm).mono fun e_ W' ⟨he, bel⟩ => ?_
  subst he
  exact ⟨_, rfl, _, _, _, [], _, [], hW', trodAll_mk1 (shut_bool Tryz.underlying4 _), (trodAll_cons_mk (Below.trod laidOut (by kernel_rfl) (of_decide_eq_true (by kernel_rfl)) kk0 bel lt0) (trodAll_cons_mk (Below.trod laidOut (by kernel_rfl) (of_decide_eq_true (by kernel_rfl)) kk1 bel lt1) trodAll_mk0)), rfl, bel.frame _, fun h => by cases h⟩
theorem over : Rows.fnExactRightOfRow.holds Tryz.pinned (OpenSpec.ofChange Rows.fnExactRightOfSpec) :=
  OpenClaim.holds_of_wide 5 Tryz.f5 rfl rfl rfl rfl rfl rfl rfl ⟨rfl, rfl, rfl, rfl, rfl⟩ rfl rfl rfl rfl rfl (by kernel_rfl) Tryz.func5 (by kernel_rfl)
    (of_decide_eq_true (by kernel_rfl)) (by unfold Func.isWrapper; first | (rw [if_pos (by decide +kernel)]; kernel_rfl) | (rw [if_neg (by decide +kernel)]; exact ⟨rfl, rfl⟩))
    (fun os started H enc _ => lifted os started H enc)
theorem proved : Rows.FnExactRightOfSaid := over
end Go.Proofs.YtpcdfjcbjbkliaaGreat.fnExactRightOf
namespace Go.Proofs.YtpcdfjcbjbkliaaGreat
theorem fnExactRightOf_holds : Rows.FnExactRightOfSaid := fnExactRightOf.proved
end Go.Proofs.YtpcdfjcbjbkliaaGreat
#print axioms Go.Proofs.YtpcdfjcbjbkliaaGreat.fnExactRightOf_holds
