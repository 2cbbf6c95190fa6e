/- The law FnExactIsIssue holds: for every issue that is handed in, the call returns true, and each argument reads afterwards as before. Conditions: those of the given row, and no other. -/
import Derived.Test.YtpcdfjcbjbkliaaGreatPo
import Derived.Test.YtpcdfjcbjbkliaaGreatPm
open Go.RowKit Go.Proofs.YtpcdfjcbjbkliaaGreatW.PrintWords Go.Proofs.YtpcdfjcbjbkliaaGreatW.PrintLast Go.Proofs.YtpcdfjcbjbkliaaGreatW.PrintMore
set_option linter.unusedVariables false
set_option linter.unusedSimpArgs false
namespace Go.Proofs.YtpcdfjcbjbkliaaGreat.fnExactIsIssue
open Go.ChangeShapes Go.WideShapes Go.ChangeAt Go.RowKit
open Go.ChangeMaps (open_string shut_string)
theorem own : ownKnob Tryz.prog.godebug = none := by kernel_rfl
theorem laidOut : laidOutB Tryz.prog = true := by kernel_rfl
theorem arr10 {cs : Array Value} (h : cs.size = 10) : ∃ v0 v1 v2 v3 v4 v5 v6 v7 v8 v9, cs = #[v0, v1, v2, v3, v4, v5, v6, v7, v8, v9] := by
  obtain ⟨l⟩ := cs
  match l, h with
  | [v0, v1, v2, v3, v4, v5, v6, v7, v8, v9], _ => exact ⟨v0, v1, v2, v3, v4, v5, v6, v7, v8, v9, rfl⟩
set_option maxRecDepth 100000 in
theorem lifted (os : Os) (started : os.Started) (H : Type) (enc : TypeId × Value → H) :
    ReturnsInHanded {} Tryz.checked os 3 .any (Rows.fnExactIsIssueSpec.pre6 enc Tryz.prog Tryz.f3 Rows.fnExactIsIssueRow.domain false) (Rows.fnExactIsIssueSpec.post enc Tryz.prog Tryz.f3 false true false false) := by
  refine returnsInHanded_of_change_sized (C := Tryz.checked) own started (by kernel_rfl) Tryz.func3
    (ChangeSpec.witness6 (enc := enc) (C := Tryz.checked) false ⟨#[], #[.agg #[.int .i64 0, .int .i64 0, .int .i64 0, .string ByteArray.empty, .slice none 0 0, .slice none 0 0, .int .i64 0, .string ByteArray.empty, .int .i64 0, .int .i64 0]], []⟩ 20 (by kernel_rfl) (by kernel_rfl) (by kernel_rfl) (by kernel_rfl)) ?_
  intro W base args ds gs before hval0 hW hcnd hsz0 _
  have hval : ∀ (j : Nat) t v, Tryz.f3.params[j]? = some t → args[j]? = some v → Value.okWide Tryz.prog W .any base t v := hval0
  have hW' := hW
  obtain ⟨p, q, hA0, hV, rfl, hfz, hnd⟩ := hW
  have hA : DataW.TrodAll enc Tryz.prog W 0 (fun _ => true) true Tryz.f3.params.toList args.toList ds p := hA0
  rw [Tryz.params3] at hA hval
  obtain ⟨v0, vs0, d0, ds0, p0, q0, hargs, rfl, rfl, h0, r0⟩ := trodAll_cons hA
  obtain ⟨rfl, rfl, rfl⟩ := trodAll_nil r0
  obtain rfl : args = #[v0] := by cases args; simp_all
  obtain ⟨rfl, rfl⟩ := trodVars_none hV
  have lt0 : ∀ x ∈ p0, x.block < W.heap.size := by obtain ⟨m, hm⟩ := h0; exact DataW.trod_lt m _ _ _ hm
  have kk0 := h0
  obtain ⟨cs0, rfl, hz0⟩ := okWide_struct Tryz.underlying29 (hval 0 29 v0 rfl rfl)
  rw [E.size29] at hz0
  obtain ⟨w0_0, w0_1, w0_2, w0_3, w0_4, w0_5, w0_6, w0_7, w0_8, w0_9, rfl⟩ := arr10 hz0
  obtain ⟨fuel0, hf0⟩ := h0
  obtain ⟨n0, R0, C0, s0, cl0, A0, k0, se0, A_0, k_0, sa0, f0, o0, c0, rfl, rfl, rfl, rfl, rfl, rfl, rfl, rfl, rfl, rfl, qf0, qs0, qc0, hk0, hC0, qe0, hk0', hC0'⟩ := E.open_issue hf0
  obtain ⟨m, hm⟩ := E.law_IsIssue (n := n0) (R := R0) (C := C0) (s := s0) (f := f0) (cl := cl0) (se := se0) (sa := sa0) (o := o0) (c := c0) qs0 qc0 qe0 qf0
  clear hA0 hval0 hsz0
  refine (E.laws_FnExactIsIssue.calls m n0 R0 C0 s0 A0 k0 cl0 A_0 k_0 se0 sa0 f0 o0 c0 true W hC0 hk0 hC0' hk0' hm).mono fun e_ W' ⟨he, bel⟩ => ?_
  subst he
  exact ⟨_, rfl, _, _, _, [], _, [], hW', trodAll_mk1 (shut_bool Tryz.underlying4 _), (trodAll_cons_mk (Below.trod laidOut (by kernel_rfl) (of_decide_eq_true (by kernel_rfl)) kk0 bel lt0) trodAll_mk0), rfl, bel.frame _, fun h => by cases h⟩
theorem over : Rows.fnExactIsIssueRow.holds Tryz.pinned (OpenSpec.ofChange Rows.fnExactIsIssueSpec) :=
  OpenClaim.holds_of_wide 3 Tryz.f3 rfl rfl rfl rfl rfl rfl rfl ⟨rfl, rfl, rfl, rfl, rfl⟩ rfl rfl rfl rfl rfl (by kernel_rfl) Tryz.func3 (by kernel_rfl)
    (of_decide_eq_true (by kernel_rfl)) (by unfold Func.isWrapper; first | (rw [if_pos (by decide +kernel)]; kernel_rfl) | (rw [if_neg (by decide +kernel)]; exact ⟨rfl, rfl⟩))
    (fun os started H enc _ => lifted os started H enc)
theorem proved : Rows.FnExactIsIssueSaid := over
end Go.Proofs.YtpcdfjcbjbkliaaGreat.fnExactIsIssue
namespace Go.Proofs.YtpcdfjcbjbkliaaGreat
theorem fnExactIsIssue_holds : Rows.FnExactIsIssueSaid := fnExactIsIssue.proved
end Go.Proofs.YtpcdfjcbjbkliaaGreat
#print axioms Go.Proofs.YtpcdfjcbjbkliaaGreat.fnExactIsIssue_holds
