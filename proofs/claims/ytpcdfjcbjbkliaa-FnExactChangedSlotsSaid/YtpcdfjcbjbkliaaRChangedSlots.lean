/- The law FnExactChangedSlots holds: for every draft and every draft that are handed in, the call returns true, and each argument reads afterwards as before. Conditions: those of the given row, and no other. -/
import Derived.Test.YtpcdfjcbjbkliaaPo
import Derived.Test.YtpcdfjcbjbkliaaPx
open Go.RowKit Go.Proofs.YtpcdfjcbjbkliaaW.PrintWords Go.Proofs.YtpcdfjcbjbkliaaW.PrintLast Go.Proofs.YtpcdfjcbjbkliaaW.PrintMore
set_option linter.unusedVariables false
set_option linter.unusedSimpArgs false
namespace Go.Proofs.Ytpcdfjcbjbkliaa.fnExactChangedSlots
open Go.ChangeShapes Go.WideShapes Go.ChangeAt Go.RowKit
open Go.ChangeMaps (open_string shut_string)
theorem own : ownKnob Try.prog.godebug = none := by kernel_rfl
theorem laidOut : laidOutB Try.prog = true := by kernel_rfl
theorem arr6 {cs : Array Value} (h : cs.size = 6) : ∃ v0 v1 v2 v3 v4 v5, cs = #[v0, v1, v2, v3, v4, v5] := by
  obtain ⟨l⟩ := cs
  match l, h with
  | [v0, v1, v2, v3, v4, v5], _ => exact ⟨v0, v1, v2, v3, v4, v5, rfl⟩
set_option maxRecDepth 100000 in
theorem lifted (os : Os) (started : os.Started) (H : Type) (enc : TypeId × Value → H) :
    ReturnsInHanded {} Try.checked os 3 .any (Rows.fnExactChangedSlotsSpec.pre6 enc Try.prog Try.f3 Rows.fnExactChangedSlotsRow.domain false) (Rows.fnExactChangedSlotsSpec.post enc Try.prog Try.f3 false true false false) := by
  refine returnsInHanded_of_change_sized (C := Try.checked) own started (by kernel_rfl) Try.func3
    (ChangeSpec.witness6 (enc := enc) (C := Try.checked) false ⟨#[], #[.agg #[.int .i64 0, .int .i64 0, .string ByteArray.empty, .string ByteArray.empty, .slice none 0 0, .int .i64 0], .agg #[.int .i64 0, .int .i64 0, .string ByteArray.empty, .string ByteArray.empty, .slice none 0 0, .int .i64 0]], []⟩ 20 (by kernel_rfl) (by kernel_rfl) (by kernel_rfl) (by kernel_rfl)) ?_
  intro W base args ds gs before hval0 hW hcnd hsz0 _
  have hval : ∀ (j : Nat) t v, Try.f3.params[j]? = some t → args[j]? = some v → Value.okWide Try.prog W .any base t v := hval0
  have hW' := hW
  obtain ⟨p, q, hA0, hV, rfl, hfz, hnd⟩ := hW
  have hA : DataW.TrodAll enc Try.prog W 0 (fun _ => true) true Try.f3.params.toList args.toList ds p := hA0
  rw [Try.params3] at hA hval
  obtain ⟨v0, vs0, d0, ds0, p0, q0, hargs, rfl, rfl, h0, r0⟩ := trodAll_cons hA
  obtain ⟨v1, vs1, d1, ds1, p1, q1, rfl, rfl, rfl, h1, r1⟩ := trodAll_cons r0
  obtain ⟨rfl, rfl, rfl⟩ := trodAll_nil r1
  obtain rfl : args = #[v0, v1] := by cases args; simp_all
  obtain ⟨rfl, rfl⟩ := trodVars_none hV
  have lt0 : ∀ x ∈ p0, x.block < W.heap.size := by obtain ⟨m, hm⟩ := h0; exact DataW.trod_lt m _ _ _ hm
  have kk0 := h0
  obtain ⟨cs0, rfl, hz0⟩ := okWide_struct Try.underlying26 (hval 0 26 v0 rfl rfl)
  rw [E.size26] at hz0
  obtain ⟨w0_0, w0_1, w0_2, w0_3, w0_4, w0_5, rfl⟩ := arr6 hz0
  obtain ⟨fuel0, hf0⟩ := h0
  obtain ⟨R0, C0, s0, f0, A0, c0, l0, n0, rfl, rfl, rfl, rfl, rfl, rfl, qs0, qf0, qc0, hk0, hC0⟩ := E.open_draft hf0
  have lt1 : ∀ x ∈ p1, x.block < W.heap.size := by obtain ⟨m, hm⟩ := h1; exact DataW.trod_lt m _ _ _ hm
  have kk1 := h1
  obtain ⟨cs1, rfl, hz1⟩ := okWide_struct Try.underlying26 (hval 1 26 v1 rfl rfl)
  rw [E.size26] at hz1
  obtain ⟨w1_0, w1_1, w1_2, w1_3, w1_4, w1_5, rfl⟩ := arr6 hz1
  obtain ⟨fuel1, hf1⟩ := h1
  obtain ⟨R1, C1, s1, f1, A1, c1, l1, n1, rfl, rfl, rfl, rfl, rfl, rfl, qs1, qf1, qc1, hk1, hC1⟩ := E.open_draft hf1
  obtain ⟨m, hm⟩ := E.law_ChangedSlots (R := R0) (C := C0) (n := n0) (s := s0) (f := f0) (l := l0) (R' := R1) (C' := C1) (n' := n1) (s' := s1) (f' := f1) (l' := l1)  qs0 qf0 qc0 qs1 qf1 qc1
  clear hA0 hval0 hsz0
  refine (E.laws_FnExactChangedSlots.calls m R0 C0 s0 f0 A0 c0 l0 n0 R1 C1 s1 f1 A1 c1 l1 n1 W hC0 hk0 hC1 hk1 hm).mono fun e_ W' ⟨he, bel⟩ => ?_
  subst he
  exact ⟨_, rfl, _, _, _, [], _, [], hW', trodAll_mk1 (shut_bool Try.underlying4 _), (trodAll_cons_mk (Below.trod laidOut (by kernel_rfl) (of_decide_eq_true (by kernel_rfl)) kk0 bel lt0) (trodAll_cons_mk (Below.trod laidOut (by kernel_rfl) (of_decide_eq_true (by kernel_rfl)) kk1 bel lt1) trodAll_mk0)), rfl, bel.frame _, fun h => by cases h⟩
theorem over : Rows.fnExactChangedSlotsRow.holds Try.pinned (OpenSpec.ofChange Rows.fnExactChangedSlotsSpec) :=
  OpenClaim.holds_of_wide 3 Try.f3 rfl rfl rfl rfl rfl rfl rfl ⟨rfl, rfl, rfl, rfl, rfl⟩ rfl rfl rfl rfl rfl (by kernel_rfl) Try.func3 (by kernel_rfl)
    (of_decide_eq_true (by kernel_rfl)) (by unfold Func.isWrapper; first | (rw [if_pos (by decide +kernel)]; kernel_rfl) | (rw [if_neg (by decide +kernel)]; exact ⟨rfl, rfl⟩))
    (fun os started H enc _ => lifted os started H enc)
theorem proved : Rows.FnExactChangedSlotsSaid := over
end Go.Proofs.Ytpcdfjcbjbkliaa.fnExactChangedSlots
namespace Go.Proofs.Ytpcdfjcbjbkliaa
theorem fnExactChangedSlots_holds : Rows.FnExactChangedSlotsSaid := fnExactChangedSlots.proved
end Go.Proofs.Ytpcdfjcbjbkliaa
#print axioms Go.Proofs.Ytpcdfjcbjbkliaa.fnExactChangedSlots_holds
