/- The law FnExactCorrectedSlots holds: for every issue and every row of corrections and every number that are handed in, the call returns true, and each argument reads afterwards as before. Conditions: those of the given row, and no other. -/
import Derived.Test.YtpcdfjcbjbkliaaGreatPo
import Derived.Test.YtpcdfjcbjbkliaaGreatPb
open Go.RowKit Go.Proofs.YtpcdfjcbjbkliaaGreatW.PrintWords Go.Proofs.YtpcdfjcbjbkliaaGreatW.PrintLast Go.Proofs.YtpcdfjcbjbkliaaGreatW.PrintMore
set_option linter.unusedVariables false
set_option linter.unusedSimpArgs false
namespace Go.Proofs.YtpcdfjcbjbkliaaGreat.fnExactCorrectedSlots
open Go.ChangeShapes Go.WideShapes Go.ChangeAt Go.RowKit
open Go.ChangeMaps (open_string shut_string)
theorem own : ownKnob Tryz.prog.godebug = none := by kernel_rfl
theorem laidOut : laidOutB Tryz.prog = true := by kernel_rfl
theorem arr10 {cs : Array Value} (h : cs.size = 10) : ∃ v0 v1 v2 v3 v4 v5 v6 v7 v8 v9, cs = #[v0, v1, v2, v3, v4, v5, v6, v7, v8, v9] := by
  obtain ⟨l⟩ := cs
  match l, h with
  | [v0, v1, v2, v3, v4, v5, v6, v7, v8, v9], _ => exact ⟨v0, v1, v2, v3, v4, v5, v6, v7, v8, v9, rfl⟩
set_option maxRecDepth 100000 in
theorem lifted (os : Os) (started : os.Started) (H : Type) (enc : TypeId × Value → H) :
    ReturnsInHanded {} Tryz.checked os 7 .any (Rows.fnExactCorrectedSlotsSpec.pre6 enc Tryz.prog Tryz.f7 Rows.fnExactCorrectedSlotsRow.domain false) (Rows.fnExactCorrectedSlotsSpec.post enc Tryz.prog Tryz.f7 false true false false) := by
  refine returnsInHanded_of_change_sized (C := Tryz.checked) own started (by kernel_rfl) Tryz.func7
    (ChangeSpec.witness6 (enc := enc) (C := Tryz.checked) false ⟨#[], #[.agg #[.int .i64 0, .int .i64 0, .int .i64 0, .string ByteArray.empty, .slice none 0 0, .slice none 0 0, .int .i64 0, .string ByteArray.empty, .int .i64 0, .int .i64 0], .slice none 0 0, .int .i64 0], []⟩ 20 (by kernel_rfl) (by kernel_rfl) (by kernel_rfl) (by kernel_rfl)) ?_
  intro W base args ds gs before hval0 hW hcnd hsz0 _
  have hval : ∀ (j : Nat) t v, Tryz.f7.params[j]? = some t → args[j]? = some v → Value.okWide Tryz.prog W .any base t v := hval0
  have hW' := hW
  obtain ⟨p, q, hA0, hV, rfl, hfz, hnd⟩ := hW
  have hA : DataW.TrodAll enc Tryz.prog W 0 (fun _ => true) true Tryz.f7.params.toList args.toList ds p := hA0
  rw [Tryz.params7] at hA hval
  obtain ⟨v0, vs0, d0, ds0, p0, q0, hargs, rfl, rfl, h0, r0⟩ := trodAll_cons hA
  obtain ⟨v1, vs1, d1, ds1, p1, q1, rfl, rfl, rfl, h1, r1⟩ := trodAll_cons r0
  obtain ⟨v2, vs2, d2, ds2, p2, q2, rfl, rfl, rfl, h2, r2⟩ := trodAll_cons r1
  obtain ⟨rfl, rfl, rfl⟩ := trodAll_nil r2
  obtain rfl : args = #[v0, v1, v2] := by cases args; simp_all
  obtain ⟨rfl, rfl⟩ := trodVars_none hV
  have lt0 : ∀ x ∈ p0, x.block < W.heap.size := by obtain ⟨m, hm⟩ := h0; exact DataW.trod_lt m _ _ _ hm
  have kk0 := h0
  obtain ⟨cs0, rfl, hz0⟩ := okWide_struct Tryz.underlying29 (hval 0 29 v0 rfl rfl)
  rw [E.size29] at hz0
  obtain ⟨w0_0, w0_1, w0_2, w0_3, w0_4, w0_5, w0_6, w0_7, w0_8, w0_9, rfl⟩ := arr10 hz0
  obtain ⟨fuel0, hf0⟩ := h0
  obtain ⟨n0, R0, C0, s0, cl0, A0, k0, se0, A_0, k_0, sa0, f0, o0, c0, rfl, rfl, rfl, rfl, rfl, rfl, rfl, rfl, rfl, rfl, qf0, qs0, qc0, hk0, hC0, qe0, hk0', hC0'⟩ := E.open_issue hf0
  have lt1 : ∀ x ∈ p1, x.block < W.heap.size := by obtain ⟨m, hm⟩ := h1; exact DataW.trod_lt m _ _ _ hm
  have kk1 := h1
  obtain ⟨a1, len1, cp1, rfl⟩ := okWide_slice Tryz.underlying51 (hval 1 51 v1 rfl rfl)
  obtain ⟨fuel1, hf1⟩ := h1
  obtain ⟨q1, ⟨A1, c1, eq1, hk1, hC1⟩, qq1⟩ := E.op_cors H enc W _ _ _ hf1
  obtain ⟨rfl, rfl, rfl⟩ := Value.slice.inj (List.cons.inj (show [Value.slice a1 len1 cp1] = [.slice A1 q1.length c1] from eq1)).1
  have lt2 : ∀ x ∈ p2, x.block < W.heap.size := by obtain ⟨m, hm⟩ := h2; exact DataW.trod_lt m _ _ _ hm
  have kk2 := h2
  obtain ⟨tk2, rfl⟩ := okWide_int Tryz.underlying3 (hval 2 3 v2 rfl rfl)
  obtain ⟨m, hm⟩ := E.law_CorrectedSlots (n := n0) (R := R0) (C := C0) (s := s0) (f := f0) (cl := cl0) (se := se0) (sa := sa0) (o := o0) (c := c0) (q := q1) (tk := tk2) qs0 qc0 qe0 qf0 qq1
  clear hA0 hval0 hsz0
  refine (E.laws_FnExactCorrectedSlots.calls m n0 R0 C0 s0 A0 k0 cl0 A_0 k_0 se0 sa0 f0 o0 c0 _ _ q1 tk2 W hC0 hk0 hC0' hk0' hC1 hk1 hm).mono fun e_ W' ⟨he, bel⟩ => ?_
  subst he
  exact ⟨_, rfl, _, _, _, [], _, [], hW', trodAll_mk1 (shut_bool Tryz.underlying4 _), (trodAll_cons_mk (Below.trod laidOut (by kernel_rfl) (of_decide_eq_true (by kernel_rfl)) kk0 bel lt0) (trodAll_cons_mk (Below.trod laidOut (by kernel_rfl) (of_decide_eq_true (by kernel_rfl)) kk1 bel lt1) (trodAll_cons_mk (Below.trod laidOut (by kernel_rfl) (of_decide_eq_true (by kernel_rfl)) kk2 bel lt2) trodAll_mk0))), rfl, bel.frame _, fun h => by cases h⟩
theorem over : Rows.fnExactCorrectedSlotsRow.holds Tryz.pinned (OpenSpec.ofChange Rows.fnExactCorrectedSlotsSpec) :=
  OpenClaim.holds_of_wide 7 Tryz.f7 rfl rfl rfl rfl rfl rfl rfl ⟨rfl, rfl, rfl, rfl, rfl⟩ rfl rfl rfl rfl rfl (by kernel_rfl) Tryz.func7 (by kernel_rfl)
    (of_decide_eq_true (by kernel_rfl)) (by unfold Func.isWrapper; first | (rw [if_pos (by decide +kernel)]; kernel_rfl) | (rw [if_neg (by decide +kernel)]; exact ⟨rfl, rfl⟩))
    (fun os started H enc _ => lifted os started H enc)
theorem proved : Rows.FnExactCorrectedSlotsSaid := over
end Go.Proofs.YtpcdfjcbjbkliaaGreat.fnExactCorrectedSlots
namespace Go.Proofs.YtpcdfjcbjbkliaaGreat
theorem fnExactCorrectedSlots_holds : Rows.FnExactCorrectedSlotsSaid := fnExactCorrectedSlots.proved
end Go.Proofs.YtpcdfjcbjbkliaaGreat
#print axioms Go.Proofs.YtpcdfjcbjbkliaaGreat.fnExactCorrectedSlots_holds
