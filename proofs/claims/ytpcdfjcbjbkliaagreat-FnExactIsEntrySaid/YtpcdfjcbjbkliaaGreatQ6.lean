import Derived.Test.YtpcdfjcbjbkliaaGreatSq
import Derived.Test.YtpcdfjcbjbkliaaGreatQ0
import Derived.Test.YtpcdfjcbjbkliaaGreatQ2
import Derived.Test.YtpcdfjcbjbkliaaGreatQ3
import Derived.Test.YtpcdfjcbjbkliaaGreatQ5
namespace Go.Proofs.YtpcdfjcbjbkliaaGreat.E
open Go.RowKit Go.Proofs.YtpcdfjcbjbkliaaGreatW.PrintWords Go.Proofs.YtpcdfjcbjbkliaaGreatW.PrintLast Go.Proofs.YtpcdfjcbjbkliaaGreatW.PrintMore
attribute [local go_sem] max2_int min2_int max_two min_two max_three min_three max_four min_four
set_option linter.unusedVariables false
set_option linter.unusedSimpArgs false

attribute [local go_sem high] eqA132
/-! ### spec_SealAnswer: function 114 -/
def spec_SealAnswer.f (k : Nat) (a0 : Int) (a1 : Int) (a2 : ByteArray) : Option (Int) := (spec_IsWord.f k a2).bind fun t147 => (if t147 = true then ((some (([a0, a1, (a2.size : Int)] : List Int) : List Int)).bind fun y148 => ((spec_LettersOf.f k a2).bind fun t151 => (if y148.length + t151.length < 17592186044416 then ((spec_Hash.f k (y148 ++ t151)).bind fun t157 => (some t157)) else (none)))) else (some 0))
set_option maxHeartbeats 8000000 in
set_option maxRecDepth 100000 in
theorem spec_SealAnswer.calls (k : Nat) (a0 : Int) (a1 : Int) (a2 : ByteArray) (r : Int) (w : World) (H : spec_SealAnswer.f k a0 a1 a2 = some r) :
  Calls Tryz.prog 114 #[.int .i64 a0, .int .i64 a1, .string a2] w fun e w' => e = .returned (.int .i64 r) ∧ Below w.heap.size w w' := by
 have HB := Aside0.mk (Below.refl w.heap.size w)
 unfold spec_SealAnswer.f at H
 replace H := zs H
 obtain ⟨t147, A4, H⟩ := H
 replace H := zb H
 rcases H with ⟨rfl, H⟩ | ⟨rfl, H⟩
 ·
  replace H := zy H
  obtain ⟨y148, Ny148, H⟩ := H
  replace H := zs H
  obtain ⟨t151, A6, H⟩ := H
  replace H := zl H
  obtain ⟨LMc7, H⟩ := H
  generalize hy154 : (y148 ++ t151 : List Int) = y154 at H
  have Ny154 := Aside0.mk hy154.symm
  clear hy154
  replace H := zs H
  obtain ⟨t157, A8, H⟩ := H
  obtain rfl := Option.some.inj H
  go_enter Tryz.func114, Tryz.ntmps114
  go_wp2_with (first | ((with_reducible refine zd 8 rfl ?_); refine zgl Tryz.func113 (spec_IsWord.calls k a2 true _ A4.out) ?_; rintro e w' ⟨rfl, ⟨nd, rfl⟩⟩; refine ⟨_, rfl, ?_⟩) | ((with_reducible refine gate_dst (N := 14) rfl ?_); refine Kd.R_lit (Kd.int .i64) _ 3 ?hg (N := 14) ?hd (xs := ([a0, a1, (a2.size : Int)] : List Int)) (inner := [.int .i64 a0, .int .i64 a1, .int .i64 (a2.size : Int)]) (ok := fun _ => True) (okp := fun _ => True) ?hr ?hp (fun _ hk => hk) trivial (Below.refl _ _) (Nat.le_refl _) (by simp) ?_; (case hd => rfl); (case hg => rfl); (case hr => first | (go_simp; done) | (go_simp; rfl)); (case hp => exact (Reps.one (show Kd.M (Kd.int .i64) _ _ _ a0 [.int .i64 a0] from rfl) (Reps.one (show Kd.M (Kd.int .i64) _ _ _ a1 [.int .i64 a1] from rfl) (Reps.one (show Kd.M (Kd.int .i64) _ _ _ (a2.size : Int) [.int .i64 (a2.size : Int)] from rfl) (Reps.none _ _))))); intro v149 w9 ho10 hb hg_ hnew_; clear hg_ hnew_; (first | rw [← Ny148.out] at ho10 | (simp only [Int.reduceToNat] at ho10; rw [← Ny148.out] at ho10)); have HO150 := zl2 ho10; replace HB := zB hb; clear hb ho10) | ((with_reducible refine zd 16 rfl ?_); refine zgl Tryz.func139 (spec_LettersOf.calls k a2 t151 _ A6.out) ?_; rintro e w11 ⟨v152, rfl, ho0, hb⟩; refine ⟨_, rfl, ?_⟩; have HO153 := Aside0.mk (Kd.R_lower (Kd.R_new' ho0 (Kd.R_lt (kr HO150))) bsz); replace HO150 := Aside0.mk (Kd.R_elder' (kr HO150) (Kd.R_base ho0) hb); replace HB := zB hb; obtain ⟨Ao13, co13, eo13⟩ := Kd.R_slice HO153.out; subst eo13) | ((with_reducible refine gate_builtin (b := .append) (xs := #[.tmp 14, .tmp 16]) rfl ?_); at_builtin; refine Kd.R_append_rows (Kd.int .i64) (w0 := w) w.heap.size rfl (.tmp 14) (.tmp 16) 25 3 (.int .i64 0) 8 rfl Tryz.underlying25 info3 rfl (by decide) (by omega) v149 y148 t151 _ _ _ (fun k_ => some k_ ≠ (.slice Ao13 t151.length co13 : Value).ownBlock) (fun _ => False) rfl rfl ?aO ?aR (fun _ _ h => h) (fun _ h => h.elim) ?aF ?aB ?aS ?aL ?_; (case aR => repeat (first | exact (Kd.R_reads' HO153.out).2.2 | (with_reducible refine Kd.C_alloc ?_ _) | (with_reducible refine Kd.C_drewN ?_ _) | (with_reducible refine Kd.C_drew ?_))); (case aB => exact bel); (case aF => exact (fun k_ hk => Kd.fresh' (Kd.R_lt (kr HO153)) k_ hk)); (case aO => exact (by (with_reducible repeat (first | apply Kd.R_alloc | apply Kd.R_drewN | apply Kd.R_drew)); exact Kd.R_mono HO150.out (fun _ hk => hk.2))); (case aS => exact bsz); (case aL => have := LMc7.out; omega); intro v155 w12 ho hb hg hat; rw [← Ny154.out] at ho; replace HO153 := Aside0.mk (Kd.R_after (ok := (fun _ => True)) (kr HO153) hg hat); replace HB := Aside0.mk hb; have HO156 := Aside0.mk ho; clear HO150; clear ho hb hg hat; obtain ⟨Ao14, co14, eo14⟩ := Kd.R_slice HO156.out; subst eo14) | ((with_reducible refine zd 18 rfl ?_); refine zgl Tryz.func138 (spec_Hash.calls k _ _ y154 t157 _ (zCr HO156) ((Kd.R_reads' HO156.out).2.1) A8.out) ?_; rintro e w' ⟨rfl, ⟨nd, rfl⟩⟩; refine ⟨_, rfl, ?_⟩))
  go_ret
  exact ⟨er, bel⟩
 ·
  obtain rfl := Option.some.inj H
  go_enter Tryz.func114, Tryz.ntmps114
  go_wp2_with (first | ((with_reducible refine zd 8 rfl ?_); refine zgl Tryz.func113 (spec_IsWord.calls k a2 false _ A4.out) ?_; rintro e w' ⟨rfl, ⟨nd, rfl⟩⟩; refine ⟨_, rfl, ?_⟩))
  go_ret
  exact ⟨er, bel⟩

/-! ### spec_ChecksAnswer: function 88 -/
def spec_ChecksAnswer.f (k : Nat) (l0 : List Int) (a1 : Int) (a2 : Int) (a3 : ByteArray) : Option (Bool) := (spec_l1In.f a2 0 (wrap64 ((l0.length : Int) - 1))).bind fun t158 => (if t158 = true then ((spec_IsWord.f k a3).bind fun t159 => (if t159 = true then ((spec_SealAnswer.f k a1 a2 a3).bind fun t160 => (if 0 ≤ a2 then (if a2 < (l0.length : Int) then (some (t160 == (rd l0 a2))) else (none)) else (none))) else (some false))) else (some false))
def spec_ChecksAnswer.T1 : Bool × List (List Nat × List Nat) := (true, [([], []), ([], []), ([1], [1]), ([2], [2]), ([0, 3], [0, 3]), ([4, 4], [4]), ([5], [5]), ([6, 5, 5], [5, 6]), ([5, 7], [5, 7]), ([8, 7], [8]), ([9], [9]), ([9], [9]), ([9], [9]), ([10, 11, 12, 9, 9], [9, 10, 11, 12]), ([9], [9]), ([9], [9]), ([14, 15, 9], [9, 14, 15]), ([16, 9], [9, 16]), ([13, 17, 9], [9, 13, 17]), ([9, 18], [9, 18]), ([19, 13, 0, 1, 2, 3, 4, 5, 6, 7, 8, 9, 10, 11, 12, 13, 14, 15, 16, 17, 18, 19], [19])])
def spec_ChecksAnswer.B1 : List Nat := [0, 0, 2, 6, 15, 31, 63, 127, 255, 511, 1023, 1023, 1023, 8191, 1023, 1023, 50175, 115711, 262143, 524287, 1048575]
theorem spec_ChecksAnswer.tab1 : rtab .any (opsOf Tryz.f88 1) = spec_ChecksAnswer.T1 := by kernel_rfl
theorem spec_ChecksAnswer.bits1 : waitsOk spec_ChecksAnswer.T1.2 spec_ChecksAnswer.B1 = true := by kernel_rfl
set_option maxHeartbeats 8000000 in
set_option maxRecDepth 100000 in
theorem spec_ChecksAnswer.calls (k : Nat) (A0 : Option Addr) (c0 : Nat) (l0 : List Int) (a1 : Int) (a2 : Int) (a3 : ByteArray) (r : Bool) (w : World) (hr0 : Kd.C (Kd.int .i64) w A0 l0.length l0) (hc0 : l0.length ≤ c0) (H : spec_ChecksAnswer.f k l0 a1 a2 a3 = some r) :
  Calls Tryz.prog 88 #[.slice A0 l0.length c0, .int .i64 a1, .int .i64 a2, .string a3] w fun e w' => e = .returned (.bool r) ∧ Below w.heap.size w w' := by
 have HR0 := Aside0.mk hr0
 have HC0 := Aside0.mk hc0
 clear hr0 hc0
 have HB := Aside0.mk (Below.refl w.heap.size w)
 unfold spec_ChecksAnswer.f at H
 replace H := zs H
 obtain ⟨t158, A5, H⟩ := H
 replace H := zb H
 rcases H with ⟨rfl, H⟩ | ⟨rfl, H⟩
 ·
  replace H := zs H
  obtain ⟨t159, A7, H⟩ := H
  replace H := zb H
  rcases H with ⟨rfl, H⟩ | ⟨rfl, H⟩
  ·
   replace H := zs H
   obtain ⟨t160, A9, H⟩ := H
   replace H := zr H
   obtain ⟨c10b0, H⟩ := H
   replace H := zr H
   obtain ⟨c11b0, H⟩ := H
   obtain rfl := Option.some.inj H
   go_enter Tryz.func88, Tryz.ntmps88
   try go_wp2
   replace HB := zBd HB
   obtain ⟨p161, q161, ad161, e161, hx161_0⟩ := zx (Kd.at_int HR0.out a2)
   have hw161_0 := hx161_0
   cases e161
   replace hx161_0 := zh HB hx161_0
   refine start_ (n := 21) (S := fun w' => w'.cell? (ad161.add (a2).toNat) = some (.int .i64 (rd l0 a2))) (ds := []) #[false, false, false, false, false, false, false, false, false, false, false, false, false, false, false, false, false, false, false, false, false] (by kernel_rfl) rfl rfl (((HB.out.cell (World.block_lt_of_cell? w _ hw161_0)).trans hw161_0)) (fun hHeld => ?_); refine with_tabW spec_ChecksAnswer.tab1 spec_ChecksAnswer.bits1 (fun HT_ HW_ => ?_)
   generalize w.drew = w12 at HB hx161_0 hHeld ⊢
   refine pu 0 (some 9) (bA 21 1) (ao HT_) ?_
   refine pu 1 (some 10) (bA 21 3) (ao HT_) ?_
   refine pu 2 (some 11) (bA 21 7) (ao HT_) ?_
   refine pu 3 (some 12) (bA 21 15) (ao HT_) ?_
   refine one_ (i := 4) (N := some 13) (bA 21 31) rfl rfl (one_of HT_.out (by kernel_rfl)) (by decide) (fun K hK => ?_)
   refine goes_ Tryz.func45 (by kernel_rfl) rfl #[.int .i64 a2, .int .i64 0, .int .i64 (wrap64 ((l0.length : Int) - 1))] (by rfl) rfl rfl ga ?_
   with_reducible refine (spec_l1In.calls a2 0 (wrap64 ((l0.length : Int) - 1)) true _ A5.out).mono ?_
   rintro e w' ⟨rfl, ⟨nd, rfl⟩⟩
   refine ⟨_, rfl, ?_⟩
   refine hK.out _ _ (((HB.out.cell (World.block_lt_of_cell? w _ hw161_0)).trans hw161_0)) (fun hHeld => ?_)
   clear hK K
   refine norm_ (a' := ?_) ?_ ?_
   rotate_left
   ·
    show Act.put _ (some 13) _ = _
    simp only [Act.put, List.setIfInBounds_toArray, List.set_cons_zero, List.set_cons_succ, i64_w, i32_w]
    rfl
   refine pu 5 (some 14) (bA 21 63) (ao HT_) ?_
   refine pu 6 (some 15) (bA 21 127) (ao HT_) ?_
   refine one_ (i := 7) (N := some 16) (bA 21 255) rfl rfl (one_of HT_.out (by kernel_rfl)) (by decide) (fun K hK => ?_)
   refine goes_ Tryz.func113 (by kernel_rfl) rfl #[.string a3] (by rfl) rfl rfl ga ?_
   with_reducible refine (spec_IsWord.calls k a3 true _ A7.out).mono ?_
   rintro e w' ⟨rfl, ⟨nd, rfl⟩⟩
   refine ⟨_, rfl, ?_⟩
   refine hK.out _ _ (((HB.out.cell (World.block_lt_of_cell? w _ hw161_0)).trans hw161_0)) (fun hHeld => ?_)
   clear hK K
   refine norm_ (a' := ?_) ?_ ?_
   rotate_left
   ·
    show Act.put _ (some 16) _ = _
    simp only [Act.put, List.setIfInBounds_toArray, List.set_cons_zero, List.set_cons_succ, i64_w, i32_w]
    rfl
   refine pu 8 (some 17) (bA 21 511) (ao HT_) ?_
   refine pu 9 (some 18) (bA 21 1023) (ao HT_) ?_
   refine pu 10 (some 19) (bA 21 2047) (ao HT_) ?_
   refine pu 11 (some 20) (bA 21 4095) (ao HT_) ?_
   refine pu 12 (some 21) (bA 21 8191) (ao HT_) ?_
   refine pu 14 (some 23) (bA 21 24575) (ao HT_) ?_
   refine pu 15 (some 24) (bA 21 57343) (ao HT_) ?_
   refine pu 16 (some 25) (bA 21 122879) (ao HT_) ?_
   refine take_ (i := 17) (N := some 26) (v := ?_) (a' := ?_) #[true, true, true, true, true, true, true, true, true, true, true, true, true, false, true, true, true, true, false, false, false] rfl rfl (take_ofW HT_.out HW_.out (by kernel_rfl)) (fun _ _ _ h => h) (Or.inl ⟨by rfl, ?_⟩) hHeld ?_ ?_
   rotate_left
   ·
    intro w' s0
    go_simp
    with_reducible rfl
   rotate_left
   ·
    simp only [Act.put, List.setIfInBounds_toArray, List.set_cons_zero, List.set_cons_succ, i64_w, i32_w]
    rfl
   refine one_ (i := 13) (N := some 22) (bA 21 262143) rfl rfl (one_of HT_.out (by kernel_rfl)) (by decide) (fun K hK => ?_)
   refine goes_ Tryz.func114 (by kernel_rfl) rfl #[.int .i64 a1, .int .i64 a2, .string a3] (by rfl) rfl rfl ga ?_
   with_reducible refine (spec_SealAnswer.calls k a1 a2 a3 t160 _ A9.out).mono ?_
   rintro e w13 ⟨rfl, hb⟩
   refine ⟨_, rfl, ?_⟩
   replace HB := zB hb
   (try clear hb)
   (try clear hb2)
   (try clear hk)
   (try clear hi)
   refine hK.out _ _ (((HB.out.cell (World.block_lt_of_cell? w _ hw161_0)).trans hw161_0)) (fun hHeld => ?_)
   clear hK K
   refine norm_ (a' := ?_) ?_ ?_
   rotate_left
   ·
    show Act.put _ (some 22) _ = _
    simp only [Act.put, List.setIfInBounds_toArray, List.set_cons_zero, List.set_cons_succ, i64_w, i32_w]
    rfl
   refine pu 18 (some 27) (bA 21 524287) (ao HT_) ?_
   refine pu 19 (some 28) (bA 21 1048575) (ao HT_) ?_
   refine pu 20 (some 8) (bA 21 2097151) (ao HT_) ?_
   refine done_ (done_of HT_.out (by kernel_rfl)) ?_
   try go_wp2
   go_ret
   exact ⟨er, bel⟩
  ·
   obtain rfl := Option.some.inj H
   go_enter Tryz.func88, Tryz.ntmps88
   try go_wp2
   replace HB := zBd HB
   refine start_ (n := 21) (S := fun w' => True) (ds := []) #[false, false, false, false, false, false, false, false, false, false, false, false, false, false, false, false, false, false, false, false, false] (by kernel_rfl) rfl rfl trivial (fun hHeld => ?_); refine with_tabW spec_ChecksAnswer.tab1 spec_ChecksAnswer.bits1 (fun HT_ HW_ => ?_)
   generalize w.drew = w14 at HB hHeld ⊢
   refine pu 0 (some 9) (bA 21 1) (ao HT_) ?_
   refine pu 1 (some 10) (bA 21 3) (ao HT_) ?_
   refine pu 2 (some 11) (bA 21 7) (ao HT_) ?_
   refine pu 3 (some 12) (bA 21 15) (ao HT_) ?_
   refine one_ (i := 4) (N := some 13) (bA 21 31) rfl rfl (one_of HT_.out (by kernel_rfl)) (by decide) (fun K hK => ?_)
   refine goes_ Tryz.func45 (by kernel_rfl) rfl #[.int .i64 a2, .int .i64 0, .int .i64 (wrap64 ((l0.length : Int) - 1))] (by rfl) rfl rfl ga ?_
   with_reducible refine (spec_l1In.calls a2 0 (wrap64 ((l0.length : Int) - 1)) true _ A5.out).mono ?_
   rintro e w' ⟨rfl, ⟨nd, rfl⟩⟩
   refine ⟨_, rfl, ?_⟩
   refine hK.out _ _ trivial (fun hHeld => ?_)
   clear hK K
   refine norm_ (a' := ?_) ?_ ?_
   rotate_left
   ·
    show Act.put _ (some 13) _ = _
    simp only [Act.put, List.setIfInBounds_toArray, List.set_cons_zero, List.set_cons_succ, i64_w, i32_w]
    rfl
   refine pu 5 (some 14) (bA 21 63) (ao HT_) ?_
   refine pu 6 (some 15) (bA 21 127) (ao HT_) ?_
   refine one_ (i := 7) (N := some 16) (bA 21 255) rfl rfl (one_of HT_.out (by kernel_rfl)) (by decide) (fun K hK => ?_)
   refine goes_ Tryz.func113 (by kernel_rfl) rfl #[.string a3] (by rfl) rfl rfl ga ?_
   with_reducible refine (spec_IsWord.calls k a3 false _ A7.out).mono ?_
   rintro e w' ⟨rfl, ⟨nd, rfl⟩⟩
   refine ⟨_, rfl, ?_⟩
   refine hK.out _ _ trivial (fun hHeld => ?_)
   clear hK K
   refine norm_ (a' := ?_) ?_ ?_
   rotate_left
   ·
    show Act.put _ (some 16) _ = _
    simp only [Act.put, List.setIfInBounds_toArray, List.set_cons_zero, List.set_cons_succ, i64_w, i32_w]
    rfl
   refine pu 8 (some 17) (bA 21 511) (ao HT_) ?_
   refine pu 9 (some 18) (bA 21 1023) (ao HT_) ?_
   refine pv 10 (some 19) (bA 21 2047) (ao HT_) ?_
   refine pv 11 (some 20) (bA 21 4095) (ao HT_) ?_
   refine pv 12 (some 21) (bA 21 8191) (ao HT_) ?_
   refine pv 13 (some 22) (bA 21 16383) (ao HT_) ?_
   refine pv 14 (some 23) (bA 21 32767) (ao HT_) ?_
   refine pv 15 (some 24) (bA 21 65535) (ao HT_) ?_
   refine pv 16 (some 25) (bA 21 131071) (ao HT_) ?_
   refine pv 17 (some 26) (bA 21 262143) (ao HT_) ?_
   refine pv 18 (some 27) (bA 21 524287) (ao HT_) ?_
   refine pu 19 (some 28) (bA 21 1048575) (ao HT_) ?_
   refine pu 20 (some 8) (bA 21 2097151) (ao HT_) ?_
   refine done_ (done_of HT_.out (by kernel_rfl)) ?_
   try go_wp2
   go_ret
   exact ⟨er, bel⟩
 ·
  obtain rfl := Option.some.inj H
  go_enter Tryz.func88, Tryz.ntmps88
  try go_wp2
  replace HB := zBd HB
  refine start_ (n := 21) (S := fun w' => True) (ds := []) #[false, false, false, false, false, false, false, false, false, false, false, false, false, false, false, false, false, false, false, false, false] (by kernel_rfl) rfl rfl trivial (fun hHeld => ?_); refine with_tabW spec_ChecksAnswer.tab1 spec_ChecksAnswer.bits1 (fun HT_ HW_ => ?_)
  generalize w.drew = w15 at HB hHeld ⊢
  refine pu 0 (some 9) (bA 21 1) (ao HT_) ?_
  refine pu 1 (some 10) (bA 21 3) (ao HT_) ?_
  refine pu 2 (some 11) (bA 21 7) (ao HT_) ?_
  refine pu 3 (some 12) (bA 21 15) (ao HT_) ?_
  refine one_ (i := 4) (N := some 13) (bA 21 31) rfl rfl (one_of HT_.out (by kernel_rfl)) (by decide) (fun K hK => ?_)
  refine goes_ Tryz.func45 (by kernel_rfl) rfl #[.int .i64 a2, .int .i64 0, .int .i64 (wrap64 ((l0.length : Int) - 1))] (by rfl) rfl rfl ga ?_
  with_reducible refine (spec_l1In.calls a2 0 (wrap64 ((l0.length : Int) - 1)) false _ A5.out).mono ?_
  rintro e w' ⟨rfl, ⟨nd, rfl⟩⟩
  refine ⟨_, rfl, ?_⟩
  refine hK.out _ _ trivial (fun hHeld => ?_)
  clear hK K
  refine norm_ (a' := ?_) ?_ ?_
  rotate_left
  ·
   show Act.put _ (some 13) _ = _
   simp only [Act.put, List.setIfInBounds_toArray, List.set_cons_zero, List.set_cons_succ, i64_w, i32_w]
   rfl
  refine pu 5 (some 14) (bA 21 63) (ao HT_) ?_
  refine pv 6 (some 15) (bA 21 127) (ao HT_) ?_
  refine pv 7 (some 16) (bA 21 255) (ao HT_) ?_
  refine pu 8 (some 17) (bA 21 511) (ao HT_) ?_
  refine pu 9 (some 18) (bA 21 1023) (ao HT_) ?_
  refine pv 10 (some 19) (bA 21 2047) (ao HT_) ?_
  refine pv 11 (some 20) (bA 21 4095) (ao HT_) ?_
  refine pv 12 (some 21) (bA 21 8191) (ao HT_) ?_
  refine pv 13 (some 22) (bA 21 16383) (ao HT_) ?_
  refine pv 14 (some 23) (bA 21 32767) (ao HT_) ?_
  refine pv 15 (some 24) (bA 21 65535) (ao HT_) ?_
  refine pv 16 (some 25) (bA 21 131071) (ao HT_) ?_
  refine pv 17 (some 26) (bA 21 262143) (ao HT_) ?_
  refine pv 18 (some 27) (bA 21 524287) (ao HT_) ?_
  refine pu 19 (some 28) (bA 21 1048575) (ao HT_) ?_
  refine pu 20 (some 8) (bA 21 2097151) (ao HT_) ?_
  refine done_ (done_of HT_.out (by kernel_rfl)) ?_
  try go_wp2
  go_ret
  exact ⟨er, bel⟩

/-! ### spec_CellsOf: function 115 -/
mutual
def spec_CellsOf.l0 : Nat → List Int → List (S132) → Int → Int → Int → ByteArray → Int → Bool → Int → Int → Option (List Int)
 | 0, _, _, _, _, _, _, _, _, _, _ => none
 | k + 1, x5, x6, x7, x163000, x163001, x163002, x164000, x164001, x164002, x164003 => if x7 < (x6.length : Int) then (if 0 ≤ x7 then (if (!(((rd_T132 x6 x7).f0) == x164000) || (!(((rd_T132 x6 x7).f1) == x164001) || (!(((rd_T132 x6 x7).f2) == x164002) || (!(((rd_T132 x6 x7).f3) == x164003))))) = true then (spec_CellsOf.l0 k x5 x6 (wrap64 (x7 + 1)) x163000 x163001 x163002 x164000 x164001 x164002 x164003) else (spec_CellsOf.l1 k x5 x6 x7 0 x163000 x163001 x163002 x164000 x164001 x164002 x164003)) else (none)) else (some x5)
def spec_CellsOf.l1 : Nat → List Int → List (S132) → Int → Int → Int → Int → ByteArray → Int → Bool → Int → Int → Option (List Int)
 | 0, _, _, _, _, _, _, _, _, _, _, _ => none
 | k + 1, x5, x6, x7, x8, x163000, x163001, x163002, x164000, x164001, x164002, x164003 => if x8 < x164003 then (if x164001 = true then (if x5.length < 17592186044416 then (spec_CellsOf.l1 k (x5 ++ [wrap64 (x164002 + (wrap64 (x8 * x163001)))]) x6 x7 (wrap64 (x8 + 1)) x163000 x163001 x163002 x164000 x164001 x164002 x164003) else (none)) else (if x5.length < 17592186044416 then (spec_CellsOf.l1 k (x5 ++ [wrap64 (x164002 + x8)]) x6 x7 (wrap64 (x8 + 1)) x163000 x163001 x163002 x164000 x164001 x164002 x164003) else (none))) else (spec_CellsOf.l0 k x5 x6 (wrap64 (x7 + 1)) x163000 x163001 x163002 x164000 x164001 x164002 x164003)
end
def spec_CellsOf.f (k : Nat) (a0_0 : Int) (a0_1 : Int) (a0_2 : ByteArray) (a1_0 : Int) (a1_1 : Bool) (a1_2 : Int) (a1_3 : Int) : Option (List Int) := (spec_SlotsOf.f k a0_0 a0_1 a0_2).bind fun t167 => (spec_CellsOf.l0 k (([] : List Int)) t167 0 a0_0 a0_1 a0_2 a1_0 a1_1 a1_2 a1_3)
set_option maxHeartbeats 8000000 in
set_option maxRecDepth 100000 in
theorem spec_CellsOf.calls (k : Nat) (a0_0 : Int) (a0_1 : Int) (a0_2 : ByteArray) (a1_0 : Int) (a1_1 : Bool) (a1_2 : Int) (a1_3 : Int) (r : List Int) (w : World) (H : spec_CellsOf.f k a0_0 a0_1 a0_2 a1_0 a1_1 a1_2 a1_3 = some r) :
  Calls Tryz.prog 115 #[.agg #[.int .i64 a0_0, .int .i64 a0_1, .string a0_2], .agg #[.int .i64 a1_0, .bool a1_1, .int .i64 a1_2, .int .i64 a1_3]] w fun e w' => ∃ v0_ : Value, e = .returned (v0_) ∧ Kd.R (Kd.int .i64) 3 w' w.heap.size (fun _ => True) v0_ r ∧ Below w.heap.size w w' := by
 have hu32 := Tryz.underlying32
 have hu132 := Tryz.underlying132
 have HB := Aside0.mk (Below.refl w.heap.size w)
 unfold spec_CellsOf.f at H
 generalize hy164 : (([] : List Int) : List Int) = y164 at H
 have Ny164 := Aside0.mk hy164.symm
 clear hy164
 replace H := zs H
 obtain ⟨t167, A3, H⟩ := H
 have H' := Aside0.mk H
 clear H
 go_enter Tryz.func115, Tryz.ntmps115
 go_wp2_with (first | ((with_reducible refine zd 2 rfl ?_); refine zbx (w := w) #[.int .i64 a0_0, .int .i64 a0_1, .string a0_2] 32 ?_; intro gb162 hg w4 BK162 hb; have GW162 := zg (w := w) hg; replace HB := zB hb; clear hb hg) | ((with_reducible refine zd 3 rfl ?_); refine zbx (w := w) #[.int .i64 a1_0, .bool a1_1, .int .i64 a1_2, .int .i64 a1_3] 132 ?_; intro gb163 hg w5 BK163 hb; have GW163 := zg (w := w) hg; replace HB := zB hb; have NB162_163 := zn hg BK162; have NB163_162 := zm hg BK162; replace BK162 := zk BK162 hb; clear hb hg) | ((with_reducible refine gate_dst (N := 9) rfl ?_); refine Kd.R_lit (Kd.int .i64) _ 3 ?hg (N := 9) ?hd (xs := ([] : List Int)) (inner := []) (ok := fun _ => True) (okp := fun _ => True) ?hr ?hp (fun _ hk => hk) trivial (Below.refl _ _) (Nat.le_refl _) (by simp) ?_; (case hd => rfl); (case hg => rfl); (case hr => first | (go_simp; done) | (go_simp; rfl)); (case hp => exact (Reps.none _ _)); intro v165 w6 ho7 hb hg_ hnew_; clear hg_ hnew_; (first | rw [← Ny164.out] at ho7 | (simp only [Int.reduceToNat] at ho7; rw [← Ny164.out] at ho7)); have HO166 := zl2 ho7; replace BK162 := zk BK162 hb; replace BK163 := zk BK163 hb; replace HB := zB hb; clear hb ho7; have hnb8 := NB162_163.out; have hnc8 := NB163_162.out; have ⟨_, _, _, _, _, _⟩ := cz3 BK162) | (go_at_call 87; (with_reducible refine (spec_SlotsOf.calls k a0_0 a0_1 a0_2 t167 _ A3.out).mono ?_); rintro e w10 ⟨v168, rfl, ho0, hb⟩; replace HO166 := zR HO166 hb; have HO169 := Aside0.mk (Kd.R_lower (Kd.R_newB ho0 (bk BK163)) bsz); replace BK162 := zk BK162 hb; replace BK163 := zk BK163 hb; replace HB := zB hb))
 repeat (go_quiet (first | ((with_reducible refine zd 2 rfl ?_); refine zbx (w := w) #[.int .i64 a0_0, .int .i64 a0_1, .string a0_2] 32 ?_; intro gb162 hg w4 BK162 hb; have GW162 := zg (w := w) hg; replace HB := zB hb; clear hb hg) | ((with_reducible refine zd 3 rfl ?_); refine zbx (w := w) #[.int .i64 a1_0, .bool a1_1, .int .i64 a1_2, .int .i64 a1_3] 132 ?_; intro gb163 hg w5 BK163 hb; have GW163 := zg (w := w) hg; replace HB := zB hb; have NB162_163 := zn hg BK162; have NB163_162 := zm hg BK162; replace BK162 := zk BK162 hb; clear hb hg) | ((with_reducible refine gate_dst (N := 9) rfl ?_); refine Kd.R_lit (Kd.int .i64) _ 3 ?hg (N := 9) ?hd (xs := ([] : List Int)) (inner := []) (ok := fun _ => True) (okp := fun _ => True) ?hr ?hp (fun _ hk => hk) trivial (Below.refl _ _) (Nat.le_refl _) (by simp) ?_; (case hd => rfl); (case hg => rfl); (case hr => first | (go_simp; done) | (go_simp; rfl)); (case hp => exact (Reps.none _ _)); intro v165 w6 ho7 hb hg_ hnew_; clear hg_ hnew_; (first | rw [← Ny164.out] at ho7 | (simp only [Int.reduceToNat] at ho7; rw [← Ny164.out] at ho7)); have HO166 := zl2 ho7; replace BK162 := zk BK162 hb; replace BK163 := zk BK163 hb; replace HB := zB hb; clear hb ho7; have hnb8 := NB162_163.out; have hnc8 := NB163_162.out; have ⟨_, _, _, _, _, _⟩ := cz3 BK162) | (go_at_call 87; (with_reducible refine (spec_SlotsOf.calls k a0_0 a0_1 a0_2 t167 _ A3.out).mono ?_); rintro e w10 ⟨v168, rfl, ho0, hb⟩; replace HO166 := zR HO166 hb; have HO169 := Aside0.mk (Kd.R_lower (Kd.R_newB ho0 (bk BK163)) bsz); replace BK162 := zk BK162 hb; replace BK163 := zk BK163 hb; replace HB := zB hb)); try go_wp2_with (first | ((with_reducible refine zd 2 rfl ?_); refine zbx (w := w) #[.int .i64 a0_0, .int .i64 a0_1, .string a0_2] 32 ?_; intro gb162 hg w4 BK162 hb; have GW162 := zg (w := w) hg; replace HB := zB hb; clear hb hg) | ((with_reducible refine zd 3 rfl ?_); refine zbx (w := w) #[.int .i64 a1_0, .bool a1_1, .int .i64 a1_2, .int .i64 a1_3] 132 ?_; intro gb163 hg w5 BK163 hb; have GW163 := zg (w := w) hg; replace HB := zB hb; have NB162_163 := zn hg BK162; have NB163_162 := zm hg BK162; replace BK162 := zk BK162 hb; clear hb hg) | ((with_reducible refine gate_dst (N := 9) rfl ?_); refine Kd.R_lit (Kd.int .i64) _ 3 ?hg (N := 9) ?hd (xs := ([] : List Int)) (inner := []) (ok := fun _ => True) (okp := fun _ => True) ?hr ?hp (fun _ hk => hk) trivial (Below.refl _ _) (Nat.le_refl _) (by simp) ?_; (case hd => rfl); (case hg => rfl); (case hr => first | (go_simp; done) | (go_simp; rfl)); (case hp => exact (Reps.none _ _)); intro v165 w6 ho7 hb hg_ hnew_; clear hg_ hnew_; (first | rw [← Ny164.out] at ho7 | (simp only [Int.reduceToNat] at ho7; rw [← Ny164.out] at ho7)); have HO166 := zl2 ho7; replace BK162 := zk BK162 hb; replace BK163 := zk BK163 hb; replace HB := zB hb; clear hb ho7; have hnb8 := NB162_163.out; have hnc8 := NB163_162.out; have ⟨_, _, _, _, _, _⟩ := cz3 BK162) | (go_at_call 87; (with_reducible refine (spec_SlotsOf.calls k a0_0 a0_1 a0_2 t167 _ A3.out).mono ?_); rintro e w10 ⟨v168, rfl, ho0, hb⟩; replace HO166 := zR HO166 hb; have HO169 := Aside0.mk (Kd.R_lower (Kd.R_newB ho0 (bk BK163)) bsz); replace BK162 := zk BK162 hb; replace BK163 := zk BK163 hb; replace HB := zB hb)))
 go_loopg [5, 7] k (fun kq v5 v7 w' => ∃ (x5_1 : List Int) (x7_1 : Int), v7 = .int .i64 x7_1 ∧ Aside0 (spec_CellsOf.l0 kq x5_1 t167 x7_1 a0_0 a0_1 a0_2 a1_0 a1_1 a1_2 a1_3 = some r) ∧ Aside0 (kq ≤ k) ∧ Aside0 (Kd.R (Kd.int .i64) 3 w' w.heap.size (fun _ => True) v5 x5_1) ∧ Aside0 (Kd.R k132 132 w' w.heap.size (fun k_ => k_ ≠ gb163) v168 t167) ∧ Aside0 (w'.heap[gb162]? = some (.cells #[.int .i64 a0_0, .int .i64 a0_1, .string a0_2] 32 (0, 0))) ∧ Aside0 (w'.heap[gb163]? = some (.cells #[.int .i64 a1_0, .bool a1_1, .int .i64 a1_2, .int .i64 a1_3] 132 (0, 0))) ∧ Aside0 (Below w.heap.size w w'))
 case atStart => exact ⟨(y164), (0), rf, H', ⟨Nat.le_refl _⟩, ⟨kr HO166⟩, ⟨by (with_reducible repeat (first | apply Kd.R_alloc | apply Kd.R_drewN | apply Kd.R_drew)); exact Kd.R_mono HO169.out (fun _ hk => hk.2)⟩, ⟨bk BK162⟩, ⟨bk BK163⟩, ⟨bel⟩⟩
 case round =>
  clear H'
  obtain ⟨x5_1, x7_1, rfl, HA, HK1, HO_5, HO_6, BK162, BK163, HB⟩ := hrel
  cases gk with
  | zero => exact absurd HA.out (by simp [spec_CellsOf.l0])
  | succ k1 =>
   have H := HA.out
   clear HA
   simp only [spec_CellsOf.l0] at H
   replace H := zc H
   rcases H with ⟨c11b0, H⟩ | ⟨c11b0, H⟩
   ·
    replace H := zr H
    obtain ⟨c12b0, H⟩ := H
    by_cases c13 : (!(((rd_T132 t167 x7_1).f0) == a1_0) || (!(((rd_T132 t167 x7_1).f1) == a1_1) || (!(((rd_T132 t167 x7_1).f2) == a1_2) || (!(((rd_T132 t167 x7_1).f3) == a1_3))))) = true
    ·
     rw [if_pos c13] at H
     have c13b0 : (!(((rd_T132 t167 x7_1).f0) == a1_0) || (!(((rd_T132 t167 x7_1).f1) == a1_1) || (!(((rd_T132 t167 x7_1).f2) == a1_2) || (!(((rd_T132 t167 x7_1).f3) == a1_3))))) = true := c13
     clear c13
     have H' := Aside0.mk H
     clear H
     obtain ⟨Ao14, co14, eo14⟩ := Kd.R_slice HO_6.out
     subst eo14
     obtain ⟨p170, q170, ad170, e170, hx170_0, hx170_1, hx170_2, hx170_3⟩ := zx (at_T132 (Kd.R_reads' HO_6.out).2.2 x7_1)
     cases e170
     have hnb15 := NB163_162.out
     have hnc15 := NB162_163.out
     have ⟨_, _, _, _, _, _, _, _⟩ := cz4 BK163
     go_wp2
     repeat (go_quiet (fail); try go_wp2)
     go_roundg k1
     case measure => have := HK1.out; omega
     case rel => exact ⟨(x5_1), (wrap64 (x7_1 + 1)), rf, H', ⟨by have := HK1.out; omega⟩, ⟨kr HO_5⟩, ⟨kr HO_6⟩, ⟨bk BK162⟩, ⟨bk BK163⟩, ⟨bel⟩⟩
    ·
     rw [if_neg c13] at H
     have c13b0 : (!(((rd_T132 t167 x7_1).f0) == a1_0) || (!(((rd_T132 t167 x7_1).f1) == a1_1) || (!(((rd_T132 t167 x7_1).f2) == a1_2) || (!(((rd_T132 t167 x7_1).f3) == a1_3))))) = false := by simpa using c13
     clear c13
     have H' := Aside0.mk H
     clear H
     obtain ⟨Ao17, co17, eo17⟩ := Kd.R_slice HO_6.out
     subst eo17
     obtain ⟨p170, q170, ad170, e170, hx170_0, hx170_1, hx170_2, hx170_3⟩ := zx (at_T132 (Kd.R_reads' HO_6.out).2.2 x7_1)
     cases e170
     have hnb18 := NB163_162.out
     have hnc18 := NB162_163.out
     have ⟨_, _, _, _, _, _, _, _⟩ := cz4 BK163
     go_wp2
     repeat (go_quiet (fail); try go_wp2)
     go_loopg [5, 8] k1 (fun kq v5 v8 w' => ∃ (x5_2 : List Int) (x8_2 : Int), v8 = .int .i64 x8_2 ∧ Aside0 (spec_CellsOf.l1 kq x5_2 t167 x7_1 x8_2 a0_0 a0_1 a0_2 a1_0 a1_1 a1_2 a1_3 = some r) ∧ Aside0 (kq ≤ k1) ∧ Aside0 (Kd.R (Kd.int .i64) 3 w' w.heap.size (fun _ => True) v5 x5_2) ∧ Aside0 (Kd.R k132 132 w' w.heap.size (fun k_ => k_ ≠ gb163) (.slice (some ad170) t167.length co17) t167) ∧ Aside0 (w'.heap[gb162]? = some (.cells #[.int .i64 a0_0, .int .i64 a0_1, .string a0_2] 32 (0, 0))) ∧ Aside0 (w'.heap[gb163]? = some (.cells #[.int .i64 a1_0, .bool a1_1, .int .i64 a1_2, .int .i64 a1_3] 132 (0, 0))) ∧ Aside0 (Below w.heap.size w w'))
     case atStart => exact ⟨(x5_1), (0), rf, H', ⟨Nat.le_refl _⟩, ⟨kr HO_5⟩, ⟨kr HO_6⟩, ⟨bk BK162⟩, ⟨bk BK163⟩, ⟨bel⟩⟩
     case round =>
      clear H'
      obtain ⟨x5_2, x8_2, rfl, HA, HK2, HO_5, HO_6, BK162, BK163, HB⟩ := hrel
      cases gk with
      | zero => exact absurd HA.out (by simp [spec_CellsOf.l1])
      | succ k2 =>
       have H := HA.out
       clear HA
       simp only [spec_CellsOf.l1] at H
       replace H := zc H
       rcases H with ⟨c20b0, H⟩ | ⟨c20b0, H⟩
       ·
        replace H := zb H
        rcases H with ⟨rfl, H⟩ | ⟨rfl, H⟩
        ·
         replace H := zl H
         obtain ⟨LMc22, H⟩ := H
         generalize hy171 : (x5_2 ++ [wrap64 (a1_2 + (wrap64 (x8_2 * a0_1)))] : List Int) = y171 at H
         have Ny171 := Aside0.mk hy171.symm
         clear hy171
         have H' := Aside0.mk H
         clear H
         have hnb23 := NB163_162.out
         have hnc23 := NB162_163.out
         have ⟨_, _, _, _, _, _, _, _⟩ := cz4 BK163
         have ⟨_, _, _, _, _, _⟩ := cz3 BK162
         go_wp2_with (first | ((with_reducible refine gate_builtin (b := .append) (xs := #[.tmp 32, .tmp 40]) rfl ?_); at_builtin; refine Kd.R_append (Kd.int .i64) (w0 := w) w.heap.size rfl (.tmp 32) (.tmp 40) 25 3 (.int .i64 0) 8 rfl Tryz.underlying25 info3 rfl (by decide) (by omega) u5 x5_2 (wrap64 (a1_2 + (wrap64 (x8_2 * a0_1)))) [.int .i64 (wrap64 (a1_2 + (wrap64 (x8_2 * a0_1))))] (fun _ => True) (fun _ => False) rfl rfl ?aP (fun _ hk => hk.elim) ?aF ?aO ?aB ?aS ?aL ?_; (case aP => exact rfl); (case aB => exact bel); (case aF => exact (fun _ _ => trivial)); (case aO => exact (kr HO_5)); (case aS => exact bsz); (case aL => have := LMc22.out; omega); intro v172 w26 ho hb hg hat; rw [← Ny171.out] at ho; replace HO_6 := Aside0.mk (Kd.R_over' (kr HO_6) (Kd.R_typed (kr HO_5)) (by decide) hg); replace BK162 := Aside0.mk (blk_grown (bk BK162) hg (Kd.R_ne HO_5.out BK162.out (by decide))); replace BK163 := Aside0.mk (blk_grown (bk BK163) hg (Kd.R_ne HO_5.out BK163.out (by decide))); replace HB := Aside0.mk hb; have HO173 := Aside0.mk ho; clear HO_5; clear ho hb hg hat))
         repeat (go_quiet (first | ((with_reducible refine gate_builtin (b := .append) (xs := #[.tmp 32, .tmp 40]) rfl ?_); at_builtin; refine Kd.R_append (Kd.int .i64) (w0 := w) w.heap.size rfl (.tmp 32) (.tmp 40) 25 3 (.int .i64 0) 8 rfl Tryz.underlying25 info3 rfl (by decide) (by omega) u5 x5_2 (wrap64 (a1_2 + (wrap64 (x8_2 * a0_1)))) [.int .i64 (wrap64 (a1_2 + (wrap64 (x8_2 * a0_1))))] (fun _ => True) (fun _ => False) rfl rfl ?aP (fun _ hk => hk.elim) ?aF ?aO ?aB ?aS ?aL ?_; (case aP => exact rfl); (case aB => exact bel); (case aF => exact (fun _ _ => trivial)); (case aO => exact (kr HO_5)); (case aS => exact bsz); (case aL => have := LMc22.out; omega); intro v172 w26 ho hb hg hat; rw [← Ny171.out] at ho; replace HO_6 := Aside0.mk (Kd.R_over' (kr HO_6) (Kd.R_typed (kr HO_5)) (by decide) hg); replace BK162 := Aside0.mk (blk_grown (bk BK162) hg (Kd.R_ne HO_5.out BK162.out (by decide))); replace BK163 := Aside0.mk (blk_grown (bk BK163) hg (Kd.R_ne HO_5.out BK163.out (by decide))); replace HB := Aside0.mk hb; have HO173 := Aside0.mk ho; clear HO_5; clear ho hb hg hat)); try go_wp2_with (first | ((with_reducible refine gate_builtin (b := .append) (xs := #[.tmp 32, .tmp 40]) rfl ?_); at_builtin; refine Kd.R_append (Kd.int .i64) (w0 := w) w.heap.size rfl (.tmp 32) (.tmp 40) 25 3 (.int .i64 0) 8 rfl Tryz.underlying25 info3 rfl (by decide) (by omega) u5 x5_2 (wrap64 (a1_2 + (wrap64 (x8_2 * a0_1)))) [.int .i64 (wrap64 (a1_2 + (wrap64 (x8_2 * a0_1))))] (fun _ => True) (fun _ => False) rfl rfl ?aP (fun _ hk => hk.elim) ?aF ?aO ?aB ?aS ?aL ?_; (case aP => exact rfl); (case aB => exact bel); (case aF => exact (fun _ _ => trivial)); (case aO => exact (kr HO_5)); (case aS => exact bsz); (case aL => have := LMc22.out; omega); intro v172 w26 ho hb hg hat; rw [← Ny171.out] at ho; replace HO_6 := Aside0.mk (Kd.R_over' (kr HO_6) (Kd.R_typed (kr HO_5)) (by decide) hg); replace BK162 := Aside0.mk (blk_grown (bk BK162) hg (Kd.R_ne HO_5.out BK162.out (by decide))); replace BK163 := Aside0.mk (blk_grown (bk BK163) hg (Kd.R_ne HO_5.out BK163.out (by decide))); replace HB := Aside0.mk hb; have HO173 := Aside0.mk ho; clear HO_5; clear ho hb hg hat)))
         go_roundg k2
         case measure => have := HK1.out; have := HK2.out; omega
         case rel => exact ⟨(y171), (wrap64 (x8_2 + 1)), rf, H', ⟨by have := HK1.out; have := HK2.out; omega⟩, ⟨kr HO173⟩, ⟨kr HO_6⟩, ⟨bk BK162⟩, ⟨bk BK163⟩, ⟨bel⟩⟩
        ·
         replace H := zl H
         obtain ⟨LMc27, H⟩ := H
         generalize hy174 : (x5_2 ++ [wrap64 (a1_2 + x8_2)] : List Int) = y174 at H
         have Ny174 := Aside0.mk hy174.symm
         clear hy174
         have H' := Aside0.mk H
         clear H
         have hnb28 := NB163_162.out
         have hnc28 := NB162_163.out
         have ⟨_, _, _, _, _, _, _, _⟩ := cz4 BK163
         go_wp2_with (first | ((with_reducible refine gate_builtin (b := .append) (xs := #[.tmp 42, .tmp 47]) rfl ?_); at_builtin; refine Kd.R_append (Kd.int .i64) (w0 := w) w.heap.size rfl (.tmp 42) (.tmp 47) 25 3 (.int .i64 0) 8 rfl Tryz.underlying25 info3 rfl (by decide) (by omega) u5 x5_2 (wrap64 (a1_2 + x8_2)) [.int .i64 (wrap64 (a1_2 + x8_2))] (fun _ => True) (fun _ => False) rfl rfl ?aP (fun _ hk => hk.elim) ?aF ?aO ?aB ?aS ?aL ?_; (case aP => exact rfl); (case aB => exact bel); (case aF => exact (fun _ _ => trivial)); (case aO => exact (kr HO_5)); (case aS => exact bsz); (case aL => have := LMc27.out; omega); intro v175 w30 ho hb hg hat; rw [← Ny174.out] at ho; replace HO_6 := Aside0.mk (Kd.R_over' (kr HO_6) (Kd.R_typed (kr HO_5)) (by decide) hg); replace BK162 := Aside0.mk (blk_grown (bk BK162) hg (Kd.R_ne HO_5.out BK162.out (by decide))); replace BK163 := Aside0.mk (blk_grown (bk BK163) hg (Kd.R_ne HO_5.out BK163.out (by decide))); replace HB := Aside0.mk hb; have HO176 := Aside0.mk ho; clear HO_5; clear ho hb hg hat))
         repeat (go_quiet (first | ((with_reducible refine gate_builtin (b := .append) (xs := #[.tmp 42, .tmp 47]) rfl ?_); at_builtin; refine Kd.R_append (Kd.int .i64) (w0 := w) w.heap.size rfl (.tmp 42) (.tmp 47) 25 3 (.int .i64 0) 8 rfl Tryz.underlying25 info3 rfl (by decide) (by omega) u5 x5_2 (wrap64 (a1_2 + x8_2)) [.int .i64 (wrap64 (a1_2 + x8_2))] (fun _ => True) (fun _ => False) rfl rfl ?aP (fun _ hk => hk.elim) ?aF ?aO ?aB ?aS ?aL ?_; (case aP => exact rfl); (case aB => exact bel); (case aF => exact (fun _ _ => trivial)); (case aO => exact (kr HO_5)); (case aS => exact bsz); (case aL => have := LMc27.out; omega); intro v175 w30 ho hb hg hat; rw [← Ny174.out] at ho; replace HO_6 := Aside0.mk (Kd.R_over' (kr HO_6) (Kd.R_typed (kr HO_5)) (by decide) hg); replace BK162 := Aside0.mk (blk_grown (bk BK162) hg (Kd.R_ne HO_5.out BK162.out (by decide))); replace BK163 := Aside0.mk (blk_grown (bk BK163) hg (Kd.R_ne HO_5.out BK163.out (by decide))); replace HB := Aside0.mk hb; have HO176 := Aside0.mk ho; clear HO_5; clear ho hb hg hat)); try go_wp2_with (first | ((with_reducible refine gate_builtin (b := .append) (xs := #[.tmp 42, .tmp 47]) rfl ?_); at_builtin; refine Kd.R_append (Kd.int .i64) (w0 := w) w.heap.size rfl (.tmp 42) (.tmp 47) 25 3 (.int .i64 0) 8 rfl Tryz.underlying25 info3 rfl (by decide) (by omega) u5 x5_2 (wrap64 (a1_2 + x8_2)) [.int .i64 (wrap64 (a1_2 + x8_2))] (fun _ => True) (fun _ => False) rfl rfl ?aP (fun _ hk => hk.elim) ?aF ?aO ?aB ?aS ?aL ?_; (case aP => exact rfl); (case aB => exact bel); (case aF => exact (fun _ _ => trivial)); (case aO => exact (kr HO_5)); (case aS => exact bsz); (case aL => have := LMc27.out; omega); intro v175 w30 ho hb hg hat; rw [← Ny174.out] at ho; replace HO_6 := Aside0.mk (Kd.R_over' (kr HO_6) (Kd.R_typed (kr HO_5)) (by decide) hg); replace BK162 := Aside0.mk (blk_grown (bk BK162) hg (Kd.R_ne HO_5.out BK162.out (by decide))); replace BK163 := Aside0.mk (blk_grown (bk BK163) hg (Kd.R_ne HO_5.out BK163.out (by decide))); replace HB := Aside0.mk hb; have HO176 := Aside0.mk ho; clear HO_5; clear ho hb hg hat)))
         go_roundg k2
         case measure => have := HK1.out; have := HK2.out; omega
         case rel => exact ⟨(y174), (wrap64 (x8_2 + 1)), rf, H', ⟨by have := HK1.out; have := HK2.out; omega⟩, ⟨kr HO176⟩, ⟨kr HO_6⟩, ⟨bk BK162⟩, ⟨bk BK163⟩, ⟨bel⟩⟩
       ·
        have H' := Aside0.mk H
        clear H
        have hnb31 := NB163_162.out
        have hnc31 := NB162_163.out
        have ⟨_, _, _, _, _, _, _, _⟩ := cz4 BK163
        go_wp2
        repeat (go_quiet (fail); try go_wp2)
        go_roundg k2
        case measure => have := HK1.out; have := HK2.out; omega
        case rel => exact ⟨(x5_2), (wrap64 (x7_1 + 1)), rf, H', ⟨by have := HK1.out; have := HK2.out; omega⟩, ⟨kr HO_5⟩, ⟨kr HO_6⟩, ⟨bk BK162⟩, ⟨bk BK163⟩, ⟨bel⟩⟩
   ·
    obtain rfl := Option.some.inj H
    obtain ⟨Ao33, co33, eo33⟩ := Kd.R_slice HO_6.out
    subst eo33
    go_wp2
    repeat (go_quiet (fail); try go_wp2)
    go_ret
    exact ⟨_, er, kr HO_5, bel⟩

end Go.Proofs.YtpcdfjcbjbkliaaGreat.E
