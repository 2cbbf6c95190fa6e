import Derived.Test.YtpcdfjcbjbkliaaGreatSq
import Derived.Test.YtpcdfjcbjbkliaaGreatQ0
import Derived.Test.YtpcdfjcbjbkliaaGreatQ2
import Derived.Test.YtpcdfjcbjbkliaaGreatQ4
import Derived.Test.YtpcdfjcbjbkliaaGreatQ6
namespace Go.Proofs.YtpcdfjcbjbkliaaGreat.E
open Go.RowKit Go.Proofs.YtpcdfjcbjbkliaaGreatW.PrintWords Go.Proofs.YtpcdfjcbjbkliaaGreatW.PrintLast Go.Proofs.YtpcdfjcbjbkliaaGreatW.PrintMore
attribute [local go_sem] max2_int min2_int max_two min_two max_three min_three max_four min_four
set_option linter.unusedVariables false
set_option linter.unusedSimpArgs false

attribute [local go_sem high] eqA132
/-! ### spec_SealAnswer: function 114 -/
def spec_SealAnswer.f (k : Nat) (a b : Int) (c : ByteArray) : Option (Int) := (spec_IsWord.f k c).bind fun d => (if d = true then ((some (([a, b, (c.size : Int)] : List Int) : List Int)).bind fun e => ((spec_LettersOf.f k c).bind fun f => (if e.length + f.length < 17592186044416 then ((spec_Hash.f k (e ++ f)).bind fun g => (some g)) else (none)))) else (some 0))
set_option maxHeartbeats 8000000 in
set_option maxRecDepth 100000 in
theorem spec_SealAnswer.calls (k : Nat) (a0 a1 : Int) (a2 : ByteArray) (r : Int) (w : World) (H : spec_SealAnswer.f k a0 a1 a2 = some r) :
  Calls Tryz.prog 114 #[.int .i64 a0, .int .i64 a1, .string a2] w fun e w' => e = .returned (.int .i64 r) ∧ Below w.heap.size w w' := by
 have HB := Aside0.mk (Below.refl w.heap.size w)
 unfold spec_SealAnswer.f at H
 replace H := zs H
 obtain ⟨t234, A4, H⟩ := H
 replace H := zb H
 rcases H with ⟨rfl, H⟩ | ⟨rfl, H⟩
 ·
  replace H := zy H
  obtain ⟨y235, Ny235, H⟩ := H
  replace H := zs H
  obtain ⟨t238, A6, H⟩ := H
  replace H := zl H
  obtain ⟨LMc7, H⟩ := H
  generalize hy241 : (y235 ++ t238 : List Int) = y241 at H
  have Ny241 := Aside0.mk hy241.symm
  clear hy241
  replace H := zs H
  obtain ⟨t244, A8, H⟩ := H
  obtain rfl := Option.some.inj H
  go_enter Tryz.func114, Tryz.ntmps114
  go_wp2_with (first | ((with_reducible refine zd 8 rfl ?_); refine zgl Tryz.func113 (spec_IsWord.calls k a2 true _ A4.out) ?_; rintro e w' ⟨rfl, ⟨nd, rfl⟩⟩; refine ⟨_, rfl, ?_⟩) | ((with_reducible refine gate_dst (N := 14) rfl ?_); refine Kd.R_lit (Kd.int .i64) _ 3 ?hg (N := 14) ?hd (xs := ([a0, a1, (a2.size : Int)] : List Int)) (inner := [.int .i64 a0, .int .i64 a1, .int .i64 (a2.size : Int)]) (ok := fun _ => True) (okp := fun _ => True) ?hr ?hp (fun _ hk => hk) trivial (Below.refl _ _) (Nat.le_refl _) (by simp) ?_; (case hd => rfl); (case hg => rfl); (case hr => first | (go_simp; done) | (go_simp; rfl)); (case hp => exact (Reps.one (show Kd.M (Kd.int .i64) _ _ _ a0 [.int .i64 a0] from rfl) (Reps.one (show Kd.M (Kd.int .i64) _ _ _ a1 [.int .i64 a1] from rfl) (Reps.one (show Kd.M (Kd.int .i64) _ _ _ (a2.size : Int) [.int .i64 (a2.size : Int)] from rfl) (Reps.none _ _))))); intro v236 w9 ho10 hb hg_ hnew_; clear hg_ hnew_; (first | rw [← Ny235.out] at ho10 | (simp only [Int.reduceToNat] at ho10; rw [← Ny235.out] at ho10)); have HO237 := zl2 ho10; replace HB := zB hb; clear hb ho10) | ((with_reducible refine zd 16 rfl ?_); refine zgl Tryz.func139 (spec_LettersOf.calls k a2 t238 _ A6.out) ?_; rintro e w11 ⟨v239, rfl, ho0, hb⟩; refine ⟨_, rfl, ?_⟩; have HO240 := Aside0.mk (Kd.R_lower (Kd.R_new' ho0 (Kd.R_lt (kr HO237))) bsz); replace HO237 := Aside0.mk (Kd.R_elder' (kr HO237) (Kd.R_base ho0) hb); replace HB := zB hb; obtain ⟨Ao13, co13, eo13⟩ := Kd.R_slice HO240.out; subst eo13) | ((with_reducible refine gate_builtin (b := .append) (xs := #[.tmp 14, .tmp 16]) rfl ?_); at_builtin; refine Kd.R_append_rows (Kd.int .i64) (w0 := w) w.heap.size rfl (.tmp 14) (.tmp 16) 25 3 (.int .i64 0) 8 rfl Tryz.underlying25 info3 rfl (by decide) (by omega) v236 y235 t238 _ _ _ (fun k_ => some k_ ≠ (.slice Ao13 t238.length co13 : Value).ownBlock) (fun _ => False) rfl rfl ?aO ?aR (fun _ _ h => h) (fun _ h => h.elim) ?aF ?aB ?aS ?aL ?_; (case aR => repeat (first | exact (Kd.R_reads' HO240.out).2.2 | (with_reducible refine Kd.C_alloc ?_ _) | (with_reducible refine Kd.C_drewN ?_ _) | (with_reducible refine Kd.C_drew ?_))); (case aB => exact bel); (case aF => exact (fun k_ hk => Kd.fresh' (Kd.R_lt (kr HO240)) k_ hk)); (case aO => exact (by (with_reducible repeat (first | apply Kd.R_alloc | apply Kd.R_drewN | apply Kd.R_drew)); exact Kd.R_mono HO237.out (fun _ hk => hk.2))); (case aS => exact bsz); (case aL => have := LMc7.out; omega); intro v242 w12 ho hb hg hat; rw [← Ny241.out] at ho; replace HO240 := Aside0.mk (Kd.R_after (ok := (fun _ => True)) (kr HO240) hg hat); replace HB := Aside0.mk hb; have HO243 := Aside0.mk ho; clear HO237; clear ho hb hg hat; obtain ⟨Ao14, co14, eo14⟩ := Kd.R_slice HO243.out; subst eo14) | ((with_reducible refine zd 18 rfl ?_); refine zgl Tryz.func138 (spec_Hash.calls k _ _ y241 t244 _ (zCr HO243) ((Kd.R_reads' HO243.out).2.1) A8.out) ?_; rintro e w' ⟨rfl, ⟨nd, rfl⟩⟩; refine ⟨_, rfl, ?_⟩))
  go_ret
  exact ⟨er, bel⟩
 ·
  obtain rfl := Option.some.inj H
  go_enter Tryz.func114, Tryz.ntmps114
  go_wp2_with (first | ((with_reducible refine zd 8 rfl ?_); refine zgl Tryz.func113 (spec_IsWord.calls k a2 false _ A4.out) ?_; rintro e w' ⟨rfl, ⟨nd, rfl⟩⟩; refine ⟨_, rfl, ?_⟩))
  go_ret
  exact ⟨er, bel⟩

/-! ### spec_ChecksAnswer: function 88 -/
def spec_ChecksAnswer.f (k : Nat) (a : List Int) (b c : Int) (d : ByteArray) : Option (Bool) := (spec_l1In.f c 0 (wrap64 ((a.length : Int) - 1))).bind fun e => (if e = true then ((spec_IsWord.f k d).bind fun f => (if f = true then ((spec_SealAnswer.f k b c d).bind fun g => (if 0 ≤ c then (if c < (a.length : Int) then (some (g == (rd a c))) else (none)) else (none))) else (some false))) else (some false))
def spec_ChecksAnswer.T1 : Bool × List (List Nat × List Nat) := (true, [([], []), ([], []), ([1], [1]), ([2], [2]), ([0, 3], [0, 3]), ([4, 4], [4]), ([5], [5]), ([6, 5, 5], [5, 6]), ([5, 7], [5, 7]), ([8, 7], [8]), ([9], [9]), ([9], [9]), ([9], [9]), ([10, 11, 12, 9, 9], [9, 10, 11, 12]), ([9], [9]), ([9], [9]), ([14, 15, 9], [9, 14, 15]), ([16, 9], [9, 16]), ([13, 17, 9], [9, 13, 17]), ([9, 18], [9, 18]), ([19, 13, 0, 1, 2, 3, 4, 5, 6, 7, 8, 9, 10, 11, 12, 13, 14, 15, 16, 17, 18, 19], [19])])
def spec_ChecksAnswer.B1 : List Nat := [0, 0, 2, 6, 15, 31, 63, 127, 255, 511, 1023, 1023, 1023, 8191, 1023, 1023, 50175, 115711, 262143, 524287, 1048575]
theorem spec_ChecksAnswer.tab1 : rtab .any (opsOf Tryz.f88 1) = spec_ChecksAnswer.T1 := by kernel_rfl
theorem spec_ChecksAnswer.bits1 : waitsOk spec_ChecksAnswer.T1.2 spec_ChecksAnswer.B1 = true := by kernel_rfl
set_option maxHeartbeats 8000000 in
set_option maxRecDepth 100000 in
theorem spec_ChecksAnswer.calls (k : Nat) (A0 : Option Addr) (c0 : Nat) (l0 : List Int) (a1 a2 : Int) (a3 : ByteArray) (r : Bool) (w : World) (hr0 : Kd.C (Kd.int .i64) w A0 l0.length l0) (hc0 : l0.length ≤ c0) (H : spec_ChecksAnswer.f k l0 a1 a2 a3 = some r) :
  Calls Tryz.prog 88 #[.slice A0 l0.length c0, .int .i64 a1, .int .i64 a2, .string a3] w fun e w' => e = .returned (.bool r) ∧ Below w.heap.size w w' := by
 have HR0 := Aside0.mk hr0
 have HC0 := Aside0.mk hc0
 clear hr0 hc0
 have HB := Aside0.mk (Below.refl w.heap.size w)
 unfold spec_ChecksAnswer.f at H
 replace H := zs H
 obtain ⟨t245, A5, H⟩ := H
 replace H := zb H
 rcases H with ⟨rfl, H⟩ | ⟨rfl, H⟩
 ·
  replace H := zs H
  obtain ⟨t246, A7, H⟩ := H
  replace H := zb H
  rcases H with ⟨rfl, H⟩ | ⟨rfl, H⟩
  ·
   replace H := zs H
   obtain ⟨t247, A9, H⟩ := H
   replace H := zr H
   obtain ⟨c10b0, H⟩ := H
   replace H := zr H
   obtain ⟨c11b0, H⟩ := H
   obtain rfl := Option.some.inj H
   go_enter Tryz.func88, Tryz.ntmps88
   try go_wp2
   replace HB := zBd HB
   obtain ⟨p248, q248, ad248, e248, hx248_0⟩ := zx (Kd.at_int HR0.out a2)
   have hw248_0 := hx248_0
   cases e248
   replace hx248_0 := zh HB hx248_0
   refine start_ (n := 21) (S := fun w' => w'.cell? (ad248.add (a2).toNat) = some (.int .i64 (rd l0 a2))) (ds := []) #[false, false, false, false, false, false, false, false, false, false, false, false, false, false, false, false, false, false, false, false, false] (by kernel_rfl) rfl rfl (((HB.out.cell (World.block_lt_of_cell? w _ hw248_0)).trans hw248_0)) (fun hHeld => ?_); refine with_tabW spec_ChecksAnswer.tab1 spec_ChecksAnswer.bits1 (fun HT_ HW_ => ?_)
   generalize w.drew = w12 at HB hx248_0 hHeld ⊢
   refine pu 0 (some 9) (bA 21 1) (ao HT_) ?_
   refine pu 1 (some 10) (bA 21 3) (ao HT_) ?_
   refine pu 2 (some 11) (bA 21 7) (ao HT_) ?_
   refine pu 3 (some 12) (bA 21 15) (ao HT_) ?_
   refine one_ (i := 4) (N := some 13) (bA 21 31) rfl rfl (one_of HT_.out (by kernel_rfl)) (by decide) (fun K hK => ?_)
   refine goes_ Tryz.func45 (by kernel_rfl) rfl #[.int .i64 a2, .int .i64 0, .int .i64 (wrap64 ((l0.length : Int) - 1))] (by rfl) rfl rfl ga ?_
   with_reducible refine (spec_l1In.calls a2 0 (wrap64 ((l0.length : Int) - 1)) true _ A5.out).mono ?_
   rintro e w' ⟨rfl, ⟨nd, rfl⟩⟩
   refine ⟨_, rfl, ?_⟩
   refine hK.out _ _ (((HB.out.cell (World.block_lt_of_cell? w _ hw248_0)).trans hw248_0)) (fun hHeld => ?_)
   clear hK K
   refine norm_ (a' := ?_) ?_ ?_
   rotate_left
   ·
    show Act.put _ (some 13) _ = _
    simp only [Act.put, List.setIfInBounds_toArray, List.set_cons_zero, List.set_cons_succ, i64_w, i32_w]
    rfl
   refine pu 5 (some 14) (bA 21 63) (ao HT_) ?_
   refine pu 6 (some 15) (bA 21 127) (ao HT_) ?_
   refine one_ (i := 7) (N := some 16) (bA 21 255) rfl rfl (one_of HT_.out (by kernel_rfl)) (by decide) (fun K hK => ?_)
   refine goes_ Tryz.func113 (by kernel_rfl) rfl #[.string a3] (by rfl) rfl rfl ga ?_
   with_reducible refine (spec_IsWord.calls k a3 true _ A7.out).mono ?_
   rintro e w' ⟨rfl, ⟨nd, rfl⟩⟩
   refine ⟨_, rfl, ?_⟩
   refine hK.out _ _ (((HB.out.cell (World.block_lt_of_cell? w _ hw248_0)).trans hw248_0)) (fun hHeld => ?_)
   clear hK K
   refine norm_ (a' := ?_) ?_ ?_
   rotate_left
   ·
    show Act.put _ (some 16) _ = _
    simp only [Act.put, List.setIfInBounds_toArray, List.set_cons_zero, List.set_cons_succ, i64_w, i32_w]
    rfl
   refine pu 8 (some 17) (bA 21 511) (ao HT_) ?_
   refine pu 9 (some 18) (bA 21 1023) (ao HT_) ?_
   refine pu 10 (some 19) (bA 21 2047) (ao HT_) ?_
   refine pu 11 (some 20) (bA 21 4095) (ao HT_) ?_
   refine pu 12 (some 21) (bA 21 8191) (ao HT_) ?_
   refine pu 14 (some 23) (bA 21 24575) (ao HT_) ?_
   refine pu 15 (some 24) (bA 21 57343) (ao HT_) ?_
   refine pu 16 (some 25) (bA 21 122879) (ao HT_) ?_
   refine take_ (i := 17) (N := some 26) (v := ?_) (a' := ?_) #[true, true, true, true, true, true, true, true, true, true, true, true, true, false, true, true, true, true, false, false, false] rfl rfl (take_ofW HT_.out HW_.out (by kernel_rfl)) (fun _ _ _ h => h) (Or.inl ⟨by rfl, ?_⟩) hHeld ?_ ?_
   rotate_left
   ·
    intro w' s0
    go_simp
    with_reducible rfl
   rotate_left
   ·
    simp only [Act.put, List.setIfInBounds_toArray, List.set_cons_zero, List.set_cons_succ, i64_w, i32_w]
    rfl
   refine one_ (i := 13) (N := some 22) (bA 21 262143) rfl rfl (one_of HT_.out (by kernel_rfl)) (by decide) (fun K hK => ?_)
   refine goes_ Tryz.func114 (by kernel_rfl) rfl #[.int .i64 a1, .int .i64 a2, .string a3] (by rfl) rfl rfl ga ?_
   with_reducible refine (spec_SealAnswer.calls k a1 a2 a3 t247 _ A9.out).mono ?_
   rintro e w13 ⟨rfl, hb⟩
   refine ⟨_, rfl, ?_⟩
   replace HB := zB hb
   (try clear hb)
   (try clear hb2)
   (try clear hk)
   (try clear hi)
   refine hK.out _ _ (((HB.out.cell (World.block_lt_of_cell? w _ hw248_0)).trans hw248_0)) (fun hHeld => ?_)
   clear hK K
   refine norm_ (a' := ?_) ?_ ?_
   rotate_left
   ·
    show Act.put _ (some 22) _ = _
    simp only [Act.put, List.setIfInBounds_toArray, List.set_cons_zero, List.set_cons_succ, i64_w, i32_w]
    rfl
   refine pu 18 (some 27) (bA 21 524287) (ao HT_) ?_
   refine pu 19 (some 28) (bA 21 1048575) (ao HT_) ?_
   refine pu 20 (some 8) (bA 21 2097151) (ao HT_) ?_
   refine done_ (done_of HT_.out (by kernel_rfl)) ?_
   try go_wp2
   go_ret
   exact ⟨er, bel⟩
  ·
   obtain rfl := Option.some.inj H
   go_enter Tryz.func88, Tryz.ntmps88
   try go_wp2
   replace HB := zBd HB
   refine start_ (n := 21) (S := fun w' => True) (ds := []) #[false, false, false, false, false, false, false, false, false, false, false, false, false, false, false, false, false, false, false, false, false] (by kernel_rfl) rfl rfl trivial (fun hHeld => ?_); refine with_tabW spec_ChecksAnswer.tab1 spec_ChecksAnswer.bits1 (fun HT_ HW_ => ?_)
   generalize w.drew = w14 at HB hHeld ⊢
   refine pu 0 (some 9) (bA 21 1) (ao HT_) ?_
   refine pu 1 (some 10) (bA 21 3) (ao HT_) ?_
   refine pu 2 (some 11) (bA 21 7) (ao HT_) ?_
   refine pu 3 (some 12) (bA 21 15) (ao HT_) ?_
   refine one_ (i := 4) (N := some 13) (bA 21 31) rfl rfl (one_of HT_.out (by kernel_rfl)) (by decide) (fun K hK => ?_)
   refine goes_ Tryz.func45 (by kernel_rfl) rfl #[.int .i64 a2, .int .i64 0, .int .i64 (wrap64 ((l0.length : Int) - 1))] (by rfl) rfl rfl ga ?_
   with_reducible refine (spec_l1In.calls a2 0 (wrap64 ((l0.length : Int) - 1)) true _ A5.out).mono ?_
   rintro e w' ⟨rfl, ⟨nd, rfl⟩⟩
   refine ⟨_, rfl, ?_⟩
   refine hK.out _ _ trivial (fun hHeld => ?_)
   clear hK K
   refine norm_ (a' := ?_) ?_ ?_
   rotate_left
   ·
    show Act.put _ (some 13) _ = _
    simp only [Act.put, List.setIfInBounds_toArray, List.set_cons_zero, List.set_cons_succ, i64_w, i32_w]
    rfl
   refine pu 5 (some 14) (bA 21 63) (ao HT_) ?_
   refine pu 6 (some 15) (bA 21 127) (ao HT_) ?_
   refine one_ (i := 7) (N := some 16) (bA 21 255) rfl rfl (one_of HT_.out (by kernel_rfl)) (by decide) (fun K hK => ?_)
   refine goes_ Tryz.func113 (by kernel_rfl) rfl #[.string a3] (by rfl) rfl rfl ga ?_
   with_reducible refine (spec_IsWord.calls k a3 false _ A7.out).mono ?_
   rintro e w' ⟨rfl, ⟨nd, rfl⟩⟩
   refine ⟨_, rfl, ?_⟩
   refine hK.out _ _ trivial (fun hHeld => ?_)
   clear hK K
   refine norm_ (a' := ?_) ?_ ?_
   rotate_left
   ·
    show Act.put _ (some 16) _ = _
    simp only [Act.put, List.setIfInBounds_toArray, List.set_cons_zero, List.set_cons_succ, i64_w, i32_w]
    rfl
   refine pu 8 (some 17) (bA 21 511) (ao HT_) ?_
   refine pu 9 (some 18) (bA 21 1023) (ao HT_) ?_
   refine pv 10 (some 19) (bA 21 2047) (ao HT_) ?_
   refine pv 11 (some 20) (bA 21 4095) (ao HT_) ?_
   refine pv 12 (some 21) (bA 21 8191) (ao HT_) ?_
   refine pv 13 (some 22) (bA 21 16383) (ao HT_) ?_
   refine pv 14 (some 23) (bA 21 32767) (ao HT_) ?_
   refine pv 15 (some 24) (bA 21 65535) (ao HT_) ?_
   refine pv 16 (some 25) (bA 21 131071) (ao HT_) ?_
   refine pv 17 (some 26) (bA 21 262143) (ao HT_) ?_
   refine pv 18 (some 27) (bA 21 524287) (ao HT_) ?_
   refine pu 19 (some 28) (bA 21 1048575) (ao HT_) ?_
   refine pu 20 (some 8) (bA 21 2097151) (ao HT_) ?_
   refine done_ (done_of HT_.out (by kernel_rfl)) ?_
   try go_wp2
   go_ret
   exact ⟨er, bel⟩
 ·
  obtain rfl := Option.some.inj H
  go_enter Tryz.func88, Tryz.ntmps88
  try go_wp2
  replace HB := zBd HB
  refine start_ (n := 21) (S := fun w' => True) (ds := []) #[false, false, false, false, false, false, false, false, false, false, false, false, false, false, false, false, false, false, false, false, false] (by kernel_rfl) rfl rfl trivial (fun hHeld => ?_); refine with_tabW spec_ChecksAnswer.tab1 spec_ChecksAnswer.bits1 (fun HT_ HW_ => ?_)
  generalize w.drew = w15 at HB hHeld ⊢
  refine pu 0 (some 9) (bA 21 1) (ao HT_) ?_
  refine pu 1 (some 10) (bA 21 3) (ao HT_) ?_
  refine pu 2 (some 11) (bA 21 7) (ao HT_) ?_
  refine pu 3 (some 12) (bA 21 15) (ao HT_) ?_
  refine one_ (i := 4) (N := some 13) (bA 21 31) rfl rfl (one_of HT_.out (by kernel_rfl)) (by decide) (fun K hK => ?_)
  refine goes_ Tryz.func45 (by kernel_rfl) rfl #[.int .i64 a2, .int .i64 0, .int .i64 (wrap64 ((l0.length : Int) - 1))] (by rfl) rfl rfl ga ?_
  with_reducible refine (spec_l1In.calls a2 0 (wrap64 ((l0.length : Int) - 1)) false _ A5.out).mono ?_
  rintro e w' ⟨rfl, ⟨nd, rfl⟩⟩
  refine ⟨_, rfl, ?_⟩
  refine hK.out _ _ trivial (fun hHeld => ?_)
  clear hK K
  refine norm_ (a' := ?_) ?_ ?_
  rotate_left
  ·
   show Act.put _ (some 13) _ = _
   simp only [Act.put, List.setIfInBounds_toArray, List.set_cons_zero, List.set_cons_succ, i64_w, i32_w]
   rfl
  refine pu 5 (some 14) (bA 21 63) (ao HT_) ?_
  refine pv 6 (some 15) (bA 21 127) (ao HT_) ?_
  refine pv 7 (some 16) (bA 21 255) (ao HT_) ?_
  refine pu 8 (some 17) (bA 21 511) (ao HT_) ?_
  refine pu 9 (some 18) (bA 21 1023) (ao HT_) ?_
  refine pv 10 (some 19) (bA 21 2047) (ao HT_) ?_
  refine pv 11 (some 20) (bA 21 4095) (ao HT_) ?_
  refine pv 12 (some 21) (bA 21 8191) (ao HT_) ?_
  refine pv 13 (some 22) (bA 21 16383) (ao HT_) ?_
  refine pv 14 (some 23) (bA 21 32767) (ao HT_) ?_
  refine pv 15 (some 24) (bA 21 65535) (ao HT_) ?_
  refine pv 16 (some 25) (bA 21 131071) (ao HT_) ?_
  refine pv 17 (some 26) (bA 21 262143) (ao HT_) ?_
  refine pv 18 (some 27) (bA 21 524287) (ao HT_) ?_
  refine pu 19 (some 28) (bA 21 1048575) (ao HT_) ?_
  refine pu 20 (some 8) (bA 21 2097151) (ao HT_) ?_
  refine done_ (done_of HT_.out (by kernel_rfl)) ?_
  try go_wp2
  go_ret
  exact ⟨er, bel⟩

/-! ### spec_CellsOf: function 115 -/
mutual
def spec_CellsOf.l0 : Nat → List Int → List (S132) → Int → Int → Int → ByteArray → Int → Bool → Int → Int → Option (List Int)
 | 0, _, _, _, _, _, _, _, _, _, _ => none
 | k + 1, a, b, c, d, e, f, g, h, i, j => if c < (b.length : Int) then (if 0 ≤ c then (if (!(((rd_T132 b c).f0) == g) || (!(((rd_T132 b c).f1) == h) || (!(((rd_T132 b c).f2) == i) || (!(((rd_T132 b c).f3) == j))))) = true then (spec_CellsOf.l0 k a b (wrap64 (c + 1)) d e f g h i j) else (spec_CellsOf.l1 k a b c 0 d e f g h i j)) else (none)) else (some a)
def spec_CellsOf.l1 : Nat → List Int → List (S132) → Int → Int → Int → Int → ByteArray → Int → Bool → Int → Int → Option (List Int)
 | 0, _, _, _, _, _, _, _, _, _, _, _ => none
 | k + 1, a, b, c, d, e, f, g, h, i, j, l => if d < l then (if i = true then (if a.length < 17592186044416 then (spec_CellsOf.l1 k (a ++ [wrap64 (j + (wrap64 (d * f)))]) b c (wrap64 (d + 1)) e f g h i j l) else (none)) else (if a.length < 17592186044416 then (spec_CellsOf.l1 k (a ++ [wrap64 (j + d)]) b c (wrap64 (d + 1)) e f g h i j l) else (none))) else (spec_CellsOf.l0 k a b (wrap64 (c + 1)) e f g h i j l)
end
def spec_CellsOf.f (k : Nat) (a b : Int) (c : ByteArray) (d : Int) (e : Bool) (f g : Int) : Option (List Int) := (spec_SlotsOf.f k a b c).bind fun h => (spec_CellsOf.l0 k (([] : List Int)) h 0 a b c d e f g)
set_option maxHeartbeats 8000000 in
set_option maxRecDepth 100000 in
theorem spec_CellsOf.calls (k : Nat) (a0_0 a0_1 : Int) (a0_2 : ByteArray) (a1_0 : Int) (a1_1 : Bool) (a1_2 a1_3 : Int) (r : List Int) (w : World) (H : spec_CellsOf.f k a0_0 a0_1 a0_2 a1_0 a1_1 a1_2 a1_3 = some r) :
  Calls Tryz.prog 115 #[.agg #[.int .i64 a0_0, .int .i64 a0_1, .string a0_2], .agg #[.int .i64 a1_0, .bool a1_1, .int .i64 a1_2, .int .i64 a1_3]] w fun e w' => ∃ v0_ : Value, e = .returned (v0_) ∧ Kd.R (Kd.int .i64) 3 w' w.heap.size (fun _ => True) v0_ r ∧ Below w.heap.size w w' := by
 have hu32 := Tryz.underlying32
 have hu132 := Tryz.underlying132
 have HB := Aside0.mk (Below.refl w.heap.size w)
 unfold spec_CellsOf.f at H
 generalize hy251 : (([] : List Int) : List Int) = y251 at H
 have Ny251 := Aside0.mk hy251.symm
 clear hy251
 replace H := zs H
 obtain ⟨t254, A3, H⟩ := H
 have H' := Aside0.mk H
 clear H
 go_enter Tryz.func115, Tryz.ntmps115
 go_wp2_with (first | ((with_reducible refine zd 2 rfl ?_); refine zbx (w := w) #[.int .i64 a0_0, .int .i64 a0_1, .string a0_2] 32 ?_; intro gb249 hg w4 BK249 hb; have GW249 := zg (w := w) hg; replace HB := zB hb; clear hb hg) | ((with_reducible refine zd 3 rfl ?_); refine zbx (w := w) #[.int .i64 a1_0, .bool a1_1, .int .i64 a1_2, .int .i64 a1_3] 132 ?_; intro gb250 hg w5 BK250 hb; have GW250 := zg (w := w) hg; replace HB := zB hb; have NB249_250 := zn hg BK249; have NB250_249 := zm hg BK249; replace BK249 := zk BK249 hb; clear hb hg) | ((with_reducible refine gate_dst (N := 9) rfl ?_); refine Kd.R_lit (Kd.int .i64) _ 3 ?hg (N := 9) ?hd (xs := ([] : List Int)) (inner := []) (ok := fun _ => True) (okp := fun _ => True) ?hr ?hp (fun _ hk => hk) trivial (Below.refl _ _) (Nat.le_refl _) (by simp) ?_; (case hd => rfl); (case hg => rfl); (case hr => first | (go_simp; done) | (go_simp; rfl)); (case hp => exact (Reps.none _ _)); intro v252 w6 ho7 hb hg_ hnew_; clear hg_ hnew_; (first | rw [← Ny251.out] at ho7 | (simp only [Int.reduceToNat] at ho7; rw [← Ny251.out] at ho7)); have HO253 := zl2 ho7; replace BK249 := zk BK249 hb; replace BK250 := zk BK250 hb; replace HB := zB hb; clear hb ho7; have hnb8 := NB249_250.out; have hnc8 := NB250_249.out; have ⟨_, _, _, _, _, _⟩ := cz3 BK249) | (go_at_call 87; (with_reducible refine (spec_SlotsOf.calls k a0_0 a0_1 a0_2 t254 _ A3.out).mono ?_); rintro e w10 ⟨v255, rfl, ho0, hb⟩; replace HO253 := zR HO253 hb; have HO256 := Aside0.mk (Kd.R_lower (Kd.R_newB ho0 (bk BK250)) bsz); replace BK249 := zk BK249 hb; replace BK250 := zk BK250 hb; replace HB := zB hb))
 repeat (go_quiet (first | ((with_reducible refine zd 2 rfl ?_); refine zbx (w := w) #[.int .i64 a0_0, .int .i64 a0_1, .string a0_2] 32 ?_; intro gb249 hg w4 BK249 hb; have GW249 := zg (w := w) hg; replace HB := zB hb; clear hb hg) | ((with_reducible refine zd 3 rfl ?_); refine zbx (w := w) #[.int .i64 a1_0, .bool a1_1, .int .i64 a1_2, .int .i64 a1_3] 132 ?_; intro gb250 hg w5 BK250 hb; have GW250 := zg (w := w) hg; replace HB := zB hb; have NB249_250 := zn hg BK249; have NB250_249 := zm hg BK249; replace BK249 := zk BK249 hb; clear hb hg) | ((with_reducible refine gate_dst (N := 9) rfl ?_); refine Kd.R_lit (Kd.int .i64) _ 3 ?hg (N := 9) ?hd (xs := ([] : List Int)) (inner := []) (ok := fun _ => True) (okp := fun _ => True) ?hr ?hp (fun _ hk => hk) trivial (Below.refl _ _) (Nat.le_refl _) (by simp) ?_; (case hd => rfl); (case hg => rfl); (case hr => first | (go_simp; done) | (go_simp; rfl)); (case hp => exact (Reps.none _ _)); intro v252 w6 ho7 hb hg_ hnew_; clear hg_ hnew_; (first | rw [← Ny251.out] at ho7 | (simp only [Int.reduceToNat] at ho7; rw [← Ny251.out] at ho7)); have HO253 := zl2 ho7; replace BK249 := zk BK249 hb; replace BK250 := zk BK250 hb; replace HB := zB hb; clear hb ho7; have hnb8 := NB249_250.out; have hnc8 := NB250_249.out; have ⟨_, _, _, _, _, _⟩ := cz3 BK249) | (go_at_call 87; (with_reducible refine (spec_SlotsOf.calls k a0_0 a0_1 a0_2 t254 _ A3.out).mono ?_); rintro e w10 ⟨v255, rfl, ho0, hb⟩; replace HO253 := zR HO253 hb; have HO256 := Aside0.mk (Kd.R_lower (Kd.R_newB ho0 (bk BK250)) bsz); replace BK249 := zk BK249 hb; replace BK250 := zk BK250 hb; replace HB := zB hb)); try go_wp2_with (first | ((with_reducible refine zd 2 rfl ?_); refine zbx (w := w) #[.int .i64 a0_0, .int .i64 a0_1, .string a0_2] 32 ?_; intro gb249 hg w4 BK249 hb; have GW249 := zg (w := w) hg; replace HB := zB hb; clear hb hg) | ((with_reducible refine zd 3 rfl ?_); refine zbx (w := w) #[.int .i64 a1_0, .bool a1_1, .int .i64 a1_2, .int .i64 a1_3] 132 ?_; intro gb250 hg w5 BK250 hb; have GW250 := zg (w := w) hg; replace HB := zB hb; have NB249_250 := zn hg BK249; have NB250_249 := zm hg BK249; replace BK249 := zk BK249 hb; clear hb hg) | ((with_reducible refine gate_dst (N := 9) rfl ?_); refine Kd.R_lit (Kd.int .i64) _ 3 ?hg (N := 9) ?hd (xs := ([] : List Int)) (inner := []) (ok := fun _ => True) (okp := fun _ => True) ?hr ?hp (fun _ hk => hk) trivial (Below.refl _ _) (Nat.le_refl _) (by simp) ?_; (case hd => rfl); (case hg => rfl); (case hr => first | (go_simp; done) | (go_simp; rfl)); (case hp => exact (Reps.none _ _)); intro v252 w6 ho7 hb hg_ hnew_; clear hg_ hnew_; (first | rw [← Ny251.out] at ho7 | (simp only [Int.reduceToNat] at ho7; rw [← Ny251.out] at ho7)); have HO253 := zl2 ho7; replace BK249 := zk BK249 hb; replace BK250 := zk BK250 hb; replace HB := zB hb; clear hb ho7; have hnb8 := NB249_250.out; have hnc8 := NB250_249.out; have ⟨_, _, _, _, _, _⟩ := cz3 BK249) | (go_at_call 87; (with_reducible refine (spec_SlotsOf.calls k a0_0 a0_1 a0_2 t254 _ A3.out).mono ?_); rintro e w10 ⟨v255, rfl, ho0, hb⟩; replace HO253 := zR HO253 hb; have HO256 := Aside0.mk (Kd.R_lower (Kd.R_newB ho0 (bk BK250)) bsz); replace BK249 := zk BK249 hb; replace BK250 := zk BK250 hb; replace HB := zB hb)))
 go_loopg [5, 7] k (fun kq v5 v7 w' => ∃ (x5_1 : List Int) (x7_1 : Int), v7 = .int .i64 x7_1 ∧ Aside0 (spec_CellsOf.l0 kq x5_1 t254 x7_1 a0_0 a0_1 a0_2 a1_0 a1_1 a1_2 a1_3 = some r) ∧ Aside0 (kq ≤ k) ∧ Aside0 (Kd.R (Kd.int .i64) 3 w' w.heap.size (fun _ => True) v5 x5_1) ∧ Aside0 (Kd.R k132 132 w' w.heap.size (fun k_ => k_ ≠ gb250) v255 t254) ∧ Aside0 (w'.heap[gb249]? = some (.cells #[.int .i64 a0_0, .int .i64 a0_1, .string a0_2] 32 (0, 0))) ∧ Aside0 (w'.heap[gb250]? = some (.cells #[.int .i64 a1_0, .bool a1_1, .int .i64 a1_2, .int .i64 a1_3] 132 (0, 0))) ∧ Aside0 (Below w.heap.size w w'))
 case atStart => exact ⟨(y251), (0), rf, H', ⟨Nat.le_refl _⟩, ⟨kr HO253⟩, ⟨by (with_reducible repeat (first | apply Kd.R_alloc | apply Kd.R_drewN | apply Kd.R_drew)); exact Kd.R_mono HO256.out (fun _ hk => hk.2)⟩, ⟨bk BK249⟩, ⟨bk BK250⟩, ⟨bel⟩⟩
 case round =>
  clear H'
  obtain ⟨x5_1, x7_1, rfl, HA, HK1, HO_5, HO_6, BK249, BK250, HB⟩ := hrel
  cases gk with
  | zero => exact absurd HA.out (by simp [spec_CellsOf.l0])
  | succ k1 =>
   have H := HA.out
   clear HA
   simp only [spec_CellsOf.l0] at H
   replace H := zc H
   rcases H with ⟨c11b0, H⟩ | ⟨c11b0, H⟩
   ·
    replace H := zr H
    obtain ⟨c12b0, H⟩ := H
    by_cases c13 : (!(((rd_T132 t254 x7_1).f0) == a1_0) || (!(((rd_T132 t254 x7_1).f1) == a1_1) || (!(((rd_T132 t254 x7_1).f2) == a1_2) || (!(((rd_T132 t254 x7_1).f3) == a1_3))))) = true
    ·
     rw [if_pos c13] at H
     have c13b0 : (!(((rd_T132 t254 x7_1).f0) == a1_0) || (!(((rd_T132 t254 x7_1).f1) == a1_1) || (!(((rd_T132 t254 x7_1).f2) == a1_2) || (!(((rd_T132 t254 x7_1).f3) == a1_3))))) = true := c13
     clear c13
     have H' := Aside0.mk H
     clear H
     obtain ⟨Ao14, co14, eo14⟩ := Kd.R_slice HO_6.out
     subst eo14
     obtain ⟨p257, q257, ad257, e257, hx257_0, hx257_1, hx257_2, hx257_3⟩ := zx (at_T132 (Kd.R_reads' HO_6.out).2.2 x7_1)
     cases e257
     have hnb15 := NB250_249.out
     have hnc15 := NB249_250.out
     have ⟨_, _, _, _, _, _, _, _⟩ := cz4 BK250
     go_wp2
     repeat (go_quiet (fail); try go_wp2)
     go_roundg k1
     case measure => have := HK1.out; omega
     case rel => exact ⟨(x5_1), (wrap64 (x7_1 + 1)), rf, H', ⟨by have := HK1.out; omega⟩, ⟨kr HO_5⟩, ⟨kr HO_6⟩, ⟨bk BK249⟩, ⟨bk BK250⟩, ⟨bel⟩⟩
    ·
     rw [if_neg c13] at H
     have c13b0 : (!(((rd_T132 t254 x7_1).f0) == a1_0) || (!(((rd_T132 t254 x7_1).f1) == a1_1) || (!(((rd_T132 t254 x7_1).f2) == a1_2) || (!(((rd_T132 t254 x7_1).f3) == a1_3))))) = false := by simpa using c13
     clear c13
     have H' := Aside0.mk H
     clear H
     obtain ⟨Ao17, co17, eo17⟩ := Kd.R_slice HO_6.out
     subst eo17
     obtain ⟨p257, q257, ad257, e257, hx257_0, hx257_1, hx257_2, hx257_3⟩ := zx (at_T132 (Kd.R_reads' HO_6.out).2.2 x7_1)
     cases e257
     have hnb18 := NB250_249.out
     have hnc18 := NB249_250.out
     have ⟨_, _, _, _, _, _, _, _⟩ := cz4 BK250
     go_wp2
     repeat (go_quiet (fail); try go_wp2)
     go_loopg [5, 8] k1 (fun kq v5 v8 w' => ∃ (x5_2 : List Int) (x8_2 : Int), v8 = .int .i64 x8_2 ∧ Aside0 (spec_CellsOf.l1 kq x5_2 t254 x7_1 x8_2 a0_0 a0_1 a0_2 a1_0 a1_1 a1_2 a1_3 = some r) ∧ Aside0 (kq ≤ k1) ∧ Aside0 (Kd.R (Kd.int .i64) 3 w' w.heap.size (fun _ => True) v5 x5_2) ∧ Aside0 (Kd.R k132 132 w' w.heap.size (fun k_ => k_ ≠ gb250) (.slice (some ad257) t254.length co17) t254) ∧ Aside0 (w'.heap[gb249]? = some (.cells #[.int .i64 a0_0, .int .i64 a0_1, .string a0_2] 32 (0, 0))) ∧ Aside0 (w'.heap[gb250]? = some (.cells #[.int .i64 a1_0, .bool a1_1, .int .i64 a1_2, .int .i64 a1_3] 132 (0, 0))) ∧ Aside0 (Below w.heap.size w w'))
     case atStart => exact ⟨(x5_1), (0), rf, H', ⟨Nat.le_refl _⟩, ⟨kr HO_5⟩, ⟨kr HO_6⟩, ⟨bk BK249⟩, ⟨bk BK250⟩, ⟨bel⟩⟩
     case round =>
      clear H'
      obtain ⟨x5_2, x8_2, rfl, HA, HK2, HO_5, HO_6, BK249, BK250, HB⟩ := hrel
      cases gk with
      | zero => exact absurd HA.out (by simp [spec_CellsOf.l1])
      | succ k2 =>
       have H := HA.out
       clear HA
       simp only [spec_CellsOf.l1] at H
       replace H := zc H
       rcases H with ⟨c20b0, H⟩ | ⟨c20b0, H⟩
       ·
        replace H := zb H
        rcases H with ⟨rfl, H⟩ | ⟨rfl, H⟩
        ·
         replace H := zl H
         obtain ⟨LMc22, H⟩ := H
         generalize hy258 : (x5_2 ++ [wrap64 (a1_2 + (wrap64 (x8_2 * a0_1)))] : List Int) = y258 at H
         have Ny258 := Aside0.mk hy258.symm
         clear hy258
         have H' := Aside0.mk H
         clear H
         have hnb23 := NB250_249.out
         have hnc23 := NB249_250.out
         have ⟨_, _, _, _, _, _, _, _⟩ := cz4 BK250
         have ⟨_, _, _, _, _, _⟩ := cz3 BK249
         go_wp2_with (first | ((with_reducible refine gate_builtin (b := .append) (xs := #[.tmp 32, .tmp 40]) rfl ?_); at_builtin; refine Kd.R_append (Kd.int .i64) (w0 := w) w.heap.size rfl (.tmp 32) (.tmp 40) 25 3 (.int .i64 0) 8 rfl Tryz.underlying25 info3 rfl (by decide) (by omega) u5 x5_2 (wrap64 (a1_2 + (wrap64 (x8_2 * a0_1)))) [.int .i64 (wrap64 (a1_2 + (wrap64 (x8_2 * a0_1))))] (fun _ => True) (fun _ => False) rfl rfl ?aP (fun _ hk => hk.elim) ?aF ?aO ?aB ?aS ?aL ?_; (case aP => exact rfl); (case aB => exact bel); (case aF => exact (fun _ _ => trivial)); (case aO => exact (kr HO_5)); (case aS => exact bsz); (case aL => have := LMc22.out; omega); intro v259 w26 ho hb hg hat; rw [← Ny258.out] at ho; replace HO_6 := Aside0.mk (Kd.R_over' (kr HO_6) (Kd.R_typed (kr HO_5)) (by decide) hg); replace BK249 := Aside0.mk (blk_grown (bk BK249) hg (Kd.R_ne HO_5.out BK249.out (by decide))); replace BK250 := Aside0.mk (blk_grown (bk BK250) hg (Kd.R_ne HO_5.out BK250.out (by decide))); replace HB := Aside0.mk hb; have HO260 := Aside0.mk ho; clear HO_5; clear ho hb hg hat))
         repeat (go_quiet (first | ((with_reducible refine gate_builtin (b := .append) (xs := #[.tmp 32, .tmp 40]) rfl ?_); at_builtin; refine Kd.R_append (Kd.int .i64) (w0 := w) w.heap.size rfl (.tmp 32) (.tmp 40) 25 3 (.int .i64 0) 8 rfl Tryz.underlying25 info3 rfl (by decide) (by omega) u5 x5_2 (wrap64 (a1_2 + (wrap64 (x8_2 * a0_1)))) [.int .i64 (wrap64 (a1_2 + (wrap64 (x8_2 * a0_1))))] (fun _ => True) (fun _ => False) rfl rfl ?aP (fun _ hk => hk.elim) ?aF ?aO ?aB ?aS ?aL ?_; (case aP => exact rfl); (case aB => exact bel); (case aF => exact (fun _ _ => trivial)); (case aO => exact (kr HO_5)); (case aS => exact bsz); (case aL => have := LMc22.out; omega); intro v259 w26 ho hb hg hat; rw [← Ny258.out] at ho; replace HO_6 := Aside0.mk (Kd.R_over' (kr HO_6) (Kd.R_typed (kr HO_5)) (by decide) hg); replace BK249 := Aside0.mk (blk_grown (bk BK249) hg (Kd.R_ne HO_5.out BK249.out (by decide))); replace BK250 := Aside0.mk (blk_grown (bk BK250) hg (Kd.R_ne HO_5.out BK250.out (by decide))); replace HB := Aside0.mk hb; have HO260 := Aside0.mk ho; clear HO_5; clear ho hb hg hat)); try go_wp2_with (first | ((with_reducible refine gate_builtin (b := .append) (xs := #[.tmp 32, .tmp 40]) rfl ?_); at_builtin; refine Kd.R_append (Kd.int .i64) (w0 := w) w.heap.size rfl (.tmp 32) (.tmp 40) 25 3 (.int .i64 0) 8 rfl Tryz.underlying25 info3 rfl (by decide) (by omega) u5 x5_2 (wrap64 (a1_2 + (wrap64 (x8_2 * a0_1)))) [.int .i64 (wrap64 (a1_2 + (wrap64 (x8_2 * a0_1))))] (fun _ => True) (fun _ => False) rfl rfl ?aP (fun _ hk => hk.elim) ?aF ?aO ?aB ?aS ?aL ?_; (case aP => exact rfl); (case aB => exact bel); (case aF => exact (fun _ _ => trivial)); (case aO => exact (kr HO_5)); (case aS => exact bsz); (case aL => have := LMc22.out; omega); intro v259 w26 ho hb hg hat; rw [← Ny258.out] at ho; replace HO_6 := Aside0.mk (Kd.R_over' (kr HO_6) (Kd.R_typed (kr HO_5)) (by decide) hg); replace BK249 := Aside0.mk (blk_grown (bk BK249) hg (Kd.R_ne HO_5.out BK249.out (by decide))); replace BK250 := Aside0.mk (blk_grown (bk BK250) hg (Kd.R_ne HO_5.out BK250.out (by decide))); replace HB := Aside0.mk hb; have HO260 := Aside0.mk ho; clear HO_5; clear ho hb hg hat)))
         go_roundg k2
         case measure => have := HK1.out; have := HK2.out; omega
         case rel => exact ⟨(y258), (wrap64 (x8_2 + 1)), rf, H', ⟨by have := HK1.out; have := HK2.out; omega⟩, ⟨kr HO260⟩, ⟨kr HO_6⟩, ⟨bk BK249⟩, ⟨bk BK250⟩, ⟨bel⟩⟩
        ·
         replace H := zl H
         obtain ⟨LMc27, H⟩ := H
         generalize hy261 : (x5_2 ++ [wrap64 (a1_2 + x8_2)] : List Int) = y261 at H
         have Ny261 := Aside0.mk hy261.symm
         clear hy261
         have H' := Aside0.mk H
         clear H
         have hnb28 := NB250_249.out
         have hnc28 := NB249_250.out
         have ⟨_, _, _, _, _, _, _, _⟩ := cz4 BK250
         go_wp2_with (first | ((with_reducible refine gate_builtin (b := .append) (xs := #[.tmp 42, .tmp 47]) rfl ?_); at_builtin; refine Kd.R_append (Kd.int .i64) (w0 := w) w.heap.size rfl (.tmp 42) (.tmp 47) 25 3 (.int .i64 0) 8 rfl Tryz.underlying25 info3 rfl (by decide) (by omega) u5 x5_2 (wrap64 (a1_2 + x8_2)) [.int .i64 (wrap64 (a1_2 + x8_2))] (fun _ => True) (fun _ => False) rfl rfl ?aP (fun _ hk => hk.elim) ?aF ?aO ?aB ?aS ?aL ?_; (case aP => exact rfl); (case aB => exact bel); (case aF => exact (fun _ _ => trivial)); (case aO => exact (kr HO_5)); (case aS => exact bsz); (case aL => have := LMc27.out; omega); intro v262 w30 ho hb hg hat; rw [← Ny261.out] at ho; replace HO_6 := Aside0.mk (Kd.R_over' (kr HO_6) (Kd.R_typed (kr HO_5)) (by decide) hg); replace BK249 := Aside0.mk (blk_grown (bk BK249) hg (Kd.R_ne HO_5.out BK249.out (by decide))); replace BK250 := Aside0.mk (blk_grown (bk BK250) hg (Kd.R_ne HO_5.out BK250.out (by decide))); replace HB := Aside0.mk hb; have HO263 := Aside0.mk ho; clear HO_5; clear ho hb hg hat))
         repeat (go_quiet (first | ((with_reducible refine gate_builtin (b := .append) (xs := #[.tmp 42, .tmp 47]) rfl ?_); at_builtin; refine Kd.R_append (Kd.int .i64) (w0 := w) w.heap.size rfl (.tmp 42) (.tmp 47) 25 3 (.int .i64 0) 8 rfl Tryz.underlying25 info3 rfl (by decide) (by omega) u5 x5_2 (wrap64 (a1_2 + x8_2)) [.int .i64 (wrap64 (a1_2 + x8_2))] (fun _ => True) (fun _ => False) rfl rfl ?aP (fun _ hk => hk.elim) ?aF ?aO ?aB ?aS ?aL ?_; (case aP => exact rfl); (case aB => exact bel); (case aF => exact (fun _ _ => trivial)); (case aO => exact (kr HO_5)); (case aS => exact bsz); (case aL => have := LMc27.out; omega); intro v262 w30 ho hb hg hat; rw [← Ny261.out] at ho; replace HO_6 := Aside0.mk (Kd.R_over' (kr HO_6) (Kd.R_typed (kr HO_5)) (by decide) hg); replace BK249 := Aside0.mk (blk_grown (bk BK249) hg (Kd.R_ne HO_5.out BK249.out (by decide))); replace BK250 := Aside0.mk (blk_grown (bk BK250) hg (Kd.R_ne HO_5.out BK250.out (by decide))); replace HB := Aside0.mk hb; have HO263 := Aside0.mk ho; clear HO_5; clear ho hb hg hat)); try go_wp2_with (first | ((with_reducible refine gate_builtin (b := .append) (xs := #[.tmp 42, .tmp 47]) rfl ?_); at_builtin; refine Kd.R_append (Kd.int .i64) (w0 := w) w.heap.size rfl (.tmp 42) (.tmp 47) 25 3 (.int .i64 0) 8 rfl Tryz.underlying25 info3 rfl (by decide) (by omega) u5 x5_2 (wrap64 (a1_2 + x8_2)) [.int .i64 (wrap64 (a1_2 + x8_2))] (fun _ => True) (fun _ => False) rfl rfl ?aP (fun _ hk => hk.elim) ?aF ?aO ?aB ?aS ?aL ?_; (case aP => exact rfl); (case aB => exact bel); (case aF => exact (fun _ _ => trivial)); (case aO => exact (kr HO_5)); (case aS => exact bsz); (case aL => have := LMc27.out; omega); intro v262 w30 ho hb hg hat; rw [← Ny261.out] at ho; replace HO_6 := Aside0.mk (Kd.R_over' (kr HO_6) (Kd.R_typed (kr HO_5)) (by decide) hg); replace BK249 := Aside0.mk (blk_grown (bk BK249) hg (Kd.R_ne HO_5.out BK249.out (by decide))); replace BK250 := Aside0.mk (blk_grown (bk BK250) hg (Kd.R_ne HO_5.out BK250.out (by decide))); replace HB := Aside0.mk hb; have HO263 := Aside0.mk ho; clear HO_5; clear ho hb hg hat)))
         go_roundg k2
         case measure => have := HK1.out; have := HK2.out; omega
         case rel => exact ⟨(y261), (wrap64 (x8_2 + 1)), rf, H', ⟨by have := HK1.out; have := HK2.out; omega⟩, ⟨kr HO263⟩, ⟨kr HO_6⟩, ⟨bk BK249⟩, ⟨bk BK250⟩, ⟨bel⟩⟩
       ·
        have H' := Aside0.mk H
        clear H
        have hnb31 := NB250_249.out
        have hnc31 := NB249_250.out
        have ⟨_, _, _, _, _, _, _, _⟩ := cz4 BK250
        go_wp2
        repeat (go_quiet (fail); try go_wp2)
        go_roundg k2
        case measure => have := HK1.out; have := HK2.out; omega
        case rel => exact ⟨(x5_2), (wrap64 (x7_1 + 1)), rf, H', ⟨by have := HK1.out; have := HK2.out; omega⟩, ⟨kr HO_5⟩, ⟨kr HO_6⟩, ⟨bk BK249⟩, ⟨bk BK250⟩, ⟨bel⟩⟩
   ·
    obtain rfl := Option.some.inj H
    obtain ⟨Ao33, co33, eo33⟩ := Kd.R_slice HO_6.out
    subst eo33
    go_wp2
    repeat (go_quiet (fail); try go_wp2)
    go_ret
    exact ⟨_, er, kr HO_5, bel⟩

end Go.Proofs.YtpcdfjcbjbkliaaGreat.E
