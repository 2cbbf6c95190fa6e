import Derived.Test.YtpcdfjcbjbkliaaGreatSq
import Derived.Test.YtpcdfjcbjbkliaaGreatQ0
import Derived.Test.YtpcdfjcbjbkliaaGreatQ17
import Derived.Test.YtpcdfjcbjbkliaaGreatQ19
namespace Go.Proofs.YtpcdfjcbjbkliaaGreat.E
open Go.RowKit Go.Proofs.YtpcdfjcbjbkliaaGreatW.PrintWords Go.Proofs.YtpcdfjcbjbkliaaGreatW.PrintLast Go.Proofs.YtpcdfjcbjbkliaaGreatW.PrintMore
attribute [local go_sem] max2_int min2_int max_two min_two max_three min_three max_four min_four
set_option linter.unusedVariables false
set_option linter.unusedSimpArgs false

/-! ### impl_Hash: function 141 -/
def impl_Hash.l0 : Nat → Int → List Int → Int → Int → Option (Int)
 | 0, _, _, _, _ => none
 | k + 1, a, b, c, d => if d < c then (if 0 ≤ d then (if d < (b.length : Int) then ((impl_Mod.f (rd b d) 2147483647).bind fun e => (impl_Hash.l0 k (Int.tmod (wrap64 ((wrap64 ((wrap64 (a * 1000003)) + e)) + 13)) 2147483647) b c (wrap64 (d + 1)))) else (none)) else (none)) else (some a)
def impl_Hash.f (k : Nat) (a : List Int) : Option (Int) := impl_Hash.l0 k 11 a (a.length : Int) 0
set_option maxHeartbeats 8000000 in
set_option maxRecDepth 100000 in
theorem impl_Hash.calls (k : Nat) (A0 : Option Addr) (c0 : Nat) (l0 : List Int) (r : Int) (w : World) (hr0 : Kd.C (Kd.int .i64) w A0 l0.length l0) (hc0 : l0.length ≤ c0) (H : impl_Hash.f k l0 = some r) :
  Calls Tryz.prog 141 #[.slice A0 l0.length c0] w fun e w' => e = .returned (.int .i64 r) ∧ Drawn0 w w' := by
 have HR0 := Aside0.mk hr0
 have HC0 := Aside0.mk hc0
 clear hr0 hc0
 unfold impl_Hash.f at H
 have H' := Aside0.mk H
 clear H
 go_enter Tryz.func141, Tryz.ntmps141
 go_wp2
 go_loopg [3, 8] k (fun kq v3 v8 w' => ∃ (x3_1 : Int) (x8_1 : Int), v3 = .int .i64 x3_1 ∧ v8 = .int .i64 x8_1 ∧ Aside0 (impl_Hash.l0 kq x3_1 l0 (l0.length : Int) x8_1 = some r) ∧ Aside0 (kq ≤ k) ∧ Drawn0 w w')
 case atStart => exact ⟨(11), (0), rf, rf, H', ⟨Nat.le_refl _⟩, by repeat (first | exact Drawn0.refl _ | apply Drawn0.step)⟩
 case round =>
  clear H'
  obtain ⟨x3_1, x8_1, rfl, rfl, HA, HK1, ⟨m1, rfl⟩⟩ := hrel
  cases gk with
  | zero => exact absurd HA.out (by simp [impl_Hash.l0])
  | succ k1 =>
   have H := HA.out
   clear HA
   simp only [impl_Hash.l0] at H
   replace H := zc H
   rcases H with ⟨c2b0, H⟩ | ⟨c2b0, H⟩
   ·
    replace H := zr H
    obtain ⟨c3b0, H⟩ := H
    replace H := zr H
    obtain ⟨c4b0, H⟩ := H
    replace H := zs H
    obtain ⟨t578, A5, H⟩ := H
    have H' := Aside0.mk H
    clear H
    obtain ⟨p577, q577, ad577, e577, hx577_0⟩ := zx (Kd.at_int HR0.out x8_1)
    cases e577
    go_wp2_with (first | ((with_reducible refine zd 15 rfl ?_); refine zgl Tryz.func169 (impl_Mod.calls (rd l0 x8_1) 2147483647 t578 _ A5.out) ?_; rintro e w' ⟨rfl, ⟨nd, rfl⟩⟩; refine ⟨_, rfl, ?_⟩))
    go_roundg k1
    case measure => have := HK1.out; omega
    case rel => exact ⟨(Int.tmod (wrap64 ((wrap64 ((wrap64 (x3_1 * 1000003)) + t578)) + 13)) 2147483647), (wrap64 (x8_1 + 1)), rf, rf, H', ⟨by have := HK1.out; omega⟩, by repeat (first | exact Drawn0.refl _ | apply Drawn0.step)⟩
   ·
    obtain rfl := Option.some.inj H
    go_wp2
    go_ret
    exact ⟨by first | rfl | (simp; done) | (simp [*]; done), by repeat (first | exact Drawn0.refl _ | apply Drawn0.step)⟩

/-! ### impl_LettersOf: function 142 -/
def impl_LettersOf.l0 : Nat → ByteArray → List Int → Int → Int → Option (List Int)
 | 0, _, _, _, _ => none
 | k + 1, a, b, c, d => if d < c then (if 0 ≤ d then (if d < (a.size : Int) then (if b.length < 17592186044416 then (impl_LettersOf.l0 k a (b ++ [wrap64 (bt a d)]) c (wrap64 (d + 1))) else (none)) else (none)) else (none)) else (some b)
def impl_LettersOf.f (k : Nat) (a : ByteArray) : Option (List Int) := impl_LettersOf.l0 k a ([] : List Int) (a.size : Int) 0
set_option maxHeartbeats 8000000 in
set_option maxRecDepth 100000 in
theorem impl_LettersOf.calls (k : Nat) (a0 : ByteArray) (r : List Int) (w : World) (H : impl_LettersOf.f k a0 = some r) :
  Calls Tryz.prog 142 #[.string a0] w fun e w' => ∃ v0_ : Value, e = .returned (v0_) ∧ Kd.R (Kd.int .i64) 3 w' w.heap.size (fun _ => True) v0_ r ∧ Below w.heap.size w w' := by
 have HB := Aside0.mk (Below.refl w.heap.size w)
 unfold impl_LettersOf.f at H
 have H' := Aside0.mk H
 clear H
 go_enter Tryz.func142, Tryz.ntmps142
 go_wp2
 go_loopg [3, 7] k (fun kq v3 v7 w' => ∃ (x3_1 : List Int) (x7_1 : Int), v7 = .int .i64 x7_1 ∧ Aside0 (impl_LettersOf.l0 kq a0 x3_1 (a0.size : Int) x7_1 = some r) ∧ Aside0 (kq ≤ k) ∧ Aside0 (Kd.R (Kd.int .i64) 3 w' w.heap.size (fun _ => True) v3 x3_1) ∧ Aside0 (Below w.heap.size w w'))
 case atStart => exact ⟨(([] : List Int)), (0), rf, H', ⟨Nat.le_refl _⟩, ⟨by first | exact Kd.R_nil _ _ _ _ _ | exact Kd.N_nil _ _ _ _ _ | exact Kd.V_nil _ _ _ _ _ | exact Kd.Q_nil _ _ _ _ _ | exact Kd.S_nil _ _ _ _ _⟩, ⟨bel⟩⟩
 case round =>
  clear H'
  obtain ⟨x3_1, x7_1, rfl, HA, HK1, HO_3, HB⟩ := hrel
  cases gk with
  | zero => exact absurd HA.out (by simp [impl_LettersOf.l0])
  | succ k1 =>
   have H := HA.out
   clear HA
   simp only [impl_LettersOf.l0] at H
   replace H := zc H
   rcases H with ⟨c2b0, H⟩ | ⟨c2b0, H⟩
   ·
    replace H := zr H
    obtain ⟨c3b0, H⟩ := H
    replace H := zr H
    obtain ⟨c4b0, H⟩ := H
    replace H := zl H
    obtain ⟨LMc6, H⟩ := H
    generalize hy579 : (x3_1 ++ [wrap64 (bt a0 x7_1)] : List Int) = y579 at H
    have Ny579 := Aside0.mk hy579.symm
    clear hy579
    have H' := Aside0.mk H
    clear H
    obtain ⟨p5, q5, hx5⟩ := zxb a0 x7_1
    go_wp2_with (first | ((with_reducible refine gate_builtin (b := .append) (xs := #[.tmp 10, .tmp 15]) rfl ?_); at_builtin; refine Kd.R_append (Kd.int .i64) (w0 := w) w.heap.size rfl (.tmp 10) (.tmp 15) 25 3 (.int .i64 0) 8 rfl Tryz.underlying25 info3 rfl (by decide) (by omega) u3 x3_1 (wrap64 (bt a0 x7_1)) [.int .i64 (wrap64 (bt a0 x7_1))] (fun _ => True) (fun _ => False) rfl rfl ?aP (fun _ hk => hk.elim) ?aF ?aO ?aB ?aS ?aL ?_; (case aP => exact rfl); (case aB => exact bel); (case aF => exact (fun _ _ => trivial)); (case aO => exact (kr HO_3)); (case aS => exact bsz); (case aL => have := LMc6.out; omega); intro v580 w7 ho hb hg hat; rw [← Ny579.out] at ho; replace HB := Aside0.mk hb; have HO581 := Aside0.mk ho; clear HO_3; clear ho hb hg hat))
    go_roundg k1
    case measure => have := HK1.out; omega
    case rel => exact ⟨(y579), (wrap64 (x7_1 + 1)), rf, H', ⟨by have := HK1.out; omega⟩, ⟨kr HO581⟩, ⟨bel⟩⟩
   ·
    obtain rfl := Option.some.inj H
    go_wp2
    go_ret
    exact ⟨_, er, kr HO_3, bel⟩

/-! ### impl_SealAnswer: function 120 -/
def impl_SealAnswer.f (k : Nat) (a b : Int) (c : ByteArray) : Option (Int) := (impl_IsWord.f k c).bind fun d => (if d = true then ((some (([a, b, (c.size : Int)] : List Int) : List Int)).bind fun e => ((impl_LettersOf.f k c).bind fun f => (if e.length + f.length < 17592186044416 then ((impl_Hash.f k (e ++ f)).bind fun g => (some g)) else (none)))) else (some 0))
set_option maxHeartbeats 8000000 in
set_option maxRecDepth 100000 in
theorem impl_SealAnswer.calls (k : Nat) (a0 a1 : Int) (a2 : ByteArray) (r : Int) (w : World) (H : impl_SealAnswer.f k a0 a1 a2 = some r) :
  Calls Tryz.prog 120 #[.int .i64 a0, .int .i64 a1, .string a2] w fun e w' => e = .returned (.int .i64 r) ∧ Below w.heap.size w w' := by
 have HB := Aside0.mk (Below.refl w.heap.size w)
 unfold impl_SealAnswer.f at H
 replace H := zs H
 obtain ⟨t582, A4, H⟩ := H
 replace H := zb H
 rcases H with ⟨rfl, H⟩ | ⟨rfl, H⟩
 ·
  replace H := zy H
  obtain ⟨y583, Ny583, H⟩ := H
  replace H := zs H
  obtain ⟨t586, A6, H⟩ := H
  replace H := zl H
  obtain ⟨LMc7, H⟩ := H
  generalize hy589 : (y583 ++ t586 : List Int) = y589 at H
  have Ny589 := Aside0.mk hy589.symm
  clear hy589
  replace H := zs H
  obtain ⟨t592, A8, H⟩ := H
  obtain rfl := Option.some.inj H
  go_enter Tryz.func120, Tryz.ntmps120
  go_wp2_with (first | ((with_reducible refine zd 8 rfl ?_); refine zgl Tryz.func119 (impl_IsWord.calls k a2 true _ A4.out) ?_; rintro e w' ⟨rfl, ⟨nd, rfl⟩⟩; refine ⟨_, rfl, ?_⟩) | ((with_reducible refine gate_dst (N := 14) rfl ?_); refine Kd.R_lit (Kd.int .i64) _ 3 ?hg (N := 14) ?hd (xs := ([a0, a1, (a2.size : Int)] : List Int)) (inner := [.int .i64 a0, .int .i64 a1, .int .i64 (a2.size : Int)]) (ok := fun _ => True) (okp := fun _ => True) ?hr ?hp (fun _ hk => hk) trivial (Below.refl _ _) (Nat.le_refl _) (by simp) ?_; (case hd => rfl); (case hg => rfl); (case hr => first | (go_simp; done) | (go_simp; rfl)); (case hp => exact (Reps.one (show Kd.M (Kd.int .i64) _ _ _ a0 [.int .i64 a0] from rfl) (Reps.one (show Kd.M (Kd.int .i64) _ _ _ a1 [.int .i64 a1] from rfl) (Reps.one (show Kd.M (Kd.int .i64) _ _ _ (a2.size : Int) [.int .i64 (a2.size : Int)] from rfl) (Reps.none _ _))))); intro v584 w9 ho10 hb hg_ hnew_; clear hg_ hnew_; (first | rw [← Ny583.out] at ho10 | (simp only [Int.reduceToNat] at ho10; rw [← Ny583.out] at ho10)); have HO585 := zl2 ho10; replace HB := zB hb; clear hb ho10) | ((with_reducible refine zd 16 rfl ?_); refine zgl Tryz.func142 (impl_LettersOf.calls k a2 t586 _ A6.out) ?_; rintro e w11 ⟨v587, rfl, ho0, hb⟩; refine ⟨_, rfl, ?_⟩; have HO588 := Aside0.mk (Kd.R_lower (Kd.R_new' ho0 (Kd.R_lt (kr HO585))) bsz); replace HO585 := Aside0.mk (Kd.R_elder' (kr HO585) (Kd.R_base ho0) hb); replace HB := zB hb; obtain ⟨Ao13, co13, eo13⟩ := Kd.R_slice HO588.out; subst eo13) | ((with_reducible refine gate_builtin (b := .append) (xs := #[.tmp 14, .tmp 16]) rfl ?_); at_builtin; refine Kd.R_append_rows (Kd.int .i64) (w0 := w) w.heap.size rfl (.tmp 14) (.tmp 16) 25 3 (.int .i64 0) 8 rfl Tryz.underlying25 info3 rfl (by decide) (by omega) v584 y583 t586 _ _ _ (fun k_ => some k_ ≠ (.slice Ao13 t586.length co13 : Value).ownBlock) (fun _ => False) rfl rfl ?aO ?aR (fun _ _ h => h) (fun _ h => h.elim) ?aF ?aB ?aS ?aL ?_; (case aR => repeat (first | exact (Kd.R_reads' HO588.out).2.2 | (with_reducible refine Kd.C_alloc ?_ _) | (with_reducible refine Kd.C_drewN ?_ _) | (with_reducible refine Kd.C_drew ?_))); (case aB => exact bel); (case aF => exact (fun k_ hk => Kd.fresh' (Kd.R_lt (kr HO588)) k_ hk)); (case aO => exact (by (with_reducible repeat (first | apply Kd.R_alloc | apply Kd.R_drewN | apply Kd.R_drew)); exact Kd.R_mono HO585.out (fun _ hk => hk.2))); (case aS => exact bsz); (case aL => have := LMc7.out; omega); intro v590 w12 ho hb hg hat; rw [← Ny589.out] at ho; replace HO588 := Aside0.mk (Kd.R_after (ok := (fun _ => True)) (kr HO588) hg hat); replace HB := Aside0.mk hb; have HO591 := Aside0.mk ho; clear HO585; clear ho hb hg hat; obtain ⟨Ao14, co14, eo14⟩ := Kd.R_slice HO591.out; subst eo14) | ((with_reducible refine zd 18 rfl ?_); refine zgl Tryz.func141 (impl_Hash.calls k _ _ y589 t592 _ (zCr HO591) ((Kd.R_reads' HO591.out).2.1) A8.out) ?_; rintro e w' ⟨rfl, ⟨nd, rfl⟩⟩; refine ⟨_, rfl, ?_⟩))
  go_ret
  exact ⟨er, bel⟩
 ·
  obtain rfl := Option.some.inj H
  go_enter Tryz.func120, Tryz.ntmps120
  go_wp2_with (first | ((with_reducible refine zd 8 rfl ?_); refine zgl Tryz.func119 (impl_IsWord.calls k a2 false _ A4.out) ?_; rintro e w' ⟨rfl, ⟨nd, rfl⟩⟩; refine ⟨_, rfl, ?_⟩))
  go_ret
  exact ⟨er, bel⟩

/-! ### impl_ChecksAnswer: function 91 -/
def impl_ChecksAnswer.f (k : Nat) (a : List Int) (b c : Int) (d : ByteArray) : Option (Bool) := (impl_at.f c (a.length : Int)).bind fun e => (if e = true then ((impl_IsWord.f k d).bind fun f => (if f = true then ((impl_SealAnswer.f k b c d).bind fun g => (if 0 ≤ c then (if c < (a.length : Int) then (some (g == (rd a c))) else (none)) else (none))) else (some false))) else (some false))
def impl_ChecksAnswer.T1 : Bool × List (List Nat × List Nat) := (true, [([], []), ([], []), ([1], [1]), ([0, 2], [0, 2]), ([3, 3], [3]), ([4], [4]), ([5, 4, 4], [4, 5]), ([4, 6], [4, 6]), ([7, 6], [7]), ([8], [8]), ([8], [8]), ([8], [8]), ([9, 10, 11, 8, 8], [8, 9, 10, 11]), ([8], [8]), ([8], [8]), ([13, 14, 8], [8, 13, 14]), ([15, 8], [8, 15]), ([12, 16, 8], [8, 12, 16]), ([8, 17], [8, 17]), ([18, 12, 0, 1, 2, 3, 4, 5, 6, 7, 8, 9, 10, 11, 12, 13, 14, 15, 16, 17, 18], [18])])
def impl_ChecksAnswer.B1 : List Nat := [0, 0, 2, 7, 15, 31, 63, 127, 255, 511, 511, 511, 4095, 511, 511, 25087, 57855, 131071, 262143, 524287]
theorem impl_ChecksAnswer.tab1 : rtab .any (opsOf Tryz.f91 1) = impl_ChecksAnswer.T1 := by kernel_rfl
theorem impl_ChecksAnswer.bits1 : waitsOk impl_ChecksAnswer.T1.2 impl_ChecksAnswer.B1 = true := by kernel_rfl
set_option maxHeartbeats 8000000 in
set_option maxRecDepth 100000 in
theorem impl_ChecksAnswer.calls (k : Nat) (A0 : Option Addr) (c0 : Nat) (l0 : List Int) (a1 a2 : Int) (a3 : ByteArray) (r : Bool) (w : World) (hr0 : Kd.C (Kd.int .i64) w A0 l0.length l0) (hc0 : l0.length ≤ c0) (H : impl_ChecksAnswer.f k l0 a1 a2 a3 = some r) :
  Calls Tryz.prog 91 #[.slice A0 l0.length c0, .int .i64 a1, .int .i64 a2, .string a3] w fun e w' => e = .returned (.bool r) ∧ Below w.heap.size w w' := by
 have HR0 := Aside0.mk hr0
 have HC0 := Aside0.mk hc0
 clear hr0 hc0
 have HB := Aside0.mk (Below.refl w.heap.size w)
 unfold impl_ChecksAnswer.f at H
 replace H := zs H
 obtain ⟨t593, A5, H⟩ := H
 replace H := zb H
 rcases H with ⟨rfl, H⟩ | ⟨rfl, H⟩
 ·
  replace H := zs H
  obtain ⟨t594, A7, H⟩ := H
  replace H := zb H
  rcases H with ⟨rfl, H⟩ | ⟨rfl, H⟩
  ·
   replace H := zs H
   obtain ⟨t595, A9, H⟩ := H
   replace H := zr H
   obtain ⟨c10b0, H⟩ := H
   replace H := zr H
   obtain ⟨c11b0, H⟩ := H
   obtain rfl := Option.some.inj H
   go_enter Tryz.func91, Tryz.ntmps91
   try go_wp2
   replace HB := zBd HB
   obtain ⟨p596, q596, ad596, e596, hx596_0⟩ := zx (Kd.at_int HR0.out a2)
   have hw596_0 := hx596_0
   cases e596
   replace hx596_0 := zh HB hx596_0
   refine start_ (n := 20) (S := fun w' => w'.cell? (ad596.add (a2).toNat) = some (.int .i64 (rd l0 a2))) (ds := []) #[false, false, false, false, false, false, false, false, false, false, false, false, false, false, false, false, false, false, false, false] (by kernel_rfl) rfl rfl (((HB.out.cell (World.block_lt_of_cell? w _ hw596_0)).trans hw596_0)) (fun hHeld => ?_); refine with_tabW impl_ChecksAnswer.tab1 impl_ChecksAnswer.bits1 (fun HT_ HW_ => ?_)
   generalize w.drew = w12 at HB hx596_0 hHeld ⊢
   refine pu 0 (some 9) (bA 20 1) (ao HT_) ?_
   refine pu 1 (some 10) (bA 20 3) (ao HT_) ?_
   refine pu 2 (some 11) (bA 20 7) (ao HT_) ?_
   refine one_ (i := 3) (N := some 12) (bA 20 15) rfl rfl (one_of HT_.out (by kernel_rfl)) (by decide) (fun K hK => ?_)
   refine goes_ Tryz.func118 (by kernel_rfl) rfl #[.int .i64 a2, .int .i64 (l0.length : Int)] (by rfl) rfl rfl ga ?_
   with_reducible refine (impl_at.calls a2 (l0.length : Int) true _ A5.out).mono ?_
   rintro e w' ⟨rfl, ⟨nd, rfl⟩⟩
   refine ⟨_, rfl, ?_⟩
   refine hK.out _ _ (((HB.out.cell (World.block_lt_of_cell? w _ hw596_0)).trans hw596_0)) (fun hHeld => ?_)
   clear hK K
   refine norm_ (a' := ?_) ?_ ?_
   rotate_left
   ·
    show Act.put _ (some 12) _ = _
    simp only [Act.put, List.setIfInBounds_toArray, List.set_cons_zero, List.set_cons_succ, i64_w, i32_w]
    rfl
   refine pu 4 (some 13) (bA 20 31) (ao HT_) ?_
   refine pu 5 (some 14) (bA 20 63) (ao HT_) ?_
   refine one_ (i := 6) (N := some 15) (bA 20 127) rfl rfl (one_of HT_.out (by kernel_rfl)) (by decide) (fun K hK => ?_)
   refine goes_ Tryz.func119 (by kernel_rfl) rfl #[.string a3] (by rfl) rfl rfl ga ?_
   with_reducible refine (impl_IsWord.calls k a3 true _ A7.out).mono ?_
   rintro e w' ⟨rfl, ⟨nd, rfl⟩⟩
   refine ⟨_, rfl, ?_⟩
   refine hK.out _ _ (((HB.out.cell (World.block_lt_of_cell? w _ hw596_0)).trans hw596_0)) (fun hHeld => ?_)
   clear hK K
   refine norm_ (a' := ?_) ?_ ?_
   rotate_left
   ·
    show Act.put _ (some 15) _ = _
    simp only [Act.put, List.setIfInBounds_toArray, List.set_cons_zero, List.set_cons_succ, i64_w, i32_w]
    rfl
   refine pu 7 (some 16) (bA 20 255) (ao HT_) ?_
   refine pu 8 (some 17) (bA 20 511) (ao HT_) ?_
   refine pu 9 (some 18) (bA 20 1023) (ao HT_) ?_
   refine pu 10 (some 19) (bA 20 2047) (ao HT_) ?_
   refine pu 11 (some 20) (bA 20 4095) (ao HT_) ?_
   refine pu 13 (some 22) (bA 20 12287) (ao HT_) ?_
   refine pu 14 (some 23) (bA 20 28671) (ao HT_) ?_
   refine pu 15 (some 24) (bA 20 61439) (ao HT_) ?_
   refine take_ (i := 16) (N := some 25) (v := ?_) (a' := ?_) #[true, true, true, true, true, true, true, true, true, true, true, true, false, true, true, true, true, false, false, false] rfl rfl (take_ofW HT_.out HW_.out (by kernel_rfl)) (fun _ _ _ h => h) (Or.inl ⟨by rfl, ?_⟩) hHeld ?_ ?_
   rotate_left
   ·
    intro w' s0
    go_simp
    with_reducible rfl
   rotate_left
   ·
    simp only [Act.put, List.setIfInBounds_toArray, List.set_cons_zero, List.set_cons_succ, i64_w, i32_w]
    rfl
   refine one_ (i := 12) (N := some 21) (bA 20 131071) rfl rfl (one_of HT_.out (by kernel_rfl)) (by decide) (fun K hK => ?_)
   refine goes_ Tryz.func120 (by kernel_rfl) rfl #[.int .i64 a1, .int .i64 a2, .string a3] (by rfl) rfl rfl ga ?_
   with_reducible refine (impl_SealAnswer.calls k a1 a2 a3 t595 _ A9.out).mono ?_
   rintro e w13 ⟨rfl, hb⟩
   refine ⟨_, rfl, ?_⟩
   replace HB := zB hb
   (try clear hb)
   (try clear hb2)
   (try clear hk)
   (try clear hi)
   refine hK.out _ _ (((HB.out.cell (World.block_lt_of_cell? w _ hw596_0)).trans hw596_0)) (fun hHeld => ?_)
   clear hK K
   refine norm_ (a' := ?_) ?_ ?_
   rotate_left
   ·
    show Act.put _ (some 21) _ = _
    simp only [Act.put, List.setIfInBounds_toArray, List.set_cons_zero, List.set_cons_succ, i64_w, i32_w]
    rfl
   refine pu 17 (some 26) (bA 20 262143) (ao HT_) ?_
   refine pu 18 (some 27) (bA 20 524287) (ao HT_) ?_
   refine pu 19 (some 8) (bA 20 1048575) (ao HT_) ?_
   refine done_ (done_of HT_.out (by kernel_rfl)) ?_
   try go_wp2
   go_ret
   exact ⟨er, bel⟩
  ·
   obtain rfl := Option.some.inj H
   go_enter Tryz.func91, Tryz.ntmps91
   try go_wp2
   replace HB := zBd HB
   refine start_ (n := 20) (S := fun w' => True) (ds := []) #[false, false, false, false, false, false, false, false, false, false, false, false, false, false, false, false, false, false, false, false] (by kernel_rfl) rfl rfl trivial (fun hHeld => ?_); refine with_tabW impl_ChecksAnswer.tab1 impl_ChecksAnswer.bits1 (fun HT_ HW_ => ?_)
   generalize w.drew = w14 at HB hHeld ⊢
   refine pu 0 (some 9) (bA 20 1) (ao HT_) ?_
   refine pu 1 (some 10) (bA 20 3) (ao HT_) ?_
   refine pu 2 (some 11) (bA 20 7) (ao HT_) ?_
   refine one_ (i := 3) (N := some 12) (bA 20 15) rfl rfl (one_of HT_.out (by kernel_rfl)) (by decide) (fun K hK => ?_)
   refine goes_ Tryz.func118 (by kernel_rfl) rfl #[.int .i64 a2, .int .i64 (l0.length : Int)] (by rfl) rfl rfl ga ?_
   with_reducible refine (impl_at.calls a2 (l0.length : Int) true _ A5.out).mono ?_
   rintro e w' ⟨rfl, ⟨nd, rfl⟩⟩
   refine ⟨_, rfl, ?_⟩
   refine hK.out _ _ trivial (fun hHeld => ?_)
   clear hK K
   refine norm_ (a' := ?_) ?_ ?_
   rotate_left
   ·
    show Act.put _ (some 12) _ = _
    simp only [Act.put, List.setIfInBounds_toArray, List.set_cons_zero, List.set_cons_succ, i64_w, i32_w]
    rfl
   refine pu 4 (some 13) (bA 20 31) (ao HT_) ?_
   refine pu 5 (some 14) (bA 20 63) (ao HT_) ?_
   refine one_ (i := 6) (N := some 15) (bA 20 127) rfl rfl (one_of HT_.out (by kernel_rfl)) (by decide) (fun K hK => ?_)
   refine goes_ Tryz.func119 (by kernel_rfl) rfl #[.string a3] (by rfl) rfl rfl ga ?_
   with_reducible refine (impl_IsWord.calls k a3 false _ A7.out).mono ?_
   rintro e w' ⟨rfl, ⟨nd, rfl⟩⟩
   refine ⟨_, rfl, ?_⟩
   refine hK.out _ _ trivial (fun hHeld => ?_)
   clear hK K
   refine norm_ (a' := ?_) ?_ ?_
   rotate_left
   ·
    show Act.put _ (some 15) _ = _
    simp only [Act.put, List.setIfInBounds_toArray, List.set_cons_zero, List.set_cons_succ, i64_w, i32_w]
    rfl
   refine pu 7 (some 16) (bA 20 255) (ao HT_) ?_
   refine pu 8 (some 17) (bA 20 511) (ao HT_) ?_
   refine pv 9 (some 18) (bA 20 1023) (ao HT_) ?_
   refine pv 10 (some 19) (bA 20 2047) (ao HT_) ?_
   refine pv 11 (some 20) (bA 20 4095) (ao HT_) ?_
   refine pv 12 (some 21) (bA 20 8191) (ao HT_) ?_
   refine pv 13 (some 22) (bA 20 16383) (ao HT_) ?_
   refine pv 14 (some 23) (bA 20 32767) (ao HT_) ?_
   refine pv 15 (some 24) (bA 20 65535) (ao HT_) ?_
   refine pv 16 (some 25) (bA 20 131071) (ao HT_) ?_
   refine pv 17 (some 26) (bA 20 262143) (ao HT_) ?_
   refine pu 18 (some 27) (bA 20 524287) (ao HT_) ?_
   refine pu 19 (some 8) (bA 20 1048575) (ao HT_) ?_
   refine done_ (done_of HT_.out (by kernel_rfl)) ?_
   try go_wp2
   go_ret
   exact ⟨er, bel⟩
 ·
  obtain rfl := Option.some.inj H
  go_enter Tryz.func91, Tryz.ntmps91
  try go_wp2
  replace HB := zBd HB
  refine start_ (n := 20) (S := fun w' => True) (ds := []) #[false, false, false, false, false, false, false, false, false, false, false, false, false, false, false, false, false, false, false, false] (by kernel_rfl) rfl rfl trivial (fun hHeld => ?_); refine with_tabW impl_ChecksAnswer.tab1 impl_ChecksAnswer.bits1 (fun HT_ HW_ => ?_)
  generalize w.drew = w15 at HB hHeld ⊢
  refine pu 0 (some 9) (bA 20 1) (ao HT_) ?_
  refine pu 1 (some 10) (bA 20 3) (ao HT_) ?_
  refine pu 2 (some 11) (bA 20 7) (ao HT_) ?_
  refine one_ (i := 3) (N := some 12) (bA 20 15) rfl rfl (one_of HT_.out (by kernel_rfl)) (by decide) (fun K hK => ?_)
  refine goes_ Tryz.func118 (by kernel_rfl) rfl #[.int .i64 a2, .int .i64 (l0.length : Int)] (by rfl) rfl rfl ga ?_
  with_reducible refine (impl_at.calls a2 (l0.length : Int) false _ A5.out).mono ?_
  rintro e w' ⟨rfl, ⟨nd, rfl⟩⟩
  refine ⟨_, rfl, ?_⟩
  refine hK.out _ _ trivial (fun hHeld => ?_)
  clear hK K
  refine norm_ (a' := ?_) ?_ ?_
  rotate_left
  ·
   show Act.put _ (some 12) _ = _
   simp only [Act.put, List.setIfInBounds_toArray, List.set_cons_zero, List.set_cons_succ, i64_w, i32_w]
   rfl
  refine pu 4 (some 13) (bA 20 31) (ao HT_) ?_
  refine pv 5 (some 14) (bA 20 63) (ao HT_) ?_
  refine pv 6 (some 15) (bA 20 127) (ao HT_) ?_
  refine pu 7 (some 16) (bA 20 255) (ao HT_) ?_
  refine pu 8 (some 17) (bA 20 511) (ao HT_) ?_
  refine pv 9 (some 18) (bA 20 1023) (ao HT_) ?_
  refine pv 10 (some 19) (bA 20 2047) (ao HT_) ?_
  refine pv 11 (some 20) (bA 20 4095) (ao HT_) ?_
  refine pv 12 (some 21) (bA 20 8191) (ao HT_) ?_
  refine pv 13 (some 22) (bA 20 16383) (ao HT_) ?_
  refine pv 14 (some 23) (bA 20 32767) (ao HT_) ?_
  refine pv 15 (some 24) (bA 20 65535) (ao HT_) ?_
  refine pv 16 (some 25) (bA 20 131071) (ao HT_) ?_
  refine pv 17 (some 26) (bA 20 262143) (ao HT_) ?_
  refine pu 18 (some 27) (bA 20 524287) (ao HT_) ?_
  refine pu 19 (some 8) (bA 20 1048575) (ao HT_) ?_
  refine done_ (done_of HT_.out (by kernel_rfl)) ?_
  try go_wp2
  go_ret
  exact ⟨er, bel⟩

/-! ### impl_RightSlots: function 54 -/
def impl_RightSlots.l0 : Nat → List Int → Int → List Int → List ByteArray → Int → Int → Option (List Int)
 | 0, _, _, _, _, _, _ => none
 | k + 1, a, b, c, d, e, f => if f < e then (if 0 ≤ f then (if f < (d.length : Int) then ((impl_ChecksAnswer.f k a b f (rdOf ByteArray.empty d f)).bind fun g => (if g = true then (if c.length < 17592186044416 then (impl_RightSlots.l0 k a b (c ++ [f]) d e (wrap64 (f + 1))) else (none)) else (impl_RightSlots.l0 k a b c d e (wrap64 (f + 1))))) else (none)) else (none)) else (some c)
def impl_RightSlots.f (k : Nat) (a b : Int) (c d : ByteArray) (e : List Int) (f : Int) : Option (List Int) := (impl_patterns.f k a b c d).bind fun g => (impl_RightSlots.l0 k e f ([] : List Int) g (g.length : Int) 0)
set_option maxHeartbeats 8000000 in
set_option maxRecDepth 100000 in
theorem impl_RightSlots.calls (k : Nat) (a0_0 a0_1 : Int) (a0_2 a1 : ByteArray) (A2 : Option Addr) (c2 : Nat) (l2 : List Int) (a3 : Int) (r : List Int) (w : World) (hr2 : Kd.C (Kd.int .i64) w A2 l2.length l2) (hc2 : l2.length ≤ c2) (H : impl_RightSlots.f k a0_0 a0_1 a0_2 a1 l2 a3 = some r) :
  Calls Tryz.prog 54 #[.agg #[.int .i64 a0_0, .int .i64 a0_1, .string a0_2], .string a1, .slice A2 l2.length c2, .int .i64 a3] w fun e w' => ∃ v0_ : Value, e = .returned (v0_) ∧ Kd.R (Kd.int .i64) 3 w' w.heap.size (fun _ => True) v0_ r ∧ Below w.heap.size w w' := by
 have hu32 := Tryz.underlying32
 have HR2 := Aside0.mk hr2
 have HC2 := Aside0.mk hc2
 clear hr2 hc2
 have HB := Aside0.mk (Below.refl w.heap.size w)
 unfold impl_RightSlots.f at H
 replace H := zs H
 obtain ⟨t598, A5, H⟩ := H
 have H' := Aside0.mk H
 clear H
 go_enter Tryz.func54, Tryz.ntmps54
 go_wp2_with (first | ((with_reducible refine zd 4 rfl ?_); refine zbx (w := w) #[.int .i64 a0_0, .int .i64 a0_1, .string a0_2] 32 ?_; intro gb597 hg w6 BK597 hb; have GW597 := zg (w := w) hg; replace HB := zB hb; clear hb hg; have ⟨_, _, _, _, _, _⟩ := cz3 BK597) | ((with_reducible refine zd 14 rfl ?_); refine zgl Tryz.func90 (impl_patterns.calls k a0_0 a0_1 a0_2 a1 t598 _ A5.out) ?_; rintro e w8 ⟨v599, rfl, ho0, hb⟩; refine ⟨_, rfl, ?_⟩; have HO600 := zl2 ho0; replace BK597 := zk BK597 hb; replace HB := zB hb; obtain ⟨Ao9, co9, eo9⟩ := Kd.R_slice HO600.out; subst eo9))
 go_loopg [9, 16] k (fun kq v9 v16 w' => ∃ (x9_1 : List Int) (x16_1 : Int), v16 = .int .i64 x16_1 ∧ Aside0 (impl_RightSlots.l0 kq l2 a3 x9_1 t598 (t598.length : Int) x16_1 = some r) ∧ Aside0 (kq ≤ k) ∧ Aside0 (Kd.R (Kd.int .i64) 3 w' w.heap.size (fun _ => True) v9 x9_1) ∧ Aside0 (Kd.R Kd.string 9 w' w.heap.size (fun _ => True) (.slice Ao9 t598.length co9) t598) ∧ Aside0 (w'.heap[gb597]? = some (.cells #[.int .i64 a0_0, .int .i64 a0_1, .string a0_2] 32 (0, 0))) ∧ Aside0 (Below w.heap.size w w'))
 case atStart => exact ⟨(([] : List Int)), (0), rf, H', ⟨Nat.le_refl _⟩, ⟨by first | exact Kd.R_nil _ _ _ _ _ | exact Kd.N_nil _ _ _ _ _ | exact Kd.V_nil _ _ _ _ _ | exact Kd.Q_nil _ _ _ _ _ | exact Kd.S_nil _ _ _ _ _⟩, ⟨kr HO600⟩, ⟨bk BK597⟩, ⟨bel⟩⟩
 case round =>
  clear H'
  obtain ⟨x9_1, x16_1, rfl, HA, HK1, HO_9, HO_14, BK597, HB⟩ := hrel
  cases gk with
  | zero => exact absurd HA.out (by simp [impl_RightSlots.l0])
  | succ k1 =>
   have H := HA.out
   clear HA
   simp only [impl_RightSlots.l0] at H
   replace H := zc H
   rcases H with ⟨c10b0, H⟩ | ⟨c10b0, H⟩
   ·
    replace H := zr H
    obtain ⟨c11b0, H⟩ := H
    replace H := zr H
    obtain ⟨c12b0, H⟩ := H
    replace H := zs H
    obtain ⟨t602, A13, H⟩ := H
    replace H := zb H
    rcases H with ⟨rfl, H⟩ | ⟨rfl, H⟩
    ·
     replace H := zl H
     obtain ⟨LMc15, H⟩ := H
     generalize hy603 : (x9_1 ++ [x16_1] : List Int) = y603 at H
     have Ny603 := Aside0.mk hy603.symm
     clear hy603
     have H' := Aside0.mk H
     clear H
     obtain ⟨p601, q601, ad601, e601, hx601_0⟩ := zx (Kd.at_string (Kd.R_reads' HO_14.out).2.2 x16_1)
     cases e601
     go_wp2_with (first | ((with_reducible refine zd 25 rfl ?_); refine zgl Tryz.func91 (impl_ChecksAnswer.calls k1 _ _ l2 a3 x16_1 (rdOf ByteArray.empty t598 x16_1) true _ (zC HR2) HC2.out A13.out) ?_; rintro e w16 ⟨rfl, hb⟩; refine ⟨_, rfl, ?_⟩; replace HO_9 := zR HO_9 hb; replace HO_14 := zR HO_14 hb; replace BK597 := zk BK597 hb; replace HB := zB hb) | ((with_reducible refine gate_builtin (b := .append) (xs := #[.tmp 26, .tmp 28]) rfl ?_); at_builtin; refine Kd.R_append (Kd.int .i64) (w0 := w) w.heap.size rfl (.tmp 26) (.tmp 28) 25 3 (.int .i64 0) 8 rfl Tryz.underlying25 info3 rfl (by decide) (by omega) u9 x9_1 x16_1 [.int .i64 x16_1] (fun _ => True) (fun _ => False) rfl rfl ?aP (fun _ hk => hk.elim) ?aF ?aO ?aB ?aS ?aL ?_; (case aP => exact rfl); (case aB => exact bel); (case aF => exact (fun _ _ => trivial)); (case aO => exact (kr HO_9)); (case aS => exact bsz); (case aL => have := LMc15.out; omega); intro v604 w17 ho hb hg hat; rw [← Ny603.out] at ho; replace HO_14 := Aside0.mk (Kd.R_over' (kr HO_14) (Kd.R_typed (kr HO_9)) (by decide) hg); replace BK597 := Aside0.mk (blk_grown (bk BK597) hg (Kd.R_ne HO_9.out BK597.out (by decide))); replace HB := Aside0.mk hb; have HO605 := Aside0.mk ho; clear HO_9; clear ho hb hg hat))
     go_roundg k1
     case measure => have := HK1.out; omega
     case rel => exact ⟨(y603), (wrap64 (x16_1 + 1)), rf, H', ⟨by have := HK1.out; omega⟩, ⟨kr HO605⟩, ⟨kr HO_14⟩, ⟨bk BK597⟩, ⟨bel⟩⟩
    ·
     have H' := Aside0.mk H
     clear H
     obtain ⟨p601, q601, ad601, e601, hx601_0⟩ := zx (Kd.at_string (Kd.R_reads' HO_14.out).2.2 x16_1)
     cases e601
     go_wp2_with (first | ((with_reducible refine zd 25 rfl ?_); refine zgl Tryz.func91 (impl_ChecksAnswer.calls k1 _ _ l2 a3 x16_1 (rdOf ByteArray.empty t598 x16_1) false _ (zC HR2) HC2.out A13.out) ?_; rintro e w18 ⟨rfl, hb⟩; refine ⟨_, rfl, ?_⟩; replace HO_9 := zR HO_9 hb; replace HO_14 := zR HO_14 hb; replace BK597 := zk BK597 hb; replace HB := zB hb))
     go_roundg k1
     case measure => have := HK1.out; omega
     case rel => exact ⟨(x9_1), (wrap64 (x16_1 + 1)), rf, H', ⟨by have := HK1.out; omega⟩, ⟨kr HO_9⟩, ⟨kr HO_14⟩, ⟨bk BK597⟩, ⟨bel⟩⟩
   ·
    obtain rfl := Option.some.inj H
    go_wp2
    go_ret
    exact ⟨_, er, kr HO_9, bel⟩

/-! ### slices_Reverse_byte_byte: function 183 -/
set_option maxHeartbeats 1600000 in
set_option maxRecDepth 1000000 in
theorem rev_arr (blk off cap : Nat) (d : Array Int) (w : World) (hH : Sort.Holds (Value.int .u8) w blk off d) (hsz : d.size ≤ 9223372036854775807) :
  Calls Tryz.prog 183 #[.slice (some ⟨blk, off, none⟩) d.size cap] w fun e w' => e = .returned (.tuple #[]) ∧ ∃ n, w' = Sort.putRow (Value.int .u8) (Sort.ahead w n) blk off d.reverse := by
 go_enter Tryz.func183, Tryz.ntmps183
 go_wp2
 go_loopg [2, 3] d.size (fun k s2 s3 wr => ∃ (i jn : Nat) (jz : Int) (dk : Array Int) (n : Nat), s2 = .int .i64 i ∧ s3 = .int .i64 jz ∧ ((i : Int) < jz → jz = jn ∧ jn < d.size) ∧ (¬ (i : Int) < jz → ¬ i < jn) ∧ jn - i ≤ k ∧
  dk.size = d.size ∧ wr = Sort.putRow (Value.int .u8) (Sort.ahead w n) blk off dk ∧ Sort.reverseLoop i jn dk = Sort.reverseLoop 0 (d.size - 1) d)
 case atStart => exact ⟨0, d.size - 1, (d.size : Int) - 1, d, 0, rfl, rfl, fun h => ⟨by omega, by omega⟩, fun h => by omega, by omega, rfl, (Sort.putRow_self (Value.int .u8) w blk off d hH).symm, rfl⟩
 case round =>
  obtain ⟨i, jn, jz, dk, n, rfl, rfl, h1, h2, hk, hds, hwr, heq⟩ := hrel
  by_cases hlt : (i : Int) < jz
  ·
   obtain ⟨rfl, hjn⟩ := h1 hlt
   have hij : i < jn := by omega
   have hHk : Sort.Holds (Value.int .u8) wr blk off dk := by rw [hwr]; exact Sort.holds_putRow (Value.int .u8) _ blk off d dk (Sort.holds_ahead (Value.int .u8) w n blk off d hH) hds
   obtain ⟨ci, fi⟩ := hHk i (by omega)
   obtain ⟨cj, fj⟩ := hHk jn (by omega)
   have A : Aside (wr = Sort.putRow (Value.int .u8) (Sort.ahead w n) blk off dk) := hwr
   clear hwr hHk hH h1 h2
   go_wp2_with fail
   go_region
   go_wp2
   go_roundg (jn - 1 - (i + 1))
   case measure => omega
   case rel =>
    rw [Sort.reverseLoop, if_pos hij] at heq
    exact ⟨i + 1, jn - 1, (jn : Int) - 1, Sort.swp dk i jn, n + 1, by simp, rfl, fun h => ⟨by omega, by omega⟩, fun h => by omega, Nat.le_refl _, by rw [Sort.size_swp]; exact hds,
     Go.Proofs.swap_world (Value.int .u8) (by omega) (by omega) A.out (by first | rfl | simp [getElem!_pos, show jn < dk.size by omega]) (by first | rfl | simp [getElem!_pos, show i < dk.size by omega]), heq⟩
  ·
   have hnot := h2 hlt
   go_wp2
   go_end0
   refine ⟨rfl, n, ?_⟩
   rw [Sort.reverseLoop, if_neg hnot] at heq
   rw [← Lib.reverseLoop_reverse, ← heq]

theorem bytes_holds (W : World) (e : TypeId) (s : ByteArray) : Sort.Holds (Value.int .u8) (Lib.bytesWorld W e s) W.heap.size 0 (bytesOf s).toArray := by
 intro j hj
 have hj' : j < s.size := by simpa [bytesOf_length] using hj
 have hjl : j < (bytesOf s).length := by rw [bytesOf_length]; exact hj'
 refine ⟨?_, ?_⟩
 ·
  rw [Nat.zero_add, Lib.bytesWorld_cell W e s j hj']
  have h' : j < s.data.toList.length := by rw [data_length]; exact hj'
  have e1 : (bytesOf s).toArray[j]! = (bytesOf s)[j]'hjl := by rw [getElem!_pos _ j (by simpa using hjl)]; simp
  rw [e1]
  simp [bytesOf, List.getD_eq_getElem?_getD, List.getElem?_eq_getElem h']
 ·
  have hb := Lib.bytesWorld_at_new W e s
  have hsz : s.size ≤ (Lib.bytesCells W e s).size := by
   simp only [Lib.bytesCells, Array.size_append, Array.size_map]
   show s.size ≤ s.size + _
   omega
  unfold World.frozen?
  rw [Nat.zero_add]
  simp only [hb]
  simp
  omega
theorem back_reads (W : World) (b : Nat) (xs : List Int) (h : Sort.Holds (Value.int .u8) W b 0 xs.toArray) (hm : xs.length ≤ 9223372036854775807) : ReadsInt W .u8 (some ⟨b, 0, none⟩) xs.length xs := by
 refine ⟨rfl, hm, fun _ => ⟨_, rfl, fun j hj => ?_⟩⟩
 have := (h j (by simpa using hj)).1
 rw [Nat.zero_add] at this
 rw [add_plain, this, getElem!_pos _ j (by simpa using hj)]
 simp [List.getD_eq_getElem?_getD, List.getElem?_eq_getElem hj]

-- BY HAND ELSEWHERE: function 183 (slices_Reverse_byte_byte)

/-! ### impl_Backwards: function 174 -/
def impl_Backwards.f (a : ByteArray) : Option ByteArray := if (a.size : Int) > 100 then some ⟨#[]⟩ else some (strOfNums (bytesOf a).reverse)
set_option maxHeartbeats 8000000 in
set_option maxRecDepth 100000 in
theorem impl_Backwards.calls (a0 r : ByteArray) (w : World) (h : impl_Backwards.f a0 = some r) :
  Calls Tryz.prog 174 #[.string a0] w fun e w' => e = .returned (.string r) ∧ Below w.heap.size w w' := by
 unfold impl_Backwards.f at h
 have hB := Below.refl w.heap.size w
 by_cases c : (a0.size : Int) > 100
 ·
  rw [if_pos c] at h
  obtain rfl := Option.some.inj h
  clear h
  have HB := Aside0.mk hB
  clear hB
  go_enter Tryz.func174, Tryz.ntmps174
  go_wp2
  go_ret
  exact ⟨rfl, HB.out⟩
 ·
  rw [if_neg c] at h
  obtain rfl := Option.some.inj h
  clear h
  have kb := fun W => print_bytes (P := Tryz.prog) 9 143 5 Tryz.underlying9 Tryz.underlying143 Tryz.underlying5 a0 W
  have hs : a0.size ≤ 100 := by omega
  have hH := bytes_holds w 5 a0
  have hB1 := bytes_below hB (Nat.le_refl _) 5 a0
  have hl : a0.size = (bytesOf a0).toArray.size := by simp [bytesOf_length]
  have hC := fun cap => rev_arr w.heap.size 0 cap (bytesOf a0).toArray (Lib.bytesWorld w 5 a0) hH (by rw [← hl]; omega)
  simp only [← hl] at hC
  have HC := Aside0.mk hC
  have HH := Aside0.mk hH
  have HB1 := Aside0.mk hB1
  clear hC hH hB1 hB hl
  go_enter Tryz.func174, Tryz.ntmps174
  go_wp2_with fail
  refine (HC.out _).mono ?_
  rintro e w1 ⟨rfl, n, rfl⟩
  have hs2 : ∀ cap, (convert 143 9 (.slice (some ⟨w.heap.size, 0, none⟩) a0.size cap)).run Tryz.prog (Sort.putRow (Value.int .u8) (Sort.ahead (Lib.bytesWorld w 5 a0) n) w.heap.size 0 (bytesOf a0).toArray.reverse) = .ok (.string (strOfNums (bytesOf a0).reverse)) (Sort.putRow (Value.int .u8) (Sort.ahead (Lib.bytesWorld w 5 a0) n) w.heap.size 0 (bytesOf a0).toArray.reverse) := by
   intro cap
   have hh := Sort.holds_putRow (Value.int .u8) _ w.heap.size 0 _ (bytesOf a0).toArray.reverse (Sort.holds_ahead (Value.int .u8) _ n w.heap.size 0 _ HH.out) (by simp)
   have hr := back_reads _ _ (bytesOf a0).reverse (by simpa using hh) (by simp [bytesOf_length]; omega)
   have := string_of_reads (P := Tryz.prog) (src := 143) (dst := 9) (c := cap) Tryz.underlying143 Tryz.underlying5 Tryz.underlying9 hr
   simpa [bytesOf_length] using this
  have HB2 := Aside0.mk (Lib.below_putRow (enc := Value.int .u8) (q := n) (d := (bytesOf a0).toArray.reverse) HB1.out (Nat.le_refl _))
  generalize Sort.putRow (Value.int .u8) (Sort.ahead (Lib.bytesWorld w 5 a0) n) w.heap.size 0 (bytesOf a0).toArray.reverse = W at hs2 HB2 ⊢
  go_wp2
  go_ret
  exact ⟨rfl, HB2.out⟩

/-! ### impl_TurnGrid: function 152 -/
def impl_TurnGrid.f (k : Nat) (a b : Int) (c : ByteArray) : Option (Int × Int × ByteArray) := (impl_IsGrid.f k a b c).bind fun d => (if d = true then ((impl_Backwards.f c).bind fun e => (some (a, b, e))) else (some (0, 0, (⟨#[]⟩ : ByteArray))))
set_option maxHeartbeats 8000000 in
set_option maxRecDepth 100000 in
theorem impl_TurnGrid.calls (k : Nat) (a0_0 a0_1 : Int) (a0_2 : ByteArray) (r1 r2 : Int) (r3 : ByteArray) (w : World) (H : impl_TurnGrid.f k a0_0 a0_1 a0_2 = some (r1, r2, r3)) :
  Calls Tryz.prog 152 #[.agg #[.int .i64 a0_0, .int .i64 a0_1, .string a0_2]] w fun e w' => e = .returned (.agg #[.int .i64 r1, .int .i64 r2, .string r3]) ∧ Below w.heap.size w w' := by
 have hu32 := Tryz.underlying32
 have HB := Aside0.mk (Below.refl w.heap.size w)
 unfold impl_TurnGrid.f at H
 replace H := zs H
 obtain ⟨t608, A2, H⟩ := H
 replace H := zb H
 rcases H with ⟨rfl, H⟩ | ⟨rfl, H⟩
 ·
  replace H := zs H
  obtain ⟨t609, A4, H⟩ := H
  simp only [Option.some.injEq, Prod.mk.injEq] at H
  obtain ⟨rfl, rfl, rfl⟩ := H
  go_enter Tryz.func152, Tryz.ntmps152
  go_wp2_with (first | ((with_reducible refine zd 1 rfl ?_); refine zbx (w := w) #[.int .i64 a0_0, .int .i64 a0_1, .string a0_2] 32 ?_; intro gb606 hg w5 BK606 hb; have GW606 := zg (w := w) hg; replace HB := zB hb; clear hb hg) | ((with_reducible refine zd 2 rfl ?_); refine zbx (w := w) #[.int .i64 0, .int .i64 0, .string (⟨#[]⟩ : ByteArray)] 32 ?_; intro gb607 hg w6 BK607 hb; have GW607 := zg (w := w) hg; replace HB := zB hb; have NB606_607 := zn hg BK606; have NB607_606 := zm hg BK606; replace BK606 := zk BK606 hb; clear hb hg; have hnb7 := NB606_607.out; have hnc7 := NB607_606.out; have ⟨_, _, _, _, _, _⟩ := cz3 BK606) | ((with_reducible refine zd 4 rfl ?_); refine zgl Tryz.func85 (impl_IsGrid.calls k a0_0 a0_1 a0_2 true _ A2.out) ?_; rintro e w9 ⟨rfl, hb⟩; refine ⟨_, rfl, ?_⟩; replace BK606 := zk BK606 hb; replace BK607 := zk BK607 hb; replace HB := zB hb; have ⟨_, _, _, _, _, _⟩ := cz3 BK606) | ((with_reducible refine zd 9 rfl ?_); refine zgl Tryz.func174 (impl_Backwards.calls a0_2 t609 _ A4.out) ?_; rintro e w11 ⟨rfl, hb⟩; refine ⟨_, rfl, ?_⟩; replace BK606 := zk BK606 hb; replace BK607 := zk BK607 hb; replace HB := zB hb; have ⟨_, _, _, _, _, _⟩ := cz3 BK606; have ⟨_, _, _, _, _, _⟩ := cz3 BK607))
  refine bodyPost_ret (results_cell_row rfl _ _ gb607 32 #[.int .i64 a0_0, .int .i64 a0_1, .string t609] (0, 0) _ rfl (by (with_reducible repeat (first | refine blk_drewN ?_ _ | refine blk_drew ?_ | refine blk_alloc ?_ _)); refine blk_put (cs := #[.int .i64 a0_0, .int .i64 a0_1, .string (⟨#[]⟩ : ByteArray)]) ?_ 2 _ rfl; (with_reducible repeat (first | refine blk_drewN ?_ _ | refine blk_drew ?_ | refine blk_alloc ?_ _)); refine blk_put (cs := #[.int .i64 a0_0, .int .i64 0, .string (⟨#[]⟩ : ByteArray)]) ?_ 1 _ rfl; (with_reducible repeat (first | refine blk_drewN ?_ _ | refine blk_drew ?_ | refine blk_alloc ?_ _)); refine blk_put (cs := #[.int .i64 0, .int .i64 0, .string (⟨#[]⟩ : ByteArray)]) ?_ 0 _ rfl; (with_reducible repeat (first | refine blk_drewN ?_ _ | refine blk_drew ?_ | refine blk_alloc ?_ _)); refine blk_far ?_ NB607_606.out _; (with_reducible repeat (first | refine blk_drewN ?_ _ | refine blk_drew ?_ | refine blk_alloc ?_ _)); exact BK607.out) Tryz.underlying32 rfl (by kernel_rfl)) rfl ?_
  exact ⟨er, bel⟩
 ·
  simp only [Option.some.injEq, Prod.mk.injEq] at H
  obtain ⟨rfl, rfl, rfl⟩ := H
  go_enter Tryz.func152, Tryz.ntmps152
  go_wp2_with (first | ((with_reducible refine zd 1 rfl ?_); refine zbx (w := w) #[.int .i64 a0_0, .int .i64 a0_1, .string a0_2] 32 ?_; intro gb606 hg w14 BK606 hb; have GW606 := zg (w := w) hg; replace HB := zB hb; clear hb hg) | ((with_reducible refine zd 2 rfl ?_); refine zbx (w := w) #[.int .i64 0, .int .i64 0, .string (⟨#[]⟩ : ByteArray)] 32 ?_; intro gb607 hg w15 BK607 hb; have GW607 := zg (w := w) hg; replace HB := zB hb; have NB606_607 := zn hg BK606; have NB607_606 := zm hg BK606; replace BK606 := zk BK606 hb; clear hb hg; have hnb16 := NB606_607.out; have hnc16 := NB607_606.out; have ⟨_, _, _, _, _, _⟩ := cz3 BK606) | ((with_reducible refine zd 4 rfl ?_); refine zgl Tryz.func85 (impl_IsGrid.calls k a0_0 a0_1 a0_2 false _ A2.out) ?_; rintro e w18 ⟨rfl, hb⟩; refine ⟨_, rfl, ?_⟩; replace BK606 := zk BK606 hb; replace BK607 := zk BK607 hb; replace HB := zB hb; have ⟨_, _, _, _, _, _⟩ := cz3 BK607))
  refine bodyPost_ret (results_cell_row rfl _ _ gb607 32 #[.int .i64 0, .int .i64 0, .string (⟨#[]⟩ : ByteArray)] (0, 0) _ rfl (by (with_reducible repeat (first | refine blk_drewN ?_ _ | refine blk_drew ?_ | refine blk_alloc ?_ _)); refine blk_put (cs := #[.int .i64 0, .int .i64 0, .string (⟨#[]⟩ : ByteArray)]) ?_ 2 _ rfl; (with_reducible repeat (first | refine blk_drewN ?_ _ | refine blk_drew ?_ | refine blk_alloc ?_ _)); refine blk_put (cs := #[.int .i64 0, .int .i64 0, .string (⟨#[]⟩ : ByteArray)]) ?_ 1 _ rfl; (with_reducible repeat (first | refine blk_drewN ?_ _ | refine blk_drew ?_ | refine blk_alloc ?_ _)); refine blk_put (cs := #[.int .i64 0, .int .i64 0, .string (⟨#[]⟩ : ByteArray)]) ?_ 0 _ rfl; (with_reducible repeat (first | refine blk_drewN ?_ _ | refine blk_drew ?_ | refine blk_alloc ?_ _)); exact BK607.out) Tryz.underlying32 rfl (by kernel_rfl)) rfl ?_
  exact ⟨er, bel⟩

end Go.Proofs.YtpcdfjcbjbkliaaGreat.E
