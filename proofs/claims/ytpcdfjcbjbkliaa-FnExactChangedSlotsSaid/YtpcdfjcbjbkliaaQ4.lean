import Derived.Test.YtpcdfjcbjbkliaaSq
import Derived.Test.YtpcdfjcbjbkliaaQ0
namespace Go.Proofs.Ytpcdfjcbjbkliaa.E
open Go.RowKit Go.Proofs.YtpcdfjcbjbkliaaW.PrintWords Go.Proofs.YtpcdfjcbjbkliaaW.PrintLast Go.Proofs.YtpcdfjcbjbkliaaW.PrintMore
attribute [local go_sem] max2_int min2_int max_two min_two max_three min_three max_four min_four
set_option linter.unusedVariables false
set_option linter.unusedSimpArgs false

/-! ### laws_szGrid: function 24 -/
def laws_szGrid.f (a0_0 : Int) (a0_1 : Int) (a0_2 : ByteArray) (a1 : Int) : Option (Int) := if (wrap64 (a1 - (a0_2.size : Int))) < 0 then (some (-1)) else (some (wrap64 (a1 - (a0_2.size : Int))))
set_option maxHeartbeats 8000000 in
set_option maxRecDepth 100000 in
theorem laws_szGrid.calls (a0_0 : Int) (a0_1 : Int) (a0_2 : ByteArray) (a1 : Int) (r : Int) (w : World) (H : laws_szGrid.f a0_0 a0_1 a0_2 a1 = some r) :
  Calls Try.prog 24 #[.agg #[.int .i64 a0_0, .int .i64 a0_1, .string a0_2], .int .i64 a1] w fun e w' => e = .returned (.int .i64 r) ∧ Below w.heap.size w w' := by
 have hu23 := Try.underlying23
 have HB := Aside0.mk (Below.refl w.heap.size w)
 unfold laws_szGrid.f at H
 replace H := zc H
 rcases H with ⟨c3b0, H⟩ | ⟨c3b0, H⟩
 rotate_left
 focus
  obtain rfl := Option.some.inj H
 rotate_right
 focus
  obtain rfl := Option.some.inj H
 all_goals
  go_enter Try.func24, Try.ntmps24
  go_wp2_with (first | ((with_reducible refine zd 2 rfl ?_); refine zbx (w := w) #[.int .i64 a0_0, .int .i64 a0_1, .string a0_2] 23 ?_; intro gb101 hg w1000 BK101 hb; have GW101 := zg (w := w) hg; replace HB := zB hb; clear hb hg; have ⟨_, _, _, _, _, _⟩ := cz3 BK101))
  go_ret
  exact ⟨er, bel⟩

/-! ### laws_szStep: function 67 -/
def laws_szStep.f (a0_0 : Int) (a0_1 : ByteArray) (a0_2 : Int) (a0_3 : Int) (a1 : Int) : Option (Int) := if (wrap64 (a1 - (a0_1.size : Int))) < 0 then (some (-1)) else (some (wrap64 (a1 - (a0_1.size : Int))))
set_option maxHeartbeats 8000000 in
set_option maxRecDepth 100000 in
theorem laws_szStep.calls (a0_0 : Int) (a0_1 : ByteArray) (a0_2 : Int) (a0_3 : Int) (a1 : Int) (r : Int) (w : World) (H : laws_szStep.f a0_0 a0_1 a0_2 a0_3 a1 = some r) :
  Calls Try.prog 67 #[.agg #[.int .i64 a0_0, .string a0_1, .int .i64 a0_2, .int .i64 a0_3], .int .i64 a1] w fun e w' => e = .returned (.int .i64 r) ∧ Below w.heap.size w w' := by
 have hu91 := Try.underlying91
 have HB := Aside0.mk (Below.refl w.heap.size w)
 unfold laws_szStep.f at H
 replace H := zc H
 rcases H with ⟨c3b0, H⟩ | ⟨c3b0, H⟩
 rotate_left
 focus
  obtain rfl := Option.some.inj H
 rotate_right
 focus
  obtain rfl := Option.some.inj H
 all_goals
  go_enter Try.func67, Try.ntmps67
  go_wp2_with (first | ((with_reducible refine zd 2 rfl ?_); refine zbx (w := w) #[.int .i64 a0_0, .string a0_1, .int .i64 a0_2, .int .i64 a0_3] 91 ?_; intro gb102 hg w1000 BK102 hb; have GW102 := zg (w := w) hg; replace HB := zB hb; clear hb hg; have ⟨_, _, _, _, _, _, _, _⟩ := cz4 BK102))
  go_ret
  exact ⟨er, bel⟩

/-! ### laws_szStepS: function 37 -/
def laws_szStepS.l0 : Nat → List (S91) → Int → Int → Option (Int)
 | 0, _, _, _ => none
 | k + 1, x0, x1, x5 => if x5 < (x0.length : Int) then (if 0 ≤ x5 then ((laws_szStep.f ((rd_T91 x0 x5).f0) ((rd_T91 x0 x5).f1) ((rd_T91 x0 x5).f2) ((rd_T91 x0 x5).f3) x1).bind fun t104 => (if t104 < 0 then (some (-1)) else (laws_szStepS.l0 k x0 t104 (wrap64 (x5 + 1))))) else (none)) else (some x1)
def laws_szStepS.f (k : Nat) (l0 : List (S91)) (a1 : Int) : Option (Int) := if (wrap64 (a1 - (l0.length : Int))) < 0 then (some (-1)) else (laws_szStepS.l0 k l0 (wrap64 (a1 - (l0.length : Int))) 0)
set_option maxHeartbeats 8000000 in
set_option maxRecDepth 100000 in
theorem laws_szStepS.calls (k : Nat) (A0 : Option Addr) (c0 : Nat) (l0 : List (S91)) (a1 : Int) (r : Int) (w : World) (hr0 : Kd.C k91 w A0 l0.length l0) (hc0 : l0.length ≤ c0) (H : laws_szStepS.f k l0 a1 = some r) :
  Calls Try.prog 37 #[.slice A0 l0.length c0, .int .i64 a1] w fun e w' => e = .returned (.int .i64 r) ∧ Below w.heap.size w w' := by
 have hu91 := Try.underlying91
 have HR0 := Aside0.mk hr0
 have HC0 := Aside0.mk hc0
 clear hr0 hc0
 have HB := Aside0.mk (Below.refl w.heap.size w)
 unfold laws_szStepS.f at H
 replace H := zc H
 rcases H with ⟨c3b0, H⟩ | ⟨c3b0, H⟩
 ·
  obtain rfl := Option.some.inj H
  go_enter Try.func37, Try.ntmps37
  go_wp2
  go_ret
  exact ⟨er, bel⟩
 ·
  have H' := Aside0.mk H
  clear H
  go_enter Try.func37, Try.ntmps37
  go_wp2
  go_loopg [1, 5] k (fun kq v1 v5 w' => ∃ (x1_1 : Int) (x5_1 : Int), v1 = .int .i64 x1_1 ∧ v5 = .int .i64 x5_1 ∧ Aside0 (laws_szStepS.l0 kq l0 x1_1 x5_1 = some r) ∧ Aside0 (kq ≤ k) ∧ Aside0 (Below w.heap.size w w'))
  case atStart => exact ⟨(wrap64 (a1 - (l0.length : Int))), (0), rf, rf, H', ⟨Nat.le_refl _⟩, ⟨bel⟩⟩
  case round =>
   clear H'
   obtain ⟨x1_1, x5_1, rfl, rfl, HA, HK1, HB⟩ := hrel
   cases gk with
   | zero => exact absurd HA.out (by simp [laws_szStepS.l0])
   | succ k1 =>
    have H := HA.out
    clear HA
    simp only [laws_szStepS.l0] at H
    replace H := zc H
    rcases H with ⟨c4b0, H⟩ | ⟨c4b0, H⟩
    ·
     replace H := zr H
     obtain ⟨c5b0, H⟩ := H
     replace H := zs H
     obtain ⟨t104, A6, H⟩ := H
     replace H := zc H
     rcases H with ⟨c7b0, H⟩ | ⟨c7b0, H⟩
     ·
      obtain rfl := Option.some.inj H
      obtain ⟨p103, q103, ad103, e103, hx103_0, hx103_1, hx103_2, hx103_3⟩ := zx (at_T91 HR0.out x5_1)
      cases e103
      replace hx103_0 := zh HB hx103_0
      replace hx103_1 := zh HB hx103_1
      replace hx103_2 := zh HB hx103_2
      replace hx103_3 := zh HB hx103_3
      go_wp2_with (first | ((with_reducible refine zd 23 rfl ?_); refine zgl Try.func67 (laws_szStep.calls ((rd_T91 l0 x5_1).f0) ((rd_T91 l0 x5_1).f1) ((rd_T91 l0 x5_1).f2) ((rd_T91 l0 x5_1).f3) x1_1 t104 _ A6.out) ?_; rintro e w8 ⟨rfl, hb⟩; refine ⟨_, rfl, ?_⟩; replace HB := zB hb))
      go_ret
      exact ⟨er, bel⟩
     ·
      have H' := Aside0.mk H
      clear H
      obtain ⟨p103, q103, ad103, e103, hx103_0, hx103_1, hx103_2, hx103_3⟩ := zx (at_T91 HR0.out x5_1)
      cases e103
      replace hx103_0 := zh HB hx103_0
      replace hx103_1 := zh HB hx103_1
      replace hx103_2 := zh HB hx103_2
      replace hx103_3 := zh HB hx103_3
      go_wp2_with (first | ((with_reducible refine zd 23 rfl ?_); refine zgl Try.func67 (laws_szStep.calls ((rd_T91 l0 x5_1).f0) ((rd_T91 l0 x5_1).f1) ((rd_T91 l0 x5_1).f2) ((rd_T91 l0 x5_1).f3) x1_1 t104 _ A6.out) ?_; rintro e w9 ⟨rfl, hb⟩; refine ⟨_, rfl, ?_⟩; replace HB := zB hb))
      go_roundg k1
      case measure => have := HK1.out; omega
      case rel => exact ⟨(t104), (wrap64 (x5_1 + 1)), rf, rf, H', ⟨by have := HK1.out; omega⟩, ⟨bel⟩⟩
    ·
     obtain rfl := Option.some.inj H
     go_wp2
     go_ret
     exact ⟨er, bel⟩

/-! ### laws_szClue: function 15 -/
def laws_szClue.f (k : Nat) (a0_0 : Int) (l0_1 : List (S91)) (a1 : Int) : Option (Int) := (laws_szStepS.f k l0_1 a1).bind fun t106 => (if t106 < 0 then (some (-1)) else (some t106))
set_option maxHeartbeats 8000000 in
set_option maxRecDepth 100000 in
theorem laws_szClue.calls (k : Nat) (a0_0 : Int) (A0_1 : Option Addr) (c0_1 : Nat) (l0_1 : List (S91)) (a1 : Int) (r : Int) (w : World) (hr0_1 : Kd.C k91 w A0_1 l0_1.length l0_1) (hc0_1 : l0_1.length ≤ c0_1) (H : laws_szClue.f k a0_0 l0_1 a1 = some r) :
  Calls Try.prog 15 #[.agg #[.int .i64 a0_0, .slice A0_1 l0_1.length c0_1], .int .i64 a1] w fun e w' => e = .returned (.int .i64 r) ∧ Below w.heap.size w w' := by
 have hu42 := Try.underlying42
 have HR0_1 := Aside0.mk hr0_1
 have HC0_1 := Aside0.mk hc0_1
 clear hr0_1 hc0_1
 have HB := Aside0.mk (Below.refl w.heap.size w)
 unfold laws_szClue.f at H
 replace H := zs H
 obtain ⟨t106, A3, H⟩ := H
 replace H := zc H
 rcases H with ⟨c4b0, H⟩ | ⟨c4b0, H⟩
 rotate_left
 focus
  obtain rfl := Option.some.inj H
 rotate_right
 focus
  obtain rfl := Option.some.inj H
 all_goals
  go_enter Try.func15, Try.ntmps15
  go_wp2_with (first | ((with_reducible refine zd 2 rfl ?_); refine zbx (w := w) #[.int .i64 a0_0, .slice A0_1 l0_1.length c0_1] 42 ?_; intro gb105 hg w1000 BK105 hb; have GW105 := zg (w := w) hg; replace HB := zB hb; clear hb hg; have ⟨_, _, _, _⟩ := cz2 BK105) | ((with_reducible refine zd 8 rfl ?_); refine zgl Try.func37 (laws_szStepS.calls k _ _ l0_1 a1 t106 _ (zC HR0_1) HC0_1.out A3.out) ?_; rintro e w1001 ⟨rfl, hb⟩; refine ⟨_, rfl, ?_⟩; replace BK105 := zk BK105 hb; replace HB := zB hb))
  go_ret
  exact ⟨er, bel⟩

/-! ### laws_szClueS: function 25 -/
def laws_szClueS.l0 : Nat → List (S42) → Int → Int → Option (Int)
 | 0, _, _, _ => none
 | k + 1, x0, x1, x5 => if x5 < (x0.length : Int) then (if 0 ≤ x5 then ((laws_szClue.f k ((rd_T42 x0 x5).f0) ((rd_T42 x0 x5).f1) x1).bind fun t108 => (if t108 < 0 then (some (-1)) else (laws_szClueS.l0 k x0 t108 (wrap64 (x5 + 1))))) else (none)) else (some x1)
def laws_szClueS.f (k : Nat) (l0 : List (S42)) (a1 : Int) : Option (Int) := if (wrap64 (a1 - (l0.length : Int))) < 0 then (some (-1)) else (laws_szClueS.l0 k l0 (wrap64 (a1 - (l0.length : Int))) 0)
set_option maxHeartbeats 8000000 in
set_option maxRecDepth 100000 in
theorem laws_szClueS.calls (k : Nat) (A0 : Option Addr) (c0 : Nat) (l0 : List (S42)) (a1 : Int) (r : Int) (w : World) (hr0 : Kd.C k42 w A0 l0.length l0) (hc0 : l0.length ≤ c0) (H : laws_szClueS.f k l0 a1 = some r) :
  Calls Try.prog 25 #[.slice A0 l0.length c0, .int .i64 a1] w fun e w' => e = .returned (.int .i64 r) ∧ Below w.heap.size w w' := by
 have hu42 := Try.underlying42
 have HR0 := Aside0.mk hr0
 have HC0 := Aside0.mk hc0
 clear hr0 hc0
 have HB := Aside0.mk (Below.refl w.heap.size w)
 unfold laws_szClueS.f at H
 replace H := zc H
 rcases H with ⟨c3b0, H⟩ | ⟨c3b0, H⟩
 ·
  obtain rfl := Option.some.inj H
  go_enter Try.func25, Try.ntmps25
  go_wp2
  go_ret
  exact ⟨er, bel⟩
 ·
  have H' := Aside0.mk H
  clear H
  go_enter Try.func25, Try.ntmps25
  go_wp2
  go_loopg [1, 5] k (fun kq v1 v5 w' => ∃ (x1_1 : Int) (x5_1 : Int), v1 = .int .i64 x1_1 ∧ v5 = .int .i64 x5_1 ∧ Aside0 (laws_szClueS.l0 kq l0 x1_1 x5_1 = some r) ∧ Aside0 (kq ≤ k) ∧ Aside0 (Below w.heap.size w w'))
  case atStart => exact ⟨(wrap64 (a1 - (l0.length : Int))), (0), rf, rf, H', ⟨Nat.le_refl _⟩, ⟨bel⟩⟩
  case round =>
   clear H'
   obtain ⟨x1_1, x5_1, rfl, rfl, HA, HK1, HB⟩ := hrel
   cases gk with
   | zero => exact absurd HA.out (by simp [laws_szClueS.l0])
   | succ k1 =>
    have H := HA.out
    clear HA
    simp only [laws_szClueS.l0] at H
    replace H := zc H
    rcases H with ⟨c4b0, H⟩ | ⟨c4b0, H⟩
    ·
     replace H := zr H
     obtain ⟨c5b0, H⟩ := H
     replace H := zs H
     obtain ⟨t108, A6, H⟩ := H
     replace H := zc H
     rcases H with ⟨c7b0, H⟩ | ⟨c7b0, H⟩
     ·
      obtain rfl := Option.some.inj H
      obtain ⟨p107, q107, ad107, A107_1, c107_1, e107, hx107_0, hx107_1, hl107_1, hi107_1⟩ := zx (at_T42 HR0.out x5_1)
      cases e107
      replace hx107_0 := zh HB hx107_0
      replace hx107_1 := zh HB hx107_1
      have HR107_1 := Aside0.mk hi107_1
      have HC107_1 := Aside0.mk hl107_1
      clear hi107_1 hl107_1
      go_wp2_with (first | ((with_reducible refine zd 23 rfl ?_); refine zgl Try.func15 (laws_szClue.calls k1 ((rd_T42 l0 x5_1).f0) _ _ ((rd_T42 l0 x5_1).f1) x1_1 t108 _ (zC HR107_1) HC107_1.out A6.out) ?_; rintro e w8 ⟨rfl, hb⟩; refine ⟨_, rfl, ?_⟩; replace HB := zB hb))
      go_ret
      exact ⟨er, bel⟩
     ·
      have H' := Aside0.mk H
      clear H
      obtain ⟨p107, q107, ad107, A107_1, c107_1, e107, hx107_0, hx107_1, hl107_1, hi107_1⟩ := zx (at_T42 HR0.out x5_1)
      cases e107
      replace hx107_0 := zh HB hx107_0
      replace hx107_1 := zh HB hx107_1
      have HR107_1 := Aside0.mk hi107_1
      have HC107_1 := Aside0.mk hl107_1
      clear hi107_1 hl107_1
      go_wp2_with (first | ((with_reducible refine zd 23 rfl ?_); refine zgl Try.func15 (laws_szClue.calls k1 ((rd_T42 l0 x5_1).f0) _ _ ((rd_T42 l0 x5_1).f1) x1_1 t108 _ (zC HR107_1) HC107_1.out A6.out) ?_; rintro e w9 ⟨rfl, hb⟩; refine ⟨_, rfl, ?_⟩; replace HB := zB hb))
      go_roundg k1
      case measure => have := HK1.out; omega
      case rel => exact ⟨(t108), (wrap64 (x5_1 + 1)), rf, rf, H', ⟨by have := HK1.out; omega⟩, ⟨bel⟩⟩
    ·
     obtain rfl := Option.some.inj H
     go_wp2
     go_ret
     exact ⟨er, bel⟩

/-! ### laws_szDraft: function 6 -/
def laws_szDraft.f (k : Nat) (a0_0 : Int) (a0_1 : Int) (a0_2 : ByteArray) (a0_3 : ByteArray) (l0_4 : List (S42)) (a0_5 : Int) (a1 : Int) : Option (Int) := (laws_szGrid.f a0_0 a0_1 a0_2 a1).bind fun t110 => (if t110 < 0 then (some (-1)) else (if (wrap64 (t110 - (a0_3.size : Int))) < 0 then (some (-1)) else ((laws_szClueS.f k l0_4 (wrap64 (t110 - (a0_3.size : Int)))).bind fun t111 => (if t111 < 0 then (some (-1)) else (some t111)))))
set_option maxHeartbeats 8000000 in
set_option maxRecDepth 100000 in
theorem laws_szDraft.calls (k : Nat) (a0_0 : Int) (a0_1 : Int) (a0_2 : ByteArray) (a0_3 : ByteArray) (A0_4 : Option Addr) (c0_4 : Nat) (l0_4 : List (S42)) (a0_5 : Int) (a1 : Int) (r : Int) (w : World) (hr0_4 : Kd.C k42 w A0_4 l0_4.length l0_4) (hc0_4 : l0_4.length ≤ c0_4) (H : laws_szDraft.f k a0_0 a0_1 a0_2 a0_3 l0_4 a0_5 a1 = some r) :
  Calls Try.prog 6 #[.agg #[.int .i64 a0_0, .int .i64 a0_1, .string a0_2, .string a0_3, .slice A0_4 l0_4.length c0_4, .int .i64 a0_5], .int .i64 a1] w fun e w' => e = .returned (.int .i64 r) ∧ Below w.heap.size w w' := by
 have hu26 := Try.underlying26
 have hu23 := Try.underlying23
 have HR0_4 := Aside0.mk hr0_4
 have HC0_4 := Aside0.mk hc0_4
 clear hr0_4 hc0_4
 have HB := Aside0.mk (Below.refl w.heap.size w)
 unfold laws_szDraft.f at H
 replace H := zs H
 obtain ⟨t110, A3, H⟩ := H
 replace H := zc H
 rcases H with ⟨c4b0, H⟩ | ⟨c4b0, H⟩
 rotate_left
 focus
  replace H := zc H
  rcases H with ⟨c8b0, H⟩ | ⟨c8b0, H⟩
  rotate_left
  focus
   replace H := zs H
   obtain ⟨t111, A13, H⟩ := H
   replace H := zc H
   rcases H with ⟨c14b0, H⟩ | ⟨c14b0, H⟩
   rotate_left
   focus
    obtain rfl := Option.some.inj H
   rotate_right
   focus
    obtain rfl := Option.some.inj H
  rotate_right
  focus
   obtain rfl := Option.some.inj H
 rotate_right
 focus
  obtain rfl := Option.some.inj H
 all_goals
  go_enter Try.func6, Try.ntmps6
  go_wp2_with (first | ((with_reducible refine zd 2 rfl ?_); refine zbx (w := w) #[.int .i64 a0_0, .int .i64 a0_1, .string a0_2, .string a0_3, .slice A0_4 l0_4.length c0_4, .int .i64 a0_5] 26 ?_; intro gb109 hg w1000 BK109 hb; have GW109 := zg (w := w) hg; replace HB := zB hb; clear hb hg; have ⟨_, _, _, _, _, _, _, _, _, _, _, _⟩ := cz6 BK109) | ((with_reducible refine zd 8 rfl ?_); refine zgl Try.func24 (laws_szGrid.calls a0_0 a0_1 a0_2 a1 t110 _ A3.out) ?_; rintro e w1001 ⟨rfl, hb⟩; refine ⟨_, rfl, ?_⟩; replace BK109 := zk BK109 hb; replace HB := zB hb; have ⟨_, _, _, _, _, _, _, _, _, _, _, _⟩ := cz6 BK109) | ((with_reducible refine zd 21 rfl ?_); refine zgl Try.func25 (laws_szClueS.calls k _ _ l0_4 (wrap64 (t110 - (a0_3.size : Int))) t111 _ (zC HR0_4) HC0_4.out A13.out) ?_; rintro e w1002 ⟨rfl, hb⟩; refine ⟨_, rfl, ?_⟩; replace BK109 := zk BK109 hb; replace HB := zB hb) | ((with_reducible refine zd 8 rfl ?_); refine zgl Try.func24 (laws_szGrid.calls a0_0 a0_1 a0_2 a1 t110 _ A3.out) ?_; rintro e w1001 ⟨rfl, hb⟩; refine ⟨_, rfl, ?_⟩; replace BK109 := zk BK109 hb; replace HB := zB hb))
  go_ret
  exact ⟨er, bel⟩

/-! ### spec_l1In: function 39 -/
def spec_l1In.f (a0 : Int) (a1 : Int) (a2 : Int) : Option (Bool) := if a0 ≥ a1 then (some (decide (a0 ≤ a2))) else (some false)
set_option maxHeartbeats 8000000 in
set_option maxRecDepth 100000 in
theorem spec_l1In.calls (a0 : Int) (a1 : Int) (a2 : Int) (r : Bool) (w : World) (H : spec_l1In.f a0 a1 a2 = some r) :
  Calls Try.prog 39 #[.int .i64 a0, .int .i64 a1, .int .i64 a2] w fun e w' => e = .returned (.bool r) ∧ Drawn0 w w' := by
 unfold spec_l1In.f at H
 replace H := zc H
 rcases H with ⟨c4b0, H⟩ | ⟨c4b0, H⟩
 rotate_left
 focus
  obtain rfl := Option.some.inj H
 rotate_right
 focus
  obtain rfl := Option.some.inj H
 all_goals
  go_enter Try.func39, Try.ntmps39
  go_wp2
  go_ret
  exact ⟨by first | rfl | (simp; done) | (simp [*]; done), by repeat (first | exact Drawn0.refl _ | apply Drawn0.step)⟩

/-! ### spec_IsWord: function 51 -/
def spec_IsWord.l0 : Nat → ByteArray → Int → Option (Bool)
 | 0, _, _ => none
 | k + 1, x0, x3 => if x3 < (x0.size : Int) then (if 0 ≤ x3 then (if (bt x0 x3) < 97 then (some false) else (if (bt x0 x3) > 122 then (some false) else (spec_IsWord.l0 k x0 (wrap64 (x3 + 1))))) else (none)) else (some true)
def spec_IsWord.f (k : Nat) (a0 : ByteArray) : Option (Bool) := (spec_l1In.f (a0.size : Int) 1 8).bind fun t112 => (if t112 = true then (spec_IsWord.l0 k a0 0) else (some false))
set_option maxHeartbeats 8000000 in
set_option maxRecDepth 100000 in
theorem spec_IsWord.calls (k : Nat) (a0 : ByteArray) (r : Bool) (w : World) (H : spec_IsWord.f k a0 = some r) :
  Calls Try.prog 51 #[.string a0] w fun e w' => e = .returned (.bool r) ∧ Drawn0 w w' := by
 unfold spec_IsWord.f at H
 replace H := zs H
 obtain ⟨t112, A2, H⟩ := H
 replace H := zb H
 rcases H with ⟨rfl, H⟩ | ⟨rfl, H⟩
 ·
  have H' := Aside0.mk H
  clear H
  go_enter Try.func51, Try.ntmps51
  go_wp2_with (first | ((with_reducible refine zd 6 rfl ?_); refine zgl Try.func39 (spec_l1In.calls (a0.size : Int) 1 8 true _ A2.out) ?_; rintro e w' ⟨rfl, ⟨nd, rfl⟩⟩; refine ⟨_, rfl, ?_⟩))
  go_loopg [3] k (fun kq v3 w' => ∃ (x3_1 : Int), v3 = .int .i64 x3_1 ∧ Aside0 (spec_IsWord.l0 kq a0 x3_1 = some r) ∧ Aside0 (kq ≤ k) ∧ Drawn0 w w')
  case atStart => exact ⟨(0), rf, H', ⟨Nat.le_refl _⟩, by repeat (first | exact Drawn0.refl _ | apply Drawn0.step)⟩
  case round =>
   clear H'
   obtain ⟨x3_1, rfl, HA, HK1, ⟨m1, rfl⟩⟩ := hrel
   cases gk with
   | zero => exact absurd HA.out (by simp [spec_IsWord.l0])
   | succ k1 =>
    have H := HA.out
    clear HA
    simp only [spec_IsWord.l0] at H
    replace H := zc H
    rcases H with ⟨c4b0, H⟩ | ⟨c4b0, H⟩
    ·
     replace H := zr H
     obtain ⟨c5b0, H⟩ := H
     replace H := zc H
     rcases H with ⟨c7b0, H⟩ | ⟨c7b0, H⟩
     ·
      obtain rfl := Option.some.inj H
      have p6 : 0 ≤ (x3_1 : Int) := of_decide_eq_true asm
      have q6 : x3_1 < (a0.size : Int) := of_decide_eq_true asm
      have hx6 := bt_at a0 x3_1
      replace p6 := eq_true p6
      replace q6 := eq_true q6
      go_wp2
      go_ret
      exact ⟨by first | rfl | (simp; done) | (simp [*]; done), by repeat (first | exact Drawn0.refl _ | apply Drawn0.step)⟩
     ·
      replace H := zc H
      rcases H with ⟨c9b0, H⟩ | ⟨c9b0, H⟩
      ·
       obtain rfl := Option.some.inj H
       have p6 : 0 ≤ (x3_1 : Int) := of_decide_eq_true asm
       have q6 : x3_1 < (a0.size : Int) := of_decide_eq_true asm
       have hx6 := bt_at a0 x3_1
       replace p6 := eq_true p6
       replace q6 := eq_true q6
       have p8 : 0 ≤ (x3_1 : Int) := of_decide_eq_true asm
       have q8 : x3_1 < (a0.size : Int) := of_decide_eq_true asm
       have hx8 := bt_at a0 x3_1
       replace p8 := eq_true p8
       replace q8 := eq_true q8
       go_wp2
       go_ret
       exact ⟨by first | rfl | (simp; done) | (simp [*]; done), by repeat (first | exact Drawn0.refl _ | apply Drawn0.step)⟩
      ·
       have H' := Aside0.mk H
       clear H
       have p6 : 0 ≤ (x3_1 : Int) := of_decide_eq_true asm
       have q6 : x3_1 < (a0.size : Int) := of_decide_eq_true asm
       have hx6 := bt_at a0 x3_1
       replace p6 := eq_true p6
       replace q6 := eq_true q6
       have p8 : 0 ≤ (x3_1 : Int) := of_decide_eq_true asm
       have q8 : x3_1 < (a0.size : Int) := of_decide_eq_true asm
       have hx8 := bt_at a0 x3_1
       replace p8 := eq_true p8
       replace q8 := eq_true q8
       go_wp2
       go_roundg k1
       case measure => have := HK1.out; omega
       case rel => exact ⟨(wrap64 (x3_1 + 1)), rf, H', ⟨by have := HK1.out; omega⟩, by repeat (first | exact Drawn0.refl _ | apply Drawn0.step)⟩
    ·
     obtain rfl := Option.some.inj H
     go_wp2
     go_ret
     exact ⟨by first | rfl | (simp; done) | (simp [*]; done), by repeat (first | exact Drawn0.refl _ | apply Drawn0.step)⟩
 ·
  obtain rfl := Option.some.inj H
  go_enter Try.func51, Try.ntmps51
  go_wp2_with (first | ((with_reducible refine zd 6 rfl ?_); refine zgl Try.func39 (spec_l1In.calls (a0.size : Int) 1 8 false _ A2.out) ?_; rintro e w' ⟨rfl, ⟨nd, rfl⟩⟩; refine ⟨_, rfl, ?_⟩))
  go_ret
  exact ⟨by first | rfl | (simp; done) | (simp [*]; done), by repeat (first | exact Drawn0.refl _ | apply Drawn0.step)⟩

/-! ### spec_l15Ok: function 92 -/
mutual
def spec_l15Ok.j0 : Nat → List (S87) → Int → Bool → Int → ByteArray → Int → Int → Option (Bool)
 | 0, _, _, _, _, _, _, _ => none
 | k + 1, x0, x1, x33, x115000, x115001, x115002, x115003 => if x33 = true then (some false) else (if x115000 = 4 then (spec_l15Ok.j1 k x0 x1 true x115000 x115001 x115002 x115003) else (spec_l15Ok.j1 k x0 x1 (x115000 == 5) x115000 x115001 x115002 x115003))
def spec_l15Ok.j1 : Nat → List (S87) → Int → Bool → Int → ByteArray → Int → Int → Option (Bool)
 | 0, _, _, _, _, _, _, _ => none
 | k + 1, x0, x1, x6, x115000, x115001, x115002, x115003 => if x115000 = 1 then (if x115002 = 0 then (some (x115003 == 0)) else (some false)) else ((spec_l1In.f x115002 0 (wrap64 (x1 - 1))).bind fun t117 => (if t117 = true then (if x6 = true then ((spec_l1In.f x115003 0 (wrap64 (x1 - 1))).bind fun t118 => (if t118 = true then (some true) else (some false))) else (if x115003 = 0 then (if x115000 = 2 then (some true) else (if 0 ≤ x115002 then (if x115002 < (x0.length : Int) then (some (((rd_T87 x0 x115002).f0) == 1)) else (none)) else (none))) else (some false))) else (some false)))
end
def spec_l15Ok.f (k : Nat) (l0 : List (S87)) (a1 : Int) : Option (Bool) := if 0 ≤ a1 then (if a1 < (l0.length : Int) then ((spec_l1In.f ((rd_T87 l0 a1).f0) 1 9).bind fun t115 => (if t115 = true then ((spec_IsWord.f k ((rd_T87 l0 a1).f1)).bind fun t116 => (if ((((rd_T87 l0 a1).f0) == 1) != t116) = true then (spec_l15Ok.j0 k l0 a1 true ((rd_T87 l0 a1).f0) ((rd_T87 l0 a1).f1) ((rd_T87 l0 a1).f2) ((rd_T87 l0 a1).f3)) else (if ((rd_T87 l0 a1).f0) = 1 then (spec_l15Ok.j0 k l0 a1 false ((rd_T87 l0 a1).f0) ((rd_T87 l0 a1).f1) ((rd_T87 l0 a1).f2) ((rd_T87 l0 a1).f3)) else (spec_l15Ok.j0 k l0 a1 (((rd_T87 l0 a1).f1).toList != ([] : List UInt8)) ((rd_T87 l0 a1).f0) ((rd_T87 l0 a1).f1) ((rd_T87 l0 a1).f2) ((rd_T87 l0 a1).f3))))) else (spec_l15Ok.j0 k l0 a1 true ((rd_T87 l0 a1).f0) ((rd_T87 l0 a1).f1) ((rd_T87 l0 a1).f2) ((rd_T87 l0 a1).f3)))) else (none)) else (none)
set_option maxHeartbeats 8000000 in
set_option maxRecDepth 100000 in
theorem spec_l15Ok.calls (k : Nat) (A0 : Option Addr) (c0 : Nat) (l0 : List (S87)) (a1 : Int) (r : Bool) (w : World) (hr0 : Kd.C k87 w A0 l0.length l0) (hc0 : l0.length ≤ c0) (H : spec_l15Ok.f k l0 a1 = some r) :
  Calls Try.prog 92 #[.slice A0 l0.length c0, .int .i64 a1] w fun e w' => e = .returned (.bool r) ∧ Below w.heap.size w w' := by
 have hu87 := Try.underlying87
 have HR0 := Aside0.mk hr0
 have HC0 := Aside0.mk hc0
 clear hr0 hc0
 have HB := Aside0.mk (Below.refl w.heap.size w)
 unfold spec_l15Ok.f at H
 replace H := zr H
 obtain ⟨c3b0, H⟩ := H
 replace H := zr H
 obtain ⟨c4b0, H⟩ := H
 have HC5 := Aside0.mk H
 clear H
 obtain ⟨p113, q113, ad113, e113, hx113_0, hx113_1, hx113_2, hx113_3⟩ := zx (at_T87 HR0.out a1)
 cases e113
 go_enter Try.func92, Try.ntmps92
 go_upto_region 2 with (first | ((with_reducible refine zd 5 rfl ?_); refine zbx (w := w) #[.int .i64 0, .string (⟨#[]⟩ : ByteArray), .int .i64 0, .int .i64 0] 87 ?_; intro gb114 hg w6 BK114 hb; have GW114 := zg (w := w) hg; replace HB := zB hb; clear hb hg; have ⟨_, _, _, _, _, _, _, _⟩ := cz4 BK114))
 repeat (go_quiet (first | ((with_reducible refine zd 5 rfl ?_); refine zbx (w := w) #[.int .i64 0, .string (⟨#[]⟩ : ByteArray), .int .i64 0, .int .i64 0] 87 ?_; intro gb114 hg w6 BK114 hb; have GW114 := zg (w := w) hg; replace HB := zB hb; clear hb hg; have ⟨_, _, _, _, _, _, _, _⟩ := cz4 BK114)); go_upto_region 2 with (first | ((with_reducible refine zd 5 rfl ?_); refine zbx (w := w) #[.int .i64 0, .string (⟨#[]⟩ : ByteArray), .int .i64 0, .int .i64 0] 87 ?_; intro gb114 hg w6 BK114 hb; have GW114 := zg (w := w) hg; replace HB := zB hb; clear hb hg; have ⟨_, _, _, _, _, _, _, _⟩ := cz4 BK114)))
 (try simp only [Act.put, List.setIfInBounds_toArray, List.set_cons_zero, List.set_cons_succ])
 go_cut [33] (fun v33 wc => ∃ (kq : Nat) (x33_4 : Bool), v33 = .bool x33_4 ∧ Aside0 (spec_l15Ok.j0 kq l0 a1 x33_4 ((rd_T87 l0 a1).f0) ((rd_T87 l0 a1).f1) ((rd_T87 l0 a1).f2) ((rd_T87 l0 a1).f3) = some r) ∧ Aside0 (kq ≤ k) ∧ Aside0 (wc.heap[gb114]? = some (.cells #[.int .i64 ((rd_T87 l0 a1).f0), .string ((rd_T87 l0 a1).f1), .int .i64 ((rd_T87 l0 a1).f2), .int .i64 ((rd_T87 l0 a1).f3)] 87 (0, 0))) ∧ Aside0 (Below w.heap.size w wc))
 case first =>
  have H := HC5.out
  clear HC5
  replace H := zs H
  obtain ⟨t115, A8, H⟩ := H
  replace H := zb H
  rcases H with ⟨rfl, H⟩ | ⟨rfl, H⟩
  ·
   replace H := zs H
   obtain ⟨t116, A10, H⟩ := H
   by_cases c11 : ((((rd_T87 l0 a1).f0) == 1) != t116) = true
   ·
    rw [if_pos c11] at H
    have c11b0 : ((((rd_T87 l0 a1).f0) == 1) != t116) = true := c11
    (try (have c11b1 : decide ((((rd_T87 l0 a1).f0) == 1) = t116) = false := by simpa using c11))
    (try (have c11b2 : ((((rd_T87 l0 a1).f0) == 1) == t116) = false := by simpa using c11))
    (try (have c11b3 : ¬ ((((rd_T87 l0 a1).f0) == 1) = t116) := by simpa using c11))
    clear c11
    (first | rw [c11b0] | (simp only [i64_w, i32_w]; rw [c11b0]) | skip)
    have H' := Aside0.mk H
    clear H
    have ⟨_, _, _, _, _, _, _, _⟩ := cz4 BK114
    go_wp2_with (first | (go_at_call 39; (with_reducible refine (spec_l1In.calls ((rd_T87 l0 a1).f0) 1 9 true _ A8.out).mono ?_); rintro e w' ⟨rfl, ⟨nd, rfl⟩⟩; (try first | exact ⟨rfl, _, World.drewN_drewN _ _ _⟩ | exact ⟨rfl, _, Eq.trans (World.drewN_drewN _ _ _) (congrArg (World.drewN _) (Nat.add_assoc _ _ _))⟩)) | (go_at_call 51; (with_reducible refine (spec_IsWord.calls k ((rd_T87 l0 a1).f1) t116 _ A10.out).mono ?_); rintro e w' ⟨rfl, ⟨nd, rfl⟩⟩; (try first | exact ⟨rfl, _, World.drewN_drewN _ _ _⟩ | exact ⟨rfl, _, Eq.trans (World.drewN_drewN _ _ _) (congrArg (World.drewN _) (Nat.add_assoc _ _ _))⟩)))
    repeat (go_quiet (first | (go_at_call 39; (with_reducible refine (spec_l1In.calls ((rd_T87 l0 a1).f0) 1 9 true _ A8.out).mono ?_); rintro e w' ⟨rfl, ⟨nd, rfl⟩⟩; (try first | exact ⟨rfl, _, World.drewN_drewN _ _ _⟩ | exact ⟨rfl, _, Eq.trans (World.drewN_drewN _ _ _) (congrArg (World.drewN _) (Nat.add_assoc _ _ _))⟩)) | (go_at_call 51; (with_reducible refine (spec_IsWord.calls k ((rd_T87 l0 a1).f1) t116 _ A10.out).mono ?_); rintro e w' ⟨rfl, ⟨nd, rfl⟩⟩; (try first | exact ⟨rfl, _, World.drewN_drewN _ _ _⟩ | exact ⟨rfl, _, Eq.trans (World.drewN_drewN _ _ _) (congrArg (World.drewN _) (Nat.add_assoc _ _ _))⟩))); try go_wp2_with (first | (go_at_call 39; (with_reducible refine (spec_l1In.calls ((rd_T87 l0 a1).f0) 1 9 true _ A8.out).mono ?_); rintro e w' ⟨rfl, ⟨nd, rfl⟩⟩; (try first | exact ⟨rfl, _, World.drewN_drewN _ _ _⟩ | exact ⟨rfl, _, Eq.trans (World.drewN_drewN _ _ _) (congrArg (World.drewN _) (Nat.add_assoc _ _ _))⟩)) | (go_at_call 51; (with_reducible refine (spec_IsWord.calls k ((rd_T87 l0 a1).f1) t116 _ A10.out).mono ?_); rintro e w' ⟨rfl, ⟨nd, rfl⟩⟩; (try first | exact ⟨rfl, _, World.drewN_drewN _ _ _⟩ | exact ⟨rfl, _, Eq.trans (World.drewN_drewN _ _ _) (congrArg (World.drewN _) (Nat.add_assoc _ _ _))⟩))))
    go_meet
    case rel => exact ⟨_, (true), rf, H', ⟨by first | omega | exact Nat.le_refl _⟩, ⟨by (with_reducible repeat (first | refine blk_drewN ?_ _ | refine blk_drew ?_ | refine blk_alloc ?_ _)); refine blk_put (cs := #[.int .i64 ((rd_T87 l0 a1).f0), .string ((rd_T87 l0 a1).f1), .int .i64 ((rd_T87 l0 a1).f2), .int .i64 0]) ?_ 3 _ rfl; (with_reducible repeat (first | refine blk_drewN ?_ _ | refine blk_drew ?_ | refine blk_alloc ?_ _)); refine blk_put (cs := #[.int .i64 ((rd_T87 l0 a1).f0), .string ((rd_T87 l0 a1).f1), .int .i64 0, .int .i64 0]) ?_ 2 _ rfl; (with_reducible repeat (first | refine blk_drewN ?_ _ | refine blk_drew ?_ | refine blk_alloc ?_ _)); refine blk_put (cs := #[.int .i64 ((rd_T87 l0 a1).f0), .string (⟨#[]⟩ : ByteArray), .int .i64 0, .int .i64 0]) ?_ 1 _ rfl; (with_reducible repeat (first | refine blk_drewN ?_ _ | refine blk_drew ?_ | refine blk_alloc ?_ _)); refine blk_put (cs := #[.int .i64 0, .string (⟨#[]⟩ : ByteArray), .int .i64 0, .int .i64 0]) ?_ 0 _ rfl; (with_reducible repeat (first | refine blk_drewN ?_ _ | refine blk_drew ?_ | refine blk_alloc ?_ _)); exact BK114.out⟩, ⟨bel⟩⟩
   ·
    rw [if_neg c11] at H
    have c11b0 : ((((rd_T87 l0 a1).f0) == 1) != t116) = false := by simpa using c11
    (try (have c11b1 : decide ((((rd_T87 l0 a1).f0) == 1) = t116) = true := by simpa using c11))
    (try (have c11b2 : ((((rd_T87 l0 a1).f0) == 1) == t116) = true := by simpa using c11))
    clear c11
    (first | rw [c11b0] | (simp only [i64_w, i32_w]; rw [c11b0]) | skip)
    by_cases c13 : ((rd_T87 l0 a1).f0) = 1
    ·
     rw [if_pos c13] at H
     have c13b0 : (((rd_T87 l0 a1).f0) == 1) = true := beq_iff_eq.mpr c13
     have c13b1 : (((rd_T87 l0 a1).f0) != 1) = false := bne_eq_false_iff_eq.mpr c13
     clear c13
     have ht_ : t116 = true := by rw [c13b0] at c11b0; simpa using c11b0
     subst ht_
     have H' := Aside0.mk H
     clear H
     have ⟨_, _, _, _, _, _, _, _⟩ := cz4 BK114
     go_wp2_with (first | (go_at_call 39; (with_reducible refine (spec_l1In.calls ((rd_T87 l0 a1).f0) 1 9 true _ A8.out).mono ?_); rintro e w' ⟨rfl, ⟨nd, rfl⟩⟩; (try first | exact ⟨rfl, _, World.drewN_drewN _ _ _⟩ | exact ⟨rfl, _, Eq.trans (World.drewN_drewN _ _ _) (congrArg (World.drewN _) (Nat.add_assoc _ _ _))⟩)) | (go_at_call 51; (with_reducible refine (spec_IsWord.calls k ((rd_T87 l0 a1).f1) true _ A10.out).mono ?_); rintro e w' ⟨rfl, ⟨nd, rfl⟩⟩; (try first | exact ⟨rfl, _, World.drewN_drewN _ _ _⟩ | exact ⟨rfl, _, Eq.trans (World.drewN_drewN _ _ _) (congrArg (World.drewN _) (Nat.add_assoc _ _ _))⟩)))
     repeat (go_quiet (first | (go_at_call 39; (with_reducible refine (spec_l1In.calls ((rd_T87 l0 a1).f0) 1 9 true _ A8.out).mono ?_); rintro e w' ⟨rfl, ⟨nd, rfl⟩⟩; (try first | exact ⟨rfl, _, World.drewN_drewN _ _ _⟩ | exact ⟨rfl, _, Eq.trans (World.drewN_drewN _ _ _) (congrArg (World.drewN _) (Nat.add_assoc _ _ _))⟩)) | (go_at_call 51; (with_reducible refine (spec_IsWord.calls k ((rd_T87 l0 a1).f1) true _ A10.out).mono ?_); rintro e w' ⟨rfl, ⟨nd, rfl⟩⟩; (try first | exact ⟨rfl, _, World.drewN_drewN _ _ _⟩ | exact ⟨rfl, _, Eq.trans (World.drewN_drewN _ _ _) (congrArg (World.drewN _) (Nat.add_assoc _ _ _))⟩))); try go_wp2_with (first | (go_at_call 39; (with_reducible refine (spec_l1In.calls ((rd_T87 l0 a1).f0) 1 9 true _ A8.out).mono ?_); rintro e w' ⟨rfl, ⟨nd, rfl⟩⟩; (try first | exact ⟨rfl, _, World.drewN_drewN _ _ _⟩ | exact ⟨rfl, _, Eq.trans (World.drewN_drewN _ _ _) (congrArg (World.drewN _) (Nat.add_assoc _ _ _))⟩)) | (go_at_call 51; (with_reducible refine (spec_IsWord.calls k ((rd_T87 l0 a1).f1) true _ A10.out).mono ?_); rintro e w' ⟨rfl, ⟨nd, rfl⟩⟩; (try first | exact ⟨rfl, _, World.drewN_drewN _ _ _⟩ | exact ⟨rfl, _, Eq.trans (World.drewN_drewN _ _ _) (congrArg (World.drewN _) (Nat.add_assoc _ _ _))⟩))))
     go_meet
     case rel => exact ⟨_, (false), rf, H', ⟨by first | omega | exact Nat.le_refl _⟩, ⟨by (with_reducible repeat (first | refine blk_drewN ?_ _ | refine blk_drew ?_ | refine blk_alloc ?_ _)); refine blk_put (cs := #[.int .i64 ((rd_T87 l0 a1).f0), .string ((rd_T87 l0 a1).f1), .int .i64 ((rd_T87 l0 a1).f2), .int .i64 0]) ?_ 3 _ rfl; (with_reducible repeat (first | refine blk_drewN ?_ _ | refine blk_drew ?_ | refine blk_alloc ?_ _)); refine blk_put (cs := #[.int .i64 ((rd_T87 l0 a1).f0), .string ((rd_T87 l0 a1).f1), .int .i64 0, .int .i64 0]) ?_ 2 _ rfl; (with_reducible repeat (first | refine blk_drewN ?_ _ | refine blk_drew ?_ | refine blk_alloc ?_ _)); refine blk_put (cs := #[.int .i64 ((rd_T87 l0 a1).f0), .string (⟨#[]⟩ : ByteArray), .int .i64 0, .int .i64 0]) ?_ 1 _ rfl; (with_reducible repeat (first | refine blk_drewN ?_ _ | refine blk_drew ?_ | refine blk_alloc ?_ _)); refine blk_put (cs := #[.int .i64 0, .string (⟨#[]⟩ : ByteArray), .int .i64 0, .int .i64 0]) ?_ 0 _ rfl; (with_reducible repeat (first | refine blk_drewN ?_ _ | refine blk_drew ?_ | refine blk_alloc ?_ _)); exact BK114.out⟩, ⟨bel⟩⟩
    ·
     rw [if_neg c13] at H
     have c13b0 : (((rd_T87 l0 a1).f0) == 1) = false := beq_eq_false_iff_ne.mpr c13
     have c13b1 : (((rd_T87 l0 a1).f0) != 1) = true := bne_iff_ne.mpr c13
     have ht_ : t116 = false := by rw [c13b0] at c11b0; simpa using c11b0
     subst ht_
     have H' := Aside0.mk H
     clear H
     have ⟨_, _, _, _, _, _, _, _⟩ := cz4 BK114
     go_wp2_with (first | (go_at_call 39; (with_reducible refine (spec_l1In.calls ((rd_T87 l0 a1).f0) 1 9 true _ A8.out).mono ?_); rintro e w' ⟨rfl, ⟨nd, rfl⟩⟩; (try first | exact ⟨rfl, _, World.drewN_drewN _ _ _⟩ | exact ⟨rfl, _, Eq.trans (World.drewN_drewN _ _ _) (congrArg (World.drewN _) (Nat.add_assoc _ _ _))⟩)) | (go_at_call 51; (with_reducible refine (spec_IsWord.calls k ((rd_T87 l0 a1).f1) false _ A10.out).mono ?_); rintro e w' ⟨rfl, ⟨nd, rfl⟩⟩; (try first | exact ⟨rfl, _, World.drewN_drewN _ _ _⟩ | exact ⟨rfl, _, Eq.trans (World.drewN_drewN _ _ _) (congrArg (World.drewN _) (Nat.add_assoc _ _ _))⟩)))
     repeat (go_quiet (first | (go_at_call 39; (with_reducible refine (spec_l1In.calls ((rd_T87 l0 a1).f0) 1 9 true _ A8.out).mono ?_); rintro e w' ⟨rfl, ⟨nd, rfl⟩⟩; (try first | exact ⟨rfl, _, World.drewN_drewN _ _ _⟩ | exact ⟨rfl, _, Eq.trans (World.drewN_drewN _ _ _) (congrArg (World.drewN _) (Nat.add_assoc _ _ _))⟩)) | (go_at_call 51; (with_reducible refine (spec_IsWord.calls k ((rd_T87 l0 a1).f1) false _ A10.out).mono ?_); rintro e w' ⟨rfl, ⟨nd, rfl⟩⟩; (try first | exact ⟨rfl, _, World.drewN_drewN _ _ _⟩ | exact ⟨rfl, _, Eq.trans (World.drewN_drewN _ _ _) (congrArg (World.drewN _) (Nat.add_assoc _ _ _))⟩))); try go_wp2_with (first | (go_at_call 39; (with_reducible refine (spec_l1In.calls ((rd_T87 l0 a1).f0) 1 9 true _ A8.out).mono ?_); rintro e w' ⟨rfl, ⟨nd, rfl⟩⟩; (try first | exact ⟨rfl, _, World.drewN_drewN _ _ _⟩ | exact ⟨rfl, _, Eq.trans (World.drewN_drewN _ _ _) (congrArg (World.drewN _) (Nat.add_assoc _ _ _))⟩)) | (go_at_call 51; (with_reducible refine (spec_IsWord.calls k ((rd_T87 l0 a1).f1) false _ A10.out).mono ?_); rintro e w' ⟨rfl, ⟨nd, rfl⟩⟩; (try first | exact ⟨rfl, _, World.drewN_drewN _ _ _⟩ | exact ⟨rfl, _, Eq.trans (World.drewN_drewN _ _ _) (congrArg (World.drewN _) (Nat.add_assoc _ _ _))⟩))))
     go_meet
     case rel => exact ⟨_, ((((rd_T87 l0 a1).f1).toList != ([] : List UInt8))), (by first | rfl | (simp; done) | (simp [*]; done) | (simp; generalize ((rd_T87 l0 a1).f1).toList = l_; cases l_ <;> simp)), H', ⟨by first | omega | exact Nat.le_refl _⟩, ⟨by (with_reducible repeat (first | refine blk_drewN ?_ _ | refine blk_drew ?_ | refine blk_alloc ?_ _)); refine blk_put (cs := #[.int .i64 ((rd_T87 l0 a1).f0), .string ((rd_T87 l0 a1).f1), .int .i64 ((rd_T87 l0 a1).f2), .int .i64 0]) ?_ 3 _ rfl; (with_reducible repeat (first | refine blk_drewN ?_ _ | refine blk_drew ?_ | refine blk_alloc ?_ _)); refine blk_put (cs := #[.int .i64 ((rd_T87 l0 a1).f0), .string ((rd_T87 l0 a1).f1), .int .i64 0, .int .i64 0]) ?_ 2 _ rfl; (with_reducible repeat (first | refine blk_drewN ?_ _ | refine blk_drew ?_ | refine blk_alloc ?_ _)); refine blk_put (cs := #[.int .i64 ((rd_T87 l0 a1).f0), .string (⟨#[]⟩ : ByteArray), .int .i64 0, .int .i64 0]) ?_ 1 _ rfl; (with_reducible repeat (first | refine blk_drewN ?_ _ | refine blk_drew ?_ | refine blk_alloc ?_ _)); refine blk_put (cs := #[.int .i64 0, .string (⟨#[]⟩ : ByteArray), .int .i64 0, .int .i64 0]) ?_ 0 _ rfl; (with_reducible repeat (first | refine blk_drewN ?_ _ | refine blk_drew ?_ | refine blk_alloc ?_ _)); exact BK114.out⟩, ⟨bel⟩⟩
  ·
   have H' := Aside0.mk H
   clear H
   have ⟨_, _, _, _, _, _, _, _⟩ := cz4 BK114
   go_wp2_with (first | (go_at_call 39; (with_reducible refine (spec_l1In.calls ((rd_T87 l0 a1).f0) 1 9 false _ A8.out).mono ?_); rintro e w' ⟨rfl, ⟨nd, rfl⟩⟩; (try first | exact ⟨rfl, _, World.drewN_drewN _ _ _⟩ | exact ⟨rfl, _, Eq.trans (World.drewN_drewN _ _ _) (congrArg (World.drewN _) (Nat.add_assoc _ _ _))⟩)))
   repeat (go_quiet (first | (go_at_call 39; (with_reducible refine (spec_l1In.calls ((rd_T87 l0 a1).f0) 1 9 false _ A8.out).mono ?_); rintro e w' ⟨rfl, ⟨nd, rfl⟩⟩; (try first | exact ⟨rfl, _, World.drewN_drewN _ _ _⟩ | exact ⟨rfl, _, Eq.trans (World.drewN_drewN _ _ _) (congrArg (World.drewN _) (Nat.add_assoc _ _ _))⟩))); try go_wp2_with (first | (go_at_call 39; (with_reducible refine (spec_l1In.calls ((rd_T87 l0 a1).f0) 1 9 false _ A8.out).mono ?_); rintro e w' ⟨rfl, ⟨nd, rfl⟩⟩; (try first | exact ⟨rfl, _, World.drewN_drewN _ _ _⟩ | exact ⟨rfl, _, Eq.trans (World.drewN_drewN _ _ _) (congrArg (World.drewN _) (Nat.add_assoc _ _ _))⟩))))
   go_meet
   case rel => exact ⟨_, (true), rf, H', ⟨by first | omega | exact Nat.le_refl _⟩, ⟨by (with_reducible repeat (first | refine blk_drewN ?_ _ | refine blk_drew ?_ | refine blk_alloc ?_ _)); refine blk_put (cs := #[.int .i64 ((rd_T87 l0 a1).f0), .string ((rd_T87 l0 a1).f1), .int .i64 ((rd_T87 l0 a1).f2), .int .i64 0]) ?_ 3 _ rfl; (with_reducible repeat (first | refine blk_drewN ?_ _ | refine blk_drew ?_ | refine blk_alloc ?_ _)); refine blk_put (cs := #[.int .i64 ((rd_T87 l0 a1).f0), .string ((rd_T87 l0 a1).f1), .int .i64 0, .int .i64 0]) ?_ 2 _ rfl; (with_reducible repeat (first | refine blk_drewN ?_ _ | refine blk_drew ?_ | refine blk_alloc ?_ _)); refine blk_put (cs := #[.int .i64 ((rd_T87 l0 a1).f0), .string (⟨#[]⟩ : ByteArray), .int .i64 0, .int .i64 0]) ?_ 1 _ rfl; (with_reducible repeat (first | refine blk_drewN ?_ _ | refine blk_drew ?_ | refine blk_alloc ?_ _)); refine blk_put (cs := #[.int .i64 0, .string (⟨#[]⟩ : ByteArray), .int .i64 0, .int .i64 0]) ?_ 0 _ rfl; (with_reducible repeat (first | refine blk_drewN ?_ _ | refine blk_drew ?_ | refine blk_alloc ?_ _)); exact BK114.out⟩, ⟨bel⟩⟩
 case rest =>
  clear HC5
  obtain ⟨kq, x33_4, rfl, HA, HJ4, BK114, HB⟩ := hcut
  cases kq with
  | zero => exact absurd HA.out (by simp [spec_l15Ok.j0])
  | succ kj4 =>
   have H := HA.out
   clear HA
   simp only [spec_l15Ok.j0] at H
   replace H := zb H
   rcases H with ⟨rfl, H⟩ | ⟨rfl, H⟩
   ·
    obtain rfl := Option.some.inj H
    go_wp2
    repeat (go_quiet (fail); try go_wp2)
    go_ret
    exact ⟨er, bel⟩
   ·
    have HC18 := Aside0.mk H
    clear H
    go_upto_region 4 with (fail)
    repeat (go_quiet (fail); go_upto_region 4 with (fail))
    go_cut [6] (fun v6 wc => ∃ (kq : Nat) (x6_17 : Bool), v6 = .bool x6_17 ∧ Aside0 (spec_l15Ok.j1 kq l0 a1 x6_17 ((rd_T87 l0 a1).f0) ((rd_T87 l0 a1).f1) ((rd_T87 l0 a1).f2) ((rd_T87 l0 a1).f3) = some r) ∧ Aside0 (kq ≤ kj4) ∧ Aside0 (wc.heap[gb114]? = some (.cells #[.int .i64 ((rd_T87 l0 a1).f0), .string ((rd_T87 l0 a1).f1), .int .i64 ((rd_T87 l0 a1).f2), .int .i64 ((rd_T87 l0 a1).f3)] 87 (0, 0))) ∧ Aside0 (Below w.heap.size w wc))
    case first =>
     have H := HC18.out
     clear HC18
     by_cases c19 : ((rd_T87 l0 a1).f0) = 4
     ·
      rw [if_pos c19] at H
      have c19b0 : (((rd_T87 l0 a1).f0) == 4) = true := beq_iff_eq.mpr c19
      have c19b1 : (((rd_T87 l0 a1).f0) != 4) = false := bne_eq_false_iff_eq.mpr c19
      clear c19
      (first | rw [c19b0] | (simp only [i64_w, i32_w]; rw [c19b0]) | skip)
      have H' := Aside0.mk H
      clear H
      have ⟨_, _, _, _, _, _, _, _⟩ := cz4 BK114
      go_wp2
      repeat (go_quiet (fail); try go_wp2)
      go_meet
      case rel => exact ⟨_, (true), rf, H', ⟨by have := HJ4.out; first | omega | exact Nat.le_refl _⟩, ⟨bk BK114⟩, ⟨bel⟩⟩
     ·
      rw [if_neg c19] at H
      have c19b0 : (((rd_T87 l0 a1).f0) == 4) = false := beq_eq_false_iff_ne.mpr c19
      have c19b1 : (((rd_T87 l0 a1).f0) != 4) = true := bne_iff_ne.mpr c19
      (first | rw [c19b0] | (simp only [i64_w, i32_w]; rw [c19b0]) | skip)
      have H' := Aside0.mk H
      clear H
      have ⟨_, _, _, _, _, _, _, _⟩ := cz4 BK114
      go_wp2
      repeat (go_quiet (fail); try go_wp2)
      go_meet
      case rel => exact ⟨_, ((((rd_T87 l0 a1).f0) == 5)), rf, H', ⟨by have := HJ4.out; first | omega | exact Nat.le_refl _⟩, ⟨bk BK114⟩, ⟨bel⟩⟩
    case rest =>
     clear HC18
     obtain ⟨kq, x6_17, rfl, HA, HJ17, BK114, HB⟩ := hcut
     cases kq with
     | zero => exact absurd HA.out (by simp [spec_l15Ok.j1])
     | succ kj17 =>
      have H := HA.out
      clear HA
      simp only [spec_l15Ok.j1] at H
      by_cases c22 : ((rd_T87 l0 a1).f0) = 1
      ·
       rw [if_pos c22] at H
       have c22b0 : (((rd_T87 l0 a1).f0) == 1) = true := beq_iff_eq.mpr c22
       have c22b1 : (((rd_T87 l0 a1).f0) != 1) = false := bne_eq_false_iff_eq.mpr c22
       clear c22
       by_cases c23 : ((rd_T87 l0 a1).f2) = 0
       ·
        rw [if_pos c23] at H
        have c23b0 : (((rd_T87 l0 a1).f2) == 0) = true := beq_iff_eq.mpr c23
        have c23b1 : (((rd_T87 l0 a1).f2) != 0) = false := bne_eq_false_iff_eq.mpr c23
        clear c23
        obtain rfl := Option.some.inj H
        have ⟨_, _, _, _, _, _, _, _⟩ := cz4 BK114
        go_wp2
        repeat (go_quiet (fail); try go_wp2)
        go_ret
        exact ⟨er, bel⟩
       ·
        rw [if_neg c23] at H
        have c23b0 : (((rd_T87 l0 a1).f2) == 0) = false := beq_eq_false_iff_ne.mpr c23
        have c23b1 : (((rd_T87 l0 a1).f2) != 0) = true := bne_iff_ne.mpr c23
        obtain rfl := Option.some.inj H
        have ⟨_, _, _, _, _, _, _, _⟩ := cz4 BK114
        go_wp2
        repeat (go_quiet (fail); try go_wp2)
        go_ret
        exact ⟨er, bel⟩
      ·
       rw [if_neg c22] at H
       have c22b0 : (((rd_T87 l0 a1).f0) == 1) = false := beq_eq_false_iff_ne.mpr c22
       have c22b1 : (((rd_T87 l0 a1).f0) != 1) = true := bne_iff_ne.mpr c22
       replace H := zs H
       obtain ⟨t117, A26, H⟩ := H
       replace H := zb H
       rcases H with ⟨rfl, H⟩ | ⟨rfl, H⟩
       ·
        replace H := zb H
        rcases H with ⟨rfl, H⟩ | ⟨rfl, H⟩
        ·
         replace H := zs H
         obtain ⟨t118, A29, H⟩ := H
         replace H := zb H
         rcases H with ⟨rfl, H⟩ | ⟨rfl, H⟩
         ·
          obtain rfl := Option.some.inj H
          have ⟨_, _, _, _, _, _, _, _⟩ := cz4 BK114
          go_wp2_with (first | (go_at_call 39; (with_reducible refine (spec_l1In.calls ((rd_T87 l0 a1).f2) 0 (wrap64 (a1 - 1)) true _ A26.out).mono ?_); rintro e w' ⟨rfl, ⟨nd, rfl⟩⟩; (try first | exact ⟨rfl, _, World.drewN_drewN _ _ _⟩ | exact ⟨rfl, _, Eq.trans (World.drewN_drewN _ _ _) (congrArg (World.drewN _) (Nat.add_assoc _ _ _))⟩)) | (go_at_call 39; (with_reducible refine (spec_l1In.calls ((rd_T87 l0 a1).f3) 0 (wrap64 (a1 - 1)) true _ A29.out).mono ?_); rintro e w' ⟨rfl, ⟨nd, rfl⟩⟩; (try first | exact ⟨rfl, _, World.drewN_drewN _ _ _⟩ | exact ⟨rfl, _, Eq.trans (World.drewN_drewN _ _ _) (congrArg (World.drewN _) (Nat.add_assoc _ _ _))⟩)))
          repeat (go_quiet (first | (go_at_call 39; (with_reducible refine (spec_l1In.calls ((rd_T87 l0 a1).f2) 0 (wrap64 (a1 - 1)) true _ A26.out).mono ?_); rintro e w' ⟨rfl, ⟨nd, rfl⟩⟩; (try first | exact ⟨rfl, _, World.drewN_drewN _ _ _⟩ | exact ⟨rfl, _, Eq.trans (World.drewN_drewN _ _ _) (congrArg (World.drewN _) (Nat.add_assoc _ _ _))⟩)) | (go_at_call 39; (with_reducible refine (spec_l1In.calls ((rd_T87 l0 a1).f3) 0 (wrap64 (a1 - 1)) true _ A29.out).mono ?_); rintro e w' ⟨rfl, ⟨nd, rfl⟩⟩; (try first | exact ⟨rfl, _, World.drewN_drewN _ _ _⟩ | exact ⟨rfl, _, Eq.trans (World.drewN_drewN _ _ _) (congrArg (World.drewN _) (Nat.add_assoc _ _ _))⟩))); try go_wp2_with (first | (go_at_call 39; (with_reducible refine (spec_l1In.calls ((rd_T87 l0 a1).f2) 0 (wrap64 (a1 - 1)) true _ A26.out).mono ?_); rintro e w' ⟨rfl, ⟨nd, rfl⟩⟩; (try first | exact ⟨rfl, _, World.drewN_drewN _ _ _⟩ | exact ⟨rfl, _, Eq.trans (World.drewN_drewN _ _ _) (congrArg (World.drewN _) (Nat.add_assoc _ _ _))⟩)) | (go_at_call 39; (with_reducible refine (spec_l1In.calls ((rd_T87 l0 a1).f3) 0 (wrap64 (a1 - 1)) true _ A29.out).mono ?_); rintro e w' ⟨rfl, ⟨nd, rfl⟩⟩; (try first | exact ⟨rfl, _, World.drewN_drewN _ _ _⟩ | exact ⟨rfl, _, Eq.trans (World.drewN_drewN _ _ _) (congrArg (World.drewN _) (Nat.add_assoc _ _ _))⟩))))
          go_ret
          exact ⟨er, bel⟩
         ·
          obtain rfl := Option.some.inj H
          have ⟨_, _, _, _, _, _, _, _⟩ := cz4 BK114
          go_wp2_with (first | (go_at_call 39; (with_reducible refine (spec_l1In.calls ((rd_T87 l0 a1).f2) 0 (wrap64 (a1 - 1)) true _ A26.out).mono ?_); rintro e w' ⟨rfl, ⟨nd, rfl⟩⟩; (try first | exact ⟨rfl, _, World.drewN_drewN _ _ _⟩ | exact ⟨rfl, _, Eq.trans (World.drewN_drewN _ _ _) (congrArg (World.drewN _) (Nat.add_assoc _ _ _))⟩)) | (go_at_call 39; (with_reducible refine (spec_l1In.calls ((rd_T87 l0 a1).f3) 0 (wrap64 (a1 - 1)) false _ A29.out).mono ?_); rintro e w' ⟨rfl, ⟨nd, rfl⟩⟩; (try first | exact ⟨rfl, _, World.drewN_drewN _ _ _⟩ | exact ⟨rfl, _, Eq.trans (World.drewN_drewN _ _ _) (congrArg (World.drewN _) (Nat.add_assoc _ _ _))⟩)))
          repeat (go_quiet (first | (go_at_call 39; (with_reducible refine (spec_l1In.calls ((rd_T87 l0 a1).f2) 0 (wrap64 (a1 - 1)) true _ A26.out).mono ?_); rintro e w' ⟨rfl, ⟨nd, rfl⟩⟩; (try first | exact ⟨rfl, _, World.drewN_drewN _ _ _⟩ | exact ⟨rfl, _, Eq.trans (World.drewN_drewN _ _ _) (congrArg (World.drewN _) (Nat.add_assoc _ _ _))⟩)) | (go_at_call 39; (with_reducible refine (spec_l1In.calls ((rd_T87 l0 a1).f3) 0 (wrap64 (a1 - 1)) false _ A29.out).mono ?_); rintro e w' ⟨rfl, ⟨nd, rfl⟩⟩; (try first | exact ⟨rfl, _, World.drewN_drewN _ _ _⟩ | exact ⟨rfl, _, Eq.trans (World.drewN_drewN _ _ _) (congrArg (World.drewN _) (Nat.add_assoc _ _ _))⟩))); try go_wp2_with (first | (go_at_call 39; (with_reducible refine (spec_l1In.calls ((rd_T87 l0 a1).f2) 0 (wrap64 (a1 - 1)) true _ A26.out).mono ?_); rintro e w' ⟨rfl, ⟨nd, rfl⟩⟩; (try first | exact ⟨rfl, _, World.drewN_drewN _ _ _⟩ | exact ⟨rfl, _, Eq.trans (World.drewN_drewN _ _ _) (congrArg (World.drewN _) (Nat.add_assoc _ _ _))⟩)) | (go_at_call 39; (with_reducible refine (spec_l1In.calls ((rd_T87 l0 a1).f3) 0 (wrap64 (a1 - 1)) false _ A29.out).mono ?_); rintro e w' ⟨rfl, ⟨nd, rfl⟩⟩; (try first | exact ⟨rfl, _, World.drewN_drewN _ _ _⟩ | exact ⟨rfl, _, Eq.trans (World.drewN_drewN _ _ _) (congrArg (World.drewN _) (Nat.add_assoc _ _ _))⟩))))
          go_ret
          exact ⟨er, bel⟩
        ·
         by_cases c33 : ((rd_T87 l0 a1).f3) = 0
         ·
          rw [if_pos c33] at H
          have c33b0 : (((rd_T87 l0 a1).f3) == 0) = true := beq_iff_eq.mpr c33
          have c33b1 : (((rd_T87 l0 a1).f3) != 0) = false := bne_eq_false_iff_eq.mpr c33
          clear c33
          by_cases c34 : ((rd_T87 l0 a1).f0) = 2
          ·
           rw [if_pos c34] at H
           have c34b0 : (((rd_T87 l0 a1).f0) == 2) = true := beq_iff_eq.mpr c34
           have c34b1 : (((rd_T87 l0 a1).f0) != 2) = false := bne_eq_false_iff_eq.mpr c34
           clear c34
           obtain rfl := Option.some.inj H
           have ⟨_, _, _, _, _, _, _, _⟩ := cz4 BK114
           go_wp2_with (first | (go_at_call 39; (with_reducible refine (spec_l1In.calls ((rd_T87 l0 a1).f2) 0 (wrap64 (a1 - 1)) true _ A26.out).mono ?_); rintro e w' ⟨rfl, ⟨nd, rfl⟩⟩; (try first | exact ⟨rfl, _, World.drewN_drewN _ _ _⟩ | exact ⟨rfl, _, Eq.trans (World.drewN_drewN _ _ _) (congrArg (World.drewN _) (Nat.add_assoc _ _ _))⟩)))
           repeat (go_quiet (first | (go_at_call 39; (with_reducible refine (spec_l1In.calls ((rd_T87 l0 a1).f2) 0 (wrap64 (a1 - 1)) true _ A26.out).mono ?_); rintro e w' ⟨rfl, ⟨nd, rfl⟩⟩; (try first | exact ⟨rfl, _, World.drewN_drewN _ _ _⟩ | exact ⟨rfl, _, Eq.trans (World.drewN_drewN _ _ _) (congrArg (World.drewN _) (Nat.add_assoc _ _ _))⟩))); try go_wp2_with (first | (go_at_call 39; (with_reducible refine (spec_l1In.calls ((rd_T87 l0 a1).f2) 0 (wrap64 (a1 - 1)) true _ A26.out).mono ?_); rintro e w' ⟨rfl, ⟨nd, rfl⟩⟩; (try first | exact ⟨rfl, _, World.drewN_drewN _ _ _⟩ | exact ⟨rfl, _, Eq.trans (World.drewN_drewN _ _ _) (congrArg (World.drewN _) (Nat.add_assoc _ _ _))⟩))))
           go_ret
           exact ⟨er, bel⟩
          ·
           rw [if_neg c34] at H
           have c34b0 : (((rd_T87 l0 a1).f0) == 2) = false := beq_eq_false_iff_ne.mpr c34
           have c34b1 : (((rd_T87 l0 a1).f0) != 2) = true := bne_iff_ne.mpr c34
           replace H := zr H
           obtain ⟨c36b0, H⟩ := H
           replace H := zr H
           obtain ⟨c37b0, H⟩ := H
           obtain rfl := Option.some.inj H
           have ⟨_, _, _, _, _, _, _, _⟩ := cz4 BK114
           go_wp2_with (first | (go_at_call 39; (with_reducible refine (spec_l1In.calls ((rd_T87 l0 a1).f2) 0 (wrap64 (a1 - 1)) true _ A26.out).mono ?_); rintro e w' ⟨rfl, ⟨nd, rfl⟩⟩; (try first | exact ⟨rfl, _, World.drewN_drewN _ _ _⟩ | exact ⟨rfl, _, Eq.trans (World.drewN_drewN _ _ _) (congrArg (World.drewN _) (Nat.add_assoc _ _ _))⟩); have p119 : 0 ≤ (((rd_T87 l0 a1).f2) : Int) := of_decide_eq_true asm; have q119 : ((rd_T87 l0 a1).f2) < (l0.length : Int) := of_decide_eq_true asm; obtain ⟨ad119, e119, hx119_0, hx119_1, hx119_2, hx119_3⟩ := at_T87 HR0.out ((rd_T87 l0 a1).f2) p119 q119; obtain rfl : ad113 = ad119 := (by injection e119); replace hx119_0 := (HB.out.cell (World.block_lt_of_cell? w _ hx119_0)).trans hx119_0; replace hx119_1 := (HB.out.cell (World.block_lt_of_cell? w _ hx119_1)).trans hx119_1; replace hx119_2 := (HB.out.cell (World.block_lt_of_cell? w _ hx119_2)).trans hx119_2; replace hx119_3 := (HB.out.cell (World.block_lt_of_cell? w _ hx119_3)).trans hx119_3; replace p119 := eq_true p119; replace q119 := eq_true q119))
           repeat (go_quiet (first | (go_at_call 39; (with_reducible refine (spec_l1In.calls ((rd_T87 l0 a1).f2) 0 (wrap64 (a1 - 1)) true _ A26.out).mono ?_); rintro e w' ⟨rfl, ⟨nd, rfl⟩⟩; (try first | exact ⟨rfl, _, World.drewN_drewN _ _ _⟩ | exact ⟨rfl, _, Eq.trans (World.drewN_drewN _ _ _) (congrArg (World.drewN _) (Nat.add_assoc _ _ _))⟩); have p119 : 0 ≤ (((rd_T87 l0 a1).f2) : Int) := of_decide_eq_true asm; have q119 : ((rd_T87 l0 a1).f2) < (l0.length : Int) := of_decide_eq_true asm; obtain ⟨ad119, e119, hx119_0, hx119_1, hx119_2, hx119_3⟩ := at_T87 HR0.out ((rd_T87 l0 a1).f2) p119 q119; obtain rfl : ad113 = ad119 := (by injection e119); replace hx119_0 := (HB.out.cell (World.block_lt_of_cell? w _ hx119_0)).trans hx119_0; replace hx119_1 := (HB.out.cell (World.block_lt_of_cell? w _ hx119_1)).trans hx119_1; replace hx119_2 := (HB.out.cell (World.block_lt_of_cell? w _ hx119_2)).trans hx119_2; replace hx119_3 := (HB.out.cell (World.block_lt_of_cell? w _ hx119_3)).trans hx119_3; replace p119 := eq_true p119; replace q119 := eq_true q119)); try go_wp2_with (first | (go_at_call 39; (with_reducible refine (spec_l1In.calls ((rd_T87 l0 a1).f2) 0 (wrap64 (a1 - 1)) true _ A26.out).mono ?_); rintro e w' ⟨rfl, ⟨nd, rfl⟩⟩; (try first | exact ⟨rfl, _, World.drewN_drewN _ _ _⟩ | exact ⟨rfl, _, Eq.trans (World.drewN_drewN _ _ _) (congrArg (World.drewN _) (Nat.add_assoc _ _ _))⟩); have p119 : 0 ≤ (((rd_T87 l0 a1).f2) : Int) := of_decide_eq_true asm; have q119 : ((rd_T87 l0 a1).f2) < (l0.length : Int) := of_decide_eq_true asm; obtain ⟨ad119, e119, hx119_0, hx119_1, hx119_2, hx119_3⟩ := at_T87 HR0.out ((rd_T87 l0 a1).f2) p119 q119; obtain rfl : ad113 = ad119 := (by injection e119); replace hx119_0 := (HB.out.cell (World.block_lt_of_cell? w _ hx119_0)).trans hx119_0; replace hx119_1 := (HB.out.cell (World.block_lt_of_cell? w _ hx119_1)).trans hx119_1; replace hx119_2 := (HB.out.cell (World.block_lt_of_cell? w _ hx119_2)).trans hx119_2; replace hx119_3 := (HB.out.cell (World.block_lt_of_cell? w _ hx119_3)).trans hx119_3; replace p119 := eq_true p119; replace q119 := eq_true q119)))
           go_ret
           exact ⟨er, bel⟩
         ·
          rw [if_neg c33] at H
          have c33b0 : (((rd_T87 l0 a1).f3) == 0) = false := beq_eq_false_iff_ne.mpr c33
          have c33b1 : (((rd_T87 l0 a1).f3) != 0) = true := bne_iff_ne.mpr c33
          obtain rfl := Option.some.inj H
          have ⟨_, _, _, _, _, _, _, _⟩ := cz4 BK114
          go_wp2_with (first | (go_at_call 39; (with_reducible refine (spec_l1In.calls ((rd_T87 l0 a1).f2) 0 (wrap64 (a1 - 1)) true _ A26.out).mono ?_); rintro e w' ⟨rfl, ⟨nd, rfl⟩⟩; (try first | exact ⟨rfl, _, World.drewN_drewN _ _ _⟩ | exact ⟨rfl, _, Eq.trans (World.drewN_drewN _ _ _) (congrArg (World.drewN _) (Nat.add_assoc _ _ _))⟩)))
          repeat (go_quiet (first | (go_at_call 39; (with_reducible refine (spec_l1In.calls ((rd_T87 l0 a1).f2) 0 (wrap64 (a1 - 1)) true _ A26.out).mono ?_); rintro e w' ⟨rfl, ⟨nd, rfl⟩⟩; (try first | exact ⟨rfl, _, World.drewN_drewN _ _ _⟩ | exact ⟨rfl, _, Eq.trans (World.drewN_drewN _ _ _) (congrArg (World.drewN _) (Nat.add_assoc _ _ _))⟩))); try go_wp2_with (first | (go_at_call 39; (with_reducible refine (spec_l1In.calls ((rd_T87 l0 a1).f2) 0 (wrap64 (a1 - 1)) true _ A26.out).mono ?_); rintro e w' ⟨rfl, ⟨nd, rfl⟩⟩; (try first | exact ⟨rfl, _, World.drewN_drewN _ _ _⟩ | exact ⟨rfl, _, Eq.trans (World.drewN_drewN _ _ _) (congrArg (World.drewN _) (Nat.add_assoc _ _ _))⟩))))
          go_ret
          exact ⟨er, bel⟩
       ·
        obtain rfl := Option.some.inj H
        have ⟨_, _, _, _, _, _, _, _⟩ := cz4 BK114
        go_wp2_with (first | (go_at_call 39; (with_reducible refine (spec_l1In.calls ((rd_T87 l0 a1).f2) 0 (wrap64 (a1 - 1)) false _ A26.out).mono ?_); rintro e w' ⟨rfl, ⟨nd, rfl⟩⟩; (try first | exact ⟨rfl, _, World.drewN_drewN _ _ _⟩ | exact ⟨rfl, _, Eq.trans (World.drewN_drewN _ _ _) (congrArg (World.drewN _) (Nat.add_assoc _ _ _))⟩)))
        repeat (go_quiet (first | (go_at_call 39; (with_reducible refine (spec_l1In.calls ((rd_T87 l0 a1).f2) 0 (wrap64 (a1 - 1)) false _ A26.out).mono ?_); rintro e w' ⟨rfl, ⟨nd, rfl⟩⟩; (try first | exact ⟨rfl, _, World.drewN_drewN _ _ _⟩ | exact ⟨rfl, _, Eq.trans (World.drewN_drewN _ _ _) (congrArg (World.drewN _) (Nat.add_assoc _ _ _))⟩))); try go_wp2_with (first | (go_at_call 39; (with_reducible refine (spec_l1In.calls ((rd_T87 l0 a1).f2) 0 (wrap64 (a1 - 1)) false _ A26.out).mono ?_); rintro e w' ⟨rfl, ⟨nd, rfl⟩⟩; (try first | exact ⟨rfl, _, World.drewN_drewN _ _ _⟩ | exact ⟨rfl, _, Eq.trans (World.drewN_drewN _ _ _) (congrArg (World.drewN _) (Nat.add_assoc _ _ _))⟩))))
        go_ret
        exact ⟨er, bel⟩

end Go.Proofs.Ytpcdfjcbjbkliaa.E
