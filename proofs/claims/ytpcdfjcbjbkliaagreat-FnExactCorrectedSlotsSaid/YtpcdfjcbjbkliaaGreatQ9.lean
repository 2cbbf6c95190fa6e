import Derived.Test.YtpcdfjcbjbkliaaGreatSq
import Derived.Test.YtpcdfjcbjbkliaaGreatQ0
import Derived.Test.YtpcdfjcbjbkliaaGreatQ1
import Derived.Test.YtpcdfjcbjbkliaaGreatQ4
import Derived.Test.YtpcdfjcbjbkliaaGreatQ5
import Derived.Test.YtpcdfjcbjbkliaaGreatQ8
namespace Go.Proofs.YtpcdfjcbjbkliaaGreat.E
open Go.RowKit Go.Proofs.YtpcdfjcbjbkliaaGreatW.PrintWords Go.Proofs.YtpcdfjcbjbkliaaGreatW.PrintLast Go.Proofs.YtpcdfjcbjbkliaaGreatW.PrintMore
attribute [local go_sem] max2_int min2_int max_two min_two max_three min_three max_four min_four
set_option linter.unusedVariables false
set_option linter.unusedSimpArgs false

attribute [local go_sem high] eqA32
/-! ### spec_IsPlay: function 122 -/
mutual
def spec_IsPlay.l0 : Nat → List (S121) → Int → Option (Bool)
 | 0, _, _ => none
 | k + 1, a, b => if b < (a.length : Int) then (spec_IsPlay.j1 k a b (decide ((a.length : Int) ≤ 9))) else (spec_IsPlay.j1 k a b false)
def spec_IsPlay.j1 : Nat → List (S121) → Int → Bool → Option (Bool)
 | 0, _, _, _ => none
 | k + 1, a, b, c => if c = true then ((spec_l15Ok.f k a b).bind fun d => (if d = true then (spec_IsPlay.l0 k a (wrap64 (b + 1))) else (some false))) else ((spec_l1In.f (a.length : Int) 1 9).bind fun e => (some e))
end
def spec_IsPlay.f (k : Nat) (a : List (S121)) : Option (Bool) := spec_IsPlay.l0 k a 0
set_option maxHeartbeats 8000000 in
set_option maxRecDepth 100000 in
theorem spec_IsPlay.calls (k : Nat) (A0 : Option Addr) (c0 : Nat) (l0 : List (S121)) (r : Bool) (w : World) (hr0 : Kd.C k121 w A0 l0.length l0) (hc0 : l0.length ≤ c0) (H : spec_IsPlay.f k l0 = some r) :
  Calls Tryz.prog 122 #[.slice A0 l0.length c0] w fun e w' => e = .returned (.bool r) ∧ Below w.heap.size w w' := by
 have HR0 := Aside0.mk hr0
 have HC0 := Aside0.mk hc0
 clear hr0 hc0
 have HB := Aside0.mk (Below.refl w.heap.size w)
 unfold spec_IsPlay.f at H
 have H' := Aside0.mk H
 clear H
 go_enter Tryz.func122, Tryz.ntmps122
 go_wp2
 go_loopg [3] k (fun kq v3 w' => ∃ (x3_1 : Int), v3 = .int .i64 x3_1 ∧ Aside0 (spec_IsPlay.l0 kq l0 x3_1 = some r) ∧ Aside0 (kq ≤ k) ∧ Aside0 (Below w.heap.size w w'))
 case atStart => exact ⟨(0), rf, H', ⟨Nat.le_refl _⟩, ⟨bel⟩⟩
 case round =>
  clear H'
  obtain ⟨x3_1, rfl, HA, HK1, HB⟩ := hrel
  cases gk with
  | zero => exact absurd HA.out (by simp [spec_IsPlay.l0])
  | succ k1 =>
   have H := HA.out
   clear HA
   simp only [spec_IsPlay.l0] at H
   have HC2 := Aside0.mk H
   clear H
   go_upto_region 2 with (fail)
   go_cut [12] (fun v12 wc => ∃ (kq : Nat) (x12_1 : Bool), v12 = .bool x12_1 ∧ Aside0 (spec_IsPlay.j1 kq l0 x3_1 x12_1 = some r) ∧ Aside0 (kq ≤ k1) ∧ Aside0 (Below w.heap.size w wc))
   case first =>
    have H := HC2.out
    clear HC2
    replace H := zc H
    rcases H with ⟨c3b0, H⟩ | ⟨c3b0, H⟩
    ·
     (first | rw [c3b0] | (simp only [i64_w, i32_w]; rw [c3b0]) | skip)
     have H' := Aside0.mk H
     clear H
     go_wp2
     go_meet
     case rel => exact ⟨_, (decide ((l0.length : Int) ≤ 9)), rf, H', ⟨by have := HK1.out; first | omega | exact Nat.le_refl _⟩, ⟨bel⟩⟩
    ·
     (first | rw [c3b0] | (simp only [i64_w, i32_w]; rw [c3b0]) | skip)
     have H' := Aside0.mk H
     clear H
     go_wp2
     go_meet
     case rel => exact ⟨_, (false), rf, H', ⟨by have := HK1.out; first | omega | exact Nat.le_refl _⟩, ⟨bel⟩⟩
   case rest =>
    clear HC2
    obtain ⟨kq, x12_1, rfl, HA, HJ1, HB⟩ := hcut
    cases kq with
    | zero => exact absurd HA.out (by simp [spec_IsPlay.j1])
    | succ kj1 =>
     have H := HA.out
     clear HA
     simp only [spec_IsPlay.j1] at H
     replace H := zb H
     rcases H with ⟨rfl, H⟩ | ⟨rfl, H⟩
     ·
      replace H := zs H
      obtain ⟨t296, A5, H⟩ := H
      replace H := zb H
      rcases H with ⟨rfl, H⟩ | ⟨rfl, H⟩
      ·
       have H' := Aside0.mk H
       clear H
       go_wp2_with (first | ((with_reducible refine zd 17 rfl ?_); refine zgl Tryz.func144 (spec_l15Ok.calls kj1 _ _ l0 x3_1 true _ (zC HR0) HC0.out A5.out) ?_; rintro e w7 ⟨rfl, hb⟩; refine ⟨_, rfl, ?_⟩; replace HB := zB hb))
       go_roundg kj1
       case measure => have := HK1.out; have := HJ1.out; omega
       case rel => exact ⟨(wrap64 (x3_1 + 1)), rf, H', ⟨by have := HK1.out; have := HJ1.out; omega⟩, ⟨bel⟩⟩
      ·
       obtain rfl := Option.some.inj H
       go_wp2_with (first | ((with_reducible refine zd 17 rfl ?_); refine zgl Tryz.func144 (spec_l15Ok.calls kj1 _ _ l0 x3_1 false _ (zC HR0) HC0.out A5.out) ?_; rintro e w8 ⟨rfl, hb⟩; refine ⟨_, rfl, ?_⟩; replace HB := zB hb))
       go_ret
       exact ⟨er, bel⟩
     ·
      replace H := zs H
      obtain ⟨t297, A9, H⟩ := H
      obtain rfl := Option.some.inj H
      go_wp2_with (first | ((with_reducible refine zd 21 rfl ?_); refine zgl Tryz.func45 (spec_l1In.calls (l0.length : Int) 1 9 t297 _ A9.out) ?_; rintro e w' ⟨rfl, ⟨nd, rfl⟩⟩; refine ⟨_, rfl, ?_⟩))
      go_ret
      exact ⟨er, bel⟩

/-! ### spec_IsClue: function 93 -/
def spec_IsClue.f (k : Nat) (a : Int) (b : List (S121)) : Option (Bool) := (spec_l1In.f a 1 99).bind fun c => (if c = true then ((spec_IsPlay.f k b).bind fun d => (some d)) else (some false))
set_option maxHeartbeats 8000000 in
set_option maxRecDepth 100000 in
theorem spec_IsClue.calls (k : Nat) (a0_0 : Int) (A0_1 : Option Addr) (c0_1 : Nat) (l0_1 : List (S121)) (r : Bool) (w : World) (hr0_1 : Kd.C k121 w A0_1 l0_1.length l0_1) (hc0_1 : l0_1.length ≤ c0_1) (H : spec_IsClue.f k a0_0 l0_1 = some r) :
  Calls Tryz.prog 93 #[.agg #[.int .i64 a0_0, .slice A0_1 l0_1.length c0_1]] w fun e w' => e = .returned (.bool r) ∧ Below w.heap.size w w' := by
 have hu89 := Tryz.underlying89
 have HR0_1 := Aside0.mk hr0_1
 have HC0_1 := Aside0.mk hc0_1
 clear hr0_1 hc0_1
 have HB := Aside0.mk (Below.refl w.heap.size w)
 unfold spec_IsClue.f at H
 replace H := zs H
 obtain ⟨t299, A2, H⟩ := H
 replace H := zb H
 rcases H with ⟨rfl, H⟩ | ⟨rfl, H⟩
 rotate_left
 focus
  obtain rfl := Option.some.inj H
 rotate_right
 focus
  replace H := zs H
  obtain ⟨t300, A4, H⟩ := H
  obtain rfl := Option.some.inj H
 all_goals
  go_enter Tryz.func93, Tryz.ntmps93
  go_wp2_with (first | ((with_reducible refine zd 1 rfl ?_); refine zbx (w := w) #[.int .i64 a0_0, .slice A0_1 l0_1.length c0_1] 89 ?_; intro gb298 hg w1000 BK298 hb; have GW298 := zg (w := w) hg; replace HB := zB hb; clear hb hg; have ⟨_, _, _, _⟩ := cz2 BK298) | ((with_reducible refine zd 5 rfl ?_); refine zgl Tryz.func45 (spec_l1In.calls a0_0 1 99 _ _ A2.out) ?_; rintro e w' ⟨rfl, ⟨nd, rfl⟩⟩; refine ⟨_, rfl, ?_⟩) | (go_at_call 122; (with_reducible refine (spec_IsPlay.calls k _ _ l0_1 t300 _ ?side1 ?side2 A4.out).mono ?_); (case side1 => repeat (first | exact (Kd.C_below HR0_1.out bel) | (with_reducible refine Kd.C_alloc ?_ _) | (with_reducible refine Kd.C_drewN ?_ _) | (with_reducible refine Kd.C_drew ?_))); (case side2 => exact HC0_1.out); rintro e w1001 ⟨rfl, hb⟩; replace BK298 := zk BK298 hb; replace HB := zB hb))
  go_ret
  exact ⟨er, bel⟩

/-! ### spec_Backwards: function 170 -/
def spec_Backwards.l0 : Nat → ByteArray → ByteArray → Int → Option (ByteArray)
 | 0, _, _, _ => none
 | k + 1, a, b, c => if c < (a.size : Int) then (if (a.size : Int) ≤ 100 then (if 0 ≤ c then (if c ≤ (wrap64 (c + 1)) then (if (wrap64 (c + 1)) ≤ (a.size : Int) then (if (a.extract (c : Int).toNat ((wrap64 (c + 1)) : Int).toNat).size + b.size ≤ 9223372036854775807 then (spec_Backwards.l0 k a ((a.extract (c : Int).toNat ((wrap64 (c + 1)) : Int).toNat) ++ b) (wrap64 (c + 1))) else (none)) else (none)) else (none)) else (none)) else (some b)) else (some b)
def spec_Backwards.f (k : Nat) (a : ByteArray) : Option (ByteArray) := spec_Backwards.l0 k a (⟨#[]⟩ : ByteArray) 0
set_option maxHeartbeats 8000000 in
set_option maxRecDepth 100000 in
theorem spec_Backwards.calls (k : Nat) (a0 r : ByteArray) (w : World) (H : spec_Backwards.f k a0 = some r) :
  Calls Tryz.prog 170 #[.string a0] w fun e w' => e = .returned (.string r) ∧ Drawn0 w w' := by
 unfold spec_Backwards.f at H
 have H' := Aside0.mk H
 clear H
 go_enter Tryz.func170, Tryz.ntmps170
 go_wp2
 go_loopg [3, 4] k (fun kq v3 v4 w' => ∃ (x3_1 : ByteArray) (x4_1 : Int), v3 = .string x3_1 ∧ v4 = .int .i64 x4_1 ∧ Aside0 (spec_Backwards.l0 kq a0 x3_1 x4_1 = some r) ∧ Aside0 (kq ≤ k) ∧ Drawn0 w w')
 case atStart => exact ⟨((⟨#[]⟩ : ByteArray)), (0), rf, rf, H', ⟨Nat.le_refl _⟩, by repeat (first | exact Drawn0.refl _ | apply Drawn0.step)⟩
 case round =>
  clear H'
  obtain ⟨x3_1, x4_1, rfl, rfl, HA, HK1, ⟨m1, rfl⟩⟩ := hrel
  cases gk with
  | zero => exact absurd HA.out (by simp [spec_Backwards.l0])
  | succ k1 =>
   have H := HA.out
   clear HA
   simp only [spec_Backwards.l0] at H
   replace H := zc H
   rcases H with ⟨c2b0, H⟩ | ⟨c2b0, H⟩
   ·
    by_cases c3 : (a0.size : Int) ≤ 100
    ·
     rw [if_pos c3] at H
     have c3b0 : decide ((a0.size : Int) ≤ 100) = true := decide_eq_true c3
     have c3b1 : decide (a0.size ≤ 100) = true := decide_eq_true (by omega)
     clear c3
     by_cases c4 : 0 ≤ x4_1
     ·
      rw [if_pos c4] at H
      have c4b0 := eq_true c4
      have c4b1 : decide (0 ≤ x4_1) = true := decide_eq_true c4
      clear c4
      by_cases c5 : x4_1 ≤ (wrap64 (x4_1 + 1))
      ·
       rw [if_pos c5] at H
       have c5b0 := eq_true c5
       have c5b1 : decide (x4_1 ≤ (wrap64 (x4_1 + 1))) = true := decide_eq_true c5
       by_cases c6 : (wrap64 (x4_1 + 1)) ≤ (a0.size : Int)
       ·
        rw [if_pos c6] at H
        have c6b0 := eq_true c6
        have c6b1 : decide ((wrap64 (x4_1 + 1)) ≤ (a0.size : Int)) = true := decide_eq_true c6
        by_cases c7 : (a0.extract (x4_1 : Int).toNat ((wrap64 (x4_1 + 1)) : Int).toNat).size + x3_1.size ≤ 9223372036854775807
        ·
         rw [if_pos c7] at H
         have c7b0 := eq_true c7
         have c7b1 : decide ((a0.extract (x4_1 : Int).toNat ((wrap64 (x4_1 + 1)) : Int).toNat).size + x3_1.size ≤ 9223372036854775807) = true := decide_eq_true c7
         try have c7b2 : (9223372036854775807 < (a0.extract (x4_1 : Int).toNat ((wrap64 (x4_1 + 1)) : Int).toNat).size + x3_1.size) = False := eq_false (Nat.not_lt.2 c7)
         have H' := Aside0.mk H
         clear H
         go_wp2
         go_roundg k1
         case measure => have := HK1.out; omega
         case rel => exact ⟨((a0.extract (x4_1 : Int).toNat ((wrap64 (x4_1 + 1)) : Int).toNat) ++ x3_1), (wrap64 (x4_1 + 1)), rf, rf, H', ⟨by have := HK1.out; omega⟩, by repeat (first | exact Drawn0.refl _ | apply Drawn0.step)⟩
        ·
         rw [if_neg c7] at H
         exact absurd H (by simp)
       ·
        rw [if_neg c6] at H
        exact absurd H (by simp)
      ·
       rw [if_neg c5] at H
       exact absurd H (by simp)
     ·
      rw [if_neg c4] at H
      exact absurd H (by simp)
    ·
     rw [if_neg c3] at H
     have c3b0 : decide ((a0.size : Int) ≤ 100) = false := decide_eq_false c3
     have c3b1 : decide (a0.size ≤ 100) = false := decide_eq_false (by omega)
     clear c3
     obtain rfl := Option.some.inj H
     go_wp2
     go_ret
     exact ⟨by first | rfl | (simp; done) | (simp [*]; done), by repeat (first | exact Drawn0.refl _ | apply Drawn0.step)⟩
   ·
    obtain rfl := Option.some.inj H
    go_wp2
    go_ret
    exact ⟨by first | rfl | (simp; done) | (simp [*]; done), by repeat (first | exact Drawn0.refl _ | apply Drawn0.step)⟩

/-! ### spec_TurnGrid: function 147 -/
def spec_TurnGrid.f (k : Nat) (a b : Int) (c : ByteArray) : Option (Int × Int × ByteArray) := (spec_IsGrid.f k a b c).bind fun d => (if d = true then ((spec_Backwards.f k c).bind fun e => (some (a, b, e))) else (some (0, 0, (⟨#[]⟩ : ByteArray))))
set_option maxHeartbeats 8000000 in
set_option maxRecDepth 100000 in
theorem spec_TurnGrid.calls (k : Nat) (a0_0 a0_1 : Int) (a0_2 : ByteArray) (r1 r2 : Int) (r3 : ByteArray) (w : World) (H : spec_TurnGrid.f k a0_0 a0_1 a0_2 = some (r1, r2, r3)) :
  Calls Tryz.prog 147 #[.agg #[.int .i64 a0_0, .int .i64 a0_1, .string a0_2]] w fun e w' => e = .returned (.agg #[.int .i64 r1, .int .i64 r2, .string r3]) ∧ Below w.heap.size w w' := by
 have hu32 := Tryz.underlying32
 have HB := Aside0.mk (Below.refl w.heap.size w)
 unfold spec_TurnGrid.f at H
 replace H := zs H
 obtain ⟨t303, A2, H⟩ := H
 replace H := zb H
 rcases H with ⟨rfl, H⟩ | ⟨rfl, H⟩
 ·
  replace H := zs H
  obtain ⟨t304, A4, H⟩ := H
  simp only [Option.some.injEq, Prod.mk.injEq] at H
  obtain ⟨rfl, rfl, rfl⟩ := H
  go_enter Tryz.func147, Tryz.ntmps147
  go_wp2_with (first | ((with_reducible refine zd 1 rfl ?_); refine zbx (w := w) #[.int .i64 a0_0, .int .i64 a0_1, .string a0_2] 32 ?_; intro gb301 hg w5 BK301 hb; have GW301 := zg (w := w) hg; replace HB := zB hb; clear hb hg) | ((with_reducible refine zd 2 rfl ?_); refine zbx (w := w) #[.int .i64 0, .int .i64 0, .string (⟨#[]⟩ : ByteArray)] 32 ?_; intro gb302 hg w6 BK302 hb; have GW302 := zg (w := w) hg; replace HB := zB hb; have NB301_302 := zn hg BK301; have NB302_301 := zm hg BK301; replace BK301 := zk BK301 hb; clear hb hg; have hnb7 := NB301_302.out; have hnc7 := NB302_301.out; have ⟨_, _, _, _, _, _⟩ := cz3 BK301) | ((with_reducible refine zd 4 rfl ?_); refine zgl Tryz.func84 (spec_IsGrid.calls k a0_0 a0_1 a0_2 true _ A2.out) ?_; rintro e w9 ⟨rfl, hb⟩; refine ⟨_, rfl, ?_⟩; replace BK301 := zk BK301 hb; replace BK302 := zk BK302 hb; replace HB := zB hb; have ⟨_, _, _, _, _, _⟩ := cz3 BK301) | ((with_reducible refine zd 9 rfl ?_); refine zgl Tryz.func170 (spec_Backwards.calls k a0_2 t304 _ A4.out) ?_; rintro e w' ⟨rfl, ⟨nd, rfl⟩⟩; refine ⟨_, rfl, ?_⟩; (try (rw [drewN_self w9]; generalize hq_ : World.drewN w9 _ = w9; have n0_ : Aside0 (w9.heap[gb301]? = some (.cells #[.int .i64 a0_0, .int .i64 a0_1, .string a0_2] 32 (0, 0))) := ⟨by rw [← hq_]; exact (bk BK301)⟩; have n1_ : Aside0 (w9.heap[gb302]? = some (.cells #[.int .i64 0, .int .i64 0, .string (⟨#[]⟩ : ByteArray)] 32 (0, 0))) := ⟨by rw [← hq_]; exact (bk BK302)⟩; have n2_ : Aside0 (Below w.heap.size w w9) := ⟨by rw [← hq_]; exact bel⟩; clear BK301 BK302 HB hq_; have BK301 := n0_; have BK302 := n1_; have HB := n2_; clear n0_ n1_ n2_)); have ⟨_, _, _, _, _, _⟩ := cz3 BK302; have hcy301_0 : w9.cell? ⟨gb301, 0, none⟩ = some (.int .i64 a0_0) := (blk_cell BK301.out 0).trans rfl; have hfy301_0 : w9.frozen? ⟨gb301, 0, none⟩ = false := blk_frozen BK301.out 0; have hcy301_1 : w9.cell? ⟨gb301, 1, none⟩ = some (.int .i64 a0_1) := (blk_cell BK301.out 1).trans rfl; have hfy301_1 : w9.frozen? ⟨gb301, 1, none⟩ = false := blk_frozen BK301.out 1; have hcy301_2 : w9.cell? ⟨gb301, 2, none⟩ = some (.string a0_2) := (blk_cell BK301.out 2).trans rfl; have hfy301_2 : w9.frozen? ⟨gb301, 2, none⟩ = false := blk_frozen BK301.out 2))
  refine bodyPost_ret (results_cell_row rfl _ _ gb302 32 #[.int .i64 a0_0, .int .i64 a0_1, .string t304] (0, 0) _ rfl (by (with_reducible repeat (first | refine blk_drewN ?_ _ | refine blk_drew ?_ | refine blk_alloc ?_ _)); refine blk_put (cs := #[.int .i64 a0_0, .int .i64 a0_1, .string (⟨#[]⟩ : ByteArray)]) ?_ 2 _ rfl; (with_reducible repeat (first | refine blk_drewN ?_ _ | refine blk_drew ?_ | refine blk_alloc ?_ _)); refine blk_put (cs := #[.int .i64 a0_0, .int .i64 0, .string (⟨#[]⟩ : ByteArray)]) ?_ 1 _ rfl; (with_reducible repeat (first | refine blk_drewN ?_ _ | refine blk_drew ?_ | refine blk_alloc ?_ _)); refine blk_put (cs := #[.int .i64 0, .int .i64 0, .string (⟨#[]⟩ : ByteArray)]) ?_ 0 _ rfl; (with_reducible repeat (first | refine blk_drewN ?_ _ | refine blk_drew ?_ | refine blk_alloc ?_ _)); refine blk_far ?_ NB302_301.out _; (with_reducible repeat (first | refine blk_drewN ?_ _ | refine blk_drew ?_ | refine blk_alloc ?_ _)); exact BK302.out) Tryz.underlying32 rfl (by kernel_rfl)) rfl ?_
  exact ⟨er, bel⟩
 ·
  simp only [Option.some.injEq, Prod.mk.injEq] at H
  obtain ⟨rfl, rfl, rfl⟩ := H
  go_enter Tryz.func147, Tryz.ntmps147
  go_wp2_with (first | ((with_reducible refine zd 1 rfl ?_); refine zbx (w := w) #[.int .i64 a0_0, .int .i64 a0_1, .string a0_2] 32 ?_; intro gb301 hg w12 BK301 hb; have GW301 := zg (w := w) hg; replace HB := zB hb; clear hb hg) | ((with_reducible refine zd 2 rfl ?_); refine zbx (w := w) #[.int .i64 0, .int .i64 0, .string (⟨#[]⟩ : ByteArray)] 32 ?_; intro gb302 hg w13 BK302 hb; have GW302 := zg (w := w) hg; replace HB := zB hb; have NB301_302 := zn hg BK301; have NB302_301 := zm hg BK301; replace BK301 := zk BK301 hb; clear hb hg; have hnb14 := NB301_302.out; have hnc14 := NB302_301.out; have ⟨_, _, _, _, _, _⟩ := cz3 BK301) | ((with_reducible refine zd 4 rfl ?_); refine zgl Tryz.func84 (spec_IsGrid.calls k a0_0 a0_1 a0_2 false _ A2.out) ?_; rintro e w16 ⟨rfl, hb⟩; refine ⟨_, rfl, ?_⟩; replace BK301 := zk BK301 hb; replace BK302 := zk BK302 hb; replace HB := zB hb; have ⟨_, _, _, _, _, _⟩ := cz3 BK302))
  refine bodyPost_ret (results_cell_row rfl _ _ gb302 32 #[.int .i64 0, .int .i64 0, .string (⟨#[]⟩ : ByteArray)] (0, 0) _ rfl (by (with_reducible repeat (first | refine blk_drewN ?_ _ | refine blk_drew ?_ | refine blk_alloc ?_ _)); refine blk_put (cs := #[.int .i64 0, .int .i64 0, .string (⟨#[]⟩ : ByteArray)]) ?_ 2 _ rfl; (with_reducible repeat (first | refine blk_drewN ?_ _ | refine blk_drew ?_ | refine blk_alloc ?_ _)); refine blk_put (cs := #[.int .i64 0, .int .i64 0, .string (⟨#[]⟩ : ByteArray)]) ?_ 1 _ rfl; (with_reducible repeat (first | refine blk_drewN ?_ _ | refine blk_drew ?_ | refine blk_alloc ?_ _)); refine blk_put (cs := #[.int .i64 0, .int .i64 0, .string (⟨#[]⟩ : ByteArray)]) ?_ 0 _ rfl; (with_reducible repeat (first | refine blk_drewN ?_ _ | refine blk_drew ?_ | refine blk_alloc ?_ _)); exact BK302.out) Tryz.underlying32 rfl (by kernel_rfl)) rfl ?_
  exact ⟨er, bel⟩

/-! ### spec_IsSymmetric: function 125 -/
def spec_IsSymmetric.f (k : Nat) (a b : Int) (c : ByteArray) : Option (Bool) := (spec_IsGrid.f k a b c).bind fun d => (if d = true then ((spec_TurnGrid.f k a b c).bind fun e => (some (e.1 == a && (e.2.1 == b && (e.2.2.toList == c.toList))))) else (some false))
def spec_IsSymmetric.T1 : Bool × List (List Nat × List Nat) := (true, [([], []), ([0], [0]), ([1, 1], [1]), ([2], [2]), ([3, 2, 2], [2, 3]), ([2], [2]), ([4, 5, 2], [2, 4, 5]), ([2, 6], [2, 6]), ([7, 4, 0, 1, 2, 3, 4, 5, 6, 7], [7])])
theorem spec_IsSymmetric.tab1 : rtab .any (opsOf Tryz.f125 1) = spec_IsSymmetric.T1 := by kernel_rfl
set_option maxHeartbeats 8000000 in
set_option maxRecDepth 100000 in
theorem spec_IsSymmetric.calls (k : Nat) (a0_0 a0_1 : Int) (a0_2 : ByteArray) (r : Bool) (w : World) (H : spec_IsSymmetric.f k a0_0 a0_1 a0_2 = some r) :
  Calls Tryz.prog 125 #[.agg #[.int .i64 a0_0, .int .i64 a0_1, .string a0_2]] w fun e w' => e = .returned (.bool r) ∧ Below w.heap.size w w' := by
 have hu32 := Tryz.underlying32
 have HB := Aside0.mk (Below.refl w.heap.size w)
 unfold spec_IsSymmetric.f at H
 replace H := zs H
 obtain ⟨t306, A2, H⟩ := H
 replace H := zb H
 rcases H with ⟨rfl, H⟩ | ⟨rfl, H⟩
 ·
  replace H := Option.bind_eq_some_iff.mp H
  obtain ⟨⟨t307, t308, t309⟩, A40, H⟩ := H
  have A4 := Aside0.mk A40
  clear A40
  obtain rfl := Option.some.inj H
  go_enter Tryz.func125, Tryz.ntmps125
  try go_wp2_with (first | ((with_reducible refine zd 1 rfl ?_); refine zbx (w := w) #[.int .i64 a0_0, .int .i64 a0_1, .string a0_2] 32 ?_; intro gb305 hg w5 BK305 hb; have GW305 := zg (w := w) hg; replace HB := zB hb; clear hb hg))
  replace BK305 := zkd BK305
  replace HB := zBd HB
  refine zst 9 spec_IsSymmetric.tab1 (zb3 BK305 <| zn0) fun hHeld HT_ => ?_
  generalize w5.drew = w6 at BK305 HB hHeld ⊢
  repeat (first | refine zs1 ?_ | (refine zcl Tryz.func84 (spec_IsGrid.calls k a0_0 a0_1 a0_2 true _ A2.out) ?_; rintro e w7 ⟨rfl, hb⟩; replace BK305 := zk BK305 hb; replace HB := zB hb; refine ⟨_, rfl, zHb hb hHeld, _, znb, fun hHeld => ?_⟩) | (refine zcl Tryz.func147 (spec_TurnGrid.calls k a0_0 a0_1 a0_2 t307 t308 t309 _ A4.out) ?_; rintro e w8 ⟨rfl, hb⟩; replace BK305 := zk BK305 hb; replace HB := zB hb; refine ⟨_, rfl, zHb hb hHeld, _, znb, fun hHeld => ?_⟩))
  refine zdn ?_
  try go_wp2
  go_ret
  exact ⟨er, bel⟩
 ·
  obtain rfl := Option.some.inj H
  go_enter Tryz.func125, Tryz.ntmps125
  try go_wp2_with (first | ((with_reducible refine zd 1 rfl ?_); refine zbx (w := w) #[.int .i64 a0_0, .int .i64 a0_1, .string a0_2] 32 ?_; intro gb305 hg w9 BK305 hb; have GW305 := zg (w := w) hg; replace HB := zB hb; clear hb hg))
  replace BK305 := zkd BK305
  replace HB := zBd HB
  refine zst 9 spec_IsSymmetric.tab1 (zb3 BK305 <| zn0) fun hHeld HT_ => ?_
  generalize w9.drew = w10 at BK305 HB hHeld ⊢
  repeat (first | refine zs1 ?_ | (refine zcl Tryz.func84 (spec_IsGrid.calls k a0_0 a0_1 a0_2 false _ A2.out) ?_; rintro e w11 ⟨rfl, hb⟩; replace BK305 := zk BK305 hb; replace HB := zB hb; refine ⟨_, rfl, zHb hb hHeld, _, znb, fun hHeld => ?_⟩))
  refine zdn ?_
  try go_wp2
  go_ret
  exact ⟨er, bel⟩

end Go.Proofs.YtpcdfjcbjbkliaaGreat.E
