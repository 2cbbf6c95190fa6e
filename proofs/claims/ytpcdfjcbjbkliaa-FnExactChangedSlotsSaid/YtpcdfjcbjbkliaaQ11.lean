import Derived.Test.YtpcdfjcbjbkliaaSq
import Derived.Test.YtpcdfjcbjbkliaaQ0
import Derived.Test.YtpcdfjcbjbkliaaQ5
namespace Go.Proofs.Ytpcdfjcbjbkliaa.E
open Go.RowKit Go.Proofs.YtpcdfjcbjbkliaaW.PrintWords Go.Proofs.YtpcdfjcbjbkliaaW.PrintLast Go.Proofs.YtpcdfjcbjbkliaaW.PrintMore
attribute [local go_sem] max2_int min2_int max_two min_two max_three min_three max_four min_four
set_option linter.unusedVariables false
set_option linter.unusedSimpArgs false

/-! ### spec_IsFill: function 58 -/
mutual
def spec_IsFill.j0 : Nat → ByteArray → Bool → Int → Int → ByteArray → Option (Bool)
 | 0, _, _, _, _, _ => none
 | k + 1, x1, x17, x283000, x283001, x283002 => if x17 = true then (some false) else (spec_IsFill.l0 k x1 0 x283000 x283001 x283002)
def spec_IsFill.l0 : Nat → ByteArray → Int → Int → Int → ByteArray → Option (Bool)
 | 0, _, _, _, _, _ => none
 | k + 1, x1, x5, x283000, x283001, x283002 => if x5 < (x1.size : Int) then (if 0 ≤ x5 then (if (bt x1 x5) = 63 then (if x5 < (x283002.size : Int) then (if (bt x283002 x5) = 35 then (if (bt x1 x5) = 35 then (if (bt x283002 x5) = 46 then (spec_IsFill.l0 k x1 (wrap64 (x5 + 1)) x283000 x283001 x283002) else (spec_IsFill.l0 k x1 (wrap64 (x5 + 1)) x283000 x283001 x283002)) else (some false)) else (if (bt x283002 x5) = 46 then (spec_IsFill.l0 k x1 (wrap64 (x5 + 1)) x283000 x283001 x283002) else (spec_IsFill.l0 k x1 (wrap64 (x5 + 1)) x283000 x283001 x283002))) else (none)) else (if (bt x1 x5) ≥ 97 then (if x5 < (x283002.size : Int) then (if (bt x283002 x5) = 35 then (if (bt x1 x5) = 35 then (if (bt x283002 x5) = 46 then (if ((bt x1 x5) ≤ 122) then (spec_IsFill.l0 k x1 (wrap64 (x5 + 1)) x283000 x283001 x283002) else (some false)) else (spec_IsFill.l0 k x1 (wrap64 (x5 + 1)) x283000 x283001 x283002)) else (some false)) else (if (bt x283002 x5) = 46 then (if ((bt x1 x5) ≤ 122) then (spec_IsFill.l0 k x1 (wrap64 (x5 + 1)) x283000 x283001 x283002) else (some false)) else (spec_IsFill.l0 k x1 (wrap64 (x5 + 1)) x283000 x283001 x283002))) else (none)) else (if x5 < (x283002.size : Int) then (if (bt x283002 x5) = 35 then (if (bt x1 x5) = 35 then (if (bt x283002 x5) = 46 then (some false) else (spec_IsFill.l0 k x1 (wrap64 (x5 + 1)) x283000 x283001 x283002)) else (some false)) else (if (bt x283002 x5) = 46 then (some false) else (spec_IsFill.l0 k x1 (wrap64 (x5 + 1)) x283000 x283001 x283002))) else (none)))) else (none)) else (some true)
end
def spec_IsFill.f (k : Nat) (a0_0 : Int) (a0_1 : Int) (a0_2 : ByteArray) (a1 : ByteArray) : Option (Bool) := (spec_IsGrid.f k a0_0 a0_1 a0_2).bind fun t283 => (if t283 = true then (spec_IsFill.j0 k a1 ((a1.size : Int) != (a0_2.size : Int)) a0_0 a0_1 a0_2) else (spec_IsFill.j0 k a1 true a0_0 a0_1 a0_2))
set_option maxHeartbeats 8000000 in
set_option maxRecDepth 100000 in
theorem spec_IsFill.calls (k : Nat) (a0_0 : Int) (a0_1 : Int) (a0_2 : ByteArray) (a1 : ByteArray) (r : Bool) (w : World) (H : spec_IsFill.f k a0_0 a0_1 a0_2 a1 = some r) :
  Calls Try.prog 58 #[.agg #[.int .i64 a0_0, .int .i64 a0_1, .string a0_2], .string a1] w fun e w' => e = .returned (.bool r) ∧ Below w.heap.size w w' := by
 have hu30 := Try.underlying30
 have HB := Aside0.mk (Below.refl w.heap.size w)
 unfold spec_IsFill.f at H
 have HC3 := Aside0.mk H
 clear H
 go_enter Try.func58, Try.ntmps58
 go_upto_region 1 with (first | ((with_reducible refine zd 2 rfl ?_); (try (refine gate_guard (by rfl) ?_; dsimp only)); refine zbx (w := w) #[.int .i64 a0_0, .int .i64 a0_1, .string a0_2] 30 ?_; intro gb282 hg w4 BK282 hb; have GW282 := zg (w := w) hg; replace HB := zB hb; clear hb hg))
 (try simp only [Act.put, List.setIfInBounds_toArray, List.set_cons_zero, List.set_cons_succ])
 go_cut [17] (fun v17 wc => ∃ (kq : Nat) (x17_2 : Bool), v17 = .bool x17_2 ∧ Aside0 (spec_IsFill.j0 kq a1 x17_2 a0_0 a0_1 a0_2 = some r) ∧ Aside0 (kq ≤ k) ∧ Aside0 (wc.heap[gb282]? = some (.cells #[.int .i64 a0_0, .int .i64 a0_1, .string a0_2] 30 (0, 0))) ∧ Aside0 (Below w.heap.size w wc))
 case first =>
  have H := HC3.out
  clear HC3
  replace H := zs H
  obtain ⟨t283, A5, H⟩ := H
  replace H := zb H
  rcases H with ⟨rfl, H⟩ | ⟨rfl, H⟩
  ·
   have H' := Aside0.mk H
   clear H
   have ⟨_, _, _, _, _, _⟩ := cz3 BK282
   go_wp2_with (first | ((with_reducible refine zd 8 rfl ?_); refine zgl Try.func77 (spec_IsGrid.calls k a0_0 a0_1 a0_2 true _ A5.out) ?_; rintro e w8 ⟨rfl, hb⟩; refine ⟨_, rfl, ?_⟩; replace BK282 := zk BK282 hb; replace HB := zB hb; have ⟨_, _, _, _, _, _⟩ := cz3 BK282))
   go_meet
   case rel => exact ⟨_, (((a1.size : Int) != (a0_2.size : Int))), rf, H', ⟨by first | omega | exact Nat.le_refl _⟩, ⟨bk BK282⟩, ⟨bel⟩⟩
  ·
   have H' := Aside0.mk H
   clear H
   have ⟨_, _, _, _, _, _⟩ := cz3 BK282
   go_wp2_with (first | ((with_reducible refine zd 8 rfl ?_); refine zgl Try.func77 (spec_IsGrid.calls k a0_0 a0_1 a0_2 false _ A5.out) ?_; rintro e w11 ⟨rfl, hb⟩; refine ⟨_, rfl, ?_⟩; replace BK282 := zk BK282 hb; replace HB := zB hb))
   go_meet
   case rel => exact ⟨_, (true), rf, H', ⟨by first | omega | exact Nat.le_refl _⟩, ⟨bk BK282⟩, ⟨bel⟩⟩
 case rest =>
  clear HC3
  obtain ⟨kq, x17_2, rfl, HA, HJ2, BK282, HB⟩ := hcut
  cases kq with
  | zero => exact absurd HA.out (by simp [spec_IsFill.j0])
  | succ kj2 =>
   have H := HA.out
   clear HA
   simp only [spec_IsFill.j0] at H
   replace H := zb H
   rcases H with ⟨rfl, H⟩ | ⟨rfl, H⟩
   ·
    obtain rfl := Option.some.inj H
    go_wp2
    go_ret
    exact ⟨er, bel⟩
   ·
    have H' := Aside0.mk H
    clear H
    go_wp2
    go_loopg [5] kj2 (fun kq v5 w' => ∃ (x5_2 : Int), v5 = .int .i64 x5_2 ∧ Aside0 (spec_IsFill.l0 kq a1 x5_2 a0_0 a0_1 a0_2 = some r) ∧ Aside0 (kq ≤ kj2) ∧ Aside0 (w'.heap[gb282]? = some (.cells #[.int .i64 a0_0, .int .i64 a0_1, .string a0_2] 30 (0, 0))) ∧ Aside0 (Below w.heap.size w w'))
    case atStart => exact ⟨(0), rf, H', ⟨Nat.le_refl _⟩, ⟨bk BK282⟩, ⟨bel⟩⟩
    case round =>
     clear H'
     obtain ⟨x5_2, rfl, HA, HK2, BK282, HB⟩ := hrel
     cases gk with
     | zero => exact absurd HA.out (by simp [spec_IsFill.l0])
     | succ k2 =>
      have H := HA.out
      clear HA
      simp only [spec_IsFill.l0] at H
      replace H := zc H
      rcases H with ⟨c13b0, H⟩ | ⟨c13b0, H⟩
      ·
       replace H := zr H
       obtain ⟨c14b0, H⟩ := H
       by_cases c16 : (bt a1 x5_2) = 63
       ·
        rw [if_pos c16] at H
        have c16b0 : ((bt a1 x5_2) == 63) = true := beq_iff_eq.mpr c16
        have c16b1 : ((bt a1 x5_2) != 63) = false := bne_eq_false_iff_eq.mpr c16
        clear c16
        replace H := zr H
        obtain ⟨c17b0, H⟩ := H
        by_cases c19 : (bt a0_2 x5_2) = 35
        ·
         rw [if_pos c19] at H
         have c19b0 : ((bt a0_2 x5_2) == 35) = true := beq_iff_eq.mpr c19
         have c19b1 : ((bt a0_2 x5_2) != 35) = false := bne_eq_false_iff_eq.mpr c19
         clear c19
         by_cases c21 : (bt a1 x5_2) = 35
         ·
          rw [if_pos c21] at H
          have c21b0 : ((bt a1 x5_2) == 35) = true := beq_iff_eq.mpr c21
          have c21b1 : ((bt a1 x5_2) != 35) = false := bne_eq_false_iff_eq.mpr c21
          clear c21
          by_cases c23 : (bt a0_2 x5_2) = 46
          ·
           rw [if_pos c23] at H
           have c23b0 : ((bt a0_2 x5_2) == 46) = true := beq_iff_eq.mpr c23
           have c23b1 : ((bt a0_2 x5_2) != 46) = false := bne_eq_false_iff_eq.mpr c23
           clear c23
           have H' := Aside0.mk H
           clear H
           have p15 : 0 ≤ (x5_2 : Int) := of_decide_eq_true asm
           have q15 : x5_2 < (a1.size : Int) := of_decide_eq_true asm
           have hx15 := bt_at a1 x5_2
           replace p15 := eq_true p15
           replace q15 := eq_true q15
           have ⟨_, _, _, _, _, _⟩ := cz3 BK282
           have p18 : 0 ≤ (x5_2 : Int) := of_decide_eq_true asm
           have q18 : x5_2 < (a0_2.size : Int) := of_decide_eq_true asm
           have hx18 := bt_at a0_2 x5_2
           replace p18 := eq_true p18
           replace q18 := eq_true q18
           have p20 : 0 ≤ (x5_2 : Int) := of_decide_eq_true asm
           have q20 : x5_2 < (a1.size : Int) := of_decide_eq_true asm
           have hx20 := bt_at a1 x5_2
           replace p20 := eq_true p20
           replace q20 := eq_true q20
           have p22 : 0 ≤ (x5_2 : Int) := of_decide_eq_true asm
           have q22 : x5_2 < (a0_2.size : Int) := of_decide_eq_true asm
           have hx22 := bt_at a0_2 x5_2
           replace p22 := eq_true p22
           replace q22 := eq_true q22
           go_wp2
           go_roundg k2
           case measure => have := HJ2.out; have := HK2.out; omega
           case rel => exact ⟨(wrap64 (x5_2 + 1)), rf, H', ⟨by have := HJ2.out; have := HK2.out; omega⟩, ⟨bk BK282⟩, ⟨bel⟩⟩
          ·
           rw [if_neg c23] at H
           have c23b0 : ((bt a0_2 x5_2) == 46) = false := beq_eq_false_iff_ne.mpr c23
           have c23b1 : ((bt a0_2 x5_2) != 46) = true := bne_iff_ne.mpr c23
           have H' := Aside0.mk H
           clear H
           have p15 : 0 ≤ (x5_2 : Int) := of_decide_eq_true asm
           have q15 : x5_2 < (a1.size : Int) := of_decide_eq_true asm
           have hx15 := bt_at a1 x5_2
           replace p15 := eq_true p15
           replace q15 := eq_true q15
           have ⟨_, _, _, _, _, _⟩ := cz3 BK282
           have p18 : 0 ≤ (x5_2 : Int) := of_decide_eq_true asm
           have q18 : x5_2 < (a0_2.size : Int) := of_decide_eq_true asm
           have hx18 := bt_at a0_2 x5_2
           replace p18 := eq_true p18
           replace q18 := eq_true q18
           have p20 : 0 ≤ (x5_2 : Int) := of_decide_eq_true asm
           have q20 : x5_2 < (a1.size : Int) := of_decide_eq_true asm
           have hx20 := bt_at a1 x5_2
           replace p20 := eq_true p20
           replace q20 := eq_true q20
           have p22 : 0 ≤ (x5_2 : Int) := of_decide_eq_true asm
           have q22 : x5_2 < (a0_2.size : Int) := of_decide_eq_true asm
           have hx22 := bt_at a0_2 x5_2
           replace p22 := eq_true p22
           replace q22 := eq_true q22
           go_wp2
           go_roundg k2
           case measure => have := HJ2.out; have := HK2.out; omega
           case rel => exact ⟨(wrap64 (x5_2 + 1)), rf, H', ⟨by have := HJ2.out; have := HK2.out; omega⟩, ⟨bk BK282⟩, ⟨bel⟩⟩
         ·
          rw [if_neg c21] at H
          have c21b0 : ((bt a1 x5_2) == 35) = false := beq_eq_false_iff_ne.mpr c21
          have c21b1 : ((bt a1 x5_2) != 35) = true := bne_iff_ne.mpr c21
          obtain rfl := Option.some.inj H
          have p15 : 0 ≤ (x5_2 : Int) := of_decide_eq_true asm
          have q15 : x5_2 < (a1.size : Int) := of_decide_eq_true asm
          have hx15 := bt_at a1 x5_2
          replace p15 := eq_true p15
          replace q15 := eq_true q15
          have ⟨_, _, _, _, _, _⟩ := cz3 BK282
          have p18 : 0 ≤ (x5_2 : Int) := of_decide_eq_true asm
          have q18 : x5_2 < (a0_2.size : Int) := of_decide_eq_true asm
          have hx18 := bt_at a0_2 x5_2
          replace p18 := eq_true p18
          replace q18 := eq_true q18
          have p20 : 0 ≤ (x5_2 : Int) := of_decide_eq_true asm
          have q20 : x5_2 < (a1.size : Int) := of_decide_eq_true asm
          have hx20 := bt_at a1 x5_2
          replace p20 := eq_true p20
          replace q20 := eq_true q20
          go_wp2
          go_ret
          exact ⟨er, bel⟩
        ·
         rw [if_neg c19] at H
         have c19b0 : ((bt a0_2 x5_2) == 35) = false := beq_eq_false_iff_ne.mpr c19
         have c19b1 : ((bt a0_2 x5_2) != 35) = true := bne_iff_ne.mpr c19
         by_cases c28 : (bt a0_2 x5_2) = 46
         ·
          rw [if_pos c28] at H
          have c28b0 : ((bt a0_2 x5_2) == 46) = true := beq_iff_eq.mpr c28
          have c28b1 : ((bt a0_2 x5_2) != 46) = false := bne_eq_false_iff_eq.mpr c28
          clear c28
          have H' := Aside0.mk H
          clear H
          have p15 : 0 ≤ (x5_2 : Int) := of_decide_eq_true asm
          have q15 : x5_2 < (a1.size : Int) := of_decide_eq_true asm
          have hx15 := bt_at a1 x5_2
          replace p15 := eq_true p15
          replace q15 := eq_true q15
          have ⟨_, _, _, _, _, _⟩ := cz3 BK282
          have p18 : 0 ≤ (x5_2 : Int) := of_decide_eq_true asm
          have q18 : x5_2 < (a0_2.size : Int) := of_decide_eq_true asm
          have hx18 := bt_at a0_2 x5_2
          replace p18 := eq_true p18
          replace q18 := eq_true q18
          have p27 : 0 ≤ (x5_2 : Int) := of_decide_eq_true asm
          have q27 : x5_2 < (a0_2.size : Int) := of_decide_eq_true asm
          have hx27 := bt_at a0_2 x5_2
          replace p27 := eq_true p27
          replace q27 := eq_true q27
          go_wp2
          go_roundg k2
          case measure => have := HJ2.out; have := HK2.out; omega
          case rel => exact ⟨(wrap64 (x5_2 + 1)), rf, H', ⟨by have := HJ2.out; have := HK2.out; omega⟩, ⟨bk BK282⟩, ⟨bel⟩⟩
         ·
          rw [if_neg c28] at H
          have c28b0 : ((bt a0_2 x5_2) == 46) = false := beq_eq_false_iff_ne.mpr c28
          have c28b1 : ((bt a0_2 x5_2) != 46) = true := bne_iff_ne.mpr c28
          have H' := Aside0.mk H
          clear H
          have p15 : 0 ≤ (x5_2 : Int) := of_decide_eq_true asm
          have q15 : x5_2 < (a1.size : Int) := of_decide_eq_true asm
          have hx15 := bt_at a1 x5_2
          replace p15 := eq_true p15
          replace q15 := eq_true q15
          have ⟨_, _, _, _, _, _⟩ := cz3 BK282
          have p18 : 0 ≤ (x5_2 : Int) := of_decide_eq_true asm
          have q18 : x5_2 < (a0_2.size : Int) := of_decide_eq_true asm
          have hx18 := bt_at a0_2 x5_2
          replace p18 := eq_true p18
          replace q18 := eq_true q18
          have p27 : 0 ≤ (x5_2 : Int) := of_decide_eq_true asm
          have q27 : x5_2 < (a0_2.size : Int) := of_decide_eq_true asm
          have hx27 := bt_at a0_2 x5_2
          replace p27 := eq_true p27
          replace q27 := eq_true q27
          go_wp2
          go_roundg k2
          case measure => have := HJ2.out; have := HK2.out; omega
          case rel => exact ⟨(wrap64 (x5_2 + 1)), rf, H', ⟨by have := HJ2.out; have := HK2.out; omega⟩, ⟨bk BK282⟩, ⟨bel⟩⟩
       ·
        rw [if_neg c16] at H
        have c16b0 : ((bt a1 x5_2) == 63) = false := beq_eq_false_iff_ne.mpr c16
        have c16b1 : ((bt a1 x5_2) != 63) = true := bne_iff_ne.mpr c16
        replace H := zc H
        rcases H with ⟨c32b0, H⟩ | ⟨c32b0, H⟩
        ·
         replace H := zr H
         obtain ⟨c34b0, H⟩ := H
         by_cases c36 : (bt a0_2 x5_2) = 35
         ·
          rw [if_pos c36] at H
          have c36b0 : ((bt a0_2 x5_2) == 35) = true := beq_iff_eq.mpr c36
          have c36b1 : ((bt a0_2 x5_2) != 35) = false := bne_eq_false_iff_eq.mpr c36
          clear c36
          by_cases c38 : (bt a1 x5_2) = 35
          ·
           rw [if_pos c38] at H
           have c38b0 : ((bt a1 x5_2) == 35) = true := beq_iff_eq.mpr c38
           have c38b1 : ((bt a1 x5_2) != 35) = false := bne_eq_false_iff_eq.mpr c38
           clear c38
           by_cases c40 : (bt a0_2 x5_2) = 46
           ·
            rw [if_pos c40] at H
            have c40b0 : ((bt a0_2 x5_2) == 46) = true := beq_iff_eq.mpr c40
            have c40b1 : ((bt a0_2 x5_2) != 46) = false := bne_eq_false_iff_eq.mpr c40
            clear c40
            replace H := zc H
            rcases H with ⟨c41b0, H⟩ | ⟨c41b0, H⟩
            ·
             have H' := Aside0.mk H
             clear H
             have p15 : 0 ≤ (x5_2 : Int) := of_decide_eq_true asm
             have q15 : x5_2 < (a1.size : Int) := of_decide_eq_true asm
             have hx15 := bt_at a1 x5_2
             replace p15 := eq_true p15
             replace q15 := eq_true q15
             have p31 : 0 ≤ (x5_2 : Int) := of_decide_eq_true asm
             have q31 : x5_2 < (a1.size : Int) := of_decide_eq_true asm
             have hx31 := bt_at a1 x5_2
             replace p31 := eq_true p31
             replace q31 := eq_true q31
             have p33 : 0 ≤ (x5_2 : Int) := of_decide_eq_true asm
             have q33 : x5_2 < (a1.size : Int) := of_decide_eq_true asm
             have hx33 := bt_at a1 x5_2
             replace p33 := eq_true p33
             replace q33 := eq_true q33
             have ⟨_, _, _, _, _, _⟩ := cz3 BK282
             have p35 : 0 ≤ (x5_2 : Int) := of_decide_eq_true asm
             have q35 : x5_2 < (a0_2.size : Int) := of_decide_eq_true asm
             have hx35 := bt_at a0_2 x5_2
             replace p35 := eq_true p35
             replace q35 := eq_true q35
             have p37 : 0 ≤ (x5_2 : Int) := of_decide_eq_true asm
             have q37 : x5_2 < (a1.size : Int) := of_decide_eq_true asm
             have hx37 := bt_at a1 x5_2
             replace p37 := eq_true p37
             replace q37 := eq_true q37
             have p39 : 0 ≤ (x5_2 : Int) := of_decide_eq_true asm
             have q39 : x5_2 < (a0_2.size : Int) := of_decide_eq_true asm
             have hx39 := bt_at a0_2 x5_2
             replace p39 := eq_true p39
             replace q39 := eq_true q39
             go_wp2
             go_roundg k2
             case measure => have := HJ2.out; have := HK2.out; omega
             case rel => exact ⟨(wrap64 (x5_2 + 1)), rf, H', ⟨by have := HJ2.out; have := HK2.out; omega⟩, ⟨bk BK282⟩, ⟨bel⟩⟩
            ·
             obtain rfl := Option.some.inj H
             have p15 : 0 ≤ (x5_2 : Int) := of_decide_eq_true asm
             have q15 : x5_2 < (a1.size : Int) := of_decide_eq_true asm
             have hx15 := bt_at a1 x5_2
             replace p15 := eq_true p15
             replace q15 := eq_true q15
             have p31 : 0 ≤ (x5_2 : Int) := of_decide_eq_true asm
             have q31 : x5_2 < (a1.size : Int) := of_decide_eq_true asm
             have hx31 := bt_at a1 x5_2
             replace p31 := eq_true p31
             replace q31 := eq_true q31
             have p33 : 0 ≤ (x5_2 : Int) := of_decide_eq_true asm
             have q33 : x5_2 < (a1.size : Int) := of_decide_eq_true asm
             have hx33 := bt_at a1 x5_2
             replace p33 := eq_true p33
             replace q33 := eq_true q33
             have ⟨_, _, _, _, _, _⟩ := cz3 BK282
             have p35 : 0 ≤ (x5_2 : Int) := of_decide_eq_true asm
             have q35 : x5_2 < (a0_2.size : Int) := of_decide_eq_true asm
             have hx35 := bt_at a0_2 x5_2
             replace p35 := eq_true p35
             replace q35 := eq_true q35
             have p37 : 0 ≤ (x5_2 : Int) := of_decide_eq_true asm
             have q37 : x5_2 < (a1.size : Int) := of_decide_eq_true asm
             have hx37 := bt_at a1 x5_2
             replace p37 := eq_true p37
             replace q37 := eq_true q37
             have p39 : 0 ≤ (x5_2 : Int) := of_decide_eq_true asm
             have q39 : x5_2 < (a0_2.size : Int) := of_decide_eq_true asm
             have hx39 := bt_at a0_2 x5_2
             replace p39 := eq_true p39
             replace q39 := eq_true q39
             go_wp2
             go_ret
             exact ⟨er, bel⟩
           ·
            rw [if_neg c40] at H
            have c40b0 : ((bt a0_2 x5_2) == 46) = false := beq_eq_false_iff_ne.mpr c40
            have c40b1 : ((bt a0_2 x5_2) != 46) = true := bne_iff_ne.mpr c40
            have H' := Aside0.mk H
            clear H
            have p15 : 0 ≤ (x5_2 : Int) := of_decide_eq_true asm
            have q15 : x5_2 < (a1.size : Int) := of_decide_eq_true asm
            have hx15 := bt_at a1 x5_2
            replace p15 := eq_true p15
            replace q15 := eq_true q15
            have p31 : 0 ≤ (x5_2 : Int) := of_decide_eq_true asm
            have q31 : x5_2 < (a1.size : Int) := of_decide_eq_true asm
            have hx31 := bt_at a1 x5_2
            replace p31 := eq_true p31
            replace q31 := eq_true q31
            have p33 : 0 ≤ (x5_2 : Int) := of_decide_eq_true asm
            have q33 : x5_2 < (a1.size : Int) := of_decide_eq_true asm
            have hx33 := bt_at a1 x5_2
            replace p33 := eq_true p33
            replace q33 := eq_true q33
            have ⟨_, _, _, _, _, _⟩ := cz3 BK282
            have p35 : 0 ≤ (x5_2 : Int) := of_decide_eq_true asm
            have q35 : x5_2 < (a0_2.size : Int) := of_decide_eq_true asm
            have hx35 := bt_at a0_2 x5_2
            replace p35 := eq_true p35
            replace q35 := eq_true q35
            have p37 : 0 ≤ (x5_2 : Int) := of_decide_eq_true asm
            have q37 : x5_2 < (a1.size : Int) := of_decide_eq_true asm
            have hx37 := bt_at a1 x5_2
            replace p37 := eq_true p37
            replace q37 := eq_true q37
            have p39 : 0 ≤ (x5_2 : Int) := of_decide_eq_true asm
            have q39 : x5_2 < (a0_2.size : Int) := of_decide_eq_true asm
            have hx39 := bt_at a0_2 x5_2
            replace p39 := eq_true p39
            replace q39 := eq_true q39
            go_wp2
            go_roundg k2
            case measure => have := HJ2.out; have := HK2.out; omega
            case rel => exact ⟨(wrap64 (x5_2 + 1)), rf, H', ⟨by have := HJ2.out; have := HK2.out; omega⟩, ⟨bk BK282⟩, ⟨bel⟩⟩
          ·
           rw [if_neg c38] at H
           have c38b0 : ((bt a1 x5_2) == 35) = false := beq_eq_false_iff_ne.mpr c38
           have c38b1 : ((bt a1 x5_2) != 35) = true := bne_iff_ne.mpr c38
           obtain rfl := Option.some.inj H
           have p15 : 0 ≤ (x5_2 : Int) := of_decide_eq_true asm
           have q15 : x5_2 < (a1.size : Int) := of_decide_eq_true asm
           have hx15 := bt_at a1 x5_2
           replace p15 := eq_true p15
           replace q15 := eq_true q15
           have p31 : 0 ≤ (x5_2 : Int) := of_decide_eq_true asm
           have q31 : x5_2 < (a1.size : Int) := of_decide_eq_true asm
           have hx31 := bt_at a1 x5_2
           replace p31 := eq_true p31
           replace q31 := eq_true q31
           have p33 : 0 ≤ (x5_2 : Int) := of_decide_eq_true asm
           have q33 : x5_2 < (a1.size : Int) := of_decide_eq_true asm
           have hx33 := bt_at a1 x5_2
           replace p33 := eq_true p33
           replace q33 := eq_true q33
           have ⟨_, _, _, _, _, _⟩ := cz3 BK282
           have p35 : 0 ≤ (x5_2 : Int) := of_decide_eq_true asm
           have q35 : x5_2 < (a0_2.size : Int) := of_decide_eq_true asm
           have hx35 := bt_at a0_2 x5_2
           replace p35 := eq_true p35
           replace q35 := eq_true q35
           have p37 : 0 ≤ (x5_2 : Int) := of_decide_eq_true asm
           have q37 : x5_2 < (a1.size : Int) := of_decide_eq_true asm
           have hx37 := bt_at a1 x5_2
           replace p37 := eq_true p37
           replace q37 := eq_true q37
           go_wp2
           go_ret
           exact ⟨er, bel⟩
         ·
          rw [if_neg c36] at H
          have c36b0 : ((bt a0_2 x5_2) == 35) = false := beq_eq_false_iff_ne.mpr c36
          have c36b1 : ((bt a0_2 x5_2) != 35) = true := bne_iff_ne.mpr c36
          by_cases c47 : (bt a0_2 x5_2) = 46
          ·
           rw [if_pos c47] at H
           have c47b0 : ((bt a0_2 x5_2) == 46) = true := beq_iff_eq.mpr c47
           have c47b1 : ((bt a0_2 x5_2) != 46) = false := bne_eq_false_iff_eq.mpr c47
           clear c47
           replace H := zc H
           rcases H with ⟨c48b0, H⟩ | ⟨c48b0, H⟩
           ·
            have H' := Aside0.mk H
            clear H
            have p15 : 0 ≤ (x5_2 : Int) := of_decide_eq_true asm
            have q15 : x5_2 < (a1.size : Int) := of_decide_eq_true asm
            have hx15 := bt_at a1 x5_2
            replace p15 := eq_true p15
            replace q15 := eq_true q15
            have p31 : 0 ≤ (x5_2 : Int) := of_decide_eq_true asm
            have q31 : x5_2 < (a1.size : Int) := of_decide_eq_true asm
            have hx31 := bt_at a1 x5_2
            replace p31 := eq_true p31
            replace q31 := eq_true q31
            have p33 : 0 ≤ (x5_2 : Int) := of_decide_eq_true asm
            have q33 : x5_2 < (a1.size : Int) := of_decide_eq_true asm
            have hx33 := bt_at a1 x5_2
            replace p33 := eq_true p33
            replace q33 := eq_true q33
            have ⟨_, _, _, _, _, _⟩ := cz3 BK282
            have p35 : 0 ≤ (x5_2 : Int) := of_decide_eq_true asm
            have q35 : x5_2 < (a0_2.size : Int) := of_decide_eq_true asm
            have hx35 := bt_at a0_2 x5_2
            replace p35 := eq_true p35
            replace q35 := eq_true q35
            have p46 : 0 ≤ (x5_2 : Int) := of_decide_eq_true asm
            have q46 : x5_2 < (a0_2.size : Int) := of_decide_eq_true asm
            have hx46 := bt_at a0_2 x5_2
            replace p46 := eq_true p46
            replace q46 := eq_true q46
            go_wp2
            go_roundg k2
            case measure => have := HJ2.out; have := HK2.out; omega
            case rel => exact ⟨(wrap64 (x5_2 + 1)), rf, H', ⟨by have := HJ2.out; have := HK2.out; omega⟩, ⟨bk BK282⟩, ⟨bel⟩⟩
           ·
            obtain rfl := Option.some.inj H
            have p15 : 0 ≤ (x5_2 : Int) := of_decide_eq_true asm
            have q15 : x5_2 < (a1.size : Int) := of_decide_eq_true asm
            have hx15 := bt_at a1 x5_2
            replace p15 := eq_true p15
            replace q15 := eq_true q15
            have p31 : 0 ≤ (x5_2 : Int) := of_decide_eq_true asm
            have q31 : x5_2 < (a1.size : Int) := of_decide_eq_true asm
            have hx31 := bt_at a1 x5_2
            replace p31 := eq_true p31
            replace q31 := eq_true q31
            have p33 : 0 ≤ (x5_2 : Int) := of_decide_eq_true asm
            have q33 : x5_2 < (a1.size : Int) := of_decide_eq_true asm
            have hx33 := bt_at a1 x5_2
            replace p33 := eq_true p33
            replace q33 := eq_true q33
            have ⟨_, _, _, _, _, _⟩ := cz3 BK282
            have p35 : 0 ≤ (x5_2 : Int) := of_decide_eq_true asm
            have q35 : x5_2 < (a0_2.size : Int) := of_decide_eq_true asm
            have hx35 := bt_at a0_2 x5_2
            replace p35 := eq_true p35
            replace q35 := eq_true q35
            have p46 : 0 ≤ (x5_2 : Int) := of_decide_eq_true asm
            have q46 : x5_2 < (a0_2.size : Int) := of_decide_eq_true asm
            have hx46 := bt_at a0_2 x5_2
            replace p46 := eq_true p46
            replace q46 := eq_true q46
            go_wp2
            go_ret
            exact ⟨er, bel⟩
          ·
           rw [if_neg c47] at H
           have c47b0 : ((bt a0_2 x5_2) == 46) = false := beq_eq_false_iff_ne.mpr c47
           have c47b1 : ((bt a0_2 x5_2) != 46) = true := bne_iff_ne.mpr c47
           have H' := Aside0.mk H
           clear H
           have p15 : 0 ≤ (x5_2 : Int) := of_decide_eq_true asm
           have q15 : x5_2 < (a1.size : Int) := of_decide_eq_true asm
           have hx15 := bt_at a1 x5_2
           replace p15 := eq_true p15
           replace q15 := eq_true q15
           have p31 : 0 ≤ (x5_2 : Int) := of_decide_eq_true asm
           have q31 : x5_2 < (a1.size : Int) := of_decide_eq_true asm
           have hx31 := bt_at a1 x5_2
           replace p31 := eq_true p31
           replace q31 := eq_true q31
           have p33 : 0 ≤ (x5_2 : Int) := of_decide_eq_true asm
           have q33 : x5_2 < (a1.size : Int) := of_decide_eq_true asm
           have hx33 := bt_at a1 x5_2
           replace p33 := eq_true p33
           replace q33 := eq_true q33
           have ⟨_, _, _, _, _, _⟩ := cz3 BK282
           have p35 : 0 ≤ (x5_2 : Int) := of_decide_eq_true asm
           have q35 : x5_2 < (a0_2.size : Int) := of_decide_eq_true asm
           have hx35 := bt_at a0_2 x5_2
           replace p35 := eq_true p35
           replace q35 := eq_true q35
           have p46 : 0 ≤ (x5_2 : Int) := of_decide_eq_true asm
           have q46 : x5_2 < (a0_2.size : Int) := of_decide_eq_true asm
           have hx46 := bt_at a0_2 x5_2
           replace p46 := eq_true p46
           replace q46 := eq_true q46
           go_wp2
           go_roundg k2
           case measure => have := HJ2.out; have := HK2.out; omega
           case rel => exact ⟨(wrap64 (x5_2 + 1)), rf, H', ⟨by have := HJ2.out; have := HK2.out; omega⟩, ⟨bk BK282⟩, ⟨bel⟩⟩
        ·
         replace H := zr H
         obtain ⟨c52b0, H⟩ := H
         by_cases c54 : (bt a0_2 x5_2) = 35
         ·
          rw [if_pos c54] at H
          have c54b0 : ((bt a0_2 x5_2) == 35) = true := beq_iff_eq.mpr c54
          have c54b1 : ((bt a0_2 x5_2) != 35) = false := bne_eq_false_iff_eq.mpr c54
          clear c54
          by_cases c56 : (bt a1 x5_2) = 35
          ·
           rw [if_pos c56] at H
           have c56b0 : ((bt a1 x5_2) == 35) = true := beq_iff_eq.mpr c56
           have c56b1 : ((bt a1 x5_2) != 35) = false := bne_eq_false_iff_eq.mpr c56
           clear c56
           by_cases c58 : (bt a0_2 x5_2) = 46
           ·
            rw [if_pos c58] at H
            have c58b0 : ((bt a0_2 x5_2) == 46) = true := beq_iff_eq.mpr c58
            have c58b1 : ((bt a0_2 x5_2) != 46) = false := bne_eq_false_iff_eq.mpr c58
            clear c58
            obtain rfl := Option.some.inj H
            have p15 : 0 ≤ (x5_2 : Int) := of_decide_eq_true asm
            have q15 : x5_2 < (a1.size : Int) := of_decide_eq_true asm
            have hx15 := bt_at a1 x5_2
            replace p15 := eq_true p15
            replace q15 := eq_true q15
            have p31 : 0 ≤ (x5_2 : Int) := of_decide_eq_true asm
            have q31 : x5_2 < (a1.size : Int) := of_decide_eq_true asm
            have hx31 := bt_at a1 x5_2
            replace p31 := eq_true p31
            replace q31 := eq_true q31
            have ⟨_, _, _, _, _, _⟩ := cz3 BK282
            have p53 : 0 ≤ (x5_2 : Int) := of_decide_eq_true asm
            have q53 : x5_2 < (a0_2.size : Int) := of_decide_eq_true asm
            have hx53 := bt_at a0_2 x5_2
            replace p53 := eq_true p53
            replace q53 := eq_true q53
            have p55 : 0 ≤ (x5_2 : Int) := of_decide_eq_true asm
            have q55 : x5_2 < (a1.size : Int) := of_decide_eq_true asm
            have hx55 := bt_at a1 x5_2
            replace p55 := eq_true p55
            replace q55 := eq_true q55
            have p57 : 0 ≤ (x5_2 : Int) := of_decide_eq_true asm
            have q57 : x5_2 < (a0_2.size : Int) := of_decide_eq_true asm
            have hx57 := bt_at a0_2 x5_2
            replace p57 := eq_true p57
            replace q57 := eq_true q57
            go_wp2
            go_ret
            exact ⟨er, bel⟩
           ·
            rw [if_neg c58] at H
            have c58b0 : ((bt a0_2 x5_2) == 46) = false := beq_eq_false_iff_ne.mpr c58
            have c58b1 : ((bt a0_2 x5_2) != 46) = true := bne_iff_ne.mpr c58
            have H' := Aside0.mk H
            clear H
            have p15 : 0 ≤ (x5_2 : Int) := of_decide_eq_true asm
            have q15 : x5_2 < (a1.size : Int) := of_decide_eq_true asm
            have hx15 := bt_at a1 x5_2
            replace p15 := eq_true p15
            replace q15 := eq_true q15
            have p31 : 0 ≤ (x5_2 : Int) := of_decide_eq_true asm
            have q31 : x5_2 < (a1.size : Int) := of_decide_eq_true asm
            have hx31 := bt_at a1 x5_2
            replace p31 := eq_true p31
            replace q31 := eq_true q31
            have ⟨_, _, _, _, _, _⟩ := cz3 BK282
            have p53 : 0 ≤ (x5_2 : Int) := of_decide_eq_true asm
            have q53 : x5_2 < (a0_2.size : Int) := of_decide_eq_true asm
            have hx53 := bt_at a0_2 x5_2
            replace p53 := eq_true p53
            replace q53 := eq_true q53
            have p55 : 0 ≤ (x5_2 : Int) := of_decide_eq_true asm
            have q55 : x5_2 < (a1.size : Int) := of_decide_eq_true asm
            have hx55 := bt_at a1 x5_2
            replace p55 := eq_true p55
            replace q55 := eq_true q55
            have p57 : 0 ≤ (x5_2 : Int) := of_decide_eq_true asm
            have q57 : x5_2 < (a0_2.size : Int) := of_decide_eq_true asm
            have hx57 := bt_at a0_2 x5_2
            replace p57 := eq_true p57
            replace q57 := eq_true q57
            go_wp2
            go_roundg k2
            case measure => have := HJ2.out; have := HK2.out; omega
            case rel => exact ⟨(wrap64 (x5_2 + 1)), rf, H', ⟨by have := HJ2.out; have := HK2.out; omega⟩, ⟨bk BK282⟩, ⟨bel⟩⟩
          ·
           rw [if_neg c56] at H
           have c56b0 : ((bt a1 x5_2) == 35) = false := beq_eq_false_iff_ne.mpr c56
           have c56b1 : ((bt a1 x5_2) != 35) = true := bne_iff_ne.mpr c56
           obtain rfl := Option.some.inj H
           have p15 : 0 ≤ (x5_2 : Int) := of_decide_eq_true asm
           have q15 : x5_2 < (a1.size : Int) := of_decide_eq_true asm
           have hx15 := bt_at a1 x5_2
           replace p15 := eq_true p15
           replace q15 := eq_true q15
           have p31 : 0 ≤ (x5_2 : Int) := of_decide_eq_true asm
           have q31 : x5_2 < (a1.size : Int) := of_decide_eq_true asm
           have hx31 := bt_at a1 x5_2
           replace p31 := eq_true p31
           replace q31 := eq_true q31
           have ⟨_, _, _, _, _, _⟩ := cz3 BK282
           have p53 : 0 ≤ (x5_2 : Int) := of_decide_eq_true asm
           have q53 : x5_2 < (a0_2.size : Int) := of_decide_eq_true asm
           have hx53 := bt_at a0_2 x5_2
           replace p53 := eq_true p53
           replace q53 := eq_true q53
           have p55 : 0 ≤ (x5_2 : Int) := of_decide_eq_true asm
           have q55 : x5_2 < (a1.size : Int) := of_decide_eq_true asm
           have hx55 := bt_at a1 x5_2
           replace p55 := eq_true p55
           replace q55 := eq_true q55
           go_wp2
           go_ret
           exact ⟨er, bel⟩
         ·
          rw [if_neg c54] at H
          have c54b0 : ((bt a0_2 x5_2) == 35) = false := beq_eq_false_iff_ne.mpr c54
          have c54b1 : ((bt a0_2 x5_2) != 35) = true := bne_iff_ne.mpr c54
          by_cases c63 : (bt a0_2 x5_2) = 46
          ·
           rw [if_pos c63] at H
           have c63b0 : ((bt a0_2 x5_2) == 46) = true := beq_iff_eq.mpr c63
           have c63b1 : ((bt a0_2 x5_2) != 46) = false := bne_eq_false_iff_eq.mpr c63
           clear c63
           obtain rfl := Option.some.inj H
           have p15 : 0 ≤ (x5_2 : Int) := of_decide_eq_true asm
           have q15 : x5_2 < (a1.size : Int) := of_decide_eq_true asm
           have hx15 := bt_at a1 x5_2
           replace p15 := eq_true p15
           replace q15 := eq_true q15
           have p31 : 0 ≤ (x5_2 : Int) := of_decide_eq_true asm
           have q31 : x5_2 < (a1.size : Int) := of_decide_eq_true asm
           have hx31 := bt_at a1 x5_2
           replace p31 := eq_true p31
           replace q31 := eq_true q31
           have ⟨_, _, _, _, _, _⟩ := cz3 BK282
           have p53 : 0 ≤ (x5_2 : Int) := of_decide_eq_true asm
           have q53 : x5_2 < (a0_2.size : Int) := of_decide_eq_true asm
           have hx53 := bt_at a0_2 x5_2
           replace p53 := eq_true p53
           replace q53 := eq_true q53
           have p62 : 0 ≤ (x5_2 : Int) := of_decide_eq_true asm
           have q62 : x5_2 < (a0_2.size : Int) := of_decide_eq_true asm
           have hx62 := bt_at a0_2 x5_2
           replace p62 := eq_true p62
           replace q62 := eq_true q62
           go_wp2
           go_ret
           exact ⟨er, bel⟩
          ·
           rw [if_neg c63] at H
           have c63b0 : ((bt a0_2 x5_2) == 46) = false := beq_eq_false_iff_ne.mpr c63
           have c63b1 : ((bt a0_2 x5_2) != 46) = true := bne_iff_ne.mpr c63
           have H' := Aside0.mk H
           clear H
           have p15 : 0 ≤ (x5_2 : Int) := of_decide_eq_true asm
           have q15 : x5_2 < (a1.size : Int) := of_decide_eq_true asm
           have hx15 := bt_at a1 x5_2
           replace p15 := eq_true p15
           replace q15 := eq_true q15
           have p31 : 0 ≤ (x5_2 : Int) := of_decide_eq_true asm
           have q31 : x5_2 < (a1.size : Int) := of_decide_eq_true asm
           have hx31 := bt_at a1 x5_2
           replace p31 := eq_true p31
           replace q31 := eq_true q31
           have ⟨_, _, _, _, _, _⟩ := cz3 BK282
           have p53 : 0 ≤ (x5_2 : Int) := of_decide_eq_true asm
           have q53 : x5_2 < (a0_2.size : Int) := of_decide_eq_true asm
           have hx53 := bt_at a0_2 x5_2
           replace p53 := eq_true p53
           replace q53 := eq_true q53
           have p62 : 0 ≤ (x5_2 : Int) := of_decide_eq_true asm
           have q62 : x5_2 < (a0_2.size : Int) := of_decide_eq_true asm
           have hx62 := bt_at a0_2 x5_2
           replace p62 := eq_true p62
           replace q62 := eq_true q62
           go_wp2
           go_roundg k2
           case measure => have := HJ2.out; have := HK2.out; omega
           case rel => exact ⟨(wrap64 (x5_2 + 1)), rf, H', ⟨by have := HJ2.out; have := HK2.out; omega⟩, ⟨bk BK282⟩, ⟨bel⟩⟩
      ·
       obtain rfl := Option.some.inj H
       go_wp2
       go_ret
       exact ⟨er, bel⟩

end Go.Proofs.Ytpcdfjcbjbkliaa.E
