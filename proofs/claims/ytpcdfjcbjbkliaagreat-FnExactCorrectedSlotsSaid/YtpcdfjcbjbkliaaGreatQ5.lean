import Derived.Test.YtpcdfjcbjbkliaaGreatSq
import Derived.Test.YtpcdfjcbjbkliaaGreatQ0
import Derived.Test.YtpcdfjcbjbkliaaGreatQ4
namespace Go.Proofs.YtpcdfjcbjbkliaaGreat.E
open Go.RowKit Go.Proofs.YtpcdfjcbjbkliaaGreatW.PrintWords Go.Proofs.YtpcdfjcbjbkliaaGreatW.PrintLast Go.Proofs.YtpcdfjcbjbkliaaGreatW.PrintMore
attribute [local go_sem] max2_int min2_int max_two min_two max_three min_three max_four min_four
set_option linter.unusedVariables false
set_option linter.unusedSimpArgs false

/-! ### spec_IsGrid: function 84 -/
mutual
def spec_IsGrid.j0 : Nat → Bool → Int → Int → ByteArray → Option (Bool)
 | 0, _, _, _, _ => none
 | k + 1, a, b, c, d => if a = true then (some false) else (spec_IsGrid.l0 k 0 b c d)
def spec_IsGrid.l0 : Nat → Int → Int → Int → ByteArray → Option (Bool)
 | 0, _, _, _, _ => none
 | k + 1, a, b, c, d => if a < (d.size : Int) then (if 0 ≤ a then (if (bt d a) = 35 then (spec_IsGrid.l0 k (wrap64 (a + 1)) b c d) else (if (bt d a) = 46 then (spec_IsGrid.l0 k (wrap64 (a + 1)) b c d) else (some false))) else (none)) else (some true)
end
def spec_IsGrid.f (k : Nat) (a b : Int) (c : ByteArray) : Option (Bool) := (spec_l1In.f a 2 6).bind fun d => (if d = true then ((spec_l1In.f b 2 6).bind fun e => (if e = true then (spec_IsGrid.j0 k ((c.size : Int) != (wrap64 (a * b))) a b c) else (spec_IsGrid.j0 k true a b c))) else (spec_IsGrid.j0 k true a b c))
set_option maxHeartbeats 8000000 in
set_option maxRecDepth 100000 in
theorem spec_IsGrid.calls (k : Nat) (a0_0 a0_1 : Int) (a0_2 : ByteArray) (r : Bool) (w : World) (H : spec_IsGrid.f k a0_0 a0_1 a0_2 = some r) :
  Calls Tryz.prog 84 #[.agg #[.int .i64 a0_0, .int .i64 a0_1, .string a0_2]] w fun e w' => e = .returned (.bool r) ∧ Below w.heap.size w w' := by
 have hu32 := Tryz.underlying32
 have HB := Aside0.mk (Below.refl w.heap.size w)
 unfold spec_IsGrid.f at H
 have HC2 := Aside0.mk H
 clear H
 go_enter Tryz.func84, Tryz.ntmps84
 go_upto_region 1 with (first | ((with_reducible refine zd 1 rfl ?_); (try (refine gate_guard (by rfl) ?_; dsimp only)); refine zbx (w := w) #[.int .i64 a0_0, .int .i64 a0_1, .string a0_2] 32 ?_; intro gb202 hg w3 BK202 hb; have GW202 := zg (w := w) hg; replace HB := zB hb; clear hb hg))
 (try simp only [Act.put, List.setIfInBounds_toArray, List.set_cons_zero, List.set_cons_succ])
 go_cut [24] (fun v24 wc => ∃ (kq : Nat) (x24_1 : Bool), v24 = .bool x24_1 ∧ Aside0 (spec_IsGrid.j0 kq x24_1 a0_0 a0_1 a0_2 = some r) ∧ Aside0 (kq ≤ k) ∧ Aside0 (wc.heap[gb202]? = some (.cells #[.int .i64 a0_0, .int .i64 a0_1, .string a0_2] 32 (0, 0))) ∧ Aside0 (Below w.heap.size w wc))
 case first =>
  have H := HC2.out
  clear HC2
  replace H := zs H
  obtain ⟨t203, A4, H⟩ := H
  replace H := zb H
  rcases H with ⟨rfl, H⟩ | ⟨rfl, H⟩
  ·
   replace H := zs H
   obtain ⟨t204, A6, H⟩ := H
   replace H := zb H
   rcases H with ⟨rfl, H⟩ | ⟨rfl, H⟩
   ·
    have H' := Aside0.mk H
    clear H
    have ⟨_, _, _, _, _, _⟩ := cz3 BK202
    go_wp2_with (first | ((with_reducible refine zd 6 rfl ?_); refine zgl Tryz.func45 (spec_l1In.calls a0_0 2 6 true _ A4.out) ?_; rintro e w' ⟨rfl, ⟨nd, rfl⟩⟩; refine ⟨_, rfl, ?_⟩) | (go_at_call 45; (with_reducible refine (spec_l1In.calls a0_1 2 6 true _ A6.out).mono ?_); rintro e w' ⟨rfl, ⟨nd, rfl⟩⟩))
    go_meet
    case rel => exact ⟨_, (((a0_2.size : Int) != (wrap64 (a0_0 * a0_1)))), rf, H', ⟨by first | omega | exact Nat.le_refl _⟩, ⟨bk BK202⟩, ⟨bel⟩⟩
   ·
    have H' := Aside0.mk H
    clear H
    have ⟨_, _, _, _, _, _⟩ := cz3 BK202
    go_wp2_with (first | ((with_reducible refine zd 6 rfl ?_); refine zgl Tryz.func45 (spec_l1In.calls a0_0 2 6 true _ A4.out) ?_; rintro e w' ⟨rfl, ⟨nd, rfl⟩⟩; refine ⟨_, rfl, ?_⟩) | (go_at_call 45; (with_reducible refine (spec_l1In.calls a0_1 2 6 false _ A6.out).mono ?_); rintro e w' ⟨rfl, ⟨nd, rfl⟩⟩))
    go_meet
    case rel => exact ⟨_, (true), rf, H', ⟨by first | omega | exact Nat.le_refl _⟩, ⟨bk BK202⟩, ⟨bel⟩⟩
  ·
   have H' := Aside0.mk H
   clear H
   have ⟨_, _, _, _, _, _⟩ := cz3 BK202
   go_wp2_with (first | ((with_reducible refine zd 6 rfl ?_); refine zgl Tryz.func45 (spec_l1In.calls a0_0 2 6 false _ A4.out) ?_; rintro e w' ⟨rfl, ⟨nd, rfl⟩⟩; refine ⟨_, rfl, ?_⟩))
   go_meet
   case rel => exact ⟨_, (true), rf, H', ⟨by first | omega | exact Nat.le_refl _⟩, ⟨bk BK202⟩, ⟨bel⟩⟩
 case rest =>
  clear HC2
  obtain ⟨kq, x24_1, rfl, HA, HJ1, BK202, HB⟩ := hcut
  cases kq with
  | zero => exact absurd HA.out (by simp [spec_IsGrid.j0])
  | succ kj1 =>
   have H := HA.out
   clear HA
   simp only [spec_IsGrid.j0] at H
   replace H := zb H
   rcases H with ⟨rfl, H⟩ | ⟨rfl, H⟩
   ·
    obtain rfl := Option.some.inj H
    go_wp2
    go_ret
    exact ⟨er, bel⟩
   ·
    have H' := Aside0.mk H
    clear H
    go_wp2
    go_loopg [3] kj1 (fun kq v3 w' => ∃ (x3_2 : Int), v3 = .int .i64 x3_2 ∧ Aside0 (spec_IsGrid.l0 kq x3_2 a0_0 a0_1 a0_2 = some r) ∧ Aside0 (kq ≤ kj1) ∧ Aside0 (w'.heap[gb202]? = some (.cells #[.int .i64 a0_0, .int .i64 a0_1, .string a0_2] 32 (0, 0))) ∧ Aside0 (Below w.heap.size w w'))
    case atStart => exact ⟨(0), rf, H', ⟨Nat.le_refl _⟩, ⟨bk BK202⟩, ⟨bel⟩⟩
    case round =>
     clear H'
     obtain ⟨x3_2, rfl, HA, HK2, BK202, HB⟩ := hrel
     cases gk with
     | zero => exact absurd HA.out (by simp [spec_IsGrid.l0])
     | succ k2 =>
      have H := HA.out
      clear HA
      simp only [spec_IsGrid.l0] at H
      replace H := zc H
      rcases H with ⟨c12b0, H⟩ | ⟨c12b0, H⟩
      ·
       replace H := zr H
       obtain ⟨c13b0, H⟩ := H
       by_cases c15 : (bt a0_2 x3_2) = 35
       ·
        rw [if_pos c15] at H
        have c15b0 : ((bt a0_2 x3_2) == 35) = true := beq_iff_eq.mpr c15
        have c15b1 : ((bt a0_2 x3_2) != 35) = false := bne_eq_false_iff_eq.mpr c15
        clear c15
        have H' := Aside0.mk H
        clear H
        have ⟨_, _, _, _, _, _⟩ := cz3 BK202
        obtain ⟨p14, q14, hx14⟩ := zxb a0_2 x3_2
        go_wp2
        go_roundg k2
        case measure => have := HJ1.out; have := HK2.out; omega
        case rel => exact ⟨(wrap64 (x3_2 + 1)), rf, H', ⟨by have := HJ1.out; have := HK2.out; omega⟩, ⟨bk BK202⟩, ⟨bel⟩⟩
       ·
        rw [if_neg c15] at H
        have c15b0 : ((bt a0_2 x3_2) == 35) = false := beq_eq_false_iff_ne.mpr c15
        have c15b1 : ((bt a0_2 x3_2) != 35) = true := bne_iff_ne.mpr c15
        by_cases c18 : (bt a0_2 x3_2) = 46
        ·
         rw [if_pos c18] at H
         have c18b0 : ((bt a0_2 x3_2) == 46) = true := beq_iff_eq.mpr c18
         have c18b1 : ((bt a0_2 x3_2) != 46) = false := bne_eq_false_iff_eq.mpr c18
         clear c18
         have H' := Aside0.mk H
         clear H
         have ⟨_, _, _, _, _, _⟩ := cz3 BK202
         obtain ⟨p14, q14, hx14⟩ := zxb a0_2 x3_2
         obtain ⟨p17, q17, hx17⟩ := zxb a0_2 x3_2
         go_wp2
         go_roundg k2
         case measure => have := HJ1.out; have := HK2.out; omega
         case rel => exact ⟨(wrap64 (x3_2 + 1)), rf, H', ⟨by have := HJ1.out; have := HK2.out; omega⟩, ⟨bk BK202⟩, ⟨bel⟩⟩
        ·
         rw [if_neg c18] at H
         have c18b0 : ((bt a0_2 x3_2) == 46) = false := beq_eq_false_iff_ne.mpr c18
         have c18b1 : ((bt a0_2 x3_2) != 46) = true := bne_iff_ne.mpr c18
         obtain rfl := Option.some.inj H
         have ⟨_, _, _, _, _, _⟩ := cz3 BK202
         obtain ⟨p14, q14, hx14⟩ := zxb a0_2 x3_2
         obtain ⟨p17, q17, hx17⟩ := zxb a0_2 x3_2
         go_wp2
         go_ret
         exact ⟨er, bel⟩
      ·
       obtain rfl := Option.some.inj H
       have ⟨_, _, _, _, _, _⟩ := cz3 BK202
       go_wp2
       go_ret
       exact ⟨er, bel⟩

/-! ### spec_IsFill: function 50 -/
mutual
def spec_IsFill.j0 : Nat → ByteArray → Bool → Int → Int → ByteArray → Option (Bool)
 | 0, _, _, _, _, _ => none
 | k + 1, a, b, c, d, e => if b = true then (some false) else (spec_IsFill.l0 k a 0 c d e)
def spec_IsFill.l0 : Nat → ByteArray → Int → Int → Int → ByteArray → Option (Bool)
 | 0, _, _, _, _, _ => none
 | k + 1, a, b, c, d, e => if b < (a.size : Int) then (if 0 ≤ b then (if (bt a b) = 63 then (if b < (e.size : Int) then (if (bt e b) = 35 then (if (bt a b) = 35 then (if (bt e b) = 46 then (spec_IsFill.l0 k a (wrap64 (b + 1)) c d e) else (spec_IsFill.l0 k a (wrap64 (b + 1)) c d e)) else (some false)) else (if (bt e b) = 46 then (spec_IsFill.l0 k a (wrap64 (b + 1)) c d e) else (spec_IsFill.l0 k a (wrap64 (b + 1)) c d e))) else (none)) else (if (bt a b) ≥ 97 then (if b < (e.size : Int) then (if (bt e b) = 35 then (if (bt a b) = 35 then (if (bt e b) = 46 then (if ((bt a b) ≤ 122) then (spec_IsFill.l0 k a (wrap64 (b + 1)) c d e) else (some false)) else (spec_IsFill.l0 k a (wrap64 (b + 1)) c d e)) else (some false)) else (if (bt e b) = 46 then (if ((bt a b) ≤ 122) then (spec_IsFill.l0 k a (wrap64 (b + 1)) c d e) else (some false)) else (spec_IsFill.l0 k a (wrap64 (b + 1)) c d e))) else (none)) else (if b < (e.size : Int) then (if (bt e b) = 35 then (if (bt a b) = 35 then (if (bt e b) = 46 then (some false) else (spec_IsFill.l0 k a (wrap64 (b + 1)) c d e)) else (some false)) else (if (bt e b) = 46 then (some false) else (spec_IsFill.l0 k a (wrap64 (b + 1)) c d e))) else (none)))) else (none)) else (some true)
end
def spec_IsFill.f (k : Nat) (a b : Int) (c d : ByteArray) : Option (Bool) := (spec_IsGrid.f k a b c).bind fun e => (if e = true then (spec_IsFill.j0 k d ((d.size : Int) != (c.size : Int)) a b c) else (spec_IsFill.j0 k d true a b c))
set_option maxHeartbeats 8000000 in
set_option maxRecDepth 100000 in
theorem spec_IsFill.calls (k : Nat) (a0_0 a0_1 : Int) (a0_2 a1 : ByteArray) (r : Bool) (w : World) (H : spec_IsFill.f k a0_0 a0_1 a0_2 a1 = some r) :
  Calls Tryz.prog 50 #[.agg #[.int .i64 a0_0, .int .i64 a0_1, .string a0_2], .string a1] w fun e w' => e = .returned (.bool r) ∧ Below w.heap.size w w' := by
 have hu32 := Tryz.underlying32
 have HB := Aside0.mk (Below.refl w.heap.size w)
 unfold spec_IsFill.f at H
 have HC3 := Aside0.mk H
 clear H
 go_enter Tryz.func50, Tryz.ntmps50
 go_upto_region 1 with (first | ((with_reducible refine zd 2 rfl ?_); (try (refine gate_guard (by rfl) ?_; dsimp only)); refine zbx (w := w) #[.int .i64 a0_0, .int .i64 a0_1, .string a0_2] 32 ?_; intro gb205 hg w4 BK205 hb; have GW205 := zg (w := w) hg; replace HB := zB hb; clear hb hg))
 (try simp only [Act.put, List.setIfInBounds_toArray, List.set_cons_zero, List.set_cons_succ])
 go_cut [17] (fun v17 wc => ∃ (kq : Nat) (x17_2 : Bool), v17 = .bool x17_2 ∧ Aside0 (spec_IsFill.j0 kq a1 x17_2 a0_0 a0_1 a0_2 = some r) ∧ Aside0 (kq ≤ k) ∧ Aside0 (wc.heap[gb205]? = some (.cells #[.int .i64 a0_0, .int .i64 a0_1, .string a0_2] 32 (0, 0))) ∧ Aside0 (Below w.heap.size w wc))
 case first =>
  have H := HC3.out
  clear HC3
  replace H := zs H
  obtain ⟨t206, A5, H⟩ := H
  replace H := zb H
  rcases H with ⟨rfl, H⟩ | ⟨rfl, H⟩
  ·
   have H' := Aside0.mk H
   clear H
   have ⟨_, _, _, _, _, _⟩ := cz3 BK205
   go_wp2_with (first | ((with_reducible refine zd 8 rfl ?_); refine zgl Tryz.func84 (spec_IsGrid.calls k a0_0 a0_1 a0_2 true _ A5.out) ?_; rintro e w8 ⟨rfl, hb⟩; refine ⟨_, rfl, ?_⟩; replace BK205 := zk BK205 hb; replace HB := zB hb; have ⟨_, _, _, _, _, _⟩ := cz3 BK205))
   go_meet
   case rel => exact ⟨_, (((a1.size : Int) != (a0_2.size : Int))), rf, H', ⟨by first | omega | exact Nat.le_refl _⟩, ⟨bk BK205⟩, ⟨bel⟩⟩
  ·
   have H' := Aside0.mk H
   clear H
   have ⟨_, _, _, _, _, _⟩ := cz3 BK205
   go_wp2_with (first | ((with_reducible refine zd 8 rfl ?_); refine zgl Tryz.func84 (spec_IsGrid.calls k a0_0 a0_1 a0_2 false _ A5.out) ?_; rintro e w11 ⟨rfl, hb⟩; refine ⟨_, rfl, ?_⟩; replace BK205 := zk BK205 hb; replace HB := zB hb))
   go_meet
   case rel => exact ⟨_, (true), rf, H', ⟨by first | omega | exact Nat.le_refl _⟩, ⟨bk BK205⟩, ⟨bel⟩⟩
 case rest =>
  clear HC3
  obtain ⟨kq, x17_2, rfl, HA, HJ2, BK205, HB⟩ := hcut
  cases kq with
  | zero => exact absurd HA.out (by simp [spec_IsFill.j0])
  | succ kj2 =>
   have H := HA.out
   clear HA
   simp only [spec_IsFill.j0] at H
   replace H := zb H
   rcases H with ⟨rfl, H⟩ | ⟨rfl, H⟩
   ·
    obtain rfl := Option.some.inj H
    go_wp2
    go_ret
    exact ⟨er, bel⟩
   ·
    have H' := Aside0.mk H
    clear H
    go_wp2
    go_loopg [5] kj2 (fun kq v5 w' => ∃ (x5_2 : Int), v5 = .int .i64 x5_2 ∧ Aside0 (spec_IsFill.l0 kq a1 x5_2 a0_0 a0_1 a0_2 = some r) ∧ Aside0 (kq ≤ kj2) ∧ Aside0 (w'.heap[gb205]? = some (.cells #[.int .i64 a0_0, .int .i64 a0_1, .string a0_2] 32 (0, 0))) ∧ Aside0 (Below w.heap.size w w'))
    case atStart => exact ⟨(0), rf, H', ⟨Nat.le_refl _⟩, ⟨bk BK205⟩, ⟨bel⟩⟩
    case round =>
     clear H'
     obtain ⟨x5_2, rfl, HA, HK2, BK205, HB⟩ := hrel
     cases gk with
     | zero => exact absurd HA.out (by simp [spec_IsFill.l0])
     | succ k2 =>
      have H := HA.out
      clear HA
      simp only [spec_IsFill.l0] at H
      replace H := zc H
      rcases H with ⟨c13b0, H⟩ | ⟨c13b0, H⟩
      ·
       replace H := zr H
       obtain ⟨c14b0, H⟩ := H
       by_cases c16 : (bt a1 x5_2) = 63
       ·
        rw [if_pos c16] at H
        have c16b0 : ((bt a1 x5_2) == 63) = true := beq_iff_eq.mpr c16
        have c16b1 : ((bt a1 x5_2) != 63) = false := bne_eq_false_iff_eq.mpr c16
        clear c16
        replace H := zr H
        obtain ⟨c17b0, H⟩ := H
        by_cases c19 : (bt a0_2 x5_2) = 35
        ·
         rw [if_pos c19] at H
         have c19b0 : ((bt a0_2 x5_2) == 35) = true := beq_iff_eq.mpr c19
         have c19b1 : ((bt a0_2 x5_2) != 35) = false := bne_eq_false_iff_eq.mpr c19
         clear c19
         by_cases c21 : (bt a1 x5_2) = 35
         ·
          rw [if_pos c21] at H
          have c21b0 : ((bt a1 x5_2) == 35) = true := beq_iff_eq.mpr c21
          have c21b1 : ((bt a1 x5_2) != 35) = false := bne_eq_false_iff_eq.mpr c21
          clear c21
          by_cases c23 : (bt a0_2 x5_2) = 46
          ·
           rw [if_pos c23] at H
           have c23b0 : ((bt a0_2 x5_2) == 46) = true := beq_iff_eq.mpr c23
           have c23b1 : ((bt a0_2 x5_2) != 46) = false := bne_eq_false_iff_eq.mpr c23
           clear c23
           have H' := Aside0.mk H
           clear H
           obtain ⟨p15, q15, hx15⟩ := zxb a1 x5_2
           have ⟨_, _, _, _, _, _⟩ := cz3 BK205
           obtain ⟨p18, q18, hx18⟩ := zxb a0_2 x5_2
           obtain ⟨p20, q20, hx20⟩ := zxb a1 x5_2
           obtain ⟨p22, q22, hx22⟩ := zxb a0_2 x5_2
           go_wp2
           go_roundg k2
           case measure => have := HJ2.out; have := HK2.out; omega
           case rel => exact ⟨(wrap64 (x5_2 + 1)), rf, H', ⟨by have := HJ2.out; have := HK2.out; omega⟩, ⟨bk BK205⟩, ⟨bel⟩⟩
          ·
           rw [if_neg c23] at H
           have c23b0 : ((bt a0_2 x5_2) == 46) = false := beq_eq_false_iff_ne.mpr c23
           have c23b1 : ((bt a0_2 x5_2) != 46) = true := bne_iff_ne.mpr c23
           have H' := Aside0.mk H
           clear H
           obtain ⟨p15, q15, hx15⟩ := zxb a1 x5_2
           have ⟨_, _, _, _, _, _⟩ := cz3 BK205
           obtain ⟨p18, q18, hx18⟩ := zxb a0_2 x5_2
           obtain ⟨p20, q20, hx20⟩ := zxb a1 x5_2
           obtain ⟨p22, q22, hx22⟩ := zxb a0_2 x5_2
           go_wp2
           go_roundg k2
           case measure => have := HJ2.out; have := HK2.out; omega
           case rel => exact ⟨(wrap64 (x5_2 + 1)), rf, H', ⟨by have := HJ2.out; have := HK2.out; omega⟩, ⟨bk BK205⟩, ⟨bel⟩⟩
         ·
          rw [if_neg c21] at H
          have c21b0 : ((bt a1 x5_2) == 35) = false := beq_eq_false_iff_ne.mpr c21
          have c21b1 : ((bt a1 x5_2) != 35) = true := bne_iff_ne.mpr c21
          obtain rfl := Option.some.inj H
          obtain ⟨p15, q15, hx15⟩ := zxb a1 x5_2
          have ⟨_, _, _, _, _, _⟩ := cz3 BK205
          obtain ⟨p18, q18, hx18⟩ := zxb a0_2 x5_2
          obtain ⟨p20, q20, hx20⟩ := zxb a1 x5_2
          go_wp2
          go_ret
          exact ⟨er, bel⟩
        ·
         rw [if_neg c19] at H
         have c19b0 : ((bt a0_2 x5_2) == 35) = false := beq_eq_false_iff_ne.mpr c19
         have c19b1 : ((bt a0_2 x5_2) != 35) = true := bne_iff_ne.mpr c19
         by_cases c28 : (bt a0_2 x5_2) = 46
         ·
          rw [if_pos c28] at H
          have c28b0 : ((bt a0_2 x5_2) == 46) = true := beq_iff_eq.mpr c28
          have c28b1 : ((bt a0_2 x5_2) != 46) = false := bne_eq_false_iff_eq.mpr c28
          clear c28
          have H' := Aside0.mk H
          clear H
          obtain ⟨p15, q15, hx15⟩ := zxb a1 x5_2
          have ⟨_, _, _, _, _, _⟩ := cz3 BK205
          obtain ⟨p18, q18, hx18⟩ := zxb a0_2 x5_2
          obtain ⟨p27, q27, hx27⟩ := zxb a0_2 x5_2
          go_wp2
          go_roundg k2
          case measure => have := HJ2.out; have := HK2.out; omega
          case rel => exact ⟨(wrap64 (x5_2 + 1)), rf, H', ⟨by have := HJ2.out; have := HK2.out; omega⟩, ⟨bk BK205⟩, ⟨bel⟩⟩
         ·
          rw [if_neg c28] at H
          have c28b0 : ((bt a0_2 x5_2) == 46) = false := beq_eq_false_iff_ne.mpr c28
          have c28b1 : ((bt a0_2 x5_2) != 46) = true := bne_iff_ne.mpr c28
          have H' := Aside0.mk H
          clear H
          obtain ⟨p15, q15, hx15⟩ := zxb a1 x5_2
          have ⟨_, _, _, _, _, _⟩ := cz3 BK205
          obtain ⟨p18, q18, hx18⟩ := zxb a0_2 x5_2
          obtain ⟨p27, q27, hx27⟩ := zxb a0_2 x5_2
          go_wp2
          go_roundg k2
          case measure => have := HJ2.out; have := HK2.out; omega
          case rel => exact ⟨(wrap64 (x5_2 + 1)), rf, H', ⟨by have := HJ2.out; have := HK2.out; omega⟩, ⟨bk BK205⟩, ⟨bel⟩⟩
       ·
        rw [if_neg c16] at H
        have c16b0 : ((bt a1 x5_2) == 63) = false := beq_eq_false_iff_ne.mpr c16
        have c16b1 : ((bt a1 x5_2) != 63) = true := bne_iff_ne.mpr c16
        replace H := zc H
        rcases H with ⟨c32b0, H⟩ | ⟨c32b0, H⟩
        ·
         replace H := zr H
         obtain ⟨c34b0, H⟩ := H
         by_cases c36 : (bt a0_2 x5_2) = 35
         ·
          rw [if_pos c36] at H
          have c36b0 : ((bt a0_2 x5_2) == 35) = true := beq_iff_eq.mpr c36
          have c36b1 : ((bt a0_2 x5_2) != 35) = false := bne_eq_false_iff_eq.mpr c36
          clear c36
          by_cases c38 : (bt a1 x5_2) = 35
          ·
           rw [if_pos c38] at H
           have c38b0 : ((bt a1 x5_2) == 35) = true := beq_iff_eq.mpr c38
           have c38b1 : ((bt a1 x5_2) != 35) = false := bne_eq_false_iff_eq.mpr c38
           clear c38
           by_cases c40 : (bt a0_2 x5_2) = 46
           ·
            rw [if_pos c40] at H
            have c40b0 : ((bt a0_2 x5_2) == 46) = true := beq_iff_eq.mpr c40
            have c40b1 : ((bt a0_2 x5_2) != 46) = false := bne_eq_false_iff_eq.mpr c40
            clear c40
            replace H := zc H
            rcases H with ⟨c41b0, H⟩ | ⟨c41b0, H⟩
            ·
             have H' := Aside0.mk H
             clear H
             obtain ⟨p15, q15, hx15⟩ := zxb a1 x5_2
             obtain ⟨p31, q31, hx31⟩ := zxb a1 x5_2
             obtain ⟨p33, q33, hx33⟩ := zxb a1 x5_2
             have ⟨_, _, _, _, _, _⟩ := cz3 BK205
             obtain ⟨p35, q35, hx35⟩ := zxb a0_2 x5_2
             obtain ⟨p37, q37, hx37⟩ := zxb a1 x5_2
             obtain ⟨p39, q39, hx39⟩ := zxb a0_2 x5_2
             go_wp2
             go_roundg k2
             case measure => have := HJ2.out; have := HK2.out; omega
             case rel => exact ⟨(wrap64 (x5_2 + 1)), rf, H', ⟨by have := HJ2.out; have := HK2.out; omega⟩, ⟨bk BK205⟩, ⟨bel⟩⟩
            ·
             obtain rfl := Option.some.inj H
             obtain ⟨p15, q15, hx15⟩ := zxb a1 x5_2
             obtain ⟨p31, q31, hx31⟩ := zxb a1 x5_2
             obtain ⟨p33, q33, hx33⟩ := zxb a1 x5_2
             have ⟨_, _, _, _, _, _⟩ := cz3 BK205
             obtain ⟨p35, q35, hx35⟩ := zxb a0_2 x5_2
             obtain ⟨p37, q37, hx37⟩ := zxb a1 x5_2
             obtain ⟨p39, q39, hx39⟩ := zxb a0_2 x5_2
             go_wp2
             go_ret
             exact ⟨er, bel⟩
           ·
            rw [if_neg c40] at H
            have c40b0 : ((bt a0_2 x5_2) == 46) = false := beq_eq_false_iff_ne.mpr c40
            have c40b1 : ((bt a0_2 x5_2) != 46) = true := bne_iff_ne.mpr c40
            have H' := Aside0.mk H
            clear H
            obtain ⟨p15, q15, hx15⟩ := zxb a1 x5_2
            obtain ⟨p31, q31, hx31⟩ := zxb a1 x5_2
            obtain ⟨p33, q33, hx33⟩ := zxb a1 x5_2
            have ⟨_, _, _, _, _, _⟩ := cz3 BK205
            obtain ⟨p35, q35, hx35⟩ := zxb a0_2 x5_2
            obtain ⟨p37, q37, hx37⟩ := zxb a1 x5_2
            obtain ⟨p39, q39, hx39⟩ := zxb a0_2 x5_2
            go_wp2
            go_roundg k2
            case measure => have := HJ2.out; have := HK2.out; omega
            case rel => exact ⟨(wrap64 (x5_2 + 1)), rf, H', ⟨by have := HJ2.out; have := HK2.out; omega⟩, ⟨bk BK205⟩, ⟨bel⟩⟩
          ·
           rw [if_neg c38] at H
           have c38b0 : ((bt a1 x5_2) == 35) = false := beq_eq_false_iff_ne.mpr c38
           have c38b1 : ((bt a1 x5_2) != 35) = true := bne_iff_ne.mpr c38
           obtain rfl := Option.some.inj H
           obtain ⟨p15, q15, hx15⟩ := zxb a1 x5_2
           obtain ⟨p31, q31, hx31⟩ := zxb a1 x5_2
           obtain ⟨p33, q33, hx33⟩ := zxb a1 x5_2
           have ⟨_, _, _, _, _, _⟩ := cz3 BK205
           obtain ⟨p35, q35, hx35⟩ := zxb a0_2 x5_2
           obtain ⟨p37, q37, hx37⟩ := zxb a1 x5_2
           go_wp2
           go_ret
           exact ⟨er, bel⟩
         ·
          rw [if_neg c36] at H
          have c36b0 : ((bt a0_2 x5_2) == 35) = false := beq_eq_false_iff_ne.mpr c36
          have c36b1 : ((bt a0_2 x5_2) != 35) = true := bne_iff_ne.mpr c36
          by_cases c47 : (bt a0_2 x5_2) = 46
          ·
           rw [if_pos c47] at H
           have c47b0 : ((bt a0_2 x5_2) == 46) = true := beq_iff_eq.mpr c47
           have c47b1 : ((bt a0_2 x5_2) != 46) = false := bne_eq_false_iff_eq.mpr c47
           clear c47
           replace H := zc H
           rcases H with ⟨c48b0, H⟩ | ⟨c48b0, H⟩
           ·
            have H' := Aside0.mk H
            clear H
            obtain ⟨p15, q15, hx15⟩ := zxb a1 x5_2
            obtain ⟨p31, q31, hx31⟩ := zxb a1 x5_2
            obtain ⟨p33, q33, hx33⟩ := zxb a1 x5_2
            have ⟨_, _, _, _, _, _⟩ := cz3 BK205
            obtain ⟨p35, q35, hx35⟩ := zxb a0_2 x5_2
            obtain ⟨p46, q46, hx46⟩ := zxb a0_2 x5_2
            go_wp2
            go_roundg k2
            case measure => have := HJ2.out; have := HK2.out; omega
            case rel => exact ⟨(wrap64 (x5_2 + 1)), rf, H', ⟨by have := HJ2.out; have := HK2.out; omega⟩, ⟨bk BK205⟩, ⟨bel⟩⟩
           ·
            obtain rfl := Option.some.inj H
            obtain ⟨p15, q15, hx15⟩ := zxb a1 x5_2
            obtain ⟨p31, q31, hx31⟩ := zxb a1 x5_2
            obtain ⟨p33, q33, hx33⟩ := zxb a1 x5_2
            have ⟨_, _, _, _, _, _⟩ := cz3 BK205
            obtain ⟨p35, q35, hx35⟩ := zxb a0_2 x5_2
            obtain ⟨p46, q46, hx46⟩ := zxb a0_2 x5_2
            go_wp2
            go_ret
            exact ⟨er, bel⟩
          ·
           rw [if_neg c47] at H
           have c47b0 : ((bt a0_2 x5_2) == 46) = false := beq_eq_false_iff_ne.mpr c47
           have c47b1 : ((bt a0_2 x5_2) != 46) = true := bne_iff_ne.mpr c47
           have H' := Aside0.mk H
           clear H
           obtain ⟨p15, q15, hx15⟩ := zxb a1 x5_2
           obtain ⟨p31, q31, hx31⟩ := zxb a1 x5_2
           obtain ⟨p33, q33, hx33⟩ := zxb a1 x5_2
           have ⟨_, _, _, _, _, _⟩ := cz3 BK205
           obtain ⟨p35, q35, hx35⟩ := zxb a0_2 x5_2
           obtain ⟨p46, q46, hx46⟩ := zxb a0_2 x5_2
           go_wp2
           go_roundg k2
           case measure => have := HJ2.out; have := HK2.out; omega
           case rel => exact ⟨(wrap64 (x5_2 + 1)), rf, H', ⟨by have := HJ2.out; have := HK2.out; omega⟩, ⟨bk BK205⟩, ⟨bel⟩⟩
        ·
         replace H := zr H
         obtain ⟨c52b0, H⟩ := H
         by_cases c54 : (bt a0_2 x5_2) = 35
         ·
          rw [if_pos c54] at H
          have c54b0 : ((bt a0_2 x5_2) == 35) = true := beq_iff_eq.mpr c54
          have c54b1 : ((bt a0_2 x5_2) != 35) = false := bne_eq_false_iff_eq.mpr c54
          clear c54
          by_cases c56 : (bt a1 x5_2) = 35
          ·
           rw [if_pos c56] at H
           have c56b0 : ((bt a1 x5_2) == 35) = true := beq_iff_eq.mpr c56
           have c56b1 : ((bt a1 x5_2) != 35) = false := bne_eq_false_iff_eq.mpr c56
           clear c56
           by_cases c58 : (bt a0_2 x5_2) = 46
           ·
            rw [if_pos c58] at H
            have c58b0 : ((bt a0_2 x5_2) == 46) = true := beq_iff_eq.mpr c58
            have c58b1 : ((bt a0_2 x5_2) != 46) = false := bne_eq_false_iff_eq.mpr c58
            clear c58
            obtain rfl := Option.some.inj H
            obtain ⟨p15, q15, hx15⟩ := zxb a1 x5_2
            obtain ⟨p31, q31, hx31⟩ := zxb a1 x5_2
            have ⟨_, _, _, _, _, _⟩ := cz3 BK205
            obtain ⟨p53, q53, hx53⟩ := zxb a0_2 x5_2
            obtain ⟨p55, q55, hx55⟩ := zxb a1 x5_2
            obtain ⟨p57, q57, hx57⟩ := zxb a0_2 x5_2
            go_wp2
            go_ret
            exact ⟨er, bel⟩
           ·
            rw [if_neg c58] at H
            have c58b0 : ((bt a0_2 x5_2) == 46) = false := beq_eq_false_iff_ne.mpr c58
            have c58b1 : ((bt a0_2 x5_2) != 46) = true := bne_iff_ne.mpr c58
            have H' := Aside0.mk H
            clear H
            obtain ⟨p15, q15, hx15⟩ := zxb a1 x5_2
            obtain ⟨p31, q31, hx31⟩ := zxb a1 x5_2
            have ⟨_, _, _, _, _, _⟩ := cz3 BK205
            obtain ⟨p53, q53, hx53⟩ := zxb a0_2 x5_2
            obtain ⟨p55, q55, hx55⟩ := zxb a1 x5_2
            obtain ⟨p57, q57, hx57⟩ := zxb a0_2 x5_2
            go_wp2
            go_roundg k2
            case measure => have := HJ2.out; have := HK2.out; omega
            case rel => exact ⟨(wrap64 (x5_2 + 1)), rf, H', ⟨by have := HJ2.out; have := HK2.out; omega⟩, ⟨bk BK205⟩, ⟨bel⟩⟩
          ·
           rw [if_neg c56] at H
           have c56b0 : ((bt a1 x5_2) == 35) = false := beq_eq_false_iff_ne.mpr c56
           have c56b1 : ((bt a1 x5_2) != 35) = true := bne_iff_ne.mpr c56
           obtain rfl := Option.some.inj H
           obtain ⟨p15, q15, hx15⟩ := zxb a1 x5_2
           obtain ⟨p31, q31, hx31⟩ := zxb a1 x5_2
           have ⟨_, _, _, _, _, _⟩ := cz3 BK205
           obtain ⟨p53, q53, hx53⟩ := zxb a0_2 x5_2
           obtain ⟨p55, q55, hx55⟩ := zxb a1 x5_2
           go_wp2
           go_ret
           exact ⟨er, bel⟩
         ·
          rw [if_neg c54] at H
          have c54b0 : ((bt a0_2 x5_2) == 35) = false := beq_eq_false_iff_ne.mpr c54
          have c54b1 : ((bt a0_2 x5_2) != 35) = true := bne_iff_ne.mpr c54
          by_cases c63 : (bt a0_2 x5_2) = 46
          ·
           rw [if_pos c63] at H
           have c63b0 : ((bt a0_2 x5_2) == 46) = true := beq_iff_eq.mpr c63
           have c63b1 : ((bt a0_2 x5_2) != 46) = false := bne_eq_false_iff_eq.mpr c63
           clear c63
           obtain rfl := Option.some.inj H
           obtain ⟨p15, q15, hx15⟩ := zxb a1 x5_2
           obtain ⟨p31, q31, hx31⟩ := zxb a1 x5_2
           have ⟨_, _, _, _, _, _⟩ := cz3 BK205
           obtain ⟨p53, q53, hx53⟩ := zxb a0_2 x5_2
           obtain ⟨p62, q62, hx62⟩ := zxb a0_2 x5_2
           go_wp2
           go_ret
           exact ⟨er, bel⟩
          ·
           rw [if_neg c63] at H
           have c63b0 : ((bt a0_2 x5_2) == 46) = false := beq_eq_false_iff_ne.mpr c63
           have c63b1 : ((bt a0_2 x5_2) != 46) = true := bne_iff_ne.mpr c63
           have H' := Aside0.mk H
           clear H
           obtain ⟨p15, q15, hx15⟩ := zxb a1 x5_2
           obtain ⟨p31, q31, hx31⟩ := zxb a1 x5_2
           have ⟨_, _, _, _, _, _⟩ := cz3 BK205
           obtain ⟨p53, q53, hx53⟩ := zxb a0_2 x5_2
           obtain ⟨p62, q62, hx62⟩ := zxb a0_2 x5_2
           go_wp2
           go_roundg k2
           case measure => have := HJ2.out; have := HK2.out; omega
           case rel => exact ⟨(wrap64 (x5_2 + 1)), rf, H', ⟨by have := HJ2.out; have := HK2.out; omega⟩, ⟨bk BK205⟩, ⟨bel⟩⟩
      ·
       obtain rfl := Option.some.inj H
       go_wp2
       go_ret
       exact ⟨er, bel⟩

end Go.Proofs.YtpcdfjcbjbkliaaGreat.E
