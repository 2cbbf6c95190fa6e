import Derived.Test.YtpcdfjcbjbkliaaGreatSq
import Derived.Test.YtpcdfjcbjbkliaaGreatQ0
import Derived.Test.YtpcdfjcbjbkliaaGreatQ17
namespace Go.Proofs.YtpcdfjcbjbkliaaGreat.E
open Go.RowKit Go.Proofs.YtpcdfjcbjbkliaaGreatW.PrintWords Go.Proofs.YtpcdfjcbjbkliaaGreatW.PrintLast Go.Proofs.YtpcdfjcbjbkliaaGreatW.PrintMore
attribute [local go_sem] max2_int min2_int max_two min_two max_three min_three max_four min_four
set_option linter.unusedVariables false
set_option linter.unusedSimpArgs false

/-! ### impl_IsFill: function 52 -/
mutual
def impl_IsFill.j0 : Nat → ByteArray → Bool → Int → Int → ByteArray → Option (Bool)
 | 0, _, _, _, _, _ => none
 | k + 1, a, b, c, d, e => if b = true then (some false) else (impl_IsFill.l0 k a (a.size : Int) 0 c d e)
def impl_IsFill.l0 : Nat → ByteArray → Int → Int → Int → Int → ByteArray → Option (Bool)
 | 0, _, _, _, _, _, _ => none
 | k + 1, a, b, c, d, e, f => if c < b then (if 0 ≤ c then (if c < (f.size : Int) then (if c < (a.size : Int) then (if (((bt f c) == 35) != ((bt a c) == 35)) = true then (some false) else (if (bt a c) = 35 then (impl_IsFill.l0 k a b (wrap64 (c + 1)) d e f) else (if (bt a c) = 63 then (impl_IsFill.l0 k a b (wrap64 (c + 1)) d e f) else ((impl_isLetter.f (bt a c)).bind fun g => (if g = true then (impl_IsFill.l0 k a b (wrap64 (c + 1)) d e f) else (some false)))))) else (none)) else (none)) else (none)) else (some true)
end
def impl_IsFill.f (k : Nat) (a b : Int) (c d : ByteArray) : Option (Bool) := (impl_IsGrid.f k a b c).bind fun e => (if e = true then (impl_IsFill.j0 k d ((d.size : Int) != (c.size : Int)) a b c) else (impl_IsFill.j0 k d true a b c))
set_option maxHeartbeats 8000000 in
set_option maxRecDepth 100000 in
theorem impl_IsFill.calls (k : Nat) (a0_0 a0_1 : Int) (a0_2 a1 : ByteArray) (r : Bool) (w : World) (H : impl_IsFill.f k a0_0 a0_1 a0_2 a1 = some r) :
  Calls Tryz.prog 52 #[.agg #[.int .i64 a0_0, .int .i64 a0_1, .string a0_2], .string a1] w fun e w' => e = .returned (.bool r) ∧ Below w.heap.size w w' := by
 have hu32 := Tryz.underlying32
 have HB := Aside0.mk (Below.refl w.heap.size w)
 unfold impl_IsFill.f at H
 have HC3 := Aside0.mk H
 clear H
 go_enter Tryz.func52, Tryz.ntmps52
 go_upto_region 1 with (first | ((with_reducible refine zd 2 rfl ?_); (try (refine gate_guard (by rfl) ?_; dsimp only)); refine zbx (w := w) #[.int .i64 a0_0, .int .i64 a0_1, .string a0_2] 32 ?_; intro gb526 hg w4 BK526 hb; have GW526 := zg (w := w) hg; replace HB := zB hb; clear hb hg))
 repeat (go_quiet (first | ((with_reducible refine zd 2 rfl ?_); (try (refine gate_guard (by rfl) ?_; dsimp only)); refine zbx (w := w) #[.int .i64 a0_0, .int .i64 a0_1, .string a0_2] 32 ?_; intro gb526 hg w4 BK526 hb; have GW526 := zg (w := w) hg; replace HB := zB hb; clear hb hg)); go_upto_region 1 with (first | ((with_reducible refine zd 2 rfl ?_); (try (refine gate_guard (by rfl) ?_; dsimp only)); refine zbx (w := w) #[.int .i64 a0_0, .int .i64 a0_1, .string a0_2] 32 ?_; intro gb526 hg w4 BK526 hb; have GW526 := zg (w := w) hg; replace HB := zB hb; clear hb hg)))
 (try simp only [Act.put, List.setIfInBounds_toArray, List.set_cons_zero, List.set_cons_succ])
 go_cut [16] (fun v16 wc => ∃ (kq : Nat) (x16_2 : Bool), v16 = .bool x16_2 ∧ Aside0 (impl_IsFill.j0 kq a1 x16_2 a0_0 a0_1 a0_2 = some r) ∧ Aside0 (kq ≤ k) ∧ Aside0 (wc.heap[gb526]? = some (.cells #[.int .i64 a0_0, .int .i64 a0_1, .string a0_2] 32 (0, 0))) ∧ Aside0 (Below w.heap.size w wc))
 case first =>
  have H := HC3.out
  clear HC3
  replace H := zs H
  obtain ⟨t527, A5, H⟩ := H
  replace H := zb H
  rcases H with ⟨rfl, H⟩ | ⟨rfl, H⟩
  ·
   have H' := Aside0.mk H
   clear H
   have ⟨_, _, _, _, _, _⟩ := cz3 BK526
   go_wp2_with (first | (go_at_call 85; (with_reducible refine (impl_IsGrid.calls k a0_0 a0_1 a0_2 true _ A5.out).mono ?_); rintro e w8 ⟨rfl, hb⟩; replace BK526 := zk BK526 hb; replace HB := zB hb; have ⟨_, _, _, _, _, _⟩ := cz3 BK526))
   repeat (go_quiet (first | (go_at_call 85; (with_reducible refine (impl_IsGrid.calls k a0_0 a0_1 a0_2 true _ A5.out).mono ?_); rintro e w8 ⟨rfl, hb⟩; replace BK526 := zk BK526 hb; replace HB := zB hb; have ⟨_, _, _, _, _, _⟩ := cz3 BK526)); try go_wp2_with (first | (go_at_call 85; (with_reducible refine (impl_IsGrid.calls k a0_0 a0_1 a0_2 true _ A5.out).mono ?_); rintro e w8 ⟨rfl, hb⟩; replace BK526 := zk BK526 hb; replace HB := zB hb; have ⟨_, _, _, _, _, _⟩ := cz3 BK526)))
   go_meet
   case rel => exact ⟨_, (((a1.size : Int) != (a0_2.size : Int))), rf, H', ⟨by first | omega | exact Nat.le_refl _⟩, ⟨bk BK526⟩, ⟨bel⟩⟩
  ·
   have H' := Aside0.mk H
   clear H
   have ⟨_, _, _, _, _, _⟩ := cz3 BK526
   go_wp2_with (first | (go_at_call 85; (with_reducible refine (impl_IsGrid.calls k a0_0 a0_1 a0_2 false _ A5.out).mono ?_); rintro e w11 ⟨rfl, hb⟩; replace BK526 := zk BK526 hb; replace HB := zB hb))
   repeat (go_quiet (first | (go_at_call 85; (with_reducible refine (impl_IsGrid.calls k a0_0 a0_1 a0_2 false _ A5.out).mono ?_); rintro e w11 ⟨rfl, hb⟩; replace BK526 := zk BK526 hb; replace HB := zB hb)); try go_wp2_with (first | (go_at_call 85; (with_reducible refine (impl_IsGrid.calls k a0_0 a0_1 a0_2 false _ A5.out).mono ?_); rintro e w11 ⟨rfl, hb⟩; replace BK526 := zk BK526 hb; replace HB := zB hb)))
   go_meet
   case rel => exact ⟨_, (true), rf, H', ⟨by first | omega | exact Nat.le_refl _⟩, ⟨bk BK526⟩, ⟨bel⟩⟩
 case rest =>
  clear HC3
  obtain ⟨kq, x16_2, rfl, HA, HJ2, BK526, HB⟩ := hcut
  cases kq with
  | zero => exact absurd HA.out (by simp [impl_IsFill.j0])
  | succ kj2 =>
   have H := HA.out
   clear HA
   simp only [impl_IsFill.j0] at H
   replace H := zb H
   rcases H with ⟨rfl, H⟩ | ⟨rfl, H⟩
   ·
    obtain rfl := Option.some.inj H
    go_wp2
    repeat (go_quiet (fail); try go_wp2)
    go_ret
    exact ⟨er, bel⟩
   ·
    have H' := Aside0.mk H
    clear H
    go_wp2
    repeat (go_quiet (fail); try go_wp2)
    go_loopg [19] kj2 (fun kq v19 w' => ∃ (x19_2 : Int), v19 = .int .i64 x19_2 ∧ Aside0 (impl_IsFill.l0 kq a1 (a1.size : Int) x19_2 a0_0 a0_1 a0_2 = some r) ∧ Aside0 (kq ≤ kj2) ∧ Aside0 (w'.heap[gb526]? = some (.cells #[.int .i64 a0_0, .int .i64 a0_1, .string a0_2] 32 (0, 0))) ∧ Aside0 (Below w.heap.size w w'))
    case atStart => exact ⟨(0), rf, H', ⟨Nat.le_refl _⟩, ⟨bk BK526⟩, ⟨bel⟩⟩
    case round =>
     clear H'
     obtain ⟨x19_2, rfl, HA, HK2, BK526, HB⟩ := hrel
     cases gk with
     | zero => exact absurd HA.out (by simp [impl_IsFill.l0])
     | succ k2 =>
      have H := HA.out
      clear HA
      simp only [impl_IsFill.l0] at H
      replace H := zc H
      rcases H with ⟨c13b0, H⟩ | ⟨c13b0, H⟩
      ·
       replace H := zr H
       obtain ⟨c14b0, H⟩ := H
       replace H := zr H
       obtain ⟨c15b0, H⟩ := H
       replace H := zr H
       obtain ⟨c17b0, H⟩ := H
       by_cases c19 : (((bt a0_2 x19_2) == 35) != ((bt a1 x19_2) == 35)) = true
       ·
        rw [if_pos c19] at H
        have c19b0 : (((bt a0_2 x19_2) == 35) != ((bt a1 x19_2) == 35)) = true := c19
        (try (have c19b1 : decide (((bt a0_2 x19_2) == 35) = ((bt a1 x19_2) == 35)) = false := by simpa using c19))
        (try (have c19b2 : (((bt a0_2 x19_2) == 35) == ((bt a1 x19_2) == 35)) = false := by simpa using c19))
        (try (have c19b3 : ¬ (((bt a0_2 x19_2) == 35) = ((bt a1 x19_2) == 35)) := by simpa using c19))
        clear c19
        obtain rfl := Option.some.inj H
        have ⟨_, _, _, _, _, _⟩ := cz3 BK526
        obtain ⟨p16, q16, hx16⟩ := zxb a0_2 x19_2
        obtain ⟨p18, q18, hx18⟩ := zxb a1 x19_2
        go_wp2
        repeat (go_quiet (fail); try go_wp2)
        go_ret
        exact ⟨er, bel⟩
       ·
        rw [if_neg c19] at H
        have c19b0 : (((bt a0_2 x19_2) == 35) != ((bt a1 x19_2) == 35)) = false := by simpa using c19
        (try (have c19b1 : decide (((bt a0_2 x19_2) == 35) = ((bt a1 x19_2) == 35)) = true := by simpa using c19))
        (try (have c19b2 : (((bt a0_2 x19_2) == 35) == ((bt a1 x19_2) == 35)) = true := by simpa using c19))
        clear c19
        by_cases c22 : (bt a1 x19_2) = 35
        ·
         rw [if_pos c22] at H
         have c22b0 : ((bt a1 x19_2) == 35) = true := beq_iff_eq.mpr c22
         have c22b1 : ((bt a1 x19_2) != 35) = false := bne_eq_false_iff_eq.mpr c22
         have ht_ : ((bt a0_2 x19_2) == 35) = true := by rw [c22b0] at c19b0; simpa using c19b0
         have ht2_ : ((bt a0_2 x19_2) != 35) = false := by rw [bne, ht_]; rfl
         clear c22
         have H' := Aside0.mk H
         clear H
         have ⟨_, _, _, _, _, _⟩ := cz3 BK526
         obtain ⟨p16, q16, hx16⟩ := zxb a0_2 x19_2
         obtain ⟨p18, q18, hx18⟩ := zxb a1 x19_2
         obtain ⟨p21, q21, hx21⟩ := zxb a1 x19_2
         go_wp2
         repeat (go_quiet (fail); try go_wp2)
         go_roundg k2
         case measure => have := HJ2.out; have := HK2.out; omega
         case rel => exact ⟨(wrap64 (x19_2 + 1)), rf, H', ⟨by have := HJ2.out; have := HK2.out; omega⟩, ⟨bk BK526⟩, ⟨bel⟩⟩
        ·
         rw [if_neg c22] at H
         have c22b0 : ((bt a1 x19_2) == 35) = false := beq_eq_false_iff_ne.mpr c22
         have c22b1 : ((bt a1 x19_2) != 35) = true := bne_iff_ne.mpr c22
         have ht_ : ((bt a0_2 x19_2) == 35) = false := by rw [c22b0] at c19b0; simpa using c19b0
         have ht2_ : ((bt a0_2 x19_2) != 35) = true := by rw [bne, ht_]; rfl
         by_cases c25 : (bt a1 x19_2) = 63
         ·
          rw [if_pos c25] at H
          have c25b0 : ((bt a1 x19_2) == 63) = true := beq_iff_eq.mpr c25
          have c25b1 : ((bt a1 x19_2) != 63) = false := bne_eq_false_iff_eq.mpr c25
          clear c25
          have H' := Aside0.mk H
          clear H
          have ⟨_, _, _, _, _, _⟩ := cz3 BK526
          obtain ⟨p16, q16, hx16⟩ := zxb a0_2 x19_2
          obtain ⟨p18, q18, hx18⟩ := zxb a1 x19_2
          obtain ⟨p21, q21, hx21⟩ := zxb a1 x19_2
          obtain ⟨p24, q24, hx24⟩ := zxb a1 x19_2
          go_wp2
          repeat (go_quiet (fail); try go_wp2)
          go_roundg k2
          case measure => have := HJ2.out; have := HK2.out; omega
          case rel => exact ⟨(wrap64 (x19_2 + 1)), rf, H', ⟨by have := HJ2.out; have := HK2.out; omega⟩, ⟨bk BK526⟩, ⟨bel⟩⟩
         ·
          rw [if_neg c25] at H
          have c25b0 : ((bt a1 x19_2) == 63) = false := beq_eq_false_iff_ne.mpr c25
          have c25b1 : ((bt a1 x19_2) != 63) = true := bne_iff_ne.mpr c25
          replace H := zs H
          obtain ⟨t528, A28, H⟩ := H
          replace H := zb H
          rcases H with ⟨rfl, H⟩ | ⟨rfl, H⟩
          ·
           have H' := Aside0.mk H
           clear H
           have ⟨_, _, _, _, _, _⟩ := cz3 BK526
           obtain ⟨p16, q16, hx16⟩ := zxb a0_2 x19_2
           obtain ⟨p18, q18, hx18⟩ := zxb a1 x19_2
           obtain ⟨p21, q21, hx21⟩ := zxb a1 x19_2
           obtain ⟨p24, q24, hx24⟩ := zxb a1 x19_2
           obtain ⟨p27, q27, hx27⟩ := zxb a1 x19_2
           go_wp2_with (first | (go_at_call 86; (with_reducible refine (impl_isLetter.calls (bt a1 x19_2) true _ A28.out).mono ?_); rintro e w' ⟨rfl, ⟨nd, rfl⟩⟩; (try first | exact ⟨rfl, _, World.drewN_drewN _ _ _⟩ | exact ⟨rfl, _, Eq.trans (World.drewN_drewN _ _ _) (congrArg (World.drewN _) (Nat.add_assoc _ _ _))⟩)))
           repeat (go_quiet (first | (go_at_call 86; (with_reducible refine (impl_isLetter.calls (bt a1 x19_2) true _ A28.out).mono ?_); rintro e w' ⟨rfl, ⟨nd, rfl⟩⟩; (try first | exact ⟨rfl, _, World.drewN_drewN _ _ _⟩ | exact ⟨rfl, _, Eq.trans (World.drewN_drewN _ _ _) (congrArg (World.drewN _) (Nat.add_assoc _ _ _))⟩))); try go_wp2_with (first | (go_at_call 86; (with_reducible refine (impl_isLetter.calls (bt a1 x19_2) true _ A28.out).mono ?_); rintro e w' ⟨rfl, ⟨nd, rfl⟩⟩; (try first | exact ⟨rfl, _, World.drewN_drewN _ _ _⟩ | exact ⟨rfl, _, Eq.trans (World.drewN_drewN _ _ _) (congrArg (World.drewN _) (Nat.add_assoc _ _ _))⟩))))
           go_roundg k2
           case measure => have := HJ2.out; have := HK2.out; omega
           case rel => exact ⟨(wrap64 (x19_2 + 1)), rf, H', ⟨by have := HJ2.out; have := HK2.out; omega⟩, ⟨bk BK526⟩, ⟨bel⟩⟩
          ·
           obtain rfl := Option.some.inj H
           have ⟨_, _, _, _, _, _⟩ := cz3 BK526
           obtain ⟨p16, q16, hx16⟩ := zxb a0_2 x19_2
           obtain ⟨p18, q18, hx18⟩ := zxb a1 x19_2
           obtain ⟨p21, q21, hx21⟩ := zxb a1 x19_2
           obtain ⟨p24, q24, hx24⟩ := zxb a1 x19_2
           obtain ⟨p27, q27, hx27⟩ := zxb a1 x19_2
           go_wp2_with (first | (go_at_call 86; (with_reducible refine (impl_isLetter.calls (bt a1 x19_2) false _ A28.out).mono ?_); rintro e w' ⟨rfl, ⟨nd, rfl⟩⟩; (try first | exact ⟨rfl, _, World.drewN_drewN _ _ _⟩ | exact ⟨rfl, _, Eq.trans (World.drewN_drewN _ _ _) (congrArg (World.drewN _) (Nat.add_assoc _ _ _))⟩)))
           repeat (go_quiet (first | (go_at_call 86; (with_reducible refine (impl_isLetter.calls (bt a1 x19_2) false _ A28.out).mono ?_); rintro e w' ⟨rfl, ⟨nd, rfl⟩⟩; (try first | exact ⟨rfl, _, World.drewN_drewN _ _ _⟩ | exact ⟨rfl, _, Eq.trans (World.drewN_drewN _ _ _) (congrArg (World.drewN _) (Nat.add_assoc _ _ _))⟩))); try go_wp2_with (first | (go_at_call 86; (with_reducible refine (impl_isLetter.calls (bt a1 x19_2) false _ A28.out).mono ?_); rintro e w' ⟨rfl, ⟨nd, rfl⟩⟩; (try first | exact ⟨rfl, _, World.drewN_drewN _ _ _⟩ | exact ⟨rfl, _, Eq.trans (World.drewN_drewN _ _ _) (congrArg (World.drewN _) (Nat.add_assoc _ _ _))⟩))))
           go_ret
           exact ⟨er, bel⟩
      ·
       obtain rfl := Option.some.inj H
       go_wp2
       repeat (go_quiet (fail); try go_wp2)
       go_ret
       exact ⟨er, bel⟩

/-! ### impl_run: function 133 -/
mutual
def impl_run.j0 : Nat → Int → Int → Int → Int → Int → Int → ByteArray → Option (Int)
 | 0, _, _, _, _, _, _, _ => none
 | k + 1, a, b, c, d, e, f, g => if 0 ≤ a then (if a < (g.size : Int) then (if (bt g a) = 46 then (if c > 0 then (if 0 ≤ (wrap64 (a - b)) then (if (wrap64 (a - b)) < (g.size : Int) then (impl_run.j1 k a b c d ((bt g (wrap64 (a - b))) == 46) e f g) else (none)) else (none)) else (impl_run.j1 k a b c d false e f g)) else (impl_run.j1 k a b c d true e f g)) else (none)) else (none)
def impl_run.j1 : Nat → Int → Int → Int → Int → Bool → Int → Int → ByteArray → Option (Int)
 | 0, _, _, _, _, _, _, _, _ => none
 | k + 1, a, b, c, d, e, f, g, h => if e = true then (some 0) else (impl_run.l0 k a b c d 0 f g h)
def impl_run.l0 : Nat → Int → Int → Int → Int → Int → Int → Int → ByteArray → Option (Int)
 | 0, _, _, _, _, _, _, _, _ => none
 | k + 1, a, b, c, d, e, f, g, h => if (wrap64 (c + e)) < d then (if 0 ≤ (wrap64 (a + (wrap64 (e * b)))) then (if (wrap64 (a + (wrap64 (e * b)))) < (h.size : Int) then (if (bt h (wrap64 (a + (wrap64 (e * b))))) = 46 then (impl_run.l0 k a b c d (wrap64 (e + 1)) f g h) else (some e)) else (none)) else (none)) else (some e)
end
def impl_run.f (k : Nat) (a b : Int) (c : ByteArray) (d : Int) (e : Bool) : Option (Int) := if b = 0 then (none) else (if e = true then (impl_run.j0 k d b (wrap64 (Int.tdiv d b)) a a b c) else (impl_run.j0 k d 1 (Int.tmod d b) b a b c))
set_option maxHeartbeats 8000000 in
set_option maxRecDepth 100000 in
theorem impl_run.calls (k : Nat) (a0_0 a0_1 : Int) (a0_2 : ByteArray) (a1 : Int) (a2 : Bool) (r : Int) (w : World) (H : impl_run.f k a0_0 a0_1 a0_2 a1 a2 = some r) :
  Calls Tryz.prog 133 #[.agg #[.int .i64 a0_0, .int .i64 a0_1, .string a0_2], .int .i64 a1, .bool a2] w fun e w' => e = .returned (.int .i64 r) ∧ Below w.heap.size w w' := by
 have hu32 := Tryz.underlying32
 have HB := Aside0.mk (Below.refl w.heap.size w)
 unfold impl_run.f at H
 by_cases c4 : a0_1 = 0
 ·
  rw [if_pos c4] at H
  exact absurd H (by simp)
 ·
  rw [if_neg c4] at H
  have c4b0 : (a0_1 == 0) = false := beq_eq_false_iff_ne.mpr c4
  have c4b1 : (a0_1 != 0) = true := bne_iff_ne.mpr c4
  have HC5 := Aside0.mk H
  clear H
  go_enter Tryz.func133, Tryz.ntmps133
  go_upto_if 17 with (first | ((with_reducible refine zd 3 rfl ?_); refine zbx (w := w) #[.int .i64 a0_0, .int .i64 a0_1, .string a0_2] 32 ?_; intro gb529 hg w6 BK529 hb; have GW529 := zg (w := w) hg; replace HB := zB hb; clear hb hg; have ⟨_, _, _, _, _, _⟩ := cz3 BK529))
  repeat (go_quiet (first | ((with_reducible refine zd 3 rfl ?_); refine zbx (w := w) #[.int .i64 a0_0, .int .i64 a0_1, .string a0_2] 32 ?_; intro gb529 hg w6 BK529 hb; have GW529 := zg (w := w) hg; replace HB := zB hb; clear hb hg; have ⟨_, _, _, _, _, _⟩ := cz3 BK529)); go_upto_if 17 with (first | ((with_reducible refine zd 3 rfl ?_); refine zbx (w := w) #[.int .i64 a0_0, .int .i64 a0_1, .string a0_2] 32 ?_; intro gb529 hg w6 BK529 hb; have GW529 := zg (w := w) hg; replace HB := zB hb; clear hb hg; have ⟨_, _, _, _, _, _⟩ := cz3 BK529)))
  (try simp only [Act.put, List.setIfInBounds_toArray, List.set_cons_zero, List.set_cons_succ])
  go_cut [7, 8, 9] (fun v7 v8 v9 wc => ∃ (kq : Nat) (x7_4 : Int) (x8_4 : Int) (x9_4 : Int), v7 = .int .i64 x7_4 ∧ v8 = .int .i64 x8_4 ∧ v9 = .int .i64 x9_4 ∧ Aside0 (impl_run.j0 kq a1 x7_4 x8_4 x9_4 a0_0 a0_1 a0_2 = some r) ∧ Aside0 (kq ≤ k) ∧ Aside0 (wc.heap[gb529]? = some (.cells #[.int .i64 a0_0, .int .i64 a0_1, .string a0_2] 32 (0, 0))) ∧ Aside0 (Below w.heap.size w wc))
  case first =>
   have H := HC5.out
   clear HC5
   replace H := zb H
   rcases H with ⟨rfl, H⟩ | ⟨rfl, H⟩
   ·
    have H' := Aside0.mk H
    clear H
    have ⟨_, _, _, _, _, _⟩ := cz3 BK529
    go_wp2
    repeat (go_quiet (fail); try go_wp2)
    go_meet
    case rel => exact ⟨_, (a0_1), (wrap64 (Int.tdiv a1 a0_1)), (a0_0), rf, rf, rf, H', ⟨by first | omega | exact Nat.le_refl _⟩, ⟨bk BK529⟩, ⟨bel⟩⟩
   ·
    have H' := Aside0.mk H
    clear H
    go_wp2
    repeat (go_quiet (fail); try go_wp2)
    go_meet
    case rel => exact ⟨_, (1), (Int.tmod a1 a0_1), (a0_1), rf, rf, rf, H', ⟨by first | omega | exact Nat.le_refl _⟩, ⟨bk BK529⟩, ⟨bel⟩⟩
  case rest =>
   clear HC5
   obtain ⟨kq, x7_4, x8_4, x9_4, rfl, rfl, rfl, HA, HJ4, BK529, HB⟩ := hcut
   cases kq with
   | zero => exact absurd HA.out (by simp [impl_run.j0])
   | succ kj4 =>
    have H := HA.out
    clear HA
    simp only [impl_run.j0] at H
    have HC10 := Aside0.mk H
    clear H
    go_upto_region 4 with (fail)
    repeat (go_quiet (fail); go_upto_region 4 with (fail))
    go_cut [43] (fun v43 wc => ∃ (kq : Nat) (x43_9 : Bool), v43 = .bool x43_9 ∧ Aside0 (impl_run.j1 kq a1 x7_4 x8_4 x9_4 x43_9 a0_0 a0_1 a0_2 = some r) ∧ Aside0 (kq ≤ kj4) ∧ Aside0 (wc.heap[gb529]? = some (.cells #[.int .i64 a0_0, .int .i64 a0_1, .string a0_2] 32 (0, 0))) ∧ Aside0 (Below w.heap.size w wc))
    case first =>
     have H := HC10.out
     clear HC10
     replace H := zr H
     obtain ⟨c11b0, H⟩ := H
     (first | rw [c11b0] | (simp only [i64_w, i32_w]; rw [c11b0]) | skip)
     replace H := zr H
     obtain ⟨c12b0, H⟩ := H
     by_cases c14 : (bt a0_2 a1) = 46
     ·
      rw [if_pos c14] at H
      have c14b0 : ((bt a0_2 a1) == 46) = true := beq_iff_eq.mpr c14
      have c14b1 : ((bt a0_2 a1) != 46) = false := bne_eq_false_iff_eq.mpr c14
      clear c14
      replace H := zc H
      rcases H with ⟨c15b0, H⟩ | ⟨c15b0, H⟩
      ·
       obtain ⟨ji16, hji16⟩ : ∃ j_ : Int, (wrap64 (a1 - x7_4)) = j_ := ⟨_, rfl⟩
       replace H : (if 0 ≤ (ji16) then (if (ji16) < (a0_2.size : Int) then (impl_run.j1 kj4 a1 x7_4 x8_4 x9_4 ((bt a0_2 (ji16)) == 46) a0_0 a0_1 a0_2) else (none)) else (none)) = some r := by first | (rw [hji16] at H; exact H) | (simp only [hji16] at H ⊢; exact H)
       have hji16w : (IntKind.i64.wrap (a1 - x7_4)) = ji16 := (i64_w _).trans hji16
       replace H := zr H
       obtain ⟨c17b0, H⟩ := H
       replace H := zr H
       obtain ⟨c18b0, H⟩ := H
       have H' := Aside0.mk H
       clear H
       have ⟨_, _, _, _, _, _⟩ := cz3 BK529
       obtain ⟨p13, q13, hx13⟩ := zxb a0_2 a1
       obtain ⟨p19, q19, hx19⟩ := zxb a0_2 (ji16)
       go_wp2
       repeat (go_quiet (fail); try go_wp2)
       go_meet
       case rel => exact ⟨_, (((bt a0_2 (ji16)) == 46)), (by first | rfl | (simp; done) | (simp only [← hji16] <;> (first | rfl | simp)) | (simp [*]; done)), H', ⟨by have := HJ4.out; first | omega | exact Nat.le_refl _⟩, ⟨bk BK529⟩, ⟨bel⟩⟩
      ·
       have H' := Aside0.mk H
       clear H
       have ⟨_, _, _, _, _, _⟩ := cz3 BK529
       obtain ⟨p13, q13, hx13⟩ := zxb a0_2 a1
       go_wp2
       repeat (go_quiet (fail); try go_wp2)
       go_meet
       case rel => exact ⟨_, (false), rf, H', ⟨by have := HJ4.out; first | omega | exact Nat.le_refl _⟩, ⟨bk BK529⟩, ⟨bel⟩⟩
     ·
      rw [if_neg c14] at H
      have c14b0 : ((bt a0_2 a1) == 46) = false := beq_eq_false_iff_ne.mpr c14
      have c14b1 : ((bt a0_2 a1) != 46) = true := bne_iff_ne.mpr c14
      have H' := Aside0.mk H
      clear H
      have ⟨_, _, _, _, _, _⟩ := cz3 BK529
      obtain ⟨p13, q13, hx13⟩ := zxb a0_2 a1
      go_wp2
      repeat (go_quiet (fail); try go_wp2)
      go_meet
      case rel => exact ⟨_, (true), rf, H', ⟨by have := HJ4.out; first | omega | exact Nat.le_refl _⟩, ⟨bk BK529⟩, ⟨bel⟩⟩
    case rest =>
     clear HC10
     obtain ⟨kq, x43_9, rfl, HA, HJ9, BK529, HB⟩ := hcut
     cases kq with
     | zero => exact absurd HA.out (by simp [impl_run.j1])
     | succ kj9 =>
      have H := HA.out
      clear HA
      simp only [impl_run.j1] at H
      replace H := zb H
      rcases H with ⟨rfl, H⟩ | ⟨rfl, H⟩
      ·
       obtain rfl := Option.some.inj H
       go_wp2
       repeat (go_quiet (fail); try go_wp2)
       go_ret
       exact ⟨er, bel⟩
      ·
       have H' := Aside0.mk H
       clear H
       go_wp2
       repeat (go_quiet (fail); try go_wp2)
       go_loopg [10] kj9 (fun kq v10 w' => ∃ (x10_3 : Int), v10 = .int .i64 x10_3 ∧ Aside0 (impl_run.l0 kq a1 x7_4 x8_4 x9_4 x10_3 a0_0 a0_1 a0_2 = some r) ∧ Aside0 (kq ≤ kj9) ∧ Aside0 (w'.heap[gb529]? = some (.cells #[.int .i64 a0_0, .int .i64 a0_1, .string a0_2] 32 (0, 0))) ∧ Aside0 (Below w.heap.size w w'))
       case atStart => exact ⟨(0), rf, H', ⟨Nat.le_refl _⟩, ⟨bk BK529⟩, ⟨bel⟩⟩
       case round =>
        clear H'
        obtain ⟨x10_3, rfl, HA, HK3, BK529, HB⟩ := hrel
        cases gk with
        | zero => exact absurd HA.out (by simp [impl_run.l0])
        | succ k3 =>
         have H := HA.out
         clear HA
         simp only [impl_run.l0] at H
         replace H := zc H
         rcases H with ⟨c24b0, H⟩ | ⟨c24b0, H⟩
         ·
          obtain ⟨ji25, hji25⟩ : ∃ j_ : Int, (wrap64 (a1 + (wrap64 (x10_3 * x7_4)))) = j_ := ⟨_, rfl⟩
          replace H : (if 0 ≤ (ji25) then (if (ji25) < (a0_2.size : Int) then (if (bt a0_2 (ji25)) = 46 then (impl_run.l0 k3 a1 x7_4 x8_4 x9_4 (wrap64 (x10_3 + 1)) a0_0 a0_1 a0_2) else (some x10_3)) else (none)) else (none)) = some r := by first | (rw [hji25] at H; exact H) | (simp only [hji25] at H ⊢; exact H)
          have hji25w : (IntKind.i64.wrap (a1 + (wrap64 (x10_3 * x7_4)))) = ji25 := (i64_w _).trans hji25
          replace H := zr H
          obtain ⟨c26b0, H⟩ := H
          replace H := zr H
          obtain ⟨c27b0, H⟩ := H
          by_cases c29 : (bt a0_2 (ji25)) = 46
          ·
           rw [if_pos c29] at H
           have c29b0 : ((bt a0_2 (ji25)) == 46) = true := beq_iff_eq.mpr c29
           have c29b1 : ((bt a0_2 (ji25)) != 46) = false := bne_eq_false_iff_eq.mpr c29
           clear c29
           have H' := Aside0.mk H
           clear H
           have ⟨_, _, _, _, _, _⟩ := cz3 BK529
           obtain ⟨p28, q28, hx28⟩ := zxb a0_2 (ji25)
           go_wp2
           repeat (go_quiet (fail); try go_wp2)
           go_roundg k3
           case measure => have := HJ4.out; have := HJ9.out; have := HK3.out; omega
           case rel => exact ⟨(wrap64 (x10_3 + 1)), rf, H', ⟨by have := HJ4.out; have := HJ9.out; have := HK3.out; omega⟩, ⟨bk BK529⟩, ⟨bel⟩⟩
          ·
           rw [if_neg c29] at H
           have c29b0 : ((bt a0_2 (ji25)) == 46) = false := beq_eq_false_iff_ne.mpr c29
           have c29b1 : ((bt a0_2 (ji25)) != 46) = true := bne_iff_ne.mpr c29
           obtain rfl := Option.some.inj H
           have ⟨_, _, _, _, _, _⟩ := cz3 BK529
           obtain ⟨p28, q28, hx28⟩ := zxb a0_2 (ji25)
           go_wp2
           repeat (go_quiet (fail); try go_wp2)
           go_ret
           exact ⟨by first | rfl | (simp [errW_none, errW_some] <;> rfl) | (simp only [← hji25]; first | rfl | (simp [errW_none, errW_some] <;> rfl)) | (simp [*, errW_none, errW_some] <;> rfl), bel⟩
         ·
          obtain rfl := Option.some.inj H
          go_wp2
          repeat (go_quiet (fail); try go_wp2)
          go_ret
          exact ⟨er, bel⟩

end Go.Proofs.YtpcdfjcbjbkliaaGreat.E
