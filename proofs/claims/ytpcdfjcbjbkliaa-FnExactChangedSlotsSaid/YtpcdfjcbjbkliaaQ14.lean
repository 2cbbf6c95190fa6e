import Derived.Test.YtpcdfjcbjbkliaaSq
import Derived.Test.YtpcdfjcbjbkliaaQ0
import Derived.Test.YtpcdfjcbjbkliaaQ1
import Derived.Test.YtpcdfjcbjbkliaaQ12
import Derived.Test.YtpcdfjcbjbkliaaQ13
namespace Go.Proofs.Ytpcdfjcbjbkliaa.E
open Go.RowKit Go.Proofs.YtpcdfjcbjbkliaaW.PrintWords Go.Proofs.YtpcdfjcbjbkliaaW.PrintLast Go.Proofs.YtpcdfjcbjbkliaaW.PrintMore
attribute [local go_sem] max2_int min2_int max_two min_two max_three min_three max_four min_four
set_option linter.unusedVariables false
set_option linter.unusedSimpArgs false

attribute [local go_sem high] eqA30
/-! ### spec_ChangedSlots: function 7 -/
mutual
def spec_ChangedSlots.l0 : Nat → List Int → Int → Int → Int → ByteArray → ByteArray → List (S48) → Int → Int → Int → ByteArray → ByteArray → List (S48) → Int → Option (List Int)
 | 0, _, _, _, _, _, _, _, _, _, _, _, _, _, _ => none
 | k + 1, x5, x6, x312000, x312001, x312002, x312003, x312004, x312005, x313000, x313001, x313002, x313003, x313004, x313005 => if x6 < (x312004.length : Int) then ((spec_IsDraft.f k x312000 x312001 x312002 x312003 x312004 x312005).bind fun t316 => (if t316 = true then ((spec_IsDraft.f k x313000 x313001 x313002 x313003 x313004 x313005).bind fun t317 => (if t317 = true then (spec_ChangedSlots.j1 k x5 x6 (x312000 == x313000 && (x312001 == x313001 && (x312002.toList == x313002.toList))) x312000 x312001 x312002 x312003 x312004 x312005 x313000 x313001 x313002 x313003 x313004 x313005) else (spec_ChangedSlots.j1 k x5 x6 false x312000 x312001 x312002 x312003 x312004 x312005 x313000 x313001 x313002 x313003 x313004 x313005))) else (spec_ChangedSlots.j1 k x5 x6 false x312000 x312001 x312002 x312003 x312004 x312005 x313000 x313001 x313002 x313003 x313004 x313005))) else (spec_ChangedSlots.j1 k x5 x6 false x312000 x312001 x312002 x312003 x312004 x312005 x313000 x313001 x313002 x313003 x313004 x313005)
def spec_ChangedSlots.j1 : Nat → List Int → Int → Bool → Int → Int → ByteArray → ByteArray → List (S48) → Int → Int → Int → ByteArray → ByteArray → List (S48) → Int → Option (List Int)
 | 0, _, _, _, _, _, _, _, _, _, _, _, _, _, _, _ => none
 | k + 1, x5, x6, x27, x312000, x312001, x312002, x312003, x312004, x312005, x313000, x313001, x313002, x313003, x313004, x313005 => if x27 = true then ((spec_SlotPattern.f k x312000 x312001 x312002 x312003 x6).bind fun t318 => ((spec_SlotPattern.f k x313000 x313001 x313002 x313003 x6).bind fun t319 => (if t318.toList = t319.toList then (if 0 ≤ x6 then (if x6 < (x312004.length : Int) then (if x6 < (x313004.length : Int) then ((spec_l21SameClue.f k ((rd_T48 x312004 x6).f0) ((rd_T48 x312004 x6).f1) ((rd_T48 x313004 x6).f0) ((rd_T48 x313004 x6).f1)).bind fun t322 => (if t322 = true then (spec_ChangedSlots.l0 k x5 (wrap64 (x6 + 1)) x312000 x312001 x312002 x312003 x312004 x312005 x313000 x313001 x313002 x313003 x313004 x313005) else (if x5.length < 17592186044416 then (spec_ChangedSlots.l0 k (x5 ++ [x6]) (wrap64 (x6 + 1)) x312000 x312001 x312002 x312003 x312004 x312005 x313000 x313001 x313002 x313003 x313004 x313005) else (none)))) else (none)) else (none)) else (none)) else (if x5.length < 17592186044416 then (spec_ChangedSlots.l0 k (x5 ++ [x6]) (wrap64 (x6 + 1)) x312000 x312001 x312002 x312003 x312004 x312005 x313000 x313001 x313002 x313003 x313004 x313005) else (none))))) else (some x5)
end
def spec_ChangedSlots.f (k : Nat) (a0_0 : Int) (a0_1 : Int) (a0_2 : ByteArray) (a0_3 : ByteArray) (l0_4 : List (S48)) (a0_5 : Int) (a1_0 : Int) (a1_1 : Int) (a1_2 : ByteArray) (a1_3 : ByteArray) (l1_4 : List (S48)) (a1_5 : Int) : Option (List Int) := spec_ChangedSlots.l0 k (([] : List Int)) 0 a0_0 a0_1 a0_2 a0_3 l0_4 a0_5 a1_0 a1_1 a1_2 a1_3 l1_4 a1_5
def spec_ChangedSlots.T5 : Bool × List (List Nat × List Nat) := (true, [([], []), ([0], [0]), ([], []), ([2], [2]), ([], []), ([1, 3, 4], [1, 3, 4]), ([], []), ([6], [6]), ([], []), ([8], [8]), ([], []), ([7, 9, 10, 5], [7, 9, 10]), ([5, 11], [5, 11]), ([12, 11], [12]), ([13], [13]), ([14, 13], [13, 14]), ([13], [13]), ([15, 16, 13], [13, 15, 16]), ([17, 13], [13, 17]), ([13], [13]), ([19, 13], [13, 19]), ([13], [13]), ([20, 21, 13], [13, 20, 21]), ([22, 13], [13, 22]), ([18, 23, 13, 13], [13, 18, 23]), ([24, 13], [13, 24]), ([13, 25], [13, 25])])
theorem spec_ChangedSlots.tab5 : rtab .any (opsOf Try.f7 5) = spec_ChangedSlots.T5 := by kernel_rfl
set_option maxHeartbeats 8000000 in
set_option maxRecDepth 100000 in
theorem spec_ChangedSlots.calls (k : Nat) (a0_0 : Int) (a0_1 : Int) (a0_2 : ByteArray) (a0_3 : ByteArray) (A0_4 : Option Addr) (c0_4 : Nat) (l0_4 : List (S48)) (a0_5 : Int) (a1_0 : Int) (a1_1 : Int) (a1_2 : ByteArray) (a1_3 : ByteArray) (A1_4 : Option Addr) (c1_4 : Nat) (l1_4 : List (S48)) (a1_5 : Int) (r : List Int) (w : World) (hr0_4 : Kd.C k48 w A0_4 l0_4.length l0_4) (hc0_4 : l0_4.length ≤ c0_4) (hr1_4 : Kd.C k48 w A1_4 l1_4.length l1_4) (hc1_4 : l1_4.length ≤ c1_4) (H : spec_ChangedSlots.f k a0_0 a0_1 a0_2 a0_3 l0_4 a0_5 a1_0 a1_1 a1_2 a1_3 l1_4 a1_5 = some r) :
  Calls Try.prog 7 #[.agg #[.int .i64 a0_0, .int .i64 a0_1, .string a0_2, .string a0_3, .slice A0_4 l0_4.length c0_4, .int .i64 a0_5], .agg #[.int .i64 a1_0, .int .i64 a1_1, .string a1_2, .string a1_3, .slice A1_4 l1_4.length c1_4, .int .i64 a1_5]] w fun e w' => ∃ v0_ : Value, e = .returned (v0_) ∧ Kd.R (Kd.int .i64) 3 w' w.heap.size (fun _ => True) v0_ r ∧ Below w.heap.size w w' := by
 have hu33 := Try.underlying33
 have hu30 := Try.underlying30
 have hu48 := Try.underlying48
 have HR0_4 := Aside0.mk hr0_4
 have HC0_4 := Aside0.mk hc0_4
 clear hr0_4 hc0_4
 have HR1_4 := Aside0.mk hr1_4
 have HC1_4 := Aside0.mk hc1_4
 clear hr1_4 hc1_4
 have HB := Aside0.mk (Below.refl w.heap.size w)
 unfold spec_ChangedSlots.f at H
 generalize hy313 : (([] : List Int) : List Int) = y313 at H
 have Ny313 := Aside0.mk hy313.symm
 clear hy313
 have H' := Aside0.mk H
 clear H
 go_enter Try.func7, Try.ntmps7
 go_wp2_with (first | ((with_reducible refine zd 2 rfl ?_); refine zbx (w := w) #[.int .i64 a0_0, .int .i64 a0_1, .string a0_2, .string a0_3, .slice A0_4 l0_4.length c0_4, .int .i64 a0_5] 33 ?_; intro gb311 hg w3 BK311 hb; have GW311 := zg (w := w) hg; replace HB := zB hb; clear hb hg) | ((with_reducible refine zd 3 rfl ?_); refine zbx (w := w) #[.int .i64 a1_0, .int .i64 a1_1, .string a1_2, .string a1_3, .slice A1_4 l1_4.length c1_4, .int .i64 a1_5] 33 ?_; intro gb312 hg w4 BK312 hb; have GW312 := zg (w := w) hg; replace HB := zB hb; have NB311_312 := zn hg BK311; have NB312_311 := zm hg BK311; replace BK311 := zk BK311 hb; clear hb hg) | ((with_reducible refine gate_dst (N := 7) rfl ?_); refine Kd.R_lit (Kd.int .i64) _ 3 ?hg (N := 7) ?hd (xs := ([] : List Int)) (inner := []) (ok := fun _ => True) (okp := fun _ => True) ?hr ?hp (fun _ hk => hk) trivial (Below.refl _ _) (Nat.le_refl _) (by simp) ?_; (case hd => rfl); (case hg => rfl); (case hr => first | (go_simp; done) | (go_simp; rfl)); (case hp => exact (Reps.none _ _)); intro v314 w5 ho6 hb hg_ hnew_; clear hg_ hnew_; (first | rw [← Ny313.out] at ho6 | (simp only [Int.reduceToNat] at ho6; rw [← Ny313.out] at ho6)); have HO315 := zl2 ho6; replace BK311 := zk BK311 hb; replace BK312 := zk BK312 hb; replace HB := zB hb; clear hb ho6))
 go_loopg [5, 6] k (fun kq v5 v6 w' => ∃ (x5_1 : List Int) (x6_1 : Int), v6 = .int .i64 x6_1 ∧ Aside0 (spec_ChangedSlots.l0 kq x5_1 x6_1 a0_0 a0_1 a0_2 a0_3 l0_4 a0_5 a1_0 a1_1 a1_2 a1_3 l1_4 a1_5 = some r) ∧ Aside0 (kq ≤ k) ∧ Aside0 (Kd.R (Kd.int .i64) 3 w' w.heap.size (fun _ => True) v5 x5_1) ∧ Aside0 (w'.heap[gb311]? = some (.cells #[.int .i64 a0_0, .int .i64 a0_1, .string a0_2, .string a0_3, (.slice A0_4 l0_4.length c0_4), .int .i64 a0_5] 33 (0, 0))) ∧ Aside0 (w'.heap[gb312]? = some (.cells #[.int .i64 a1_0, .int .i64 a1_1, .string a1_2, .string a1_3, (.slice A1_4 l1_4.length c1_4), .int .i64 a1_5] 33 (0, 0))) ∧ Aside0 (Below w.heap.size w w'))
 case atStart => exact ⟨(y313), (0), rf, H', ⟨Nat.le_refl _⟩, ⟨kr HO315⟩, ⟨bk BK311⟩, ⟨bk BK312⟩, ⟨bel⟩⟩
 case round =>
  clear H'
  obtain ⟨x5_1, x6_1, rfl, HA, HK1, HO_5, BK311, BK312, HB⟩ := hrel
  cases gk with
  | zero => exact absurd HA.out (by simp [spec_ChangedSlots.l0])
  | succ k1 =>
   have H := HA.out
   clear HA
   simp only [spec_ChangedSlots.l0] at H
   have HC7 := Aside0.mk H
   clear H
   go_upto_region 3 with (fail)
   go_cut [27] (fun v27 wc => ∃ (kq : Nat) (x27_6 : Bool), v27 = .bool x27_6 ∧ Aside0 (spec_ChangedSlots.j1 kq x5_1 x6_1 x27_6 a0_0 a0_1 a0_2 a0_3 l0_4 a0_5 a1_0 a1_1 a1_2 a1_3 l1_4 a1_5 = some r) ∧ Aside0 (kq ≤ k1) ∧ Aside0 (Kd.R (Kd.int .i64) 3 wc w.heap.size (fun _ => True) u5 x5_1) ∧ Aside0 (wc.heap[gb311]? = some (.cells #[.int .i64 a0_0, .int .i64 a0_1, .string a0_2, .string a0_3, (.slice A0_4 l0_4.length c0_4), .int .i64 a0_5] 33 (0, 0))) ∧ Aside0 (wc.heap[gb312]? = some (.cells #[.int .i64 a1_0, .int .i64 a1_1, .string a1_2, .string a1_3, (.slice A1_4 l1_4.length c1_4), .int .i64 a1_5] 33 (0, 0))) ∧ Aside0 (Below w.heap.size w wc))
   case first =>
    have H := HC7.out
    clear HC7
    replace H := zc H
    rcases H with ⟨c8b0, H⟩ | ⟨c8b0, H⟩
    ·
     (first | rw [c8b0] | (simp only [i64_w, i32_w]; rw [c8b0]) | skip)
     replace H := zs H
     obtain ⟨t316, A9, H⟩ := H
     replace H := zb H
     rcases H with ⟨rfl, H⟩ | ⟨rfl, H⟩
     ·
      replace H := zs H
      obtain ⟨t317, A11, H⟩ := H
      replace H := zb H
      rcases H with ⟨rfl, H⟩ | ⟨rfl, H⟩
      ·
       have H' := Aside0.mk H
       clear H
       have hnb13 := NB311_312.out
       have hnc13 := NB312_311.out
       have ⟨_, _, _, _, _, _, _, _, _, _, _, _⟩ := cz6 BK311
       go_wp2_with (first | (go_at_call 26; (with_reducible refine (spec_IsDraft.calls k1 a0_0 a0_1 a0_2 a0_3 _ _ l0_4 a0_5 true _ ?side1 ?side2 A9.out).mono ?_); (case side1 => repeat (first | exact (Kd.C_below HR0_4.out HB.out) | (with_reducible refine Kd.C_alloc ?_ _) | (with_reducible refine Kd.C_drewN ?_ _) | (with_reducible refine Kd.C_drew ?_))); (case side2 => exact HC0_4.out); rintro e w15 ⟨rfl, hb⟩; replace HO_5 := zR HO_5 hb; replace BK311 := zk BK311 hb; replace BK312 := zk BK312 hb; replace HB := zB hb; have ⟨_, _, _, _, _, _, _, _, _, _, _, _⟩ := cz6 BK312) | (go_at_call 26; (with_reducible refine (spec_IsDraft.calls k1 a1_0 a1_1 a1_2 a1_3 _ _ l1_4 a1_5 true _ ?side1 ?side2 A11.out).mono ?_); (case side1 => repeat (first | exact (Kd.C_below HR1_4.out HB.out) | (with_reducible refine Kd.C_alloc ?_ _) | (with_reducible refine Kd.C_drewN ?_ _) | (with_reducible refine Kd.C_drew ?_))); (case side2 => exact HC1_4.out); rintro e w17 ⟨rfl, hb⟩; replace HO_5 := zR HO_5 hb; replace BK311 := zk BK311 hb; replace BK312 := zk BK312 hb; replace HB := zB hb; have ⟨_, _, _, _, _, _, _, _, _, _, _, _⟩ := cz6 BK311; have ⟨_, _, _, _, _, _, _, _, _, _, _, _⟩ := cz6 BK312))
       go_meet
       case rel => exact ⟨_, ((a0_0 == a1_0 && (a0_1 == a1_1 && (a0_2.toList == a1_2.toList)))), rf, H', ⟨by have := HK1.out; first | omega | exact Nat.le_refl _⟩, ⟨kr HO_5⟩, ⟨bk BK311⟩, ⟨bk BK312⟩, ⟨bel⟩⟩
      ·
       have H' := Aside0.mk H
       clear H
       have hnb20 := NB311_312.out
       have hnc20 := NB312_311.out
       have ⟨_, _, _, _, _, _, _, _, _, _, _, _⟩ := cz6 BK311
       go_wp2_with (first | (go_at_call 26; (with_reducible refine (spec_IsDraft.calls k1 a0_0 a0_1 a0_2 a0_3 _ _ l0_4 a0_5 true _ ?side1 ?side2 A9.out).mono ?_); (case side1 => repeat (first | exact (Kd.C_below HR0_4.out HB.out) | (with_reducible refine Kd.C_alloc ?_ _) | (with_reducible refine Kd.C_drewN ?_ _) | (with_reducible refine Kd.C_drew ?_))); (case side2 => exact HC0_4.out); rintro e w22 ⟨rfl, hb⟩; replace HO_5 := zR HO_5 hb; replace BK311 := zk BK311 hb; replace BK312 := zk BK312 hb; replace HB := zB hb; have ⟨_, _, _, _, _, _, _, _, _, _, _, _⟩ := cz6 BK312) | (go_at_call 26; (with_reducible refine (spec_IsDraft.calls k1 a1_0 a1_1 a1_2 a1_3 _ _ l1_4 a1_5 false _ ?side1 ?side2 A11.out).mono ?_); (case side1 => repeat (first | exact (Kd.C_below HR1_4.out HB.out) | (with_reducible refine Kd.C_alloc ?_ _) | (with_reducible refine Kd.C_drewN ?_ _) | (with_reducible refine Kd.C_drew ?_))); (case side2 => exact HC1_4.out); rintro e w24 ⟨rfl, hb⟩; replace HO_5 := zR HO_5 hb; replace BK311 := zk BK311 hb; replace BK312 := zk BK312 hb; replace HB := zB hb))
       go_meet
       case rel => exact ⟨_, (false), rf, H', ⟨by have := HK1.out; first | omega | exact Nat.le_refl _⟩, ⟨kr HO_5⟩, ⟨bk BK311⟩, ⟨bk BK312⟩, ⟨bel⟩⟩
     ·
      have H' := Aside0.mk H
      clear H
      have hnb25 := NB311_312.out
      have hnc25 := NB312_311.out
      have ⟨_, _, _, _, _, _, _, _, _, _, _, _⟩ := cz6 BK311
      go_wp2_with (first | (go_at_call 26; (with_reducible refine (spec_IsDraft.calls k1 a0_0 a0_1 a0_2 a0_3 _ _ l0_4 a0_5 false _ ?side1 ?side2 A9.out).mono ?_); (case side1 => repeat (first | exact (Kd.C_below HR0_4.out HB.out) | (with_reducible refine Kd.C_alloc ?_ _) | (with_reducible refine Kd.C_drewN ?_ _) | (with_reducible refine Kd.C_drew ?_))); (case side2 => exact HC0_4.out); rintro e w27 ⟨rfl, hb⟩; replace HO_5 := zR HO_5 hb; replace BK311 := zk BK311 hb; replace BK312 := zk BK312 hb; replace HB := zB hb))
      go_meet
      case rel => exact ⟨_, (false), rf, H', ⟨by have := HK1.out; first | omega | exact Nat.le_refl _⟩, ⟨kr HO_5⟩, ⟨bk BK311⟩, ⟨bk BK312⟩, ⟨bel⟩⟩
    ·
     (first | rw [c8b0] | (simp only [i64_w, i32_w]; rw [c8b0]) | skip)
     have H' := Aside0.mk H
     clear H
     have hnb28 := NB311_312.out
     have hnc28 := NB312_311.out
     have ⟨_, _, _, _, _, _, _, _, _, _, _, _⟩ := cz6 BK311
     go_wp2
     go_meet
     case rel => exact ⟨_, (false), rf, H', ⟨by have := HK1.out; first | omega | exact Nat.le_refl _⟩, ⟨kr HO_5⟩, ⟨bk BK311⟩, ⟨bk BK312⟩, ⟨bel⟩⟩
   case rest =>
    clear HC7
    obtain ⟨kq, x27_6, rfl, HA, HJ6, HO_5, BK311, BK312, HB⟩ := hcut
    cases kq with
    | zero => exact absurd HA.out (by simp [spec_ChangedSlots.j1])
    | succ kj6 =>
     have H := HA.out
     clear HA
     simp only [spec_ChangedSlots.j1] at H
     replace H := zb H
     rcases H with ⟨rfl, H⟩ | ⟨rfl, H⟩
     ·
      replace H := zs H
      obtain ⟨t318, A31, H⟩ := H
      replace H := zs H
      obtain ⟨t319, A32, H⟩ := H
      by_cases c33 : t318.toList = t319.toList
      ·
       rw [if_pos c33] at H
       have c33b0 : (t318.toList == t319.toList) = true := beq_iff_eq.mpr c33
       have c33b1 : (t318.toList != t319.toList) = false := bne_eq_false_iff_eq.mpr c33
       clear c33
       replace H := zr H
       obtain ⟨c34b0, H⟩ := H
       replace H := zr H
       obtain ⟨c35b0, H⟩ := H
       replace H := zr H
       obtain ⟨c36b0, H⟩ := H
       replace H := zs H
       obtain ⟨t322, A37, H⟩ := H
       replace H := zb H
       rcases H with ⟨rfl, H⟩ | ⟨rfl, H⟩
       ·
        have H' := Aside0.mk H
        clear H
        try go_wp2
        replace HO_5 := zRd HO_5
        replace BK311 := zkd BK311
        replace BK312 := zkd BK312
        replace HB := zBd HB
        obtain ⟨p320, q320, ad320, A320_1, c320_1, e320, hx320_0, hx320_1, hl320_1, hi320_1⟩ := zx (at_T48 HR0_4.out x6_1)
        have hw320_1 := hx320_1
        have hw320_0 := hx320_0
        cases e320
        replace hx320_0 := zh HB hx320_0
        replace hx320_1 := zh HB hx320_1
        have HR320_1 := Aside0.mk hi320_1
        have HC320_1 := Aside0.mk hl320_1
        clear hi320_1 hl320_1
        obtain ⟨p321, q321, ad321, A321_1, c321_1, e321, hx321_0, hx321_1, hl321_1, hi321_1⟩ := zx (at_T48 HR1_4.out x6_1)
        have hw321_1 := hx321_1
        have hw321_0 := hx321_0
        cases e321
        replace hx321_0 := zh HB hx321_0
        replace hx321_1 := zh HB hx321_1
        have HR321_1 := Aside0.mk hi321_1
        have HC321_1 := Aside0.mk hl321_1
        clear hi321_1 hl321_1
        refine zst 27 spec_ChangedSlots.tab5 (zb6 BK311 <| zb6 BK312 <| zhc (((HB.out.cell (World.block_lt_of_cell? w _ hw320_0)).trans hw320_0)) <| zhc (((HB.out.cell (World.block_lt_of_cell? w _ hw320_1)).trans hw320_1)) <| zhc (((HB.out.cell (World.block_lt_of_cell? w _ hw321_0)).trans hw321_0)) <| zhc (((HB.out.cell (World.block_lt_of_cell? w _ hw321_1)).trans hw321_1)) <| zn0) fun hHeld HT_ => ?_
        generalize wc.drew = w39 at HO_5 BK311 BK312 HB HR320_1 HR321_1 hx320_0 hx320_1 hx321_0 hx321_1 hHeld ⊢
        repeat (first | refine zs1 ?_ | (refine zcl Try.func27 (spec_SlotPattern.calls kj6 a0_0 a0_1 a0_2 a0_3 x6_1 t318 _ A31.out) ?_; rintro e w40 ⟨rfl, hb⟩; replace HO_5 := zR HO_5 hb; replace BK311 := zk BK311 hb; replace BK312 := zk BK312 hb; replace HB := zB hb; refine ⟨_, rfl, zHb hb hHeld, _, znb, fun hHeld => ?_⟩) | (refine zcl Try.func27 (spec_SlotPattern.calls kj6 a1_0 a1_1 a1_2 a1_3 x6_1 t319 _ A32.out) ?_; rintro e w41 ⟨rfl, hb⟩; replace HO_5 := zR HO_5 hb; replace BK311 := zk BK311 hb; replace BK312 := zk BK312 hb; replace HB := zB hb; refine ⟨_, rfl, zHb hb hHeld, _, znb, fun hHeld => ?_⟩) | (refine zcl Try.func28 (spec_l21SameClue.calls kj6 ((rd_T48 l0_4 x6_1).f0) _ _ ((rd_T48 l0_4 x6_1).f1) ((rd_T48 l1_4 x6_1).f0) _ _ ((rd_T48 l1_4 x6_1).f1) true _ (zC HR320_1) HC320_1.out (zC HR321_1) HC321_1.out A37.out) ?_; rintro e w42 ⟨rfl, hb⟩; replace HO_5 := zR HO_5 hb; replace BK311 := zk BK311 hb; replace BK312 := zk BK312 hb; replace HB := zB hb; refine ⟨_, rfl, zHb hb hHeld, _, znb, fun hHeld => ?_⟩))
        refine zdn ?_
        try go_wp2
        go_roundg kj6
        case measure => have := HK1.out; have := HJ6.out; omega
        case rel => exact ⟨(x5_1), (wrap64 (x6_1 + 1)), rf, H', ⟨by have := HK1.out; have := HJ6.out; omega⟩, ⟨kr HO_5⟩, ⟨bk BK311⟩, ⟨bk BK312⟩, ⟨bel⟩⟩
       ·
        replace H := zl H
        obtain ⟨LMc43, H⟩ := H
        generalize hy323 : (x5_1 ++ [x6_1] : List Int) = y323 at H
        have Ny323 := Aside0.mk hy323.symm
        clear hy323
        have H' := Aside0.mk H
        clear H
        try go_wp2
        replace HO_5 := zRd HO_5
        replace BK311 := zkd BK311
        replace BK312 := zkd BK312
        replace HB := zBd HB
        obtain ⟨p320, q320, ad320, A320_1, c320_1, e320, hx320_0, hx320_1, hl320_1, hi320_1⟩ := zx (at_T48 HR0_4.out x6_1)
        have hw320_1 := hx320_1
        have hw320_0 := hx320_0
        cases e320
        replace hx320_0 := zh HB hx320_0
        replace hx320_1 := zh HB hx320_1
        have HR320_1 := Aside0.mk hi320_1
        have HC320_1 := Aside0.mk hl320_1
        clear hi320_1 hl320_1
        obtain ⟨p321, q321, ad321, A321_1, c321_1, e321, hx321_0, hx321_1, hl321_1, hi321_1⟩ := zx (at_T48 HR1_4.out x6_1)
        have hw321_1 := hx321_1
        have hw321_0 := hx321_0
        cases e321
        replace hx321_0 := zh HB hx321_0
        replace hx321_1 := zh HB hx321_1
        have HR321_1 := Aside0.mk hi321_1
        have HC321_1 := Aside0.mk hl321_1
        clear hi321_1 hl321_1
        refine zst 27 spec_ChangedSlots.tab5 (zb6 BK311 <| zb6 BK312 <| zhc (((HB.out.cell (World.block_lt_of_cell? w _ hw320_0)).trans hw320_0)) <| zhc (((HB.out.cell (World.block_lt_of_cell? w _ hw320_1)).trans hw320_1)) <| zhc (((HB.out.cell (World.block_lt_of_cell? w _ hw321_0)).trans hw321_0)) <| zhc (((HB.out.cell (World.block_lt_of_cell? w _ hw321_1)).trans hw321_1)) <| zn0) fun hHeld HT_ => ?_
        generalize wc.drew = w44 at HO_5 BK311 BK312 HB HR320_1 HR321_1 hx320_0 hx320_1 hx321_0 hx321_1 hHeld ⊢
        repeat (first | refine zs1 ?_ | (refine zcl Try.func27 (spec_SlotPattern.calls kj6 a0_0 a0_1 a0_2 a0_3 x6_1 t318 _ A31.out) ?_; rintro e w45 ⟨rfl, hb⟩; replace HO_5 := zR HO_5 hb; replace BK311 := zk BK311 hb; replace BK312 := zk BK312 hb; replace HB := zB hb; refine ⟨_, rfl, zHb hb hHeld, _, znb, fun hHeld => ?_⟩) | (refine zcl Try.func27 (spec_SlotPattern.calls kj6 a1_0 a1_1 a1_2 a1_3 x6_1 t319 _ A32.out) ?_; rintro e w46 ⟨rfl, hb⟩; replace HO_5 := zR HO_5 hb; replace BK311 := zk BK311 hb; replace BK312 := zk BK312 hb; replace HB := zB hb; refine ⟨_, rfl, zHb hb hHeld, _, znb, fun hHeld => ?_⟩) | (refine zcl Try.func28 (spec_l21SameClue.calls kj6 ((rd_T48 l0_4 x6_1).f0) _ _ ((rd_T48 l0_4 x6_1).f1) ((rd_T48 l1_4 x6_1).f0) _ _ ((rd_T48 l1_4 x6_1).f1) false _ (zC HR320_1) HC320_1.out (zC HR321_1) HC321_1.out A37.out) ?_; rintro e w47 ⟨rfl, hb⟩; replace HO_5 := zR HO_5 hb; replace BK311 := zk BK311 hb; replace BK312 := zk BK312 hb; replace HB := zB hb; refine ⟨_, rfl, zHb hb hHeld, _, znb, fun hHeld => ?_⟩))
        refine zdn ?_
        try go_wp2_with (first | ((with_reducible refine gate_builtin (b := .append) (xs := #[.tmp 57, .tmp 59]) rfl ?_); at_builtin; refine Kd.R_append (Kd.int .i64) (w0 := w) w.heap.size rfl (.tmp 57) (.tmp 59) 28 3 (.int .i64 0) 8 rfl Try.underlying28 info3 rfl (by decide) (by omega) u5 x5_1 x6_1 [.int .i64 x6_1] (fun _ => True) (fun _ => False) rfl rfl ?aP (fun _ hk => hk.elim) ?aF ?aO ?aB ?aS ?aL ?_; (case aP => exact rfl); (case aB => exact bel); (case aF => exact (fun _ _ => trivial)); (case aO => exact (kr HO_5)); (case aS => exact bsz); (case aL => have := LMc43.out; omega); intro v324 w48 ho hb hg hat; rw [← Ny323.out] at ho; replace BK311 := Aside0.mk (blk_grown (bk BK311) hg (Kd.R_ne HO_5.out BK311.out (by decide))); replace BK312 := Aside0.mk (blk_grown (bk BK312) hg (Kd.R_ne HO_5.out BK312.out (by decide))); replace HB := Aside0.mk hb; have HO325 := Aside0.mk ho; clear HO_5; clear ho hb hg hat))
        go_roundg kj6
        case measure => have := HK1.out; have := HJ6.out; omega
        case rel => exact ⟨(y323), (wrap64 (x6_1 + 1)), rf, H', ⟨by have := HK1.out; have := HJ6.out; omega⟩, ⟨kr HO325⟩, ⟨bk BK311⟩, ⟨bk BK312⟩, ⟨bel⟩⟩
      ·
       rw [if_neg c33] at H
       have c33b0 : (t318.toList == t319.toList) = false := beq_eq_false_iff_ne.mpr c33
       have c33b1 : (t318.toList != t319.toList) = true := bne_iff_ne.mpr c33
       replace H := zl H
       obtain ⟨LMc49, H⟩ := H
       generalize hy326 : (x5_1 ++ [x6_1] : List Int) = y326 at H
       have Ny326 := Aside0.mk hy326.symm
       clear hy326
       have H' := Aside0.mk H
       clear H
       try go_wp2
       replace HO_5 := zRd HO_5
       replace BK311 := zkd BK311
       replace BK312 := zkd BK312
       replace HB := zBd HB
       refine zst 27 spec_ChangedSlots.tab5 (zb6 BK311 <| zb6 BK312 <| zn0) fun hHeld HT_ => ?_
       generalize wc.drew = w50 at HO_5 BK311 BK312 HB hHeld ⊢
       repeat (first | refine zs1 ?_ | (refine zcl Try.func27 (spec_SlotPattern.calls kj6 a0_0 a0_1 a0_2 a0_3 x6_1 t318 _ A31.out) ?_; rintro e w51 ⟨rfl, hb⟩; replace HO_5 := zR HO_5 hb; replace BK311 := zk BK311 hb; replace BK312 := zk BK312 hb; replace HB := zB hb; refine ⟨_, rfl, zHb hb hHeld, _, znb, fun hHeld => ?_⟩) | (refine zcl Try.func27 (spec_SlotPattern.calls kj6 a1_0 a1_1 a1_2 a1_3 x6_1 t319 _ A32.out) ?_; rintro e w52 ⟨rfl, hb⟩; replace HO_5 := zR HO_5 hb; replace BK311 := zk BK311 hb; replace BK312 := zk BK312 hb; replace HB := zB hb; refine ⟨_, rfl, zHb hb hHeld, _, znb, fun hHeld => ?_⟩))
       refine zdn ?_
       try go_wp2_with (first | ((with_reducible refine gate_builtin (b := .append) (xs := #[.tmp 57, .tmp 59]) rfl ?_); at_builtin; refine Kd.R_append (Kd.int .i64) (w0 := w) w.heap.size rfl (.tmp 57) (.tmp 59) 28 3 (.int .i64 0) 8 rfl Try.underlying28 info3 rfl (by decide) (by omega) u5 x5_1 x6_1 [.int .i64 x6_1] (fun _ => True) (fun _ => False) rfl rfl ?aP (fun _ hk => hk.elim) ?aF ?aO ?aB ?aS ?aL ?_; (case aP => exact rfl); (case aB => exact bel); (case aF => exact (fun _ _ => trivial)); (case aO => exact (kr HO_5)); (case aS => exact bsz); (case aL => have := LMc49.out; omega); intro v327 w53 ho hb hg hat; rw [← Ny326.out] at ho; replace BK311 := Aside0.mk (blk_grown (bk BK311) hg (Kd.R_ne HO_5.out BK311.out (by decide))); replace BK312 := Aside0.mk (blk_grown (bk BK312) hg (Kd.R_ne HO_5.out BK312.out (by decide))); replace HB := Aside0.mk hb; have HO328 := Aside0.mk ho; clear HO_5; clear ho hb hg hat))
       go_roundg kj6
       case measure => have := HK1.out; have := HJ6.out; omega
       case rel => exact ⟨(y326), (wrap64 (x6_1 + 1)), rf, H', ⟨by have := HK1.out; have := HJ6.out; omega⟩, ⟨kr HO328⟩, ⟨bk BK311⟩, ⟨bk BK312⟩, ⟨bel⟩⟩
     ·
      obtain rfl := Option.some.inj H
      go_wp2
      go_ret
      exact ⟨_, er, kr HO_5, bel⟩

/-! ### laws_toGrid: function 29 -/
def laws_toGrid.f (a0_0 : Int) (a0_1 : Int) (a0_2 : ByteArray) : Option (Int × Int × ByteArray) := some (a0_0, a0_1, a0_2)
set_option maxHeartbeats 8000000 in
set_option maxRecDepth 100000 in
theorem laws_toGrid.calls (a0_0 : Int) (a0_1 : Int) (a0_2 : ByteArray) (r1 : Int) (r2 : Int) (r3 : ByteArray) (w : World) (H : laws_toGrid.f a0_0 a0_1 a0_2 = some (r1, r2, r3)) :
  Calls Try.prog 29 #[.agg #[.int .i64 a0_0, .int .i64 a0_1, .string a0_2]] w fun e w' => e = .returned (.agg #[.int .i64 r1, .int .i64 r2, .string r3]) ∧ Below w.heap.size w w' := by
 have hu23 := Try.underlying23
 have hu30 := Try.underlying30
 have HB := Aside0.mk (Below.refl w.heap.size w)
 unfold laws_toGrid.f at H
 simp only [Option.some.injEq, Prod.mk.injEq] at H
 obtain ⟨rfl, rfl, rfl⟩ := H
 go_enter Try.func29, Try.ntmps29
 go_wp2_with (first | ((with_reducible refine zd 1 rfl ?_); refine zbx (w := w) #[.int .i64 a0_0, .int .i64 a0_1, .string a0_2] 23 ?_; intro gb329 hg w2 BK329 hb; have GW329 := zg (w := w) hg; replace HB := zB hb; clear hb hg) | ((with_reducible refine zd 2 rfl ?_); refine zbx (w := w) #[.int .i64 0, .int .i64 0, .string (⟨#[]⟩ : ByteArray)] 30 ?_; intro gb330 hg w3 BK330 hb; have GW330 := zg (w := w) hg; replace HB := zB hb; have NB329_330 := zn hg BK329; have NB330_329 := zm hg BK329; replace BK329 := zk BK329 hb; clear hb hg) | ((with_reducible refine zd 3 rfl ?_); refine zbx (w := w) #[.int .i64 0, .int .i64 0, .string (⟨#[]⟩ : ByteArray)] 30 ?_; intro gb331 hg w4 BK331 hb; have GW331 := zg (w := w) hg; replace HB := zB hb; have NB329_331 := zn hg BK329; have NB331_329 := zm hg BK329; replace BK329 := zk BK329 hb; have NB330_331 := zn hg BK330; have NB331_330 := zm hg BK330; replace BK330 := zk BK330 hb; clear hb hg; have hnb5 := NB329_330.out; have hnc5 := NB330_329.out; have hnb6 := NB329_331.out; have hnc6 := NB331_329.out; have ⟨_, _, _, _, _, _⟩ := cz3 BK329; have hnb8 := NB331_330.out; have hnc8 := NB330_331.out; have ⟨_, _, _, _, _, _⟩ := cz3 BK331; have ⟨_, _, _, _, _, _⟩ := cz3 BK330))
 refine bodyPost_ret (results_cell_row rfl _ _ gb330 30 #[.int .i64 a0_0, .int .i64 a0_1, .string a0_2] (0, 0) _ rfl (by (with_reducible repeat (first | refine blk_drewN ?_ _ | refine blk_drew ?_ | refine blk_alloc ?_ _)); refine blk_put (cs := #[.int .i64 a0_0, .int .i64 a0_1, .string (⟨#[]⟩ : ByteArray)]) ?_ 2 _ rfl; (with_reducible repeat (first | refine blk_drewN ?_ _ | refine blk_drew ?_ | refine blk_alloc ?_ _)); refine blk_put (cs := #[.int .i64 a0_0, .int .i64 0, .string (⟨#[]⟩ : ByteArray)]) ?_ 1 _ rfl; (with_reducible repeat (first | refine blk_drewN ?_ _ | refine blk_drew ?_ | refine blk_alloc ?_ _)); refine blk_put (cs := #[.int .i64 0, .int .i64 0, .string (⟨#[]⟩ : ByteArray)]) ?_ 0 _ rfl; (with_reducible repeat (first | refine blk_drewN ?_ _ | refine blk_drew ?_ | refine blk_alloc ?_ _)); refine blk_far ?_ NB330_331.out _; (with_reducible repeat (first | refine blk_drewN ?_ _ | refine blk_drew ?_ | refine blk_alloc ?_ _)); refine blk_far ?_ NB330_331.out _; (with_reducible repeat (first | refine blk_drewN ?_ _ | refine blk_drew ?_ | refine blk_alloc ?_ _)); refine blk_far ?_ NB330_331.out _; (with_reducible repeat (first | refine blk_drewN ?_ _ | refine blk_drew ?_ | refine blk_alloc ?_ _)); exact BK330.out) Try.underlying30 rfl (by kernel_rfl)) rfl ?_
 exact ⟨er, bel⟩

/-! ### laws_toStep: function 70 -/
def laws_toStep.f (a0_0 : Int) (a0_1 : ByteArray) (a0_2 : Int) (a0_3 : Int) : Option (Int × ByteArray × Int × Int) := some (a0_0, a0_1, a0_2, a0_3)
set_option maxHeartbeats 8000000 in
set_option maxRecDepth 100000 in
theorem laws_toStep.calls (a0_0 : Int) (a0_1 : ByteArray) (a0_2 : Int) (a0_3 : Int) (r1 : Int) (r2 : ByteArray) (r3 : Int) (r4 : Int) (w : World) (H : laws_toStep.f a0_0 a0_1 a0_2 a0_3 = some (r1, r2, r3, r4)) :
  Calls Try.prog 70 #[.agg #[.int .i64 a0_0, .string a0_1, .int .i64 a0_2, .int .i64 a0_3]] w fun e w' => e = .returned (.agg #[.int .i64 r1, .string r2, .int .i64 r3, .int .i64 r4]) ∧ Below w.heap.size w w' := by
 have hu91 := Try.underlying91
 have hu87 := Try.underlying87
 have HB := Aside0.mk (Below.refl w.heap.size w)
 unfold laws_toStep.f at H
 simp only [Option.some.injEq, Prod.mk.injEq] at H
 obtain ⟨rfl, rfl, rfl, rfl⟩ := H
 go_enter Try.func70, Try.ntmps70
 go_wp2_with (first | ((with_reducible refine zd 1 rfl ?_); refine zbx (w := w) #[.int .i64 a0_0, .string a0_1, .int .i64 a0_2, .int .i64 a0_3] 91 ?_; intro gb332 hg w2 BK332 hb; have GW332 := zg (w := w) hg; replace HB := zB hb; clear hb hg) | ((with_reducible refine zd 2 rfl ?_); refine zbx (w := w) #[.int .i64 0, .string (⟨#[]⟩ : ByteArray), .int .i64 0, .int .i64 0] 87 ?_; intro gb333 hg w3 BK333 hb; have GW333 := zg (w := w) hg; replace HB := zB hb; have NB332_333 := zn hg BK332; have NB333_332 := zm hg BK332; replace BK332 := zk BK332 hb; clear hb hg) | ((with_reducible refine zd 3 rfl ?_); refine zbx (w := w) #[.int .i64 0, .string (⟨#[]⟩ : ByteArray), .int .i64 0, .int .i64 0] 87 ?_; intro gb334 hg w4 BK334 hb; have GW334 := zg (w := w) hg; replace HB := zB hb; have NB332_334 := zn hg BK332; have NB334_332 := zm hg BK332; replace BK332 := zk BK332 hb; have NB333_334 := zn hg BK333; have NB334_333 := zm hg BK333; replace BK333 := zk BK333 hb; clear hb hg; have hnb5 := NB332_333.out; have hnc5 := NB333_332.out; have hnb6 := NB332_334.out; have hnc6 := NB334_332.out; have ⟨_, _, _, _, _, _, _, _⟩ := cz4 BK332; have hnb8 := NB334_333.out; have hnc8 := NB333_334.out; have ⟨_, _, _, _, _, _, _, _⟩ := cz4 BK334; have ⟨_, _, _, _, _, _, _, _⟩ := cz4 BK333))
 refine bodyPost_ret (results_cell_row rfl _ _ gb333 87 #[.int .i64 a0_0, .string a0_1, .int .i64 a0_2, .int .i64 a0_3] (0, 0) _ rfl (by (with_reducible repeat (first | refine blk_drewN ?_ _ | refine blk_drew ?_ | refine blk_alloc ?_ _)); refine blk_put (cs := #[.int .i64 a0_0, .string a0_1, .int .i64 a0_2, .int .i64 0]) ?_ 3 _ rfl; (with_reducible repeat (first | refine blk_drewN ?_ _ | refine blk_drew ?_ | refine blk_alloc ?_ _)); refine blk_put (cs := #[.int .i64 a0_0, .string a0_1, .int .i64 0, .int .i64 0]) ?_ 2 _ rfl; (with_reducible repeat (first | refine blk_drewN ?_ _ | refine blk_drew ?_ | refine blk_alloc ?_ _)); refine blk_put (cs := #[.int .i64 a0_0, .string (⟨#[]⟩ : ByteArray), .int .i64 0, .int .i64 0]) ?_ 1 _ rfl; (with_reducible repeat (first | refine blk_drewN ?_ _ | refine blk_drew ?_ | refine blk_alloc ?_ _)); refine blk_put (cs := #[.int .i64 0, .string (⟨#[]⟩ : ByteArray), .int .i64 0, .int .i64 0]) ?_ 0 _ rfl; (with_reducible repeat (first | refine blk_drewN ?_ _ | refine blk_drew ?_ | refine blk_alloc ?_ _)); refine blk_far ?_ NB333_334.out _; (with_reducible repeat (first | refine blk_drewN ?_ _ | refine blk_drew ?_ | refine blk_alloc ?_ _)); refine blk_far ?_ NB333_334.out _; (with_reducible repeat (first | refine blk_drewN ?_ _ | refine blk_drew ?_ | refine blk_alloc ?_ _)); refine blk_far ?_ NB333_334.out _; (with_reducible repeat (first | refine blk_drewN ?_ _ | refine blk_drew ?_ | refine blk_alloc ?_ _)); refine blk_far ?_ NB333_334.out _; (with_reducible repeat (first | refine blk_drewN ?_ _ | refine blk_drew ?_ | refine blk_alloc ?_ _)); exact BK333.out) Try.underlying87 rfl (by kernel_rfl)) rfl ?_
 exact ⟨er, bel⟩

end Go.Proofs.Ytpcdfjcbjbkliaa.E
