import Derived.Test.YtpcdfjcbjbkliaaSq
import Derived.Test.YtpcdfjcbjbkliaaQ0
import Derived.Test.YtpcdfjcbjbkliaaQ1
import Derived.Test.YtpcdfjcbjbkliaaQ18
import Derived.Test.YtpcdfjcbjbkliaaQ20
import Derived.Test.YtpcdfjcbjbkliaaQ21
namespace Go.Proofs.Ytpcdfjcbjbkliaa.E
open Go.RowKit Go.Proofs.YtpcdfjcbjbkliaaW.PrintWords Go.Proofs.YtpcdfjcbjbkliaaW.PrintLast Go.Proofs.YtpcdfjcbjbkliaaW.PrintMore
attribute [local go_sem] max2_int min2_int max_two min_two max_three min_three max_four min_four
set_option linter.unusedVariables false
set_option linter.unusedSimpArgs false

attribute [local go_sem high] eqA30
/-! ### impl_ChangedSlots: function 9 -/
mutual
def impl_ChangedSlots.j0 : Nat → Bool → Int → Int → ByteArray → ByteArray → List (S48) → Int → Int → Int → ByteArray → ByteArray → List (S48) → Int → Option (List Int)
 | 0, _, _, _, _, _, _, _, _, _, _, _, _, _ => none
 | k + 1, x23, x500000, x500001, x500002, x500003, x500004, x500005, x501000, x501001, x501002, x501003, x501004, x501005 => if x23 = true then (some ([] : List Int)) else ((impl_patterns.f k x500000 x500001 x500002 x500003).bind fun t503 => ((impl_patterns.f k x501000 x501001 x501002 x501003).bind fun t506 => (impl_ChangedSlots.l0 k ([] : List Int) t503 t506 (t503.length : Int) 0 x500000 x500001 x500002 x500003 x500004 x500005 x501000 x501001 x501002 x501003 x501004 x501005)))
def impl_ChangedSlots.l0 : Nat → List Int → List ByteArray → List ByteArray → Int → Int → Int → Int → ByteArray → ByteArray → List (S48) → Int → Int → Int → ByteArray → ByteArray → List (S48) → Int → Option (List Int)
 | 0, _, _, _, _, _, _, _, _, _, _, _, _, _, _, _, _, _ => none
 | k + 1, x5, x6, x7, x35, x36, x500000, x500001, x500002, x500003, x500004, x500005, x501000, x501001, x501002, x501003, x501004, x501005 => if x36 < x35 then (if 0 ≤ x36 then (if x36 < (x6.length : Int) then (if x36 < (x7.length : Int) then (if (rdOf ByteArray.empty x6 x36).toList = (rdOf ByteArray.empty x7 x36).toList then (if x36 < (x500004.length : Int) then (if x36 < (x501004.length : Int) then ((impl_sameClue.f k ((rd_T48 x500004 x36).f0) ((rd_T48 x500004 x36).f1) ((rd_T48 x501004 x36).f0) ((rd_T48 x501004 x36).f1)).bind fun t513 => (if t513 = true then (impl_ChangedSlots.l0 k x5 x6 x7 x35 (wrap64 (x36 + 1)) x500000 x500001 x500002 x500003 x500004 x500005 x501000 x501001 x501002 x501003 x501004 x501005) else (if x5.length < 17592186044416 then (impl_ChangedSlots.l0 k (x5 ++ [x36]) x6 x7 x35 (wrap64 (x36 + 1)) x500000 x500001 x500002 x500003 x500004 x500005 x501000 x501001 x501002 x501003 x501004 x501005) else (none)))) else (none)) else (none)) else (if x5.length < 17592186044416 then (impl_ChangedSlots.l0 k (x5 ++ [x36]) x6 x7 x35 (wrap64 (x36 + 1)) x500000 x500001 x500002 x500003 x500004 x500005 x501000 x501001 x501002 x501003 x501004 x501005) else (none))) else (none)) else (none)) else (none)) else (some x5)
end
def impl_ChangedSlots.f (k : Nat) (a0_0 : Int) (a0_1 : Int) (a0_2 : ByteArray) (a0_3 : ByteArray) (l0_4 : List (S48)) (a0_5 : Int) (a1_0 : Int) (a1_1 : Int) (a1_2 : ByteArray) (a1_3 : ByteArray) (l1_4 : List (S48)) (a1_5 : Int) : Option (List Int) := (impl_IsDraft.f k a0_0 a0_1 a0_2 a0_3 l0_4 a0_5).bind fun t501 => (if t501 = true then ((impl_IsDraft.f k a1_0 a1_1 a1_2 a1_3 l1_4 a1_5).bind fun t502 => (if t502 = true then (impl_ChangedSlots.j0 k (!(a0_0 == a1_0) || (!(a0_1 == a1_1) || (!(a0_2.toList == a1_2.toList)))) a0_0 a0_1 a0_2 a0_3 l0_4 a0_5 a1_0 a1_1 a1_2 a1_3 l1_4 a1_5) else (impl_ChangedSlots.j0 k true a0_0 a0_1 a0_2 a0_3 l0_4 a0_5 a1_0 a1_1 a1_2 a1_3 l1_4 a1_5))) else (impl_ChangedSlots.j0 k true a0_0 a0_1 a0_2 a0_3 l0_4 a0_5 a1_0 a1_1 a1_2 a1_3 l1_4 a1_5))
def impl_ChangedSlots.T4 : Bool × List (List Nat × List Nat) := (true, [([], []), ([0], [0]), ([], []), ([2], [2]), ([1, 3], [1, 3]), ([], []), ([5], [5]), ([], []), ([7], [7]), ([6, 8, 4], [6, 8]), ([4, 9, 0, 1, 2, 3, 4], [4]), ([9, 10, 0, 1, 2, 3, 4, 5, 6, 7, 8, 9, 10], [9])])
theorem impl_ChangedSlots.tab4 : rtab .any (opsOf Try.f9 4) = impl_ChangedSlots.T4 := by kernel_rfl
def impl_ChangedSlots.T8 : Bool × List (List Nat × List Nat) := (true, [([], []), ([], []), ([0, 1], [0, 1]), ([2], [2]), ([], []), ([], []), ([4, 5], [4, 5]), ([6], [6]), ([3, 7], [3, 7]), ([8], [8]), ([9], [9]), ([10, 9], [9, 10]), ([9], [9]), ([11, 12, 9], [9, 11, 12]), ([13, 9], [9, 13]), ([9], [9]), ([15, 9], [9, 15]), ([9], [9]), ([16, 17, 9], [9, 16, 17]), ([18, 9], [9, 18]), ([14, 19, 9, 9], [9, 14, 19]), ([20, 9], [9, 20]), ([9, 21], [9, 21])])
theorem impl_ChangedSlots.tab8 : rtab .any (opsOf Try.f9 8) = impl_ChangedSlots.T8 := by kernel_rfl
set_option maxHeartbeats 8000000 in
set_option maxRecDepth 100000 in
theorem impl_ChangedSlots.calls (k : Nat) (a0_0 : Int) (a0_1 : Int) (a0_2 : ByteArray) (a0_3 : ByteArray) (A0_4 : Option Addr) (c0_4 : Nat) (l0_4 : List (S48)) (a0_5 : Int) (a1_0 : Int) (a1_1 : Int) (a1_2 : ByteArray) (a1_3 : ByteArray) (A1_4 : Option Addr) (c1_4 : Nat) (l1_4 : List (S48)) (a1_5 : Int) (r : List Int) (w : World) (hr0_4 : Kd.C k48 w A0_4 l0_4.length l0_4) (hc0_4 : l0_4.length ≤ c0_4) (hr1_4 : Kd.C k48 w A1_4 l1_4.length l1_4) (hc1_4 : l1_4.length ≤ c1_4) (H : impl_ChangedSlots.f k a0_0 a0_1 a0_2 a0_3 l0_4 a0_5 a1_0 a1_1 a1_2 a1_3 l1_4 a1_5 = some r) :
  Calls Try.prog 9 #[.agg #[.int .i64 a0_0, .int .i64 a0_1, .string a0_2, .string a0_3, .slice A0_4 l0_4.length c0_4, .int .i64 a0_5], .agg #[.int .i64 a1_0, .int .i64 a1_1, .string a1_2, .string a1_3, .slice A1_4 l1_4.length c1_4, .int .i64 a1_5]] w fun e w' => ∃ v0_ : Value, e = .returned (v0_) ∧ Kd.R (Kd.int .i64) 3 w' w.heap.size (fun _ => True) v0_ r ∧ Below w.heap.size w w' := by
 have hu33 := Try.underlying33
 have hu30 := Try.underlying30
 have hu48 := Try.underlying48
 have HR0_4 := Aside0.mk hr0_4
 have HC0_4 := Aside0.mk hc0_4
 clear hr0_4 hc0_4
 have HR1_4 := Aside0.mk hr1_4
 have HC1_4 := Aside0.mk hc1_4
 clear hr1_4 hc1_4
 have HB := Aside0.mk (Below.refl w.heap.size w)
 unfold impl_ChangedSlots.f at H
 have HC3 := Aside0.mk H
 clear H
 go_enter Try.func9, Try.ntmps9
 go_upto_region 1 with (first | ((with_reducible refine zd 2 rfl ?_); refine zbx (w := w) #[.int .i64 a0_0, .int .i64 a0_1, .string a0_2, .string a0_3, .slice A0_4 l0_4.length c0_4, .int .i64 a0_5] 33 ?_; intro gb499 hg w4 BK499 hb; have GW499 := zg (w := w) hg; replace HB := zB hb; clear hb hg) | ((with_reducible refine zd 3 rfl ?_); refine zbx (w := w) #[.int .i64 a1_0, .int .i64 a1_1, .string a1_2, .string a1_3, .slice A1_4 l1_4.length c1_4, .int .i64 a1_5] 33 ?_; intro gb500 hg w5 BK500 hb; have GW500 := zg (w := w) hg; replace HB := zB hb; have NB499_500 := zn hg BK499; have NB500_499 := zm hg BK499; replace BK499 := zk BK499 hb; clear hb hg))
 (try simp only [Act.put, List.setIfInBounds_toArray, List.set_cons_zero, List.set_cons_succ])
 go_cut [23] (fun v23 wc => ∃ (kq : Nat) (x23_2 : Bool), v23 = .bool x23_2 ∧ Aside0 (impl_ChangedSlots.j0 kq x23_2 a0_0 a0_1 a0_2 a0_3 l0_4 a0_5 a1_0 a1_1 a1_2 a1_3 l1_4 a1_5 = some r) ∧ Aside0 (kq ≤ k) ∧ Aside0 (wc.heap[gb499]? = some (.cells #[.int .i64 a0_0, .int .i64 a0_1, .string a0_2, .string a0_3, (.slice A0_4 l0_4.length c0_4), .int .i64 a0_5] 33 (0, 0))) ∧ Aside0 (wc.heap[gb500]? = some (.cells #[.int .i64 a1_0, .int .i64 a1_1, .string a1_2, .string a1_3, (.slice A1_4 l1_4.length c1_4), .int .i64 a1_5] 33 (0, 0))) ∧ Aside0 (Below w.heap.size w wc))
 case first =>
  have H := HC3.out
  clear HC3
  replace H := zs H
  obtain ⟨t501, A6, H⟩ := H
  replace H := zb H
  rcases H with ⟨rfl, H⟩ | ⟨rfl, H⟩
  ·
   replace H := zs H
   obtain ⟨t502, A8, H⟩ := H
   replace H := zb H
   rcases H with ⟨rfl, H⟩ | ⟨rfl, H⟩
   ·
    have H' := Aside0.mk H
    clear H
    have hnb10 := NB499_500.out
    have hnc10 := NB500_499.out
    have ⟨_, _, _, _, _, _, _, _, _, _, _, _⟩ := cz6 BK499
    go_wp2_with (first | ((with_reducible refine zd 10 rfl ?_); refine zgl Try.func31 (impl_IsDraft.calls k a0_0 a0_1 a0_2 a0_3 _ _ l0_4 a0_5 true _ (zC HR0_4) HC0_4.out A6.out) ?_; rintro e w12 ⟨rfl, hb⟩; refine ⟨_, rfl, ?_⟩; replace BK499 := zk BK499 hb; replace BK500 := zk BK500 hb; replace HB := zB hb; have ⟨_, _, _, _, _, _, _, _, _, _, _, _⟩ := cz6 BK500) | (go_at_call 31; (with_reducible refine (impl_IsDraft.calls k a1_0 a1_1 a1_2 a1_3 _ _ l1_4 a1_5 true _ ?side1 ?side2 A8.out).mono ?_); (case side1 => repeat (first | exact (Kd.C_below HR1_4.out HB.out) | (with_reducible refine Kd.C_alloc ?_ _) | (with_reducible refine Kd.C_drewN ?_ _) | (with_reducible refine Kd.C_drew ?_))); (case side2 => exact HC1_4.out); rintro e w14 ⟨rfl, hb⟩; replace BK499 := zk BK499 hb; replace BK500 := zk BK500 hb; replace HB := zB hb; have ⟨_, _, _, _, _, _, _, _, _, _, _, _⟩ := cz6 BK499; have ⟨_, _, _, _, _, _, _, _, _, _, _, _⟩ := cz6 BK500))
    go_meet
    case rel => exact ⟨_, ((!(a0_0 == a1_0) || (!(a0_1 == a1_1) || (!(a0_2.toList == a1_2.toList))))), rf, H', ⟨by first | omega | exact Nat.le_refl _⟩, ⟨bk BK499⟩, ⟨bk BK500⟩, ⟨bel⟩⟩
   ·
    have H' := Aside0.mk H
    clear H
    have hnb17 := NB499_500.out
    have hnc17 := NB500_499.out
    have ⟨_, _, _, _, _, _, _, _, _, _, _, _⟩ := cz6 BK499
    go_wp2_with (first | ((with_reducible refine zd 10 rfl ?_); refine zgl Try.func31 (impl_IsDraft.calls k a0_0 a0_1 a0_2 a0_3 _ _ l0_4 a0_5 true _ (zC HR0_4) HC0_4.out A6.out) ?_; rintro e w19 ⟨rfl, hb⟩; refine ⟨_, rfl, ?_⟩; replace BK499 := zk BK499 hb; replace BK500 := zk BK500 hb; replace HB := zB hb; have ⟨_, _, _, _, _, _, _, _, _, _, _, _⟩ := cz6 BK500) | (go_at_call 31; (with_reducible refine (impl_IsDraft.calls k a1_0 a1_1 a1_2 a1_3 _ _ l1_4 a1_5 false _ ?side1 ?side2 A8.out).mono ?_); (case side1 => repeat (first | exact (Kd.C_below HR1_4.out HB.out) | (with_reducible refine Kd.C_alloc ?_ _) | (with_reducible refine Kd.C_drewN ?_ _) | (with_reducible refine Kd.C_drew ?_))); (case side2 => exact HC1_4.out); rintro e w21 ⟨rfl, hb⟩; replace BK499 := zk BK499 hb; replace BK500 := zk BK500 hb; replace HB := zB hb))
    go_meet
    case rel => exact ⟨_, (true), rf, H', ⟨by first | omega | exact Nat.le_refl _⟩, ⟨bk BK499⟩, ⟨bk BK500⟩, ⟨bel⟩⟩
  ·
   have H' := Aside0.mk H
   clear H
   have hnb22 := NB499_500.out
   have hnc22 := NB500_499.out
   have ⟨_, _, _, _, _, _, _, _, _, _, _, _⟩ := cz6 BK499
   go_wp2_with (first | ((with_reducible refine zd 10 rfl ?_); refine zgl Try.func31 (impl_IsDraft.calls k a0_0 a0_1 a0_2 a0_3 _ _ l0_4 a0_5 false _ (zC HR0_4) HC0_4.out A6.out) ?_; rintro e w24 ⟨rfl, hb⟩; refine ⟨_, rfl, ?_⟩; replace BK499 := zk BK499 hb; replace BK500 := zk BK500 hb; replace HB := zB hb))
   go_meet
   case rel => exact ⟨_, (true), rf, H', ⟨by first | omega | exact Nat.le_refl _⟩, ⟨bk BK499⟩, ⟨bk BK500⟩, ⟨bel⟩⟩
 case rest =>
  clear HC3
  obtain ⟨kq, x23_2, rfl, HA, HJ2, BK499, BK500, HB⟩ := hcut
  cases kq with
  | zero => exact absurd HA.out (by simp [impl_ChangedSlots.j0])
  | succ kj2 =>
   have H := HA.out
   clear HA
   simp only [impl_ChangedSlots.j0] at H
   replace H := zb H
   rcases H with ⟨rfl, H⟩ | ⟨rfl, H⟩
   ·
    obtain rfl := Option.some.inj H
    go_wp2
    go_ret
    exact ⟨_, er, by first | exact Kd.R_nil _ _ _ _ _ | exact Kd.N_nil _ _ _ _ _ | exact Kd.V_nil _ _ _ _ _ | exact Kd.Q_nil _ _ _ _ _ | exact Kd.S_nil _ _ _ _ _, bel⟩
   ·
    replace H := zs H
    obtain ⟨t503, A26, H⟩ := H
    replace H := zs H
    obtain ⟨t506, A27, H⟩ := H
    have H' := Aside0.mk H
    clear H
    try go_wp2
    replace BK499 := zkd BK499
    replace BK500 := zkd BK500
    replace HB := zBd HB
    refine zst 12 impl_ChangedSlots.tab4 (zb6 BK499 <| zb6 BK500 <| zn0) fun hHeld HT_ => ?_
    generalize wc.drew = w28 at BK499 BK500 HB hHeld ⊢
    repeat (first | refine zs1 ?_ | (refine zcl Try.func32 (impl_patterns.calls kj2 a0_0 a0_1 a0_2 a0_3 t503 _ A26.out) ?_; rintro e w29 ⟨v504, rfl, ho0, hb⟩; have HO505 := zl2 ho0; replace BK499 := zk BK499 hb; replace BK500 := zk BK500 hb; replace HB := zB hb; refine ⟨_, rfl, zHb hb hHeld, _, znb, fun hHeld => ?_⟩) | (refine zcl Try.func32 (impl_patterns.calls kj2 a1_0 a1_1 a1_2 a1_3 t506 _ A27.out) ?_; rintro e w30 ⟨v507, rfl, ho0, hb⟩; have HO508 := Aside0.mk (Kd.R_lower (Kd.R_new' ho0 (Kd.R_lt (kr HO505))) bsz); replace HO505 := Aside0.mk (Kd.R_elder' (kr HO505) (Kd.R_base ho0) hb); replace BK499 := zk BK499 hb; replace BK500 := zk BK500 hb; replace HB := zB hb; refine ⟨_, rfl, zHb hb hHeld, _, znb, fun hHeld => ?_⟩))
    refine zdn ?_
    obtain ⟨Ao31, co31, eo31⟩ := Kd.R_slice HO505.out
    subst eo31
    try go_wp2
    go_loopg [5, 36] kj2 (fun kq v5 v36 w' => ∃ (x5_2 : List Int) (x36_2 : Int), v36 = .int .i64 x36_2 ∧ Aside0 (impl_ChangedSlots.l0 kq x5_2 t503 t506 (t503.length : Int) x36_2 a0_0 a0_1 a0_2 a0_3 l0_4 a0_5 a1_0 a1_1 a1_2 a1_3 l1_4 a1_5 = some r) ∧ Aside0 (kq ≤ kj2) ∧ Aside0 (Kd.R (Kd.int .i64) 3 w' w.heap.size (fun _ => True) v5 x5_2) ∧ Aside0 (Kd.R Kd.string 9 w' w.heap.size (fun k_ => some k_ ≠ (v507 : Value).ownBlock) (.slice Ao31 t503.length co31) t503) ∧ Aside0 (Kd.R Kd.string 9 w' w.heap.size (fun k_ => some k_ ≠ ((.slice Ao31 t503.length co31) : Value).ownBlock) v507 t506) ∧ Aside0 (w'.heap[gb499]? = some (.cells #[.int .i64 a0_0, .int .i64 a0_1, .string a0_2, .string a0_3, (.slice A0_4 l0_4.length c0_4), .int .i64 a0_5] 33 (0, 0))) ∧ Aside0 (w'.heap[gb500]? = some (.cells #[.int .i64 a1_0, .int .i64 a1_1, .string a1_2, .string a1_3, (.slice A1_4 l1_4.length c1_4), .int .i64 a1_5] 33 (0, 0))) ∧ Aside0 (Below w.heap.size w w'))
    case atStart => exact ⟨(([] : List Int)), (0), rf, H', ⟨Nat.le_refl _⟩, ⟨by first | exact Kd.R_nil _ _ _ _ _ | exact Kd.N_nil _ _ _ _ _ | exact Kd.V_nil _ _ _ _ _ | exact Kd.Q_nil _ _ _ _ _ | exact Kd.S_nil _ _ _ _ _⟩, ⟨by (with_reducible repeat (first | apply Kd.R_alloc | apply Kd.R_drewN | apply Kd.R_drew)); exact Kd.R_mono HO505.out (fun _ hk => hk.2)⟩, ⟨by (with_reducible repeat (first | apply Kd.R_alloc | apply Kd.R_drewN | apply Kd.R_drew)); exact Kd.R_mono HO508.out (fun _ hk => hk.2)⟩, ⟨bk BK499⟩, ⟨bk BK500⟩, ⟨bel⟩⟩
    case round =>
     clear H'
     obtain ⟨x5_2, x36_2, rfl, HA, HK2, HO_5, HO_6, HO_7, BK499, BK500, HB⟩ := hrel
     cases gk with
     | zero => exact absurd HA.out (by simp [impl_ChangedSlots.l0])
     | succ k2 =>
      have H := HA.out
      clear HA
      simp only [impl_ChangedSlots.l0] at H
      replace H := zc H
      rcases H with ⟨c32b0, H⟩ | ⟨c32b0, H⟩
      ·
       replace H := zr H
       obtain ⟨c33b0, H⟩ := H
       replace H := zr H
       obtain ⟨c34b0, H⟩ := H
       replace H := zr H
       obtain ⟨c35b0, H⟩ := H
       by_cases c36 : (rdOf ByteArray.empty t503 x36_2).toList = (rdOf ByteArray.empty t506 x36_2).toList
       ·
        rw [if_pos c36] at H
        have c36b0 : ((rdOf ByteArray.empty t503 x36_2).toList == (rdOf ByteArray.empty t506 x36_2).toList) = true := beq_iff_eq.mpr c36
        have c36b1 : ((rdOf ByteArray.empty t503 x36_2).toList != (rdOf ByteArray.empty t506 x36_2).toList) = false := bne_eq_false_iff_eq.mpr c36
        clear c36
        replace H := zr H
        obtain ⟨c37b0, H⟩ := H
        replace H := zr H
        obtain ⟨c38b0, H⟩ := H
        replace H := zs H
        obtain ⟨t513, A39, H⟩ := H
        replace H := zb H
        rcases H with ⟨rfl, H⟩ | ⟨rfl, H⟩
        ·
         have H' := Aside0.mk H
         clear H
         try go_wp2
         replace HO_5 := zRd HO_5
         replace HO_6 := zRd HO_6
         replace HO_7 := zRd HO_7
         replace BK499 := zkd BK499
         replace BK500 := zkd BK500
         replace HB := zBd HB
         obtain ⟨p509, q509, ad509, e509, hx509_0⟩ := zx (Kd.at_string (Kd.R_reads' HO_6.out).2.2 x36_2)
         cases e509
         obtain ⟨Ao42, co42, eo42⟩ := Kd.R_slice HO_7.out
         (first | subst eo42 | (injection eo42 with f1_ f2_ f3_; have f4_ := f1_.symm; have f5_ := f3_.symm; clear f1_ f2_ f3_; subst f4_; subst f5_))
         obtain ⟨p510, q510, ad510, e510, hx510_0⟩ := zx (Kd.at_string (Kd.R_reads' HO_7.out).2.2 x36_2)
         cases e510
         obtain ⟨p511, q511, ad511, A511_1, c511_1, e511, hx511_0, hx511_1, hl511_1, hi511_1⟩ := zx (at_T48 HR0_4.out x36_2)
         have hw511_1 := hx511_1
         have hw511_0 := hx511_0
         cases e511
         replace hx511_0 := zh HB hx511_0
         replace hx511_1 := zh HB hx511_1
         have HR511_1 := Aside0.mk hi511_1
         have HC511_1 := Aside0.mk hl511_1
         clear hi511_1 hl511_1
         obtain ⟨p512, q512, ad512, A512_1, c512_1, e512, hx512_0, hx512_1, hl512_1, hi512_1⟩ := zx (at_T48 HR1_4.out x36_2)
         have hw512_1 := hx512_1
         have hw512_0 := hx512_0
         cases e512
         replace hx512_0 := zh HB hx512_0
         replace hx512_1 := zh HB hx512_1
         have HR512_1 := Aside0.mk hi512_1
         have HC512_1 := Aside0.mk hl512_1
         clear hi512_1 hl512_1
         refine zst 23 impl_ChangedSlots.tab8 (zb6 BK499 <| zb6 BK500 <| zhc hx509_0 <| zhc hx510_0 <| zhc (((HB.out.cell (World.block_lt_of_cell? w _ hw511_0)).trans hw511_0)) <| zhc (((HB.out.cell (World.block_lt_of_cell? w _ hw511_1)).trans hw511_1)) <| zhc (((HB.out.cell (World.block_lt_of_cell? w _ hw512_0)).trans hw512_0)) <| zhc (((HB.out.cell (World.block_lt_of_cell? w _ hw512_1)).trans hw512_1)) <| zn0) fun hHeld HT_ => ?_
         generalize wr.drew = w41 at HO_5 HO_6 HO_7 BK499 BK500 HB HR511_1 HR512_1 hx509_0 hx510_0 hx511_0 hx511_1 hx512_0 hx512_1 hHeld ⊢
         repeat (first | refine zs1 ?_ | (refine zcl Try.func33 (impl_sameClue.calls k2 ((rd_T48 l0_4 x36_2).f0) _ _ ((rd_T48 l0_4 x36_2).f1) ((rd_T48 l1_4 x36_2).f0) _ _ ((rd_T48 l1_4 x36_2).f1) true _ (zC HR511_1) HC511_1.out (zC HR512_1) HC512_1.out A39.out) ?_; rintro e w43 ⟨rfl, hb⟩; replace HO_5 := zR HO_5 hb; replace HO_6 := zR HO_6 hb; replace HO_7 := zR HO_7 hb; replace BK499 := zk BK499 hb; replace BK500 := zk BK500 hb; replace HB := zB hb; refine ⟨_, rfl, zHb hb hHeld, _, znb, fun hHeld => ?_⟩))
         refine zdn ?_
         try go_wp2
         go_roundg k2
         case measure => have := HJ2.out; have := HK2.out; omega
         case rel => exact ⟨(x5_2), (wrap64 (x36_2 + 1)), rf, H', ⟨by have := HJ2.out; have := HK2.out; omega⟩, ⟨kr HO_5⟩, ⟨kr HO_6⟩, ⟨kr HO_7⟩, ⟨bk BK499⟩, ⟨bk BK500⟩, ⟨bel⟩⟩
        ·
         replace H := zl H
         obtain ⟨LMc44, H⟩ := H
         generalize hy514 : (x5_2 ++ [x36_2] : List Int) = y514 at H
         have Ny514 := Aside0.mk hy514.symm
         clear hy514
         have H' := Aside0.mk H
         clear H
         try go_wp2
         replace HO_5 := zRd HO_5
         replace HO_6 := zRd HO_6
         replace HO_7 := zRd HO_7
         replace BK499 := zkd BK499
         replace BK500 := zkd BK500
         replace HB := zBd HB
         obtain ⟨p509, q509, ad509, e509, hx509_0⟩ := zx (Kd.at_string (Kd.R_reads' HO_6.out).2.2 x36_2)
         cases e509
         obtain ⟨Ao46, co46, eo46⟩ := Kd.R_slice HO_7.out
         (first | subst eo46 | (injection eo46 with f1_ f2_ f3_; have f4_ := f1_.symm; have f5_ := f3_.symm; clear f1_ f2_ f3_; subst f4_; subst f5_))
         obtain ⟨p510, q510, ad510, e510, hx510_0⟩ := zx (Kd.at_string (Kd.R_reads' HO_7.out).2.2 x36_2)
         cases e510
         obtain ⟨p511, q511, ad511, A511_1, c511_1, e511, hx511_0, hx511_1, hl511_1, hi511_1⟩ := zx (at_T48 HR0_4.out x36_2)
         have hw511_1 := hx511_1
         have hw511_0 := hx511_0
         cases e511
         replace hx511_0 := zh HB hx511_0
         replace hx511_1 := zh HB hx511_1
         have HR511_1 := Aside0.mk hi511_1
         have HC511_1 := Aside0.mk hl511_1
         clear hi511_1 hl511_1
         obtain ⟨p512, q512, ad512, A512_1, c512_1, e512, hx512_0, hx512_1, hl512_1, hi512_1⟩ := zx (at_T48 HR1_4.out x36_2)
         have hw512_1 := hx512_1
         have hw512_0 := hx512_0
         cases e512
         replace hx512_0 := zh HB hx512_0
         replace hx512_1 := zh HB hx512_1
         have HR512_1 := Aside0.mk hi512_1
         have HC512_1 := Aside0.mk hl512_1
         clear hi512_1 hl512_1
         refine zst 23 impl_ChangedSlots.tab8 (zb6 BK499 <| zb6 BK500 <| zhc hx509_0 <| zhc hx510_0 <| zhc (((HB.out.cell (World.block_lt_of_cell? w _ hw511_0)).trans hw511_0)) <| zhc (((HB.out.cell (World.block_lt_of_cell? w _ hw511_1)).trans hw511_1)) <| zhc (((HB.out.cell (World.block_lt_of_cell? w _ hw512_0)).trans hw512_0)) <| zhc (((HB.out.cell (World.block_lt_of_cell? w _ hw512_1)).trans hw512_1)) <| zn0) fun hHeld HT_ => ?_
         generalize wr.drew = w45 at HO_5 HO_6 HO_7 BK499 BK500 HB HR511_1 HR512_1 hx509_0 hx510_0 hx511_0 hx511_1 hx512_0 hx512_1 hHeld ⊢
         repeat (first | refine zs1 ?_ | (refine zcl Try.func33 (impl_sameClue.calls k2 ((rd_T48 l0_4 x36_2).f0) _ _ ((rd_T48 l0_4 x36_2).f1) ((rd_T48 l1_4 x36_2).f0) _ _ ((rd_T48 l1_4 x36_2).f1) false _ (zC HR511_1) HC511_1.out (zC HR512_1) HC512_1.out A39.out) ?_; rintro e w47 ⟨rfl, hb⟩; replace HO_5 := zR HO_5 hb; replace HO_6 := zR HO_6 hb; replace HO_7 := zR HO_7 hb; replace BK499 := zk BK499 hb; replace BK500 := zk BK500 hb; replace HB := zB hb; refine ⟨_, rfl, zHb hb hHeld, _, znb, fun hHeld => ?_⟩))
         refine zdn ?_
         try go_wp2_with (first | ((with_reducible refine gate_builtin (b := .append) (xs := #[.tmp 62, .tmp 64]) rfl ?_); at_builtin; refine Kd.R_append (Kd.int .i64) (w0 := w) w.heap.size rfl (.tmp 62) (.tmp 64) 28 3 (.int .i64 0) 8 rfl Try.underlying28 info3 rfl (by decide) (by omega) u5 x5_2 x36_2 [.int .i64 x36_2] (fun _ => True) (fun _ => False) rfl rfl ?aP (fun _ hk => hk.elim) ?aF ?aO ?aB ?aS ?aL ?_; (case aP => exact rfl); (case aB => exact bel); (case aF => exact (fun _ _ => trivial)); (case aO => exact (kr HO_5)); (case aS => exact bsz); (case aL => have := LMc44.out; omega); intro v515 w48 ho hb hg hat; rw [← Ny514.out] at ho; replace HO_6 := Aside0.mk (Kd.R_over' (kr HO_6) (Kd.R_typed (kr HO_5)) (by decide) hg); replace HO_7 := Aside0.mk (Kd.R_over' (kr HO_7) (Kd.R_typed (kr HO_5)) (by decide) hg); replace BK499 := Aside0.mk (blk_grown (bk BK499) hg (Kd.R_ne HO_5.out BK499.out (by decide))); replace BK500 := Aside0.mk (blk_grown (bk BK500) hg (Kd.R_ne HO_5.out BK500.out (by decide))); replace HB := Aside0.mk hb; have HO516 := Aside0.mk ho; clear HO_5; clear ho hb hg hat))
         go_roundg k2
         case measure => have := HJ2.out; have := HK2.out; omega
         case rel => exact ⟨(y514), (wrap64 (x36_2 + 1)), rf, H', ⟨by have := HJ2.out; have := HK2.out; omega⟩, ⟨kr HO516⟩, ⟨kr HO_6⟩, ⟨kr HO_7⟩, ⟨bk BK499⟩, ⟨bk BK500⟩, ⟨bel⟩⟩
       ·
        rw [if_neg c36] at H
        have c36b0 : ((rdOf ByteArray.empty t503 x36_2).toList == (rdOf ByteArray.empty t506 x36_2).toList) = false := beq_eq_false_iff_ne.mpr c36
        have c36b1 : ((rdOf ByteArray.empty t503 x36_2).toList != (rdOf ByteArray.empty t506 x36_2).toList) = true := bne_iff_ne.mpr c36
        replace H := zl H
        obtain ⟨LMc49, H⟩ := H
        generalize hy517 : (x5_2 ++ [x36_2] : List Int) = y517 at H
        have Ny517 := Aside0.mk hy517.symm
        clear hy517
        have H' := Aside0.mk H
        clear H
        try go_wp2
        replace HO_5 := zRd HO_5
        replace HO_6 := zRd HO_6
        replace HO_7 := zRd HO_7
        replace BK499 := zkd BK499
        replace BK500 := zkd BK500
        replace HB := zBd HB
        obtain ⟨p509, q509, ad509, e509, hx509_0⟩ := zx (Kd.at_string (Kd.R_reads' HO_6.out).2.2 x36_2)
        cases e509
        obtain ⟨Ao51, co51, eo51⟩ := Kd.R_slice HO_7.out
        (first | subst eo51 | (injection eo51 with f1_ f2_ f3_; have f4_ := f1_.symm; have f5_ := f3_.symm; clear f1_ f2_ f3_; subst f4_; subst f5_))
        obtain ⟨p510, q510, ad510, e510, hx510_0⟩ := zx (Kd.at_string (Kd.R_reads' HO_7.out).2.2 x36_2)
        cases e510
        refine zst 23 impl_ChangedSlots.tab8 (zhc hx509_0 <| zhc hx510_0 <| zn0) fun hHeld HT_ => ?_
        generalize wr.drew = w50 at HO_5 HO_6 HO_7 BK499 BK500 HB hx509_0 hx510_0 hHeld ⊢
        repeat (first | refine zs1 ?_)
        refine zdn ?_
        try go_wp2_with (first | ((with_reducible refine gate_builtin (b := .append) (xs := #[.tmp 62, .tmp 64]) rfl ?_); at_builtin; refine Kd.R_append (Kd.int .i64) (w0 := w) w.heap.size rfl (.tmp 62) (.tmp 64) 28 3 (.int .i64 0) 8 rfl Try.underlying28 info3 rfl (by decide) (by omega) u5 x5_2 x36_2 [.int .i64 x36_2] (fun _ => True) (fun _ => False) rfl rfl ?aP (fun _ hk => hk.elim) ?aF ?aO ?aB ?aS ?aL ?_; (case aP => exact rfl); (case aB => exact bel); (case aF => exact (fun _ _ => trivial)); (case aO => exact (kr HO_5)); (case aS => exact bsz); (case aL => have := LMc49.out; omega); intro v518 w52 ho hb hg hat; rw [← Ny517.out] at ho; replace HO_6 := Aside0.mk (Kd.R_over' (kr HO_6) (Kd.R_typed (kr HO_5)) (by decide) hg); replace HO_7 := Aside0.mk (Kd.R_over' (kr HO_7) (Kd.R_typed (kr HO_5)) (by decide) hg); replace BK499 := Aside0.mk (blk_grown (bk BK499) hg (Kd.R_ne HO_5.out BK499.out (by decide))); replace BK500 := Aside0.mk (blk_grown (bk BK500) hg (Kd.R_ne HO_5.out BK500.out (by decide))); replace HB := Aside0.mk hb; have HO519 := Aside0.mk ho; clear HO_5; clear ho hb hg hat))
        go_roundg k2
        case measure => have := HJ2.out; have := HK2.out; omega
        case rel => exact ⟨(y517), (wrap64 (x36_2 + 1)), rf, H', ⟨by have := HJ2.out; have := HK2.out; omega⟩, ⟨kr HO519⟩, ⟨kr HO_6⟩, ⟨kr HO_7⟩, ⟨bk BK499⟩, ⟨bk BK500⟩, ⟨bel⟩⟩
      ·
       obtain rfl := Option.some.inj H
       go_wp2
       go_ret
       exact ⟨_, er, kr HO_5, bel⟩

end Go.Proofs.Ytpcdfjcbjbkliaa.E
