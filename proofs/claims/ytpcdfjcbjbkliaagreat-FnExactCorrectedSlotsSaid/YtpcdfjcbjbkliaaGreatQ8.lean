import Derived.Test.YtpcdfjcbjbkliaaGreatSq
import Derived.Test.YtpcdfjcbjbkliaaGreatQ0
import Derived.Test.YtpcdfjcbjbkliaaGreatQ4
import Derived.Test.YtpcdfjcbjbkliaaGreatQ5
import Derived.Test.YtpcdfjcbjbkliaaGreatQ6
import Derived.Test.YtpcdfjcbjbkliaaGreatQ7
namespace Go.Proofs.YtpcdfjcbjbkliaaGreat.E
open Go.RowKit Go.Proofs.YtpcdfjcbjbkliaaGreatW.PrintWords Go.Proofs.YtpcdfjcbjbkliaaGreatW.PrintLast Go.Proofs.YtpcdfjcbjbkliaaGreatW.PrintMore
attribute [local go_sem] max2_int min2_int max_two min_two max_three min_three max_four min_four
set_option linter.unusedVariables false
set_option linter.unusedSimpArgs false

/-! ### spec_SlotPattern: function 89 -/
mutual
def spec_SlotPattern.j0 : Nat → ByteArray → Int → List (S132) → Bool → Int → Int → ByteArray → Option (ByteArray)
 | 0, _, _, _, _, _, _, _ => none
 | k + 1, a, b, c, d, e, f, g => if d = true then (some (⟨#[]⟩ : ByteArray)) else (if 0 ≤ b then (if b < (c.length : Int) then ((spec_CellsOf.f k e f g ((rd_T132 c b).f0) ((rd_T132 c b).f1) ((rd_T132 c b).f2) ((rd_T132 c b).f3)).bind fun h => (spec_SlotPattern.l0 k a (⟨#[]⟩ : ByteArray) h 0)) else (none)) else (none))
def spec_SlotPattern.l0 : Nat → ByteArray → ByteArray → List Int → Int → Option (ByteArray)
 | 0, _, _, _, _ => none
 | k + 1, a, b, c, d => if d < (c.length : Int) then (if 0 ≤ d then (if 0 ≤ (rd c d) then (if (rd c d) ≤ (wrap64 ((rd c d) + 1)) then (if (wrap64 ((rd c d) + 1)) ≤ (a.size : Int) then (if b.size + (a.extract ((rd c d) : Int).toNat ((wrap64 ((rd c d) + 1)) : Int).toNat).size ≤ 9223372036854775807 then (spec_SlotPattern.l0 k a (b ++ (a.extract ((rd c d) : Int).toNat ((wrap64 ((rd c d) + 1)) : Int).toNat)) c (wrap64 (d + 1))) else (none)) else (none)) else (none)) else (none)) else (none)) else (some b)
end
def spec_SlotPattern.f (k : Nat) (a b : Int) (c d : ByteArray) (e : Int) : Option (ByteArray) := (spec_SlotsOf.f k a b c).bind fun f => ((spec_IsFill.f k a b c d).bind fun g => (if g = true then ((spec_l1In.f e 0 (wrap64 ((f.length : Int) - 1))).bind fun h => (spec_SlotPattern.j0 k d e f (!h) a b c)) else (spec_SlotPattern.j0 k d e f true a b c)))
def spec_SlotPattern.T9 : Bool × List (List Nat × List Nat) := (true, [([], []), ([], []), ([], []), ([], []), ([2, 3], [2, 3]), ([4], [4]), ([], []), ([], []), ([6, 7], [6, 7]), ([8], [8]), ([9], [9]), ([1, 5, 10], [1, 5, 10]), ([0, 11], [0, 11]), ([12, 0, 1, 2, 3, 4, 5, 6, 7, 8, 9, 10, 11, 12], [0, 12])])
theorem spec_SlotPattern.tab9 : rtab .any (opsOf Tryz.f89 9) = spec_SlotPattern.T9 := by kernel_rfl
set_option maxHeartbeats 8000000 in
set_option maxRecDepth 100000 in
theorem spec_SlotPattern.calls (k : Nat) (a0_0 a0_1 : Int) (a0_2 a1 : ByteArray) (a2 : Int) (r : ByteArray) (w : World) (H : spec_SlotPattern.f k a0_0 a0_1 a0_2 a1 a2 = some r) :
  Calls Tryz.prog 89 #[.agg #[.int .i64 a0_0, .int .i64 a0_1, .string a0_2], .string a1, .int .i64 a2] w fun e w' => e = .returned (.string r) ∧ Below w.heap.size w w' := by
 have hu32 := Tryz.underlying32
 have hu132 := Tryz.underlying132
 have HB := Aside0.mk (Below.refl w.heap.size w)
 unfold spec_SlotPattern.f at H
 replace H := zs H
 obtain ⟨t265, A4, H⟩ := H
 have HC5 := Aside0.mk H
 clear H
 go_enter Tryz.func89, Tryz.ntmps89
 go_upto_region 2 with (first | ((with_reducible refine zd 3 rfl ?_); (try (refine gate_guard (by rfl) ?_; dsimp only)); refine zbx (w := w) #[.int .i64 a0_0, .int .i64 a0_1, .string a0_2] 32 ?_; intro gb264 hg w6 BK264 hb; have GW264 := zg (w := w) hg; replace HB := zB hb; clear hb hg; have ⟨_, _, _, _, _, _⟩ := cz3 BK264) | ((with_reducible refine zd 12 rfl ?_); refine zgl Tryz.func87 (spec_SlotsOf.calls k a0_0 a0_1 a0_2 t265 _ A4.out) ?_; rintro e w8 ⟨v266, rfl, ho0, hb⟩; refine ⟨_, rfl, ?_⟩; have HO267 := zl2 ho0; replace BK264 := zk BK264 hb; replace HB := zB hb))
 (try simp only [Act.put, List.setIfInBounds_toArray, List.set_cons_zero, List.set_cons_succ])
 go_cut [24] (fun v24 wc => ∃ (kq : Nat) (x24_4 : Bool), v24 = .bool x24_4 ∧ Aside0 (spec_SlotPattern.j0 kq a1 a2 t265 x24_4 a0_0 a0_1 a0_2 = some r) ∧ Aside0 (kq ≤ k) ∧ Aside0 (Kd.R k132 132 wc w.heap.size (fun _ => True) v266 t265) ∧ Aside0 (wc.heap[gb264]? = some (.cells #[.int .i64 a0_0, .int .i64 a0_1, .string a0_2] 32 (0, 0))) ∧ Aside0 (Below w.heap.size w wc))
 case first =>
  have H := HC5.out
  clear HC5
  replace H := zs H
  obtain ⟨t268, A9, H⟩ := H
  replace H := zb H
  rcases H with ⟨rfl, H⟩ | ⟨rfl, H⟩
  ·
   replace H := zs H
   obtain ⟨t269, A11, H⟩ := H
   have H' := Aside0.mk H
   clear H
   have ⟨_, _, _, _, _, _⟩ := cz3 BK264
   go_wp2_with (first | ((with_reducible refine zd 15 rfl ?_); refine zgl Tryz.func50 (spec_IsFill.calls k a0_0 a0_1 a0_2 a1 true _ A9.out) ?_; rintro e w13 ⟨rfl, hb⟩; refine ⟨_, rfl, ?_⟩; replace HO267 := zR HO267 hb; replace BK264 := zk BK264 hb; replace HB := zB hb; obtain ⟨Ao14, co14, eo14⟩ := Kd.R_slice HO267.out; subst eo14) | (go_at_call 45; (with_reducible refine (spec_l1In.calls a2 0 (wrap64 ((t265.length : Int) - 1)) t269 _ A11.out).mono ?_); rintro e w' ⟨rfl, ⟨nd, rfl⟩⟩))
   go_meet
   case rel => exact ⟨_, (!t269), rf, H', ⟨by first | omega | exact Nat.le_refl _⟩, ⟨kr HO267⟩, ⟨bk BK264⟩, ⟨bel⟩⟩
  ·
   have H' := Aside0.mk H
   clear H
   have ⟨_, _, _, _, _, _⟩ := cz3 BK264
   go_wp2_with (first | ((with_reducible refine zd 15 rfl ?_); refine zgl Tryz.func50 (spec_IsFill.calls k a0_0 a0_1 a0_2 a1 false _ A9.out) ?_; rintro e w16 ⟨rfl, hb⟩; refine ⟨_, rfl, ?_⟩; replace HO267 := zR HO267 hb; replace BK264 := zk BK264 hb; replace HB := zB hb))
   go_meet
   case rel => exact ⟨_, (true), rf, H', ⟨by first | omega | exact Nat.le_refl _⟩, ⟨kr HO267⟩, ⟨bk BK264⟩, ⟨bel⟩⟩
 case rest =>
  clear HC5
  obtain ⟨kq, x24_4, rfl, HA, HJ4, HO_7, BK264, HB⟩ := hcut
  cases kq with
  | zero => exact absurd HA.out (by simp [spec_SlotPattern.j0])
  | succ kj4 =>
   have H := HA.out
   clear HA
   simp only [spec_SlotPattern.j0] at H
   replace H := zb H
   rcases H with ⟨rfl, H⟩ | ⟨rfl, H⟩
   ·
    obtain rfl := Option.some.inj H
    go_wp2
    go_ret
    exact ⟨er, bel⟩
   ·
    replace H := zr H
    obtain ⟨c18b0, H⟩ := H
    replace H := zr H
    obtain ⟨c19b0, H⟩ := H
    replace H := zs H
    obtain ⟨t271, A20, H⟩ := H
    have H' := Aside0.mk H
    clear H
    try go_wp2
    replace HO_7 := zRd HO_7
    replace BK264 := zkd BK264
    replace HB := zBd HB
    obtain ⟨Ao22, co22, eo22⟩ := Kd.R_slice HO_7.out
    (first | subst eo22 | (injection eo22 with f1_ f2_ f3_; have f4_ := f1_.symm; have f5_ := f3_.symm; clear f1_ f2_ f3_; subst f4_; subst f5_))
    obtain ⟨p270, q270, ad270, e270, hx270_0, hx270_1, hx270_2, hx270_3⟩ := zx (at_T132 (Kd.R_reads' HO_7.out).2.2 a2)
    cases e270
    refine zst 7 rfl (zb3 BK264 <| zhc hx270_0 <| zhc hx270_1 <| zhc hx270_2 <| zhc hx270_3 <| zn0) fun hHeld HT_ => ?_
    generalize wc.drew = w21 at HO_7 BK264 HB hx270_0 hx270_1 hx270_2 hx270_3 hHeld ⊢
    repeat (first | refine zs1 ?_ | (refine zcl Tryz.func115 (spec_CellsOf.calls kj4 a0_0 a0_1 a0_2 ((rd_T132 t265 a2).f0) ((rd_T132 t265 a2).f1) ((rd_T132 t265 a2).f2) ((rd_T132 t265 a2).f3) t271 _ A20.out) ?_; rintro e w23 ⟨v272, rfl, ho0, hb⟩; replace HO_7 := zR HO_7 hb; have HO273 := zl2 ho0; replace BK264 := zk BK264 hb; replace HB := zB hb; refine ⟨_, rfl, zHb hb hHeld, _, znb, fun hHeld => ?_⟩))
    refine zdn ?_
    try go_wp2
    go_loopg [8, 10] kj4 (fun kq v8 v10 w' => ∃ (x8_2 : ByteArray) (x10_2 : Int), v8 = .string x8_2 ∧ v10 = .int .i64 x10_2 ∧ Aside0 (spec_SlotPattern.l0 kq a1 x8_2 t271 x10_2 = some r) ∧ Aside0 (kq ≤ kj4) ∧ Aside0 (Kd.R (Kd.int .i64) 3 w' w.heap.size (fun _ => True) v272 t271) ∧ Aside0 (w'.heap[gb264]? = some (.cells #[.int .i64 a0_0, .int .i64 a0_1, .string a0_2] 32 (0, 0))) ∧ Aside0 (Below w.heap.size w w'))
    case atStart => exact ⟨((⟨#[]⟩ : ByteArray)), (0), rf, rf, H', ⟨Nat.le_refl _⟩, ⟨kr HO273⟩, ⟨bk BK264⟩, ⟨bel⟩⟩
    case round =>
     clear H'
     obtain ⟨x8_2, x10_2, rfl, rfl, HA, HK2, HO_9, BK264, HB⟩ := hrel
     cases gk with
     | zero => exact absurd HA.out (by simp [spec_SlotPattern.l0])
     | succ k2 =>
      have H := HA.out
      clear HA
      simp only [spec_SlotPattern.l0] at H
      replace H := zc H
      rcases H with ⟨c24b0, H⟩ | ⟨c24b0, H⟩
      ·
       replace H := zr H
       obtain ⟨c25b0, H⟩ := H
       by_cases c26 : 0 ≤ (rd t271 x10_2)
       ·
        rw [if_pos c26] at H
        have c26b0 := eq_true c26
        have c26b1 : decide (0 ≤ (rd t271 x10_2)) = true := decide_eq_true c26
        clear c26
        by_cases c27 : (rd t271 x10_2) ≤ (wrap64 ((rd t271 x10_2) + 1))
        ·
         rw [if_pos c27] at H
         have c27b0 := eq_true c27
         have c27b1 : decide ((rd t271 x10_2) ≤ (wrap64 ((rd t271 x10_2) + 1))) = true := decide_eq_true c27
         by_cases c28 : (wrap64 ((rd t271 x10_2) + 1)) ≤ (a1.size : Int)
         ·
          rw [if_pos c28] at H
          have c28b0 := eq_true c28
          have c28b1 : decide ((wrap64 ((rd t271 x10_2) + 1)) ≤ (a1.size : Int)) = true := decide_eq_true c28
          by_cases c29 : x8_2.size + (a1.extract ((rd t271 x10_2) : Int).toNat ((wrap64 ((rd t271 x10_2) + 1)) : Int).toNat).size ≤ 9223372036854775807
          ·
           rw [if_pos c29] at H
           have c29b0 := eq_true c29
           have c29b1 : decide (x8_2.size + (a1.extract ((rd t271 x10_2) : Int).toNat ((wrap64 ((rd t271 x10_2) + 1)) : Int).toNat).size ≤ 9223372036854775807) = true := decide_eq_true c29
           try have c29b2 : (9223372036854775807 < x8_2.size + (a1.extract ((rd t271 x10_2) : Int).toNat ((wrap64 ((rd t271 x10_2) + 1)) : Int).toNat).size) = False := eq_false (Nat.not_lt.2 c29)
           have H' := Aside0.mk H
           clear H
           obtain ⟨Ao30, co30, eo30⟩ := Kd.R_slice HO_9.out
           subst eo30
           try go_wp2
           obtain ⟨p274, q274, ad274, e274, hx274_0⟩ := zx (Kd.at_int (Kd.R_reads' HO_9.out).2.2 x10_2)
           cases e274
           obtain ⟨p275, q275, ad275, e275, hx275_0⟩ := zx (Kd.at_int (Kd.R_reads' HO_9.out).2.2 x10_2)
           obtain rfl : ad274 = ad275 := (by injection e275)
           go_quiet (fail)
           try go_wp2
           go_roundg k2
           case measure => have := HJ4.out; have := HK2.out; omega
           case rel => exact ⟨(x8_2 ++ (a1.extract ((rd t271 x10_2) : Int).toNat ((wrap64 ((rd t271 x10_2) + 1)) : Int).toNat)), (wrap64 (x10_2 + 1)), rf, rf, H', ⟨by have := HJ4.out; have := HK2.out; omega⟩, ⟨kr HO_9⟩, ⟨bk BK264⟩, ⟨bel⟩⟩
          ·
           rw [if_neg c29] at H
           exact absurd H (by simp)
         ·
          rw [if_neg c28] at H
          exact absurd H (by simp)
        ·
         rw [if_neg c27] at H
         exact absurd H (by simp)
       ·
        rw [if_neg c26] at H
        exact absurd H (by simp)
      ·
       obtain rfl := Option.some.inj H
       obtain ⟨Ao32, co32, eo32⟩ := Kd.R_slice HO_9.out
       subst eo32
       go_wp2
       go_ret
       exact ⟨er, bel⟩

/-! ### spec_RightSlots: function 53 -/
mutual
def spec_RightSlots.l0 : Nat → ByteArray → List Int → Int → List Int → List (S132) → Int → Int → Int → ByteArray → Option (List Int)
 | 0, _, _, _, _, _, _, _, _, _ => none
 | k + 1, a, b, c, d, e, f, g, h, i => if f < (e.length : Int) then ((spec_IsFill.f k g h i a).bind fun j => (spec_RightSlots.j1 k a b c d e f j g h i)) else (spec_RightSlots.j1 k a b c d e f false g h i)
def spec_RightSlots.j1 : Nat → ByteArray → List Int → Int → List Int → List (S132) → Int → Bool → Int → Int → ByteArray → Option (List Int)
 | 0, _, _, _, _, _, _, _, _, _, _ => none
 | k + 1, a, b, c, d, e, f, g, h, i, j => if g = true then ((spec_SlotPattern.f k h i j a f).bind fun l => ((spec_ChecksAnswer.f k b c f l).bind fun m => (if m = true then (if d.length < 17592186044416 then (spec_RightSlots.l0 k a b c (d ++ [f]) e (wrap64 (f + 1)) h i j) else (none)) else (spec_RightSlots.l0 k a b c d e (wrap64 (f + 1)) h i j)))) else (some d)
end
def spec_RightSlots.f (k : Nat) (a b : Int) (c d : ByteArray) (e : List Int) (f : Int) : Option (List Int) := (spec_SlotsOf.f k a b c).bind fun g => (spec_RightSlots.l0 k d e f (([] : List Int)) g 0 a b c)
set_option maxHeartbeats 8000000 in
set_option maxRecDepth 100000 in
theorem spec_RightSlots.calls (k : Nat) (a0_0 a0_1 : Int) (a0_2 a1 : ByteArray) (A2 : Option Addr) (c2 : Nat) (l2 : List Int) (a3 : Int) (r : List Int) (w : World) (hr2 : Kd.C (Kd.int .i64) w A2 l2.length l2) (hc2 : l2.length ≤ c2) (H : spec_RightSlots.f k a0_0 a0_1 a0_2 a1 l2 a3 = some r) :
  Calls Tryz.prog 53 #[.agg #[.int .i64 a0_0, .int .i64 a0_1, .string a0_2], .string a1, .slice A2 l2.length c2, .int .i64 a3] w fun e w' => ∃ v0_ : Value, e = .returned (v0_) ∧ Kd.R (Kd.int .i64) 3 w' w.heap.size (fun _ => True) v0_ r ∧ Below w.heap.size w w' := by
 have hu32 := Tryz.underlying32
 have HR2 := Aside0.mk hr2
 have HC2 := Aside0.mk hc2
 clear hr2 hc2
 have HB := Aside0.mk (Below.refl w.heap.size w)
 unfold spec_RightSlots.f at H
 generalize hy277 : (([] : List Int) : List Int) = y277 at H
 have Ny277 := Aside0.mk hy277.symm
 clear hy277
 replace H := zs H
 obtain ⟨t280, A5, H⟩ := H
 have H' := Aside0.mk H
 clear H
 go_enter Tryz.func53, Tryz.ntmps53
 go_wp2_with (first | ((with_reducible refine zd 4 rfl ?_); refine zbx (w := w) #[.int .i64 a0_0, .int .i64 a0_1, .string a0_2] 32 ?_; intro gb276 hg w6 BK276 hb; have GW276 := zg (w := w) hg; replace HB := zB hb; clear hb hg) | ((with_reducible refine gate_dst (N := 12) rfl ?_); refine Kd.R_lit (Kd.int .i64) _ 3 ?hg (N := 12) ?hd (xs := ([] : List Int)) (inner := []) (ok := fun _ => True) (okp := fun _ => True) ?hr ?hp (fun _ hk => hk) trivial (Below.refl _ _) (Nat.le_refl _) (by simp) ?_; (case hd => rfl); (case hg => rfl); (case hr => first | (go_simp; done) | (go_simp; rfl)); (case hp => exact (Reps.none _ _)); intro v278 w7 ho8 hb hg_ hnew_; clear hg_ hnew_; (first | rw [← Ny277.out] at ho8 | (simp only [Int.reduceToNat] at ho8; rw [← Ny277.out] at ho8)); have HO279 := zl2 ho8; replace BK276 := zk BK276 hb; replace HB := zB hb; clear hb ho8; have ⟨_, _, _, _, _, _⟩ := cz3 BK276) | ((with_reducible refine zd 14 rfl ?_); refine zgl Tryz.func87 (spec_SlotsOf.calls k a0_0 a0_1 a0_2 t280 _ A5.out) ?_; rintro e w10 ⟨v281, rfl, ho0, hb⟩; refine ⟨_, rfl, ?_⟩; replace HO279 := zR HO279 hb; have HO282 := zl2 ho0; replace BK276 := zk BK276 hb; replace HB := zB hb))
 go_loopg [9, 11] k (fun kq v9 v11 w' => ∃ (x9_1 : List Int) (x11_1 : Int), v11 = .int .i64 x11_1 ∧ Aside0 (spec_RightSlots.l0 kq a1 l2 a3 x9_1 t280 x11_1 a0_0 a0_1 a0_2 = some r) ∧ Aside0 (kq ≤ k) ∧ Aside0 (Kd.R (Kd.int .i64) 3 w' w.heap.size (fun _ => True) v9 x9_1) ∧ Aside0 (Kd.R k132 132 w' w.heap.size (fun _ => True) v281 t280) ∧ Aside0 (w'.heap[gb276]? = some (.cells #[.int .i64 a0_0, .int .i64 a0_1, .string a0_2] 32 (0, 0))) ∧ Aside0 (Below w.heap.size w w'))
 case atStart => exact ⟨(y277), (0), rf, H', ⟨Nat.le_refl _⟩, ⟨kr HO279⟩, ⟨kr HO282⟩, ⟨bk BK276⟩, ⟨bel⟩⟩
 case round =>
  clear H'
  obtain ⟨x9_1, x11_1, rfl, HA, HK1, HO_9, HO_10, BK276, HB⟩ := hrel
  cases gk with
  | zero => exact absurd HA.out (by simp [spec_RightSlots.l0])
  | succ k1 =>
   have H := HA.out
   clear HA
   simp only [spec_RightSlots.l0] at H
   have HC11 := Aside0.mk H
   clear H
   go_upto_region 4 with (fail)
   go_cut [23] (fun v23 wc => ∃ (kq : Nat) (x23_10 : Bool), v23 = .bool x23_10 ∧ Aside0 (spec_RightSlots.j1 kq a1 l2 a3 x9_1 t280 x11_1 x23_10 a0_0 a0_1 a0_2 = some r) ∧ Aside0 (kq ≤ k1) ∧ Aside0 (Kd.R (Kd.int .i64) 3 wc w.heap.size (fun _ => True) u9 x9_1) ∧ Aside0 (Kd.R k132 132 wc w.heap.size (fun _ => True) v281 t280) ∧ Aside0 (wc.heap[gb276]? = some (.cells #[.int .i64 a0_0, .int .i64 a0_1, .string a0_2] 32 (0, 0))) ∧ Aside0 (Below w.heap.size w wc))
   case first =>
    have H := HC11.out
    clear HC11
    replace H := zc H
    rcases H with ⟨c12b0, H⟩ | ⟨c12b0, H⟩
    ·
     (first | rw [c12b0] | (simp only [i64_w, i32_w]; rw [c12b0]) | skip)
     replace H := zs H
     obtain ⟨t283, A13, H⟩ := H
     have H' := Aside0.mk H
     clear H
     obtain ⟨Ao14, co14, eo14⟩ := Kd.R_slice HO_10.out
     subst eo14
     have ⟨_, _, _, _, _, _⟩ := cz3 BK276
     go_wp2_with (first | (go_at_call 50; (with_reducible refine (spec_IsFill.calls k1 a0_0 a0_1 a0_2 a1 t283 _ A13.out).mono ?_); rintro e w16 ⟨rfl, hb⟩; replace HO_9 := zR HO_9 hb; replace HO_10 := zR HO_10 hb; replace BK276 := zk BK276 hb; replace HB := zB hb))
     go_meet
     case rel => exact ⟨_, (t283), rf, H', ⟨by have := HK1.out; first | omega | exact Nat.le_refl _⟩, ⟨kr HO_9⟩, ⟨kr HO_10⟩, ⟨bk BK276⟩, ⟨bel⟩⟩
    ·
     (first | rw [c12b0] | (simp only [i64_w, i32_w]; rw [c12b0]) | skip)
     have H' := Aside0.mk H
     clear H
     obtain ⟨Ao17, co17, eo17⟩ := Kd.R_slice HO_10.out
     subst eo17
     go_wp2
     go_meet
     case rel => exact ⟨_, (false), rf, H', ⟨by have := HK1.out; first | omega | exact Nat.le_refl _⟩, ⟨kr HO_9⟩, ⟨kr HO_10⟩, ⟨bk BK276⟩, ⟨bel⟩⟩
   case rest =>
    clear HC11
    obtain ⟨kq, x23_10, rfl, HA, HJ10, HO_9, HO_10, BK276, HB⟩ := hcut
    cases kq with
    | zero => exact absurd HA.out (by simp [spec_RightSlots.j1])
    | succ kj10 =>
     have H := HA.out
     clear HA
     simp only [spec_RightSlots.j1] at H
     replace H := zb H
     rcases H with ⟨rfl, H⟩ | ⟨rfl, H⟩
     ·
      replace H := zs H
      obtain ⟨t284, A19, H⟩ := H
      replace H := zs H
      obtain ⟨t285, A20, H⟩ := H
      replace H := zb H
      rcases H with ⟨rfl, H⟩ | ⟨rfl, H⟩
      ·
       replace H := zl H
       obtain ⟨LMc22, H⟩ := H
       generalize hy286 : (x9_1 ++ [x11_1] : List Int) = y286 at H
       have Ny286 := Aside0.mk hy286.symm
       clear hy286
       have H' := Aside0.mk H
       clear H
       have ⟨_, _, _, _, _, _⟩ := cz3 BK276
       go_wp2_with (first | ((with_reducible refine zd 32 rfl ?_); refine zgl Tryz.func89 (spec_SlotPattern.calls kj10 a0_0 a0_1 a0_2 a1 x11_1 t284 _ A19.out) ?_; rintro e w24 ⟨rfl, hb⟩; refine ⟨_, rfl, ?_⟩; replace HO_9 := zR HO_9 hb; replace HO_10 := zR HO_10 hb; replace BK276 := zk BK276 hb; replace HB := zB hb) | ((with_reducible refine zd 33 rfl ?_); refine zgl Tryz.func88 (spec_ChecksAnswer.calls kj10 _ _ l2 a3 x11_1 t284 true _ (zC HR2) HC2.out A20.out) ?_; rintro e w25 ⟨rfl, hb⟩; refine ⟨_, rfl, ?_⟩; replace HO_9 := zR HO_9 hb; replace HO_10 := zR HO_10 hb; replace BK276 := zk BK276 hb; replace HB := zB hb) | ((with_reducible refine gate_builtin (b := .append) (xs := #[.tmp 34, .tmp 36]) rfl ?_); at_builtin; refine Kd.R_append (Kd.int .i64) (w0 := w) w.heap.size rfl (.tmp 34) (.tmp 36) 25 3 (.int .i64 0) 8 rfl Tryz.underlying25 info3 rfl (by decide) (by omega) u9 x9_1 x11_1 [.int .i64 x11_1] (fun _ => True) (fun _ => False) rfl rfl ?aP (fun _ hk => hk.elim) ?aF ?aO ?aB ?aS ?aL ?_; (case aP => exact rfl); (case aB => exact bel); (case aF => exact (fun _ _ => trivial)); (case aO => exact (kr HO_9)); (case aS => exact bsz); (case aL => have := LMc22.out; omega); intro v287 w26 ho hb hg hat; rw [← Ny286.out] at ho; replace HO_10 := Aside0.mk (Kd.R_over' (kr HO_10) (Kd.R_typed (kr HO_9)) (by decide) hg); replace BK276 := Aside0.mk (blk_grown (bk BK276) hg (Kd.R_ne HO_9.out BK276.out (by decide))); replace HB := Aside0.mk hb; have HO288 := Aside0.mk ho; clear HO_9; clear ho hb hg hat))
       go_roundg kj10
       case measure => have := HK1.out; have := HJ10.out; omega
       case rel => exact ⟨(y286), (wrap64 (x11_1 + 1)), rf, H', ⟨by have := HK1.out; have := HJ10.out; omega⟩, ⟨kr HO288⟩, ⟨kr HO_10⟩, ⟨bk BK276⟩, ⟨bel⟩⟩
      ·
       have H' := Aside0.mk H
       clear H
       have ⟨_, _, _, _, _, _⟩ := cz3 BK276
       go_wp2_with (first | ((with_reducible refine zd 32 rfl ?_); refine zgl Tryz.func89 (spec_SlotPattern.calls kj10 a0_0 a0_1 a0_2 a1 x11_1 t284 _ A19.out) ?_; rintro e w28 ⟨rfl, hb⟩; refine ⟨_, rfl, ?_⟩; replace HO_9 := zR HO_9 hb; replace HO_10 := zR HO_10 hb; replace BK276 := zk BK276 hb; replace HB := zB hb) | ((with_reducible refine zd 33 rfl ?_); refine zgl Tryz.func88 (spec_ChecksAnswer.calls kj10 _ _ l2 a3 x11_1 t284 false _ (zC HR2) HC2.out A20.out) ?_; rintro e w29 ⟨rfl, hb⟩; refine ⟨_, rfl, ?_⟩; replace HO_9 := zR HO_9 hb; replace HO_10 := zR HO_10 hb; replace BK276 := zk BK276 hb; replace HB := zB hb))
       go_roundg kj10
       case measure => have := HK1.out; have := HJ10.out; omega
       case rel => exact ⟨(x9_1), (wrap64 (x11_1 + 1)), rf, H', ⟨by have := HK1.out; have := HJ10.out; omega⟩, ⟨kr HO_9⟩, ⟨kr HO_10⟩, ⟨bk BK276⟩, ⟨bel⟩⟩
     ·
      obtain rfl := Option.some.inj H
      go_wp2
      go_ret
      exact ⟨_, er, kr HO_9, bel⟩

/-! ### spec_l15Ok: function 144 -/
mutual
def spec_l15Ok.j0 : Nat → List (S121) → Int → Bool → Int → ByteArray → Int → Int → Option (Bool)
 | 0, _, _, _, _, _, _, _ => none
 | k + 1, a, b, c, d, e, f, g => if c = true then (some false) else (if d = 4 then (spec_l15Ok.j1 k a b true d e f g) else (spec_l15Ok.j1 k a b (d == 5) d e f g))
def spec_l15Ok.j1 : Nat → List (S121) → Int → Bool → Int → ByteArray → Int → Int → Option (Bool)
 | 0, _, _, _, _, _, _, _ => none
 | k + 1, a, b, c, d, e, f, g => if d = 1 then (if f = 0 then (some (g == 0)) else (some false)) else ((spec_l1In.f f 0 (wrap64 (b - 1))).bind fun h => (if h = true then (if c = true then ((spec_l1In.f g 0 (wrap64 (b - 1))).bind fun i => (if i = true then (some true) else (some false))) else (if g = 0 then (if d = 2 then (some true) else (if 0 ≤ f then (if f < (a.length : Int) then (some (((rd_T121 a f).f0) == 1)) else (none)) else (none))) else (some false))) else (some false)))
end
def spec_l15Ok.f (k : Nat) (a : List (S121)) (b : Int) : Option (Bool) := if 0 ≤ b then (if b < (a.length : Int) then ((spec_l1In.f ((rd_T121 a b).f0) 1 9).bind fun c => (if c = true then ((spec_IsWord.f k ((rd_T121 a b).f1)).bind fun d => (if ((((rd_T121 a b).f0) == 1) != d) = true then (spec_l15Ok.j0 k a b true ((rd_T121 a b).f0) ((rd_T121 a b).f1) ((rd_T121 a b).f2) ((rd_T121 a b).f3)) else (if ((rd_T121 a b).f0) = 1 then (spec_l15Ok.j0 k a b false ((rd_T121 a b).f0) ((rd_T121 a b).f1) ((rd_T121 a b).f2) ((rd_T121 a b).f3)) else (spec_l15Ok.j0 k a b (((rd_T121 a b).f1).toList != ([] : List UInt8)) ((rd_T121 a b).f0) ((rd_T121 a b).f1) ((rd_T121 a b).f2) ((rd_T121 a b).f3))))) else (spec_l15Ok.j0 k a b true ((rd_T121 a b).f0) ((rd_T121 a b).f1) ((rd_T121 a b).f2) ((rd_T121 a b).f3)))) else (none)) else (none)
set_option maxHeartbeats 8000000 in
set_option maxRecDepth 100000 in
theorem spec_l15Ok.calls (k : Nat) (A0 : Option Addr) (c0 : Nat) (l0 : List (S121)) (a1 : Int) (r : Bool) (w : World) (hr0 : Kd.C k121 w A0 l0.length l0) (hc0 : l0.length ≤ c0) (H : spec_l15Ok.f k l0 a1 = some r) :
  Calls Tryz.prog 144 #[.slice A0 l0.length c0, .int .i64 a1] w fun e w' => e = .returned (.bool r) ∧ Below w.heap.size w w' := by
 have hu121 := Tryz.underlying121
 have HR0 := Aside0.mk hr0
 have HC0 := Aside0.mk hc0
 clear hr0 hc0
 have HB := Aside0.mk (Below.refl w.heap.size w)
 unfold spec_l15Ok.f at H
 replace H := zr H
 obtain ⟨c3b0, H⟩ := H
 replace H := zr H
 obtain ⟨c4b0, H⟩ := H
 have HC5 := Aside0.mk H
 clear H
 obtain ⟨p289, q289, ad289, e289, hx289_0, hx289_1, hx289_2, hx289_3⟩ := zx (at_T121 HR0.out a1)
 cases e289
 go_enter Tryz.func144, Tryz.ntmps144
 go_upto_region 2 with (first | ((with_reducible refine zd 5 rfl ?_); refine zbx (w := w) #[.int .i64 0, .string (⟨#[]⟩ : ByteArray), .int .i64 0, .int .i64 0] 121 ?_; intro gb290 hg w6 BK290 hb; have GW290 := zg (w := w) hg; replace HB := zB hb; clear hb hg; have ⟨_, _, _, _, _, _, _, _⟩ := cz4 BK290))
 repeat (go_quiet (first | ((with_reducible refine zd 5 rfl ?_); refine zbx (w := w) #[.int .i64 0, .string (⟨#[]⟩ : ByteArray), .int .i64 0, .int .i64 0] 121 ?_; intro gb290 hg w6 BK290 hb; have GW290 := zg (w := w) hg; replace HB := zB hb; clear hb hg; have ⟨_, _, _, _, _, _, _, _⟩ := cz4 BK290)); go_upto_region 2 with (first | ((with_reducible refine zd 5 rfl ?_); refine zbx (w := w) #[.int .i64 0, .string (⟨#[]⟩ : ByteArray), .int .i64 0, .int .i64 0] 121 ?_; intro gb290 hg w6 BK290 hb; have GW290 := zg (w := w) hg; replace HB := zB hb; clear hb hg; have ⟨_, _, _, _, _, _, _, _⟩ := cz4 BK290)))
 (try simp only [Act.put, List.setIfInBounds_toArray, List.set_cons_zero, List.set_cons_succ])
 go_cut [33] (fun v33 wc => ∃ (kq : Nat) (x33_4 : Bool), v33 = .bool x33_4 ∧ Aside0 (spec_l15Ok.j0 kq l0 a1 x33_4 ((rd_T121 l0 a1).f0) ((rd_T121 l0 a1).f1) ((rd_T121 l0 a1).f2) ((rd_T121 l0 a1).f3) = some r) ∧ Aside0 (kq ≤ k) ∧ Aside0 (wc.heap[gb290]? = some (.cells #[.int .i64 ((rd_T121 l0 a1).f0), .string ((rd_T121 l0 a1).f1), .int .i64 ((rd_T121 l0 a1).f2), .int .i64 ((rd_T121 l0 a1).f3)] 121 (0, 0))) ∧ Aside0 (Below w.heap.size w wc))
 case first =>
  have H := HC5.out
  clear HC5
  replace H := zs H
  obtain ⟨t291, A8, H⟩ := H
  replace H := zb H
  rcases H with ⟨rfl, H⟩ | ⟨rfl, H⟩
  ·
   replace H := zs H
   obtain ⟨t292, A10, H⟩ := H
   by_cases c11 : ((((rd_T121 l0 a1).f0) == 1) != t292) = true
   ·
    rw [if_pos c11] at H
    have c11b0 : ((((rd_T121 l0 a1).f0) == 1) != t292) = true := c11
    (try (have c11b1 : decide ((((rd_T121 l0 a1).f0) == 1) = t292) = false := by simpa using c11))
    (try (have c11b2 : ((((rd_T121 l0 a1).f0) == 1) == t292) = false := by simpa using c11))
    (try (have c11b3 : ¬ ((((rd_T121 l0 a1).f0) == 1) = t292) := by simpa using c11))
    clear c11
    (first | rw [c11b0] | (simp only [i64_w, i32_w]; rw [c11b0]) | skip)
    have H' := Aside0.mk H
    clear H
    have ⟨_, _, _, _, _, _, _, _⟩ := cz4 BK290
    go_wp2_with (first | (go_at_call 45; (with_reducible refine (spec_l1In.calls ((rd_T121 l0 a1).f0) 1 9 true _ A8.out).mono ?_); rintro e w' ⟨rfl, ⟨nd, rfl⟩⟩; (try first | exact ⟨rfl, _, World.drewN_drewN _ _ _⟩ | exact ⟨rfl, _, Eq.trans (World.drewN_drewN _ _ _) (congrArg (World.drewN _) (Nat.add_assoc _ _ _))⟩)) | (go_at_call 113; (with_reducible refine (spec_IsWord.calls k ((rd_T121 l0 a1).f1) t292 _ A10.out).mono ?_); rintro e w' ⟨rfl, ⟨nd, rfl⟩⟩; (try first | exact ⟨rfl, _, World.drewN_drewN _ _ _⟩ | exact ⟨rfl, _, Eq.trans (World.drewN_drewN _ _ _) (congrArg (World.drewN _) (Nat.add_assoc _ _ _))⟩)))
    repeat (go_quiet (first | (go_at_call 45; (with_reducible refine (spec_l1In.calls ((rd_T121 l0 a1).f0) 1 9 true _ A8.out).mono ?_); rintro e w' ⟨rfl, ⟨nd, rfl⟩⟩; (try first | exact ⟨rfl, _, World.drewN_drewN _ _ _⟩ | exact ⟨rfl, _, Eq.trans (World.drewN_drewN _ _ _) (congrArg (World.drewN _) (Nat.add_assoc _ _ _))⟩)) | (go_at_call 113; (with_reducible refine (spec_IsWord.calls k ((rd_T121 l0 a1).f1) t292 _ A10.out).mono ?_); rintro e w' ⟨rfl, ⟨nd, rfl⟩⟩; (try first | exact ⟨rfl, _, World.drewN_drewN _ _ _⟩ | exact ⟨rfl, _, Eq.trans (World.drewN_drewN _ _ _) (congrArg (World.drewN _) (Nat.add_assoc _ _ _))⟩))); try go_wp2_with (first | (go_at_call 45; (with_reducible refine (spec_l1In.calls ((rd_T121 l0 a1).f0) 1 9 true _ A8.out).mono ?_); rintro e w' ⟨rfl, ⟨nd, rfl⟩⟩; (try first | exact ⟨rfl, _, World.drewN_drewN _ _ _⟩ | exact ⟨rfl, _, Eq.trans (World.drewN_drewN _ _ _) (congrArg (World.drewN _) (Nat.add_assoc _ _ _))⟩)) | (go_at_call 113; (with_reducible refine (spec_IsWord.calls k ((rd_T121 l0 a1).f1) t292 _ A10.out).mono ?_); rintro e w' ⟨rfl, ⟨nd, rfl⟩⟩; (try first | exact ⟨rfl, _, World.drewN_drewN _ _ _⟩ | exact ⟨rfl, _, Eq.trans (World.drewN_drewN _ _ _) (congrArg (World.drewN _) (Nat.add_assoc _ _ _))⟩))))
    go_meet
    case rel => exact ⟨_, (true), rf, H', ⟨by first | omega | exact Nat.le_refl _⟩, zkg BK290, ⟨bel⟩⟩
   ·
    rw [if_neg c11] at H
    have c11b0 : ((((rd_T121 l0 a1).f0) == 1) != t292) = false := by simpa using c11
    (try (have c11b1 : decide ((((rd_T121 l0 a1).f0) == 1) = t292) = true := by simpa using c11))
    (try (have c11b2 : ((((rd_T121 l0 a1).f0) == 1) == t292) = true := by simpa using c11))
    clear c11
    (first | rw [c11b0] | (simp only [i64_w, i32_w]; rw [c11b0]) | skip)
    by_cases c13 : ((rd_T121 l0 a1).f0) = 1
    ·
     rw [if_pos c13] at H
     have c13b0 : (((rd_T121 l0 a1).f0) == 1) = true := beq_iff_eq.mpr c13
     have c13b1 : (((rd_T121 l0 a1).f0) != 1) = false := bne_eq_false_iff_eq.mpr c13
     clear c13
     have ht_ : t292 = true := by rw [c13b0] at c11b0; simpa using c11b0
     subst ht_
     have H' := Aside0.mk H
     clear H
     have ⟨_, _, _, _, _, _, _, _⟩ := cz4 BK290
     go_wp2_with (first | (go_at_call 45; (with_reducible refine (spec_l1In.calls ((rd_T121 l0 a1).f0) 1 9 true _ A8.out).mono ?_); rintro e w' ⟨rfl, ⟨nd, rfl⟩⟩; (try first | exact ⟨rfl, _, World.drewN_drewN _ _ _⟩ | exact ⟨rfl, _, Eq.trans (World.drewN_drewN _ _ _) (congrArg (World.drewN _) (Nat.add_assoc _ _ _))⟩)) | (go_at_call 113; (with_reducible refine (spec_IsWord.calls k ((rd_T121 l0 a1).f1) true _ A10.out).mono ?_); rintro e w' ⟨rfl, ⟨nd, rfl⟩⟩; (try first | exact ⟨rfl, _, World.drewN_drewN _ _ _⟩ | exact ⟨rfl, _, Eq.trans (World.drewN_drewN _ _ _) (congrArg (World.drewN _) (Nat.add_assoc _ _ _))⟩)))
     repeat (go_quiet (first | (go_at_call 45; (with_reducible refine (spec_l1In.calls ((rd_T121 l0 a1).f0) 1 9 true _ A8.out).mono ?_); rintro e w' ⟨rfl, ⟨nd, rfl⟩⟩; (try first | exact ⟨rfl, _, World.drewN_drewN _ _ _⟩ | exact ⟨rfl, _, Eq.trans (World.drewN_drewN _ _ _) (congrArg (World.drewN _) (Nat.add_assoc _ _ _))⟩)) | (go_at_call 113; (with_reducible refine (spec_IsWord.calls k ((rd_T121 l0 a1).f1) true _ A10.out).mono ?_); rintro e w' ⟨rfl, ⟨nd, rfl⟩⟩; (try first | exact ⟨rfl, _, World.drewN_drewN _ _ _⟩ | exact ⟨rfl, _, Eq.trans (World.drewN_drewN _ _ _) (congrArg (World.drewN _) (Nat.add_assoc _ _ _))⟩))); try go_wp2_with (first | (go_at_call 45; (with_reducible refine (spec_l1In.calls ((rd_T121 l0 a1).f0) 1 9 true _ A8.out).mono ?_); rintro e w' ⟨rfl, ⟨nd, rfl⟩⟩; (try first | exact ⟨rfl, _, World.drewN_drewN _ _ _⟩ | exact ⟨rfl, _, Eq.trans (World.drewN_drewN _ _ _) (congrArg (World.drewN _) (Nat.add_assoc _ _ _))⟩)) | (go_at_call 113; (with_reducible refine (spec_IsWord.calls k ((rd_T121 l0 a1).f1) true _ A10.out).mono ?_); rintro e w' ⟨rfl, ⟨nd, rfl⟩⟩; (try first | exact ⟨rfl, _, World.drewN_drewN _ _ _⟩ | exact ⟨rfl, _, Eq.trans (World.drewN_drewN _ _ _) (congrArg (World.drewN _) (Nat.add_assoc _ _ _))⟩))))
     go_meet
     case rel => exact ⟨_, (false), rf, H', ⟨by first | omega | exact Nat.le_refl _⟩, zkg BK290, ⟨bel⟩⟩
    ·
     rw [if_neg c13] at H
     have c13b0 : (((rd_T121 l0 a1).f0) == 1) = false := beq_eq_false_iff_ne.mpr c13
     have c13b1 : (((rd_T121 l0 a1).f0) != 1) = true := bne_iff_ne.mpr c13
     have ht_ : t292 = false := by rw [c13b0] at c11b0; simpa using c11b0
     subst ht_
     have H' := Aside0.mk H
     clear H
     have ⟨_, _, _, _, _, _, _, _⟩ := cz4 BK290
     go_wp2_with (first | (go_at_call 45; (with_reducible refine (spec_l1In.calls ((rd_T121 l0 a1).f0) 1 9 true _ A8.out).mono ?_); rintro e w' ⟨rfl, ⟨nd, rfl⟩⟩; (try first | exact ⟨rfl, _, World.drewN_drewN _ _ _⟩ | exact ⟨rfl, _, Eq.trans (World.drewN_drewN _ _ _) (congrArg (World.drewN _) (Nat.add_assoc _ _ _))⟩)) | (go_at_call 113; (with_reducible refine (spec_IsWord.calls k ((rd_T121 l0 a1).f1) false _ A10.out).mono ?_); rintro e w' ⟨rfl, ⟨nd, rfl⟩⟩; (try first | exact ⟨rfl, _, World.drewN_drewN _ _ _⟩ | exact ⟨rfl, _, Eq.trans (World.drewN_drewN _ _ _) (congrArg (World.drewN _) (Nat.add_assoc _ _ _))⟩)))
     repeat (go_quiet (first | (go_at_call 45; (with_reducible refine (spec_l1In.calls ((rd_T121 l0 a1).f0) 1 9 true _ A8.out).mono ?_); rintro e w' ⟨rfl, ⟨nd, rfl⟩⟩; (try first | exact ⟨rfl, _, World.drewN_drewN _ _ _⟩ | exact ⟨rfl, _, Eq.trans (World.drewN_drewN _ _ _) (congrArg (World.drewN _) (Nat.add_assoc _ _ _))⟩)) | (go_at_call 113; (with_reducible refine (spec_IsWord.calls k ((rd_T121 l0 a1).f1) false _ A10.out).mono ?_); rintro e w' ⟨rfl, ⟨nd, rfl⟩⟩; (try first | exact ⟨rfl, _, World.drewN_drewN _ _ _⟩ | exact ⟨rfl, _, Eq.trans (World.drewN_drewN _ _ _) (congrArg (World.drewN _) (Nat.add_assoc _ _ _))⟩))); try go_wp2_with (first | (go_at_call 45; (with_reducible refine (spec_l1In.calls ((rd_T121 l0 a1).f0) 1 9 true _ A8.out).mono ?_); rintro e w' ⟨rfl, ⟨nd, rfl⟩⟩; (try first | exact ⟨rfl, _, World.drewN_drewN _ _ _⟩ | exact ⟨rfl, _, Eq.trans (World.drewN_drewN _ _ _) (congrArg (World.drewN _) (Nat.add_assoc _ _ _))⟩)) | (go_at_call 113; (with_reducible refine (spec_IsWord.calls k ((rd_T121 l0 a1).f1) false _ A10.out).mono ?_); rintro e w' ⟨rfl, ⟨nd, rfl⟩⟩; (try first | exact ⟨rfl, _, World.drewN_drewN _ _ _⟩ | exact ⟨rfl, _, Eq.trans (World.drewN_drewN _ _ _) (congrArg (World.drewN _) (Nat.add_assoc _ _ _))⟩))))
     go_meet
     case rel => exact ⟨_, ((((rd_T121 l0 a1).f1).toList != ([] : List UInt8))), (by first | rfl | (simp; done) | (simp [*]; done) | (simp; generalize ((rd_T121 l0 a1).f1).toList = l_; cases l_ <;> simp)), H', ⟨by first | omega | exact Nat.le_refl _⟩, zkg BK290, ⟨bel⟩⟩
  ·
   have H' := Aside0.mk H
   clear H
   have ⟨_, _, _, _, _, _, _, _⟩ := cz4 BK290
   go_wp2_with (first | (go_at_call 45; (with_reducible refine (spec_l1In.calls ((rd_T121 l0 a1).f0) 1 9 false _ A8.out).mono ?_); rintro e w' ⟨rfl, ⟨nd, rfl⟩⟩; (try first | exact ⟨rfl, _, World.drewN_drewN _ _ _⟩ | exact ⟨rfl, _, Eq.trans (World.drewN_drewN _ _ _) (congrArg (World.drewN _) (Nat.add_assoc _ _ _))⟩)))
   repeat (go_quiet (first | (go_at_call 45; (with_reducible refine (spec_l1In.calls ((rd_T121 l0 a1).f0) 1 9 false _ A8.out).mono ?_); rintro e w' ⟨rfl, ⟨nd, rfl⟩⟩; (try first | exact ⟨rfl, _, World.drewN_drewN _ _ _⟩ | exact ⟨rfl, _, Eq.trans (World.drewN_drewN _ _ _) (congrArg (World.drewN _) (Nat.add_assoc _ _ _))⟩))); try go_wp2_with (first | (go_at_call 45; (with_reducible refine (spec_l1In.calls ((rd_T121 l0 a1).f0) 1 9 false _ A8.out).mono ?_); rintro e w' ⟨rfl, ⟨nd, rfl⟩⟩; (try first | exact ⟨rfl, _, World.drewN_drewN _ _ _⟩ | exact ⟨rfl, _, Eq.trans (World.drewN_drewN _ _ _) (congrArg (World.drewN _) (Nat.add_assoc _ _ _))⟩))))
   go_meet
   case rel => exact ⟨_, (true), rf, H', ⟨by first | omega | exact Nat.le_refl _⟩, zkg BK290, ⟨bel⟩⟩
 case rest =>
  clear HC5
  obtain ⟨kq, x33_4, rfl, HA, HJ4, BK290, HB⟩ := hcut
  cases kq with
  | zero => exact absurd HA.out (by simp [spec_l15Ok.j0])
  | succ kj4 =>
   have H := HA.out
   clear HA
   simp only [spec_l15Ok.j0] at H
   replace H := zb H
   rcases H with ⟨rfl, H⟩ | ⟨rfl, H⟩
   ·
    obtain rfl := Option.some.inj H
    go_wp2
    repeat (go_quiet (fail); try go_wp2)
    go_ret
    exact ⟨er, bel⟩
   ·
    have HC18 := Aside0.mk H
    clear H
    go_upto_region 4 with (fail)
    repeat (go_quiet (fail); go_upto_region 4 with (fail))
    go_cut [6] (fun v6 wc => ∃ (kq : Nat) (x6_17 : Bool), v6 = .bool x6_17 ∧ Aside0 (spec_l15Ok.j1 kq l0 a1 x6_17 ((rd_T121 l0 a1).f0) ((rd_T121 l0 a1).f1) ((rd_T121 l0 a1).f2) ((rd_T121 l0 a1).f3) = some r) ∧ Aside0 (kq ≤ kj4) ∧ Aside0 (wc.heap[gb290]? = some (.cells #[.int .i64 ((rd_T121 l0 a1).f0), .string ((rd_T121 l0 a1).f1), .int .i64 ((rd_T121 l0 a1).f2), .int .i64 ((rd_T121 l0 a1).f3)] 121 (0, 0))) ∧ Aside0 (Below w.heap.size w wc))
    case first =>
     have H := HC18.out
     clear HC18
     by_cases c19 : ((rd_T121 l0 a1).f0) = 4
     ·
      rw [if_pos c19] at H
      have c19b0 : (((rd_T121 l0 a1).f0) == 4) = true := beq_iff_eq.mpr c19
      have c19b1 : (((rd_T121 l0 a1).f0) != 4) = false := bne_eq_false_iff_eq.mpr c19
      clear c19
      (first | rw [c19b0] | (simp only [i64_w, i32_w]; rw [c19b0]) | skip)
      have H' := Aside0.mk H
      clear H
      have ⟨_, _, _, _, _, _, _, _⟩ := cz4 BK290
      go_wp2
      repeat (go_quiet (fail); try go_wp2)
      go_meet
      case rel => exact ⟨_, (true), rf, H', ⟨by have := HJ4.out; first | omega | exact Nat.le_refl _⟩, ⟨bk BK290⟩, ⟨bel⟩⟩
     ·
      rw [if_neg c19] at H
      have c19b0 : (((rd_T121 l0 a1).f0) == 4) = false := beq_eq_false_iff_ne.mpr c19
      have c19b1 : (((rd_T121 l0 a1).f0) != 4) = true := bne_iff_ne.mpr c19
      (first | rw [c19b0] | (simp only [i64_w, i32_w]; rw [c19b0]) | skip)
      have H' := Aside0.mk H
      clear H
      have ⟨_, _, _, _, _, _, _, _⟩ := cz4 BK290
      go_wp2
      repeat (go_quiet (fail); try go_wp2)
      go_meet
      case rel => exact ⟨_, ((((rd_T121 l0 a1).f0) == 5)), rf, H', ⟨by have := HJ4.out; first | omega | exact Nat.le_refl _⟩, ⟨bk BK290⟩, ⟨bel⟩⟩
    case rest =>
     clear HC18
     obtain ⟨kq, x6_17, rfl, HA, HJ17, BK290, HB⟩ := hcut
     cases kq with
     | zero => exact absurd HA.out (by simp [spec_l15Ok.j1])
     | succ kj17 =>
      have H := HA.out
      clear HA
      simp only [spec_l15Ok.j1] at H
      by_cases c22 : ((rd_T121 l0 a1).f0) = 1
      ·
       rw [if_pos c22] at H
       have c22b0 : (((rd_T121 l0 a1).f0) == 1) = true := beq_iff_eq.mpr c22
       have c22b1 : (((rd_T121 l0 a1).f0) != 1) = false := bne_eq_false_iff_eq.mpr c22
       clear c22
       by_cases c23 : ((rd_T121 l0 a1).f2) = 0
       ·
        rw [if_pos c23] at H
        have c23b0 : (((rd_T121 l0 a1).f2) == 0) = true := beq_iff_eq.mpr c23
        have c23b1 : (((rd_T121 l0 a1).f2) != 0) = false := bne_eq_false_iff_eq.mpr c23
        clear c23
        obtain rfl := Option.some.inj H
        have ⟨_, _, _, _, _, _, _, _⟩ := cz4 BK290
        go_wp2
        repeat (go_quiet (fail); try go_wp2)
        go_ret
        exact ⟨er, bel⟩
       ·
        rw [if_neg c23] at H
        have c23b0 : (((rd_T121 l0 a1).f2) == 0) = false := beq_eq_false_iff_ne.mpr c23
        have c23b1 : (((rd_T121 l0 a1).f2) != 0) = true := bne_iff_ne.mpr c23
        obtain rfl := Option.some.inj H
        have ⟨_, _, _, _, _, _, _, _⟩ := cz4 BK290
        go_wp2
        repeat (go_quiet (fail); try go_wp2)
        go_ret
        exact ⟨er, bel⟩
      ·
       rw [if_neg c22] at H
       have c22b0 : (((rd_T121 l0 a1).f0) == 1) = false := beq_eq_false_iff_ne.mpr c22
       have c22b1 : (((rd_T121 l0 a1).f0) != 1) = true := bne_iff_ne.mpr c22
       replace H := zs H
       obtain ⟨t293, A26, H⟩ := H
       replace H := zb H
       rcases H with ⟨rfl, H⟩ | ⟨rfl, H⟩
       ·
        replace H := zb H
        rcases H with ⟨rfl, H⟩ | ⟨rfl, H⟩
        ·
         replace H := zs H
         obtain ⟨t294, A29, H⟩ := H
         replace H := zb H
         rcases H with ⟨rfl, H⟩ | ⟨rfl, H⟩
         ·
          obtain rfl := Option.some.inj H
          have ⟨_, _, _, _, _, _, _, _⟩ := cz4 BK290
          go_wp2_with (first | (go_at_call 45; (with_reducible refine (spec_l1In.calls ((rd_T121 l0 a1).f2) 0 (wrap64 (a1 - 1)) true _ A26.out).mono ?_); rintro e w' ⟨rfl, ⟨nd, rfl⟩⟩; (try first | exact ⟨rfl, _, World.drewN_drewN _ _ _⟩ | exact ⟨rfl, _, Eq.trans (World.drewN_drewN _ _ _) (congrArg (World.drewN _) (Nat.add_assoc _ _ _))⟩)) | (go_at_call 45; (with_reducible refine (spec_l1In.calls ((rd_T121 l0 a1).f3) 0 (wrap64 (a1 - 1)) true _ A29.out).mono ?_); rintro e w' ⟨rfl, ⟨nd, rfl⟩⟩; (try first | exact ⟨rfl, _, World.drewN_drewN _ _ _⟩ | exact ⟨rfl, _, Eq.trans (World.drewN_drewN _ _ _) (congrArg (World.drewN _) (Nat.add_assoc _ _ _))⟩)))
          repeat (go_quiet (first | (go_at_call 45; (with_reducible refine (spec_l1In.calls ((rd_T121 l0 a1).f2) 0 (wrap64 (a1 - 1)) true _ A26.out).mono ?_); rintro e w' ⟨rfl, ⟨nd, rfl⟩⟩; (try first | exact ⟨rfl, _, World.drewN_drewN _ _ _⟩ | exact ⟨rfl, _, Eq.trans (World.drewN_drewN _ _ _) (congrArg (World.drewN _) (Nat.add_assoc _ _ _))⟩)) | (go_at_call 45; (with_reducible refine (spec_l1In.calls ((rd_T121 l0 a1).f3) 0 (wrap64 (a1 - 1)) true _ A29.out).mono ?_); rintro e w' ⟨rfl, ⟨nd, rfl⟩⟩; (try first | exact ⟨rfl, _, World.drewN_drewN _ _ _⟩ | exact ⟨rfl, _, Eq.trans (World.drewN_drewN _ _ _) (congrArg (World.drewN _) (Nat.add_assoc _ _ _))⟩))); try go_wp2_with (first | (go_at_call 45; (with_reducible refine (spec_l1In.calls ((rd_T121 l0 a1).f2) 0 (wrap64 (a1 - 1)) true _ A26.out).mono ?_); rintro e w' ⟨rfl, ⟨nd, rfl⟩⟩; (try first | exact ⟨rfl, _, World.drewN_drewN _ _ _⟩ | exact ⟨rfl, _, Eq.trans (World.drewN_drewN _ _ _) (congrArg (World.drewN _) (Nat.add_assoc _ _ _))⟩)) | (go_at_call 45; (with_reducible refine (spec_l1In.calls ((rd_T121 l0 a1).f3) 0 (wrap64 (a1 - 1)) true _ A29.out).mono ?_); rintro e w' ⟨rfl, ⟨nd, rfl⟩⟩; (try first | exact ⟨rfl, _, World.drewN_drewN _ _ _⟩ | exact ⟨rfl, _, Eq.trans (World.drewN_drewN _ _ _) (congrArg (World.drewN _) (Nat.add_assoc _ _ _))⟩))))
          go_ret
          exact ⟨er, bel⟩
         ·
          obtain rfl := Option.some.inj H
          have ⟨_, _, _, _, _, _, _, _⟩ := cz4 BK290
          go_wp2_with (first | (go_at_call 45; (with_reducible refine (spec_l1In.calls ((rd_T121 l0 a1).f2) 0 (wrap64 (a1 - 1)) true _ A26.out).mono ?_); rintro e w' ⟨rfl, ⟨nd, rfl⟩⟩; (try first | exact ⟨rfl, _, World.drewN_drewN _ _ _⟩ | exact ⟨rfl, _, Eq.trans (World.drewN_drewN _ _ _) (congrArg (World.drewN _) (Nat.add_assoc _ _ _))⟩)) | (go_at_call 45; (with_reducible refine (spec_l1In.calls ((rd_T121 l0 a1).f3) 0 (wrap64 (a1 - 1)) false _ A29.out).mono ?_); rintro e w' ⟨rfl, ⟨nd, rfl⟩⟩; (try first | exact ⟨rfl, _, World.drewN_drewN _ _ _⟩ | exact ⟨rfl, _, Eq.trans (World.drewN_drewN _ _ _) (congrArg (World.drewN _) (Nat.add_assoc _ _ _))⟩)))
          repeat (go_quiet (first | (go_at_call 45; (with_reducible refine (spec_l1In.calls ((rd_T121 l0 a1).f2) 0 (wrap64 (a1 - 1)) true _ A26.out).mono ?_); rintro e w' ⟨rfl, ⟨nd, rfl⟩⟩; (try first | exact ⟨rfl, _, World.drewN_drewN _ _ _⟩ | exact ⟨rfl, _, Eq.trans (World.drewN_drewN _ _ _) (congrArg (World.drewN _) (Nat.add_assoc _ _ _))⟩)) | (go_at_call 45; (with_reducible refine (spec_l1In.calls ((rd_T121 l0 a1).f3) 0 (wrap64 (a1 - 1)) false _ A29.out).mono ?_); rintro e w' ⟨rfl, ⟨nd, rfl⟩⟩; (try first | exact ⟨rfl, _, World.drewN_drewN _ _ _⟩ | exact ⟨rfl, _, Eq.trans (World.drewN_drewN _ _ _) (congrArg (World.drewN _) (Nat.add_assoc _ _ _))⟩))); try go_wp2_with (first | (go_at_call 45; (with_reducible refine (spec_l1In.calls ((rd_T121 l0 a1).f2) 0 (wrap64 (a1 - 1)) true _ A26.out).mono ?_); rintro e w' ⟨rfl, ⟨nd, rfl⟩⟩; (try first | exact ⟨rfl, _, World.drewN_drewN _ _ _⟩ | exact ⟨rfl, _, Eq.trans (World.drewN_drewN _ _ _) (congrArg (World.drewN _) (Nat.add_assoc _ _ _))⟩)) | (go_at_call 45; (with_reducible refine (spec_l1In.calls ((rd_T121 l0 a1).f3) 0 (wrap64 (a1 - 1)) false _ A29.out).mono ?_); rintro e w' ⟨rfl, ⟨nd, rfl⟩⟩; (try first | exact ⟨rfl, _, World.drewN_drewN _ _ _⟩ | exact ⟨rfl, _, Eq.trans (World.drewN_drewN _ _ _) (congrArg (World.drewN _) (Nat.add_assoc _ _ _))⟩))))
          go_ret
          exact ⟨er, bel⟩
        ·
         by_cases c33 : ((rd_T121 l0 a1).f3) = 0
         ·
          rw [if_pos c33] at H
          have c33b0 : (((rd_T121 l0 a1).f3) == 0) = true := beq_iff_eq.mpr c33
          have c33b1 : (((rd_T121 l0 a1).f3) != 0) = false := bne_eq_false_iff_eq.mpr c33
          clear c33
          by_cases c34 : ((rd_T121 l0 a1).f0) = 2
          ·
           rw [if_pos c34] at H
           have c34b0 : (((rd_T121 l0 a1).f0) == 2) = true := beq_iff_eq.mpr c34
           have c34b1 : (((rd_T121 l0 a1).f0) != 2) = false := bne_eq_false_iff_eq.mpr c34
           clear c34
           obtain rfl := Option.some.inj H
           have ⟨_, _, _, _, _, _, _, _⟩ := cz4 BK290
           go_wp2_with (first | (go_at_call 45; (with_reducible refine (spec_l1In.calls ((rd_T121 l0 a1).f2) 0 (wrap64 (a1 - 1)) true _ A26.out).mono ?_); rintro e w' ⟨rfl, ⟨nd, rfl⟩⟩; (try first | exact ⟨rfl, _, World.drewN_drewN _ _ _⟩ | exact ⟨rfl, _, Eq.trans (World.drewN_drewN _ _ _) (congrArg (World.drewN _) (Nat.add_assoc _ _ _))⟩)))
           repeat (go_quiet (first | (go_at_call 45; (with_reducible refine (spec_l1In.calls ((rd_T121 l0 a1).f2) 0 (wrap64 (a1 - 1)) true _ A26.out).mono ?_); rintro e w' ⟨rfl, ⟨nd, rfl⟩⟩; (try first | exact ⟨rfl, _, World.drewN_drewN _ _ _⟩ | exact ⟨rfl, _, Eq.trans (World.drewN_drewN _ _ _) (congrArg (World.drewN _) (Nat.add_assoc _ _ _))⟩))); try go_wp2_with (first | (go_at_call 45; (with_reducible refine (spec_l1In.calls ((rd_T121 l0 a1).f2) 0 (wrap64 (a1 - 1)) true _ A26.out).mono ?_); rintro e w' ⟨rfl, ⟨nd, rfl⟩⟩; (try first | exact ⟨rfl, _, World.drewN_drewN _ _ _⟩ | exact ⟨rfl, _, Eq.trans (World.drewN_drewN _ _ _) (congrArg (World.drewN _) (Nat.add_assoc _ _ _))⟩))))
           go_ret
           exact ⟨er, bel⟩
          ·
           rw [if_neg c34] at H
           have c34b0 : (((rd_T121 l0 a1).f0) == 2) = false := beq_eq_false_iff_ne.mpr c34
           have c34b1 : (((rd_T121 l0 a1).f0) != 2) = true := bne_iff_ne.mpr c34
           replace H := zr H
           obtain ⟨c36b0, H⟩ := H
           replace H := zr H
           obtain ⟨c37b0, H⟩ := H
           obtain rfl := Option.some.inj H
           have ⟨_, _, _, _, _, _, _, _⟩ := cz4 BK290
           go_wp2_with (first | (go_at_call 45; (with_reducible refine (spec_l1In.calls ((rd_T121 l0 a1).f2) 0 (wrap64 (a1 - 1)) true _ A26.out).mono ?_); rintro e w' ⟨rfl, ⟨nd, rfl⟩⟩; (try first | exact ⟨rfl, _, World.drewN_drewN _ _ _⟩ | exact ⟨rfl, _, Eq.trans (World.drewN_drewN _ _ _) (congrArg (World.drewN _) (Nat.add_assoc _ _ _))⟩); have p295 : 0 ≤ (((rd_T121 l0 a1).f2) : Int) := of_decide_eq_true asm; have q295 : ((rd_T121 l0 a1).f2) < (l0.length : Int) := of_decide_eq_true asm; obtain ⟨ad295, e295, hx295_0, hx295_1, hx295_2, hx295_3⟩ := at_T121 HR0.out ((rd_T121 l0 a1).f2) p295 q295; obtain rfl : ad289 = ad295 := (by injection e295); replace hx295_0 := (HB.out.cell (World.block_lt_of_cell? w _ hx295_0)).trans hx295_0; replace hx295_1 := (HB.out.cell (World.block_lt_of_cell? w _ hx295_1)).trans hx295_1; replace hx295_2 := (HB.out.cell (World.block_lt_of_cell? w _ hx295_2)).trans hx295_2; replace hx295_3 := (HB.out.cell (World.block_lt_of_cell? w _ hx295_3)).trans hx295_3; replace p295 := eq_true p295; replace q295 := eq_true q295))
           repeat (go_quiet (first | (go_at_call 45; (with_reducible refine (spec_l1In.calls ((rd_T121 l0 a1).f2) 0 (wrap64 (a1 - 1)) true _ A26.out).mono ?_); rintro e w' ⟨rfl, ⟨nd, rfl⟩⟩; (try first | exact ⟨rfl, _, World.drewN_drewN _ _ _⟩ | exact ⟨rfl, _, Eq.trans (World.drewN_drewN _ _ _) (congrArg (World.drewN _) (Nat.add_assoc _ _ _))⟩); have p295 : 0 ≤ (((rd_T121 l0 a1).f2) : Int) := of_decide_eq_true asm; have q295 : ((rd_T121 l0 a1).f2) < (l0.length : Int) := of_decide_eq_true asm; obtain ⟨ad295, e295, hx295_0, hx295_1, hx295_2, hx295_3⟩ := at_T121 HR0.out ((rd_T121 l0 a1).f2) p295 q295; obtain rfl : ad289 = ad295 := (by injection e295); replace hx295_0 := (HB.out.cell (World.block_lt_of_cell? w _ hx295_0)).trans hx295_0; replace hx295_1 := (HB.out.cell (World.block_lt_of_cell? w _ hx295_1)).trans hx295_1; replace hx295_2 := (HB.out.cell (World.block_lt_of_cell? w _ hx295_2)).trans hx295_2; replace hx295_3 := (HB.out.cell (World.block_lt_of_cell? w _ hx295_3)).trans hx295_3; replace p295 := eq_true p295; replace q295 := eq_true q295)); try go_wp2_with (first | (go_at_call 45; (with_reducible refine (spec_l1In.calls ((rd_T121 l0 a1).f2) 0 (wrap64 (a1 - 1)) true _ A26.out).mono ?_); rintro e w' ⟨rfl, ⟨nd, rfl⟩⟩; (try first | exact ⟨rfl, _, World.drewN_drewN _ _ _⟩ | exact ⟨rfl, _, Eq.trans (World.drewN_drewN _ _ _) (congrArg (World.drewN _) (Nat.add_assoc _ _ _))⟩); have p295 : 0 ≤ (((rd_T121 l0 a1).f2) : Int) := of_decide_eq_true asm; have q295 : ((rd_T121 l0 a1).f2) < (l0.length : Int) := of_decide_eq_true asm; obtain ⟨ad295, e295, hx295_0, hx295_1, hx295_2, hx295_3⟩ := at_T121 HR0.out ((rd_T121 l0 a1).f2) p295 q295; obtain rfl : ad289 = ad295 := (by injection e295); replace hx295_0 := (HB.out.cell (World.block_lt_of_cell? w _ hx295_0)).trans hx295_0; replace hx295_1 := (HB.out.cell (World.block_lt_of_cell? w _ hx295_1)).trans hx295_1; replace hx295_2 := (HB.out.cell (World.block_lt_of_cell? w _ hx295_2)).trans hx295_2; replace hx295_3 := (HB.out.cell (World.block_lt_of_cell? w _ hx295_3)).trans hx295_3; replace p295 := eq_true p295; replace q295 := eq_true q295)))
           go_ret
           exact ⟨er, bel⟩
         ·
          rw [if_neg c33] at H
          have c33b0 : (((rd_T121 l0 a1).f3) == 0) = false := beq_eq_false_iff_ne.mpr c33
          have c33b1 : (((rd_T121 l0 a1).f3) != 0) = true := bne_iff_ne.mpr c33
          obtain rfl := Option.some.inj H
          have ⟨_, _, _, _, _, _, _, _⟩ := cz4 BK290
          go_wp2_with (first | (go_at_call 45; (with_reducible refine (spec_l1In.calls ((rd_T121 l0 a1).f2) 0 (wrap64 (a1 - 1)) true _ A26.out).mono ?_); rintro e w' ⟨rfl, ⟨nd, rfl⟩⟩; (try first | exact ⟨rfl, _, World.drewN_drewN _ _ _⟩ | exact ⟨rfl, _, Eq.trans (World.drewN_drewN _ _ _) (congrArg (World.drewN _) (Nat.add_assoc _ _ _))⟩)))
          repeat (go_quiet (first | (go_at_call 45; (with_reducible refine (spec_l1In.calls ((rd_T121 l0 a1).f2) 0 (wrap64 (a1 - 1)) true _ A26.out).mono ?_); rintro e w' ⟨rfl, ⟨nd, rfl⟩⟩; (try first | exact ⟨rfl, _, World.drewN_drewN _ _ _⟩ | exact ⟨rfl, _, Eq.trans (World.drewN_drewN _ _ _) (congrArg (World.drewN _) (Nat.add_assoc _ _ _))⟩))); try go_wp2_with (first | (go_at_call 45; (with_reducible refine (spec_l1In.calls ((rd_T121 l0 a1).f2) 0 (wrap64 (a1 - 1)) true _ A26.out).mono ?_); rintro e w' ⟨rfl, ⟨nd, rfl⟩⟩; (try first | exact ⟨rfl, _, World.drewN_drewN _ _ _⟩ | exact ⟨rfl, _, Eq.trans (World.drewN_drewN _ _ _) (congrArg (World.drewN _) (Nat.add_assoc _ _ _))⟩))))
          go_ret
          exact ⟨er, bel⟩
       ·
        obtain rfl := Option.some.inj H
        have ⟨_, _, _, _, _, _, _, _⟩ := cz4 BK290
        go_wp2_with (first | (go_at_call 45; (with_reducible refine (spec_l1In.calls ((rd_T121 l0 a1).f2) 0 (wrap64 (a1 - 1)) false _ A26.out).mono ?_); rintro e w' ⟨rfl, ⟨nd, rfl⟩⟩; (try first | exact ⟨rfl, _, World.drewN_drewN _ _ _⟩ | exact ⟨rfl, _, Eq.trans (World.drewN_drewN _ _ _) (congrArg (World.drewN _) (Nat.add_assoc _ _ _))⟩)))
        repeat (go_quiet (first | (go_at_call 45; (with_reducible refine (spec_l1In.calls ((rd_T121 l0 a1).f2) 0 (wrap64 (a1 - 1)) false _ A26.out).mono ?_); rintro e w' ⟨rfl, ⟨nd, rfl⟩⟩; (try first | exact ⟨rfl, _, World.drewN_drewN _ _ _⟩ | exact ⟨rfl, _, Eq.trans (World.drewN_drewN _ _ _) (congrArg (World.drewN _) (Nat.add_assoc _ _ _))⟩))); try go_wp2_with (first | (go_at_call 45; (with_reducible refine (spec_l1In.calls ((rd_T121 l0 a1).f2) 0 (wrap64 (a1 - 1)) false _ A26.out).mono ?_); rintro e w' ⟨rfl, ⟨nd, rfl⟩⟩; (try first | exact ⟨rfl, _, World.drewN_drewN _ _ _⟩ | exact ⟨rfl, _, Eq.trans (World.drewN_drewN _ _ _) (congrArg (World.drewN _) (Nat.add_assoc _ _ _))⟩))))
        go_ret
        exact ⟨er, bel⟩

end Go.Proofs.YtpcdfjcbjbkliaaGreat.E
