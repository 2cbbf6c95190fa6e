import Derived.Test.YtpcdfjcbjbkliaaGreatSq
import Derived.Test.YtpcdfjcbjbkliaaGreatQ0
import Derived.Test.YtpcdfjcbjbkliaaGreatQ1
import Derived.Test.YtpcdfjcbjbkliaaGreatQ17
import Derived.Test.YtpcdfjcbjbkliaaGreatQ19
import Derived.Test.YtpcdfjcbjbkliaaGreatQ20
namespace Go.Proofs.YtpcdfjcbjbkliaaGreat.E
open Go.RowKit Go.Proofs.YtpcdfjcbjbkliaaGreatW.PrintWords Go.Proofs.YtpcdfjcbjbkliaaGreatW.PrintLast Go.Proofs.YtpcdfjcbjbkliaaGreatW.PrintMore
attribute [local go_sem] max2_int min2_int max_two min_two max_three min_three max_four min_four
set_option linter.unusedVariables false
set_option linter.unusedSimpArgs false

attribute [local go_sem high] eqA32
/-! ### impl_IsSymmetric: function 129 -/
def impl_IsSymmetric.f (k : Nat) (a b : Int) (c : ByteArray) : Option (Bool) := (impl_IsGrid.f k a b c).bind fun d => (if d = true then ((impl_TurnGrid.f k a b c).bind fun e => (some (a == e.1 && (b == e.2.1 && (c.toList == e.2.2.toList))))) else (some false))
def impl_IsSymmetric.T1 : Bool × List (List Nat × List Nat) := (true, [([], []), ([0], [0]), ([1, 1], [1]), ([2], [2]), ([2], [2]), ([4, 2, 2], [2, 4]), ([3, 5, 2], [2, 3, 5]), ([2, 6], [2, 6]), ([7, 5, 0, 1, 2, 3, 4, 5, 6, 7], [7])])
theorem impl_IsSymmetric.tab1 : rtab .any (opsOf Tryz.f129 1) = impl_IsSymmetric.T1 := by kernel_rfl
set_option maxHeartbeats 8000000 in
set_option maxRecDepth 100000 in
theorem impl_IsSymmetric.calls (k : Nat) (a0_0 a0_1 : Int) (a0_2 : ByteArray) (r : Bool) (w : World) (H : impl_IsSymmetric.f k a0_0 a0_1 a0_2 = some r) :
  Calls Tryz.prog 129 #[.agg #[.int .i64 a0_0, .int .i64 a0_1, .string a0_2]] w fun e w' => e = .returned (.bool r) ∧ Below w.heap.size w w' := by
 have hu32 := Tryz.underlying32
 have HB := Aside0.mk (Below.refl w.heap.size w)
 unfold impl_IsSymmetric.f at H
 replace H := zs H
 obtain ⟨t611, A2, H⟩ := H
 replace H := zb H
 rcases H with ⟨rfl, H⟩ | ⟨rfl, H⟩
 ·
  replace H := Option.bind_eq_some_iff.mp H
  obtain ⟨⟨t612, t613, t614⟩, A40, H⟩ := H
  have A4 := Aside0.mk A40
  clear A40
  obtain rfl := Option.some.inj H
  go_enter Tryz.func129, Tryz.ntmps129
  try go_wp2_with (first | ((with_reducible refine zd 1 rfl ?_); refine zbx (w := w) #[.int .i64 a0_0, .int .i64 a0_1, .string a0_2] 32 ?_; intro gb610 hg w5 BK610 hb; have GW610 := zg (w := w) hg; replace HB := zB hb; clear hb hg))
  replace BK610 := zkd BK610
  replace HB := zBd HB
  refine zst 9 impl_IsSymmetric.tab1 (zb3 BK610 <| zn0) fun hHeld HT_ => ?_
  generalize w5.drew = w6 at BK610 HB hHeld ⊢
  repeat (first | refine zs1 ?_ | (refine zcl Tryz.func85 (impl_IsGrid.calls k a0_0 a0_1 a0_2 true _ A2.out) ?_; rintro e w7 ⟨rfl, hb⟩; replace BK610 := zk BK610 hb; replace HB := zB hb; refine ⟨_, rfl, zHb hb hHeld, _, znb, fun hHeld => ?_⟩) | (refine zcl Tryz.func152 (impl_TurnGrid.calls k a0_0 a0_1 a0_2 t612 t613 t614 _ A4.out) ?_; rintro e w8 ⟨rfl, hb⟩; replace BK610 := zk BK610 hb; replace HB := zB hb; refine ⟨_, rfl, zHb hb hHeld, _, znb, fun hHeld => ?_⟩))
  refine zdn ?_
  try go_wp2
  go_ret
  exact ⟨er, bel⟩
 ·
  obtain rfl := Option.some.inj H
  go_enter Tryz.func129, Tryz.ntmps129
  try go_wp2_with (first | ((with_reducible refine zd 1 rfl ?_); refine zbx (w := w) #[.int .i64 a0_0, .int .i64 a0_1, .string a0_2] 32 ?_; intro gb610 hg w9 BK610 hb; have GW610 := zg (w := w) hg; replace HB := zB hb; clear hb hg))
  replace BK610 := zkd BK610
  replace HB := zBd HB
  refine zst 9 impl_IsSymmetric.tab1 (zb3 BK610 <| zn0) fun hHeld HT_ => ?_
  generalize w9.drew = w10 at BK610 HB hHeld ⊢
  repeat (first | refine zs1 ?_ | (refine zcl Tryz.func85 (impl_IsGrid.calls k a0_0 a0_1 a0_2 false _ A2.out) ?_; rintro e w11 ⟨rfl, hb⟩; replace BK610 := zk BK610 hb; replace HB := zB hb; refine ⟨_, rfl, zHb hb hHeld, _, znb, fun hHeld => ?_⟩))
  refine zdn ?_
  try go_wp2
  go_ret
  exact ⟨er, bel⟩

-- NOT PRINTED: function 175 (impl_PartsOf_1)

/-! ### impl_PartsOf: function 153 -/
def impl_PartsOf.dfs (R C : Int) (s : ByteArray) : Nat → Int → Int → List Bool → Option (List Bool)
 | 0, _, _, _ => none
 | k + 1, r, c, ms =>
  if 0 ≤ r ∧ r < R then
   if 0 ≤ c ∧ c < C then
    if ms.getD (r * C + c).toNat false = true then some ms
    else if bt s (r * C + c) = 46 then
     (impl_PartsOf.dfs R C s k (r - 1) c (ms.set (r * C + c).toNat true)).bind fun m1 =>
     (impl_PartsOf.dfs R C s k (r + 1) c m1).bind fun m2 =>
     (impl_PartsOf.dfs R C s k r (c - 1) m2).bind fun m3 => impl_PartsOf.dfs R C s k r (c + 1) m3
    else some ms
   else some ms
  else some ms
theorem impl_PartsOf.idx {R C r c : Int} {N : Nat} (hR : 2 ≤ R ∧ R ≤ 6) (hC : 2 ≤ C ∧ C ≤ 6) (hN : (N : Int) = R * C) (h1 : 0 ≤ r ∧ r < R) (h2 : 0 ≤ c ∧ c < C) : 0 ≤ r * C + c ∧ r * C + c < N ∧ 0 ≤ r * C ∧ r * C ≤ 36 := by
 obtain ⟨hR0, hR1⟩ := hR
 obtain ⟨hC0, hC1⟩ := hC
 have hr : r = 0 ∨ r = 1 ∨ r = 2 ∨ r = 3 ∨ r = 4 ∨ r = 5 := by omega
 have hRR : R = 2 ∨ R = 3 ∨ R = 4 ∨ R = 5 ∨ R = 6 := by omega
 rcases hRR with rfl | rfl | rfl | rfl | rfl <;> rcases hr with rfl | rfl | rfl | rfl | rfl | rfl <;> omega
set_option maxHeartbeats 4000000 in
set_option maxRecDepth 100000 in
theorem impl_PartsOf.visit {R C : Int} {s : ByteArray} {N G M V B cap : Nat} {w0 : World} {ms0 : List Bool}
  (hR : 2 ≤ R ∧ R ≤ 6) (hC : 2 ≤ C ∧ C ≤ 6) (hN : (N : Int) = R * C) (hs : s.size = N)
  (hG0 : w0.cell? ⟨G, 0, none⟩ = some (.int .i64 R)) (hG1 : w0.cell? ⟨G, 1, none⟩ = some (.int .i64 C)) (hG2 : w0.cell? ⟨G, 2, none⟩ = some (.string s))
  (hM : w0.cell? ⟨M, 0, none⟩ = some (.slice (some ⟨B, 0, none⟩) N cap))
  (hV : w0.cell? ⟨V, 0, none⟩ = some (.func (.func 175) #[] #[.pointer (some ⟨G, 0, none⟩), .pointer (some ⟨M, 0, none⟩), .pointer (some ⟨V, 0, none⟩)]))
  (hGB : G ≠ B) (hMB : M ≠ B) (hVB : V ≠ B) (hB0 : Sort.Holds Value.bool w0 B 0 ms0.toArray) (hl0 : ms0.length = N) (k : Nat) :
  ∀ (r c : Int) (ms ms' : List Bool) (w : World) (n : Nat), impl_PartsOf.dfs R C s k r c ms = some ms' → ms.length = N → w = Sort.putRow Value.bool (Sort.ahead w0 n) B 0 ms.toArray → -10 ≤ r → r ≤ 10 → -10 ≤ c → c ≤ 10 →
  Calls Tryz.prog 175 #[.int .i64 r, .int .i64 c, .pointer (some ⟨G, 0, none⟩), .pointer (some ⟨M, 0, none⟩), .pointer (some ⟨V, 0, none⟩)] w fun e w' => e = .returned (.tuple #[]) ∧ Aside0 (ms'.length = N ∧ ∃ n', w' = Sort.putRow Value.bool (Sort.ahead w0 n') B 0 ms'.toArray) := by
 induction k with
 | zero => intro r c ms ms' w n h; simp [impl_PartsOf.dfs] at h
 | succ k ih =>
  intro r c ms ms' w n h hl hw hr0 hr1 hc0 hc1
  have IH := Aside0.mk ih
  have HW := Aside0.mk hw
  have hh : Sort.Holds Value.bool w B 0 ms.toArray := by rw [hw]; exact Sort.holds_putRow Value.bool _ _ _ _ _ (Sort.holds_ahead Value.bool _ n _ _ _ hB0) (by simp [hl, hl0])
  have oth : ∀ b j, b ≠ B → w.cell? ⟨b, j, none⟩ = w0.cell? ⟨b, j, none⟩ := fun b j hb => by rw [hw]; rw [Sort.cell?_putRow_other Value.bool _ B 0 ms.toArray ⟨b, j, none⟩ (.inl hb)]; rfl
  have HS := Aside0.mk hs
  have HL := Aside0.mk hl
  have hl2 : ms.length = N := hl
  have g0 := (oth G 0 hGB).trans hG0
  have g1 := (oth G 1 hGB).trans hG1
  have g2 := (oth G 2 hGB).trans hG2
  have g3 := (oth M 0 hMB).trans hM
  have g4 := (oth V 0 hVB).trans hV
  have HH := Aside0.mk hh
  have DONE : ms' = ms → Aside0 (ms'.length = N ∧ ∃ n', w = Sort.putRow Value.bool (Sort.ahead w0 n') B 0 ms'.toArray) := fun e => ⟨by rw [e]; exact ⟨hl, n, hw⟩⟩
  have DN := Aside0.mk DONE
  have HB0 := Aside0.mk hB0
  have HV := Aside0.mk hV
  have HL0 := Aside0.mk hl0
  have HNN := Aside0.mk hN
  clear DONE hh oth hw hs hl hl2 ih hG0 hG1 hG2 hM hV hB0 hl0 hN
  simp only [impl_PartsOf.dfs] at h
  by_cases c1 : 0 ≤ r ∧ r < R
  ·
   rw [if_pos c1] at h
   by_cases c2 : 0 ≤ c ∧ c < C
   ·
    rw [if_pos c2] at h
    obtain ⟨i0, i1, i2, i3⟩ := impl_PartsOf.idx hR hC HNN.out c1 c2
    obtain ⟨q, hq⟩ : ∃ q : Nat, r * C + c = q := ⟨(r * C + c).toNat, by omega⟩
    have hqN : q < N := by omega
    rw [hq] at h
    rw [Int.toNat_natCast] at h
    obtain ⟨c3, c4⟩ := c1
    obtain ⟨c5, c6⟩ := c2
    have hx := (HH.out q (by have := HL.out; simp; omega)).1
    have hf := (HH.out q (by have := HL.out; simp; omega)).2
    rw [Nat.zero_add] at hx hf
    have hgq : ms.toArray[q]! = ms.getD q false := by
     have : q < ms.length := by have := HL.out; omega
     rw [getElem!_pos _ q (by simpa using this)]
     simp [List.getD_eq_getElem?_getD, List.getElem?_eq_getElem this]
    rw [hgq] at hx
    clear hgq
    have hqs : q < s.size := by have := HS.out; omega
    have hbt := bt_at s (q : Int)
    rw [Int.toNat_natCast] at hbt
    have hbt2 := hbt hqs
    have e1 : IntKind.i64.wrap (r * C) = r * C := IntWalk.i64_in _ (by omega)
    have e2 : IntKind.i64.wrap (r * C + c) = (q : Int) := by rw [hq]; exact IntWalk.i64_in _ (by omega)
    have e3 : wrap64 (r * C) = r * C := by unfold wrap64; omega
    have e4 : wrap64 (r * C + c) = (q : Int) := by unfold wrap64; omega
    by_cases c7 : ms.getD q false = true
    ·
     rw [if_pos c7] at h
     obtain rfl := Option.some.inj h
     clear h
     rw [c7] at hx
     clear hbt hbt2 c7 hf
     go_enter Tryz.func175, Tryz.ntmps175
     go_wp2
     exact bodyPost_ret (results_none rfl _ _ _) rfl ⟨rfl, DN.out (by simp)⟩
    ·
     rw [if_neg c7] at h
     have c7' : ms.getD q false = false := by simpa using c7
     rw [c7'] at hx
     clear c7 c7'
     by_cases c8 : bt s q = 46
     ·
      rw [if_pos c8] at h
      obtain ⟨m1, h1, h⟩ := Option.bind_eq_some_iff.mp h
      obtain ⟨m2, h2, h⟩ := Option.bind_eq_some_iff.mp h
      obtain ⟨m3, h3, h4⟩ := Option.bind_eq_some_iff.mp h
      have H1 := Aside0.mk h1
      have H2 := Aside0.mk h2
      have H3 := Aside0.mk h3
      have H4 := Aside0.mk h4
      have c8b : (bt s q != 46) = false := bne_eq_false_iff_eq.mpr c8
      clear h h1 h2 h3 h4 c8
      have HT := Aside0.mk (show w.setCell ⟨B, q, none⟩ (.bool true) = Sort.putRow Value.bool (Sort.ahead w0 n) B 0 (ms.set q true).toArray by
       have := Sort.putRow_set Value.bool (Sort.ahead w0 n) B 0 ms.toArray q true (by have := HL.out; simp; omega)
       rw [Nat.zero_add, ← HW.out] at this
       simpa using this)
      have HLs := Aside0.mk (show (ms.set q true).length = N by rw [List.length_set]; exact HL.out)
      have HSTEP := Aside0.mk (show ∀ (xs : List Bool) (W : World) (m : Nat), W = Sort.putRow Value.bool (Sort.ahead w0 m) B 0 xs.toArray → W.cell? ⟨V, 0, none⟩ = w0.cell? ⟨V, 0, none⟩ by
       intro xs W m hW
       subst hW
       exact Sort.cell?_putRow_other Value.bool _ B 0 xs.toArray ⟨V, 0, none⟩ (.inl hVB))
      clear hbt hqN
      go_enter Tryz.func175, Tryz.ntmps175
      go_wp2_with (go_at_call 118; go_in)
      refine (IH.out (r - 1) c (ms.set q true) m1 _ n H1.out HLs.out HT.out (by omega) (by omega) (by omega) (by omega)).mono ?_
      rintro e w1 ⟨rfl, hr1⟩
      obtain ⟨l1, n1, hw1⟩ := hr1.out
      have HL1 := Aside0.mk l1
      have HW1 := Aside0.mk hw1
      have g5 := (HSTEP.out m1 w1 n1 hw1).trans HV.out
      clear l1 hw1 hr1 g4 g3 g2 g1 g0 hx hf
      go_wp2_with (go_at_call 118; go_in)
      refine (IH.out (r + 1) c m1 m2 _ n1 H2.out HL1.out HW1.out (by omega) (by omega) (by omega) (by omega)).mono ?_
      rintro e w2 ⟨rfl, hr2⟩
      obtain ⟨l2, n2, hw2⟩ := hr2.out
      have HL2 := Aside0.mk l2
      have HW2 := Aside0.mk hw2
      have g6 := (HSTEP.out m2 w2 n2 hw2).trans HV.out
      clear l2 hw2 hr2 g5
      go_wp2_with (go_at_call 118; go_in)
      refine (IH.out r (c - 1) m2 m3 _ n2 H3.out HL2.out HW2.out (by omega) (by omega) (by omega) (by omega)).mono ?_
      rintro e w3 ⟨rfl, hr3⟩
      obtain ⟨l3, n3, hw3⟩ := hr3.out
      have HL3 := Aside0.mk l3
      have HW3 := Aside0.mk hw3
      have g7 := (HSTEP.out m3 w3 n3 hw3).trans HV.out
      clear l3 hw3 hr3 g6
      go_wp2_with (go_at_call 118; go_in)
      refine (IH.out r (c + 1) m3 ms' _ n3 H4.out HL3.out HW3.out (by omega) (by omega) (by omega) (by omega)).mono ?_
      rintro e w4 ⟨rfl, hr4⟩
      clear g7
      go_wp2
      go_end0
      exact ⟨rfl, hr4⟩
     ·
      rw [if_neg c8] at h
      obtain rfl := Option.some.inj h
      clear h
      have c8b : (bt s q != 46) = true := bne_iff_ne.mpr c8
      clear c8 hf
      go_enter Tryz.func175, Tryz.ntmps175
      go_wp2
      exact bodyPost_ret (results_none rfl _ _ _) rfl ⟨rfl, DN.out (by simp)⟩
   ·
    rw [if_neg c2] at h
    obtain rfl := Option.some.inj h
    clear h
    obtain ⟨c3, c4⟩ := c1
    by_cases c5 : 0 ≤ c
    ·
     have c6 : ¬ c < C := fun h => c2 ⟨c5, h⟩
     clear c2
     go_enter Tryz.func175, Tryz.ntmps175
     go_wp2
     exact bodyPost_ret (results_none rfl _ _ _) rfl ⟨rfl, DN.out (by simp)⟩
    ·
     clear c2
     go_enter Tryz.func175, Tryz.ntmps175
     go_wp2
     exact bodyPost_ret (results_none rfl _ _ _) rfl ⟨rfl, DN.out (by simp)⟩
  ·
   rw [if_neg c1] at h
   obtain rfl := Option.some.inj h
   clear h
   by_cases c5 : 0 ≤ r
   ·
    have c6 : ¬ r < R := fun h => c1 ⟨c5, h⟩
    clear c1
    go_enter Tryz.func175, Tryz.ntmps175
    go_wp2
    exact bodyPost_ret (results_none rfl _ _ _) rfl ⟨rfl, DN.out (by simp)⟩
   ·
    clear c1
    go_enter Tryz.func175, Tryz.ntmps175
    go_wp2
    exact bodyPost_ret (results_none rfl _ _ _) rfl ⟨rfl, DN.out (by simp)⟩
theorem impl_IsGrid.j0_true {k : Nat} {a b : Int} {s : ByteArray} : impl_IsGrid.j0 k true a b s ≠ some true := by
 cases k <;> simp [impl_IsGrid.j0]
theorem impl_IsGrid.bounds {k : Nat} {a b : Int} {s : ByteArray} (h : impl_IsGrid.f k a b s = some true) : (2 ≤ a ∧ a ≤ 6) ∧ (2 ≤ b ∧ b ≤ 6) ∧ (s.size : Int) = a * b := by
 unfold impl_IsGrid.f at h
 obtain ⟨t, ht, h⟩ := Option.bind_eq_some_iff.mp h
 cases t with
 | false => rw [if_neg (by decide)] at h; exact absurd h impl_IsGrid.j0_true
 | true =>
  rw [if_pos rfl] at h
  obtain ⟨t2, ht2, h⟩ := Option.bind_eq_some_iff.mp h
  cases t2 with
  | false => rw [if_neg (by decide)] at h; exact absurd h impl_IsGrid.j0_true
  | true =>
   rw [if_pos rfl] at h
   have r1 : 2 ≤ a ∧ a ≤ 6 := by
    unfold impl_InRange.f at ht
    split at ht
    ·
     exact ⟨by omega, by simpa using ht⟩
    ·
     cases ht
   have r2 : 2 ≤ b ∧ b ≤ 6 := by
    unfold impl_InRange.f at ht2
    split at ht2
    ·
     exact ⟨by omega, by simpa using ht2⟩
    ·
     cases ht2
   refine ⟨r1, r2, ?_⟩
   have hw : wrap64 (a * b) = a * b := by
    have ha : a = 2 ∨ a = 3 ∨ a = 4 ∨ a = 5 ∨ a = 6 := by omega
    rcases ha with rfl | rfl | rfl | rfl | rfl <;> (unfold wrap64; omega)
   rw [hw] at h
   by_cases e : ((s.size : Int) != a * b) = true
   ·
    rw [e] at h; exact absurd h impl_IsGrid.j0_true
   ·
    simpa using e
def impl_PartsOf.go (R C : Int) (s : ByteArray) : Nat → Nat → Int → List Bool → Option Int
 | 0, _, n, _ => some n
 | d + 1, i, n, ms =>
  if bt s i = 46 then
   if ms.getD i false = true then impl_PartsOf.go R C s d (i + 1) n ms
   else (impl_PartsOf.dfs R C s 100 ((i : Int) / C) ((i : Int) % C) ms).bind fun m' => impl_PartsOf.go R C s d (i + 1) (n + 1) m'
  else impl_PartsOf.go R C s d (i + 1) n ms
def impl_PartsOf.f (k : Nat) (a0_0 : Int) (a0_1 : Int) (a0_2 : ByteArray) : Option Int :=
 (impl_IsGrid.f k a0_0 a0_1 a0_2).bind fun t => if t = true then impl_PartsOf.go a0_0 a0_1 a0_2 a0_2.size 0 0 (List.replicate a0_2.size false) else some 0
theorem impl_PartsOf.cellsB {W : World} {base B cap n n' : Nat} {ok : Nat → Prop} {cells : Array Value} (ho : Kd.R Kd.bool 4 W base ok (.slice (some ⟨B, 0, none⟩) n cap) (List.replicate (n' : Int).toNat false)) (hb : W.heap[B]? = some (.cells cells 4 (0, 0))) : ∀ j, j < n' → cells[j]? = some (.bool false) := by
 intro j hj
 have hn := (Kd.R_reads' ho).1
 obtain ⟨c, hl, hM, hc, _⟩ := Kd.R_elem ho false (j : Int) (by omega) (by simp at hn; omega)
 have hM' : c = [.bool ((List.replicate n' false).getD j false)] := hM
 have := hc 0 (.bool false) (by rw [hM']; simp [List.getD_eq_getElem?_getD, List.getElem?_replicate, hj])
 rw [blk_cell hb] at this
 simpa [show (Kd.bool).sz = 1 from rfl] using this
structure impl_PartsOf.Ok (W : World) (G M V B cap N : Nat) (R C : Int) (s : ByteArray) (ms : List Bool) : Prop where
 g0 : W.cell? ⟨G, 0, none⟩ = some (.int .i64 R)
 g1 : W.cell? ⟨G, 1, none⟩ = some (.int .i64 C)
 g2 : W.cell? ⟨G, 2, none⟩ = some (.string s)
 m : W.cell? ⟨M, 0, none⟩ = some (.slice (some ⟨B, 0, none⟩) N cap)
 v : W.cell? ⟨V, 0, none⟩ = some (.func (.func 175) #[] #[.pointer (some ⟨G, 0, none⟩), .pointer (some ⟨M, 0, none⟩), .pointer (some ⟨V, 0, none⟩)])
 gb : G ≠ B
 mb : M ≠ B
 vb : V ≠ B
 hold : Sort.Holds Value.bool W B 0 ms.toArray
 len : ms.length = N
theorem impl_PartsOf.ok_start {W : World} {G M V B cap : Nat} {R C : Int} {s : ByteArray} {cells : Array Value}
  (bg : W.heap[G]? = some (.cells #[.int .i64 R, .int .i64 C, .string s] 32 (0, 0))) (bm : W.heap[M]? = some (.cells #[.slice (some ⟨B, 0, none⟩) s.size cap] 174 (0, 0)))
  (bv : W.heap[V]? = some (.cells #[.nilFunc] 177 (0, 0))) (bb : W.heap[B]? = some (.cells cells 4 (0, 0))) (gv : G ≠ V) (mv : M ≠ V) (vb : V ≠ B) (gb : G ≠ B) (mb : M ≠ B) (hc : ∀ j, j < s.size → cells[j]? = some (.bool false)) :
  impl_PartsOf.Ok (W.setCell ⟨V, 0, none⟩ (.func (.func 175) #[] #[.pointer (some ⟨G, 0, none⟩), .pointer (some ⟨M, 0, none⟩), .pointer (some ⟨V, 0, none⟩)])) G M V B cap s.size R C s (List.replicate s.size false) := by
 have bg' := blk_far bg (p := ⟨V, 0, none⟩) gv (.func (.func 175) #[] #[.pointer (some ⟨G, 0, none⟩), .pointer (some ⟨M, 0, none⟩), .pointer (some ⟨V, 0, none⟩)])
 have bm' := blk_far bm (p := ⟨V, 0, none⟩) mv (.func (.func 175) #[] #[.pointer (some ⟨G, 0, none⟩), .pointer (some ⟨M, 0, none⟩), .pointer (some ⟨V, 0, none⟩)])
 have bb' := blk_far bb (p := ⟨V, 0, none⟩) vb.symm (.func (.func 175) #[] #[.pointer (some ⟨G, 0, none⟩), .pointer (some ⟨M, 0, none⟩), .pointer (some ⟨V, 0, none⟩)])
 have bv' := blk_put bv 0 (.func (.func 175) #[] #[.pointer (some ⟨G, 0, none⟩), .pointer (some ⟨M, 0, none⟩), .pointer (some ⟨V, 0, none⟩)]) rfl
 refine ⟨(blk_cell bg' 0).trans rfl, (blk_cell bg' 1).trans rfl, (blk_cell bg' 2).trans rfl, (blk_cell bm' 0).trans rfl, (blk_cell bv' 0).trans rfl, gb, mb, vb, ?_, by simp⟩
 intro j hj
 have hj' : j < s.size := by simpa using hj
 rw [Nat.zero_add]
 refine ⟨?_, blk_frozen bb' j⟩
 rw [blk_cell bb', hc j hj', getElem!_pos _ j hj]
 simp
theorem impl_PartsOf.ok_put {W : World} {G M V B cap N m : Nat} {R C : Int} {s : ByteArray} {ms0 ms : List Bool} (h : impl_PartsOf.Ok W G M V B cap N R C s ms0) (hl : ms.length = N) :
  impl_PartsOf.Ok (Sort.putRow Value.bool (Sort.ahead W m) B 0 ms.toArray) G M V B cap N R C s ms := by
 have o : ∀ b j, b ≠ B → (Sort.putRow Value.bool (Sort.ahead W m) B 0 ms.toArray).cell? ⟨b, j, none⟩ = W.cell? ⟨b, j, none⟩ := fun b j hb => Sort.cell?_putRow_other Value.bool _ B 0 ms.toArray ⟨b, j, none⟩ (.inl hb)
 exact ⟨(o _ _ h.gb).trans h.g0, (o _ _ h.gb).trans h.g1, (o _ _ h.gb).trans h.g2, (o _ _ h.mb).trans h.m, (o _ _ h.vb).trans h.v, h.gb, h.mb, h.vb, Sort.holds_putRow Value.bool _ _ _ _ _ (Sort.holds_ahead Value.bool _ m _ _ _ h.hold) (by simp [hl, h.len]), hl⟩
set_option maxHeartbeats 4000000 in
set_option maxRecDepth 100000 in
theorem impl_PartsOf.calls (k : Nat) (a0_0 a0_1 : Int) (a0_2 : ByteArray) (r : Int) (w : World) (h : impl_PartsOf.f k a0_0 a0_1 a0_2 = some r) :
  Calls Tryz.prog 153 #[.agg #[.int .i64 a0_0, .int .i64 a0_1, .string a0_2]] w fun e w' => e = .returned (.int .i64 r) ∧ Below w.heap.size w w' := by
 have hu_ := Tryz.underlying32
 have HB := Aside0.mk (Below.refl w.heap.size w)
 obtain ⟨t, ht, h⟩ := Option.bind_eq_some_iff.mp h
 have A2 := Aside0.mk ht
 by_cases c3 : t = true
 ·
  subst c3
  have H : impl_PartsOf.go a0_0 a0_1 a0_2 a0_2.size 0 0 (List.replicate a0_2.size false) = some r := by rw [if_pos rfl] at h; exact h
  obtain ⟨hR, hC, hN⟩ := impl_IsGrid.bounds ht
  clear h ht
  have HG := Aside0.mk H
  have HN := Aside0.mk hN
  have hN36 : a0_2.size ≤ 36 := by
   obtain ⟨hR0, hR1⟩ := hR
   obtain ⟨hC0, hC1⟩ := hC
   have hRR : a0_0 = 2 ∨ a0_0 = 3 ∨ a0_0 = 4 ∨ a0_0 = 5 ∨ a0_0 = 6 := by omega
   rcases hRR with rfl | rfl | rfl | rfl | rfl <;> omega
  have hN4 : 4 ≤ a0_2.size := by
   obtain ⟨hR0, hR1⟩ := hR
   obtain ⟨hC0, hC1⟩ := hC
   have hRR : a0_0 = 2 ∨ a0_0 = 3 ∨ a0_0 = 4 ∨ a0_0 = 5 ∨ a0_0 = 6 := by omega
   rcases hRR with rfl | rfl | rfl | rfl | rfl <;> omega
  clear hN H
  go_enter Tryz.func153, Tryz.ntmps153
  go_wp2_with (first
   | ((with_reducible refine gate_dst (N := 1) rfl ?_); refine box_event ?hg (N := 1) ?hd (cs := #[.int .i64 a0_0, .int .i64 a0_1, .string a0_2]) (t := 32) ?hr ?_; (case hd => rfl); (case hg => rfl); (case hr => first | (go_simp; done) | (go_simp; rfl)); intro G hg w1 hbox hb; have n0_ := Aside0.mk (below_step HB.out hb); have n1_ := Aside0.mk hbox; have n2_ := Aside0.mk (show w.heap.size ≤ G by rw [hg]; exact Nat.le_refl _); clear HB; have HB := n0_; have BG := n1_; have GG := n2_; have q0 : w1.cell? ⟨G, 0, none⟩ = some (.int .i64 a0_0) := (blk_cell BG.out 0).trans rfl; have q1 : w1.cell? ⟨G, 1, none⟩ = some (.int .i64 a0_1) := (blk_cell BG.out 1).trans rfl; have q2 : w1.cell? ⟨G, 2, none⟩ = some (.string a0_2) := (blk_cell BG.out 2).trans rfl; clear n0_ n1_ n2_ hb hbox hg)
   | (go_at_call 85; (with_reducible refine (impl_IsGrid.calls k a0_0 a0_1 a0_2 true _ A2.out).mono ?_); rintro e w9 ⟨rfl, hb⟩; have n0_ := Aside0.mk (blk_below BG.out hb); have n1_ := Aside0.mk (below_step HB.out hb); clear q0 q1 q2 HB BG; have HB := n1_; have BG := n0_; have q0 : w9.cell? ⟨G, 0, none⟩ = some (.int .i64 a0_0) := (blk_cell BG.out 0).trans rfl; have q1 : w9.cell? ⟨G, 1, none⟩ = some (.int .i64 a0_1) := (blk_cell BG.out 1).trans rfl; have q2 : w9.cell? ⟨G, 2, none⟩ = some (.string a0_2) := (blk_cell BG.out 2).trans rfl; clear n0_ n1_ hb)
   | ((with_reducible refine gate_dst (N := 13) rfl ?_); refine Kd.R_make Kd.bool _ 4 rfl (N := 13) rfl 174 _ _ rfl (a0_2.size : Int) rfl rfl Tryz.underlying174 (.bool false) 1 info4 rfl (by decide) (by omega) false (ok := fun _ => True) (okp := fun _ => True) rfl (fun _ hk => hk) trivial (by omega) (by omega) (Below.refl _ _) (Nat.le_refl _) ?_; intro v13 w13 ho hb hg_ hnew_; obtain ⟨B, cap, rfl, hBg, hBl, cells, hcells⟩ := Kd.R_form ho (by simp; omega); have HCB := Aside0.mk (impl_PartsOf.cellsB ho hcells); have n0_ := Aside0.mk (blk_below BG.out hb); have n1_ := Aside0.mk (below_step HB.out hb); have n2_ := Aside0.mk hcells; have n3_ := Aside0.mk (show G ≠ B from Nat.ne_of_lt (Nat.lt_of_lt_of_le (blk_lt BG.out) hBg)); have n4_ := Aside0.mk (show w.heap.size ≤ B from Nat.le_trans (below_size HB.out) hBg); clear BG HB q0 q1 q2 hb hg_ hnew_ ho hcells hBg hBl; have BG := n0_; have HB := n1_; have BB := n2_; have NGB := n3_; have GB := n4_; clear n0_ n1_ n2_ n3_ n4_; simp only [List.length_replicate, Int.toNat_natCast])
   | ((with_reducible refine gate_dst (N := 3) rfl ?_); refine box_event ?hg (N := 3) ?hd (cs := #[.slice none 0 0]) (t := 174) ?hr ?_; (case hd => rfl); (case hg => rfl); (case hr => first | (go_simp; done) | (go_simp; rfl)); intro M hg w14 hbox hb; have n0_ := Aside0.mk (blk_below BG.out hb); have n1_ := Aside0.mk (below_step HB.out hb); have n2_ := Aside0.mk (blk_below BB.out hb); have n3_ := Aside0.mk hbox; have n4_ := Aside0.mk (show G ≠ M by rw [hg]; exact Nat.ne_of_lt (blk_lt BG.out)); have n5_ := Aside0.mk (show M ≠ B by rw [hg]; exact Nat.ne_of_gt (blk_lt BB.out)); have n6_ := Aside0.mk (show w.heap.size ≤ M by rw [hg]; exact below_size HB.out); clear BG HB BB hbox hb hg; have BG := n0_; have HB := n1_; have BB := n2_; have BM := n3_; have NGM := n4_; have NMB := n5_; have GM := n6_; clear n0_ n1_ n2_ n3_ n4_ n5_ n6_; have q3 : w14.cell? ⟨M, 0, none⟩ = some (.slice none 0 0) := (blk_cell BM.out 0).trans rfl; have q4 := blk_frozen BM.out 0)
   | ((with_reducible refine gate_store (t := 174) (p := 3) rfl ?_); refine store_event (t := 174) (p := 3) (v := ?vo) (w1 := w14.setCell ⟨M, 0, none⟩ (.slice (some ⟨B, 0, none⟩) a0_2.size cap)) ?hg ?ho ?hn ?hr ?_; (case ho => rfl); (case hg => rfl); (case hn => rfl); (case hr => first | (go_simp; done) | (go_simp; rfl)); intro w15 hw; have n0_ := Aside0.mk (by rw [hw]; exact blk_far BG.out NGM.out _ : w15.heap[G]? = some (.cells #[.int .i64 a0_0, .int .i64 a0_1, .string a0_2] 32 (0, 0))); have n1_ := Aside0.mk (by rw [hw]; exact below_set HB.out GM.out : Below w.heap.size w w15); have n2_ := Aside0.mk (by rw [hw]; exact blk_far BB.out NMB.out.symm _ : w15.heap[B]? = some (.cells cells 4 (0, 0))); have n3_ := Aside0.mk (by rw [hw]; exact blk_put (cs := #[.slice none 0 0]) BM.out 0 _ rfl : w15.heap[M]? = some (.cells #[.slice (some ⟨B, 0, none⟩) a0_2.size cap] 174 (0, 0))); clear BG HB BB BM q3 q4 hw; have BG := n0_; have HB := n1_; have BB := n2_; have BM := n3_; clear n0_ n1_ n2_ n3_)
   | ((with_reducible refine gate_dst (N := 4) rfl ?_); refine box_event ?hg (N := 4) ?hd (cs := #[.nilFunc]) (t := 177) ?hr ?_; (case hd => rfl); (case hg => rfl); (case hr => first | (go_simp; done) | (go_simp; rfl)); intro V hg w16 hbox hb; have n0_ := Aside0.mk (blk_below BG.out hb); have n1_ := Aside0.mk (below_step HB.out hb); have n2_ := Aside0.mk (blk_below BB.out hb); have n3_ := Aside0.mk hbox; have n4_ := Aside0.mk (show G ≠ V by rw [hg]; exact Nat.ne_of_lt (blk_lt BG.out)); have n5_ := Aside0.mk (show V ≠ B by rw [hg]; exact Nat.ne_of_gt (blk_lt BB.out)); have n6_ := Aside0.mk (show w.heap.size ≤ V by rw [hg]; exact below_size HB.out); have n7_ := Aside0.mk (show M ≠ V by rw [hg]; exact Nat.ne_of_lt (blk_lt BM.out)); have n8_ := Aside0.mk (blk_below BM.out hb); clear BG HB BB BM hbox hb hg; have BG := n0_; have HB := n1_; have BB := n2_; have BV := n3_; have NGV := n4_; have NVB := n5_; have GV := n6_; have NMV := n7_; have BM := n8_; clear n0_ n1_ n2_ n3_ n4_ n5_ n6_ n7_ n8_; have q3 : w16.cell? ⟨V, 0, none⟩ = some (.nilFunc) := (blk_cell BV.out 0).trans rfl; have q4 := blk_frozen BV.out 0)
   | ((with_reducible refine gate_store (t := 177) (p := 4) rfl ?_); refine store_event (t := 177) (p := 4) (v := ?vo2) (w1 := w16.setCell ⟨V, 0, none⟩ (.func (.func 175) #[] #[.pointer (some ⟨G, 0, none⟩), .pointer (some ⟨M, 0, none⟩), .pointer (some ⟨V, 0, none⟩)])) ?hg ?ho ?hn ?hr ?_; (case ho => rfl); (case hg => rfl); (case hn => rfl); (case hr => first | (go_simp; done) | (go_simp; rfl)); intro w17 hw; have n1_ := Aside0.mk (by rw [hw]; exact below_set HB.out GV.out : Below w.heap.size w w17); have OK := Aside0.mk (show impl_PartsOf.Ok w17 G M V B cap a0_2.size a0_0 a0_1 a0_2 (List.replicate a0_2.size false) by rw [hw]; exact impl_PartsOf.ok_start BG.out BM.out BV.out BB.out NGV.out NMV.out NVB.out NGB.out NMB.out HCB.out); have q5 : w17.cell? ⟨G, 2, none⟩ = some (.string a0_2) := OK.out.g2; clear BG HB BB BM BV q3 q4 hw; have HB := n1_; clear n1_))
  go_loopg [5, 18] a0_2.size (fun kq v5 v18 wr => ∃ (i : Nat) (n : Int) (ms : List Bool), v5 = .int .i64 n ∧ v18 = .int .i64 i ∧ i ≤ a0_2.size ∧ 0 ≤ n ∧ n ≤ i ∧ Aside0 (kq + i = a0_2.size) ∧ Aside0 (impl_PartsOf.Ok wr G M V B cap a0_2.size a0_0 a0_1 a0_2 ms) ∧ Aside0 (Below w.heap.size w wr) ∧ Aside0 (impl_PartsOf.go a0_0 a0_1 a0_2 (a0_2.size - i) i n ms = some r))
  case atStart => exact ⟨0, 0, List.replicate a0_2.size false, rfl, rfl, Nat.zero_le _, Int.le_refl _, Int.le_refl _, ⟨rfl⟩, OK, HB, ⟨HG.out⟩⟩
  case round =>
   clear HB OK HG q5 HCB
   obtain ⟨i, n, ms, rfl, rfl, hi, hn0, hn1, HK, OK, HB, HA⟩ := hrel
   have q5 := OK.out.g2
   by_cases hlt : i < a0_2.size
   ·
    have hA := HA.out
    rw [show a0_2.size - i = (a0_2.size - (i + 1)) + 1 by omega] at hA
    simp only [impl_PartsOf.go] at hA
    clear HA
    have hbt := bt_at a0_2 (i : Int)
    rw [Int.toNat_natCast] at hbt
    have hbt2 := hbt hlt
    by_cases c1 : bt a0_2 i = 46
    ·
     rw [if_pos c1] at hA
     have c1b : (bt a0_2 i == 46) = true := beq_iff_eq.mpr c1
     clear c1
     have q6 := OK.out.m
     obtain ⟨q7, q8⟩ := OK.out.hold i (by have := OK.out.len; simp; omega)
     rw [Nat.zero_add] at q7 q8
     have hgq : ms.toArray[i]! = ms.getD i false := by
      have : i < ms.length := by have := OK.out.len; omega
      rw [getElem!_pos _ i (by simpa using this)]
      simp [List.getD_eq_getElem?_getD, List.getElem?_eq_getElem this]
     rw [hgq] at q7
     clear hgq q8
     by_cases c2 : ms.getD i false = true
     ·
      rw [if_pos c2] at hA
      rw [c2] at q7
      have HA := Aside0.mk hA
      clear hA c2
      go_wp2
      go_roundg (a0_2.size - (i + 1))
      case measure => have := HK.out; omega
      case rel => exact ⟨i + 1, n, ms, rfl, by simp, by omega, hn0, by omega, ⟨by omega⟩, OK, HB, HA⟩
     ·
      rw [if_neg c2] at hA
      have c2' : ms.getD i false = false := by simpa using c2
      rw [c2'] at q7
      clear c2 c2'
      obtain ⟨ms2, hd, hA⟩ := Option.bind_eq_some_iff.mp hA
      have HD := Aside0.mk hd
      have HA := Aside0.mk hA
      clear hd hA
      have q9 := OK.out.v
      have q10 := OK.out.g1
      have hC1 : ¬ a0_1 = 0 := by omega
      have hC2 : (a0_1 == 0) = false := beq_eq_false_iff_ne.mpr hC1
      go_wp2_with fail
      have hd0 : 0 ≤ (i : Int) / a0_1 ∧ (i : Int) / a0_1 ≤ 10 := by
       have hCC : a0_1 = 2 ∨ a0_1 = 3 ∨ a0_1 = 4 ∨ a0_1 = 5 ∨ a0_1 = 6 := by omega
       have hRR : a0_0 = 2 ∨ a0_0 = 3 ∨ a0_0 = 4 ∨ a0_0 = 5 ∨ a0_0 = 6 := by omega
       have hsz := HN.out
       rcases hCC with rfl | rfl | rfl | rfl | rfl <;> rcases hRR with rfl | rfl | rfl | rfl | rfl <;> omega
      have hd1 : 0 ≤ (i : Int) % a0_1 ∧ (i : Int) % a0_1 ≤ 10 := ⟨Int.emod_nonneg _ hC1, by have := Int.emod_lt_of_pos (i : Int) (show 0 < a0_1 by omega); omega⟩
      have hx1 : Int.tdiv (i : Int) a0_1 = (i : Int) / a0_1 := Int.tdiv_eq_ediv_of_nonneg (by omega)
      have hx2 : Int.tmod (i : Int) a0_1 = (i : Int) % a0_1 := Int.tmod_eq_emod_of_nonneg (by omega)
      have hx3 : IntKind.i64.wrap ((i : Int) / a0_1) = (i : Int) / a0_1 := IntWalk.i64_in _ (by omega)
      have hx4 : IntKind.i64.wrap ((i : Int) % a0_1) = (i : Int) % a0_1 := IntWalk.i64_in _ (by omega)
      go_still_tail 9, (by kernel_rfl)
      change wpList _ _ _ _ _ wr.drew
      have HE := Aside0.mk (show wr.drew = Sort.putRow Value.bool (Sort.ahead wr 1) B 0 ms.toArray by
       rw [Sort.putRow_self Value.bool (Sort.ahead wr 1) B 0 ms.toArray (Sort.holds_ahead Value.bool _ 1 _ _ _ OK.out.hold)]
       rfl)
      clear q5 q6 q7 q9 q10 hx1 hx2 hx3 hx4
      go_wp2_with fail
      refine (impl_PartsOf.visit ⟨hR.1, hR.2⟩ ⟨hC.1, hC.2⟩ HN.out rfl OK.out.g0 OK.out.g1 OK.out.g2 OK.out.m OK.out.v OK.out.gb OK.out.mb OK.out.vb OK.out.hold OK.out.len 100 ((i : Int) / a0_1) ((i : Int) % a0_1) ms ms2 _ 1 HD.out OK.out.len HE.out (by omega) (by omega) (by omega) (by omega)).mono ?_
      rintro e w2 ⟨rfl, hr⟩
      obtain ⟨hl2, n2, hw2⟩ := hr.out
      have OK2 := Aside0.mk (show impl_PartsOf.Ok w2 G M V B cap a0_2.size a0_0 a0_1 a0_2 ms2 by rw [hw2]; exact impl_PartsOf.ok_put OK.out hl2)
      have HB2 := Aside0.mk (show Below w.heap.size w w2 by rw [hw2]; exact Lib.below_putRow (enc := Value.bool) HB.out GB.out)
      clear hr hl2 hw2 HE OK HB
      go_wp2
      go_roundg (a0_2.size - (i + 1))
      case measure => have := HK.out; omega
      case rel => exact ⟨i + 1, n + 1, ms2, rfl, by simp, by omega, by omega, by omega, ⟨by omega⟩, OK2, HB2, HA⟩
    ·
     rw [if_neg c1] at hA
     have c1b : (bt a0_2 i == 46) = false := beq_eq_false_iff_ne.mpr c1
     have HA := Aside0.mk hA
     clear hA c1
     go_wp2
     go_roundg (a0_2.size - (i + 1))
     case measure => have := HK.out; omega
     case rel => exact ⟨i + 1, n, ms, rfl, by simp, by omega, hn0, by omega, ⟨by omega⟩, OK, HB, HA⟩
   ·
    obtain rfl : i = a0_2.size := by omega
    have hA := HA.out
    rw [Nat.sub_self] at hA
    simp only [impl_PartsOf.go, Option.some.injEq] at hA
    subst hA
    go_wp2
    go_ret
    exact ⟨rfl, HB.out⟩
 ·
  have c3' : t = false := by simpa using c3
  subst c3'
  have H : some 0 = some r := by rw [if_neg (by decide)] at h; exact h
  obtain rfl := Option.some.inj H
  clear h ht H
  go_enter Tryz.func153, Tryz.ntmps153
  go_wp2_with (first
   | ((with_reducible refine gate_dst (N := 1) rfl ?_); refine box_event ?hg (N := 1) ?hd (cs := #[.int .i64 a0_0, .int .i64 a0_1, .string a0_2]) (t := 32) ?hr ?_; (case hd => rfl); (case hg => rfl); (case hr => first | (go_simp; done) | (go_simp; rfl)); intro G hg w1 hbox hb; have n0_ := Aside0.mk (below_step HB.out hb); have n1_ := Aside0.mk hbox; have n2_ := Aside0.mk (show w.heap.size ≤ G by rw [hg]; exact Nat.le_refl _); clear HB; have HB := n0_; have BG := n1_; have GG := n2_; have q0 : w1.cell? ⟨G, 0, none⟩ = some (.int .i64 a0_0) := (blk_cell BG.out 0).trans rfl; have q1 : w1.cell? ⟨G, 1, none⟩ = some (.int .i64 a0_1) := (blk_cell BG.out 1).trans rfl; have q2 : w1.cell? ⟨G, 2, none⟩ = some (.string a0_2) := (blk_cell BG.out 2).trans rfl; clear n0_ n1_ n2_ hb hbox hg)
   | (go_at_call 85; (with_reducible refine (impl_IsGrid.calls k a0_0 a0_1 a0_2 false _ A2.out).mono ?_); rintro e w9 ⟨rfl, hb⟩; have n1_ := Aside0.mk (below_step HB.out hb); clear q0 q1 q2 HB BG; have HB := n1_; clear n1_ hb))
  go_ret
  exact ⟨rfl, HB.out⟩

/-! ### impl_IsConnected: function 130 -/
def impl_IsConnected.f (k : Nat) (a b : Int) (c : ByteArray) : Option (Bool) := (impl_PartsOf.f k a b c).bind fun d => (some (d == 1))
set_option maxHeartbeats 8000000 in
set_option maxRecDepth 100000 in
theorem impl_IsConnected.calls (k : Nat) (a0_0 a0_1 : Int) (a0_2 : ByteArray) (r : Bool) (w : World) (H : impl_IsConnected.f k a0_0 a0_1 a0_2 = some r) :
  Calls Tryz.prog 130 #[.agg #[.int .i64 a0_0, .int .i64 a0_1, .string a0_2]] w fun e w' => e = .returned (.bool r) ∧ Below w.heap.size w w' := by
 have hu32 := Tryz.underlying32
 have HB := Aside0.mk (Below.refl w.heap.size w)
 unfold impl_IsConnected.f at H
 replace H := zs H
 obtain ⟨t616, A2, H⟩ := H
 obtain rfl := Option.some.inj H
 go_enter Tryz.func130, Tryz.ntmps130
 go_wp2_with (first | ((with_reducible refine zd 1 rfl ?_); refine zbx (w := w) #[.int .i64 a0_0, .int .i64 a0_1, .string a0_2] 32 ?_; intro gb615 hg w3 BK615 hb; have GW615 := zg (w := w) hg; replace HB := zB hb; clear hb hg; have ⟨_, _, _, _, _, _⟩ := cz3 BK615) | ((with_reducible refine zd 4 rfl ?_); refine zgl Tryz.func153 (impl_PartsOf.calls k a0_0 a0_1 a0_2 t616 _ A2.out) ?_; rintro e w5 ⟨rfl, hb⟩; refine ⟨_, rfl, ?_⟩; replace BK615 := zk BK615 hb; replace HB := zB hb))
 go_ret
 exact ⟨er, bel⟩

/-! ### slices_Index_int_int: function 186 -/
def slices_Index_int_int.l0 : Nat → List Int → Int → Int → Int → Option (Int)
 | 0, _, _, _, _ => none
 | k + 1, a, b, c, d => if d < c then (if 0 ≤ d then (if d < (a.length : Int) then (if b = (rd a d) then (some d) else (slices_Index_int_int.l0 k a b c (wrap64 (d + 1)))) else (none)) else (none)) else (some (-1))
def slices_Index_int_int.f (k : Nat) (a : List Int) (b : Int) : Option (Int) := slices_Index_int_int.l0 k a b (a.length : Int) 0
set_option maxHeartbeats 8000000 in
set_option maxRecDepth 100000 in
theorem slices_Index_int_int.calls (k : Nat) (A0 : Option Addr) (c0 : Nat) (l0 : List Int) (a1 r : Int) (w : World) (hr0 : Kd.C (Kd.int .i64) w A0 l0.length l0) (hc0 : l0.length ≤ c0) (H : slices_Index_int_int.f k l0 a1 = some r) :
  Calls Tryz.prog 186 #[.slice A0 l0.length c0, .int .i64 a1] w fun e w' => e = .returned (.int .i64 r) ∧ Drawn0 w w' := by
 have HR0 := Aside0.mk hr0
 have HC0 := Aside0.mk hc0
 clear hr0 hc0
 unfold slices_Index_int_int.f at H
 have H' := Aside0.mk H
 clear H
 go_enter Tryz.func186, Tryz.ntmps186
 go_wp2
 go_loopg [8] k (fun kq v8 w' => ∃ (x8_1 : Int), v8 = .int .i64 x8_1 ∧ Aside0 (slices_Index_int_int.l0 kq l0 a1 (l0.length : Int) x8_1 = some r) ∧ Aside0 (kq ≤ k) ∧ Drawn0 w w')
 case atStart => exact ⟨(0), rf, H', ⟨Nat.le_refl _⟩, by repeat (first | exact Drawn0.refl _ | apply Drawn0.step)⟩
 case round =>
  clear H'
  obtain ⟨x8_1, rfl, HA, HK1, ⟨m1, rfl⟩⟩ := hrel
  cases gk with
  | zero => exact absurd HA.out (by simp [slices_Index_int_int.l0])
  | succ k1 =>
   have H := HA.out
   clear HA
   simp only [slices_Index_int_int.l0] at H
   replace H := zc H
   rcases H with ⟨c3b0, H⟩ | ⟨c3b0, H⟩
   ·
    replace H := zr H
    obtain ⟨c4b0, H⟩ := H
    replace H := zr H
    obtain ⟨c5b0, H⟩ := H
    by_cases c6 : a1 = (rd l0 x8_1)
    ·
     rw [if_pos c6] at H
     have c6b0 : (a1 == (rd l0 x8_1)) = true := beq_iff_eq.mpr c6
     have c6b1 : (a1 != (rd l0 x8_1)) = false := bne_eq_false_iff_eq.mpr c6
     clear c6
     obtain rfl := Option.some.inj H
     obtain ⟨p617, q617, ad617, e617, hx617_0⟩ := zx (Kd.at_int HR0.out x8_1)
     cases e617
     go_wp2
     go_ret
     exact ⟨by first | rfl | (simp; done) | (simp [*]; done), by repeat (first | exact Drawn0.refl _ | apply Drawn0.step)⟩
    ·
     rw [if_neg c6] at H
     have c6b0 : (a1 == (rd l0 x8_1)) = false := beq_eq_false_iff_ne.mpr c6
     have c6b1 : (a1 != (rd l0 x8_1)) = true := bne_iff_ne.mpr c6
     have H' := Aside0.mk H
     clear H
     obtain ⟨p617, q617, ad617, e617, hx617_0⟩ := zx (Kd.at_int HR0.out x8_1)
     cases e617
     go_wp2
     go_roundg k1
     case measure => have := HK1.out; omega
     case rel => exact ⟨(wrap64 (x8_1 + 1)), rf, H', ⟨by have := HK1.out; omega⟩, by repeat (first | exact Drawn0.refl _ | apply Drawn0.step)⟩
   ·
    obtain rfl := Option.some.inj H
    go_wp2
    go_ret
    exact ⟨by first | rfl | (simp; done) | (simp [*]; done), by repeat (first | exact Drawn0.refl _ | apply Drawn0.step)⟩

/-! ### slices_Contains_int_int: function 184 -/
def slices_Contains_int_int.f (k : Nat) (a : List Int) (b : Int) : Option (Bool) := (slices_Index_int_int.f k a b).bind fun c => (some (decide (c ≥ 0)))
set_option maxHeartbeats 8000000 in
set_option maxRecDepth 100000 in
theorem slices_Contains_int_int.calls (k : Nat) (A0 : Option Addr) (c0 : Nat) (l0 : List Int) (a1 : Int) (r : Bool) (w : World) (hr0 : Kd.C (Kd.int .i64) w A0 l0.length l0) (hc0 : l0.length ≤ c0) (H : slices_Contains_int_int.f k l0 a1 = some r) :
  Calls Tryz.prog 184 #[.slice A0 l0.length c0, .int .i64 a1] w fun e w' => e = .returned (.bool r) ∧ Drawn0 w w' := by
 have HR0 := Aside0.mk hr0
 have HC0 := Aside0.mk hc0
 clear hr0 hc0
 unfold slices_Contains_int_int.f at H
 replace H := zs H
 obtain ⟨t618, A3, H⟩ := H
 obtain rfl := Option.some.inj H
 go_enter Tryz.func184, Tryz.ntmps184
 go_wp2_with (first | ((with_reducible refine gate_callee (f := 186) rfl ?_); refine goesL_ (some 7) rfl rfl Tryz.func186 (by kernel_rfl) rfl #[.slice A0 l0.length c0, .int .i64 a1] rfl ga ?_; (with_reducible refine (slices_Index_int_int.calls k _ _ l0 a1 t618 _ ?side1 ?side2 A3.out).mono ?_); (case side1 => repeat (first | exact HR0.out | (with_reducible refine Kd.C_alloc ?_ _) | (with_reducible refine Kd.C_drewN ?_ _) | (with_reducible refine Kd.C_drew ?_))); (case side2 => exact HC0.out); rintro e w' ⟨rfl, ⟨nd, rfl⟩⟩; refine ⟨_, rfl, ?_⟩))
 go_ret
 exact ⟨by first | rfl | (simp; done) | (simp [*]; done), by repeat (first | exact Drawn0.refl _ | apply Drawn0.step)⟩

/-! ### impl_SlotsAt: function 176 -/
def impl_SlotsAt.l0 : Nat → Int → List Int → List (List Int) → Int → Int → Option (List Int)
 | 0, _, _, _, _, _ => none
 | k + 1, a, b, c, d, e => if e < d then (if 0 ≤ e then (if e < (c.length : Int) then ((slices_Contains_int_int.f k (rd_L12 c e) a).bind fun f => (if f = true then (if b.length < 17592186044416 then (impl_SlotsAt.l0 k a (b ++ [e]) c d (wrap64 (e + 1))) else (none)) else (impl_SlotsAt.l0 k a b c d (wrap64 (e + 1))))) else (none)) else (none)) else (some b)
def impl_SlotsAt.f (k : Nat) (a b : Int) (c : ByteArray) (d : Int) : Option (List Int) := (impl_layout.f k a b c).bind fun e => (impl_SlotsAt.l0 k d ([] : List Int) e (e.length : Int) 0)
set_option maxHeartbeats 8000000 in
set_option maxRecDepth 100000 in
theorem impl_SlotsAt.calls (k : Nat) (a0_0 a0_1 : Int) (a0_2 : ByteArray) (a1 : Int) (r : List Int) (w : World) (H : impl_SlotsAt.f k a0_0 a0_1 a0_2 a1 = some r) :
  Calls Tryz.prog 176 #[.agg #[.int .i64 a0_0, .int .i64 a0_1, .string a0_2], .int .i64 a1] w fun e w' => ∃ v0_ : Value, e = .returned (v0_) ∧ Kd.R (Kd.int .i64) 3 w' w.heap.size (fun _ => True) v0_ r ∧ Below w.heap.size w w' := by
 have hu32 := Tryz.underlying32
 have HB := Aside0.mk (Below.refl w.heap.size w)
 unfold impl_SlotsAt.f at H
 replace H := zs H
 obtain ⟨t620, A3, H⟩ := H
 have H' := Aside0.mk H
 clear H
 go_enter Tryz.func176, Tryz.ntmps176
 go_wp2_with (first | ((with_reducible refine zd 2 rfl ?_); refine zbx (w := w) #[.int .i64 a0_0, .int .i64 a0_1, .string a0_2] 32 ?_; intro gb619 hg w4 BK619 hb; have GW619 := zg (w := w) hg; replace HB := zB hb; clear hb hg; have ⟨_, _, _, _, _, _⟩ := cz3 BK619) | ((with_reducible refine zd 9 rfl ?_); refine zgl Tryz.func116 (impl_layout.calls k a0_0 a0_1 a0_2 t620 _ A3.out) ?_; rintro e w6 ⟨v621, rfl, ho0, hb⟩; refine ⟨_, rfl, ?_⟩; have HO622 := Aside0.mk (Kd.S_lower ho0 bsz); replace BK619 := zk BK619 hb; replace HB := zB hb; obtain ⟨Ao7, co7, eo7⟩ := Kd.S_slice HO622.out; subst eo7))
 go_loopg [5, 11] k (fun kq v5 v11 w' => ∃ (x5_1 : List Int) (x11_1 : Int), v11 = .int .i64 x11_1 ∧ Aside0 (impl_SlotsAt.l0 kq a1 x5_1 t620 (t620.length : Int) x11_1 = some r) ∧ Aside0 (kq ≤ k) ∧ Aside0 (Kd.R (Kd.int .i64) 3 w' w.heap.size (fun _ => True) v5 x5_1) ∧ Aside0 (Kd.S (Kd.slice 3 (Kd.int .i64)) 25 w' w.heap.size (fun k_ => some k_ ≠ (v5 : Value).ownBlock) (.slice Ao7 t620.length co7) t620) ∧ Aside0 (w'.heap[gb619]? = some (.cells #[.int .i64 a0_0, .int .i64 a0_1, .string a0_2] 32 (0, 0))) ∧ Aside0 (Below w.heap.size w w'))
 case atStart => exact ⟨(([] : List Int)), (0), rf, H', ⟨Nat.le_refl _⟩, ⟨by first | exact Kd.R_nil _ _ _ _ _ | exact Kd.N_nil _ _ _ _ _ | exact Kd.V_nil _ _ _ _ _ | exact Kd.Q_nil _ _ _ _ _ | exact Kd.S_nil _ _ _ _ _⟩, ⟨by (with_reducible repeat (first | apply Kd.S_alloc | apply Kd.S_drewN | apply Kd.S_drew)); exact Kd.S_mono HO622.out (fun _ hk => (by simp [Value.ownBlock]))⟩, ⟨bk BK619⟩, ⟨bel⟩⟩
 case round =>
  clear H'
  obtain ⟨x5_1, x11_1, rfl, HA, HK1, HO_5, HO_9, BK619, HB⟩ := hrel
  cases gk with
  | zero => exact absurd HA.out (by simp [impl_SlotsAt.l0])
  | succ k1 =>
   have H := HA.out
   clear HA
   simp only [impl_SlotsAt.l0] at H
   replace H := zc H
   rcases H with ⟨c8b0, H⟩ | ⟨c8b0, H⟩
   ·
    replace H := zr H
    obtain ⟨c9b0, H⟩ := H
    replace H := zr H
    obtain ⟨c10b0, H⟩ := H
    replace H := zs H
    obtain ⟨t624, A11, H⟩ := H
    replace H := zb H
    rcases H with ⟨rfl, H⟩ | ⟨rfl, H⟩
    ·
     replace H := zl H
     obtain ⟨LMc13, H⟩ := H
     generalize hy625 : (x5_1 ++ [x11_1] : List Int) = y625 at H
     have Ny625 := Aside0.mk hy625.symm
     clear hy625
     have H' := Aside0.mk H
     clear H
     have p623 : 0 ≤ (x11_1 : Int) := of_decide_eq_true asm
     have q623 : x11_1 < (t620.length : Int) := of_decide_eq_true asm
     obtain ⟨ad623, A623_0, c623_0, e623, hx623_0, hl623_0, hi623_0⟩ := at_L12 (Kd.S_reads' HO_9.out).2.2 x11_1 p623 q623
     cases e623
     obtain ⟨ce623, hce623, hMe623, hcc623⟩ := Kd.S_get HO_9.out [] x11_1 p623 (by first | exact q623 | exact of_decide_eq_true asm | (have e_ := (Kd.S_reads' HO_9.out).1; omega))
     obtain ⟨ve623_0, rfl, ge623_0⟩ := hMe623
     have hv623_0 := hcc623 0 _ rfl
     rw [Nat.add_zero, show ((Kd.slice 3 (Kd.int .i64))).sz = 1 from rfl, Nat.mul_one] at hv623_0
     replace hv623_0 := Option.some.inj (hv623_0.symm.trans hx623_0)
     rw [hv623_0] at ge623_0
     have HL623_0 := Aside0.mk (show Kd.R (Kd.int .i64) 3 _ _ _ _ (rd_L12 t620 x11_1) from ge623_0)
     clear hv623_0 ge623_0
     clear hcc623 hce623
     have HR623_0 := Aside0.mk hi623_0
     have HC623_0 := Aside0.mk hl623_0
     clear hi623_0 hl623_0
     replace p623 := eq_true p623
     replace q623 := eq_true q623
     go_wp2_with (first | ((with_reducible refine gate_callee (f := 184) rfl ?_); refine goesL_ (some 18) rfl rfl Tryz.func184 (by kernel_rfl) rfl #[.slice A623_0 (rd_L12 t620 x11_1).length c623_0, .int .i64 a1] rfl ga ?_; (with_reducible refine (slices_Contains_int_int.calls k1 _ _ (rd_L12 t620 x11_1) a1 true _ ?side1 ?side2 A11.out).mono ?_); (case side1 => repeat (first | exact (by repeat (first | (with_reducible exact HR623_0.out) | (with_reducible refine Kd.C_alloc ?_ _) | (with_reducible refine Kd.C_drewN ?_ _) | (with_reducible refine Kd.C_drew ?_) | exact HR623_0.out)) | (with_reducible refine Kd.C_alloc ?_ _) | (with_reducible refine Kd.C_drewN ?_ _) | (with_reducible refine Kd.C_drew ?_))); (case side2 => exact HC623_0.out); rintro e w' ⟨rfl, ⟨nd, rfl⟩⟩; refine ⟨_, rfl, ?_⟩) | ((with_reducible refine gate_builtin (b := .append) (xs := #[.tmp 19, .tmp 21]) rfl ?_); at_builtin; refine Kd.R_append (Kd.int .i64) (w0 := w) w.heap.size rfl (.tmp 19) (.tmp 21) 25 3 (.int .i64 0) 8 rfl Tryz.underlying25 info3 rfl (by decide) (by omega) u5 x5_1 x11_1 [.int .i64 x11_1] (fun _ => True) (fun _ => False) rfl rfl ?aP (fun _ hk => hk.elim) ?aF ?aO ?aB ?aS ?aL ?_; (case aP => exact rfl); (case aB => exact bel); (case aF => exact (fun _ _ => trivial)); (case aO => exact (kr HO_5)); (case aS => exact bsz); (case aL => have := LMc13.out; omega); intro v626 w14 ho hb hg hat; rw [← Ny625.out] at ho; replace HO_9 := Aside0.mk (Kd.S_after (ok := (fun _ => True)) (by (with_reducible repeat (first | apply Kd.S_alloc | apply Kd.S_drewN | apply Kd.S_drew)); exact Kd.S_mono HO_9.out (fun _ hk => ⟨trivial, hk⟩)) hg hat); replace BK619 := Aside0.mk (blk_grown (bk BK619) hg (Kd.R_ne HO_5.out BK619.out (by decide))); replace HL623_0 := Aside0.mk (Kd.R_after (ok := (fun k_ => some k_ ≠ (.slice (some ad623) t620.length co7 : Value).ownBlock)) (by (with_reducible repeat (first | apply Kd.R_alloc | apply Kd.R_drewN | apply Kd.R_drew)); exact Kd.R_mono HL623_0.out (fun _ hk => ⟨hk.2, hk.1⟩)) hg hat); replace HB := Aside0.mk hb; have HO627 := Aside0.mk ho; clear HO_5; clear ho hb hg hat))
     go_roundg k1
     case measure => have := HK1.out; omega
     case rel => exact ⟨(y625), (wrap64 (x11_1 + 1)), rf, H', ⟨by have := HK1.out; omega⟩, ⟨kr HO627⟩, ⟨by (with_reducible repeat (first | apply Kd.S_alloc | apply Kd.S_drewN | apply Kd.S_drew)); exact Kd.S_mono HO_9.out (fun _ hk => hk.2)⟩, ⟨bk BK619⟩, ⟨bel⟩⟩
    ·
     have H' := Aside0.mk H
     clear H
     have p623 : 0 ≤ (x11_1 : Int) := of_decide_eq_true asm
     have q623 : x11_1 < (t620.length : Int) := of_decide_eq_true asm
     obtain ⟨ad623, A623_0, c623_0, e623, hx623_0, hl623_0, hi623_0⟩ := at_L12 (Kd.S_reads' HO_9.out).2.2 x11_1 p623 q623
     cases e623
     obtain ⟨ce623, hce623, hMe623, hcc623⟩ := Kd.S_get HO_9.out [] x11_1 p623 (by first | exact q623 | exact of_decide_eq_true asm | (have e_ := (Kd.S_reads' HO_9.out).1; omega))
     obtain ⟨ve623_0, rfl, ge623_0⟩ := hMe623
     have hv623_0 := hcc623 0 _ rfl
     rw [Nat.add_zero, show ((Kd.slice 3 (Kd.int .i64))).sz = 1 from rfl, Nat.mul_one] at hv623_0
     replace hv623_0 := Option.some.inj (hv623_0.symm.trans hx623_0)
     rw [hv623_0] at ge623_0
     have HL623_0 := Aside0.mk (show Kd.R (Kd.int .i64) 3 _ _ _ _ (rd_L12 t620 x11_1) from ge623_0)
     clear hv623_0 ge623_0
     clear hcc623 hce623
     have HR623_0 := Aside0.mk hi623_0
     have HC623_0 := Aside0.mk hl623_0
     clear hi623_0 hl623_0
     replace p623 := eq_true p623
     replace q623 := eq_true q623
     go_wp2_with (first | ((with_reducible refine gate_callee (f := 184) rfl ?_); refine goesL_ (some 18) rfl rfl Tryz.func184 (by kernel_rfl) rfl #[.slice A623_0 (rd_L12 t620 x11_1).length c623_0, .int .i64 a1] rfl ga ?_; (with_reducible refine (slices_Contains_int_int.calls k1 _ _ (rd_L12 t620 x11_1) a1 false _ ?side1 ?side2 A11.out).mono ?_); (case side1 => repeat (first | exact (by repeat (first | (with_reducible exact HR623_0.out) | (with_reducible refine Kd.C_alloc ?_ _) | (with_reducible refine Kd.C_drewN ?_ _) | (with_reducible refine Kd.C_drew ?_) | exact HR623_0.out)) | (with_reducible refine Kd.C_alloc ?_ _) | (with_reducible refine Kd.C_drewN ?_ _) | (with_reducible refine Kd.C_drew ?_))); (case side2 => exact HC623_0.out); rintro e w' ⟨rfl, ⟨nd, rfl⟩⟩; refine ⟨_, rfl, ?_⟩))
     go_roundg k1
     case measure => have := HK1.out; omega
     case rel => exact ⟨(x5_1), (wrap64 (x11_1 + 1)), rf, H', ⟨by have := HK1.out; omega⟩, ⟨kr HO_5⟩, ⟨ks HO_9⟩, ⟨bk BK619⟩, ⟨bel⟩⟩
   ·
    obtain rfl := Option.some.inj H
    go_wp2
    go_ret
    exact ⟨_, er, kr HO_5, bel⟩

/-! ### impl_IsChecked: function 154 -/
def impl_IsChecked.f (k : Nat) (a b : Int) (c : ByteArray) (d : Int) : Option (Bool) := (impl_SlotsAt.f k a b c d).bind fun e => (some ((e.length : Int) == 2))
set_option maxHeartbeats 8000000 in
set_option maxRecDepth 100000 in
theorem impl_IsChecked.calls (k : Nat) (a0_0 a0_1 : Int) (a0_2 : ByteArray) (a1 : Int) (r : Bool) (w : World) (H : impl_IsChecked.f k a0_0 a0_1 a0_2 a1 = some r) :
  Calls Tryz.prog 154 #[.agg #[.int .i64 a0_0, .int .i64 a0_1, .string a0_2], .int .i64 a1] w fun e w' => e = .returned (.bool r) ∧ Below w.heap.size w w' := by
 have hu32 := Tryz.underlying32
 have HB := Aside0.mk (Below.refl w.heap.size w)
 unfold impl_IsChecked.f at H
 replace H := zs H
 obtain ⟨t629, A3, H⟩ := H
 obtain rfl := Option.some.inj H
 go_enter Tryz.func154, Tryz.ntmps154
 go_wp2_with (first | ((with_reducible refine zd 2 rfl ?_); refine zbx (w := w) #[.int .i64 a0_0, .int .i64 a0_1, .string a0_2] 32 ?_; intro gb628 hg w4 BK628 hb; have GW628 := zg (w := w) hg; replace HB := zB hb; clear hb hg; have ⟨_, _, _, _, _, _⟩ := cz3 BK628) | ((with_reducible refine zd 7 rfl ?_); refine zgl Tryz.func176 (impl_SlotsAt.calls k a0_0 a0_1 a0_2 a1 t629 _ A3.out) ?_; rintro e w6 ⟨v630, rfl, ho0, hb⟩; refine ⟨_, rfl, ?_⟩; have HO631 := zl2 ho0; replace BK628 := zk BK628 hb; replace HB := zB hb; obtain ⟨Ao7, co7, eo7⟩ := Kd.R_slice HO631.out; subst eo7))
 go_ret
 exact ⟨er, bel⟩

/-! ### impl_UncheckedIn: function 131 -/
def impl_UncheckedIn.l0 : Nat → Int → List Int → Int → Int → Int → Int → ByteArray → Option (Int)
 | 0, _, _, _, _, _, _, _ => none
 | k + 1, a, b, c, d, e, f, g => if d < c then (if 0 ≤ d then (if d < (b.length : Int) then ((impl_IsChecked.f k e f g (rd b d)).bind fun h => (if h = true then (impl_UncheckedIn.l0 k a b c (wrap64 (d + 1)) e f g) else (impl_UncheckedIn.l0 k (wrap64 (a + 1)) b c (wrap64 (d + 1)) e f g))) else (none)) else (none)) else (some a)
def impl_UncheckedIn.f (k : Nat) (a b : Int) (c : ByteArray) (d : Int) : Option (Int) := (impl_layout.f k a b c).bind fun e => ((impl_at.f d (e.length : Int)).bind fun f => (if f = true then (if 0 ≤ d then (if d < (e.length : Int) then (impl_UncheckedIn.l0 k 0 (rd_L12 e d) ((rd_L12 e d).length : Int) 0 a b c) else (none)) else (none)) else (some (-1))))
set_option maxHeartbeats 8000000 in
set_option maxRecDepth 100000 in
theorem impl_UncheckedIn.calls (k : Nat) (a0_0 a0_1 : Int) (a0_2 : ByteArray) (a1 r : Int) (w : World) (H : impl_UncheckedIn.f k a0_0 a0_1 a0_2 a1 = some r) :
  Calls Tryz.prog 131 #[.agg #[.int .i64 a0_0, .int .i64 a0_1, .string a0_2], .int .i64 a1] w fun e w' => e = .returned (.int .i64 r) ∧ Below w.heap.size w w' := by
 have hu32 := Tryz.underlying32
 have HB := Aside0.mk (Below.refl w.heap.size w)
 unfold impl_UncheckedIn.f at H
 replace H := zs H
 obtain ⟨t633, A3, H⟩ := H
 replace H := zs H
 obtain ⟨t636, A4, H⟩ := H
 replace H := zb H
 rcases H with ⟨rfl, H⟩ | ⟨rfl, H⟩
 ·
  replace H := zr H
  obtain ⟨c6b0, H⟩ := H
  replace H := zr H
  obtain ⟨c7b0, H⟩ := H
  have H' := Aside0.mk H
  clear H
  go_enter Tryz.func131, Tryz.ntmps131
  go_wp2_with (first | ((with_reducible refine zd 2 rfl ?_); refine zbx (w := w) #[.int .i64 a0_0, .int .i64 a0_1, .string a0_2] 32 ?_; intro gb632 hg w8 BK632 hb; have GW632 := zg (w := w) hg; replace HB := zB hb; clear hb hg; have ⟨_, _, _, _, _, _⟩ := cz3 BK632) | ((with_reducible refine zd 10 rfl ?_); refine zgl Tryz.func116 (impl_layout.calls k a0_0 a0_1 a0_2 t633 _ A3.out) ?_; rintro e w10 ⟨v634, rfl, ho0, hb⟩; refine ⟨_, rfl, ?_⟩; have HO635 := Aside0.mk (Kd.S_lower ho0 bsz); replace BK632 := zk BK632 hb; replace HB := zB hb; obtain ⟨Ao11, co11, eo11⟩ := Kd.S_slice HO635.out; subst eo11) | ((with_reducible refine zd 14 rfl ?_); refine zgl Tryz.func118 (impl_at.calls a1 (t633.length : Int) true _ A4.out) ?_; rintro e w' ⟨rfl, ⟨nd, rfl⟩⟩; refine ⟨_, rfl, ?_⟩; have p637 : 0 ≤ (a1 : Int) := of_decide_eq_true asm; have q637 : a1 < (t633.length : Int) := of_decide_eq_true asm; obtain ⟨ad637, A637_0, c637_0, e637, hx637_0, hl637_0, hi637_0⟩ := at_L12 (Kd.S_reads' HO635.out).2.2 a1 p637 q637; cases e637; obtain ⟨ce637, hce637, hMe637, hcc637⟩ := Kd.S_get HO635.out [] a1 p637 (by first | exact q637 | exact of_decide_eq_true asm | (have e_ := (Kd.S_reads' HO635.out).1; omega)); obtain ⟨ve637_0, rfl, ge637_0⟩ := hMe637; have hv637_0 := hcc637 0 _ rfl; rw [Nat.add_zero, show ((Kd.slice 3 (Kd.int .i64))).sz = 1 from rfl, Nat.mul_one] at hv637_0; replace hv637_0 := Option.some.inj (hv637_0.symm.trans hx637_0); rw [hv637_0] at ge637_0; have HL637_0 := Aside0.mk (show Kd.R (Kd.int .i64) 3 _ _ _ _ (rd_L12 t633 a1) from ge637_0); clear hv637_0 ge637_0; clear hcc637 hce637; have HR637_0 := Aside0.mk hi637_0; have HC637_0 := Aside0.mk hl637_0; clear hi637_0 hl637_0; replace p637 := eq_true p637; replace q637 := eq_true q637))
  go_loopg [6, 21] k (fun kq v6 v21 w' => ∃ (x6_1 : Int) (x21_1 : Int), v6 = .int .i64 x6_1 ∧ v21 = .int .i64 x21_1 ∧ Aside0 (impl_UncheckedIn.l0 kq x6_1 (rd_L12 t633 a1) ((rd_L12 t633 a1).length : Int) x21_1 a0_0 a0_1 a0_2 = some r) ∧ Aside0 (kq ≤ k) ∧ Aside0 (w'.heap[gb632]? = some (.cells #[.int .i64 a0_0, .int .i64 a0_1, .string a0_2] 32 (0, 0))) ∧ Aside0 (Kd.C (Kd.int .i64) w' A637_0 (rd_L12 t633 a1).length (rd_L12 t633 a1)) ∧ Aside0 (Below w.heap.size w w'))
  case atStart => exact ⟨(0), (0), rf, rf, H', ⟨Nat.le_refl _⟩, ⟨bk BK632⟩, ⟨by repeat (first | (with_reducible exact HR637_0.out) | (with_reducible refine Kd.C_alloc ?_ _) | (with_reducible refine Kd.C_drewN ?_ _) | (with_reducible refine Kd.C_drew ?_) | exact HR637_0.out)⟩, ⟨bel⟩⟩
  case round =>
   clear H'
   obtain ⟨x6_1, x21_1, rfl, rfl, HA, HK1, BK632, HR637_0, HB⟩ := hrel
   cases gk with
   | zero => exact absurd HA.out (by simp [impl_UncheckedIn.l0])
   | succ k1 =>
    have H := HA.out
    clear HA
    simp only [impl_UncheckedIn.l0] at H
    replace H := zc H
    rcases H with ⟨c12b0, H⟩ | ⟨c12b0, H⟩
    ·
     replace H := zr H
     obtain ⟨c13b0, H⟩ := H
     replace H := zr H
     obtain ⟨c14b0, H⟩ := H
     replace H := zs H
     obtain ⟨t639, A15, H⟩ := H
     replace H := zb H
     rcases H with ⟨rfl, H⟩ | ⟨rfl, H⟩
     ·
      have H' := Aside0.mk H
      clear H
      obtain ⟨p638, q638, ad638, e638, hx638_0⟩ := zx (Kd.at_int HR637_0.out x21_1)
      cases e638
      have ⟨_, _, _, _, _, _⟩ := cz3 BK632
      go_wp2_with (first | ((with_reducible refine zd 27 rfl ?_); refine zgl Tryz.func154 (impl_IsChecked.calls k1 a0_0 a0_1 a0_2 (rd (rd_L12 t633 a1) x21_1) true _ A15.out) ?_; rintro e w18 ⟨rfl, hb⟩; refine ⟨_, rfl, ?_⟩; replace BK632 := zk BK632 hb; replace HR637_0 := Aside0.mk (Kd.C_below (by repeat (first | (with_reducible exact HR637_0.out) | (with_reducible refine Kd.C_alloc ?_ _) | (with_reducible refine Kd.C_drewN ?_ _) | (with_reducible refine Kd.C_drew ?_) | exact HR637_0.out)) hb); replace HB := zB hb))
      go_roundg k1
      case measure => have := HK1.out; omega
      case rel => exact ⟨(x6_1), (wrap64 (x21_1 + 1)), rf, rf, H', ⟨by have := HK1.out; omega⟩, ⟨bk BK632⟩, ⟨by repeat (first | (with_reducible exact HR637_0.out) | (with_reducible refine Kd.C_alloc ?_ _) | (with_reducible refine Kd.C_drewN ?_ _) | (with_reducible refine Kd.C_drew ?_) | exact HR637_0.out)⟩, ⟨bel⟩⟩
     ·
      have H' := Aside0.mk H
      clear H
      obtain ⟨p638, q638, ad638, e638, hx638_0⟩ := zx (Kd.at_int HR637_0.out x21_1)
      cases e638
      have ⟨_, _, _, _, _, _⟩ := cz3 BK632
      go_wp2_with (first | ((with_reducible refine zd 27 rfl ?_); refine zgl Tryz.func154 (impl_IsChecked.calls k1 a0_0 a0_1 a0_2 (rd (rd_L12 t633 a1) x21_1) false _ A15.out) ?_; rintro e w20 ⟨rfl, hb⟩; refine ⟨_, rfl, ?_⟩; replace BK632 := zk BK632 hb; replace HR637_0 := Aside0.mk (Kd.C_below (by repeat (first | (with_reducible exact HR637_0.out) | (with_reducible refine Kd.C_alloc ?_ _) | (with_reducible refine Kd.C_drewN ?_ _) | (with_reducible refine Kd.C_drew ?_) | exact HR637_0.out)) hb); replace HB := zB hb))
      go_roundg k1
      case measure => have := HK1.out; omega
      case rel => exact ⟨(wrap64 (x6_1 + 1)), (wrap64 (x21_1 + 1)), rf, rf, H', ⟨by have := HK1.out; omega⟩, ⟨bk BK632⟩, ⟨by repeat (first | (with_reducible exact HR637_0.out) | (with_reducible refine Kd.C_alloc ?_ _) | (with_reducible refine Kd.C_drewN ?_ _) | (with_reducible refine Kd.C_drew ?_) | exact HR637_0.out)⟩, ⟨bel⟩⟩
    ·
     obtain rfl := Option.some.inj H
     go_wp2
     go_ret
     exact ⟨er, bel⟩
 ·
  obtain rfl := Option.some.inj H
  go_enter Tryz.func131, Tryz.ntmps131
  go_wp2_with (first | ((with_reducible refine zd 2 rfl ?_); refine zbx (w := w) #[.int .i64 a0_0, .int .i64 a0_1, .string a0_2] 32 ?_; intro gb632 hg w21 BK632 hb; have GW632 := zg (w := w) hg; replace HB := zB hb; clear hb hg; have ⟨_, _, _, _, _, _⟩ := cz3 BK632) | ((with_reducible refine zd 10 rfl ?_); refine zgl Tryz.func116 (impl_layout.calls k a0_0 a0_1 a0_2 t633 _ A3.out) ?_; rintro e w23 ⟨v634, rfl, ho0, hb⟩; refine ⟨_, rfl, ?_⟩; have HO635 := Aside0.mk (Kd.S_lower ho0 bsz); replace BK632 := zk BK632 hb; replace HB := zB hb; obtain ⟨Ao24, co24, eo24⟩ := Kd.S_slice HO635.out; subst eo24) | ((with_reducible refine zd 14 rfl ?_); refine zgl Tryz.func118 (impl_at.calls a1 (t633.length : Int) false _ A4.out) ?_; rintro e w' ⟨rfl, ⟨nd, rfl⟩⟩; refine ⟨_, rfl, ?_⟩))
  go_ret
  exact ⟨er, bel⟩

end Go.Proofs.YtpcdfjcbjbkliaaGreat.E
