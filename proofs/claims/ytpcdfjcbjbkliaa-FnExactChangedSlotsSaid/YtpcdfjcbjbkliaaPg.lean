import Derived.Test.YtpcdfjcbjbkliaaPf
namespace Go.Proofs.Ytpcdfjcbjbkliaa.E
open Go.RowKit Go.Proofs.YtpcdfjcbjbkliaaW.PrintWords Go.Proofs.YtpcdfjcbjbkliaaW.PrintLast Go.Proofs.YtpcdfjcbjbkliaaW.PrintMore
set_option linter.unusedVariables false
set_option linter.unusedSimpArgs false
/-! ### the search in depth -/
theorem Rch.src {s : ByteArray} {c N a j : Nat} (h : Rch s c N a j) : a < N ∧ bt s (a : Int) = 46 := by
  induction h with
  | base h1 h2 => exact ⟨h1, h2⟩
  | step _ _ _ _ ih => exact ih
structure Dfs (R C : Int) (s : ByteArray) (c : Nat) (x y : Int) (ms ms' : List Bool) : Prop where
  len : ms'.length = s.size
  up : ∀ j, ms.getD j false = true → ms'.getD j false = true
  cnt : ms'.count false ≤ ms.count false
  hit : ∀ i : Nat, (0 ≤ x ∧ x < R) → (0 ≤ y ∧ y < C) → (i : Int) = x * C + y → bt s (i : Int) = 46 → ms'.getD i false = true
  from_ : ∀ j, ms'.getD j false = true → ms.getD j false = true ∨ ∃ i : Nat, (0 ≤ x ∧ x < R) ∧ (0 ≤ y ∧ y < C) ∧ (i : Int) = x * C + y ∧ Rch s c s.size i j
  shut : ∀ j, ms'.getD j false = true → ms.getD j false = false → ∀ j', j' < s.size → near c j' j → bt s (j' : Int) = 46 → ms'.getD j' false = true
theorem dfs_ok {R C : Int} {s : ByteArray} {r c : Nat} (g : Gr R C s r c) : ∀ k (x y : Int) (ms : List Bool), ms.length = s.size → ms.count false < k → ∃ ms', impl_PartsOf.dfs R C s k x y ms = some ms' ∧ Dfs R C s c x y ms ms'
  | 0, x, y, ms, hl, hc => by omega
  | k + 1, x, y, ms, hl, hc => by
    have same : (∀ i : Nat, (0 ≤ x ∧ x < R) → (0 ≤ y ∧ y < C) → (i : Int) = x * C + y → bt s (i : Int) = 46 → ms.getD i false = true) → Dfs R C s c x y ms ms := fun h =>
      ⟨hl, fun _ h => h, Nat.le_refl _, h, fun j hj => .inl hj, fun j h1 h2 => by rw [h1] at h2; cases h2⟩
    unfold impl_PartsOf.dfs
    by_cases hx : 0 ≤ x ∧ x < R
    · rw [if_pos hx]
      by_cases hy : 0 ≤ y ∧ y < C
      · rw [if_pos hy]
        have eR := g.er
        have eC := g.ec
        obtain ⟨xn, rfl⟩ : ∃ n : Nat, x = n := ⟨x.toNat, by omega⟩
        obtain ⟨yn, rfl⟩ : ∃ n : Nat, y = n := ⟨y.toNat, by omega⟩
        have ei : (xn : Int) * C + yn = ((xn * c + yn : Nat) : Int) := by rw [eC, Int.natCast_add, Int.natCast_mul]
        have hz := g.sz
        have hmul : (xn + 1) * c ≤ r * c := Nat.mul_le_mul_right _ (by omega)
        rw [Nat.add_mul] at hmul
        have hiN : xn * c + yn < s.size := by omega
        have hmod : (xn * c + yn) % c = yn := by rw [Nat.mul_comm, Nat.mul_add_mod]; exact Nat.mod_eq_of_lt (by omega)
        rw [ei, Int.toNat_natCast]
        generalize hI : xn * c + yn = I at *
        have hitI : ∀ i : Nat, (i : Int) = ((I : Nat) : Int) → i = I := fun i h => by omega
        by_cases hm : ms.getD I false = true
        · rw [if_pos hm]
          exact ⟨ms, rfl, same (fun i _ _ h _ => by rw [ei] at h; rw [hitI i h]; exact hm)⟩
        · rw [if_neg hm]
          by_cases hw : bt s (I : Int) = 46
          · rw [if_pos hw]
            have hm' : ms.getD I false = false := by simpa using hm
            have hcs := count_set (S := ms) (i := I) (by omega) hm'
            have hgs : ∀ j, (ms.set I true).getD j false = if j = I then true else ms.getD j false := fun j => getD_set_true (by omega)
            obtain ⟨m1, e1, D1⟩ := dfs_ok g k ((xn : Int) - 1) yn (ms.set I true) (by rw [List.length_set]; exact hl) (by omega)
            have c1 := D1.cnt
            obtain ⟨m2, e2, D2⟩ := dfs_ok g k ((xn : Int) + 1) yn m1 D1.len (by omega)
            have c2 := D2.cnt
            obtain ⟨m3, e3, D3⟩ := dfs_ok g k (xn : Int) ((yn : Int) - 1) m2 D2.len (by omega)
            have c3 := D3.cnt
            obtain ⟨m4, e4, D4⟩ := dfs_ok g k (xn : Int) ((yn : Int) + 1) m3 D3.len (by omega)
            have c4 := D4.cnt
            refine ⟨m4, by rw [e1, Option.bind_some, e2, Option.bind_some, e3, Option.bind_some, e4], ?_⟩
            have a1 : ((xn : Int) - 1) * C + yn = (I : Int) - c := by rw [Int.sub_mul, Int.one_mul, eC, ← ei, eC]; omega
            have a2 : ((xn : Int) + 1) * C + yn = (I : Int) + c := by rw [Int.add_mul, Int.one_mul, eC, ← ei, eC]; omega
            have a3 : (xn : Int) * C + ((yn : Int) - 1) = (I : Int) - 1 := by rw [← ei]; omega
            have a4 : (xn : Int) * C + ((yn : Int) + 1) = (I : Int) + 1 := by rw [← ei]; omega
            have baseI : Rch s c s.size I I := .base hiN hw
            have f1 : ∀ j, m1.getD j false = true → ms.getD j false = true ∨ Rch s c s.size I j := fun j hj => by
              rcases D1.from_ j hj with h | ⟨i, h1, h2, h3, h4⟩
              · rw [hgs] at h
                split at h
                · right; subst_vars; exact baseI
                · exact .inl h
              · rw [a1] at h3
                exact .inr (Rch.trans (.step baseI h4.src.1 h4.src.2 (.inr (.inr (.inr (by omega))))) h4)
            have f2 : ∀ j, m2.getD j false = true → ms.getD j false = true ∨ Rch s c s.size I j := fun j hj => by
              rcases D2.from_ j hj with h | ⟨i, h1, h2, h3, h4⟩
              · exact f1 j h
              · rw [a2] at h3
                exact .inr (Rch.trans (.step baseI h4.src.1 h4.src.2 (.inr (.inr (.inl (by omega))))) h4)
            have f3 : ∀ j, m3.getD j false = true → ms.getD j false = true ∨ Rch s c s.size I j := fun j hj => by
              rcases D3.from_ j hj with h | ⟨i, h1, h2, h3, h4⟩
              · exact f2 j h
              · rw [a3] at h3
                exact .inr (Rch.trans (.step baseI h4.src.1 h4.src.2 (.inr (.inl ⟨by omega, by omega⟩))) h4)
            have f4 : ∀ j, m4.getD j false = true → ms.getD j false = true ∨ Rch s c s.size I j := fun j hj => by
              rcases D4.from_ j hj with h | ⟨i, h1, h2, h3, h4⟩
              · exact f3 j h
              · rw [a4] at h3
                have : i % c = yn + 1 := by
                  rw [show i = xn * c + (yn + 1) by omega, Nat.mul_comm, Nat.mul_add_mod]
                  exact Nat.mod_eq_of_lt (by omega)
                exact .inr (Rch.trans (.step baseI h4.src.1 h4.src.2 (.inl ⟨by omega, by omega⟩)) h4)
            have u14 : ∀ j, m1.getD j false = true → m4.getD j false = true := fun j h => D4.up j (D3.up j (D2.up j h))
            refine ⟨D4.len, fun j hj => u14 j (D1.up j (by rw [hgs]; split <;> first | rfl | exact hj)), by omega, fun i _ _ h _ => ?_, fun j hj => ?_, fun j h1 h2 j' hj' hn hw' => ?_⟩
            · rw [ei] at h; rw [hitI i h]
              exact u14 I (D1.up I (by rw [hgs, if_pos rfl]))
            · rcases f4 j hj with h | h
              · exact .inl h
              · exact .inr ⟨I, hx, hy, by rw [ei], h⟩
            · cases b3 : m3.getD j false with
              | false => exact D4.shut j h1 b3 j' hj' hn hw'
              | true =>
                cases b2 : m2.getD j false with
                | false => exact D4.up j' (D3.shut j b3 b2 j' hj' hn hw')
                | true =>
                  cases b1 : m1.getD j false with
                  | false => exact D4.up j' (D3.up j' (D2.shut j b2 b1 j' hj' hn hw'))
                  | true =>
                    by_cases ej : j = I
                    · subst ej
                      rcases hn with ⟨n1, n2⟩ | ⟨n1, n2⟩ | n1 | n1
                      · refine D4.hit j' hx ⟨by omega, ?_⟩ (by rw [a4]; omega) hw'
                        rcases Nat.lt_or_ge (yn + 1) c with hlt | hge
                        · omega
                        · have e : yn + 1 = c := by omega
                          have : j' % c = 0 := by
                            rw [show j' = xn * c + c by omega, Nat.mul_comm, Nat.mul_add_mod, Nat.mod_self]
                          omega
                      · exact D4.up j' (D3.hit j' hx ⟨by omega, by omega⟩ (by rw [a3]; omega) hw')
                      · refine D4.up j' (D3.up j' (D2.hit j' ⟨by omega, ?_⟩ hy (by rw [a2]; omega) hw'))
                        rcases Nat.lt_or_ge (xn + 1) r with hlt | hge
                        · omega
                        · have : r * c ≤ (xn + 1) * c := Nat.mul_le_mul_right _ hge
                          rw [Nat.add_mul] at this
                          omega
                      · refine u14 j' (D1.hit j' ⟨?_, by omega⟩ hy (by rw [a1]; omega) hw')
                        rcases Nat.eq_zero_or_pos xn with h0 | h0
                        · subst h0; omega
                        · omega
                    · exact u14 j' (D1.shut j b1 (by rw [hgs, if_neg ej]; exact h2) j' hj' hn hw')
          · rw [if_neg hw]
            exact ⟨ms, rfl, same (fun i _ _ h hw' => by rw [ei] at h; rw [hitI i h] at hw'; exact absurd hw' hw)⟩
      · rw [if_neg hy]
        exact ⟨ms, rfl, same (fun i _ h => absurd h hy)⟩
    · rw [if_neg hx]
      exact ⟨ms, rfl, same (fun i h => absurd h hx)⟩
theorem eqD {a b : List Bool} (h : a.length = b.length) (e : ∀ j, j < a.length → a.getD j false = b.getD j false) : a = b := by
  apply List.ext_getElem h
  intro j h1 h2
  have := e j h1
  rwa [getD_at false h1, getD_at false h2] at this
theorem parts_l3 {R C : Int} {s : ByteArray} {n : Int} {i : Nat} {one : List Bool} (hz : s.size ≤ 36) (h1 : one.length = s.size) (hi : i < 100) : ∀ d j (ms : List Bool), j + d = s.size → ms.length = s.size →
    ∃ ms', (∀ q, Ev (fun k => spec_PartsOf.l1 k n ms' ((i + 1 : Nat) : Int) R C s) q → Ev (fun k => spec_PartsOf.l3 k n ms (i : Int) one (j : Int) R C s) q) ∧ ms'.length = s.size ∧ ∀ t, t < s.size → ms'.getD t false = (ms.getD t false || (decide (j ≤ t) && one.getD t false))
  | 0, j, ms, h, hl => by
    refine ⟨ms, fun q hq => ?_, hl, fun t ht => by simp only [show ¬ j ≤ t by omega, decide_false, Bool.false_and, Bool.or_false]⟩
    rw [Int.natCast_add] at hq
    refine Ev.succ (fun k => by rw [spec_PartsOf.l3]) ?_
    refine Ev.neg (by omega) ?_
    rw [w64 (by omega)]
    exact hq
  | d + 1, j, ms, h, hl => by
    by_cases e : ms.getD j false = true
    · obtain ⟨ms', k1, k2, k3⟩ := parts_l3 (R := R) (C := C) (n := n) hz h1 hi d (j + 1) (ms.set j true) (by omega) (by rw [List.length_set]; exact hl)
      refine ⟨ms', fun q hq => ?_, k2, fun t ht => ?_⟩
      · have := k1 q hq
        rw [Int.natCast_add] at this
        refine Ev.succ (fun k => by rw [spec_PartsOf.l3]) ?_
        refine Ev.pos (by omega) (Ev.pos (by omega) (Ev.pos (by simpa [rdOf] using e) ?_))
        rw [w64 (n := (j : Int) + 1) (by omega)]
        exact this
      · rw [k3 t ht, getD_set_true (by omega)]
        by_cases et : t = j
        · subst et; rw [if_pos rfl, e]; rfl
        · rw [if_neg et]
          have : decide (j + 1 ≤ t) = decide (j ≤ t) := by simp only [decide_eq_decide]; omega
          rw [this]
    · have e' : ms.getD j false = false := by simpa using e
      cases ho : one.getD j false with
      | true =>
        obtain ⟨ms', k1, k2, k3⟩ := parts_l3 (R := R) (C := C) (n := n) hz h1 hi d (j + 1) (ms.set j true) (by omega) (by rw [List.length_set]; exact hl)
        refine ⟨ms', fun q hq => ?_, k2, fun t ht => ?_⟩
        · have := k1 q hq
          rw [Int.natCast_add] at this
          refine Ev.succ (fun k => by rw [spec_PartsOf.l3]) ?_
          refine Ev.pos (by omega) (Ev.pos (by omega) (Ev.neg (by simpa [rdOf] using e') (Ev.pos (by omega) ?_)))
          rw [w64 (n := (j : Int) + 1) (by omega), show rdOf false one (j : Int) = true from by simpa [rdOf] using ho]
          exact this
        · rw [k3 t ht, getD_set_true (by omega)]
          by_cases et : t = j
          · subst et; rw [if_pos rfl, ho]; simp
          · rw [if_neg et]
            have : decide (j + 1 ≤ t) = decide (j ≤ t) := by simp only [decide_eq_decide]; omega
            rw [this]
      | false =>
        have hset : ms.set j false = ms := by
          apply List.ext_getElem (by simp)
          intro t h1 h2
          rw [List.getElem_set]
          split
          · subst_vars; rw [← e', getD_at false h2]
          · rfl
        obtain ⟨ms', k1, k2, k3⟩ := parts_l3 (R := R) (C := C) (n := n) hz h1 hi d (j + 1) ms (by omega) hl
        refine ⟨ms', fun q hq => ?_, k2, fun t ht => ?_⟩
        · have := k1 q hq
          rw [Int.natCast_add] at this
          refine Ev.succ (fun k => by rw [spec_PartsOf.l3]) ?_
          refine Ev.pos (by omega) (Ev.pos (by omega) (Ev.neg (by simpa [rdOf] using e') (Ev.pos (by omega) ?_)))
          rw [w64 (n := (j : Int) + 1) (by omega), show rdOf false one (j : Int) = false from by simpa [rdOf] using ho, Int.toNat_natCast, hset]
          exact this
        · rw [k3 t ht]
          by_cases et : t = j
          · subst et; rw [ho, Bool.and_false, Bool.and_false]
          · have : decide (j + 1 ≤ t) = decide (j ≤ t) := by simp only [decide_eq_decide]; omega
            rw [this]
theorem parts_l2 {R C : Int} {s : ByteArray} {r c : Nat} (g : Gr R C s r c) {n : Int} {i : Nat} {ms : List Bool} (hl : ms.length = s.size) (hi : i < s.size) (hw : bt s (i : Int) = 46) {q : Int} {one : List Bool} (hr : Ev (fun k => spec_l10Reach.f k R C s (List.replicate s.size false) (i : Int)) one)
    (h3 : Ev (fun k => spec_PartsOf.l3 k n ms (i : Int) one ((0 : Nat) : Int) R C s) q) : ∀ d j, j + d = s.size → Ev (fun k => spec_PartsOf.l2 k n ms (i : Int) (List.replicate j false) (j : Int) R C s) q
  | 0, j, h => by
    have : j = s.size := by omega
    subst this
    refine Ev.succ (fun k => by rw [spec_PartsOf.l2]) ?_
    refine Ev.neg (by omega) ?_
    exact Ev.bind hr h3
  | d + 1, j, h => by
    have hz : s.size ≤ 36 := by have := g.sz; have := g.mx; omega
    have ih := parts_l2 g hl hi hw hr h3 d (j + 1) (by omega)
    rw [Int.natCast_add, List.replicate_succ'] at ih
    refine Ev.succ (fun k => by rw [spec_PartsOf.l2]) ?_
    refine Ev.pos (by omega) (Ev.pos (by simp; omega) ?_)
    rw [w64 (by omega)]
    exact ih
theorem parts_l1 {R C : Int} {s : ByteArray} {r c : Nat} (g : Gr R C s r c) (hg : isG R C s = true) : ∀ d i (n : Nat) (ms : List Bool), i + d = s.size → n ≤ i → ms.length = s.size → (∀ j, ms.getD j false = true → ∀ j', j' < s.size → near c j' j → bt s (j' : Int) = 46 → ms.getD j' false = true) →
    ∃ v : Int, Ev (fun k => spec_PartsOf.l1 k (n : Int) ms (i : Int) R C s) v ∧ impl_PartsOf.go R C s d i (n : Int) ms = some v
  | 0, i, n, ms, h, hn, hl, hcl => by
    refine ⟨n, ?_, rfl⟩
    refine Ev.succ (fun k => by rw [spec_PartsOf.l1]) ?_
    refine Ev.neg (by omega) ?_
    refine Ev.succ (fun k => by rw [spec_PartsOf.j2]) ?_
    exact Ev.neg (by decide) (Ev.pure _)
  | d + 1, i, n, ms, h, hn, hl, hcl => by
    have hz : s.size ≤ 36 := by have := g.sz; have := g.mx; omega
    have start : ∀ v, (bt s (i : Int) = 46 → Ev (fun k => spec_PartsOf.j3 k (n : Int) ms (i : Int) (!(rdOf false ms (i : Int))) R C s) v) → (bt s (i : Int) ≠ 46 → Ev (fun k => spec_PartsOf.j3 k (n : Int) ms (i : Int) false R C s) v) → Ev (fun k => spec_PartsOf.l1 k (n : Int) ms (i : Int) R C s) v := fun v h1 h2 => by
      refine Ev.succ (fun k => by rw [spec_PartsOf.l1]) ?_
      refine Ev.pos (by omega) (Ev.bind (sIsGrid R C s) ?_)
      rw [hg]
      refine Ev.succ (fun k => by rw [spec_PartsOf.j2]) ?_
      refine Ev.pos rfl (Ev.pos (by omega) (Ev.pos (by omega) ?_))
      exact Ev.ite (fun h => Ev.pos (by omega) (h1 h)) h2
    have skip : ∀ v, Ev (fun k => spec_PartsOf.l1 k (n : Int) ms ((i + 1 : Nat) : Int) R C s) v → ∀ b : Bool, b = false → Ev (fun k => spec_PartsOf.j3 k (n : Int) ms (i : Int) b R C s) v := by
      rintro v hv b rfl
      rw [Int.natCast_add] at hv
      refine Ev.succ (fun k => by rw [spec_PartsOf.j3]) ?_
      rw [w64 (n := (i : Int) + 1) (by omega)]
      exact Ev.neg (by decide) hv
    unfold impl_PartsOf.go
    by_cases hw : bt s (i : Int) = 46
    · rw [if_pos hw]
      by_cases hm : ms.getD i false = true
      · rw [if_pos hm]
        obtain ⟨v, hv, hgo⟩ := parts_l1 g hg d (i + 1) n ms (by omega) (by omega) hl hcl
        exact ⟨v, start v (fun _ => skip v hv _ (by simpa [rdOf] using hm)) (fun h => absurd hw h), hgo⟩
      · rw [if_neg hm]
        have hm' : ms.getD i false = false := by simpa using hm
        have e1 : (i : Int) / C = ((i / c : Nat) : Int) := by rw [g.ec]; rfl
        have e2 : (i : Int) % C = ((i % c : Nat) : Int) := by rw [g.ec]; rfl
        have hrun := gr_run g (show i < s.size by omega)
        have hcnt : ms.count false < 100 := by have := List.count_le_length (a := false) (l := ms); omega
        obtain ⟨m', ed, D⟩ := dfs_ok g 100 ((i : Int) / C) ((i : Int) % C) ms hl hcnt
        have hx : 0 ≤ (i : Int) / C ∧ (i : Int) / C < R := by rw [e1, g.er]; exact ⟨Int.natCast_nonneg _, Int.ofNat_lt.mpr hrun.1⟩
        have hy : 0 ≤ (i : Int) % C ∧ (i : Int) % C < C := by rw [e2, g.ec]; exact ⟨Int.natCast_nonneg _, Int.ofNat_lt.mpr hrun.2.1⟩
        have hi : (i : Int) = (i : Int) / C * C + (i : Int) % C := by rw [Int.mul_comm]; exact (Int.mul_ediv_add_emod _ _).symm
        obtain ⟨one, ho, hol, hor⟩ := reach_f g (show i < s.size by omega) hw
        have hin : ∀ j, m'.getD j false = true ↔ (ms.getD j false = true ∨ Rch s c s.size i j) := fun j => by
          constructor
          · intro hj
            rcases D.from_ j hj with h | ⟨i', _, _, h3, h4⟩
            · exact .inl h
            · have : i' = i := by rw [← hi] at h3; omega
              subst this; exact .inr h4
          · rintro (h | h)
            · exact D.up j h
            · induction h with
              | base _ hw => exact D.hit i hx hy hi hw
              | step hj hi' hw' hn ih =>
                rename_i j i'
                cases hms : ms.getD j false with
                | true => exact D.up i' (hcl j hms i' hi' hn hw')
                | false => exact D.shut j ih hms i' hi' hn hw'
        obtain ⟨ms', k1, k2, k3⟩ := parts_l3 (R := R) (C := C) (n := ((n + 1 : Nat) : Int)) hz hol (by omega : i < 100) s.size 0 ms (by omega) hl
        have hme : ms' = m' := eqD (by rw [k2, D.len]) (fun j hj => by
          rw [k3 j (by omega)]
          have := hin j
          rw [← hor j] at this
          rw [Bool.eq_iff_iff, this]
          simp only [Bool.or_eq_true, Bool.and_eq_true, decide_eq_true_eq, Nat.zero_le, true_and])
        subst hme
        obtain ⟨v, hv, hgo⟩ := parts_l1 g hg d (i + 1) (n + 1) ms' (by omega) (by omega) k2 (fun j hj j' hj' hn hw' => by
          cases hms : ms.getD j false with
          | true => exact D.up j' (hcl j hms j' hj' hn hw')
          | false => exact D.shut j hj hms j' hj' hn hw')
        refine ⟨v, start v (fun _ => ?_) (fun h => absurd hw h), by rw [ed, Option.bind_some]; rw [Int.natCast_add] at hgo; exact hgo⟩
        refine Ev.succ (fun k => by rw [spec_PartsOf.j3]) ?_
        refine Ev.pos (by simpa [rdOf] using hm') ?_
        rw [w64 (n := (n : Int) + 1) (by omega)]
        have := parts_l2 g hl (by omega) hw ho (k1 v hv) s.size 0 (by omega)
        rw [Int.natCast_add] at this
        exact this
    · rw [if_neg hw]
      obtain ⟨v, hv, hgo⟩ := parts_l1 g hg d (i + 1) n ms (by omega) (by omega) hl hcl
      exact ⟨v, start v (fun h => absurd h hw) (fun _ => skip v hv _ rfl), hgo⟩
theorem parts_l0 {R C : Int} {s : ByteArray} {q : Int} (hz : s.size ≤ 36) (h1 : Ev (fun k => spec_PartsOf.l1 k 0 (List.replicate s.size false) 0 R C s) q) : ∀ d j, j + d = s.size → Ev (fun k => spec_PartsOf.l0 k 0 (List.replicate j false) (j : Int) R C s) q
  | 0, j, h => by
    have : j = s.size := by omega
    subst this
    refine Ev.succ (fun k => by rw [spec_PartsOf.l0]) ?_
    exact Ev.neg (by omega) h1
  | d + 1, j, h => by
    have ih := parts_l0 hz h1 d (j + 1) (by omega)
    rw [Int.natCast_add, List.replicate_succ'] at ih
    refine Ev.succ (fun k => by rw [spec_PartsOf.l0]) ?_
    refine Ev.pos (by omega) (Ev.pos (by simp; omega) ?_)
    rw [w64 (by omega)]
    exact ih
theorem parts {R C : Int} {s : ByteArray} {r c : Nat} (g : Gr R C s r c) (hg : isG R C s = true) : ∃ v : Int, Ev (fun k => spec_PartsOf.f k R C s) v ∧ Ev (fun k => impl_PartsOf.f k R C s) v := by
  have hz : s.size ≤ 36 := by have := g.sz; have := g.mx; omega
  obtain ⟨v, hv, hgo⟩ := parts_l1 g hg s.size 0 0 (List.replicate s.size false) (by omega) (by omega) (by simp) (fun j hj => by
    simp only [List.getD_eq_getElem?_getD, List.getElem?_replicate] at hj
    split at hj <;> simp at hj)
  refine ⟨v, ?_, ?_⟩
  · unfold spec_PartsOf.f
    exact parts_l0 hz hv s.size 0 (by omega)
  · unfold impl_PartsOf.f
    exact Ev.bind (iIsGrid R C s) (Ev.pos hg (Ev.const hgo))
end Go.Proofs.Ytpcdfjcbjbkliaa.E
