import Derived.Test.YtpcdfjcbjbkliaaGreatSq
import Derived.Test.YtpcdfjcbjbkliaaGreatQ0
import Derived.Test.YtpcdfjcbjbkliaaGreatQ17
import Derived.Test.YtpcdfjcbjbkliaaGreatQ19
import Derived.Test.YtpcdfjcbjbkliaaGreatQ21
namespace Go.Proofs.YtpcdfjcbjbkliaaGreat.E
open Go.RowKit Go.Proofs.YtpcdfjcbjbkliaaGreatW.PrintWords Go.Proofs.YtpcdfjcbjbkliaaGreatW.PrintLast Go.Proofs.YtpcdfjcbjbkliaaGreatW.PrintMore
attribute [local go_sem] max2_int min2_int max_two min_two max_three min_three max_four min_four
set_option linter.unusedVariables false
set_option linter.unusedSimpArgs false

/-! ### impl_alone: function 132 -/
def impl_alone.go (s fill : ByteArray) (fl : List Int) : Nat → Nat → Option Bool
 | 0, _ => some false
 | d + 1, i =>
  if bt s i = 46 then
   if (i : Int) ∈ fl then impl_alone.go s fill fl d (i + 1)
   else if i < fill.size then (impl_isLetter.f (bt fill i)).bind fun t => if t = true then impl_alone.go s fill fl d (i + 1) else some true
   else none
  else impl_alone.go s fill fl d (i + 1)
def impl_alone.f (k : Nat) (a0_0 : Int) (a0_1 : Int) (a0_2 : ByteArray) (a1 : ByteArray) : Option Bool :=
 (impl_layout.f k a0_0 a0_1 a0_2).bind fun ls =>
  if (ls.flatten.length ≤ 1000000 ∧ ∀ c ∈ ls.flatten, 0 ≤ c ∧ c ≤ 1000000) ∧ a0_2.size ≤ 1000000 ∧ ls.length ≤ 1000000 then impl_alone.go a0_2 a1 ls.flatten a0_2.size 0 else none
def impl_alone.PD (a : DataW Unit) (b : List Int) : Prop := Maps.IsMap a ∧ ∀ c : Int, a.atKey (.int .i64 c) (.lit (.int .i64 0)) = .lit (.int .i64 (if c ∈ b then 1 else 0))
theorem impl_alone.PD_nil : impl_alone.PD (.map []) [] := ⟨Maps.isMap_empty, fun c => by simp [DataW.atKey]⟩
theorem impl_alone.PD_step {D : DataW Unit} {xs : List Int} (h : impl_alone.PD D xs) (c : Int) : impl_alone.PD (D.put (.int .i64 c) (.lit (.int .i64 1))) (xs ++ [c]) := by
 refine ⟨h.1.put _ _, fun c' => ?_⟩
 by_cases e : c' = c
 ·
  subst e
  rw [Maps.atKey_put_same h.1 (by simp [WideAt.IsKeyLit])]
  simp
 ·
  rw [Maps.atKey_put_other (by simpa using e), h.2 c']
  simp [e]
theorem impl_alone.one {a b : Int} (h : (DataW.lit (.int .i64 a) : DataW Unit) = .lit (.int .i64 b)) : a = b := by
 injection h with h
 injection h
theorem impl_alone.law : Maps.Keyed Tryz.prog 3 := Maps.int_keyed Tryz.underlying3
theorem impl_alone.zero (w : World) : (zeroValue 3).run Tryz.prog w = .ok (.int .i64 0) w := by kernel_rfl

/-- what stands of the map, the lists, the grid's box -/
structure impl_alone.St (w W : World) (B G : Nat) (base : Nat) (ls : List (List Int)) (A : Option Addr) (c : Nat) (a0 a1 : Int) (s : ByteArray) (n : Nat) (D : DataW Unit) (xs : List Int) : Prop where
 cnt : n ≤ xs.length
 pd : impl_alone.PD D xs
 map : W.ownsMap Tryz.prog 3 (plainElem Tryz.prog 3) B n D
 rows : Kd.R (Kd.slice 3 (Kd.int .i64)) 25 W base (fun k => B < k) (.slice A ls.length c) ls
 box : W.heap[G]? = some (.cells #[.int .i64 a0, .int .i64 a1, .string s] 32 (0, 0))
 below : Below w.heap.size w W
theorem impl_alone.St.to {w W W1 : World} {B G base c n : Nat} {ls : List (List Int)} {A : Option Addr} {a0 a1 : Int} {s : ByteArray} {D : DataW Unit} {xs : List Int}
  (h : impl_alone.St w W B G base ls A c a0 a1 s n D xs) (hb : Below W.heap.size W W1) : impl_alone.St w W1 B G base ls A c a0 a1 s n D xs :=
 ⟨h.cnt, h.pd, h.map.kept (grown_of_below hb none) (by simp), Kd.R_below h.rows hb, blk_below h.box hb, below_step h.below hb⟩
theorem impl_alone.St.put {w W W1 : World} {B G base c n : Nat} {ls : List (List Int)} {A : Option Addr} {a0 a1 : Int} {s : ByteArray} {D : DataW Unit} {xs : List Int} {x : Int}
  (h : impl_alone.St w W B G base ls A c a0 a1 s n D xs) (hg : W.grownBy W1 (some B)) (hm : W1.ownsMap Tryz.prog 3 (plainElem Tryz.prog 3) B (n + 1) (D.put (.int .i64 x) (.lit (.int .i64 1)))) (hGB : G ≠ B) (hB : w.heap.size ≤ B) :
  impl_alone.St w W1 B G base ls A c a0 a1 s (n + 1) (D.put (.int .i64 x) (.lit (.int .i64 1))) (xs ++ [x]) :=
 ⟨by have := h.cnt; simp; omega, impl_alone.PD_step h.pd x, hm, Kd.R_grown h.rows hg (fun k hk e => by injection e with e; omega), blk_grown h.box hg (fun e => by injection e with e; exact hGB e),
  h.below.grown hg (below_size h.below) (fun k e => by injection e with e; omega)⟩
theorem impl_alone.start {w w1 w13 : World} {G : Nat} {ls : List (List Int)} {A : Option Addr} {c : Nat} {a0 a1 : Int} {s : ByteArray} (hB : Below w.heap.size w w1) (bg : w1.heap[G]? = some (.cells #[.int .i64 a0, .int .i64 a1, .string s] 32 (0, 0)))
  (hS : Kd.S (Kd.slice 3 (Kd.int .i64)) 25 w13 (w1.alloc (.map #[] 0)).heap.size (fun _ => True) (.slice A ls.length c) ls) (hb : Below (w1.alloc (.map #[] 0)).heap.size (w1.alloc (.map #[] 0)) w13) :
  impl_alone.St w w13 w1.heap.size G (w1.heap.size + 1) ls A c a0 a1 s 0 (.map []) [] := by
 have hsz : (w1.alloc (.map #[] 0)).heap.size = w1.heap.size + 1 := by simp
 refine ⟨Nat.zero_le _, impl_alone.PD_nil, (World.ownsMap_made w1 _ _ _).kept (grown_of_below hb none) (by simp), ?_, blk_below (blk_alloc bg _) hb, below_step (below_alloc hB _) hb⟩
 rw [← hsz]
 exact Kd.R_mono (Kd.R_bound (Kd.S_R hS)) (fun k hk => by have := hk.2.1; omega)
set_option maxHeartbeats 4000000 in
set_option maxRecDepth 100000 in
theorem impl_alone.calls (k : Nat) (a0_0 a0_1 : Int) (a0_2 a1 : ByteArray) (r : Bool) (w : World) (h : impl_alone.f k a0_0 a0_1 a0_2 a1 = some r) :
  Calls Tryz.prog 132 #[.agg #[.int .i64 a0_0, .int .i64 a0_1, .string a0_2], .string a1] w fun e w' => e = .returned (.bool r) ∧ Below w.heap.size w w' := by
 have hu_ := Tryz.underlying32
 have hmm := @run_makeMap Tryz.prog
 have HB := Aside0.mk (Below.refl w.heap.size w)
 obtain ⟨ls, hls, h⟩ := Option.bind_eq_some_iff.mp h
 split at h
 case isFalse => cases h
 rename_i hc
 obtain ⟨⟨hc1, hc2⟩, hc3, hc4⟩ := hc
 have A2 := Aside0.mk hls
 have HG := Aside0.mk h
 have C1 := Aside0.mk hc1
 have C2 := Aside0.mk hc2
 clear h hls hc1 hc2
 go_enter Tryz.func132, Tryz.ntmps132
 go_wp2_with (first
  | ((with_reducible refine gate_dst (N := 2) rfl ?_); refine box_event ?hg (N := 2) ?hd (cs := #[.int .i64 a0_0, .int .i64 a0_1, .string a0_2]) (t := 32) ?hr ?_; (case hd => rfl); (case hg => rfl); (case hr => first | (go_simp; done) | (go_simp; rfl)); intro G hg w1 hbox hb; have n0_ := Aside0.mk (below_step HB.out hb); have n1_ := Aside0.mk hbox; have n2_ := Aside0.mk (show w.heap.size ≤ G by rw [hg]; exact Nat.le_refl _); have n3_ := Aside0.mk (show G < w1.heap.size from blk_lt hbox); clear HB; have HB := n0_; have BG := n1_; have GG := n2_; have GL := n3_; have q0 : w1.cell? ⟨G, 0, none⟩ = some (.int .i64 a0_0) := (blk_cell BG.out 0).trans rfl; have q1 : w1.cell? ⟨G, 1, none⟩ = some (.int .i64 a0_1) := (blk_cell BG.out 1).trans rfl; have q2 : w1.cell? ⟨G, 2, none⟩ = some (.string a0_2) := (blk_cell BG.out 2).trans rfl; have q3 : (w1.alloc (.map #[] 0)).cell? ⟨G, 0, none⟩ = some (.int .i64 a0_0) := (blk_cell (blk_alloc BG.out _) 0).trans rfl; have q4 : (w1.alloc (.map #[] 0)).cell? ⟨G, 1, none⟩ = some (.int .i64 a0_1) := (blk_cell (blk_alloc BG.out _) 1).trans rfl; have q5 : (w1.alloc (.map #[] 0)).cell? ⟨G, 2, none⟩ = some (.string a0_2) := (blk_cell (blk_alloc BG.out _) 2).trans rfl; clear n0_ n1_ n2_ n3_ hb hbox hg)
  | (go_at_call 116; (with_reducible refine (impl_layout.calls k a0_0 a0_1 a0_2 ls _ A2.out).mono ?_); rintro e w13 ⟨v0, rfl, hS, hb⟩; obtain ⟨A, c, rfl⟩ := Kd.S_slice hS; have HS := Aside0.mk (show impl_alone.St w w13 w1.heap.size G (w1.heap.size + 1) ls A c a0_0 a0_1 a0_2 0 (.map []) [] from impl_alone.start HB.out BG.out hS hb); have GL2 := Aside0.mk (show w.heap.size ≤ w1.heap.size from below_size HB.out); clear hS hb q0 q1 q2 q3 q4 q5 BG HB))
 have GB := Aside0.mk (show G ≠ w1.heap.size from Nat.ne_of_lt GL.out)
 obtain ⟨B, hB⟩ : ∃ B, B = w1.heap.size := ⟨_, rfl⟩
 obtain ⟨base, hbase⟩ : ∃ base, base = w1.heap.size + 1 := ⟨_, rfl⟩
 rw [← hbase, ← hB] at HS
 rw [← hB] at GB GL2 ⊢
 clear hB hbase GL hmm
 go_loopg [15] ls.length (fun kq v15 wr => ∃ (i n : Nat) (D : DataW Unit), v15 = .int .i64 i ∧ i ≤ ls.length ∧ Aside0 (kq + i = ls.length) ∧ Aside0 (impl_alone.St w wr B G base ls A c a0_0 a0_1 a0_2 n D (ls.take i).flatten))
 case atStart => exact ⟨0, 0, .map [], rfl, Nat.zero_le _, ⟨rfl⟩, ⟨by simpa using HS.out⟩⟩
 case round =>
  clear HS
  obtain ⟨i, n, D, rfl, hi, HK, HS⟩ := hrel
  by_cases hlt : i < ls.length
  ·
   have hl1 : (ls.take (i + 1)).flatten = (ls.take i).flatten ++ ls[i] := by
    rw [List.take_succ_eq_append_getElem hlt, List.flatten_append]; simp
   have HL1 := Aside0.mk hl1
   have HI := Aside0.mk (show ∀ x ∈ ls[i], 0 ≤ x ∧ x ≤ 1000000 from fun x hx => C2.out x (List.mem_flatten.mpr ⟨_, List.getElem_mem hlt, hx⟩))
   have HN := Aside0.mk (show ((ls.take i).flatten ++ ls[i]).length ≤ 1000000 by
    rw [← hl1]
    refine Nat.le_trans ?_ C1.out
    have e : ls.flatten = (ls.take (i + 1)).flatten ++ (ls.drop (i + 1)).flatten := by rw [← List.flatten_append, List.take_append_drop]
    rw [e, List.length_append]; omega)
   obtain ⟨g, cap, eg, _, _, _⟩ := Kd.R_form HS.out.rows (by omega)
   injection eg with eg1 eg2 eg3
   subst eg1
   obtain ⟨cs, _, hM, hc, _⟩ := Kd.R_elem HS.out.rows [] (i : Int) (by omega) (by omega)
   obtain ⟨v, rfl, hR⟩ := hM
   have hgi : ls.getD i [] = ls[i] := by simp [List.getD_eq_getElem?_getD, List.getElem?_eq_getElem hlt]
   simp only [Int.toNat_natCast] at hR hc
   rw [hgi] at hR
   obtain ⟨l, hl⟩ : ∃ l, l = ls[i] := ⟨_, rfl⟩
   rw [← hl] at hR HL1 HI HN
   clear hl hl1 hgi eg2 eg3
   obtain ⟨A0, c0, rfl⟩ := Kd.R_slice hR
   have q6 : wr.cell? ⟨g, i, none⟩ = some (.slice A0 l.length c0) := by
    have := hc 0 _ rfl
    simpa [show (Kd.slice 3 (Kd.int .i64)).sz = 1 from rfl] using this
   clear hc
   have HR := Aside0.mk (Kd.R_mono (ok' := fun k => B < k) hR (fun k hk => hk.1))
   clear hR
   have b1 : l.length ≤ 1000000 := by have := HN.out; rw [List.length_append] at this; omega
   go_wp2_with fail
   obtain ⟨wo, rfl⟩ : ∃ wo : World, wo = wr := ⟨_, rfl⟩
   go_loopg [21] l.length (fun kq v21 wr => ∃ (j n : Nat) (D : DataW Unit), v21 = .int .i64 j ∧ j ≤ l.length ∧ Aside0 (kq + j = l.length) ∧ Aside0 (impl_alone.St w wr B G base ls (some ⟨g, 0, none⟩) c a0_0 a0_1 a0_2 n D ((ls.take i).flatten ++ l.take j)) ∧ Aside0 (Kd.R (Kd.int .i64) 3 wr base (fun k => B < k) (.slice A0 l.length c0) l))
   case atStart => exact ⟨0, n, D, rfl, Nat.zero_le _, ⟨rfl⟩, ⟨by simpa using HS.out⟩, HR⟩
   case round =>
    clear HS HR q6 n D
    obtain ⟨j, n, D, rfl, hj, HK2, HS, HR⟩ := hrel
    by_cases hlt2 : j < l.length
    ·
     obtain ⟨_, _, hC⟩ := Kd.R_reads' HR.out
     obtain ⟨ad, e0, q7⟩ := Kd.at_int hC (j : Int) (by omega) (by omega)
     subst e0
     simp only [Int.toNat_natCast] at q7
     have hrd : rd l (j : Int) = l[j] := by simp [rd, List.getD_eq_getElem?_getD, List.getElem?_eq_getElem hlt2]
     rw [hrd] at q7
     have hmem := HI.out l[j] (List.getElem_mem hlt2)
     have HT := Aside0.mk (show l.take (j + 1) = l.take j ++ [l[j]] from List.take_succ_eq_append_getElem hlt2)
     generalize l[j] = x at q7 hmem HT
     have HKEY := Aside0.mk (show keyOf Tryz.prog 3 (.int .i64 x) = some (.int .i64 x) from Maps.keyOf_int_mk Tryz.underlying3 (WalkArith.wf_i64 (by omega)))
     have HCNT := Aside0.mk (show n < maxLen by have := HS.out.cnt; have := HN.out; simp at *; unfold maxLen; omega)
     have HOWN := Aside0.mk HS.out.map
     clear hC hrd
     go_wp2_with (at_mapUpdate; refine wpList_mapUpdate_own _ rfl _ _ _ 159 rfl 3 3 impl_alone.law Tryz.underlying159 _ B n _ rfl HOWN.out HCNT.out _ _ _ rfl rfl HKEY.out _ [] (plainElem_int Tryz.underlying3 (WalkArith.wf_i64 (by omega))) ?_; intro w1 hown1 hgrow1; have HS1 := Aside0.mk (impl_alone.St.put HS.out hgrow1 hown1 GB.out GL2.out); have HR1 := Aside0.mk (Kd.R_grown HR.out hgrow1 (fun k hk e => by injection e with e; omega)); clear hown1 hgrow1 HS HR HOWN HCNT HKEY)
     go_roundg (l.length - (j + 1))
     case measure => have := HK2.out; omega
     case rel => exact ⟨j + 1, n + 1, _, by simp, by omega, ⟨by omega⟩, ⟨by rw [HT.out, ← List.append_assoc]; exact HS1.out⟩, HR1⟩
    ·
     obtain rfl : j = l.length := by omega
     have HS2 := Aside0.mk (show impl_alone.St w wr B G base ls (some ⟨g, 0, none⟩) c a0_0 a0_1 a0_2 n D (ls.take (i + 1)).flatten by rw [HL1.out]; have := HS.out; rwa [List.take_length] at this)
     clear HS HR
     go_wp2
     go_roundg (ls.length - (i + 1))
     case measure => have := HK.out; omega
     case rel => exact ⟨i + 1, n, D, by simp, by omega, ⟨by omega⟩, HS2⟩
  ·
   obtain rfl : i = ls.length := by omega
   have HS2 := Aside0.mk (show impl_alone.St w wr B G base ls A c a0_0 a0_1 a0_2 n D ls.flatten by have := HS.out; rwa [List.take_length] at this)
   clear HS
   have q8 : wr.cell? ⟨G, 2, none⟩ = some (.string a0_2) := (blk_cell HS2.out.box 2).trans rfl
   go_wp2_with fail
   obtain ⟨wo, rfl⟩ : ∃ wo : World, wo = wr := ⟨_, rfl⟩
   go_loopg [32] a0_2.size (fun kq v32 wr => ∃ (i : Nat), v32 = .int .i64 i ∧ i ≤ a0_2.size ∧ Aside0 (kq + i = a0_2.size) ∧ Aside0 (impl_alone.St w wr B G base ls A c a0_0 a0_1 a0_2 n D ls.flatten) ∧ Aside0 (impl_alone.go a0_2 a1 ls.flatten (a0_2.size - i) i = some r))
   case atStart => exact ⟨0, rfl, Nat.zero_le _, ⟨rfl⟩, HS2, ⟨HG.out⟩⟩
   case round =>
    clear HS2 q8 HG
    obtain ⟨i, rfl, hi, HK2, HS, HA⟩ := hrel
    have q8 : wr.cell? ⟨G, 2, none⟩ = some (.string a0_2) := (blk_cell HS.out.box 2).trans rfl
    by_cases hlt : i < a0_2.size
    ·
     have hA := HA.out
     rw [show a0_2.size - i = (a0_2.size - (i + 1)) + 1 by omega] at hA
     simp only [impl_alone.go] at hA
     clear HA
     have hbt := bt_at a0_2 (i : Int)
     rw [Int.toNat_natCast] at hbt
     have hbt2 := hbt hlt
     by_cases c1 : bt a0_2 i = 46
     ·
      rw [if_pos c1] at hA
      have c1b : (bt a0_2 i == 46) = true := beq_iff_eq.mpr c1
      clear c1
      have HKEY := Aside0.mk (show keyOf Tryz.prog 3 (.int .i64 (i : Int)) = some (.int .i64 (i : Int)) from Maps.keyOf_int_mk Tryz.underlying3 (WalkArith.wf_i64 (by omega)))
      have HOWN := Aside0.mk HS.out.map
      have HPD := Aside0.mk (HS.out.pd.2 (i : Int))
      by_cases c2 : (i : Int) ∈ ls.flatten
      ·
       rw [if_pos c2] at hA
       have HA := Aside0.mk hA
       have HPD2 := Aside0.mk (HPD.out.trans (by rw [if_pos c2]))
       clear hA c2 HPD
       go_wp2_with ((try (refine gate_guard (by rfl) ?_; dsimp only)); at_lookup; refine wpList_lookup_own_int _ rfl _ _ 159 rfl 3 3 .i64 impl_alone.law Tryz.underlying159 Tryz.underlying3 (impl_alone.zero _) B n _ rfl HOWN.out _ _ rfl HKEY.out ?_; intro vv hat hwc; obtain rfl : vv = 1 := (impl_alone.one (hat.symm.trans HPD2.out)); clear hat hwc)
       go_roundg (a0_2.size - (i + 1))
       case measure => have := HK2.out; omega
       case rel => exact ⟨i + 1, by simp, by omega, ⟨by omega⟩, HS, HA⟩
      ·
       rw [if_neg c2] at hA
       have HPD2 := Aside0.mk (HPD.out.trans (by rw [if_neg c2]))
       clear c2 HPD
       split at hA
       case isFalse => cases hA
       rename_i c3
       have hbu := bt_at a1 (i : Int)
       rw [Int.toNat_natCast] at hbu
       have hbu2 := hbu c3
       obtain ⟨t, ht, hA⟩ := Option.bind_eq_some_iff.mp hA
       have HT := Aside0.mk ht
       clear ht
       cases t with
       | true =>
        rw [if_pos rfl] at hA
        have HA := Aside0.mk hA
        clear hA
        go_wp2_with (first | ((try (refine gate_guard (by rfl) ?_; dsimp only)); at_lookup; refine wpList_lookup_own_int _ rfl _ _ 159 rfl 3 3 .i64 impl_alone.law Tryz.underlying159 Tryz.underlying3 (impl_alone.zero _) B n _ rfl HOWN.out _ _ rfl HKEY.out ?_; intro vv hat hwc; obtain rfl : vv = 0 := (impl_alone.one (hat.symm.trans HPD2.out)); clear hat hwc) | (go_at_call 86; refine (impl_isLetter.calls (bt a1 i) true _ HT.out).mono ?_; rintro e w2 ⟨rfl, hd⟩; have HS1 := Aside0.mk (impl_alone.St.to HS.out (Drawn0.below hd)); clear hd HS))
        go_roundg (a0_2.size - (i + 1))
        case measure => have := HK2.out; omega
        case rel => exact ⟨i + 1, by simp, by omega, ⟨by omega⟩, HS1, HA⟩
       | false =>
        rw [if_neg (by decide)] at hA
        obtain rfl := Option.some.inj hA
        clear hA
        go_wp2_with (first | ((try (refine gate_guard (by rfl) ?_; dsimp only)); at_lookup; refine wpList_lookup_own_int _ rfl _ _ 159 rfl 3 3 .i64 impl_alone.law Tryz.underlying159 Tryz.underlying3 (impl_alone.zero _) B n _ rfl HOWN.out _ _ rfl HKEY.out ?_; intro vv hat hwc; obtain rfl : vv = 0 := (impl_alone.one (hat.symm.trans HPD2.out)); clear hat hwc) | (go_at_call 86; refine (impl_isLetter.calls (bt a1 i) false _ HT.out).mono ?_; rintro e w2 ⟨rfl, hd⟩; have HS1 := Aside0.mk (impl_alone.St.to HS.out (Drawn0.below hd)); clear hd HS))
        go_ret
        exact ⟨rfl, HS1.out.below⟩
     ·
      rw [if_neg c1] at hA
      have c1b : (bt a0_2 i == 46) = false := beq_eq_false_iff_ne.mpr c1
      have HA := Aside0.mk hA
      clear hA c1
      go_wp2
      go_roundg (a0_2.size - (i + 1))
      case measure => have := HK2.out; omega
      case rel => exact ⟨i + 1, by simp, by omega, ⟨by omega⟩, HS, HA⟩
    ·
     obtain rfl : i = a0_2.size := by omega
     have hA := HA.out
     rw [Nat.sub_self] at hA
     simp only [impl_alone.go, Option.some.injEq] at hA
     subst hA
     go_wp2
     go_ret
     exact ⟨rfl, HS.out.below⟩

/-! ### impl_FormOf: function 98 -/
mutual
def impl_FormOf.l0 : Nat → List (S132) → List (S132) → Int → Int → Int → Int → ByteArray → Option (Int)
 | 0, _, _, _, _, _, _, _ => none
 | k + 1, a, b, c, d, e, f, g => if d < c then (if 0 ≤ d then (if d < (b.length : Int) then (if ((rd_T132 b d).f3) < 3 then (some 4) else (impl_FormOf.l0 k a b c (wrap64 (d + 1)) e f g)) else (none)) else (none)) else (impl_FormOf.l1 k a (a.length : Int) 0 e f g)
def impl_FormOf.l1 : Nat → List (S132) → Int → Int → Int → Int → ByteArray → Option (Int)
 | 0, _, _, _, _, _, _ => none
 | k + 1, a, b, c, d, e, f => if c < b then (if 0 ≤ c then (if c < (a.length : Int) then ((impl_UncheckedIn.f k d e f c).bind fun g => (if (wrap64 (2 * g)) > ((rd_T132 a c).f3) then (some 5) else (impl_FormOf.l1 k a b (wrap64 (c + 1)) d e f))) else (none)) else (none)) else ((impl_alone.f k d e f f).bind fun h => (if h = true then (some 5) else (some 0)))
end
def impl_FormOf.f (k : Nat) (a b : Int) (c : ByteArray) : Option (Int) := (impl_IsGrid.f k a b c).bind fun d => (if d = true then ((impl_IsSymmetric.f k a b c).bind fun e => (if e = true then ((impl_IsConnected.f k a b c).bind fun f => (if f = true then ((impl_SlotsOf.f k a b c).bind fun g => (impl_FormOf.l0 k g g (g.length : Int) 0 a b c)) else (some 3))) else (some 2))) else (some 1))
set_option maxHeartbeats 8000000 in
set_option maxRecDepth 100000 in
theorem impl_FormOf.calls (k : Nat) (a0_0 a0_1 : Int) (a0_2 : ByteArray) (r : Int) (w : World) (H : impl_FormOf.f k a0_0 a0_1 a0_2 = some r) :
  Calls Tryz.prog 98 #[.agg #[.int .i64 a0_0, .int .i64 a0_1, .string a0_2]] w fun e w' => e = .returned (.int .i64 r) ∧ Below w.heap.size w w' := by
 have hu32 := Tryz.underlying32
 have hu132 := Tryz.underlying132
 have HB := Aside0.mk (Below.refl w.heap.size w)
 unfold impl_FormOf.f at H
 replace H := zs H
 obtain ⟨t641, A2, H⟩ := H
 replace H := zb H
 rcases H with ⟨rfl, H⟩ | ⟨rfl, H⟩
 rotate_left
 focus
  obtain rfl := Option.some.inj H
 rotate_right
 focus
  replace H := zs H
  obtain ⟨t642, A4, H⟩ := H
  replace H := zb H
  rcases H with ⟨rfl, H⟩ | ⟨rfl, H⟩
  rotate_left
  focus
   obtain rfl := Option.some.inj H
  rotate_right
  focus
   replace H := zs H
   obtain ⟨t643, A6, H⟩ := H
   replace H := zb H
   rcases H with ⟨rfl, H⟩ | ⟨rfl, H⟩
   rotate_left
   focus
    obtain rfl := Option.some.inj H
   rotate_right
   focus
    replace H := zs H
    obtain ⟨t644, A8, H⟩ := H
    have H' := Aside0.mk H
    clear H
    go_enter Tryz.func98, Tryz.ntmps98
    go_wp2_with (first | ((with_reducible refine zd 1 rfl ?_); refine zbx (w := w) #[.int .i64 a0_0, .int .i64 a0_1, .string a0_2] 32 ?_; intro gb640 hg w9 BK640 hb; have GW640 := zg (w := w) hg; replace HB := zB hb; clear hb hg; have ⟨_, _, _, _, _, _⟩ := cz3 BK640) | ((with_reducible refine zd 10 rfl ?_); refine zgl Tryz.func85 (impl_IsGrid.calls k a0_0 a0_1 a0_2 true _ A2.out) ?_; rintro e w11 ⟨rfl, hb⟩; refine ⟨_, rfl, ?_⟩; replace BK640 := zk BK640 hb; replace HB := zB hb; have ⟨_, _, _, _, _, _⟩ := cz3 BK640) | ((with_reducible refine zd 14 rfl ?_); refine zgl Tryz.func129 (impl_IsSymmetric.calls k a0_0 a0_1 a0_2 true _ A4.out) ?_; rintro e w13 ⟨rfl, hb⟩; refine ⟨_, rfl, ?_⟩; replace BK640 := zk BK640 hb; replace HB := zB hb; have ⟨_, _, _, _, _, _⟩ := cz3 BK640) | ((with_reducible refine zd 18 rfl ?_); refine zgl Tryz.func130 (impl_IsConnected.calls k a0_0 a0_1 a0_2 true _ A6.out) ?_; rintro e w15 ⟨rfl, hb⟩; refine ⟨_, rfl, ?_⟩; replace BK640 := zk BK640 hb; replace HB := zB hb; have ⟨_, _, _, _, _, _⟩ := cz3 BK640) | ((with_reducible refine zd 21 rfl ?_); refine zgl Tryz.func99 (impl_SlotsOf.calls k a0_0 a0_1 a0_2 t644 _ A8.out) ?_; rintro e w17 ⟨v645, rfl, ho0, hb⟩; refine ⟨_, rfl, ?_⟩; have HO646 := zl2 ho0; replace BK640 := zk BK640 hb; replace HB := zB hb; obtain ⟨Ao18, co18, eo18⟩ := Kd.R_slice HO646.out; subst eo18))
    go_loopg [24] k (fun kq v24 w' => ∃ (x24_1 : Int), v24 = .int .i64 x24_1 ∧ Aside0 (impl_FormOf.l0 kq t644 t644 (t644.length : Int) x24_1 a0_0 a0_1 a0_2 = some r) ∧ Aside0 (kq ≤ k) ∧ Aside0 (Kd.R k132 132 w' w.heap.size (fun _ => True) (.slice Ao18 t644.length co18) t644) ∧ Aside0 (Kd.R k132 132 w' w.heap.size (fun _ => True) (.slice Ao18 t644.length co18) t644) ∧ Aside0 (w'.heap[gb640]? = some (.cells #[.int .i64 a0_0, .int .i64 a0_1, .string a0_2] 32 (0, 0))) ∧ Aside0 (Below w.heap.size w w'))
    case atStart => exact ⟨(0), rf, H', ⟨Nat.le_refl _⟩, ⟨kr HO646⟩, ⟨kr HO646⟩, ⟨bk BK640⟩, ⟨bel⟩⟩
    case round =>
     clear H'
     obtain ⟨x24_1, rfl, HA, HK1, HO_3, HO_22, BK640, HB⟩ := hrel
     cases gk with
     | zero => exact absurd HA.out (by simp [impl_FormOf.l0])
     | succ k1 =>
      have H := HA.out
      clear HA
      simp only [impl_FormOf.l0] at H
      replace H := zc H
      rcases H with ⟨c19b0, H⟩ | ⟨c19b0, H⟩
      ·
       replace H := zr H
       obtain ⟨c20b0, H⟩ := H
       replace H := zr H
       obtain ⟨c21b0, H⟩ := H
       replace H := zc H
       rcases H with ⟨c22b0, H⟩ | ⟨c22b0, H⟩
       ·
        obtain rfl := Option.some.inj H
        obtain ⟨p647, q647, ad647, e647, hx647_0, hx647_1, hx647_2, hx647_3⟩ := zx (at_T132 (Kd.R_reads' HO_22.out).2.2 x24_1)
        cases e647
        go_wp2_with (first | ((with_reducible refine zd 5 rfl ?_); refine zbx (w := w) #[.int .i64 0, .bool false, .int .i64 0, .int .i64 0] 132 ?_; intro gb648 hg w23 BK648 hb; replace HO_3 := Aside0.mk (Kd.R_below (Kd.R_elderB (kr HO_3) gb648 (Nat.le_of_eq hg.symm)) hb); replace HO_22 := Aside0.mk (Kd.R_below (Kd.R_elderB (kr HO_22) gb648 (Nat.le_of_eq hg.symm)) hb); have GW648 := zg (w := w) hg; replace HB := zB hb; have NB640_648 := zn hg BK640; have NB648_640 := zm hg BK640; replace BK640 := zk BK640 hb; clear hb hg; have hnb24 := NB648_640.out; have hnc24 := NB640_648.out; have ⟨_, _, _, _, _, _, _, _⟩ := cz4 BK648))
        go_ret
        exact ⟨er, bel⟩
       ·
        have H' := Aside0.mk H
        clear H
        obtain ⟨p647, q647, ad647, e647, hx647_0, hx647_1, hx647_2, hx647_3⟩ := zx (at_T132 (Kd.R_reads' HO_22.out).2.2 x24_1)
        cases e647
        go_wp2_with (first | ((with_reducible refine zd 5 rfl ?_); refine zbx (w := w) #[.int .i64 0, .bool false, .int .i64 0, .int .i64 0] 132 ?_; intro gb648 hg w26 BK648 hb; replace HO_3 := Aside0.mk (Kd.R_below (Kd.R_elderB (kr HO_3) gb648 (Nat.le_of_eq hg.symm)) hb); replace HO_22 := Aside0.mk (Kd.R_below (Kd.R_elderB (kr HO_22) gb648 (Nat.le_of_eq hg.symm)) hb); have GW648 := zg (w := w) hg; replace HB := zB hb; have NB640_648 := zn hg BK640; have NB648_640 := zm hg BK640; replace BK640 := zk BK640 hb; clear hb hg; have hnb27 := NB648_640.out; have hnc27 := NB640_648.out; have ⟨_, _, _, _, _, _, _, _⟩ := cz4 BK648))
        go_roundg k1
        case measure => have := HK1.out; omega
        case rel => exact ⟨(wrap64 (x24_1 + 1)), rf, H', ⟨by have := HK1.out; omega⟩, ⟨zRg gb648 HO_3⟩, ⟨zRg gb648 HO_22⟩, zkg BK640, ⟨bel⟩⟩
      ·
       have H' := Aside0.mk H
       clear H
       go_wp2
       go_loopg [34] k1 (fun kq v34 w' => ∃ (x34_2 : Int), v34 = .int .i64 x34_2 ∧ Aside0 (impl_FormOf.l1 kq t644 (t644.length : Int) x34_2 a0_0 a0_1 a0_2 = some r) ∧ Aside0 (kq ≤ k1) ∧ Aside0 (Kd.R k132 132 w' w.heap.size (fun _ => True) (.slice Ao18 t644.length co18) t644) ∧ Aside0 (w'.heap[gb640]? = some (.cells #[.int .i64 a0_0, .int .i64 a0_1, .string a0_2] 32 (0, 0))) ∧ Aside0 (Below w.heap.size w w'))
       case atStart => exact ⟨(0), rf, H', ⟨Nat.le_refl _⟩, ⟨kr HO_3⟩, ⟨bk BK640⟩, ⟨bel⟩⟩
       case round =>
        clear H'
        obtain ⟨x34_2, rfl, HA, HK2, HO_32, BK640, HB⟩ := hrel
        cases gk with
        | zero => exact absurd HA.out (by simp [impl_FormOf.l1])
        | succ k2 =>
         have H := HA.out
         clear HA
         simp only [impl_FormOf.l1] at H
         replace H := zc H
         rcases H with ⟨c29b0, H⟩ | ⟨c29b0, H⟩
         ·
          replace H := zr H
          obtain ⟨c30b0, H⟩ := H
          replace H := zr H
          obtain ⟨c31b0, H⟩ := H
          replace H := zs H
          obtain ⟨t651, A32, H⟩ := H
          replace H := zc H
          rcases H with ⟨c33b0, H⟩ | ⟨c33b0, H⟩
          ·
           obtain rfl := Option.some.inj H
           obtain ⟨p649, q649, ad649, e649, hx649_0, hx649_1, hx649_2, hx649_3⟩ := zx (at_T132 (Kd.R_reads' HO_32.out).2.2 x34_2)
           cases e649
           try go_wp2_with (first | ((with_reducible refine zd 7 rfl ?_); refine zbx (w := w) #[.int .i64 0, .bool false, .int .i64 0, .int .i64 0] 132 ?_; intro gb650 hg w34 BK650 hb; replace HO_32 := Aside0.mk (Kd.R_below (Kd.R_elderB (kr HO_32) gb650 (Nat.le_of_eq hg.symm)) hb); have GW650 := zg (w := w) hg; replace HB := zB hb; have NB640_650 := zn hg BK640; have NB650_640 := zm hg BK640; replace BK640 := zk BK640 hb; clear hb hg; have hnb35 := NB650_640.out; have hnc35 := NB640_650.out; have ⟨_, _, _, _, _, _, _, _⟩ := cz4 BK650))
           have n0_ : Aside0 (Kd.R k132 132 ((((w34.setCell ⟨gb650, 0, none⟩ (.int .i64 ((rd_T132 t644 x34_2).f0))).setCell ⟨gb650, 1, none⟩ (.bool ((rd_T132 t644 x34_2).f1))).setCell ⟨gb650, 2, none⟩ (.int .i64 ((rd_T132 t644 x34_2).f2))).setCell ⟨gb650, 3, none⟩ (.int .i64 ((rd_T132 t644 x34_2).f3))) w.heap.size (fun k_ => k_ ≠ gb650) (.slice (some ad649) t644.length co18) t644) := ⟨by (with_reducible repeat (first | apply Kd.R_alloc | apply Kd.R_drewN | apply Kd.R_drew)); exact Kd.R_mono (Kd.R_far (p := ⟨gb650, 3, none⟩) (Kd.R_far (p := ⟨gb650, 2, none⟩) (Kd.R_far (p := ⟨gb650, 1, none⟩) (Kd.R_far (p := ⟨gb650, 0, none⟩) (Kd.R_mono HO_32.out (fun k_ hk => (⟨hk, hk.2⟩ : _ ∧ k_ ≠ gb650))) (fun _ hk => hk.2) (.int .i64 ((rd_T132 t644 x34_2).f0))) (fun _ hk => hk.2) (.bool ((rd_T132 t644 x34_2).f1))) (fun _ hk => hk.2) (.int .i64 ((rd_T132 t644 x34_2).f2))) (fun _ hk => hk.2) (.int .i64 ((rd_T132 t644 x34_2).f3))) (fun _ hk => hk.1.2)⟩
           have n1_ : Aside0 (((((w34.setCell ⟨gb650, 0, none⟩ (.int .i64 ((rd_T132 t644 x34_2).f0))).setCell ⟨gb650, 1, none⟩ (.bool ((rd_T132 t644 x34_2).f1))).setCell ⟨gb650, 2, none⟩ (.int .i64 ((rd_T132 t644 x34_2).f2))).setCell ⟨gb650, 3, none⟩ (.int .i64 ((rd_T132 t644 x34_2).f3))).heap[gb640]? = some (.cells #[.int .i64 a0_0, .int .i64 a0_1, .string a0_2] 32 (0, 0))) := zkg BK640
           have n2_ : Aside0 (((((w34.setCell ⟨gb650, 0, none⟩ (.int .i64 ((rd_T132 t644 x34_2).f0))).setCell ⟨gb650, 1, none⟩ (.bool ((rd_T132 t644 x34_2).f1))).setCell ⟨gb650, 2, none⟩ (.int .i64 ((rd_T132 t644 x34_2).f2))).setCell ⟨gb650, 3, none⟩ (.int .i64 ((rd_T132 t644 x34_2).f3))).heap[gb650]? = some (.cells #[.int .i64 ((rd_T132 t644 x34_2).f0), .bool ((rd_T132 t644 x34_2).f1), .int .i64 ((rd_T132 t644 x34_2).f2), .int .i64 ((rd_T132 t644 x34_2).f3)] 132 (0, 0))) := zkg BK650
           have n3_ : Aside0 (Below w.heap.size w ((((w34.setCell ⟨gb650, 0, none⟩ (.int .i64 ((rd_T132 t644 x34_2).f0))).setCell ⟨gb650, 1, none⟩ (.bool ((rd_T132 t644 x34_2).f1))).setCell ⟨gb650, 2, none⟩ (.int .i64 ((rd_T132 t644 x34_2).f2))).setCell ⟨gb650, 3, none⟩ (.int .i64 ((rd_T132 t644 x34_2).f3)))) := ⟨bel⟩
           (try clear HO_32)
           (try clear BK640)
           (try clear BK650)
           (try clear HB)
           generalize ((((w34.setCell ⟨gb650, 0, none⟩ (.int .i64 ((rd_T132 t644 x34_2).f0))).setCell ⟨gb650, 1, none⟩ (.bool ((rd_T132 t644 x34_2).f1))).setCell ⟨gb650, 2, none⟩ (.int .i64 ((rd_T132 t644 x34_2).f2))).setCell ⟨gb650, 3, none⟩ (.int .i64 ((rd_T132 t644 x34_2).f3))) = w37 at n0_ n1_ n2_ n3_ ⊢
           have HO_32 := n0_
           have BK640 := n1_
           have BK650 := n2_
           have HB := n3_
           clear n0_ n1_ n2_ n3_
           replace HO_32 := zRd HO_32
           replace BK640 := zkd BK640
           replace BK650 := zkd BK650
           replace HB := zBd HB
           refine zst 7 rfl (zb3 BK640 <| zb4 BK650 <| zn0) fun hHeld HT_ => ?_
           generalize w37.drew = w38 at HO_32 BK640 BK650 HB hHeld ⊢
           repeat (first | refine zs1 ?_ | (refine zcl Tryz.func131 (impl_UncheckedIn.calls k2 a0_0 a0_1 a0_2 x34_2 t651 _ A32.out) ?_; rintro e w39 ⟨rfl, hb⟩; replace HO_32 := zR HO_32 hb; replace BK640 := zk BK640 hb; replace BK650 := zk BK650 hb; replace HB := zB hb; refine ⟨_, rfl, zHb hb hHeld, _, znb, fun hHeld => ?_⟩))
           refine zdn ?_
           try go_wp2
           go_ret
           exact ⟨er, bel⟩
          ·
           have H' := Aside0.mk H
           clear H
           obtain ⟨p649, q649, ad649, e649, hx649_0, hx649_1, hx649_2, hx649_3⟩ := zx (at_T132 (Kd.R_reads' HO_32.out).2.2 x34_2)
           cases e649
           try go_wp2_with (first | ((with_reducible refine zd 7 rfl ?_); refine zbx (w := w) #[.int .i64 0, .bool false, .int .i64 0, .int .i64 0] 132 ?_; intro gb650 hg w40 BK650 hb; replace HO_32 := Aside0.mk (Kd.R_below (Kd.R_elderB (kr HO_32) gb650 (Nat.le_of_eq hg.symm)) hb); have GW650 := zg (w := w) hg; replace HB := zB hb; have NB640_650 := zn hg BK640; have NB650_640 := zm hg BK640; replace BK640 := zk BK640 hb; clear hb hg; have hnb41 := NB650_640.out; have hnc41 := NB640_650.out; have ⟨_, _, _, _, _, _, _, _⟩ := cz4 BK650))
           have n0_ : Aside0 (Kd.R k132 132 ((((w40.setCell ⟨gb650, 0, none⟩ (.int .i64 ((rd_T132 t644 x34_2).f0))).setCell ⟨gb650, 1, none⟩ (.bool ((rd_T132 t644 x34_2).f1))).setCell ⟨gb650, 2, none⟩ (.int .i64 ((rd_T132 t644 x34_2).f2))).setCell ⟨gb650, 3, none⟩ (.int .i64 ((rd_T132 t644 x34_2).f3))) w.heap.size (fun k_ => k_ ≠ gb650) (.slice (some ad649) t644.length co18) t644) := ⟨by (with_reducible repeat (first | apply Kd.R_alloc | apply Kd.R_drewN | apply Kd.R_drew)); exact Kd.R_mono (Kd.R_far (p := ⟨gb650, 3, none⟩) (Kd.R_far (p := ⟨gb650, 2, none⟩) (Kd.R_far (p := ⟨gb650, 1, none⟩) (Kd.R_far (p := ⟨gb650, 0, none⟩) (Kd.R_mono HO_32.out (fun k_ hk => (⟨hk, hk.2⟩ : _ ∧ k_ ≠ gb650))) (fun _ hk => hk.2) (.int .i64 ((rd_T132 t644 x34_2).f0))) (fun _ hk => hk.2) (.bool ((rd_T132 t644 x34_2).f1))) (fun _ hk => hk.2) (.int .i64 ((rd_T132 t644 x34_2).f2))) (fun _ hk => hk.2) (.int .i64 ((rd_T132 t644 x34_2).f3))) (fun _ hk => hk.1.2)⟩
           have n1_ : Aside0 (((((w40.setCell ⟨gb650, 0, none⟩ (.int .i64 ((rd_T132 t644 x34_2).f0))).setCell ⟨gb650, 1, none⟩ (.bool ((rd_T132 t644 x34_2).f1))).setCell ⟨gb650, 2, none⟩ (.int .i64 ((rd_T132 t644 x34_2).f2))).setCell ⟨gb650, 3, none⟩ (.int .i64 ((rd_T132 t644 x34_2).f3))).heap[gb640]? = some (.cells #[.int .i64 a0_0, .int .i64 a0_1, .string a0_2] 32 (0, 0))) := zkg BK640
           have n2_ : Aside0 (((((w40.setCell ⟨gb650, 0, none⟩ (.int .i64 ((rd_T132 t644 x34_2).f0))).setCell ⟨gb650, 1, none⟩ (.bool ((rd_T132 t644 x34_2).f1))).setCell ⟨gb650, 2, none⟩ (.int .i64 ((rd_T132 t644 x34_2).f2))).setCell ⟨gb650, 3, none⟩ (.int .i64 ((rd_T132 t644 x34_2).f3))).heap[gb650]? = some (.cells #[.int .i64 ((rd_T132 t644 x34_2).f0), .bool ((rd_T132 t644 x34_2).f1), .int .i64 ((rd_T132 t644 x34_2).f2), .int .i64 ((rd_T132 t644 x34_2).f3)] 132 (0, 0))) := zkg BK650
           have n3_ : Aside0 (Below w.heap.size w ((((w40.setCell ⟨gb650, 0, none⟩ (.int .i64 ((rd_T132 t644 x34_2).f0))).setCell ⟨gb650, 1, none⟩ (.bool ((rd_T132 t644 x34_2).f1))).setCell ⟨gb650, 2, none⟩ (.int .i64 ((rd_T132 t644 x34_2).f2))).setCell ⟨gb650, 3, none⟩ (.int .i64 ((rd_T132 t644 x34_2).f3)))) := ⟨bel⟩
           (try clear HO_32)
           (try clear BK640)
           (try clear BK650)
           (try clear HB)
           generalize ((((w40.setCell ⟨gb650, 0, none⟩ (.int .i64 ((rd_T132 t644 x34_2).f0))).setCell ⟨gb650, 1, none⟩ (.bool ((rd_T132 t644 x34_2).f1))).setCell ⟨gb650, 2, none⟩ (.int .i64 ((rd_T132 t644 x34_2).f2))).setCell ⟨gb650, 3, none⟩ (.int .i64 ((rd_T132 t644 x34_2).f3))) = w43 at n0_ n1_ n2_ n3_ ⊢
           have HO_32 := n0_
           have BK640 := n1_
           have BK650 := n2_
           have HB := n3_
           clear n0_ n1_ n2_ n3_
           replace HO_32 := zRd HO_32
           replace BK640 := zkd BK640
           replace BK650 := zkd BK650
           replace HB := zBd HB
           refine zst 7 rfl (zb3 BK640 <| zb4 BK650 <| zn0) fun hHeld HT_ => ?_
           generalize w43.drew = w44 at HO_32 BK640 BK650 HB hHeld ⊢
           repeat (first | refine zs1 ?_ | (refine zcl Tryz.func131 (impl_UncheckedIn.calls k2 a0_0 a0_1 a0_2 x34_2 t651 _ A32.out) ?_; rintro e w45 ⟨rfl, hb⟩; replace HO_32 := zR HO_32 hb; replace BK640 := zk BK640 hb; replace BK650 := zk BK650 hb; replace HB := zB hb; refine ⟨_, rfl, zHb hb hHeld, _, znb, fun hHeld => ?_⟩))
           refine zdn ?_
           try go_wp2
           go_roundg k2
           case measure => have := HK1.out; have := HK2.out; omega
           case rel => exact ⟨(wrap64 (x34_2 + 1)), rf, H', ⟨by have := HK1.out; have := HK2.out; omega⟩, ⟨by (with_reducible repeat (first | apply Kd.R_alloc | apply Kd.R_drewN | apply Kd.R_drew)); exact Kd.R_mono HO_32.out (fun _ hk => trivial)⟩, ⟨bk BK640⟩, ⟨bel⟩⟩
         ·
          replace H := zs H
          obtain ⟨t652, A46, H⟩ := H
          replace H := zb H
          rcases H with ⟨rfl, H⟩ | ⟨rfl, H⟩
          ·
           obtain rfl := Option.some.inj H
           have ⟨_, _, _, _, _, _⟩ := cz3 BK640
           go_wp2_with (first | ((with_reducible refine zd 50 rfl ?_); refine zgl Tryz.func132 (impl_alone.calls k2 a0_0 a0_1 a0_2 a0_2 true _ A46.out) ?_; rintro e w49 ⟨rfl, hb⟩; refine ⟨_, rfl, ?_⟩; replace HO_32 := zR HO_32 hb; replace BK640 := zk BK640 hb; replace HB := zB hb))
           go_ret
           exact ⟨er, bel⟩
          ·
           obtain rfl := Option.some.inj H
           have ⟨_, _, _, _, _, _⟩ := cz3 BK640
           go_wp2_with (first | ((with_reducible refine zd 50 rfl ?_); refine zgl Tryz.func132 (impl_alone.calls k2 a0_0 a0_1 a0_2 a0_2 false _ A46.out) ?_; rintro e w51 ⟨rfl, hb⟩; refine ⟨_, rfl, ?_⟩; replace HO_32 := zR HO_32 hb; replace BK640 := zk BK640 hb; replace HB := zB hb))
           go_ret
           exact ⟨er, bel⟩
 all_goals
  go_enter Tryz.func98, Tryz.ntmps98
  go_wp2_with (first | ((with_reducible refine zd 1 rfl ?_); refine zbx (w := w) #[.int .i64 a0_0, .int .i64 a0_1, .string a0_2] 32 ?_; intro gb640 hg w1000 BK640 hb; have GW640 := zg (w := w) hg; replace HB := zB hb; clear hb hg; have ⟨_, _, _, _, _, _⟩ := cz3 BK640) | ((with_reducible refine zd 10 rfl ?_); refine zgl Tryz.func85 (impl_IsGrid.calls k a0_0 a0_1 a0_2 _ _ A2.out) ?_; rintro e w1001 ⟨rfl, hb⟩; refine ⟨_, rfl, ?_⟩; replace BK640 := zk BK640 hb; replace HB := zB hb; have ⟨_, _, _, _, _, _⟩ := cz3 BK640) | ((with_reducible refine zd 14 rfl ?_); refine zgl Tryz.func129 (impl_IsSymmetric.calls k a0_0 a0_1 a0_2 _ _ A4.out) ?_; rintro e w1002 ⟨rfl, hb⟩; refine ⟨_, rfl, ?_⟩; replace BK640 := zk BK640 hb; replace HB := zB hb; have ⟨_, _, _, _, _, _⟩ := cz3 BK640) | ((with_reducible refine zd 18 rfl ?_); refine zgl Tryz.func130 (impl_IsConnected.calls k a0_0 a0_1 a0_2 _ _ A6.out) ?_; rintro e w1003 ⟨rfl, hb⟩; refine ⟨_, rfl, ?_⟩; replace BK640 := zk BK640 hb; replace HB := zB hb) | ((with_reducible refine zd 14 rfl ?_); refine zgl Tryz.func129 (impl_IsSymmetric.calls k a0_0 a0_1 a0_2 _ _ A4.out) ?_; rintro e w1002 ⟨rfl, hb⟩; refine ⟨_, rfl, ?_⟩; replace BK640 := zk BK640 hb; replace HB := zB hb) | ((with_reducible refine zd 10 rfl ?_); refine zgl Tryz.func85 (impl_IsGrid.calls k a0_0 a0_1 a0_2 _ _ A2.out) ?_; rintro e w1001 ⟨rfl, hb⟩; refine ⟨_, rfl, ?_⟩; replace BK640 := zk BK640 hb; replace HB := zB hb))
  go_ret
  exact ⟨er, bel⟩

/-! ### impl_needsWord: function 155 -/
def impl_needsWord.f (a : Int) : Option (Bool) := if a = 3 then (some true) else (some (decide (a ≥ 6)))
set_option maxHeartbeats 8000000 in
set_option maxRecDepth 100000 in
theorem impl_needsWord.calls (a0 : Int) (r : Bool) (w : World) (H : impl_needsWord.f a0 = some r) :
  Calls Tryz.prog 155 #[.int .i64 a0] w fun e w' => e = .returned (.bool r) ∧ Drawn0 w w' := by
 unfold impl_needsWord.f at H
 by_cases c2 : a0 = 3
 rotate_left
 focus
  rw [if_neg c2] at H
  have c2b0 : (a0 == 3) = false := beq_eq_false_iff_ne.mpr c2
  have c2b1 : (a0 != 3) = true := bne_iff_ne.mpr c2
  obtain rfl := Option.some.inj H
 rotate_right
 focus
  rw [if_pos c2] at H
  have c2b0 : (a0 == 3) = true := beq_iff_eq.mpr c2
  have c2b1 : (a0 != 3) = false := bne_eq_false_iff_eq.mpr c2
  clear c2
  obtain rfl := Option.some.inj H
 all_goals
  go_enter Tryz.func155, Tryz.ntmps155
  go_wp2
  go_ret
  exact ⟨by first | rfl | (simp; done) | (simp [*]; done), by repeat (first | exact Drawn0.refl _ | apply Drawn0.step)⟩

/-! ### impl_isPair: function 156 -/
def impl_isPair.f (a : Int) : Option (Bool) := if a = 4 then (some true) else (some (a == 5))
set_option maxHeartbeats 8000000 in
set_option maxRecDepth 100000 in
theorem impl_isPair.calls (a0 : Int) (r : Bool) (w : World) (H : impl_isPair.f a0 = some r) :
  Calls Tryz.prog 156 #[.int .i64 a0] w fun e w' => e = .returned (.bool r) ∧ Drawn0 w w' := by
 unfold impl_isPair.f at H
 by_cases c2 : a0 = 4
 rotate_left
 focus
  rw [if_neg c2] at H
  have c2b0 : (a0 == 4) = false := beq_eq_false_iff_ne.mpr c2
  have c2b1 : (a0 != 4) = true := bne_iff_ne.mpr c2
  obtain rfl := Option.some.inj H
 rotate_right
 focus
  rw [if_pos c2] at H
  have c2b0 : (a0 == 4) = true := beq_iff_eq.mpr c2
  have c2b1 : (a0 != 4) = false := bne_eq_false_iff_eq.mpr c2
  clear c2
  obtain rfl := Option.some.inj H
 all_goals
  go_enter Tryz.func156, Tryz.ntmps156
  go_wp2
  go_ret
  exact ⟨by first | rfl | (simp; done) | (simp [*]; done), by repeat (first | exact Drawn0.refl _ | apply Drawn0.step)⟩

end Go.Proofs.YtpcdfjcbjbkliaaGreat.E
