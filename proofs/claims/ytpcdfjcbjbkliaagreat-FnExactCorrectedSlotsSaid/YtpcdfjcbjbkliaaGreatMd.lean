import Derived.Test.YtpcdfjcbjbkliaaGreatMs
import Derived.Test.YtpcdfjcbjbkliaaGreatMk
import Derived.Test.YtpcdfjcbjbkliaaGreatQ26
namespace Go.Proofs.YtpcdfjcbjbkliaaGreat.E
open Go.RowKit Go.Proofs.YtpcdfjcbjbkliaaGreatW.PrintWords Go.Proofs.YtpcdfjcbjbkliaaGreatW.PrintLast Go.Proofs.YtpcdfjcbjbkliaaGreatW.PrintMore
attribute [local go_sem] max2_int min2_int max_two min_two max_three min_three max_four min_four
set_option linter.unusedVariables false
set_option linter.unusedSimpArgs false
set_option maxHeartbeats 4000000 in
set_option maxRecDepth 100000 in
theorem laws_markPuzzle.calls (k : Nat) (R C : Int) (s : ByteArray) (A : Option Addr) (c : Nat) (l : List S89) (B : Option Addr) (b : Nat) (t : List Int) (n a r1 r3 : Int) (r2 : List S89) (r4 : List Int) (ok : Nat → Prop) (w0 w : World) (hB : Below w0.heap.size w0 w) (hs : Kd.S k89 89 w w0.heap.size ok (.slice A l.length c) l) (ht : Kd.R (Kd.int .i64) 3 w w0.heap.size ok (.slice B t.length b) t) (h : laws_markClueS.f k l a = some (r1, r2)) (h2 : laws_markIntS.f k t r1 = some (r3, r4)) :
    Calls Tryz.prog 43 #[.agg #[.int .i64 R, .int .i64 C, .string s, .slice A l.length c, .slice B t.length b, .int .i64 n], .int .i64 a] w fun e w' => e = .returned (.int .i64 r3) ∧ Below w0.heap.size w0 w' ∧ Kept w w' ok := by
  have hu35 := Tryz.underlying35
  have hu33 := Tryz.underlying33
  have hu25 := Tryz.underlying25
  have HB := Aside0.mk hB
  have hz : ∀ q : Nat, q ∈ 89 :: k89.E → q ≠ 3 := by decide
  have HS := Aside0.mk (Kd.S_mono (ok' := fun k_ => ok k_ ∧ some k_ ≠ (Value.slice B t.length b).ownBlock) (Kd.S_bound hs) (fun k_ hk => ⟨hk.1, fun he => by
    obtain ⟨_, _, _, q, hq, cells, hc⟩ := hk
    obtain ⟨cells', hc'⟩ := Kd.R_typed ht k_ he.symm
    rw [hc'] at hc
    simp only [Option.some.injEq, Obj.cells.injEq] at hc
    exact hz q hq hc.2.1.symm⟩))
  have HT := Aside0.mk (Kd.R_tight rfl ht)
  have HO := Aside0.mk (fun k_ hk => ht.1 k_ hk : ∀ k_, (Value.slice B t.length b).ownBlock = some k_ → ok k_)
  have HA := Aside0.mk h
  have HA2 := Aside0.mk h2
  have HK := Aside0.mk (Kept.refl w ok)
  clear hB hs ht h h2
  go_enter Tryz.func43, Tryz.ntmps43
  go_wp2_with (first
    | ((with_reducible refine zd 2 rfl ?_); refine zbx (w := w0) #[.int .i64 R, .int .i64 C, .string s, .slice A l.length c, .slice B t.length b, .int .i64 n] 35 ?_; intro g hg w2 BK hb; have HG := zg (w := w0) hg; replace HS := zSo (ks HS) hb; replace HT := zRo (kr HT) hb; replace HK := Aside0.mk (Kept.below HK.out hb); have HL := Aside0.mk (show w2.heap.size ≤ w2.heap.size from Nat.le_refl _); replace HB := zB hb; have HN := Aside0.mk hg; clear hb hg; have ⟨_, _, _, _, _, _, _, _, _, _, _, _⟩ := cz6 BK)
    | ((with_reducible refine zd 8 rfl ?_); refine zgl Tryz.func80 (laws_markClueS.calls k _ l a r1 r2 _ w0 _ HB.out HS.out HA.out) ?_; rintro e w3 ⟨rfl, hs, hb, hk⟩; refine ⟨_, rfl, ?_⟩; replace HT := zRk HT hk (fun k_ h1 h2 => h2.1.2 h1.1); replace BK := zkk BK hk (fun h1 => by have := h1.2; have := HN.out; omega); replace HB := Aside0.mk hb; replace HK := Aside0.mk (Kept.then_ HK.out hk (fun _ h => .inl h.1.1)); clear hs hb hk; have ⟨_, _, _, _, _, _, _, _, _, _, _, _⟩ := cz6 BK)
    | ((with_reducible refine zd 12 rfl ?_); refine zgl Tryz.func31 (laws_markIntS.calls k _ _ t r1 r3 r4 w0 _ HB.out HT.out HA2.out) ?_; rintro e w4 ⟨rfl, hs, hb, hk⟩; refine ⟨_, rfl, ?_⟩; replace HB := Aside0.mk hb; replace HK := Aside0.mk (Kept.then_ HK.out hk (fun k_ h => .inl (HO.out k_ h.1.symm))); clear hs hb hk))
  go_ret
  exact ⟨rfl, HB.out, HK.out⟩
set_option maxHeartbeats 4000000 in
set_option maxRecDepth 100000 in
theorem laws_markIssue.calls (k : Nat) (m R C : Int) (s : ByteArray) (A : Option Addr) (c : Nat) (l : List S89) (B : Option Addr) (b : Nat) (t : List Int) (n : Int) (f : ByteArray) (o u a r1 r3 : Int) (r2 : List S89) (r4 : List Int) (ok : Nat → Prop) (w0 w : World) (hB : Below w0.heap.size w0 w) (hs : Kd.S k89 89 w w0.heap.size ok (.slice A l.length c) l) (ht : Kd.R (Kd.int .i64) 3 w w0.heap.size ok (.slice B t.length b) t) (h : laws_markClueS.f k l a = some (r1, r2)) (h2 : laws_markIntS.f k t r1 = some (r3, r4)) :
    Calls Tryz.prog 29 #[.agg #[.int .i64 m, .int .i64 R, .int .i64 C, .string s, .slice A l.length c, .slice B t.length b, .int .i64 n, .string f, .int .i64 o, .int .i64 u], .int .i64 a] w fun e w' => e = .returned (.int .i64 r3) ∧ Below w0.heap.size w0 w' ∧ Kept w w' ok := by
  have hu37 := Tryz.underlying37
  have hu35 := Tryz.underlying35
  have HB := Aside0.mk hB
  have HS := Aside0.mk hs
  have HT := Aside0.mk ht
  have HA := Aside0.mk h
  have HA2 := Aside0.mk h2
  have HK := Aside0.mk (Kept.refl w ok)
  clear hB hs ht h h2
  go_enter Tryz.func29, Tryz.ntmps29
  go_wp2_with (first
    | ((with_reducible refine zd 2 rfl ?_); refine zbx (w := w0) #[.int .i64 m, .int .i64 R, .int .i64 C, .string s, .slice A l.length c, .slice B t.length b, .int .i64 n, .string f, .int .i64 o, .int .i64 u] 37 ?_; intro g hg w2 BK hb; replace HS := zS HS hb; replace HT := zR HT hb; replace HK := Aside0.mk (Kept.below HK.out hb); replace HB := zB hb; clear hb hg; have ⟨_, _, _, _, _, _, _, _, _, _, _, _, _, _, _, _, _, _, _, _⟩ := cz10 BK)
    | ((with_reducible refine zd 8 rfl ?_); refine zgl Tryz.func43 (laws_markPuzzle.calls k R C s A c l B b t n a r1 r3 r2 r4 ok w0 _ HB.out HS.out HT.out HA.out HA2.out) ?_; rintro e w3 ⟨rfl, hb, hk⟩; refine ⟨_, rfl, ?_⟩; replace HB := Aside0.mk hb; replace HK := Aside0.mk (Kept.then_ HK.out hk (fun _ h => .inl h)); clear hb hk))
  go_ret
  exact ⟨rfl, HB.out, HK.out⟩
end Go.Proofs.YtpcdfjcbjbkliaaGreat.E
