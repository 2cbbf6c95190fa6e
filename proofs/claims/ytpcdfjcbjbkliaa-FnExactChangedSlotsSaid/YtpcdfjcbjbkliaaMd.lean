import Derived.Test.YtpcdfjcbjbkliaaMk
namespace Go.Proofs.Ytpcdfjcbjbkliaa.E
open Go.RowKit Go.Proofs.YtpcdfjcbjbkliaaW.PrintWords Go.Proofs.YtpcdfjcbjbkliaaW.PrintLast Go.Proofs.YtpcdfjcbjbkliaaW.PrintMore
attribute [local go_sem] max2_int min2_int max_two min_two max_three min_three max_four min_four
set_option linter.unusedVariables false
set_option linter.unusedSimpArgs false
set_option maxHeartbeats 4000000 in
set_option maxRecDepth 100000 in
theorem laws_markDraft.calls (k : Nat) (R C : Int) (s f : ByteArray) (A : Option Addr) (c : Nat) (l : List S48) (n a r1 : Int) (r2 : List S48) (ok : Nat → Prop) (w0 w : World) (hB : Below w0.heap.size w0 w) (hs : Kd.S k48 48 w w0.heap.size ok (.slice A l.length c) l) (h : laws_markClueS.f k l a = some (r1, r2)) :
    Calls Try.prog 12 #[.agg #[.int .i64 R, .int .i64 C, .string s, .string f, .slice A l.length c, .int .i64 n], .int .i64 a] w fun e w' => e = .returned (.int .i64 r1) ∧ Kd.S k48 48 w' w0.heap.size ok (.slice A l.length c) r2 ∧ Below w0.heap.size w0 w' ∧ Kept w w' ok := by
  have hu33 := Try.underlying33
  have HB := Aside0.mk hB
  have HS := Aside0.mk hs
  have HA := Aside0.mk h
  have HK := Aside0.mk (Kept.refl w ok)
  clear hB hs h
  go_enter Try.func12, Try.ntmps12
  go_wp2_with (first
    | ((with_reducible refine zd 2 rfl ?_); refine zbx (w := w0) #[.int .i64 R, .int .i64 C, .string s, .string f, .slice A l.length c, .int .i64 n] 33 ?_; intro g hg w2 BK hb; replace HS := zS HS hb; replace HK := Aside0.mk (Kept.below HK.out hb); replace HB := zB hb; clear hb hg; have ⟨_, _, _, _, _, _, _, _, _, _, _, _⟩ := cz6 BK)
    | ((with_reducible refine zd 8 rfl ?_); refine zgl Try.func36 (laws_markClueS.calls k _ l a r1 r2 ok w0 _ HB.out HS.out HA.out) ?_; rintro e w3 ⟨rfl, hs, hb, hk⟩; refine ⟨_, rfl, ?_⟩; replace HS := Aside0.mk hs; replace HB := Aside0.mk hb; replace HK := Aside0.mk (Kept.then_ HK.out hk (fun _ h => .inl h)); clear hs hb hk))
  go_ret
  exact ⟨rfl, HS.out, HB.out, HK.out⟩
end Go.Proofs.Ytpcdfjcbjbkliaa.E
