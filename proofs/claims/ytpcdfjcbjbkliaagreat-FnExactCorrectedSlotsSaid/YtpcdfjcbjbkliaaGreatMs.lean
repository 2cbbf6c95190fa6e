import Derived.Test.YtpcdfjcbjbkliaaGreatSq
namespace Go.Proofs.YtpcdfjcbjbkliaaGreat.E
open Go.RowKit Go.Proofs.YtpcdfjcbjbkliaaGreatW.PrintWords Go.Proofs.YtpcdfjcbjbkliaaGreatW.PrintLast Go.Proofs.YtpcdfjcbjbkliaaGreatW.PrintMore
attribute [local go_sem] max2_int min2_int max_two min_two max_three min_three max_four min_four
set_option linter.unusedVariables false
set_option linter.unusedSimpArgs false
/-! ### words for the laws with marks: who is elder lies lower -/
section
variable {α : Type} {d : Kd α} {e base g : Nat} {w1 w w2 W w0 : World} {ok ok' S : Nat → Prop} {v : Value} {xs : List α} {o : Obj}
theorem zSv (hw : Aside0 (w = W)) (h : Aside0 (d.S e w1 base ok v xs)) (k : d.S e w1 base ok v xs → d.S e w base ok v xs := by intro h; (with_reducible repeat (first | apply Kd.S_alloc | apply Kd.S_drewN | apply Kd.S_drew)); exact h) : Aside0 (d.S e W base ok v xs) := ⟨hw.out ▸ k h.out⟩
theorem zRv (hw : Aside0 (w = W)) (h : Aside0 (d.R e w1 base ok v xs)) (k : d.R e w1 base ok v xs → d.R e w base ok v xs := by intro h; (with_reducible repeat (first | apply Kd.R_alloc | apply Kd.R_drewN | apply Kd.R_drew)); exact h) : Aside0 (d.R e W base ok v xs) := ⟨hw.out ▸ k h.out⟩
/-- An elder row when something new is made: it lies below. -/
theorem zSo (h : d.S e w base ok v xs) (hb : Below w.heap.size w w2) : Aside0 (d.S e w2 base (fun k => ok k ∧ k < w.heap.size) v xs) := ⟨Kd.S_below (Kd.S_mono (Kd.S_bound h) (fun k hk => ⟨hk.1, hk.2.2.1⟩)) hb⟩
theorem zRo (h : d.R e w base ok v xs) (hb : Below w.heap.size w w2) : Aside0 (d.R e w2 base (fun k => ok k ∧ k < w.heap.size) v xs) := ⟨Kd.R_below (Kd.R_mono (Kd.R_bound h) (fun k hk => ⟨hk.1, hk.2.2.1⟩)) hb⟩
/-- What is new lies above. -/
theorem zSn (h : d.S e w2 W.heap.size ok v xs) (hl : w.heap.size ≤ W.heap.size := by exact below_size (by repeat (first | (with_reducible first | exact HB.out | apply below_alloc | apply pw_below_drewN | apply below_drew1 | refine below_set ?_ (Aside0.out (by assumption))) | exact HB.out))) : Aside0 (d.S e w2 w.heap.size (fun k => W.heap.size ≤ k) v xs) := ⟨Kd.S_lower (Kd.S_mono (Kd.S_bound h) (fun k hk => hk.2.1)) hl⟩
theorem zRn (h : d.R e w2 W.heap.size ok v xs) (hl : w.heap.size ≤ W.heap.size := by exact below_size (by repeat (first | (with_reducible first | exact HB.out | apply below_alloc | apply pw_below_drewN | apply below_drew1 | refine below_set ?_ (Aside0.out (by assumption))) | exact HB.out))) : Aside0 (d.R e w2 w.heap.size (fun k => W.heap.size ≤ k) v xs) := ⟨Kd.R_lower (Kd.R_mono (Kd.R_bound h) (fun k hk => hk.2.1)) hl⟩
theorem zSk (h : Aside0 (d.S e w1 base ok v xs)) (hk : Kept w w2 S) (hn : ∀ k, ok k → ¬ S k) (k : d.S e w1 base ok v xs → d.S e w base ok v xs := by intro h; (with_reducible repeat (first | apply Kd.S_alloc | apply Kd.S_drewN | apply Kd.S_drew)); exact h) : Aside0 (d.S e w2 base ok v xs) := ⟨Kd.S_step (k h.out) (fun k ho hlt => hk.2 k hlt (hn k ho))⟩
theorem zRk (h : Aside0 (d.R e w1 base ok v xs)) (hk : Kept w w2 S) (hn : ∀ k, ok k → ¬ S k) (k : d.R e w1 base ok v xs → d.R e w base ok v xs := by intro h; (with_reducible repeat (first | apply Kd.R_alloc | apply Kd.R_drewN | apply Kd.R_drew)); exact h) : Aside0 (d.R e w2 base ok v xs) := ⟨Kd.R_step (k h.out) (fun k ho hlt => hk.2 k hlt (hn k ho))⟩
theorem zkk (h : Aside0 (w1.heap[g]? = some o)) (hk : Kept w w2 S) (hn : ¬ S g) (k : w1.heap[g]? = some o → w.heap[g]? = some o := by intro h; (with_reducible repeat (first | refine blk_drewN ?_ _ | refine blk_drew ?_ | refine blk_alloc ?_ _)); exact h) : Aside0 (w2.heap[g]? = some o) := ⟨blk_kept (k h.out) hk hn⟩
theorem zlt (h : Aside0 (w1.heap[g]? = some o)) (_hb : Below w.heap.size w w2) (k : w1.heap[g]? = some o → w.heap[g]? = some o := by intro h; (with_reducible repeat (first | refine blk_drewN ?_ _ | refine blk_drew ?_ | refine blk_alloc ?_ _)); exact h) : Aside0 (g < w.heap.size) := ⟨blk_lt (k h.out)⟩
theorem zlf {t : Nat} {cs cs' : Array Value} (h : Aside0 (w1.heap[g]? = some (.cells cs t (0, 0)))) (_hb : Below w.heap.size w w2) (k : w1.heap[g]? = some (.cells cs t (0, 0)) → w.heap[g]? = some (.cells cs' t (0, 0)) := by intro h; (repeat (with_reducible first | apply blk_drewN | apply blk_drew | apply blk_alloc | apply blk_set | (apply zfar; rotate_left; assumption))); exact h) : Aside0 (g < w.heap.size) := ⟨blk_lt (k h.out)⟩
end
/-- A drawing region whose world gets a name first. -/
theorem zsw {P : Program} {Q : Exit → Act → World → Prop} {ops : Array Oper} {T : Bool × List (List Nat × List Nat)} {id : Nat} {a : Act} {w : World} (n : Nat) (tab : rtab .any ops = T)
    (h : ∀ w1, Aside0 (w.drew = w1) → ∃ L, HL w1 L ∧ (HL w1 L → Aside0 (rtab .any ops = T) → wpAnyLast P .any ops Q (fun w' => HL w' L) [] n (bA n 0) a w1))
    (hn : ops.size = n := by rfl) (hl : Array.replicate n false = bA n 0 := by rfl) (hm : P.follows .mixedOrders = true := by kernel_rfl) : (Code.region id ops true).wp P Q a w := by
  obtain ⟨L, h1, h2⟩ := h _ ⟨rfl⟩
  exact zst n tab h1 h2 hn hl hm
theorem zCb {α : Type} {d : Kd α} {n : Nat} {w0 w : World} {A : Option Addr} {xs : List α} (h : Aside0 (d.C w0 A n xs)) (hb : Below w0.heap.size w0 w := by repeat (first | (with_reducible first | exact HB.out | apply below_alloc | apply pw_below_drewN | apply below_drew1 | refine below_set ?_ (Aside0.out (by assumption))) | exact HB.out)) : d.C w A n xs := Kd.C_below h.out hb
end Go.Proofs.YtpcdfjcbjbkliaaGreat.E
