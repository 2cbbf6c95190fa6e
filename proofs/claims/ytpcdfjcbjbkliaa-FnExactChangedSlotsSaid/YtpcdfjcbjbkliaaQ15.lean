import Derived.Test.YtpcdfjcbjbkliaaSq
import Derived.Test.YtpcdfjcbjbkliaaQ0
import Derived.Test.YtpcdfjcbjbkliaaQ14
namespace Go.Proofs.Ytpcdfjcbjbkliaa.E
open Go.RowKit Go.Proofs.YtpcdfjcbjbkliaaW.PrintWords Go.Proofs.YtpcdfjcbjbkliaaW.PrintLast Go.Proofs.YtpcdfjcbjbkliaaW.PrintMore
attribute [local go_sem] max2_int min2_int max_two min_two max_three min_three max_four min_four
set_option linter.unusedVariables false
set_option linter.unusedSimpArgs false

/-! ### laws_toStepS: function 42 -/
def laws_toStepS.l0 : Nat → List (S91) → List (S87) → Int → Option ((List (S87)))
 | 0, _, _, _ => none
 | k + 1, x0, x3, x4 => if x4 < (x0.length : Int) then (if 0 ≤ x4 then ((laws_toStep.f ((rd_T91 x0 x4).f0) ((rd_T91 x0 x4).f1) ((rd_T91 x0 x4).f2) ((rd_T91 x0 x4).f3)).bind fun bt339 => (if x4 < (x3.length : Int) then (laws_toStepS.l0 k x0 (x3.set (x4 : Int).toNat (⟨bt339.1, bt339.2.1, bt339.2.2.1, bt339.2.2.2⟩ : S87)) (wrap64 (x4 + 1))) else (none))) else (none)) else (some x3)
def laws_toStepS.f (k : Nat) (l0 : List (S91)) : Option ((List (S87))) := if 0 ≤ (l0.length : Int) then (if ((l0.length : Int) : Int).toNat ≤ 7036874417766 then (laws_toStepS.l0 k l0 (List.replicate ((l0.length : Int) : Int).toNat z87) 0) else (none)) else (none)
set_option maxHeartbeats 8000000 in
set_option maxRecDepth 100000 in
theorem laws_toStepS.calls (k : Nat) (A0 : Option Addr) (c0 : Nat) (l0 : List (S91)) (r : List (S87)) (w : World) (hr0 : Kd.C k91 w A0 l0.length l0) (hc0 : l0.length ≤ c0) (H : laws_toStepS.f k l0 = some r) :
  Calls Try.prog 42 #[.slice A0 l0.length c0] w fun e w' => ∃ v0_ : Value, e = .returned (v0_) ∧ Kd.R k87 87 w' w.heap.size (fun _ => True) v0_ r ∧ Below w.heap.size w w' := by
 have hu91 := Try.underlying91
 have hu87 := Try.underlying87
 have HR0 := Aside0.mk hr0
 have HC0 := Aside0.mk hc0
 clear hr0 hc0
 have HB := Aside0.mk (Below.refl w.heap.size w)
 unfold laws_toStepS.f at H
 by_cases c2 : 0 ≤ (l0.length : Int)
 ·
  rw [if_pos c2] at H
  have c2b0 := eq_true c2
  have c2b1 : decide (0 ≤ (l0.length : Int)) = true := decide_eq_true c2
  clear c2
  by_cases c3 : ((l0.length : Int) : Int).toNat ≤ 7036874417766
  ·
   rw [if_pos c3] at H
   have c3b0 := eq_true c3
   have c3b1 : decide (((l0.length : Int) : Int).toNat ≤ 7036874417766) = true := decide_eq_true c3
   clear c3
   generalize hy335 : (List.replicate ((l0.length : Int) : Int).toNat z87 : List (S87)) = y335 at H
   have Ny335 := Aside0.mk hy335.symm
   clear hy335
   have H' := Aside0.mk H
   clear H
   go_enter Try.func42, Try.ntmps42
   go_wp2_with (first | ((with_reducible refine gate_dst (N := 7) rfl ?_); refine Kd.R_make k87 _ 87 rfl (N := 7) rfl 46 _ _ rfl (l0.length : Int) rfl rfl Try.underlying46 (.agg #[(.int .i64 0), (.string ⟨#[]⟩), (.int .i64 0), (.int .i64 0)]) 40 info87 rfl (by decide) (by omega) z87 (ok := fun _ => True) (okp := fun _ => True) (k87_mkM _ _ _ z87 ) (fun _ hk => hk) trivial (of_decide_eq_true asm) (Nat.le_trans (Nat.mul_le_mul_right _ (of_decide_eq_true asm : (l0.length : Int).toNat ≤ 7036874417766)) (by omega)) (Below.refl _ _) (Nat.le_refl _) ?_; intro v336 w4 ho5 hb hg_ hnew_; clear hg_ hnew_; (first | rw [← Ny335.out] at ho5 | (simp only [Int.reduceToNat] at ho5; rw [← Ny335.out] at ho5)); have HO337 := zl2 ho5; replace HB := zB hb; clear hb ho5))
   go_loopg [4] k (fun kq v4 w' => ∃ (x3_1 : List (S87)) (x4_1 : Int), v4 = .int .i64 x4_1 ∧ Aside0 (laws_toStepS.l0 kq l0 x3_1 x4_1 = some r) ∧ Aside0 (kq ≤ k) ∧ Aside0 (Kd.R k87 87 w' w.heap.size (fun _ => True) v336 x3_1) ∧ Aside0 (Below w.heap.size w w'))
   case atStart => exact ⟨(y335), (0), rf, H', ⟨Nat.le_refl _⟩, ⟨kr HO337⟩, ⟨bel⟩⟩
   case round =>
    clear H'
    obtain ⟨x3_1, x4_1, rfl, HA, HK1, HO_3, HB⟩ := hrel
    cases gk with
    | zero => exact absurd HA.out (by simp [laws_toStepS.l0])
    | succ k1 =>
     have H := HA.out
     clear HA
     simp only [laws_toStepS.l0] at H
     replace H := zc H
     rcases H with ⟨c6b0, H⟩ | ⟨c6b0, H⟩
     ·
      replace H := zr H
      obtain ⟨c7b0, H⟩ := H
      replace H := Option.bind_eq_some_iff.mp H
      obtain ⟨⟨t339, t340, t341, t342⟩, A80, H⟩ := H
      have A8 := Aside0.mk A80
      clear A80
      replace H := zr H
      obtain ⟨c9b0, H⟩ := H
      generalize hy343 : (x3_1.set (x4_1 : Int).toNat (⟨t339, t340, t341, t342⟩ : S87) : List (S87)) = y343 at H
      have Ny343 := Aside0.mk hy343.symm
      clear hy343
      have H' := Aside0.mk H
      clear H
      obtain ⟨p338, q338, ad338, e338, hx338_0, hx338_1, hx338_2, hx338_3⟩ := zx (at_T91 HR0.out x4_1)
      cases e338
      replace hx338_0 := zh HB hx338_0
      replace hx338_1 := zh HB hx338_1
      replace hx338_2 := zh HB hx338_2
      replace hx338_3 := zh HB hx338_3
      go_wp2_with (first | ((with_reducible refine zd 20 rfl ?_); refine zgl Try.func70 (laws_toStep.calls ((rd_T91 l0 x4_1).f0) ((rd_T91 l0 x4_1).f1) ((rd_T91 l0 x4_1).f2) ((rd_T91 l0 x4_1).f3) t339 t340 t341 t342 _ A8.out) ?_; rintro e w11 ⟨rfl, hb⟩; refine ⟨_, rfl, ?_⟩; replace HO_3 := zR HO_3 hb; replace HB := zB hb; have p10 : 0 ≤ (x4_1 : Int) := of_decide_eq_true asm; have q10 : (x4_1 : Int) < ((x3_1.length : Int) : Int) := of_decide_eq_true asm; obtain ⟨go10, co10, eo10, gb10, gl10, cl10, HG10⟩ := Kd.R_form HO_3.out (by omega); (first | cases eo10 | (injection eo10 with ea_ en_ ec_; (first | subst ea_ | (injection ea_ with ea_; subst ea_)); subst ec_; clear en_)); have GB10 := Aside0.mk gb10; have GG10 := Aside0.mk HG10; clear gb10 gl10 HG10; obtain ⟨ce10, hcl10, hM10, hcc10, hfr10⟩ := Kd.R_elem HO_3.out z87 (x4_1 : Int) p10 q10; obtain rfl := k87_openM hM10; have hx10_0 : w11.cell? ⟨go10, (x4_1 : Int).toNat * 4, none⟩ = some (.int .i64 ((rd_T87 x3_1 x4_1).f0)) := hcc10 0 _ rfl; have hx10_1 : w11.cell? ⟨go10, (x4_1 : Int).toNat * 4 + 1, none⟩ = some (.string ((rd_T87 x3_1 x4_1).f1)) := hcc10 1 _ rfl; have hx10_2 : w11.cell? ⟨go10, (x4_1 : Int).toNat * 4 + 2, none⟩ = some (.int .i64 ((rd_T87 x3_1 x4_1).f2)) := hcc10 2 _ rfl; have hx10_3 : w11.cell? ⟨go10, (x4_1 : Int).toNat * 4 + 3, none⟩ = some (.int .i64 ((rd_T87 x3_1 x4_1).f3)) := hcc10 3 _ rfl; have hf10_0 : w11.frozen? ⟨go10, (x4_1 : Int).toNat * 4, none⟩ = false := hfr10 0; have hf10_1 : w11.frozen? ⟨go10, (x4_1 : Int).toNat * 4 + 1, none⟩ = false := hfr10 1; have hf10_2 : w11.frozen? ⟨go10, (x4_1 : Int).toNat * 4 + 2, none⟩ = false := hfr10 2; have hf10_3 : w11.frozen? ⟨go10, (x4_1 : Int).toNat * 4 + 3, none⟩ = false := hfr10 3; clear hcl10 hcc10 hfr10 hM10; replace p10 := eq_true p10; replace q10 := eq_true q10; have HX12 := Aside0.mk (show Kd.R k87 87 w11 w.heap.size (fun _ => True) (.slice (some ⟨go10, 0, none⟩) x3_1.length co10) x3_1 from (kr HO_3)); obtain ⟨ce12, hcl12, hM12, hcc12, hfr12⟩ := Kd.R_elem HX12.out z87 (x4_1 : Int) (of_decide_eq_true asm) (by have h_ : (x4_1 : Int) < ((x3_1.length : Int) : Int) := of_decide_eq_true asm; first | exact h_ | (have e_ := (Kd.R_reads' HO_3.out).1; omega) | simpa using h_); obtain rfl := k87_openM hM12; have HP12 := Kd.R_seg HX12.out (x4_1 : Int) (of_decide_eq_true asm) (by have h_ : (x4_1 : Int) < ((x3_1.length : Int) : Int) := of_decide_eq_true asm; first | exact h_ | (have e_ := (Kd.R_reads' HO_3.out).1; omega) | simpa using h_) (seg := [.int .i64 t339, .string t340, .int .i64 t341, .int .i64 t342]) (j := 0) hcl12 hcc12 (show 4 ≤ 4 from by decide) (x' := (⟨t339, t340, t341, t342⟩ : S87)) (k87_mkM _ _ _ (⟨t339, t340, t341, t342⟩ : S87) ) (fun _ hk => hk); have hx12_0 := hcc12 0 _ rfl; (try simp only [show (k87).sz = 4 from rfl, Nat.mul_one, Nat.add_zero] at hx12_0); have hf12_0 := hfr12 0; (try simp only [show (k87).sz = 4 from rfl, Nat.mul_one, Nat.add_zero] at hf12_0); have hx12_1 := hcc12 1 _ rfl; (try simp only [show (k87).sz = 4 from rfl, Nat.mul_one, Nat.add_zero] at hx12_1); have hf12_1 := hfr12 1; (try simp only [show (k87).sz = 4 from rfl, Nat.mul_one, Nat.add_zero] at hf12_1); have hx12_2 := hcc12 2 _ rfl; (try simp only [show (k87).sz = 4 from rfl, Nat.mul_one, Nat.add_zero] at hx12_2); have hf12_2 := hfr12 2; (try simp only [show (k87).sz = 4 from rfl, Nat.mul_one, Nat.add_zero] at hf12_2); have hx12_3 := hcc12 3 _ rfl; (try simp only [show (k87).sz = 4 from rfl, Nat.mul_one, Nat.add_zero] at hx12_3); have hf12_3 := hfr12 3; (try simp only [show (k87).sz = 4 from rfl, Nat.mul_one, Nat.add_zero] at hf12_3); clear hcl12 hcc12 hfr12 hM12) | ((with_reducible refine gate_store (t := 87) (p := 21) rfl ?_); refine store_event (t := 87) (p := 21) (v := ?vo_w13) (w1 := ((((w11.setCell ⟨go10, (x4_1 : Int).toNat * 4, none⟩ (.int .i64 t339)).setCell ⟨go10, (x4_1 : Int).toNat * 4 + 1, none⟩ (.string t340)).setCell ⟨go10, (x4_1 : Int).toNat * 4 + 2, none⟩ (.int .i64 t341)).setCell ⟨go10, (x4_1 : Int).toNat * 4 + 3, none⟩ (.int .i64 t342))) ?hg ?ho ?hn ?hr ?_; (case ho => rfl); (case hg => rfl); (case hn => rfl); (case hr => first | (go_simp; done) | (go_simp; rfl)); intro w13 hw; have hg : w11.grownBy w13 (some go10) := (by rw [hw]; exact HP12.2); have hp_ : Kd.R k87 87 w13 w.heap.size (fun _ => True) (.slice (some ⟨go10, 0, none⟩) x3_1.length co10) y343 := (by rw [hw, Ny343.out]; exact HP12.1); clear HP12; replace HO_3 := Aside0.mk hp_; replace HB := Aside0.mk ((by rw [hw]; exact below_set (below_set (below_set (below_set (HB.out) GB10.out) GB10.out) GB10.out) GB10.out : Below w.heap.size w w13)); clear hg hw hp_))
      go_roundg k1
      case measure => have := HK1.out; omega
      case rel => exact ⟨(y343), (wrap64 (x4_1 + 1)), rf, H', ⟨by have := HK1.out; omega⟩, ⟨kr HO_3⟩, ⟨bel⟩⟩
     ·
      obtain rfl := Option.some.inj H
      go_wp2
      go_ret
      exact ⟨_, er, kr HO_3, bel⟩
  ·
   rw [if_neg c3] at H
   exact absurd H (by simp)
 ·
  rw [if_neg c2] at H
  exact absurd H (by simp)

/-! ### laws_toClue: function 17 -/
def laws_toClue.f (k : Nat) (a0_0 : Int) (l0_1 : List (S91)) : Option (Int × (List (S87))) := (laws_toStepS.f k l0_1).bind fun t347 => (some (a0_0, t347))
set_option maxHeartbeats 8000000 in
set_option maxRecDepth 100000 in
theorem laws_toClue.calls (k : Nat) (a0_0 : Int) (A0_1 : Option Addr) (c0_1 : Nat) (l0_1 : List (S91)) (r1 : Int) (r2 : List (S87)) (w : World) (hr0_1 : Kd.C k91 w A0_1 l0_1.length l0_1) (hc0_1 : l0_1.length ≤ c0_1) (H : laws_toClue.f k a0_0 l0_1 = some (r1, r2)) :
  Calls Try.prog 17 #[.agg #[.int .i64 a0_0, .slice A0_1 l0_1.length c0_1]] w fun e w' => ∃ v1_ : Value, e = .returned (.agg #[.int .i64 r1, v1_]) ∧ Kd.R k87 87 w' w.heap.size (fun _ => True) v1_ r2 ∧ Below w.heap.size w w' := by
 have hu42 := Try.underlying42
 have hu48 := Try.underlying48
 have HR0_1 := Aside0.mk hr0_1
 have HC0_1 := Aside0.mk hc0_1
 clear hr0_1 hc0_1
 have HB := Aside0.mk (Below.refl w.heap.size w)
 unfold laws_toClue.f at H
 replace H := zs H
 obtain ⟨t347, A2, H⟩ := H
 simp only [Option.some.injEq, Prod.mk.injEq] at H
 obtain ⟨rfl, rfl⟩ := H
 go_enter Try.func17, Try.ntmps17
 go_wp2_with (first | ((with_reducible refine zd 1 rfl ?_); refine zbx (w := w) #[.int .i64 a0_0, .slice A0_1 l0_1.length c0_1] 42 ?_; intro gb344 hg w3 BK344 hb; have GW344 := zg (w := w) hg; replace HB := zB hb; clear hb hg) | ((with_reducible refine zd 2 rfl ?_); refine zbx (w := w) #[.int .i64 0, .slice none 0 0] 48 ?_; intro gb345 hg w4 BK345 hb; have GW345 := zg (w := w) hg; replace HB := zB hb; have NB344_345 := zn hg BK344; have NB345_344 := zm hg BK344; replace BK344 := zk BK344 hb; clear hb hg) | ((with_reducible refine zd 3 rfl ?_); refine zbx (w := w) #[.int .i64 0, .slice none 0 0] 48 ?_; intro gb346 hg w5 BK346 hb; have GW346 := zg (w := w) hg; replace HB := zB hb; have NB344_346 := zn hg BK344; have NB346_344 := zm hg BK344; replace BK344 := zk BK344 hb; have NB345_346 := zn hg BK345; have NB346_345 := zm hg BK345; replace BK345 := zk BK345 hb; clear hb hg; have hnb6 := NB344_345.out; have hnc6 := NB345_344.out; have hnb7 := NB344_346.out; have hnc7 := NB346_344.out; have ⟨_, _, _, _⟩ := cz2 BK344; have hnb9 := NB346_345.out; have hnc9 := NB345_346.out; have ⟨_, _, _, _⟩ := cz2 BK346) | ((with_reducible refine zd 9 rfl ?_); refine zgl Try.func42 (laws_toStepS.calls k _ _ l0_1 t347 _ (Kd.C_below HR0_1.out bel) HC0_1.out A2.out) ?_; rintro e w11 ⟨v348, rfl, ho0, hb⟩; refine ⟨_, rfl, ?_⟩; have HO349 := zl2 ho0; replace BK344 := zkf BK344 hb; replace BK345 := zkf BK345 hb; replace BK346 := zkf BK346 hb; replace HB := zB hb; obtain ⟨Ao12, co12, eo12⟩ := Kd.R_slice HO349.out; subst eo12; have ⟨_, _, _, _⟩ := cz2 BK346; have ⟨_, _, _, _⟩ := cz2 BK345))
 refine bodyPost_ret (results_cell_row rfl _ _ gb345 48 #[.int .i64 a0_0, .slice Ao12 t347.length co12] (0, 0) _ rfl (by (with_reducible repeat (first | refine blk_drewN ?_ _ | refine blk_drew ?_ | refine blk_alloc ?_ _)); refine blk_put (cs := #[.int .i64 a0_0, .slice none 0 0]) ?_ 1 _ rfl; (with_reducible repeat (first | refine blk_drewN ?_ _ | refine blk_drew ?_ | refine blk_alloc ?_ _)); refine blk_put (cs := #[.int .i64 0, .slice none 0 0]) ?_ 0 _ rfl; (with_reducible repeat (first | refine blk_drewN ?_ _ | refine blk_drew ?_ | refine blk_alloc ?_ _)); refine blk_far ?_ NB345_346.out _; (with_reducible repeat (first | refine blk_drewN ?_ _ | refine blk_drew ?_ | refine blk_alloc ?_ _)); exact BK345.out) Try.underlying48 rfl (by kernel_rfl)) rfl ?_
 exact ⟨_, er, by (with_reducible repeat (first | apply Kd.R_alloc | apply Kd.R_drewN | apply Kd.R_drew)); exact Kd.R_mono (Kd.R_far (p := ⟨gb345, 1, none⟩) (Kd.R_far (p := ⟨gb345, 0, none⟩) (Kd.R_far (p := ⟨gb346, 1, none⟩) (Kd.R_types (Kd.R_types HO349.out BK346.out (by decide)) BK345.out (by decide)) (fun _ hk => hk.1.2) (.slice Ao12 t347.length co12)) (fun _ hk => hk.2) (.int .i64 a0_0)) (fun _ hk => hk.2) (.slice Ao12 t347.length co12)) (fun _ hk => trivial), bel⟩

/-! ### laws_toClueS: function 30 -/
def laws_toClueS.l0 : Nat → List (S42) → List (S48) → Int → Option ((List (S48)))
 | 0, _, _, _ => none
 | k + 1, x0, x3, x4 => if x4 < (x0.length : Int) then (if 0 ≤ x4 then ((laws_toClue.f k ((rd_T42 x0 x4).f0) ((rd_T42 x0 x4).f1)).bind fun bt354 => (if x4 < (x3.length : Int) then (laws_toClueS.l0 k x0 (x3.set (x4 : Int).toNat (⟨bt354.1, bt354.2⟩ : S48)) (wrap64 (x4 + 1))) else (none))) else (none)) else (some x3)
def laws_toClueS.f (k : Nat) (l0 : List (S42)) : Option ((List (S48))) := if 0 ≤ (l0.length : Int) then (if ((l0.length : Int) : Int).toNat ≤ 8796093022208 then (laws_toClueS.l0 k l0 (List.replicate ((l0.length : Int) : Int).toNat z48) 0) else (none)) else (none)
set_option maxHeartbeats 8000000 in
set_option maxRecDepth 100000 in
theorem laws_toClueS.calls (k : Nat) (A0 : Option Addr) (c0 : Nat) (l0 : List (S42)) (r : List (S48)) (w : World) (hr0 : Kd.C k42 w A0 l0.length l0) (hc0 : l0.length ≤ c0) (H : laws_toClueS.f k l0 = some r) :
  Calls Try.prog 30 #[.slice A0 l0.length c0] w fun e w' => ∃ v0_ : Value, e = .returned (v0_) ∧ Kd.S k48 48 w' w.heap.size (fun _ => True) v0_ r ∧ Below w.heap.size w w' := by
 have hu42 := Try.underlying42
 have hu48 := Try.underlying48
 have HR0 := Aside0.mk hr0
 have HC0 := Aside0.mk hc0
 clear hr0 hc0
 have HB := Aside0.mk (Below.refl w.heap.size w)
 unfold laws_toClueS.f at H
 by_cases c2 : 0 ≤ (l0.length : Int)
 ·
  rw [if_pos c2] at H
  have c2b0 := eq_true c2
  have c2b1 : decide (0 ≤ (l0.length : Int)) = true := decide_eq_true c2
  clear c2
  by_cases c3 : ((l0.length : Int) : Int).toNat ≤ 8796093022208
  ·
   rw [if_pos c3] at H
   have c3b0 := eq_true c3
   have c3b1 : decide (((l0.length : Int) : Int).toNat ≤ 8796093022208) = true := decide_eq_true c3
   clear c3
   generalize hy350 : (List.replicate ((l0.length : Int) : Int).toNat z48 : List (S48)) = y350 at H
   have Ny350 := Aside0.mk hy350.symm
   clear hy350
   have H' := Aside0.mk H
   clear H
   go_enter Try.func30, Try.ntmps30
   go_wp2_with (first | ((with_reducible refine gate_dst (N := 7) rfl ?_); refine Kd.S_make k48 _ 48 rfl (N := 7) rfl 31 _ _ rfl (l0.length : Int) rfl rfl Try.underlying31 (.agg #[(.int .i64 0), (.slice none 0 0)]) 32 info48 rfl (by decide) (by omega) z48 (ok := fun _ => True) (okp := fun _ => True) (k48_mkM _ _ _ z48 (Kd.R_nil _ _ _ _ _)) (fun _ hk => hk) trivial (of_decide_eq_true asm) (Nat.le_trans (Nat.mul_le_mul_right _ (of_decide_eq_true asm : (l0.length : Int).toNat ≤ 8796093022208)) (by omega)) (Below.refl _ _) (Nat.le_refl _) ?_; intro v351 w4 ho5 hb hg_ hnew_; clear hg_ hnew_; (first | rw [← Ny350.out] at ho5 | (simp only [Int.reduceToNat] at ho5; rw [← Ny350.out] at ho5)); have HO352 := Aside0.mk (Kd.S_lower ho5 bsz); replace HB := zB hb; clear hb ho5))
   go_loopg [4] k (fun kq v4 w' => ∃ (x3_1 : List (S48)) (x4_1 : Int), v4 = .int .i64 x4_1 ∧ Aside0 (laws_toClueS.l0 kq l0 x3_1 x4_1 = some r) ∧ Aside0 (kq ≤ k) ∧ Aside0 (Kd.S k48 48 w' w.heap.size (fun _ => True) v351 x3_1) ∧ Aside0 (Below w.heap.size w w'))
   case atStart => exact ⟨(y350), (0), rf, H', ⟨Nat.le_refl _⟩, ⟨ks HO352⟩, ⟨bel⟩⟩
   case round =>
    clear H'
    obtain ⟨x3_1, x4_1, rfl, HA, HK1, HO_3, HB⟩ := hrel
    cases gk with
    | zero => exact absurd HA.out (by simp [laws_toClueS.l0])
    | succ k1 =>
     have H := HA.out
     clear HA
     simp only [laws_toClueS.l0] at H
     replace H := zc H
     rcases H with ⟨c6b0, H⟩ | ⟨c6b0, H⟩
     ·
      replace H := zr H
      obtain ⟨c7b0, H⟩ := H
      replace H := Option.bind_eq_some_iff.mp H
      obtain ⟨⟨t354, t355⟩, A80, H⟩ := H
      have A8 := Aside0.mk A80
      clear A80
      replace H := zr H
      obtain ⟨c9b0, H⟩ := H
      generalize hy358 : (x3_1.set (x4_1 : Int).toNat (⟨t354, t355⟩ : S48) : List (S48)) = y358 at H
      have Ny358 := Aside0.mk hy358.symm
      clear hy358
      have H' := Aside0.mk H
      clear H
      obtain ⟨p353, q353, ad353, A353_1, c353_1, e353, hx353_0, hx353_1, hl353_1, hi353_1⟩ := zx (at_T42 HR0.out x4_1)
      cases e353
      replace hx353_0 := zh HB hx353_0
      replace hx353_1 := zh HB hx353_1
      have HR353_1 := Aside0.mk hi353_1
      have HC353_1 := Aside0.mk hl353_1
      clear hi353_1 hl353_1
      go_wp2_with (first | ((with_reducible refine zd 20 rfl ?_); refine zgl Try.func17 (laws_toClue.calls k1 ((rd_T42 l0 x4_1).f0) _ _ ((rd_T42 l0 x4_1).f1) t354 t355 _ (zC HR353_1) HC353_1.out A8.out) ?_; rintro e w11 ⟨v356, rfl, ho0, hb⟩; refine ⟨_, rfl, ?_⟩; replace HO_3 := Aside0.mk (Kd.S_elder' (ks HO_3) (Kd.R_base ho0) hb); have HO357 := zl2 ho0; replace HB := zB hb; have p10 : 0 ≤ (x4_1 : Int) := of_decide_eq_true asm; have q10 : (x4_1 : Int) < ((x3_1.length : Int) : Int) := of_decide_eq_true asm; obtain ⟨go10, co10, eo10, gb10, gl10, cl10, HG10⟩ := Kd.S_form HO_3.out (by omega); (first | cases eo10 | (injection eo10 with ea_ en_ ec_; (first | subst ea_ | (injection ea_ with ea_; subst ea_)); subst ec_; clear en_)); have GB10 := Aside0.mk gb10; have GG10 := Aside0.mk HG10; clear gb10 gl10 HG10; obtain ⟨_, ce10, hcl10, hM10, hcc10, hfr10, _, _⟩ := Kd.S_elem HO_3.out z48 (x4_1 : Int) p10 q10; obtain ⟨ve10_1, rfl, ge10_1⟩ := k48_openM hM10; have hx10_0 : w11.cell? ⟨go10, (x4_1 : Int).toNat * 2, none⟩ = some (.int .i64 ((rd_T48 x3_1 x4_1).f0)) := hcc10 0 _ rfl; have hx10_1 : w11.cell? ⟨go10, (x4_1 : Int).toNat * 2 + 1, none⟩ = some (ve10_1) := hcc10 1 _ rfl; have hf10_0 : w11.frozen? ⟨go10, (x4_1 : Int).toNat * 2, none⟩ = false := hfr10 0; have hf10_1 : w11.frozen? ⟨go10, (x4_1 : Int).toNat * 2 + 1, none⟩ = false := hfr10 1; clear hcl10 hcc10 hfr10 hM10; replace p10 := eq_true p10; replace q10 := eq_true q10; have n_ := Aside0.mk (Kd.S_mono (ok' := (fun k_ => some k_ ≠ (v356 : Value).ownBlock)) HO_3.out (fun k_ hk => hk.2)); clear HO_3; have HO_3 := n_; clear n_; have HX12 := Aside0.mk (show Kd.S k48 48 w11 w.heap.size (fun k_ => ((fun _ => True)) k_ ∧ ¬ ((fun k_ => some k_ = (v356 : Value).ownBlock)) k_) (.slice (some ⟨go10, 0, none⟩) x3_1.length co10) x3_1 from (by (with_reducible repeat (first | apply Kd.S_alloc | apply Kd.S_drewN | apply Kd.S_drew)); exact Kd.S_mono HO_3.out (fun k_ hk => ⟨trivial, fun e_ => hk e_⟩))); obtain ⟨oki12, ce12, hcl12, hM12, hcc12, hfr12, hoki12, hH12⟩ := Kd.S_elem HX12.out z48 (x4_1 : Int) (of_decide_eq_true asm) (by have h_ : (x4_1 : Int) < ((x3_1.length : Int) : Int) := of_decide_eq_true asm; first | exact h_ | (have e_ := (Kd.S_reads' HO_3.out).1; omega) | simpa using h_); obtain ⟨ve12_1, rfl, ge12_1⟩ := k48_openM hM12; have HP12 := Kd.S_seg hH12 (of_decide_eq_true asm) (by have h_ : (x4_1 : Int) < ((x3_1.length : Int) : Int) := of_decide_eq_true asm; first | exact h_ | (have e_ := (Kd.S_reads' HO_3.out).1; omega) | simpa using h_) (seg := [.int .i64 t354, v356]) (j := 0) (show 2 ≤ 2 from by decide) (x' := (⟨t354, t355⟩ : S48)) (k48_mkM _ _ _ (⟨t354, t355⟩ : S48) (Kd.R_mono (Kd.R_tight rfl (Kd.R_mono (ok' := fun k_ => ((fun _ => True)) k_ ∧ k_ ≠ go10) (Kd.R_apart' (HO357.out) (Kd.S_typed HO_3.out) (by decide)) (fun k_ hk => ⟨trivial, fun e_ => (hk.2) (by rw [e_]; rfl)⟩))) (fun _ h_ => Or.inr (h_)))) (fun _ hk => hk) (fun k_ hk_ => ((Kd.R_mono (ok' := fun k_ => ((fun _ => True)) k_ ∧ k_ ≠ go10) (Kd.R_apart' (HO357.out) (Kd.S_typed HO_3.out) (by decide)) (fun k_ hk => ⟨trivial, fun e_ => (hk.2) (by rw [e_]; rfl)⟩))).1 k_ hk_.symm); have hx12_0 := hcc12 0 _ rfl; (try simp only [show (k48).sz = 2 from rfl, Nat.mul_one, Nat.add_zero] at hx12_0); have hf12_0 := hfr12 0; (try simp only [show (k48).sz = 2 from rfl, Nat.mul_one, Nat.add_zero] at hf12_0); have hx12_1 := hcc12 1 _ rfl; (try simp only [show (k48).sz = 2 from rfl, Nat.mul_one, Nat.add_zero] at hx12_1); have hf12_1 := hfr12 1; (try simp only [show (k48).sz = 2 from rfl, Nat.mul_one, Nat.add_zero] at hf12_1); obtain ⟨aov356_, cov356_, eov356_⟩ := Kd.R_slice HO357.out; clear hcl12 hcc12 hfr12 hM12 hoki12 hH12) | ((with_reducible refine gate_store (t := 48) (p := 21) rfl ?_); refine store_event (t := 48) (p := 21) (v := ?vo_w13) (w1 := ((w11.setCell ⟨go10, (x4_1 : Int).toNat * 2, none⟩ (.int .i64 t354)).setCell ⟨go10, (x4_1 : Int).toNat * 2 + 1, none⟩ (v356))) ?hg ?ho ?hn ?hr ?_; (case ho => rfl); (case hg => rfl); (case hn => rfl); (case hr => first | (go_simp; done) | (go_simp; rfl)); intro w13 hw; have hg : w11.grownBy w13 (some go10) := (by rw [hw]; exact HP12.2); have hp_ : Kd.S k48 48 w13 w.heap.size (fun _ => True) (.slice (some ⟨go10, 0, none⟩) x3_1.length co10) y358 := (by rw [hw, Ny358.out]; exact HP12.1); clear HP12; replace HO_3 := Aside0.mk hp_; replace HB := Aside0.mk ((by rw [hw]; exact below_set (below_set (HB.out) GB10.out) GB10.out : Below w.heap.size w w13)); clear HO357; clear hg hw hp_))
      go_roundg k1
      case measure => have := HK1.out; omega
      case rel => exact ⟨(y358), (wrap64 (x4_1 + 1)), rf, H', ⟨by have := HK1.out; omega⟩, ⟨ks HO_3⟩, ⟨bel⟩⟩
     ·
      obtain rfl := Option.some.inj H
      go_wp2
      go_ret
      exact ⟨_, er, ks HO_3, bel⟩
  ·
   rw [if_neg c3] at H
   exact absurd H (by simp)
 ·
  rw [if_neg c2] at H
  exact absurd H (by simp)

/-! ### laws_toDraft: function 8 -/
def laws_toDraft.f (k : Nat) (a0_0 : Int) (a0_1 : Int) (a0_2 : ByteArray) (a0_3 : ByteArray) (l0_4 : List (S42)) (a0_5 : Int) : Option (Int × Int × ByteArray × ByteArray × (List (S48)) × Int) := (laws_toGrid.f a0_0 a0_1 a0_2).bind fun bt362 => ((laws_toClueS.f k l0_4).bind fun t365 => (some (bt362.1, bt362.2.1, bt362.2.2, a0_3, t365, a0_5)))
set_option maxHeartbeats 8000000 in
set_option maxRecDepth 100000 in
theorem laws_toDraft.calls (k : Nat) (a0_0 : Int) (a0_1 : Int) (a0_2 : ByteArray) (a0_3 : ByteArray) (A0_4 : Option Addr) (c0_4 : Nat) (l0_4 : List (S42)) (a0_5 : Int) (r1 : Int) (r2 : Int) (r3 : ByteArray) (r4 : ByteArray) (r5 : List (S48)) (r6 : Int) (w : World) (hr0_4 : Kd.C k42 w A0_4 l0_4.length l0_4) (hc0_4 : l0_4.length ≤ c0_4) (H : laws_toDraft.f k a0_0 a0_1 a0_2 a0_3 l0_4 a0_5 = some (r1, r2, r3, r4, r5, r6)) :
  Calls Try.prog 8 #[.agg #[.int .i64 a0_0, .int .i64 a0_1, .string a0_2, .string a0_3, .slice A0_4 l0_4.length c0_4, .int .i64 a0_5]] w fun e w' => ∃ v4_ : Value, e = .returned (.agg #[.int .i64 r1, .int .i64 r2, .string r3, .string r4, v4_, .int .i64 r6]) ∧ Kd.S k48 48 w' w.heap.size (fun _ => True) v4_ r5 ∧ Below w.heap.size w w' := by
 have hu26 := Try.underlying26
 have hu33 := Try.underlying33
 have hu23 := Try.underlying23
 have hu30 := Try.underlying30
 have HR0_4 := Aside0.mk hr0_4
 have HC0_4 := Aside0.mk hc0_4
 clear hr0_4 hc0_4
 have HB := Aside0.mk (Below.refl w.heap.size w)
 unfold laws_toDraft.f at H
 replace H := Option.bind_eq_some_iff.mp H
 obtain ⟨⟨t362, t363, t364⟩, A20, H⟩ := H
 replace H : ((laws_toClueS.f k l0_4).bind fun t365 => (some (t362, t363, t364, a0_3, t365, a0_5))) = some (r1, r2, r3, r4, r5, r6) := H
 have A2 := Aside0.mk A20
 clear A20
 replace H := zs H
 obtain ⟨t365, A3, H⟩ := H
 simp only [Option.some.injEq, Prod.mk.injEq] at H
 obtain ⟨rfl, rfl, rfl, rfl, rfl, rfl⟩ := H
 go_enter Try.func8, Try.ntmps8
 go_wp2_with (first | ((with_reducible refine zd 1 rfl ?_); refine zbx (w := w) #[.int .i64 a0_0, .int .i64 a0_1, .string a0_2, .string a0_3, .slice A0_4 l0_4.length c0_4, .int .i64 a0_5] 26 ?_; intro gb359 hg w4 BK359 hb; have GW359 := zg (w := w) hg; replace HB := zB hb; clear hb hg) | ((with_reducible refine zd 2 rfl ?_); refine zbx (w := w) #[.int .i64 0, .int .i64 0, .string (⟨#[]⟩ : ByteArray), .string (⟨#[]⟩ : ByteArray), .slice none 0 0, .int .i64 0] 33 ?_; intro gb360 hg w5 BK360 hb; have GW360 := zg (w := w) hg; replace HB := zB hb; have NB359_360 := zn hg BK359; have NB360_359 := zm hg BK359; replace BK359 := zk BK359 hb; clear hb hg) | ((with_reducible refine zd 3 rfl ?_); refine zbx (w := w) #[.int .i64 0, .int .i64 0, .string (⟨#[]⟩ : ByteArray), .string (⟨#[]⟩ : ByteArray), .slice none 0 0, .int .i64 0] 33 ?_; intro gb361 hg w6 BK361 hb; have GW361 := zg (w := w) hg; replace HB := zB hb; have NB359_361 := zn hg BK359; have NB361_359 := zm hg BK359; replace BK359 := zk BK359 hb; have NB360_361 := zn hg BK360; have NB361_360 := zm hg BK360; replace BK360 := zk BK360 hb; clear hb hg; have hnb7 := NB359_360.out; have hnc7 := NB360_359.out; have hnb8 := NB359_361.out; have hnc8 := NB361_359.out; have ⟨_, _, _, _, _, _, _, _, _, _, _, _⟩ := cz6 BK359) | ((with_reducible refine zd 6 rfl ?_); refine zgl Try.func29 (laws_toGrid.calls a0_0 a0_1 a0_2 t362 t363 t364 _ A2.out) ?_; rintro e w10 ⟨rfl, hb⟩; refine ⟨_, rfl, ?_⟩; replace BK359 := zk BK359 hb; replace BK360 := zk BK360 hb; replace BK361 := zk BK361 hb; replace HB := zB hb; have hnb11 := NB361_360.out; have hnc11 := NB360_361.out; have ⟨_, _, _, _, _, _, _, _, _, _, _, _⟩ := cz6 BK361; have ⟨_, _, _, _, _, _, _, _, _, _, _, _⟩ := cz6 BK359) | ((with_reducible refine zd 13 rfl ?_); refine zgl Try.func30 (laws_toClueS.calls k _ _ l0_4 t365 _ (Kd.C_below HR0_4.out bel) HC0_4.out A3.out) ?_; rintro e w14 ⟨v366, rfl, ho0, hb⟩; refine ⟨_, rfl, ?_⟩; have HO367 := Aside0.mk (Kd.S_lower ho0 bsz); replace BK359 := zkf BK359 hb; replace BK360 := zkf BK360 hb; replace BK361 := zkf BK361 hb; replace HB := zB hb; obtain ⟨Ao15, co15, eo15⟩ := Kd.S_slice HO367.out; subst eo15; have ⟨_, _, _, _, _, _, _, _, _, _, _, _⟩ := cz6 BK361; have ⟨_, _, _, _, _, _, _, _, _, _, _, _⟩ := cz6 BK359; have ⟨_, _, _, _, _, _, _, _, _, _, _, _⟩ := cz6 BK360))
 refine bodyPost_ret (results_cell_row rfl _ _ gb360 33 #[.int .i64 t362, .int .i64 t363, .string t364, .string a0_3, .slice Ao15 t365.length co15, .int .i64 a0_5] (0, 0) _ rfl (by (with_reducible repeat (first | refine blk_drewN ?_ _ | refine blk_drew ?_ | refine blk_alloc ?_ _)); refine blk_put (cs := #[.int .i64 t362, .int .i64 t363, .string t364, .string a0_3, .slice Ao15 t365.length co15, .int .i64 0]) ?_ 5 _ rfl; (with_reducible repeat (first | refine blk_drewN ?_ _ | refine blk_drew ?_ | refine blk_alloc ?_ _)); refine blk_put (cs := #[.int .i64 t362, .int .i64 t363, .string t364, .string a0_3, .slice none 0 0, .int .i64 0]) ?_ 4 _ rfl; (with_reducible repeat (first | refine blk_drewN ?_ _ | refine blk_drew ?_ | refine blk_alloc ?_ _)); refine blk_put (cs := #[.int .i64 t362, .int .i64 t363, .string t364, .string (⟨#[]⟩ : ByteArray), .slice none 0 0, .int .i64 0]) ?_ 3 _ rfl; (with_reducible repeat (first | refine blk_drewN ?_ _ | refine blk_drew ?_ | refine blk_alloc ?_ _)); refine blk_put (cs := #[.int .i64 t362, .int .i64 t363, .string (⟨#[]⟩ : ByteArray), .string (⟨#[]⟩ : ByteArray), .slice none 0 0, .int .i64 0]) ?_ 2 _ rfl; (with_reducible repeat (first | refine blk_drewN ?_ _ | refine blk_drew ?_ | refine blk_alloc ?_ _)); refine blk_put (cs := #[.int .i64 t362, .int .i64 0, .string (⟨#[]⟩ : ByteArray), .string (⟨#[]⟩ : ByteArray), .slice none 0 0, .int .i64 0]) ?_ 1 _ rfl; (with_reducible repeat (first | refine blk_drewN ?_ _ | refine blk_drew ?_ | refine blk_alloc ?_ _)); refine blk_put (cs := #[.int .i64 0, .int .i64 0, .string (⟨#[]⟩ : ByteArray), .string (⟨#[]⟩ : ByteArray), .slice none 0 0, .int .i64 0]) ?_ 0 _ rfl; (with_reducible repeat (first | refine blk_drewN ?_ _ | refine blk_drew ?_ | refine blk_alloc ?_ _)); refine blk_far ?_ NB360_361.out _; (with_reducible repeat (first | refine blk_drewN ?_ _ | refine blk_drew ?_ | refine blk_alloc ?_ _)); refine blk_far ?_ NB360_361.out _; (with_reducible repeat (first | refine blk_drewN ?_ _ | refine blk_drew ?_ | refine blk_alloc ?_ _)); exact BK360.out) Try.underlying33 rfl (by kernel_rfl)) rfl ?_
 exact ⟨_, er, by (with_reducible repeat (first | apply Kd.S_alloc | apply Kd.S_drewN | apply Kd.S_drew)); exact Kd.S_mono (Kd.S_far (p := ⟨gb360, 5, none⟩) (Kd.S_far (p := ⟨gb360, 4, none⟩) (Kd.S_far (p := ⟨gb360, 3, none⟩) (Kd.S_far (p := ⟨gb360, 2, none⟩) (Kd.S_far (p := ⟨gb360, 1, none⟩) (Kd.S_far (p := ⟨gb360, 0, none⟩) (Kd.S_far (p := ⟨gb361, 5, none⟩) (Kd.S_far (p := ⟨gb361, 4, none⟩) (Kd.S_types (Kd.S_types HO367.out BK361.out (by decide)) BK360.out (by decide)) (fun _ hk => hk.1.2) (.slice Ao15 t365.length co15)) (fun _ hk => hk.1.2) (.int .i64 a0_5)) (fun _ hk => hk.2) (.int .i64 t362)) (fun _ hk => hk.2) (.int .i64 t363)) (fun _ hk => hk.2) (.string t364)) (fun _ hk => hk.2) (.string a0_3)) (fun _ hk => hk.2) (.slice Ao15 t365.length co15)) (fun _ hk => hk.2) (.int .i64 a0_5)) (fun _ hk => trivial), bel⟩

/-! ### impl_InRange: function 62 -/
def impl_InRange.f (a0 : Int) (a1 : Int) (a2 : Int) : Option (Bool) := if a1 ≤ a0 then (some (decide (a0 ≤ a2))) else (some false)
set_option maxHeartbeats 8000000 in
set_option maxRecDepth 100000 in
theorem impl_InRange.calls (a0 : Int) (a1 : Int) (a2 : Int) (r : Bool) (w : World) (H : impl_InRange.f a0 a1 a2 = some r) :
  Calls Try.prog 62 #[.int .i64 a0, .int .i64 a1, .int .i64 a2] w fun e w' => e = .returned (.bool r) ∧ Drawn0 w w' := by
 unfold impl_InRange.f at H
 replace H := zc H
 rcases H with ⟨c4b0, H⟩ | ⟨c4b0, H⟩
 rotate_left
 focus
  obtain rfl := Option.some.inj H
 rotate_right
 focus
  obtain rfl := Option.some.inj H
 all_goals
  go_enter Try.func62, Try.ntmps62
  go_wp2
  go_ret
  exact ⟨by first | rfl | (simp; done) | (simp [*]; done), by repeat (first | exact Drawn0.refl _ | apply Drawn0.step)⟩

/-! ### impl_IsGrid: function 85 -/
mutual
def impl_IsGrid.j0 : Nat → Bool → Int → Int → ByteArray → Option (Bool)
 | 0, _, _, _, _ => none
 | k + 1, x24, x369000, x369001, x369002 => if x24 = true then (some false) else (impl_IsGrid.l0 k (x369002.size : Int) 0 x369000 x369001 x369002)
def impl_IsGrid.l0 : Nat → Int → Int → Int → Int → ByteArray → Option (Bool)
 | 0, _, _, _, _, _ => none
 | k + 1, x27, x28, x369000, x369001, x369002 => if x28 < x27 then (if 0 ≤ x28 then (if x28 < (x369002.size : Int) then (if (bt x369002 x28) = 35 then (impl_IsGrid.l0 k x27 (wrap64 (x28 + 1)) x369000 x369001 x369002) else (if (bt x369002 x28) = 46 then (impl_IsGrid.l0 k x27 (wrap64 (x28 + 1)) x369000 x369001 x369002) else (some false))) else (none)) else (none)) else (some true)
end
def impl_IsGrid.f (k : Nat) (a0_0 : Int) (a0_1 : Int) (a0_2 : ByteArray) : Option (Bool) := (impl_InRange.f a0_0 2 6).bind fun t369 => (if t369 = true then ((impl_InRange.f a0_1 2 6).bind fun t370 => (if t370 = true then (impl_IsGrid.j0 k ((a0_2.size : Int) != (wrap64 (a0_0 * a0_1))) a0_0 a0_1 a0_2) else (impl_IsGrid.j0 k true a0_0 a0_1 a0_2))) else (impl_IsGrid.j0 k true a0_0 a0_1 a0_2))
set_option maxHeartbeats 8000000 in
set_option maxRecDepth 100000 in
theorem impl_IsGrid.calls (k : Nat) (a0_0 : Int) (a0_1 : Int) (a0_2 : ByteArray) (r : Bool) (w : World) (H : impl_IsGrid.f k a0_0 a0_1 a0_2 = some r) :
  Calls Try.prog 85 #[.agg #[.int .i64 a0_0, .int .i64 a0_1, .string a0_2]] w fun e w' => e = .returned (.bool r) ∧ Below w.heap.size w w' := by
 have hu30 := Try.underlying30
 have HB := Aside0.mk (Below.refl w.heap.size w)
 unfold impl_IsGrid.f at H
 have HC2 := Aside0.mk H
 clear H
 go_enter Try.func85, Try.ntmps85
 go_upto_region 1 with (first | ((with_reducible refine zd 1 rfl ?_); (try (refine gate_guard (by rfl) ?_; dsimp only)); refine zbx (w := w) #[.int .i64 a0_0, .int .i64 a0_1, .string a0_2] 30 ?_; intro gb368 hg w3 BK368 hb; have GW368 := zg (w := w) hg; replace HB := zB hb; clear hb hg))
 (try simp only [Act.put, List.setIfInBounds_toArray, List.set_cons_zero, List.set_cons_succ])
 go_cut [24] (fun v24 wc => ∃ (kq : Nat) (x24_1 : Bool), v24 = .bool x24_1 ∧ Aside0 (impl_IsGrid.j0 kq x24_1 a0_0 a0_1 a0_2 = some r) ∧ Aside0 (kq ≤ k) ∧ Aside0 (wc.heap[gb368]? = some (.cells #[.int .i64 a0_0, .int .i64 a0_1, .string a0_2] 30 (0, 0))) ∧ Aside0 (Below w.heap.size w wc))
 case first =>
  have H := HC2.out
  clear HC2
  replace H := zs H
  obtain ⟨t369, A4, H⟩ := H
  replace H := zb H
  rcases H with ⟨rfl, H⟩ | ⟨rfl, H⟩
  ·
   replace H := zs H
   obtain ⟨t370, A6, H⟩ := H
   replace H := zb H
   rcases H with ⟨rfl, H⟩ | ⟨rfl, H⟩
   ·
    have H' := Aside0.mk H
    clear H
    have ⟨_, _, _, _, _, _⟩ := cz3 BK368
    go_wp2_with (first | ((with_reducible refine zd 6 rfl ?_); refine zgl Try.func62 (impl_InRange.calls a0_0 2 6 true _ A4.out) ?_; rintro e w' ⟨rfl, ⟨nd, rfl⟩⟩; refine ⟨_, rfl, ?_⟩) | (go_at_call 62; (with_reducible refine (impl_InRange.calls a0_1 2 6 true _ A6.out).mono ?_); rintro e w' ⟨rfl, ⟨nd, rfl⟩⟩))
    go_meet
    case rel => exact ⟨_, (((a0_2.size : Int) != (wrap64 (a0_0 * a0_1)))), rf, H', ⟨by first | omega | exact Nat.le_refl _⟩, ⟨bk BK368⟩, ⟨bel⟩⟩
   ·
    have H' := Aside0.mk H
    clear H
    have ⟨_, _, _, _, _, _⟩ := cz3 BK368
    go_wp2_with (first | ((with_reducible refine zd 6 rfl ?_); refine zgl Try.func62 (impl_InRange.calls a0_0 2 6 true _ A4.out) ?_; rintro e w' ⟨rfl, ⟨nd, rfl⟩⟩; refine ⟨_, rfl, ?_⟩) | (go_at_call 62; (with_reducible refine (impl_InRange.calls a0_1 2 6 false _ A6.out).mono ?_); rintro e w' ⟨rfl, ⟨nd, rfl⟩⟩))
    go_meet
    case rel => exact ⟨_, (true), rf, H', ⟨by first | omega | exact Nat.le_refl _⟩, ⟨bk BK368⟩, ⟨bel⟩⟩
  ·
   have H' := Aside0.mk H
   clear H
   have ⟨_, _, _, _, _, _⟩ := cz3 BK368
   go_wp2_with (first | ((with_reducible refine zd 6 rfl ?_); refine zgl Try.func62 (impl_InRange.calls a0_0 2 6 false _ A4.out) ?_; rintro e w' ⟨rfl, ⟨nd, rfl⟩⟩; refine ⟨_, rfl, ?_⟩))
   go_meet
   case rel => exact ⟨_, (true), rf, H', ⟨by first | omega | exact Nat.le_refl _⟩, ⟨bk BK368⟩, ⟨bel⟩⟩
 case rest =>
  clear HC2
  obtain ⟨kq, x24_1, rfl, HA, HJ1, BK368, HB⟩ := hcut
  cases kq with
  | zero => exact absurd HA.out (by simp [impl_IsGrid.j0])
  | succ kj1 =>
   have H := HA.out
   clear HA
   simp only [impl_IsGrid.j0] at H
   replace H := zb H
   rcases H with ⟨rfl, H⟩ | ⟨rfl, H⟩
   ·
    obtain rfl := Option.some.inj H
    go_wp2
    go_ret
    exact ⟨er, bel⟩
   ·
    have H' := Aside0.mk H
    clear H
    have ⟨_, _, _, _, _, _⟩ := cz3 BK368
    go_wp2
    go_loopg [28] kj1 (fun kq v28 w' => ∃ (x28_2 : Int), v28 = .int .i64 x28_2 ∧ Aside0 (impl_IsGrid.l0 kq (a0_2.size : Int) x28_2 a0_0 a0_1 a0_2 = some r) ∧ Aside0 (kq ≤ kj1) ∧ Aside0 (w'.heap[gb368]? = some (.cells #[.int .i64 a0_0, .int .i64 a0_1, .string a0_2] 30 (0, 0))) ∧ Aside0 (Below w.heap.size w w'))
    case atStart => exact ⟨(0), rf, H', ⟨Nat.le_refl _⟩, ⟨bk BK368⟩, ⟨bel⟩⟩
    case round =>
     clear H'
     obtain ⟨x28_2, rfl, HA, HK2, BK368, HB⟩ := hrel
     cases gk with
     | zero => exact absurd HA.out (by simp [impl_IsGrid.l0])
     | succ k2 =>
      have H := HA.out
      clear HA
      simp only [impl_IsGrid.l0] at H
      replace H := zc H
      rcases H with ⟨c13b0, H⟩ | ⟨c13b0, H⟩
      ·
       replace H := zr H
       obtain ⟨c14b0, H⟩ := H
       replace H := zr H
       obtain ⟨c15b0, H⟩ := H
       by_cases c17 : (bt a0_2 x28_2) = 35
       ·
        rw [if_pos c17] at H
        have c17b0 : ((bt a0_2 x28_2) == 35) = true := beq_iff_eq.mpr c17
        have c17b1 : ((bt a0_2 x28_2) != 35) = false := bne_eq_false_iff_eq.mpr c17
        clear c17
        have H' := Aside0.mk H
        clear H
        have ⟨_, _, _, _, _, _⟩ := cz3 BK368
        have p16 : 0 ≤ (x28_2 : Int) := of_decide_eq_true asm
        have q16 : x28_2 < (a0_2.size : Int) := of_decide_eq_true asm
        have hx16 := bt_at a0_2 x28_2
        replace p16 := eq_true p16
        replace q16 := eq_true q16
        go_wp2
        go_roundg k2
        case measure => have := HJ1.out; have := HK2.out; omega
        case rel => exact ⟨(wrap64 (x28_2 + 1)), rf, H', ⟨by have := HJ1.out; have := HK2.out; omega⟩, ⟨bk BK368⟩, ⟨bel⟩⟩
       ·
        rw [if_neg c17] at H
        have c17b0 : ((bt a0_2 x28_2) == 35) = false := beq_eq_false_iff_ne.mpr c17
        have c17b1 : ((bt a0_2 x28_2) != 35) = true := bne_iff_ne.mpr c17
        by_cases c20 : (bt a0_2 x28_2) = 46
        ·
         rw [if_pos c20] at H
         have c20b0 : ((bt a0_2 x28_2) == 46) = true := beq_iff_eq.mpr c20
         have c20b1 : ((bt a0_2 x28_2) != 46) = false := bne_eq_false_iff_eq.mpr c20
         clear c20
         have H' := Aside0.mk H
         clear H
         have ⟨_, _, _, _, _, _⟩ := cz3 BK368
         have p16 : 0 ≤ (x28_2 : Int) := of_decide_eq_true asm
         have q16 : x28_2 < (a0_2.size : Int) := of_decide_eq_true asm
         have hx16 := bt_at a0_2 x28_2
         replace p16 := eq_true p16
         replace q16 := eq_true q16
         have p19 : 0 ≤ (x28_2 : Int) := of_decide_eq_true asm
         have q19 : x28_2 < (a0_2.size : Int) := of_decide_eq_true asm
         have hx19 := bt_at a0_2 x28_2
         replace p19 := eq_true p19
         replace q19 := eq_true q19
         go_wp2
         go_roundg k2
         case measure => have := HJ1.out; have := HK2.out; omega
         case rel => exact ⟨(wrap64 (x28_2 + 1)), rf, H', ⟨by have := HJ1.out; have := HK2.out; omega⟩, ⟨bk BK368⟩, ⟨bel⟩⟩
        ·
         rw [if_neg c20] at H
         have c20b0 : ((bt a0_2 x28_2) == 46) = false := beq_eq_false_iff_ne.mpr c20
         have c20b1 : ((bt a0_2 x28_2) != 46) = true := bne_iff_ne.mpr c20
         obtain rfl := Option.some.inj H
         have ⟨_, _, _, _, _, _⟩ := cz3 BK368
         have p16 : 0 ≤ (x28_2 : Int) := of_decide_eq_true asm
         have q16 : x28_2 < (a0_2.size : Int) := of_decide_eq_true asm
         have hx16 := bt_at a0_2 x28_2
         replace p16 := eq_true p16
         replace q16 := eq_true q16
         have p19 : 0 ≤ (x28_2 : Int) := of_decide_eq_true asm
         have q19 : x28_2 < (a0_2.size : Int) := of_decide_eq_true asm
         have hx19 := bt_at a0_2 x28_2
         replace p19 := eq_true p19
         replace q19 := eq_true q19
         go_wp2
         go_ret
         exact ⟨er, bel⟩
      ·
       obtain rfl := Option.some.inj H
       go_wp2
       go_ret
       exact ⟨er, bel⟩

/-! ### impl_run: function 90 -/
mutual
def impl_run.j0 : Nat → Int → Int → Int → Int → Int → Int → ByteArray → Option (Int)
 | 0, _, _, _, _, _, _, _ => none
 | k + 1, x1, x7, x8, x9, x372000, x372001, x372002 => if 0 ≤ x1 then (if x1 < (x372002.size : Int) then (if (bt x372002 x1) = 46 then (if x8 > 0 then (if 0 ≤ (wrap64 (x1 - x7)) then (if (wrap64 (x1 - x7)) < (x372002.size : Int) then (impl_run.j1 k x1 x7 x8 x9 ((bt x372002 (wrap64 (x1 - x7))) == 46) x372000 x372001 x372002) else (none)) else (none)) else (impl_run.j1 k x1 x7 x8 x9 false x372000 x372001 x372002)) else (impl_run.j1 k x1 x7 x8 x9 true x372000 x372001 x372002)) else (none)) else (none)
def impl_run.j1 : Nat → Int → Int → Int → Int → Bool → Int → Int → ByteArray → Option (Int)
 | 0, _, _, _, _, _, _, _, _ => none
 | k + 1, x1, x7, x8, x9, x43, x372000, x372001, x372002 => if x43 = true then (some 0) else (impl_run.l0 k x1 x7 x8 x9 0 x372000 x372001 x372002)
def impl_run.l0 : Nat → Int → Int → Int → Int → Int → Int → Int → ByteArray → Option (Int)
 | 0, _, _, _, _, _, _, _, _ => none
 | k + 1, x1, x7, x8, x9, x10, x372000, x372001, x372002 => if (wrap64 (x8 + x10)) < x9 then (if 0 ≤ (wrap64 (x1 + (wrap64 (x10 * x7)))) then (if (wrap64 (x1 + (wrap64 (x10 * x7)))) < (x372002.size : Int) then (if (bt x372002 (wrap64 (x1 + (wrap64 (x10 * x7))))) = 46 then (impl_run.l0 k x1 x7 x8 x9 (wrap64 (x10 + 1)) x372000 x372001 x372002) else (some x10)) else (none)) else (none)) else (some x10)
end
def impl_run.f (k : Nat) (a0_0 : Int) (a0_1 : Int) (a0_2 : ByteArray) (a1 : Int) (a2 : Bool) : Option (Int) := if a0_1 = 0 then (none) else (if a2 = true then (impl_run.j0 k a1 a0_1 (wrap64 (Int.tdiv a1 a0_1)) a0_0 a0_0 a0_1 a0_2) else (impl_run.j0 k a1 1 (Int.tmod a1 a0_1) a0_1 a0_0 a0_1 a0_2))
set_option maxHeartbeats 8000000 in
set_option maxRecDepth 100000 in
theorem impl_run.calls (k : Nat) (a0_0 : Int) (a0_1 : Int) (a0_2 : ByteArray) (a1 : Int) (a2 : Bool) (r : Int) (w : World) (H : impl_run.f k a0_0 a0_1 a0_2 a1 a2 = some r) :
  Calls Try.prog 90 #[.agg #[.int .i64 a0_0, .int .i64 a0_1, .string a0_2], .int .i64 a1, .bool a2] w fun e w' => e = .returned (.int .i64 r) ∧ Below w.heap.size w w' := by
 have hu30 := Try.underlying30
 have HB := Aside0.mk (Below.refl w.heap.size w)
 unfold impl_run.f at H
 by_cases c4 : a0_1 = 0
 ·
  rw [if_pos c4] at H
  exact absurd H (by simp)
 ·
  rw [if_neg c4] at H
  have c4b0 : (a0_1 == 0) = false := beq_eq_false_iff_ne.mpr c4
  have c4b1 : (a0_1 != 0) = true := bne_iff_ne.mpr c4
  have HC5 := Aside0.mk H
  clear H
  go_enter Try.func90, Try.ntmps90
  go_upto_if 17 with (first | ((with_reducible refine zd 3 rfl ?_); refine zbx (w := w) #[.int .i64 a0_0, .int .i64 a0_1, .string a0_2] 30 ?_; intro gb371 hg w6 BK371 hb; have GW371 := zg (w := w) hg; replace HB := zB hb; clear hb hg; have ⟨_, _, _, _, _, _⟩ := cz3 BK371))
  repeat (go_quiet (first | ((with_reducible refine zd 3 rfl ?_); refine zbx (w := w) #[.int .i64 a0_0, .int .i64 a0_1, .string a0_2] 30 ?_; intro gb371 hg w6 BK371 hb; have GW371 := zg (w := w) hg; replace HB := zB hb; clear hb hg; have ⟨_, _, _, _, _, _⟩ := cz3 BK371)); go_upto_if 17 with (first | ((with_reducible refine zd 3 rfl ?_); refine zbx (w := w) #[.int .i64 a0_0, .int .i64 a0_1, .string a0_2] 30 ?_; intro gb371 hg w6 BK371 hb; have GW371 := zg (w := w) hg; replace HB := zB hb; clear hb hg; have ⟨_, _, _, _, _, _⟩ := cz3 BK371)))
  (try simp only [Act.put, List.setIfInBounds_toArray, List.set_cons_zero, List.set_cons_succ])
  go_cut [7, 8, 9] (fun v7 v8 v9 wc => ∃ (kq : Nat) (x7_4 : Int) (x8_4 : Int) (x9_4 : Int), v7 = .int .i64 x7_4 ∧ v8 = .int .i64 x8_4 ∧ v9 = .int .i64 x9_4 ∧ Aside0 (impl_run.j0 kq a1 x7_4 x8_4 x9_4 a0_0 a0_1 a0_2 = some r) ∧ Aside0 (kq ≤ k) ∧ Aside0 (wc.heap[gb371]? = some (.cells #[.int .i64 a0_0, .int .i64 a0_1, .string a0_2] 30 (0, 0))) ∧ Aside0 (Below w.heap.size w wc))
  case first =>
   have H := HC5.out
   clear HC5
   replace H := zb H
   rcases H with ⟨rfl, H⟩ | ⟨rfl, H⟩
   ·
    have H' := Aside0.mk H
    clear H
    have ⟨_, _, _, _, _, _⟩ := cz3 BK371
    go_wp2
    repeat (go_quiet (fail); try go_wp2)
    go_meet
    case rel => exact ⟨_, (a0_1), (wrap64 (Int.tdiv a1 a0_1)), (a0_0), rf, rf, rf, H', ⟨by first | omega | exact Nat.le_refl _⟩, ⟨bk BK371⟩, ⟨bel⟩⟩
   ·
    have H' := Aside0.mk H
    clear H
    go_wp2
    repeat (go_quiet (fail); try go_wp2)
    go_meet
    case rel => exact ⟨_, (1), (Int.tmod a1 a0_1), (a0_1), rf, rf, rf, H', ⟨by first | omega | exact Nat.le_refl _⟩, ⟨bk BK371⟩, ⟨bel⟩⟩
  case rest =>
   clear HC5
   obtain ⟨kq, x7_4, x8_4, x9_4, rfl, rfl, rfl, HA, HJ4, BK371, HB⟩ := hcut
   cases kq with
   | zero => exact absurd HA.out (by simp [impl_run.j0])
   | succ kj4 =>
    have H := HA.out
    clear HA
    simp only [impl_run.j0] at H
    have HC10 := Aside0.mk H
    clear H
    go_upto_region 4 with (fail)
    repeat (go_quiet (fail); go_upto_region 4 with (fail))
    go_cut [43] (fun v43 wc => ∃ (kq : Nat) (x43_9 : Bool), v43 = .bool x43_9 ∧ Aside0 (impl_run.j1 kq a1 x7_4 x8_4 x9_4 x43_9 a0_0 a0_1 a0_2 = some r) ∧ Aside0 (kq ≤ kj4) ∧ Aside0 (wc.heap[gb371]? = some (.cells #[.int .i64 a0_0, .int .i64 a0_1, .string a0_2] 30 (0, 0))) ∧ Aside0 (Below w.heap.size w wc))
    case first =>
     have H := HC10.out
     clear HC10
     replace H := zr H
     obtain ⟨c11b0, H⟩ := H
     (first | rw [c11b0] | (simp only [i64_w, i32_w]; rw [c11b0]) | skip)
     replace H := zr H
     obtain ⟨c12b0, H⟩ := H
     by_cases c14 : (bt a0_2 a1) = 46
     ·
      rw [if_pos c14] at H
      have c14b0 : ((bt a0_2 a1) == 46) = true := beq_iff_eq.mpr c14
      have c14b1 : ((bt a0_2 a1) != 46) = false := bne_eq_false_iff_eq.mpr c14
      clear c14
      replace H := zc H
      rcases H with ⟨c15b0, H⟩ | ⟨c15b0, H⟩
      ·
       obtain ⟨ji16, hji16⟩ : ∃ j_ : Int, (wrap64 (a1 - x7_4)) = j_ := ⟨_, rfl⟩
       replace H : (if 0 ≤ (ji16) then (if (ji16) < (a0_2.size : Int) then (impl_run.j1 kj4 a1 x7_4 x8_4 x9_4 ((bt a0_2 (ji16)) == 46) a0_0 a0_1 a0_2) else (none)) else (none)) = some r := by first | (rw [hji16] at H; exact H) | (simp only [hji16] at H ⊢; exact H)
       have hji16w : (IntKind.i64.wrap (a1 - x7_4)) = ji16 := (i64_w _).trans hji16
       replace H := zr H
       obtain ⟨c17b0, H⟩ := H
       replace H := zr H
       obtain ⟨c18b0, H⟩ := H
       have H' := Aside0.mk H
       clear H
       have ⟨_, _, _, _, _, _⟩ := cz3 BK371
       have p13 : 0 ≤ (a1 : Int) := of_decide_eq_true asm
       have q13 : a1 < (a0_2.size : Int) := of_decide_eq_true asm
       have hx13 := bt_at a0_2 a1
       replace p13 := eq_true p13
       replace q13 := eq_true q13
       have p19 : 0 ≤ ((ji16) : Int) := of_decide_eq_true asm
       have q19 : (ji16) < (a0_2.size : Int) := of_decide_eq_true asm
       have hx19 := bt_at a0_2 (ji16)
       replace p19 := eq_true p19
       replace q19 := eq_true q19
       go_wp2
       repeat (go_quiet (fail); try go_wp2)
       go_meet
       case rel => exact ⟨_, (((bt a0_2 (ji16)) == 46)), (by first | rfl | (simp; done) | (simp only [← hji16] <;> (first | rfl | simp)) | (simp [*]; done)), H', ⟨by have := HJ4.out; first | omega | exact Nat.le_refl _⟩, ⟨bk BK371⟩, ⟨bel⟩⟩
      ·
       have H' := Aside0.mk H
       clear H
       have ⟨_, _, _, _, _, _⟩ := cz3 BK371
       have p13 : 0 ≤ (a1 : Int) := of_decide_eq_true asm
       have q13 : a1 < (a0_2.size : Int) := of_decide_eq_true asm
       have hx13 := bt_at a0_2 a1
       replace p13 := eq_true p13
       replace q13 := eq_true q13
       go_wp2
       repeat (go_quiet (fail); try go_wp2)
       go_meet
       case rel => exact ⟨_, (false), rf, H', ⟨by have := HJ4.out; first | omega | exact Nat.le_refl _⟩, ⟨bk BK371⟩, ⟨bel⟩⟩
     ·
      rw [if_neg c14] at H
      have c14b0 : ((bt a0_2 a1) == 46) = false := beq_eq_false_iff_ne.mpr c14
      have c14b1 : ((bt a0_2 a1) != 46) = true := bne_iff_ne.mpr c14
      have H' := Aside0.mk H
      clear H
      have ⟨_, _, _, _, _, _⟩ := cz3 BK371
      have p13 : 0 ≤ (a1 : Int) := of_decide_eq_true asm
      have q13 : a1 < (a0_2.size : Int) := of_decide_eq_true asm
      have hx13 := bt_at a0_2 a1
      replace p13 := eq_true p13
      replace q13 := eq_true q13
      go_wp2
      repeat (go_quiet (fail); try go_wp2)
      go_meet
      case rel => exact ⟨_, (true), rf, H', ⟨by have := HJ4.out; first | omega | exact Nat.le_refl _⟩, ⟨bk BK371⟩, ⟨bel⟩⟩
    case rest =>
     clear HC10
     obtain ⟨kq, x43_9, rfl, HA, HJ9, BK371, HB⟩ := hcut
     cases kq with
     | zero => exact absurd HA.out (by simp [impl_run.j1])
     | succ kj9 =>
      have H := HA.out
      clear HA
      simp only [impl_run.j1] at H
      replace H := zb H
      rcases H with ⟨rfl, H⟩ | ⟨rfl, H⟩
      ·
       obtain rfl := Option.some.inj H
       go_wp2
       repeat (go_quiet (fail); try go_wp2)
       go_ret
       exact ⟨er, bel⟩
      ·
       have H' := Aside0.mk H
       clear H
       go_wp2
       repeat (go_quiet (fail); try go_wp2)
       go_loopg [10] kj9 (fun kq v10 w' => ∃ (x10_3 : Int), v10 = .int .i64 x10_3 ∧ Aside0 (impl_run.l0 kq a1 x7_4 x8_4 x9_4 x10_3 a0_0 a0_1 a0_2 = some r) ∧ Aside0 (kq ≤ kj9) ∧ Aside0 (w'.heap[gb371]? = some (.cells #[.int .i64 a0_0, .int .i64 a0_1, .string a0_2] 30 (0, 0))) ∧ Aside0 (Below w.heap.size w w'))
       case atStart => exact ⟨(0), rf, H', ⟨Nat.le_refl _⟩, ⟨bk BK371⟩, ⟨bel⟩⟩
       case round =>
        clear H'
        obtain ⟨x10_3, rfl, HA, HK3, BK371, HB⟩ := hrel
        cases gk with
        | zero => exact absurd HA.out (by simp [impl_run.l0])
        | succ k3 =>
         have H := HA.out
         clear HA
         simp only [impl_run.l0] at H
         replace H := zc H
         rcases H with ⟨c24b0, H⟩ | ⟨c24b0, H⟩
         ·
          obtain ⟨ji25, hji25⟩ : ∃ j_ : Int, (wrap64 (a1 + (wrap64 (x10_3 * x7_4)))) = j_ := ⟨_, rfl⟩
          replace H : (if 0 ≤ (ji25) then (if (ji25) < (a0_2.size : Int) then (if (bt a0_2 (ji25)) = 46 then (impl_run.l0 k3 a1 x7_4 x8_4 x9_4 (wrap64 (x10_3 + 1)) a0_0 a0_1 a0_2) else (some x10_3)) else (none)) else (none)) = some r := by first | (rw [hji25] at H; exact H) | (simp only [hji25] at H ⊢; exact H)
          have hji25w : (IntKind.i64.wrap (a1 + (wrap64 (x10_3 * x7_4)))) = ji25 := (i64_w _).trans hji25
          replace H := zr H
          obtain ⟨c26b0, H⟩ := H
          replace H := zr H
          obtain ⟨c27b0, H⟩ := H
          by_cases c29 : (bt a0_2 (ji25)) = 46
          ·
           rw [if_pos c29] at H
           have c29b0 : ((bt a0_2 (ji25)) == 46) = true := beq_iff_eq.mpr c29
           have c29b1 : ((bt a0_2 (ji25)) != 46) = false := bne_eq_false_iff_eq.mpr c29
           clear c29
           have H' := Aside0.mk H
           clear H
           have ⟨_, _, _, _, _, _⟩ := cz3 BK371
           have p28 : 0 ≤ ((ji25) : Int) := of_decide_eq_true asm
           have q28 : (ji25) < (a0_2.size : Int) := of_decide_eq_true asm
           have hx28 := bt_at a0_2 (ji25)
           replace p28 := eq_true p28
           replace q28 := eq_true q28
           go_wp2
           repeat (go_quiet (fail); try go_wp2)
           go_roundg k3
           case measure => have := HJ4.out; have := HJ9.out; have := HK3.out; omega
           case rel => exact ⟨(wrap64 (x10_3 + 1)), rf, H', ⟨by have := HJ4.out; have := HJ9.out; have := HK3.out; omega⟩, ⟨bk BK371⟩, ⟨bel⟩⟩
          ·
           rw [if_neg c29] at H
           have c29b0 : ((bt a0_2 (ji25)) == 46) = false := beq_eq_false_iff_ne.mpr c29
           have c29b1 : ((bt a0_2 (ji25)) != 46) = true := bne_iff_ne.mpr c29
           obtain rfl := Option.some.inj H
           have ⟨_, _, _, _, _, _⟩ := cz3 BK371
           have p28 : 0 ≤ ((ji25) : Int) := of_decide_eq_true asm
           have q28 : (ji25) < (a0_2.size : Int) := of_decide_eq_true asm
           have hx28 := bt_at a0_2 (ji25)
           replace p28 := eq_true p28
           replace q28 := eq_true q28
           go_wp2
           repeat (go_quiet (fail); try go_wp2)
           go_ret
           exact ⟨by first | rfl | (simp [errW_none, errW_some] <;> rfl) | (simp only [← hji25]; first | rfl | (simp [errW_none, errW_some] <;> rfl)) | (simp [*, errW_none, errW_some] <;> rfl), bel⟩
         ·
          obtain rfl := Option.some.inj H
          go_wp2
          repeat (go_quiet (fail); try go_wp2)
          go_ret
          exact ⟨er, bel⟩

end Go.Proofs.Ytpcdfjcbjbkliaa.E
