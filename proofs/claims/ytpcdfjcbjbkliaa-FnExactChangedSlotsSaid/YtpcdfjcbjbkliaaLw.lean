import Derived.Test.YtpcdfjcbjbkliaaMs
import Derived.Test.YtpcdfjcbjbkliaaMd
import Derived.Test.YtpcdfjcbjbkliaaQx
namespace Go.Proofs.Ytpcdfjcbjbkliaa.E
open Go.RowKit Go.Proofs.YtpcdfjcbjbkliaaW.PrintWords Go.Proofs.YtpcdfjcbjbkliaaW.PrintLast Go.Proofs.YtpcdfjcbjbkliaaW.PrintMore
attribute [local go_sem] max2_int min2_int max_two min_two max_three min_three max_four min_four
set_option linter.unusedVariables false
set_option linter.unusedSimpArgs false
/-- What the law of ChangedSlots comes to: it stops at a size, or every step tells what the true way wants. -/
def laws_FnExactChangedSlots.Fine (k : Nat) (R C : Int) (s f : ByteArray) (l : List S42) (n : Int) (R' C' : Int) (s' f' : ByteArray) (l' : List S42) (n' : Int) : Prop :=
  (∃ v1, laws_szDraft.f k R C s f l n 1048576 = some v1 ∧ v1 < 0) ∨
  (∃ v1 v2, laws_szDraft.f k R C s f l n 1048576 = some v1 ∧ ¬ v1 < 0 ∧ laws_szDraft.f k R' C' s' f' l' n' v1 = some v2 ∧ v2 < 0) ∨
  (∃ v1 v2, laws_szDraft.f k R C s f l n 1048576 = some v1 ∧ ¬ v1 < 0 ∧ laws_szDraft.f k R' C' s' f' l' n' v1 = some v2 ∧ ¬ v2 < 0 ∧ ∃ (la lb : List S48) (ch : List Int) (r1 r2 : Int) (m1 m2 : List S48) (q : List Int) (mm : Int),
    laws_toDraft.f k R C s f l n = some (R, C, s, f, la, n) ∧ laws_toDraft.f k R' C' s' f' l' n' = some (R', C', s', f', lb, n') ∧ spec_ChangedSlots.f k R C s f la n R' C' s' f' lb n' = some ch ∧ impl_ChangedSlots.f k R C s f la n R' C' s' f' lb n' = some ch ∧
    laws_eqIntS.f k ch ch = some true ∧ laws_eqDraft.f k R C s f la n R C s f la n = some true ∧ laws_eqDraft.f k R' C' s' f' lb n' R' C' s' f' lb n' = some true ∧ laws_markClueS.f k la 1 = some (r1, m1) ∧ laws_markClueS.f k lb r1 = some (r2, m2) ∧ ¬ r2 < 0 ∧
    laws_markIntS.f k ch 1 = some (mm, q) ∧ laws_heldIntS.f k q 1 = some mm ∧ ¬ mm < 0)
set_option maxHeartbeats 8000000 in
set_option maxRecDepth 100000 in
theorem laws_FnExactChangedSlots.calls (k : Nat) (R C : Int) (s f : ByteArray) (A : Option Addr) (c : Nat) (l : List S42) (n : Int) (R' C' : Int) (s' f' : ByteArray) (A' : Option Addr) (c' : Nat) (l' : List S42) (n' : Int) (w : World)
  (hr : Kd.C k42 w A l.length l) (hc : l.length ≤ c) (hr' : Kd.C k42 w A' l'.length l') (hc' : l'.length ≤ c') (H : laws_FnExactChangedSlots.Fine k R C s f l n R' C' s' f' l' n') :
  Calls Try.prog 3 #[.agg #[.int .i64 R, .int .i64 C, .string s, .string f, .slice A l.length c, .int .i64 n], .agg #[.int .i64 R', .int .i64 C', .string s', .string f', .slice A' l'.length c', .int .i64 n']] w fun e w' => e = .returned (.bool true) ∧ Below w.heap.size w w' := by
 have hu26 := Try.underlying26
 have hu33 := Try.underlying33
 have HRa := Aside0.mk hr
 have HCa := Aside0.mk hc
 have HRb := Aside0.mk hr'
 have HCb := Aside0.mk hc'
 clear hr hc hr' hc'
 have HB := Aside0.mk (Below.refl w.heap.size w)
 rcases H with ⟨v1, h1, h2⟩ | ⟨v1, v2, h1, h1n, h2, h2n⟩ | ⟨v1, v2, h1, h1n, h2, h2n, la, lb, ch, r1, r2, m1, m2, q, mm, ha, hb, h5, h6, h7, h8, h9, h10, h11, hr2, h12, h13, hq⟩
 ·
  have H1 := Aside0.mk h1
  have hd : decide (v1 < 0) = true := decide_eq_true h2
  clear h1 h2
  go_enter Try.func3, Try.ntmps3
  go_wp2_with (first | ((with_reducible refine zd 2 rfl ?_); refine zbx (w := w) #[.int .i64 R, .int .i64 C, .string s, .string f, .slice A l.length c, .int .i64 n] 26 ?_; intro g2 hg w2 BK2 hb; have GW2 := zg (w := w) hg; replace HB := zB hb; clear hb hg) | ((with_reducible refine zd 3 rfl ?_); refine zbx (w := w) #[.int .i64 R', .int .i64 C', .string s', .string f', .slice A' l'.length c', .int .i64 n'] 26 ?_; intro g3 hg w3 BK3 hb; have GW3 := zg (w := w) hg; have NB23 := zn hg BK2; have NB32 := zm hg BK2; replace BK2 := zk BK2 hb; replace HB := zB hb; clear hb hg; have hn23 := NB23.out; have hn32 := NB32.out; have ⟨_, _, _, _, _, _, _, _, _, _, _, _⟩ := cz6 BK2; have ⟨_, _, _, _, _, _, _, _, _, _, _, _⟩ := cz6 BK3) | ((with_reducible refine zd 16 rfl ?_); refine zgl Try.func6 (laws_szDraft.calls k R C s f _ _ l n 1048576 v1 _ (zCb HRa) HCa.out H1.out) ?_; rintro e w4 ⟨rfl, hb⟩; refine ⟨_, rfl, ?_⟩; replace BK2 := zk BK2 hb; replace BK3 := zk BK3 hb; replace HB := zB hb; clear hb; have ⟨_, _, _, _, _, _, _, _, _, _, _, _⟩ := cz6 BK2; have ⟨_, _, _, _, _, _, _, _, _, _, _, _⟩ := cz6 BK3))
  go_ret
  exact ⟨rfl, bel⟩
 ·
  have H1 := Aside0.mk h1
  have H2 := Aside0.mk h2
  have hd : decide (v1 < 0) = false := decide_eq_false h1n
  have hd2 : decide (v2 < 0) = true := decide_eq_true h2n
  clear h1 h2 h1n h2n
  go_enter Try.func3, Try.ntmps3
  go_wp2_with (first | ((with_reducible refine zd 2 rfl ?_); refine zbx (w := w) #[.int .i64 R, .int .i64 C, .string s, .string f, .slice A l.length c, .int .i64 n] 26 ?_; intro g2 hg w2 BK2 hb; have GW2 := zg (w := w) hg; replace HB := zB hb; clear hb hg) | ((with_reducible refine zd 3 rfl ?_); refine zbx (w := w) #[.int .i64 R', .int .i64 C', .string s', .string f', .slice A' l'.length c', .int .i64 n'] 26 ?_; intro g3 hg w3 BK3 hb; have GW3 := zg (w := w) hg; have NB23 := zn hg BK2; have NB32 := zm hg BK2; replace BK2 := zk BK2 hb; replace HB := zB hb; clear hb hg; have hn23 := NB23.out; have hn32 := NB32.out; have ⟨_, _, _, _, _, _, _, _, _, _, _, _⟩ := cz6 BK2; have ⟨_, _, _, _, _, _, _, _, _, _, _, _⟩ := cz6 BK3) | ((with_reducible refine zd 16 rfl ?_); refine zgl Try.func6 (laws_szDraft.calls k R C s f _ _ l n 1048576 v1 _ (zCb HRa) HCa.out H1.out) ?_; rintro e w4 ⟨rfl, hb⟩; refine ⟨_, rfl, ?_⟩; replace BK2 := zk BK2 hb; replace BK3 := zk BK3 hb; replace HB := zB hb; clear hb; have ⟨_, _, _, _, _, _, _, _, _, _, _, _⟩ := cz6 BK2; have ⟨_, _, _, _, _, _, _, _, _, _, _, _⟩ := cz6 BK3) | ((with_reducible refine zd 21 rfl ?_); refine zgl Try.func6 (laws_szDraft.calls k R' C' s' f' _ _ l' n' v1 v2 _ (zCb HRb) HCb.out H2.out) ?_; rintro e w4 ⟨rfl, hb⟩; refine ⟨_, rfl, ?_⟩; replace BK2 := zk BK2 hb; replace BK3 := zk BK3 hb; replace HB := zB hb; clear hb; have ⟨_, _, _, _, _, _, _, _, _, _, _, _⟩ := cz6 BK2; have ⟨_, _, _, _, _, _, _, _, _, _, _, _⟩ := cz6 BK3))
  go_ret
  exact ⟨rfl, bel⟩
 ·
  have H1 := Aside0.mk h1
  have H2 := Aside0.mk h2
  have H5 := Aside0.mk h5
  have H6 := Aside0.mk h6
  have H7 := Aside0.mk h7
  have H8 := Aside0.mk h8
  have H9 := Aside0.mk h9
  have H10 := Aside0.mk h10
  have H11 := Aside0.mk h11
  have H12 := Aside0.mk h12
  have H13 := Aside0.mk h13
  have Ha := Aside0.mk ha
  have Hb := Aside0.mk hb
  have hd : decide (v1 < 0) = false := decide_eq_false h1n
  have hd2 : decide (v2 < 0) = false := decide_eq_false h2n
  have hd3 : decide (r2 < 0) = false := decide_eq_false hr2
  have hd4 : decide (mm < 0) = false := decide_eq_false hq
  have hd5 : (mm != mm) = false := by simp
  clear h1 h2 h1n h2n h5 h6 h7 h8 h9 h10 h11 h12 h13 ha hb hr2 hq
  go_enter Try.func3, Try.ntmps3
  go_wp2_with (first | ((with_reducible refine zd 2 rfl ?_); refine zbx (w := w) #[.int .i64 R, .int .i64 C, .string s, .string f, .slice A l.length c, .int .i64 n] 26 ?_; intro g2 hg w2 BK2 hb; have GW2 := zg (w := w) hg; replace HB := zB hb; clear hb hg) | ((with_reducible refine zd 3 rfl ?_); refine zbx (w := w) #[.int .i64 R', .int .i64 C', .string s', .string f', .slice A' l'.length c', .int .i64 n'] 26 ?_; intro g3 hg w3 BK3 hb; have GW3 := zg (w := w) hg; have NB23 := zn hg BK2; have NB32 := zm hg BK2; replace BK2 := zk BK2 hb; replace HB := zB hb; clear hb hg; have hn23 := NB23.out; have hn32 := NB32.out; have ⟨_, _, _, _, _, _, _, _, _, _, _, _⟩ := cz6 BK2; have ⟨_, _, _, _, _, _, _, _, _, _, _, _⟩ := cz6 BK3) | ((with_reducible refine zd 16 rfl ?_); refine zgl Try.func6 (laws_szDraft.calls k R C s f _ _ l n 1048576 v1 _ (zCb HRa) HCa.out H1.out) ?_; rintro e w4 ⟨rfl, hb⟩; refine ⟨_, rfl, ?_⟩; replace BK2 := zk BK2 hb; replace BK3 := zk BK3 hb; replace HB := zB hb; clear hb; have ⟨_, _, _, _, _, _, _, _, _, _, _, _⟩ := cz6 BK2; have ⟨_, _, _, _, _, _, _, _, _, _, _, _⟩ := cz6 BK3) | ((with_reducible refine zd 21 rfl ?_); refine zgl Try.func6 (laws_szDraft.calls k R' C' s' f' _ _ l' n' v1 v2 _ (zCb HRb) HCb.out H2.out) ?_; rintro e w4 ⟨rfl, hb⟩; refine ⟨_, rfl, ?_⟩; replace BK2 := zk BK2 hb; replace BK3 := zk BK3 hb; replace HB := zB hb; clear hb; have ⟨_, _, _, _, _, _, _, _, _, _, _, _⟩ := cz6 BK2; have ⟨_, _, _, _, _, _, _, _, _, _, _, _⟩ := cz6 BK3))
  refine zsw 6 rfl fun w5 hw_ => ?_
  replace BK2 := zkw hw_ BK2
  replace BK3 := zkw hw_ BK3
  replace HB := zBw hw_
  clear hw_
  refine ⟨_, zb6 BK2 <| zb6 BK3 <| zn0, fun hHeld HT_ => ?_⟩
  repeat (first | refine zs1 ?_ | (refine zcl Try.func7 (spec_ChangedSlots.calls k R C s f _ _ la n R' C' s' f' _ _ lb n' ch _ (zCs Sa) (Kd.S_reads' Sa.out).2.1 (zCs Sb) (Kd.S_reads' Sb.out).2.1 H5.out) ?_; rintro e w8 ⟨vw, rfl, ho, hb⟩; have Rw := zRn ho; obtain ⟨Aw, cw, ew⟩ := Kd.R_slice Rw.out; subst ew; replace BK2 := zk BK2 hb; replace BK3 := zk BK3 hb; replace HB := zB hb; refine ⟨_, rfl, zHb hb hHeld, _, znb, fun hHeld => ?_⟩) | (refine zcl Try.func8 (laws_toDraft.calls k R' C' s' f' _ _ l' n' R' C' s' f' lb n' _ (zCb HRb) HCb.out Hb.out) ?_; rintro e w7 ⟨v27, rfl, ho, hb⟩; have Sb := zSn ho; replace Sa := zS Sa hb; obtain ⟨Ab, cb, eb⟩ := Kd.S_slice Sb.out; subst eb; replace BK2 := zk BK2 hb; replace BK3 := zk BK3 hb; replace HB := zB hb; refine ⟨_, rfl, zHb hb hHeld, _, znb, fun hHeld => ?_⟩) | (refine zcl Try.func8 (laws_toDraft.calls k R C s f _ _ l n R C s f la n _ (zCb HRa) HCa.out Ha.out) ?_; rintro e w6 ⟨v25, rfl, ho, hb⟩; have Sa := zSn ho; obtain ⟨Aa, ca, ea⟩ := Kd.S_slice Sa.out; subst ea; replace BK2 := zk BK2 hb; replace BK3 := zk BK3 hb; replace HB := zB hb; refine ⟨_, rfl, zHb hb hHeld, _, znb, fun hHeld => ?_⟩))
  refine zdn ?_
  try clear Sa
  try clear Sb
  have ⟨_, _, _, _, _, _, _, _, _, _, _, _⟩ := cz6 BK2
  have ⟨_, _, _, _, _, _, _, _, _, _, _, _⟩ := cz6 BK3
  go_wp2_with (first | ((with_reducible refine zd 30 rfl ?_); refine zgl Try.func8 (laws_toDraft.calls k R C s f _ _ l n R C s f la n _ (zCb HRa) HCa.out Ha.out) ?_; rintro e w9 ⟨v7, rfl, ho, hb⟩; refine ⟨_, rfl, ?_⟩; have L2 := zlt BK2 hb; have L3 := zlt BK3 hb; have Sx := zSn ho; replace Rw := zRo (kr Rw) hb; replace BK2 := zk BK2 hb; replace BK3 := zk BK3 hb; replace HB := zB hb; obtain ⟨Ax, cx, ex⟩ := Kd.S_slice Sx.out; subst ex; clear ho hb; have ⟨_, _, _, _, _, _, _, _, _, _, _, _⟩ := cz6 BK2; have ⟨_, _, _, _, _, _, _, _, _, _, _, _⟩ := cz6 BK3) | ((with_reducible refine zd 7 rfl ?_); refine zbx (w := w) #[.int .i64 0, .int .i64 0, .string (⟨#[]⟩ : ByteArray), .string (⟨#[]⟩ : ByteArray), .slice none 0 0, .int .i64 0] 33 ?_; intro g7 hg w10 BK7 hb; have GW7 := zg (w := w) hg; have HG7 := Aside0.mk hg; replace Sx := zSo (ks Sx) hb; replace Rw := zR Rw hb; have NB27 := zn hg BK2; have NB72 := zm hg BK2; have NB37 := zn hg BK3; have NB73 := zm hg BK3; replace BK2 := zk BK2 hb; replace BK3 := zk BK3 hb; replace HB := zB hb; clear hb hg; have hn27 := NB27.out; have hn72 := NB72.out; have hn37 := NB37.out; have hn73 := NB73.out; have ⟨_, _, _, _, _, _, _, _, _, _, _, _⟩ := cz6 BK7; have ⟨_, _, _, _, _, _, _, _, _, _, _, _⟩ := cz6 BK2; have ⟨_, _, _, _, _, _, _, _, _, _, _, _⟩ := cz6 BK3) | ((with_reducible refine zd 32 rfl ?_); refine zgl Try.func8 (laws_toDraft.calls k R' C' s' f' _ _ l' n' R' C' s' f' lb n' _ (zCb HRb) HCb.out Hb.out) ?_; rintro e w11 ⟨v8, rfl, ho, hb⟩; refine ⟨_, rfl, ?_⟩; have L2b := zlf BK2 hb; have L3b := zlf BK3 hb; have L7b := zlf BK7 hb; have Sy := zSn ho; replace Sx := zSo (zSf Sx BK7) hb; replace Rw := zRo (zRf Rw BK7) hb; replace BK2 := zkf BK2 hb; replace BK3 := zkf BK3 hb; replace BK7 := zkf BK7 hb; replace HB := zB hb; obtain ⟨Ay, cy, ey⟩ := Kd.S_slice Sy.out; subst ey; clear ho hb; have ⟨_, _, _, _, _, _, _, _, _, _, _, _⟩ := cz6 BK2; have ⟨_, _, _, _, _, _, _, _, _, _, _, _⟩ := cz6 BK3; have ⟨_, _, _, _, _, _, _, _, _, _, _, _⟩ := cz6 BK7) | ((with_reducible refine zd 8 rfl ?_); refine zbx (w := w) #[.int .i64 0, .int .i64 0, .string (⟨#[]⟩ : ByteArray), .string (⟨#[]⟩ : ByteArray), .slice none 0 0, .int .i64 0] 33 ?_; intro g8 hg w12 BK8 hb; have GW8 := zg (w := w) hg; have HG8 := Aside0.mk hg; replace Sx := zSo (ks Sx) hb; replace Sy := zSo (ks Sy) hb; replace Rw := zR Rw hb; have NB28 := zn hg BK2; have NB82 := zm hg BK2; have NB38 := zn hg BK3; have NB83 := zm hg BK3; have NB78 := zn hg BK7; have NB87 := zm hg BK7; replace BK7 := zk BK7 hb; replace BK2 := zk BK2 hb; replace BK3 := zk BK3 hb; replace HB := zB hb; clear hb hg; have hn28 := NB28.out; have hn82 := NB82.out; have hn38 := NB38.out; have hn83 := NB83.out; have hn78 := NB78.out; have hn87 := NB87.out; have ⟨_, _, _, _, _, _, _, _, _, _, _, _⟩ := cz6 BK8; have ⟨_, _, _, _, _, _, _, _, _, _, _, _⟩ := cz6 BK2; have ⟨_, _, _, _, _, _, _, _, _, _, _, _⟩ := cz6 BK3; have ⟨_, _, _, _, _, _, _, _, _, _, _, _⟩ := cz6 BK7) | ((with_reducible refine zd 35 rfl ?_); refine zgl Try.func9 (impl_ChangedSlots.calls k R C s f _ _ la n R' C' s' f' _ _ lb n' ch _ (Kd.S_reads' (e := _) (n := la.length) (c := cx) (zSf Sx BK8)).2.2 (Kd.S_reads' Sx.out).2.1 (Kd.S_reads' (e := _) (n := lb.length) (c := cy) (zSf Sy BK8)).2.2 (Kd.S_reads' Sy.out).2.1 H6.out) ?_; rintro e w13 ⟨vg, rfl, ho, hb⟩; refine ⟨_, rfl, ?_⟩; have L2c := zlf BK2 hb; have L3c := zlf BK3 hb; have Rg := zRn ho; replace Sx := zSo (zSf Sx BK8) hb; replace Sy := zSo (zSf Sy BK8) hb; replace Rw := zRo (zRf Rw BK8) hb; replace BK2 := zkf BK2 hb; replace BK3 := zkf BK3 hb; replace BK7 := zkf BK7 hb; replace BK8 := zkf BK8 hb; replace HB := zB hb; obtain ⟨Ag, cg, eg⟩ := Kd.R_slice Rg.out; subst eg; clear ho hb) | ((with_reducible refine zd 38 rfl ?_); refine zgl Try.func10 (laws_eqIntS.calls k _ _ ch _ _ ch true _ (zCr Rg) (Kd.R_reads' Rg.out).2.1 (zCr Rw) (Kd.R_reads' Rw.out).2.1 H7.out) ?_; rintro e w' ⟨rfl, ⟨nd, rfl⟩⟩; refine ⟨_, rfl, ?_⟩))
  refine zsw 5 rfl fun w14 hw_ => ?_
  replace Sx := zSv hw_ Sx
  replace Sy := zSv hw_ Sy
  replace Rw := zRv hw_ Rw
  replace Rg := zRv hw_ Rg
  replace BK2 := zkw hw_ BK2
  replace BK3 := zkw hw_ BK3
  replace BK7 := zkw hw_ BK7
  replace BK8 := zkw hw_ BK8
  replace HB := zBw hw_
  clear hw_
  refine ⟨_, zb6 BK2 <| zb6 BK7 <| zn0, fun hHeld HT_ => ?_⟩
  repeat (first | refine zs1 ?_ | (refine zcl Try.func11 (laws_eqDraft.calls k R C s f _ _ la n R C s f _ _ la n true _ (zCs Sx) (Kd.S_reads' Sx.out).2.1 (zCs St) (Kd.S_reads' St.out).2.1 H8.out) ?_; rintro e w16 ⟨rfl, hb⟩; replace Sx := zS Sx hb; replace Sy := zS Sy hb; replace Rw := zR Rw hb; replace Rg := zR Rg hb; replace BK2 := zk BK2 hb; replace BK3 := zk BK3 hb; replace BK7 := zk BK7 hb; replace BK8 := zk BK8 hb; replace HB := zB hb; refine ⟨_, rfl, zHb hb hHeld, _, znb, fun hHeld => ?_⟩) | (refine zcl Try.func8 (laws_toDraft.calls k R C s f _ _ l n R C s f la n _ (zCb HRa) HCa.out Ha.out) ?_; rintro e w15 ⟨vt, rfl, ho, hb⟩; have St := zSn ho; obtain ⟨At, ct, et⟩ := Kd.S_slice St.out; subst et; replace Sx := zS Sx hb; replace Sy := zS Sy hb; replace Rw := zR Rw hb; replace Rg := zR Rg hb; replace BK2 := zk BK2 hb; replace BK3 := zk BK3 hb; replace BK7 := zk BK7 hb; replace BK8 := zk BK8 hb; replace HB := zB hb; refine ⟨_, rfl, zHb hb hHeld, _, znb, fun hHeld => ?_⟩))
  refine zdn ?_
  clear St
  go_wp2
  refine zsw 5 rfl fun w17 hw_ => ?_
  replace Sx := zSv hw_ Sx
  replace Sy := zSv hw_ Sy
  replace Rw := zRv hw_ Rw
  replace Rg := zRv hw_ Rg
  replace BK2 := zkw hw_ BK2
  replace BK3 := zkw hw_ BK3
  replace BK7 := zkw hw_ BK7
  replace BK8 := zkw hw_ BK8
  replace HB := zBw hw_
  clear hw_
  refine ⟨_, zb6 BK3 <| zb6 BK8 <| zn0, fun hHeld HT_ => ?_⟩
  repeat (first | refine zs1 ?_ | (refine zcl Try.func11 (laws_eqDraft.calls k R' C' s' f' _ _ lb n' R' C' s' f' _ _ lb n' true _ (zCs Sy) (Kd.S_reads' Sy.out).2.1 (zCs St) (Kd.S_reads' St.out).2.1 H9.out) ?_; rintro e w19 ⟨rfl, hb⟩; replace Sx := zS Sx hb; replace Sy := zS Sy hb; replace Rw := zR Rw hb; replace Rg := zR Rg hb; replace BK2 := zk BK2 hb; replace BK3 := zk BK3 hb; replace BK7 := zk BK7 hb; replace BK8 := zk BK8 hb; replace HB := zB hb; refine ⟨_, rfl, zHb hb hHeld, _, znb, fun hHeld => ?_⟩) | (refine zcl Try.func8 (laws_toDraft.calls k R' C' s' f' _ _ l' n' R' C' s' f' lb n' _ (zCb HRb) HCb.out Hb.out) ?_; rintro e w18 ⟨vt, rfl, ho, hb⟩; have St := zSn ho; obtain ⟨At, ct, et⟩ := Kd.S_slice St.out; subst et; replace Sx := zS Sx hb; replace Sy := zS Sy hb; replace Rw := zR Rw hb; replace Rg := zR Rg hb; replace BK2 := zk BK2 hb; replace BK3 := zk BK3 hb; replace BK7 := zk BK7 hb; replace BK8 := zk BK8 hb; replace HB := zB hb; refine ⟨_, rfl, zHb hb hHeld, _, znb, fun hHeld => ?_⟩))
  refine zdn ?_
  clear St
  have ⟨_, _, _, _, _, _, _, _, _, _, _, _⟩ := cz6 BK7
  have ⟨_, _, _, _, _, _, _, _, _, _, _, _⟩ := cz6 BK8
  go_wp2_with (first | ((with_reducible refine zd 52 rfl ?_); refine zgl Try.func12 (laws_markDraft.calls k R C s f _ _ la n 1 r1 m1 _ w _ bel (ks Sx) H10.out) ?_; rintro e w20 ⟨rfl, hs, hb, hk⟩; refine ⟨_, rfl, ?_⟩; replace Rw := zRk Rw hk (fun k_ a b => by omega); replace Rg := zRk Rg hk (fun k_ a b => by omega); replace Sy := zSk Sy hk (fun k_ a b => by omega); replace BK8 := zkk BK8 hk (fun a => by have := HG8.out; omega); replace BK2 := zkk BK2 hk (fun a => by have := L2.out; omega); replace BK3 := zkk BK3 hk (fun a => by have := L3.out; omega); replace HB := Aside0.mk hb; clear hs hb hk Sx BK7; have ⟨_, _, _, _, _, _, _, _, _, _, _, _⟩ := cz6 BK8) | ((with_reducible refine zd 55 rfl ?_); refine zgl Try.func12 (laws_markDraft.calls k R' C' s' f' _ _ lb n' r1 r2 m2 _ w _ bel (ks Sy) H11.out) ?_; rintro e w21 ⟨rfl, hs, hb, hk⟩; refine ⟨_, rfl, ?_⟩; replace Rw := zRk Rw hk (fun k_ a b => by omega); replace Rg := zRk Rg hk (fun k_ a b => by omega); replace BK2 := zkk BK2 hk (fun a => by have := L2b.out; omega); replace BK3 := zkk BK3 hk (fun a => by have := L3b.out; omega); replace HB := Aside0.mk hb; clear hs hb hk Sy BK8) | ((with_reducible refine zd 61 rfl ?_); refine gate_guard (by rfl) ?_; dsimp only; refine zgl Try.func10 (laws_eqIntS.calls k _ _ ch _ _ ch true _ (zCr Rg) (Kd.R_reads' Rg.out).2.1 (zCr Rw) (Kd.R_reads' Rw.out).2.1 H7.out) ?_; rintro e w' ⟨rfl, ⟨nd, rfl⟩⟩; refine ⟨_, rfl, ?_⟩) | ((with_reducible refine zd 66 rfl ?_); refine zgl Try.func13 (laws_markIntS.calls k _ _ ch 1 mm q w _ bel (kr Rg) H12.out) ?_; rintro e w24 ⟨rfl, hs, hb, hk⟩; refine ⟨_, rfl, ?_⟩; replace Rw := zRk Rw hk (fun k_ a b => by omega); replace BK2 := zkk BK2 hk (fun a => by have := L2c.out; omega); replace BK3 := zkk BK3 hk (fun a => by have := L3c.out; omega); replace HB := Aside0.mk hb; have Rq := Aside0.mk hs; have HQL := Aside0.mk (Kd.R_reads' hs).1.symm; clear hs hb hk Rg) | ((with_reducible refine zd 69 rfl ?_); refine zgl Try.func14 (laws_heldIntS.calls k _ _ q 1 mm _ (zCr Rq) (by rw [HQL.out]; exact (Kd.R_reads' Rq.out).2.1) H13.out) ?_ (hargs := by rw [HQL.out]; (try simp only [List.map_toArray, List.map_cons, List.map_nil]); first | done | rfl); rintro e w' ⟨rfl, ⟨nd, rfl⟩⟩; refine ⟨_, rfl, ?_⟩))
  refine zsw 6 rfl fun w25 hw_ => ?_
  replace Rw := zRv hw_ Rw
  replace Rq := zRv hw_ Rq
  replace BK2 := zkw hw_ BK2
  replace BK3 := zkw hw_ BK3
  replace HB := zBw hw_
  clear hw_
  refine ⟨_, zb6 BK2 <| zb6 BK3 <| zn0, fun hHeld HT_ => ?_⟩
  repeat (first | refine zs1 ?_ | (refine zcl Try.func9 (impl_ChangedSlots.calls k R C s f _ _ la n R' C' s' f' _ _ lb n' ch _ (zCs Sa) (Kd.S_reads' Sa.out).2.1 (zCs Sb) (Kd.S_reads' Sb.out).2.1 H6.out) ?_; rintro e w28 ⟨vh, rfl, ho, hb⟩; have Rh := zRn ho; obtain ⟨Ah, ch_, eh⟩ := Kd.R_slice Rh.out; subst eh; replace Rw := zR Rw hb; replace Rq := zR Rq hb; replace BK2 := zk BK2 hb; replace BK3 := zk BK3 hb; replace HB := zB hb; refine ⟨_, rfl, zHb hb hHeld, _, znb, fun hHeld => ?_⟩) | (refine zcl Try.func8 (laws_toDraft.calls k R' C' s' f' _ _ l' n' R' C' s' f' lb n' _ (zCb HRb) HCb.out Hb.out) ?_; rintro e w27 ⟨v78, rfl, ho, hb⟩; have Sb := zSn ho; replace Sa := zS Sa hb; obtain ⟨Ab2, cb2, eb⟩ := Kd.S_slice Sb.out; subst eb; replace Rw := zR Rw hb; replace Rq := zR Rq hb; replace BK2 := zk BK2 hb; replace BK3 := zk BK3 hb; replace HB := zB hb; refine ⟨_, rfl, zHb hb hHeld, _, znb, fun hHeld => ?_⟩) | (refine zcl Try.func8 (laws_toDraft.calls k R C s f _ _ l n R C s f la n _ (zCb HRa) HCa.out Ha.out) ?_; rintro e w26 ⟨v76, rfl, ho, hb⟩; have Sa := zSn ho; obtain ⟨Aa2, ca2, ea⟩ := Kd.S_slice Sa.out; subst ea; replace Rw := zR Rw hb; replace Rq := zR Rq hb; replace BK2 := zk BK2 hb; replace BK3 := zk BK3 hb; replace HB := zB hb; refine ⟨_, rfl, zHb hb hHeld, _, znb, fun hHeld => ?_⟩))
  refine zdn ?_
  go_wp2_with (first | ((with_reducible refine zd 82 rfl ?_); refine zgl Try.func10 (laws_eqIntS.calls k _ _ ch _ _ ch true _ (zCr Rh) (Kd.R_reads' Rh.out).2.1 (zCr Rw) (Kd.R_reads' Rw.out).2.1 H7.out) ?_; rintro e w' ⟨rfl, ⟨nd, rfl⟩⟩; refine ⟨_, rfl, ?_⟩) | ((with_reducible refine zd 86 rfl ?_); refine zgl Try.func14 (laws_heldIntS.calls k _ _ q 1 mm _ (zCr Rq) (by rw [HQL.out]; exact (Kd.R_reads' Rq.out).2.1) H13.out) ?_ (hargs := by rw [HQL.out]; (try simp only [List.map_toArray, List.map_cons, List.map_nil]); first | done | rfl); rintro e w' ⟨rfl, ⟨nd, rfl⟩⟩; refine ⟨_, rfl, ?_⟩))
  go_ret
  exact ⟨rfl, bel⟩

end Go.Proofs.Ytpcdfjcbjbkliaa.E
