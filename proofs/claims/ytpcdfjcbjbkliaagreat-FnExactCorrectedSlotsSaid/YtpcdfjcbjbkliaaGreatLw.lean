import Derived.Test.YtpcdfjcbjbkliaaGreatMs
import Derived.Test.YtpcdfjcbjbkliaaGreatMd
import Derived.Test.YtpcdfjcbjbkliaaGreatQx
namespace Go.Proofs.YtpcdfjcbjbkliaaGreat.E
open Go.RowKit Go.Proofs.YtpcdfjcbjbkliaaGreatW.PrintWords Go.Proofs.YtpcdfjcbjbkliaaGreatW.PrintLast Go.Proofs.YtpcdfjcbjbkliaaGreatW.PrintMore
attribute [local go_sem] max2_int min2_int max_two min_two max_three min_three max_four min_four
set_option linter.unusedVariables false
set_option linter.unusedSimpArgs false
/-- What the law of CorrectedSlots comes to: it stops at a size, or every step tells what the true way wants. -/
def laws_FnExactCorrectedSlots.Fine (k : Nat) (m R C : Int) (s : ByteArray) (l : List S83) (t : List Int) (n : Int) (f : ByteArray) (o u : Int) (q : List S85) (tk : Int) : Prop :=
  (∃ v1, laws_szIssue.f k m R C s l t n f o u 1048576 = some v1 ∧ v1 < 0) ∨
  (∃ v1 v2, laws_szIssue.f k m R C s l t n f o u 1048576 = some v1 ∧ ¬ v1 < 0 ∧ laws_szCorrectionS.f k q v1 = some v2 ∧ v2 < 0) ∨
  (∃ v1 v2, laws_szIssue.f k m R C s l t n f o u 1048576 = some v1 ∧ ¬ v1 < 0 ∧ laws_szCorrectionS.f k q v1 = some v2 ∧ ¬ v2 < 0 ∧ ∃ (la : List S89) (lc : List S91) (ch : List Int) (r1 r2 r3 : Int) (m1 : List S89) (t2 : List Int) (m2 : List S91) (qq : List Int) (mm : Int),
    laws_toIssue.f k m R C s l t n f o u = some (m, R, C, s, la, t, n, f, o, u) ∧ laws_toCorrectionS.f k q = some lc ∧ spec_CorrectedSlots.f k m R C s la t n f o u lc tk = some ch ∧ impl_CorrectedSlots.f k m R C s la t n f o u lc tk = some ch ∧
    laws_eqIntS.f k ch ch = some true ∧ laws_eqIssue.f k m R C s la t n f o u m R C s la t n f o u = some true ∧ laws_eqCorrectionS.f k lc lc = some true ∧ laws_markClueS.f k la 1 = some (r1, m1) ∧ laws_markIntS.f k t r1 = some (r2, t2) ∧ laws_markCorrectionS.f k lc r2 = some (r3, m2) ∧ ¬ r3 < 0 ∧
    laws_markIntS.f k ch 1 = some (mm, qq) ∧ laws_heldIntS.f k qq 1 = some mm ∧ ¬ mm < 0)
set_option maxHeartbeats 8000000 in
set_option maxRecDepth 100000 in
theorem laws_FnExactCorrectedSlots.calls (k : Nat) (m R C : Int) (s : ByteArray) (A : Option Addr) (c : Nat) (l : List S83) (B : Option Addr) (b : Nat) (t : List Int) (n : Int) (f : ByteArray) (o u : Int) (D : Option Addr) (d : Nat) (q : List S85) (tk : Int) (w : World)
  (hr : Kd.C k83 w A l.length l) (hc : l.length ≤ c) (hrt : Kd.C (Kd.int .i64) w B t.length t) (hct : t.length ≤ b) (hrq : Kd.C k85 w D q.length q) (hcq : q.length ≤ d) (H : laws_FnExactCorrectedSlots.Fine k m R C s l t n f o u q tk) :
  Calls Tryz.prog 7 #[.agg #[.int .i64 m, .int .i64 R, .int .i64 C, .string s, .slice A l.length c, .slice B t.length b, .int .i64 n, .string f, .int .i64 o, .int .i64 u], .slice D q.length d, .int .i64 tk] w fun e w' => e = .returned (.bool true) ∧ Below w.heap.size w w' := by
 have hu29 := Tryz.underlying29
 have hu37 := Tryz.underlying37
 have HRa := Aside0.mk hr
 have HCa := Aside0.mk hc
 have HRt := Aside0.mk hrt
 have HCt := Aside0.mk hct
 have HRq := Aside0.mk hrq
 have HCq := Aside0.mk hcq
 clear hr hc hrt hct hrq hcq
 have HB := Aside0.mk (Below.refl w.heap.size w)
 rcases H with ⟨v1, h1, h2⟩ | ⟨v1, v2, h1, h1n, h2, h2n⟩ | ⟨v1, v2, h1, h1n, h2, h2n, la, lc, ch, r1, r2, r3, m1, t2, m2, qq, mm, ha, hb, h5, h6, h7, h8, h9, h10, h11, h12, hr3, h13, h14, hq⟩
 ·
  have H1 := Aside0.mk h1
  have hd : decide (v1 < 0) = true := decide_eq_true h2
  clear h1 h2
  go_enter Tryz.func7, Tryz.ntmps7
  go_wp2_with (first | ((with_reducible refine zd 3 rfl ?_); refine zbx (w := w) #[.int .i64 m, .int .i64 R, .int .i64 C, .string s, .slice A l.length c, .slice B t.length b, .int .i64 n, .string f, .int .i64 o, .int .i64 u] 29 ?_; intro g3 hg w3 BK3 hb; have GW3 := zg (w := w) hg; replace HB := zB hb; clear hb hg; have ⟨_, _, _, _, _, _, _, _, _, _, _, _, _, _, _, _, _, _, _, _⟩ := cz10 BK3) | ((with_reducible refine zd 18 rfl ?_); refine zgl Tryz.func10 (laws_szIssue.calls k m R C s _ _ l _ _ t n f o u 1048576 v1 _ (zCb HRa) HCa.out (zCb HRt) HCt.out H1.out) ?_; rintro e w4 ⟨rfl, hb⟩; refine ⟨_, rfl, ?_⟩; replace BK3 := zk BK3 hb; replace HB := zB hb; clear hb; have ⟨_, _, _, _, _, _, _, _, _, _, _, _, _, _, _, _, _, _, _, _⟩ := cz10 BK3))
  go_ret
  exact ⟨rfl, bel⟩
 ·
  have H1 := Aside0.mk h1
  have H2 := Aside0.mk h2
  have hd : decide (v1 < 0) = false := decide_eq_false h1n
  have hd2 : decide (v2 < 0) = true := decide_eq_true h2n
  clear h1 h2 h1n h2n
  go_enter Tryz.func7, Tryz.ntmps7
  go_wp2_with (first | ((with_reducible refine zd 3 rfl ?_); refine zbx (w := w) #[.int .i64 m, .int .i64 R, .int .i64 C, .string s, .slice A l.length c, .slice B t.length b, .int .i64 n, .string f, .int .i64 o, .int .i64 u] 29 ?_; intro g3 hg w3 BK3 hb; have GW3 := zg (w := w) hg; replace HB := zB hb; clear hb hg; have ⟨_, _, _, _, _, _, _, _, _, _, _, _, _, _, _, _, _, _, _, _⟩ := cz10 BK3) | ((with_reducible refine zd 18 rfl ?_); refine zgl Tryz.func10 (laws_szIssue.calls k m R C s _ _ l _ _ t n f o u 1048576 v1 _ (zCb HRa) HCa.out (zCb HRt) HCt.out H1.out) ?_; rintro e w4 ⟨rfl, hb⟩; refine ⟨_, rfl, ?_⟩; replace BK3 := zk BK3 hb; replace HB := zB hb; clear hb; have ⟨_, _, _, _, _, _, _, _, _, _, _, _, _, _, _, _, _, _, _, _⟩ := cz10 BK3) | ((with_reducible refine zd 23 rfl ?_); refine zgl Tryz.func23 (laws_szCorrectionS.calls k _ _ q v1 v2 _ (zCb HRq) HCq.out H2.out) ?_; rintro e w5 ⟨rfl, hb⟩; refine ⟨_, rfl, ?_⟩; replace BK3 := zk BK3 hb; replace HB := zB hb; clear hb; have ⟨_, _, _, _, _, _, _, _, _, _, _, _, _, _, _, _, _, _, _, _⟩ := cz10 BK3))
  go_ret
  exact ⟨rfl, bel⟩
 ·
  have H1 := Aside0.mk h1
  have H2 := Aside0.mk h2
  have H5 := Aside0.mk h5
  have H6 := Aside0.mk h6
  have H7 := Aside0.mk h7
  have H8 := Aside0.mk h8
  have H9 := Aside0.mk h9
  have H10 := Aside0.mk h10
  have H11 := Aside0.mk h11
  have H12 := Aside0.mk h12
  have H13 := Aside0.mk h13
  have H14 := Aside0.mk h14
  have Ha := Aside0.mk ha
  have Hb := Aside0.mk hb
  have hd : decide (v1 < 0) = false := decide_eq_false h1n
  have hd2 : decide (v2 < 0) = false := decide_eq_false h2n
  have hd3 : decide (r3 < 0) = false := decide_eq_false hr3
  have hd4 : decide (mm < 0) = false := decide_eq_false hq
  have hd5 : (mm != mm) = false := by simp
  clear h1 h2 h1n h2n h5 h6 h7 h8 h9 h10 h11 h12 h13 h14 ha hb hr3 hq
  go_enter Tryz.func7, Tryz.ntmps7
  go_wp2_with (first | ((with_reducible refine zd 3 rfl ?_); refine zbx (w := w) #[.int .i64 m, .int .i64 R, .int .i64 C, .string s, .slice A l.length c, .slice B t.length b, .int .i64 n, .string f, .int .i64 o, .int .i64 u] 29 ?_; intro g3 hg w3 BK3 hb; have GW3 := zg (w := w) hg; replace HB := zB hb; clear hb hg; have ⟨_, _, _, _, _, _, _, _, _, _, _, _, _, _, _, _, _, _, _, _⟩ := cz10 BK3) | ((with_reducible refine zd 18 rfl ?_); refine zgl Tryz.func10 (laws_szIssue.calls k m R C s _ _ l _ _ t n f o u 1048576 v1 _ (zCb HRa) HCa.out (zCb HRt) HCt.out H1.out) ?_; rintro e w4 ⟨rfl, hb⟩; refine ⟨_, rfl, ?_⟩; replace BK3 := zk BK3 hb; replace HB := zB hb; clear hb; have ⟨_, _, _, _, _, _, _, _, _, _, _, _, _, _, _, _, _, _, _, _⟩ := cz10 BK3) | ((with_reducible refine zd 23 rfl ?_); refine zgl Tryz.func23 (laws_szCorrectionS.calls k _ _ q v1 v2 _ (zCb HRq) HCq.out H2.out) ?_; rintro e w5 ⟨rfl, hb⟩; refine ⟨_, rfl, ?_⟩; replace BK3 := zk BK3 hb; replace HB := zB hb; clear hb; have ⟨_, _, _, _, _, _, _, _, _, _, _, _, _, _, _, _, _, _, _, _⟩ := cz10 BK3) | ((with_reducible refine zd 27 rfl ?_); refine zgl Tryz.func12 (laws_toIssue.calls k m R C s _ _ l _ _ t n f o u m R C s la t n f o u _ (zCb HRa) HCa.out (zCb HRt) HCt.out Ha.out) ?_; rintro e w6 ⟨v4, v5, rfl, ho, ho2, hb⟩; refine ⟨_, rfl, ?_⟩; have Sa := zSn ho; have Ta := zRn ho2; obtain ⟨Aa_, ca_, ea_⟩ := Kd.S_slice Sa.out; subst ea_; obtain ⟨Ab_, cb_, eb_⟩ := Kd.R_slice Ta.out; subst eb_; replace BK3 := zk BK3 hb; replace HB := zB hb; clear ho ho2 hb) | ((with_reducible refine zd 29 rfl ?_); refine zgl Tryz.func25 (laws_toCorrectionS.calls k _ _ q lc _ (zCb HRq) HCq.out Hb.out) ?_; rintro e w7 ⟨v6, rfl, ho, hb⟩; refine ⟨_, rfl, ?_⟩; have Sl := zSn ho; obtain ⟨Al_, cl_, el_⟩ := Kd.S_slice Sl.out; subst el_; replace Sa := zS Sa hb; replace Ta := zR Ta hb; replace BK3 := zk BK3 hb; replace HB := zB hb; clear ho hb) | ((with_reducible refine zd 31 rfl ?_); refine zgl Tryz.func24 (spec_CorrectedSlots.calls k m R C s _ _ la _ _ t n f o u _ _ lc tk ch _ (zCs Sa) (Kd.S_reads' Sa.out).2.1 (zCr Ta) (Kd.R_reads' Ta.out).2.1 (zCs Sl) (Kd.S_reads' Sl.out).2.1 H5.out) ?_; rintro e w8 ⟨v7, rfl, ho, hb⟩; refine ⟨_, rfl, ?_⟩; have Rw := zRn ho; obtain ⟨Aw_, cw_, ew_⟩ := Kd.R_slice Rw.out; subst ew_; replace BK3 := zk BK3 hb; replace HB := zB hb; clear ho hb Sa Ta Sl; have ⟨_, _, _, _, _, _, _, _, _, _, _, _, _, _, _, _, _, _, _, _⟩ := cz10 BK3) | ((with_reducible refine zd 33 rfl ?_); refine zgl Tryz.func12 (laws_toIssue.calls k m R C s _ _ l _ _ t n f o u m R C s la t n f o u _ (zCb HRa) HCa.out (zCb HRt) HCt.out Ha.out) ?_; rintro e w9 ⟨v8, v9, rfl, ho, ho2, hb⟩; refine ⟨_, rfl, ?_⟩; have L3 := zlt BK3 hb; have Sx := zSn ho; have Tx := zRn ho2; replace Rw := zRo (kr Rw) hb; obtain ⟨Ax_, cx_, ex_⟩ := Kd.S_slice Sx.out; subst ex_; obtain ⟨Ay_, cy_, ey_⟩ := Kd.R_slice Tx.out; subst ey_; replace BK3 := zk BK3 hb; replace HB := zB hb; clear ho ho2 hb; have ⟨_, _, _, _, _, _, _, _, _, _, _, _, _, _, _, _, _, _, _, _⟩ := cz10 BK3) | ((with_reducible refine zd 9 rfl ?_); refine zbx (w := w) #[.int .i64 0, .int .i64 0, .int .i64 0, .string (⟨#[]⟩ : ByteArray), .slice none 0 0, .slice none 0 0, .int .i64 0, .string (⟨#[]⟩ : ByteArray), .int .i64 0, .int .i64 0] 37 ?_; intro g9 hg w10 BK9 hb; have GW9 := zg (w := w) hg; have NB39 := zn hg BK3; have NB93 := zm hg BK3; replace Sx := zSo (ks Sx) hb; replace Tx := zRo (kr Tx) hb; replace Rw := zR Rw hb; replace BK3 := zk BK3 hb; replace HB := zB hb; clear hb hg; have hn39 := NB39.out; have hn93 := NB93.out; have ⟨_, _, _, _, _, _, _, _, _, _, _, _, _, _, _, _, _, _, _, _⟩ := cz10 BK9; have ⟨_, _, _, _, _, _, _, _, _, _, _, _, _, _, _, _, _, _, _, _⟩ := cz10 BK3) | ((with_reducible refine zd 35 rfl ?_); refine zgl Tryz.func25 (laws_toCorrectionS.calls k _ _ q lc _ (zCb HRq) HCq.out Hb.out) ?_; rintro e w11 ⟨v10, rfl, ho, hb⟩; refine ⟨_, rfl, ?_⟩; have L3b := zlf BK3 hb; have Sc := zSn ho; replace Sx := zSo (zSf Sx BK9) hb; replace Tx := zRo (zRf Tx BK9) hb; replace Rw := zRo (zRf Rw BK9) hb; replace BK3 := zkf BK3 hb; replace BK9 := zkf BK9 hb; replace HB := zB hb; obtain ⟨Ac_, cc_, ec_⟩ := Kd.S_slice Sc.out; subst ec_; clear ho hb; have ⟨_, _, _, _, _, _, _, _, _, _, _, _, _, _, _, _, _, _, _, _⟩ := cz10 BK3; have ⟨_, _, _, _, _, _, _, _, _, _, _, _, _, _, _, _, _, _, _, _⟩ := cz10 BK9) | ((with_reducible refine zd 39 rfl ?_); refine zgl Tryz.func26 (impl_CorrectedSlots.calls k m R C s _ _ la _ _ t n f o u _ _ lc tk ch _ (zCs Sx) (Kd.S_reads' Sx.out).2.1 (zCr Tx) (Kd.R_reads' Tx.out).2.1 (zCs Sc) (Kd.S_reads' Sc.out).2.1 H6.out) ?_; rintro e w12 ⟨v11, rfl, ho, hb⟩; refine ⟨_, rfl, ?_⟩; have L3c := zlt BK3 hb; have Rg := zRn ho; replace Sx := zSo (ks Sx) hb; replace Tx := zRo (kr Tx) hb; replace Sc := zSo (ks Sc) hb; replace Rw := zRo (kr Rw) hb; replace BK3 := zk BK3 hb; replace BK9 := zk BK9 hb; replace HB := zB hb; obtain ⟨Ag_, cg_, eg_⟩ := Kd.R_slice Rg.out; subst eg_; clear ho hb) | ((with_reducible refine zd 42 rfl ?_); refine zgl Tryz.func27 (laws_eqIntS.calls k _ _ ch _ _ ch true _ (zCr Rg) (Kd.R_reads' Rg.out).2.1 (zCr Rw) (Kd.R_reads' Rw.out).2.1 H7.out) ?_; rintro e w' ⟨rfl, ⟨nd, rfl⟩⟩; refine ⟨_, rfl, ?_⟩; skip))
  refine zsw 5 rfl fun w14 hw_ => ?_
  replace Sx := zSv hw_ Sx
  replace Sc := zSv hw_ Sc
  replace Tx := zRv hw_ Tx
  replace Rw := zRv hw_ Rw
  replace Rg := zRv hw_ Rg
  replace BK3 := zkw hw_ BK3
  replace BK9 := zkw hw_ BK9
  replace HB := zBw hw_
  clear hw_
  refine ⟨_, zb10 BK9 <| zb10 BK3 <| zn0, fun hHeld HT_ => ?_⟩
  repeat (first | refine zs1 ?_ | (refine zcl Tryz.func14 (laws_eqIssue.calls k m R C s _ _ la _ _ t n f o u m R C s _ _ la _ _ t n f o u true _ (zCs Sx) (Kd.S_reads' Sx.out).2.1 (zCr Tx) (Kd.R_reads' Tx.out).2.1 (zCs St) (Kd.S_reads' St.out).2.1 (zCr Tt) (Kd.R_reads' Tt.out).2.1 H8.out) ?_; rintro e w16 ⟨rfl, hb⟩; replace Sx := zS Sx hb; replace Sc := zS Sc hb; replace Tx := zR Tx hb; replace Rw := zR Rw hb; replace Rg := zR Rg hb; replace BK3 := zk BK3 hb; replace BK9 := zk BK9 hb; replace HB := zB hb; refine ⟨_, rfl, zHb hb hHeld, _, znb, fun hHeld => ?_⟩) | (refine zcl Tryz.func12 (laws_toIssue.calls k m R C s _ _ l _ _ t n f o u m R C s la t n f o u _ (zCb HRa) HCa.out (zCb HRt) HCt.out Ha.out) ?_; rintro e w15 ⟨v12, v13, rfl, ho, ho2, hb⟩; have St := zSn ho; have Tt := zRn ho2; obtain ⟨At_, ct_, et_⟩ := Kd.S_slice St.out; subst et_; obtain ⟨Au_, cu_, eu_⟩ := Kd.R_slice Tt.out; subst eu_; replace Sx := zS Sx hb; replace Sc := zS Sc hb; replace Tx := zR Tx hb; replace Rw := zR Rw hb; replace Rg := zR Rg hb; replace BK3 := zk BK3 hb; replace BK9 := zk BK9 hb; replace HB := zB hb; refine ⟨_, rfl, zHb hb hHeld, _, znb, fun hHeld => ?_⟩))
  refine zdn ?_
  clear St Tt
  go_wp2_with (first | ((with_reducible refine zd 51 rfl ?_); refine zgl Tryz.func25 (laws_toCorrectionS.calls k _ _ q lc _ (zCb HRq) HCq.out Hb.out) ?_; rintro e w17 ⟨v14, rfl, ho, hb⟩; refine ⟨_, rfl, ?_⟩; have Sd := zSn ho; obtain ⟨Ad_, cd_, ed_⟩ := Kd.S_slice Sd.out; subst ed_; replace Sx := zS Sx hb; replace Sc := zS Sc hb; replace Tx := zR Tx hb; replace Rw := zR Rw hb; replace Rg := zR Rg hb; replace BK3 := zk BK3 hb; replace BK9 := zk BK9 hb; replace HB := zB hb; clear ho hb) | ((with_reducible refine zd 52 rfl ?_); refine zgl Tryz.func28 (laws_eqCorrectionS.calls k _ _ lc _ _ lc true _ (zCs Sc) (Kd.S_reads' Sc.out).2.1 (zCs Sd) (Kd.S_reads' Sd.out).2.1 H9.out) ?_; rintro e w18 ⟨rfl, hb⟩; refine ⟨_, rfl, ?_⟩; replace Sx := zS Sx hb; replace Sc := zS Sc hb; replace Tx := zR Tx hb; replace Rw := zR Rw hb; replace Rg := zR Rg hb; replace BK3 := zk BK3 hb; replace BK9 := zk BK9 hb; replace HB := zB hb; clear hb Sd; have ⟨_, _, _, _, _, _, _, _, _, _, _, _, _, _, _, _, _, _, _, _⟩ := cz10 BK9) | ((with_reducible refine zd 56 rfl ?_); refine zgl Tryz.func29 (laws_markIssue.calls k m R C s _ _ la _ _ t n f o u 1 r1 r2 m1 t2 _ w _ bel (ks Sx) (kr Tx) H10.out H11.out) ?_; rintro e w20 ⟨rfl, hb, hk⟩; refine ⟨_, rfl, ?_⟩; replace Rw := zRk Rw hk (fun k_ a b => by omega); replace Rg := zRk Rg hk (fun k_ a b => by omega); replace Sc := zSk Sc hk (fun k_ a b => by omega); replace BK3 := zkk BK3 hk (fun a => by have := L3.out; omega); replace HB := Aside0.mk hb; clear hb hk Sx Tx BK9) | ((with_reducible refine zd 59 rfl ?_); refine zgl Tryz.func30 (laws_markCorrectionS.calls k _ lc r2 r3 m2 _ w _ bel (ks Sc) H12.out) ?_; rintro e w21 ⟨rfl, hs, hb, hk⟩; refine ⟨_, rfl, ?_⟩; replace Rw := zRk Rw hk (fun k_ a b => by omega); replace Rg := zRk Rg hk (fun k_ a b => by omega); replace BK3 := zkk BK3 hk (fun a => by have := L3b.out; omega); replace HB := Aside0.mk hb; clear hs hb hk Sc) | ((with_reducible refine zd 65 rfl ?_); refine gate_guard (by rfl) ?_; dsimp only; refine zgl Tryz.func27 (laws_eqIntS.calls k _ _ ch _ _ ch true _ (zCr Rg) (Kd.R_reads' Rg.out).2.1 (zCr Rw) (Kd.R_reads' Rw.out).2.1 H7.out) ?_; rintro e w' ⟨rfl, ⟨nd, rfl⟩⟩; refine ⟨_, rfl, ?_⟩) | ((with_reducible refine zd 70 rfl ?_); refine zgl Tryz.func31 (laws_markIntS.calls k _ _ ch 1 mm qq w _ bel (kr Rg) H13.out) ?_; rintro e w24 ⟨rfl, hs, hb, hk⟩; refine ⟨_, rfl, ?_⟩; replace Rw := zRk Rw hk (fun k_ a b => by omega); replace BK3 := zkk BK3 hk (fun a => by have := L3c.out; omega); replace HB := Aside0.mk hb; have Rq := Aside0.mk hs; have HQL := Aside0.mk (Kd.R_reads' hs).1.symm; clear hs hb hk Rg; have ⟨_, _, _, _, _, _, _, _, _, _, _, _, _, _, _, _, _, _, _, _⟩ := cz10 BK3) | ((with_reducible refine zd 73 rfl ?_); refine zgl Tryz.func32 (laws_heldIntS.calls k _ _ qq 1 mm _ (zCr Rq) (by rw [HQL.out]; exact (Kd.R_reads' Rq.out).2.1) H14.out) ?_ (hargs := by rw [HQL.out]; (try simp only [List.map_toArray, List.map_cons, List.map_nil]); first | done | rfl); rintro e w' ⟨rfl, ⟨nd, rfl⟩⟩; refine ⟨_, rfl, ?_⟩) | ((with_reducible refine zd 80 rfl ?_); refine zgl Tryz.func12 (laws_toIssue.calls k m R C s _ _ l _ _ t n f o u m R C s la t n f o u _ (zCb HRa) HCa.out (zCb HRt) HCt.out Ha.out) ?_; rintro e w25 ⟨v15, v16, rfl, ho, ho2, hb⟩; refine ⟨_, rfl, ?_⟩; have Sa := zSn ho; have Ta := zRn ho2; obtain ⟨Ap_, cp_, ep_⟩ := Kd.S_slice Sa.out; subst ep_; obtain ⟨Aq_, cq_, eq_⟩ := Kd.R_slice Ta.out; subst eq_; replace Rw := zR Rw hb; replace Rq := zR Rq hb; replace HB := zB hb; clear ho ho2 hb) | ((with_reducible refine zd 82 rfl ?_); refine zgl Tryz.func25 (laws_toCorrectionS.calls k _ _ q lc _ (zCb HRq) HCq.out Hb.out) ?_; rintro e w26 ⟨v17, rfl, ho, hb⟩; refine ⟨_, rfl, ?_⟩; have Sl := zSn ho; obtain ⟨Ar_, cr_, er_⟩ := Kd.S_slice Sl.out; subst er_; replace Sa := zS Sa hb; replace Ta := zR Ta hb; replace Rw := zR Rw hb; replace Rq := zR Rq hb; replace HB := zB hb; clear ho hb) | ((with_reducible refine zd 84 rfl ?_); refine zgl Tryz.func26 (impl_CorrectedSlots.calls k m R C s _ _ la _ _ t n f o u _ _ lc tk ch _ (zCs Sa) (Kd.S_reads' Sa.out).2.1 (zCr Ta) (Kd.R_reads' Ta.out).2.1 (zCs Sl) (Kd.S_reads' Sl.out).2.1 H6.out) ?_; rintro e w27 ⟨v18, rfl, ho, hb⟩; refine ⟨_, rfl, ?_⟩; have Rh := zRn ho; obtain ⟨Ah_, ch_, eh_⟩ := Kd.R_slice Rh.out; subst eh_; replace Rw := zR Rw hb; replace Rq := zR Rq hb; replace HB := zB hb; clear ho hb Sa Ta Sl) | ((with_reducible refine zd 87 rfl ?_); refine zgl Tryz.func27 (laws_eqIntS.calls k _ _ ch _ _ ch true _ (zCr Rh) (Kd.R_reads' Rh.out).2.1 (zCr Rw) (Kd.R_reads' Rw.out).2.1 H7.out) ?_; rintro e w' ⟨rfl, ⟨nd, rfl⟩⟩; refine ⟨_, rfl, ?_⟩; skip) | ((with_reducible refine zd 91 rfl ?_); refine zgl Tryz.func32 (laws_heldIntS.calls k _ _ qq 1 mm _ (zCr Rq) (by rw [HQL.out]; exact (Kd.R_reads' Rq.out).2.1) H14.out) ?_ (hargs := by rw [HQL.out]; (try simp only [List.map_toArray, List.map_cons, List.map_nil]); first | done | rfl); rintro e w' ⟨rfl, ⟨nd, rfl⟩⟩; refine ⟨_, rfl, ?_⟩))
  go_ret
  exact ⟨rfl, bel⟩
end Go.Proofs.YtpcdfjcbjbkliaaGreat.E
