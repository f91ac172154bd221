import Derived.Test.YthhccabdlajngaaFrmV
import Derived.Test.YthhccabdlajngaaCodB
namespace Go.Proofs.Ythhccabdlajngaa.FrmW
open Go Go.Sim Go.Sim.E Go.RowKit Go.Proofs Go.Proofs.Ythhccabdlajngaa.Cod Go.Proofs.Ythhccabdlajngaa.Tab Go.Proofs.Ythhccabdlajngaa.Bse Go.Proofs.Ythhccabdlajngaa.Krc Go.Proofs.Ythhccabdlajngaa.FrmA Go.Proofs.Ythhccabdlajngaa.FrmB Go.Proofs.Ythhccabdlajngaa.FrmC Go.Proofs.Ythhccabdlajngaa.FrmD Go.Proofs.Ythhccabdlajngaa.FrmE Go.Proofs.Ythhccabdlajngaa.FrmF Go.Proofs.Ythhccabdlajngaa.FrmN Go.Proofs.Ythhccabdlajngaa.FrmO Go.Proofs.Ythhccabdlajngaa.FrmO Go.Proofs.Ythhccabdlajngaa.FrmP Go.Proofs.Ythhccabdlajngaa.FrmQ Go.Proofs.Ythhccabdlajngaa.FrmR Go.Proofs.Ythhccabdlajngaa.FrmS Go.Proofs.Ythhccabdlajngaa.FrmT Go.Proofs.Ythhccabdlajngaa.FrmU Go.Proofs.Ythhccabdlajngaa.FrmV
set_option linter.unusedVariables false
set_option linter.unusedSimpArgs false
set_option maxRecDepth 100000
set_option maxHeartbeats 4000000
theorem far_le {f : Fm} (h : farF f = false) : f.d.length ≤ 600 ∧ f.r.length ≤ 20 := by
  unfold farF at h
  by_cases h1 : 600 < f.d.length
  · rw [if_pos h1] at h; cases h
  · rw [if_neg h1] at h
    have := of_decide_eq_false h
    omega
theorem layF_len (f : Fm) (hd : f.d.length ≤ 600) (hr : f.r.length ≤ 20) : (layF f).1.length ≤ 1100 := by
  have := bodyF_len (bare f)
  have hbl := bare_len f
  unfold layF
  split
  · rw [slB_length, List.length_append]
    have : (hdB f).length = 28 := by simp [hdB, beN_length, f.t.2]
    omega
  · simp
theorem layF_byt (f : Fm) (hf : fok f) : byt8 (layF f).1 := by
  unfold layF
  split
  · exact byt8_app (rows_byt f hf) (le4_byt _)
  · intro x hx; cases hx
theorem xor_u8 (a b : Nat) (ha : a < 256) (hb : b < 256) : bits .xor .u8 (a : Int) (b : Int) = ((a ^^^ b : Nat) : Int) := by
  have h : a ^^^ b < 256 := Nat.xor_lt_two_pow (n := 8) ha hb
  have ha' : a % 2 ^ IntKind.u8.bits = a := Nat.mod_eq_of_lt ha
  have hb' : b % 2 ^ IntKind.u8.bits = b := Nat.mod_eq_of_lt hb
  simp only [bits, BitVec.ofInt_natCast, BitVec.toNat_xor, BitVec.toNat_ofNat, ha', hb']
  rw [IntKind.wrap_u8]
  omega
def yF (y0 y1 y2 y3 : Int) (i : Nat) : Nat := ([y0, y1, y2, y3].getD i 0).toNat
def i6 (z : List Int) (y0 y1 y2 y3 : Int) (K m : Nat) (st : St) : Prop := ∃ i : Nat, i + m = 4 ∧ st = ⟨[(7, .lv 0 0 z.length), (9, I (IN K)), (46, .ag [Y y0, Y y1, Y y2, Y y3]), (47, I (IN i))], [(0, ⟨cB (FD.T z K (yF y0 y1 y2 y3) i), 1, 0⟩)], 1⟩
theorem law6 (f : Fm) (a y0 y1 y2 y3 : Int) (hf : fok f) (ha : 0 ≤ a ∧ a < 65536) (r0 : 0 ≤ y0 ∧ y0 < 256) (r1 : 0 ≤ y1 ∧ y1 < 256) (r2 : 0 ≤ y2 ∧ y2 < 256) (r3 : 0 ≤ y3 ∧ y3 < 256) : Con Try.prog 6 [] [.ag (fr f), .sc (.int .u16 a), .ag [Y y0, Y y1, Y y2, Y y3]] [] (Bo true) := by
  have hfar := far_con f
  by_cases h : farF f = true
  · rw [h] at hfar
    obtain ⟨k, t, es, er, o, n, su, d, r, c⟩ := f
    simp only [fr] at hfar ⊢
    clear hf
    refine con_j b6 rfl ?_
    sym =>
    simp [Zaa,Zab,Zad,Zae,Zaf,Zag,Zah,Zai,Zak,Zal,Zam,Zan,Zao,Zap,Zaq,Zav,Zaw,Zay,Zaz,Za0,Za1,Za2,Za3,Za4,Za5,Za6,Za7,Za8,Za9,Zba,Zbb,Zbd,Zbf,Zbh,Zbl,Zbt,Zb1,Zb3,Zb7,Zb9,Zcn,Zcv,Zcx,Zc3,Zdc,Zdd,Zde,Zdi,Zev,Zew,Zex,Zez,Ze0,Ze1,Ze2,Ze3,Ze5,Ze8,Zfc,Zfd,Zfe,Zfh,Zfi,Zfj,Zfl,Zfn,Zfq,Zfr,Zfu,Zfx,Zfz,Zf0,Zf1,Zga,Zgb,Zgh,Zgi,Zgr,Zgs,Zgt,Zgv,Zg4,Zg5,Zg7,Zg8,Zhb,Zhc,Zhd,Zhe,Zhf,Zho,Zh6,Zh9,Zin,Zio,Zip,Ziu,Ziv,Ziw,Zi6,Zi7,Zjh,Zji,Zjn,Zjw,Zj7,Zka,Zkv,Zky,Zk0,Zk1,Zk4,Zla,Zlb,Zle,Zlf,Zlh,Zlm,Zls,Zlt,Zlx,Zlz,Zl0,Zl1,Zl2,Zl3,Zl4,Zl6,Zml,Zms,Zmt,Zmv,Zmw,Zmx,Zmz,Zm2,Zm5,Zm6,Zm7,Zm9,Zna,Znb,Zne,Znf,Zng,Znh,Znn,Zno,Znr,Zns,Znt,Znw,Zny,Zn1,Zn5,Zn9,Zok,Zol,Zom,Zor,Zos,Zot,Zo3,Zo4,Zo6,Zo7,Zo8,Zo9,Zpa,Zpc,Zpo,Zp8,Zqb,Zqc,Zqf,Zqg,Zqh,Zqi,Zqk,Zql,Zqm,Zqn,List.append_assoc,List.length_append,eq_self,true_and,and_true,Nat.zero_add,Nat.mul_one,zF_fc,fc_0,fc_17,fc_18,fc_19,fc_20,fc_53,fc_54,fc_55,fs_0,fs_17,fs_18,fs_19,fs_20,fs_53,fs_54,fs_55,fp_1,fp_21,fp_f,rb_1,rb_21,rb_0,fc_len,fc_ok,fc_id,fc_rs,v16,v32,cB_cells,fz_fc,fcF1,flL_fz,callable_7]
    tactic =>
    refine cl none (hfar) trivial ?_
    sym =>
    simp [Zaa,Zab,Zad,Zae,Zaf,Zag,Zah,Zai,Zak,Zal,Zam,Zan,Zao,Zap,Zaq,Zav,Zaw,Zay,Zaz,Za0,Za1,Za2,Za3,Za4,Za5,Za6,Za7,Za8,Za9,Zba,Zbb,Zbd,Zbf,Zbh,Zbl,Zbt,Zb1,Zb3,Zb7,Zb9,Zcn,Zcv,Zcx,Zc3,Zdc,Zdd,Zde,Zdi,Zev,Zew,Zex,Zez,Ze0,Ze1,Ze2,Ze3,Ze5,Ze8,Zfc,Zfd,Zfe,Zfh,Zfi,Zfj,Zfl,Zfn,Zfq,Zfr,Zfu,Zfx,Zfz,Zf0,Zf1,Zga,Zgb,Zgh,Zgi,Zgr,Zgs,Zgt,Zgv,Zg4,Zg5,Zg7,Zg8,Zhb,Zhc,Zhd,Zhe,Zhf,Zho,Zh6,Zh9,Zin,Zio,Zip,Ziu,Ziv,Ziw,Zi6,Zi7,Zjh,Zji,Zjn,Zjw,Zj7,Zka,Zkv,Zky,Zk0,Zk1,Zk4,Zla,Zlb,Zle,Zlf,Zlh,Zlm,Zls,Zlt,Zlx,Zlz,Zl0,Zl1,Zl2,Zl3,Zl4,Zl6,Zml,Zms,Zmt,Zmv,Zmw,Zmx,Zmz,Zm2,Zm5,Zm6,Zm7,Zm9,Zna,Znb,Zne,Znf,Zng,Znh,Znn,Zno,Znr,Zns,Znt,Znw,Zny,Zn1,Zn5,Zn9,Zok,Zol,Zom,Zor,Zos,Zot,Zo3,Zo4,Zo6,Zo7,Zo8,Zo9,Zpa,Zpc,Zpo,Zp8,Zqb,Zqc,Zqf,Zqg,Zqh,Zqi,Zqk,Zql,Zqm,Zqn,List.append_assoc,List.length_append,eq_self,true_and,and_true,Nat.zero_add,Nat.mul_one,callable_8]
    tactic =>
    refine cl none (alive_con) trivial ?_
    sym =>
    simp [Zaa,Zab,Zad,Zae,Zaf,Zag,Zah,Zai,Zak,Zal,Zam,Zan,Zao,Zap,Zaq,Zav,Zaw,Zay,Zaz,Za0,Za1,Za2,Za3,Za4,Za5,Za6,Za7,Za8,Za9,Zba,Zbb,Zbd,Zbf,Zbh,Zbl,Zbt,Zb1,Zb3,Zb7,Zb9,Zcn,Zcv,Zcx,Zc3,Zdc,Zdd,Zde,Zdi,Zev,Zew,Zex,Zez,Ze0,Ze1,Ze2,Ze3,Ze5,Ze8,Zfc,Zfd,Zfe,Zfh,Zfi,Zfj,Zfl,Zfn,Zfq,Zfr,Zfu,Zfx,Zfz,Zf0,Zf1,Zga,Zgb,Zgh,Zgi,Zgr,Zgs,Zgt,Zgv,Zg4,Zg5,Zg7,Zg8,Zhb,Zhc,Zhd,Zhe,Zhf,Zho,Zh6,Zh9,Zin,Zio,Zip,Ziu,Ziv,Ziw,Zi6,Zi7,Zjh,Zji,Zjn,Zjw,Zj7,Zka,Zkv,Zky,Zk0,Zk1,Zk4,Zla,Zlb,Zle,Zlf,Zlh,Zlm,Zls,Zlt,Zlx,Zlz,Zl0,Zl1,Zl2,Zl3,Zl4,Zl6,Zml,Zms,Zmt,Zmv,Zmw,Zmx,Zmz,Zm2,Zm5,Zm6,Zm7,Zm9,Zna,Znb,Zne,Znf,Zng,Znh,Znn,Zno,Znr,Zns,Znt,Znw,Zny,Zn1,Zn5,Zn9,Zok,Zol,Zom,Zor,Zos,Zot,Zo3,Zo4,Zo6,Zo7,Zo8,Zo9,Zpa,Zpc,Zpo,Zp8,Zqb,Zqc,Zqf,Zqg,Zqh,Zqi,Zqk,Zql,Zqm,Zqn,List.append_assoc,List.length_append,eq_self,true_and,and_true,Nat.zero_add,Nat.mul_one]
    tactic =>
    refine endA ?_
    sym =>
    simp [Zaa,Zab,Zad,Zae,Zaf,Zag,Zah,Zai,Zak,Zal,Zam,Zan,Zao,Zap,Zaq,Zav,Zaw,Zay,Zaz,Za0,Za1,Za2,Za3,Za4,Za5,Za6,Za7,Za8,Za9,Zba,Zbb,Zbd,Zbf,Zbh,Zbl,Zbt,Zb1,Zb3,Zb7,Zb9,Zcn,Zcv,Zcx,Zc3,Zdc,Zdd,Zde,Zdi,Zev,Zew,Zex,Zez,Ze0,Ze1,Ze2,Ze3,Ze5,Ze8,Zfc,Zfd,Zfe,Zfh,Zfi,Zfj,Zfl,Zfn,Zfq,Zfr,Zfu,Zfx,Zfz,Zf0,Zf1,Zga,Zgb,Zgh,Zgi,Zgr,Zgs,Zgt,Zgv,Zg4,Zg5,Zg7,Zg8,Zhb,Zhc,Zhd,Zhe,Zhf,Zho,Zh6,Zh9,Zin,Zio,Zip,Ziu,Ziv,Ziw,Zi6,Zi7,Zjh,Zji,Zjn,Zjw,Zj7,Zka,Zkv,Zky,Zk0,Zk1,Zk4,Zla,Zlb,Zle,Zlf,Zlh,Zlm,Zls,Zlt,Zlx,Zlz,Zl0,Zl1,Zl2,Zl3,Zl4,Zl6,Zml,Zms,Zmt,Zmv,Zmw,Zmx,Zmz,Zm2,Zm5,Zm6,Zm7,Zm9,Zna,Znb,Zne,Znf,Zng,Znh,Znn,Zno,Znr,Zns,Znt,Znw,Zny,Zn1,Zn5,Zn9,Zok,Zol,Zom,Zor,Zos,Zot,Zo3,Zo4,Zo6,Zo7,Zo8,Zo9,Zpa,Zpc,Zpo,Zp8,Zqb,Zqc,Zqf,Zqg,Zqh,Zqi,Zqk,Zql,Zqm,Zqn,List.append_assoc,List.length_append,eq_self,true_and,and_true,Nat.zero_add,Nat.mul_one]
  have h' : farF f = false := by simpa using h
  obtain ⟨hd, hr⟩ := far_le h'
  rw [h'] at hfar
  clear h h'
  by_cases h0 : y0 = 0 ∧ y1 = 0 ∧ y2 = 0 ∧ y3 = 0
  · obtain ⟨rfl, rfl, rfl, rfl⟩ := h0
    have heq : eqL [Y 0, Y 0, Y 0, Y 0] [Y 0, Y 0, Y 0, Y 0] = true := eqL_self _
    obtain ⟨k, t, es, er, o, n, su, d, r, c⟩ := f
    simp only [fr] at hfar ⊢
    clear hf
    refine con_j b6 rfl ?_
    sym =>
    simp [Zaa,Zab,Zad,Zae,Zaf,Zag,Zah,Zai,Zak,Zal,Zam,Zan,Zao,Zap,Zaq,Zav,Zaw,Zay,Zaz,Za0,Za1,Za2,Za3,Za4,Za5,Za6,Za7,Za8,Za9,Zba,Zbb,Zbd,Zbf,Zbh,Zbl,Zbt,Zb1,Zb3,Zb7,Zb9,Zcn,Zcv,Zcx,Zc3,Zdc,Zdd,Zde,Zdi,Zev,Zew,Zex,Zez,Ze0,Ze1,Ze2,Ze3,Ze5,Ze8,Zfc,Zfd,Zfe,Zfh,Zfi,Zfj,Zfl,Zfn,Zfq,Zfr,Zfu,Zfx,Zfz,Zf0,Zf1,Zga,Zgb,Zgh,Zgi,Zgr,Zgs,Zgt,Zgv,Zg4,Zg5,Zg7,Zg8,Zhb,Zhc,Zhd,Zhe,Zhf,Zho,Zh6,Zh9,Zin,Zio,Zip,Ziu,Ziv,Ziw,Zi6,Zi7,Zjh,Zji,Zjn,Zjw,Zj7,Zka,Zkv,Zky,Zk0,Zk1,Zk4,Zla,Zlb,Zle,Zlf,Zlh,Zlm,Zls,Zlt,Zlx,Zlz,Zl0,Zl1,Zl2,Zl3,Zl4,Zl6,Zml,Zms,Zmt,Zmv,Zmw,Zmx,Zmz,Zm2,Zm5,Zm6,Zm7,Zm9,Zna,Znb,Zne,Znf,Zng,Znh,Znn,Zno,Znr,Zns,Znt,Znw,Zny,Zn1,Zn5,Zn9,Zok,Zol,Zom,Zor,Zos,Zot,Zo3,Zo4,Zo6,Zo7,Zo8,Zo9,Zpa,Zpc,Zpo,Zp8,Zqb,Zqc,Zqf,Zqg,Zqh,Zqi,Zqk,Zql,Zqm,Zqn,List.append_assoc,List.length_append,eq_self,true_and,and_true,Nat.zero_add,Nat.mul_one,zF_fc,fc_0,fc_17,fc_18,fc_19,fc_20,fc_53,fc_54,fc_55,fs_0,fs_17,fs_18,fs_19,fs_20,fs_53,fs_54,fs_55,fp_1,fp_21,fp_f,rb_1,rb_21,rb_0,fc_len,fc_ok,fc_id,fc_rs,v16,v32,cB_cells,fz_fc,fcF1,flL_fz,callable_7]
    tactic =>
    refine cl none (hfar) trivial ?_
    sym =>
    simp [Zaa,Zab,Zad,Zae,Zaf,Zag,Zah,Zai,Zak,Zal,Zam,Zan,Zao,Zap,Zaq,Zav,Zaw,Zay,Zaz,Za0,Za1,Za2,Za3,Za4,Za5,Za6,Za7,Za8,Za9,Zba,Zbb,Zbd,Zbf,Zbh,Zbl,Zbt,Zb1,Zb3,Zb7,Zb9,Zcn,Zcv,Zcx,Zc3,Zdc,Zdd,Zde,Zdi,Zev,Zew,Zex,Zez,Ze0,Ze1,Ze2,Ze3,Ze5,Ze8,Zfc,Zfd,Zfe,Zfh,Zfi,Zfj,Zfl,Zfn,Zfq,Zfr,Zfu,Zfx,Zfz,Zf0,Zf1,Zga,Zgb,Zgh,Zgi,Zgr,Zgs,Zgt,Zgv,Zg4,Zg5,Zg7,Zg8,Zhb,Zhc,Zhd,Zhe,Zhf,Zho,Zh6,Zh9,Zin,Zio,Zip,Ziu,Ziv,Ziw,Zi6,Zi7,Zjh,Zji,Zjn,Zjw,Zj7,Zka,Zkv,Zky,Zk0,Zk1,Zk4,Zla,Zlb,Zle,Zlf,Zlh,Zlm,Zls,Zlt,Zlx,Zlz,Zl0,Zl1,Zl2,Zl3,Zl4,Zl6,Zml,Zms,Zmt,Zmv,Zmw,Zmx,Zmz,Zm2,Zm5,Zm6,Zm7,Zm9,Zna,Znb,Zne,Znf,Zng,Znh,Znn,Zno,Znr,Zns,Znt,Znw,Zny,Zn1,Zn5,Zn9,Zok,Zol,Zom,Zor,Zos,Zot,Zo3,Zo4,Zo6,Zo7,Zo8,Zo9,Zpa,Zpc,Zpo,Zp8,Zqb,Zqc,Zqf,Zqg,Zqh,Zqi,Zqk,Zql,Zqm,Zqn,List.append_assoc,List.length_append,eq_self,true_and,and_true,Nat.zero_add,Nat.mul_one,zF_fc,fc_0,fc_17,fc_18,fc_19,fc_20,fc_53,fc_54,fc_55,fs_0,fs_17,fs_18,fs_19,fs_20,fs_53,fs_54,fs_55,fp_1,fp_21,fp_f,rb_1,rb_21,rb_0,fc_len,fc_ok,fc_id,fc_rs,v16,v32,cB_cells,heq,callable_8]
    tactic =>
    refine cl none (alive_con) trivial ?_
    sym =>
    simp [Zaa,Zab,Zad,Zae,Zaf,Zag,Zah,Zai,Zak,Zal,Zam,Zan,Zao,Zap,Zaq,Zav,Zaw,Zay,Zaz,Za0,Za1,Za2,Za3,Za4,Za5,Za6,Za7,Za8,Za9,Zba,Zbb,Zbd,Zbf,Zbh,Zbl,Zbt,Zb1,Zb3,Zb7,Zb9,Zcn,Zcv,Zcx,Zc3,Zdc,Zdd,Zde,Zdi,Zev,Zew,Zex,Zez,Ze0,Ze1,Ze2,Ze3,Ze5,Ze8,Zfc,Zfd,Zfe,Zfh,Zfi,Zfj,Zfl,Zfn,Zfq,Zfr,Zfu,Zfx,Zfz,Zf0,Zf1,Zga,Zgb,Zgh,Zgi,Zgr,Zgs,Zgt,Zgv,Zg4,Zg5,Zg7,Zg8,Zhb,Zhc,Zhd,Zhe,Zhf,Zho,Zh6,Zh9,Zin,Zio,Zip,Ziu,Ziv,Ziw,Zi6,Zi7,Zjh,Zji,Zjn,Zjw,Zj7,Zka,Zkv,Zky,Zk0,Zk1,Zk4,Zla,Zlb,Zle,Zlf,Zlh,Zlm,Zls,Zlt,Zlx,Zlz,Zl0,Zl1,Zl2,Zl3,Zl4,Zl6,Zml,Zms,Zmt,Zmv,Zmw,Zmx,Zmz,Zm2,Zm5,Zm6,Zm7,Zm9,Zna,Znb,Zne,Znf,Zng,Znh,Znn,Zno,Znr,Zns,Znt,Znw,Zny,Zn1,Zn5,Zn9,Zok,Zol,Zom,Zor,Zos,Zot,Zo3,Zo4,Zo6,Zo7,Zo8,Zo9,Zpa,Zpc,Zpo,Zp8,Zqb,Zqc,Zqf,Zqg,Zqh,Zqi,Zqk,Zql,Zqm,Zqn,List.append_assoc,List.length_append,eq_self,true_and,and_true,Nat.zero_add,Nat.mul_one]
    tactic =>
    refine endA ?_
    sym =>
    simp [Zaa,Zab,Zad,Zae,Zaf,Zag,Zah,Zai,Zak,Zal,Zam,Zan,Zao,Zap,Zaq,Zav,Zaw,Zay,Zaz,Za0,Za1,Za2,Za3,Za4,Za5,Za6,Za7,Za8,Za9,Zba,Zbb,Zbd,Zbf,Zbh,Zbl,Zbt,Zb1,Zb3,Zb7,Zb9,Zcn,Zcv,Zcx,Zc3,Zdc,Zdd,Zde,Zdi,Zev,Zew,Zex,Zez,Ze0,Ze1,Ze2,Ze3,Ze5,Ze8,Zfc,Zfd,Zfe,Zfh,Zfi,Zfj,Zfl,Zfn,Zfq,Zfr,Zfu,Zfx,Zfz,Zf0,Zf1,Zga,Zgb,Zgh,Zgi,Zgr,Zgs,Zgt,Zgv,Zg4,Zg5,Zg7,Zg8,Zhb,Zhc,Zhd,Zhe,Zhf,Zho,Zh6,Zh9,Zin,Zio,Zip,Ziu,Ziv,Ziw,Zi6,Zi7,Zjh,Zji,Zjn,Zjw,Zj7,Zka,Zkv,Zky,Zk0,Zk1,Zk4,Zla,Zlb,Zle,Zlf,Zlh,Zlm,Zls,Zlt,Zlx,Zlz,Zl0,Zl1,Zl2,Zl3,Zl4,Zl6,Zml,Zms,Zmt,Zmv,Zmw,Zmx,Zmz,Zm2,Zm5,Zm6,Zm7,Zm9,Zna,Znb,Zne,Znf,Zng,Znh,Znn,Zno,Znr,Zns,Znt,Znw,Zny,Zn1,Zn5,Zn9,Zok,Zol,Zom,Zor,Zos,Zot,Zo3,Zo4,Zo6,Zo7,Zo8,Zo9,Zpa,Zpc,Zpo,Zp8,Zqb,Zqc,Zqf,Zqg,Zqh,Zqi,Zqk,Zql,Zqm,Zqn,List.append_assoc,List.length_append,eq_self,true_and,and_true,Nat.zero_add,Nat.mul_one]
  have heq : (if y0 = 0 then eqL [Y y1, Y y2, Y y3] [Y 0, Y 0, Y 0] else false) = false := by
    by_cases hz : y0 = 0
    · rw [if_pos hz]
      have h : ¬ cB [y1, y2, y3] = cB [0, 0, 0] := by
        intro e
        have := FrmD.cB_inj e
        simp at this
        exact h0 ⟨hz, this⟩
      unfold eqL
      exact @decide_eq_false _ (Classical.propDecidable _) h
    · rw [if_neg hz]
  have hth := theirs_con f (by omega)
  by_cases hm : mayF f = 0
  rotate_left
  · have hlay := flay_con f (by omega) (by omega) hf.1 hf.2.1 hf.2.2.1 hf.2.2.2.1 hf.2.2.2.2.1
    have e : layF f = ([], mayF f) := by rw [layF, if_neg hm]
    rw [e] at hlay
    obtain ⟨M, hM⟩ : ∃ M, M = mayF f := ⟨_, rfl⟩
    rw [← hM] at hlay hm
    obtain ⟨k, t, es, er, o, n, su, d, r, c⟩ := f
    simp only [fr] at hfar hth hlay ⊢
    clear hf
    refine con_j b6 rfl ?_
    sym =>
    simp [Zaa,Zab,Zad,Zae,Zaf,Zag,Zah,Zai,Zak,Zal,Zam,Zan,Zao,Zap,Zaq,Zav,Zaw,Zay,Zaz,Za0,Za1,Za2,Za3,Za4,Za5,Za6,Za7,Za8,Za9,Zba,Zbb,Zbd,Zbf,Zbh,Zbl,Zbt,Zb1,Zb3,Zb7,Zb9,Zcn,Zcv,Zcx,Zc3,Zdc,Zdd,Zde,Zdi,Zev,Zew,Zex,Zez,Ze0,Ze1,Ze2,Ze3,Ze5,Ze8,Zfc,Zfd,Zfe,Zfh,Zfi,Zfj,Zfl,Zfn,Zfq,Zfr,Zfu,Zfx,Zfz,Zf0,Zf1,Zga,Zgb,Zgh,Zgi,Zgr,Zgs,Zgt,Zgv,Zg4,Zg5,Zg7,Zg8,Zhb,Zhc,Zhd,Zhe,Zhf,Zho,Zh6,Zh9,Zin,Zio,Zip,Ziu,Ziv,Ziw,Zi6,Zi7,Zjh,Zji,Zjn,Zjw,Zj7,Zka,Zkv,Zky,Zk0,Zk1,Zk4,Zla,Zlb,Zle,Zlf,Zlh,Zlm,Zls,Zlt,Zlx,Zlz,Zl0,Zl1,Zl2,Zl3,Zl4,Zl6,Zml,Zms,Zmt,Zmv,Zmw,Zmx,Zmz,Zm2,Zm5,Zm6,Zm7,Zm9,Zna,Znb,Zne,Znf,Zng,Znh,Znn,Zno,Znr,Zns,Znt,Znw,Zny,Zn1,Zn5,Zn9,Zok,Zol,Zom,Zor,Zos,Zot,Zo3,Zo4,Zo6,Zo7,Zo8,Zo9,Zpa,Zpc,Zpo,Zp8,Zqb,Zqc,Zqf,Zqg,Zqh,Zqi,Zqk,Zql,Zqm,Zqn,List.append_assoc,List.length_append,eq_self,true_and,and_true,Nat.zero_add,Nat.mul_one,zF_fc,fc_0,fc_17,fc_18,fc_19,fc_20,fc_53,fc_54,fc_55,fs_0,fs_17,fs_18,fs_19,fs_20,fs_53,fs_54,fs_55,fp_1,fp_21,fp_f,rb_1,rb_21,rb_0,fc_len,fc_ok,fc_id,fc_rs,v16,v32,cB_cells,fz_fc,fcF1,flL_fz,callable_7]
    tactic =>
    refine cl none (hfar) trivial ?_
    sym =>
    simp [Zaa,Zab,Zad,Zae,Zaf,Zag,Zah,Zai,Zak,Zal,Zam,Zan,Zao,Zap,Zaq,Zav,Zaw,Zay,Zaz,Za0,Za1,Za2,Za3,Za4,Za5,Za6,Za7,Za8,Za9,Zba,Zbb,Zbd,Zbf,Zbh,Zbl,Zbt,Zb1,Zb3,Zb7,Zb9,Zcn,Zcv,Zcx,Zc3,Zdc,Zdd,Zde,Zdi,Zev,Zew,Zex,Zez,Ze0,Ze1,Ze2,Ze3,Ze5,Ze8,Zfc,Zfd,Zfe,Zfh,Zfi,Zfj,Zfl,Zfn,Zfq,Zfr,Zfu,Zfx,Zfz,Zf0,Zf1,Zga,Zgb,Zgh,Zgi,Zgr,Zgs,Zgt,Zgv,Zg4,Zg5,Zg7,Zg8,Zhb,Zhc,Zhd,Zhe,Zhf,Zho,Zh6,Zh9,Zin,Zio,Zip,Ziu,Ziv,Ziw,Zi6,Zi7,Zjh,Zji,Zjn,Zjw,Zj7,Zka,Zkv,Zky,Zk0,Zk1,Zk4,Zla,Zlb,Zle,Zlf,Zlh,Zlm,Zls,Zlt,Zlx,Zlz,Zl0,Zl1,Zl2,Zl3,Zl4,Zl6,Zml,Zms,Zmt,Zmv,Zmw,Zmx,Zmz,Zm2,Zm5,Zm6,Zm7,Zm9,Zna,Znb,Zne,Znf,Zng,Znh,Znn,Zno,Znr,Zns,Znt,Znw,Zny,Zn1,Zn5,Zn9,Zok,Zol,Zom,Zor,Zos,Zot,Zo3,Zo4,Zo6,Zo7,Zo8,Zo9,Zpa,Zpc,Zpo,Zp8,Zqb,Zqc,Zqf,Zqg,Zqh,Zqi,Zqk,Zql,Zqm,Zqn,List.append_assoc,List.length_append,eq_self,true_and,and_true,Nat.zero_add,Nat.mul_one,zF_fc,fc_0,fc_17,fc_18,fc_19,fc_20,fc_53,fc_54,fc_55,fs_0,fs_17,fs_18,fs_19,fs_20,fs_53,fs_54,fs_55,fp_1,fp_21,fp_f,rb_1,rb_21,rb_0,fc_len,fc_ok,fc_id,fc_rs,v16,v32,cB_cells,fz_fc,fcF1,flL_fz]
    tactic =>
    rw [heq]
    sym =>
    simp [Zaa,Zab,Zad,Zae,Zaf,Zag,Zah,Zai,Zak,Zal,Zam,Zan,Zao,Zap,Zaq,Zav,Zaw,Zay,Zaz,Za0,Za1,Za2,Za3,Za4,Za5,Za6,Za7,Za8,Za9,Zba,Zbb,Zbd,Zbf,Zbh,Zbl,Zbt,Zb1,Zb3,Zb7,Zb9,Zcn,Zcv,Zcx,Zc3,Zdc,Zdd,Zde,Zdi,Zev,Zew,Zex,Zez,Ze0,Ze1,Ze2,Ze3,Ze5,Ze8,Zfc,Zfd,Zfe,Zfh,Zfi,Zfj,Zfl,Zfn,Zfq,Zfr,Zfu,Zfx,Zfz,Zf0,Zf1,Zga,Zgb,Zgh,Zgi,Zgr,Zgs,Zgt,Zgv,Zg4,Zg5,Zg7,Zg8,Zhb,Zhc,Zhd,Zhe,Zhf,Zho,Zh6,Zh9,Zin,Zio,Zip,Ziu,Ziv,Ziw,Zi6,Zi7,Zjh,Zji,Zjn,Zjw,Zj7,Zka,Zkv,Zky,Zk0,Zk1,Zk4,Zla,Zlb,Zle,Zlf,Zlh,Zlm,Zls,Zlt,Zlx,Zlz,Zl0,Zl1,Zl2,Zl3,Zl4,Zl6,Zml,Zms,Zmt,Zmv,Zmw,Zmx,Zmz,Zm2,Zm5,Zm6,Zm7,Zm9,Zna,Znb,Zne,Znf,Zng,Znh,Znn,Zno,Znr,Zns,Znt,Znw,Zny,Zn1,Zn5,Zn9,Zok,Zol,Zom,Zor,Zos,Zot,Zo3,Zo4,Zo6,Zo7,Zo8,Zo9,Zpa,Zpc,Zpo,Zp8,Zqb,Zqc,Zqf,Zqg,Zqh,Zqi,Zqk,Zql,Zqm,Zqn,List.append_assoc,List.length_append,eq_self,true_and,and_true,Nat.zero_add,Nat.mul_one,zF_fc,fc_0,fc_17,fc_18,fc_19,fc_20,fc_53,fc_54,fc_55,fs_0,fs_17,fs_18,fs_19,fs_20,fs_53,fs_54,fs_55,fp_1,fp_21,fp_f,rb_1,rb_21,rb_0,fc_len,fc_ok,fc_id,fc_rs,v16,v32,cB_cells,fz_fc,fcF1,flL_fz,callable_10]
    tactic =>
    refine cl none (hth) trivial ?_
    sym =>
    simp [Zaa,Zab,Zad,Zae,Zaf,Zag,Zah,Zai,Zak,Zal,Zam,Zan,Zao,Zap,Zaq,Zav,Zaw,Zay,Zaz,Za0,Za1,Za2,Za3,Za4,Za5,Za6,Za7,Za8,Za9,Zba,Zbb,Zbd,Zbf,Zbh,Zbl,Zbt,Zb1,Zb3,Zb7,Zb9,Zcn,Zcv,Zcx,Zc3,Zdc,Zdd,Zde,Zdi,Zev,Zew,Zex,Zez,Ze0,Ze1,Ze2,Ze3,Ze5,Ze8,Zfc,Zfd,Zfe,Zfh,Zfi,Zfj,Zfl,Zfn,Zfq,Zfr,Zfu,Zfx,Zfz,Zf0,Zf1,Zga,Zgb,Zgh,Zgi,Zgr,Zgs,Zgt,Zgv,Zg4,Zg5,Zg7,Zg8,Zhb,Zhc,Zhd,Zhe,Zhf,Zho,Zh6,Zh9,Zin,Zio,Zip,Ziu,Ziv,Ziw,Zi6,Zi7,Zjh,Zji,Zjn,Zjw,Zj7,Zka,Zkv,Zky,Zk0,Zk1,Zk4,Zla,Zlb,Zle,Zlf,Zlh,Zlm,Zls,Zlt,Zlx,Zlz,Zl0,Zl1,Zl2,Zl3,Zl4,Zl6,Zml,Zms,Zmt,Zmv,Zmw,Zmx,Zmz,Zm2,Zm5,Zm6,Zm7,Zm9,Zna,Znb,Zne,Znf,Zng,Znh,Znn,Zno,Znr,Zns,Znt,Znw,Zny,Zn1,Zn5,Zn9,Zok,Zol,Zom,Zor,Zos,Zot,Zo3,Zo4,Zo6,Zo7,Zo8,Zo9,Zpa,Zpc,Zpo,Zp8,Zqb,Zqc,Zqf,Zqg,Zqh,Zqi,Zqk,Zql,Zqm,Zqn,List.append_assoc,List.length_append,eq_self,true_and,and_true,Nat.zero_add,Nat.mul_one,zF_fc,fc_0,fc_17,fc_18,fc_19,fc_20,fc_53,fc_54,fc_55,fs_0,fs_17,fs_18,fs_19,fs_20,fs_53,fs_54,fs_55,fp_1,fp_21,fp_f,rb_1,rb_21,rb_0,fc_len,fc_ok,fc_id,fc_rs,v16,v32,cB_cells,fz_fc,fcF1,flL_fz,callable_9]
    tactic =>
    refine cl none (hlay) trivial ?_
    sym =>
    simp [Zaa,Zab,Zad,Zae,Zaf,Zag,Zah,Zai,Zak,Zal,Zam,Zan,Zao,Zap,Zaq,Zav,Zaw,Zay,Zaz,Za0,Za1,Za2,Za3,Za4,Za5,Za6,Za7,Za8,Za9,Zba,Zbb,Zbd,Zbf,Zbh,Zbl,Zbt,Zb1,Zb3,Zb7,Zb9,Zcn,Zcv,Zcx,Zc3,Zdc,Zdd,Zde,Zdi,Zev,Zew,Zex,Zez,Ze0,Ze1,Ze2,Ze3,Ze5,Ze8,Zfc,Zfd,Zfe,Zfh,Zfi,Zfj,Zfl,Zfn,Zfq,Zfr,Zfu,Zfx,Zfz,Zf0,Zf1,Zga,Zgb,Zgh,Zgi,Zgr,Zgs,Zgt,Zgv,Zg4,Zg5,Zg7,Zg8,Zhb,Zhc,Zhd,Zhe,Zhf,Zho,Zh6,Zh9,Zin,Zio,Zip,Ziu,Ziv,Ziw,Zi6,Zi7,Zjh,Zji,Zjn,Zjw,Zj7,Zka,Zkv,Zky,Zk0,Zk1,Zk4,Zla,Zlb,Zle,Zlf,Zlh,Zlm,Zls,Zlt,Zlx,Zlz,Zl0,Zl1,Zl2,Zl3,Zl4,Zl6,Zml,Zms,Zmt,Zmv,Zmw,Zmx,Zmz,Zm2,Zm5,Zm6,Zm7,Zm9,Zna,Znb,Zne,Znf,Zng,Znh,Znn,Zno,Znr,Zns,Znt,Znw,Zny,Zn1,Zn5,Zn9,Zok,Zol,Zom,Zor,Zos,Zot,Zo3,Zo4,Zo6,Zo7,Zo8,Zo9,Zpa,Zpc,Zpo,Zp8,Zqb,Zqc,Zqf,Zqg,Zqh,Zqi,Zqk,Zql,Zqm,Zqn,List.append_assoc,List.length_append,eq_self,true_and,and_true,Nat.zero_add,Nat.mul_one,zF_fc,fc_0,fc_17,fc_18,fc_19,fc_20,fc_53,fc_54,fc_55,fs_0,fs_17,fs_18,fs_19,fs_20,fs_53,fs_54,fs_55,fp_1,fp_21,fp_f,rb_1,rb_21,rb_0,fc_len,fc_ok,fc_id,fc_rs,v16,v32,cB_cells,hm,callable_8]
    tactic =>
    refine cl none (alive_con) trivial ?_
    sym =>
    simp [Zaa,Zab,Zad,Zae,Zaf,Zag,Zah,Zai,Zak,Zal,Zam,Zan,Zao,Zap,Zaq,Zav,Zaw,Zay,Zaz,Za0,Za1,Za2,Za3,Za4,Za5,Za6,Za7,Za8,Za9,Zba,Zbb,Zbd,Zbf,Zbh,Zbl,Zbt,Zb1,Zb3,Zb7,Zb9,Zcn,Zcv,Zcx,Zc3,Zdc,Zdd,Zde,Zdi,Zev,Zew,Zex,Zez,Ze0,Ze1,Ze2,Ze3,Ze5,Ze8,Zfc,Zfd,Zfe,Zfh,Zfi,Zfj,Zfl,Zfn,Zfq,Zfr,Zfu,Zfx,Zfz,Zf0,Zf1,Zga,Zgb,Zgh,Zgi,Zgr,Zgs,Zgt,Zgv,Zg4,Zg5,Zg7,Zg8,Zhb,Zhc,Zhd,Zhe,Zhf,Zho,Zh6,Zh9,Zin,Zio,Zip,Ziu,Ziv,Ziw,Zi6,Zi7,Zjh,Zji,Zjn,Zjw,Zj7,Zka,Zkv,Zky,Zk0,Zk1,Zk4,Zla,Zlb,Zle,Zlf,Zlh,Zlm,Zls,Zlt,Zlx,Zlz,Zl0,Zl1,Zl2,Zl3,Zl4,Zl6,Zml,Zms,Zmt,Zmv,Zmw,Zmx,Zmz,Zm2,Zm5,Zm6,Zm7,Zm9,Zna,Znb,Zne,Znf,Zng,Znh,Znn,Zno,Znr,Zns,Znt,Znw,Zny,Zn1,Zn5,Zn9,Zok,Zol,Zom,Zor,Zos,Zot,Zo3,Zo4,Zo6,Zo7,Zo8,Zo9,Zpa,Zpc,Zpo,Zp8,Zqb,Zqc,Zqf,Zqg,Zqh,Zqi,Zqk,Zql,Zqm,Zqn,List.append_assoc,List.length_append,eq_self,true_and,and_true,Nat.zero_add,Nat.mul_one]
    tactic =>
    refine endA ?_
    sym =>
    simp [Zaa,Zab,Zad,Zae,Zaf,Zag,Zah,Zai,Zak,Zal,Zam,Zan,Zao,Zap,Zaq,Zav,Zaw,Zay,Zaz,Za0,Za1,Za2,Za3,Za4,Za5,Za6,Za7,Za8,Za9,Zba,Zbb,Zbd,Zbf,Zbh,Zbl,Zbt,Zb1,Zb3,Zb7,Zb9,Zcn,Zcv,Zcx,Zc3,Zdc,Zdd,Zde,Zdi,Zev,Zew,Zex,Zez,Ze0,Ze1,Ze2,Ze3,Ze5,Ze8,Zfc,Zfd,Zfe,Zfh,Zfi,Zfj,Zfl,Zfn,Zfq,Zfr,Zfu,Zfx,Zfz,Zf0,Zf1,Zga,Zgb,Zgh,Zgi,Zgr,Zgs,Zgt,Zgv,Zg4,Zg5,Zg7,Zg8,Zhb,Zhc,Zhd,Zhe,Zhf,Zho,Zh6,Zh9,Zin,Zio,Zip,Ziu,Ziv,Ziw,Zi6,Zi7,Zjh,Zji,Zjn,Zjw,Zj7,Zka,Zkv,Zky,Zk0,Zk1,Zk4,Zla,Zlb,Zle,Zlf,Zlh,Zlm,Zls,Zlt,Zlx,Zlz,Zl0,Zl1,Zl2,Zl3,Zl4,Zl6,Zml,Zms,Zmt,Zmv,Zmw,Zmx,Zmz,Zm2,Zm5,Zm6,Zm7,Zm9,Zna,Znb,Zne,Znf,Zng,Znh,Znn,Zno,Znr,Zns,Znt,Znw,Zny,Zn1,Zn5,Zn9,Zok,Zol,Zom,Zor,Zos,Zot,Zo3,Zo4,Zo6,Zo7,Zo8,Zo9,Zpa,Zpc,Zpo,Zp8,Zqb,Zqc,Zqf,Zqg,Zqh,Zqi,Zqk,Zql,Zqm,Zqn,List.append_assoc,List.length_append,eq_self,true_and,and_true,Nat.zero_add,Nat.mul_one]
  have hlay := flay_own f hm (by omega) (by omega) hf.1 hf.2.1 hf.2.2.1 hf.2.2.2.1 hf.2.2.2.2.1
  have hlb := layF_byt f hf
  have hll := layF_len f hd hr
  have e : (layF f).1 = slB (hdB f ++ bodyF (bare f)) := by rw [layF, if_pos hm]
  have h28 : (hdB f).length = 28 := by simp [hdB, beN_length, f.t.2]
  have h32 : 32 ≤ (layF f).1.length := by rw [e, slB_length, List.length_append]; omega
  have htu := opF_turned (hdB f ++ bodyF (bare f)) (rows_byt f hf)
  rw [← e] at htu
  obtain ⟨z, hz⟩ : ∃ z, z = (layF f).1 := ⟨_, rfl⟩
  rw [← hz] at hlay hlb hll h32 htu
  obtain ⟨k, t, es, er, o, n, su, d, r, c⟩ := f
  simp only [fr] at hfar hth hlay ⊢
  clear hf e h28 hz hm
  refine con_j b6 rfl ?_
  sym =>
  simp [Zaa,Zab,Zad,Zae,Zaf,Zag,Zah,Zai,Zak,Zal,Zam,Zan,Zao,Zap,Zaq,Zav,Zaw,Zay,Zaz,Za0,Za1,Za2,Za3,Za4,Za5,Za6,Za7,Za8,Za9,Zba,Zbb,Zbd,Zbf,Zbh,Zbl,Zbt,Zb1,Zb3,Zb7,Zb9,Zcn,Zcv,Zcx,Zc3,Zdc,Zdd,Zde,Zdi,Zev,Zew,Zex,Zez,Ze0,Ze1,Ze2,Ze3,Ze5,Ze8,Zfc,Zfd,Zfe,Zfh,Zfi,Zfj,Zfl,Zfn,Zfq,Zfr,Zfu,Zfx,Zfz,Zf0,Zf1,Zga,Zgb,Zgh,Zgi,Zgr,Zgs,Zgt,Zgv,Zg4,Zg5,Zg7,Zg8,Zhb,Zhc,Zhd,Zhe,Zhf,Zho,Zh6,Zh9,Zin,Zio,Zip,Ziu,Ziv,Ziw,Zi6,Zi7,Zjh,Zji,Zjn,Zjw,Zj7,Zka,Zkv,Zky,Zk0,Zk1,Zk4,Zla,Zlb,Zle,Zlf,Zlh,Zlm,Zls,Zlt,Zlx,Zlz,Zl0,Zl1,Zl2,Zl3,Zl4,Zl6,Zml,Zms,Zmt,Zmv,Zmw,Zmx,Zmz,Zm2,Zm5,Zm6,Zm7,Zm9,Zna,Znb,Zne,Znf,Zng,Znh,Znn,Zno,Znr,Zns,Znt,Znw,Zny,Zn1,Zn5,Zn9,Zok,Zol,Zom,Zor,Zos,Zot,Zo3,Zo4,Zo6,Zo7,Zo8,Zo9,Zpa,Zpc,Zpo,Zp8,Zqb,Zqc,Zqf,Zqg,Zqh,Zqi,Zqk,Zql,Zqm,Zqn,List.append_assoc,List.length_append,eq_self,true_and,and_true,Nat.zero_add,Nat.mul_one,zF_fc,fc_0,fc_17,fc_18,fc_19,fc_20,fc_53,fc_54,fc_55,fs_0,fs_17,fs_18,fs_19,fs_20,fs_53,fs_54,fs_55,fp_1,fp_21,fp_f,rb_1,rb_21,rb_0,fc_len,fc_ok,fc_id,fc_rs,v16,v32,cB_cells,fz_fc,fcF1,flL_fz,callable_7]
  tactic =>
  refine cl none (hfar) trivial ?_
  sym =>
  simp [Zaa,Zab,Zad,Zae,Zaf,Zag,Zah,Zai,Zak,Zal,Zam,Zan,Zao,Zap,Zaq,Zav,Zaw,Zay,Zaz,Za0,Za1,Za2,Za3,Za4,Za5,Za6,Za7,Za8,Za9,Zba,Zbb,Zbd,Zbf,Zbh,Zbl,Zbt,Zb1,Zb3,Zb7,Zb9,Zcn,Zcv,Zcx,Zc3,Zdc,Zdd,Zde,Zdi,Zev,Zew,Zex,Zez,Ze0,Ze1,Ze2,Ze3,Ze5,Ze8,Zfc,Zfd,Zfe,Zfh,Zfi,Zfj,Zfl,Zfn,Zfq,Zfr,Zfu,Zfx,Zfz,Zf0,Zf1,Zga,Zgb,Zgh,Zgi,Zgr,Zgs,Zgt,Zgv,Zg4,Zg5,Zg7,Zg8,Zhb,Zhc,Zhd,Zhe,Zhf,Zho,Zh6,Zh9,Zin,Zio,Zip,Ziu,Ziv,Ziw,Zi6,Zi7,Zjh,Zji,Zjn,Zjw,Zj7,Zka,Zkv,Zky,Zk0,Zk1,Zk4,Zla,Zlb,Zle,Zlf,Zlh,Zlm,Zls,Zlt,Zlx,Zlz,Zl0,Zl1,Zl2,Zl3,Zl4,Zl6,Zml,Zms,Zmt,Zmv,Zmw,Zmx,Zmz,Zm2,Zm5,Zm6,Zm7,Zm9,Zna,Znb,Zne,Znf,Zng,Znh,Znn,Zno,Znr,Zns,Znt,Znw,Zny,Zn1,Zn5,Zn9,Zok,Zol,Zom,Zor,Zos,Zot,Zo3,Zo4,Zo6,Zo7,Zo8,Zo9,Zpa,Zpc,Zpo,Zp8,Zqb,Zqc,Zqf,Zqg,Zqh,Zqi,Zqk,Zql,Zqm,Zqn,List.append_assoc,List.length_append,eq_self,true_and,and_true,Nat.zero_add,Nat.mul_one,zF_fc,fc_0,fc_17,fc_18,fc_19,fc_20,fc_53,fc_54,fc_55,fs_0,fs_17,fs_18,fs_19,fs_20,fs_53,fs_54,fs_55,fp_1,fp_21,fp_f,rb_1,rb_21,rb_0,fc_len,fc_ok,fc_id,fc_rs,v16,v32,cB_cells,fz_fc,fcF1,flL_fz]
  tactic =>
  rw [heq]
  sym =>
  simp [Zaa,Zab,Zad,Zae,Zaf,Zag,Zah,Zai,Zak,Zal,Zam,Zan,Zao,Zap,Zaq,Zav,Zaw,Zay,Zaz,Za0,Za1,Za2,Za3,Za4,Za5,Za6,Za7,Za8,Za9,Zba,Zbb,Zbd,Zbf,Zbh,Zbl,Zbt,Zb1,Zb3,Zb7,Zb9,Zcn,Zcv,Zcx,Zc3,Zdc,Zdd,Zde,Zdi,Zev,Zew,Zex,Zez,Ze0,Ze1,Ze2,Ze3,Ze5,Ze8,Zfc,Zfd,Zfe,Zfh,Zfi,Zfj,Zfl,Zfn,Zfq,Zfr,Zfu,Zfx,Zfz,Zf0,Zf1,Zga,Zgb,Zgh,Zgi,Zgr,Zgs,Zgt,Zgv,Zg4,Zg5,Zg7,Zg8,Zhb,Zhc,Zhd,Zhe,Zhf,Zho,Zh6,Zh9,Zin,Zio,Zip,Ziu,Ziv,Ziw,Zi6,Zi7,Zjh,Zji,Zjn,Zjw,Zj7,Zka,Zkv,Zky,Zk0,Zk1,Zk4,Zla,Zlb,Zle,Zlf,Zlh,Zlm,Zls,Zlt,Zlx,Zlz,Zl0,Zl1,Zl2,Zl3,Zl4,Zl6,Zml,Zms,Zmt,Zmv,Zmw,Zmx,Zmz,Zm2,Zm5,Zm6,Zm7,Zm9,Zna,Znb,Zne,Znf,Zng,Znh,Znn,Zno,Znr,Zns,Znt,Znw,Zny,Zn1,Zn5,Zn9,Zok,Zol,Zom,Zor,Zos,Zot,Zo3,Zo4,Zo6,Zo7,Zo8,Zo9,Zpa,Zpc,Zpo,Zp8,Zqb,Zqc,Zqf,Zqg,Zqh,Zqi,Zqk,Zql,Zqm,Zqn,List.append_assoc,List.length_append,eq_self,true_and,and_true,Nat.zero_add,Nat.mul_one,zF_fc,fc_0,fc_17,fc_18,fc_19,fc_20,fc_53,fc_54,fc_55,fs_0,fs_17,fs_18,fs_19,fs_20,fs_53,fs_54,fs_55,fp_1,fp_21,fp_f,rb_1,rb_21,rb_0,fc_len,fc_ok,fc_id,fc_rs,v16,v32,cB_cells,fz_fc,fcF1,flL_fz,callable_10]
  tactic =>
  refine cl none (hth) trivial ?_
  sym =>
  simp [Zaa,Zab,Zad,Zae,Zaf,Zag,Zah,Zai,Zak,Zal,Zam,Zan,Zao,Zap,Zaq,Zav,Zaw,Zay,Zaz,Za0,Za1,Za2,Za3,Za4,Za5,Za6,Za7,Za8,Za9,Zba,Zbb,Zbd,Zbf,Zbh,Zbl,Zbt,Zb1,Zb3,Zb7,Zb9,Zcn,Zcv,Zcx,Zc3,Zdc,Zdd,Zde,Zdi,Zev,Zew,Zex,Zez,Ze0,Ze1,Ze2,Ze3,Ze5,Ze8,Zfc,Zfd,Zfe,Zfh,Zfi,Zfj,Zfl,Zfn,Zfq,Zfr,Zfu,Zfx,Zfz,Zf0,Zf1,Zga,Zgb,Zgh,Zgi,Zgr,Zgs,Zgt,Zgv,Zg4,Zg5,Zg7,Zg8,Zhb,Zhc,Zhd,Zhe,Zhf,Zho,Zh6,Zh9,Zin,Zio,Zip,Ziu,Ziv,Ziw,Zi6,Zi7,Zjh,Zji,Zjn,Zjw,Zj7,Zka,Zkv,Zky,Zk0,Zk1,Zk4,Zla,Zlb,Zle,Zlf,Zlh,Zlm,Zls,Zlt,Zlx,Zlz,Zl0,Zl1,Zl2,Zl3,Zl4,Zl6,Zml,Zms,Zmt,Zmv,Zmw,Zmx,Zmz,Zm2,Zm5,Zm6,Zm7,Zm9,Zna,Znb,Zne,Znf,Zng,Znh,Znn,Zno,Znr,Zns,Znt,Znw,Zny,Zn1,Zn5,Zn9,Zok,Zol,Zom,Zor,Zos,Zot,Zo3,Zo4,Zo6,Zo7,Zo8,Zo9,Zpa,Zpc,Zpo,Zp8,Zqb,Zqc,Zqf,Zqg,Zqh,Zqi,Zqk,Zql,Zqm,Zqn,List.append_assoc,List.length_append,eq_self,true_and,and_true,Nat.zero_add,Nat.mul_one,zF_fc,fc_0,fc_17,fc_18,fc_19,fc_20,fc_53,fc_54,fc_55,fs_0,fs_17,fs_18,fs_19,fs_20,fs_53,fs_54,fs_55,fp_1,fp_21,fp_f,rb_1,rb_21,rb_0,fc_len,fc_ok,fc_id,fc_rs,v16,v32,cB_cells,fz_fc,fcF1,flL_fz,callable_9]
  tactic =>
  refine cl (some ⟨cB z, 1, 0⟩) hlay ⟨by rfl, cB_okI _⟩ ?_
  have h32' : ¬ IN z.length < (32 : Int) := by simp only [IN]; omega
  have hwa : IntKind.i64.wrap a = a := w64 _ (by omega)
  have hw3 : IntKind.i64.wrap (IN z.length - (3 : Int)) = IN (z.length - 3) := w64m _ _ 3 (by omega) (by omega)
  have hne : ¬ IN (z.length - 3) = 0 := by simp only [IN]; omega
  obtain ⟨K, hK⟩ : ∃ K, K = a.toNat % (z.length - 3) := ⟨_, rfl⟩
  have hrem : a.tmod (IN (z.length - 3)) = IN K := by
    rw [Int.tmod_eq_emod_of_nonneg ha.1, hK]
    simp only [IN]
    rw [Int.natCast_emod, Int.toNat_of_nonneg ha.1]
  have hKl : K + 4 ≤ z.length := by
    have : a.toNat % (z.length - 3) < z.length - 3 := Nat.mod_lt _ (by omega)
    omega
  have hy : ∀ i, yF y0 y1 y2 y3 i < 256 := by
    intro i
    unfold yF
    rcases i with _ | _ | _ | _ | i <;> simp <;> omega
  have htt := htu K hKl (yF y0 y1 y2 y3) hy (by
    intro hh
    obtain ⟨g0, g1, g2, g3⟩ := hh
    simp [yF] at g0 g1 g2 g3
    exact h0 (by omega))
  have hTb : ∀ j, j ≤ 4 → byt8 (FD.T z K (yF y0 y1 y2 y3) j) := fun j hj => byt_fd (FD.T_byt z (fd_byt hlb) K _ hy j (by omega))
  have hTl : ∀ j, (FD.T z K (yF y0 y1 y2 y3) j).length = z.length := fun j => FD.T_length ..
  sym =>
  simp [Zaa,Zab,Zad,Zae,Zaf,Zag,Zah,Zai,Zak,Zal,Zam,Zan,Zao,Zap,Zaq,Zav,Zaw,Zay,Zaz,Za0,Za1,Za2,Za3,Za4,Za5,Za6,Za7,Za8,Za9,Zba,Zbb,Zbd,Zbf,Zbh,Zbl,Zbt,Zb1,Zb3,Zb7,Zb9,Zcn,Zcv,Zcx,Zc3,Zdc,Zdd,Zde,Zdi,Zev,Zew,Zex,Zez,Ze0,Ze1,Ze2,Ze3,Ze5,Ze8,Zfc,Zfd,Zfe,Zfh,Zfi,Zfj,Zfl,Zfn,Zfq,Zfr,Zfu,Zfx,Zfz,Zf0,Zf1,Zga,Zgb,Zgh,Zgi,Zgr,Zgs,Zgt,Zgv,Zg4,Zg5,Zg7,Zg8,Zhb,Zhc,Zhd,Zhe,Zhf,Zho,Zh6,Zh9,Zin,Zio,Zip,Ziu,Ziv,Ziw,Zi6,Zi7,Zjh,Zji,Zjn,Zjw,Zj7,Zka,Zkv,Zky,Zk0,Zk1,Zk4,Zla,Zlb,Zle,Zlf,Zlh,Zlm,Zls,Zlt,Zlx,Zlz,Zl0,Zl1,Zl2,Zl3,Zl4,Zl6,Zml,Zms,Zmt,Zmv,Zmw,Zmx,Zmz,Zm2,Zm5,Zm6,Zm7,Zm9,Zna,Znb,Zne,Znf,Zng,Znh,Znn,Zno,Znr,Zns,Znt,Znw,Zny,Zn1,Zn5,Zn9,Zok,Zol,Zom,Zor,Zos,Zot,Zo3,Zo4,Zo6,Zo7,Zo8,Zo9,Zpa,Zpc,Zpo,Zp8,Zqb,Zqc,Zqf,Zqg,Zqh,Zqi,Zqk,Zql,Zqm,Zqn,List.append_assoc,List.length_append,eq_self,true_and,and_true,Nat.zero_add,Nat.mul_one,zF_fc,fc_0,fc_17,fc_18,fc_19,fc_20,fc_53,fc_54,fc_55,fs_0,fs_17,fs_18,fs_19,fs_20,fs_53,fs_54,fs_55,fp_1,fp_21,fp_f,rb_1,rb_21,rb_0,fc_len,fc_ok,fc_id,fc_rs,v16,v32,cB_cells,h32',hwa,hw3,hne,hrem]
  tactic =>
  refine ⟨by omega, ?_⟩
  refine lpA (i6 z y0 y1 y2 y3 K) 4 [(0, 12)] _ ⟨0, rfl, rfl⟩ (wkA ?_) ?_
  · sym =>
    simp [Zaa,Zab,Zad,Zae,Zaf,Zag,Zah,Zai,Zak,Zal,Zam,Zan,Zao,Zap,Zaq,Zav,Zaw,Zay,Zaz,Za0,Za1,Za2,Za3,Za4,Za5,Za6,Za7,Za8,Za9,Zba,Zbb,Zbd,Zbf,Zbh,Zbl,Zbt,Zb1,Zb3,Zb7,Zb9,Zcn,Zcv,Zcx,Zc3,Zdc,Zdd,Zde,Zdi,Zev,Zew,Zex,Zez,Ze0,Ze1,Ze2,Ze3,Ze5,Ze8,Zfc,Zfd,Zfe,Zfh,Zfi,Zfj,Zfl,Zfn,Zfq,Zfr,Zfu,Zfx,Zfz,Zf0,Zf1,Zga,Zgb,Zgh,Zgi,Zgr,Zgs,Zgt,Zgv,Zg4,Zg5,Zg7,Zg8,Zhb,Zhc,Zhd,Zhe,Zhf,Zho,Zh6,Zh9,Zin,Zio,Zip,Ziu,Ziv,Ziw,Zi6,Zi7,Zjh,Zji,Zjn,Zjw,Zj7,Zka,Zkv,Zky,Zk0,Zk1,Zk4,Zla,Zlb,Zle,Zlf,Zlh,Zlm,Zls,Zlt,Zlx,Zlz,Zl0,Zl1,Zl2,Zl3,Zl4,Zl6,Zml,Zms,Zmt,Zmv,Zmw,Zmx,Zmz,Zm2,Zm5,Zm6,Zm7,Zm9,Zna,Znb,Zne,Znf,Zng,Znh,Znn,Zno,Znr,Zns,Znt,Znw,Zny,Zn1,Zn5,Zn9,Zok,Zol,Zom,Zor,Zos,Zot,Zo3,Zo4,Zo6,Zo7,Zo8,Zo9,Zpa,Zpc,Zpo,Zp8,Zqb,Zqc,Zqf,Zqg,Zqh,Zqi,Zqk,Zql,Zqm,Zqn,List.append_assoc,List.length_append,eq_self,true_and,and_true,Nat.zero_add,Nat.mul_one]
    tactic =>
    exact rs_self (cB_okI _)
  rintro kk st ⟨i, hi, rfl⟩
  by_cases h : i < 4
  · have hw := w64s i (by omega)
    have h4 : IN i < (4 : Int) := by simp only [IN]; omega
    have hwk : IntKind.i64.wrap (IN (K + i)) = IN (K + i) := w64 _ (by simp only [IN]; omega)
    obtain ⟨T, hT⟩ : ∃ T, T = FD.T z K (yF y0 y1 y2 y3) i := ⟨_, rfl⟩
    have hTl' := hTl i
    have hTb' := hTb i (by omega)
    have hTn : FD.T z K (yF y0 y1 y2 y3) (i + 1) = T.set (K + i) (((T.getD (K + i) 0).toNat ^^^ yF y0 y1 y2 y3 i : Nat) : Int) := by rw [hT]; rfl
    rw [← hT] at hTl' hTb' ⊢
    have hg := cB_get T (K + i) (by omega)
    have hgb := byt8_get hTb' (K + i)
    have hgy : (if i = 0 then Y y0 else [Y y1, Y y2, Y y3].getD (i - 1) .un) = Y (yF y0 y1 y2 y3 i : Int) := by
      unfold yF
      rcases i with _ | _ | _ | _ | i
      · show Y y0 = Y (y0.toNat : Int); rw [Int.toNat_of_nonneg r0.1]
      · show Y y1 = Y (y1.toNat : Int); rw [Int.toNat_of_nonneg r1.1]
      · show Y y2 = Y (y2.toNat : Int); rw [Int.toNat_of_nonneg r2.1]
      · show Y y3 = Y (y3.toNat : Int); rw [Int.toNat_of_nonneg r3.1]
      · omega
    have hyi := hy i
    obtain ⟨v, hv⟩ : ∃ v, v = T.getD (K + i) 0 := ⟨_, rfl⟩
    obtain ⟨q, hq⟩ : ∃ q, q = yF y0 y1 y2 y3 i := ⟨_, rfl⟩
    rw [← hv] at hg hgb hTn
    rw [← hq] at hgy hyi hTn
    have hx := xor_u8 v.toNat q (by omega) hyi
    rw [Int.toNat_of_nonneg hgb.1] at hx
    have hcs := cB_set T (K + i) ((v.toNat ^^^ q : Nat) : Int)
    rw [← hTn] at hcs
    have hcl := cB_length T
    have hlt : K + i < z.length := by omega
    sym =>
    simp [Zaa,Zab,Zad,Zae,Zaf,Zag,Zah,Zai,Zak,Zal,Zam,Zan,Zao,Zap,Zaq,Zav,Zaw,Zay,Zaz,Za0,Za1,Za2,Za3,Za4,Za5,Za6,Za7,Za8,Za9,Zba,Zbb,Zbd,Zbf,Zbh,Zbl,Zbt,Zb1,Zb3,Zb7,Zb9,Zcn,Zcv,Zcx,Zc3,Zdc,Zdd,Zde,Zdi,Zev,Zew,Zex,Zez,Ze0,Ze1,Ze2,Ze3,Ze5,Ze8,Zfc,Zfd,Zfe,Zfh,Zfi,Zfj,Zfl,Zfn,Zfq,Zfr,Zfu,Zfx,Zfz,Zf0,Zf1,Zga,Zgb,Zgh,Zgi,Zgr,Zgs,Zgt,Zgv,Zg4,Zg5,Zg7,Zg8,Zhb,Zhc,Zhd,Zhe,Zhf,Zho,Zh6,Zh9,Zin,Zio,Zip,Ziu,Ziv,Ziw,Zi6,Zi7,Zjh,Zji,Zjn,Zjw,Zj7,Zka,Zkv,Zky,Zk0,Zk1,Zk4,Zla,Zlb,Zle,Zlf,Zlh,Zlm,Zls,Zlt,Zlx,Zlz,Zl0,Zl1,Zl2,Zl3,Zl4,Zl6,Zml,Zms,Zmt,Zmv,Zmw,Zmx,Zmz,Zm2,Zm5,Zm6,Zm7,Zm9,Zna,Znb,Zne,Znf,Zng,Znh,Znn,Zno,Znr,Zns,Znt,Znw,Zny,Zn1,Zn5,Zn9,Zok,Zol,Zom,Zor,Zos,Zot,Zo3,Zo4,Zo6,Zo7,Zo8,Zo9,Zpa,Zpc,Zpo,Zp8,Zqb,Zqc,Zqf,Zqg,Zqh,Zqi,Zqk,Zql,Zqm,Zqn,List.append_assoc,List.length_append,eq_self,true_and,and_true,Nat.zero_add,Nat.mul_one,hw,h4,hwk,hg,hlt]
    tactic =>
    and_intros <;> try (first | omega | rfl | assumption | simp only [IN]; omega)
    rw [hgy]
    sym =>
    simp [Zaa,Zab,Zad,Zae,Zaf,Zag,Zah,Zai,Zak,Zal,Zam,Zan,Zao,Zap,Zaq,Zav,Zaw,Zay,Zaz,Za0,Za1,Za2,Za3,Za4,Za5,Za6,Za7,Za8,Za9,Zba,Zbb,Zbd,Zbf,Zbh,Zbl,Zbt,Zb1,Zb3,Zb7,Zb9,Zcn,Zcv,Zcx,Zc3,Zdc,Zdd,Zde,Zdi,Zev,Zew,Zex,Zez,Ze0,Ze1,Ze2,Ze3,Ze5,Ze8,Zfc,Zfd,Zfe,Zfh,Zfi,Zfj,Zfl,Zfn,Zfq,Zfr,Zfu,Zfx,Zfz,Zf0,Zf1,Zga,Zgb,Zgh,Zgi,Zgr,Zgs,Zgt,Zgv,Zg4,Zg5,Zg7,Zg8,Zhb,Zhc,Zhd,Zhe,Zhf,Zho,Zh6,Zh9,Zin,Zio,Zip,Ziu,Ziv,Ziw,Zi6,Zi7,Zjh,Zji,Zjn,Zjw,Zj7,Zka,Zkv,Zky,Zk0,Zk1,Zk4,Zla,Zlb,Zle,Zlf,Zlh,Zlm,Zls,Zlt,Zlx,Zlz,Zl0,Zl1,Zl2,Zl3,Zl4,Zl6,Zml,Zms,Zmt,Zmv,Zmw,Zmx,Zmz,Zm2,Zm5,Zm6,Zm7,Zm9,Zna,Znb,Zne,Znf,Zng,Znh,Znn,Zno,Znr,Zns,Znt,Znw,Zny,Zn1,Zn5,Zn9,Zok,Zol,Zom,Zor,Zos,Zot,Zo3,Zo4,Zo6,Zo7,Zo8,Zo9,Zpa,Zpc,Zpo,Zp8,Zqb,Zqc,Zqf,Zqg,Zqh,Zqi,Zqk,Zql,Zqm,Zqn,List.append_assoc,List.length_append,eq_self,true_and,and_true,Nat.zero_add,Nat.mul_one,hw,hx,hcs,hcl,hTl']
    tactic =>
    and_intros <;> try (first | omega | rfl | assumption | simp only [IN]; omega)
    unfold NextL; refine ⟨(kk - 1), [(0, 0)], _, by omega, ⟨i + 1, by omega, rfl⟩, wkA ?_⟩
    sym =>
    simp [Zaa,Zab,Zad,Zae,Zaf,Zag,Zah,Zai,Zak,Zal,Zam,Zan,Zao,Zap,Zaq,Zav,Zaw,Zay,Zaz,Za0,Za1,Za2,Za3,Za4,Za5,Za6,Za7,Za8,Za9,Zba,Zbb,Zbd,Zbf,Zbh,Zbl,Zbt,Zb1,Zb3,Zb7,Zb9,Zcn,Zcv,Zcx,Zc3,Zdc,Zdd,Zde,Zdi,Zev,Zew,Zex,Zez,Ze0,Ze1,Ze2,Ze3,Ze5,Ze8,Zfc,Zfd,Zfe,Zfh,Zfi,Zfj,Zfl,Zfn,Zfq,Zfr,Zfu,Zfx,Zfz,Zf0,Zf1,Zga,Zgb,Zgh,Zgi,Zgr,Zgs,Zgt,Zgv,Zg4,Zg5,Zg7,Zg8,Zhb,Zhc,Zhd,Zhe,Zhf,Zho,Zh6,Zh9,Zin,Zio,Zip,Ziu,Ziv,Ziw,Zi6,Zi7,Zjh,Zji,Zjn,Zjw,Zj7,Zka,Zkv,Zky,Zk0,Zk1,Zk4,Zla,Zlb,Zle,Zlf,Zlh,Zlm,Zls,Zlt,Zlx,Zlz,Zl0,Zl1,Zl2,Zl3,Zl4,Zl6,Zml,Zms,Zmt,Zmv,Zmw,Zmx,Zmz,Zm2,Zm5,Zm6,Zm7,Zm9,Zna,Znb,Zne,Znf,Zng,Znh,Znn,Zno,Znr,Zns,Znt,Znw,Zny,Zn1,Zn5,Zn9,Zok,Zol,Zom,Zor,Zos,Zot,Zo3,Zo4,Zo6,Zo7,Zo8,Zo9,Zpa,Zpc,Zpo,Zp8,Zqb,Zqc,Zqf,Zqg,Zqh,Zqi,Zqk,Zql,Zqm,Zqn,List.append_assoc,List.length_append,eq_self,true_and,and_true,Nat.zero_add,Nat.mul_one]
    tactic =>
    exact rs_self (cB_okI _)
  · obtain rfl : i = 4 := by omega
    have hps := fparse_con (FD.T z K (yF y0 y1 y2 y3) 4) (hTb 4 (Nat.le_refl _)) (by rw [hTl]; omega)
    have hpv : psF (FD.T z K (yF y0 y1 y2 y3) 4) = (zFm, 9) := by
      unfold psF
      rw [htt, if_neg (by decide)]
    rw [hpv] at hps
    obtain ⟨T, hT⟩ : ∃ T, T = FD.T z K (yF y0 y1 y2 y3) 4 := ⟨_, rfl⟩
    have hTl' := hTl 4
    rw [← hT] at hps hTl' ⊢
    simp only [fr, zFm, fB] at hps
    rw [hTl'] at hps
    have hza : List.take z.length (cB T) = cB T := List.take_of_length_le (by rw [cB_length, hTl']; exact Nat.le_refl _)
    have hcl := cB_length T
    have hsz := same_con zFm zFm (by decide) (fun x hx => by cases hx) (fun x hx => by cases hx)
    rw [saF_self] at hsz
    simp only [fr, zFm] at hsz
    sym =>
    simp [Zaa,Zab,Zad,Zae,Zaf,Zag,Zah,Zai,Zak,Zal,Zam,Zan,Zao,Zap,Zaq,Zav,Zaw,Zay,Zaz,Za0,Za1,Za2,Za3,Za4,Za5,Za6,Za7,Za8,Za9,Zba,Zbb,Zbd,Zbf,Zbh,Zbl,Zbt,Zb1,Zb3,Zb7,Zb9,Zcn,Zcv,Zcx,Zc3,Zdc,Zdd,Zde,Zdi,Zev,Zew,Zex,Zez,Ze0,Ze1,Ze2,Ze3,Ze5,Ze8,Zfc,Zfd,Zfe,Zfh,Zfi,Zfj,Zfl,Zfn,Zfq,Zfr,Zfu,Zfx,Zfz,Zf0,Zf1,Zga,Zgb,Zgh,Zgi,Zgr,Zgs,Zgt,Zgv,Zg4,Zg5,Zg7,Zg8,Zhb,Zhc,Zhd,Zhe,Zhf,Zho,Zh6,Zh9,Zin,Zio,Zip,Ziu,Ziv,Ziw,Zi6,Zi7,Zjh,Zji,Zjn,Zjw,Zj7,Zka,Zkv,Zky,Zk0,Zk1,Zk4,Zla,Zlb,Zle,Zlf,Zlh,Zlm,Zls,Zlt,Zlx,Zlz,Zl0,Zl1,Zl2,Zl3,Zl4,Zl6,Zml,Zms,Zmt,Zmv,Zmw,Zmx,Zmz,Zm2,Zm5,Zm6,Zm7,Zm9,Zna,Znb,Zne,Znf,Zng,Znh,Znn,Zno,Znr,Zns,Znt,Znw,Zny,Zn1,Zn5,Zn9,Zok,Zol,Zom,Zor,Zos,Zot,Zo3,Zo4,Zo6,Zo7,Zo8,Zo9,Zpa,Zpc,Zpo,Zp8,Zqb,Zqc,Zqf,Zqg,Zqh,Zqi,Zqk,Zql,Zqm,Zqn,List.append_assoc,List.length_append,eq_self,true_and,and_true,Nat.zero_add,Nat.mul_one,hza,hcl,callable_19]
    tactic =>
    refine ⟨⟨by omega, cB_okI _⟩, ?_⟩
    refine cl none (hps) trivial ?_
    sym =>
    simp [Zaa,Zab,Zad,Zae,Zaf,Zag,Zah,Zai,Zak,Zal,Zam,Zan,Zao,Zap,Zaq,Zav,Zaw,Zay,Zaz,Za0,Za1,Za2,Za3,Za4,Za5,Za6,Za7,Za8,Za9,Zba,Zbb,Zbd,Zbf,Zbh,Zbl,Zbt,Zb1,Zb3,Zb7,Zb9,Zcn,Zcv,Zcx,Zc3,Zdc,Zdd,Zde,Zdi,Zev,Zew,Zex,Zez,Ze0,Ze1,Ze2,Ze3,Ze5,Ze8,Zfc,Zfd,Zfe,Zfh,Zfi,Zfj,Zfl,Zfn,Zfq,Zfr,Zfu,Zfx,Zfz,Zf0,Zf1,Zga,Zgb,Zgh,Zgi,Zgr,Zgs,Zgt,Zgv,Zg4,Zg5,Zg7,Zg8,Zhb,Zhc,Zhd,Zhe,Zhf,Zho,Zh6,Zh9,Zin,Zio,Zip,Ziu,Ziv,Ziw,Zi6,Zi7,Zjh,Zji,Zjn,Zjw,Zj7,Zka,Zkv,Zky,Zk0,Zk1,Zk4,Zla,Zlb,Zle,Zlf,Zlh,Zlm,Zls,Zlt,Zlx,Zlz,Zl0,Zl1,Zl2,Zl3,Zl4,Zl6,Zml,Zms,Zmt,Zmv,Zmw,Zmx,Zmz,Zm2,Zm5,Zm6,Zm7,Zm9,Zna,Znb,Zne,Znf,Zng,Znh,Znn,Zno,Znr,Zns,Znt,Znw,Zny,Zn1,Zn5,Zn9,Zok,Zol,Zom,Zor,Zos,Zot,Zo3,Zo4,Zo6,Zo7,Zo8,Zo9,Zpa,Zpc,Zpo,Zp8,Zqb,Zqc,Zqf,Zqg,Zqh,Zqi,Zqk,Zql,Zqm,Zqn,List.append_assoc,List.length_append,eq_self,true_and,and_true,Nat.zero_add,Nat.mul_one,zF_fc,fc_0,fc_17,fc_18,fc_19,fc_20,fc_53,fc_54,fc_55,fs_0,fs_17,fs_18,fs_19,fs_20,fs_53,fs_54,fs_55,fp_1,fp_21,fp_f,rb_1,rb_21,rb_0,fc_len,fc_ok,fc_id,fc_rs,v16,v32,cB_cells,fz_fc,fcF1,flL_fz,callable_13]
    tactic =>
    refine cl none (hsz) trivial ?_
    sym =>
    simp [Zaa,Zab,Zad,Zae,Zaf,Zag,Zah,Zai,Zak,Zal,Zam,Zan,Zao,Zap,Zaq,Zav,Zaw,Zay,Zaz,Za0,Za1,Za2,Za3,Za4,Za5,Za6,Za7,Za8,Za9,Zba,Zbb,Zbd,Zbf,Zbh,Zbl,Zbt,Zb1,Zb3,Zb7,Zb9,Zcn,Zcv,Zcx,Zc3,Zdc,Zdd,Zde,Zdi,Zev,Zew,Zex,Zez,Ze0,Ze1,Ze2,Ze3,Ze5,Ze8,Zfc,Zfd,Zfe,Zfh,Zfi,Zfj,Zfl,Zfn,Zfq,Zfr,Zfu,Zfx,Zfz,Zf0,Zf1,Zga,Zgb,Zgh,Zgi,Zgr,Zgs,Zgt,Zgv,Zg4,Zg5,Zg7,Zg8,Zhb,Zhc,Zhd,Zhe,Zhf,Zho,Zh6,Zh9,Zin,Zio,Zip,Ziu,Ziv,Ziw,Zi6,Zi7,Zjh,Zji,Zjn,Zjw,Zj7,Zka,Zkv,Zky,Zk0,Zk1,Zk4,Zla,Zlb,Zle,Zlf,Zlh,Zlm,Zls,Zlt,Zlx,Zlz,Zl0,Zl1,Zl2,Zl3,Zl4,Zl6,Zml,Zms,Zmt,Zmv,Zmw,Zmx,Zmz,Zm2,Zm5,Zm6,Zm7,Zm9,Zna,Znb,Zne,Znf,Zng,Znh,Znn,Zno,Znr,Zns,Znt,Znw,Zny,Zn1,Zn5,Zn9,Zok,Zol,Zom,Zor,Zos,Zot,Zo3,Zo4,Zo6,Zo7,Zo8,Zo9,Zpa,Zpc,Zpo,Zp8,Zqb,Zqc,Zqf,Zqg,Zqh,Zqi,Zqk,Zql,Zqm,Zqn,List.append_assoc,List.length_append,eq_self,true_and,and_true,Nat.zero_add,Nat.mul_one,callable_8]
    tactic =>
    refine cl none (alive_con) trivial ?_
    sym =>
    simp [Zaa,Zab,Zad,Zae,Zaf,Zag,Zah,Zai,Zak,Zal,Zam,Zan,Zao,Zap,Zaq,Zav,Zaw,Zay,Zaz,Za0,Za1,Za2,Za3,Za4,Za5,Za6,Za7,Za8,Za9,Zba,Zbb,Zbd,Zbf,Zbh,Zbl,Zbt,Zb1,Zb3,Zb7,Zb9,Zcn,Zcv,Zcx,Zc3,Zdc,Zdd,Zde,Zdi,Zev,Zew,Zex,Zez,Ze0,Ze1,Ze2,Ze3,Ze5,Ze8,Zfc,Zfd,Zfe,Zfh,Zfi,Zfj,Zfl,Zfn,Zfq,Zfr,Zfu,Zfx,Zfz,Zf0,Zf1,Zga,Zgb,Zgh,Zgi,Zgr,Zgs,Zgt,Zgv,Zg4,Zg5,Zg7,Zg8,Zhb,Zhc,Zhd,Zhe,Zhf,Zho,Zh6,Zh9,Zin,Zio,Zip,Ziu,Ziv,Ziw,Zi6,Zi7,Zjh,Zji,Zjn,Zjw,Zj7,Zka,Zkv,Zky,Zk0,Zk1,Zk4,Zla,Zlb,Zle,Zlf,Zlh,Zlm,Zls,Zlt,Zlx,Zlz,Zl0,Zl1,Zl2,Zl3,Zl4,Zl6,Zml,Zms,Zmt,Zmv,Zmw,Zmx,Zmz,Zm2,Zm5,Zm6,Zm7,Zm9,Zna,Znb,Zne,Znf,Zng,Znh,Znn,Zno,Znr,Zns,Znt,Znw,Zny,Zn1,Zn5,Zn9,Zok,Zol,Zom,Zor,Zos,Zot,Zo3,Zo4,Zo6,Zo7,Zo8,Zo9,Zpa,Zpc,Zpo,Zp8,Zqb,Zqc,Zqf,Zqg,Zqh,Zqi,Zqk,Zql,Zqm,Zqn,List.append_assoc,List.length_append,eq_self,true_and,and_true,Nat.zero_add,Nat.mul_one]
    tactic =>
    refine endA ?_
    sym =>
    simp [Zaa,Zab,Zad,Zae,Zaf,Zag,Zah,Zai,Zak,Zal,Zam,Zan,Zao,Zap,Zaq,Zav,Zaw,Zay,Zaz,Za0,Za1,Za2,Za3,Za4,Za5,Za6,Za7,Za8,Za9,Zba,Zbb,Zbd,Zbf,Zbh,Zbl,Zbt,Zb1,Zb3,Zb7,Zb9,Zcn,Zcv,Zcx,Zc3,Zdc,Zdd,Zde,Zdi,Zev,Zew,Zex,Zez,Ze0,Ze1,Ze2,Ze3,Ze5,Ze8,Zfc,Zfd,Zfe,Zfh,Zfi,Zfj,Zfl,Zfn,Zfq,Zfr,Zfu,Zfx,Zfz,Zf0,Zf1,Zga,Zgb,Zgh,Zgi,Zgr,Zgs,Zgt,Zgv,Zg4,Zg5,Zg7,Zg8,Zhb,Zhc,Zhd,Zhe,Zhf,Zho,Zh6,Zh9,Zin,Zio,Zip,Ziu,Ziv,Ziw,Zi6,Zi7,Zjh,Zji,Zjn,Zjw,Zj7,Zka,Zkv,Zky,Zk0,Zk1,Zk4,Zla,Zlb,Zle,Zlf,Zlh,Zlm,Zls,Zlt,Zlx,Zlz,Zl0,Zl1,Zl2,Zl3,Zl4,Zl6,Zml,Zms,Zmt,Zmv,Zmw,Zmx,Zmz,Zm2,Zm5,Zm6,Zm7,Zm9,Zna,Znb,Zne,Znf,Zng,Znh,Znn,Zno,Znr,Zns,Znt,Znw,Zny,Zn1,Zn5,Zn9,Zok,Zol,Zom,Zor,Zos,Zot,Zo3,Zo4,Zo6,Zo7,Zo8,Zo9,Zpa,Zpc,Zpo,Zp8,Zqb,Zqc,Zqf,Zqg,Zqh,Zqi,Zqk,Zql,Zqm,Zqn,List.append_assoc,List.length_append,eq_self,true_and,and_true,Nat.zero_add,Nat.mul_one]
end Go.Proofs.Ythhccabdlajngaa.FrmW
