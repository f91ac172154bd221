import Derived.Test.YthhccabdlajngaaFrmA
namespace Go.Proofs.Ythhccabdlajngaa.FrmB
open Go Go.Sim Go.Sim.E Go.RowKit Go.Proofs Go.Proofs.Ythhccabdlajngaa.Cod Go.Proofs.Ythhccabdlajngaa.Tab Go.Proofs.Ythhccabdlajngaa.Bse Go.Proofs.Ythhccabdlajngaa.Krc Go.Proofs.Ythhccabdlajngaa.FrmA
set_option linter.unusedVariables false
set_option linter.unusedSimpArgs false
set_option maxRecDepth 100000
set_option maxHeartbeats 4000000
/-! ### two rows of bytes held against each other -/
theorem str_cB (l : List Int) : (bysS (cB l)).toList = l.map fun n => UInt8.ofNat n.toNat := by
  rw [ByteArray.toList_eq]
  show List.filterMap aby (cB l) = _
  induction l with
  | nil => rfl
  | cons a l ih =>
    show List.filterMap aby (Y a :: cB l) = _
    simp only [List.filterMap_cons, aby, List.map_cons]
    rw [ih]
theorem bys_ok (l : List Int) : bysOK (cB l) := by
  intro x hx
  obtain ⟨a, _, rfl⟩ := List.mem_map.1 hx
  rfl
theorem u8_inj {a b : Int} (ha : 0 ≤ a ∧ a < 256) (hb : 0 ≤ b ∧ b < 256) (h : UInt8.ofNat a.toNat = UInt8.ofNat b.toNat) : a = b := by
  have := congrArg UInt8.toNat h
  simp only [UInt8.toNat_ofNat'] at this
  omega
theorem str_eq {a b : List Int} (ha : byt8 a) (hb : byt8 b) : ((bysS (cB a)).toList == (bysS (cB b)).toList) = decide (a = b) := by
  rw [str_cB, str_cB]
  by_cases h : a = b
  · subst h; simp
  · have : ¬ (a.map fun n => UInt8.ofNat n.toNat) = b.map fun n => UInt8.ofNat n.toNat := by
      intro e
      apply h
      have key : ∀ {a b : List Int}, byt8 a → byt8 b → (a.map fun n => UInt8.ofNat n.toNat) = (b.map fun n => UInt8.ofNat n.toNat) → a = b := by
        intro a
        induction a with
        | nil => intro b _ _ h; cases b with | nil => rfl | cons y b => simp at h
        | cons x a ih =>
          intro b ha hb h
          cases b with
          | nil => simp at h
          | cons y b =>
            simp only [List.map_cons, List.cons.injEq] at h
            rw [u8_inj (ha x (List.mem_cons_self ..)) (hb y (List.mem_cons_self ..)) h.1, ih (fun z hz => ha z (List.mem_cons_of_mem _ hz)) (fun z hz => hb z (List.mem_cons_of_mem _ hz)) h.2]
      exact key ha hb e
    simp [h, this]
theorem equal_con (a b : List Int) (ha : byt8 a) (hb : byt8 b) : Con Try.prog 30 [] [fB a, fB b] [] (Bo (decide (a = b))) := by
  refine con_j b30 rfl ?_
  have h1 := cB_length a
  have h2 := cB_length b
  have h3 := bys_ok a
  have h4 := bys_ok b
  have h5 := str_eq ha hb
  sym =>
  simp [Zab,Zad,Zak,Zam,Zaz,Za0,Za1,Za2,Za3,Za4,Za5,Za9,Zba,Zbb,Zbf,Zbp,Zev,Zew,Zez,Ze0,Ze2,Zfd,Zfe,Zfh,Zfn,Zf8,Zgl,Zgm,Zmt,Zmv,Zmw,Zmx,Zmz,Zm2,Zna,Znb,Zos,Zot,Zo7,Zpc,eq_self,true_and,and_true,h1,h2,h3,h4,h5]
  tactic =>
  refine endA ?_
  sym =>
  simp [Zab,Zad,Zak,Zam,Zaz,Za0,Za1,Za2,Za3,Za4,Za5,Za9,Zba,Zbb,Zbf,Zbp,Zev,Zew,Zez,Ze0,Ze2,Zfd,Zfe,Zfh,Zfn,Zf8,Zgl,Zgm,Zmt,Zmv,Zmw,Zmx,Zmz,Zm2,Zna,Znb,Zos,Zot,Zo7,Zpc,eq_self,true_and,and_true]
theorem clone_con (l : List Int) (hl : l.length ≤ 140737488355328) : Con Try.prog 32 [] [fB l] [] (fB l) := by
  refine con_j b32 rfl ?_
  sym =>
  simp [Zaa,Zab,Zad,Zae,Zaf,Zak,Zal,Zam,Zao,Zay,Zaz,Za0,Za1,Za2,Za3,Za4,Za5,Za9,Zba,Zbb,Zcz,Zc5,Zda,Zdb,Zev,Zew,Zez,Ze0,Ze2,Ze3,Ze4,Ze5,Zfc,Zfd,Zfe,Zff,Zfg,Zfh,Zhf,Ziq,Zir,Zix,Ziz,Zi0,Zi1,Zmt,Zmv,Zmw,Zmx,Zmz,Zm2,Zna,Znb,Znc,Znh,Zos,Zot,Zo3,Zo7,Zpx,Zp0,Zp1,Zp2,eq_self,true_and,and_true,Nat.zero_add,Nat.mul_one]
  tactic =>
  refine nilQ (fun h => ?_) ?_
  · sym =>
    simp [Zaa,Zab,Zad,Zae,Zaf,Zak,Zal,Zam,Zao,Zay,Zaz,Za0,Za1,Za2,Za3,Za4,Za5,Za9,Zba,Zbb,Zcz,Zc5,Zda,Zdb,Zev,Zew,Zez,Ze0,Ze2,Ze3,Ze4,Ze5,Zfc,Zfd,Zfe,Zff,Zfg,Zfh,Zhf,Ziq,Zir,Zix,Ziz,Zi0,Zi1,Zmt,Zmv,Zmw,Zmx,Zmz,Zm2,Zna,Znb,Znc,Znh,Zos,Zot,Zo3,Zo7,Zpx,Zp0,Zp1,Zp2,eq_self,true_and,and_true,Nat.zero_add,Nat.mul_one]
    tactic =>
    obtain rfl := List.length_eq_zero_iff.1 h
    refine endA ?_
    sym =>
    simp [Zaa,Zab,Zad,Zae,Zaf,Zak,Zal,Zam,Zao,Zay,Zaz,Za0,Za1,Za2,Za3,Za4,Za5,Za9,Zba,Zbb,Zcz,Zc5,Zda,Zdb,Zev,Zew,Zez,Ze0,Ze2,Ze3,Ze4,Ze5,Zfc,Zfd,Zfe,Zff,Zfg,Zfh,Zhf,Ziq,Zir,Zix,Ziz,Zi0,Zi1,Zmt,Zmv,Zmw,Zmx,Zmz,Zm2,Zna,Znb,Znc,Znh,Zos,Zot,Zo3,Zo7,Zpx,Zp0,Zp1,Zp2,eq_self,true_and,and_true,Nat.zero_add,Nat.mul_one]
    tactic =>
    rfl
  · have h0 := cB_length l
    have h1 := cB_all l
    have h2 := cB_okI l
    sym =>
    simp [Zaa,Zab,Zad,Zae,Zaf,Zak,Zal,Zam,Zao,Zay,Zaz,Za0,Za1,Za2,Za3,Za4,Za5,Za9,Zba,Zbb,Zcz,Zc5,Zda,Zdb,Zev,Zew,Zez,Ze0,Ze2,Ze3,Ze4,Ze5,Zfc,Zfd,Zfe,Zff,Zfg,Zfh,Zhf,Ziq,Zir,Zix,Ziz,Zi0,Zi1,Zmt,Zmv,Zmw,Zmx,Zmz,Zm2,Zna,Znb,Znc,Znh,Zos,Zot,Zo3,Zo7,Zpx,Zp0,Zp1,Zp2,eq_self,true_and,and_true,Nat.zero_add,Nat.mul_one,h0]
    tactic =>
    refine ⟨⟨cB_okF l, hl, by omega⟩, ?_⟩
    refine endA ?_
    sym =>
    simp [Zaa,Zab,Zad,Zae,Zaf,Zak,Zal,Zam,Zao,Zay,Zaz,Za0,Za1,Za2,Za3,Za4,Za5,Za9,Zba,Zbb,Zcz,Zc5,Zda,Zdb,Zev,Zew,Zez,Ze0,Ze2,Ze3,Ze4,Ze5,Zfc,Zfd,Zfe,Zff,Zfg,Zfh,Zhf,Ziq,Zir,Zix,Ziz,Zi0,Zi1,Zmt,Zmv,Zmw,Zmx,Zmz,Zm2,Zna,Znb,Znc,Znh,Zos,Zot,Zo3,Zo7,Zpx,Zp0,Zp1,Zp2,eq_self,true_and,and_true,Nat.zero_add,Nat.mul_one,h0,h1]
    tactic =>
    exact ⟨Nat.le_refl _, h2⟩
/-- A number in four bytes, the lowest first. -/
def le4 (n : Nat) : List Int := [((n % 256 : Nat) : Int), ((n / 256 % 256 : Nat) : Int), ((n / 65536 % 256 : Nat) : Int), ((n / 16777216 % 256 : Nat) : Int)]
theorem le4_step (n j : Nat) (h : j < 4) : IntKind.u8.wrap (((n : Nat) : Int).fdiv (2 ^ (8 * j))) = (le4 n).getD j 0 := by
  rw [w8u, Int.fdiv_eq_ediv_of_nonneg _ (Int.le_of_lt (Int.pow_pos (by decide)))]
  match j, h with
  | 0, _ => show (n : Int) / 1 % 256 = ((n % 256 : Nat) : Int); omega
  | 1, _ => show (n : Int) / 256 % 256 = ((n / 256 % 256 : Nat) : Int); omega
  | 2, _ => show (n : Int) / 65536 % 256 = ((n / 65536 % 256 : Nat) : Int); omega
  | 3, _ => show (n : Int) / 16777216 % 256 = ((n / 16777216 % 256 : Nat) : Int); omega
def lay4 (n j : Nat) : List Int := (le4 n).take j ++ List.replicate (4 - j) 0
theorem lay4_length (n j : Nat) (h : j ≤ 4) : (lay4 n j).length = 4 := by
  have : (le4 n).length = 4 := rfl
  simp [lay4, this]; omega
theorem lay4_step (n j : Nat) (h : j < 4) : (lay4 n j).set j ((le4 n).getD j 0) = lay4 n (j + 1) := by
  match j, h with
  | 0, _ => rfl
  | 1, _ => rfl
  | 2, _ => rfl
  | 3, _ => rfl
def i45 (n : Nat) (k : Nat) (s : St) : Prop := ∃ j : Nat, j + k = 4 ∧ s = ⟨[(0, U (n : Int)), (3, .lv 0 0 4), (7, I 4), (8, I (IN j))], [(0, ⟨cB (lay4 n j), 1, 0⟩)], 1⟩
theorem lay_con (n : Nat) : Con Try.prog 45 [] [U (n : Int)] [] (fB (le4 n)) := by
  refine con_j b45 rfl ?_
  sym =>
  simp [Zaa,Zab,Zad,Zae,Zaf,Zag,Zah,Zai,Zak,Zal,Zam,Zan,Zap,Zaq,Zav,Zaw,Zay,Zaz,Za0,Za1,Za2,Za3,Za4,Za5,Za9,Zba,Zbb,Zbf,Zbl,Zb1,Zcn,Zc1,Zc3,Zev,Zew,Zez,Ze0,Ze1,Ze2,Ze3,Ze5,Zfc,Zfd,Zfe,Zfh,Zfn,Zfp,Zfq,Zfs,Zf1,Zgh,Zgi,Zgv,Zg4,Zg5,Zho,Zh6,Zh9,Zis,Zit,Ziu,Ziv,Ziw,Zi7,Zjh,Zji,Zjn,Zmt,Zmv,Zmw,Zmx,Zmz,Zm2,Zna,Znb,Znh,Znn,Zno,Znr,Zns,Znw,Zn5,Zn9,Zrd,Zos,Zot,Zo7,Zo8,Zo9,Zpc,Zpo,Zp0,Zp1,Zp2,Zqf,Zqg,Zqh,Zqi,Zqk,Zql,Zqm,Zqn,eq_self,true_and,and_true,Nat.zero_add,Nat.mul_one]
  tactic =>
  refine lpA (i45 n) 4 [(0, 1)] _ ⟨0, by omega, rfl⟩ (wkA ?_) ?_
  · sym =>
    simp [Zaa,Zab,Zad,Zae,Zaf,Zag,Zah,Zai,Zak,Zal,Zam,Zan,Zap,Zaq,Zav,Zaw,Zay,Zaz,Za0,Za1,Za2,Za3,Za4,Za5,Za9,Zba,Zbb,Zbf,Zbl,Zb1,Zcn,Zc1,Zc3,Zev,Zew,Zez,Ze0,Ze1,Ze2,Ze3,Ze5,Zfc,Zfd,Zfe,Zfh,Zfn,Zfp,Zfq,Zfs,Zf1,Zgh,Zgi,Zgv,Zg4,Zg5,Zho,Zh6,Zh9,Zis,Zit,Ziu,Ziv,Ziw,Zi7,Zjh,Zji,Zjn,Zmt,Zmv,Zmw,Zmx,Zmz,Zm2,Zna,Znb,Znh,Znn,Zno,Znr,Zns,Znw,Zn5,Zn9,Zrd,Zos,Zot,Zo7,Zo8,Zo9,Zpc,Zpo,Zp0,Zp1,Zp2,Zqf,Zqg,Zqh,Zqi,Zqk,Zql,Zqm,Zqn,eq_self,true_and,and_true,Nat.zero_add,Nat.mul_one]
    tactic =>
    exact cB_rs _ _ _ _ _ rfl
  rintro k s ⟨j, hj, rfl⟩
  by_cases h : j < 4
  · have hI : IN j < (4 : Int) := by simp only [IN]; omega
    have hw := w64s j (by omega)
    have hm : IntKind.i64.wrap ((8 : Int) * IN j) = IN (8 * j) := by simp only [IN]; rw [w64 _ (by omega)]; omega
    have hge : (0 : Int) ≤ IN (8 * j) := by simp only [IN]; omega
    have hmn : min (8 * j) IntKind.u32.bits = 8 * j := by simp only [IntKind.bits]; omega
    have hs := le4_step n j h
    have hl := lay4_length n j (by omega)
    have hst := lay4_step n j h
    have hcs := cB_set (lay4 n j) j
    sym =>
    simp [Zaa,Zab,Zad,Zae,Zaf,Zag,Zah,Zai,Zak,Zal,Zam,Zan,Zap,Zaq,Zav,Zaw,Zay,Zaz,Za0,Za1,Za2,Za3,Za4,Za5,Za9,Zba,Zbb,Zbf,Zbl,Zb1,Zcn,Zc1,Zc3,Zev,Zew,Zez,Ze0,Ze1,Ze2,Ze3,Ze5,Zfc,Zfd,Zfe,Zfh,Zfn,Zfp,Zfq,Zfs,Zf1,Zgh,Zgi,Zgv,Zg4,Zg5,Zho,Zh6,Zh9,Zis,Zit,Ziu,Ziv,Ziw,Zi7,Zjh,Zji,Zjn,Zmt,Zmv,Zmw,Zmx,Zmz,Zm2,Zna,Znb,Znh,Znn,Zno,Znr,Zns,Znw,Zn5,Zn9,Zrd,Zos,Zot,Zo7,Zo8,Zo9,Zpc,Zpo,Zp0,Zp1,Zp2,Zqf,Zqg,Zqh,Zqi,Zqk,Zql,Zqm,Zqn,eq_self,true_and,and_true,Nat.zero_add,Nat.mul_one,hI,hw,hm,hge,hmn,hs,cB_length,hl,hcs,h]
    tactic =>
    and_intros <;> try (first | omega | rfl | assumption | simp only [IN]; omega)
    unfold NextL; refine ⟨(k - 1), [(0, 0)], _, by omega, ⟨j + 1, by omega, rfl⟩, wkA ?_⟩
    sym =>
    simp [Zaa,Zab,Zad,Zae,Zaf,Zag,Zah,Zai,Zak,Zal,Zam,Zan,Zap,Zaq,Zav,Zaw,Zay,Zaz,Za0,Za1,Za2,Za3,Za4,Za5,Za9,Zba,Zbb,Zbf,Zbl,Zb1,Zcn,Zc1,Zc3,Zev,Zew,Zez,Ze0,Ze1,Ze2,Ze3,Ze5,Zfc,Zfd,Zfe,Zfh,Zfn,Zfp,Zfq,Zfs,Zf1,Zgh,Zgi,Zgv,Zg4,Zg5,Zho,Zh6,Zh9,Zis,Zit,Ziu,Ziv,Ziw,Zi7,Zjh,Zji,Zjn,Zmt,Zmv,Zmw,Zmx,Zmz,Zm2,Zna,Znb,Znh,Znn,Zno,Znr,Zns,Znw,Zn5,Zn9,Zrd,Zos,Zot,Zo7,Zo8,Zo9,Zpc,Zpo,Zp0,Zp1,Zp2,Zqf,Zqg,Zqh,Zqi,Zqk,Zql,Zqm,Zqn,eq_self,true_and,and_true,Nat.zero_add,Nat.mul_one]
    tactic =>
    rw [hst]
    exact cB_rs _ _ _ _ _ rfl
  · have hI : ¬ IN j < (4 : Int) := by simp only [IN]; omega
    obtain rfl : j = 4 := by omega
    have e : lay4 n 4 = le4 n := rfl
    rw [e]
    sym =>
    simp [Zaa,Zab,Zad,Zae,Zaf,Zag,Zah,Zai,Zak,Zal,Zam,Zan,Zap,Zaq,Zav,Zaw,Zay,Zaz,Za0,Za1,Za2,Za3,Za4,Za5,Za9,Zba,Zbb,Zbf,Zbl,Zb1,Zcn,Zc1,Zc3,Zev,Zew,Zez,Ze0,Ze1,Ze2,Ze3,Ze5,Zfc,Zfd,Zfe,Zfh,Zfn,Zfp,Zfq,Zfs,Zf1,Zgh,Zgi,Zgv,Zg4,Zg5,Zho,Zh6,Zh9,Zis,Zit,Ziu,Ziv,Ziw,Zi7,Zjh,Zji,Zjn,Zmt,Zmv,Zmw,Zmx,Zmz,Zm2,Zna,Znb,Znh,Znn,Zno,Znr,Zns,Znw,Zn5,Zn9,Zrd,Zos,Zot,Zo7,Zo8,Zo9,Zpc,Zpo,Zp0,Zp1,Zp2,Zqf,Zqg,Zqh,Zqi,Zqk,Zql,Zqm,Zqn,eq_self,true_and,and_true,Nat.zero_add,Nat.mul_one,hI]
    tactic =>
    refine endA ?_
    sym =>
    simp [Zaa,Zab,Zad,Zae,Zaf,Zag,Zah,Zai,Zak,Zal,Zam,Zan,Zap,Zaq,Zav,Zaw,Zay,Zaz,Za0,Za1,Za2,Za3,Za4,Za5,Za9,Zba,Zbb,Zbf,Zbl,Zb1,Zcn,Zc1,Zc3,Zev,Zew,Zez,Ze0,Ze1,Ze2,Ze3,Ze5,Zfc,Zfd,Zfe,Zfh,Zfn,Zfp,Zfq,Zfs,Zf1,Zgh,Zgi,Zgv,Zg4,Zg5,Zho,Zh6,Zh9,Zis,Zit,Ziu,Ziv,Ziw,Zi7,Zjh,Zji,Zjn,Zmt,Zmv,Zmw,Zmx,Zmz,Zm2,Zna,Znb,Znh,Znn,Zno,Znr,Zns,Znw,Zn5,Zn9,Zrd,Zos,Zot,Zo7,Zo8,Zo9,Zpc,Zpo,Zp0,Zp1,Zp2,Zqf,Zqg,Zqh,Zqi,Zqk,Zql,Zqm,Zqn,eq_self,true_and,and_true,Nat.zero_add,Nat.mul_one]
    tactic =>
    exact ⟨rfl, rfl, Nat.le_refl _, cB_okI _⟩
theorem bclone_con (l : List Int) (hl : l.length ≤ 140737488355328) : Con Try.prog 32 [] [fB l] [(0, ⟨cB l, 1, 0⟩)] (.lv 0 0 l.length) := by
  refine con_o b32 rfl ?_
  sym =>
  simp [Zaa,Zab,Zad,Zae,Zaf,Zak,Zal,Zam,Zao,Zay,Zaz,Za0,Za1,Za2,Za3,Za4,Za5,Za9,Zba,Zbb,Zcz,Zc5,Zda,Zdb,Zev,Zew,Zez,Ze0,Ze2,Ze3,Ze4,Ze5,Zfb,Zfc,Zfd,Zfe,Zff,Zfg,Zfh,Zhf,Ziq,Zir,Zix,Ziz,Zi0,Zi1,Zmt,Zmv,Zmw,Zmx,Zmz,Zm2,Zna,Znb,Znc,Znr,Zos,Zot,Zo3,Zo7,Zpo,Zpr,Zqh,Zqi,Zqj,Zqk,Zql,Zqm,Zqn,eq_self,true_and,and_true,Nat.zero_add,Nat.mul_one]
  tactic =>
  refine nilQ (fun h => ?_) ?_
  · sym =>
    simp [Zaa,Zab,Zad,Zae,Zaf,Zak,Zal,Zam,Zao,Zay,Zaz,Za0,Za1,Za2,Za3,Za4,Za5,Za9,Zba,Zbb,Zcz,Zc5,Zda,Zdb,Zev,Zew,Zez,Ze0,Ze2,Ze3,Ze4,Ze5,Zfb,Zfc,Zfd,Zfe,Zff,Zfg,Zfh,Zhf,Ziq,Zir,Zix,Ziz,Zi0,Zi1,Zmt,Zmv,Zmw,Zmx,Zmz,Zm2,Zna,Znb,Znc,Znr,Zos,Zot,Zo3,Zo7,Zpo,Zpr,Zqh,Zqi,Zqj,Zqk,Zql,Zqm,Zqn,eq_self,true_and,and_true,Nat.zero_add,Nat.mul_one]
    tactic =>
    obtain rfl := List.length_eq_zero_iff.1 h
    refine endO [] (nx := 1) ?_
    sym =>
    simp [Zaa,Zab,Zad,Zae,Zaf,Zak,Zal,Zam,Zao,Zay,Zaz,Za0,Za1,Za2,Za3,Za4,Za5,Za9,Zba,Zbb,Zcz,Zc5,Zda,Zdb,Zev,Zew,Zez,Ze0,Ze2,Ze3,Ze4,Ze5,Zfb,Zfc,Zfd,Zfe,Zff,Zfg,Zfh,Zhf,Ziq,Zir,Zix,Ziz,Zi0,Zi1,Zmt,Zmv,Zmw,Zmx,Zmz,Zm2,Zna,Znb,Znc,Znr,Zos,Zot,Zo3,Zo7,Zpo,Zpr,Zqh,Zqi,Zqj,Zqk,Zql,Zqm,Zqn,eq_self,true_and,and_true,Nat.zero_add,Nat.mul_one]
    tactic =>
    rfl
  · sym =>
    simp [Zaa,Zab,Zad,Zae,Zaf,Zak,Zal,Zam,Zao,Zay,Zaz,Za0,Za1,Za2,Za3,Za4,Za5,Za9,Zba,Zbb,Zcz,Zc5,Zda,Zdb,Zev,Zew,Zez,Ze0,Ze2,Ze3,Ze4,Ze5,Zfb,Zfc,Zfd,Zfe,Zff,Zfg,Zfh,Zhf,Ziq,Zir,Zix,Ziz,Zi0,Zi1,Zmt,Zmv,Zmw,Zmx,Zmz,Zm2,Zna,Znb,Znc,Znr,Zos,Zot,Zo3,Zo7,Zpo,Zpr,Zqh,Zqi,Zqj,Zqk,Zql,Zqm,Zqn,eq_self,true_and,and_true,Nat.zero_add,Nat.mul_one,cB_length]
    tactic =>
    refine ⟨⟨cB_okF l, hl, by omega⟩, ?_⟩
    refine endO [(0, 5)] (nx := 6) ?_
    sym =>
    simp [Zaa,Zab,Zad,Zae,Zaf,Zak,Zal,Zam,Zao,Zay,Zaz,Za0,Za1,Za2,Za3,Za4,Za5,Za9,Zba,Zbb,Zcz,Zc5,Zda,Zdb,Zev,Zew,Zez,Ze0,Ze2,Ze3,Ze4,Ze5,Zfb,Zfc,Zfd,Zfe,Zff,Zfg,Zfh,Zhf,Ziq,Zir,Zix,Ziz,Zi0,Zi1,Zmt,Zmv,Zmw,Zmx,Zmz,Zm2,Zna,Znb,Znc,Znr,Zos,Zot,Zo3,Zo7,Zpo,Zpr,Zqh,Zqi,Zqj,Zqk,Zql,Zqm,Zqn,eq_self,true_and,and_true,Nat.zero_add,Nat.mul_one]
    tactic =>
    exact rs_self (cB_okI l)
def slB (b : List Int) : List Int := b ++ le4 (sumN b)
theorem slB_length (b : List Int) : (slB b).length = b.length + 4 := by rw [slB, List.length_append]; rfl
theorem seal_con (b : List Int) (hb : byt8 b) (hl : b.length ≤ 1000000) : Con Try.prog 25 [] [fB b] [] (fB (slB b)) := by
  refine con_j b25 rfl ?_
  sym =>
  simp [Zab,Zad,Zak,Zam,Zaz,Za0,Za1,Za2,Za3,Za4,Za5,Za9,Zba,Zbb,Zc5,Zdc,Zdd,Zde,Zdi,Zev,Zew,Zez,Ze0,Ze2,Ze3,Ze4,Ze5,Zfc,Zfd,Zfe,Zff,Zfg,Zfh,Zix,Ziz,Zi0,Zi1,Zjr,Zkb,Zla,Zlb,Zle,Zlj,Zll,Zlz,Zl0,Zl1,Zl2,Zmk,Zmt,Zmv,Zmw,Zmx,Zmz,Zm2,Zna,Znb,Zne,Znf,Zng,Znh,Zod,Zos,Zot,Zo7,Zp0,Zp1,Zp2,List.length_append,eq_self,true_and,and_true,Nat.zero_add,Nat.mul_one,callable_32]
  tactic =>
  refine cl (some ⟨cB b, 1, 0⟩) (bclone_con b (by omega)) ⟨rfl, cB_okI _⟩ ?_
  sym =>
  simp [Zab,Zad,Zak,Zam,Zaz,Za0,Za1,Za2,Za3,Za4,Za5,Za9,Zba,Zbb,Zc5,Zdc,Zdd,Zde,Zdi,Zev,Zew,Zez,Ze0,Ze2,Ze3,Ze4,Ze5,Zfc,Zfd,Zfe,Zff,Zfg,Zfh,Zix,Ziz,Zi0,Zi1,Zjr,Zkb,Zla,Zlb,Zle,Zlj,Zll,Zlz,Zl0,Zl1,Zl2,Zmk,Zmt,Zmv,Zmw,Zmx,Zmz,Zm2,Zna,Znb,Zne,Znf,Zng,Znh,Zod,Zos,Zot,Zo7,Zp0,Zp1,Zp2,List.length_append,eq_self,true_and,and_true,Nat.zero_add,Nat.mul_one,callable_46]
  tactic =>
  refine cl none (sum_con b hb (by omega)) trivial ?_
  sym =>
  simp [Zab,Zad,Zak,Zam,Zaz,Za0,Za1,Za2,Za3,Za4,Za5,Za9,Zba,Zbb,Zc5,Zdc,Zdd,Zde,Zdi,Zev,Zew,Zez,Ze0,Ze2,Ze3,Ze4,Ze5,Zfc,Zfd,Zfe,Zff,Zfg,Zfh,Zix,Ziz,Zi0,Zi1,Zjr,Zkb,Zla,Zlb,Zle,Zlj,Zll,Zlz,Zl0,Zl1,Zl2,Zmk,Zmt,Zmv,Zmw,Zmx,Zmz,Zm2,Zna,Znb,Zne,Znf,Zng,Znh,Zod,Zos,Zot,Zo7,Zp0,Zp1,Zp2,List.length_append,eq_self,true_and,and_true,Nat.zero_add,Nat.mul_one,callable_45]
  tactic =>
  refine cl none (lay_con (sumN b)) trivial ?_
  have h4 : (le4 (sumN b)).length = 4 := rfl
  have hc4 : (cB (le4 (sumN b))).length = 4 := rfl
  have hF := okF_cells (cB_okF (le4 (sumN b)))
  sym =>
  simp [Zab,Zad,Zak,Zam,Zaz,Za0,Za1,Za2,Za3,Za4,Za5,Za9,Zba,Zbb,Zc5,Zdc,Zdd,Zde,Zdi,Zev,Zew,Zez,Ze0,Ze2,Ze3,Ze4,Ze5,Zfc,Zfd,Zfe,Zff,Zfg,Zfh,Zix,Ziz,Zi0,Zi1,Zjr,Zkb,Zla,Zlb,Zle,Zlj,Zll,Zlz,Zl0,Zl1,Zl2,Zmk,Zmt,Zmv,Zmw,Zmx,Zmz,Zm2,Zna,Znb,Zne,Znf,Zng,Znh,Zod,Zos,Zot,Zo7,Zp0,Zp1,Zp2,List.length_append,eq_self,true_and,and_true,Nat.zero_add,Nat.mul_one,h4,hc4,cB_length]
  tactic =>
  and_intros <;> try (first | omega | rfl | assumption | simp only [IN]; omega)
  · exact cB_okF _
  refine endA ?_
  sym =>
  simp [Zab,Zad,Zak,Zam,Zaz,Za0,Za1,Za2,Za3,Za4,Za5,Za9,Zba,Zbb,Zc5,Zdc,Zdd,Zde,Zdi,Zev,Zew,Zez,Ze0,Ze2,Ze3,Ze4,Ze5,Zfc,Zfd,Zfe,Zff,Zfg,Zfh,Zix,Ziz,Zi0,Zi1,Zjr,Zkb,Zla,Zlb,Zle,Zlj,Zll,Zlz,Zl0,Zl1,Zl2,Zmk,Zmt,Zmv,Zmw,Zmx,Zmz,Zm2,Zna,Znb,Zne,Znf,Zng,Znh,Zod,Zos,Zot,Zo7,Zp0,Zp1,Zp2,List.length_append,eq_self,true_and,and_true,Nat.zero_add,Nat.mul_one,cB_length]
  tactic =>
  refine ⟨slB_length b, ?_⟩
  have hc : cB b ++ cB (le4 (sumN b)) = cB (slB b) := (cB_append _ _).symm
  rw [List.take_of_length_le (by rw [hc, cB_length, slB_length]; exact Nat.le_refl _)]
  exact ⟨hc.symm, Nat.le_refl _, cB_okI _, cB_okI _⟩
theorem rseal_con (b : List Int) (hb : byt8 b) (hl : b.length ≤ 1000000) : Con Try.prog 18 [] [fB b] [] (fB (slB b)) := by
  refine con_j b18 rfl ?_
  sym =>
  simp [Zab,Zad,Zak,Zam,Zaz,Za0,Za1,Za2,Za3,Za4,Za5,Za9,Zba,Zbb,Zbf,Zbl,Zcz,Zc5,Zdc,Zdd,Zde,Zdi,Zev,Zew,Zez,Ze0,Ze2,Ze3,Ze4,Ze5,Zfc,Zfd,Zfe,Zff,Zfg,Zfh,Zfn,Zft,Zfu,Zgh,Zgi,Zhf,Zhg,Zhh,Ziq,Zir,Zix,Ziy,Ziz,Zi0,Zi1,Zi2,Zi3,Zi7,Zjj,Zjk,Zjo,Zjr,Zla,Zlb,Zle,Zll,Zlz,Zmt,Zmv,Zmw,Zmx,Zmz,Zm2,Zna,Znb,Zne,Znf,Zng,Znh,Znl,Znm,Znn,Zno,Znp,Zos,Zot,Zo7,Zp0,Zp1,Zp2,eq_self,true_and,and_true,Nat.zero_add,Nat.mul_one,callable_34]
  tactic =>
  refine cl none (rsum_con b hb (by omega)) trivial ?_
  have hlt := sumN_lt b
  obtain ⟨n, hn⟩ : ∃ n, n = sumN b := ⟨_, rfl⟩
  have hsl : slB b = b ++ le4 n := by rw [hn]; rfl
  rw [← hn] at hlt ⊢
  have e0 : IntKind.u8.wrap ((n : Int).tmod (256 : Int)) = ((n % 256 : Nat) : Int) := by rw [w8u, Int.tmod_eq_emod_of_nonneg (by omega)]; omega
  have d1 : IntKind.u32.wrap ((n : Int).tdiv (256 : Int)) = ((n / 256 : Nat) : Int) := by rw [w32u, Int.tdiv_eq_ediv_of_nonneg (by omega)]; omega
  have d2 : IntKind.u32.wrap ((n : Int).tdiv (65536 : Int)) = ((n / 65536 : Nat) : Int) := by rw [w32u, Int.tdiv_eq_ediv_of_nonneg (by omega)]; omega
  have d3 : IntKind.u32.wrap ((n : Int).tdiv (16777216 : Int)) = ((n / 16777216 : Nat) : Int) := by rw [w32u, Int.tdiv_eq_ediv_of_nonneg (by omega)]; omega
  have e1 : IntKind.u8.wrap (((n / 256 : Nat) : Int).tmod (256 : Int)) = ((n / 256 % 256 : Nat) : Int) := by rw [w8u, Int.tmod_eq_emod_of_nonneg (by omega)]; omega
  have e2 : IntKind.u8.wrap (((n / 65536 : Nat) : Int).tmod (256 : Int)) = ((n / 65536 % 256 : Nat) : Int) := by rw [w8u, Int.tmod_eq_emod_of_nonneg (by omega)]; omega
  have e3 : IntKind.u8.wrap ((n / 16777216 : Nat) : Int) = ((n / 16777216 % 256 : Nat) : Int) := by rw [w8u]; omega
  have hbF := cB_okF b
  sym =>
  simp [Zab,Zad,Zak,Zam,Zaz,Za0,Za1,Za2,Za3,Za4,Za5,Za9,Zba,Zbb,Zbf,Zbl,Zcz,Zc5,Zdc,Zdd,Zde,Zdi,Zev,Zew,Zez,Ze0,Ze2,Ze3,Ze4,Ze5,Zfc,Zfd,Zfe,Zff,Zfg,Zfh,Zfn,Zft,Zfu,Zgh,Zgi,Zhf,Zhg,Zhh,Ziq,Zir,Zix,Ziy,Ziz,Zi0,Zi1,Zi2,Zi3,Zi7,Zjj,Zjk,Zjo,Zjr,Zla,Zlb,Zle,Zll,Zlz,Zmt,Zmv,Zmw,Zmx,Zmz,Zm2,Zna,Znb,Zne,Znf,Zng,Znh,Znl,Znm,Znn,Zno,Znp,Zos,Zot,Zo7,Zp0,Zp1,Zp2,eq_self,true_and,and_true,Nat.zero_add,Nat.mul_one,e0,d1,d2,d3,e1,e2,e3,cB_length]
  tactic =>
  and_intros <;> try (first | omega | rfl | assumption | simp only [IN]; omega)
  have hc : cB b ++ [Y ((n % 256 : Nat) : Int), Y ((n / 256 % 256 : Nat) : Int), Y ((n / 65536 % 256 : Nat) : Int), Y ((n / 16777216 % 256 : Nat) : Int)] = cB (slB b) := by rw [hsl, cB_append]; rfl
  have hsl2 := slB_length b
  rw [hc]
  refine endA ?_
  sym =>
  simp [Zab,Zad,Zak,Zam,Zaz,Za0,Za1,Za2,Za3,Za4,Za5,Za9,Zba,Zbb,Zbf,Zbl,Zcz,Zc5,Zdc,Zdd,Zde,Zdi,Zev,Zew,Zez,Ze0,Ze2,Ze3,Ze4,Ze5,Zfc,Zfd,Zfe,Zff,Zfg,Zfh,Zfn,Zft,Zfu,Zgh,Zgi,Zhf,Zhg,Zhh,Ziq,Zir,Zix,Ziy,Ziz,Zi0,Zi1,Zi2,Zi3,Zi7,Zjj,Zjk,Zjo,Zjr,Zla,Zlb,Zle,Zll,Zlz,Zmt,Zmv,Zmw,Zmx,Zmz,Zm2,Zna,Znb,Zne,Znf,Zng,Znh,Znl,Znm,Znn,Zno,Znp,Zos,Zot,Zo7,Zp0,Zp1,Zp2,eq_self,true_and,and_true,Nat.zero_add,Nat.mul_one,hsl2,cB_length]
  tactic =>
  rw [List.take_of_length_le (by rw [cB_length, hsl2]; exact Nat.le_refl _)]
  exact ⟨rfl, Nat.le_refl _, cB_okI _⟩
theorem hasPrefix_con (a b : List Int) (ha : byt8 a) (hb : byt8 b) (hl : b.length ≤ a.length) : Con Try.prog 36 [] [fB a, fB b] [] (Bo (decide (a.take b.length = b))) := by
  refine con_j b36 rfl ?_
  have hge : IN a.length ≥ IN b.length := by simp only [IN]; omega
  have h1 : IN b.length ≤ IN a.length := by simp only [IN]; omega
  have ht : List.take b.length (cB a) = cB (a.take b.length) := (cB_take _ _).symm
  have hk := equal_con (a.take b.length) b (byt8_take ha _) hb
  have htl : (a.take b.length).length = b.length := by rw [List.length_take]; omega
  simp only [fB, htl] at hk
  sym =>
  simp [Zab,Zad,Zak,Zam,Zaz,Za0,Za1,Za2,Za3,Za4,Za5,Za6,Za7,Za9,Zba,Zbb,Zbd,Zbf,Zch,Zcn,Zdc,Zdd,Zde,Zdi,Zev,Zew,Zex,Zez,Ze0,Ze2,Ze5,Zfd,Zfe,Zfh,Zfi,Zfl,Zfn,Zf4,Zhm,Zhn,Zho,Zhs,Zht,Zhu,Zh6,Zh7,Zjw,Zla,Zlb,Zle,Zll,Zlz,Zmt,Zmv,Zmw,Zmx,Zmz,Zm2,Zna,Znb,Zne,Znf,Zng,Znh,Zns,Znu,Znw,Zn5,Zrd,Zos,Zot,Zo7,Zo8,Zpc,eq_self,true_and,and_true,Nat.mul_one,Nat.sub_zero,hge,h1,hl,ht,cB_length,callable_30]
  tactic =>
  and_intros <;> try (first | omega | rfl | assumption | simp only [IN]; omega)
  refine cl none (hk) trivial ?_
  sym =>
  simp [Zab,Zad,Zak,Zam,Zaz,Za0,Za1,Za2,Za3,Za4,Za5,Za6,Za7,Za9,Zba,Zbb,Zbd,Zbf,Zch,Zcn,Zdc,Zdd,Zde,Zdi,Zev,Zew,Zex,Zez,Ze0,Ze2,Ze5,Zfd,Zfe,Zfh,Zfi,Zfl,Zfn,Zf4,Zhm,Zhn,Zho,Zhs,Zht,Zhu,Zh6,Zh7,Zjw,Zla,Zlb,Zle,Zll,Zlz,Zmt,Zmv,Zmw,Zmx,Zmz,Zm2,Zna,Znb,Zne,Znf,Zng,Znh,Zns,Znu,Znw,Zn5,Zrd,Zos,Zot,Zo7,Zo8,Zpc,eq_self,true_and,and_true,Nat.mul_one,Nat.sub_zero]
  tactic =>
  refine endA ?_
  sym =>
  simp [Zab,Zad,Zak,Zam,Zaz,Za0,Za1,Za2,Za3,Za4,Za5,Za6,Za7,Za9,Zba,Zbb,Zbd,Zbf,Zch,Zcn,Zdc,Zdd,Zde,Zdi,Zev,Zew,Zex,Zez,Ze0,Ze2,Ze5,Zfd,Zfe,Zfh,Zfi,Zfl,Zfn,Zf4,Zhm,Zhn,Zho,Zhs,Zht,Zhu,Zh6,Zh7,Zjw,Zla,Zlb,Zle,Zll,Zlz,Zmt,Zmv,Zmw,Zmx,Zmz,Zm2,Zna,Znb,Zne,Znf,Zng,Znh,Zns,Znu,Znw,Zn5,Zrd,Zos,Zot,Zo7,Zo8,Zpc,eq_self,true_and,and_true,Nat.mul_one,Nat.sub_zero]
/-- What is opened: the bytes, and the error. -/
def opF (b : List Int) : List Int × Int := if b.length < 4 then ([], 4) else if le4 (sumN (b.take (b.length - 4))) = b.drop (b.length - 4) then (b.take (b.length - 4), 0) else ([], 9)
theorem le4_byt (n : Nat) : byt8 (le4 n) := by
  intro x hx
  simp only [le4, List.mem_cons, List.not_mem_nil, or_false] at hx
  omega
theorem open_con (b : List Int) (hb : byt8 b) (hl : b.length ≤ 1000000) : Con Try.prog 35 [] [fB b] [] (.tu [fB (opF b).1, I (opF b).2]) := by
  refine con_j b35 rfl ?_
  by_cases h : b.length < 4
  · have hw : IntKind.i64.wrap (IN b.length - (4 : Int)) = IN b.length - (4 : Int) := by simp only [IN]; exact w64 _ (by omega)
    have hlt : IN b.length - (4 : Int) < 0 := by simp only [IN]; omega
    rw [opF, if_pos h]
    sym =>
    simp [Zaa,Zab,Zac,Zad,Zae,Zaf,Zag,Zak,Zal,Zam,Zao,Zap,Zar,Zay,Zaz,Za0,Za1,Za2,Za3,Za4,Za5,Za9,Zba,Zbb,Zbc,Zbf,Zbk,Zch,Zci,Zcn,Zc7,Zc8,Zdc,Zdd,Zde,Zdf,Zdg,Zdh,Zdi,Zdj,Zdk,Zdm,Zdo,Zdp,Zdt,Zdu,Zdv,Zdw,Zdx,Zdy,Zd0,Zd1,Zd2,Zeb,Zeq,Zet,Zev,Zew,Zez,Ze0,Ze2,Ze5,Zfd,Zfe,Zfh,Zfn,Zfr,Zf1,Zgd,Zgg,Zhm,Zhn,Zho,Zhs,Zht,Zhu,Zh6,Zh7,Zjr,Zjw,Zkb,Zla,Zlb,Zle,Zlj,Zll,Zlz,Zl2,Zmt,Zmv,Zmw,Zmx,Zmz,Zm3,Zna,Znb,Zne,Znf,Zng,Znh,Zns,Znu,Znw,Znz,Zn5,Zof,Zog,Zrd,Zos,Zot,Zo3,Zo4,Zo7,Zo8,Zo9,Zpb,Zph,Zpw,Zp9,Zqd,Zqe,List.length_drop,eq_self,true_and,and_true,Nat.mul_one,Nat.sub_zero,hw,hlt]
    tactic =>
    refine endA ?_
    sym =>
    simp [Zaa,Zab,Zac,Zad,Zae,Zaf,Zag,Zak,Zal,Zam,Zao,Zap,Zar,Zay,Zaz,Za0,Za1,Za2,Za3,Za4,Za5,Za9,Zba,Zbb,Zbc,Zbf,Zbk,Zch,Zci,Zcn,Zc7,Zc8,Zdc,Zdd,Zde,Zdf,Zdg,Zdh,Zdi,Zdj,Zdk,Zdm,Zdo,Zdp,Zdt,Zdu,Zdv,Zdw,Zdx,Zdy,Zd0,Zd1,Zd2,Zeb,Zeq,Zet,Zev,Zew,Zez,Ze0,Ze2,Ze5,Zfd,Zfe,Zfh,Zfn,Zfr,Zf1,Zgd,Zgg,Zhm,Zhn,Zho,Zhs,Zht,Zhu,Zh6,Zh7,Zjr,Zjw,Zkb,Zla,Zlb,Zle,Zlj,Zll,Zlz,Zl2,Zmt,Zmv,Zmw,Zmx,Zmz,Zm3,Zna,Znb,Zne,Znf,Zng,Znh,Zns,Znu,Znw,Znz,Zn5,Zof,Zog,Zrd,Zos,Zot,Zo3,Zo4,Zo7,Zo8,Zo9,Zpb,Zph,Zpw,Zp9,Zqd,Zqe,List.length_drop,eq_self,true_and,and_true,Nat.mul_one,Nat.sub_zero]
    tactic =>
    rfl
  · have hw : IntKind.i64.wrap (IN b.length - (4 : Int)) = IN (b.length - 4) := w64m _ _ 4 (by omega) (by omega)
    have hlt : ¬ IN (b.length - 4) < (0 : Int) := by simp only [IN]; omega
    have hle : b.length - 4 ≤ b.length := by omega
    have h0 : (0 : Int) ≤ IN (b.length - 4) := by simp only [IN]; omega
    rw [opF, if_neg h]
    obtain ⟨m, hm⟩ : ∃ m, m = b.length - 4 := ⟨_, rfl⟩
    rw [← hm] at hw hlt hle h0 ⊢
    have ht : List.take m (cB b) = cB (b.take m) := (cB_take _ _).symm
    have hdl : b.length - m = 4 := by omega
    have hd : List.take 4 (List.drop m (cB b)) = cB (b.drop m) := by
      rw [← cB_drop]; exact List.take_of_length_le (by rw [cB_length, List.length_drop]; omega)
    have htl : (b.take m).length = m := by rw [List.length_take]; omega
    have hddl : (b.drop m).length = 4 := by rw [List.length_drop]; omega
    have hsum := sum_con (b.take m) (byt8_take hb _) (by omega)
    simp only [fB, htl] at hsum
    have heq := equal_con (le4 (sumN (b.take m))) (b.drop m) (le4_byt _) (byt8_drop hb _)
    have hcl := clone_con (b.take m) (by omega)
    simp only [fB, htl] at hcl
    simp only [fB, hddl] at heq
    sym =>
    simp [Zaa,Zab,Zac,Zad,Zae,Zaf,Zag,Zak,Zal,Zam,Zao,Zap,Zar,Zay,Zaz,Za0,Za1,Za2,Za3,Za4,Za5,Za9,Zba,Zbb,Zbc,Zbf,Zbk,Zch,Zci,Zcn,Zc7,Zc8,Zdc,Zdd,Zde,Zdf,Zdg,Zdh,Zdi,Zdj,Zdk,Zdm,Zdo,Zdp,Zdt,Zdu,Zdv,Zdw,Zdx,Zdy,Zd0,Zd1,Zd2,Zeb,Zeq,Zet,Zev,Zew,Zez,Ze0,Ze2,Ze5,Zfd,Zfe,Zfh,Zfn,Zfr,Zf1,Zgd,Zgg,Zhm,Zhn,Zho,Zhs,Zht,Zhu,Zh6,Zh7,Zjr,Zjw,Zkb,Zla,Zlb,Zle,Zlj,Zll,Zlz,Zl2,Zmt,Zmv,Zmw,Zmx,Zmz,Zm3,Zna,Znb,Zne,Znf,Zng,Znh,Zns,Znu,Znw,Znz,Zn5,Zof,Zog,Zrd,Zos,Zot,Zo3,Zo4,Zo7,Zo8,Zo9,Zpb,Zph,Zpw,Zp9,Zqd,Zqe,List.length_drop,eq_self,true_and,and_true,Nat.mul_one,Nat.sub_zero,hw,hlt,hle,h0,ht,cB_length,callable_46]
    tactic =>
    and_intros <;> try (first | omega | rfl | assumption | simp only [IN]; omega)
    refine cl none (hsum) trivial ?_
    sym =>
    simp [Zaa,Zab,Zac,Zad,Zae,Zaf,Zag,Zak,Zal,Zam,Zao,Zap,Zar,Zay,Zaz,Za0,Za1,Za2,Za3,Za4,Za5,Za9,Zba,Zbb,Zbc,Zbf,Zbk,Zch,Zci,Zcn,Zc7,Zc8,Zdc,Zdd,Zde,Zdf,Zdg,Zdh,Zdi,Zdj,Zdk,Zdm,Zdo,Zdp,Zdt,Zdu,Zdv,Zdw,Zdx,Zdy,Zd0,Zd1,Zd2,Zeb,Zeq,Zet,Zev,Zew,Zez,Ze0,Ze2,Ze5,Zfd,Zfe,Zfh,Zfn,Zfr,Zf1,Zgd,Zgg,Zhm,Zhn,Zho,Zhs,Zht,Zhu,Zh6,Zh7,Zjr,Zjw,Zkb,Zla,Zlb,Zle,Zlj,Zll,Zlz,Zl2,Zmt,Zmv,Zmw,Zmx,Zmz,Zm3,Zna,Znb,Zne,Znf,Zng,Znh,Zns,Znu,Znw,Znz,Zn5,Zof,Zog,Zrd,Zos,Zot,Zo3,Zo4,Zo7,Zo8,Zo9,Zpb,Zph,Zpw,Zp9,Zqd,Zqe,List.length_drop,eq_self,true_and,and_true,Nat.mul_one,Nat.sub_zero,callable_45]
    tactic =>
    refine cl none (lay_con _) trivial ?_
    sym =>
    simp [Zaa,Zab,Zac,Zad,Zae,Zaf,Zag,Zak,Zal,Zam,Zao,Zap,Zar,Zay,Zaz,Za0,Za1,Za2,Za3,Za4,Za5,Za9,Zba,Zbb,Zbc,Zbf,Zbk,Zch,Zci,Zcn,Zc7,Zc8,Zdc,Zdd,Zde,Zdf,Zdg,Zdh,Zdi,Zdj,Zdk,Zdm,Zdo,Zdp,Zdt,Zdu,Zdv,Zdw,Zdx,Zdy,Zd0,Zd1,Zd2,Zeb,Zeq,Zet,Zev,Zew,Zez,Ze0,Ze2,Ze5,Zfd,Zfe,Zfh,Zfn,Zfr,Zf1,Zgd,Zgg,Zhm,Zhn,Zho,Zhs,Zht,Zhu,Zh6,Zh7,Zjr,Zjw,Zkb,Zla,Zlb,Zle,Zlj,Zll,Zlz,Zl2,Zmt,Zmv,Zmw,Zmx,Zmz,Zm3,Zna,Znb,Zne,Znf,Zng,Znh,Zns,Znu,Znw,Znz,Zn5,Zof,Zog,Zrd,Zos,Zot,Zo3,Zo4,Zo7,Zo8,Zo9,Zpb,Zph,Zpw,Zp9,Zqd,Zqe,List.length_drop,eq_self,true_and,and_true,Nat.mul_one,Nat.sub_zero,hw,hlt,hle,h0,hd,hdl,cB_length,callable_30]
    tactic =>
    and_intros <;> try (first | omega | rfl | assumption | simp only [IN]; omega)
    refine cl none (heq) trivial ?_
    by_cases he : le4 (sumN (b.take m)) = b.drop m
    · rw [if_pos he]
      sym =>
      simp [Zaa,Zab,Zac,Zad,Zae,Zaf,Zag,Zak,Zal,Zam,Zao,Zap,Zar,Zay,Zaz,Za0,Za1,Za2,Za3,Za4,Za5,Za9,Zba,Zbb,Zbc,Zbf,Zbk,Zch,Zci,Zcn,Zc7,Zc8,Zdc,Zdd,Zde,Zdf,Zdg,Zdh,Zdi,Zdj,Zdk,Zdm,Zdo,Zdp,Zdt,Zdu,Zdv,Zdw,Zdx,Zdy,Zd0,Zd1,Zd2,Zeb,Zeq,Zet,Zev,Zew,Zez,Ze0,Ze2,Ze5,Zfd,Zfe,Zfh,Zfn,Zfr,Zf1,Zgd,Zgg,Zhm,Zhn,Zho,Zhs,Zht,Zhu,Zh6,Zh7,Zjr,Zjw,Zkb,Zla,Zlb,Zle,Zlj,Zll,Zlz,Zl2,Zmt,Zmv,Zmw,Zmx,Zmz,Zm3,Zna,Znb,Zne,Znf,Zng,Znh,Zns,Znu,Znw,Znz,Zn5,Zof,Zog,Zrd,Zos,Zot,Zo3,Zo4,Zo7,Zo8,Zo9,Zpb,Zph,Zpw,Zp9,Zqd,Zqe,List.length_drop,eq_self,true_and,and_true,Nat.mul_one,Nat.sub_zero,he,hle,h0,ht,cB_length,callable_32]
      tactic =>
      and_intros <;> try (first | omega | rfl | assumption | simp only [IN]; omega)
      refine cl none (hcl) trivial ?_
      sym =>
      simp [Zaa,Zab,Zac,Zad,Zae,Zaf,Zag,Zak,Zal,Zam,Zao,Zap,Zar,Zay,Zaz,Za0,Za1,Za2,Za3,Za4,Za5,Za9,Zba,Zbb,Zbc,Zbf,Zbk,Zch,Zci,Zcn,Zc7,Zc8,Zdc,Zdd,Zde,Zdf,Zdg,Zdh,Zdi,Zdj,Zdk,Zdm,Zdo,Zdp,Zdt,Zdu,Zdv,Zdw,Zdx,Zdy,Zd0,Zd1,Zd2,Zeb,Zeq,Zet,Zev,Zew,Zez,Ze0,Ze2,Ze5,Zfd,Zfe,Zfh,Zfn,Zfr,Zf1,Zgd,Zgg,Zhm,Zhn,Zho,Zhs,Zht,Zhu,Zh6,Zh7,Zjr,Zjw,Zkb,Zla,Zlb,Zle,Zlj,Zll,Zlz,Zl2,Zmt,Zmv,Zmw,Zmx,Zmz,Zm3,Zna,Znb,Zne,Znf,Zng,Znh,Zns,Znu,Znw,Znz,Zn5,Zof,Zog,Zrd,Zos,Zot,Zo3,Zo4,Zo7,Zo8,Zo9,Zpb,Zph,Zpw,Zp9,Zqd,Zqe,List.length_drop,eq_self,true_and,and_true,Nat.mul_one,Nat.sub_zero]
      tactic =>
      refine endA ?_
      sym =>
      simp [Zaa,Zab,Zac,Zad,Zae,Zaf,Zag,Zak,Zal,Zam,Zao,Zap,Zar,Zay,Zaz,Za0,Za1,Za2,Za3,Za4,Za5,Za9,Zba,Zbb,Zbc,Zbf,Zbk,Zch,Zci,Zcn,Zc7,Zc8,Zdc,Zdd,Zde,Zdf,Zdg,Zdh,Zdi,Zdj,Zdk,Zdm,Zdo,Zdp,Zdt,Zdu,Zdv,Zdw,Zdx,Zdy,Zd0,Zd1,Zd2,Zeb,Zeq,Zet,Zev,Zew,Zez,Ze0,Ze2,Ze5,Zfd,Zfe,Zfh,Zfn,Zfr,Zf1,Zgd,Zgg,Zhm,Zhn,Zho,Zhs,Zht,Zhu,Zh6,Zh7,Zjr,Zjw,Zkb,Zla,Zlb,Zle,Zlj,Zll,Zlz,Zl2,Zmt,Zmv,Zmw,Zmx,Zmz,Zm3,Zna,Znb,Zne,Znf,Zng,Znh,Zns,Znu,Znw,Znz,Zn5,Zof,Zog,Zrd,Zos,Zot,Zo3,Zo4,Zo7,Zo8,Zo9,Zpb,Zph,Zpw,Zp9,Zqd,Zqe,List.length_drop,eq_self,true_and,and_true,Nat.mul_one,Nat.sub_zero,htl]
    · rw [if_neg he]
      sym =>
      simp [Zaa,Zab,Zac,Zad,Zae,Zaf,Zag,Zak,Zal,Zam,Zao,Zap,Zar,Zay,Zaz,Za0,Za1,Za2,Za3,Za4,Za5,Za9,Zba,Zbb,Zbc,Zbf,Zbk,Zch,Zci,Zcn,Zc7,Zc8,Zdc,Zdd,Zde,Zdf,Zdg,Zdh,Zdi,Zdj,Zdk,Zdm,Zdo,Zdp,Zdt,Zdu,Zdv,Zdw,Zdx,Zdy,Zd0,Zd1,Zd2,Zeb,Zeq,Zet,Zev,Zew,Zez,Ze0,Ze2,Ze5,Zfd,Zfe,Zfh,Zfn,Zfr,Zf1,Zgd,Zgg,Zhm,Zhn,Zho,Zhs,Zht,Zhu,Zh6,Zh7,Zjr,Zjw,Zkb,Zla,Zlb,Zle,Zlj,Zll,Zlz,Zl2,Zmt,Zmv,Zmw,Zmx,Zmz,Zm3,Zna,Znb,Zne,Znf,Zng,Znh,Zns,Znu,Znw,Znz,Zn5,Zof,Zog,Zrd,Zos,Zot,Zo3,Zo4,Zo7,Zo8,Zo9,Zpb,Zph,Zpw,Zp9,Zqd,Zqe,List.length_drop,eq_self,true_and,and_true,Nat.mul_one,Nat.sub_zero,he]
      tactic =>
      refine endA ?_
      sym =>
      simp [Zaa,Zab,Zac,Zad,Zae,Zaf,Zag,Zak,Zal,Zam,Zao,Zap,Zar,Zay,Zaz,Za0,Za1,Za2,Za3,Za4,Za5,Za9,Zba,Zbb,Zbc,Zbf,Zbk,Zch,Zci,Zcn,Zc7,Zc8,Zdc,Zdd,Zde,Zdf,Zdg,Zdh,Zdi,Zdj,Zdk,Zdm,Zdo,Zdp,Zdt,Zdu,Zdv,Zdw,Zdx,Zdy,Zd0,Zd1,Zd2,Zeb,Zeq,Zet,Zev,Zew,Zez,Ze0,Ze2,Ze5,Zfd,Zfe,Zfh,Zfn,Zfr,Zf1,Zgd,Zgg,Zhm,Zhn,Zho,Zhs,Zht,Zhu,Zh6,Zh7,Zjr,Zjw,Zkb,Zla,Zlb,Zle,Zlj,Zll,Zlz,Zl2,Zmt,Zmv,Zmw,Zmx,Zmz,Zm3,Zna,Znb,Zne,Znf,Zng,Znh,Zns,Znu,Znw,Znz,Zn5,Zof,Zog,Zrd,Zos,Zot,Zo3,Zo4,Zo7,Zo8,Zo9,Zpb,Zph,Zpw,Zp9,Zqd,Zqe,List.length_drop,eq_self,true_and,and_true,Nat.mul_one,Nat.sub_zero]
      tactic =>
      rfl
theorem drop4 {b : List Int} {m : Nat} (h : b.length = m + 4) : b.drop m = [b.getD m 0, b.getD (m + 1) 0, b.getD (m + 2) 0, b.getD (m + 3) 0] := by
  rw [drop_stepD b m (by omega), drop_stepD b (m + 1) (by omega), drop_stepD b (m + 1 + 1) (by omega), drop_stepD b (m + 1 + 1 + 1) (by omega), List.drop_of_length_le (by omega)]
theorem le4_iff {n : Nat} (hn : n < 4294967296) {c0 c1 c2 c3 : Int} (h0 : 0 ≤ c0 ∧ c0 < 256) (h1 : 0 ≤ c1 ∧ c1 < 256) (h2 : 0 ≤ c2 ∧ c2 < 256) (h3 : 0 ≤ c3 ∧ c3 < 256) :
    (le4 n = [c0, c1, c2, c3]) = ((n : Int) = c0 + 256 * c1 + 65536 * c2 + 16777216 * c3) := by
  simp only [le4, List.cons.injEq, and_true]
  refine propext ⟨?_, ?_⟩ <;> intro h <;> omega
theorem ropen_con (b : List Int) (hb : byt8 b) (hl : b.length ≤ 1000000) : Con Try.prog 40 [] [fB b] [] (.tu [fB (opF b).1, I (opF b).2]) := by
  refine con_j b40 rfl ?_
  by_cases h : b.length < 4
  · have h4 : IN b.length < (4 : Int) := by simp only [IN]; omega
    rw [opF, if_pos h]
    sym =>
    simp [Zaa,Zab,Zac,Zad,Zae,Zaf,Zak,Zal,Zam,Zao,Zay,Zaz,Za0,Za1,Za2,Za3,Za4,Za5,Za9,Zba,Zbb,Zbc,Zbf,Zbg,Zbm,Zbu,Zb2,Zch,Zcn,Zc7,Zc8,Zdc,Zdd,Zde,Zdi,Zdo,Zdp,Zdt,Zdu,Zdv,Zdw,Zdx,Zdy,Zd0,Zd1,Zd2,Zeb,Zee,Zev,Zew,Zez,Ze0,Ze2,Ze5,Zfd,Zfe,Zfh,Zfn,Zfq,Zfr,Zfs,Zf0,Zf1,Zgh,Zgi,Zgr,Zgu,Zg4,Zg6,Zhm,Zhn,Zho,Zhs,Zht,Zhu,Zh6,Zh7,Zjr,Zla,Zlb,Zle,Zll,Zlz,Zmt,Zmv,Zmw,Zmx,Zmz,Zm3,Zm6,Zna,Znb,Zne,Znf,Zng,Znh,Zns,Znt,Znu,Znw,Zn5,Zof,Zog,Zrd,Zos,Zot,Zou,Zow,Zo7,Zo8,Zo9,Zpb,Zph,Zpw,Zp9,Zqd,Zqe,eq_self,true_and,and_true,Nat.mul_one,Nat.sub_zero,h4]
    tactic =>
    refine endA ?_
    sym =>
    simp [Zaa,Zab,Zac,Zad,Zae,Zaf,Zak,Zal,Zam,Zao,Zay,Zaz,Za0,Za1,Za2,Za3,Za4,Za5,Za9,Zba,Zbb,Zbc,Zbf,Zbg,Zbm,Zbu,Zb2,Zch,Zcn,Zc7,Zc8,Zdc,Zdd,Zde,Zdi,Zdo,Zdp,Zdt,Zdu,Zdv,Zdw,Zdx,Zdy,Zd0,Zd1,Zd2,Zeb,Zee,Zev,Zew,Zez,Ze0,Ze2,Ze5,Zfd,Zfe,Zfh,Zfn,Zfq,Zfr,Zfs,Zf0,Zf1,Zgh,Zgi,Zgr,Zgu,Zg4,Zg6,Zhm,Zhn,Zho,Zhs,Zht,Zhu,Zh6,Zh7,Zjr,Zla,Zlb,Zle,Zll,Zlz,Zmt,Zmv,Zmw,Zmx,Zmz,Zm3,Zm6,Zna,Znb,Zne,Znf,Zng,Znh,Zns,Znt,Znu,Znw,Zn5,Zof,Zog,Zrd,Zos,Zot,Zou,Zow,Zo7,Zo8,Zo9,Zpb,Zph,Zpw,Zp9,Zqd,Zqe,eq_self,true_and,and_true,Nat.mul_one,Nat.sub_zero]
    tactic =>
    rfl
  · have h4 : ¬ IN b.length < (4 : Int) := by simp only [IN]; omega
    have hw : IntKind.i64.wrap (IN b.length - (4 : Int)) = IN (b.length - 4) := w64m _ _ 4 (by omega) (by omega)
    have hlt : ¬ IN (b.length - 4) < (0 : Int) := by simp only [IN]; omega
    have hle : b.length - 4 ≤ b.length := by omega
    have h0 : (0 : Int) ≤ IN (b.length - 4) := by simp only [IN]; omega
    rw [opF, if_neg h]
    obtain ⟨m, hm⟩ : ∃ m, m = b.length - 4 := ⟨_, rfl⟩
    rw [← hm] at hw hlt hle h0 ⊢
    have ht : List.take m (cB b) = cB (b.take m) := (cB_take _ _).symm
    have htl : (b.take m).length = m := by rw [List.length_take]; omega
    have hsum := rsum_con (b.take m) (byt8_take hb _) (by omega)
    simp only [fB, htl] at hsum
    rw [drop4 (show b.length = m + 4 by omega)]
    have g0 := cB_get b m (by omega)
    have g1 := cB_get b (m + 1) (by omega)
    have g2 := cB_get b (m + 2) (by omega)
    have g3 := cB_get b (m + 3) (by omega)
    have b0 := byt8_get hb m
    have b1 := byt8_get hb (m + 1)
    have b2 := byt8_get hb (m + 2)
    have b3 := byt8_get hb (m + 3)
    have hn := sumN_lt (b.take m)
    have hiff := le4_iff hn b0 b1 b2 b3
    obtain ⟨c0, k0⟩ : ∃ c, c = b.getD m 0 := ⟨_, rfl⟩
    obtain ⟨c1, k1⟩ : ∃ c, c = b.getD (m + 1) 0 := ⟨_, rfl⟩
    obtain ⟨c2, k2⟩ : ∃ c, c = b.getD (m + 2) 0 := ⟨_, rfl⟩
    obtain ⟨c3, k3⟩ : ∃ c, c = b.getD (m + 3) 0 := ⟨_, rfl⟩
    rw [← k0] at g0 b0 hiff ⊢
    rw [← k1] at g1 b1 hiff ⊢
    rw [← k2] at g2 b2 hiff ⊢
    rw [← k3] at g3 b3 hiff ⊢
    obtain ⟨n, hnn⟩ : ∃ n, n = sumN (b.take m) := ⟨_, rfl⟩
    rw [← hnn] at hn hsum hiff ⊢
    have i0 : m < b.length := by omega
    have i1 : m + 1 < b.length := by omega
    have i2 : m + 2 < b.length := by omega
    have i3 : m + 3 < b.length := by omega
    have f1 : IntKind.i64.wrap (IN m + (1 : Int)) = IN (m + 1) := w64a _ 1 (by omega)
    have f2 : IntKind.i64.wrap (IN m + (2 : Int)) = IN (m + 2) := w64a _ 2 (by omega)
    have f3 : IntKind.i64.wrap (IN m + (3 : Int)) = IN (m + 3) := w64a _ 3 (by omega)
    have u0 : IntKind.u32.wrap c0 = c0 := by rw [w32u]; omega
    have u1 : IntKind.u32.wrap c1 = c1 := by rw [w32u]; omega
    have u2 : IntKind.u32.wrap c2 = c2 := by rw [w32u]; omega
    have u3 : IntKind.u32.wrap c3 = c3 := by rw [w32u]; omega
    have p1 : IntKind.u32.wrap (256 * c1) = 256 * c1 := by rw [w32u]; omega
    have p2 : IntKind.u32.wrap (65536 * c2) = 65536 * c2 := by rw [w32u]; omega
    have p3 : IntKind.u32.wrap (16777216 * c3) = 16777216 * c3 := by rw [w32u]; omega
    have s1 : IntKind.u32.wrap (c0 + 256 * c1) = c0 + 256 * c1 := by rw [w32u]; omega
    have s2 : IntKind.u32.wrap (c0 + 256 * c1 + 65536 * c2) = c0 + 256 * c1 + 65536 * c2 := by rw [w32u]; omega
    have s3 : IntKind.u32.wrap (c0 + 256 * c1 + 65536 * c2 + 16777216 * c3) = c0 + 256 * c1 + 65536 * c2 + 16777216 * c3 := by rw [w32u]; omega
    sym =>
    simp [Zaa,Zab,Zac,Zad,Zae,Zaf,Zak,Zal,Zam,Zao,Zay,Zaz,Za0,Za1,Za2,Za3,Za4,Za5,Za9,Zba,Zbb,Zbc,Zbf,Zbg,Zbm,Zbu,Zb2,Zch,Zcn,Zc7,Zc8,Zdc,Zdd,Zde,Zdi,Zdo,Zdp,Zdt,Zdu,Zdv,Zdw,Zdx,Zdy,Zd0,Zd1,Zd2,Zeb,Zee,Zev,Zew,Zez,Ze0,Ze2,Ze5,Zfd,Zfe,Zfh,Zfn,Zfq,Zfr,Zfs,Zf0,Zf1,Zgh,Zgi,Zgr,Zgu,Zg4,Zg6,Zhm,Zhn,Zho,Zhs,Zht,Zhu,Zh6,Zh7,Zjr,Zla,Zlb,Zle,Zll,Zlz,Zmt,Zmv,Zmw,Zmx,Zmz,Zm3,Zm6,Zna,Znb,Zne,Znf,Zng,Znh,Zns,Znt,Znu,Znw,Zn5,Zof,Zog,Zrd,Zos,Zot,Zou,Zow,Zo7,Zo8,Zo9,Zpb,Zph,Zpw,Zp9,Zqd,Zqe,eq_self,true_and,and_true,Nat.mul_one,Nat.sub_zero,h4,hw,hlt,hle,h0,ht,cB_length,callable_34]
    tactic =>
    and_intros <;> try (first | omega | rfl | assumption | simp only [IN]; omega)
    refine cl none (hsum) trivial ?_
    sym =>
    simp [Zaa,Zab,Zac,Zad,Zae,Zaf,Zak,Zal,Zam,Zao,Zay,Zaz,Za0,Za1,Za2,Za3,Za4,Za5,Za9,Zba,Zbb,Zbc,Zbf,Zbg,Zbm,Zbu,Zb2,Zch,Zcn,Zc7,Zc8,Zdc,Zdd,Zde,Zdi,Zdo,Zdp,Zdt,Zdu,Zdv,Zdw,Zdx,Zdy,Zd0,Zd1,Zd2,Zeb,Zee,Zev,Zew,Zez,Ze0,Ze2,Ze5,Zfd,Zfe,Zfh,Zfn,Zfq,Zfr,Zfs,Zf0,Zf1,Zgh,Zgi,Zgr,Zgu,Zg4,Zg6,Zhm,Zhn,Zho,Zhs,Zht,Zhu,Zh6,Zh7,Zjr,Zla,Zlb,Zle,Zll,Zlz,Zmt,Zmv,Zmw,Zmx,Zmz,Zm3,Zm6,Zna,Znb,Zne,Znf,Zng,Znh,Zns,Znt,Znu,Znw,Zn5,Zof,Zog,Zrd,Zos,Zot,Zou,Zow,Zo7,Zo8,Zo9,Zpb,Zph,Zpw,Zp9,Zqd,Zqe,eq_self,true_and,and_true,Nat.mul_one,Nat.sub_zero,hw,g0,g1,g2,g3,i0,i1,i2,i3,f1,f2,f3,u0,u1,u2,u3,p1,p2,p3,s1,s2,s3,cB_length]
    tactic =>
    and_intros <;> try (first | omega | rfl | assumption | simp only [IN]; omega)
    by_cases he : (n : Int) = c0 + 256 * c1 + 65536 * c2 + 16777216 * c3
    · rw [if_pos (cast hiff.symm he)]
      sym =>
      simp [Zaa,Zab,Zac,Zad,Zae,Zaf,Zak,Zal,Zam,Zao,Zay,Zaz,Za0,Za1,Za2,Za3,Za4,Za5,Za9,Zba,Zbb,Zbc,Zbf,Zbg,Zbm,Zbu,Zb2,Zch,Zcn,Zc7,Zc8,Zdc,Zdd,Zde,Zdi,Zdo,Zdp,Zdt,Zdu,Zdv,Zdw,Zdx,Zdy,Zd0,Zd1,Zd2,Zeb,Zee,Zev,Zew,Zez,Ze0,Ze2,Ze5,Zfd,Zfe,Zfh,Zfn,Zfq,Zfr,Zfs,Zf0,Zf1,Zgh,Zgi,Zgr,Zgu,Zg4,Zg6,Zhm,Zhn,Zho,Zhs,Zht,Zhu,Zh6,Zh7,Zjr,Zla,Zlb,Zle,Zll,Zlz,Zmt,Zmv,Zmw,Zmx,Zmz,Zm3,Zm6,Zna,Znb,Zne,Znf,Zng,Znh,Zns,Znt,Znu,Znw,Zn5,Zof,Zog,Zrd,Zos,Zot,Zou,Zow,Zo7,Zo8,Zo9,Zpb,Zph,Zpw,Zp9,Zqd,Zqe,eq_self,true_and,and_true,Nat.mul_one,Nat.sub_zero,he,hle,h0,ht,cB_length]
      tactic =>
      and_intros <;> try (first | omega | rfl | assumption | simp only [IN]; omega)
      refine endA ?_
      sym =>
      simp [Zaa,Zab,Zac,Zad,Zae,Zaf,Zak,Zal,Zam,Zao,Zay,Zaz,Za0,Za1,Za2,Za3,Za4,Za5,Za9,Zba,Zbb,Zbc,Zbf,Zbg,Zbm,Zbu,Zb2,Zch,Zcn,Zc7,Zc8,Zdc,Zdd,Zde,Zdi,Zdo,Zdp,Zdt,Zdu,Zdv,Zdw,Zdx,Zdy,Zd0,Zd1,Zd2,Zeb,Zee,Zev,Zew,Zez,Ze0,Ze2,Ze5,Zfd,Zfe,Zfh,Zfn,Zfq,Zfr,Zfs,Zf0,Zf1,Zgh,Zgi,Zgr,Zgu,Zg4,Zg6,Zhm,Zhn,Zho,Zhs,Zht,Zhu,Zh6,Zh7,Zjr,Zla,Zlb,Zle,Zll,Zlz,Zmt,Zmv,Zmw,Zmx,Zmz,Zm3,Zm6,Zna,Znb,Zne,Znf,Zng,Znh,Zns,Znt,Znu,Znw,Zn5,Zof,Zog,Zrd,Zos,Zot,Zou,Zow,Zo7,Zo8,Zo9,Zpb,Zph,Zpw,Zp9,Zqd,Zqe,eq_self,true_and,and_true,Nat.mul_one,Nat.sub_zero,htl]
    · rw [if_neg (fun e => he (cast hiff e))]
      sym =>
      simp [Zaa,Zab,Zac,Zad,Zae,Zaf,Zak,Zal,Zam,Zao,Zay,Zaz,Za0,Za1,Za2,Za3,Za4,Za5,Za9,Zba,Zbb,Zbc,Zbf,Zbg,Zbm,Zbu,Zb2,Zch,Zcn,Zc7,Zc8,Zdc,Zdd,Zde,Zdi,Zdo,Zdp,Zdt,Zdu,Zdv,Zdw,Zdx,Zdy,Zd0,Zd1,Zd2,Zeb,Zee,Zev,Zew,Zez,Ze0,Ze2,Ze5,Zfd,Zfe,Zfh,Zfn,Zfq,Zfr,Zfs,Zf0,Zf1,Zgh,Zgi,Zgr,Zgu,Zg4,Zg6,Zhm,Zhn,Zho,Zhs,Zht,Zhu,Zh6,Zh7,Zjr,Zla,Zlb,Zle,Zll,Zlz,Zmt,Zmv,Zmw,Zmx,Zmz,Zm3,Zm6,Zna,Znb,Zne,Znf,Zng,Znh,Zns,Znt,Znu,Znw,Zn5,Zof,Zog,Zrd,Zos,Zot,Zou,Zow,Zo7,Zo8,Zo9,Zpb,Zph,Zpw,Zp9,Zqd,Zqe,eq_self,true_and,and_true,Nat.mul_one,Nat.sub_zero,he]
      tactic =>
      refine endA ?_
      sym =>
      simp [Zaa,Zab,Zac,Zad,Zae,Zaf,Zak,Zal,Zam,Zao,Zay,Zaz,Za0,Za1,Za2,Za3,Za4,Za5,Za9,Zba,Zbb,Zbc,Zbf,Zbg,Zbm,Zbu,Zb2,Zch,Zcn,Zc7,Zc8,Zdc,Zdd,Zde,Zdi,Zdo,Zdp,Zdt,Zdu,Zdv,Zdw,Zdx,Zdy,Zd0,Zd1,Zd2,Zeb,Zee,Zev,Zew,Zez,Ze0,Ze2,Ze5,Zfd,Zfe,Zfh,Zfn,Zfq,Zfr,Zfs,Zf0,Zf1,Zgh,Zgi,Zgr,Zgu,Zg4,Zg6,Zhm,Zhn,Zho,Zhs,Zht,Zhu,Zh6,Zh7,Zjr,Zla,Zlb,Zle,Zll,Zlz,Zmt,Zmv,Zmw,Zmx,Zmz,Zm3,Zm6,Zna,Znb,Zne,Znf,Zng,Znh,Zns,Znt,Znu,Znw,Zn5,Zof,Zog,Zrd,Zos,Zot,Zou,Zow,Zo7,Zo8,Zo9,Zpb,Zph,Zpw,Zp9,Zqd,Zqe,eq_self,true_and,and_true,Nat.mul_one,Nat.sub_zero]
      tactic =>
      rfl
abbrev Rg := Int × Int
def eR (p : Rg) : List AV := [L p.1, L p.2]
def cR (l : List Rg) : List AV := l.flatMap eR
abbrev fR (l : List Rg) : AV := .fz l.length (cR l)
theorem cR_length (l : List Rg) : (cR l).length = l.length * 2 := flat_length eR 2 l (fun _ _ => rfl)
theorem cR_append (a b : List Rg) : cR (a ++ b) = cR a ++ cR b := by simp [cR]
theorem cR_snoc (l : List Rg) (r : Rg) : cR (l ++ [r]) = cR l ++ [L r.1, L r.2] := by rw [cR_append]; rfl
theorem cR_okI (l : List Rg) : okI (cR l) := okI_flat (fun a => by simp [eR, okI, isF]) l
theorem cR_okF (l : List Rg) : okF (cR l) := okF_flat (fun a => by simp [eR, okF, okf]) l
theorem cR_q (l : List Rg) (i : Nat) (h : i < l.length) (j : Nat) (hj : j < 2) : (cR l).getD (i * 2 + j) .un = (eR l[i]).getD j .un := by
  have := flat_at eR (s := 2) l (fun _ _ => rfl) i j h hj
  rw [List.getD_eq_getElem?_getD, cR, this, List.getD_eq_getElem?_getD, List.getD_eq_getElem?_getD, List.getElem?_eq_getElem h]
  rfl
theorem cR_q0 (l : List Rg) (i : Nat) (h : i < l.length) : (cR l).getD (i * 2) .un = L l[i].1 := cR_q l i h 0 (by decide)
theorem cR_q1 (l : List Rg) (i : Nat) (h : i < l.length) : (cR l).getD (i * 2 + 1) .un = L l[i].2 := cR_q l i h 1 (by decide)
theorem cR_all (l : List Rg) : List.take (l.length * 2) (cR l) = cR l := List.take_of_length_le (by rw [cR_length]; exact Nat.le_refl _)
theorem rclone_con (l : List Rg) (hl : l.length ≤ 1000000) : Con Try.prog 33 [] [fR l] [] (fR l) := by
  refine con_j b33 rfl ?_
  sym =>
  simp [Zaa,Zab,Zad,Zae,Zaf,Zak,Zal,Zam,Zao,Zay,Zaz,Za0,Za1,Za2,Za3,Za4,Za5,Za9,Zba,Zbb,Zcz,Zc5,Zda,Zdb,Zev,Zew,Zez,Ze0,Ze2,Ze3,Ze4,Ze5,Zfc,Zfd,Zfe,Zff,Zfg,Zfh,Zhf,Ziq,Zir,Zix,Ziz,Zi0,Zi1,Zmt,Zmv,Zmw,Zmx,Zmz,Zm2,Zna,Znb,Znc,Znh,Zos,Zot,Zo3,Zo7,Zpx,Zp0,Zp1,Zp2,eq_self,true_and,and_true,Nat.zero_add]
  tactic =>
  refine nilQ (fun h => ?_) ?_
  · sym =>
    simp [Zaa,Zab,Zad,Zae,Zaf,Zak,Zal,Zam,Zao,Zay,Zaz,Za0,Za1,Za2,Za3,Za4,Za5,Za9,Zba,Zbb,Zcz,Zc5,Zda,Zdb,Zev,Zew,Zez,Ze0,Ze2,Ze3,Ze4,Ze5,Zfc,Zfd,Zfe,Zff,Zfg,Zfh,Zhf,Ziq,Zir,Zix,Ziz,Zi0,Zi1,Zmt,Zmv,Zmw,Zmx,Zmz,Zm2,Zna,Znb,Znc,Znh,Zos,Zot,Zo3,Zo7,Zpx,Zp0,Zp1,Zp2,eq_self,true_and,and_true,Nat.zero_add]
    tactic =>
    obtain rfl := List.length_eq_zero_iff.1 h
    refine endA ?_
    sym =>
    simp [Zaa,Zab,Zad,Zae,Zaf,Zak,Zal,Zam,Zao,Zay,Zaz,Za0,Za1,Za2,Za3,Za4,Za5,Za9,Zba,Zbb,Zcz,Zc5,Zda,Zdb,Zev,Zew,Zez,Ze0,Ze2,Ze3,Ze4,Ze5,Zfc,Zfd,Zfe,Zff,Zfg,Zfh,Zhf,Ziq,Zir,Zix,Ziz,Zi0,Zi1,Zmt,Zmv,Zmw,Zmx,Zmz,Zm2,Zna,Znb,Znc,Znh,Zos,Zot,Zo3,Zo7,Zpx,Zp0,Zp1,Zp2,eq_self,true_and,and_true,Nat.zero_add]
    tactic =>
    rfl
  · have h0 := cR_length l
    have h1 := cR_all l
    have h2 := cR_okI l
    sym =>
    simp [Zaa,Zab,Zad,Zae,Zaf,Zak,Zal,Zam,Zao,Zay,Zaz,Za0,Za1,Za2,Za3,Za4,Za5,Za9,Zba,Zbb,Zcz,Zc5,Zda,Zdb,Zev,Zew,Zez,Ze0,Ze2,Ze3,Ze4,Ze5,Zfc,Zfd,Zfe,Zff,Zfg,Zfh,Zhf,Ziq,Zir,Zix,Ziz,Zi0,Zi1,Zmt,Zmv,Zmw,Zmx,Zmz,Zm2,Zna,Znb,Znc,Znh,Zos,Zot,Zo3,Zo7,Zpx,Zp0,Zp1,Zp2,eq_self,true_and,and_true,Nat.zero_add,h0]
    tactic =>
    refine ⟨⟨cR_okF l, by omega, by omega⟩, ?_⟩
    refine endA ?_
    sym =>
    simp [Zaa,Zab,Zad,Zae,Zaf,Zak,Zal,Zam,Zao,Zay,Zaz,Za0,Za1,Za2,Za3,Za4,Za5,Za9,Zba,Zbb,Zcz,Zc5,Zda,Zdb,Zev,Zew,Zez,Ze0,Ze2,Ze3,Ze4,Ze5,Zfc,Zfd,Zfe,Zff,Zfg,Zfh,Zhf,Ziq,Zir,Zix,Ziz,Zi0,Zi1,Zmt,Zmv,Zmw,Zmx,Zmz,Zm2,Zna,Znb,Znc,Znh,Zos,Zot,Zo3,Zo7,Zpx,Zp0,Zp1,Zp2,eq_self,true_and,and_true,Nat.zero_add,h0,h1]
    tactic =>
    exact ⟨Nat.le_refl _, h2⟩
theorem rtake_eq {a b : List Rg} {i : Nat} (h : a.take i = b.take i) (ha : i < a.length) (hb : i < b.length) (e : a[i] = b[i]) : a.take (i + 1) = b.take (i + 1) := by
  rw [take_step a i ha, take_step b i hb, h, e]
def i31 (a b : List Rg) (k : Nat) (s : St) : Prop := ∃ i : Nat, i + k = a.length ∧ a.take i = b.take i ∧ s = ⟨[(0, fR a), (1, fR b), (12, I (IN a.length)), (13, I (IN i))], [], 0⟩
theorem requal_con (a b : List Rg) (ha : a.length ≤ 1000000) : Con Try.prog 31 [] [fR a, fR b] [] (Bo (decide (a = b))) := by
  refine con_j b31 rfl ?_
  by_cases hl : a.length = b.length
  · have hl1 : IN a.length = IN b.length := by rw [hl]
    sym =>
    simp [Zaa,Zab,Zac,Zad,Zae,Zaf,Zag,Zah,Zai,Zak,Zal,Zam,Zan,Zao,Zap,Zaq,Zar,Zav,Zaw,Zax,Zay,Zaz,Za0,Za1,Za2,Za3,Za4,Za5,Za9,Zba,Zbb,Zbc,Zbf,Zbi,Zbu,Zb2,Zcn,Zc7,Zc8,Zdo,Zdp,Zdt,Zdu,Zdv,Zdw,Zdx,Zdy,Zd0,Zd1,Zd2,Zd3,Zeb,Zee,Zen,Zer,Zes,Zev,Zew,Zez,Ze0,Ze2,Ze5,Zfd,Zfe,Zfh,Zfn,Zfq,Zf0,Zf1,Zga,Zgc,Zgr,Zgu,Zg4,Zg6,Zho,Zh6,Zh7,Zmt,Zmv,Zmw,Zmx,Zmz,Zm2,Zm5,Zm7,Zna,Znb,Zne,Zns,Znt,Znv,Znw,Zn5,Zok,Zol,Zom,Zor,Zos,Zot,Zo3,Zo4,Zo7,Zo8,Zo9,Zpc,Zpi,Zqf,Zqg,Zqh,Zqm,Zqr,eq_self,true_and,and_true,hl1]
    tactic =>
    refine lpA (i31 a b) a.length [] _ ⟨0, by omega, rfl, rfl⟩ (wkA ?_) ?_
    · sym =>
      simp [Zaa,Zab,Zac,Zad,Zae,Zaf,Zag,Zah,Zai,Zak,Zal,Zam,Zan,Zao,Zap,Zaq,Zar,Zav,Zaw,Zax,Zay,Zaz,Za0,Za1,Za2,Za3,Za4,Za5,Za9,Zba,Zbb,Zbc,Zbf,Zbi,Zbu,Zb2,Zcn,Zc7,Zc8,Zdo,Zdp,Zdt,Zdu,Zdv,Zdw,Zdx,Zdy,Zd0,Zd1,Zd2,Zd3,Zeb,Zee,Zen,Zer,Zes,Zev,Zew,Zez,Ze0,Ze2,Ze5,Zfd,Zfe,Zfh,Zfn,Zfq,Zf0,Zf1,Zga,Zgc,Zgr,Zgu,Zg4,Zg6,Zho,Zh6,Zh7,Zmt,Zmv,Zmw,Zmx,Zmz,Zm2,Zm5,Zm7,Zna,Znb,Zne,Zns,Znt,Znv,Znw,Zn5,Zok,Zol,Zom,Zor,Zos,Zot,Zo3,Zo4,Zo7,Zo8,Zo9,Zpc,Zpi,Zqf,Zqg,Zqh,Zqm,Zqr,eq_self,true_and,and_true]
      tactic =>
      rw [hl]
    rintro k s ⟨i, hi, ht, rfl⟩
    by_cases h : i < a.length
    · have hw := w64s i (by omega)
      have hb : i < b.length := by omega
      have a0 := cR_q0 a i h
      have a1 := cR_q1 a i h
      have b0 := cR_q0 b i hb
      have b1 := cR_q1 b i hb
      by_cases he : a[i] = b[i]
      · have e0 : a[i].1 = b[i].1 := by rw [he]
        have e1 : a[i].2 = b[i].2 := by rw [he]
        have hn := rtake_eq ht h hb he
        obtain ⟨x, hx⟩ : ∃ x, x = a[i] := ⟨_, rfl⟩
        obtain ⟨y, hy⟩ : ∃ y, y = b[i] := ⟨_, rfl⟩
        rw [← hx] at a0 a1 e0 e1
        rw [← hy] at b0 b1 e0 e1
        sym =>
        simp [Zaa,Zab,Zac,Zad,Zae,Zaf,Zag,Zah,Zai,Zak,Zal,Zam,Zan,Zao,Zap,Zaq,Zar,Zav,Zaw,Zax,Zay,Zaz,Za0,Za1,Za2,Za3,Za4,Za5,Za9,Zba,Zbb,Zbc,Zbf,Zbi,Zbu,Zb2,Zcn,Zc7,Zc8,Zdo,Zdp,Zdt,Zdu,Zdv,Zdw,Zdx,Zdy,Zd0,Zd1,Zd2,Zd3,Zeb,Zee,Zen,Zer,Zes,Zev,Zew,Zez,Ze0,Ze2,Ze5,Zfd,Zfe,Zfh,Zfn,Zfq,Zf0,Zf1,Zga,Zgc,Zgr,Zgu,Zg4,Zg6,Zho,Zh6,Zh7,Zmt,Zmv,Zmw,Zmx,Zmz,Zm2,Zm5,Zm7,Zna,Znb,Zne,Zns,Znt,Znv,Znw,Zn5,Zok,Zol,Zom,Zor,Zos,Zot,Zo3,Zo4,Zo7,Zo8,Zo9,Zpc,Zpi,Zqf,Zqg,Zqh,Zqm,Zqr,eq_self,true_and,and_true,h,hb,hw,a0,a1,b0,b1,e0,e1,cR_length]
        tactic =>
        and_intros <;> try (first | omega | rfl | assumption | simp only [IN]; omega)
        unfold NextL; refine ⟨(k - 1), [], _, by omega, ⟨i + 1, by omega, hn, rfl⟩, wkA ?_⟩
        sym =>
        simp [Zaa,Zab,Zac,Zad,Zae,Zaf,Zag,Zah,Zai,Zak,Zal,Zam,Zan,Zao,Zap,Zaq,Zar,Zav,Zaw,Zax,Zay,Zaz,Za0,Za1,Za2,Za3,Za4,Za5,Za9,Zba,Zbb,Zbc,Zbf,Zbi,Zbu,Zb2,Zcn,Zc7,Zc8,Zdo,Zdp,Zdt,Zdu,Zdv,Zdw,Zdx,Zdy,Zd0,Zd1,Zd2,Zd3,Zeb,Zee,Zen,Zer,Zes,Zev,Zew,Zez,Ze0,Ze2,Ze5,Zfd,Zfe,Zfh,Zfn,Zfq,Zf0,Zf1,Zga,Zgc,Zgr,Zgu,Zg4,Zg6,Zho,Zh6,Zh7,Zmt,Zmv,Zmw,Zmx,Zmz,Zm2,Zm5,Zm7,Zna,Znb,Zne,Zns,Znt,Znv,Znw,Zn5,Zok,Zol,Zom,Zor,Zos,Zot,Zo3,Zo4,Zo7,Zo8,Zo9,Zpc,Zpi,Zqf,Zqg,Zqh,Zqm,Zqr,eq_self,true_and,and_true]
      · have hab : ¬ a = b := fun e => he (by subst e; rfl)
        obtain ⟨x, hx⟩ : ∃ x, x = a[i] := ⟨_, rfl⟩
        obtain ⟨y, hy⟩ : ∃ y, y = b[i] := ⟨_, rfl⟩
        rw [← hx] at a0 a1 he
        rw [← hy] at b0 b1 he
        by_cases e0 : x.1 = y.1
        · have e1 : ¬ x.2 = y.2 := fun e1 => he (Prod.ext e0 e1)
          sym =>
          simp [Zaa,Zab,Zac,Zad,Zae,Zaf,Zag,Zah,Zai,Zak,Zal,Zam,Zan,Zao,Zap,Zaq,Zar,Zav,Zaw,Zax,Zay,Zaz,Za0,Za1,Za2,Za3,Za4,Za5,Za9,Zba,Zbb,Zbc,Zbf,Zbi,Zbu,Zb2,Zcn,Zc7,Zc8,Zdo,Zdp,Zdt,Zdu,Zdv,Zdw,Zdx,Zdy,Zd0,Zd1,Zd2,Zd3,Zeb,Zee,Zen,Zer,Zes,Zev,Zew,Zez,Ze0,Ze2,Ze5,Zfd,Zfe,Zfh,Zfn,Zfq,Zf0,Zf1,Zga,Zgc,Zgr,Zgu,Zg4,Zg6,Zho,Zh6,Zh7,Zmt,Zmv,Zmw,Zmx,Zmz,Zm2,Zm5,Zm7,Zna,Znb,Zne,Zns,Znt,Znv,Znw,Zn5,Zok,Zol,Zom,Zor,Zos,Zot,Zo3,Zo4,Zo7,Zo8,Zo9,Zpc,Zpi,Zqf,Zqg,Zqh,Zqm,Zqr,eq_self,true_and,and_true,h,hb,hw,a0,a1,b0,b1,e0,e1,cR_length]
          tactic =>
          and_intros <;> try (first | omega | rfl | assumption | simp only [IN]; omega)
          refine endA ?_
          sym =>
          simp [Zaa,Zab,Zac,Zad,Zae,Zaf,Zag,Zah,Zai,Zak,Zal,Zam,Zan,Zao,Zap,Zaq,Zar,Zav,Zaw,Zax,Zay,Zaz,Za0,Za1,Za2,Za3,Za4,Za5,Za9,Zba,Zbb,Zbc,Zbf,Zbi,Zbu,Zb2,Zcn,Zc7,Zc8,Zdo,Zdp,Zdt,Zdu,Zdv,Zdw,Zdx,Zdy,Zd0,Zd1,Zd2,Zd3,Zeb,Zee,Zen,Zer,Zes,Zev,Zew,Zez,Ze0,Ze2,Ze5,Zfd,Zfe,Zfh,Zfn,Zfq,Zf0,Zf1,Zga,Zgc,Zgr,Zgu,Zg4,Zg6,Zho,Zh6,Zh7,Zmt,Zmv,Zmw,Zmx,Zmz,Zm2,Zm5,Zm7,Zna,Znb,Zne,Zns,Znt,Znv,Znw,Zn5,Zok,Zol,Zom,Zor,Zos,Zot,Zo3,Zo4,Zo7,Zo8,Zo9,Zpc,Zpi,Zqf,Zqg,Zqh,Zqm,Zqr,eq_self,true_and,and_true,hab]
        · sym =>
          simp [Zaa,Zab,Zac,Zad,Zae,Zaf,Zag,Zah,Zai,Zak,Zal,Zam,Zan,Zao,Zap,Zaq,Zar,Zav,Zaw,Zax,Zay,Zaz,Za0,Za1,Za2,Za3,Za4,Za5,Za9,Zba,Zbb,Zbc,Zbf,Zbi,Zbu,Zb2,Zcn,Zc7,Zc8,Zdo,Zdp,Zdt,Zdu,Zdv,Zdw,Zdx,Zdy,Zd0,Zd1,Zd2,Zd3,Zeb,Zee,Zen,Zer,Zes,Zev,Zew,Zez,Ze0,Ze2,Ze5,Zfd,Zfe,Zfh,Zfn,Zfq,Zf0,Zf1,Zga,Zgc,Zgr,Zgu,Zg4,Zg6,Zho,Zh6,Zh7,Zmt,Zmv,Zmw,Zmx,Zmz,Zm2,Zm5,Zm7,Zna,Znb,Zne,Zns,Znt,Znv,Znw,Zn5,Zok,Zol,Zom,Zor,Zos,Zot,Zo3,Zo4,Zo7,Zo8,Zo9,Zpc,Zpi,Zqf,Zqg,Zqh,Zqm,Zqr,eq_self,true_and,and_true,h,hb,hw,a0,a1,b0,b1,e0,cR_length]
          tactic =>
          and_intros <;> try (first | omega | rfl | assumption | simp only [IN]; omega)
          refine endA ?_
          sym =>
          simp [Zaa,Zab,Zac,Zad,Zae,Zaf,Zag,Zah,Zai,Zak,Zal,Zam,Zan,Zao,Zap,Zaq,Zar,Zav,Zaw,Zax,Zay,Zaz,Za0,Za1,Za2,Za3,Za4,Za5,Za9,Zba,Zbb,Zbc,Zbf,Zbi,Zbu,Zb2,Zcn,Zc7,Zc8,Zdo,Zdp,Zdt,Zdu,Zdv,Zdw,Zdx,Zdy,Zd0,Zd1,Zd2,Zd3,Zeb,Zee,Zen,Zer,Zes,Zev,Zew,Zez,Ze0,Ze2,Ze5,Zfd,Zfe,Zfh,Zfn,Zfq,Zf0,Zf1,Zga,Zgc,Zgr,Zgu,Zg4,Zg6,Zho,Zh6,Zh7,Zmt,Zmv,Zmw,Zmx,Zmz,Zm2,Zm5,Zm7,Zna,Znb,Zne,Zns,Znt,Znv,Znw,Zn5,Zok,Zol,Zom,Zor,Zos,Zot,Zo3,Zo4,Zo7,Zo8,Zo9,Zpc,Zpi,Zqf,Zqg,Zqh,Zqm,Zqr,eq_self,true_and,and_true,hab]
    · have hab : a = b := by
        rw [List.take_of_length_le (by omega), List.take_of_length_le (by omega)] at ht
        exact ht
      sym =>
      simp [Zaa,Zab,Zac,Zad,Zae,Zaf,Zag,Zah,Zai,Zak,Zal,Zam,Zan,Zao,Zap,Zaq,Zar,Zav,Zaw,Zax,Zay,Zaz,Za0,Za1,Za2,Za3,Za4,Za5,Za9,Zba,Zbb,Zbc,Zbf,Zbi,Zbu,Zb2,Zcn,Zc7,Zc8,Zdo,Zdp,Zdt,Zdu,Zdv,Zdw,Zdx,Zdy,Zd0,Zd1,Zd2,Zd3,Zeb,Zee,Zen,Zer,Zes,Zev,Zew,Zez,Ze0,Ze2,Ze5,Zfd,Zfe,Zfh,Zfn,Zfq,Zf0,Zf1,Zga,Zgc,Zgr,Zgu,Zg4,Zg6,Zho,Zh6,Zh7,Zmt,Zmv,Zmw,Zmx,Zmz,Zm2,Zm5,Zm7,Zna,Znb,Zne,Zns,Znt,Znv,Znw,Zn5,Zok,Zol,Zom,Zor,Zos,Zot,Zo3,Zo4,Zo7,Zo8,Zo9,Zpc,Zpi,Zqf,Zqg,Zqh,Zqm,Zqr,eq_self,true_and,and_true,h]
      tactic =>
      refine endA ?_
      sym =>
      simp [Zaa,Zab,Zac,Zad,Zae,Zaf,Zag,Zah,Zai,Zak,Zal,Zam,Zan,Zao,Zap,Zaq,Zar,Zav,Zaw,Zax,Zay,Zaz,Za0,Za1,Za2,Za3,Za4,Za5,Za9,Zba,Zbb,Zbc,Zbf,Zbi,Zbu,Zb2,Zcn,Zc7,Zc8,Zdo,Zdp,Zdt,Zdu,Zdv,Zdw,Zdx,Zdy,Zd0,Zd1,Zd2,Zd3,Zeb,Zee,Zen,Zer,Zes,Zev,Zew,Zez,Ze0,Ze2,Ze5,Zfd,Zfe,Zfh,Zfn,Zfq,Zf0,Zf1,Zga,Zgc,Zgr,Zgu,Zg4,Zg6,Zho,Zh6,Zh7,Zmt,Zmv,Zmw,Zmx,Zmz,Zm2,Zm5,Zm7,Zna,Znb,Zne,Zns,Znt,Znv,Znw,Zn5,Zok,Zol,Zom,Zor,Zos,Zot,Zo3,Zo4,Zo7,Zo8,Zo9,Zpc,Zpi,Zqf,Zqg,Zqh,Zqm,Zqr,eq_self,true_and,and_true,hab]
  · have hl1 : ¬ IN a.length = IN b.length := by simp only [IN]; omega
    have hab : ¬ a = b := fun e => hl (by rw [e])
    sym =>
    simp [Zaa,Zab,Zac,Zad,Zae,Zaf,Zag,Zah,Zai,Zak,Zal,Zam,Zan,Zao,Zap,Zaq,Zar,Zav,Zaw,Zax,Zay,Zaz,Za0,Za1,Za2,Za3,Za4,Za5,Za9,Zba,Zbb,Zbc,Zbf,Zbi,Zbu,Zb2,Zcn,Zc7,Zc8,Zdo,Zdp,Zdt,Zdu,Zdv,Zdw,Zdx,Zdy,Zd0,Zd1,Zd2,Zd3,Zeb,Zee,Zen,Zer,Zes,Zev,Zew,Zez,Ze0,Ze2,Ze5,Zfd,Zfe,Zfh,Zfn,Zfq,Zf0,Zf1,Zga,Zgc,Zgr,Zgu,Zg4,Zg6,Zho,Zh6,Zh7,Zmt,Zmv,Zmw,Zmx,Zmz,Zm2,Zm5,Zm7,Zna,Znb,Zne,Zns,Znt,Znv,Znw,Zn5,Zok,Zol,Zom,Zor,Zos,Zot,Zo3,Zo4,Zo7,Zo8,Zo9,Zpc,Zpi,Zqf,Zqg,Zqh,Zqm,Zqr,eq_self,true_and,and_true,hl]
    tactic =>
    refine endA ?_
    sym =>
    simp [Zaa,Zab,Zac,Zad,Zae,Zaf,Zag,Zah,Zai,Zak,Zal,Zam,Zan,Zao,Zap,Zaq,Zar,Zav,Zaw,Zax,Zay,Zaz,Za0,Za1,Za2,Za3,Za4,Za5,Za9,Zba,Zbb,Zbc,Zbf,Zbi,Zbu,Zb2,Zcn,Zc7,Zc8,Zdo,Zdp,Zdt,Zdu,Zdv,Zdw,Zdx,Zdy,Zd0,Zd1,Zd2,Zd3,Zeb,Zee,Zen,Zer,Zes,Zev,Zew,Zez,Ze0,Ze2,Ze5,Zfd,Zfe,Zfh,Zfn,Zfq,Zf0,Zf1,Zga,Zgc,Zgr,Zgu,Zg4,Zg6,Zho,Zh6,Zh7,Zmt,Zmv,Zmw,Zmx,Zmz,Zm2,Zm5,Zm7,Zna,Znb,Zne,Zns,Znt,Znv,Znw,Zn5,Zok,Zol,Zom,Zor,Zos,Zot,Zo3,Zo4,Zo7,Zo8,Zo9,Zpc,Zpi,Zqf,Zqg,Zqh,Zqm,Zqr,eq_self,true_and,and_true,hab]
/-- Ranges that rise. -/
def riF : Int → List Rg → Bool
  | _, [] => true
  | o, r :: l => if r.1 ≤ o then false else if r.2 ≤ r.1 then false else riF r.2 l
theorem riF_drop (o : Int) (l : List Rg) (i : Nat) (h : i < l.length) : riF o (l.drop i) = if l[i].1 ≤ o then false else if l[i].2 ≤ l[i].1 then false else riF l[i].2 (l.drop (i + 1)) := by
  rw [List.drop_eq_getElem_cons h]; rfl
def i16 (l : List Rg) (R : Bool) (k : Nat) (s : St) : Prop := ∃ (i : Nat) (o : Int), i + k = l.length ∧ riF o (l.drop i) = R ∧ s = ⟨[(0, L o), (7, fR l), (8, I (IN l.length)), (9, I (IN i))], [], 0⟩
theorem rise_con (o : Int) (l : List Rg) (hl : l.length ≤ 1000000) : Con Try.prog 16 [] [L o, fR l] [] (Bo (riF o l)) := by
  refine con_j b16 rfl ?_
  sym =>
  simp [Zaa,Zab,Zad,Zae,Zaf,Zag,Zah,Zai,Zak,Zal,Zam,Zan,Zao,Zap,Zaq,Zar,Zav,Zaw,Zax,Zay,Zaz,Za0,Za1,Za2,Za3,Za4,Za5,Za6,Za7,Za8,Za9,Zba,Zbb,Zbd,Zbf,Zbt,Zbv,Zb1,Zcn,Zcv,Zc3,Zev,Zew,Zex,Zez,Ze0,Ze1,Ze2,Ze3,Ze5,Ze8,Zfc,Zfd,Zfe,Zfh,Zfi,Zfj,Zfl,Zfn,Zfq,Zf1,Zf2,Zgr,Zgs,Zgt,Zgu,Zgv,Zgw,Zgx,Zg4,Zg6,Zho,Zh6,Zh7,Zin,Ziu,Ziv,Ziw,Zi6,Zjh,Zji,Zjn,Zmt,Zmv,Zmw,Zmx,Zmz,Zm2,Zm5,Zm6,Zm7,Zm9,Zna,Znb,Znn,Zno,Znp,Zns,Znt,Znw,Zn5,Zos,Zot,Zo6,Zo7,Zo8,Zo9,Zpc,Zpi,Zqf,Zqg,Zqh,Zqm,eq_self,true_and,and_true]
  tactic =>
  obtain ⟨R, hR⟩ : ∃ R, R = riF o l := ⟨_, rfl⟩
  rw [← hR]
  refine lpA (i16 l R) l.length [] _ ⟨0, o, by omega, hR.symm, rfl⟩ (wkA ?_) ?_
  · sym =>
    simp [Zaa,Zab,Zad,Zae,Zaf,Zag,Zah,Zai,Zak,Zal,Zam,Zan,Zao,Zap,Zaq,Zar,Zav,Zaw,Zax,Zay,Zaz,Za0,Za1,Za2,Za3,Za4,Za5,Za6,Za7,Za8,Za9,Zba,Zbb,Zbd,Zbf,Zbt,Zbv,Zb1,Zcn,Zcv,Zc3,Zev,Zew,Zex,Zez,Ze0,Ze1,Ze2,Ze3,Ze5,Ze8,Zfc,Zfd,Zfe,Zfh,Zfi,Zfj,Zfl,Zfn,Zfq,Zf1,Zf2,Zgr,Zgs,Zgt,Zgu,Zgv,Zgw,Zgx,Zg4,Zg6,Zho,Zh6,Zh7,Zin,Ziu,Ziv,Ziw,Zi6,Zjh,Zji,Zjn,Zmt,Zmv,Zmw,Zmx,Zmz,Zm2,Zm5,Zm6,Zm7,Zm9,Zna,Znb,Znn,Zno,Znp,Zns,Znt,Znw,Zn5,Zos,Zot,Zo6,Zo7,Zo8,Zo9,Zpc,Zpi,Zqf,Zqg,Zqh,Zqm,eq_self,true_and,and_true]
  rintro k s ⟨i, o, hi, ho, rfl⟩
  by_cases h : i < l.length
  · have hw := w64s i (by omega)
    have g0 := cR_q0 l i h
    have g1 := cR_q1 l i h
    rw [riF_drop o l i h] at ho
    obtain ⟨x, hx⟩ : ∃ x, x = l[i] := ⟨_, rfl⟩
    rw [← hx] at g0 g1 ho
    by_cases h1 : x.1 ≤ o
    · rw [if_pos h1] at ho
      sym =>
      simp [Zaa,Zab,Zad,Zae,Zaf,Zag,Zah,Zai,Zak,Zal,Zam,Zan,Zao,Zap,Zaq,Zar,Zav,Zaw,Zax,Zay,Zaz,Za0,Za1,Za2,Za3,Za4,Za5,Za6,Za7,Za8,Za9,Zba,Zbb,Zbd,Zbf,Zbt,Zbv,Zb1,Zcn,Zcv,Zc3,Zev,Zew,Zex,Zez,Ze0,Ze1,Ze2,Ze3,Ze5,Ze8,Zfc,Zfd,Zfe,Zfh,Zfi,Zfj,Zfl,Zfn,Zfq,Zf1,Zf2,Zgr,Zgs,Zgt,Zgu,Zgv,Zgw,Zgx,Zg4,Zg6,Zho,Zh6,Zh7,Zin,Ziu,Ziv,Ziw,Zi6,Zjh,Zji,Zjn,Zmt,Zmv,Zmw,Zmx,Zmz,Zm2,Zm5,Zm6,Zm7,Zm9,Zna,Znb,Znn,Zno,Znp,Zns,Znt,Znw,Zn5,Zos,Zot,Zo6,Zo7,Zo8,Zo9,Zpc,Zpi,Zqf,Zqg,Zqh,Zqm,eq_self,true_and,and_true,h,hw,g0,g1,h1,cR_length]
      tactic =>
      and_intros <;> try (first | omega | rfl | assumption | simp only [IN]; omega)
      refine endA ?_
      rw [← ho]
      sym =>
      simp [Zaa,Zab,Zad,Zae,Zaf,Zag,Zah,Zai,Zak,Zal,Zam,Zan,Zao,Zap,Zaq,Zar,Zav,Zaw,Zax,Zay,Zaz,Za0,Za1,Za2,Za3,Za4,Za5,Za6,Za7,Za8,Za9,Zba,Zbb,Zbd,Zbf,Zbt,Zbv,Zb1,Zcn,Zcv,Zc3,Zev,Zew,Zex,Zez,Ze0,Ze1,Ze2,Ze3,Ze5,Ze8,Zfc,Zfd,Zfe,Zfh,Zfi,Zfj,Zfl,Zfn,Zfq,Zf1,Zf2,Zgr,Zgs,Zgt,Zgu,Zgv,Zgw,Zgx,Zg4,Zg6,Zho,Zh6,Zh7,Zin,Ziu,Ziv,Ziw,Zi6,Zjh,Zji,Zjn,Zmt,Zmv,Zmw,Zmx,Zmz,Zm2,Zm5,Zm6,Zm7,Zm9,Zna,Znb,Znn,Zno,Znp,Zns,Znt,Znw,Zn5,Zos,Zot,Zo6,Zo7,Zo8,Zo9,Zpc,Zpi,Zqf,Zqg,Zqh,Zqm,eq_self,true_and,and_true]
    · rw [if_neg h1] at ho
      by_cases h2 : x.2 ≤ x.1
      · rw [if_pos h2] at ho
        sym =>
        simp [Zaa,Zab,Zad,Zae,Zaf,Zag,Zah,Zai,Zak,Zal,Zam,Zan,Zao,Zap,Zaq,Zar,Zav,Zaw,Zax,Zay,Zaz,Za0,Za1,Za2,Za3,Za4,Za5,Za6,Za7,Za8,Za9,Zba,Zbb,Zbd,Zbf,Zbt,Zbv,Zb1,Zcn,Zcv,Zc3,Zev,Zew,Zex,Zez,Ze0,Ze1,Ze2,Ze3,Ze5,Ze8,Zfc,Zfd,Zfe,Zfh,Zfi,Zfj,Zfl,Zfn,Zfq,Zf1,Zf2,Zgr,Zgs,Zgt,Zgu,Zgv,Zgw,Zgx,Zg4,Zg6,Zho,Zh6,Zh7,Zin,Ziu,Ziv,Ziw,Zi6,Zjh,Zji,Zjn,Zmt,Zmv,Zmw,Zmx,Zmz,Zm2,Zm5,Zm6,Zm7,Zm9,Zna,Znb,Znn,Zno,Znp,Zns,Znt,Znw,Zn5,Zos,Zot,Zo6,Zo7,Zo8,Zo9,Zpc,Zpi,Zqf,Zqg,Zqh,Zqm,eq_self,true_and,and_true,h,hw,g0,g1,h1,h2,cR_length]
        tactic =>
        and_intros <;> try (first | omega | rfl | assumption | simp only [IN]; omega)
        refine endA ?_
        rw [← ho]
        sym =>
        simp [Zaa,Zab,Zad,Zae,Zaf,Zag,Zah,Zai,Zak,Zal,Zam,Zan,Zao,Zap,Zaq,Zar,Zav,Zaw,Zax,Zay,Zaz,Za0,Za1,Za2,Za3,Za4,Za5,Za6,Za7,Za8,Za9,Zba,Zbb,Zbd,Zbf,Zbt,Zbv,Zb1,Zcn,Zcv,Zc3,Zev,Zew,Zex,Zez,Ze0,Ze1,Ze2,Ze3,Ze5,Ze8,Zfc,Zfd,Zfe,Zfh,Zfi,Zfj,Zfl,Zfn,Zfq,Zf1,Zf2,Zgr,Zgs,Zgt,Zgu,Zgv,Zgw,Zgx,Zg4,Zg6,Zho,Zh6,Zh7,Zin,Ziu,Ziv,Ziw,Zi6,Zjh,Zji,Zjn,Zmt,Zmv,Zmw,Zmx,Zmz,Zm2,Zm5,Zm6,Zm7,Zm9,Zna,Znb,Znn,Zno,Znp,Zns,Znt,Znw,Zn5,Zos,Zot,Zo6,Zo7,Zo8,Zo9,Zpc,Zpi,Zqf,Zqg,Zqh,Zqm,eq_self,true_and,and_true]
      · rw [if_neg h2] at ho
        sym =>
        simp [Zaa,Zab,Zad,Zae,Zaf,Zag,Zah,Zai,Zak,Zal,Zam,Zan,Zao,Zap,Zaq,Zar,Zav,Zaw,Zax,Zay,Zaz,Za0,Za1,Za2,Za3,Za4,Za5,Za6,Za7,Za8,Za9,Zba,Zbb,Zbd,Zbf,Zbt,Zbv,Zb1,Zcn,Zcv,Zc3,Zev,Zew,Zex,Zez,Ze0,Ze1,Ze2,Ze3,Ze5,Ze8,Zfc,Zfd,Zfe,Zfh,Zfi,Zfj,Zfl,Zfn,Zfq,Zf1,Zf2,Zgr,Zgs,Zgt,Zgu,Zgv,Zgw,Zgx,Zg4,Zg6,Zho,Zh6,Zh7,Zin,Ziu,Ziv,Ziw,Zi6,Zjh,Zji,Zjn,Zmt,Zmv,Zmw,Zmx,Zmz,Zm2,Zm5,Zm6,Zm7,Zm9,Zna,Znb,Znn,Zno,Znp,Zns,Znt,Znw,Zn5,Zos,Zot,Zo6,Zo7,Zo8,Zo9,Zpc,Zpi,Zqf,Zqg,Zqh,Zqm,eq_self,true_and,and_true,h,hw,g0,g1,h1,h2,cR_length]
        tactic =>
        and_intros <;> try (first | omega | rfl | assumption | simp only [IN]; omega)
        unfold NextL; refine ⟨(k - 1), [], _, by omega, ⟨i + 1, x.2, by omega, ho, rfl⟩, wkA ?_⟩
        sym =>
        simp [Zaa,Zab,Zad,Zae,Zaf,Zag,Zah,Zai,Zak,Zal,Zam,Zan,Zao,Zap,Zaq,Zar,Zav,Zaw,Zax,Zay,Zaz,Za0,Za1,Za2,Za3,Za4,Za5,Za6,Za7,Za8,Za9,Zba,Zbb,Zbd,Zbf,Zbt,Zbv,Zb1,Zcn,Zcv,Zc3,Zev,Zew,Zex,Zez,Ze0,Ze1,Ze2,Ze3,Ze5,Ze8,Zfc,Zfd,Zfe,Zfh,Zfi,Zfj,Zfl,Zfn,Zfq,Zf1,Zf2,Zgr,Zgs,Zgt,Zgu,Zgv,Zgw,Zgx,Zg4,Zg6,Zho,Zh6,Zh7,Zin,Ziu,Ziv,Ziw,Zi6,Zjh,Zji,Zjn,Zmt,Zmv,Zmw,Zmx,Zmz,Zm2,Zm5,Zm6,Zm7,Zm9,Zna,Znb,Znn,Zno,Znp,Zns,Znt,Znw,Zn5,Zos,Zot,Zo6,Zo7,Zo8,Zo9,Zpc,Zpi,Zqf,Zqg,Zqh,Zqm,eq_self,true_and,and_true]
  · rw [List.drop_of_length_le (by omega)] at ho
    have hz : riF o [] = true := rfl
    rw [hz] at ho
    sym =>
    simp [Zaa,Zab,Zad,Zae,Zaf,Zag,Zah,Zai,Zak,Zal,Zam,Zan,Zao,Zap,Zaq,Zar,Zav,Zaw,Zax,Zay,Zaz,Za0,Za1,Za2,Za3,Za4,Za5,Za6,Za7,Za8,Za9,Zba,Zbb,Zbd,Zbf,Zbt,Zbv,Zb1,Zcn,Zcv,Zc3,Zev,Zew,Zex,Zez,Ze0,Ze1,Ze2,Ze3,Ze5,Ze8,Zfc,Zfd,Zfe,Zfh,Zfi,Zfj,Zfl,Zfn,Zfq,Zf1,Zf2,Zgr,Zgs,Zgt,Zgu,Zgv,Zgw,Zgx,Zg4,Zg6,Zho,Zh6,Zh7,Zin,Ziu,Ziv,Ziw,Zi6,Zjh,Zji,Zjn,Zmt,Zmv,Zmw,Zmx,Zmz,Zm2,Zm5,Zm6,Zm7,Zm9,Zna,Znb,Znn,Zno,Znp,Zns,Znt,Znw,Zn5,Zos,Zot,Zo6,Zo7,Zo8,Zo9,Zpc,Zpi,Zqf,Zqg,Zqh,Zqm,eq_self,true_and,and_true,h]
    tactic =>
    refine endA ?_
    rw [← ho]
    sym =>
    simp [Zaa,Zab,Zad,Zae,Zaf,Zag,Zah,Zai,Zak,Zal,Zam,Zan,Zao,Zap,Zaq,Zar,Zav,Zaw,Zax,Zay,Zaz,Za0,Za1,Za2,Za3,Za4,Za5,Za6,Za7,Za8,Za9,Zba,Zbb,Zbd,Zbf,Zbt,Zbv,Zb1,Zcn,Zcv,Zc3,Zev,Zew,Zex,Zez,Ze0,Ze1,Ze2,Ze3,Ze5,Ze8,Zfc,Zfd,Zfe,Zfh,Zfi,Zfj,Zfl,Zfn,Zfq,Zf1,Zf2,Zgr,Zgs,Zgt,Zgu,Zgv,Zgw,Zgx,Zg4,Zg6,Zho,Zh6,Zh7,Zin,Ziu,Ziv,Ziw,Zi6,Zjh,Zji,Zjn,Zmt,Zmv,Zmw,Zmx,Zmz,Zm2,Zm5,Zm6,Zm7,Zm9,Zna,Znb,Znn,Zno,Znp,Zns,Znt,Znw,Zn5,Zos,Zot,Zo6,Zo7,Zo8,Zo9,Zpc,Zpi,Zqf,Zqg,Zqh,Zqm,eq_self,true_and,and_true]
def i17 (l : List Rg) (R : Bool) (k : Nat) (s : St) : Prop := ∃ (i : Nat) (o : Int), i + k = l.length ∧ riF o (l.drop i) = R ∧ s = ⟨[(0, L o), (1, fR l), (5, I (IN i))], [], 0⟩
theorem rrise_con (o : Int) (l : List Rg) (hl : l.length ≤ 1000000) : Con Try.prog 17 [] [L o, fR l] [] (Bo (riF o l)) := by
  refine con_j b17 rfl ?_
  sym =>
  simp [Zaa,Zab,Zac,Zad,Zae,Zaf,Zag,Zah,Zai,Zak,Zal,Zam,Zan,Zao,Zap,Zaq,Zar,Zav,Zaw,Zax,Zay,Zaz,Za0,Za1,Za2,Za3,Za4,Za5,Za9,Zba,Zbb,Zbc,Zbe,Zbf,Zbg,Zbt,Zbu,Zbv,Zbw,Zb1,Zb2,Zcn,Zc7,Zc8,Zdo,Zdp,Zdq,Zdr,Zds,Zdt,Zdu,Zdv,Zdw,Zdx,Zdy,Zd0,Zd1,Zd2,Zeb,Zee,Zev,Zew,Zex,Zez,Ze0,Ze2,Ze5,Zfd,Zfe,Zfh,Zfi,Zfj,Zfl,Zfn,Zfq,Zf1,Zf2,Zgr,Zgu,Zgw,Zgy,Zg4,Zg6,Zho,Zh6,Zh7,Zmt,Zmv,Zmw,Zmx,Zmz,Zm2,Zm6,Zna,Znb,Zne,Zns,Znt,Znw,Zn5,Zos,Zot,Zo6,Zo7,Zo8,Zo9,Zpc,Zpi,Zqf,Zqg,Zqh,Zqm,eq_self,true_and,and_true,Nat.add_zero]
  tactic =>
  obtain ⟨R, hR⟩ : ∃ R, R = riF o l := ⟨_, rfl⟩
  rw [← hR]
  refine lpA (i17 l R) l.length [] _ ⟨0, o, by omega, hR.symm, rfl⟩ (wkA ?_) ?_
  · sym =>
    simp [Zaa,Zab,Zac,Zad,Zae,Zaf,Zag,Zah,Zai,Zak,Zal,Zam,Zan,Zao,Zap,Zaq,Zar,Zav,Zaw,Zax,Zay,Zaz,Za0,Za1,Za2,Za3,Za4,Za5,Za9,Zba,Zbb,Zbc,Zbe,Zbf,Zbg,Zbt,Zbu,Zbv,Zbw,Zb1,Zb2,Zcn,Zc7,Zc8,Zdo,Zdp,Zdq,Zdr,Zds,Zdt,Zdu,Zdv,Zdw,Zdx,Zdy,Zd0,Zd1,Zd2,Zeb,Zee,Zev,Zew,Zex,Zez,Ze0,Ze2,Ze5,Zfd,Zfe,Zfh,Zfi,Zfj,Zfl,Zfn,Zfq,Zf1,Zf2,Zgr,Zgu,Zgw,Zgy,Zg4,Zg6,Zho,Zh6,Zh7,Zmt,Zmv,Zmw,Zmx,Zmz,Zm2,Zm6,Zna,Znb,Zne,Zns,Znt,Znw,Zn5,Zos,Zot,Zo6,Zo7,Zo8,Zo9,Zpc,Zpi,Zqf,Zqg,Zqh,Zqm,eq_self,true_and,and_true,Nat.add_zero]
  rintro k s ⟨i, o, hi, ho, rfl⟩
  by_cases h : i < l.length
  · have hw := w64s i (by omega)
    have g0 := cR_q0 l i h
    have g1 := cR_q1 l i h
    rw [riF_drop o l i h] at ho
    obtain ⟨x, hx⟩ : ∃ x, x = l[i] := ⟨_, rfl⟩
    rw [← hx] at g0 g1 ho
    by_cases h1 : x.1 ≤ o
    · rw [if_pos h1] at ho
      sym =>
      simp [Zaa,Zab,Zac,Zad,Zae,Zaf,Zag,Zah,Zai,Zak,Zal,Zam,Zan,Zao,Zap,Zaq,Zar,Zav,Zaw,Zax,Zay,Zaz,Za0,Za1,Za2,Za3,Za4,Za5,Za9,Zba,Zbb,Zbc,Zbe,Zbf,Zbg,Zbt,Zbu,Zbv,Zbw,Zb1,Zb2,Zcn,Zc7,Zc8,Zdo,Zdp,Zdq,Zdr,Zds,Zdt,Zdu,Zdv,Zdw,Zdx,Zdy,Zd0,Zd1,Zd2,Zeb,Zee,Zev,Zew,Zex,Zez,Ze0,Ze2,Ze5,Zfd,Zfe,Zfh,Zfi,Zfj,Zfl,Zfn,Zfq,Zf1,Zf2,Zgr,Zgu,Zgw,Zgy,Zg4,Zg6,Zho,Zh6,Zh7,Zmt,Zmv,Zmw,Zmx,Zmz,Zm2,Zm6,Zna,Znb,Zne,Zns,Znt,Znw,Zn5,Zos,Zot,Zo6,Zo7,Zo8,Zo9,Zpc,Zpi,Zqf,Zqg,Zqh,Zqm,eq_self,true_and,and_true,Nat.add_zero,h,hw,g0,g1,h1,cR_length]
      tactic =>
      and_intros <;> try (first | omega | rfl | assumption | simp only [IN]; omega)
      refine endA ?_
      rw [← ho]
      sym =>
      simp [Zaa,Zab,Zac,Zad,Zae,Zaf,Zag,Zah,Zai,Zak,Zal,Zam,Zan,Zao,Zap,Zaq,Zar,Zav,Zaw,Zax,Zay,Zaz,Za0,Za1,Za2,Za3,Za4,Za5,Za9,Zba,Zbb,Zbc,Zbe,Zbf,Zbg,Zbt,Zbu,Zbv,Zbw,Zb1,Zb2,Zcn,Zc7,Zc8,Zdo,Zdp,Zdq,Zdr,Zds,Zdt,Zdu,Zdv,Zdw,Zdx,Zdy,Zd0,Zd1,Zd2,Zeb,Zee,Zev,Zew,Zex,Zez,Ze0,Ze2,Ze5,Zfd,Zfe,Zfh,Zfi,Zfj,Zfl,Zfn,Zfq,Zf1,Zf2,Zgr,Zgu,Zgw,Zgy,Zg4,Zg6,Zho,Zh6,Zh7,Zmt,Zmv,Zmw,Zmx,Zmz,Zm2,Zm6,Zna,Znb,Zne,Zns,Znt,Znw,Zn5,Zos,Zot,Zo6,Zo7,Zo8,Zo9,Zpc,Zpi,Zqf,Zqg,Zqh,Zqm,eq_self,true_and,and_true,Nat.add_zero]
    · rw [if_neg h1] at ho
      by_cases h2 : x.2 ≤ x.1
      · rw [if_pos h2] at ho
        sym =>
        simp [Zaa,Zab,Zac,Zad,Zae,Zaf,Zag,Zah,Zai,Zak,Zal,Zam,Zan,Zao,Zap,Zaq,Zar,Zav,Zaw,Zax,Zay,Zaz,Za0,Za1,Za2,Za3,Za4,Za5,Za9,Zba,Zbb,Zbc,Zbe,Zbf,Zbg,Zbt,Zbu,Zbv,Zbw,Zb1,Zb2,Zcn,Zc7,Zc8,Zdo,Zdp,Zdq,Zdr,Zds,Zdt,Zdu,Zdv,Zdw,Zdx,Zdy,Zd0,Zd1,Zd2,Zeb,Zee,Zev,Zew,Zex,Zez,Ze0,Ze2,Ze5,Zfd,Zfe,Zfh,Zfi,Zfj,Zfl,Zfn,Zfq,Zf1,Zf2,Zgr,Zgu,Zgw,Zgy,Zg4,Zg6,Zho,Zh6,Zh7,Zmt,Zmv,Zmw,Zmx,Zmz,Zm2,Zm6,Zna,Znb,Zne,Zns,Znt,Znw,Zn5,Zos,Zot,Zo6,Zo7,Zo8,Zo9,Zpc,Zpi,Zqf,Zqg,Zqh,Zqm,eq_self,true_and,and_true,Nat.add_zero,h,hw,g0,g1,h1,h2,cR_length]
        tactic =>
        and_intros <;> try (first | omega | rfl | assumption | simp only [IN]; omega)
        refine endA ?_
        rw [← ho]
        sym =>
        simp [Zaa,Zab,Zac,Zad,Zae,Zaf,Zag,Zah,Zai,Zak,Zal,Zam,Zan,Zao,Zap,Zaq,Zar,Zav,Zaw,Zax,Zay,Zaz,Za0,Za1,Za2,Za3,Za4,Za5,Za9,Zba,Zbb,Zbc,Zbe,Zbf,Zbg,Zbt,Zbu,Zbv,Zbw,Zb1,Zb2,Zcn,Zc7,Zc8,Zdo,Zdp,Zdq,Zdr,Zds,Zdt,Zdu,Zdv,Zdw,Zdx,Zdy,Zd0,Zd1,Zd2,Zeb,Zee,Zev,Zew,Zex,Zez,Ze0,Ze2,Ze5,Zfd,Zfe,Zfh,Zfi,Zfj,Zfl,Zfn,Zfq,Zf1,Zf2,Zgr,Zgu,Zgw,Zgy,Zg4,Zg6,Zho,Zh6,Zh7,Zmt,Zmv,Zmw,Zmx,Zmz,Zm2,Zm6,Zna,Znb,Zne,Zns,Znt,Znw,Zn5,Zos,Zot,Zo6,Zo7,Zo8,Zo9,Zpc,Zpi,Zqf,Zqg,Zqh,Zqm,eq_self,true_and,and_true,Nat.add_zero]
      · rw [if_neg h2] at ho
        sym =>
        simp [Zaa,Zab,Zac,Zad,Zae,Zaf,Zag,Zah,Zai,Zak,Zal,Zam,Zan,Zao,Zap,Zaq,Zar,Zav,Zaw,Zax,Zay,Zaz,Za0,Za1,Za2,Za3,Za4,Za5,Za9,Zba,Zbb,Zbc,Zbe,Zbf,Zbg,Zbt,Zbu,Zbv,Zbw,Zb1,Zb2,Zcn,Zc7,Zc8,Zdo,Zdp,Zdq,Zdr,Zds,Zdt,Zdu,Zdv,Zdw,Zdx,Zdy,Zd0,Zd1,Zd2,Zeb,Zee,Zev,Zew,Zex,Zez,Ze0,Ze2,Ze5,Zfd,Zfe,Zfh,Zfi,Zfj,Zfl,Zfn,Zfq,Zf1,Zf2,Zgr,Zgu,Zgw,Zgy,Zg4,Zg6,Zho,Zh6,Zh7,Zmt,Zmv,Zmw,Zmx,Zmz,Zm2,Zm6,Zna,Znb,Zne,Zns,Znt,Znw,Zn5,Zos,Zot,Zo6,Zo7,Zo8,Zo9,Zpc,Zpi,Zqf,Zqg,Zqh,Zqm,eq_self,true_and,and_true,Nat.add_zero,h,hw,g0,g1,h1,h2,cR_length]
        tactic =>
        and_intros <;> try (first | omega | rfl | assumption | simp only [IN]; omega)
        unfold NextL; refine ⟨(k - 1), [], _, by omega, ⟨i + 1, x.2, by omega, ho, rfl⟩, wkA ?_⟩
        sym =>
        simp [Zaa,Zab,Zac,Zad,Zae,Zaf,Zag,Zah,Zai,Zak,Zal,Zam,Zan,Zao,Zap,Zaq,Zar,Zav,Zaw,Zax,Zay,Zaz,Za0,Za1,Za2,Za3,Za4,Za5,Za9,Zba,Zbb,Zbc,Zbe,Zbf,Zbg,Zbt,Zbu,Zbv,Zbw,Zb1,Zb2,Zcn,Zc7,Zc8,Zdo,Zdp,Zdq,Zdr,Zds,Zdt,Zdu,Zdv,Zdw,Zdx,Zdy,Zd0,Zd1,Zd2,Zeb,Zee,Zev,Zew,Zex,Zez,Ze0,Ze2,Ze5,Zfd,Zfe,Zfh,Zfi,Zfj,Zfl,Zfn,Zfq,Zf1,Zf2,Zgr,Zgu,Zgw,Zgy,Zg4,Zg6,Zho,Zh6,Zh7,Zmt,Zmv,Zmw,Zmx,Zmz,Zm2,Zm6,Zna,Znb,Zne,Zns,Znt,Znw,Zn5,Zos,Zot,Zo6,Zo7,Zo8,Zo9,Zpc,Zpi,Zqf,Zqg,Zqh,Zqm,eq_self,true_and,and_true,Nat.add_zero]
  · rw [List.drop_of_length_le (by omega)] at ho
    have hz : riF o [] = true := rfl
    rw [hz] at ho
    sym =>
    simp [Zaa,Zab,Zac,Zad,Zae,Zaf,Zag,Zah,Zai,Zak,Zal,Zam,Zan,Zao,Zap,Zaq,Zar,Zav,Zaw,Zax,Zay,Zaz,Za0,Za1,Za2,Za3,Za4,Za5,Za9,Zba,Zbb,Zbc,Zbe,Zbf,Zbg,Zbt,Zbu,Zbv,Zbw,Zb1,Zb2,Zcn,Zc7,Zc8,Zdo,Zdp,Zdq,Zdr,Zds,Zdt,Zdu,Zdv,Zdw,Zdx,Zdy,Zd0,Zd1,Zd2,Zeb,Zee,Zev,Zew,Zex,Zez,Ze0,Ze2,Ze5,Zfd,Zfe,Zfh,Zfi,Zfj,Zfl,Zfn,Zfq,Zf1,Zf2,Zgr,Zgu,Zgw,Zgy,Zg4,Zg6,Zho,Zh6,Zh7,Zmt,Zmv,Zmw,Zmx,Zmz,Zm2,Zm6,Zna,Znb,Zne,Zns,Znt,Znw,Zn5,Zos,Zot,Zo6,Zo7,Zo8,Zo9,Zpc,Zpi,Zqf,Zqg,Zqh,Zqm,eq_self,true_and,and_true,Nat.add_zero,h]
    tactic =>
    refine endA ?_
    rw [← ho]
    sym =>
    simp [Zaa,Zab,Zac,Zad,Zae,Zaf,Zag,Zah,Zai,Zak,Zal,Zam,Zan,Zao,Zap,Zaq,Zar,Zav,Zaw,Zax,Zay,Zaz,Za0,Za1,Za2,Za3,Za4,Za5,Za9,Zba,Zbb,Zbc,Zbe,Zbf,Zbg,Zbt,Zbu,Zbv,Zbw,Zb1,Zb2,Zcn,Zc7,Zc8,Zdo,Zdp,Zdq,Zdr,Zds,Zdt,Zdu,Zdv,Zdw,Zdx,Zdy,Zd0,Zd1,Zd2,Zeb,Zee,Zev,Zew,Zex,Zez,Ze0,Ze2,Ze5,Zfd,Zfe,Zfh,Zfi,Zfj,Zfl,Zfn,Zfq,Zf1,Zf2,Zgr,Zgu,Zgw,Zgy,Zg4,Zg6,Zho,Zh6,Zh7,Zmt,Zmv,Zmw,Zmx,Zmz,Zm2,Zm6,Zna,Znb,Zne,Zns,Znt,Znw,Zn5,Zos,Zot,Zo6,Zo7,Zo8,Zo9,Zpc,Zpi,Zqf,Zqg,Zqh,Zqm,eq_self,true_and,and_true,Nat.add_zero]
end Go.Proofs.Ythhccabdlajngaa.FrmB
