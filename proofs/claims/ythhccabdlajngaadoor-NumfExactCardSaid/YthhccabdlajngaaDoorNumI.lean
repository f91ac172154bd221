import Derived.Test.YthhccabdlajngaaDoorNumH
namespace Go.Proofs.YthhccabdlajngaaDoor.NumI
open Go Go.Sim Go.Sim.E Go.RowKit Go.Proofs Go.Proofs.YthhccabdlajngaaDoor.Cod Go.Proofs.YthhccabdlajngaaDoor.Tab Go.Proofs.YthhccabdlajngaaDoor.Bse Go.Proofs.YthhccabdlajngaaDoor.NumA Go.Proofs.YthhccabdlajngaaDoor.NumB Go.Proofs.YthhccabdlajngaaDoor.NumC Go.Proofs.YthhccabdlajngaaDoor.NumD Go.Proofs.YthhccabdlajngaaDoor.NumE Go.Proofs.YthhccabdlajngaaDoor.NumF Go.Proofs.YthhccabdlajngaaDoor.NumG Go.Proofs.YthhccabdlajngaaDoor.NumH
set_option linter.unusedVariables false
set_option linter.unusedSimpArgs false
set_option maxRecDepth 100000
set_option maxHeartbeats 4000000
theorem putF_byt (n w : Int) (hn : -9223372036854775808 ≤ n ∧ n ≤ 9223372036854775807) : byt8 (putF n w).1 := by
  have z : byt8 ([] : List Int) := fun x hx => by cases hx
  have hc : ∀ k : Nat, byt8 ((if n < 0 then (255 : Int) else 128) :: beN k n) := by
    intro k x hx
    rcases List.mem_cons.1 hx with rfl | hx
    · split <;> decide
    · exact beN_byt k n x hx
  unfold putF
  split
  · split
    · exact byt8_app (octN_byt _ _) (fun x hx => by simp at hx; omega)
    · unfold baseF
      split
      · split
        · exact hc 7
        · exact z
      · exact hc 11
  · exact z
theorem exact_con (b : List Int) (hb : byt8 b) (hl : b.length ≤ 100) : Con Tryd.prog 19 [] [fB b] [] (Bo (exF b)) := by
  have hg := get_con b hb hl
  have hbd := getF_bd b hb
  obtain ⟨R, hR⟩ : ∃ R, R = exF b := ⟨_, rfl⟩
  rw [← hR]
  unfold exF at hR
  have hq := cB_length b
  obtain ⟨G, hG⟩ : ∃ G, G = getF b := ⟨_, rfl⟩
  rw [← hG] at hg hbd hR
  obtain ⟨n, e⟩ := G
  simp only at hg hbd hR
  by_cases he : e = 0
  · rw [if_pos he] at hR
    subst he
    have hp := put_con n (IN b.length) hbd (by simp only [IN]; omega)
    have hpb := putF_byt n (IN b.length) hbd
    have hR2 : R = if (putF n (IN b.length)).2 = 0 then decide ((putF n (IN b.length)).1 = b) else false := hR
    clear hR
    obtain ⟨P, hP⟩ : ∃ P, P = putF n (IN b.length) := ⟨_, rfl⟩
    rw [← hP] at hp hpb hR2
    obtain ⟨c, f⟩ := P
    simp only at hp hpb hR2
    have hec := equal_con c b hpb hb
    by_cases hf : f = 0
    · rw [if_pos hf] at hR2
      subst hf
      rw [← hR2] at hec
      refine con_j b19 rfl ?_
      sym =>
      simp [Zaa,Zab,Zad,Zae,Zaf,Zak,Zal,Zam,Zao,Zay,Zaz,Za0,Za1,Za2,Za3,Za4,Za5,Za6,Za7,Za8,Za9,Zba,Zbb,Zbd,Zbf,Zb7,Zcn,Zdc,Zdd,Zde,Zdi,Zev,Zew,Zex,Zez,Ze0,Ze2,Ze5,Zfd,Zfe,Zfh,Zfi,Zfk,Zfl,Zfn,Zfz,Zf0,Zhb,Zhc,Zh6,Zh7,Zjq,Zjw,Zka,Zky,Zkz,Zk0,Zk2,Zk4,Zla,Zlb,Zle,Zlj,Zll,Zlz,Zl2,Zmt,Zmv,Zmw,Zmx,Zmz,Zm2,Zm9,Zna,Znb,Zne,Znf,Zng,Zos,Zot,Zo3,Zo4,Zo7,Zo8,Zo9,Zpc,eq_self,true_and,and_true,callable_17]
      tactic =>
      refine cl none (hg) trivial ?_
      sym =>
      simp [Zaa,Zab,Zad,Zae,Zaf,Zak,Zal,Zam,Zao,Zay,Zaz,Za0,Za1,Za2,Za3,Za4,Za5,Za6,Za7,Za8,Za9,Zba,Zbb,Zbd,Zbf,Zb7,Zcn,Zdc,Zdd,Zde,Zdi,Zev,Zew,Zex,Zez,Ze0,Ze2,Ze5,Zfd,Zfe,Zfh,Zfi,Zfk,Zfl,Zfn,Zfz,Zf0,Zhb,Zhc,Zh6,Zh7,Zjq,Zjw,Zka,Zky,Zkz,Zk0,Zk2,Zk4,Zla,Zlb,Zle,Zlj,Zll,Zlz,Zl2,Zmt,Zmv,Zmw,Zmx,Zmz,Zm2,Zm9,Zna,Znb,Zne,Znf,Zng,Zos,Zot,Zo3,Zo4,Zo7,Zo8,Zo9,Zpc,eq_self,true_and,and_true,callable_7]
      tactic =>
      refine cl none (hp) trivial ?_
      sym =>
      simp [Zaa,Zab,Zad,Zae,Zaf,Zak,Zal,Zam,Zao,Zay,Zaz,Za0,Za1,Za2,Za3,Za4,Za5,Za6,Za7,Za8,Za9,Zba,Zbb,Zbd,Zbf,Zb7,Zcn,Zdc,Zdd,Zde,Zdi,Zev,Zew,Zex,Zez,Ze0,Ze2,Ze5,Zfd,Zfe,Zfh,Zfi,Zfk,Zfl,Zfn,Zfz,Zf0,Zhb,Zhc,Zh6,Zh7,Zjq,Zjw,Zka,Zky,Zkz,Zk0,Zk2,Zk4,Zla,Zlb,Zle,Zlj,Zll,Zlz,Zl2,Zmt,Zmv,Zmw,Zmx,Zmz,Zm2,Zm9,Zna,Znb,Zne,Znf,Zng,Zos,Zot,Zo3,Zo4,Zo7,Zo8,Zo9,Zpc,eq_self,true_and,and_true,callable_30]
      tactic =>
      refine cl none (hec) trivial ?_
      sym =>
      simp [Zaa,Zab,Zad,Zae,Zaf,Zak,Zal,Zam,Zao,Zay,Zaz,Za0,Za1,Za2,Za3,Za4,Za5,Za6,Za7,Za8,Za9,Zba,Zbb,Zbd,Zbf,Zb7,Zcn,Zdc,Zdd,Zde,Zdi,Zev,Zew,Zex,Zez,Ze0,Ze2,Ze5,Zfd,Zfe,Zfh,Zfi,Zfk,Zfl,Zfn,Zfz,Zf0,Zhb,Zhc,Zh6,Zh7,Zjq,Zjw,Zka,Zky,Zkz,Zk0,Zk2,Zk4,Zla,Zlb,Zle,Zlj,Zll,Zlz,Zl2,Zmt,Zmv,Zmw,Zmx,Zmz,Zm2,Zm9,Zna,Znb,Zne,Znf,Zng,Zos,Zot,Zo3,Zo4,Zo7,Zo8,Zo9,Zpc,eq_self,true_and,and_true]
      tactic =>
      refine endA ?_
      sym =>
      simp [Zaa,Zab,Zad,Zae,Zaf,Zak,Zal,Zam,Zao,Zay,Zaz,Za0,Za1,Za2,Za3,Za4,Za5,Za6,Za7,Za8,Za9,Zba,Zbb,Zbd,Zbf,Zb7,Zcn,Zdc,Zdd,Zde,Zdi,Zev,Zew,Zex,Zez,Ze0,Ze2,Ze5,Zfd,Zfe,Zfh,Zfi,Zfk,Zfl,Zfn,Zfz,Zf0,Zhb,Zhc,Zh6,Zh7,Zjq,Zjw,Zka,Zky,Zkz,Zk0,Zk2,Zk4,Zla,Zlb,Zle,Zlj,Zll,Zlz,Zl2,Zmt,Zmv,Zmw,Zmx,Zmz,Zm2,Zm9,Zna,Znb,Zne,Znf,Zng,Zos,Zot,Zo3,Zo4,Zo7,Zo8,Zo9,Zpc,eq_self,true_and,and_true]
    · rw [if_neg hf] at hR2
      subst hR2
      refine con_j b19 rfl ?_
      sym =>
      simp [Zaa,Zab,Zad,Zae,Zaf,Zak,Zal,Zam,Zao,Zay,Zaz,Za0,Za1,Za2,Za3,Za4,Za5,Za6,Za7,Za8,Za9,Zba,Zbb,Zbd,Zbf,Zb7,Zcn,Zdc,Zdd,Zde,Zdi,Zev,Zew,Zex,Zez,Ze0,Ze2,Ze5,Zfd,Zfe,Zfh,Zfi,Zfk,Zfl,Zfn,Zfz,Zf0,Zhb,Zhc,Zh6,Zh7,Zjq,Zjw,Zka,Zky,Zkz,Zk0,Zk2,Zk4,Zla,Zlb,Zle,Zlj,Zll,Zlz,Zl2,Zmt,Zmv,Zmw,Zmx,Zmz,Zm2,Zm9,Zna,Znb,Zne,Znf,Zng,Zos,Zot,Zo3,Zo4,Zo7,Zo8,Zo9,Zpc,eq_self,true_and,and_true,callable_17]
      tactic =>
      refine cl none (hg) trivial ?_
      sym =>
      simp [Zaa,Zab,Zad,Zae,Zaf,Zak,Zal,Zam,Zao,Zay,Zaz,Za0,Za1,Za2,Za3,Za4,Za5,Za6,Za7,Za8,Za9,Zba,Zbb,Zbd,Zbf,Zb7,Zcn,Zdc,Zdd,Zde,Zdi,Zev,Zew,Zex,Zez,Ze0,Ze2,Ze5,Zfd,Zfe,Zfh,Zfi,Zfk,Zfl,Zfn,Zfz,Zf0,Zhb,Zhc,Zh6,Zh7,Zjq,Zjw,Zka,Zky,Zkz,Zk0,Zk2,Zk4,Zla,Zlb,Zle,Zlj,Zll,Zlz,Zl2,Zmt,Zmv,Zmw,Zmx,Zmz,Zm2,Zm9,Zna,Znb,Zne,Znf,Zng,Zos,Zot,Zo3,Zo4,Zo7,Zo8,Zo9,Zpc,eq_self,true_and,and_true,callable_7]
      tactic =>
      refine cl none (hp) trivial ?_
      sym =>
      simp [Zaa,Zab,Zad,Zae,Zaf,Zak,Zal,Zam,Zao,Zay,Zaz,Za0,Za1,Za2,Za3,Za4,Za5,Za6,Za7,Za8,Za9,Zba,Zbb,Zbd,Zbf,Zb7,Zcn,Zdc,Zdd,Zde,Zdi,Zev,Zew,Zex,Zez,Ze0,Ze2,Ze5,Zfd,Zfe,Zfh,Zfi,Zfk,Zfl,Zfn,Zfz,Zf0,Zhb,Zhc,Zh6,Zh7,Zjq,Zjw,Zka,Zky,Zkz,Zk0,Zk2,Zk4,Zla,Zlb,Zle,Zlj,Zll,Zlz,Zl2,Zmt,Zmv,Zmw,Zmx,Zmz,Zm2,Zm9,Zna,Znb,Zne,Znf,Zng,Zos,Zot,Zo3,Zo4,Zo7,Zo8,Zo9,Zpc,eq_self,true_and,and_true,hf]
      tactic =>
      refine endA ?_
      sym =>
      simp [Zaa,Zab,Zad,Zae,Zaf,Zak,Zal,Zam,Zao,Zay,Zaz,Za0,Za1,Za2,Za3,Za4,Za5,Za6,Za7,Za8,Za9,Zba,Zbb,Zbd,Zbf,Zb7,Zcn,Zdc,Zdd,Zde,Zdi,Zev,Zew,Zex,Zez,Ze0,Ze2,Ze5,Zfd,Zfe,Zfh,Zfi,Zfk,Zfl,Zfn,Zfz,Zf0,Zhb,Zhc,Zh6,Zh7,Zjq,Zjw,Zka,Zky,Zkz,Zk0,Zk2,Zk4,Zla,Zlb,Zle,Zlj,Zll,Zlz,Zl2,Zmt,Zmv,Zmw,Zmx,Zmz,Zm2,Zm9,Zna,Znb,Zne,Znf,Zng,Zos,Zot,Zo3,Zo4,Zo7,Zo8,Zo9,Zpc,eq_self,true_and,and_true]
  · rw [if_neg he] at hR
    subst hR
    refine con_j b19 rfl ?_
    sym =>
    simp [Zaa,Zab,Zad,Zae,Zaf,Zak,Zal,Zam,Zao,Zay,Zaz,Za0,Za1,Za2,Za3,Za4,Za5,Za6,Za7,Za8,Za9,Zba,Zbb,Zbd,Zbf,Zb7,Zcn,Zdc,Zdd,Zde,Zdi,Zev,Zew,Zex,Zez,Ze0,Ze2,Ze5,Zfd,Zfe,Zfh,Zfi,Zfk,Zfl,Zfn,Zfz,Zf0,Zhb,Zhc,Zh6,Zh7,Zjq,Zjw,Zka,Zky,Zkz,Zk0,Zk2,Zk4,Zla,Zlb,Zle,Zlj,Zll,Zlz,Zl2,Zmt,Zmv,Zmw,Zmx,Zmz,Zm2,Zm9,Zna,Znb,Zne,Znf,Zng,Zos,Zot,Zo3,Zo4,Zo7,Zo8,Zo9,Zpc,eq_self,true_and,and_true,callable_17]
    tactic =>
    refine cl none (hg) trivial ?_
    sym =>
    simp [Zaa,Zab,Zad,Zae,Zaf,Zak,Zal,Zam,Zao,Zay,Zaz,Za0,Za1,Za2,Za3,Za4,Za5,Za6,Za7,Za8,Za9,Zba,Zbb,Zbd,Zbf,Zb7,Zcn,Zdc,Zdd,Zde,Zdi,Zev,Zew,Zex,Zez,Ze0,Ze2,Ze5,Zfd,Zfe,Zfh,Zfi,Zfk,Zfl,Zfn,Zfz,Zf0,Zhb,Zhc,Zh6,Zh7,Zjq,Zjw,Zka,Zky,Zkz,Zk0,Zk2,Zk4,Zla,Zlb,Zle,Zlj,Zll,Zlz,Zl2,Zmt,Zmv,Zmw,Zmx,Zmz,Zm2,Zm9,Zna,Znb,Zne,Znf,Zng,Zos,Zot,Zo3,Zo4,Zo7,Zo8,Zo9,Zpc,eq_self,true_and,and_true,he]
    tactic =>
    refine endA ?_
    sym =>
    simp [Zaa,Zab,Zad,Zae,Zaf,Zak,Zal,Zam,Zao,Zay,Zaz,Za0,Za1,Za2,Za3,Za4,Za5,Za6,Za7,Za8,Za9,Zba,Zbb,Zbd,Zbf,Zb7,Zcn,Zdc,Zdd,Zde,Zdi,Zev,Zew,Zex,Zez,Ze0,Ze2,Ze5,Zfd,Zfe,Zfh,Zfi,Zfk,Zfl,Zfn,Zfz,Zf0,Zhb,Zhc,Zh6,Zh7,Zjq,Zjw,Zka,Zky,Zkz,Zk0,Zk2,Zk4,Zla,Zlb,Zle,Zlj,Zll,Zlz,Zl2,Zmt,Zmv,Zmw,Zmx,Zmz,Zm2,Zm9,Zna,Znb,Zne,Znf,Zng,Zos,Zot,Zo3,Zo4,Zo7,Zo8,Zo9,Zpc,eq_self,true_and,and_true]
theorem alive_con : Con Tryd.prog 16 [] [] [] (Bo true) := by
  have h1 := put_con 8 8 (by decide) (by decide)
  have h2 := get_con [48, 48, 48, 48, 48, 49, 48, 0] (by intro x hx; simp at hx; omega) (by decide)
  have h3 := put_con (-1) 8 (by decide) (by decide)
  have h4 := exact_con [255, 255, 255, 255, 255, 255, 255, 255] (by intro x hx; simp at hx; omega) (by decide)
  have h5 := most_con 2
  have e1 : putF 8 8 = ([48, 48, 48, 48, 48, 49, 48, 0], 0) := by decide
  have e2 : getF [48, 48, 48, 48, 48, 49, 48, 0] = (8, 0) := by decide
  have e3 : putF (-1) 8 = ([255, 255, 255, 255, 255, 255, 255, 255], 0) := by decide
  have e4 : exF [255, 255, 255, 255, 255, 255, 255, 255] = true := by decide
  have e5 : mostI 2 = 63 := by decide
  rw [e1] at h1
  rw [e2] at h2
  rw [e3] at h3
  rw [e4] at h4
  rw [e5] at h5
  obtain ⟨a, ha⟩ : ∃ a : List Int, a = [48, 48, 48, 48, 48, 49, 48, 0] := ⟨_, rfl⟩
  obtain ⟨c, hc⟩ : ∃ c : List Int, c = [255, 255, 255, 255, 255, 255, 255, 255] := ⟨_, rfl⟩
  have hs0 : bysS (cB a) = ⟨#[48, 48, 48, 48, 48, 49, 48, 0]⟩ := by rw [ha]; rfl
  have hs : ((bysS (cB a)).toList == (⟨#[48, 48, 48, 48, 48, 49, 48, 0]⟩ : ByteArray).toList) = true := by rw [hs0]; exact beq_self_eq_true _
  have hso := bys_ok a
  have hla := cB_length a
  have hlc : c.length = 8 := by rw [hc]; rfl
  have hlc2 := cB_length c
  have g0 := cB_get c 0 (by omega)
  have g7 := cB_get c 7 (by omega)
  rw [show c.getD 0 0 = 255 by rw [hc]; rfl] at g0
  rw [show c.getD 7 0 = 255 by rw [hc]; rfl] at g7
  rw [← ha] at h1 h2
  rw [← hc] at h3 h4
  have hlI : IN c.length = 8 := by rw [hlc]; rfl
  have k1 : (0 : Int) < IN c.length := by omega
  have k2 : (7 : Int) < IN c.length := by omega
  refine con_j b16 rfl ?_
  sym =>
  simp [Zab,Zad,Zak,Zam,Zaz,Za0,Za1,Za2,Za3,Za4,Za5,Za6,Za7,Za9,Zba,Zbb,Zbd,Zbf,Zbp,Zbt,Zb1,Zb7,Zcn,Zdc,Zdd,Zde,Zdi,Zev,Zew,Zex,Zez,Ze0,Ze2,Ze5,Zfd,Zfe,Zfh,Zfi,Zfl,Zfn,Zfz,Zf8,Zgl,Zgm,Zgr,Zgu,Zg4,Zg6,Zhb,Zhc,Zho,Zh6,Zh7,Zjq,Zjr,Zjw,Zka,Zky,Zkz,Zk0,Zk2,Zk4,Zla,Zlb,Zle,Zlj,Zll,Zlz,Zl2,Zmt,Zmv,Zmw,Zmx,Zmz,Zm2,Zm6,Zm9,Zna,Znb,Zne,Znf,Zng,Zof,Zog,Zrd,Zos,Zo7,Zo8,Zpc,eq_self,true_and,and_true,callable_7]
  tactic =>
  refine cl none (h1) trivial ?_
  sym =>
  simp [Zab,Zad,Zak,Zam,Zaz,Za0,Za1,Za2,Za3,Za4,Za5,Za6,Za7,Za9,Zba,Zbb,Zbd,Zbf,Zbp,Zbt,Zb1,Zb7,Zcn,Zdc,Zdd,Zde,Zdi,Zev,Zew,Zex,Zez,Ze0,Ze2,Ze5,Zfd,Zfe,Zfh,Zfi,Zfl,Zfn,Zfz,Zf8,Zgl,Zgm,Zgr,Zgu,Zg4,Zg6,Zhb,Zhc,Zho,Zh6,Zh7,Zjq,Zjr,Zjw,Zka,Zky,Zkz,Zk0,Zk2,Zk4,Zla,Zlb,Zle,Zlj,Zll,Zlz,Zl2,Zmt,Zmv,Zmw,Zmx,Zmz,Zm2,Zm6,Zm9,Zna,Znb,Zne,Znf,Zng,Zof,Zog,Zrd,Zos,Zo7,Zo8,Zpc,eq_self,true_and,and_true,callable_17]
  tactic =>
  refine cl none (h2) trivial ?_
  sym =>
  simp [Zab,Zad,Zak,Zam,Zaz,Za0,Za1,Za2,Za3,Za4,Za5,Za6,Za7,Za9,Zba,Zbb,Zbd,Zbf,Zbp,Zbt,Zb1,Zb7,Zcn,Zdc,Zdd,Zde,Zdi,Zev,Zew,Zex,Zez,Ze0,Ze2,Ze5,Zfd,Zfe,Zfh,Zfi,Zfl,Zfn,Zfz,Zf8,Zgl,Zgm,Zgr,Zgu,Zg4,Zg6,Zhb,Zhc,Zho,Zh6,Zh7,Zjq,Zjr,Zjw,Zka,Zky,Zkz,Zk0,Zk2,Zk4,Zla,Zlb,Zle,Zlj,Zll,Zlz,Zl2,Zmt,Zmv,Zmw,Zmx,Zmz,Zm2,Zm6,Zm9,Zna,Znb,Zne,Znf,Zng,Zof,Zog,Zrd,Zos,Zo7,Zo8,Zpc,eq_self,true_and,and_true,callable_7]
  tactic =>
  refine cl none (h3) trivial ?_
  sym =>
  simp [Zab,Zad,Zak,Zam,Zaz,Za0,Za1,Za2,Za3,Za4,Za5,Za6,Za7,Za9,Zba,Zbb,Zbd,Zbf,Zbp,Zbt,Zb1,Zb7,Zcn,Zdc,Zdd,Zde,Zdi,Zev,Zew,Zex,Zez,Ze0,Ze2,Ze5,Zfd,Zfe,Zfh,Zfi,Zfl,Zfn,Zfz,Zf8,Zgl,Zgm,Zgr,Zgu,Zg4,Zg6,Zhb,Zhc,Zho,Zh6,Zh7,Zjq,Zjr,Zjw,Zka,Zky,Zkz,Zk0,Zk2,Zk4,Zla,Zlb,Zle,Zlj,Zll,Zlz,Zl2,Zmt,Zmv,Zmw,Zmx,Zmz,Zm2,Zm6,Zm9,Zna,Znb,Zne,Znf,Zng,Zof,Zog,Zrd,Zos,Zo7,Zo8,Zpc,eq_self,true_and,and_true,hs,hso,hla,hlI,hlc2,g0,g7,callable_19]
  tactic =>
  refine ⟨by omega, by omega, by omega, by omega, ?_⟩
  refine cl none (h4) trivial ?_
  sym =>
  simp [Zab,Zad,Zak,Zam,Zaz,Za0,Za1,Za2,Za3,Za4,Za5,Za6,Za7,Za9,Zba,Zbb,Zbd,Zbf,Zbp,Zbt,Zb1,Zb7,Zcn,Zdc,Zdd,Zde,Zdi,Zev,Zew,Zex,Zez,Ze0,Ze2,Ze5,Zfd,Zfe,Zfh,Zfi,Zfl,Zfn,Zfz,Zf8,Zgl,Zgm,Zgr,Zgu,Zg4,Zg6,Zhb,Zhc,Zho,Zh6,Zh7,Zjq,Zjr,Zjw,Zka,Zky,Zkz,Zk0,Zk2,Zk4,Zla,Zlb,Zle,Zlj,Zll,Zlz,Zl2,Zmt,Zmv,Zmw,Zmx,Zmz,Zm2,Zm6,Zm9,Zna,Znb,Zne,Znf,Zng,Zof,Zog,Zrd,Zos,Zo7,Zo8,Zpc,eq_self,true_and,and_true,callable_14]
  tactic =>
  refine cl none (h5) trivial ?_
  sym =>
  simp [Zab,Zad,Zak,Zam,Zaz,Za0,Za1,Za2,Za3,Za4,Za5,Za6,Za7,Za9,Zba,Zbb,Zbd,Zbf,Zbp,Zbt,Zb1,Zb7,Zcn,Zdc,Zdd,Zde,Zdi,Zev,Zew,Zex,Zez,Ze0,Ze2,Ze5,Zfd,Zfe,Zfh,Zfi,Zfl,Zfn,Zfz,Zf8,Zgl,Zgm,Zgr,Zgu,Zg4,Zg6,Zhb,Zhc,Zho,Zh6,Zh7,Zjq,Zjr,Zjw,Zka,Zky,Zkz,Zk0,Zk2,Zk4,Zla,Zlb,Zle,Zlj,Zll,Zlz,Zl2,Zmt,Zmv,Zmw,Zmx,Zmz,Zm2,Zm6,Zm9,Zna,Znb,Zne,Znf,Zng,Zof,Zog,Zrd,Zos,Zo7,Zo8,Zpc,eq_self,true_and,and_true]
  tactic =>
  refine endA ?_
  sym =>
  simp [Zab,Zad,Zak,Zam,Zaz,Za0,Za1,Za2,Za3,Za4,Za5,Za6,Za7,Za9,Zba,Zbb,Zbd,Zbf,Zbp,Zbt,Zb1,Zb7,Zcn,Zdc,Zdd,Zde,Zdi,Zev,Zew,Zex,Zez,Ze0,Ze2,Ze5,Zfd,Zfe,Zfh,Zfi,Zfl,Zfn,Zfz,Zf8,Zgl,Zgm,Zgr,Zgu,Zg4,Zg6,Zhb,Zhc,Zho,Zh6,Zh7,Zjq,Zjr,Zjw,Zka,Zky,Zkz,Zk0,Zk2,Zk4,Zla,Zlb,Zle,Zlj,Zll,Zlz,Zl2,Zmt,Zmv,Zmw,Zmx,Zmz,Zm2,Zm6,Zm9,Zna,Znb,Zne,Znf,Zng,Zof,Zog,Zrd,Zos,Zo7,Zo8,Zpc,eq_self,true_and,and_true]
theorem exact_law (b : List Int) (hb : byt8 b) : Con Tryd.prog 6 [] [fB b] [] (Bo true) := by
  have hq := cB_length b
  by_cases hl : b.length ≤ 100
  rotate_left
  · have hg : IN b.length > 100 := by simp only [IN]; omega
    refine con_j b6 rfl ?_
    sym =>
    simp [Zaa,Zab,Zad,Zae,Zaf,Zak,Zal,Zam,Zao,Zaz,Za0,Za1,Za2,Za3,Za4,Za5,Za6,Za7,Za8,Za9,Zba,Zbb,Zbd,Zbf,Zb7,Zcn,Zdc,Zdd,Zde,Zdi,Zev,Zew,Zex,Zez,Ze0,Ze2,Ze5,Zfd,Zfe,Zfh,Zfi,Zfk,Zfl,Zfn,Zfz,Zf3,Zf5,Zhb,Zhc,Zh6,Zh7,Zjq,Zjw,Zka,Zky,Zkz,Zk0,Zk2,Zk4,Zla,Zlb,Zle,Zlj,Zll,Zlz,Zl2,Zmt,Zmv,Zmw,Zmx,Zmz,Zm2,Zm9,Zna,Znb,Zne,Znf,Zng,Zos,Zot,Zoy,Zo4,Zo7,Zo8,Zo9,Zpc,eq_self,true_and,and_true,hg,callable_16]
    tactic =>
    refine cl none (alive_con) trivial ?_
    sym =>
    simp [Zaa,Zab,Zad,Zae,Zaf,Zak,Zal,Zam,Zao,Zaz,Za0,Za1,Za2,Za3,Za4,Za5,Za6,Za7,Za8,Za9,Zba,Zbb,Zbd,Zbf,Zb7,Zcn,Zdc,Zdd,Zde,Zdi,Zev,Zew,Zex,Zez,Ze0,Ze2,Ze5,Zfd,Zfe,Zfh,Zfi,Zfk,Zfl,Zfn,Zfz,Zf3,Zf5,Zhb,Zhc,Zh6,Zh7,Zjq,Zjw,Zka,Zky,Zkz,Zk0,Zk2,Zk4,Zla,Zlb,Zle,Zlj,Zll,Zlz,Zl2,Zmt,Zmv,Zmw,Zmx,Zmz,Zm2,Zm9,Zna,Znb,Zne,Znf,Zng,Zos,Zot,Zoy,Zo4,Zo7,Zo8,Zo9,Zpc,eq_self,true_and,and_true]
    tactic =>
    refine endA ?_
    sym =>
    simp [Zaa,Zab,Zad,Zae,Zaf,Zak,Zal,Zam,Zao,Zaz,Za0,Za1,Za2,Za3,Za4,Za5,Za6,Za7,Za8,Za9,Zba,Zbb,Zbd,Zbf,Zb7,Zcn,Zdc,Zdd,Zde,Zdi,Zev,Zew,Zex,Zez,Ze0,Ze2,Ze5,Zfd,Zfe,Zfh,Zfi,Zfk,Zfl,Zfn,Zfz,Zf3,Zf5,Zhb,Zhc,Zh6,Zh7,Zjq,Zjw,Zka,Zky,Zkz,Zk0,Zk2,Zk4,Zla,Zlb,Zle,Zlj,Zll,Zlz,Zl2,Zmt,Zmv,Zmw,Zmx,Zmz,Zm2,Zm9,Zna,Znb,Zne,Znf,Zng,Zos,Zot,Zoy,Zo4,Zo7,Zo8,Zo9,Zpc,eq_self,true_and,and_true]
  have hg : ¬ IN b.length > 100 := by simp only [IN]; omega
  have h1 := rget_con b hb hl
  have hbd := getF_bd b hb
  have h3 := exact_con b hb hl
  obtain ⟨R, hR⟩ : ∃ R, R = exF b := ⟨_, rfl⟩
  rw [← hR] at h3
  unfold exF at hR
  obtain ⟨G, hG⟩ : ∃ G, G = getF b := ⟨_, rfl⟩
  rw [← hG] at h1 hbd hR
  obtain ⟨n, e⟩ := G
  simp only at h1 hbd hR
  have h2 := rput_con n (IN b.length) hbd (by simp only [IN]; omega)
  have hR1 : R = if e = 0 then (if (putF n (IN b.length)).2 = 0 then decide ((putF n (IN b.length)).1 = b) else false) else false := hR
  clear hR
  obtain ⟨P, hP⟩ : ∃ P, P = putF n (IN b.length) := ⟨_, rfl⟩
  rw [← hP] at h2 hR1
  obtain ⟨c, f⟩ := P
  simp only at h2 hR1
  have h4 := nsame_con b c (by omega)
  by_cases he : e = 0
  · rw [if_pos he] at hR1
    subst he
    by_cases hf : f = 0
    · rw [if_pos hf] at hR1
      subst hf
      have hd : decide (b = c) = R := by
        rw [hR1]
        by_cases hbc : b = c
        · rw [decide_eq_true hbc, decide_eq_true hbc.symm]
        · rw [decide_eq_false hbc, decide_eq_false (fun x => hbc x.symm)]
      rw [hd] at h4
      have hpp : (R == R) = true := by cases R <;> rfl
      refine con_j b6 rfl ?_
      sym =>
      simp [Zaa,Zab,Zad,Zae,Zaf,Zak,Zal,Zam,Zao,Zaz,Za0,Za1,Za2,Za3,Za4,Za5,Za6,Za7,Za8,Za9,Zba,Zbb,Zbd,Zbf,Zb7,Zcn,Zdc,Zdd,Zde,Zdi,Zev,Zew,Zex,Zez,Ze0,Ze2,Ze5,Zfd,Zfe,Zfh,Zfi,Zfk,Zfl,Zfn,Zfz,Zf3,Zf5,Zhb,Zhc,Zh6,Zh7,Zjq,Zjw,Zka,Zky,Zkz,Zk0,Zk2,Zk4,Zla,Zlb,Zle,Zlj,Zll,Zlz,Zl2,Zmt,Zmv,Zmw,Zmx,Zmz,Zm2,Zm9,Zna,Znb,Zne,Znf,Zng,Zos,Zot,Zoy,Zo4,Zo7,Zo8,Zo9,Zpc,eq_self,true_and,and_true,hg,callable_18]
      tactic =>
      refine cl none (h1) trivial ?_
      sym =>
      simp [Zaa,Zab,Zad,Zae,Zaf,Zak,Zal,Zam,Zao,Zaz,Za0,Za1,Za2,Za3,Za4,Za5,Za6,Za7,Za8,Za9,Zba,Zbb,Zbd,Zbf,Zb7,Zcn,Zdc,Zdd,Zde,Zdi,Zev,Zew,Zex,Zez,Ze0,Ze2,Ze5,Zfd,Zfe,Zfh,Zfi,Zfk,Zfl,Zfn,Zfz,Zf3,Zf5,Zhb,Zhc,Zh6,Zh7,Zjq,Zjw,Zka,Zky,Zkz,Zk0,Zk2,Zk4,Zla,Zlb,Zle,Zlj,Zll,Zlz,Zl2,Zmt,Zmv,Zmw,Zmx,Zmz,Zm2,Zm9,Zna,Znb,Zne,Znf,Zng,Zos,Zot,Zoy,Zo4,Zo7,Zo8,Zo9,Zpc,eq_self,true_and,and_true,callable_8]
      tactic =>
      refine cl none (h2) trivial ?_
      sym =>
      simp [Zaa,Zab,Zad,Zae,Zaf,Zak,Zal,Zam,Zao,Zaz,Za0,Za1,Za2,Za3,Za4,Za5,Za6,Za7,Za8,Za9,Zba,Zbb,Zbd,Zbf,Zb7,Zcn,Zdc,Zdd,Zde,Zdi,Zev,Zew,Zex,Zez,Ze0,Ze2,Ze5,Zfd,Zfe,Zfh,Zfi,Zfk,Zfl,Zfn,Zfz,Zf3,Zf5,Zhb,Zhc,Zh6,Zh7,Zjq,Zjw,Zka,Zky,Zkz,Zk0,Zk2,Zk4,Zla,Zlb,Zle,Zlj,Zll,Zlz,Zl2,Zmt,Zmv,Zmw,Zmx,Zmz,Zm2,Zm9,Zna,Znb,Zne,Znf,Zng,Zos,Zot,Zoy,Zo4,Zo7,Zo8,Zo9,Zpc,eq_self,true_and,and_true,callable_19]
      tactic =>
      refine cl none (h3) trivial ?_
      sym =>
      simp [Zaa,Zab,Zad,Zae,Zaf,Zak,Zal,Zam,Zao,Zaz,Za0,Za1,Za2,Za3,Za4,Za5,Za6,Za7,Za8,Za9,Zba,Zbb,Zbd,Zbf,Zb7,Zcn,Zdc,Zdd,Zde,Zdi,Zev,Zew,Zex,Zez,Ze0,Ze2,Ze5,Zfd,Zfe,Zfh,Zfi,Zfk,Zfl,Zfn,Zfz,Zf3,Zf5,Zhb,Zhc,Zh6,Zh7,Zjq,Zjw,Zka,Zky,Zkz,Zk0,Zk2,Zk4,Zla,Zlb,Zle,Zlj,Zll,Zlz,Zl2,Zmt,Zmv,Zmw,Zmx,Zmz,Zm2,Zm9,Zna,Znb,Zne,Znf,Zng,Zos,Zot,Zoy,Zo4,Zo7,Zo8,Zo9,Zpc,eq_self,true_and,and_true,callable_11]
      tactic =>
      refine cl none (h4) trivial ?_
      sym =>
      simp [Zaa,Zab,Zad,Zae,Zaf,Zak,Zal,Zam,Zao,Zaz,Za0,Za1,Za2,Za3,Za4,Za5,Za6,Za7,Za8,Za9,Zba,Zbb,Zbd,Zbf,Zb7,Zcn,Zdc,Zdd,Zde,Zdi,Zev,Zew,Zex,Zez,Ze0,Ze2,Ze5,Zfd,Zfe,Zfh,Zfi,Zfk,Zfl,Zfn,Zfz,Zf3,Zf5,Zhb,Zhc,Zh6,Zh7,Zjq,Zjw,Zka,Zky,Zkz,Zk0,Zk2,Zk4,Zla,Zlb,Zle,Zlj,Zll,Zlz,Zl2,Zmt,Zmv,Zmw,Zmx,Zmz,Zm2,Zm9,Zna,Znb,Zne,Znf,Zng,Zos,Zot,Zoy,Zo4,Zo7,Zo8,Zo9,Zpc,eq_self,true_and,and_true,callable_16,hpp]
      tactic =>
      refine cl none (alive_con) trivial ?_
      sym =>
      simp [Zaa,Zab,Zad,Zae,Zaf,Zak,Zal,Zam,Zao,Zaz,Za0,Za1,Za2,Za3,Za4,Za5,Za6,Za7,Za8,Za9,Zba,Zbb,Zbd,Zbf,Zb7,Zcn,Zdc,Zdd,Zde,Zdi,Zev,Zew,Zex,Zez,Ze0,Ze2,Ze5,Zfd,Zfe,Zfh,Zfi,Zfk,Zfl,Zfn,Zfz,Zf3,Zf5,Zhb,Zhc,Zh6,Zh7,Zjq,Zjw,Zka,Zky,Zkz,Zk0,Zk2,Zk4,Zla,Zlb,Zle,Zlj,Zll,Zlz,Zl2,Zmt,Zmv,Zmw,Zmx,Zmz,Zm2,Zm9,Zna,Znb,Zne,Znf,Zng,Zos,Zot,Zoy,Zo4,Zo7,Zo8,Zo9,Zpc,eq_self,true_and,and_true]
      tactic =>
      refine endA ?_
      sym =>
      simp [Zaa,Zab,Zad,Zae,Zaf,Zak,Zal,Zam,Zao,Zaz,Za0,Za1,Za2,Za3,Za4,Za5,Za6,Za7,Za8,Za9,Zba,Zbb,Zbd,Zbf,Zb7,Zcn,Zdc,Zdd,Zde,Zdi,Zev,Zew,Zex,Zez,Ze0,Ze2,Ze5,Zfd,Zfe,Zfh,Zfi,Zfk,Zfl,Zfn,Zfz,Zf3,Zf5,Zhb,Zhc,Zh6,Zh7,Zjq,Zjw,Zka,Zky,Zkz,Zk0,Zk2,Zk4,Zla,Zlb,Zle,Zlj,Zll,Zlz,Zl2,Zmt,Zmv,Zmw,Zmx,Zmz,Zm2,Zm9,Zna,Znb,Zne,Znf,Zng,Zos,Zot,Zoy,Zo4,Zo7,Zo8,Zo9,Zpc,eq_self,true_and,and_true]
    · rw [if_neg hf] at hR1
      subst hR1
      refine con_j b6 rfl ?_
      sym =>
      simp [Zaa,Zab,Zad,Zae,Zaf,Zak,Zal,Zam,Zao,Zaz,Za0,Za1,Za2,Za3,Za4,Za5,Za6,Za7,Za8,Za9,Zba,Zbb,Zbd,Zbf,Zb7,Zcn,Zdc,Zdd,Zde,Zdi,Zev,Zew,Zex,Zez,Ze0,Ze2,Ze5,Zfd,Zfe,Zfh,Zfi,Zfk,Zfl,Zfn,Zfz,Zf3,Zf5,Zhb,Zhc,Zh6,Zh7,Zjq,Zjw,Zka,Zky,Zkz,Zk0,Zk2,Zk4,Zla,Zlb,Zle,Zlj,Zll,Zlz,Zl2,Zmt,Zmv,Zmw,Zmx,Zmz,Zm2,Zm9,Zna,Znb,Zne,Znf,Zng,Zos,Zot,Zoy,Zo4,Zo7,Zo8,Zo9,Zpc,eq_self,true_and,and_true,hg,callable_18]
      tactic =>
      refine cl none (h1) trivial ?_
      sym =>
      simp [Zaa,Zab,Zad,Zae,Zaf,Zak,Zal,Zam,Zao,Zaz,Za0,Za1,Za2,Za3,Za4,Za5,Za6,Za7,Za8,Za9,Zba,Zbb,Zbd,Zbf,Zb7,Zcn,Zdc,Zdd,Zde,Zdi,Zev,Zew,Zex,Zez,Ze0,Ze2,Ze5,Zfd,Zfe,Zfh,Zfi,Zfk,Zfl,Zfn,Zfz,Zf3,Zf5,Zhb,Zhc,Zh6,Zh7,Zjq,Zjw,Zka,Zky,Zkz,Zk0,Zk2,Zk4,Zla,Zlb,Zle,Zlj,Zll,Zlz,Zl2,Zmt,Zmv,Zmw,Zmx,Zmz,Zm2,Zm9,Zna,Znb,Zne,Znf,Zng,Zos,Zot,Zoy,Zo4,Zo7,Zo8,Zo9,Zpc,eq_self,true_and,and_true,callable_8]
      tactic =>
      refine cl none (h2) trivial ?_
      sym =>
      simp [Zaa,Zab,Zad,Zae,Zaf,Zak,Zal,Zam,Zao,Zaz,Za0,Za1,Za2,Za3,Za4,Za5,Za6,Za7,Za8,Za9,Zba,Zbb,Zbd,Zbf,Zb7,Zcn,Zdc,Zdd,Zde,Zdi,Zev,Zew,Zex,Zez,Ze0,Ze2,Ze5,Zfd,Zfe,Zfh,Zfi,Zfk,Zfl,Zfn,Zfz,Zf3,Zf5,Zhb,Zhc,Zh6,Zh7,Zjq,Zjw,Zka,Zky,Zkz,Zk0,Zk2,Zk4,Zla,Zlb,Zle,Zlj,Zll,Zlz,Zl2,Zmt,Zmv,Zmw,Zmx,Zmz,Zm2,Zm9,Zna,Znb,Zne,Znf,Zng,Zos,Zot,Zoy,Zo4,Zo7,Zo8,Zo9,Zpc,eq_self,true_and,and_true,callable_19]
      tactic =>
      refine cl none (h3) trivial ?_
      sym =>
      simp [Zaa,Zab,Zad,Zae,Zaf,Zak,Zal,Zam,Zao,Zaz,Za0,Za1,Za2,Za3,Za4,Za5,Za6,Za7,Za8,Za9,Zba,Zbb,Zbd,Zbf,Zb7,Zcn,Zdc,Zdd,Zde,Zdi,Zev,Zew,Zex,Zez,Ze0,Ze2,Ze5,Zfd,Zfe,Zfh,Zfi,Zfk,Zfl,Zfn,Zfz,Zf3,Zf5,Zhb,Zhc,Zh6,Zh7,Zjq,Zjw,Zka,Zky,Zkz,Zk0,Zk2,Zk4,Zla,Zlb,Zle,Zlj,Zll,Zlz,Zl2,Zmt,Zmv,Zmw,Zmx,Zmz,Zm2,Zm9,Zna,Znb,Zne,Znf,Zng,Zos,Zot,Zoy,Zo4,Zo7,Zo8,Zo9,Zpc,eq_self,true_and,and_true,hf,callable_16]
      tactic =>
      refine cl none (alive_con) trivial ?_
      sym =>
      simp [Zaa,Zab,Zad,Zae,Zaf,Zak,Zal,Zam,Zao,Zaz,Za0,Za1,Za2,Za3,Za4,Za5,Za6,Za7,Za8,Za9,Zba,Zbb,Zbd,Zbf,Zb7,Zcn,Zdc,Zdd,Zde,Zdi,Zev,Zew,Zex,Zez,Ze0,Ze2,Ze5,Zfd,Zfe,Zfh,Zfi,Zfk,Zfl,Zfn,Zfz,Zf3,Zf5,Zhb,Zhc,Zh6,Zh7,Zjq,Zjw,Zka,Zky,Zkz,Zk0,Zk2,Zk4,Zla,Zlb,Zle,Zlj,Zll,Zlz,Zl2,Zmt,Zmv,Zmw,Zmx,Zmz,Zm2,Zm9,Zna,Znb,Zne,Znf,Zng,Zos,Zot,Zoy,Zo4,Zo7,Zo8,Zo9,Zpc,eq_self,true_and,and_true]
      tactic =>
      refine endA ?_
      sym =>
      simp [Zaa,Zab,Zad,Zae,Zaf,Zak,Zal,Zam,Zao,Zaz,Za0,Za1,Za2,Za3,Za4,Za5,Za6,Za7,Za8,Za9,Zba,Zbb,Zbd,Zbf,Zb7,Zcn,Zdc,Zdd,Zde,Zdi,Zev,Zew,Zex,Zez,Ze0,Ze2,Ze5,Zfd,Zfe,Zfh,Zfi,Zfk,Zfl,Zfn,Zfz,Zf3,Zf5,Zhb,Zhc,Zh6,Zh7,Zjq,Zjw,Zka,Zky,Zkz,Zk0,Zk2,Zk4,Zla,Zlb,Zle,Zlj,Zll,Zlz,Zl2,Zmt,Zmv,Zmw,Zmx,Zmz,Zm2,Zm9,Zna,Znb,Zne,Znf,Zng,Zos,Zot,Zoy,Zo4,Zo7,Zo8,Zo9,Zpc,eq_self,true_and,and_true]
  · rw [if_neg he] at hR1
    subst hR1
    refine con_j b6 rfl ?_
    sym =>
    simp [Zaa,Zab,Zad,Zae,Zaf,Zak,Zal,Zam,Zao,Zaz,Za0,Za1,Za2,Za3,Za4,Za5,Za6,Za7,Za8,Za9,Zba,Zbb,Zbd,Zbf,Zb7,Zcn,Zdc,Zdd,Zde,Zdi,Zev,Zew,Zex,Zez,Ze0,Ze2,Ze5,Zfd,Zfe,Zfh,Zfi,Zfk,Zfl,Zfn,Zfz,Zf3,Zf5,Zhb,Zhc,Zh6,Zh7,Zjq,Zjw,Zka,Zky,Zkz,Zk0,Zk2,Zk4,Zla,Zlb,Zle,Zlj,Zll,Zlz,Zl2,Zmt,Zmv,Zmw,Zmx,Zmz,Zm2,Zm9,Zna,Znb,Zne,Znf,Zng,Zos,Zot,Zoy,Zo4,Zo7,Zo8,Zo9,Zpc,eq_self,true_and,and_true,hg,callable_18]
    tactic =>
    refine cl none (h1) trivial ?_
    sym =>
    simp [Zaa,Zab,Zad,Zae,Zaf,Zak,Zal,Zam,Zao,Zaz,Za0,Za1,Za2,Za3,Za4,Za5,Za6,Za7,Za8,Za9,Zba,Zbb,Zbd,Zbf,Zb7,Zcn,Zdc,Zdd,Zde,Zdi,Zev,Zew,Zex,Zez,Ze0,Ze2,Ze5,Zfd,Zfe,Zfh,Zfi,Zfk,Zfl,Zfn,Zfz,Zf3,Zf5,Zhb,Zhc,Zh6,Zh7,Zjq,Zjw,Zka,Zky,Zkz,Zk0,Zk2,Zk4,Zla,Zlb,Zle,Zlj,Zll,Zlz,Zl2,Zmt,Zmv,Zmw,Zmx,Zmz,Zm2,Zm9,Zna,Znb,Zne,Znf,Zng,Zos,Zot,Zoy,Zo4,Zo7,Zo8,Zo9,Zpc,eq_self,true_and,and_true,callable_8]
    tactic =>
    refine cl none (h2) trivial ?_
    sym =>
    simp [Zaa,Zab,Zad,Zae,Zaf,Zak,Zal,Zam,Zao,Zaz,Za0,Za1,Za2,Za3,Za4,Za5,Za6,Za7,Za8,Za9,Zba,Zbb,Zbd,Zbf,Zb7,Zcn,Zdc,Zdd,Zde,Zdi,Zev,Zew,Zex,Zez,Ze0,Ze2,Ze5,Zfd,Zfe,Zfh,Zfi,Zfk,Zfl,Zfn,Zfz,Zf3,Zf5,Zhb,Zhc,Zh6,Zh7,Zjq,Zjw,Zka,Zky,Zkz,Zk0,Zk2,Zk4,Zla,Zlb,Zle,Zlj,Zll,Zlz,Zl2,Zmt,Zmv,Zmw,Zmx,Zmz,Zm2,Zm9,Zna,Znb,Zne,Znf,Zng,Zos,Zot,Zoy,Zo4,Zo7,Zo8,Zo9,Zpc,eq_self,true_and,and_true,callable_19]
    tactic =>
    refine cl none (h3) trivial ?_
    sym =>
    simp [Zaa,Zab,Zad,Zae,Zaf,Zak,Zal,Zam,Zao,Zaz,Za0,Za1,Za2,Za3,Za4,Za5,Za6,Za7,Za8,Za9,Zba,Zbb,Zbd,Zbf,Zb7,Zcn,Zdc,Zdd,Zde,Zdi,Zev,Zew,Zex,Zez,Ze0,Ze2,Ze5,Zfd,Zfe,Zfh,Zfi,Zfk,Zfl,Zfn,Zfz,Zf3,Zf5,Zhb,Zhc,Zh6,Zh7,Zjq,Zjw,Zka,Zky,Zkz,Zk0,Zk2,Zk4,Zla,Zlb,Zle,Zlj,Zll,Zlz,Zl2,Zmt,Zmv,Zmw,Zmx,Zmz,Zm2,Zm9,Zna,Znb,Zne,Znf,Zng,Zos,Zot,Zoy,Zo4,Zo7,Zo8,Zo9,Zpc,eq_self,true_and,and_true,he,callable_16]
    tactic =>
    refine cl none (alive_con) trivial ?_
    sym =>
    simp [Zaa,Zab,Zad,Zae,Zaf,Zak,Zal,Zam,Zao,Zaz,Za0,Za1,Za2,Za3,Za4,Za5,Za6,Za7,Za8,Za9,Zba,Zbb,Zbd,Zbf,Zb7,Zcn,Zdc,Zdd,Zde,Zdi,Zev,Zew,Zex,Zez,Ze0,Ze2,Ze5,Zfd,Zfe,Zfh,Zfi,Zfk,Zfl,Zfn,Zfz,Zf3,Zf5,Zhb,Zhc,Zh6,Zh7,Zjq,Zjw,Zka,Zky,Zkz,Zk0,Zk2,Zk4,Zla,Zlb,Zle,Zlj,Zll,Zlz,Zl2,Zmt,Zmv,Zmw,Zmx,Zmz,Zm2,Zm9,Zna,Znb,Zne,Znf,Zng,Zos,Zot,Zoy,Zo4,Zo7,Zo8,Zo9,Zpc,eq_self,true_and,and_true]
    tactic =>
    refine endA ?_
    sym =>
    simp [Zaa,Zab,Zad,Zae,Zaf,Zak,Zal,Zam,Zao,Zaz,Za0,Za1,Za2,Za3,Za4,Za5,Za6,Za7,Za8,Za9,Zba,Zbb,Zbd,Zbf,Zb7,Zcn,Zdc,Zdd,Zde,Zdi,Zev,Zew,Zex,Zez,Ze0,Ze2,Ze5,Zfd,Zfe,Zfh,Zfi,Zfk,Zfl,Zfn,Zfz,Zf3,Zf5,Zhb,Zhc,Zh6,Zh7,Zjq,Zjw,Zka,Zky,Zkz,Zk0,Zk2,Zk4,Zla,Zlb,Zle,Zlj,Zll,Zlz,Zl2,Zmt,Zmv,Zmw,Zmx,Zmz,Zm2,Zm9,Zna,Znb,Zne,Znf,Zng,Zos,Zot,Zoy,Zo4,Zo7,Zo8,Zo9,Zpc,eq_self,true_and,and_true]
end Go.Proofs.YthhccabdlajngaaDoor.NumI
