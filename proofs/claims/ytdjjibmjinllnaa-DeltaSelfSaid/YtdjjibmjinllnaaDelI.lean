import Derived.Test.YtdjjibmjinllnaaCodG
import Derived.Test.YtdjjibmjinllnaaDelH
namespace Go.Proofs.Ytdjjibmjinllnaa.DelI
open Go Go.Sim Go.Sim.E Go.RowKit Go.Proofs Go.Proofs.Ytdjjibmjinllnaa.Cod Go.Proofs.Ytdjjibmjinllnaa.Tab Go.Proofs.Ytdjjibmjinllnaa.Bse Go.Proofs.Ytdjjibmjinllnaa.DelA Go.Proofs.Ytdjjibmjinllnaa.DelB Go.Proofs.Ytdjjibmjinllnaa.DelC Go.Proofs.Ytdjjibmjinllnaa.DelD Go.Proofs.Ytdjjibmjinllnaa.Krc Go.Proofs.Ytdjjibmjinllnaa.DelE Go.Proofs.Ytdjjibmjinllnaa.DelF Go.Proofs.Ytdjjibmjinllnaa.DelG Go.Proofs.Ytdjjibmjinllnaa.DelH
set_option linter.unusedVariables false
set_option linter.unusedSimpArgs false
set_option maxRecDepth 100000
set_option maxHeartbeats 4000000
abbrev A8 : List Int := [97, 98, 99, 100, 101, 102, 103, 104]
abbrev X9 : List Int := [120, 97, 98, 99, 100, 101, 102, 103, 104]
abbrev B20 : List Int := [79, 0, 0, 0, 1, 120, 67, 0, 0, 0, 0, 0, 0, 0, 8, 69, 102, 191, 128, 90]
theorem al_mk : mkF A8 X9 = [(0, 0, [120]), (0, 8, [])] := by decide +kernel
theorem al_sum : sumN X9 = 1723826266 := by decide +kernel
theorem al_la : laF 1723826266 [(0, 0, [120]), (0, 8, [])] [] = (B20, 0) := by decide +kernel
theorem al_pa : paF 20 B20 [] = ([(0, 0, [120]), (0, 8, [])], 1723826266, 0) := by decide +kernel
theorem al_ap : apF A8 [(0, 0, [120]), (0, 8, [])] [] = (X9, 0) := by decide +kernel
theorem al_pm : paM A8 B20 = (X9, 0) := by
  unfold paM
  rw [show B20.length = 20 from rfl, al_pa]
  simp only
  rw [al_ap]
  simp only
  rw [al_sum]
  rfl
theorem al_co : coF [(0, 0, [120]), (0, 8, [])] = 20 := by decide +kernel
abbrev P2 : AV := .fz 2 [I 0, I 0, .fz 1 [Y 120], I 0, I 8, .fz 0 []]
theorem bytL {l : List Int} (h : l.all (fun x => decide (0 ≤ x ∧ x < 256)) = true) : byt8 l := fun x hx => by
  have := List.all_eq_true.1 h x hx
  simpa using this
theorem al1 : Con Try.prog 27 [] [fB A8, fB X9] [] P2 := by
  have h := make_con A8 X9 (by decide) (by decide)
  rw [al_mk] at h
  exact h
theorem al2 : Con Try.prog 29 [] [P2, fB X9] [] (.tu [fB B20, I 0]) := by
  have h := lay_con [(0, 0, [120]), (0, 8, [])] X9 ⟨by decide, by decide⟩ (bytL (by decide)) (by decide)
  rw [al_sum] at h
  change Con Try.prog 29 [] [P2, fB X9] [] (.tu [fB (laF 1723826266 [(0, 0, [120]), (0, 8, [])] []).1, I (laF 1723826266 [(0, 0, [120]), (0, 8, [])] []).2]) at h
  rw [al_la] at h
  exact h
theorem al3 : Con Try.prog 30 [] [fB A8, fB B20] [] (.tu [fB X9, I 0]) := by
  have hp : paF B20.length B20 [] = ([(0, 0, [120]), (0, 8, [])], 1723826266, 0) := al_pa
  have h := patch_con A8 B20 (by decide) (bytL (by decide)) (bytL (by decide)) (by decide) (by rw [hp]; exact ⟨by decide, by decide⟩) (by rw [hp]; simp only; rw [al_ap]; exact bytL (by decide)) (by rw [hp]; simp only; rw [al_ap]; decide)
  rw [al_pm] at h
  exact h
theorem al4 : Con Try.prog 34 [] [P2] [] (I 20) := by
  have h := cost_con [(0, 0, [120]), (0, 8, [])] ⟨by decide, by decide⟩
  rw [al_co] at h
  exact h
theorem bysOK_cB (l : List Int) : bysOK (cB l) = True := eq_true (fun x hx => by
  obtain ⟨a, _, rfl⟩ := List.mem_map.1 hx
  rfl)
theorem alive_con : Con Try.prog 26 [] [] [] (Bo true) := by
  refine con_j b26 rfl ?_
  sym =>
  simp [Zab,Zad,Zak,Zam,Zaz,Za0,Za1,Za2,Za3,Za4,Za5,Za6,Za7,Za9,Zba,Zbb,Zbd,Zbf,Zbp,Zbr,Zbt,Zbv,Zb1,Zb7,Zcn,Zcz,Zdc,Zdd,Zde,Zdi,Zev,Zew,Zex,Zez,Ze0,Ze2,Ze3,Ze5,Ze9,Zfc,Zfd,Zfe,Zfh,Zfi,Zfl,Zfn,Zfz,Zf8,Zgl,Zgm,Zgo,Zgp,Zgq,Zgr,Zgu,Zgw,Zgy,Zg4,Zg6,Zhb,Zhc,Zhf,Zhg,Zhh,Zho,Zh6,Zh7,Ziq,Zir,Zi7,Zjl,Zjm,Zjp,Zjr,Zka,Zkb,Zky,Zk0,Zk4,Zla,Zlb,Zle,Zll,Zlt,Zlx,Zlz,Zl2,Zl3,Zl4,Zmt,Zmv,Zmw,Zmx,Zmz,Zm2,Zm6,Zm9,Zna,Znb,Znc,Znd,Zne,Znf,Zng,Znh,Znl,Znm,Znn,Zno,Znp,Zn7,Zrd,Zos,Zo7,Zo8,Zpc,eq_self,true_and,and_true,callable_27]
  tactic =>
  refine cl none (al1) trivial ?_
  sym =>
  simp [Zab,Zad,Zak,Zam,Zaz,Za0,Za1,Za2,Za3,Za4,Za5,Za6,Za7,Za9,Zba,Zbb,Zbd,Zbf,Zbp,Zbr,Zbt,Zbv,Zb1,Zb7,Zcn,Zcz,Zdc,Zdd,Zde,Zdi,Zev,Zew,Zex,Zez,Ze0,Ze2,Ze3,Ze5,Ze9,Zfc,Zfd,Zfe,Zfh,Zfi,Zfl,Zfn,Zfz,Zf8,Zgl,Zgm,Zgo,Zgp,Zgq,Zgr,Zgu,Zgw,Zgy,Zg4,Zg6,Zhb,Zhc,Zhf,Zhg,Zhh,Zho,Zh6,Zh7,Ziq,Zir,Zi7,Zjl,Zjm,Zjp,Zjr,Zka,Zkb,Zky,Zk0,Zk4,Zla,Zlb,Zle,Zll,Zlt,Zlx,Zlz,Zl2,Zl3,Zl4,Zmt,Zmv,Zmw,Zmx,Zmz,Zm2,Zm6,Zm9,Zna,Znb,Znc,Znd,Zne,Znf,Zng,Znh,Znl,Znm,Znn,Zno,Znp,Zn7,Zrd,Zos,Zo7,Zo8,Zpc,eq_self,true_and,and_true,callable_29]
  tactic =>
  refine cl none (al2) trivial ?_
  sym =>
  simp [Zab,Zad,Zak,Zam,Zaz,Za0,Za1,Za2,Za3,Za4,Za5,Za6,Za7,Za9,Zba,Zbb,Zbd,Zbf,Zbp,Zbr,Zbt,Zbv,Zb1,Zb7,Zcn,Zcz,Zdc,Zdd,Zde,Zdi,Zev,Zew,Zex,Zez,Ze0,Ze2,Ze3,Ze5,Ze9,Zfc,Zfd,Zfe,Zfh,Zfi,Zfl,Zfn,Zfz,Zf8,Zgl,Zgm,Zgo,Zgp,Zgq,Zgr,Zgu,Zgw,Zgy,Zg4,Zg6,Zhb,Zhc,Zhf,Zhg,Zhh,Zho,Zh6,Zh7,Ziq,Zir,Zi7,Zjl,Zjm,Zjp,Zjr,Zka,Zkb,Zky,Zk0,Zk4,Zla,Zlb,Zle,Zll,Zlt,Zlx,Zlz,Zl2,Zl3,Zl4,Zmt,Zmv,Zmw,Zmx,Zmz,Zm2,Zm6,Zm9,Zna,Znb,Znc,Znd,Zne,Znf,Zng,Znh,Znl,Znm,Znn,Zno,Znp,Zn7,Zrd,Zos,Zo7,Zo8,Zpc,eq_self,true_and,and_true,callable_30]
  tactic =>
  refine cl none (al3) trivial ?_
  have e1 : bysS [Y 120] = ⟨#[120]⟩ := rfl
  have e2 : bysS (cB X9) = ⟨#[120, 97, 98, 99, 100, 101, 102, 103, 104]⟩ := rfl
  have o1 : bysOK [Y 120] = True := bysOK_cB [120]
  have o2 : bysOK (cB X9) = True := bysOK_cB X9
  have q1 : ((⟨#[120]⟩ : ByteArray).toList == (⟨#[120]⟩ : ByteArray).toList) = true := by simp
  have q2 : ((⟨#[120, 97, 98, 99, 100, 101, 102, 103, 104]⟩ : ByteArray).toList == (⟨#[120, 97, 98, 99, 100, 101, 102, 103, 104]⟩ : ByteArray).toList) = true := by simp
  have in20 : IN 20 = (20 : Int) := rfl
  have in9 : (cB X9).length = 9 := rfl
  sym =>
  simp [Zab,Zad,Zak,Zam,Zaz,Za0,Za1,Za2,Za3,Za4,Za5,Za6,Za7,Za9,Zba,Zbb,Zbd,Zbf,Zbp,Zbr,Zbt,Zbv,Zb1,Zb7,Zcn,Zcz,Zdc,Zdd,Zde,Zdi,Zev,Zew,Zex,Zez,Ze0,Ze2,Ze3,Ze5,Ze9,Zfc,Zfd,Zfe,Zfh,Zfi,Zfl,Zfn,Zfz,Zf8,Zgl,Zgm,Zgo,Zgp,Zgq,Zgr,Zgu,Zgw,Zgy,Zg4,Zg6,Zhb,Zhc,Zhf,Zhg,Zhh,Zho,Zh6,Zh7,Ziq,Zir,Zi7,Zjl,Zjm,Zjp,Zjr,Zka,Zkb,Zky,Zk0,Zk4,Zla,Zlb,Zle,Zll,Zlt,Zlx,Zlz,Zl2,Zl3,Zl4,Zmt,Zmv,Zmw,Zmx,Zmz,Zm2,Zm6,Zm9,Zna,Znb,Znc,Znd,Zne,Znf,Zng,Znh,Znl,Znm,Znn,Zno,Znp,Zn7,Zrd,Zos,Zo7,Zo8,Zpc,eq_self,true_and,and_true,e1,e2,o1,o2,q1,q2,in20,callable_34]
  tactic =>
  refine cl none (al4) trivial ?_
  sym =>
  simp [Zab,Zad,Zak,Zam,Zaz,Za0,Za1,Za2,Za3,Za4,Za5,Za6,Za7,Za9,Zba,Zbb,Zbd,Zbf,Zbp,Zbr,Zbt,Zbv,Zb1,Zb7,Zcn,Zcz,Zdc,Zdd,Zde,Zdi,Zev,Zew,Zex,Zez,Ze0,Ze2,Ze3,Ze5,Ze9,Zfc,Zfd,Zfe,Zfh,Zfi,Zfl,Zfn,Zfz,Zf8,Zgl,Zgm,Zgo,Zgp,Zgq,Zgr,Zgu,Zgw,Zgy,Zg4,Zg6,Zhb,Zhc,Zhf,Zhg,Zhh,Zho,Zh6,Zh7,Ziq,Zir,Zi7,Zjl,Zjm,Zjp,Zjr,Zka,Zkb,Zky,Zk0,Zk4,Zla,Zlb,Zle,Zll,Zlt,Zlx,Zlz,Zl2,Zl3,Zl4,Zmt,Zmv,Zmw,Zmx,Zmz,Zm2,Zm6,Zm9,Zna,Znb,Znc,Znd,Zne,Znf,Zng,Znh,Znl,Znm,Znn,Zno,Znp,Zn7,Zrd,Zos,Zo7,Zo8,Zpc,eq_self,true_and,and_true,e1,e2,o1,o2,q1,q2,in9]
  tactic =>
  refine endA ?_
  sym =>
  simp [Zab,Zad,Zak,Zam,Zaz,Za0,Za1,Za2,Za3,Za4,Za5,Za6,Za7,Za9,Zba,Zbb,Zbd,Zbf,Zbp,Zbr,Zbt,Zbv,Zb1,Zb7,Zcn,Zcz,Zdc,Zdd,Zde,Zdi,Zev,Zew,Zex,Zez,Ze0,Ze2,Ze3,Ze5,Ze9,Zfc,Zfd,Zfe,Zfh,Zfi,Zfl,Zfn,Zfz,Zf8,Zgl,Zgm,Zgo,Zgp,Zgq,Zgr,Zgu,Zgw,Zgy,Zg4,Zg6,Zhb,Zhc,Zhf,Zhg,Zhh,Zho,Zh6,Zh7,Ziq,Zir,Zi7,Zjl,Zjm,Zjp,Zjr,Zka,Zkb,Zky,Zk0,Zk4,Zla,Zlb,Zle,Zll,Zlt,Zlx,Zlz,Zl2,Zl3,Zl4,Zmt,Zmv,Zmw,Zmx,Zmz,Zm2,Zm6,Zm9,Zna,Znb,Znc,Znd,Zne,Znf,Zng,Znh,Znl,Znm,Znn,Zno,Znp,Zn7,Zrd,Zos,Zo7,Zo8,Zpc,eq_self,true_and,and_true]
end Go.Proofs.Ytdjjibmjinllnaa.DelI
