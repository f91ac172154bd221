import Derived.Test.YtdjjibmjinllnaaDelJ
namespace Go.Proofs.Ytdjjibmjinllnaa.DelK
open Go Go.Sim Go.Sim.E Go.RowKit Go.Proofs Go.Proofs.Ytdjjibmjinllnaa.Cod Go.Proofs.Ytdjjibmjinllnaa.Tab Go.Proofs.Ytdjjibmjinllnaa.Bse Go.Proofs.Ytdjjibmjinllnaa.DelA Go.Proofs.Ytdjjibmjinllnaa.DelB Go.Proofs.Ytdjjibmjinllnaa.DelC Go.Proofs.Ytdjjibmjinllnaa.DelD Go.Proofs.Ytdjjibmjinllnaa.Krc Go.Proofs.Ytdjjibmjinllnaa.DelE Go.Proofs.Ytdjjibmjinllnaa.DelF Go.Proofs.Ytdjjibmjinllnaa.DelG Go.Proofs.Ytdjjibmjinllnaa.DelH Go.Proofs.Ytdjjibmjinllnaa.DelI Go.Proofs.Ytdjjibmjinllnaa.DelJ
set_option linter.unusedVariables false
set_option linter.unusedSimpArgs false
set_option maxRecDepth 100000
set_option maxHeartbeats 4000000
theorem decT {α : Type} (a : α) [Decidable (a = a)] : decide (a = a) = true := by simp
theorem far_okL {l : List Pc} (h : farF l = false) : okL l := by
  unfold farF at h
  split at h
  · cases h
  · rename_i ha
    have hl : l.length ≤ 30 := by simpa using h
    refine ⟨by omega, fun p hp => ?_⟩
    rw [List.take_of_length_le hl] at ha
    by_cases h3 : 300 < p.2.2.length
    · exact absurd (List.any_eq_true.2 ⟨p, hp, by simpa using h3⟩) ha
    · omega
theorem apF_len (old : List Int) : ∀ (l : List Pc) (out : List Int), out.length ≤ 1048576 → (apF old l out).1.length ≤ 1048576
  | [], out, h => h
  | p :: l, out, h => by
    rw [apF]
    repeat' split
    all_goals first
      | exact Nat.zero_le _
      | exact apF_len old l _ (by rw [List.length_append]; omega)
theorem laF_len (sum : Int) : ∀ (l : List Pc) (out : List Int), (∀ p ∈ l, p.2.2.length ≤ 1000000) → (laF sum l out).1.length ≤ out.length + 1000010 * l.length + 5
  | [], out, _ => by simp [laF, four_length]
  | p :: l, out, h => by
    have hp := h p (List.mem_cons_self ..)
    have hl := pcb_length p
    rw [laF]
    repeat' split
    all_goals first
      | exact Nat.zero_le _
      | (have ih := laF_len sum l (out ++ pcb p) (fun q hq => h q (List.mem_cons_of_mem _ hq))
         rw [List.length_append] at ih
         simp only [List.length_cons]
         split at hl <;> omega)
theorem applies_con (old : List Int) (l : List Pc) (hob : byt8 old) : Con Try.prog 9 [] [fB old, fP l] [] (Bo true) := by
  refine con_j b9 rfl ?_
  by_cases g1 : 300 < old.length
  · have h1 : IN old.length > (300 : Int) := by simp only [IN]; omega
    sym =>
    simp [Zaa,Zab,Zad,Zae,Zaf,Zak,Zal,Zam,Zao,Zaz,Za0,Za1,Za2,Za3,Za4,Za5,Za6,Za7,Za8,Za9,Zba,Zbb,Zbd,Zbf,Zb7,Zcn,Zdc,Zdd,Zde,Zdi,Zev,Zew,Zex,Zez,Ze0,Ze2,Ze5,Zfd,Zfe,Zfh,Zfi,Zfj,Zfl,Zfn,Zfz,Zf3,Zhb,Zhc,Zh6,Zh7,Zjr,Zjw,Zka,Zkb,Zky,Zk0,Zk4,Zla,Zlb,Zle,Zll,Zlz,Zl2,Zmt,Zmv,Zmw,Zmx,Zmz,Zm2,Zm9,Zna,Znb,Zne,Znf,Zng,Zof,Zog,Zos,Zot,Zo6,Zo7,Zo8,Zo9,Zpc,eq_self,true_and,and_true,h1,callable_26]
    tactic =>
    refine cl none (alive_con) trivial ?_
    sym =>
    simp [Zaa,Zab,Zad,Zae,Zaf,Zak,Zal,Zam,Zao,Zaz,Za0,Za1,Za2,Za3,Za4,Za5,Za6,Za7,Za8,Za9,Zba,Zbb,Zbd,Zbf,Zb7,Zcn,Zdc,Zdd,Zde,Zdi,Zev,Zew,Zex,Zez,Ze0,Ze2,Ze5,Zfd,Zfe,Zfh,Zfi,Zfj,Zfl,Zfn,Zfz,Zf3,Zhb,Zhc,Zh6,Zh7,Zjr,Zjw,Zka,Zkb,Zky,Zk0,Zk4,Zla,Zlb,Zle,Zll,Zlz,Zl2,Zmt,Zmv,Zmw,Zmx,Zmz,Zm2,Zm9,Zna,Znb,Zne,Znf,Zng,Zof,Zog,Zos,Zot,Zo6,Zo7,Zo8,Zo9,Zpc,eq_self,true_and,and_true]
    tactic =>
    refine endA ?_
    sym =>
    simp [Zaa,Zab,Zad,Zae,Zaf,Zak,Zal,Zam,Zao,Zaz,Za0,Za1,Za2,Za3,Za4,Za5,Za6,Za7,Za8,Za9,Zba,Zbb,Zbd,Zbf,Zb7,Zcn,Zdc,Zdd,Zde,Zdi,Zev,Zew,Zex,Zez,Ze0,Ze2,Ze5,Zfd,Zfe,Zfh,Zfi,Zfj,Zfl,Zfn,Zfz,Zf3,Zhb,Zhc,Zh6,Zh7,Zjr,Zjw,Zka,Zkb,Zky,Zk0,Zk4,Zla,Zlb,Zle,Zll,Zlz,Zl2,Zmt,Zmv,Zmw,Zmx,Zmz,Zm2,Zm9,Zna,Znb,Zne,Znf,Zng,Zof,Zog,Zos,Zot,Zo6,Zo7,Zo8,Zo9,Zpc,eq_self,true_and,and_true]
  have h1 : ¬ IN old.length > (300 : Int) := by simp only [IN]; omega
  have hfar := far_con l
  rcases hfr : farF l with _ | _
  · rw [hfr] at hfar
    have hok := far_okL hfr
    have hth := theirs_con l hok.1
    have ha := apply_con old l (by omega) hok
    have hra := rapply_con old l (by omega) hok
    have hla := lay_con l old hok hob (by omega)
    have hrla := rlay_con l old hok hob (by omega)
    have hco := cost_con l hok
    have hrco := rcost_con l hok
    have hal := apF_len old l [] (Nat.zero_le _)
    have hll := laF_len ((sumN old : Nat) : Int) l [] hok.2
    have hlm := hok.1
    simp only [List.length_nil] at hll
    obtain ⟨r1, hr1⟩ : ∃ r, r = apF old l [] := ⟨_, rfl⟩
    obtain ⟨r2, hr2⟩ : ∃ r, r = laF ((sumN old : Nat) : Int) l [] := ⟨_, rfl⟩
    rw [← hr1] at ha hra hal
    rw [← hr2] at hla hrla hll
    obtain ⟨X, e⟩ := r1
    obtain ⟨Z, e2⟩ := r2
    simp only at hal hll
    have hs1 := nsame_con X X (by omega)
    have hs2 := nsame_con Z Z (by omega)
    rw [decT] at hs1 hs2
    sym =>
    simp [Zaa,Zab,Zad,Zae,Zaf,Zak,Zal,Zam,Zao,Zaz,Za0,Za1,Za2,Za3,Za4,Za5,Za6,Za7,Za8,Za9,Zba,Zbb,Zbd,Zbf,Zb7,Zcn,Zdc,Zdd,Zde,Zdi,Zev,Zew,Zex,Zez,Ze0,Ze2,Ze5,Zfd,Zfe,Zfh,Zfi,Zfj,Zfl,Zfn,Zfz,Zf3,Zhb,Zhc,Zh6,Zh7,Zjr,Zjw,Zka,Zkb,Zky,Zk0,Zk4,Zla,Zlb,Zle,Zll,Zlz,Zl2,Zmt,Zmv,Zmw,Zmx,Zmz,Zm2,Zm9,Zna,Znb,Zne,Znf,Zng,Zof,Zog,Zos,Zot,Zo6,Zo7,Zo8,Zo9,Zpc,eq_self,true_and,and_true,h1,callable_35]
    tactic =>
    refine cl none (hfar) trivial ?_
    sym =>
    simp [Zaa,Zab,Zad,Zae,Zaf,Zak,Zal,Zam,Zao,Zaz,Za0,Za1,Za2,Za3,Za4,Za5,Za6,Za7,Za8,Za9,Zba,Zbb,Zbd,Zbf,Zb7,Zcn,Zdc,Zdd,Zde,Zdi,Zev,Zew,Zex,Zez,Ze0,Ze2,Ze5,Zfd,Zfe,Zfh,Zfi,Zfj,Zfl,Zfn,Zfz,Zf3,Zhb,Zhc,Zh6,Zh7,Zjr,Zjw,Zka,Zkb,Zky,Zk0,Zk4,Zla,Zlb,Zle,Zll,Zlz,Zl2,Zmt,Zmv,Zmw,Zmx,Zmz,Zm2,Zm9,Zna,Znb,Zne,Znf,Zng,Zof,Zog,Zos,Zot,Zo6,Zo7,Zo8,Zo9,Zpc,eq_self,true_and,and_true,callable_36]
    tactic =>
    refine cl none (hth) trivial ?_
    sym =>
    simp [Zaa,Zab,Zad,Zae,Zaf,Zak,Zal,Zam,Zao,Zaz,Za0,Za1,Za2,Za3,Za4,Za5,Za6,Za7,Za8,Za9,Zba,Zbb,Zbd,Zbf,Zb7,Zcn,Zdc,Zdd,Zde,Zdi,Zev,Zew,Zex,Zez,Ze0,Ze2,Ze5,Zfd,Zfe,Zfh,Zfi,Zfj,Zfl,Zfn,Zfz,Zf3,Zhb,Zhc,Zh6,Zh7,Zjr,Zjw,Zka,Zkb,Zky,Zk0,Zk4,Zla,Zlb,Zle,Zll,Zlz,Zl2,Zmt,Zmv,Zmw,Zmx,Zmz,Zm2,Zm9,Zna,Znb,Zne,Znf,Zng,Zof,Zog,Zos,Zot,Zo6,Zo7,Zo8,Zo9,Zpc,eq_self,true_and,and_true,callable_28]
    tactic =>
    refine cl none (ha) trivial ?_
    sym =>
    simp [Zaa,Zab,Zad,Zae,Zaf,Zak,Zal,Zam,Zao,Zaz,Za0,Za1,Za2,Za3,Za4,Za5,Za6,Za7,Za8,Za9,Zba,Zbb,Zbd,Zbf,Zb7,Zcn,Zdc,Zdd,Zde,Zdi,Zev,Zew,Zex,Zez,Ze0,Ze2,Ze5,Zfd,Zfe,Zfh,Zfi,Zfj,Zfl,Zfn,Zfz,Zf3,Zhb,Zhc,Zh6,Zh7,Zjr,Zjw,Zka,Zkb,Zky,Zk0,Zk4,Zla,Zlb,Zle,Zll,Zlz,Zl2,Zmt,Zmv,Zmw,Zmx,Zmz,Zm2,Zm9,Zna,Znb,Zne,Znf,Zng,Zof,Zog,Zos,Zot,Zo6,Zo7,Zo8,Zo9,Zpc,eq_self,true_and,and_true,callable_37]
    tactic =>
    refine cl none (hra) trivial ?_
    sym =>
    simp [Zaa,Zab,Zad,Zae,Zaf,Zak,Zal,Zam,Zao,Zaz,Za0,Za1,Za2,Za3,Za4,Za5,Za6,Za7,Za8,Za9,Zba,Zbb,Zbd,Zbf,Zb7,Zcn,Zdc,Zdd,Zde,Zdi,Zev,Zew,Zex,Zez,Ze0,Ze2,Ze5,Zfd,Zfe,Zfh,Zfi,Zfj,Zfl,Zfn,Zfz,Zf3,Zhb,Zhc,Zh6,Zh7,Zjr,Zjw,Zka,Zkb,Zky,Zk0,Zk4,Zla,Zlb,Zle,Zll,Zlz,Zl2,Zmt,Zmv,Zmw,Zmx,Zmz,Zm2,Zm9,Zna,Znb,Zne,Znf,Zng,Zof,Zog,Zos,Zot,Zo6,Zo7,Zo8,Zo9,Zpc,eq_self,true_and,and_true,callable_36]
    tactic =>
    refine cl none (hth) trivial ?_
    sym =>
    simp [Zaa,Zab,Zad,Zae,Zaf,Zak,Zal,Zam,Zao,Zaz,Za0,Za1,Za2,Za3,Za4,Za5,Za6,Za7,Za8,Za9,Zba,Zbb,Zbd,Zbf,Zb7,Zcn,Zdc,Zdd,Zde,Zdi,Zev,Zew,Zex,Zez,Ze0,Ze2,Ze5,Zfd,Zfe,Zfh,Zfi,Zfj,Zfl,Zfn,Zfz,Zf3,Zhb,Zhc,Zh6,Zh7,Zjr,Zjw,Zka,Zkb,Zky,Zk0,Zk4,Zla,Zlb,Zle,Zll,Zlz,Zl2,Zmt,Zmv,Zmw,Zmx,Zmz,Zm2,Zm9,Zna,Znb,Zne,Znf,Zng,Zof,Zog,Zos,Zot,Zo6,Zo7,Zo8,Zo9,Zpc,eq_self,true_and,and_true,callable_29]
    tactic =>
    refine cl none (hla) trivial ?_
    sym =>
    simp [Zaa,Zab,Zad,Zae,Zaf,Zak,Zal,Zam,Zao,Zaz,Za0,Za1,Za2,Za3,Za4,Za5,Za6,Za7,Za8,Za9,Zba,Zbb,Zbd,Zbf,Zb7,Zcn,Zdc,Zdd,Zde,Zdi,Zev,Zew,Zex,Zez,Ze0,Ze2,Ze5,Zfd,Zfe,Zfh,Zfi,Zfj,Zfl,Zfn,Zfz,Zf3,Zhb,Zhc,Zh6,Zh7,Zjr,Zjw,Zka,Zkb,Zky,Zk0,Zk4,Zla,Zlb,Zle,Zll,Zlz,Zl2,Zmt,Zmv,Zmw,Zmx,Zmz,Zm2,Zm9,Zna,Znb,Zne,Znf,Zng,Zof,Zog,Zos,Zot,Zo6,Zo7,Zo8,Zo9,Zpc,eq_self,true_and,and_true,callable_38]
    tactic =>
    refine cl none (hrla) trivial ?_
    sym =>
    simp [Zaa,Zab,Zad,Zae,Zaf,Zak,Zal,Zam,Zao,Zaz,Za0,Za1,Za2,Za3,Za4,Za5,Za6,Za7,Za8,Za9,Zba,Zbb,Zbd,Zbf,Zb7,Zcn,Zdc,Zdd,Zde,Zdi,Zev,Zew,Zex,Zez,Ze0,Ze2,Ze5,Zfd,Zfe,Zfh,Zfi,Zfj,Zfl,Zfn,Zfz,Zf3,Zhb,Zhc,Zh6,Zh7,Zjr,Zjw,Zka,Zkb,Zky,Zk0,Zk4,Zla,Zlb,Zle,Zll,Zlz,Zl2,Zmt,Zmv,Zmw,Zmx,Zmz,Zm2,Zm9,Zna,Znb,Zne,Znf,Zng,Zof,Zog,Zos,Zot,Zo6,Zo7,Zo8,Zo9,Zpc,eq_self,true_and,and_true,callable_33]
    tactic =>
    refine cl none (hs1) trivial ?_
    sym =>
    simp [Zaa,Zab,Zad,Zae,Zaf,Zak,Zal,Zam,Zao,Zaz,Za0,Za1,Za2,Za3,Za4,Za5,Za6,Za7,Za8,Za9,Zba,Zbb,Zbd,Zbf,Zb7,Zcn,Zdc,Zdd,Zde,Zdi,Zev,Zew,Zex,Zez,Ze0,Ze2,Ze5,Zfd,Zfe,Zfh,Zfi,Zfj,Zfl,Zfn,Zfz,Zf3,Zhb,Zhc,Zh6,Zh7,Zjr,Zjw,Zka,Zkb,Zky,Zk0,Zk4,Zla,Zlb,Zle,Zll,Zlz,Zl2,Zmt,Zmv,Zmw,Zmx,Zmz,Zm2,Zm9,Zna,Znb,Zne,Znf,Zng,Zof,Zog,Zos,Zot,Zo6,Zo7,Zo8,Zo9,Zpc,eq_self,true_and,and_true,callable_33]
    tactic =>
    refine cl none (hs2) trivial ?_
    sym =>
    simp [Zaa,Zab,Zad,Zae,Zaf,Zak,Zal,Zam,Zao,Zaz,Za0,Za1,Za2,Za3,Za4,Za5,Za6,Za7,Za8,Za9,Zba,Zbb,Zbd,Zbf,Zb7,Zcn,Zdc,Zdd,Zde,Zdi,Zev,Zew,Zex,Zez,Ze0,Ze2,Ze5,Zfd,Zfe,Zfh,Zfi,Zfj,Zfl,Zfn,Zfz,Zf3,Zhb,Zhc,Zh6,Zh7,Zjr,Zjw,Zka,Zkb,Zky,Zk0,Zk4,Zla,Zlb,Zle,Zll,Zlz,Zl2,Zmt,Zmv,Zmw,Zmx,Zmz,Zm2,Zm9,Zna,Znb,Zne,Znf,Zng,Zof,Zog,Zos,Zot,Zo6,Zo7,Zo8,Zo9,Zpc,eq_self,true_and,and_true,callable_36]
    tactic =>
    refine cl none (hth) trivial ?_
    sym =>
    simp [Zaa,Zab,Zad,Zae,Zaf,Zak,Zal,Zam,Zao,Zaz,Za0,Za1,Za2,Za3,Za4,Za5,Za6,Za7,Za8,Za9,Zba,Zbb,Zbd,Zbf,Zb7,Zcn,Zdc,Zdd,Zde,Zdi,Zev,Zew,Zex,Zez,Ze0,Ze2,Ze5,Zfd,Zfe,Zfh,Zfi,Zfj,Zfl,Zfn,Zfz,Zf3,Zhb,Zhc,Zh6,Zh7,Zjr,Zjw,Zka,Zkb,Zky,Zk0,Zk4,Zla,Zlb,Zle,Zll,Zlz,Zl2,Zmt,Zmv,Zmw,Zmx,Zmz,Zm2,Zm9,Zna,Znb,Zne,Znf,Zng,Zof,Zog,Zos,Zot,Zo6,Zo7,Zo8,Zo9,Zpc,eq_self,true_and,and_true,callable_34]
    tactic =>
    refine cl none (hco) trivial ?_
    sym =>
    simp [Zaa,Zab,Zad,Zae,Zaf,Zak,Zal,Zam,Zao,Zaz,Za0,Za1,Za2,Za3,Za4,Za5,Za6,Za7,Za8,Za9,Zba,Zbb,Zbd,Zbf,Zb7,Zcn,Zdc,Zdd,Zde,Zdi,Zev,Zew,Zex,Zez,Ze0,Ze2,Ze5,Zfd,Zfe,Zfh,Zfi,Zfj,Zfl,Zfn,Zfz,Zf3,Zhb,Zhc,Zh6,Zh7,Zjr,Zjw,Zka,Zkb,Zky,Zk0,Zk4,Zla,Zlb,Zle,Zll,Zlz,Zl2,Zmt,Zmv,Zmw,Zmx,Zmz,Zm2,Zm9,Zna,Znb,Zne,Znf,Zng,Zof,Zog,Zos,Zot,Zo6,Zo7,Zo8,Zo9,Zpc,eq_self,true_and,and_true,callable_39]
    tactic =>
    refine cl none (hrco) trivial ?_
    sym =>
    simp [Zaa,Zab,Zad,Zae,Zaf,Zak,Zal,Zam,Zao,Zaz,Za0,Za1,Za2,Za3,Za4,Za5,Za6,Za7,Za8,Za9,Zba,Zbb,Zbd,Zbf,Zb7,Zcn,Zdc,Zdd,Zde,Zdi,Zev,Zew,Zex,Zez,Ze0,Ze2,Ze5,Zfd,Zfe,Zfh,Zfi,Zfj,Zfl,Zfn,Zfz,Zf3,Zhb,Zhc,Zh6,Zh7,Zjr,Zjw,Zka,Zkb,Zky,Zk0,Zk4,Zla,Zlb,Zle,Zll,Zlz,Zl2,Zmt,Zmv,Zmw,Zmx,Zmz,Zm2,Zm9,Zna,Znb,Zne,Znf,Zng,Zof,Zog,Zos,Zot,Zo6,Zo7,Zo8,Zo9,Zpc,eq_self,true_and,and_true,callable_26]
    tactic =>
    refine cl none (alive_con) trivial ?_
    sym =>
    simp [Zaa,Zab,Zad,Zae,Zaf,Zak,Zal,Zam,Zao,Zaz,Za0,Za1,Za2,Za3,Za4,Za5,Za6,Za7,Za8,Za9,Zba,Zbb,Zbd,Zbf,Zb7,Zcn,Zdc,Zdd,Zde,Zdi,Zev,Zew,Zex,Zez,Ze0,Ze2,Ze5,Zfd,Zfe,Zfh,Zfi,Zfj,Zfl,Zfn,Zfz,Zf3,Zhb,Zhc,Zh6,Zh7,Zjr,Zjw,Zka,Zkb,Zky,Zk0,Zk4,Zla,Zlb,Zle,Zll,Zlz,Zl2,Zmt,Zmv,Zmw,Zmx,Zmz,Zm2,Zm9,Zna,Znb,Zne,Znf,Zng,Zof,Zog,Zos,Zot,Zo6,Zo7,Zo8,Zo9,Zpc,eq_self,true_and,and_true]
    tactic =>
    refine endA ?_
    sym =>
    simp [Zaa,Zab,Zad,Zae,Zaf,Zak,Zal,Zam,Zao,Zaz,Za0,Za1,Za2,Za3,Za4,Za5,Za6,Za7,Za8,Za9,Zba,Zbb,Zbd,Zbf,Zb7,Zcn,Zdc,Zdd,Zde,Zdi,Zev,Zew,Zex,Zez,Ze0,Ze2,Ze5,Zfd,Zfe,Zfh,Zfi,Zfj,Zfl,Zfn,Zfz,Zf3,Zhb,Zhc,Zh6,Zh7,Zjr,Zjw,Zka,Zkb,Zky,Zk0,Zk4,Zla,Zlb,Zle,Zll,Zlz,Zl2,Zmt,Zmv,Zmw,Zmx,Zmz,Zm2,Zm9,Zna,Znb,Zne,Znf,Zng,Zof,Zog,Zos,Zot,Zo6,Zo7,Zo8,Zo9,Zpc,eq_self,true_and,and_true]
  · rw [hfr] at hfar
    sym =>
    simp [Zaa,Zab,Zad,Zae,Zaf,Zak,Zal,Zam,Zao,Zaz,Za0,Za1,Za2,Za3,Za4,Za5,Za6,Za7,Za8,Za9,Zba,Zbb,Zbd,Zbf,Zb7,Zcn,Zdc,Zdd,Zde,Zdi,Zev,Zew,Zex,Zez,Ze0,Ze2,Ze5,Zfd,Zfe,Zfh,Zfi,Zfj,Zfl,Zfn,Zfz,Zf3,Zhb,Zhc,Zh6,Zh7,Zjr,Zjw,Zka,Zkb,Zky,Zk0,Zk4,Zla,Zlb,Zle,Zll,Zlz,Zl2,Zmt,Zmv,Zmw,Zmx,Zmz,Zm2,Zm9,Zna,Znb,Zne,Znf,Zng,Zof,Zog,Zos,Zot,Zo6,Zo7,Zo8,Zo9,Zpc,eq_self,true_and,and_true,h1,callable_35]
    tactic =>
    refine cl none (hfar) trivial ?_
    sym =>
    simp [Zaa,Zab,Zad,Zae,Zaf,Zak,Zal,Zam,Zao,Zaz,Za0,Za1,Za2,Za3,Za4,Za5,Za6,Za7,Za8,Za9,Zba,Zbb,Zbd,Zbf,Zb7,Zcn,Zdc,Zdd,Zde,Zdi,Zev,Zew,Zex,Zez,Ze0,Ze2,Ze5,Zfd,Zfe,Zfh,Zfi,Zfj,Zfl,Zfn,Zfz,Zf3,Zhb,Zhc,Zh6,Zh7,Zjr,Zjw,Zka,Zkb,Zky,Zk0,Zk4,Zla,Zlb,Zle,Zll,Zlz,Zl2,Zmt,Zmv,Zmw,Zmx,Zmz,Zm2,Zm9,Zna,Znb,Zne,Znf,Zng,Zof,Zog,Zos,Zot,Zo6,Zo7,Zo8,Zo9,Zpc,eq_self,true_and,and_true,callable_26]
    tactic =>
    refine cl none (alive_con) trivial ?_
    sym =>
    simp [Zaa,Zab,Zad,Zae,Zaf,Zak,Zal,Zam,Zao,Zaz,Za0,Za1,Za2,Za3,Za4,Za5,Za6,Za7,Za8,Za9,Zba,Zbb,Zbd,Zbf,Zb7,Zcn,Zdc,Zdd,Zde,Zdi,Zev,Zew,Zex,Zez,Ze0,Ze2,Ze5,Zfd,Zfe,Zfh,Zfi,Zfj,Zfl,Zfn,Zfz,Zf3,Zhb,Zhc,Zh6,Zh7,Zjr,Zjw,Zka,Zkb,Zky,Zk0,Zk4,Zla,Zlb,Zle,Zll,Zlz,Zl2,Zmt,Zmv,Zmw,Zmx,Zmz,Zm2,Zm9,Zna,Znb,Zne,Znf,Zng,Zof,Zog,Zos,Zot,Zo6,Zo7,Zo8,Zo9,Zpc,eq_self,true_and,and_true]
    tactic =>
    refine endA ?_
    sym =>
    simp [Zaa,Zab,Zad,Zae,Zaf,Zak,Zal,Zam,Zao,Zaz,Za0,Za1,Za2,Za3,Za4,Za5,Za6,Za7,Za8,Za9,Zba,Zbb,Zbd,Zbf,Zb7,Zcn,Zdc,Zdd,Zde,Zdi,Zev,Zew,Zex,Zez,Ze0,Ze2,Ze5,Zfd,Zfe,Zfh,Zfi,Zfj,Zfl,Zfn,Zfz,Zf3,Zhb,Zhc,Zh6,Zh7,Zjr,Zjw,Zka,Zkb,Zky,Zk0,Zk4,Zla,Zlb,Zle,Zll,Zlz,Zl2,Zmt,Zmv,Zmw,Zmx,Zmz,Zm2,Zm9,Zna,Znb,Zne,Znf,Zng,Zof,Zog,Zos,Zot,Zo6,Zo7,Zo8,Zo9,Zpc,eq_self,true_and,and_true]
theorem byt8_four (n : Int) : byt8 (four n) := by
  intro x hx
  simp only [four, List.mem_cons, List.not_mem_nil, or_false] at hx
  rcases hx with rfl | rfl | rfl | rfl <;> omega
theorem byt8_cons {a : Int} {l : List Int} (h : 0 ≤ a ∧ a < 256) (hl : byt8 l) : byt8 (a :: l) := fun x hx => by
  rcases List.mem_cons.1 hx with e | e
  · subst e; exact h
  · exact hl x e
theorem byt8_lay (old : List Int) (sum : Int) : ∀ (l : List Pc), byt8 (l.flatMap (pcx old)) → byt8 (l.flatMap pcb ++ 69 :: four sum)
  | [], _ => byt8_cons (by decide) (byt8_four sum)
  | p :: l, h => by
    rw [List.flatMap_cons] at h ⊢
    rw [List.append_assoc]
    refine byt8_app ?_ (byt8_lay old sum l (byt8_right h))
    unfold pcb
    split
    · rename_i hq
      have h2 := byt8_left h
      rw [pcx, if_pos hq] at h2
      exact byt8_cons (by decide) (byt8_app (byt8_four _) h2)
    · exact byt8_cons (by decide) (byt8_app (byt8_four _) (byt8_four _))
theorem makes_con (old fresh : List Int) (hob : byt8 old) (hfb : byt8 fresh) : Con Try.prog 8 [] [fB old, fB fresh] [] (Bo true) := by
  refine con_j b8 rfl ?_
  by_cases g1 : 200 < old.length
  · have h1 : IN old.length > (200 : Int) := by simp only [IN]; omega
    sym =>
    simp [Zaa,Zab,Zad,Zae,Zaf,Zak,Zal,Zam,Zao,Zaz,Za0,Za1,Za2,Za3,Za4,Za5,Za6,Za7,Za8,Za9,Zba,Zbb,Zbd,Zbf,Zb7,Zcn,Zdc,Zdd,Zde,Zdi,Zev,Zew,Zex,Zez,Ze0,Ze2,Ze5,Zfd,Zfe,Zfh,Zfi,Zfj,Zfl,Zfn,Zfz,Zf3,Zhb,Zhc,Zh6,Zh7,Zjr,Zjw,Zka,Zkb,Zky,Zk0,Zk4,Zla,Zlb,Zle,Zll,Zlz,Zl2,Zmt,Zmv,Zmw,Zmx,Zmz,Zm2,Zm9,Zna,Znb,Zne,Znf,Zng,Zof,Zog,Zos,Zot,Zo6,Zo7,Zo8,Zo9,Zpc,eq_self,true_and,and_true,Nat.zero_add,h1,callable_26]
    tactic =>
    refine cl none (alive_con) trivial ?_
    sym =>
    simp [Zaa,Zab,Zad,Zae,Zaf,Zak,Zal,Zam,Zao,Zaz,Za0,Za1,Za2,Za3,Za4,Za5,Za6,Za7,Za8,Za9,Zba,Zbb,Zbd,Zbf,Zb7,Zcn,Zdc,Zdd,Zde,Zdi,Zev,Zew,Zex,Zez,Ze0,Ze2,Ze5,Zfd,Zfe,Zfh,Zfi,Zfj,Zfl,Zfn,Zfz,Zf3,Zhb,Zhc,Zh6,Zh7,Zjr,Zjw,Zka,Zkb,Zky,Zk0,Zk4,Zla,Zlb,Zle,Zll,Zlz,Zl2,Zmt,Zmv,Zmw,Zmx,Zmz,Zm2,Zm9,Zna,Znb,Zne,Znf,Zng,Zof,Zog,Zos,Zot,Zo6,Zo7,Zo8,Zo9,Zpc,eq_self,true_and,and_true,Nat.zero_add]
    tactic =>
    refine endA ?_
    sym =>
    simp [Zaa,Zab,Zad,Zae,Zaf,Zak,Zal,Zam,Zao,Zaz,Za0,Za1,Za2,Za3,Za4,Za5,Za6,Za7,Za8,Za9,Zba,Zbb,Zbd,Zbf,Zb7,Zcn,Zdc,Zdd,Zde,Zdi,Zev,Zew,Zex,Zez,Ze0,Ze2,Ze5,Zfd,Zfe,Zfh,Zfi,Zfj,Zfl,Zfn,Zfz,Zf3,Zhb,Zhc,Zh6,Zh7,Zjr,Zjw,Zka,Zkb,Zky,Zk0,Zk4,Zla,Zlb,Zle,Zll,Zlz,Zl2,Zmt,Zmv,Zmw,Zmx,Zmz,Zm2,Zm9,Zna,Znb,Zne,Znf,Zng,Zof,Zog,Zos,Zot,Zo6,Zo7,Zo8,Zo9,Zpc,eq_self,true_and,and_true,Nat.zero_add]
  have h1 : ¬ IN old.length > (200 : Int) := by simp only [IN]; omega
  by_cases g2 : 200 < fresh.length
  · have h2 : IN fresh.length > (200 : Int) := by simp only [IN]; omega
    sym =>
    simp [Zaa,Zab,Zad,Zae,Zaf,Zak,Zal,Zam,Zao,Zaz,Za0,Za1,Za2,Za3,Za4,Za5,Za6,Za7,Za8,Za9,Zba,Zbb,Zbd,Zbf,Zb7,Zcn,Zdc,Zdd,Zde,Zdi,Zev,Zew,Zex,Zez,Ze0,Ze2,Ze5,Zfd,Zfe,Zfh,Zfi,Zfj,Zfl,Zfn,Zfz,Zf3,Zhb,Zhc,Zh6,Zh7,Zjr,Zjw,Zka,Zkb,Zky,Zk0,Zk4,Zla,Zlb,Zle,Zll,Zlz,Zl2,Zmt,Zmv,Zmw,Zmx,Zmz,Zm2,Zm9,Zna,Znb,Zne,Znf,Zng,Zof,Zog,Zos,Zot,Zo6,Zo7,Zo8,Zo9,Zpc,eq_self,true_and,and_true,Nat.zero_add,h1,h2,callable_26]
    tactic =>
    refine cl none (alive_con) trivial ?_
    sym =>
    simp [Zaa,Zab,Zad,Zae,Zaf,Zak,Zal,Zam,Zao,Zaz,Za0,Za1,Za2,Za3,Za4,Za5,Za6,Za7,Za8,Za9,Zba,Zbb,Zbd,Zbf,Zb7,Zcn,Zdc,Zdd,Zde,Zdi,Zev,Zew,Zex,Zez,Ze0,Ze2,Ze5,Zfd,Zfe,Zfh,Zfi,Zfj,Zfl,Zfn,Zfz,Zf3,Zhb,Zhc,Zh6,Zh7,Zjr,Zjw,Zka,Zkb,Zky,Zk0,Zk4,Zla,Zlb,Zle,Zll,Zlz,Zl2,Zmt,Zmv,Zmw,Zmx,Zmz,Zm2,Zm9,Zna,Znb,Zne,Znf,Zng,Zof,Zog,Zos,Zot,Zo6,Zo7,Zo8,Zo9,Zpc,eq_self,true_and,and_true,Nat.zero_add]
    tactic =>
    refine endA ?_
    sym =>
    simp [Zaa,Zab,Zad,Zae,Zaf,Zak,Zal,Zam,Zao,Zaz,Za0,Za1,Za2,Za3,Za4,Za5,Za6,Za7,Za8,Za9,Zba,Zbb,Zbd,Zbf,Zb7,Zcn,Zdc,Zdd,Zde,Zdi,Zev,Zew,Zex,Zez,Ze0,Ze2,Ze5,Zfd,Zfe,Zfh,Zfi,Zfj,Zfl,Zfn,Zfz,Zf3,Zhb,Zhc,Zh6,Zh7,Zjr,Zjw,Zka,Zkb,Zky,Zk0,Zk4,Zla,Zlb,Zle,Zll,Zlz,Zl2,Zmt,Zmv,Zmw,Zmx,Zmz,Zm2,Zm9,Zna,Znb,Zne,Znf,Zng,Zof,Zog,Zos,Zot,Zo6,Zo7,Zo8,Zo9,Zpc,eq_self,true_and,and_true,Nat.zero_add]
  have h2 : ¬ IN fresh.length > (200 : Int) := by simp only [IN]; omega
  obtain ⟨hg, hfl, hlen⟩ := mkF_spec old fresh
  have hok : okL (mkF old fresh) := ⟨by omega, fun p hp => by have := (hg p hp).m; omega⟩
  have hmk := make_con old fresh (by omega) (by omega)
  have hrmk := rmake_con old fresh (by omega) (by omega)
  have hap := apF_good old fresh.length (mkF old fresh) [] hg (by rw [hfl]; simp; omega)
  rw [hfl] at hap
  have ha := apply_con old (mkF old fresh) (by omega) hok
  rw [hap] at ha
  have hla := lay_con (mkF old fresh) fresh hok hfb (by omega)
  have hlg := laF_good old fresh.length (by omega) ((sumN fresh : Nat) : Int) (mkF old fresh) [] hg
  have hll := lay_length ((sumN fresh : Nat) : Int) (mkF old fresh)
  have hpm := paM_good old fresh (by omega) (by omega)
  rw [hlg] at hla hpm
  have hss := sumN_lt fresh
  have hpg := paF_good (old := old) (M := fresh.length) (by omega) (by omega) ((sumN fresh : Nat) : Int) (by omega) (by omega) (mkF old fresh) (List.flatMap pcb (mkF old fresh) ++ 69 :: four ((sumN fresh : Nat) : Int)).length [] hg (by
    rw [hll]
    generalize mkF old fresh = R
    induction R with
    | nil => simp [coF]
    | cons p R ih =>
      rw [coF]
      simp only [List.length_cons]
      split <;> omega)
  have hbB : byt8 (List.flatMap pcb (mkF old fresh) ++ 69 :: four ((sumN fresh : Nat) : Int)) := byt8_lay old _ _ (by rw [hfl]; exact hfb)
  have hBl : (List.flatMap pcb (mkF old fresh) ++ 69 :: four ((sumN fresh : Nat) : Int)).length ≤ 100000000000 := by
    have := laF_len ((sumN fresh : Nat) : Int) (mkF old fresh) [] hok.2
    rw [hlg] at this
    simp only [List.length_nil, List.nil_append] at this
    omega
  simp only [List.nil_append] at hap hla hpm hpg ha
  obtain ⟨B, hB⟩ : ∃ B, B = List.flatMap pcb (mkF old fresh) ++ 69 :: four ((sumN fresh : Nat) : Int) := ⟨_, rfl⟩
  rw [← hB] at hla hpm hpg hbB hBl hll
  have hpa := patch_con old B (by omega) hob hbB hBl (by rw [hpg]; exact hok) (by rw [hpg]; simp only; rw [hap]; exact hfb) (by rw [hpg]; simp only; rw [hap]; simp only; omega)
  rw [hpm] at hpa
  have hco := cost_con (mkF old fresh) hok
  rw [← hll] at hco
  have hps := psame_con (mkF old fresh) (mkF old fresh) hok
  have hs := nsame_con fresh fresh (by omega)
  rw [decT] at hps hs
  obtain ⟨R, hR⟩ : ∃ R, R = mkF old fresh := ⟨_, rfl⟩
  rw [← hR] at hmk hrmk ha hla hco hps
  sym =>
  simp [Zaa,Zab,Zad,Zae,Zaf,Zak,Zal,Zam,Zao,Zaz,Za0,Za1,Za2,Za3,Za4,Za5,Za6,Za7,Za8,Za9,Zba,Zbb,Zbd,Zbf,Zb7,Zcn,Zdc,Zdd,Zde,Zdi,Zev,Zew,Zex,Zez,Ze0,Ze2,Ze5,Zfd,Zfe,Zfh,Zfi,Zfj,Zfl,Zfn,Zfz,Zf3,Zhb,Zhc,Zh6,Zh7,Zjr,Zjw,Zka,Zkb,Zky,Zk0,Zk4,Zla,Zlb,Zle,Zll,Zlz,Zl2,Zmt,Zmv,Zmw,Zmx,Zmz,Zm2,Zm9,Zna,Znb,Zne,Znf,Zng,Zof,Zog,Zos,Zot,Zo6,Zo7,Zo8,Zo9,Zpc,eq_self,true_and,and_true,Nat.zero_add,h1,h2,callable_27]
  tactic =>
  refine cl none (hmk) trivial ?_
  sym =>
  simp [Zaa,Zab,Zad,Zae,Zaf,Zak,Zal,Zam,Zao,Zaz,Za0,Za1,Za2,Za3,Za4,Za5,Za6,Za7,Za8,Za9,Zba,Zbb,Zbd,Zbf,Zb7,Zcn,Zdc,Zdd,Zde,Zdi,Zev,Zew,Zex,Zez,Ze0,Ze2,Ze5,Zfd,Zfe,Zfh,Zfi,Zfj,Zfl,Zfn,Zfz,Zf3,Zhb,Zhc,Zh6,Zh7,Zjr,Zjw,Zka,Zkb,Zky,Zk0,Zk4,Zla,Zlb,Zle,Zll,Zlz,Zl2,Zmt,Zmv,Zmw,Zmx,Zmz,Zm2,Zm9,Zna,Znb,Zne,Znf,Zng,Zof,Zog,Zos,Zot,Zo6,Zo7,Zo8,Zo9,Zpc,eq_self,true_and,and_true,Nat.zero_add,callable_28]
  tactic =>
  refine cl none (ha) trivial ?_
  sym =>
  simp [Zaa,Zab,Zad,Zae,Zaf,Zak,Zal,Zam,Zao,Zaz,Za0,Za1,Za2,Za3,Za4,Za5,Za6,Za7,Za8,Za9,Zba,Zbb,Zbd,Zbf,Zb7,Zcn,Zdc,Zdd,Zde,Zdi,Zev,Zew,Zex,Zez,Ze0,Ze2,Ze5,Zfd,Zfe,Zfh,Zfi,Zfj,Zfl,Zfn,Zfz,Zf3,Zhb,Zhc,Zh6,Zh7,Zjr,Zjw,Zka,Zkb,Zky,Zk0,Zk4,Zla,Zlb,Zle,Zll,Zlz,Zl2,Zmt,Zmv,Zmw,Zmx,Zmz,Zm2,Zm9,Zna,Znb,Zne,Znf,Zng,Zof,Zog,Zos,Zot,Zo6,Zo7,Zo8,Zo9,Zpc,eq_self,true_and,and_true,Nat.zero_add,callable_29]
  tactic =>
  refine cl none (hla) trivial ?_
  sym =>
  simp [Zaa,Zab,Zad,Zae,Zaf,Zak,Zal,Zam,Zao,Zaz,Za0,Za1,Za2,Za3,Za4,Za5,Za6,Za7,Za8,Za9,Zba,Zbb,Zbd,Zbf,Zb7,Zcn,Zdc,Zdd,Zde,Zdi,Zev,Zew,Zex,Zez,Ze0,Ze2,Ze5,Zfd,Zfe,Zfh,Zfi,Zfj,Zfl,Zfn,Zfz,Zf3,Zhb,Zhc,Zh6,Zh7,Zjr,Zjw,Zka,Zkb,Zky,Zk0,Zk4,Zla,Zlb,Zle,Zll,Zlz,Zl2,Zmt,Zmv,Zmw,Zmx,Zmz,Zm2,Zm9,Zna,Znb,Zne,Znf,Zng,Zof,Zog,Zos,Zot,Zo6,Zo7,Zo8,Zo9,Zpc,eq_self,true_and,and_true,Nat.zero_add,callable_30]
  tactic =>
  refine cl none (hpa) trivial ?_
  sym =>
  simp [Zaa,Zab,Zad,Zae,Zaf,Zak,Zal,Zam,Zao,Zaz,Za0,Za1,Za2,Za3,Za4,Za5,Za6,Za7,Za8,Za9,Zba,Zbb,Zbd,Zbf,Zb7,Zcn,Zdc,Zdd,Zde,Zdi,Zev,Zew,Zex,Zez,Ze0,Ze2,Ze5,Zfd,Zfe,Zfh,Zfi,Zfj,Zfl,Zfn,Zfz,Zf3,Zhb,Zhc,Zh6,Zh7,Zjr,Zjw,Zka,Zkb,Zky,Zk0,Zk4,Zla,Zlb,Zle,Zll,Zlz,Zl2,Zmt,Zmv,Zmw,Zmx,Zmz,Zm2,Zm9,Zna,Znb,Zne,Znf,Zng,Zof,Zog,Zos,Zot,Zo6,Zo7,Zo8,Zo9,Zpc,eq_self,true_and,and_true,Nat.zero_add,callable_32]
  tactic =>
  refine cl none (hrmk) trivial ?_
  sym =>
  simp [Zaa,Zab,Zad,Zae,Zaf,Zak,Zal,Zam,Zao,Zaz,Za0,Za1,Za2,Za3,Za4,Za5,Za6,Za7,Za8,Za9,Zba,Zbb,Zbd,Zbf,Zb7,Zcn,Zdc,Zdd,Zde,Zdi,Zev,Zew,Zex,Zez,Ze0,Ze2,Ze5,Zfd,Zfe,Zfh,Zfi,Zfj,Zfl,Zfn,Zfz,Zf3,Zhb,Zhc,Zh6,Zh7,Zjr,Zjw,Zka,Zkb,Zky,Zk0,Zk4,Zla,Zlb,Zle,Zll,Zlz,Zl2,Zmt,Zmv,Zmw,Zmx,Zmz,Zm2,Zm9,Zna,Znb,Zne,Znf,Zng,Zof,Zog,Zos,Zot,Zo6,Zo7,Zo8,Zo9,Zpc,eq_self,true_and,and_true,Nat.zero_add,callable_31]
  tactic =>
  refine cl none (hps) trivial ?_
  sym =>
  simp [Zaa,Zab,Zad,Zae,Zaf,Zak,Zal,Zam,Zao,Zaz,Za0,Za1,Za2,Za3,Za4,Za5,Za6,Za7,Za8,Za9,Zba,Zbb,Zbd,Zbf,Zb7,Zcn,Zdc,Zdd,Zde,Zdi,Zev,Zew,Zex,Zez,Ze0,Ze2,Ze5,Zfd,Zfe,Zfh,Zfi,Zfj,Zfl,Zfn,Zfz,Zf3,Zhb,Zhc,Zh6,Zh7,Zjr,Zjw,Zka,Zkb,Zky,Zk0,Zk4,Zla,Zlb,Zle,Zll,Zlz,Zl2,Zmt,Zmv,Zmw,Zmx,Zmz,Zm2,Zm9,Zna,Znb,Zne,Znf,Zng,Zof,Zog,Zos,Zot,Zo6,Zo7,Zo8,Zo9,Zpc,eq_self,true_and,and_true,Nat.zero_add,callable_33]
  tactic =>
  refine cl none (hs) trivial ?_
  sym =>
  simp [Zaa,Zab,Zad,Zae,Zaf,Zak,Zal,Zam,Zao,Zaz,Za0,Za1,Za2,Za3,Za4,Za5,Za6,Za7,Za8,Za9,Zba,Zbb,Zbd,Zbf,Zb7,Zcn,Zdc,Zdd,Zde,Zdi,Zev,Zew,Zex,Zez,Ze0,Ze2,Ze5,Zfd,Zfe,Zfh,Zfi,Zfj,Zfl,Zfn,Zfz,Zf3,Zhb,Zhc,Zh6,Zh7,Zjr,Zjw,Zka,Zkb,Zky,Zk0,Zk4,Zla,Zlb,Zle,Zll,Zlz,Zl2,Zmt,Zmv,Zmw,Zmx,Zmz,Zm2,Zm9,Zna,Znb,Zne,Znf,Zng,Zof,Zog,Zos,Zot,Zo6,Zo7,Zo8,Zo9,Zpc,eq_self,true_and,and_true,Nat.zero_add,callable_34]
  tactic =>
  refine cl none (hco) trivial ?_
  sym =>
  simp [Zaa,Zab,Zad,Zae,Zaf,Zak,Zal,Zam,Zao,Zaz,Za0,Za1,Za2,Za3,Za4,Za5,Za6,Za7,Za8,Za9,Zba,Zbb,Zbd,Zbf,Zb7,Zcn,Zdc,Zdd,Zde,Zdi,Zev,Zew,Zex,Zez,Ze0,Ze2,Ze5,Zfd,Zfe,Zfh,Zfi,Zfj,Zfl,Zfn,Zfz,Zf3,Zhb,Zhc,Zh6,Zh7,Zjr,Zjw,Zka,Zkb,Zky,Zk0,Zk4,Zla,Zlb,Zle,Zll,Zlz,Zl2,Zmt,Zmv,Zmw,Zmx,Zmz,Zm2,Zm9,Zna,Znb,Zne,Znf,Zng,Zof,Zog,Zos,Zot,Zo6,Zo7,Zo8,Zo9,Zpc,eq_self,true_and,and_true,Nat.zero_add,callable_33]
  tactic =>
  refine cl none (hs) trivial ?_
  sym =>
  simp [Zaa,Zab,Zad,Zae,Zaf,Zak,Zal,Zam,Zao,Zaz,Za0,Za1,Za2,Za3,Za4,Za5,Za6,Za7,Za8,Za9,Zba,Zbb,Zbd,Zbf,Zb7,Zcn,Zdc,Zdd,Zde,Zdi,Zev,Zew,Zex,Zez,Ze0,Ze2,Ze5,Zfd,Zfe,Zfh,Zfi,Zfj,Zfl,Zfn,Zfz,Zf3,Zhb,Zhc,Zh6,Zh7,Zjr,Zjw,Zka,Zkb,Zky,Zk0,Zk4,Zla,Zlb,Zle,Zll,Zlz,Zl2,Zmt,Zmv,Zmw,Zmx,Zmz,Zm2,Zm9,Zna,Znb,Zne,Znf,Zng,Zof,Zog,Zos,Zot,Zo6,Zo7,Zo8,Zo9,Zpc,eq_self,true_and,and_true,Nat.zero_add,callable_26]
  tactic =>
  refine cl none (alive_con) trivial ?_
  sym =>
  simp [Zaa,Zab,Zad,Zae,Zaf,Zak,Zal,Zam,Zao,Zaz,Za0,Za1,Za2,Za3,Za4,Za5,Za6,Za7,Za8,Za9,Zba,Zbb,Zbd,Zbf,Zb7,Zcn,Zdc,Zdd,Zde,Zdi,Zev,Zew,Zex,Zez,Ze0,Ze2,Ze5,Zfd,Zfe,Zfh,Zfi,Zfj,Zfl,Zfn,Zfz,Zf3,Zhb,Zhc,Zh6,Zh7,Zjr,Zjw,Zka,Zkb,Zky,Zk0,Zk4,Zla,Zlb,Zle,Zll,Zlz,Zl2,Zmt,Zmv,Zmw,Zmx,Zmz,Zm2,Zm9,Zna,Znb,Zne,Znf,Zng,Zof,Zog,Zos,Zot,Zo6,Zo7,Zo8,Zo9,Zpc,eq_self,true_and,and_true,Nat.zero_add]
  tactic =>
  refine endA ?_
  sym =>
  simp [Zaa,Zab,Zad,Zae,Zaf,Zak,Zal,Zam,Zao,Zaz,Za0,Za1,Za2,Za3,Za4,Za5,Za6,Za7,Za8,Za9,Zba,Zbb,Zbd,Zbf,Zb7,Zcn,Zdc,Zdd,Zde,Zdi,Zev,Zew,Zex,Zez,Ze0,Ze2,Ze5,Zfd,Zfe,Zfh,Zfi,Zfj,Zfl,Zfn,Zfz,Zf3,Zhb,Zhc,Zh6,Zh7,Zjr,Zjw,Zka,Zkb,Zky,Zk0,Zk4,Zla,Zlb,Zle,Zll,Zlz,Zl2,Zmt,Zmv,Zmw,Zmx,Zmz,Zm2,Zm9,Zna,Znb,Zne,Znf,Zng,Zof,Zog,Zos,Zot,Zo6,Zo7,Zo8,Zo9,Zpc,eq_self,true_and,and_true,Nat.zero_add]
theorem alk_self : ∀ a : List Int, alk a a = a.length
  | [] => rfl
  | x :: a => by simp [alk, alk_self a]
theorem alk_prefix : ∀ (a b : List Int), alk (a ++ b) a = a.length
  | [], b => by cases b <;> rfl
  | x :: a, b => by simp [alk, alk_prefix a b]
theorem bst_first (old fr : List Int) (i0 : Nat) (h : alk (old.drop i0) fr = fr.length) : ∀ i, i0 < i → (bst old fr i).2 = fr.length ∧ (0 < fr.length → (bst old fr i).1 ≤ i0)
  | 0, hi => by omega
  | i + 1, hi => by
    have hle := bst_le old fr i
    have hal := alk_le (old.drop i) fr
    rw [bst]
    by_cases hii : i0 < i
    · have ih := bst_first old fr i0 h i hii
      rw [if_neg (by omega)]
      exact ih
    · obtain rfl : i = i0 := by omega
      split
      · exact ⟨h, fun _ => Nat.le_refl _⟩
      · rename_i hn
        rw [h] at hn
        refine ⟨by omega, fun hp => ?_⟩
        -- the best place lies below
        have : ∀ j, (bst old fr j).2 ≠ 0 → (bst old fr j).1 < j := by
          intro j
          induction j with
          | zero => intro h; exact absurd rfl h
          | succ j ihj =>
            intro hj
            rw [bst] at hj ⊢
            split
            · exact Nat.lt_succ_self j
            · rename_i hh
              rw [if_neg hh] at hj
              have := ihj hj
              omega
        have := this i (by omega)
        omega
theorem mkF_one (old fr : List Int) (i0 : Nat) (hi0 : i0 < old.length) (h : alk (old.drop i0) fr = fr.length) (h8 : 8 ≤ fr.length) : ∃ a, a ≤ i0 ∧ mkF old fr = [(IN a, IN fr.length, [])] := by
  have hb := bst_first old fr i0 h old.length hi0
  refine ⟨(bst old fr old.length).1, hb.2 (by omega), ?_⟩
  unfold mkF
  rcases fr with _ | ⟨x, f⟩
  · simp at h8
  · show mkR old (f.length + 1) [] [] (x :: f) = _
    rw [mkR, hb.1, if_pos h8, List.drop_length]
    simp only [List.length_cons]
    have e : ∀ n P, mkR old n P [] [] = P := by
      intro n P
      cases n <;> rfl
    rw [e]
    rfl
theorem wrap8 (x : Int) (h : 0 ≤ x ∧ x < 256) : IntKind.i64.wrap x = x := w64 _ (by omega)
theorem self_con (old : List Int) (f g : Int) (hf : 0 ≤ f ∧ f < 256) (hg : 0 ≤ g ∧ g < 256) : Con Try.prog 10 [] [fB old, Y f, Y g] [] (Bo true) := by
  refine con_j b10 rfl ?_
  by_cases g1 : 250 < old.length
  · have h1 : IN old.length > (250 : Int) := by simp only [IN]; omega
    sym =>
    simp [Zaa,Zab,Zad,Zae,Zaf,Zak,Zal,Zam,Zao,Zaz,Za0,Za1,Za2,Za3,Za4,Za5,Za6,Za7,Za8,Za9,Zba,Zbb,Zbd,Zbf,Zbl,Zbt,Zbv,Zb1,Zch,Zcn,Zdc,Zdd,Zde,Zdi,Zev,Zew,Zex,Zez,Ze0,Ze2,Ze5,Zfd,Zfe,Zfh,Zfi,Zfj,Zfl,Zfn,Zfq,Zfr,Zfu,Zfz,Zf1,Zf2,Zf3,Zgh,Zgi,Zgr,Zgu,Zgw,Zgy,Zg4,Zg6,Zhn,Zho,Zhs,Zht,Zhu,Zh6,Zh7,Zjr,Zjw,Zkb,Zla,Zlb,Zle,Zll,Zlz,Zl2,Zmt,Zmv,Zmw,Zmx,Zmz,Zm2,Zm6,Zm9,Zna,Znb,Zne,Znf,Zng,Zns,Znu,Znw,Zny,Zn1,Zn5,Zn6,Zrd,Zos,Zot,Zo6,Zo7,Zo8,Zo9,Zpc,List.length_drop,eq_self,true_and,and_true,Nat.zero_add,Nat.mul_one,h1,callable_26]
    tactic =>
    refine cl none (alive_con) trivial ?_
    sym =>
    simp [Zaa,Zab,Zad,Zae,Zaf,Zak,Zal,Zam,Zao,Zaz,Za0,Za1,Za2,Za3,Za4,Za5,Za6,Za7,Za8,Za9,Zba,Zbb,Zbd,Zbf,Zbl,Zbt,Zbv,Zb1,Zch,Zcn,Zdc,Zdd,Zde,Zdi,Zev,Zew,Zex,Zez,Ze0,Ze2,Ze5,Zfd,Zfe,Zfh,Zfi,Zfj,Zfl,Zfn,Zfq,Zfr,Zfu,Zfz,Zf1,Zf2,Zf3,Zgh,Zgi,Zgr,Zgu,Zgw,Zgy,Zg4,Zg6,Zhn,Zho,Zhs,Zht,Zhu,Zh6,Zh7,Zjr,Zjw,Zkb,Zla,Zlb,Zle,Zll,Zlz,Zl2,Zmt,Zmv,Zmw,Zmx,Zmz,Zm2,Zm6,Zm9,Zna,Znb,Zne,Znf,Zng,Zns,Znu,Znw,Zny,Zn1,Zn5,Zn6,Zrd,Zos,Zot,Zo6,Zo7,Zo8,Zo9,Zpc,List.length_drop,eq_self,true_and,and_true,Nat.zero_add,Nat.mul_one]
    tactic =>
    refine endA ?_
    sym =>
    simp [Zaa,Zab,Zad,Zae,Zaf,Zak,Zal,Zam,Zao,Zaz,Za0,Za1,Za2,Za3,Za4,Za5,Za6,Za7,Za8,Za9,Zba,Zbb,Zbd,Zbf,Zbl,Zbt,Zbv,Zb1,Zch,Zcn,Zdc,Zdd,Zde,Zdi,Zev,Zew,Zex,Zez,Ze0,Ze2,Ze5,Zfd,Zfe,Zfh,Zfi,Zfj,Zfl,Zfn,Zfq,Zfr,Zfu,Zfz,Zf1,Zf2,Zf3,Zgh,Zgi,Zgr,Zgu,Zgw,Zgy,Zg4,Zg6,Zhn,Zho,Zhs,Zht,Zhu,Zh6,Zh7,Zjr,Zjw,Zkb,Zla,Zlb,Zle,Zll,Zlz,Zl2,Zmt,Zmv,Zmw,Zmx,Zmz,Zm2,Zm6,Zm9,Zna,Znb,Zne,Znf,Zng,Zns,Znu,Znw,Zny,Zn1,Zn5,Zn6,Zrd,Zos,Zot,Zo6,Zo7,Zo8,Zo9,Zpc,List.length_drop,eq_self,true_and,and_true,Nat.zero_add,Nat.mul_one]
  have h1 : ¬ IN old.length > (250 : Int) := by simp only [IN]; omega
  by_cases g2 : old.length < 8
  · have h2 : IN old.length < (8 : Int) := by simp only [IN]; omega
    sym =>
    simp [Zaa,Zab,Zad,Zae,Zaf,Zak,Zal,Zam,Zao,Zaz,Za0,Za1,Za2,Za3,Za4,Za5,Za6,Za7,Za8,Za9,Zba,Zbb,Zbd,Zbf,Zbl,Zbt,Zbv,Zb1,Zch,Zcn,Zdc,Zdd,Zde,Zdi,Zev,Zew,Zex,Zez,Ze0,Ze2,Ze5,Zfd,Zfe,Zfh,Zfi,Zfj,Zfl,Zfn,Zfq,Zfr,Zfu,Zfz,Zf1,Zf2,Zf3,Zgh,Zgi,Zgr,Zgu,Zgw,Zgy,Zg4,Zg6,Zhn,Zho,Zhs,Zht,Zhu,Zh6,Zh7,Zjr,Zjw,Zkb,Zla,Zlb,Zle,Zll,Zlz,Zl2,Zmt,Zmv,Zmw,Zmx,Zmz,Zm2,Zm6,Zm9,Zna,Znb,Zne,Znf,Zng,Zns,Znu,Znw,Zny,Zn1,Zn5,Zn6,Zrd,Zos,Zot,Zo6,Zo7,Zo8,Zo9,Zpc,List.length_drop,eq_self,true_and,and_true,Nat.zero_add,Nat.mul_one,h1,h2,callable_26]
    tactic =>
    refine cl none (alive_con) trivial ?_
    sym =>
    simp [Zaa,Zab,Zad,Zae,Zaf,Zak,Zal,Zam,Zao,Zaz,Za0,Za1,Za2,Za3,Za4,Za5,Za6,Za7,Za8,Za9,Zba,Zbb,Zbd,Zbf,Zbl,Zbt,Zbv,Zb1,Zch,Zcn,Zdc,Zdd,Zde,Zdi,Zev,Zew,Zex,Zez,Ze0,Ze2,Ze5,Zfd,Zfe,Zfh,Zfi,Zfj,Zfl,Zfn,Zfq,Zfr,Zfu,Zfz,Zf1,Zf2,Zf3,Zgh,Zgi,Zgr,Zgu,Zgw,Zgy,Zg4,Zg6,Zhn,Zho,Zhs,Zht,Zhu,Zh6,Zh7,Zjr,Zjw,Zkb,Zla,Zlb,Zle,Zll,Zlz,Zl2,Zmt,Zmv,Zmw,Zmx,Zmz,Zm2,Zm6,Zm9,Zna,Znb,Zne,Znf,Zng,Zns,Znu,Znw,Zny,Zn1,Zn5,Zn6,Zrd,Zos,Zot,Zo6,Zo7,Zo8,Zo9,Zpc,List.length_drop,eq_self,true_and,and_true,Nat.zero_add,Nat.mul_one]
    tactic =>
    refine endA ?_
    sym =>
    simp [Zaa,Zab,Zad,Zae,Zaf,Zak,Zal,Zam,Zao,Zaz,Za0,Za1,Za2,Za3,Za4,Za5,Za6,Za7,Za8,Za9,Zba,Zbb,Zbd,Zbf,Zbl,Zbt,Zbv,Zb1,Zch,Zcn,Zdc,Zdd,Zde,Zdi,Zev,Zew,Zex,Zez,Ze0,Ze2,Ze5,Zfd,Zfe,Zfh,Zfi,Zfj,Zfl,Zfn,Zfq,Zfr,Zfu,Zfz,Zf1,Zf2,Zf3,Zgh,Zgi,Zgr,Zgu,Zgw,Zgy,Zg4,Zg6,Zhn,Zho,Zhs,Zht,Zhu,Zh6,Zh7,Zjr,Zjw,Zkb,Zla,Zlb,Zle,Zll,Zlz,Zl2,Zmt,Zmv,Zmw,Zmx,Zmz,Zm2,Zm6,Zm9,Zna,Znb,Zne,Znf,Zng,Zns,Znu,Znw,Zny,Zn1,Zn5,Zn6,Zrd,Zos,Zot,Zo6,Zo7,Zo8,Zo9,Zpc,List.length_drop,eq_self,true_and,and_true,Nat.zero_add,Nat.mul_one]
  have h2 : ¬ IN old.length < (8 : Int) := by simp only [IN]; omega
  obtain ⟨F, rfl⟩ : ∃ F : Nat, f = IN F := ⟨f.toNat, by simp only [IN]; omega⟩
  obtain ⟨G, rfl⟩ : ∃ G : Nat, g = IN G := ⟨g.toNat, by simp only [IN]; omega⟩
  have hF : F < 256 := by simp only [IN] at hf; omega
  have hG : G < 256 := by simp only [IN] at hg; omega
  have wF := wrap8 (IN F) hf
  have wG := wrap8 (IN G) hg
  have w7 : IntKind.i64.wrap (IN old.length - (7 : Int)) = IN (old.length - 7) := w64m _ _ 7 (by omega) (by omega)
  obtain ⟨at', hat⟩ : ∃ a, a = F % (old.length - 7) := ⟨_, rfl⟩
  have hatl : at' < old.length - 7 := by rw [hat]; exact Nat.mod_lt _ (by omega)
  have m1 : (IN F).tmod (IN (old.length - 7)) = IN at' := by simp only [IN]; rw [Int.tmod_eq_emod_of_nonneg (by omega), hat]; rfl
  have wd : IntKind.i64.wrap (IN old.length - IN at') = IN (old.length - at') := w64d _ _ (by omega) (by omega)
  have w7b : IntKind.i64.wrap (IN (old.length - at') - (7 : Int)) = IN (old.length - at' - 7) := w64m _ _ 7 (by omega) (by omega)
  obtain ⟨r, hr⟩ : ∃ r, r = G % (old.length - at' - 7) := ⟨_, rfl⟩
  have hrl : r < old.length - at' - 7 := by rw [hr]; exact Nat.mod_lt _ (by omega)
  have m2 : (IN G).tmod (IN (old.length - at' - 7)) = IN r := by simp only [IN]; rw [Int.tmod_eq_emod_of_nonneg (by omega), hr]; rfl
  have w8 : IntKind.i64.wrap (8 + IN r) = IN (8 + r) := by simp only [IN]; rw [w64 _ (by omega)]; omega
  have w9 : IntKind.i64.wrap (IN (at' + (8 + r))) = IN (at' + (8 + r)) := by simp only [IN]; rw [w64 _ (by omega)]
  obtain ⟨X, hX⟩ : ∃ X, X = (old.drop at').take (8 + r) := ⟨_, rfl⟩
  have hXl : X.length = 8 + r := by rw [hX, List.length_take, List.length_drop]; omega
  have hXc : List.take (8 + r) (List.drop at' (cB old)) = cB X := by rw [hX, cB_take, cB_drop]
  have hsub : at' + (8 + r) - at' = 8 + r := by omega
  obtain ⟨a0, ha0, e0⟩ := mkF_one old old 0 (by omega) (by rw [List.drop_zero, alk_self]) (by omega)
  obtain rfl : a0 = 0 := by omega
  obtain ⟨a1, ha1, e1⟩ := mkF_one old X at' (by omega) (by
    have : old.drop at' = X ++ (old.drop at').drop (8 + r) := by rw [hX, List.take_append_drop]
    rw [this, alk_prefix]) (by omega)
  have hm0 := make_con old old (by omega) (by omega)
  have hm1 := make_con old X (by omega) (by omega)
  rw [e0] at hm0
  rw [e1, hXl] at hm1
  have hco := cost_con [(IN a1, IN (8 + r), [])] ⟨by simp, fun p hp => by simp at hp; subst hp; exact Nat.zero_le _⟩
  have hcv : coF [(IN a1, IN (8 + r), [])] = 14 := rfl
  rw [hcv] at hco
  change Con Try.prog 27 [] [fB old, fB old] [] (.fz 1 [I (IN 0), I (IN old.length), .fz 0 []]) at hm0
  change Con Try.prog 27 [] [fB old, fB X] [] (.fz 1 [I (IN a1), I (IN (8 + r)), .fz 0 []]) at hm1
  change Con Try.prog 34 [] [.fz 1 [I (IN a1), I (IN (8 + r)), .fz 0 []]] [] (I 14) at hco
  simp only [fB, hXl] at hm1
  have hz7 : ¬ IN (old.length - 7) = 0 := by simp only [IN]; omega
  have hz8 : ¬ IN (old.length - at' - 7) = 0 := by simp only [IN]; omega
  sym =>
  simp [Zaa,Zab,Zad,Zae,Zaf,Zak,Zal,Zam,Zao,Zaz,Za0,Za1,Za2,Za3,Za4,Za5,Za6,Za7,Za8,Za9,Zba,Zbb,Zbd,Zbf,Zbl,Zbt,Zbv,Zb1,Zch,Zcn,Zdc,Zdd,Zde,Zdi,Zev,Zew,Zex,Zez,Ze0,Ze2,Ze5,Zfd,Zfe,Zfh,Zfi,Zfj,Zfl,Zfn,Zfq,Zfr,Zfu,Zfz,Zf1,Zf2,Zf3,Zgh,Zgi,Zgr,Zgu,Zgw,Zgy,Zg4,Zg6,Zhn,Zho,Zhs,Zht,Zhu,Zh6,Zh7,Zjr,Zjw,Zkb,Zla,Zlb,Zle,Zll,Zlz,Zl2,Zmt,Zmv,Zmw,Zmx,Zmz,Zm2,Zm6,Zm9,Zna,Znb,Zne,Znf,Zng,Zns,Znu,Znw,Zny,Zn1,Zn5,Zn6,Zrd,Zos,Zot,Zo6,Zo7,Zo8,Zo9,Zpc,List.length_drop,eq_self,true_and,and_true,Nat.zero_add,Nat.mul_one,h1,h2,callable_27]
  tactic =>
  refine cl none (hm0) trivial ?_
  sym =>
  simp [Zaa,Zab,Zad,Zae,Zaf,Zak,Zal,Zam,Zao,Zaz,Za0,Za1,Za2,Za3,Za4,Za5,Za6,Za7,Za8,Za9,Zba,Zbb,Zbd,Zbf,Zbl,Zbt,Zbv,Zb1,Zch,Zcn,Zdc,Zdd,Zde,Zdi,Zev,Zew,Zex,Zez,Ze0,Ze2,Ze5,Zfd,Zfe,Zfh,Zfi,Zfj,Zfl,Zfn,Zfq,Zfr,Zfu,Zfz,Zf1,Zf2,Zf3,Zgh,Zgi,Zgr,Zgu,Zgw,Zgy,Zg4,Zg6,Zhn,Zho,Zhs,Zht,Zhu,Zh6,Zh7,Zjr,Zjw,Zkb,Zla,Zlb,Zle,Zll,Zlz,Zl2,Zmt,Zmv,Zmw,Zmx,Zmz,Zm2,Zm6,Zm9,Zna,Znb,Zne,Znf,Zng,Zns,Znu,Znw,Zny,Zn1,Zn5,Zn6,Zrd,Zos,Zot,Zo6,Zo7,Zo8,Zo9,Zpc,List.length_drop,eq_self,true_and,and_true,Nat.zero_add,Nat.mul_one,wF,wG,w7,m1,wd,w7b,m2,w8,w9,hXc,hsub,callable_27]
  tactic =>
  and_intros <;> try (first | omega | rfl | assumption | simp only [IN]; omega)
  refine cl none (hm1) trivial ?_
  have hle : IN a1 ≤ IN at' := by simp only [IN]; omega
  sym =>
  simp [Zaa,Zab,Zad,Zae,Zaf,Zak,Zal,Zam,Zao,Zaz,Za0,Za1,Za2,Za3,Za4,Za5,Za6,Za7,Za8,Za9,Zba,Zbb,Zbd,Zbf,Zbl,Zbt,Zbv,Zb1,Zch,Zcn,Zdc,Zdd,Zde,Zdi,Zev,Zew,Zex,Zez,Ze0,Ze2,Ze5,Zfd,Zfe,Zfh,Zfi,Zfj,Zfl,Zfn,Zfq,Zfr,Zfu,Zfz,Zf1,Zf2,Zf3,Zgh,Zgi,Zgr,Zgu,Zgw,Zgy,Zg4,Zg6,Zhn,Zho,Zhs,Zht,Zhu,Zh6,Zh7,Zjr,Zjw,Zkb,Zla,Zlb,Zle,Zll,Zlz,Zl2,Zmt,Zmv,Zmw,Zmx,Zmz,Zm2,Zm6,Zm9,Zna,Znb,Zne,Znf,Zng,Zns,Znu,Znw,Zny,Zn1,Zn5,Zn6,Zrd,Zos,Zot,Zo6,Zo7,Zo8,Zo9,Zpc,List.length_drop,eq_self,true_and,and_true,Nat.zero_add,Nat.mul_one,ha1,callable_34]
  tactic =>
  refine cl none (hco) trivial ?_
  sym =>
  simp [Zaa,Zab,Zad,Zae,Zaf,Zak,Zal,Zam,Zao,Zaz,Za0,Za1,Za2,Za3,Za4,Za5,Za6,Za7,Za8,Za9,Zba,Zbb,Zbd,Zbf,Zbl,Zbt,Zbv,Zb1,Zch,Zcn,Zdc,Zdd,Zde,Zdi,Zev,Zew,Zex,Zez,Ze0,Ze2,Ze5,Zfd,Zfe,Zfh,Zfi,Zfj,Zfl,Zfn,Zfq,Zfr,Zfu,Zfz,Zf1,Zf2,Zf3,Zgh,Zgi,Zgr,Zgu,Zgw,Zgy,Zg4,Zg6,Zhn,Zho,Zhs,Zht,Zhu,Zh6,Zh7,Zjr,Zjw,Zkb,Zla,Zlb,Zle,Zll,Zlz,Zl2,Zmt,Zmv,Zmw,Zmx,Zmz,Zm2,Zm6,Zm9,Zna,Znb,Zne,Znf,Zng,Zns,Znu,Znw,Zny,Zn1,Zn5,Zn6,Zrd,Zos,Zot,Zo6,Zo7,Zo8,Zo9,Zpc,List.length_drop,eq_self,true_and,and_true,Nat.zero_add,Nat.mul_one,callable_26]
  tactic =>
  refine cl none (alive_con) trivial ?_
  sym =>
  simp [Zaa,Zab,Zad,Zae,Zaf,Zak,Zal,Zam,Zao,Zaz,Za0,Za1,Za2,Za3,Za4,Za5,Za6,Za7,Za8,Za9,Zba,Zbb,Zbd,Zbf,Zbl,Zbt,Zbv,Zb1,Zch,Zcn,Zdc,Zdd,Zde,Zdi,Zev,Zew,Zex,Zez,Ze0,Ze2,Ze5,Zfd,Zfe,Zfh,Zfi,Zfj,Zfl,Zfn,Zfq,Zfr,Zfu,Zfz,Zf1,Zf2,Zf3,Zgh,Zgi,Zgr,Zgu,Zgw,Zgy,Zg4,Zg6,Zhn,Zho,Zhs,Zht,Zhu,Zh6,Zh7,Zjr,Zjw,Zkb,Zla,Zlb,Zle,Zll,Zlz,Zl2,Zmt,Zmv,Zmw,Zmx,Zmz,Zm2,Zm6,Zm9,Zna,Znb,Zne,Znf,Zng,Zns,Znu,Znw,Zny,Zn1,Zn5,Zn6,Zrd,Zos,Zot,Zo6,Zo7,Zo8,Zo9,Zpc,List.length_drop,eq_self,true_and,and_true,Nat.zero_add,Nat.mul_one]
  tactic =>
  refine endA ?_
  sym =>
  simp [Zaa,Zab,Zad,Zae,Zaf,Zak,Zal,Zam,Zao,Zaz,Za0,Za1,Za2,Za3,Za4,Za5,Za6,Za7,Za8,Za9,Zba,Zbb,Zbd,Zbf,Zbl,Zbt,Zbv,Zb1,Zch,Zcn,Zdc,Zdd,Zde,Zdi,Zev,Zew,Zex,Zez,Ze0,Ze2,Ze5,Zfd,Zfe,Zfh,Zfi,Zfj,Zfl,Zfn,Zfq,Zfr,Zfu,Zfz,Zf1,Zf2,Zf3,Zgh,Zgi,Zgr,Zgu,Zgw,Zgy,Zg4,Zg6,Zhn,Zho,Zhs,Zht,Zhu,Zh6,Zh7,Zjr,Zjw,Zkb,Zla,Zlb,Zle,Zll,Zlz,Zl2,Zmt,Zmv,Zmw,Zmx,Zmz,Zm2,Zm6,Zm9,Zna,Znb,Zne,Znf,Zng,Zns,Znu,Znw,Zny,Zn1,Zn5,Zn6,Zrd,Zos,Zot,Zo6,Zo7,Zo8,Zo9,Zpc,List.length_drop,eq_self,true_and,and_true,Nat.zero_add,Nat.mul_one]
theorem flat_cP : ∀ l : List Pc, (l.flatMap fun x : Int × Int × List Int => [AV.sc (.int .i64 x.1)] ++ ([AV.sc (.int .i64 x.2.1)] ++ [AV.fz x.2.2.length (x.2.2.flatMap fun n : Int => [AV.sc (.int .u8 n)])])) = cP l
  | [] => rfl
  | p :: l => by
    rw [List.flatMap_cons, flat_cP l, flat_cB]
    rfl
theorem makes_law (old fresh : List Int) (ho : ∀ a ∈ old, IntKind.u8.min ≤ a ∧ a ≤ IntKind.u8.max) (hf : ∀ a ∈ fresh, IntKind.u8.min ≤ a ∧ a ≤ IntKind.u8.max) : Con Try.prog 8 [] [.fz old.length (old.flatMap fun n : Int => [AV.sc (.int .u8 n)]), .fz fresh.length (fresh.flatMap fun n : Int => [AV.sc (.int .u8 n)])] [] (Bo true) := by
  rw [flat_cB, flat_cB]
  exact makes_con old fresh (ok_byt8 ho) (ok_byt8 hf)
theorem applies_law (old : List Int) (l : List Pc) (ho : ∀ a ∈ old, IntKind.u8.min ≤ a ∧ a ≤ IntKind.u8.max) : Con Try.prog 9 [] [.fz old.length (old.flatMap fun n : Int => [AV.sc (.int .u8 n)]), .fz l.length (l.flatMap fun x : Int × Int × List Int => [AV.sc (.int .i64 x.1)] ++ ([AV.sc (.int .i64 x.2.1)] ++ [AV.fz x.2.2.length (x.2.2.flatMap fun n : Int => [AV.sc (.int .u8 n)])]))] [] (Bo true) := by
  rw [flat_cB, flat_cP]
  exact applies_con old l (ok_byt8 ho)
theorem ok_u8 {f : Int} (h : IntKind.u8.min ≤ f ∧ f ≤ IntKind.u8.max) : 0 ≤ f ∧ f < 256 := by
  simp only [IntKind.min, IntKind.max, IntKind.signed, IntKind.bits] at h
  simp at h; omega
theorem self_law (old : List Int) (f g : Int) (hf : IntKind.u8.min ≤ f ∧ f ≤ IntKind.u8.max) (hg : IntKind.u8.min ≤ g ∧ g ≤ IntKind.u8.max) : Con Try.prog 10 [] [.fz old.length (old.flatMap fun n : Int => [AV.sc (.int .u8 n)]), .sc (.int .u8 f), .sc (.int .u8 g)] [] (Bo true) := by
  rw [flat_cB]
  exact self_con old f g (ok_u8 hf) (ok_u8 hg)
end Go.Proofs.Ytdjjibmjinllnaa.DelK
