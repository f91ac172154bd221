import Derived.Test.YtdjjibmjinllnaaDigQ
namespace Go.Proofs.Ytdjjibmjinllnaa.DigS
open Go Go.Sim Go.Sim.E Go.RowKit Go.Proofs Go.Proofs.Ytdjjibmjinllnaa.Cod Go.Proofs.Ytdjjibmjinllnaa.Tab Go.Proofs.Ytdjjibmjinllnaa.DigA Go.Proofs.Ytdjjibmjinllnaa.DigB Go.Proofs.Ytdjjibmjinllnaa.DigC Go.Proofs.Ytdjjibmjinllnaa.DigM Go.Proofs.Ytdjjibmjinllnaa.DigN Go.Proofs.Ytdjjibmjinllnaa.DigO Go.Proofs.Ytdjjibmjinllnaa.DigP Go.Proofs.Ytdjjibmjinllnaa.DigQ
set_option linter.unusedVariables false
set_option linter.unusedSimpArgs false
set_option maxRecDepth 100000
set_option maxHeartbeats 4000000
theorem is_con (b : List Int) (hb : byt8 b) : Con Try.prog 3 [] [fB b] [] (Bo true) := by
  refine con_j b3 rfl ?_
  by_cases g : 500 < b.length
  · have h1 : IN b.length > (500 : Int) := by simp only [IN]; omega
    sym =>
    simp [Zaa,Zab,Zad,Zae,Zaf,Zak,Zal,Zam,Zao,Zaz,Za0,Za1,Za2,Za3,Za4,Za5,Za6,Za7,Za9,Zba,Zbb,Zbd,Zbf,Zbh,Zcn,Zdc,Zdd,Zde,Zdi,Zev,Zew,Zex,Zez,Ze0,Ze2,Ze5,Zfd,Zfe,Zfh,Zfi,Zfl,Zfn,Zf3,Zga,Zgb,Zh6,Zh7,Zjw,Zkv,Zla,Zlb,Zle,Zll,Zlz,Zmt,Zmv,Zmw,Zmx,Zmz,Zm2,Zna,Znb,Zne,Znf,Zng,Zos,Zot,Zo7,Zo8,Zo9,Zpc,eq_self,true_and,and_true,h1,callable_11]
    tactic =>
    refine cl none (alive_con) trivial ?_
    sym =>
    simp [Zaa,Zab,Zad,Zae,Zaf,Zak,Zal,Zam,Zao,Zaz,Za0,Za1,Za2,Za3,Za4,Za5,Za6,Za7,Za9,Zba,Zbb,Zbd,Zbf,Zbh,Zcn,Zdc,Zdd,Zde,Zdi,Zev,Zew,Zex,Zez,Ze0,Ze2,Ze5,Zfd,Zfe,Zfh,Zfi,Zfl,Zfn,Zf3,Zga,Zgb,Zh6,Zh7,Zjw,Zkv,Zla,Zlb,Zle,Zll,Zlz,Zmt,Zmv,Zmw,Zmx,Zmz,Zm2,Zna,Znb,Zne,Znf,Zng,Zos,Zot,Zo7,Zo8,Zo9,Zpc,eq_self,true_and,and_true]
    tactic =>
    refine endA ?_
    sym =>
    simp [Zaa,Zab,Zad,Zae,Zaf,Zak,Zal,Zam,Zao,Zaz,Za0,Za1,Za2,Za3,Za4,Za5,Za6,Za7,Za9,Zba,Zbb,Zbd,Zbf,Zbh,Zcn,Zdc,Zdd,Zde,Zdi,Zev,Zew,Zex,Zez,Ze0,Ze2,Ze5,Zfd,Zfe,Zfh,Zfi,Zfl,Zfn,Zf3,Zga,Zgb,Zh6,Zh7,Zjw,Zkv,Zla,Zlb,Zle,Zll,Zlz,Zmt,Zmv,Zmw,Zmx,Zmz,Zm2,Zna,Znb,Zne,Znf,Zng,Zos,Zot,Zo7,Zo8,Zo9,Zpc,eq_self,true_and,and_true]
  have h1 : ¬ IN b.length > (500 : Int) := by simp only [IN]; omega
  have e := digest_doc hb
  have c1 := of_con b (by omega)
  have c2 := rof_con b (by omega)
  rw [← e] at c2
  have hXl := digestF_length b
  obtain ⟨X, hX⟩ : ∃ X, X = digestF b := ⟨_, rfl⟩
  rw [← hX] at c1 c2 hXl
  have hk := sks32 X X hXl hXl
  have hf := cB_fl X
  have he : eqL (cB X) (cB X) = true := by rw [eqL_cB]; simp
  sym =>
  simp [Zaa,Zab,Zad,Zae,Zaf,Zak,Zal,Zam,Zao,Zaz,Za0,Za1,Za2,Za3,Za4,Za5,Za6,Za7,Za9,Zba,Zbb,Zbd,Zbf,Zbh,Zcn,Zdc,Zdd,Zde,Zdi,Zev,Zew,Zex,Zez,Ze0,Ze2,Ze5,Zfd,Zfe,Zfh,Zfi,Zfl,Zfn,Zf3,Zga,Zgb,Zh6,Zh7,Zjw,Zkv,Zla,Zlb,Zle,Zll,Zlz,Zmt,Zmv,Zmw,Zmx,Zmz,Zm2,Zna,Znb,Zne,Znf,Zng,Zos,Zot,Zo7,Zo8,Zo9,Zpc,eq_self,true_and,and_true,h1,callable_12]
  tactic =>
  refine cl none (c1) trivial ?_
  sym =>
  simp [Zaa,Zab,Zad,Zae,Zaf,Zak,Zal,Zam,Zao,Zaz,Za0,Za1,Za2,Za3,Za4,Za5,Za6,Za7,Za9,Zba,Zbb,Zbd,Zbf,Zbh,Zcn,Zdc,Zdd,Zde,Zdi,Zev,Zew,Zex,Zez,Ze0,Ze2,Ze5,Zfd,Zfe,Zfh,Zfi,Zfl,Zfn,Zf3,Zga,Zgb,Zh6,Zh7,Zjw,Zkv,Zla,Zlb,Zle,Zll,Zlz,Zmt,Zmv,Zmw,Zmx,Zmz,Zm2,Zna,Znb,Zne,Znf,Zng,Zos,Zot,Zo7,Zo8,Zo9,Zpc,eq_self,true_and,and_true,callable_13,hf]
  tactic =>
  refine cl none (c2) trivial ?_
  sym =>
  simp [Zaa,Zab,Zad,Zae,Zaf,Zak,Zal,Zam,Zao,Zaz,Za0,Za1,Za2,Za3,Za4,Za5,Za6,Za7,Za9,Zba,Zbb,Zbd,Zbf,Zbh,Zcn,Zdc,Zdd,Zde,Zdi,Zev,Zew,Zex,Zez,Ze0,Ze2,Ze5,Zfd,Zfe,Zfh,Zfi,Zfl,Zfn,Zf3,Zga,Zgb,Zh6,Zh7,Zjw,Zkv,Zla,Zlb,Zle,Zll,Zlz,Zmt,Zmv,Zmw,Zmx,Zmz,Zm2,Zna,Znb,Zne,Znf,Zng,Zos,Zot,Zo7,Zo8,Zo9,Zpc,eq_self,true_and,and_true,hk,he,hf,cB_length,hXl,callable_11]
  tactic =>
  refine cl none (alive_con) trivial ?_
  sym =>
  simp [Zaa,Zab,Zad,Zae,Zaf,Zak,Zal,Zam,Zao,Zaz,Za0,Za1,Za2,Za3,Za4,Za5,Za6,Za7,Za9,Zba,Zbb,Zbd,Zbf,Zbh,Zcn,Zdc,Zdd,Zde,Zdi,Zev,Zew,Zex,Zez,Ze0,Ze2,Ze5,Zfd,Zfe,Zfh,Zfi,Zfl,Zfn,Zf3,Zga,Zgb,Zh6,Zh7,Zjw,Zkv,Zla,Zlb,Zle,Zll,Zlz,Zmt,Zmv,Zmw,Zmx,Zmz,Zm2,Zna,Znb,Zne,Znf,Zng,Zos,Zot,Zo7,Zo8,Zo9,Zpc,eq_self,true_and,and_true]
  tactic =>
  refine endA ?_
  sym =>
  simp [Zaa,Zab,Zad,Zae,Zaf,Zak,Zal,Zam,Zao,Zaz,Za0,Za1,Za2,Za3,Za4,Za5,Za6,Za7,Za9,Zba,Zbb,Zbd,Zbf,Zbh,Zcn,Zdc,Zdd,Zde,Zdi,Zev,Zew,Zex,Zez,Ze0,Ze2,Ze5,Zfd,Zfe,Zfh,Zfi,Zfl,Zfn,Zf3,Zga,Zgb,Zh6,Zh7,Zjw,Zkv,Zla,Zlb,Zle,Zll,Zlz,Zmt,Zmv,Zmw,Zmx,Zmz,Zm2,Zna,Znb,Zne,Znf,Zng,Zos,Zot,Zo7,Zo8,Zo9,Zpc,eq_self,true_and,and_true]
theorem flat_cB : ∀ l : List Int, (l.flatMap fun n : Int => [AV.sc (.int .u8 n)]) = cB l
  | [] => rfl
  | a :: l => by
    show [AV.sc (.int .u8 a)] ++ l.flatMap (fun n : Int => [AV.sc (.int .u8 n)]) = cB (a :: l)
    rw [flat_cB l]; rfl
theorem ok_byt8 {l : List Int} (h : ∀ a ∈ l, IntKind.u8.min ≤ a ∧ a ≤ IntKind.u8.max) : byt8 l := fun x hx => by
  have := h x hx
  simp only [IntKind.min, IntKind.max, IntKind.signed, IntKind.bits] at this
  simp at this; omega
theorem is_law (l : List Int) (h : l.length ≤ maxLen ∧ ∀ a ∈ l, IntKind.u8.min ≤ a ∧ a ≤ IntKind.u8.max) : Con Try.prog 3 [] [.fz l.length (l.flatMap fun n : Int => [AV.sc (.int .u8 n)])] [] (Bo true) := by
  rw [flat_cB]
  exact is_con l (ok_byt8 h.2)
end Go.Proofs.Ytdjjibmjinllnaa.DigS
