import Derived.Test.YtnfgnafphfddhaaCodC
import Derived.Test.YtnfgnafphfddhaaSpnQ
namespace Go.Proofs.Ytnfgnafphfddhaa.SpnL
open Go Go.Sim Go.Sim.E Go.RowKit Go.Proofs Go.Proofs.Ytnfgnafphfddhaa.Cod Go.Proofs.Ytnfgnafphfddhaa.Tab Go.Proofs.Ytnfgnafphfddhaa.SpnP Go.Proofs.Ytnfgnafphfddhaa.SpnA Go.Proofs.Ytnfgnafphfddhaa.SpnB Go.Proofs.Ytnfgnafphfddhaa.SpnC Go.Proofs.Ytnfgnafphfddhaa.SpnD Go.Proofs.Ytnfgnafphfddhaa.SpnE Go.Proofs.Ytnfgnafphfddhaa.SpnQ
set_option linter.unusedVariables false
set_option linter.unusedSimpArgs false
set_option maxRecDepth 100000
set_option maxHeartbeats 4000000
theorem beq_self (b : Bool) : (b == b) = true := by cases b <;> rfl
theorem deqT {α : Type} (a : α) [Decidable (a = a)] : decide (a = a) = true := by simp
theorem plays_con (l : List Rg) (n : Int) : Con Try.prog 8 [] [fR l, I n] [] (Bo true) := by
  refine con_j b8 rfl ?_
  sym =>
  simp [Zab,Zac,Zad,Zak,Zam,Zaz,Za0,Za1,Za2,Za3,Za4,Za5,Za9,Zba,Zbb,Zbc,Zbe,Zbg,Zbu,Zb7,Zcv,Zc3,Zc7,Zc8,Zdc,Zdd,Zde,Zdf,Zdg,Zdh,Zdi,Zdj,Zdk,Zdm,Zdo,Zdp,Zdq,Zdr,Zdt,Zdu,Zdv,Zdw,Zdx,Zdy,Zdz,Zd0,Zd1,Zd2,Zd3,Zeb,Zec,Zek,Zen,Zeq,Zer,Zes,Zet,Zev,Zew,Zex,Zez,Ze0,Ze1,Ze2,Ze3,Ze5,Ze8,Zfc,Zfd,Zfe,Zfh,Zfi,Zfl,Zfn,Zfz,Zf5,Zgr,Zgs,Zgt,Zhb,Zhc,Zin,Ziu,Ziv,Ziw,Zi6,Zjh,Zji,Zjn,Zjr,Zjw,Zj7,Zka,Zkb,Zkx,Zky,Zk0,Zk1,Zla,Zlb,Zlc,Zld,Zle,Zlf,Zlh,Zlj,Zlk,Zll,Zlm,Zlz,Zl2,Zmt,Zmv,Zmw,Zmx,Zmz,Zm2,Zm5,Zm7,Zm9,Zna,Znb,Zne,Znf,Zng,Znn,Zno,Znp,Zos,Zot,Zo7,Zo8,Zpc,eq_self,true_and,and_true,callable_32]
  tactic =>
  refine cl none (grown_con l) trivial ?_
  have hq : (l.take 30).length ≤ 30 := by simp; omega
  generalize l.take 30 = q at *
  have g1 := gS_length q
  have g2 := gR_length q
  have c1 := rranges_con (gR q) 0 (by omega)
  rw [ranges_eq] at c1
  have c2 := rsize_con (gR q) 0 (by omega)
  rw [ranges_eq] at c2
  have c3 := rhas_con (gR q) 0 (by omega) n
  rw [← has_eq] at c3
  have c4 := rend_con (gR q) 0 (by omega) n
  rw [← end_eq] at c4
  sym =>
  simp [Zab,Zac,Zad,Zak,Zam,Zaz,Za0,Za1,Za2,Za3,Za4,Za5,Za9,Zba,Zbb,Zbc,Zbe,Zbg,Zbu,Zb7,Zcv,Zc3,Zc7,Zc8,Zdc,Zdd,Zde,Zdf,Zdg,Zdh,Zdi,Zdj,Zdk,Zdm,Zdo,Zdp,Zdq,Zdr,Zdt,Zdu,Zdv,Zdw,Zdx,Zdy,Zdz,Zd0,Zd1,Zd2,Zd3,Zeb,Zec,Zek,Zen,Zeq,Zer,Zes,Zet,Zev,Zew,Zex,Zez,Ze0,Ze1,Ze2,Ze3,Ze5,Ze8,Zfc,Zfd,Zfe,Zfh,Zfi,Zfl,Zfn,Zfz,Zf5,Zgr,Zgs,Zgt,Zhb,Zhc,Zin,Ziu,Ziv,Ziw,Zi6,Zjh,Zji,Zjn,Zjr,Zjw,Zj7,Zka,Zkb,Zkx,Zky,Zk0,Zk1,Zla,Zlb,Zlc,Zld,Zle,Zlf,Zlh,Zlj,Zlk,Zll,Zlm,Zlz,Zl2,Zmt,Zmv,Zmw,Zmx,Zmz,Zm2,Zm5,Zm7,Zm9,Zna,Znb,Zne,Znf,Zng,Znn,Zno,Znp,Zos,Zot,Zo7,Zo8,Zpc,eq_self,true_and,and_true,callable_34]
  tactic =>
  refine cl none (ranges_con _ (by omega)) trivial ?_
  sym =>
  simp [Zab,Zac,Zad,Zak,Zam,Zaz,Za0,Za1,Za2,Za3,Za4,Za5,Za9,Zba,Zbb,Zbc,Zbe,Zbg,Zbu,Zb7,Zcv,Zc3,Zc7,Zc8,Zdc,Zdd,Zde,Zdf,Zdg,Zdh,Zdi,Zdj,Zdk,Zdm,Zdo,Zdp,Zdq,Zdr,Zdt,Zdu,Zdv,Zdw,Zdx,Zdy,Zdz,Zd0,Zd1,Zd2,Zd3,Zeb,Zec,Zek,Zen,Zeq,Zer,Zes,Zet,Zev,Zew,Zex,Zez,Ze0,Ze1,Ze2,Ze3,Ze5,Ze8,Zfc,Zfd,Zfe,Zfh,Zfi,Zfl,Zfn,Zfz,Zf5,Zgr,Zgs,Zgt,Zhb,Zhc,Zin,Ziu,Ziv,Ziw,Zi6,Zjh,Zji,Zjn,Zjr,Zjw,Zj7,Zka,Zkb,Zkx,Zky,Zk0,Zk1,Zla,Zlb,Zlc,Zld,Zle,Zlf,Zlh,Zlj,Zlk,Zll,Zlm,Zlz,Zl2,Zmt,Zmv,Zmw,Zmx,Zmz,Zm2,Zm5,Zm7,Zm9,Zna,Znb,Zne,Znf,Zng,Znn,Zno,Znp,Zos,Zot,Zo7,Zo8,Zpc,eq_self,true_and,and_true,callable_35]
  tactic =>
  refine cl none (c1) trivial ?_
  sym =>
  simp [Zab,Zac,Zad,Zak,Zam,Zaz,Za0,Za1,Za2,Za3,Za4,Za5,Za9,Zba,Zbb,Zbc,Zbe,Zbg,Zbu,Zb7,Zcv,Zc3,Zc7,Zc8,Zdc,Zdd,Zde,Zdf,Zdg,Zdh,Zdi,Zdj,Zdk,Zdm,Zdo,Zdp,Zdq,Zdr,Zdt,Zdu,Zdv,Zdw,Zdx,Zdy,Zdz,Zd0,Zd1,Zd2,Zd3,Zeb,Zec,Zek,Zen,Zeq,Zer,Zes,Zet,Zev,Zew,Zex,Zez,Ze0,Ze1,Ze2,Ze3,Ze5,Ze8,Zfc,Zfd,Zfe,Zfh,Zfi,Zfl,Zfn,Zfz,Zf5,Zgr,Zgs,Zgt,Zhb,Zhc,Zin,Ziu,Ziv,Ziw,Zi6,Zjh,Zji,Zjn,Zjr,Zjw,Zj7,Zka,Zkb,Zkx,Zky,Zk0,Zk1,Zla,Zlb,Zlc,Zld,Zle,Zlf,Zlh,Zlj,Zlk,Zll,Zlm,Zlz,Zl2,Zmt,Zmv,Zmw,Zmx,Zmz,Zm2,Zm5,Zm7,Zm9,Zna,Znb,Zne,Znf,Zng,Znn,Zno,Znp,Zos,Zot,Zo7,Zo8,Zpc,eq_self,true_and,and_true,callable_33]
  tactic =>
  refine cl none (same_con _ _ (by omega)) trivial ?_
  sym =>
  simp [Zab,Zac,Zad,Zak,Zam,Zaz,Za0,Za1,Za2,Za3,Za4,Za5,Za9,Zba,Zbb,Zbc,Zbe,Zbg,Zbu,Zb7,Zcv,Zc3,Zc7,Zc8,Zdc,Zdd,Zde,Zdf,Zdg,Zdh,Zdi,Zdj,Zdk,Zdm,Zdo,Zdp,Zdq,Zdr,Zdt,Zdu,Zdv,Zdw,Zdx,Zdy,Zdz,Zd0,Zd1,Zd2,Zd3,Zeb,Zec,Zek,Zen,Zeq,Zer,Zes,Zet,Zev,Zew,Zex,Zez,Ze0,Ze1,Ze2,Ze3,Ze5,Ze8,Zfc,Zfd,Zfe,Zfh,Zfi,Zfl,Zfn,Zfz,Zf5,Zgr,Zgs,Zgt,Zhb,Zhc,Zin,Ziu,Ziv,Ziw,Zi6,Zjh,Zji,Zjn,Zjr,Zjw,Zj7,Zka,Zkb,Zkx,Zky,Zk0,Zk1,Zla,Zlb,Zlc,Zld,Zle,Zlf,Zlh,Zlj,Zlk,Zll,Zlm,Zlz,Zl2,Zmt,Zmv,Zmw,Zmx,Zmz,Zm2,Zm5,Zm7,Zm9,Zna,Znb,Zne,Znf,Zng,Znn,Zno,Znp,Zos,Zot,Zo7,Zo8,Zpc,eq_self,true_and,and_true,callable_36,deqT]
  tactic =>
  refine cl none (size_con _ (by omega)) trivial ?_
  sym =>
  simp [Zab,Zac,Zad,Zak,Zam,Zaz,Za0,Za1,Za2,Za3,Za4,Za5,Za9,Zba,Zbb,Zbc,Zbe,Zbg,Zbu,Zb7,Zcv,Zc3,Zc7,Zc8,Zdc,Zdd,Zde,Zdf,Zdg,Zdh,Zdi,Zdj,Zdk,Zdm,Zdo,Zdp,Zdq,Zdr,Zdt,Zdu,Zdv,Zdw,Zdx,Zdy,Zdz,Zd0,Zd1,Zd2,Zd3,Zeb,Zec,Zek,Zen,Zeq,Zer,Zes,Zet,Zev,Zew,Zex,Zez,Ze0,Ze1,Ze2,Ze3,Ze5,Ze8,Zfc,Zfd,Zfe,Zfh,Zfi,Zfl,Zfn,Zfz,Zf5,Zgr,Zgs,Zgt,Zhb,Zhc,Zin,Ziu,Ziv,Ziw,Zi6,Zjh,Zji,Zjn,Zjr,Zjw,Zj7,Zka,Zkb,Zkx,Zky,Zk0,Zk1,Zla,Zlb,Zlc,Zld,Zle,Zlf,Zlh,Zlj,Zlk,Zll,Zlm,Zlz,Zl2,Zmt,Zmv,Zmw,Zmx,Zmz,Zm2,Zm5,Zm7,Zm9,Zna,Znb,Zne,Znf,Zng,Znn,Zno,Znp,Zos,Zot,Zo7,Zo8,Zpc,eq_self,true_and,and_true,callable_37]
  tactic =>
  refine cl none (c2) trivial ?_
  sym =>
  simp [Zab,Zac,Zad,Zak,Zam,Zaz,Za0,Za1,Za2,Za3,Za4,Za5,Za9,Zba,Zbb,Zbc,Zbe,Zbg,Zbu,Zb7,Zcv,Zc3,Zc7,Zc8,Zdc,Zdd,Zde,Zdf,Zdg,Zdh,Zdi,Zdj,Zdk,Zdm,Zdo,Zdp,Zdq,Zdr,Zdt,Zdu,Zdv,Zdw,Zdx,Zdy,Zdz,Zd0,Zd1,Zd2,Zd3,Zeb,Zec,Zek,Zen,Zeq,Zer,Zes,Zet,Zev,Zew,Zex,Zez,Ze0,Ze1,Ze2,Ze3,Ze5,Ze8,Zfc,Zfd,Zfe,Zfh,Zfi,Zfl,Zfn,Zfz,Zf5,Zgr,Zgs,Zgt,Zhb,Zhc,Zin,Ziu,Ziv,Ziw,Zi6,Zjh,Zji,Zjn,Zjr,Zjw,Zj7,Zka,Zkb,Zkx,Zky,Zk0,Zk1,Zla,Zlb,Zlc,Zld,Zle,Zlf,Zlh,Zlj,Zlk,Zll,Zlm,Zlz,Zl2,Zmt,Zmv,Zmw,Zmx,Zmz,Zm2,Zm5,Zm7,Zm9,Zna,Znb,Zne,Znf,Zng,Znn,Zno,Znp,Zos,Zot,Zo7,Zo8,Zpc,eq_self,true_and,and_true,callable_38]
  tactic =>
  refine cl none (has_con _ (by omega) n) trivial ?_
  sym =>
  simp [Zab,Zac,Zad,Zak,Zam,Zaz,Za0,Za1,Za2,Za3,Za4,Za5,Za9,Zba,Zbb,Zbc,Zbe,Zbg,Zbu,Zb7,Zcv,Zc3,Zc7,Zc8,Zdc,Zdd,Zde,Zdf,Zdg,Zdh,Zdi,Zdj,Zdk,Zdm,Zdo,Zdp,Zdq,Zdr,Zdt,Zdu,Zdv,Zdw,Zdx,Zdy,Zdz,Zd0,Zd1,Zd2,Zd3,Zeb,Zec,Zek,Zen,Zeq,Zer,Zes,Zet,Zev,Zew,Zex,Zez,Ze0,Ze1,Ze2,Ze3,Ze5,Ze8,Zfc,Zfd,Zfe,Zfh,Zfi,Zfl,Zfn,Zfz,Zf5,Zgr,Zgs,Zgt,Zhb,Zhc,Zin,Ziu,Ziv,Ziw,Zi6,Zjh,Zji,Zjn,Zjr,Zjw,Zj7,Zka,Zkb,Zkx,Zky,Zk0,Zk1,Zla,Zlb,Zlc,Zld,Zle,Zlf,Zlh,Zlj,Zlk,Zll,Zlm,Zlz,Zl2,Zmt,Zmv,Zmw,Zmx,Zmz,Zm2,Zm5,Zm7,Zm9,Zna,Znb,Zne,Znf,Zng,Znn,Zno,Znp,Zos,Zot,Zo7,Zo8,Zpc,eq_self,true_and,and_true,callable_39]
  tactic =>
  refine cl none (c3) trivial ?_
  sym =>
  simp [Zab,Zac,Zad,Zak,Zam,Zaz,Za0,Za1,Za2,Za3,Za4,Za5,Za9,Zba,Zbb,Zbc,Zbe,Zbg,Zbu,Zb7,Zcv,Zc3,Zc7,Zc8,Zdc,Zdd,Zde,Zdf,Zdg,Zdh,Zdi,Zdj,Zdk,Zdm,Zdo,Zdp,Zdq,Zdr,Zdt,Zdu,Zdv,Zdw,Zdx,Zdy,Zdz,Zd0,Zd1,Zd2,Zd3,Zeb,Zec,Zek,Zen,Zeq,Zer,Zes,Zet,Zev,Zew,Zex,Zez,Ze0,Ze1,Ze2,Ze3,Ze5,Ze8,Zfc,Zfd,Zfe,Zfh,Zfi,Zfl,Zfn,Zfz,Zf5,Zgr,Zgs,Zgt,Zhb,Zhc,Zin,Ziu,Ziv,Ziw,Zi6,Zjh,Zji,Zjn,Zjr,Zjw,Zj7,Zka,Zkb,Zkx,Zky,Zk0,Zk1,Zla,Zlb,Zlc,Zld,Zle,Zlf,Zlh,Zlj,Zlk,Zll,Zlm,Zlz,Zl2,Zmt,Zmv,Zmw,Zmx,Zmz,Zm2,Zm5,Zm7,Zm9,Zna,Znb,Zne,Znf,Zng,Znn,Zno,Znp,Zos,Zot,Zo7,Zo8,Zpc,eq_self,true_and,and_true,callable_40,beq_self]
  tactic =>
  refine cl none (end_con _ (by omega) n) trivial ?_
  sym =>
  simp [Zab,Zac,Zad,Zak,Zam,Zaz,Za0,Za1,Za2,Za3,Za4,Za5,Za9,Zba,Zbb,Zbc,Zbe,Zbg,Zbu,Zb7,Zcv,Zc3,Zc7,Zc8,Zdc,Zdd,Zde,Zdf,Zdg,Zdh,Zdi,Zdj,Zdk,Zdm,Zdo,Zdp,Zdq,Zdr,Zdt,Zdu,Zdv,Zdw,Zdx,Zdy,Zdz,Zd0,Zd1,Zd2,Zd3,Zeb,Zec,Zek,Zen,Zeq,Zer,Zes,Zet,Zev,Zew,Zex,Zez,Ze0,Ze1,Ze2,Ze3,Ze5,Ze8,Zfc,Zfd,Zfe,Zfh,Zfi,Zfl,Zfn,Zfz,Zf5,Zgr,Zgs,Zgt,Zhb,Zhc,Zin,Ziu,Ziv,Ziw,Zi6,Zjh,Zji,Zjn,Zjr,Zjw,Zj7,Zka,Zkb,Zkx,Zky,Zk0,Zk1,Zla,Zlb,Zlc,Zld,Zle,Zlf,Zlh,Zlj,Zlk,Zll,Zlm,Zlz,Zl2,Zmt,Zmv,Zmw,Zmx,Zmz,Zm2,Zm5,Zm7,Zm9,Zna,Znb,Zne,Znf,Zng,Znn,Zno,Znp,Zos,Zot,Zo7,Zo8,Zpc,eq_self,true_and,and_true,callable_41]
  tactic =>
  refine cl none (c4) trivial ?_
  sym =>
  simp [Zab,Zac,Zad,Zak,Zam,Zaz,Za0,Za1,Za2,Za3,Za4,Za5,Za9,Zba,Zbb,Zbc,Zbe,Zbg,Zbu,Zb7,Zcv,Zc3,Zc7,Zc8,Zdc,Zdd,Zde,Zdf,Zdg,Zdh,Zdi,Zdj,Zdk,Zdm,Zdo,Zdp,Zdq,Zdr,Zdt,Zdu,Zdv,Zdw,Zdx,Zdy,Zdz,Zd0,Zd1,Zd2,Zd3,Zeb,Zec,Zek,Zen,Zeq,Zer,Zes,Zet,Zev,Zew,Zex,Zez,Ze0,Ze1,Ze2,Ze3,Ze5,Ze8,Zfc,Zfd,Zfe,Zfh,Zfi,Zfl,Zfn,Zfz,Zf5,Zgr,Zgs,Zgt,Zhb,Zhc,Zin,Ziu,Ziv,Ziw,Zi6,Zjh,Zji,Zjn,Zjr,Zjw,Zj7,Zka,Zkb,Zkx,Zky,Zk0,Zk1,Zla,Zlb,Zlc,Zld,Zle,Zlf,Zlh,Zlj,Zlk,Zll,Zlm,Zlz,Zl2,Zmt,Zmv,Zmw,Zmx,Zmz,Zm2,Zm5,Zm7,Zm9,Zna,Znb,Zne,Znf,Zng,Znn,Zno,Znp,Zos,Zot,Zo7,Zo8,Zpc,eq_self,true_and,and_true,callable_42]
  tactic =>
  refine cl none (alive_con) trivial ?_
  sym =>
  simp [Zab,Zac,Zad,Zak,Zam,Zaz,Za0,Za1,Za2,Za3,Za4,Za5,Za9,Zba,Zbb,Zbc,Zbe,Zbg,Zbu,Zb7,Zcv,Zc3,Zc7,Zc8,Zdc,Zdd,Zde,Zdf,Zdg,Zdh,Zdi,Zdj,Zdk,Zdm,Zdo,Zdp,Zdq,Zdr,Zdt,Zdu,Zdv,Zdw,Zdx,Zdy,Zdz,Zd0,Zd1,Zd2,Zd3,Zeb,Zec,Zek,Zen,Zeq,Zer,Zes,Zet,Zev,Zew,Zex,Zez,Ze0,Ze1,Ze2,Ze3,Ze5,Ze8,Zfc,Zfd,Zfe,Zfh,Zfi,Zfl,Zfn,Zfz,Zf5,Zgr,Zgs,Zgt,Zhb,Zhc,Zin,Ziu,Ziv,Ziw,Zi6,Zjh,Zji,Zjn,Zjr,Zjw,Zj7,Zka,Zkb,Zkx,Zky,Zk0,Zk1,Zla,Zlb,Zlc,Zld,Zle,Zlf,Zlh,Zlj,Zlk,Zll,Zlm,Zlz,Zl2,Zmt,Zmv,Zmw,Zmx,Zmz,Zm2,Zm5,Zm7,Zm9,Zna,Znb,Zne,Znf,Zng,Znn,Zno,Znp,Zos,Zot,Zo7,Zo8,Zpc,eq_self,true_and,and_true]
  tactic =>
  refine endA ?_
  sym =>
  simp [Zab,Zac,Zad,Zak,Zam,Zaz,Za0,Za1,Za2,Za3,Za4,Za5,Za9,Zba,Zbb,Zbc,Zbe,Zbg,Zbu,Zb7,Zcv,Zc3,Zc7,Zc8,Zdc,Zdd,Zde,Zdf,Zdg,Zdh,Zdi,Zdj,Zdk,Zdm,Zdo,Zdp,Zdq,Zdr,Zdt,Zdu,Zdv,Zdw,Zdx,Zdy,Zdz,Zd0,Zd1,Zd2,Zd3,Zeb,Zec,Zek,Zen,Zeq,Zer,Zes,Zet,Zev,Zew,Zex,Zez,Ze0,Ze1,Ze2,Ze3,Ze5,Ze8,Zfc,Zfd,Zfe,Zfh,Zfi,Zfl,Zfn,Zfz,Zf5,Zgr,Zgs,Zgt,Zhb,Zhc,Zin,Ziu,Ziv,Ziw,Zi6,Zjh,Zji,Zjn,Zjr,Zjw,Zj7,Zka,Zkb,Zkx,Zky,Zk0,Zk1,Zla,Zlb,Zlc,Zld,Zle,Zlf,Zlh,Zlj,Zlk,Zll,Zlm,Zlz,Zl2,Zmt,Zmv,Zmw,Zmx,Zmz,Zm2,Zm5,Zm7,Zm9,Zna,Znb,Zne,Znf,Zng,Znn,Zno,Znp,Zos,Zot,Zo7,Zo8,Zpc,eq_self,true_and,and_true]
theorem aboveF_length (n m : Int) : ∀ (l c : List Rg), (aboveF n m l c).length ≤ l.length + c.length
  | [], c => by simp [aboveF]
  | r :: l, c => by
    unfold aboveF
    have h1 := aboveF_length n m l (c ++ [r])
    have h2 := aboveF_length n m l c
    simp only [List.length_append, List.length_cons, List.length_nil] at h1 ⊢
    split <;> omega
theorem asks_con (l : List Rg) (a b m : Int) : Con Try.prog 11 [] [fR l, .ag [I a, I b], I m] [] (Bo true) := by
  refine con_j b11 rfl ?_
  sym =>
  simp [Zab,Zac,Zad,Zak,Zam,Zaz,Za0,Za1,Za2,Za3,Za4,Za5,Za9,Zba,Zbb,Zbc,Zbe,Zbg,Zbu,Zbw,Zb7,Zcv,Zcx,Zc3,Zc7,Zc8,Zdc,Zdd,Zde,Zdf,Zdg,Zdh,Zdi,Zdj,Zdk,Zdm,Zdo,Zdp,Zdq,Zdr,Zdt,Zdu,Zdv,Zdw,Zdx,Zdy,Zdz,Zd0,Zd1,Zd2,Zd3,Zeb,Zec,Zek,Zen,Zeq,Zer,Zes,Zet,Zev,Zew,Zex,Zez,Ze0,Ze1,Ze2,Ze3,Ze5,Ze8,Zfc,Zfd,Zfe,Zfh,Zfi,Zfl,Zfn,Zf5,Zgr,Zgs,Zgt,Zgv,Zgw,Zgx,Zhb,Zhc,Zin,Zio,Zip,Ziu,Ziv,Ziw,Zi6,Zjh,Zji,Zjn,Zjw,Zj7,Zka,Zkb,Zkx,Zky,Zk0,Zk1,Zla,Zlb,Zlc,Zld,Zle,Zlf,Zlh,Zlj,Zlk,Zll,Zlm,Zlz,Zl2,Zmt,Zmv,Zmw,Zmx,Zmz,Zm2,Zm5,Zm6,Zm7,Zm9,Zna,Znb,Zne,Znf,Zng,Znn,Zno,Znp,Zos,Zot,Zo7,Zo8,Zpc,eq_self,true_and,and_true,callable_32]
  tactic =>
  refine cl none (grown_con l) trivial ?_
  have hq : (l.take 30).length ≤ 30 := by simp; omega
  generalize l.take 30 = q at *
  have g1 := gS_length q
  have g2 := gR_length q
  have c1 := rcovers_con (gR q) 0 (by omega) a b
  rw [← covers_eq] at c1
  have c2 := rabove_con (gR q) 0 (by omega) a m
  rw [ranges_eq] at c2
  have c3 := pieces_con (gR q) 0 (by omega) a b false
  have c4 := gaps_con (gS q) (by omega) a b
  rw [gaps_eq] at c4
  have h1 := aboveF_length a m (gS q) []
  have h2 := pcs_length (gR q) a b false
  rw [List.length_nil] at h1
  sym =>
  simp [Zab,Zac,Zad,Zak,Zam,Zaz,Za0,Za1,Za2,Za3,Za4,Za5,Za9,Zba,Zbb,Zbc,Zbe,Zbg,Zbu,Zbw,Zb7,Zcv,Zcx,Zc3,Zc7,Zc8,Zdc,Zdd,Zde,Zdf,Zdg,Zdh,Zdi,Zdj,Zdk,Zdm,Zdo,Zdp,Zdq,Zdr,Zdt,Zdu,Zdv,Zdw,Zdx,Zdy,Zdz,Zd0,Zd1,Zd2,Zd3,Zeb,Zec,Zek,Zen,Zeq,Zer,Zes,Zet,Zev,Zew,Zex,Zez,Ze0,Ze1,Ze2,Ze3,Ze5,Ze8,Zfc,Zfd,Zfe,Zfh,Zfi,Zfl,Zfn,Zf5,Zgr,Zgs,Zgt,Zgv,Zgw,Zgx,Zhb,Zhc,Zin,Zio,Zip,Ziu,Ziv,Ziw,Zi6,Zjh,Zji,Zjn,Zjw,Zj7,Zka,Zkb,Zkx,Zky,Zk0,Zk1,Zla,Zlb,Zlc,Zld,Zle,Zlf,Zlh,Zlj,Zlk,Zll,Zlm,Zlz,Zl2,Zmt,Zmv,Zmw,Zmx,Zmz,Zm2,Zm5,Zm6,Zm7,Zm9,Zna,Znb,Zne,Znf,Zng,Znn,Zno,Znp,Zos,Zot,Zo7,Zo8,Zpc,eq_self,true_and,and_true,callable_45]
  tactic =>
  refine cl none (covers_con _ (by omega) a b) trivial ?_
  sym =>
  simp [Zab,Zac,Zad,Zak,Zam,Zaz,Za0,Za1,Za2,Za3,Za4,Za5,Za9,Zba,Zbb,Zbc,Zbe,Zbg,Zbu,Zbw,Zb7,Zcv,Zcx,Zc3,Zc7,Zc8,Zdc,Zdd,Zde,Zdf,Zdg,Zdh,Zdi,Zdj,Zdk,Zdm,Zdo,Zdp,Zdq,Zdr,Zdt,Zdu,Zdv,Zdw,Zdx,Zdy,Zdz,Zd0,Zd1,Zd2,Zd3,Zeb,Zec,Zek,Zen,Zeq,Zer,Zes,Zet,Zev,Zew,Zex,Zez,Ze0,Ze1,Ze2,Ze3,Ze5,Ze8,Zfc,Zfd,Zfe,Zfh,Zfi,Zfl,Zfn,Zf5,Zgr,Zgs,Zgt,Zgv,Zgw,Zgx,Zhb,Zhc,Zin,Zio,Zip,Ziu,Ziv,Ziw,Zi6,Zjh,Zji,Zjn,Zjw,Zj7,Zka,Zkb,Zkx,Zky,Zk0,Zk1,Zla,Zlb,Zlc,Zld,Zle,Zlf,Zlh,Zlj,Zlk,Zll,Zlm,Zlz,Zl2,Zmt,Zmv,Zmw,Zmx,Zmz,Zm2,Zm5,Zm6,Zm7,Zm9,Zna,Znb,Zne,Znf,Zng,Znn,Zno,Znp,Zos,Zot,Zo7,Zo8,Zpc,eq_self,true_and,and_true,callable_47]
  tactic =>
  refine cl none (c1) trivial ?_
  sym =>
  simp [Zab,Zac,Zad,Zak,Zam,Zaz,Za0,Za1,Za2,Za3,Za4,Za5,Za9,Zba,Zbb,Zbc,Zbe,Zbg,Zbu,Zbw,Zb7,Zcv,Zcx,Zc3,Zc7,Zc8,Zdc,Zdd,Zde,Zdf,Zdg,Zdh,Zdi,Zdj,Zdk,Zdm,Zdo,Zdp,Zdq,Zdr,Zdt,Zdu,Zdv,Zdw,Zdx,Zdy,Zdz,Zd0,Zd1,Zd2,Zd3,Zeb,Zec,Zek,Zen,Zeq,Zer,Zes,Zet,Zev,Zew,Zex,Zez,Ze0,Ze1,Ze2,Ze3,Ze5,Ze8,Zfc,Zfd,Zfe,Zfh,Zfi,Zfl,Zfn,Zf5,Zgr,Zgs,Zgt,Zgv,Zgw,Zgx,Zhb,Zhc,Zin,Zio,Zip,Ziu,Ziv,Ziw,Zi6,Zjh,Zji,Zjn,Zjw,Zj7,Zka,Zkb,Zkx,Zky,Zk0,Zk1,Zla,Zlb,Zlc,Zld,Zle,Zlf,Zlh,Zlj,Zlk,Zll,Zlm,Zlz,Zl2,Zmt,Zmv,Zmw,Zmx,Zmz,Zm2,Zm5,Zm6,Zm7,Zm9,Zna,Znb,Zne,Znf,Zng,Znn,Zno,Znp,Zos,Zot,Zo7,Zo8,Zpc,eq_self,true_and,and_true,callable_48,beq_self]
  tactic =>
  refine cl none (above_con _ (by omega) a m) trivial ?_
  sym =>
  simp [Zab,Zac,Zad,Zak,Zam,Zaz,Za0,Za1,Za2,Za3,Za4,Za5,Za9,Zba,Zbb,Zbc,Zbe,Zbg,Zbu,Zbw,Zb7,Zcv,Zcx,Zc3,Zc7,Zc8,Zdc,Zdd,Zde,Zdf,Zdg,Zdh,Zdi,Zdj,Zdk,Zdm,Zdo,Zdp,Zdq,Zdr,Zdt,Zdu,Zdv,Zdw,Zdx,Zdy,Zdz,Zd0,Zd1,Zd2,Zd3,Zeb,Zec,Zek,Zen,Zeq,Zer,Zes,Zet,Zev,Zew,Zex,Zez,Ze0,Ze1,Ze2,Ze3,Ze5,Ze8,Zfc,Zfd,Zfe,Zfh,Zfi,Zfl,Zfn,Zf5,Zgr,Zgs,Zgt,Zgv,Zgw,Zgx,Zhb,Zhc,Zin,Zio,Zip,Ziu,Ziv,Ziw,Zi6,Zjh,Zji,Zjn,Zjw,Zj7,Zka,Zkb,Zkx,Zky,Zk0,Zk1,Zla,Zlb,Zlc,Zld,Zle,Zlf,Zlh,Zlj,Zlk,Zll,Zlm,Zlz,Zl2,Zmt,Zmv,Zmw,Zmx,Zmz,Zm2,Zm5,Zm6,Zm7,Zm9,Zna,Znb,Zne,Znf,Zng,Znn,Zno,Znp,Zos,Zot,Zo7,Zo8,Zpc,eq_self,true_and,and_true,callable_49]
  tactic =>
  refine cl none (c2) trivial ?_
  sym =>
  simp [Zab,Zac,Zad,Zak,Zam,Zaz,Za0,Za1,Za2,Za3,Za4,Za5,Za9,Zba,Zbb,Zbc,Zbe,Zbg,Zbu,Zbw,Zb7,Zcv,Zcx,Zc3,Zc7,Zc8,Zdc,Zdd,Zde,Zdf,Zdg,Zdh,Zdi,Zdj,Zdk,Zdm,Zdo,Zdp,Zdq,Zdr,Zdt,Zdu,Zdv,Zdw,Zdx,Zdy,Zdz,Zd0,Zd1,Zd2,Zd3,Zeb,Zec,Zek,Zen,Zeq,Zer,Zes,Zet,Zev,Zew,Zex,Zez,Ze0,Ze1,Ze2,Ze3,Ze5,Ze8,Zfc,Zfd,Zfe,Zfh,Zfi,Zfl,Zfn,Zf5,Zgr,Zgs,Zgt,Zgv,Zgw,Zgx,Zhb,Zhc,Zin,Zio,Zip,Ziu,Ziv,Ziw,Zi6,Zjh,Zji,Zjn,Zjw,Zj7,Zka,Zkb,Zkx,Zky,Zk0,Zk1,Zla,Zlb,Zlc,Zld,Zle,Zlf,Zlh,Zlj,Zlk,Zll,Zlm,Zlz,Zl2,Zmt,Zmv,Zmw,Zmx,Zmz,Zm2,Zm5,Zm6,Zm7,Zm9,Zna,Znb,Zne,Znf,Zng,Znn,Zno,Znp,Zos,Zot,Zo7,Zo8,Zpc,eq_self,true_and,and_true,callable_33]
  tactic =>
  refine cl none (same_con _ _ (by omega)) trivial ?_
  sym =>
  simp [Zab,Zac,Zad,Zak,Zam,Zaz,Za0,Za1,Za2,Za3,Za4,Za5,Za9,Zba,Zbb,Zbc,Zbe,Zbg,Zbu,Zbw,Zb7,Zcv,Zcx,Zc3,Zc7,Zc8,Zdc,Zdd,Zde,Zdf,Zdg,Zdh,Zdi,Zdj,Zdk,Zdm,Zdo,Zdp,Zdq,Zdr,Zdt,Zdu,Zdv,Zdw,Zdx,Zdy,Zdz,Zd0,Zd1,Zd2,Zd3,Zeb,Zec,Zek,Zen,Zeq,Zer,Zes,Zet,Zev,Zew,Zex,Zez,Ze0,Ze1,Ze2,Ze3,Ze5,Ze8,Zfc,Zfd,Zfe,Zfh,Zfi,Zfl,Zfn,Zf5,Zgr,Zgs,Zgt,Zgv,Zgw,Zgx,Zhb,Zhc,Zin,Zio,Zip,Ziu,Ziv,Ziw,Zi6,Zjh,Zji,Zjn,Zjw,Zj7,Zka,Zkb,Zkx,Zky,Zk0,Zk1,Zla,Zlb,Zlc,Zld,Zle,Zlf,Zlh,Zlj,Zlk,Zll,Zlm,Zlz,Zl2,Zmt,Zmv,Zmw,Zmx,Zmz,Zm2,Zm5,Zm6,Zm7,Zm9,Zna,Znb,Zne,Znf,Zng,Znn,Zno,Znp,Zos,Zot,Zo7,Zo8,Zpc,eq_self,true_and,and_true,callable_46,deqT]
  tactic =>
  refine cl none (c4) trivial ?_
  sym =>
  simp [Zab,Zac,Zad,Zak,Zam,Zaz,Za0,Za1,Za2,Za3,Za4,Za5,Za9,Zba,Zbb,Zbc,Zbe,Zbg,Zbu,Zbw,Zb7,Zcv,Zcx,Zc3,Zc7,Zc8,Zdc,Zdd,Zde,Zdf,Zdg,Zdh,Zdi,Zdj,Zdk,Zdm,Zdo,Zdp,Zdq,Zdr,Zdt,Zdu,Zdv,Zdw,Zdx,Zdy,Zdz,Zd0,Zd1,Zd2,Zd3,Zeb,Zec,Zek,Zen,Zeq,Zer,Zes,Zet,Zev,Zew,Zex,Zez,Ze0,Ze1,Ze2,Ze3,Ze5,Ze8,Zfc,Zfd,Zfe,Zfh,Zfi,Zfl,Zfn,Zf5,Zgr,Zgs,Zgt,Zgv,Zgw,Zgx,Zhb,Zhc,Zin,Zio,Zip,Ziu,Ziv,Ziw,Zi6,Zjh,Zji,Zjn,Zjw,Zj7,Zka,Zkb,Zkx,Zky,Zk0,Zk1,Zla,Zlb,Zlc,Zld,Zle,Zlf,Zlh,Zlj,Zlk,Zll,Zlm,Zlz,Zl2,Zmt,Zmv,Zmw,Zmx,Zmz,Zm2,Zm5,Zm6,Zm7,Zm9,Zna,Znb,Zne,Znf,Zng,Znn,Zno,Znp,Zos,Zot,Zo7,Zo8,Zpc,eq_self,true_and,and_true,callable_50]
  tactic =>
  refine cl none (c3) trivial ?_
  sym =>
  simp [Zab,Zac,Zad,Zak,Zam,Zaz,Za0,Za1,Za2,Za3,Za4,Za5,Za9,Zba,Zbb,Zbc,Zbe,Zbg,Zbu,Zbw,Zb7,Zcv,Zcx,Zc3,Zc7,Zc8,Zdc,Zdd,Zde,Zdf,Zdg,Zdh,Zdi,Zdj,Zdk,Zdm,Zdo,Zdp,Zdq,Zdr,Zdt,Zdu,Zdv,Zdw,Zdx,Zdy,Zdz,Zd0,Zd1,Zd2,Zd3,Zeb,Zec,Zek,Zen,Zeq,Zer,Zes,Zet,Zev,Zew,Zex,Zez,Ze0,Ze1,Ze2,Ze3,Ze5,Ze8,Zfc,Zfd,Zfe,Zfh,Zfi,Zfl,Zfn,Zf5,Zgr,Zgs,Zgt,Zgv,Zgw,Zgx,Zhb,Zhc,Zin,Zio,Zip,Ziu,Ziv,Ziw,Zi6,Zjh,Zji,Zjn,Zjw,Zj7,Zka,Zkb,Zkx,Zky,Zk0,Zk1,Zla,Zlb,Zlc,Zld,Zle,Zlf,Zlh,Zlj,Zlk,Zll,Zlm,Zlz,Zl2,Zmt,Zmv,Zmw,Zmx,Zmz,Zm2,Zm5,Zm6,Zm7,Zm9,Zna,Znb,Zne,Znf,Zng,Znn,Zno,Znp,Zos,Zot,Zo7,Zo8,Zpc,eq_self,true_and,and_true,callable_33]
  tactic =>
  refine cl none (same_con _ _ (by omega)) trivial ?_
  sym =>
  simp [Zab,Zac,Zad,Zak,Zam,Zaz,Za0,Za1,Za2,Za3,Za4,Za5,Za9,Zba,Zbb,Zbc,Zbe,Zbg,Zbu,Zbw,Zb7,Zcv,Zcx,Zc3,Zc7,Zc8,Zdc,Zdd,Zde,Zdf,Zdg,Zdh,Zdi,Zdj,Zdk,Zdm,Zdo,Zdp,Zdq,Zdr,Zdt,Zdu,Zdv,Zdw,Zdx,Zdy,Zdz,Zd0,Zd1,Zd2,Zd3,Zeb,Zec,Zek,Zen,Zeq,Zer,Zes,Zet,Zev,Zew,Zex,Zez,Ze0,Ze1,Ze2,Ze3,Ze5,Ze8,Zfc,Zfd,Zfe,Zfh,Zfi,Zfl,Zfn,Zf5,Zgr,Zgs,Zgt,Zgv,Zgw,Zgx,Zhb,Zhc,Zin,Zio,Zip,Ziu,Ziv,Ziw,Zi6,Zjh,Zji,Zjn,Zjw,Zj7,Zka,Zkb,Zkx,Zky,Zk0,Zk1,Zla,Zlb,Zlc,Zld,Zle,Zlf,Zlh,Zlj,Zlk,Zll,Zlm,Zlz,Zl2,Zmt,Zmv,Zmw,Zmx,Zmz,Zm2,Zm5,Zm6,Zm7,Zm9,Zna,Znb,Zne,Znf,Zng,Znn,Zno,Znp,Zos,Zot,Zo7,Zo8,Zpc,eq_self,true_and,and_true,callable_42,deqT]
  tactic =>
  refine cl none (alive_con) trivial ?_
  sym =>
  simp [Zab,Zac,Zad,Zak,Zam,Zaz,Za0,Za1,Za2,Za3,Za4,Za5,Za9,Zba,Zbb,Zbc,Zbe,Zbg,Zbu,Zbw,Zb7,Zcv,Zcx,Zc3,Zc7,Zc8,Zdc,Zdd,Zde,Zdf,Zdg,Zdh,Zdi,Zdj,Zdk,Zdm,Zdo,Zdp,Zdq,Zdr,Zdt,Zdu,Zdv,Zdw,Zdx,Zdy,Zdz,Zd0,Zd1,Zd2,Zd3,Zeb,Zec,Zek,Zen,Zeq,Zer,Zes,Zet,Zev,Zew,Zex,Zez,Ze0,Ze1,Ze2,Ze3,Ze5,Ze8,Zfc,Zfd,Zfe,Zfh,Zfi,Zfl,Zfn,Zf5,Zgr,Zgs,Zgt,Zgv,Zgw,Zgx,Zhb,Zhc,Zin,Zio,Zip,Ziu,Ziv,Ziw,Zi6,Zjh,Zji,Zjn,Zjw,Zj7,Zka,Zkb,Zkx,Zky,Zk0,Zk1,Zla,Zlb,Zlc,Zld,Zle,Zlf,Zlh,Zlj,Zlk,Zll,Zlm,Zlz,Zl2,Zmt,Zmv,Zmw,Zmx,Zmz,Zm2,Zm5,Zm6,Zm7,Zm9,Zna,Znb,Zne,Znf,Zng,Znn,Zno,Znp,Zos,Zot,Zo7,Zo8,Zpc,eq_self,true_and,and_true]
  tactic =>
  refine endA ?_
  sym =>
  simp [Zab,Zac,Zad,Zak,Zam,Zaz,Za0,Za1,Za2,Za3,Za4,Za5,Za9,Zba,Zbb,Zbc,Zbe,Zbg,Zbu,Zbw,Zb7,Zcv,Zcx,Zc3,Zc7,Zc8,Zdc,Zdd,Zde,Zdf,Zdg,Zdh,Zdi,Zdj,Zdk,Zdm,Zdo,Zdp,Zdq,Zdr,Zdt,Zdu,Zdv,Zdw,Zdx,Zdy,Zdz,Zd0,Zd1,Zd2,Zd3,Zeb,Zec,Zek,Zen,Zeq,Zer,Zes,Zet,Zev,Zew,Zex,Zez,Ze0,Ze1,Ze2,Ze3,Ze5,Ze8,Zfc,Zfd,Zfe,Zfh,Zfi,Zfl,Zfn,Zf5,Zgr,Zgs,Zgt,Zgv,Zgw,Zgx,Zhb,Zhc,Zin,Zio,Zip,Ziu,Ziv,Ziw,Zi6,Zjh,Zji,Zjn,Zjw,Zj7,Zka,Zkb,Zkx,Zky,Zk0,Zk1,Zla,Zlb,Zlc,Zld,Zle,Zlf,Zlh,Zlj,Zlk,Zll,Zlm,Zlz,Zl2,Zmt,Zmv,Zmw,Zmx,Zmz,Zm2,Zm5,Zm6,Zm7,Zm9,Zna,Znb,Zne,Znf,Zng,Znn,Zno,Znp,Zos,Zot,Zo7,Zo8,Zpc,eq_self,true_and,and_true]
end Go.Proofs.Ytnfgnafphfddhaa.SpnL
