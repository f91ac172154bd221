import Derived.Test.YtnfgnafphfddhaaLkA
namespace Go.Proofs.Ytnfgnafphfddhaa.LkB
open Go Go.Sim Go.Sim.E Go.RowKit Go.Proofs Go.Proofs.Ytnfgnafphfddhaa.Cod Go.Proofs.Ytnfgnafphfddhaa.Tab Go.Proofs.Ytnfgnafphfddhaa.Bse Go.Proofs.Ytnfgnafphfddhaa.LkA
set_option linter.unusedVariables false
set_option linter.unusedSimpArgs false
set_option maxRecDepth 100000
set_option maxHeartbeats 4000000
/-- What a link holds behind a datagram that is sent, by the kind of its fate. -/
def sndL (room : Nat) (L : List (List Int)) (d : List Int) (k : Int) : List (List Int) := if k = 1 then L else if k = 2 then putL room (putL room L d) d else if k = 3 then fstL room L d else putL room L d
theorem putL_len (room : Nat) (L : List (List Int)) (d : List Int) (h : L.length ≤ room) : (putL room L d).length ≤ room := by
  unfold putL; split
  · rw [List.length_append]; show L.length + 1 ≤ room; omega
  · exact h
theorem fstL_len (room : Nat) (L : List (List Int)) (d : List Int) (h : L.length ≤ room) : (fstL room L d).length ≤ room := by
  unfold fstL; split
  · show L.length + 1 ≤ room; omega
  · exact h
theorem putL_mem {room : Nat} {L : List (List Int)} {d e : List Int} (h : e ∈ putL room L d) : e ∈ L ∨ e = d := by
  unfold putL at h; split at h
  · rcases List.mem_append.1 h with h | h
    · exact .inl h
    · exact .inr (by simpa using h)
  · exact .inl h
theorem fstL_mem {room : Nat} {L : List (List Int)} {d e : List Int} (h : e ∈ fstL room L d) : e ∈ L ∨ e = d := by
  unfold fstL at h; split at h
  · rcases List.mem_cons.1 h with h | h
    · exact .inr h
    · exact .inl h
  · exact .inl h
theorem sndL_len (room : Nat) (L : List (List Int)) (d : List Int) (k : Int) (h : L.length ≤ room) : (sndL room L d k).length ≤ room := by
  unfold sndL; split
  · exact h
  · split
    · exact putL_len _ _ _ (putL_len _ _ _ h)
    · split
      · exact fstL_len _ _ _ h
      · exact putL_len _ _ _ h
theorem sndL_mem {room : Nat} {L : List (List Int)} {d e : List Int} {k : Int} (h : e ∈ sndL room L d k) : e ∈ L ∨ e = d := by
  unfold sndL at h; split at h
  · exact .inl h
  · split at h
    · rcases putL_mem h with h | h
      · exact putL_mem h
      · exact .inr h
    · split at h
      · exact fstL_mem h
      · exact putL_mem h
theorem send_con (room : Nat) (L : List (List Int)) (s lo : Int) (d : List Int) (k at' b0 b1 b2 b3 : Int) (hk : k ≠ 4) (hr : room ≤ 1000) (hL : L.length ≤ room) (hd : d.length ≤ 1000) : ∃ s' lo', Con Try.prog 20 [] [lkA (IN room) L s lo, fB d, ftA k at' b0 b1 b2 b3] [] (lkA (IN room) (sndL room L d k) s' lo') := by
  have hrl := cR_length L
  have hdI := cB_okI d
  by_cases h1 : k = 1
  · subst h1
    refine ⟨IntKind.i64.wrap (s + 1), IntKind.i64.wrap (lo + 1), ?_⟩
    have e : sndL room L d 1 = L := by unfold sndL; rw [if_pos rfl]
    rw [e]
    refine con_j b20 rfl ?_
    sym =>
    simp [Zaa,Zab,Zad,Zae,Zaf,Zag,Zak,Zal,Zam,Zao,Zap,Zar,Zaz,Za0,Za1,Za2,Za3,Za4,Za5,Za9,Zba,Zbb,Zbf,Zbt,Zbv,Zcv,Zcx,Zc3,Zdm,Zrj,Zrl,Zrm,Zrn,Zro,Zrp,Zrq,Zrr,Zva,Zru,Zrx,Zry,Zrz,Zr5,Zr7,Zxa,Zxc,Zxd,Zsf,Zsh,Zsj,Zsm,Zsn,Zso,Zsr,Zs7,Zta,Zte,Zev,Zew,Zez,Ze0,Ze1,Ze2,Ze3,Ze5,Ze8,Zfc,Zfd,Zfe,Zfh,Zfn,Zfq,Zfz,Zgr,Zgs,Zgt,Zgv,Zgw,Zgx,Zin,Zio,Zip,Ziu,Ziv,Ziw,Zi6,Zi7,Zjh,Zji,Zjn,Zjp,Zj7,Zj9,Zlc,Zld,Zle,Zlf,Zlh,Zlk,Zll,Zlm,Zl2,Zmt,Zmv,Zmw,Zmy,Zm0,Zm1,Zm2,Zm5,Zm6,Zm7,Zm9,Zna,Znb,Zne,Znf,Zng,Znn,Zno,Znp,Zos,Zot,Zo7,Zo8,Zo9,Zpa,Zpg,Zp8,Zqb,Zqc,eq_self,true_and,and_true,Bool.and_true]
    tactic =>
    refine endA ?_
    sym =>
    simp [Zaa,Zab,Zad,Zae,Zaf,Zag,Zak,Zal,Zam,Zao,Zap,Zar,Zaz,Za0,Za1,Za2,Za3,Za4,Za5,Za9,Zba,Zbb,Zbf,Zbt,Zbv,Zcv,Zcx,Zc3,Zdm,Zrj,Zrl,Zrm,Zrn,Zro,Zrp,Zrq,Zrr,Zva,Zru,Zrx,Zry,Zrz,Zr5,Zr7,Zxa,Zxc,Zxd,Zsf,Zsh,Zsj,Zsm,Zsn,Zso,Zsr,Zs7,Zta,Zte,Zev,Zew,Zez,Ze0,Ze1,Ze2,Ze3,Ze5,Ze8,Zfc,Zfd,Zfe,Zfh,Zfn,Zfq,Zfz,Zgr,Zgs,Zgt,Zgv,Zgw,Zgx,Zin,Zio,Zip,Ziu,Ziv,Ziw,Zi6,Zi7,Zjh,Zji,Zjn,Zjp,Zj7,Zj9,Zlc,Zld,Zle,Zlf,Zlh,Zlk,Zll,Zlm,Zl2,Zmt,Zmv,Zmw,Zmy,Zm0,Zm1,Zm2,Zm5,Zm6,Zm7,Zm9,Zna,Znb,Zne,Znf,Zng,Znn,Zno,Znp,Zos,Zot,Zo7,Zo8,Zo9,Zpa,Zpg,Zp8,Zqb,Zqc,eq_self,true_and,and_true,Bool.and_true]
  by_cases h2 : k = 2
  · subst h2
    obtain ⟨l1, c1⟩ := put_con room L (IntKind.i64.wrap (s + 1)) lo d hr (by omega) hd
    have hpl := putL_len room L d hL
    obtain ⟨l2, c2⟩ := put_con room (putL room L d) (IntKind.i64.wrap (s + 1)) l1 d hr (by omega) hd
    refine ⟨IntKind.i64.wrap (s + 1), l2, ?_⟩
    have e : sndL room L d 2 = putL room (putL room L d) d := by unfold sndL; rw [if_neg (by decide), if_pos rfl]
    rw [e]
    obtain ⟨M, hM⟩ : ∃ M, M = putL room L d := ⟨_, rfl⟩
    rw [← hM] at c1 c2 ⊢
    obtain ⟨M2, hM2⟩ : ∃ M2, M2 = putL room M d := ⟨_, rfl⟩
    rw [← hM2] at c2 ⊢
    refine con_j b20 rfl ?_
    sym =>
    simp [Zaa,Zab,Zad,Zae,Zaf,Zag,Zak,Zal,Zam,Zao,Zap,Zar,Zaz,Za0,Za1,Za2,Za3,Za4,Za5,Za9,Zba,Zbb,Zbf,Zbt,Zbv,Zcv,Zcx,Zc3,Zdm,Zrj,Zrl,Zrm,Zrn,Zro,Zrp,Zrq,Zrr,Zva,Zru,Zrx,Zry,Zrz,Zr5,Zr7,Zxa,Zxc,Zxd,Zsf,Zsh,Zsj,Zsm,Zsn,Zso,Zsr,Zs7,Zta,Zte,Zev,Zew,Zez,Ze0,Ze1,Ze2,Ze3,Ze5,Ze8,Zfc,Zfd,Zfe,Zfh,Zfn,Zfq,Zfz,Zgr,Zgs,Zgt,Zgv,Zgw,Zgx,Zin,Zio,Zip,Ziu,Ziv,Ziw,Zi6,Zi7,Zjh,Zji,Zjn,Zjp,Zj7,Zj9,Zlc,Zld,Zle,Zlf,Zlh,Zlk,Zll,Zlm,Zl2,Zmt,Zmv,Zmw,Zmy,Zm0,Zm1,Zm2,Zm5,Zm6,Zm7,Zm9,Zna,Znb,Zne,Znf,Zng,Znn,Zno,Znp,Zos,Zot,Zo7,Zo8,Zo9,Zpa,Zpg,Zp8,Zqb,Zqc,eq_self,true_and,and_true,Bool.and_true,callable_63]
    tactic =>
    refine clG [] none c1 rfl ⟨trivial, trivial, rfl⟩ ?_
    sym =>
    simp [Zaa,Zab,Zad,Zae,Zaf,Zag,Zak,Zal,Zam,Zao,Zap,Zar,Zaz,Za0,Za1,Za2,Za3,Za4,Za5,Za9,Zba,Zbb,Zbf,Zbt,Zbv,Zcv,Zcx,Zc3,Zdm,Zrj,Zrl,Zrm,Zrn,Zro,Zrp,Zrq,Zrr,Zva,Zru,Zrx,Zry,Zrz,Zr5,Zr7,Zxa,Zxc,Zxd,Zsf,Zsh,Zsj,Zsm,Zsn,Zso,Zsr,Zs7,Zta,Zte,Zev,Zew,Zez,Ze0,Ze1,Ze2,Ze3,Ze5,Ze8,Zfc,Zfd,Zfe,Zfh,Zfn,Zfq,Zfz,Zgr,Zgs,Zgt,Zgv,Zgw,Zgx,Zin,Zio,Zip,Ziu,Ziv,Ziw,Zi6,Zi7,Zjh,Zji,Zjn,Zjp,Zj7,Zj9,Zlc,Zld,Zle,Zlf,Zlh,Zlk,Zll,Zlm,Zl2,Zmt,Zmv,Zmw,Zmy,Zm0,Zm1,Zm2,Zm5,Zm6,Zm7,Zm9,Zna,Znb,Zne,Znf,Zng,Znn,Zno,Znp,Zos,Zot,Zo7,Zo8,Zo9,Zpa,Zpg,Zp8,Zqb,Zqc,eq_self,true_and,and_true,Bool.and_true,callable_63]
    tactic =>
    refine clG [] none c2 rfl ⟨trivial, trivial, rfl⟩ ?_
    sym =>
    simp [Zaa,Zab,Zad,Zae,Zaf,Zag,Zak,Zal,Zam,Zao,Zap,Zar,Zaz,Za0,Za1,Za2,Za3,Za4,Za5,Za9,Zba,Zbb,Zbf,Zbt,Zbv,Zcv,Zcx,Zc3,Zdm,Zrj,Zrl,Zrm,Zrn,Zro,Zrp,Zrq,Zrr,Zva,Zru,Zrx,Zry,Zrz,Zr5,Zr7,Zxa,Zxc,Zxd,Zsf,Zsh,Zsj,Zsm,Zsn,Zso,Zsr,Zs7,Zta,Zte,Zev,Zew,Zez,Ze0,Ze1,Ze2,Ze3,Ze5,Ze8,Zfc,Zfd,Zfe,Zfh,Zfn,Zfq,Zfz,Zgr,Zgs,Zgt,Zgv,Zgw,Zgx,Zin,Zio,Zip,Ziu,Ziv,Ziw,Zi6,Zi7,Zjh,Zji,Zjn,Zjp,Zj7,Zj9,Zlc,Zld,Zle,Zlf,Zlh,Zlk,Zll,Zlm,Zl2,Zmt,Zmv,Zmw,Zmy,Zm0,Zm1,Zm2,Zm5,Zm6,Zm7,Zm9,Zna,Znb,Zne,Znf,Zng,Znn,Zno,Znp,Zos,Zot,Zo7,Zo8,Zo9,Zpa,Zpg,Zp8,Zqb,Zqc,eq_self,true_and,and_true,Bool.and_true]
    tactic =>
    refine endA ?_
    sym =>
    simp [Zaa,Zab,Zad,Zae,Zaf,Zag,Zak,Zal,Zam,Zao,Zap,Zar,Zaz,Za0,Za1,Za2,Za3,Za4,Za5,Za9,Zba,Zbb,Zbf,Zbt,Zbv,Zcv,Zcx,Zc3,Zdm,Zrj,Zrl,Zrm,Zrn,Zro,Zrp,Zrq,Zrr,Zva,Zru,Zrx,Zry,Zrz,Zr5,Zr7,Zxa,Zxc,Zxd,Zsf,Zsh,Zsj,Zsm,Zsn,Zso,Zsr,Zs7,Zta,Zte,Zev,Zew,Zez,Ze0,Ze1,Ze2,Ze3,Ze5,Ze8,Zfc,Zfd,Zfe,Zfh,Zfn,Zfq,Zfz,Zgr,Zgs,Zgt,Zgv,Zgw,Zgx,Zin,Zio,Zip,Ziu,Ziv,Ziw,Zi6,Zi7,Zjh,Zji,Zjn,Zjp,Zj7,Zj9,Zlc,Zld,Zle,Zlf,Zlh,Zlk,Zll,Zlm,Zl2,Zmt,Zmv,Zmw,Zmy,Zm0,Zm1,Zm2,Zm5,Zm6,Zm7,Zm9,Zna,Znb,Zne,Znf,Zng,Znn,Zno,Znp,Zos,Zot,Zo7,Zo8,Zo9,Zpa,Zpg,Zp8,Zqb,Zqc,eq_self,true_and,and_true,Bool.and_true]
  by_cases h3 : k = 3
  · subst h3
    obtain ⟨l1, c1⟩ := first_con room L (IntKind.i64.wrap (s + 1)) lo d hr (by omega) hd
    refine ⟨IntKind.i64.wrap (s + 1), l1, ?_⟩
    have e : sndL room L d 3 = fstL room L d := by unfold sndL; rw [if_neg (by decide), if_neg (by decide), if_pos rfl]
    rw [e]
    obtain ⟨M, hM⟩ : ∃ M, M = fstL room L d := ⟨_, rfl⟩
    rw [← hM] at c1 ⊢
    refine con_j b20 rfl ?_
    sym =>
    simp [Zaa,Zab,Zad,Zae,Zaf,Zag,Zak,Zal,Zam,Zao,Zap,Zar,Zaz,Za0,Za1,Za2,Za3,Za4,Za5,Za9,Zba,Zbb,Zbf,Zbt,Zbv,Zcv,Zcx,Zc3,Zdm,Zrj,Zrl,Zrm,Zrn,Zro,Zrp,Zrq,Zrr,Zva,Zru,Zrx,Zry,Zrz,Zr5,Zr7,Zxa,Zxc,Zxd,Zsf,Zsh,Zsj,Zsm,Zsn,Zso,Zsr,Zs7,Zta,Zte,Zev,Zew,Zez,Ze0,Ze1,Ze2,Ze3,Ze5,Ze8,Zfc,Zfd,Zfe,Zfh,Zfn,Zfq,Zfz,Zgr,Zgs,Zgt,Zgv,Zgw,Zgx,Zin,Zio,Zip,Ziu,Ziv,Ziw,Zi6,Zi7,Zjh,Zji,Zjn,Zjp,Zj7,Zj9,Zlc,Zld,Zle,Zlf,Zlh,Zlk,Zll,Zlm,Zl2,Zmt,Zmv,Zmw,Zmy,Zm0,Zm1,Zm2,Zm5,Zm6,Zm7,Zm9,Zna,Znb,Zne,Znf,Zng,Znn,Zno,Znp,Zos,Zot,Zo7,Zo8,Zo9,Zpa,Zpg,Zp8,Zqb,Zqc,eq_self,true_and,and_true,Bool.and_true,callable_64]
    tactic =>
    refine clG [] none c1 rfl ⟨trivial, trivial, rfl⟩ ?_
    sym =>
    simp [Zaa,Zab,Zad,Zae,Zaf,Zag,Zak,Zal,Zam,Zao,Zap,Zar,Zaz,Za0,Za1,Za2,Za3,Za4,Za5,Za9,Zba,Zbb,Zbf,Zbt,Zbv,Zcv,Zcx,Zc3,Zdm,Zrj,Zrl,Zrm,Zrn,Zro,Zrp,Zrq,Zrr,Zva,Zru,Zrx,Zry,Zrz,Zr5,Zr7,Zxa,Zxc,Zxd,Zsf,Zsh,Zsj,Zsm,Zsn,Zso,Zsr,Zs7,Zta,Zte,Zev,Zew,Zez,Ze0,Ze1,Ze2,Ze3,Ze5,Ze8,Zfc,Zfd,Zfe,Zfh,Zfn,Zfq,Zfz,Zgr,Zgs,Zgt,Zgv,Zgw,Zgx,Zin,Zio,Zip,Ziu,Ziv,Ziw,Zi6,Zi7,Zjh,Zji,Zjn,Zjp,Zj7,Zj9,Zlc,Zld,Zle,Zlf,Zlh,Zlk,Zll,Zlm,Zl2,Zmt,Zmv,Zmw,Zmy,Zm0,Zm1,Zm2,Zm5,Zm6,Zm7,Zm9,Zna,Znb,Zne,Znf,Zng,Znn,Zno,Znp,Zos,Zot,Zo7,Zo8,Zo9,Zpa,Zpg,Zp8,Zqb,Zqc,eq_self,true_and,and_true,Bool.and_true]
    tactic =>
    refine endA ?_
    sym =>
    simp [Zaa,Zab,Zad,Zae,Zaf,Zag,Zak,Zal,Zam,Zao,Zap,Zar,Zaz,Za0,Za1,Za2,Za3,Za4,Za5,Za9,Zba,Zbb,Zbf,Zbt,Zbv,Zcv,Zcx,Zc3,Zdm,Zrj,Zrl,Zrm,Zrn,Zro,Zrp,Zrq,Zrr,Zva,Zru,Zrx,Zry,Zrz,Zr5,Zr7,Zxa,Zxc,Zxd,Zsf,Zsh,Zsj,Zsm,Zsn,Zso,Zsr,Zs7,Zta,Zte,Zev,Zew,Zez,Ze0,Ze1,Ze2,Ze3,Ze5,Ze8,Zfc,Zfd,Zfe,Zfh,Zfn,Zfq,Zfz,Zgr,Zgs,Zgt,Zgv,Zgw,Zgx,Zin,Zio,Zip,Ziu,Ziv,Ziw,Zi6,Zi7,Zjh,Zji,Zjn,Zjp,Zj7,Zj9,Zlc,Zld,Zle,Zlf,Zlh,Zlk,Zll,Zlm,Zl2,Zmt,Zmv,Zmw,Zmy,Zm0,Zm1,Zm2,Zm5,Zm6,Zm7,Zm9,Zna,Znb,Zne,Znf,Zng,Znn,Zno,Znp,Zos,Zot,Zo7,Zo8,Zo9,Zpa,Zpg,Zp8,Zqb,Zqc,eq_self,true_and,and_true,Bool.and_true]
  · obtain ⟨l1, c1⟩ := put_con room L (IntKind.i64.wrap (s + 1)) lo d hr (by omega) hd
    refine ⟨IntKind.i64.wrap (s + 1), l1, ?_⟩
    have e : sndL room L d k = putL room L d := by unfold sndL; rw [if_neg h1, if_neg h2, if_neg h3]
    rw [e]
    obtain ⟨M, hM⟩ : ∃ M, M = putL room L d := ⟨_, rfl⟩
    rw [← hM] at c1 ⊢
    refine con_j b20 rfl ?_
    sym =>
    simp [Zaa,Zab,Zad,Zae,Zaf,Zag,Zak,Zal,Zam,Zao,Zap,Zar,Zaz,Za0,Za1,Za2,Za3,Za4,Za5,Za9,Zba,Zbb,Zbf,Zbt,Zbv,Zcv,Zcx,Zc3,Zdm,Zrj,Zrl,Zrm,Zrn,Zro,Zrp,Zrq,Zrr,Zva,Zru,Zrx,Zry,Zrz,Zr5,Zr7,Zxa,Zxc,Zxd,Zsf,Zsh,Zsj,Zsm,Zsn,Zso,Zsr,Zs7,Zta,Zte,Zev,Zew,Zez,Ze0,Ze1,Ze2,Ze3,Ze5,Ze8,Zfc,Zfd,Zfe,Zfh,Zfn,Zfq,Zfz,Zgr,Zgs,Zgt,Zgv,Zgw,Zgx,Zin,Zio,Zip,Ziu,Ziv,Ziw,Zi6,Zi7,Zjh,Zji,Zjn,Zjp,Zj7,Zj9,Zlc,Zld,Zle,Zlf,Zlh,Zlk,Zll,Zlm,Zl2,Zmt,Zmv,Zmw,Zmy,Zm0,Zm1,Zm2,Zm5,Zm6,Zm7,Zm9,Zna,Znb,Zne,Znf,Zng,Znn,Zno,Znp,Zos,Zot,Zo7,Zo8,Zo9,Zpa,Zpg,Zp8,Zqb,Zqc,eq_self,true_and,and_true,Bool.and_true,h1,h2,h3,hk,callable_63]
    tactic =>
    refine clG [] none c1 rfl ⟨trivial, trivial, rfl⟩ ?_
    sym =>
    simp [Zaa,Zab,Zad,Zae,Zaf,Zag,Zak,Zal,Zam,Zao,Zap,Zar,Zaz,Za0,Za1,Za2,Za3,Za4,Za5,Za9,Zba,Zbb,Zbf,Zbt,Zbv,Zcv,Zcx,Zc3,Zdm,Zrj,Zrl,Zrm,Zrn,Zro,Zrp,Zrq,Zrr,Zva,Zru,Zrx,Zry,Zrz,Zr5,Zr7,Zxa,Zxc,Zxd,Zsf,Zsh,Zsj,Zsm,Zsn,Zso,Zsr,Zs7,Zta,Zte,Zev,Zew,Zez,Ze0,Ze1,Ze2,Ze3,Ze5,Ze8,Zfc,Zfd,Zfe,Zfh,Zfn,Zfq,Zfz,Zgr,Zgs,Zgt,Zgv,Zgw,Zgx,Zin,Zio,Zip,Ziu,Ziv,Ziw,Zi6,Zi7,Zjh,Zji,Zjn,Zjp,Zj7,Zj9,Zlc,Zld,Zle,Zlf,Zlh,Zlk,Zll,Zlm,Zl2,Zmt,Zmv,Zmw,Zmy,Zm0,Zm1,Zm2,Zm5,Zm6,Zm7,Zm9,Zna,Znb,Zne,Znf,Zng,Znn,Zno,Znp,Zos,Zot,Zo7,Zo8,Zo9,Zpa,Zpg,Zp8,Zqb,Zqc,eq_self,true_and,and_true,Bool.and_true]
    tactic =>
    refine endA ?_
    sym =>
    simp [Zaa,Zab,Zad,Zae,Zaf,Zag,Zak,Zal,Zam,Zao,Zap,Zar,Zaz,Za0,Za1,Za2,Za3,Za4,Za5,Za9,Zba,Zbb,Zbf,Zbt,Zbv,Zcv,Zcx,Zc3,Zdm,Zrj,Zrl,Zrm,Zrn,Zro,Zrp,Zrq,Zrr,Zva,Zru,Zrx,Zry,Zrz,Zr5,Zr7,Zxa,Zxc,Zxd,Zsf,Zsh,Zsj,Zsm,Zsn,Zso,Zsr,Zs7,Zta,Zte,Zev,Zew,Zez,Ze0,Ze1,Ze2,Ze3,Ze5,Ze8,Zfc,Zfd,Zfe,Zfh,Zfn,Zfq,Zfz,Zgr,Zgs,Zgt,Zgv,Zgw,Zgx,Zin,Zio,Zip,Ziu,Ziv,Ziw,Zi6,Zi7,Zjh,Zji,Zjn,Zjp,Zj7,Zj9,Zlc,Zld,Zle,Zlf,Zlh,Zlk,Zll,Zlm,Zl2,Zmt,Zmv,Zmw,Zmy,Zm0,Zm1,Zm2,Zm5,Zm6,Zm7,Zm9,Zna,Znb,Zne,Znf,Zng,Znn,Zno,Znp,Zos,Zot,Zo7,Zo8,Zo9,Zpa,Zpg,Zp8,Zqb,Zqc,eq_self,true_and,and_true,Bool.and_true]
theorem hsend_con (room : Nat) (L : List (List Int)) (s lo : Int) (d : List Int) (k at' b0 b1 b2 b3 : Int) (hk : k ≠ 4) (hr : room ≤ 1000) (hL : L.length ≤ room) (hd : d.length ≤ 1000) : ∃ s' lo', Con Try.prog 20 [(0, ⟨cB d, 1, 0⟩)] [lkA (IN room) L s lo, .lv 0 0 d.length, ftA k at' b0 b1 b2 b3] [(0, ⟨cB d, 1, 0⟩)] (lkA (IN room) (sndL room L d k) s' lo') := by
  have hrl := cR_length L
  have hdI := cB_okI d
  by_cases h1 : k = 1
  · subst h1
    refine ⟨IntKind.i64.wrap (s + 1), IntKind.i64.wrap (lo + 1), ?_⟩
    have e : sndL room L d 1 = L := by unfold sndL; rw [if_pos rfl]
    rw [e]
    refine con_n b20 rfl ?_
    sym =>
    simp [Zaa,Zab,Zad,Zae,Zaf,Zag,Zak,Zal,Zam,Zao,Zap,Zar,Zaz,Za0,Za1,Za2,Za3,Za4,Za5,Za9,Zba,Zbb,Zbf,Zbt,Zbv,Zcv,Zcx,Zc3,Zdm,Zrj,Zrl,Zrm,Zrn,Zro,Zrp,Zrq,Zrr,Zrs,Zru,Zrv,Zrw,Zrx,Zry,Zrz,Zr0,Zr7,Zxa,Zxc,Zxd,Zr9,Zsd,Zse,Zsf,Zsg,Zsh,Zsj,Zsm,Zsn,Zso,Zsp,Zsr,Zs7,Zta,Zte,Zev,Zew,Zez,Ze0,Ze1,Ze2,Ze3,Ze5,Ze8,Zfc,Zfd,Zfe,Zfh,Zfn,Zfq,Zfz,Zgr,Zgs,Zgt,Zgv,Zgw,Zgx,Zin,Zio,Zip,Ziu,Ziv,Ziw,Zi6,Zi7,Zjh,Zji,Zjn,Zjp,Zj7,Zj9,Zlc,Zld,Zle,Zlf,Zlh,Zlk,Zlm,Zlt,Zlx,Zl2,Zmt,Zmv,Zmw,Zmy,Zm0,Zm1,Zm2,Zm5,Zm6,Zm7,Zm9,Zna,Znb,Zne,Znf,Zng,Znh,Znn,Zno,Znp,Zos,Zot,Zo7,Zo8,Zo9,Zpa,Zpg,Zp8,Zqb,Zqc,Zq5,Zq6,Zqh,Zqi,Zqk,Zql,Zqm,Zqn,eq_self,true_and,and_true,Nat.zero_add,Nat.mul_one,Bool.and_true]
    tactic =>
    refine endM [(0, 0)] 2 ?_
    sym =>
    simp [Zaa,Zab,Zad,Zae,Zaf,Zag,Zak,Zal,Zam,Zao,Zap,Zar,Zaz,Za0,Za1,Za2,Za3,Za4,Za5,Za9,Zba,Zbb,Zbf,Zbt,Zbv,Zcv,Zcx,Zc3,Zdm,Zrj,Zrl,Zrm,Zrn,Zro,Zrp,Zrq,Zrr,Zrs,Zru,Zrv,Zrw,Zrx,Zry,Zrz,Zr0,Zr7,Zxa,Zxc,Zxd,Zr9,Zsd,Zse,Zsf,Zsg,Zsh,Zsj,Zsm,Zsn,Zso,Zsp,Zsr,Zs7,Zta,Zte,Zev,Zew,Zez,Ze0,Ze1,Ze2,Ze3,Ze5,Ze8,Zfc,Zfd,Zfe,Zfh,Zfn,Zfq,Zfz,Zgr,Zgs,Zgt,Zgv,Zgw,Zgx,Zin,Zio,Zip,Ziu,Ziv,Ziw,Zi6,Zi7,Zjh,Zji,Zjn,Zjp,Zj7,Zj9,Zlc,Zld,Zle,Zlf,Zlh,Zlk,Zlm,Zlt,Zlx,Zl2,Zmt,Zmv,Zmw,Zmy,Zm0,Zm1,Zm2,Zm5,Zm6,Zm7,Zm9,Zna,Znb,Zne,Znf,Zng,Znh,Znn,Zno,Znp,Zos,Zot,Zo7,Zo8,Zo9,Zpa,Zpg,Zp8,Zqb,Zqc,Zq5,Zq6,Zqh,Zqi,Zqk,Zql,Zqm,Zqn,eq_self,true_and,and_true,Nat.zero_add,Nat.mul_one,Bool.and_true]
    tactic =>
    exact rs_self hdI
  by_cases h2 : k = 2
  · subst h2
    obtain ⟨l1, c1⟩ := hput_con room L (IntKind.i64.wrap (s + 1)) lo d hr (by omega) hd
    have hpl := putL_len room L d hL
    obtain ⟨l2, c2⟩ := hput_con room (putL room L d) (IntKind.i64.wrap (s + 1)) l1 d hr (by omega) hd
    refine ⟨IntKind.i64.wrap (s + 1), l2, ?_⟩
    have e : sndL room L d 2 = putL room (putL room L d) d := by unfold sndL; rw [if_neg (by decide), if_pos rfl]
    rw [e]
    obtain ⟨M, hM⟩ : ∃ M, M = putL room L d := ⟨_, rfl⟩
    rw [← hM] at c1 c2 ⊢
    obtain ⟨M2, hM2⟩ : ∃ M2, M2 = putL room M d := ⟨_, rfl⟩
    rw [← hM2] at c2 ⊢
    refine con_n b20 rfl ?_
    sym =>
    simp [Zaa,Zab,Zad,Zae,Zaf,Zag,Zak,Zal,Zam,Zao,Zap,Zar,Zaz,Za0,Za1,Za2,Za3,Za4,Za5,Za9,Zba,Zbb,Zbf,Zbt,Zbv,Zcv,Zcx,Zc3,Zdm,Zrj,Zrl,Zrm,Zrn,Zro,Zrp,Zrq,Zrr,Zrs,Zru,Zrv,Zrw,Zrx,Zry,Zrz,Zr0,Zr7,Zxa,Zxc,Zxd,Zr9,Zsd,Zse,Zsf,Zsg,Zsh,Zsj,Zsm,Zsn,Zso,Zsp,Zsr,Zs7,Zta,Zte,Zev,Zew,Zez,Ze0,Ze1,Ze2,Ze3,Ze5,Ze8,Zfc,Zfd,Zfe,Zfh,Zfn,Zfq,Zfz,Zgr,Zgs,Zgt,Zgv,Zgw,Zgx,Zin,Zio,Zip,Ziu,Ziv,Ziw,Zi6,Zi7,Zjh,Zji,Zjn,Zjp,Zj7,Zj9,Zlc,Zld,Zle,Zlf,Zlh,Zlk,Zlm,Zlt,Zlx,Zl2,Zmt,Zmv,Zmw,Zmy,Zm0,Zm1,Zm2,Zm5,Zm6,Zm7,Zm9,Zna,Znb,Zne,Znf,Zng,Znh,Znn,Zno,Znp,Zos,Zot,Zo7,Zo8,Zo9,Zpa,Zpg,Zp8,Zqb,Zqc,Zq5,Zq6,Zqh,Zqi,Zqk,Zql,Zqm,Zqn,eq_self,true_and,and_true,Nat.zero_add,Nat.mul_one,Bool.and_true,callable_63]
    tactic =>
    refine ⟨hdI, ?_⟩
    refine clG [some ⟨cB d, 1, 0⟩] none c1 rfl ⟨⟨hdI, trivial⟩, trivial, rfl⟩ ?_
    sym =>
    simp [Zaa,Zab,Zad,Zae,Zaf,Zag,Zak,Zal,Zam,Zao,Zap,Zar,Zaz,Za0,Za1,Za2,Za3,Za4,Za5,Za9,Zba,Zbb,Zbf,Zbt,Zbv,Zcv,Zcx,Zc3,Zdm,Zrj,Zrl,Zrm,Zrn,Zro,Zrp,Zrq,Zrr,Zrs,Zru,Zrv,Zrw,Zrx,Zry,Zrz,Zr0,Zr7,Zxa,Zxc,Zxd,Zr9,Zsd,Zse,Zsf,Zsg,Zsh,Zsj,Zsm,Zsn,Zso,Zsp,Zsr,Zs7,Zta,Zte,Zev,Zew,Zez,Ze0,Ze1,Ze2,Ze3,Ze5,Ze8,Zfc,Zfd,Zfe,Zfh,Zfn,Zfq,Zfz,Zgr,Zgs,Zgt,Zgv,Zgw,Zgx,Zin,Zio,Zip,Ziu,Ziv,Ziw,Zi6,Zi7,Zjh,Zji,Zjn,Zjp,Zj7,Zj9,Zlc,Zld,Zle,Zlf,Zlh,Zlk,Zlm,Zlt,Zlx,Zl2,Zmt,Zmv,Zmw,Zmy,Zm0,Zm1,Zm2,Zm5,Zm6,Zm7,Zm9,Zna,Znb,Zne,Znf,Zng,Znh,Znn,Zno,Znp,Zos,Zot,Zo7,Zo8,Zo9,Zpa,Zpg,Zp8,Zqb,Zqc,Zq5,Zq6,Zqh,Zqi,Zqk,Zql,Zqm,Zqn,eq_self,true_and,and_true,Nat.zero_add,Nat.mul_one,Bool.and_true,callable_63]
    tactic =>
    refine ⟨hdI, ?_⟩
    refine clG [some ⟨cB d, 1, 0⟩] none c2 rfl ⟨⟨hdI, trivial⟩, trivial, rfl⟩ ?_
    sym =>
    simp [Zaa,Zab,Zad,Zae,Zaf,Zag,Zak,Zal,Zam,Zao,Zap,Zar,Zaz,Za0,Za1,Za2,Za3,Za4,Za5,Za9,Zba,Zbb,Zbf,Zbt,Zbv,Zcv,Zcx,Zc3,Zdm,Zrj,Zrl,Zrm,Zrn,Zro,Zrp,Zrq,Zrr,Zrs,Zru,Zrv,Zrw,Zrx,Zry,Zrz,Zr0,Zr7,Zxa,Zxc,Zxd,Zr9,Zsd,Zse,Zsf,Zsg,Zsh,Zsj,Zsm,Zsn,Zso,Zsp,Zsr,Zs7,Zta,Zte,Zev,Zew,Zez,Ze0,Ze1,Ze2,Ze3,Ze5,Ze8,Zfc,Zfd,Zfe,Zfh,Zfn,Zfq,Zfz,Zgr,Zgs,Zgt,Zgv,Zgw,Zgx,Zin,Zio,Zip,Ziu,Ziv,Ziw,Zi6,Zi7,Zjh,Zji,Zjn,Zjp,Zj7,Zj9,Zlc,Zld,Zle,Zlf,Zlh,Zlk,Zlm,Zlt,Zlx,Zl2,Zmt,Zmv,Zmw,Zmy,Zm0,Zm1,Zm2,Zm5,Zm6,Zm7,Zm9,Zna,Znb,Zne,Znf,Zng,Znh,Znn,Zno,Znp,Zos,Zot,Zo7,Zo8,Zo9,Zpa,Zpg,Zp8,Zqb,Zqc,Zq5,Zq6,Zqh,Zqi,Zqk,Zql,Zqm,Zqn,eq_self,true_and,and_true,Nat.zero_add,Nat.mul_one,Bool.and_true]
    tactic =>
    refine endM [(0, 0)] 2 ?_
    sym =>
    simp [Zaa,Zab,Zad,Zae,Zaf,Zag,Zak,Zal,Zam,Zao,Zap,Zar,Zaz,Za0,Za1,Za2,Za3,Za4,Za5,Za9,Zba,Zbb,Zbf,Zbt,Zbv,Zcv,Zcx,Zc3,Zdm,Zrj,Zrl,Zrm,Zrn,Zro,Zrp,Zrq,Zrr,Zrs,Zru,Zrv,Zrw,Zrx,Zry,Zrz,Zr0,Zr7,Zxa,Zxc,Zxd,Zr9,Zsd,Zse,Zsf,Zsg,Zsh,Zsj,Zsm,Zsn,Zso,Zsp,Zsr,Zs7,Zta,Zte,Zev,Zew,Zez,Ze0,Ze1,Ze2,Ze3,Ze5,Ze8,Zfc,Zfd,Zfe,Zfh,Zfn,Zfq,Zfz,Zgr,Zgs,Zgt,Zgv,Zgw,Zgx,Zin,Zio,Zip,Ziu,Ziv,Ziw,Zi6,Zi7,Zjh,Zji,Zjn,Zjp,Zj7,Zj9,Zlc,Zld,Zle,Zlf,Zlh,Zlk,Zlm,Zlt,Zlx,Zl2,Zmt,Zmv,Zmw,Zmy,Zm0,Zm1,Zm2,Zm5,Zm6,Zm7,Zm9,Zna,Znb,Zne,Znf,Zng,Znh,Znn,Zno,Znp,Zos,Zot,Zo7,Zo8,Zo9,Zpa,Zpg,Zp8,Zqb,Zqc,Zq5,Zq6,Zqh,Zqi,Zqk,Zql,Zqm,Zqn,eq_self,true_and,and_true,Nat.zero_add,Nat.mul_one,Bool.and_true]
    tactic =>
    exact rs_self hdI
  by_cases h3 : k = 3
  · subst h3
    obtain ⟨l1, c1⟩ := hfirst_con room L (IntKind.i64.wrap (s + 1)) lo d hr (by omega) hd
    refine ⟨IntKind.i64.wrap (s + 1), l1, ?_⟩
    have e : sndL room L d 3 = fstL room L d := by unfold sndL; rw [if_neg (by decide), if_neg (by decide), if_pos rfl]
    rw [e]
    obtain ⟨M, hM⟩ : ∃ M, M = fstL room L d := ⟨_, rfl⟩
    rw [← hM] at c1 ⊢
    refine con_n b20 rfl ?_
    sym =>
    simp [Zaa,Zab,Zad,Zae,Zaf,Zag,Zak,Zal,Zam,Zao,Zap,Zar,Zaz,Za0,Za1,Za2,Za3,Za4,Za5,Za9,Zba,Zbb,Zbf,Zbt,Zbv,Zcv,Zcx,Zc3,Zdm,Zrj,Zrl,Zrm,Zrn,Zro,Zrp,Zrq,Zrr,Zrs,Zru,Zrv,Zrw,Zrx,Zry,Zrz,Zr0,Zr7,Zxa,Zxc,Zxd,Zr9,Zsd,Zse,Zsf,Zsg,Zsh,Zsj,Zsm,Zsn,Zso,Zsp,Zsr,Zs7,Zta,Zte,Zev,Zew,Zez,Ze0,Ze1,Ze2,Ze3,Ze5,Ze8,Zfc,Zfd,Zfe,Zfh,Zfn,Zfq,Zfz,Zgr,Zgs,Zgt,Zgv,Zgw,Zgx,Zin,Zio,Zip,Ziu,Ziv,Ziw,Zi6,Zi7,Zjh,Zji,Zjn,Zjp,Zj7,Zj9,Zlc,Zld,Zle,Zlf,Zlh,Zlk,Zlm,Zlt,Zlx,Zl2,Zmt,Zmv,Zmw,Zmy,Zm0,Zm1,Zm2,Zm5,Zm6,Zm7,Zm9,Zna,Znb,Zne,Znf,Zng,Znh,Znn,Zno,Znp,Zos,Zot,Zo7,Zo8,Zo9,Zpa,Zpg,Zp8,Zqb,Zqc,Zq5,Zq6,Zqh,Zqi,Zqk,Zql,Zqm,Zqn,eq_self,true_and,and_true,Nat.zero_add,Nat.mul_one,Bool.and_true,callable_64]
    tactic =>
    refine ⟨hdI, ?_⟩
    refine clG [some ⟨cB d, 1, 0⟩] none c1 rfl ⟨⟨hdI, trivial⟩, trivial, rfl⟩ ?_
    sym =>
    simp [Zaa,Zab,Zad,Zae,Zaf,Zag,Zak,Zal,Zam,Zao,Zap,Zar,Zaz,Za0,Za1,Za2,Za3,Za4,Za5,Za9,Zba,Zbb,Zbf,Zbt,Zbv,Zcv,Zcx,Zc3,Zdm,Zrj,Zrl,Zrm,Zrn,Zro,Zrp,Zrq,Zrr,Zrs,Zru,Zrv,Zrw,Zrx,Zry,Zrz,Zr0,Zr7,Zxa,Zxc,Zxd,Zr9,Zsd,Zse,Zsf,Zsg,Zsh,Zsj,Zsm,Zsn,Zso,Zsp,Zsr,Zs7,Zta,Zte,Zev,Zew,Zez,Ze0,Ze1,Ze2,Ze3,Ze5,Ze8,Zfc,Zfd,Zfe,Zfh,Zfn,Zfq,Zfz,Zgr,Zgs,Zgt,Zgv,Zgw,Zgx,Zin,Zio,Zip,Ziu,Ziv,Ziw,Zi6,Zi7,Zjh,Zji,Zjn,Zjp,Zj7,Zj9,Zlc,Zld,Zle,Zlf,Zlh,Zlk,Zlm,Zlt,Zlx,Zl2,Zmt,Zmv,Zmw,Zmy,Zm0,Zm1,Zm2,Zm5,Zm6,Zm7,Zm9,Zna,Znb,Zne,Znf,Zng,Znh,Znn,Zno,Znp,Zos,Zot,Zo7,Zo8,Zo9,Zpa,Zpg,Zp8,Zqb,Zqc,Zq5,Zq6,Zqh,Zqi,Zqk,Zql,Zqm,Zqn,eq_self,true_and,and_true,Nat.zero_add,Nat.mul_one,Bool.and_true]
    tactic =>
    refine endM [(0, 0)] 2 ?_
    sym =>
    simp [Zaa,Zab,Zad,Zae,Zaf,Zag,Zak,Zal,Zam,Zao,Zap,Zar,Zaz,Za0,Za1,Za2,Za3,Za4,Za5,Za9,Zba,Zbb,Zbf,Zbt,Zbv,Zcv,Zcx,Zc3,Zdm,Zrj,Zrl,Zrm,Zrn,Zro,Zrp,Zrq,Zrr,Zrs,Zru,Zrv,Zrw,Zrx,Zry,Zrz,Zr0,Zr7,Zxa,Zxc,Zxd,Zr9,Zsd,Zse,Zsf,Zsg,Zsh,Zsj,Zsm,Zsn,Zso,Zsp,Zsr,Zs7,Zta,Zte,Zev,Zew,Zez,Ze0,Ze1,Ze2,Ze3,Ze5,Ze8,Zfc,Zfd,Zfe,Zfh,Zfn,Zfq,Zfz,Zgr,Zgs,Zgt,Zgv,Zgw,Zgx,Zin,Zio,Zip,Ziu,Ziv,Ziw,Zi6,Zi7,Zjh,Zji,Zjn,Zjp,Zj7,Zj9,Zlc,Zld,Zle,Zlf,Zlh,Zlk,Zlm,Zlt,Zlx,Zl2,Zmt,Zmv,Zmw,Zmy,Zm0,Zm1,Zm2,Zm5,Zm6,Zm7,Zm9,Zna,Znb,Zne,Znf,Zng,Znh,Znn,Zno,Znp,Zos,Zot,Zo7,Zo8,Zo9,Zpa,Zpg,Zp8,Zqb,Zqc,Zq5,Zq6,Zqh,Zqi,Zqk,Zql,Zqm,Zqn,eq_self,true_and,and_true,Nat.zero_add,Nat.mul_one,Bool.and_true]
    tactic =>
    exact rs_self hdI
  · obtain ⟨l1, c1⟩ := hput_con room L (IntKind.i64.wrap (s + 1)) lo d hr (by omega) hd
    refine ⟨IntKind.i64.wrap (s + 1), l1, ?_⟩
    have e : sndL room L d k = putL room L d := by unfold sndL; rw [if_neg h1, if_neg h2, if_neg h3]
    rw [e]
    obtain ⟨M, hM⟩ : ∃ M, M = putL room L d := ⟨_, rfl⟩
    rw [← hM] at c1 ⊢
    refine con_n b20 rfl ?_
    sym =>
    simp [Zaa,Zab,Zad,Zae,Zaf,Zag,Zak,Zal,Zam,Zao,Zap,Zar,Zaz,Za0,Za1,Za2,Za3,Za4,Za5,Za9,Zba,Zbb,Zbf,Zbt,Zbv,Zcv,Zcx,Zc3,Zdm,Zrj,Zrl,Zrm,Zrn,Zro,Zrp,Zrq,Zrr,Zrs,Zru,Zrv,Zrw,Zrx,Zry,Zrz,Zr0,Zr7,Zxa,Zxc,Zxd,Zr9,Zsd,Zse,Zsf,Zsg,Zsh,Zsj,Zsm,Zsn,Zso,Zsp,Zsr,Zs7,Zta,Zte,Zev,Zew,Zez,Ze0,Ze1,Ze2,Ze3,Ze5,Ze8,Zfc,Zfd,Zfe,Zfh,Zfn,Zfq,Zfz,Zgr,Zgs,Zgt,Zgv,Zgw,Zgx,Zin,Zio,Zip,Ziu,Ziv,Ziw,Zi6,Zi7,Zjh,Zji,Zjn,Zjp,Zj7,Zj9,Zlc,Zld,Zle,Zlf,Zlh,Zlk,Zlm,Zlt,Zlx,Zl2,Zmt,Zmv,Zmw,Zmy,Zm0,Zm1,Zm2,Zm5,Zm6,Zm7,Zm9,Zna,Znb,Zne,Znf,Zng,Znh,Znn,Zno,Znp,Zos,Zot,Zo7,Zo8,Zo9,Zpa,Zpg,Zp8,Zqb,Zqc,Zq5,Zq6,Zqh,Zqi,Zqk,Zql,Zqm,Zqn,eq_self,true_and,and_true,Nat.zero_add,Nat.mul_one,Bool.and_true,h1,h2,h3,hk,callable_63]
    tactic =>
    refine ⟨hdI, ?_⟩
    refine clG [some ⟨cB d, 1, 0⟩] none c1 rfl ⟨⟨hdI, trivial⟩, trivial, rfl⟩ ?_
    sym =>
    simp [Zaa,Zab,Zad,Zae,Zaf,Zag,Zak,Zal,Zam,Zao,Zap,Zar,Zaz,Za0,Za1,Za2,Za3,Za4,Za5,Za9,Zba,Zbb,Zbf,Zbt,Zbv,Zcv,Zcx,Zc3,Zdm,Zrj,Zrl,Zrm,Zrn,Zro,Zrp,Zrq,Zrr,Zrs,Zru,Zrv,Zrw,Zrx,Zry,Zrz,Zr0,Zr7,Zxa,Zxc,Zxd,Zr9,Zsd,Zse,Zsf,Zsg,Zsh,Zsj,Zsm,Zsn,Zso,Zsp,Zsr,Zs7,Zta,Zte,Zev,Zew,Zez,Ze0,Ze1,Ze2,Ze3,Ze5,Ze8,Zfc,Zfd,Zfe,Zfh,Zfn,Zfq,Zfz,Zgr,Zgs,Zgt,Zgv,Zgw,Zgx,Zin,Zio,Zip,Ziu,Ziv,Ziw,Zi6,Zi7,Zjh,Zji,Zjn,Zjp,Zj7,Zj9,Zlc,Zld,Zle,Zlf,Zlh,Zlk,Zlm,Zlt,Zlx,Zl2,Zmt,Zmv,Zmw,Zmy,Zm0,Zm1,Zm2,Zm5,Zm6,Zm7,Zm9,Zna,Znb,Zne,Znf,Zng,Znh,Znn,Zno,Znp,Zos,Zot,Zo7,Zo8,Zo9,Zpa,Zpg,Zp8,Zqb,Zqc,Zq5,Zq6,Zqh,Zqi,Zqk,Zql,Zqm,Zqn,eq_self,true_and,and_true,Nat.zero_add,Nat.mul_one,Bool.and_true]
    tactic =>
    refine endM [(0, 0)] 2 ?_
    sym =>
    simp [Zaa,Zab,Zad,Zae,Zaf,Zag,Zak,Zal,Zam,Zao,Zap,Zar,Zaz,Za0,Za1,Za2,Za3,Za4,Za5,Za9,Zba,Zbb,Zbf,Zbt,Zbv,Zcv,Zcx,Zc3,Zdm,Zrj,Zrl,Zrm,Zrn,Zro,Zrp,Zrq,Zrr,Zrs,Zru,Zrv,Zrw,Zrx,Zry,Zrz,Zr0,Zr7,Zxa,Zxc,Zxd,Zr9,Zsd,Zse,Zsf,Zsg,Zsh,Zsj,Zsm,Zsn,Zso,Zsp,Zsr,Zs7,Zta,Zte,Zev,Zew,Zez,Ze0,Ze1,Ze2,Ze3,Ze5,Ze8,Zfc,Zfd,Zfe,Zfh,Zfn,Zfq,Zfz,Zgr,Zgs,Zgt,Zgv,Zgw,Zgx,Zin,Zio,Zip,Ziu,Ziv,Ziw,Zi6,Zi7,Zjh,Zji,Zjn,Zjp,Zj7,Zj9,Zlc,Zld,Zle,Zlf,Zlh,Zlk,Zlm,Zlt,Zlx,Zl2,Zmt,Zmv,Zmw,Zmy,Zm0,Zm1,Zm2,Zm5,Zm6,Zm7,Zm9,Zna,Znb,Zne,Znf,Zng,Znh,Znn,Zno,Znp,Zos,Zot,Zo7,Zo8,Zo9,Zpa,Zpg,Zp8,Zqb,Zqc,Zq5,Zq6,Zqh,Zqi,Zqk,Zql,Zqm,Zqn,eq_self,true_and,and_true,Nat.zero_add,Nat.mul_one,Bool.and_true]
    tactic =>
    exact rs_self hdI
theorem turn_short (d : List Int) (k at' b0 b1 b2 b3 : Int) (h : d.length < 4) : Con Try.prog 15 [] [fB d, ftA k at' b0 b1 b2 b3] [] (.tu [fB [], Bo false]) := by
  have h1 : IN d.length < 4 := by simp only [IN]; omega
  refine con_j b15 rfl ?_
  sym =>
  simp [Zab,Zad,Zae,Zaf,Zak,Zal,Zam,Zao,Zay,Zaz,Za0,Za1,Za2,Za3,Za4,Za5,Za9,Zba,Zbb,Zbf,Zcn,Zcx,Zev,Zew,Zez,Ze0,Ze2,Ze3,Ze5,Zfd,Zfe,Zfh,Zfn,Zf1,Zh6,Zh7,Zio,Zip,Zi6,Zmt,Zmv,Zmw,Zmx,Zmz,Zm3,Zna,Znb,Zos,Zot,Zo7,Zo8,Zpb,Zpw,Zp9,Zqd,Zqe,eq_self,true_and,and_true,h1]
  tactic =>
  refine endA ?_
  sym =>
  simp [Zab,Zad,Zae,Zaf,Zak,Zal,Zam,Zao,Zay,Zaz,Za0,Za1,Za2,Za3,Za4,Za5,Za9,Zba,Zbb,Zbf,Zcn,Zcx,Zev,Zew,Zez,Ze0,Ze2,Ze3,Ze5,Zfd,Zfe,Zfh,Zfn,Zf1,Zh6,Zh7,Zio,Zip,Zi6,Zmt,Zmv,Zmw,Zmx,Zmz,Zm3,Zna,Znb,Zos,Zot,Zo7,Zo8,Zpb,Zpw,Zp9,Zqd,Zqe,eq_self,true_and,and_true]
  tactic =>
  rfl
/-- One byte turned. -/
def trS (d : List Int) (i : Nat) (x : Int) : List Int := d.set i (bits .xor .u8 (d.getD i 0) x)
theorem trS_length (d : List Int) (i : Nat) (x : Int) : (trS d i x).length = d.length := List.length_set
def trK (d : List Int) (a : Nat) (b0 b1 b2 b3 : Int) : Nat → List Int
  | 0 => d
  | 1 => trS d a b0
  | 2 => trS (trS d a b0) (a + 1) b1
  | 3 => trS (trS (trS d a b0) (a + 1) b1) (a + 2) b2
  | _ => trS (trS (trS (trS d a b0) (a + 1) b1) (a + 2) b2) (a + 3) b3
theorem trK_length (d : List Int) (a : Nat) (b0 b1 b2 b3 : Int) (i : Nat) : (trK d a b0 b1 b2 b3 i).length = d.length := by
  match i with
  | 0 => rfl
  | 1 => exact trS_length ..
  | 2 => simp only [trK, trS_length]
  | 3 => simp only [trK, trS_length]
  | i + 4 => simp only [trK, trS_length]
/-- Where a datagram is turned. -/
def trA (d : List Int) (at' : Int) : Nat := (at' % ((d.length : Int) - 3)).toNat
/-- What is turned. -/
def trF (d : List Int) (at' b0 b1 b2 b3 : Int) : List Int := trK d (trA d at') b0 b1 b2 b3 4
def i15 (d : List Int) (a : Nat) (b0 b1 b2 b3 : Int) (n : Nat) (k : Nat) (s : St) : Prop := ∃ (i : Nat), i + k = 4 ∧ s = ⟨[(6, .lv 0 0 n), (7, I (IN a)), (24, .ag [Y b0, Y b1, Y b2, Y b3]), (25, I (IN i))], [(0, ⟨cB (trK d a b0 b1 b2 b3 i), 1, 0⟩)], 1⟩
theorem turn_con (d : List Int) (k at' b0 b1 b2 b3 : Int) (h : 4 ≤ d.length) (hd : d.length ≤ 1000) (ha : 0 ≤ at' ∧ at' < 65536) : Con Try.prog 15 [] [fB d, ftA k at' b0 b1 b2 b3] [] (.tu [fB (trF d at' b0 b1 b2 b3), Bo true]) := by
  have h1 : ¬ IN d.length < 4 := by simp only [IN]; omega
  have hc := bclone_con d (by omega)
  have e1 : IntKind.i64.wrap (IN d.length - 4) = IN (d.length - 4) := by simp only [IN]; rw [w64 _ (by omega)]; omega
  have e2 : IntKind.i64.wrap (IN (d.length - 4) + 1) = IN (d.length - 3) := by simp only [IN]; rw [w64 _ (by omega)]; omega
  have hdd : ((d.length - 3 : Nat) : Int) = (d.length : Int) - 3 := by omega
  have hem := Int.emod_nonneg at' (show (d.length : Int) - 3 ≠ 0 by omega)
  have hel := Int.emod_lt_of_pos at' (show (0 : Int) < (d.length : Int) - 3 by omega)
  have ha2 : at'.tmod (IN (d.length - 3)) = IN (trA d at') := by
    simp only [IN, trA]; rw [Int.tmod_eq_emod_of_nonneg (by omega), hdd]; omega
  have ha3 : trA d at' + 3 < d.length := by unfold trA; omega
  have hR : trF d at' b0 b1 b2 b3 = trK d (trA d at') b0 b1 b2 b3 4 := rfl
  rw [hR]
  obtain ⟨a, hA⟩ : ∃ a, a = trA d at' := ⟨_, rfl⟩
  rw [← hA] at ha2 ha3 ⊢
  have hne : ¬ IN (d.length - 3) = 0 := by simp only [IN]; omega
  have hne2 : ¬ d.length - 3 = 0 := by omega
  have ea : IntKind.i64.wrap at' = at' := w64 _ (by omega)
  obtain ⟨R, hRr⟩ : ∃ R, R = trK d a b0 b1 b2 b3 4 := ⟨_, rfl⟩
  have hRl : R.length = d.length := by rw [hRr]; exact trK_length ..
  rw [← hRr]
  refine con_j b15 rfl ?_
  sym =>
  simp [Zaa,Zab,Zad,Zae,Zaf,Zag,Zah,Zai,Zak,Zal,Zam,Zan,Zap,Zaq,Zav,Zaw,Zay,Zaz,Za0,Za1,Za2,Za3,Za4,Za5,Za9,Zba,Zbb,Zbf,Zbl,Zbt,Zbv,Zb1,Zb3,Zcn,Zcx,Zc3,Zdc,Zdd,Zde,Zdi,Zev,Zew,Zez,Ze0,Ze1,Ze2,Ze3,Ze5,Ze8,Zfc,Zfd,Zfe,Zfh,Zfn,Zfq,Zfr,Zfu,Zfx,Zf1,Zgh,Zgi,Zgr,Zgs,Zgt,Zgv,Zgw,Zgx,Zg4,Zg5,Zg7,Zg8,Zho,Zh6,Zh7,Zio,Zip,Ziu,Ziv,Ziw,Zi6,Zi7,Zjh,Zji,Zjn,Zla,Zlb,Zle,Zll,Zl0,Zl1,Zl2,Zmk,Zmt,Zmv,Zmw,Zmx,Zmz,Zm3,Zm5,Zm6,Zm7,Zm9,Zna,Znb,Zne,Znf,Zng,Znh,Znn,Zno,Znr,Zns,Znt,Znw,Zny,Zn5,Zn6,Zn7,Zn8,Zn9,Zrd,Zos,Zot,Zo7,Zo8,Zo9,Zpa,Zpb,Zpc,Zpo,Zpz,Zp1,Zp2,Zp8,Zp9,Zqb,Zqc,Zqd,Zqe,Zqf,Zqg,Zqh,Zqi,Zqk,Zql,Zqm,Zqn,eq_self,true_and,and_true,Nat.zero_add,Nat.mul_one,h1,callable_62]
  tactic =>
  refine cl (some ⟨cB d, 1, 0⟩) hc ⟨rfl, cB_okI _⟩ ?_
  sym =>
  simp [Zaa,Zab,Zad,Zae,Zaf,Zag,Zah,Zai,Zak,Zal,Zam,Zan,Zap,Zaq,Zav,Zaw,Zay,Zaz,Za0,Za1,Za2,Za3,Za4,Za5,Za9,Zba,Zbb,Zbf,Zbl,Zbt,Zbv,Zb1,Zb3,Zcn,Zcx,Zc3,Zdc,Zdd,Zde,Zdi,Zev,Zew,Zez,Ze0,Ze1,Ze2,Ze3,Ze5,Ze8,Zfc,Zfd,Zfe,Zfh,Zfn,Zfq,Zfr,Zfu,Zfx,Zf1,Zgh,Zgi,Zgr,Zgs,Zgt,Zgv,Zgw,Zgx,Zg4,Zg5,Zg7,Zg8,Zho,Zh6,Zh7,Zio,Zip,Ziu,Ziv,Ziw,Zi6,Zi7,Zjh,Zji,Zjn,Zla,Zlb,Zle,Zll,Zl0,Zl1,Zl2,Zmk,Zmt,Zmv,Zmw,Zmx,Zmz,Zm3,Zm5,Zm6,Zm7,Zm9,Zna,Znb,Zne,Znf,Zng,Znh,Znn,Zno,Znr,Zns,Znt,Znw,Zny,Zn5,Zn6,Zn7,Zn8,Zn9,Zrd,Zos,Zot,Zo7,Zo8,Zo9,Zpa,Zpb,Zpc,Zpo,Zpz,Zp1,Zp2,Zp8,Zp9,Zqb,Zqc,Zqd,Zqe,Zqf,Zqg,Zqh,Zqi,Zqk,Zql,Zqm,Zqn,eq_self,true_and,and_true,Nat.zero_add,Nat.mul_one,e1,e2,ea,hne,hne2]
  tactic =>
  rw [ha2]
  refine lpA (i15 d a b0 b1 b2 b3 d.length) 4 [(0, 7)] _ ⟨0, by omega, rfl⟩ (wkA ?_) ?_
  · sym =>
    simp [Zaa,Zab,Zad,Zae,Zaf,Zag,Zah,Zai,Zak,Zal,Zam,Zan,Zap,Zaq,Zav,Zaw,Zay,Zaz,Za0,Za1,Za2,Za3,Za4,Za5,Za9,Zba,Zbb,Zbf,Zbl,Zbt,Zbv,Zb1,Zb3,Zcn,Zcx,Zc3,Zdc,Zdd,Zde,Zdi,Zev,Zew,Zez,Ze0,Ze1,Ze2,Ze3,Ze5,Ze8,Zfc,Zfd,Zfe,Zfh,Zfn,Zfq,Zfr,Zfu,Zfx,Zf1,Zgh,Zgi,Zgr,Zgs,Zgt,Zgv,Zgw,Zgx,Zg4,Zg5,Zg7,Zg8,Zho,Zh6,Zh7,Zio,Zip,Ziu,Ziv,Ziw,Zi6,Zi7,Zjh,Zji,Zjn,Zla,Zlb,Zle,Zll,Zl0,Zl1,Zl2,Zmk,Zmt,Zmv,Zmw,Zmx,Zmz,Zm3,Zm5,Zm6,Zm7,Zm9,Zna,Znb,Zne,Znf,Zng,Znh,Znn,Zno,Znr,Zns,Znt,Znw,Zny,Zn5,Zn6,Zn7,Zn8,Zn9,Zrd,Zos,Zot,Zo7,Zo8,Zo9,Zpa,Zpb,Zpc,Zpo,Zpz,Zp1,Zp2,Zp8,Zp9,Zqb,Zqc,Zqd,Zqe,Zqf,Zqg,Zqh,Zqi,Zqk,Zql,Zqm,Zqn,eq_self,true_and,and_true,Nat.zero_add,Nat.mul_one]
    tactic =>
    exact cB_rs _ _ _ _ _ rfl
  rintro k s ⟨i, hi, rfl⟩
  have hlen := trK_length d a b0 b1 b2 b3 i
  obtain ⟨c, hc0⟩ : ∃ c, c = trK d a b0 b1 b2 b3 i := ⟨_, rfl⟩
  rw [← hc0] at hlen ⊢
  have hq := cB_length c
  have hwi1 : IntKind.i64.wrap 1 = 1 := by decide
  have hwi2 : IntKind.i64.wrap 2 = 2 := by decide
  have hwi3 : IntKind.i64.wrap 3 = 3 := by decide
  have hwi4 : IntKind.i64.wrap 4 = 4 := by decide
  by_cases h4 : i = 4
  · subst h4
    have hcR : c = R := by rw [hc0, hRr]
    subst hcR
    sym =>
    simp [Zaa,Zab,Zad,Zae,Zaf,Zag,Zah,Zai,Zak,Zal,Zam,Zan,Zap,Zaq,Zav,Zaw,Zay,Zaz,Za0,Za1,Za2,Za3,Za4,Za5,Za9,Zba,Zbb,Zbf,Zbl,Zbt,Zbv,Zb1,Zb3,Zcn,Zcx,Zc3,Zdc,Zdd,Zde,Zdi,Zev,Zew,Zez,Ze0,Ze1,Ze2,Ze3,Ze5,Ze8,Zfc,Zfd,Zfe,Zfh,Zfn,Zfq,Zfr,Zfu,Zfx,Zf1,Zgh,Zgi,Zgr,Zgs,Zgt,Zgv,Zgw,Zgx,Zg4,Zg5,Zg7,Zg8,Zho,Zh6,Zh7,Zio,Zip,Ziu,Ziv,Ziw,Zi6,Zi7,Zjh,Zji,Zjn,Zla,Zlb,Zle,Zll,Zl0,Zl1,Zl2,Zmk,Zmt,Zmv,Zmw,Zmx,Zmz,Zm3,Zm5,Zm6,Zm7,Zm9,Zna,Znb,Zne,Znf,Zng,Znh,Znn,Zno,Znr,Zns,Znt,Znw,Zny,Zn5,Zn6,Zn7,Zn8,Zn9,Zrd,Zos,Zot,Zo7,Zo8,Zo9,Zpa,Zpb,Zpc,Zpo,Zpz,Zp1,Zp2,Zp8,Zp9,Zqb,Zqc,Zqd,Zqe,Zqf,Zqg,Zqh,Zqi,Zqk,Zql,Zqm,Zqn,eq_self,true_and,and_true,Nat.zero_add,Nat.mul_one]
    tactic =>
    refine endA ?_
    sym =>
    simp [Zaa,Zab,Zad,Zae,Zaf,Zag,Zah,Zai,Zak,Zal,Zam,Zan,Zap,Zaq,Zav,Zaw,Zay,Zaz,Za0,Za1,Za2,Za3,Za4,Za5,Za9,Zba,Zbb,Zbf,Zbl,Zbt,Zbv,Zb1,Zb3,Zcn,Zcx,Zc3,Zdc,Zdd,Zde,Zdi,Zev,Zew,Zez,Ze0,Ze1,Ze2,Ze3,Ze5,Ze8,Zfc,Zfd,Zfe,Zfh,Zfn,Zfq,Zfr,Zfu,Zfx,Zf1,Zgh,Zgi,Zgr,Zgs,Zgt,Zgv,Zgw,Zgx,Zg4,Zg5,Zg7,Zg8,Zho,Zh6,Zh7,Zio,Zip,Ziu,Ziv,Ziw,Zi6,Zi7,Zjh,Zji,Zjn,Zla,Zlb,Zle,Zll,Zl0,Zl1,Zl2,Zmk,Zmt,Zmv,Zmw,Zmx,Zmz,Zm3,Zm5,Zm6,Zm7,Zm9,Zna,Znb,Zne,Znf,Zng,Znh,Znn,Zno,Znr,Zns,Znt,Znw,Zny,Zn5,Zn6,Zn7,Zn8,Zn9,Zrd,Zos,Zot,Zo7,Zo8,Zo9,Zpa,Zpb,Zpc,Zpo,Zpz,Zp1,Zp2,Zp8,Zp9,Zqb,Zqc,Zqd,Zqe,Zqf,Zqg,Zqh,Zqi,Zqk,Zql,Zqm,Zqn,eq_self,true_and,and_true,Nat.zero_add,Nat.mul_one,hRl,hq]
    tactic =>
    exact ⟨(List.take_of_length_le (by rw [hq, hRl]; exact Nat.le_refl _)).symm, Nat.le_refl _, cB_okI _⟩
  have hij : i = 0 ∨ i = 1 ∨ i = 2 ∨ i = 3 := by omega
  rcases hij with rfl | rfl | rfl | rfl
  · have hw : IntKind.i64.wrap (IN a + 0) = IN a := by simp only [IN]; rw [w64 _ (by omega)]; omega
    have hlt : a < d.length := by omega
    have hg := cB_get c a (by omega)
    have hst : (cB c).set a (Y (bits .xor .u8 (c.getD a 0) b0)) = cB (trK d a b0 b1 b2 b3 1) := by rw [cB_set, hc0]; rfl
    have hl2 := trK_length d a b0 b1 b2 b3 1
    have hq2 := cB_length (trK d a b0 b1 b2 b3 1)
    sym =>
    simp [Zaa,Zab,Zad,Zae,Zaf,Zag,Zah,Zai,Zak,Zal,Zam,Zan,Zap,Zaq,Zav,Zaw,Zay,Zaz,Za0,Za1,Za2,Za3,Za4,Za5,Za9,Zba,Zbb,Zbf,Zbl,Zbt,Zbv,Zb1,Zb3,Zcn,Zcx,Zc3,Zdc,Zdd,Zde,Zdi,Zev,Zew,Zez,Ze0,Ze1,Ze2,Ze3,Ze5,Ze8,Zfc,Zfd,Zfe,Zfh,Zfn,Zfq,Zfr,Zfu,Zfx,Zf1,Zgh,Zgi,Zgr,Zgs,Zgt,Zgv,Zgw,Zgx,Zg4,Zg5,Zg7,Zg8,Zho,Zh6,Zh7,Zio,Zip,Ziu,Ziv,Ziw,Zi6,Zi7,Zjh,Zji,Zjn,Zla,Zlb,Zle,Zll,Zl0,Zl1,Zl2,Zmk,Zmt,Zmv,Zmw,Zmx,Zmz,Zm3,Zm5,Zm6,Zm7,Zm9,Zna,Znb,Zne,Znf,Zng,Znh,Znn,Zno,Znr,Zns,Znt,Znw,Zny,Zn5,Zn6,Zn7,Zn8,Zn9,Zrd,Zos,Zot,Zo7,Zo8,Zo9,Zpa,Zpb,Zpc,Zpo,Zpz,Zp1,Zp2,Zp8,Zp9,Zqb,Zqc,Zqd,Zqe,Zqf,Zqg,Zqh,Zqi,Zqk,Zql,Zqm,Zqn,eq_self,true_and,and_true,Nat.zero_add,Nat.mul_one,hw,hq,hlen,hlt,hg,hst,hwi1]
    tactic =>
    refine ⟨by omega, ⟨by omega, by omega⟩, ?_⟩
    unfold NextL; refine ⟨(k - 1), [(0, 0)], _, by omega, ⟨1, by omega, rfl⟩, wkA ?_⟩
    sym =>
    simp [Zaa,Zab,Zad,Zae,Zaf,Zag,Zah,Zai,Zak,Zal,Zam,Zan,Zap,Zaq,Zav,Zaw,Zay,Zaz,Za0,Za1,Za2,Za3,Za4,Za5,Za9,Zba,Zbb,Zbf,Zbl,Zbt,Zbv,Zb1,Zb3,Zcn,Zcx,Zc3,Zdc,Zdd,Zde,Zdi,Zev,Zew,Zez,Ze0,Ze1,Ze2,Ze3,Ze5,Ze8,Zfc,Zfd,Zfe,Zfh,Zfn,Zfq,Zfr,Zfu,Zfx,Zf1,Zgh,Zgi,Zgr,Zgs,Zgt,Zgv,Zgw,Zgx,Zg4,Zg5,Zg7,Zg8,Zho,Zh6,Zh7,Zio,Zip,Ziu,Ziv,Ziw,Zi6,Zi7,Zjh,Zji,Zjn,Zla,Zlb,Zle,Zll,Zl0,Zl1,Zl2,Zmk,Zmt,Zmv,Zmw,Zmx,Zmz,Zm3,Zm5,Zm6,Zm7,Zm9,Zna,Znb,Zne,Znf,Zng,Znh,Znn,Zno,Znr,Zns,Znt,Znw,Zny,Zn5,Zn6,Zn7,Zn8,Zn9,Zrd,Zos,Zot,Zo7,Zo8,Zo9,Zpa,Zpb,Zpc,Zpo,Zpz,Zp1,Zp2,Zp8,Zp9,Zqb,Zqc,Zqd,Zqe,Zqf,Zqg,Zqh,Zqi,Zqk,Zql,Zqm,Zqn,eq_self,true_and,and_true,Nat.zero_add,Nat.mul_one,hwi1]
    tactic =>
    exact cB_rs _ _ _ _ _ rfl
  · have hw : IntKind.i64.wrap (IN a + 1) = IN (a + 1) := by simp only [IN]; rw [w64 _ (by omega)]; omega
    have hlt : (a + 1) < d.length := by omega
    have hg := cB_get c (a + 1) (by omega)
    have hst : (cB c).set (a + 1) (Y (bits .xor .u8 (c.getD (a + 1) 0) b1)) = cB (trK d a b0 b1 b2 b3 2) := by rw [cB_set, hc0]; rfl
    have hl2 := trK_length d a b0 b1 b2 b3 2
    have hq2 := cB_length (trK d a b0 b1 b2 b3 2)
    sym =>
    simp [Zaa,Zab,Zad,Zae,Zaf,Zag,Zah,Zai,Zak,Zal,Zam,Zan,Zap,Zaq,Zav,Zaw,Zay,Zaz,Za0,Za1,Za2,Za3,Za4,Za5,Za9,Zba,Zbb,Zbf,Zbl,Zbt,Zbv,Zb1,Zb3,Zcn,Zcx,Zc3,Zdc,Zdd,Zde,Zdi,Zev,Zew,Zez,Ze0,Ze1,Ze2,Ze3,Ze5,Ze8,Zfc,Zfd,Zfe,Zfh,Zfn,Zfq,Zfr,Zfu,Zfx,Zf1,Zgh,Zgi,Zgr,Zgs,Zgt,Zgv,Zgw,Zgx,Zg4,Zg5,Zg7,Zg8,Zho,Zh6,Zh7,Zio,Zip,Ziu,Ziv,Ziw,Zi6,Zi7,Zjh,Zji,Zjn,Zla,Zlb,Zle,Zll,Zl0,Zl1,Zl2,Zmk,Zmt,Zmv,Zmw,Zmx,Zmz,Zm3,Zm5,Zm6,Zm7,Zm9,Zna,Znb,Zne,Znf,Zng,Znh,Znn,Zno,Znr,Zns,Znt,Znw,Zny,Zn5,Zn6,Zn7,Zn8,Zn9,Zrd,Zos,Zot,Zo7,Zo8,Zo9,Zpa,Zpb,Zpc,Zpo,Zpz,Zp1,Zp2,Zp8,Zp9,Zqb,Zqc,Zqd,Zqe,Zqf,Zqg,Zqh,Zqi,Zqk,Zql,Zqm,Zqn,eq_self,true_and,and_true,Nat.zero_add,Nat.mul_one,hw,hq,hlen,hlt,hg,hst,hwi2]
    tactic =>
    refine ⟨by omega, ⟨by omega, by omega⟩, ?_⟩
    unfold NextL; refine ⟨(k - 1), [(0, 0)], _, by omega, ⟨2, by omega, rfl⟩, wkA ?_⟩
    sym =>
    simp [Zaa,Zab,Zad,Zae,Zaf,Zag,Zah,Zai,Zak,Zal,Zam,Zan,Zap,Zaq,Zav,Zaw,Zay,Zaz,Za0,Za1,Za2,Za3,Za4,Za5,Za9,Zba,Zbb,Zbf,Zbl,Zbt,Zbv,Zb1,Zb3,Zcn,Zcx,Zc3,Zdc,Zdd,Zde,Zdi,Zev,Zew,Zez,Ze0,Ze1,Ze2,Ze3,Ze5,Ze8,Zfc,Zfd,Zfe,Zfh,Zfn,Zfq,Zfr,Zfu,Zfx,Zf1,Zgh,Zgi,Zgr,Zgs,Zgt,Zgv,Zgw,Zgx,Zg4,Zg5,Zg7,Zg8,Zho,Zh6,Zh7,Zio,Zip,Ziu,Ziv,Ziw,Zi6,Zi7,Zjh,Zji,Zjn,Zla,Zlb,Zle,Zll,Zl0,Zl1,Zl2,Zmk,Zmt,Zmv,Zmw,Zmx,Zmz,Zm3,Zm5,Zm6,Zm7,Zm9,Zna,Znb,Zne,Znf,Zng,Znh,Znn,Zno,Znr,Zns,Znt,Znw,Zny,Zn5,Zn6,Zn7,Zn8,Zn9,Zrd,Zos,Zot,Zo7,Zo8,Zo9,Zpa,Zpb,Zpc,Zpo,Zpz,Zp1,Zp2,Zp8,Zp9,Zqb,Zqc,Zqd,Zqe,Zqf,Zqg,Zqh,Zqi,Zqk,Zql,Zqm,Zqn,eq_self,true_and,and_true,Nat.zero_add,Nat.mul_one,hwi2]
    tactic =>
    exact cB_rs _ _ _ _ _ rfl
  · have hw : IntKind.i64.wrap (IN a + 2) = IN (a + 2) := by simp only [IN]; rw [w64 _ (by omega)]; omega
    have hlt : (a + 2) < d.length := by omega
    have hg := cB_get c (a + 2) (by omega)
    have hst : (cB c).set (a + 2) (Y (bits .xor .u8 (c.getD (a + 2) 0) b2)) = cB (trK d a b0 b1 b2 b3 3) := by rw [cB_set, hc0]; rfl
    have hl2 := trK_length d a b0 b1 b2 b3 3
    have hq2 := cB_length (trK d a b0 b1 b2 b3 3)
    sym =>
    simp [Zaa,Zab,Zad,Zae,Zaf,Zag,Zah,Zai,Zak,Zal,Zam,Zan,Zap,Zaq,Zav,Zaw,Zay,Zaz,Za0,Za1,Za2,Za3,Za4,Za5,Za9,Zba,Zbb,Zbf,Zbl,Zbt,Zbv,Zb1,Zb3,Zcn,Zcx,Zc3,Zdc,Zdd,Zde,Zdi,Zev,Zew,Zez,Ze0,Ze1,Ze2,Ze3,Ze5,Ze8,Zfc,Zfd,Zfe,Zfh,Zfn,Zfq,Zfr,Zfu,Zfx,Zf1,Zgh,Zgi,Zgr,Zgs,Zgt,Zgv,Zgw,Zgx,Zg4,Zg5,Zg7,Zg8,Zho,Zh6,Zh7,Zio,Zip,Ziu,Ziv,Ziw,Zi6,Zi7,Zjh,Zji,Zjn,Zla,Zlb,Zle,Zll,Zl0,Zl1,Zl2,Zmk,Zmt,Zmv,Zmw,Zmx,Zmz,Zm3,Zm5,Zm6,Zm7,Zm9,Zna,Znb,Zne,Znf,Zng,Znh,Znn,Zno,Znr,Zns,Znt,Znw,Zny,Zn5,Zn6,Zn7,Zn8,Zn9,Zrd,Zos,Zot,Zo7,Zo8,Zo9,Zpa,Zpb,Zpc,Zpo,Zpz,Zp1,Zp2,Zp8,Zp9,Zqb,Zqc,Zqd,Zqe,Zqf,Zqg,Zqh,Zqi,Zqk,Zql,Zqm,Zqn,eq_self,true_and,and_true,Nat.zero_add,Nat.mul_one,hw,hq,hlen,hlt,hg,hst,hwi3]
    tactic =>
    refine ⟨by omega, ⟨by omega, by omega⟩, ?_⟩
    unfold NextL; refine ⟨(k - 1), [(0, 0)], _, by omega, ⟨3, by omega, rfl⟩, wkA ?_⟩
    sym =>
    simp [Zaa,Zab,Zad,Zae,Zaf,Zag,Zah,Zai,Zak,Zal,Zam,Zan,Zap,Zaq,Zav,Zaw,Zay,Zaz,Za0,Za1,Za2,Za3,Za4,Za5,Za9,Zba,Zbb,Zbf,Zbl,Zbt,Zbv,Zb1,Zb3,Zcn,Zcx,Zc3,Zdc,Zdd,Zde,Zdi,Zev,Zew,Zez,Ze0,Ze1,Ze2,Ze3,Ze5,Ze8,Zfc,Zfd,Zfe,Zfh,Zfn,Zfq,Zfr,Zfu,Zfx,Zf1,Zgh,Zgi,Zgr,Zgs,Zgt,Zgv,Zgw,Zgx,Zg4,Zg5,Zg7,Zg8,Zho,Zh6,Zh7,Zio,Zip,Ziu,Ziv,Ziw,Zi6,Zi7,Zjh,Zji,Zjn,Zla,Zlb,Zle,Zll,Zl0,Zl1,Zl2,Zmk,Zmt,Zmv,Zmw,Zmx,Zmz,Zm3,Zm5,Zm6,Zm7,Zm9,Zna,Znb,Zne,Znf,Zng,Znh,Znn,Zno,Znr,Zns,Znt,Znw,Zny,Zn5,Zn6,Zn7,Zn8,Zn9,Zrd,Zos,Zot,Zo7,Zo8,Zo9,Zpa,Zpb,Zpc,Zpo,Zpz,Zp1,Zp2,Zp8,Zp9,Zqb,Zqc,Zqd,Zqe,Zqf,Zqg,Zqh,Zqi,Zqk,Zql,Zqm,Zqn,eq_self,true_and,and_true,Nat.zero_add,Nat.mul_one,hwi3]
    tactic =>
    exact cB_rs _ _ _ _ _ rfl
  · have hw : IntKind.i64.wrap (IN a + 3) = IN (a + 3) := by simp only [IN]; rw [w64 _ (by omega)]; omega
    have hlt : (a + 3) < d.length := by omega
    have hg := cB_get c (a + 3) (by omega)
    have hst : (cB c).set (a + 3) (Y (bits .xor .u8 (c.getD (a + 3) 0) b3)) = cB (trK d a b0 b1 b2 b3 4) := by rw [cB_set, hc0]; rfl
    have hl2 := trK_length d a b0 b1 b2 b3 4
    have hq2 := cB_length (trK d a b0 b1 b2 b3 4)
    sym =>
    simp [Zaa,Zab,Zad,Zae,Zaf,Zag,Zah,Zai,Zak,Zal,Zam,Zan,Zap,Zaq,Zav,Zaw,Zay,Zaz,Za0,Za1,Za2,Za3,Za4,Za5,Za9,Zba,Zbb,Zbf,Zbl,Zbt,Zbv,Zb1,Zb3,Zcn,Zcx,Zc3,Zdc,Zdd,Zde,Zdi,Zev,Zew,Zez,Ze0,Ze1,Ze2,Ze3,Ze5,Ze8,Zfc,Zfd,Zfe,Zfh,Zfn,Zfq,Zfr,Zfu,Zfx,Zf1,Zgh,Zgi,Zgr,Zgs,Zgt,Zgv,Zgw,Zgx,Zg4,Zg5,Zg7,Zg8,Zho,Zh6,Zh7,Zio,Zip,Ziu,Ziv,Ziw,Zi6,Zi7,Zjh,Zji,Zjn,Zla,Zlb,Zle,Zll,Zl0,Zl1,Zl2,Zmk,Zmt,Zmv,Zmw,Zmx,Zmz,Zm3,Zm5,Zm6,Zm7,Zm9,Zna,Znb,Zne,Znf,Zng,Znh,Znn,Zno,Znr,Zns,Znt,Znw,Zny,Zn5,Zn6,Zn7,Zn8,Zn9,Zrd,Zos,Zot,Zo7,Zo8,Zo9,Zpa,Zpb,Zpc,Zpo,Zpz,Zp1,Zp2,Zp8,Zp9,Zqb,Zqc,Zqd,Zqe,Zqf,Zqg,Zqh,Zqi,Zqk,Zql,Zqm,Zqn,eq_self,true_and,and_true,Nat.zero_add,Nat.mul_one,hw,hq,hlen,hlt,hg,hst,hwi4]
    tactic =>
    refine ⟨by omega, ⟨by omega, by omega⟩, ?_⟩
    unfold NextL; refine ⟨(k - 1), [(0, 0)], _, by omega, ⟨4, by omega, rfl⟩, wkA ?_⟩
    sym =>
    simp [Zaa,Zab,Zad,Zae,Zaf,Zag,Zah,Zai,Zak,Zal,Zam,Zan,Zap,Zaq,Zav,Zaw,Zay,Zaz,Za0,Za1,Za2,Za3,Za4,Za5,Za9,Zba,Zbb,Zbf,Zbl,Zbt,Zbv,Zb1,Zb3,Zcn,Zcx,Zc3,Zdc,Zdd,Zde,Zdi,Zev,Zew,Zez,Ze0,Ze1,Ze2,Ze3,Ze5,Ze8,Zfc,Zfd,Zfe,Zfh,Zfn,Zfq,Zfr,Zfu,Zfx,Zf1,Zgh,Zgi,Zgr,Zgs,Zgt,Zgv,Zgw,Zgx,Zg4,Zg5,Zg7,Zg8,Zho,Zh6,Zh7,Zio,Zip,Ziu,Ziv,Ziw,Zi6,Zi7,Zjh,Zji,Zjn,Zla,Zlb,Zle,Zll,Zl0,Zl1,Zl2,Zmk,Zmt,Zmv,Zmw,Zmx,Zmz,Zm3,Zm5,Zm6,Zm7,Zm9,Zna,Znb,Zne,Znf,Zng,Znh,Znn,Zno,Znr,Zns,Znt,Znw,Zny,Zn5,Zn6,Zn7,Zn8,Zn9,Zrd,Zos,Zot,Zo7,Zo8,Zo9,Zpa,Zpb,Zpc,Zpo,Zpz,Zp1,Zp2,Zp8,Zp9,Zqb,Zqc,Zqd,Zqe,Zqf,Zqg,Zqh,Zqi,Zqk,Zql,Zqm,Zqn,eq_self,true_and,and_true,Nat.zero_add,Nat.mul_one,hwi4]
    tactic =>
    exact cB_rs _ _ _ _ _ rfl
end Go.Proofs.Ytnfgnafphfddhaa.LkB
