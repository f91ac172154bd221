import Derived.Test.YtbmdahhhgpbchaaOpB
namespace Go.Proofs.Ytbmdahhhgpbchaa.OpC
open Go Go.Sim Go.Sim.E Go.RowKit Go.Proofs Go.Proofs.Ytbmdahhhgpbchaa.Cod Go.Proofs.Ytbmdahhhgpbchaa.Tab Go.Proofs.Ytbmdahhhgpbchaa.Bse Go.Proofs.Ytbmdahhhgpbchaa.SpnP Go.Proofs.Ytbmdahhhgpbchaa.SwA Go.Proofs.Ytbmdahhhgpbchaa.SwB Go.Proofs.Ytbmdahhhgpbchaa.SwC Go.Proofs.Ytbmdahhhgpbchaa.SwS Go.Proofs.Ytbmdahhhgpbchaa.SwD Go.Proofs.Ytbmdahhhgpbchaa.SwF Go.Proofs.Ytbmdahhhgpbchaa.SwG Go.Proofs.Ytbmdahhhgpbchaa.SwL Go.Proofs.Ytbmdahhhgpbchaa.ObA Go.Proofs.Ytbmdahhhgpbchaa.ObB Go.Proofs.Ytbmdahhhgpbchaa.ObC Go.Proofs.Ytbmdahhhgpbchaa.OeP Go.Proofs.Ytbmdahhhgpbchaa.OeQ Go.Proofs.Ytbmdahhhgpbchaa.OeA Go.Proofs.Ytbmdahhhgpbchaa.OpA Go.Proofs.Ytbmdahhhgpbchaa.OpB
set_option linter.unusedVariables false
set_option linter.unusedSimpArgs false
set_option maxRecDepth 100000
set_option maxHeartbeats 4000000
def wtF (f : Int) : Nat → List Int → Int → Int → List Int
  | 0, cm, _, _ => cm
  | k + 1, cm, a, to => if a < to then wtF f k (if cmF f cm a = true then cm else cm ++ [a]) (a + 256) to else cm
def i115 (t f : Int) (ou : List Int) (to : Int) (R : List Int) (k : Nat) (q : St) : Prop := ∃ (a : Int) (c : List Int), 0 ≤ a ∧ to - a ≤ 256 * (k : Int) ∧ a ≤ 40000 ∧ c.length + k ≤ 2000 ∧ R = wtF f k c a to ∧
  q = ⟨[(2, I to), (3, .pt 0 0), (6, .pt 1 0), (7, I a)], [(0, ⟨[I t, I f, fJ c, fJ ou], 1, 0⟩), (1, ⟨[I 0, I 0, .nl, .nl], 1, 0⟩)], 2⟩
theorem with_con (t f : Int) (cm ou : List Int) (a0 to : Int) (ha : 0 ≤ a0 ∧ a0 ≤ 20000) (hto : to ≤ 20000) (hl : cm.length ≤ 1000) : Con Try.prog 115 [] [rW t f cm ou, I a0, I to] [] (rW t f (wtF f 100 cm a0 to) ou) := by
  obtain ⟨R, hR⟩ : ∃ R, R = wtF f 100 cm a0 to := ⟨_, rfl⟩
  rw [← hR]
  refine con_j b115 rfl ?_
  sym =>
  simp [Zab,Zad,Zag,Zah,Zam,Zaz,Za0,Za1,Za2,Za3,Za4,Za5,Za9,Zba,Zbb,Zcv,Zcx,Zev,Zez,Ze0,Ze2,Ze3,Zfd,Zfe,Zfh,Zin,Zio,Zip,Zi6,Zna,Znb,Zos,Zot,Zo7,eq_self,true_and]
  tactic =>
  refine lpA (i115 t f ou to R) 100 [(0, 0), (1, 1)] _ ⟨a0, cm, ha.1, by omega, by omega, by omega, hR, rfl⟩ (wkA ?_) ?_
  · sym =>
    simp [Za2,Za3,Zez,Zfc,Znr,Zpa,Zpc,Zpd,Zpg,Zpu,Zqb,Zqc,Zqf,Zqg,Zqh,Zqi,Zqk,Zql,Zqm,Zqn,eq_self,and_true]
  clear hR
  rintro k q ⟨a, c, h0, hk, ha4, hc, hR, rfl⟩
  by_cases h1 : a < to
  · obtain ⟨k, rfl⟩ : ∃ k', k = k' + 1 := ⟨k - 1, by omega⟩
    have wa : IntKind.i64.wrap (a + 256) = a + 256 := w64 _ (by omega)
    have q1 : 0 ≤ a + 256 := by omega
    have q2 : to - (a + 256) ≤ 256 * (k : Int) := by omega
    have q3 : a + 256 ≤ 40000 := by omega
    rw [wtF, if_pos h1] at hR
    sym =>
    simp [Zaa,Zab,Zad,Zae,Zaf,Zag,Zal,Zam,Zaz,Za0,Za1,Za2,Za3,Za4,Za5,Za9,Zba,Zbb,Zbf,Zbt,Zdc,Zdd,Zde,Zev,Zew,Zez,Ze0,Ze2,Ze5,Ze8,Zfc,Zfd,Zfe,Zfh,Zfn,Zf1,Zgr,Zgs,Zgt,Zla,Zlb,Zlc,Zld,Zle,Zlf,Zlh,Zlj,Zlk,Zlm,Zm5,Zm7,Zm9,Zna,Znb,Zne,Znf,Zng,Zo7,Zo8,eq_self,true_and,and_true,h1,callable_83]
    tactic =>
    refine cl none (came_con t f c ou a (by omega)) trivial ?_
    by_cases h3 : cmF f c a = true
    · rw [if_pos h3] at hR
      sym =>
      simp [Zaa,Zab,Zae,Zaf,Zal,Zam,Zap,Zav,Zaz,Za0,Za1,Za2,Za3,Za4,Za5,Za9,Zba,Zbb,Zbf,Zbj,Zdi,Zev,Zew,Zez,Ze0,Ze2,Zfd,Zfe,Zfh,Zfn,Zfq,Zgd,Zgg,Zjw,Zlz,Zna,Znb,Zo3,Zo7,eq_self,true_and,h3,wa]
      tactic =>
      unfold NextL; refine ⟨k, [(0, 0), (1, 1)], _, by omega, ⟨a + 256, c, q1, q2, q3, by omega, hR, rfl⟩, wkA ?_⟩
      sym =>
      simp [Za2,Za3,Zez,Zfc,Znr,Zpa,Zpc,Zpd,Zpg,Zpu,Zqb,Zqc,Zqf,Zqg,Zqh,Zqi,Zqk,Zql,Zqm,Zqn,eq_self,and_true]
    · rw [if_neg h3] at hR
      have h3 : cmF f c a = false := by simpa using h3
      have hol := cJ_length c
      have hoa := cJ_all c
      sym =>
      simp [Zab,Zae,Zaf,Zal,Zam,Zap,Zav,Zaz,Za0,Za1,Za2,Za3,Za4,Za5,Za9,Zba,Zbb,Zbf,Zbj,Zbt,Zbv,Zcz,Zc3,Zc5,Zdi,Zev,Zew,Zez,Ze0,Ze1,Ze2,Ze3,Ze4,Ze5,Ze8,Zfc,Zfd,Zfe,Zff,Zfg,Zfh,Zfn,Zfq,Zgd,Zgg,Zgr,Zgs,Zgt,Zgv,Zgw,Zgx,Zhf,Zhg,Zhh,Ziq,Zir,Ziu,Ziv,Ziw,Zix,Ziy,Ziz,Zi0,Zi1,Zi2,Zi3,Zi7,Zje,Zjg,Zjh,Zji,Zjj,Zjk,Zjo,Zjw,Zkl,Zlz,Zm6,Zm9,Zna,Znb,Znh,Znl,Znm,Znn,Zno,Znp,Znr,Zo4,Zo7,List.length_append,eq_self,true_and,and_true,Nat.zero_add,Nat.mul_one,h3,wa,hol,hoa]
      tactic =>
      refine ⟨?_, ?_, ?_⟩
      · and_intros <;> first | exact cJ_okF _ | exact hol | omega
      · and_intros <;> first | exact cJ_okF _ | exact hol | omega
      unfold NextL; refine ⟨k, [(0, 0), (1, 1)], _, by omega, ⟨a + 256, c ++ [a], q1, q2, q3, by simp; omega, hR, rfl⟩, wkA ?_⟩
      sym =>
      simp [Za2,Za3,Zez,Zfc,Zjl,Zjm,Zjp,Zna,Znb,Znh,Znr,Zod,Zpa,Zpc,Zpd,Zpg,Zpu,Zpy,Zp1,Zp2,Zp3,Zqb,Zqc,Zqf,Zqg,Zqh,Zqi,Zqk,Zql,Zqm,Zqn,Zqo,List.length_append,eq_self,true_and,and_true,Nat.zero_add,Nat.mul_one,cJ_append]
      tactic =>
      exact ⟨(List.take_of_length_le (by rw [List.length_append, cJ_length]; exact Nat.le_refl _)).symm, by rw [cJ_length]; exact Nat.le_refl _, cJ_okI _⟩
  · have e : R = c := by
      rw [hR]
      cases k with
      | zero => rfl
      | succ k => rw [wtF, if_neg h1]
    rw [e]
    sym =>
    simp [Zab,Zad,Zae,Zaf,Zai,Zak,Zam,Zan,Zaq,Zaw,Zaz,Za0,Za1,Za2,Za3,Za4,Za5,Za9,Zba,Zbb,Zbf,Zbt,Zc3,Zev,Zez,Ze0,Ze1,Ze2,Ze3,Ze5,Ze8,Zfc,Zfd,Zfe,Zfh,Zfn,Zf1,Zgr,Zgs,Zgt,Ziu,Ziv,Ziw,Zi6,Zjh,Zji,Zjn,Zj7,Zmt,Zmv,Zmw,Zmy,Zm0,Zm1,Zm2,Zm5,Zm7,Zm9,Zna,Znb,Znn,Zno,Znp,Zo7,Zo9,eq_self,true_and,and_true,h1]
    tactic =>
    refine endA ?_
    sym =>
    simp [Zpa,Zpg,Zp8,Zqb,Zqc,eq_self,and_true]
/-- What came: segments' beginnings, each once. -/
structure RK (t f : Int) (cm : List Int) : Prop where
  nd : cm.Nodup
  el : ∀ a ∈ cm, f ≤ a ∧ a < t ∧ a % 256 = 0
theorem nd_len : ∀ (n : Nat) (l : List Int), l.Nodup → (∀ a ∈ l, 0 ≤ a ∧ a < 256 * (n : Int) ∧ a % 256 = 0) → l.length ≤ n
  | 0, l, _, h => by
    cases l with
    | nil => simp
    | cons a l => have := h a (List.mem_cons_self ..); omega
  | n + 1, l, hn, h => by
    by_cases hm : (256 * (n : Int)) ∈ l
    · have h1 := List.length_erase_of_mem hm
      have h2 := nd_len n (l.erase (256 * (n : Int))) (hn.erase _) (fun a ha => by
        have h3 := (hn.mem_erase_iff).1 ha
        have h4 := h a h3.2
        have h5 := h3.1
        omega)
      omega
    · have h2 := nd_len n l hn (fun a ha => by
        have h4 := h a ha
        have : a ≠ 256 * (n : Int) := fun e => hm (e ▸ ha)
        omega)
      omega
theorem RK.len {t f : Int} {cm : List Int} (h : RK t f cm) (hf : 0 ≤ f) (ht : t ≤ 20000) : cm.length ≤ 80 :=
  nd_len 80 cm h.nd (fun a ha => by have := h.el a ha; omega)
theorem wtF_ok {t f : Int} (to : Int) (hto : to ≤ t) : ∀ (k : Nat) (cm : List Int) (a : Int), RK t f cm → (a % 256 = 0 ∨ to ≤ a) → RK t f (wtF f k cm a to)
  | 0, cm, a, h, _ => h
  | k + 1, cm, a, h, ha => by
    rw [wtF]
    by_cases h1 : a < to
    · rw [if_pos h1]
      by_cases h2 : cmF f cm a = true
      · rw [if_pos h2]; exact wtF_ok to hto k cm _ h (by omega)
      · rw [if_neg h2]
        have h3 : ¬ a < f ∧ a ∉ cm := by simpa [cmF] using h2
        refine wtF_ok to hto k _ _ ⟨?_, fun x hx => ?_⟩ (by omega)
        · rw [List.nodup_append]
          exact ⟨h.nd, by simp, fun x hx y hy => by rw [List.mem_singleton.1 hy]; exact fun e => h3.2 (e ▸ hx)⟩
        · rcases List.mem_append.1 hx with hx | hx
          · exact h.el x hx
          · rw [List.mem_singleton.1 hx]; omega
    · rw [if_neg h1]; exact h
def ak1R (t off f : Int) (cm : List Int) (r : Rg) : List Int := if plF t r.1 && (plF t r.2 && decide (off ≤ r.1)) then wtF f 100 cm r.1 r.2 else cm
def akR (t off f : Int) (cm : List Int) (l : List Rg) : List Int := l.foldl (ak1R t off f) (wtF f 100 cm f off)
theorem plF_mod {t n : Int} (h : plF t n = true) : 0 ≤ n ∧ n ≤ t ∧ (n % 256 = 0 ∨ n = t) := by
  obtain ⟨h1, h2, h3⟩ := (plF_iff t n).1 h
  rw [Int.tmod_eq_emod_of_nonneg h1] at h3
  exact ⟨h1, h2, h3⟩
theorem ak1R_ok {t off f : Int} {cm : List Int} {r : Rg} (h : RK t f cm) : RK t f (ak1R t off f cm r) := by
  unfold ak1R
  split
  · rename_i hc
    simp only [Bool.and_eq_true] at hc
    have p1 := plF_mod hc.1
    have p2 := plF_mod hc.2.1
    exact wtF_ok r.2 p2.2.1 100 cm r.1 h (by omega)
  · exact h
theorem akR_ok {t off f : Int} {cm : List Int} (hf : f % 256 = 0 ∨ f = t) (hoff : off ≤ t) (h : RK t f cm) (l : List Rg) : RK t f (akR t off f cm l) := by
  have : ∀ (l : List Rg) (c : List Int), RK t f c → RK t f (l.foldl (ak1R t off f) c) := by
    intro l
    induction l with
    | nil => intro c h; exact h
    | cons r l ih => intro c h; exact ih _ (ak1R_ok h)
  exact this l _ (wtF_ok off hoff 100 cm f h (by omega))
end Go.Proofs.Ytbmdahhhgpbchaa.OpC
