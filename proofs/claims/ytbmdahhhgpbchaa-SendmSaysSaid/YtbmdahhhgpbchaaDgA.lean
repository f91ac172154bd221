import Derived.Test.YtbmdahhhgpbchaaCodD
import Derived.Test.YtbmdahhhgpbchaaCodC
import Derived.Test.YtbmdahhhgpbchaaTab
import Derived.Test.YtbmdahhhgpbchaaBse
namespace Go.Proofs.Ytbmdahhhgpbchaa.DgA
open Go Go.Sim Go.Sim.E Go.RowKit Go.Proofs Go.Proofs.Ytbmdahhhgpbchaa.Cod Go.Proofs.Ytbmdahhhgpbchaa.Tab Go.Proofs.Ytbmdahhhgpbchaa.Bse
set_option linter.unusedVariables false
set_option linter.unusedSimpArgs false
set_option maxRecDepth 100000
set_option maxHeartbeats 4000000
def cU (l : List Int) : List AV := l.map fun n => .sc (.int .u32 n)
theorem cal88 : callable Try.prog 151 = true := by kernel_rfl
/-- A word turned right. -/
def rotR (x : Int) (n : Nat) : Int := bits .or .u32 (IntKind.u32.wrap (x * 2 ^ (32 - n))) (x.fdiv (2 ^ n))
theorem rot_and : ∀ n : Fin 32, 0 < n.val → bits .and .u64 (IntKind.u64.wrap (IntKind.i64.wrap (0 - (n.val : Int)))) 31 = 32 - (n.val : Int) := by decide
theorem rot_con (x : Int) (n : Nat) (h0 : 0 < n) (h1 : n < 32) : Con Try.prog 151 [] [U x, I (IntKind.i64.wrap (0 - (n : Int)))] [] (U (rotR x n)) := by
  refine con_j b151 rfl ?_
  have e := rot_and ⟨n, h1⟩ h0
  simp only at e
  have e2 : IntKind.u64.wrap (32 - (32 - (n : Int))) = n := by rw [show IntKind.u64.wrap (32 - (32 - (n : Int))) = (32 - (32 - (n : Int))) % 18446744073709551616 from by simp [IntKind.wrap, IntKind.bits, IntKind.signed]]; omega
  have e3 : min (32 - (n : Int)).toNat IntKind.u32.bits = 32 - n := by simp only [IntKind.bits]; omega
  have e4 : min (n : Int).toNat IntKind.u32.bits = n := by simp only [IntKind.bits]; omega
  sym =>
  simp [Zab,Zad,Zak,Zam,Zaz,Za0,Za1,Za2,Za3,Za4,Za5,Za9,Zba,Zbb,Zbf,Zbl,Zev,Zew,Zez,Ze0,Ze2,Zfd,Zfe,Zfh,Zfn,Zfo,Zfp,Zfr,Zfv,Zfw,Zgh,Zgi,Zmt,Zmv,Zmw,Zmx,Zmz,Zm2,Zna,Znb,Zos,Zot,Zo7,Zpc,Zqr,eq_self,true_and,Bool.false_and,e,e2,e3,e4]
  tactic =>
  refine ⟨by omega, by omega, endA ?_⟩
  sym =>
  simp [Zab,Zad,Zak,Zam,Zaz,Za0,Za1,Za2,Za3,Za4,Za5,Za9,Zba,Zbb,Zbf,Zbl,Zev,Zew,Zez,Ze0,Ze2,Zfd,Zfe,Zfh,Zfn,Zfo,Zfp,Zfr,Zfv,Zfw,Zgh,Zgi,Zmt,Zmv,Zmw,Zmx,Zmz,Zm2,Zna,Znb,Zos,Zot,Zo7,Zpc,Zqr,eq_self,true_and,Bool.false_and]
  tactic =>
  rfl
theorem right_con (x : Int) (n : Nat) (h0 : 0 < n) (h1 : n < 32) : Con Try.prog 150 [] [U x, I (n : Int)] [] (U (rotR x n)) := by
  refine con_j b150 rfl ?_
  sym =>
  simp [Zab,Zad,Zam,Zaz,Za0,Za1,Za2,Za3,Za4,Za5,Za9,Zba,Zbb,Zbj,Zdc,Zdd,Zde,Zev,Zew,Zez,Ze0,Ze2,Zfd,Zfe,Zfh,Zgd,Zge,Zla,Zlb,Zle,Zlj,Zna,Znb,Zne,Znf,Zng,Zos,Zot,Zo7,eq_self,true_and,and_true,cal88]
  tactic =>
  refine cl none (rot_con x n h0 h1) trivial ?_
  sym =>
  simp [Zak,Zam,Zaz,Za0,Za1,Za2,Za3,Za4,Za5,Za9,Zba,Zbb,Zdi,Zev,Zez,Ze0,Ze2,Zfd,Zfe,Zfh,Zjr,Zlz,Zmt,Zmv,Zmw,Zmx,Zmz,Zm2,Zo7,eq_self,true_and]
  tactic =>
  refine endA ?_
  sym =>
  simp [Zpc,eq_self]
def W0 : List Int := [1779033703, 3144134277, 1013904242, 2773480762, 1359893119, 2600822924, 528734635, 1541459225]
theorem first_con : Con Try.prog 136 [] [] [] (.ag (cU W0)) := by
  refine con_j b136 rfl ?_
  sym =>
  simp [Zab,Zad,Zak,Zam,Zay,Zaz,Za0,Za1,Za2,Za3,Za4,Za5,Za9,Zba,Zb9,Zcv,Zc3,Zev,Zew,Zez,Ze0,Ze1,Ze2,Ze3,Ze5,Zfc,Zfd,Zfe,Zhd,Zhe,Zhf,Zhg,Zhh,Zin,Ziu,Ziv,Ziw,Zi6,Zi7,Zjh,Zji,Zjn,Zmt,Zmv,Zmw,Zmy,Zm0,Zm1,Zm2,Zm5,Zm7,Zm9,Zna,Znb,Znn,Zno,Znp,Zos,Zo7,eq_self,true_and,and_true]
  tactic =>
  refine endA ?_
  show rvm [] _ [] (.ag (cU W0)) (.ag (cU W0))
  exact rs_self (okI_map _ (fun _ => rfl) _)
def w32 (n : Int) : Int := IntKind.u32.wrap n
def xr (a b : Int) : Int := bits .xor .u32 a b
def T1 (e f g h k w : Int) : Int := w32 (w32 (w32 (w32 (h + xr (xr (rotR e 6) (rotR e 11)) (rotR e 25)) + xr g (bits .and .u32 e (xr f g))) + k) + w)
def T2 (a b c : Int) : Int := w32 (xr (xr (rotR a 2) (rotR a 13)) (rotR a 22) + bits .or .u32 (bits .and .u32 a b) (bits .and .u32 c (bits .or .u32 a b)))
def rnd (r : List Int) (k w : Int) : List Int := match r with
  | [a, b, c, d, e, f, g, h] => [w32 (T1 e f g h k w + T2 a b c), a, b, c, w32 (d + T1 e f g h k w), e, f, g]
  | r => r
theorem round_con (a b c d e f g h k w : Int) : Con Try.prog 146 [] [.ag [U a, U b, U c, U d, U e, U f, U g, U h], U k, U w] [] (.ag (cU (rnd [a, b, c, d, e, f, g, h] k w))) := by
  refine con_j b146 rfl ?_
  sym =>
  simp [Zab,Zac,Zad,Zam,Zaz,Za0,Za1,Za2,Za3,Za4,Za5,Za9,Zba,Zbb,Zbc,Zbu,Zb0,Zcv,Zcx,Zc7,Zc8,Zdc,Zdd,Zde,Zdo,Zdp,Zdt,Zdu,Zdv,Zdw,Zdx,Zdy,Zdz,Zd0,Zd1,Zd2,Zek,Zev,Zew,Zez,Ze0,Ze2,Ze3,Ze5,Ze8,Zfc,Zfd,Zfe,Zfh,Zgr,Zgs,Zgt,Zgv,Zg1,Zg2,Zho,Zin,Zio,Zip,Zi6,Zla,Zlb,Zle,Zlj,Zm6,Zm9,Zna,Znb,Zne,Znf,Zng,Zoa,Zrd,Zos,Zot,Zo7,eq_self,true_and,and_true,callable_150]
  tactic =>
  refine cl none (right_con e 6 (by decide) (by decide)) trivial ?_
  sym =>
  simp [Za5,Za9,Zba,Zbb,Zdc,Zdd,Zde,Zdi,Zev,Zew,Zez,Ze0,Ze2,Zfd,Zfe,Zfh,Zjr,Zla,Zlb,Zle,Zlj,Zlz,Zne,Znf,Zng,eq_self,true_and,and_true,callable_150]
  tactic =>
  refine cl none (right_con e 11 (by decide) (by decide)) trivial ?_
  sym =>
  simp [Za5,Za9,Zba,Zbb,Zbf,Zdc,Zdd,Zde,Zdi,Zev,Zew,Zez,Ze0,Ze2,Zfd,Zfe,Zfh,Zfn,Zfx,Zjr,Zla,Zlb,Zle,Zlj,Zlz,Zne,Znf,Zng,eq_self,true_and,and_true,callable_150]
  tactic =>
  refine cl none (right_con e 25 (by decide) (by decide)) trivial ?_
  sym =>
  simp [Zab,Zad,Zam,Zaz,Za0,Za1,Za2,Za3,Za4,Za5,Za9,Zba,Zbb,Zbf,Zdc,Zdd,Zde,Zdi,Zev,Zew,Zez,Ze0,Ze2,Zfd,Zfe,Zfh,Zfn,Zfq,Zfv,Zfx,Zjr,Zla,Zlb,Zle,Zlj,Zlz,Zna,Znb,Zne,Znf,Zng,Zo7,eq_self,true_and,and_true,callable_150]
  tactic =>
  refine cl none (right_con a 2 (by decide) (by decide)) trivial ?_
  sym =>
  simp [Za5,Za9,Zba,Zbb,Zdc,Zdd,Zde,Zdi,Zev,Zew,Zez,Ze0,Ze2,Zfd,Zfe,Zfh,Zjr,Zla,Zlb,Zle,Zlj,Zlz,Zne,Znf,Zng,eq_self,true_and,and_true,callable_150]
  tactic =>
  refine cl none (right_con a 13 (by decide) (by decide)) trivial ?_
  sym =>
  simp [Za5,Za9,Zba,Zbb,Zbf,Zdc,Zdd,Zde,Zdi,Zev,Zew,Zez,Ze0,Ze2,Zfd,Zfe,Zfh,Zfn,Zfx,Zjr,Zla,Zlb,Zle,Zlj,Zlz,Zne,Znf,Zng,eq_self,true_and,and_true,callable_150]
  tactic =>
  refine cl none (right_con a 22 (by decide) (by decide)) trivial ?_
  sym =>
  simp [Zab,Zad,Zak,Zam,Zaz,Za0,Za1,Za2,Za3,Za4,Za5,Za9,Zba,Zbb,Zbf,Zb9,Zc3,Zdi,Zev,Zez,Ze0,Ze1,Ze2,Ze3,Ze5,Zfc,Zfd,Zfe,Zfh,Zfn,Zfq,Zfv,Zfw,Zfx,Zhd,Zhe,Zhf,Zhg,Zhh,Ziu,Ziv,Ziw,Zi6,Zi7,Zjh,Zji,Zjn,Zjr,Zlz,Zmt,Zmv,Zmw,Zmy,Zm0,Zm1,Zm2,Zm5,Zm7,Zm9,Zna,Znb,Znn,Zno,Znp,Zo7,eq_self,true_and,and_true]
  tactic =>
  refine endA ?_
  exact rs_eq (l := cU (rnd [a, b, c, d, e, f, g, h] k w)) rfl (okI_map _ (fun _ => rfl) _)
theorem cU_length (l : List Int) : (cU l).length = l.length := by simp [cU]
theorem cU_get (l : List Int) (i : Nat) (h : i < l.length) : (cU l).getD i .un = U (l.getD i 0) := by simp [cU, List.getD_eq_getElem?_getD, List.getElem?_eq_getElem h]
theorem cU_set (l : List Int) (i : Nat) (v : Int) : (cU l).set i (U v) = cU (l.set i v) := by simp [cU, List.map_set]
theorem cU_okI (l : List Int) : okI (cU l) := okI_map _ (fun _ => rfl) _
theorem cU_okF (l : List Int) : okF (cU l) := by
  intro x hx
  obtain ⟨a, _, rfl⟩ := List.mem_map.1 hx
  rfl
def K0 : List Int := [1116352408, 1899447441, 3049323471, 3921009573, 961987163, 1508970993, 2453635748, 2870763221, 3624381080, 310598401, 607225278, 1426881987, 1925078388, 2162078206, 2614888103, 3248222580, 3835390401, 4022224774, 264347078, 604807628, 770255983, 1249150122, 1555081692, 1996064986, 2554220882, 2821834349, 2952996808, 3210313671, 3336571891, 3584528711, 113926993, 338241895, 666307205, 773529912, 1294757372, 1396182291, 1695183700, 1986661051, 2177026350, 2456956037, 2730485921, 2820302411, 3259730800, 3345764771, 3516065817, 3600352804, 4094571909, 275423344, 430227734, 506948616, 659060556, 883997877, 958139571, 1322822218, 1537002063, 1747873779, 1955562222, 2024104815, 2227730452, 2361852424, 2428436474, 2756734187, 3204031479, 3329325298]
theorem const_con : Con Try.prog 144 [] [] [] (.ag (cU K0)) := by
  refine con_j b144 rfl ?_
  sym =>
  simp [Zab,Zad,Zak,Zam,Zay,Zaz,Za0,Za1,Za2,Za3,Za4,Za5,Za9,Zba,Zb9,Zcv,Zc3,Zev,Zew,Zez,Ze0,Ze1,Ze2,Ze3,Ze5,Zfc,Zfd,Zfe,Zhd,Zhe,Zhf,Zhg,Zhh,Zin,Ziu,Ziv,Ziw,Zi6,Zi7,Zjh,Zji,Zjn,Zmt,Zmv,Zmw,Zmy,Zm0,Zm1,Zm2,Zm5,Zna,Znb,Znn,Zno,Znp,Zos,Zo7,List.length_replicate,List.length_set,eq_self,true_and,and_true]
  tactic =>
  refine endA ?_
  exact rs_eq (l := cU K0) rfl (cU_okI _)
/-- The words of 64 bytes, laid. -/
def spA (b : List Int) : Nat → List Int
  | 0 => List.replicate 64 0
  | i + 1 => (spA b i).set (i / 4) (bits .or .u32 (w32 ((spA b i).getD (i / 4) 0 * 2 ^ 8)) (w32 (b.getD i 0)))
theorem spA_length (b : List Int) : ∀ i, (spA b i).length = 64
  | 0 => rfl
  | i + 1 => by simp [spA, spA_length b i]
def sig0 (x : Int) : Int := xr (xr (rotR x 7) (rotR x 18)) (x.fdiv 8)
def sig1 (x : Int) : Int := xr (xr (rotR x 17) (rotR x 19)) (x.fdiv 1024)
/-- A round's word out of those before. -/
def nxt (w : List Int) (i : Nat) : Int := w32 (w32 (w32 (w.getD i 0 + sig0 (w.getD (i + 1) 0)) + w.getD (i + 9) 0) + sig1 (w.getD (i + 14) 0))
def spB (w : List Int) : Nat → List Int
  | 0 => w
  | k + 1 => (spB w k).set (16 + k) (nxt (spB w k) k)
theorem spB_length (w : List Int) : ∀ k, (spB w k).length = w.length
  | 0 => rfl
  | k + 1 => by simp [spB, spB_length w k]
def spread (b : List Int) : List Int := spB (spA b 64) 48
theorem q4 (i : Nat) : IntKind.i64.wrap ((IN i).tdiv (4 : Int)) = IN (i / 4) ∨ ¬ i < 4611686018427387904 := by
  by_cases h : i < 4611686018427387904
  · left; simp only [IN]; rw [Int.tdiv_eq_ediv_of_nonneg (by omega), IntKind.wrap_i64]; omega
  · right; exact h
abbrev z64 : List AV := List.replicate 64 (U 0)
theorem z64_okI : okI z64 := cU_okI (List.replicate 64 0)
def i68 (b : List Int) (k : Nat) (s : St) : Prop := ∃ i : Nat, i + k = 64 ∧ s = ⟨[(0, fB b), (2, .pt 0 0), (3, .pt 1 0), (12, I (IN 64)), (13, I (IN i))], [(0, ⟨z64, 1, 0⟩), (1, ⟨cU (spA b i), 1, 0⟩)], 2⟩
def j68 (b : List Int) (k : Nat) (s : St) : Prop := ∃ i : Nat, i + k = 48 ∧ s = ⟨[(2, .pt 0 0), (3, .pt 1 0), (5, I (IN (16 + i)))], [(0, ⟨z64, 1, 0⟩), (1, ⟨cU (spB (spA b 64) i), 1, 0⟩)], 2⟩
theorem cU_rs (P Q R) (l : List Int) (c : List AV) (h : c = cU l) : rv1s P Q R c (cU l) := by subst h; exact rs_self (cU_okI _)
theorem spB0 (w : List Int) : spB w 0 = w := rfl
theorem spread_con (b : List Int) (hb : 64 ≤ b.length) : Con Try.prog 145 [] [fB b] [] (.ag (cU (spread b))) := by
  refine con_j b145 rfl ?_
  have h64 : (64 : Int) ≤ IN b.length := by simp only [IN]; omega
  sym =>
  simp [Zab,Zad,Zag,Zah,Zam,Zay,Zaz,Za0,Za1,Za2,Za3,Za4,Za5,Za9,Zba,Zbb,Zch,Zcn,Zcv,Zev,Zew,Zez,Ze0,Ze2,Ze3,Ze5,Zfd,Zfe,Zfh,Zhm,Zhn,Zho,Zhs,Zht,Zhu,Zh6,Zh7,Zin,Zna,Znb,Znh,Zn5,Zrd,Zos,Zot,Zo7,eq_self,true_and,and_true,h64]
  tactic =>
  refine lpA (i68 b) 64 [(0, 0), (1, 1)] _ ⟨0, by omega, rfl⟩ (wkA ?_) ?_
  · sym =>
    simp [Za2,Za3,Zez,Zfc,Znr,Zn5,Zpc,Zpi,Zpu,Zqf,Zqg,Zqh,Zqi,Zqk,Zql,Zqm,Zqn,eq_self,true_and,and_true]
    tactic =>
    exact ⟨rs_self z64_okI, rs_eq (l := cU (List.replicate 64 0)) rfl (cU_okI _)⟩
  rintro k s ⟨i, hi, rfl⟩
  by_cases h : i < 64
  · have hw := w64s i (by omega)
    have hq := (q4 i).resolve_right (by omega)
    have hl := spA_length b i
    have hb1 := cB_get b i (by omega)
    have hc1 := cU_get (spA b i) (i / 4) (by omega)
    have hs1 := cU_set (spA b i) (i / 4) 
    have em : min 8 IntKind.u32.bits = 8 := by decide
    sym =>
    simp [Zaa,Zab,Zac,Zad,Zae,Zaf,Zag,Zal,Zam,Zap,Zav,Zay,Zaz,Za0,Za1,Za2,Za3,Za4,Za5,Za9,Zba,Zbb,Zbc,Zbf,Zbg,Zbm,Zbu,Zb0,Zb2,Zc4,Zc7,Zc8,Zc9,Zdo,Zdp,Zdt,Zdu,Zdv,Zdw,Zdx,Zdy,Zdz,Zd0,Zd1,Zd2,Zeb,Zee,Zek,Zev,Zew,Zez,Ze0,Ze1,Ze2,Ze3,Ze5,Ze8,Zfc,Zfd,Zfe,Zfh,Zfn,Zfo,Zfq,Zft,Zfw,Zf1,Zgh,Zgi,Zgr,Zgs,Zgt,Zgu,Zgv,Zg1,Zg2,Zg4,Zg6,Zho,Ziu,Ziv,Ziw,Zi7,Zjh,Zji,Zjn,Zm6,Zna,Znb,Zne,Znn,Zno,Zns,Znt,Znw,Zrd,Zo7,Zo8,eq_self,true_and,and_true,Nat.zero_add,Nat.mul_one,h,hw,hq,hb1,hc1,hs1,hl,cB_length,cU_length,em]
    tactic =>
    and_intros <;> try (first | omega | rfl | assumption)
    unfold NextL; refine ⟨(k - 1), [(0, 0), (1, 1)], _, by omega, ⟨i + 1, by omega, rfl⟩, wkA ?_⟩
    sym =>
    simp [Za2,Za3,Zez,Zfc,Znr,Zpc,Zpi,Zpu,Zqf,Zqg,Zqh,Zqi,Zqk,Zql,Zqm,Zqn,eq_self,true_and,and_true]
    tactic =>
    exact ⟨rs_self z64_okI, cU_rs _ _ _ _ _ rfl⟩
  · sym =>
    simp [Zab,Zad,Zae,Zaf,Zag,Zah,Zai,Zam,Zan,Zaq,Zaw,Zay,Zaz,Za0,Za1,Za2,Za3,Za4,Za5,Za9,Zba,Zbb,Zbf,Zev,Zew,Zez,Ze0,Ze2,Zfd,Zfe,Zfh,Zfn,Zf1,Zna,Znb,Znt,Zo7,Zo9,eq_self,true_and,h]
    tactic =>
    have e64 : i = 64 := by omega
    refine lpA (j68 b) 48 [(0, 0), (1, 1)] _ ⟨0, by omega, rfl⟩ (wkA ?_) ?_
    · sym =>
      simp [Za2,Za3,Zez,Zfc,Znr,Zob,Zpc,Zpu,Zqf,Zqg,Zqh,Zqi,Zqk,Zql,Zqm,Zqn,eq_self,true_and,and_true]
      tactic =>
      refine ⟨rs_self z64_okI, cU_rs _ _ _ _ _ (by rw [e64, spB0])⟩
    rintro k2 s ⟨i2, hi2, rfl⟩
    by_cases h2 : 16 + i2 < 64
    · have hl2 : (spB (spA b 64) i2).length = 64 := by rw [spB_length, spA_length]
      obtain ⟨G, hG⟩ : ∃ G, G = spB (spA b 64) i2 := ⟨_, rfl⟩
      rw [← hG] at hl2 ⊢
      have hw2 := w64s (16 + i2) (by omega)
      have m15 : IntKind.i64.wrap (IN (16 + i2) - (15 : Int)) = IN (i2 + 1) := w64m (16 + i2) (i2 + 1) 15 (by omega) (by omega)
      have m2 : IntKind.i64.wrap (IN (16 + i2) - (2 : Int)) = IN (i2 + 14) := w64m (16 + i2) (i2 + 14) 2 (by omega) (by omega)
      have m16 : IntKind.i64.wrap (IN (16 + i2) - (16 : Int)) = IN i2 := w64m (16 + i2) i2 16 (by omega) (by omega)
      have m7 : IntKind.i64.wrap (IN (16 + i2) - (7 : Int)) = IN (i2 + 9) := w64m (16 + i2) (i2 + 9) 7 (by omega) (by omega)
      have g15 := cU_get G (i2 + 1) (by omega)
      have g2 := cU_get G (i2 + 14) (by omega)
      have g16 := cU_get G i2 (by omega)
      have g7 := cU_get G (i2 + 9) (by omega)
      have hs2 := cU_set G (16 + i2) 
      have hI : IN (16 + i2) < (64 : Int) := by simp only [IN]; omega
      have e10 : min 10 IntKind.u32.bits = 10 := by decide
      have e3 : min 3 IntKind.u32.bits = 3 := by decide
      sym =>
      simp [Zaa,Zab,Zac,Zad,Zae,Zaf,Zag,Zal,Zam,Zaz,Za0,Za1,Za2,Za3,Za4,Za5,Za9,Zba,Zbb,Zbc,Zbf,Zbg,Zbu,Zb0,Zc7,Zc8,Zdc,Zdd,Zde,Zdo,Zdp,Zdt,Zdu,Zdv,Zdw,Zdx,Zdy,Zdz,Zd0,Zd1,Zd2,Zek,Zev,Zew,Zez,Ze0,Ze2,Ze5,Ze8,Zfc,Zfd,Zfe,Zfh,Zfn,Zfr,Zf1,Zgr,Zgs,Zgt,Zgv,Zg1,Zg2,Zho,Zla,Zlb,Zle,Zlj,Zm6,Zna,Znb,Zne,Znf,Zng,Zns,Znt,Znw,Zo7,Zo8,eq_self,true_and,and_true,Nat.zero_add,Nat.mul_one,hI,hw2,m15,m2,m16,m7,g15,g2,g16,g7,hs2,cU_length,callable_150,e3,e10]
      tactic =>
      and_intros <;> try (first | omega | rfl | assumption)
      refine cl none (right_con _ 7 (by decide) (by decide)) trivial ?_
      sym =>
      simp [Za5,Za9,Zba,Zbb,Zdc,Zdd,Zde,Zdi,Zev,Zew,Zez,Ze0,Ze2,Zfd,Zfe,Zfh,Zjr,Zla,Zlb,Zle,Zlj,Zlz,Zne,Znf,Zng,eq_self,true_and,and_true,hI,hw2,m15,m2,m16,m7,g15,g2,g16,g7,hs2,cU_length,callable_150,e3,e10]
      tactic =>
      refine cl none (right_con _ 18 (by decide) (by decide)) trivial ?_
      sym =>
      simp [Zab,Zad,Zam,Zaz,Za0,Za1,Za2,Za3,Za4,Za5,Za9,Zba,Zbb,Zbf,Zdc,Zdd,Zde,Zdi,Zev,Zew,Zez,Ze0,Ze2,Zfd,Zfe,Zfh,Zfn,Zfp,Zfx,Zjr,Zla,Zlb,Zle,Zlj,Zlz,Zna,Znb,Zne,Znf,Zng,Zrd,Zo7,eq_self,true_and,and_true,hI,hw2,m15,m2,m16,m7,g15,g2,g16,g7,hs2,cU_length,callable_150,e3,e10]
      tactic =>
      refine cl none (right_con _ 17 (by decide) (by decide)) trivial ?_
      sym =>
      simp [Za5,Za9,Zba,Zbb,Zdc,Zdd,Zde,Zdi,Zev,Zew,Zez,Ze0,Ze2,Zfd,Zfe,Zfh,Zjr,Zla,Zlb,Zle,Zlj,Zlz,Zne,Znf,Zng,eq_self,true_and,and_true,hI,hw2,m15,m2,m16,m7,g15,g2,g16,g7,hs2,cU_length,callable_150,e3,e10]
      tactic =>
      refine cl none (right_con _ 19 (by decide) (by decide)) trivial ?_
      sym =>
      simp [Zab,Zac,Zam,Zap,Zav,Zaz,Za0,Za1,Za2,Za3,Za4,Za5,Za9,Zba,Zbb,Zbc,Zbf,Zbg,Zbu,Zb0,Zc4,Zc7,Zc8,Zc9,Zdi,Zdo,Zdp,Zdt,Zdu,Zdv,Zdw,Zdx,Zdy,Zdz,Zd0,Zd1,Zd2,Zek,Zev,Zew,Zez,Ze0,Ze1,Ze2,Ze3,Ze5,Ze8,Zfc,Zfd,Zfe,Zfh,Zfn,Zfp,Zfq,Zfr,Zfx,Zgr,Zgs,Zgt,Zgv,Zg1,Zg2,Zho,Ziu,Ziv,Ziw,Zi7,Zjh,Zji,Zjn,Zjr,Zlz,Zm6,Zna,Znb,Zne,Znn,Zno,Zns,Znt,Znw,Zrd,Zo7,eq_self,true_and,and_true,Nat.zero_add,Nat.mul_one,hI,hw2,m15,m2,m16,m7,g15,g2,g16,g7,hs2,cU_length,callable_150,e3,e10]
      tactic =>
      and_intros <;> try (first | omega | rfl | assumption)
      unfold NextL; refine ⟨(k2 - 1), [(0, 0), (1, 1)], _, by omega, ⟨i2 + 1, by omega, rfl⟩, wkA ?_⟩
      sym =>
      simp [Za2,Za3,Zez,Zfc,Znr,Znv,Zpc,Zpu,Zqf,Zqg,Zqh,Zqi,Zqk,Zql,Zqm,Zqn,Zqr,eq_self,true_and,and_true]
      tactic =>
      refine ⟨rfl, rs_self z64_okI, cU_rs _ _ _ _ _ ?_⟩
      rw [spB, ← hG]
      rfl
    · have hI : ¬ IN (16 + i2) < (64 : Int) := by simp only [IN]; omega
      sym =>
      simp [Zab,Zad,Zae,Zaf,Zai,Zak,Zam,Zan,Zaq,Zaw,Zaz,Za0,Za1,Za2,Za3,Za4,Za5,Za9,Zba,Zbb,Zbf,Zbt,Zc3,Zev,Zew,Zez,Ze0,Ze1,Ze2,Ze3,Ze5,Ze8,Zfc,Zfd,Zfe,Zfh,Zfn,Zf1,Zgr,Zgs,Zgt,Ziu,Ziv,Ziw,Zi6,Zmt,Zmv,Zmw,Zmy,Zm0,Zm1,Zm2,Zm5,Zna,Znb,Zo7,Zo9,List.length_replicate,eq_self,true_and,Nat.zero_add,hI]
      tactic =>
      have e48 : i2 = 48 := by omega
      subst e48
      have hX : spB (spA b 64) 48 = spread b := by rw [spread]
      have hl2 : (cU (spread b)).length = 64 := by rw [cU_length, ← hX, spB_length, spA_length]
      have hr : rdb (cU (spread b)) 0 64 = cU (spread b) := rdb_all hl2
      have hs : spl (List.replicate 64 (.sc (.int .u32 0))) 0 (cU (spread b)) = cU (spread b) := spl_new _ _ (by rw [hl2]; simp)
      rw [hX]
      obtain ⟨X, hXX⟩ : ∃ X, X = spread b := ⟨_, rfl⟩
      rw [← hXX] at hr hs hl2 ⊢
      sym =>
      simp [eq_self,true_and,hr,hs,hl2]
      tactic =>
      refine ⟨okF_cells (cU_okF X) _, endA ?_⟩
      sym =>
      simp [Zp8]
      tactic =>
      exact rs_self (cU_okI X)
def rs8 (R : List Int) : List Int := [R.getD 0 0, R.getD 1 0, R.getD 2 0, R.getD 3 0, R.getD 4 0, R.getD 5 0, R.getD 6 0, R.getD 7 0]
theorem rnd_length (R : List Int) (k w : Int) : (rnd (rs8 R) k w).length = 8 := rfl
def runs (K W S : List Int) : Nat → List Int
  | 0 => rs8 S
  | i + 1 => rnd (rs8 (runs K W S i)) (K.getD i 0) (W.getD i 0)
theorem runs_length (K W S : List Int) : ∀ i, (runs K W S i).length = 8
  | 0 => rfl
  | i + 1 => rnd_length _ _ _
/-- The sums of the words of two lists, as far as the first i. -/
def sums (S R : List Int) : Nat → List Int
  | 0 => R
  | i + 1 => (sums S R i).set i (w32 ((sums S R i).getD i 0 + S.getD i 0))
theorem sums_length (S R : List Int) : ∀ i, (sums S R i).length = R.length
  | 0 => rfl
  | i + 1 => by simp [sums, sums_length S R i]
def block (S b : List Int) : List Int := sums S (runs K0 (spread b) S 64) 8
theorem spread_length (b : List Int) : (spread b).length = 64 := by rw [spread, spB_length, spA_length]
theorem cU_fl (l : List Int) : flL (cU l) = true := by
  induction l with
  | nil => rfl
  | cons a l ih => exact ih
theorem cU_cells (st : St) (l : List Int) : okCells st (cU l) = True := eq_true (okF_cells (cU_okF l) st)
abbrev z8 : List AV := [U 0, U 0, U 0, U 0, U 0, U 0, U 0, U 0]
theorem cU8 (T : List Int) (h : T.length = 8) : cU T = [U (T.getD 0 0), U (T.getD 1 0), U (T.getD 2 0), U (T.getD 3 0), U (T.getD 4 0), U (T.getD 5 0), U (T.getD 6 0), U (T.getD 7 0)] := by
  match T, h with
  | [a, b, c, d, e, f, g, h], _ => rfl
def i138 (K S W : List Int) (k : Nat) (s : St) : Prop := ∃ i : Nat, i + k = 64 ∧ s = ⟨[(2, .pt 0 0), (4, .pt 1 0), (5, .pt 2 0), (6, .pt 3 0), (7, .pt 4 0), (14, I (IN i))], [(0, ⟨cU S, 1, 0⟩), (1, ⟨z8, 1, 0⟩), (2, ⟨cU (runs K W S i), 1, 0⟩), (3, ⟨cU K, 1, 0⟩), (4, ⟨cU W, 1, 0⟩)], 5⟩
def j48 (R S : List Int) (k : Nat) (s : St) : Prop := ∃ i : Nat, i + k = 8 ∧ s = ⟨[(2, .pt 0 0), (4, .pt 1 0), (5, .pt 2 0), (26, I (IN i))], [(0, ⟨cU S, 1, 0⟩), (1, ⟨z8, 1, 0⟩), (2, ⟨cU (sums S R i), 1, 0⟩)], 3⟩
theorem block_con (S b : List Int) (hS : S.length = 8) (hb : 64 ≤ b.length) : Con Try.prog 138 [] [.ag (cU S), fB b] [] (.ag (cU (block S b))) := by
  refine con_j b138 rfl ?_
  have hS2 : (cU S).length = 8 := by rw [cU_length, hS]
  have s0 := cU_get S 0 (by omega)
  have s1 := cU_get S 1 (by omega)
  have s2 := cU_get S 2 (by omega)
  have s3 := cU_get S 3 (by omega)
  have s4 := cU_get S 4 (by omega)
  have s5 := cU_get S 5 (by omega)
  have s6 := cU_get S 6 (by omega)
  have s7 := cU_get S 7 (by omega)
  have hK : (cU K0).length = 64 := rfl
  have hsp := spl_new (cU K0) (List.replicate 64 (.sc (.int .u32 0))) (by rw [hK]; simp)
  have hW : (cU (spread b)).length = 64 := by rw [cU_length, spread_length]
  have hsq := spl_new (cU (spread b)) (List.replicate 64 (.sc (.int .u32 0))) (by rw [hW]; simp)
  have hf1 := cU_fl K0
  have hf2 := cU_fl (spread b)
  obtain ⟨K, hKK⟩ : ∃ K, K = K0 := ⟨_, rfl⟩
  obtain ⟨W, hWW⟩ : ∃ W, W = spread b := ⟨_, rfl⟩
  have cc := const_con
  have cs := spread_con b hb
  rw [← hKK] at hK hsp hf1 cc
  rw [← hWW] at hW hsq hf2 cs
  sym =>
  simp [Zaa,Zab,Zac,Zad,Zae,Zaf,Zag,Zah,Zai,Zak,Zal,Zam,Zan,Zap,Zaq,Zav,Zaw,Zay,Zaz,Za0,Za1,Za2,Za3,Za4,Za5,Za9,Zba,Zbb,Zbc,Zbf,Zbg,Zbt,Zbu,Zb0,Zcv,Zcw,Zcx,Zc3,Zc4,Zc7,Zc8,Zc9,Zdf,Zdg,Zdh,Zdj,Zdk,Zdo,Zdp,Zdt,Zdu,Zdv,Zdw,Zdx,Zdy,Zdz,Zd0,Zd1,Zd2,Zd3,Zeb,Zek,Zen,Zeq,Zer,Zes,Zet,Zev,Zew,Zez,Ze0,Ze1,Ze2,Ze3,Ze5,Ze8,Zfc,Zfd,Zfe,Zfh,Zfn,Zfq,Zf1,Zgr,Zgs,Zgt,Zgv,Zg1,Zg2,Zho,Zin,Zio,Zip,Ziu,Ziv,Ziw,Zi6,Zi7,Zjh,Zji,Zjn,Zkv,Zla,Zlb,Zlc,Zld,Zle,Zlf,Zlh,Zlj,Zlk,Zll,Zlz,Zmt,Zmv,Zmw,Zmy,Zm0,Zm1,Zm2,Zm5,Zm6,Zm7,Zm9,Zna,Znb,Znc,Znd,Zne,Znf,Zng,Znn,Zno,Znp,Znr,Zns,Znt,Znw,Zn5,Zoa,Zos,Zot,Zo7,Zo8,Zo9,Zpa,Zpc,Zpu,Zp8,Zqb,Zqc,Zqf,Zqg,Zqh,Zqi,Zqk,Zql,Zqm,Zqn,List.length_replicate,eq_self,true_and,and_true,Nat.zero_add,Nat.mul_one,hS2,callable_144,callable_145]
  tactic =>
  refine cl none (cc) trivial ?_
  sym =>
  simp [Zaa,Zab,Zac,Zad,Zae,Zaf,Zag,Zah,Zai,Zak,Zal,Zam,Zan,Zap,Zaq,Zav,Zaw,Zay,Zaz,Za0,Za1,Za2,Za3,Za4,Za5,Za9,Zba,Zbb,Zbc,Zbf,Zbg,Zbt,Zbu,Zb0,Zcv,Zcw,Zcx,Zc3,Zc4,Zc7,Zc8,Zc9,Zdf,Zdg,Zdh,Zdj,Zdk,Zdo,Zdp,Zdt,Zdu,Zdv,Zdw,Zdx,Zdy,Zdz,Zd0,Zd1,Zd2,Zd3,Zeb,Zek,Zen,Zeq,Zer,Zes,Zet,Zev,Zew,Zez,Ze0,Ze1,Ze2,Ze3,Ze5,Ze8,Zfc,Zfd,Zfe,Zfh,Zfn,Zfq,Zf1,Zgr,Zgs,Zgt,Zgv,Zg1,Zg2,Zho,Zin,Zio,Zip,Ziu,Ziv,Ziw,Zi6,Zi7,Zjh,Zji,Zjn,Zkv,Zla,Zlb,Zlc,Zld,Zle,Zlf,Zlh,Zlj,Zlk,Zll,Zlz,Zmt,Zmv,Zmw,Zmy,Zm0,Zm1,Zm2,Zm5,Zm6,Zm7,Zm9,Zna,Znb,Znc,Znd,Zne,Znf,Zng,Znn,Zno,Znp,Znr,Zns,Znt,Znw,Zn5,Zoa,Zos,Zot,Zo7,Zo8,Zo9,Zpa,Zpc,Zpu,Zp8,Zqb,Zqc,Zqf,Zqg,Zqh,Zqi,Zqk,Zql,Zqm,Zqn,List.length_replicate,eq_self,true_and,and_true,Nat.zero_add,Nat.mul_one,hS2,callable_144,callable_145,hf1]
  tactic =>
  refine cl none (cs) trivial ?_
  sym =>
  simp [Zaa,Zab,Zac,Zad,Zae,Zaf,Zag,Zah,Zai,Zak,Zal,Zam,Zan,Zap,Zaq,Zav,Zaw,Zay,Zaz,Za0,Za1,Za2,Za3,Za4,Za5,Za9,Zba,Zbb,Zbc,Zbf,Zbg,Zbt,Zbu,Zb0,Zcv,Zcw,Zcx,Zc3,Zc4,Zc7,Zc8,Zc9,Zdf,Zdg,Zdh,Zdj,Zdk,Zdo,Zdp,Zdt,Zdu,Zdv,Zdw,Zdx,Zdy,Zdz,Zd0,Zd1,Zd2,Zd3,Zeb,Zek,Zen,Zeq,Zer,Zes,Zet,Zev,Zew,Zez,Ze0,Ze1,Ze2,Ze3,Ze5,Ze8,Zfc,Zfd,Zfe,Zfh,Zfn,Zfq,Zf1,Zgr,Zgs,Zgt,Zgv,Zg1,Zg2,Zho,Zin,Zio,Zip,Ziu,Ziv,Ziw,Zi6,Zi7,Zjh,Zji,Zjn,Zkv,Zla,Zlb,Zlc,Zld,Zle,Zlf,Zlh,Zlj,Zlk,Zll,Zlz,Zmt,Zmv,Zmw,Zmy,Zm0,Zm1,Zm2,Zm5,Zm6,Zm7,Zm9,Zna,Znb,Znc,Znd,Zne,Znf,Zng,Znn,Zno,Znp,Znr,Zns,Znt,Znw,Zn5,Zoa,Zos,Zot,Zo7,Zo8,Zo9,Zpa,Zpc,Zpu,Zp8,Zqb,Zqc,Zqf,Zqg,Zqh,Zqi,Zqk,Zql,Zqm,Zqn,List.length_replicate,eq_self,true_and,and_true,Nat.zero_add,Nat.mul_one,hS2,callable_144,callable_145,s0,s1,s2,s3,s4,s5,s6,s7,hK,hW,hsp,hsq,hf1,hf2,cU_cells]
  tactic =>
  refine lpA (i138 K S W) 64 [(0, 0), (1, 1), (2, 6), (3, 7), (4, 8)] _ ⟨0, by omega, rfl⟩ (wkA ?_) ?_
  · sym =>
    simp [Zaa,Zab,Zac,Zad,Zae,Zaf,Zag,Zah,Zai,Zak,Zal,Zam,Zan,Zap,Zaq,Zav,Zaw,Zay,Zaz,Za0,Za1,Za2,Za3,Za4,Za5,Za9,Zba,Zbb,Zbc,Zbf,Zbg,Zbt,Zbu,Zb0,Zcv,Zcw,Zcx,Zc3,Zc4,Zc7,Zc8,Zc9,Zdf,Zdg,Zdh,Zdj,Zdk,Zdo,Zdp,Zdt,Zdu,Zdv,Zdw,Zdx,Zdy,Zdz,Zd0,Zd1,Zd2,Zd3,Zeb,Zek,Zen,Zeq,Zer,Zes,Zet,Zev,Zew,Zez,Ze0,Ze1,Ze2,Ze3,Ze5,Ze8,Zfc,Zfd,Zfe,Zfh,Zfn,Zfq,Zf1,Zgr,Zgs,Zgt,Zgv,Zg1,Zg2,Zho,Zin,Zio,Zip,Ziu,Ziv,Ziw,Zi6,Zi7,Zjh,Zji,Zjn,Zkv,Zla,Zlb,Zlc,Zld,Zle,Zlf,Zlh,Zlj,Zlk,Zll,Zlz,Zmt,Zmv,Zmw,Zmy,Zm0,Zm1,Zm2,Zm5,Zm6,Zm7,Zm9,Zna,Znb,Znc,Znd,Zne,Znf,Zng,Znn,Zno,Znp,Znr,Zns,Znt,Znw,Zn5,Zoa,Zos,Zot,Zo7,Zo8,Zo9,Zpa,Zpc,Zpu,Zp8,Zqb,Zqc,Zqf,Zqg,Zqh,Zqi,Zqk,Zql,Zqm,Zqn,List.length_replicate,eq_self,true_and,and_true,Nat.zero_add,Nat.mul_one]
    tactic =>
    exact ⟨rs_self (cU_okI S), cU_rs _ _ _ _ _ rfl, rs_self (cU_okI K), rs_self (cU_okI W)⟩
  rintro k s ⟨i, hi, rfl⟩
  by_cases h : i < 64
  · have hRl := runs_length K W S i
    obtain ⟨R, hR⟩ : ∃ R, R = runs K W S i := ⟨_, rfl⟩
    rw [← hR] at hRl ⊢
    have hI : IN i < (64 : Int) := by simp only [IN]; omega
    have hw := w64s i (by omega)
    have hR2 : (cU R).length = 8 := by rw [cU_length, hRl]
    have r0 := cU_get R 0 (by omega)
    have r1 := cU_get R 1 (by omega)
    have r2 := cU_get R 2 (by omega)
    have r3 := cU_get R 3 (by omega)
    have r4 := cU_get R 4 (by omega)
    have r5 := cU_get R 5 (by omega)
    have r6 := cU_get R 6 (by omega)
    have r7 := cU_get R 7 (by omega)
    have gK := cU_get K i (by rw [cU_length] at hK; omega)
    have gW := cU_get W i (by rw [cU_length] at hW; omega)
    sym =>
    simp [Zaa,Zab,Zac,Zad,Zae,Zaf,Zag,Zah,Zai,Zak,Zal,Zam,Zan,Zap,Zaq,Zav,Zaw,Zay,Zaz,Za0,Za1,Za2,Za3,Za4,Za5,Za9,Zba,Zbb,Zbc,Zbf,Zbg,Zbt,Zbu,Zb0,Zcv,Zcw,Zcx,Zc3,Zc4,Zc7,Zc8,Zc9,Zdf,Zdg,Zdh,Zdj,Zdk,Zdo,Zdp,Zdt,Zdu,Zdv,Zdw,Zdx,Zdy,Zdz,Zd0,Zd1,Zd2,Zd3,Zeb,Zek,Zen,Zeq,Zer,Zes,Zet,Zev,Zew,Zez,Ze0,Ze1,Ze2,Ze3,Ze5,Ze8,Zfc,Zfd,Zfe,Zfh,Zfn,Zfq,Zf1,Zgr,Zgs,Zgt,Zgv,Zg1,Zg2,Zho,Zin,Zio,Zip,Ziu,Ziv,Ziw,Zi6,Zi7,Zjh,Zji,Zjn,Zkv,Zla,Zlb,Zlc,Zld,Zle,Zlf,Zlh,Zlj,Zlk,Zll,Zlz,Zmt,Zmv,Zmw,Zmy,Zm0,Zm1,Zm2,Zm5,Zm6,Zm7,Zm9,Zna,Znb,Znc,Znd,Zne,Znf,Zng,Znn,Zno,Znp,Znr,Zns,Znt,Znw,Zn5,Zoa,Zos,Zot,Zo7,Zo8,Zo9,Zpa,Zpc,Zpu,Zp8,Zqb,Zqc,Zqf,Zqg,Zqh,Zqi,Zqk,Zql,Zqm,Zqn,List.length_replicate,eq_self,true_and,and_true,Nat.zero_add,Nat.mul_one,hI,hw,hR2,r0,r1,r2,r3,r4,r5,r6,r7,gK,gW,hK,hW,callable_146]
    tactic =>
    and_intros <;> try (first | omega | rfl | assumption)
    refine cl none (round_con _ _ _ _ _ _ _ _ _ _) trivial ?_
    have hc := rnd_length R (K.getD i 0) (W.getD i 0)
    have hcR : [R.getD 0 0, R.getD 1 0, R.getD 2 0, R.getD 3 0, R.getD 4 0, R.getD 5 0, R.getD 6 0, R.getD 7 0] = rs8 R := rfl
    rw [hcR]
    obtain ⟨T, hT⟩ : ∃ T, T = rnd (rs8 R) (K.getD i 0) (W.getD i 0) := ⟨_, rfl⟩
    rw [← hT] at hc ⊢
    have hT2 : (cU T).length = 8 := by rw [cU_length, hc]
    have hsT := spl_new (cU T) (cU R) (by rw [hT2, hR2])
    have hfT := cU_fl T
    sym =>
    simp [Zaa,Zab,Zac,Zad,Zae,Zaf,Zag,Zah,Zai,Zak,Zal,Zam,Zan,Zap,Zaq,Zav,Zaw,Zay,Zaz,Za0,Za1,Za2,Za3,Za4,Za5,Za9,Zba,Zbb,Zbc,Zbf,Zbg,Zbt,Zbu,Zb0,Zcv,Zcw,Zcx,Zc3,Zc4,Zc7,Zc8,Zc9,Zdf,Zdg,Zdh,Zdj,Zdk,Zdo,Zdp,Zdt,Zdu,Zdv,Zdw,Zdx,Zdy,Zdz,Zd0,Zd1,Zd2,Zd3,Zeb,Zek,Zen,Zeq,Zer,Zes,Zet,Zev,Zew,Zez,Ze0,Ze1,Ze2,Ze3,Ze5,Ze8,Zfc,Zfd,Zfe,Zfh,Zfn,Zfq,Zf1,Zgr,Zgs,Zgt,Zgv,Zg1,Zg2,Zho,Zin,Zio,Zip,Ziu,Ziv,Ziw,Zi6,Zi7,Zjh,Zji,Zjn,Zkv,Zla,Zlb,Zlc,Zld,Zle,Zlf,Zlh,Zlj,Zlk,Zll,Zlz,Zmt,Zmv,Zmw,Zmy,Zm0,Zm1,Zm2,Zm5,Zm6,Zm7,Zm9,Zna,Znb,Znc,Znd,Zne,Znf,Zng,Znn,Zno,Znp,Znr,Zns,Znt,Znw,Zn5,Zoa,Zos,Zot,Zo7,Zo8,Zo9,Zpa,Zpc,Zpu,Zp8,Zqb,Zqc,Zqf,Zqg,Zqh,Zqi,Zqk,Zql,Zqm,Zqn,List.length_replicate,eq_self,true_and,and_true,Nat.zero_add,Nat.mul_one,hI,hw,hR2,hT2,hsT,hfT,cU_cells,hK,hW]
    tactic =>
    and_intros <;> try (first | omega | rfl | assumption)
    unfold NextL; refine ⟨(k - 1), [(0, 0), (1, 1), (2, 2), (3, 3), (4, 4)], _, by omega, ⟨i + 1, by omega, rfl⟩, wkA ?_⟩
    sym =>
    simp [Zaa,Zab,Zac,Zad,Zae,Zaf,Zag,Zah,Zai,Zak,Zal,Zam,Zan,Zap,Zaq,Zav,Zaw,Zay,Zaz,Za0,Za1,Za2,Za3,Za4,Za5,Za9,Zba,Zbb,Zbc,Zbf,Zbg,Zbt,Zbu,Zb0,Zcv,Zcw,Zcx,Zc3,Zc4,Zc7,Zc8,Zc9,Zdf,Zdg,Zdh,Zdj,Zdk,Zdo,Zdp,Zdt,Zdu,Zdv,Zdw,Zdx,Zdy,Zdz,Zd0,Zd1,Zd2,Zd3,Zeb,Zek,Zen,Zeq,Zer,Zes,Zet,Zev,Zew,Zez,Ze0,Ze1,Ze2,Ze3,Ze5,Ze8,Zfc,Zfd,Zfe,Zfh,Zfn,Zfq,Zf1,Zgr,Zgs,Zgt,Zgv,Zg1,Zg2,Zho,Zin,Zio,Zip,Ziu,Ziv,Ziw,Zi6,Zi7,Zjh,Zji,Zjn,Zkv,Zla,Zlb,Zlc,Zld,Zle,Zlf,Zlh,Zlj,Zlk,Zll,Zlz,Zmt,Zmv,Zmw,Zmy,Zm0,Zm1,Zm2,Zm5,Zm6,Zm7,Zm9,Zna,Znb,Znc,Znd,Zne,Znf,Zng,Znn,Zno,Znp,Znr,Zns,Znt,Znw,Zn5,Zoa,Zos,Zot,Zo7,Zo8,Zo9,Zpa,Zpc,Zpu,Zp8,Zqb,Zqc,Zqf,Zqg,Zqh,Zqi,Zqk,Zql,Zqm,Zqn,List.length_replicate,eq_self,true_and,and_true,Nat.zero_add,Nat.mul_one]
    tactic =>
    refine ⟨rs_self (cU_okI S), cU_rs _ _ _ _ _ ?_, rs_self (cU_okI K), rs_self (cU_okI W)⟩
    rw [hT, hR]
    rfl
  · have hI : ¬ IN i < (64 : Int) := by simp only [IN]; omega
    sym =>
    simp [Zaa,Zab,Zac,Zad,Zae,Zaf,Zag,Zah,Zai,Zak,Zal,Zam,Zan,Zap,Zaq,Zav,Zaw,Zay,Zaz,Za0,Za1,Za2,Za3,Za4,Za5,Za9,Zba,Zbb,Zbc,Zbf,Zbg,Zbt,Zbu,Zb0,Zcv,Zcw,Zcx,Zc3,Zc4,Zc7,Zc8,Zc9,Zdf,Zdg,Zdh,Zdj,Zdk,Zdo,Zdp,Zdt,Zdu,Zdv,Zdw,Zdx,Zdy,Zdz,Zd0,Zd1,Zd2,Zd3,Zeb,Zek,Zen,Zeq,Zer,Zes,Zet,Zev,Zew,Zez,Ze0,Ze1,Ze2,Ze3,Ze5,Ze8,Zfc,Zfd,Zfe,Zfh,Zfn,Zfq,Zf1,Zgr,Zgs,Zgt,Zgv,Zg1,Zg2,Zho,Zin,Zio,Zip,Ziu,Ziv,Ziw,Zi6,Zi7,Zjh,Zji,Zjn,Zkv,Zla,Zlb,Zlc,Zld,Zle,Zlf,Zlh,Zlj,Zlk,Zll,Zlz,Zmt,Zmv,Zmw,Zmy,Zm0,Zm1,Zm2,Zm5,Zm6,Zm7,Zm9,Zna,Znb,Znc,Znd,Zne,Znf,Zng,Znn,Zno,Znp,Znr,Zns,Znt,Znw,Zn5,Zoa,Zos,Zot,Zo7,Zo8,Zo9,Zpa,Zpc,Zpu,Zp8,Zqb,Zqc,Zqf,Zqg,Zqh,Zqi,Zqk,Zql,Zqm,Zqn,List.length_replicate,eq_self,true_and,and_true,Nat.zero_add,Nat.mul_one,hI]
    tactic =>
    have e64 : i = 64 := by omega
    subst e64
    have hRl := runs_length K W S 64
    obtain ⟨R, hR⟩ : ∃ R, R = runs K W S 64 := ⟨_, rfl⟩
    rw [← hR] at hRl ⊢
    refine lpA (j48 R S) 8 [(0, 0), (1, 1), (2, 2)] _ ⟨0, by omega, rfl⟩ (wkA ?_) ?_
    · sym =>
      simp [Zaa,Zab,Zac,Zad,Zae,Zaf,Zag,Zah,Zai,Zak,Zal,Zam,Zan,Zap,Zaq,Zav,Zaw,Zay,Zaz,Za0,Za1,Za2,Za3,Za4,Za5,Za9,Zba,Zbb,Zbc,Zbf,Zbg,Zbt,Zbu,Zb0,Zcv,Zcw,Zcx,Zc3,Zc4,Zc7,Zc8,Zc9,Zdf,Zdg,Zdh,Zdj,Zdk,Zdo,Zdp,Zdt,Zdu,Zdv,Zdw,Zdx,Zdy,Zdz,Zd0,Zd1,Zd2,Zd3,Zeb,Zek,Zen,Zeq,Zer,Zes,Zet,Zev,Zew,Zez,Ze0,Ze1,Ze2,Ze3,Ze5,Ze8,Zfc,Zfd,Zfe,Zfh,Zfn,Zfq,Zf1,Zgr,Zgs,Zgt,Zgv,Zg1,Zg2,Zho,Zin,Zio,Zip,Ziu,Ziv,Ziw,Zi6,Zi7,Zjh,Zji,Zjn,Zkv,Zla,Zlb,Zlc,Zld,Zle,Zlf,Zlh,Zlj,Zlk,Zll,Zlz,Zmt,Zmv,Zmw,Zmy,Zm0,Zm1,Zm2,Zm5,Zm6,Zm7,Zm9,Zna,Znb,Znc,Znd,Zne,Znf,Zng,Znn,Zno,Znp,Znr,Zns,Znt,Znw,Zn5,Zoa,Zos,Zot,Zo7,Zo8,Zo9,Zpa,Zpc,Zpu,Zp8,Zqb,Zqc,Zqf,Zqg,Zqh,Zqi,Zqk,Zql,Zqm,Zqn,List.length_replicate,eq_self,true_and,and_true,Nat.zero_add,Nat.mul_one]
      tactic =>
      exact ⟨rs_self (cU_okI S), cU_rs _ _ _ _ _ rfl⟩
    rintro k2 s ⟨j, hj, rfl⟩
    have hTl : (sums S R j).length = 8 := by rw [sums_length, hRl]
    obtain ⟨T, hT⟩ : ∃ T, T = sums S R j := ⟨_, rfl⟩
    rw [← hT] at hTl ⊢
    have hT2 : (cU T).length = 8 := by rw [cU_length, hTl]
    by_cases h2 : j < 8
    · have hI2 : IN j < (8 : Int) := by simp only [IN]; omega
      have hw := w64s j (by omega)
      have gT := cU_get T j (by omega)
      have gS := cU_get S j (by omega)
      have hs2 := cU_set T j
      sym =>
      simp [Zaa,Zab,Zac,Zad,Zae,Zaf,Zag,Zah,Zai,Zak,Zal,Zam,Zan,Zap,Zaq,Zav,Zaw,Zay,Zaz,Za0,Za1,Za2,Za3,Za4,Za5,Za9,Zba,Zbb,Zbc,Zbf,Zbg,Zbt,Zbu,Zb0,Zcv,Zcw,Zcx,Zc3,Zc4,Zc7,Zc8,Zc9,Zdf,Zdg,Zdh,Zdj,Zdk,Zdo,Zdp,Zdt,Zdu,Zdv,Zdw,Zdx,Zdy,Zdz,Zd0,Zd1,Zd2,Zd3,Zeb,Zek,Zen,Zeq,Zer,Zes,Zet,Zev,Zew,Zez,Ze0,Ze1,Ze2,Ze3,Ze5,Ze8,Zfc,Zfd,Zfe,Zfh,Zfn,Zfq,Zf1,Zgr,Zgs,Zgt,Zgv,Zg1,Zg2,Zho,Zin,Zio,Zip,Ziu,Ziv,Ziw,Zi6,Zi7,Zjh,Zji,Zjn,Zkv,Zla,Zlb,Zlc,Zld,Zle,Zlf,Zlh,Zlj,Zlk,Zll,Zlz,Zmt,Zmv,Zmw,Zmy,Zm0,Zm1,Zm2,Zm5,Zm6,Zm7,Zm9,Zna,Znb,Znc,Znd,Zne,Znf,Zng,Znn,Zno,Znp,Znr,Zns,Znt,Znw,Zn5,Zoa,Zos,Zot,Zo7,Zo8,Zo9,Zpa,Zpc,Zpu,Zp8,Zqb,Zqc,Zqf,Zqg,Zqh,Zqi,Zqk,Zql,Zqm,Zqn,List.length_replicate,eq_self,true_and,and_true,Nat.zero_add,Nat.mul_one,hI2,hw,hT2,hS2,gT,gS,hs2]
      tactic =>
      and_intros <;> try (first | omega | rfl | assumption)
      unfold NextL; refine ⟨(k2 - 1), [(0, 0), (1, 1), (2, 2)], _, by omega, ⟨j + 1, by omega, rfl⟩, wkA ?_⟩
      sym =>
      simp [Zaa,Zab,Zac,Zad,Zae,Zaf,Zag,Zah,Zai,Zak,Zal,Zam,Zan,Zap,Zaq,Zav,Zaw,Zay,Zaz,Za0,Za1,Za2,Za3,Za4,Za5,Za9,Zba,Zbb,Zbc,Zbf,Zbg,Zbt,Zbu,Zb0,Zcv,Zcw,Zcx,Zc3,Zc4,Zc7,Zc8,Zc9,Zdf,Zdg,Zdh,Zdj,Zdk,Zdo,Zdp,Zdt,Zdu,Zdv,Zdw,Zdx,Zdy,Zdz,Zd0,Zd1,Zd2,Zd3,Zeb,Zek,Zen,Zeq,Zer,Zes,Zet,Zev,Zew,Zez,Ze0,Ze1,Ze2,Ze3,Ze5,Ze8,Zfc,Zfd,Zfe,Zfh,Zfn,Zfq,Zf1,Zgr,Zgs,Zgt,Zgv,Zg1,Zg2,Zho,Zin,Zio,Zip,Ziu,Ziv,Ziw,Zi6,Zi7,Zjh,Zji,Zjn,Zkv,Zla,Zlb,Zlc,Zld,Zle,Zlf,Zlh,Zlj,Zlk,Zll,Zlz,Zmt,Zmv,Zmw,Zmy,Zm0,Zm1,Zm2,Zm5,Zm6,Zm7,Zm9,Zna,Znb,Znc,Znd,Zne,Znf,Zng,Znn,Zno,Znp,Znr,Zns,Znt,Znw,Zn5,Zoa,Zos,Zot,Zo7,Zo8,Zo9,Zpa,Zpc,Zpu,Zp8,Zqb,Zqc,Zqf,Zqg,Zqh,Zqi,Zqk,Zql,Zqm,Zqn,List.length_replicate,eq_self,true_and,and_true,Nat.zero_add,Nat.mul_one]
      tactic =>
      refine ⟨rs_self (cU_okI S), cU_rs _ _ _ _ _ ?_⟩
      rw [hT]
      rfl
    · have hI2 : ¬ IN j < (8 : Int) := by simp only [IN]; omega
      have t0 := cU_get T 0 (by omega)
      have t1 := cU_get T 1 (by omega)
      have t2 := cU_get T 2 (by omega)
      have t3 := cU_get T 3 (by omega)
      have t4 := cU_get T 4 (by omega)
      have t5 := cU_get T 5 (by omega)
      have t6 := cU_get T 6 (by omega)
      have t7 := cU_get T 7 (by omega)
      sym =>
      simp [Zaa,Zab,Zac,Zad,Zae,Zaf,Zag,Zah,Zai,Zak,Zal,Zam,Zan,Zap,Zaq,Zav,Zaw,Zay,Zaz,Za0,Za1,Za2,Za3,Za4,Za5,Za9,Zba,Zbb,Zbc,Zbf,Zbg,Zbt,Zbu,Zb0,Zcv,Zcw,Zcx,Zc3,Zc4,Zc7,Zc8,Zc9,Zdf,Zdg,Zdh,Zdj,Zdk,Zdo,Zdp,Zdt,Zdu,Zdv,Zdw,Zdx,Zdy,Zdz,Zd0,Zd1,Zd2,Zd3,Zeb,Zek,Zen,Zeq,Zer,Zes,Zet,Zev,Zew,Zez,Ze0,Ze1,Ze2,Ze3,Ze5,Ze8,Zfc,Zfd,Zfe,Zfh,Zfn,Zfq,Zf1,Zgr,Zgs,Zgt,Zgv,Zg1,Zg2,Zho,Zin,Zio,Zip,Ziu,Ziv,Ziw,Zi6,Zi7,Zjh,Zji,Zjn,Zkv,Zla,Zlb,Zlc,Zld,Zle,Zlf,Zlh,Zlj,Zlk,Zll,Zlz,Zmt,Zmv,Zmw,Zmy,Zm0,Zm1,Zm2,Zm5,Zm6,Zm7,Zm9,Zna,Znb,Znc,Znd,Zne,Znf,Zng,Znn,Zno,Znp,Znr,Zns,Znt,Znw,Zn5,Zoa,Zos,Zot,Zo7,Zo8,Zo9,Zpa,Zpc,Zpu,Zp8,Zqb,Zqc,Zqf,Zqg,Zqh,Zqi,Zqk,Zql,Zqm,Zqn,List.length_replicate,eq_self,true_and,and_true,Nat.zero_add,Nat.mul_one,hI2,hT2,t0,t1,t2,t3,t4,t5,t6,t7]
      tactic =>
      have e8 : j = 8 := by omega
      have hfin : block S b = T := by rw [hT, hR, hKK, hWW, e8, block]
      rw [hfin]
      refine endA ?_
      sym =>
      simp [Zaa,Zab,Zac,Zad,Zae,Zaf,Zag,Zah,Zai,Zak,Zal,Zam,Zan,Zap,Zaq,Zav,Zaw,Zay,Zaz,Za0,Za1,Za2,Za3,Za4,Za5,Za9,Zba,Zbb,Zbc,Zbf,Zbg,Zbt,Zbu,Zb0,Zcv,Zcw,Zcx,Zc3,Zc4,Zc7,Zc8,Zc9,Zdf,Zdg,Zdh,Zdj,Zdk,Zdo,Zdp,Zdt,Zdu,Zdv,Zdw,Zdx,Zdy,Zdz,Zd0,Zd1,Zd2,Zd3,Zeb,Zek,Zen,Zeq,Zer,Zes,Zet,Zev,Zew,Zez,Ze0,Ze1,Ze2,Ze3,Ze5,Ze8,Zfc,Zfd,Zfe,Zfh,Zfn,Zfq,Zf1,Zgr,Zgs,Zgt,Zgv,Zg1,Zg2,Zho,Zin,Zio,Zip,Ziu,Ziv,Ziw,Zi6,Zi7,Zjh,Zji,Zjn,Zkv,Zla,Zlb,Zlc,Zld,Zle,Zlf,Zlh,Zlj,Zlk,Zll,Zlz,Zmt,Zmv,Zmw,Zmy,Zm0,Zm1,Zm2,Zm5,Zm6,Zm7,Zm9,Zna,Znb,Znc,Znd,Zne,Znf,Zng,Znn,Zno,Znp,Znr,Zns,Znt,Znw,Zn5,Zoa,Zos,Zot,Zo7,Zo8,Zo9,Zpa,Zpc,Zpu,Zp8,Zqb,Zqc,Zqf,Zqg,Zqh,Zqi,Zqk,Zql,Zqm,Zqn,List.length_replicate,eq_self,true_and,and_true,Nat.zero_add,Nat.mul_one]
      tactic =>
      rw [← cU8 T hTl]
      exact rs_self (cU_okI T)
theorem ok_con (c : List AV) (b : Bool) (h : c.getD 0 .un = Bo b) (h1 : 1 ≤ c.length) : Con Try.prog 137 [] [.fp c 0] [] (Bo b) := by
  refine con_j b137 rfl ?_
  sym =>
  simp [Zab,Zad,Zak,Zam,Zaz,Za0,Za1,Za2,Za3,Za4,Za5,Za6,Za7,Za9,Zba,Zbb,Zbd,Zbt,Zbv,Zcd,Zq9,Zrb,Zev,Zew,Zex,Zez,Ze0,Ze2,Ze5,Zfd,Zfe,Zfh,Zfi,Zfl,Zgr,Zgu,Zgw,Zgy,Zhj,Zhl,Zmt,Zmv,Zmw,Zmx,Zmz,Zm2,Zm6,Zna,Znb,Zos,Zot,Zo4,Zo7,eq_self,true_and,h]
  tactic =>
  refine ⟨h1, endA ?_⟩
  sym =>
  simp [Zpc,eq_self]
theorem bclone_con (l : List Int) (hl : l.length ≤ 140737488355328) : Con Try.prog 68 [] [fB l] [(0, ⟨cB l, 1, 0⟩)] (.lv 0 0 l.length) := by
  refine con_o b68 rfl ?_
  sym =>
  simp [Zab,Zad,Zam,Zaz,Za0,Za1,Za2,Za3,Za4,Za5,Za9,Zba,Zbb,Zda,Zdb,Zev,Zew,Zez,Ze0,Ze2,Zfd,Zfe,Zfh,Zna,Znb,Zos,Zot,Zo7,eq_self,true_and]
  tactic =>
  refine nilQ (fun h => ?_) ?_
  · sym =>
    simp [Zab,Zad,Zae,Zaf,Zak,Zal,Zam,Zao,Zay,Zaz,Za0,Za1,Za2,Za3,Za4,Za5,Za9,Zba,Zbb,Zev,Zew,Zez,Ze0,Ze2,Zfd,Zfe,Zfh,Zmt,Zmv,Zmw,Zmx,Zmz,Zm2,Zna,Znb,Zo7,eq_self,true_and]
    tactic =>
    obtain rfl := List.length_eq_zero_iff.1 h
    refine endO [] (nx := 1) ?_
    sym =>
    simp [Zfb,Zfc,Zna,Znr,Zpr,Zqh,Zqi,Zqj,Zqm,eq_self,true_and,and_true]
    tactic =>
    rfl
  · sym =>
    simp [Zaa,Zab,Zad,Zae,Zaf,Zak,Zal,Zam,Zaz,Za0,Za1,Za2,Za3,Za4,Za5,Za9,Zba,Zbb,Zcz,Zc5,Zev,Zez,Ze0,Ze2,Ze3,Ze4,Ze5,Zfc,Zfd,Zfe,Zff,Zfg,Zfh,Zhf,Ziq,Zir,Zix,Ziz,Zi0,Zi1,Zmt,Zmv,Zmw,Zmx,Zmz,Zm2,Zna,Znb,Znc,Zo3,Zo7,eq_self,true_and,and_true,Nat.zero_add,Nat.mul_one,cB_length]
    tactic =>
    refine ⟨⟨cB_okF l, hl, by omega⟩, ?_⟩
    refine endO [(0, 5)] (nx := 6) ?_
    sym =>
    simp [Za2,Zfc,Znr,Zpo,Zqh,Zqi,Zqk,Zql,Zqm,Zqn,eq_self,true_and,and_true]
    tactic =>
    exact rs_self (cB_okI l)
theorem ok_con' (c : List AV) (h : c.getD 0 .un = Bo true) (h1 : 1 ≤ c.length) : Con Try.prog 137 [] [.fp c 0] [] (Bo true) := ok_con c true h h1
def lay8 (g : Int) : List Int := (List.range 8).map fun i => IntKind.u8.wrap ((IntKind.u64.wrap (g * 8)).fdiv (2 ^ (8 * (7 - i))))
def padz (n : Nat) : Nat := (119 - n % 64) % 64
def fill (l : List Int) (g : Int) : List Int := l ++ [128] ++ List.replicate (padz l.length) 0 ++ lay8 g
def pad1 (l : List Int) (j : Nat) : List Int := l ++ [128] ++ List.replicate j 0
def pad2 (l : List Int) (g : Int) (j : Nat) : List Int := l ++ [128] ++ List.replicate (padz l.length) 0 ++ (lay8 g).take j
theorem lay8_length (g : Int) : (lay8 g).length = 8 := rfl
theorem pad1_length (l : List Int) (j : Nat) : (pad1 l j).length = l.length + 1 + j := by simp [pad1]; omega
theorem pad2_length (l : List Int) (g : Int) (j : Nat) (h : j ≤ 8) : (pad2 l g j).length = l.length + 1 + padz l.length + j := by simp [pad2, lay8_length]; omega
theorem pad1_zero (l : List Int) : cB l ++ [Y 128] = cB (pad1 l 0) := by simp [pad1, cB]
theorem pad1_step (l : List Int) (j : Nat) : cB (pad1 l j) ++ [Y 0] = cB (pad1 l (j + 1)) := by simp [pad1, cB, List.replicate_succ']
theorem pad2_zero (l : List Int) (g : Int) : cB (pad1 l (padz l.length)) = cB (pad2 l g 0) := by simp [pad1, pad2]
theorem lay8_get (g : Int) (j : Nat) (h : j < 8) : (lay8 g)[j]? = some (IntKind.u8.wrap ((IntKind.u64.wrap (g * 8)).fdiv (2 ^ (8 * (7 - j))))) := by
  simp [lay8, List.getElem?_range h]
theorem pad2_step (l : List Int) (g : Int) (j : Nat) (h : j < 8) : cB (pad2 l g j) ++ [Y (IntKind.u8.wrap ((IntKind.u64.wrap (g * 8)).fdiv (2 ^ min (8 * (7 - j)) IntKind.u64.bits)))] = cB (pad2 l g (j + 1)) := by
  have e : min (8 * (7 - j)) IntKind.u64.bits = 8 * (7 - j) := by simp only [IntKind.bits]; omega
  rw [e]
  unfold pad2
  rw [List.take_add_one, lay8_get g j h, ← List.append_assoc, Option.toList, cB_append _ [_]]
  rfl
theorem pad2_all (l : List Int) (g : Int) : pad2 l g 8 = fill l g := by rw [pad2, fill, List.take_of_length_le (by rw [lay8_length]; exact Nat.le_refl 8)]
def i49 (c : List AV) (l : List Int) (k : Nat) (s : St) : Prop := ∃ j : Nat, j + k = padz l.length ∧ s = ⟨[(0, .fp c 0), (3, .lv 0 0 (l.length + 1 + j))], [(0, ⟨cB (pad1 l j), 1, 0⟩)], 1⟩
def j49 (c : List AV) (l : List Int) (g : Int) (k : Nat) (s : St) : Prop := ∃ j : Nat, j + k = 8 ∧ s = ⟨[(0, .fp c 0), (3, .lv 0 0 (l.length + 1 + padz l.length + j)), (19, I (IN j))], [(0, ⟨cB (pad2 l g j), 1, 0⟩)], 1⟩
theorem fill_con (c : List AV) (l : List Int) (g : Int) (hc : c.length = 11) (h9 : c.getD 9 .un = fB l) (h10 : c.getD 10 .un = L g) (hl : l.length ≤ 1000) : Con Try.prog 139 [] [.fp c 0] [(0, ⟨cB (fill l g), 1, 0⟩)] (.lv 0 0 (fill l g).length) := by
  refine con_o b139 rfl ?_
  sym =>
  simp [Zab,Zad,Zam,Zaz,Za0,Za1,Za2,Za3,Za4,Za5,Za9,Zba,Zbb,Zbt,Zbv,Zcd,Zdc,Zdd,Zde,Zev,Zew,Zez,Ze0,Ze2,Ze5,Zfd,Zfe,Zfh,Zgr,Zgu,Zgw,Zgy,Zhj,Zhl,Zla,Zlb,Zle,Zll,Zm6,Zna,Znb,Zne,Znf,Zng,Zos,Zot,Zo7,eq_self,true_and,and_true,h9,h10,hc,callable_68]
  tactic =>

  refine cl (some ⟨cB l, 1, 0⟩) (bclone_con l (by omega)) ?_ ?_
  · exact ⟨rfl, cB_okI l⟩
  sym =>
  simp [Zad,Zag,Zah,Zam,Zaz,Za0,Za1,Za2,Za3,Za4,Za5,Za9,Zba,Zbb,Zcz,Zc5,Zdi,Zev,Zew,Zez,Ze0,Ze2,Ze3,Ze4,Ze5,Zfc,Zfd,Zfe,Zff,Zfg,Zfh,Zhf,Zhg,Zhh,Ziq,Zir,Zix,Ziz,Zi0,Zi2,Zi3,Zi7,Zjj,Zjk,Zjo,Zl0,Zl1,Zl2,Zmk,Zna,Znb,Znh,Znl,Znm,Znn,Zno,Znp,Zo7,eq_self,true_and,and_true,Nat.mul_one,h9,h10,hc,cB_length]
  tactic =>
  refine ⟨⟨by omega, by omega, by omega⟩, ?_⟩
  have hz : padz l.length < 64 := Nat.mod_lt _ (by decide)
  have hz2 : (l.length + 1 + padz l.length) % 64 = 56 := by simp only [padz] at *; omega
  refine lpA (i49 c l) (padz l.length) [(0, 7)] _ ⟨0, by omega, rfl⟩ (wkA ?_) ?_
  · sym =>
    simp [Za2,Zez,Zfc,Znr,Zpl,Zpo,Zqf,Zqg,Zqh,Zqi,Zqk,Zql,Zqm,Zqn,eq_self,true_and,and_true,Nat.add_zero]
    tactic =>
    exact cB_rs _ _ _ _ _ (pad1_zero l)
  rintro k s ⟨j, hj, rfl⟩
  by_cases h : j < padz l.length
  · have ht : ¬ (IN (l.length + 1 + j)).tmod (64 : Int) = (56 : Int) := by
      simp only [IN]; rw [Int.tmod_eq_emod_of_nonneg (by omega)]; simp only [padz] at *; omega
    sym =>
    simp [Zaa,Zab,Zad,Zae,Zaf,Zag,Zal,Zam,Zap,Zav,Zaz,Za0,Za1,Za2,Za3,Za4,Za5,Za9,Zba,Zbb,Zbf,Zcn,Zcz,Zc5,Zev,Zew,Zez,Ze0,Ze2,Ze3,Ze4,Ze5,Zfc,Zfd,Zfe,Zff,Zfg,Zfh,Zfn,Zfu,Zf0,Zgv,Zhf,Zhg,Zhh,Zh6,Zh9,Ziq,Zir,Zix,Ziz,Zi0,Zi2,Zi3,Zi7,Zjj,Zjk,Zjo,Zna,Znb,Znh,Znl,Znm,Znn,Zno,Znp,Zo4,Zo7,Zo9,eq_self,true_and,and_true,Nat.mul_one,ht,cB_length,pad1_length]
    tactic =>
    refine ⟨⟨by omega, by omega, by omega⟩, ?_⟩
    unfold NextL; refine ⟨(k - 1), [(0, 7)], _, by omega, ⟨j + 1, by omega, rfl⟩, wkA ?_⟩
    sym =>
    simp [Za2,Zez,Zfc,Znr,Zpl,Zpo,Zqf,Zqg,Zqh,Zqi,Zqk,Zql,Zqm,Zqn,eq_self,true_and,and_true]
    tactic =>
    exact ⟨by omega, cB_rs _ _ _ _ _ (pad1_step l j)⟩
  · have hjz : j = padz l.length := by omega
    have ht : (IN (l.length + 1 + j)).tmod (64 : Int) = (56 : Int) := by
      simp only [IN]; rw [Int.tmod_eq_emod_of_nonneg (by omega)]; omega
    sym =>
    simp [Zab,Zad,Zae,Zaf,Zag,Zah,Zai,Zam,Zan,Zaq,Zaw,Zay,Zaz,Za0,Za1,Za2,Za3,Za4,Za5,Za9,Zba,Zbb,Zbf,Zcn,Zev,Zew,Zez,Ze0,Ze2,Ze5,Zfc,Zfd,Zfe,Zfh,Zfn,Zfu,Zf0,Zgv,Zh6,Zh9,Zna,Znb,Zo3,Zo7,Zo8,eq_self,true_and,ht,cB_length]
    tactic =>
    subst hjz
    refine lpA (j49 c l g) 8 [(0, 0)] _ ⟨0, by omega, rfl⟩ (wkA ?_) ?_
    · sym =>
      simp [Za2,Zez,Zfc,Znr,Zn5,Zpc,Zpl,Zpo,Zqf,Zqg,Zqh,Zqi,Zqk,Zql,Zqm,Zqn,eq_self,true_and,and_true,Nat.add_zero]
      tactic =>
      exact cB_rs _ _ _ _ _ (pad2_zero l g)
    rintro k2 s ⟨j, hj, rfl⟩
    have hl2 := pad2_length l g j (by omega)
    by_cases h2 : j < 8
    · have hI : IN j < (8 : Int) := by simp only [IN]; omega
      have hw := w64s j (by omega)
      have hm : IntKind.i64.wrap (7 - IN j) = IN (7 - j) := by simp only [IN]; rw [w64 _ (by omega)]; omega
      have hm2 : IntKind.i64.wrap (8 * IN (7 - j)) = IN (8 * (7 - j)) := by simp only [IN]; rw [w64 _ (by omega)]; omega
      sym =>
      simp [Zaa,Zab,Zad,Zae,Zaf,Zag,Zal,Zam,Zap,Zav,Zay,Zaz,Za0,Za1,Za2,Za3,Za4,Za5,Za9,Zba,Zbb,Zbf,Zbl,Zbt,Zbv,Zcd,Zcz,Zc5,Zev,Zew,Zez,Ze0,Ze2,Ze3,Ze4,Ze5,Zfc,Zfd,Zfe,Zff,Zfg,Zfh,Zfn,Zfp,Zfq,Zfr,Zfs,Zf1,Zgh,Zgi,Zgr,Zgu,Zgw,Zgy,Zhf,Zhg,Zhh,Zhj,Zhl,Ziq,Zir,Zix,Ziz,Zi0,Zi2,Zi3,Zi7,Zjj,Zjk,Zjo,Zm6,Zna,Znb,Znh,Znl,Znm,Znn,Zno,Znp,Zns,Znw,Zo7,Zo8,eq_self,true_and,and_true,Nat.mul_one,hI,hw,hm,hm2,h10,hc,cB_length,hl2]
      tactic =>
      refine ⟨⟨by omega, by omega, by omega⟩, ?_⟩
      unfold NextL; refine ⟨(k2 - 1), [(0, 16)], _, by omega, ⟨j + 1, by omega, rfl⟩, wkA ?_⟩
      sym =>
      simp [Za2,Zez,Zfc,Znr,Zpc,Zpl,Zpo,Zqf,Zqg,Zqh,Zqi,Zqk,Zql,Zqm,Zqn,eq_self,true_and,and_true]
      tactic =>
      exact ⟨by omega, cB_rs _ _ _ _ _ (pad2_step l g j h2)⟩
    · have hI : ¬ IN j < (8 : Int) := by simp only [IN]; omega
      have e8 : j = 8 := by omega
      subst e8
      rw [pad2_all] at *
      sym =>
      simp [Zab,Zad,Zae,Zaf,Zai,Zak,Zam,Zan,Zaq,Zaw,Zay,Zaz,Za0,Za1,Za2,Za3,Za4,Za5,Za9,Zba,Zbb,Zbf,Zev,Zew,Zez,Ze0,Ze2,Zfd,Zfe,Zfh,Zfn,Zf1,Zmt,Zmv,Zmw,Zmx,Zmz,Zm2,Zna,Znb,Zoa,Zo7,Zo9,eq_self,true_and,hI]
      tactic =>
      refine endO [(0, 0)] (nx := 1) ?_
      sym =>
      simp [Za2,Zfc,Znr,Zpo,Zqh,Zqi,Zqk,Zql,Zqm,Zqn,eq_self,true_and,and_true]
      tactic =>
      exact ⟨hl2.symm, rs_self (cB_okI _)⟩
end Go.Proofs.Ytbmdahhhgpbchaa.DgA
