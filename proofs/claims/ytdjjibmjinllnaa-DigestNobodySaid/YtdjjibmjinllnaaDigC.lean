import Derived.Test.YtdjjibmjinllnaaCodB
import Derived.Test.YtdjjibmjinllnaaDigB
namespace Go.Proofs.Ytdjjibmjinllnaa.DigC
open Go Go.Sim Go.Sim.E Go.RowKit Go.Proofs Go.Proofs.Ytdjjibmjinllnaa.Cod Go.Proofs.Ytdjjibmjinllnaa.Tab Go.Proofs.Ytdjjibmjinllnaa.DigA Go.Proofs.Ytdjjibmjinllnaa.DigB
set_option linter.unusedVariables false
set_option linter.unusedSimpArgs false
set_option maxRecDepth 100000
set_option maxHeartbeats 4000000
theorem sks_cB : ∀ (n : Nat) (X Z : List Int), X.length = n → Z.length = n → sks (List.replicate n .i) (cB X) (cB Z)
  | 0, [], [], _, _ => trivial
  | n + 1, x :: X, z :: Z, h1, h2 => ⟨rfl, sks_cB n X Z (by simpa using h1) (by simpa using h2)⟩
theorem sks32 (X Z : List Int) (h1 : X.length = 32) (h2 : Z.length = 32) : sks [.i, .i, .i, .i, .i, .i, .i, .i, .i, .i, .i, .i, .i, .i, .i, .i, .i, .i, .i, .i, .i, .i, .i, .i, .i, .i, .i, .i, .i, .i, .i, .i] (cB X) (cB Z) := sks_cB 32 X Z h1 h2
theorem cB_inj : ∀ {X Z : List Int}, cB X = cB Z → X = Z
  | [], [], _ => rfl
  | [], _ :: _, h => by simp [cB] at h
  | _ :: _, [], h => by simp [cB] at h
  | x :: X, z :: Z, h => by
    simp only [cB, List.map_cons, List.cons.injEq, AV.sc.injEq, Value.int.injEq, true_and] at h
    rw [h.1, cB_inj h.2]
theorem eqL_cB (X Z : List Int) : eqL (cB X) (cB Z) = decide (X = Z) := by
  unfold eqL
  by_cases h : X = Z
  · subst h; simp
  · have : ¬ cB X = cB Z := fun e => h (cB_inj e)
    simp [h, this]
theorem idL_cB (X : List Int) : idL (cB X) = [] := by
  induction X with
  | nil => rfl
  | cons x X ih => exact ih
theorem dig_nil : (digestF []).take 4 = [227, 176, 196, 66] := by decide +kernel
theorem dig_nil' : digestF [] = out32 (sumS W0 [] 0) := rfl
theorem digestF_length (b : List Int) : (digestF b).length = 32 := out32_length _
theorem alive_con : Con Try.prog 11 [] [] [] (Bo true) := by
  refine con_j b11 rfl ?_
  sym =>
  simp [Zab,Zac,Zad,Zak,Zam,Zaz,Za0,Za1,Za2,Za3,Za4,Za5,Za9,Zba,Zbb,Zbc,Zbe,Zbg,Zbi,Zbu,Zb0,Zcv,Zc3,Zc7,Zc8,Zre,Zrf,Zdc,Zdd,Zde,Zdf,Zdg,Zdh,Zdi,Zdj,Zdk,Zdl,Zdm,Zdn,Zdo,Zdp,Zdq,Zdr,Zdt,Zdu,Zdv,Zdw,Zdx,Zdy,Zdz,Zd0,Zd1,Zd2,Zek,Zen,Zeq,Zet,Zev,Zew,Zex,Zez,Ze0,Ze1,Ze2,Ze3,Ze5,Ze8,Zfc,Zfd,Zfe,Zfh,Zfi,Zfl,Zfn,Zfz,Zga,Zgb,Zgr,Zgs,Zgt,Zgv,Zg1,Zg2,Zho,Zin,Ziu,Ziv,Ziw,Zi6,Zjl,Zjm,Zjp,Zjr,Zju,Zj9,Zkv,Zla,Zlb,Zle,Zlr,Zlu,Zly,Zlz,Zl0,Zl1,Zl2,Zl3,Zl4,Zmn,Zmt,Zmv,Zmw,Zmx,Zmz,Zm2,Zm5,Zm6,Zna,Znb,Znc,Zne,Znf,Zng,Znr,Zoc,Zrd,Zos,Zo4,Zo7,Zo8,Zpc,List.length_replicate,eq_self,true_and,and_true,Nat.zero_add,callable_12]
  tactic =>
  refine cl none (of_con [] (Nat.zero_le _)) trivial ?_
  have hXl := digestF_length []
  have h4 := dig_nil
  have hsum := sum_con W0 [] 0 rfl (Nat.zero_le _)
  rw [← dig_nil'] at hsum
  obtain ⟨X, hX⟩ : ∃ X, X = digestF [] := ⟨_, rfl⟩
  rw [← hX] at hXl h4 hsum ⊢
  have x0 : (cB X).getD 0 .un = Y 227 := by
    rw [cB_get X 0 (by omega)]; match X, h4 with | a :: _, h => simp at h ⊢; exact h.1
  have x1 : (cB X).getD 1 .un = Y 176 := by
    rw [cB_get X 1 (by omega)]; match X, h4 with | _ :: a :: _, h => simp at h ⊢; exact h.2.1
  have x2 : (cB X).getD 2 .un = Y 196 := by
    rw [cB_get X 2 (by omega)]; match X, h4 with | _ :: _ :: a :: _, h => simp at h ⊢; exact h.2.2.1
  have x3 : (cB X).getD 3 .un = Y 66 := by
    rw [cB_get X 3 (by omega)]; match X, h4 with | _ :: _ :: _ :: a :: _, h => simp at h ⊢; exact h.2.2.2
  have hr : rdb (cB X) 0 32 = cB X := rdb_all (by rw [cB_length, hXl])
  have hs : spl (List.replicate 32 (.sc (.int .u8 0))) 0 (cB X) = cB X := spl_new _ _ (by rw [cB_length, hXl]; simp)
  have hf := cB_fl X
  sym =>
  simp [Zab,Zac,Zad,Zak,Zam,Zaz,Za0,Za1,Za2,Za3,Za4,Za5,Za9,Zba,Zbb,Zbc,Zbe,Zbg,Zbi,Zbu,Zb0,Zcv,Zc3,Zc7,Zc8,Zre,Zrf,Zdc,Zdd,Zde,Zdf,Zdg,Zdh,Zdi,Zdj,Zdk,Zdl,Zdm,Zdn,Zdo,Zdp,Zdq,Zdr,Zdt,Zdu,Zdv,Zdw,Zdx,Zdy,Zdz,Zd0,Zd1,Zd2,Zek,Zen,Zeq,Zet,Zev,Zew,Zex,Zez,Ze0,Ze1,Ze2,Ze3,Ze5,Ze8,Zfc,Zfd,Zfe,Zfh,Zfi,Zfl,Zfn,Zfz,Zga,Zgb,Zgr,Zgs,Zgt,Zgv,Zg1,Zg2,Zho,Zin,Ziu,Ziv,Ziw,Zi6,Zjl,Zjm,Zjp,Zjr,Zju,Zj9,Zkv,Zla,Zlb,Zle,Zlr,Zlu,Zly,Zlz,Zl0,Zl1,Zl2,Zl3,Zl4,Zmn,Zmt,Zmv,Zmw,Zmx,Zmz,Zm2,Zm5,Zm6,Zna,Znb,Znc,Zne,Znf,Zng,Znr,Zoc,Zrd,Zos,Zo4,Zo7,Zo8,Zpc,List.length_replicate,eq_self,true_and,and_true,Nat.zero_add,hr,hs,cB_length,hXl,cB_cells,hf,callable_14]
  tactic =>
  refine cl (some ⟨cSt W0 [] 0, 1, 0⟩) new_con ?_ ?_
  · exact ⟨rfl, cSt_okI _ _ _⟩
  sym =>
  simp [Zab,Zac,Zad,Zak,Zam,Zaz,Za0,Za1,Za2,Za3,Za4,Za5,Za9,Zba,Zbb,Zbc,Zbe,Zbg,Zbi,Zbu,Zb0,Zcv,Zc3,Zc7,Zc8,Zre,Zrf,Zdc,Zdd,Zde,Zdf,Zdg,Zdh,Zdi,Zdj,Zdk,Zdl,Zdm,Zdn,Zdo,Zdp,Zdq,Zdr,Zdt,Zdu,Zdv,Zdw,Zdx,Zdy,Zdz,Zd0,Zd1,Zd2,Zek,Zen,Zeq,Zet,Zev,Zew,Zex,Zez,Ze0,Ze1,Ze2,Ze3,Ze5,Ze8,Zfc,Zfd,Zfe,Zfh,Zfi,Zfl,Zfn,Zfz,Zga,Zgb,Zgr,Zgs,Zgt,Zgv,Zg1,Zg2,Zho,Zin,Ziu,Ziv,Ziw,Zi6,Zjl,Zjm,Zjp,Zjr,Zju,Zj9,Zkv,Zla,Zlb,Zle,Zlr,Zlu,Zly,Zlz,Zl0,Zl1,Zl2,Zl3,Zl4,Zmn,Zmt,Zmv,Zmw,Zmx,Zmz,Zm2,Zm5,Zm6,Zna,Znb,Znc,Zne,Znf,Zng,Znr,Zoc,Zrd,Zos,Zo4,Zo7,Zo8,Zpc,List.length_replicate,eq_self,true_and,and_true,Nat.zero_add,hr,hs,cB_length,hXl,cB_cells,hf,x0,x1,x2,x3,callable_16]
  tactic =>
  refine cl none (hsum) trivial ?_
  have hk := sks32 X X hXl hXl
  have he : eqL (cB X) (cB X) = true := by rw [eqL_cB]; simp
  have hi := idL_cB X
  sym =>
  simp [Zab,Zac,Zad,Zak,Zam,Zaz,Za0,Za1,Za2,Za3,Za4,Za5,Za9,Zba,Zbb,Zbc,Zbe,Zbg,Zbi,Zbu,Zb0,Zcv,Zc3,Zc7,Zc8,Zre,Zrf,Zdc,Zdd,Zde,Zdf,Zdg,Zdh,Zdi,Zdj,Zdk,Zdl,Zdm,Zdn,Zdo,Zdp,Zdq,Zdr,Zdt,Zdu,Zdv,Zdw,Zdx,Zdy,Zdz,Zd0,Zd1,Zd2,Zek,Zen,Zeq,Zet,Zev,Zew,Zex,Zez,Ze0,Ze1,Ze2,Ze3,Ze5,Ze8,Zfc,Zfd,Zfe,Zfh,Zfi,Zfl,Zfn,Zfz,Zga,Zgb,Zgr,Zgs,Zgt,Zgv,Zg1,Zg2,Zho,Zin,Ziu,Ziv,Ziw,Zi6,Zjl,Zjm,Zjp,Zjr,Zju,Zj9,Zkv,Zla,Zlb,Zle,Zlr,Zlu,Zly,Zlz,Zl0,Zl1,Zl2,Zl3,Zl4,Zmn,Zmt,Zmv,Zmw,Zmx,Zmz,Zm2,Zm5,Zm6,Zna,Znb,Znc,Zne,Znf,Zng,Znr,Zoc,Zrd,Zos,Zo4,Zo7,Zo8,Zpc,List.length_replicate,eq_self,true_and,and_true,Nat.zero_add,hr,hs,cB_length,hXl,cB_cells,hf,callable_17,hk,he,hi]
  tactic =>
  refine cl none (len_con W0 [] 0) trivial ?_
  sym =>
  simp [Zab,Zac,Zad,Zak,Zam,Zaz,Za0,Za1,Za2,Za3,Za4,Za5,Za9,Zba,Zbb,Zbc,Zbe,Zbg,Zbi,Zbu,Zb0,Zcv,Zc3,Zc7,Zc8,Zre,Zrf,Zdc,Zdd,Zde,Zdf,Zdg,Zdh,Zdi,Zdj,Zdk,Zdl,Zdm,Zdn,Zdo,Zdp,Zdq,Zdr,Zdt,Zdu,Zdv,Zdw,Zdx,Zdy,Zdz,Zd0,Zd1,Zd2,Zek,Zen,Zeq,Zet,Zev,Zew,Zex,Zez,Ze0,Ze1,Ze2,Ze3,Ze5,Ze8,Zfc,Zfd,Zfe,Zfh,Zfi,Zfl,Zfn,Zfz,Zga,Zgb,Zgr,Zgs,Zgt,Zgv,Zg1,Zg2,Zho,Zin,Ziu,Ziv,Ziw,Zi6,Zjl,Zjm,Zjp,Zjr,Zju,Zj9,Zkv,Zla,Zlb,Zle,Zlr,Zlu,Zly,Zlz,Zl0,Zl1,Zl2,Zl3,Zl4,Zmn,Zmt,Zmv,Zmw,Zmx,Zmz,Zm2,Zm5,Zm6,Zna,Znb,Znc,Zne,Znf,Zng,Znr,Zoc,Zrd,Zos,Zo4,Zo7,Zo8,Zpc,List.length_replicate,eq_self,true_and,and_true,Nat.zero_add,callable_18]
  tactic =>
  refine cl (some ⟨cSt W0 [] 0, 1, 0⟩) (sclone_con W0 [] 0 (Nat.zero_le _)) ?_ ?_
  · exact ⟨rfl, cSt_okI _ _ _⟩
  sym =>
  simp [Zab,Zac,Zad,Zak,Zam,Zaz,Za0,Za1,Za2,Za3,Za4,Za5,Za9,Zba,Zbb,Zbc,Zbe,Zbg,Zbi,Zbu,Zb0,Zcv,Zc3,Zc7,Zc8,Zre,Zrf,Zdc,Zdd,Zde,Zdf,Zdg,Zdh,Zdi,Zdj,Zdk,Zdl,Zdm,Zdn,Zdo,Zdp,Zdq,Zdr,Zdt,Zdu,Zdv,Zdw,Zdx,Zdy,Zdz,Zd0,Zd1,Zd2,Zek,Zen,Zeq,Zet,Zev,Zew,Zex,Zez,Ze0,Ze1,Ze2,Ze3,Ze5,Ze8,Zfc,Zfd,Zfe,Zfh,Zfi,Zfl,Zfn,Zfz,Zga,Zgb,Zgr,Zgs,Zgt,Zgv,Zg1,Zg2,Zho,Zin,Ziu,Ziv,Ziw,Zi6,Zjl,Zjm,Zjp,Zjr,Zju,Zj9,Zkv,Zla,Zlb,Zle,Zlr,Zlu,Zly,Zlz,Zl0,Zl1,Zl2,Zl3,Zl4,Zmn,Zmt,Zmv,Zmw,Zmx,Zmz,Zm2,Zm5,Zm6,Zna,Znb,Znc,Zne,Znf,Zng,Znr,Zoc,Zrd,Zos,Zo4,Zo7,Zo8,Zpc,List.length_replicate,eq_self,true_and,and_true,Nat.zero_add]
  tactic =>
  refine endA ?_
  sym =>
  simp [Zab,Zac,Zad,Zak,Zam,Zaz,Za0,Za1,Za2,Za3,Za4,Za5,Za9,Zba,Zbb,Zbc,Zbe,Zbg,Zbi,Zbu,Zb0,Zcv,Zc3,Zc7,Zc8,Zre,Zrf,Zdc,Zdd,Zde,Zdf,Zdg,Zdh,Zdi,Zdj,Zdk,Zdl,Zdm,Zdn,Zdo,Zdp,Zdq,Zdr,Zdt,Zdu,Zdv,Zdw,Zdx,Zdy,Zdz,Zd0,Zd1,Zd2,Zek,Zen,Zeq,Zet,Zev,Zew,Zex,Zez,Ze0,Ze1,Ze2,Ze3,Ze5,Ze8,Zfc,Zfd,Zfe,Zfh,Zfi,Zfl,Zfn,Zfz,Zga,Zgb,Zgr,Zgs,Zgt,Zgv,Zg1,Zg2,Zho,Zin,Ziu,Ziv,Ziw,Zi6,Zjl,Zjm,Zjp,Zjr,Zju,Zj9,Zkv,Zla,Zlb,Zle,Zlr,Zlu,Zly,Zlz,Zl0,Zl1,Zl2,Zl3,Zl4,Zmn,Zmt,Zmv,Zmw,Zmx,Zmz,Zm2,Zm5,Zm6,Zna,Znb,Znc,Zne,Znf,Zng,Znr,Zoc,Zrd,Zos,Zo4,Zo7,Zo8,Zpc,List.length_replicate,eq_self,true_and,and_true,Nat.zero_add]
theorem spA_same (b c : List Int) : ∀ i, (∀ j, j < i → b.getD j 0 = c.getD j 0) → spA b i = spA c i
  | 0, _ => rfl
  | i + 1, h => by
    rw [spA, spA, spA_same b c i (fun j hj => h j (by omega)), h i (by omega)]
theorem spread_same (b c : List Int) (h : ∀ j, j < 64 → b.getD j 0 = c.getD j 0) : spread b = spread c := by
  rw [spread, spread, spA_same b c 64 h]
theorem block_same (S b c : List Int) (h : ∀ j, j < 64 → b.getD j 0 = c.getD j 0) : block S b = block S c := by
  rw [block, block, spread_same b c h]
theorem absorb_front (S A p : List Int) : ∀ m, 64 * m ≤ A.length → absorb S (A ++ p) m = absorb S A m
  | 0, _ => rfl
  | m + 1, h => by
    rw [absorb, absorb, absorb_front S A p m (by omega)]
    refine block_same _ _ _ (fun j hj => ?_)
    rw [List.drop_append_of_le_length (by omega)]
    rw [List.getD_eq_getElem?_getD, List.getD_eq_getElem?_getD, List.getElem?_append_left (by rw [List.length_drop]; omega)]
theorem absorb_add (S B : List Int) (m : Nat) : ∀ k, absorb S B (m + k) = absorb (absorb S B m) (B.drop (64 * m)) k
  | 0 => rfl
  | k + 1 => by
    rw [← Nat.add_assoc, absorb, absorb, absorb_add S B m k, List.drop_drop, show 64 * m + 64 * k = 64 * (m + k) from by omega]
/-- The state of bytes so far. -/
def stS (A : List Int) : List Int := absorb W0 A (A.length / 64)
def stL (A : List Int) : List Int := A.drop (64 * (A.length / 64))
theorem stS_length (A : List Int) : (stS A).length = 8 := absorb_length _ _ rfl _
theorem stL_length (A : List Int) : (stL A).length ≤ 1000 := by rw [stL, List.length_drop]; omega
theorem stL_app (A p : List Int) : stL A ++ p = (A ++ p).drop (64 * (A.length / 64)) := by
  rw [stL, List.drop_append_of_le_length (by omega)]
theorem st_count (A p : List Int) : (A ++ p).length / 64 = A.length / 64 + (stL A ++ p).length / 64 := by
  rw [stL_app, List.length_drop, List.length_append]; omega
theorem stS_step (A p : List Int) : stS (A ++ p) = absorb (stS A) (stL A ++ p) ((stL A ++ p).length / 64) := by
  unfold stS
  rw [st_count, absorb_add, absorb_front W0 A p _ (by omega), ← stL_app]
theorem stL_step (A p : List Int) : stL (A ++ p) = (stL A ++ p).drop (64 * ((stL A ++ p).length / 64)) := by
  rw [stL_app A p, List.drop_drop, ← stL_app A p, stL, st_count, Nat.mul_add]
theorem digestF_st (A : List Int) : digestF A = out32 (sumS (stS A) (stL A) (IN A.length)) := rfl
theorem write_st (A b : List Int) (hA : A.length ≤ 100000) (hb : b.length ≤ 100000) : Con Try.prog 15 [(0, ⟨cSt (stS A) (stL A) (IN A.length), 1, 0⟩)] [.pt 0 0, fB b] [(0, ⟨cSt (stS (A ++ b)) (stL (A ++ b)) (IN (A ++ b).length), 1, 0⟩)] (.tu []) := by
  refine write_con (stS A) (stL A) b (IN A.length) (stS_length A) (stL_length A) hb _ _ _ (stS_step A b) (stL_step A b) ?_
  simp only [IN]
  rw [wu64, wu64, List.length_append]
  omega
theorem sum_st (A : List Int) : Con Try.prog 16 [] [.fp (cSt (stS A) (stL A) (IN A.length)) 0] [] (.ag (cB (digestF A))) := sum_con _ _ _ (stS_length A) (stL_length A)
theorem turn_con (x : Int) (n : Nat) (h0 : 0 < n) (h1 : n < 32) : Con Try.prog 44 [] [U x, I (n : Int)] [] (U (bits .or .u32 (x.fdiv (2 ^ n)) (w32 (x * 2 ^ (32 - n))))) := by
  refine con_j b44 rfl ?_
  have e1 : IntKind.i64.wrap (32 - (n : Int)) = 32 - (n : Int) := w64 _ (by omega)
  have e3 : min (32 - (n : Int)).toNat IntKind.u32.bits = 32 - n := by simp only [IntKind.bits]; omega
  have e4 : min (n : Int).toNat IntKind.u32.bits = n := by simp only [IntKind.bits]; omega
  sym =>
  simp [Zab,Zac,Zad,Zak,Zam,Zaz,Za0,Za1,Za2,Za3,Za4,Za5,Za9,Zba,Zbb,Zbc,Zbg,Zc7,Zc8,Zdo,Zdp,Zdt,Zdu,Zdv,Zdw,Zdx,Zdy,Zd0,Zd1,Zd2,Zev,Zew,Zez,Ze0,Ze2,Zfd,Zfe,Zfh,Zfn,Zfo,Zfp,Zfr,Zfw,Zmt,Zmv,Zmw,Zmx,Zmz,Zm2,Zna,Znb,Zne,Zos,Zot,Zo7,Zpc,Zqr,eq_self,true_and,and_true,e1,e3,e4]
  tactic =>
  refine ⟨by omega, by omega, endA ?_⟩
  sym =>
  simp [Zab,Zac,Zad,Zak,Zam,Zaz,Za0,Za1,Za2,Za3,Za4,Za5,Za9,Zba,Zbb,Zbc,Zbg,Zc7,Zc8,Zdo,Zdp,Zdt,Zdu,Zdv,Zdw,Zdx,Zdy,Zd0,Zd1,Zd2,Zev,Zew,Zez,Ze0,Ze2,Zfd,Zfe,Zfh,Zfn,Zfo,Zfp,Zfr,Zfw,Zmt,Zmv,Zmw,Zmx,Zmz,Zm2,Zna,Znb,Zne,Zos,Zot,Zo7,Zpc,Zqr,eq_self,true_and,and_true]
  tactic =>
  rfl
def lo (n : Int) : Int := n.tmod 4294967296
def q64 (n : Int) : Int := IntKind.u64.wrap (n.tdiv 4294967296)
def m64 (a b : Int) : Int := IntKind.u64.wrap (a * b)
def a64 (a b : Int) : Int := IntKind.u64.wrap (a + b)
def prod0 (a b : Int) : Int := lo (m64 (lo a) (lo b))
def mid (a b : Int) : Int := a64 (a64 (q64 (m64 (lo a) (lo b))) (lo (m64 (q64 a) (lo b)))) (lo (m64 (lo a) (q64 b)))
def prod1 (a b : Int) : Int := lo (mid a b)
def top (a b : Int) : Int := a64 (a64 (a64 (q64 (mid a b)) (q64 (m64 (q64 a) (lo b)))) (q64 (m64 (lo a) (q64 b)))) (lo (m64 (q64 a) (q64 b)))
def prod2 (a b : Int) : Int := lo (top a b)
def prod3 (a b : Int) : Int := a64 (q64 (top a b)) (q64 (m64 (q64 a) (q64 b)))
theorem product_con (a b : Int) : Con Try.prog 80 [] [L a, L b] [] (.ag [L (prod0 a b), L (prod1 a b), L (prod2 a b), L (prod3 a b)]) := by
  refine con_j b80 rfl ?_
  sym =>
  simp [Zab,Zad,Zak,Zam,Zay,Zaz,Za0,Za1,Za2,Za3,Za4,Za5,Za9,Zba,Zbb,Zbf,Zbt,Zbz,Zcv,Zc3,Zev,Zew,Zez,Ze0,Ze1,Ze2,Ze3,Ze5,Ze8,Zfc,Zfd,Zfe,Zfh,Zfn,Zfq,Zfs,Zft,Zfu,Zgr,Zgs,Zgt,Zgv,Zg1,Zg2,Zho,Zin,Ziu,Ziv,Ziw,Zi6,Zi7,Zjh,Zji,Zjn,Zmt,Zmv,Zmw,Zmy,Zm0,Zm1,Zm2,Zm5,Zm7,Zm9,Zna,Znb,Znn,Zno,Znp,Zn9,Zrd,Zos,Zot,Zo7,Zpa,Zp8,Zqb,Zqc,Zqr,eq_self,true_and,and_true]
  tactic =>
  refine endA ?_
  sym =>
  simp [Zab,Zad,Zak,Zam,Zay,Zaz,Za0,Za1,Za2,Za3,Za4,Za5,Za9,Zba,Zbb,Zbf,Zbt,Zbz,Zcv,Zc3,Zev,Zew,Zez,Ze0,Ze1,Ze2,Ze3,Ze5,Ze8,Zfc,Zfd,Zfe,Zfh,Zfn,Zfq,Zfs,Zft,Zfu,Zgr,Zgs,Zgt,Zgv,Zg1,Zg2,Zho,Zin,Ziu,Ziv,Ziw,Zi6,Zi7,Zjh,Zji,Zjn,Zmt,Zmv,Zmw,Zmy,Zm0,Zm1,Zm2,Zm5,Zm7,Zm9,Zna,Znb,Znn,Zno,Znp,Zn9,Zrd,Zos,Zot,Zo7,Zpa,Zp8,Zqb,Zqc,Zqr,eq_self,true_and,and_true]
  tactic =>
  exact ⟨rfl, rfl, rfl, rfl⟩
def hiF (x : Int) : Int := a64 (prod2 x x) (m64 (prod3 x x) 4294967296)
def squareF (x p : Int) : Bool := if hiF x < IntKind.u64.wrap p then true else if hiF x = IntKind.u64.wrap p then (if prod0 x x = 0 then decide (prod1 x x = 0) else false) else false
theorem square_con (x p : Int) : Con Try.prog 66 [] [L x, I p] [] (Bo (squareF x p)) := by
  refine con_j b66 rfl ?_
  sym =>
  simp [Zab,Zad,Zak,Zam,Zaz,Za0,Za1,Za2,Za3,Za4,Za5,Za6,Za7,Zrh,Za8,Za9,Zba,Zbb,Zbd,Zbf,Zbl,Zbt,Zbz,Zcv,Zc3,Zdc,Zdd,Zde,Zdi,Zev,Zew,Zex,Zez,Ze0,Ze1,Ze2,Ze3,Ze5,Ze8,Zfc,Zfd,Zfe,Zfh,Zfi,Zfj,Zfk,Zfl,Zfn,Zfq,Zfs,Zfz,Zf1,Zgh,Zgi,Zgr,Zgs,Zgt,Zgv,Zg1,Zg2,Zho,Zin,Ziu,Ziv,Ziw,Zi6,Zjh,Zji,Zjn,Zjq,Zkv,Zkw,Zkx,Zla,Zlb,Zle,Zlj,Zlz,Zmt,Zmv,Zmw,Zmx,Zmz,Zm2,Zm6,Zm9,Zna,Znb,Zne,Znf,Zng,Znn,Zno,Znp,Zn9,Zrd,Zos,Zot,Zo6,Zo7,Zo8,Zo9,Zpc,eq_self,true_and,and_true,callable_80]
  tactic =>
  refine cl none (product_con x x) trivial ?_
  have hi : IntKind.u64.wrap (prod2 x x + IntKind.u64.wrap (prod3 x x * 4294967296)) = hiF x := rfl
  have es : squareF x p = if hiF x < IntKind.u64.wrap p then true else if hiF x = IntKind.u64.wrap p then (if prod0 x x = 0 then decide (prod1 x x = 0) else false) else false := rfl
  rw [es]
  obtain ⟨H, hH⟩ : ∃ H, H = hiF x := ⟨_, rfl⟩
  obtain ⟨W, hW⟩ : ∃ W, W = IntKind.u64.wrap p := ⟨_, rfl⟩
  obtain ⟨A, hA⟩ : ∃ A, A = prod0 x x := ⟨_, rfl⟩
  obtain ⟨B, hB⟩ : ∃ B, B = prod1 x x := ⟨_, rfl⟩
  rw [← hH] at hi
  rw [← hH, ← hW, ← hA, ← hB]
  have hW' := hW.symm
  have hA' := hA.symm
  have hB' := hB.symm
  by_cases h1 : H < W
  · sym =>
    simp [Zab,Zad,Zak,Zam,Zaz,Za0,Za1,Za2,Za3,Za4,Za5,Za6,Za7,Zrh,Za8,Za9,Zba,Zbb,Zbd,Zbf,Zbl,Zbt,Zbz,Zcv,Zc3,Zdc,Zdd,Zde,Zdi,Zev,Zew,Zex,Zez,Ze0,Ze1,Ze2,Ze3,Ze5,Ze8,Zfc,Zfd,Zfe,Zfh,Zfi,Zfj,Zfk,Zfl,Zfn,Zfq,Zfs,Zfz,Zf1,Zgh,Zgi,Zgr,Zgs,Zgt,Zgv,Zg1,Zg2,Zho,Zin,Ziu,Ziv,Ziw,Zi6,Zjh,Zji,Zjn,Zjq,Zkv,Zkw,Zkx,Zla,Zlb,Zle,Zlj,Zlz,Zmt,Zmv,Zmw,Zmx,Zmz,Zm2,Zm6,Zm9,Zna,Znb,Zne,Znf,Zng,Znn,Zno,Znp,Zn9,Zrd,Zos,Zot,Zo6,Zo7,Zo8,Zo9,Zpc,eq_self,true_and,and_true,hi,hW',hA',hB',h1]
    tactic =>
    refine endA ?_
    sym =>
    simp [Zab,Zad,Zak,Zam,Zaz,Za0,Za1,Za2,Za3,Za4,Za5,Za6,Za7,Zrh,Za8,Za9,Zba,Zbb,Zbd,Zbf,Zbl,Zbt,Zbz,Zcv,Zc3,Zdc,Zdd,Zde,Zdi,Zev,Zew,Zex,Zez,Ze0,Ze1,Ze2,Ze3,Ze5,Ze8,Zfc,Zfd,Zfe,Zfh,Zfi,Zfj,Zfk,Zfl,Zfn,Zfq,Zfs,Zfz,Zf1,Zgh,Zgi,Zgr,Zgs,Zgt,Zgv,Zg1,Zg2,Zho,Zin,Ziu,Ziv,Ziw,Zi6,Zjh,Zji,Zjn,Zjq,Zkv,Zkw,Zkx,Zla,Zlb,Zle,Zlj,Zlz,Zmt,Zmv,Zmw,Zmx,Zmz,Zm2,Zm6,Zm9,Zna,Znb,Zne,Znf,Zng,Znn,Zno,Znp,Zn9,Zrd,Zos,Zot,Zo6,Zo7,Zo8,Zo9,Zpc,eq_self,true_and,and_true]
  by_cases h2 : H = W
  · rw [← h2] at hW' h1 ⊢
    by_cases h3 : A = 0
    · sym =>
      simp [Zab,Zad,Zak,Zam,Zaz,Za0,Za1,Za2,Za3,Za4,Za5,Za6,Za7,Zrh,Za8,Za9,Zba,Zbb,Zbd,Zbf,Zbl,Zbt,Zbz,Zcv,Zc3,Zdc,Zdd,Zde,Zdi,Zev,Zew,Zex,Zez,Ze0,Ze1,Ze2,Ze3,Ze5,Ze8,Zfc,Zfd,Zfe,Zfh,Zfi,Zfj,Zfk,Zfl,Zfn,Zfq,Zfs,Zfz,Zf1,Zgh,Zgi,Zgr,Zgs,Zgt,Zgv,Zg1,Zg2,Zho,Zin,Ziu,Ziv,Ziw,Zi6,Zjh,Zji,Zjn,Zjq,Zkv,Zkw,Zkx,Zla,Zlb,Zle,Zlj,Zlz,Zmt,Zmv,Zmw,Zmx,Zmz,Zm2,Zm6,Zm9,Zna,Znb,Zne,Znf,Zng,Znn,Zno,Znp,Zn9,Zrd,Zos,Zot,Zo6,Zo7,Zo8,Zo9,Zpc,eq_self,true_and,and_true,hi,hW',hA',hB',h1,h3]
      tactic =>
      refine endA ?_
      sym =>
      simp [Zab,Zad,Zak,Zam,Zaz,Za0,Za1,Za2,Za3,Za4,Za5,Za6,Za7,Zrh,Za8,Za9,Zba,Zbb,Zbd,Zbf,Zbl,Zbt,Zbz,Zcv,Zc3,Zdc,Zdd,Zde,Zdi,Zev,Zew,Zex,Zez,Ze0,Ze1,Ze2,Ze3,Ze5,Ze8,Zfc,Zfd,Zfe,Zfh,Zfi,Zfj,Zfk,Zfl,Zfn,Zfq,Zfs,Zfz,Zf1,Zgh,Zgi,Zgr,Zgs,Zgt,Zgv,Zg1,Zg2,Zho,Zin,Ziu,Ziv,Ziw,Zi6,Zjh,Zji,Zjn,Zjq,Zkv,Zkw,Zkx,Zla,Zlb,Zle,Zlj,Zlz,Zmt,Zmv,Zmw,Zmx,Zmz,Zm2,Zm6,Zm9,Zna,Znb,Zne,Znf,Zng,Znn,Zno,Znp,Zn9,Zrd,Zos,Zot,Zo6,Zo7,Zo8,Zo9,Zpc,eq_self,true_and,and_true]
    · sym =>
      simp [Zab,Zad,Zak,Zam,Zaz,Za0,Za1,Za2,Za3,Za4,Za5,Za6,Za7,Zrh,Za8,Za9,Zba,Zbb,Zbd,Zbf,Zbl,Zbt,Zbz,Zcv,Zc3,Zdc,Zdd,Zde,Zdi,Zev,Zew,Zex,Zez,Ze0,Ze1,Ze2,Ze3,Ze5,Ze8,Zfc,Zfd,Zfe,Zfh,Zfi,Zfj,Zfk,Zfl,Zfn,Zfq,Zfs,Zfz,Zf1,Zgh,Zgi,Zgr,Zgs,Zgt,Zgv,Zg1,Zg2,Zho,Zin,Ziu,Ziv,Ziw,Zi6,Zjh,Zji,Zjn,Zjq,Zkv,Zkw,Zkx,Zla,Zlb,Zle,Zlj,Zlz,Zmt,Zmv,Zmw,Zmx,Zmz,Zm2,Zm6,Zm9,Zna,Znb,Zne,Znf,Zng,Znn,Zno,Znp,Zn9,Zrd,Zos,Zot,Zo6,Zo7,Zo8,Zo9,Zpc,eq_self,true_and,and_true,hi,hW',hA',hB',h1,h3]
      tactic =>
      refine endA ?_
      sym =>
      simp [Zab,Zad,Zak,Zam,Zaz,Za0,Za1,Za2,Za3,Za4,Za5,Za6,Za7,Zrh,Za8,Za9,Zba,Zbb,Zbd,Zbf,Zbl,Zbt,Zbz,Zcv,Zc3,Zdc,Zdd,Zde,Zdi,Zev,Zew,Zex,Zez,Ze0,Ze1,Ze2,Ze3,Ze5,Ze8,Zfc,Zfd,Zfe,Zfh,Zfi,Zfj,Zfk,Zfl,Zfn,Zfq,Zfs,Zfz,Zf1,Zgh,Zgi,Zgr,Zgs,Zgt,Zgv,Zg1,Zg2,Zho,Zin,Ziu,Ziv,Ziw,Zi6,Zjh,Zji,Zjn,Zjq,Zkv,Zkw,Zkx,Zla,Zlb,Zle,Zlj,Zlz,Zmt,Zmv,Zmw,Zmx,Zmz,Zm2,Zm6,Zm9,Zna,Znb,Zne,Znf,Zng,Znn,Zno,Znp,Zn9,Zrd,Zos,Zot,Zo6,Zo7,Zo8,Zo9,Zpc,eq_self,true_and,and_true]
  · sym =>
    simp [Zab,Zad,Zak,Zam,Zaz,Za0,Za1,Za2,Za3,Za4,Za5,Za6,Za7,Zrh,Za8,Za9,Zba,Zbb,Zbd,Zbf,Zbl,Zbt,Zbz,Zcv,Zc3,Zdc,Zdd,Zde,Zdi,Zev,Zew,Zex,Zez,Ze0,Ze1,Ze2,Ze3,Ze5,Ze8,Zfc,Zfd,Zfe,Zfh,Zfi,Zfj,Zfk,Zfl,Zfn,Zfq,Zfs,Zfz,Zf1,Zgh,Zgi,Zgr,Zgs,Zgt,Zgv,Zg1,Zg2,Zho,Zin,Ziu,Ziv,Ziw,Zi6,Zjh,Zji,Zjn,Zjq,Zkv,Zkw,Zkx,Zla,Zlb,Zle,Zlj,Zlz,Zmt,Zmv,Zmw,Zmx,Zmz,Zm2,Zm6,Zm9,Zna,Znb,Zne,Znf,Zng,Znn,Zno,Znp,Zn9,Zrd,Zos,Zot,Zo6,Zo7,Zo8,Zo9,Zpc,eq_self,true_and,and_true,hi,hW',hA',hB',h1,h2]
    tactic =>
    refine endA ?_
    sym =>
    simp [Zab,Zad,Zak,Zam,Zaz,Za0,Za1,Za2,Za3,Za4,Za5,Za6,Za7,Zrh,Za8,Za9,Zba,Zbb,Zbd,Zbf,Zbl,Zbt,Zbz,Zcv,Zc3,Zdc,Zdd,Zde,Zdi,Zev,Zew,Zex,Zez,Ze0,Ze1,Ze2,Ze3,Ze5,Ze8,Zfc,Zfd,Zfe,Zfh,Zfi,Zfj,Zfk,Zfl,Zfn,Zfq,Zfs,Zfz,Zf1,Zgh,Zgi,Zgr,Zgs,Zgt,Zgv,Zg1,Zg2,Zho,Zin,Ziu,Ziv,Ziw,Zi6,Zjh,Zji,Zjn,Zjq,Zkv,Zkw,Zkx,Zla,Zlb,Zle,Zlj,Zlz,Zmt,Zmv,Zmw,Zmx,Zmz,Zm2,Zm6,Zm9,Zna,Znb,Zne,Znf,Zng,Znn,Zno,Znp,Zn9,Zrd,Zos,Zot,Zo6,Zo7,Zo8,Zo9,Zpc,eq_self,true_and,and_true]
def cLo (x : Int) : Int := a64 (prod0 x x) (m64 (prod1 x x) 4294967296)
def cHi (x : Int) : Int := a64 (prod2 x x) (m64 (prod3 x x) 4294967296)
def cMid (x : Int) : Int := a64 (prod2 (cLo x) x) (prod0 (cHi x) x)
def cTop (x : Int) : Int := a64 (a64 (prod3 (cLo x) x) (prod1 (cHi x) x)) (q64 (cMid x))
def cOver (x : Int) : Int := a64 (prod2 (cHi x) x) (q64 (cTop x))
def cubeF (x p : Int) : Bool := if cOver x = 0 then (if lo (cTop x) < IntKind.u64.wrap p then true else if lo (cTop x) = IntKind.u64.wrap p then (if prod0 (cLo x) x = 0 then (if prod1 (cLo x) x = 0 then decide (lo (cMid x) = 0) else false) else false) else false) else false
theorem cube_con (x p : Int) : Con Try.prog 65 [] [L x, I p] [] (Bo (cubeF x p)) := by
  refine con_j b65 rfl ?_
  sym =>
  simp [Zab,Zad,Zak,Zam,Zaz,Za0,Za1,Za2,Za3,Za4,Za5,Za6,Za7,Zrh,Za8,Za9,Zba,Zbb,Zbd,Zbf,Zbl,Zbt,Zbz,Zcv,Zc3,Zdc,Zdd,Zde,Zdi,Zev,Zew,Zex,Zez,Ze0,Ze1,Ze2,Ze3,Ze5,Ze8,Zfc,Zfd,Zfe,Zfh,Zfi,Zfj,Zfk,Zfl,Zfn,Zfq,Zfs,Zft,Zfu,Zfz,Zf1,Zgh,Zgi,Zgr,Zgs,Zgt,Zgv,Zg1,Zg2,Zho,Zin,Ziu,Ziv,Ziw,Zi6,Zjh,Zji,Zjn,Zjq,Zkv,Zkw,Zkx,Zla,Zlb,Zle,Zlj,Zlz,Zmt,Zmv,Zmw,Zmx,Zmz,Zm2,Zm6,Zm9,Zna,Znb,Zne,Znf,Zng,Znn,Zno,Znp,Zn9,Zrd,Zos,Zot,Zo6,Zo7,Zo8,Zo9,Zpc,eq_self,true_and,and_true,callable_80]
  tactic =>
  refine cl none (product_con x x) trivial ?_
  sym =>
  simp [Zab,Zad,Zak,Zam,Zaz,Za0,Za1,Za2,Za3,Za4,Za5,Za6,Za7,Zrh,Za8,Za9,Zba,Zbb,Zbd,Zbf,Zbl,Zbt,Zbz,Zcv,Zc3,Zdc,Zdd,Zde,Zdi,Zev,Zew,Zex,Zez,Ze0,Ze1,Ze2,Ze3,Ze5,Ze8,Zfc,Zfd,Zfe,Zfh,Zfi,Zfj,Zfk,Zfl,Zfn,Zfq,Zfs,Zft,Zfu,Zfz,Zf1,Zgh,Zgi,Zgr,Zgs,Zgt,Zgv,Zg1,Zg2,Zho,Zin,Ziu,Ziv,Ziw,Zi6,Zjh,Zji,Zjn,Zjq,Zkv,Zkw,Zkx,Zla,Zlb,Zle,Zlj,Zlz,Zmt,Zmv,Zmw,Zmx,Zmz,Zm2,Zm6,Zm9,Zna,Znb,Zne,Znf,Zng,Znn,Zno,Znp,Zn9,Zrd,Zos,Zot,Zo6,Zo7,Zo8,Zo9,Zpc,eq_self,true_and,and_true,callable_80]
  tactic =>
  refine cl none (product_con (cLo x) x) trivial ?_
  sym =>
  simp [Zab,Zad,Zak,Zam,Zaz,Za0,Za1,Za2,Za3,Za4,Za5,Za6,Za7,Zrh,Za8,Za9,Zba,Zbb,Zbd,Zbf,Zbl,Zbt,Zbz,Zcv,Zc3,Zdc,Zdd,Zde,Zdi,Zev,Zew,Zex,Zez,Ze0,Ze1,Ze2,Ze3,Ze5,Ze8,Zfc,Zfd,Zfe,Zfh,Zfi,Zfj,Zfk,Zfl,Zfn,Zfq,Zfs,Zft,Zfu,Zfz,Zf1,Zgh,Zgi,Zgr,Zgs,Zgt,Zgv,Zg1,Zg2,Zho,Zin,Ziu,Ziv,Ziw,Zi6,Zjh,Zji,Zjn,Zjq,Zkv,Zkw,Zkx,Zla,Zlb,Zle,Zlj,Zlz,Zmt,Zmv,Zmw,Zmx,Zmz,Zm2,Zm6,Zm9,Zna,Znb,Zne,Znf,Zng,Znn,Zno,Znp,Zn9,Zrd,Zos,Zot,Zo6,Zo7,Zo8,Zo9,Zpc,eq_self,true_and,and_true,callable_80]
  tactic =>
  refine cl none (product_con (cHi x) x) trivial ?_
  have es : cubeF x p = if cOver x = 0 then (if lo (cTop x) < IntKind.u64.wrap p then true else if lo (cTop x) = IntKind.u64.wrap p then (if prod0 (cLo x) x = 0 then (if prod1 (cLo x) x = 0 then decide (lo (cMid x) = 0) else false) else false) else false) else false := rfl
  have hm : IntKind.u64.wrap (prod2 (cLo x) x + prod0 (cHi x) x) = cMid x := rfl
  have ht : IntKind.u64.wrap (IntKind.u64.wrap (prod3 (cLo x) x + prod1 (cHi x) x) + IntKind.u64.wrap ((cMid x).tdiv (4294967296 : Int))) = cTop x := rfl
  have ho : IntKind.u64.wrap (prod2 (cHi x) x + IntKind.u64.wrap ((cTop x).tdiv (4294967296 : Int))) = cOver x := rfl
  have hlt : (cTop x).tmod (4294967296 : Int) = lo (cTop x) := rfl
  have hlm : (cMid x).tmod (4294967296 : Int) = lo (cMid x) := rfl
  rw [es]
  obtain ⟨O, hO⟩ : ∃ O, O = cOver x := ⟨_, rfl⟩
  obtain ⟨H, hH⟩ : ∃ H, H = lo (cTop x) := ⟨_, rfl⟩
  obtain ⟨W, hW⟩ : ∃ W, W = IntKind.u64.wrap p := ⟨_, rfl⟩
  obtain ⟨A, hA⟩ : ∃ A, A = prod0 (cLo x) x := ⟨_, rfl⟩
  obtain ⟨B, hB⟩ : ∃ B, B = prod1 (cLo x) x := ⟨_, rfl⟩
  obtain ⟨M, hM⟩ : ∃ M, M = lo (cMid x) := ⟨_, rfl⟩
  rw [← hO, ← hH, ← hW, ← hA, ← hB, ← hM]
  rw [← hO] at ho
  rw [← hH] at hlt
  rw [← hM] at hlm
  have hW' := hW.symm
  have hA' := hA.symm
  have hB' := hB.symm
  by_cases h0 : O = 0
  · by_cases h1 : H < W
    · sym =>
      simp [Zab,Zad,Zak,Zam,Zaz,Za0,Za1,Za2,Za3,Za4,Za5,Za6,Za7,Zrh,Za8,Za9,Zba,Zbb,Zbd,Zbf,Zbl,Zbt,Zbz,Zcv,Zc3,Zdc,Zdd,Zde,Zdi,Zev,Zew,Zex,Zez,Ze0,Ze1,Ze2,Ze3,Ze5,Ze8,Zfc,Zfd,Zfe,Zfh,Zfi,Zfj,Zfk,Zfl,Zfn,Zfq,Zfs,Zft,Zfu,Zfz,Zf1,Zgh,Zgi,Zgr,Zgs,Zgt,Zgv,Zg1,Zg2,Zho,Zin,Ziu,Ziv,Ziw,Zi6,Zjh,Zji,Zjn,Zjq,Zkv,Zkw,Zkx,Zla,Zlb,Zle,Zlj,Zlz,Zmt,Zmv,Zmw,Zmx,Zmz,Zm2,Zm6,Zm9,Zna,Znb,Zne,Znf,Zng,Znn,Zno,Znp,Zn9,Zrd,Zos,Zot,Zo6,Zo7,Zo8,Zo9,Zpc,eq_self,true_and,and_true,hm,ht,ho,hlt,hlm,hW',hA',hB',h0,h1]
      tactic =>
      refine endA ?_
      sym =>
      simp [Zab,Zad,Zak,Zam,Zaz,Za0,Za1,Za2,Za3,Za4,Za5,Za6,Za7,Zrh,Za8,Za9,Zba,Zbb,Zbd,Zbf,Zbl,Zbt,Zbz,Zcv,Zc3,Zdc,Zdd,Zde,Zdi,Zev,Zew,Zex,Zez,Ze0,Ze1,Ze2,Ze3,Ze5,Ze8,Zfc,Zfd,Zfe,Zfh,Zfi,Zfj,Zfk,Zfl,Zfn,Zfq,Zfs,Zft,Zfu,Zfz,Zf1,Zgh,Zgi,Zgr,Zgs,Zgt,Zgv,Zg1,Zg2,Zho,Zin,Ziu,Ziv,Ziw,Zi6,Zjh,Zji,Zjn,Zjq,Zkv,Zkw,Zkx,Zla,Zlb,Zle,Zlj,Zlz,Zmt,Zmv,Zmw,Zmx,Zmz,Zm2,Zm6,Zm9,Zna,Znb,Zne,Znf,Zng,Znn,Zno,Znp,Zn9,Zrd,Zos,Zot,Zo6,Zo7,Zo8,Zo9,Zpc,eq_self,true_and,and_true]
    by_cases h2 : H = W
    · rw [← h2] at hW' h1 ⊢
      by_cases h3 : A = 0
      · by_cases h4 : B = 0
        · sym =>
          simp [Zab,Zad,Zak,Zam,Zaz,Za0,Za1,Za2,Za3,Za4,Za5,Za6,Za7,Zrh,Za8,Za9,Zba,Zbb,Zbd,Zbf,Zbl,Zbt,Zbz,Zcv,Zc3,Zdc,Zdd,Zde,Zdi,Zev,Zew,Zex,Zez,Ze0,Ze1,Ze2,Ze3,Ze5,Ze8,Zfc,Zfd,Zfe,Zfh,Zfi,Zfj,Zfk,Zfl,Zfn,Zfq,Zfs,Zft,Zfu,Zfz,Zf1,Zgh,Zgi,Zgr,Zgs,Zgt,Zgv,Zg1,Zg2,Zho,Zin,Ziu,Ziv,Ziw,Zi6,Zjh,Zji,Zjn,Zjq,Zkv,Zkw,Zkx,Zla,Zlb,Zle,Zlj,Zlz,Zmt,Zmv,Zmw,Zmx,Zmz,Zm2,Zm6,Zm9,Zna,Znb,Zne,Znf,Zng,Znn,Zno,Znp,Zn9,Zrd,Zos,Zot,Zo6,Zo7,Zo8,Zo9,Zpc,eq_self,true_and,and_true,hm,ht,ho,hlt,hlm,hW',hA',hB',h0,h1,h3,h4]
          tactic =>
          refine endA ?_
          sym =>
          simp [Zab,Zad,Zak,Zam,Zaz,Za0,Za1,Za2,Za3,Za4,Za5,Za6,Za7,Zrh,Za8,Za9,Zba,Zbb,Zbd,Zbf,Zbl,Zbt,Zbz,Zcv,Zc3,Zdc,Zdd,Zde,Zdi,Zev,Zew,Zex,Zez,Ze0,Ze1,Ze2,Ze3,Ze5,Ze8,Zfc,Zfd,Zfe,Zfh,Zfi,Zfj,Zfk,Zfl,Zfn,Zfq,Zfs,Zft,Zfu,Zfz,Zf1,Zgh,Zgi,Zgr,Zgs,Zgt,Zgv,Zg1,Zg2,Zho,Zin,Ziu,Ziv,Ziw,Zi6,Zjh,Zji,Zjn,Zjq,Zkv,Zkw,Zkx,Zla,Zlb,Zle,Zlj,Zlz,Zmt,Zmv,Zmw,Zmx,Zmz,Zm2,Zm6,Zm9,Zna,Znb,Zne,Znf,Zng,Znn,Zno,Znp,Zn9,Zrd,Zos,Zot,Zo6,Zo7,Zo8,Zo9,Zpc,eq_self,true_and,and_true]
        · sym =>
          simp [Zab,Zad,Zak,Zam,Zaz,Za0,Za1,Za2,Za3,Za4,Za5,Za6,Za7,Zrh,Za8,Za9,Zba,Zbb,Zbd,Zbf,Zbl,Zbt,Zbz,Zcv,Zc3,Zdc,Zdd,Zde,Zdi,Zev,Zew,Zex,Zez,Ze0,Ze1,Ze2,Ze3,Ze5,Ze8,Zfc,Zfd,Zfe,Zfh,Zfi,Zfj,Zfk,Zfl,Zfn,Zfq,Zfs,Zft,Zfu,Zfz,Zf1,Zgh,Zgi,Zgr,Zgs,Zgt,Zgv,Zg1,Zg2,Zho,Zin,Ziu,Ziv,Ziw,Zi6,Zjh,Zji,Zjn,Zjq,Zkv,Zkw,Zkx,Zla,Zlb,Zle,Zlj,Zlz,Zmt,Zmv,Zmw,Zmx,Zmz,Zm2,Zm6,Zm9,Zna,Znb,Zne,Znf,Zng,Znn,Zno,Znp,Zn9,Zrd,Zos,Zot,Zo6,Zo7,Zo8,Zo9,Zpc,eq_self,true_and,and_true,hm,ht,ho,hlt,hlm,hW',hA',hB',h0,h1,h3,h4]
          tactic =>
          refine endA ?_
          sym =>
          simp [Zab,Zad,Zak,Zam,Zaz,Za0,Za1,Za2,Za3,Za4,Za5,Za6,Za7,Zrh,Za8,Za9,Zba,Zbb,Zbd,Zbf,Zbl,Zbt,Zbz,Zcv,Zc3,Zdc,Zdd,Zde,Zdi,Zev,Zew,Zex,Zez,Ze0,Ze1,Ze2,Ze3,Ze5,Ze8,Zfc,Zfd,Zfe,Zfh,Zfi,Zfj,Zfk,Zfl,Zfn,Zfq,Zfs,Zft,Zfu,Zfz,Zf1,Zgh,Zgi,Zgr,Zgs,Zgt,Zgv,Zg1,Zg2,Zho,Zin,Ziu,Ziv,Ziw,Zi6,Zjh,Zji,Zjn,Zjq,Zkv,Zkw,Zkx,Zla,Zlb,Zle,Zlj,Zlz,Zmt,Zmv,Zmw,Zmx,Zmz,Zm2,Zm6,Zm9,Zna,Znb,Zne,Znf,Zng,Znn,Zno,Znp,Zn9,Zrd,Zos,Zot,Zo6,Zo7,Zo8,Zo9,Zpc,eq_self,true_and,and_true]
      · sym =>
        simp [Zab,Zad,Zak,Zam,Zaz,Za0,Za1,Za2,Za3,Za4,Za5,Za6,Za7,Zrh,Za8,Za9,Zba,Zbb,Zbd,Zbf,Zbl,Zbt,Zbz,Zcv,Zc3,Zdc,Zdd,Zde,Zdi,Zev,Zew,Zex,Zez,Ze0,Ze1,Ze2,Ze3,Ze5,Ze8,Zfc,Zfd,Zfe,Zfh,Zfi,Zfj,Zfk,Zfl,Zfn,Zfq,Zfs,Zft,Zfu,Zfz,Zf1,Zgh,Zgi,Zgr,Zgs,Zgt,Zgv,Zg1,Zg2,Zho,Zin,Ziu,Ziv,Ziw,Zi6,Zjh,Zji,Zjn,Zjq,Zkv,Zkw,Zkx,Zla,Zlb,Zle,Zlj,Zlz,Zmt,Zmv,Zmw,Zmx,Zmz,Zm2,Zm6,Zm9,Zna,Znb,Zne,Znf,Zng,Znn,Zno,Znp,Zn9,Zrd,Zos,Zot,Zo6,Zo7,Zo8,Zo9,Zpc,eq_self,true_and,and_true,hm,ht,ho,hlt,hlm,hW',hA',hB',h0,h1,h3]
        tactic =>
        refine endA ?_
        sym =>
        simp [Zab,Zad,Zak,Zam,Zaz,Za0,Za1,Za2,Za3,Za4,Za5,Za6,Za7,Zrh,Za8,Za9,Zba,Zbb,Zbd,Zbf,Zbl,Zbt,Zbz,Zcv,Zc3,Zdc,Zdd,Zde,Zdi,Zev,Zew,Zex,Zez,Ze0,Ze1,Ze2,Ze3,Ze5,Ze8,Zfc,Zfd,Zfe,Zfh,Zfi,Zfj,Zfk,Zfl,Zfn,Zfq,Zfs,Zft,Zfu,Zfz,Zf1,Zgh,Zgi,Zgr,Zgs,Zgt,Zgv,Zg1,Zg2,Zho,Zin,Ziu,Ziv,Ziw,Zi6,Zjh,Zji,Zjn,Zjq,Zkv,Zkw,Zkx,Zla,Zlb,Zle,Zlj,Zlz,Zmt,Zmv,Zmw,Zmx,Zmz,Zm2,Zm6,Zm9,Zna,Znb,Zne,Znf,Zng,Znn,Zno,Znp,Zn9,Zrd,Zos,Zot,Zo6,Zo7,Zo8,Zo9,Zpc,eq_self,true_and,and_true]
    · sym =>
      simp [Zab,Zad,Zak,Zam,Zaz,Za0,Za1,Za2,Za3,Za4,Za5,Za6,Za7,Zrh,Za8,Za9,Zba,Zbb,Zbd,Zbf,Zbl,Zbt,Zbz,Zcv,Zc3,Zdc,Zdd,Zde,Zdi,Zev,Zew,Zex,Zez,Ze0,Ze1,Ze2,Ze3,Ze5,Ze8,Zfc,Zfd,Zfe,Zfh,Zfi,Zfj,Zfk,Zfl,Zfn,Zfq,Zfs,Zft,Zfu,Zfz,Zf1,Zgh,Zgi,Zgr,Zgs,Zgt,Zgv,Zg1,Zg2,Zho,Zin,Ziu,Ziv,Ziw,Zi6,Zjh,Zji,Zjn,Zjq,Zkv,Zkw,Zkx,Zla,Zlb,Zle,Zlj,Zlz,Zmt,Zmv,Zmw,Zmx,Zmz,Zm2,Zm6,Zm9,Zna,Znb,Zne,Znf,Zng,Znn,Zno,Znp,Zn9,Zrd,Zos,Zot,Zo6,Zo7,Zo8,Zo9,Zpc,eq_self,true_and,and_true,hm,ht,ho,hlt,hlm,hW',hA',hB',h0,h1,h2]
      tactic =>
      refine endA ?_
      sym =>
      simp [Zab,Zad,Zak,Zam,Zaz,Za0,Za1,Za2,Za3,Za4,Za5,Za6,Za7,Zrh,Za8,Za9,Zba,Zbb,Zbd,Zbf,Zbl,Zbt,Zbz,Zcv,Zc3,Zdc,Zdd,Zde,Zdi,Zev,Zew,Zex,Zez,Ze0,Ze1,Ze2,Ze3,Ze5,Ze8,Zfc,Zfd,Zfe,Zfh,Zfi,Zfj,Zfk,Zfl,Zfn,Zfq,Zfs,Zft,Zfu,Zfz,Zf1,Zgh,Zgi,Zgr,Zgs,Zgt,Zgv,Zg1,Zg2,Zho,Zin,Ziu,Ziv,Ziw,Zi6,Zjh,Zji,Zjn,Zjq,Zkv,Zkw,Zkx,Zla,Zlb,Zle,Zlj,Zlz,Zmt,Zmv,Zmw,Zmx,Zmz,Zm2,Zm6,Zm9,Zna,Znb,Zne,Znf,Zng,Znn,Zno,Znp,Zn9,Zrd,Zos,Zot,Zo6,Zo7,Zo8,Zo9,Zpc,eq_self,true_and,and_true]
  · sym =>
    simp [Zab,Zad,Zak,Zam,Zaz,Za0,Za1,Za2,Za3,Za4,Za5,Za6,Za7,Zrh,Za8,Za9,Zba,Zbb,Zbd,Zbf,Zbl,Zbt,Zbz,Zcv,Zc3,Zdc,Zdd,Zde,Zdi,Zev,Zew,Zex,Zez,Ze0,Ze1,Ze2,Ze3,Ze5,Ze8,Zfc,Zfd,Zfe,Zfh,Zfi,Zfj,Zfk,Zfl,Zfn,Zfq,Zfs,Zft,Zfu,Zfz,Zf1,Zgh,Zgi,Zgr,Zgs,Zgt,Zgv,Zg1,Zg2,Zho,Zin,Ziu,Ziv,Ziw,Zi6,Zjh,Zji,Zjn,Zjq,Zkv,Zkw,Zkx,Zla,Zlb,Zle,Zlj,Zlz,Zmt,Zmv,Zmw,Zmx,Zmz,Zm2,Zm6,Zm9,Zna,Znb,Zne,Znf,Zng,Znn,Zno,Znp,Zn9,Zrd,Zos,Zot,Zo6,Zo7,Zo8,Zo9,Zpc,eq_self,true_and,and_true,hm,ht,ho,hlt,hlm,hW',hA',hB',h0]
    tactic =>
    refine endA ?_
    sym =>
    simp [Zab,Zad,Zak,Zam,Zaz,Za0,Za1,Za2,Za3,Za4,Za5,Za6,Za7,Zrh,Za8,Za9,Zba,Zbb,Zbd,Zbf,Zbl,Zbt,Zbz,Zcv,Zc3,Zdc,Zdd,Zde,Zdi,Zev,Zew,Zex,Zez,Ze0,Ze1,Ze2,Ze3,Ze5,Ze8,Zfc,Zfd,Zfe,Zfh,Zfi,Zfj,Zfk,Zfl,Zfn,Zfq,Zfs,Zft,Zfu,Zfz,Zf1,Zgh,Zgi,Zgr,Zgs,Zgt,Zgv,Zg1,Zg2,Zho,Zin,Ziu,Ziv,Ziw,Zi6,Zjh,Zji,Zjn,Zjq,Zkv,Zkw,Zkx,Zla,Zlb,Zle,Zlj,Zlz,Zmt,Zmv,Zmw,Zmx,Zmz,Zm2,Zm6,Zm9,Zna,Znb,Zne,Znf,Zng,Znn,Zno,Znp,Zn9,Zrd,Zos,Zot,Zo6,Zo7,Zo8,Zo9,Zpc,eq_self,true_and,and_true]
def rootY (x : Int) (j : Nat) : Int := a64 x (IntKind.u64.wrap (1 * 2 ^ (35 - j)))
def rootX (third : Bool) (p : Int) : Nat → Int
  | 0 => 0
  | j + 1 => if (if third then cubeF (rootY (rootX third p j) j) p else squareF (rootY (rootX third p j) j) p) = true then rootY (rootX third p j) j else rootX third p j
def i41 (third : Bool) (p : Int) (k : Nat) (s : St) : Prop := ∃ j : Nat, j + k = 36 ∧ s = ⟨[(0, I p), (1, Bo third), (5, L (rootX third p j)), (6, I (35 - (j : Int)))], [], 0⟩
theorem root_con (third : Bool) (p : Int) : Con Try.prog 41 [] [I p, Bo third] [] (U (w32 (lo (rootX third p 36)))) := by
  refine con_j b41 rfl ?_
  sym =>
  simp [Zaa,Zab,Zad,Zae,Zaf,Zag,Zah,Zai,Zak,Zal,Zam,Zan,Zap,Zaq,Zav,Zaw,Zay,Zaz,Za0,Za1,Za2,Za3,Za4,Za5,Za6,Za7,Zrh,Za8,Za9,Zba,Zbb,Zbd,Zbf,Zbj,Zbl,Zdc,Zdd,Zde,Zdi,Zev,Zew,Zex,Zez,Ze0,Ze2,Zfd,Zfe,Zfh,Zfi,Zfj,Zfk,Zfl,Zfn,Zfo,Zfq,Zfr,Zfu,Zf4,Zgd,Zgg,Zgh,Zgi,Zjw,Zla,Zlb,Zle,Zlj,Zlz,Zmt,Zmv,Zmw,Zmx,Zmz,Zm2,Zna,Znb,Zne,Znf,Zng,Zos,Zot,Zo3,Zo4,Zo6,Zo7,Zo8,Zo9,Zpc,Zqf,Zqg,Zqh,Zqm,Zqr,eq_self,true_and,and_true]
  tactic =>
  refine lpA (i41 third p) 36 [] _ ⟨0, by omega, rfl⟩ (wkA ?_) ?_
  · sym =>
    simp [Zaa,Zab,Zad,Zae,Zaf,Zag,Zah,Zai,Zak,Zal,Zam,Zan,Zap,Zaq,Zav,Zaw,Zay,Zaz,Za0,Za1,Za2,Za3,Za4,Za5,Za6,Za7,Zrh,Za8,Za9,Zba,Zbb,Zbd,Zbf,Zbj,Zbl,Zdc,Zdd,Zde,Zdi,Zev,Zew,Zex,Zez,Ze0,Ze2,Zfd,Zfe,Zfh,Zfi,Zfj,Zfk,Zfl,Zfn,Zfo,Zfq,Zfr,Zfu,Zf4,Zgd,Zgg,Zgh,Zgi,Zjw,Zla,Zlb,Zle,Zlj,Zlz,Zmt,Zmv,Zmw,Zmx,Zmz,Zm2,Zna,Znb,Zne,Znf,Zng,Zos,Zot,Zo3,Zo4,Zo6,Zo7,Zo8,Zo9,Zpc,Zqf,Zqg,Zqh,Zqm,Zqr,eq_self,true_and,and_true]
    tactic =>
    exact ⟨rfl, rfl⟩
  rintro k s ⟨j, hj, rfl⟩
  have hrec : rootX third p (j + 1) = if (if third then cubeF (rootY (rootX third p j) j) p else squareF (rootY (rootX third p j) j) p) = true then rootY (rootX third p j) j else rootX third p j := rfl
  obtain ⟨x, hx⟩ : ∃ x, x = rootX third p j := ⟨_, rfl⟩
  rw [← hx] at hrec ⊢
  by_cases h : j < 36
  · have hI : 35 - (j : Int) ≥ 0 := by omega
    have hb : min (35 - (j : Int)).toNat IntKind.u64.bits = 35 - j := by simp only [IntKind.bits]; omega
    have hw := w64 (35 - (j : Int) - 1) (by omega)
    have hy : IntKind.u64.wrap (x + IntKind.u64.wrap (1 * 2 ^ (35 - j))) = rootY x j := rfl
    obtain ⟨y, hyy⟩ : ∃ y, y = rootY x j := ⟨_, rfl⟩
    rw [← hyy] at hrec hy
    have hn : 35 - (j : Int) - 1 = 35 - ((j + 1 : Nat) : Int) := by omega
    rw [hn] at hw
    rw [← hn] at hw
    rcases third with _ | _
    · sym =>
      simp [Zaa,Zab,Zad,Zae,Zaf,Zag,Zah,Zai,Zak,Zal,Zam,Zan,Zap,Zaq,Zav,Zaw,Zay,Zaz,Za0,Za1,Za2,Za3,Za4,Za5,Za6,Za7,Zrh,Za8,Za9,Zba,Zbb,Zbd,Zbf,Zbj,Zbl,Zdc,Zdd,Zde,Zdi,Zev,Zew,Zex,Zez,Ze0,Ze2,Zfd,Zfe,Zfh,Zfi,Zfj,Zfk,Zfl,Zfn,Zfo,Zfq,Zfr,Zfu,Zf4,Zgd,Zgg,Zgh,Zgi,Zjw,Zla,Zlb,Zle,Zlj,Zlz,Zmt,Zmv,Zmw,Zmx,Zmz,Zm2,Zna,Znb,Zne,Znf,Zng,Zos,Zot,Zo3,Zo4,Zo6,Zo7,Zo8,Zo9,Zpc,Zqf,Zqg,Zqh,Zqm,Zqr,eq_self,true_and,and_true,hI,hb,hy,callable_66]
      tactic =>
      refine cl none (square_con y p) trivial ?_
      by_cases hc : squareF y p = true
      · sym =>
        simp [Zaa,Zab,Zad,Zae,Zaf,Zag,Zah,Zai,Zak,Zal,Zam,Zan,Zap,Zaq,Zav,Zaw,Zay,Zaz,Za0,Za1,Za2,Za3,Za4,Za5,Za6,Za7,Zrh,Za8,Za9,Zba,Zbb,Zbd,Zbf,Zbj,Zbl,Zdc,Zdd,Zde,Zdi,Zev,Zew,Zex,Zez,Ze0,Ze2,Zfd,Zfe,Zfh,Zfi,Zfj,Zfk,Zfl,Zfn,Zfo,Zfq,Zfr,Zfu,Zf4,Zgd,Zgg,Zgh,Zgi,Zjw,Zla,Zlb,Zle,Zlj,Zlz,Zmt,Zmv,Zmw,Zmx,Zmz,Zm2,Zna,Znb,Zne,Znf,Zng,Zos,Zot,Zo3,Zo4,Zo6,Zo7,Zo8,Zo9,Zpc,Zqf,Zqg,Zqh,Zqm,Zqr,eq_self,true_and,and_true,hc,hw]
        tactic =>
        unfold NextL; refine ⟨(k - 1), [], _, by omega, ⟨j + 1, by omega, rfl⟩, wkA ?_⟩
        rw [hrec]
        simp only [Bool.false_eq_true, if_false, hc, if_true]
        sym =>
        simp [Zaa,Zab,Zad,Zae,Zaf,Zag,Zah,Zai,Zak,Zal,Zam,Zan,Zap,Zaq,Zav,Zaw,Zay,Zaz,Za0,Za1,Za2,Za3,Za4,Za5,Za6,Za7,Zrh,Za8,Za9,Zba,Zbb,Zbd,Zbf,Zbj,Zbl,Zdc,Zdd,Zde,Zdi,Zev,Zew,Zex,Zez,Ze0,Ze2,Zfd,Zfe,Zfh,Zfi,Zfj,Zfk,Zfl,Zfn,Zfo,Zfq,Zfr,Zfu,Zf4,Zgd,Zgg,Zgh,Zgi,Zjw,Zla,Zlb,Zle,Zlj,Zlz,Zmt,Zmv,Zmw,Zmx,Zmz,Zm2,Zna,Znb,Zne,Znf,Zng,Zos,Zot,Zo3,Zo4,Zo6,Zo7,Zo8,Zo9,Zpc,Zqf,Zqg,Zqh,Zqm,Zqr,eq_self,true_and,and_true]
        tactic =>
        omega
      · have hcf : squareF y p = false := by simpa using hc
        sym =>
        simp [Zaa,Zab,Zad,Zae,Zaf,Zag,Zah,Zai,Zak,Zal,Zam,Zan,Zap,Zaq,Zav,Zaw,Zay,Zaz,Za0,Za1,Za2,Za3,Za4,Za5,Za6,Za7,Zrh,Za8,Za9,Zba,Zbb,Zbd,Zbf,Zbj,Zbl,Zdc,Zdd,Zde,Zdi,Zev,Zew,Zex,Zez,Ze0,Ze2,Zfd,Zfe,Zfh,Zfi,Zfj,Zfk,Zfl,Zfn,Zfo,Zfq,Zfr,Zfu,Zf4,Zgd,Zgg,Zgh,Zgi,Zjw,Zla,Zlb,Zle,Zlj,Zlz,Zmt,Zmv,Zmw,Zmx,Zmz,Zm2,Zna,Znb,Zne,Znf,Zng,Zos,Zot,Zo3,Zo4,Zo6,Zo7,Zo8,Zo9,Zpc,Zqf,Zqg,Zqh,Zqm,Zqr,eq_self,true_and,and_true,hcf,hw]
        tactic =>
        unfold NextL; refine ⟨(k - 1), [], _, by omega, ⟨j + 1, by omega, rfl⟩, wkA ?_⟩
        rw [hrec]
        simp only [hcf, Bool.false_eq_true, if_false]
        sym =>
        simp [Zaa,Zab,Zad,Zae,Zaf,Zag,Zah,Zai,Zak,Zal,Zam,Zan,Zap,Zaq,Zav,Zaw,Zay,Zaz,Za0,Za1,Za2,Za3,Za4,Za5,Za6,Za7,Zrh,Za8,Za9,Zba,Zbb,Zbd,Zbf,Zbj,Zbl,Zdc,Zdd,Zde,Zdi,Zev,Zew,Zex,Zez,Ze0,Ze2,Zfd,Zfe,Zfh,Zfi,Zfj,Zfk,Zfl,Zfn,Zfo,Zfq,Zfr,Zfu,Zf4,Zgd,Zgg,Zgh,Zgi,Zjw,Zla,Zlb,Zle,Zlj,Zlz,Zmt,Zmv,Zmw,Zmx,Zmz,Zm2,Zna,Znb,Zne,Znf,Zng,Zos,Zot,Zo3,Zo4,Zo6,Zo7,Zo8,Zo9,Zpc,Zqf,Zqg,Zqh,Zqm,Zqr,eq_self,true_and,and_true]
        tactic =>
        omega
    · sym =>
      simp [Zaa,Zab,Zad,Zae,Zaf,Zag,Zah,Zai,Zak,Zal,Zam,Zan,Zap,Zaq,Zav,Zaw,Zay,Zaz,Za0,Za1,Za2,Za3,Za4,Za5,Za6,Za7,Zrh,Za8,Za9,Zba,Zbb,Zbd,Zbf,Zbj,Zbl,Zdc,Zdd,Zde,Zdi,Zev,Zew,Zex,Zez,Ze0,Ze2,Zfd,Zfe,Zfh,Zfi,Zfj,Zfk,Zfl,Zfn,Zfo,Zfq,Zfr,Zfu,Zf4,Zgd,Zgg,Zgh,Zgi,Zjw,Zla,Zlb,Zle,Zlj,Zlz,Zmt,Zmv,Zmw,Zmx,Zmz,Zm2,Zna,Znb,Zne,Znf,Zng,Zos,Zot,Zo3,Zo4,Zo6,Zo7,Zo8,Zo9,Zpc,Zqf,Zqg,Zqh,Zqm,Zqr,eq_self,true_and,and_true,hI,hb,hy,callable_65]
      tactic =>
      refine cl none (cube_con y p) trivial ?_
      by_cases hc : cubeF y p = true
      · sym =>
        simp [Zaa,Zab,Zad,Zae,Zaf,Zag,Zah,Zai,Zak,Zal,Zam,Zan,Zap,Zaq,Zav,Zaw,Zay,Zaz,Za0,Za1,Za2,Za3,Za4,Za5,Za6,Za7,Zrh,Za8,Za9,Zba,Zbb,Zbd,Zbf,Zbj,Zbl,Zdc,Zdd,Zde,Zdi,Zev,Zew,Zex,Zez,Ze0,Ze2,Zfd,Zfe,Zfh,Zfi,Zfj,Zfk,Zfl,Zfn,Zfo,Zfq,Zfr,Zfu,Zf4,Zgd,Zgg,Zgh,Zgi,Zjw,Zla,Zlb,Zle,Zlj,Zlz,Zmt,Zmv,Zmw,Zmx,Zmz,Zm2,Zna,Znb,Zne,Znf,Zng,Zos,Zot,Zo3,Zo4,Zo6,Zo7,Zo8,Zo9,Zpc,Zqf,Zqg,Zqh,Zqm,Zqr,eq_self,true_and,and_true,hc,hw]
        tactic =>
        unfold NextL; refine ⟨(k - 1), [], _, by omega, ⟨j + 1, by omega, rfl⟩, wkA ?_⟩
        rw [hrec]
        simp only [if_true, hc]
        sym =>
        simp [Zaa,Zab,Zad,Zae,Zaf,Zag,Zah,Zai,Zak,Zal,Zam,Zan,Zap,Zaq,Zav,Zaw,Zay,Zaz,Za0,Za1,Za2,Za3,Za4,Za5,Za6,Za7,Zrh,Za8,Za9,Zba,Zbb,Zbd,Zbf,Zbj,Zbl,Zdc,Zdd,Zde,Zdi,Zev,Zew,Zex,Zez,Ze0,Ze2,Zfd,Zfe,Zfh,Zfi,Zfj,Zfk,Zfl,Zfn,Zfo,Zfq,Zfr,Zfu,Zf4,Zgd,Zgg,Zgh,Zgi,Zjw,Zla,Zlb,Zle,Zlj,Zlz,Zmt,Zmv,Zmw,Zmx,Zmz,Zm2,Zna,Znb,Zne,Znf,Zng,Zos,Zot,Zo3,Zo4,Zo6,Zo7,Zo8,Zo9,Zpc,Zqf,Zqg,Zqh,Zqm,Zqr,eq_self,true_and,and_true]
        tactic =>
        omega
      · have hcf : cubeF y p = false := by simpa using hc
        sym =>
        simp [Zaa,Zab,Zad,Zae,Zaf,Zag,Zah,Zai,Zak,Zal,Zam,Zan,Zap,Zaq,Zav,Zaw,Zay,Zaz,Za0,Za1,Za2,Za3,Za4,Za5,Za6,Za7,Zrh,Za8,Za9,Zba,Zbb,Zbd,Zbf,Zbj,Zbl,Zdc,Zdd,Zde,Zdi,Zev,Zew,Zex,Zez,Ze0,Ze2,Zfd,Zfe,Zfh,Zfi,Zfj,Zfk,Zfl,Zfn,Zfo,Zfq,Zfr,Zfu,Zf4,Zgd,Zgg,Zgh,Zgi,Zjw,Zla,Zlb,Zle,Zlj,Zlz,Zmt,Zmv,Zmw,Zmx,Zmz,Zm2,Zna,Znb,Zne,Znf,Zng,Zos,Zot,Zo3,Zo4,Zo6,Zo7,Zo8,Zo9,Zpc,Zqf,Zqg,Zqh,Zqm,Zqr,eq_self,true_and,and_true,hcf,hw]
        tactic =>
        unfold NextL; refine ⟨(k - 1), [], _, by omega, ⟨j + 1, by omega, rfl⟩, wkA ?_⟩
        rw [hrec]
        simp only [if_true, hcf, Bool.false_eq_true, if_false]
        sym =>
        simp [Zaa,Zab,Zad,Zae,Zaf,Zag,Zah,Zai,Zak,Zal,Zam,Zan,Zap,Zaq,Zav,Zaw,Zay,Zaz,Za0,Za1,Za2,Za3,Za4,Za5,Za6,Za7,Zrh,Za8,Za9,Zba,Zbb,Zbd,Zbf,Zbj,Zbl,Zdc,Zdd,Zde,Zdi,Zev,Zew,Zex,Zez,Ze0,Ze2,Zfd,Zfe,Zfh,Zfi,Zfj,Zfk,Zfl,Zfn,Zfo,Zfq,Zfr,Zfu,Zf4,Zgd,Zgg,Zgh,Zgi,Zjw,Zla,Zlb,Zle,Zlj,Zlz,Zmt,Zmv,Zmw,Zmx,Zmz,Zm2,Zna,Znb,Zne,Znf,Zng,Zos,Zot,Zo3,Zo4,Zo6,Zo7,Zo8,Zo9,Zpc,Zqf,Zqg,Zqh,Zqm,Zqr,eq_self,true_and,and_true]
        tactic =>
        omega
  · have hI : ¬ 35 - (j : Int) ≥ 0 := by omega
    have e36 : j = 36 := by omega
    subst e36
    rw [← hx]
    sym =>
    simp [Zaa,Zab,Zad,Zae,Zaf,Zag,Zah,Zai,Zak,Zal,Zam,Zan,Zap,Zaq,Zav,Zaw,Zay,Zaz,Za0,Za1,Za2,Za3,Za4,Za5,Za6,Za7,Zrh,Za8,Za9,Zba,Zbb,Zbd,Zbf,Zbj,Zbl,Zdc,Zdd,Zde,Zdi,Zev,Zew,Zex,Zez,Ze0,Ze2,Zfd,Zfe,Zfh,Zfi,Zfj,Zfk,Zfl,Zfn,Zfo,Zfq,Zfr,Zfu,Zf4,Zgd,Zgg,Zgh,Zgi,Zjw,Zla,Zlb,Zle,Zlj,Zlz,Zmt,Zmv,Zmw,Zmx,Zmz,Zm2,Zna,Znb,Zne,Znf,Zng,Zos,Zot,Zo3,Zo4,Zo6,Zo7,Zo8,Zo9,Zpc,Zqf,Zqg,Zqh,Zqm,Zqr,eq_self,true_and,and_true,hI]
    tactic =>
    refine endA ?_
    sym =>
    simp [Zaa,Zab,Zad,Zae,Zaf,Zag,Zah,Zai,Zak,Zal,Zam,Zan,Zap,Zaq,Zav,Zaw,Zay,Zaz,Za0,Za1,Za2,Za3,Za4,Za5,Za6,Za7,Zrh,Za8,Za9,Zba,Zbb,Zbd,Zbf,Zbj,Zbl,Zdc,Zdd,Zde,Zdi,Zev,Zew,Zex,Zez,Ze0,Ze2,Zfd,Zfe,Zfh,Zfi,Zfj,Zfk,Zfl,Zfn,Zfo,Zfq,Zfr,Zfu,Zf4,Zgd,Zgg,Zgh,Zgi,Zjw,Zla,Zlb,Zle,Zlj,Zlz,Zmt,Zmv,Zmw,Zmx,Zmz,Zm2,Zna,Znb,Zne,Znf,Zng,Zos,Zot,Zo3,Zo4,Zo6,Zo7,Zo8,Zo9,Zpc,Zqf,Zqg,Zqh,Zqm,Zqr,eq_self,true_and,and_true]
    tactic =>
    rfl
end Go.Proofs.Ytdjjibmjinllnaa.DigC
