import Derived.Test.YtdjjibmjinllnaaDigO
namespace Go.Proofs.Ytdjjibmjinllnaa.DigP
open Go Go.Sim Go.Sim.E Go.RowKit Go.Proofs Go.Proofs.Ytdjjibmjinllnaa.Cod Go.Proofs.Ytdjjibmjinllnaa.Tab Go.Proofs.Ytdjjibmjinllnaa.DigA Go.Proofs.Ytdjjibmjinllnaa.DigB Go.Proofs.Ytdjjibmjinllnaa.DigC Go.Proofs.Ytdjjibmjinllnaa.DigM Go.Proofs.Ytdjjibmjinllnaa.DigN Go.Proofs.Ytdjjibmjinllnaa.DigO
set_option linter.unusedVariables false
set_option linter.unusedSimpArgs false
set_option maxRecDepth 100000
set_option maxHeartbeats 4000000
theorem kernelK : (prs 310).map (fun p => w32 (lo (rootX true p 36))) = K0 := by decide +kernel
theorem kernelW : ((prs 310).take 8).map (fun p => w32 (lo (rootX false p 36))) = W0 := by decide +kernel
theorem K0_get (i : Nat) (h : i < 64) : w32 (lo (rootX true ((prs 310).getD i 0) 36)) = K0.getD i 0 := by
  have hl := prs_310
  rw [← kernelK, List.getD_eq_getElem?_getD, List.getD_eq_getElem?_getD, List.getElem?_map, List.getElem?_eq_getElem (by omega)]
  rfl
theorem W0_get (i : Nat) (h : i < 8) : w32 (lo (rootX false ((prs 310).getD i 0) 36)) = W0.getD i 0 := by
  have hl := prs_310
  rw [← kernelW, List.getD_eq_getElem?_getD, List.getD_eq_getElem?_getD, List.getElem?_map, List.getElem?_take, if_pos h, List.getElem?_eq_getElem (by omega)]
  rfl
/-- The first i of a list, and noughts. -/
def prt (l : List Int) (n i : Nat) : List Int := l.take i ++ List.replicate (n - i) 0
theorem prt_length (l : List Int) (n i : Nat) (h : i ≤ n) (hl : l.length = n) : (prt l n i).length = n := by simp [prt]; omega
theorem prt_step (l : List Int) (n i : Nat) (h : i < n) (hl : l.length = n) : (prt l n i).set i (l.getD i 0) = prt l n (i + 1) := by
  have e : l.getD i 0 = l[i] := by simp [List.getD_eq_getElem?_getD, List.getElem?_eq_getElem (show i < l.length by omega)]
  have hl2 : (l.take i).length = i := by simp; omega
  unfold prt
  rw [e, List.set_append_right _ _ (by omega), hl2, Nat.sub_self, show n - i = (n - (i + 1)) + 1 from by omega, List.replicate_succ, List.set_cons_zero, List.take_add_one, List.getElem?_eq_getElem (by omega), List.append_assoc]
  rfl
theorem prt_all (l : List Int) (n : Nat) (hl : l.length = n) : prt l n n = l := by
  subst hl; simp [prt]
def nt (e : Int) : Int := bits .xor .u32 4294967295 e
def an (a b : Int) : Int := bits .and .u32 a b
def dT1 (e f g h k w : Int) : Int := w32 (w32 (w32 (w32 (h + xr (xr (trn e 6) (trn e 11)) (trn e 25)) + xr (an e f) (an (nt e) g)) + k) + w)
def dT2 (a b c : Int) : Int := w32 (xr (xr (trn a 2) (trn a 13)) (trn a 22) + xr (xr (an a b) (an a c)) (an b c))
def drnd (r : List Int) (k w : Int) : List Int := [w32 (dT1 (r.getD 4 0) (r.getD 5 0) (r.getD 6 0) (r.getD 7 0) k w + dT2 (r.getD 0 0) (r.getD 1 0) (r.getD 2 0)), r.getD 0 0, r.getD 1 0, r.getD 2 0, w32 (r.getD 3 0 + dT1 (r.getD 4 0) (r.getD 5 0) (r.getD 6 0) (r.getD 7 0) k w), r.getD 4 0, r.getD 5 0, r.getD 6 0]
def druns (K W S : List Int) : Nat → List Int
  | 0 => S
  | i + 1 => drnd (druns K W S i) (K.getD i 0) (W.getD i 0)
theorem druns_length (K W S : List Int) (h : S.length = 8) : ∀ i, (druns K W S i).length = 8
  | 0 => h
  | i + 1 => rfl
def dsums (S R : List Int) : Nat → List Int
  | 0 => S
  | i + 1 => (dsums S R i).set i (w32 ((dsums S R i).getD i 0 + R.getD i 0))
theorem dsums_length (S R : List Int) : ∀ i, (dsums S R i).length = S.length
  | 0 => rfl
  | i + 1 => by simp [dsums, dsums_length S R i]
def dblock (S b : List Int) : List Int := dsums S (druns K0 (dW b 64) S 64) 8
def dabs (P : List Int) : Nat → List Int
  | 0 => W0
  | m + 1 => dblock (dabs P m) ((P.drop (64 * m)).take 64)
theorem dabs_length (P : List Int) : ∀ m, (dabs P m).length = 8
  | 0 => rfl
  | m + 1 => by rw [dabs, dblock, dsums_length, dabs_length P m]
def docF (b : List Int) : List Int := out32 (dabs (fill b (IN b.length)) ((fill b (IN b.length)).length / 64))
theorem u32_ty (op : BinOp) (x y : Int) : bits op .u32 x y = ((match op with | .and => BitVec.ofInt 32 x &&& BitVec.ofInt 32 y | .or => BitVec.ofInt 32 x ||| BitVec.ofInt 32 y | .xor => BitVec.ofInt 32 x ^^^ BitVec.ofInt 32 y | _ => BitVec.ofInt 32 x &&& ~~~(BitVec.ofInt 32 y) : BitVec 32).toNat : Int) := by
  have h : ∀ z : BitVec 32, IntKind.u32.wrap (z.toNat : Int) = (z.toNat : Int) := fun z => by
    have := z.isLt
    rw [IntKind.wrap_u32]; omega
  unfold bits
  exact h _
theorem b_xor (x y : Int) : bits .xor .u32 x y = ((BitVec.ofInt 32 x ^^^ BitVec.ofInt 32 y).toNat : Int) := u32_ty .xor x y
theorem b_and (x y : Int) : bits .and .u32 x y = ((BitVec.ofInt 32 x &&& BitVec.ofInt 32 y).toNat : Int) := u32_ty .and x y
theorem b_or (x y : Int) : bits .or .u32 x y = ((BitVec.ofInt 32 x ||| BitVec.ofInt 32 y).toNat : Int) := u32_ty .or x y
theorem b_of (z : BitVec 32) : BitVec.ofInt 32 (z.toNat : Int) = z := by simp
theorem rot_trn (x : Int) (n : Nat) : rotR x n = trn x n := by
  show bits .or .u32 (IntKind.u32.wrap (x * 2 ^ (32 - n))) (x.fdiv (2 ^ n)) = bits .or .u32 (x.fdiv (2 ^ n)) (IntKind.u32.wrap (x * 2 ^ (32 - n)))
  rw [b_or, b_or, BitVec.or_comm]
theorem bv_cho (e f g : BitVec 32) : g ^^^ (e &&& (f ^^^ g)) = (e &&& f) ^^^ ((4294967295#32 ^^^ e) &&& g) := by
  have h : (4294967295#32 : BitVec 32) = BitVec.allOnes 32 := by decide
  rw [h]
  ext i hi
  simp only [BitVec.getElem_xor, BitVec.getElem_and, BitVec.getElem_allOnes]
  cases e[i] <;> cases f[i] <;> cases g[i] <;> rfl
theorem bv_maj (a b c : BitVec 32) : (a &&& b) ||| (c &&& (a ||| b)) = ((a &&& b) ^^^ (a &&& c)) ^^^ (b &&& c) := by
  ext i hi
  simp only [BitVec.getElem_xor, BitVec.getElem_and, BitVec.getElem_or]
  cases a[i] <;> cases b[i] <;> cases c[i] <;> rfl
theorem cho (e f g : Int) : xr g (bits .and .u32 e (xr f g)) = xr (an e f) (an (nt e) g) := by
  simp only [xr, an, nt, b_xor, b_and, b_of]
  rw [show BitVec.ofInt 32 4294967295 = 4294967295#32 from rfl, bv_cho]
theorem maj (a b c : Int) : bits .or .u32 (bits .and .u32 a b) (bits .and .u32 c (bits .or .u32 a b)) = xr (xr (an a b) (an a c)) (an b c) := by
  simp only [xr, an, b_xor, b_and, b_or, b_of, bv_maj]
theorem T1_eq (e f g h k w : Int) : T1 e f g h k w = dT1 e f g h k w := by
  unfold T1 dT1
  rw [cho, rot_trn, rot_trn, rot_trn]
theorem T2_eq (a b c : Int) : T2 a b c = dT2 a b c := by
  unfold T2 dT2
  rw [maj, rot_trn, rot_trn, rot_trn]
theorem rnd_eq (r : List Int) (k w : Int) : rnd (rs8 r) k w = drnd r k w := by
  show [w32 (T1 _ _ _ _ k w + T2 _ _ _), _, _, _, w32 (_ + T1 _ _ _ _ k w), _, _, _] = drnd r k w
  rw [T1_eq, T2_eq]
  rfl
theorem rs8_self (S : List Int) (h : S.length = 8) : rs8 S = S := by
  match S, h with
  | [a, b, c, d, e, f, g, h], _ => rfl
theorem runs_eq (K W S : List Int) (h : S.length = 8) : ∀ i, runs K W S i = druns K W S i
  | 0 => rs8_self S h
  | i + 1 => by rw [runs, druns, runs_eq K W S h i, rnd_eq]
theorem sums_eq (S R : List Int) (h : S.length = 8) (h2 : R.length = 8) : sums S R 8 = dsums S R 8 := by
  match S, h, R, h2 with
  | [a0, a1, a2, a3, a4, a5, a6, a7], _, [b0, b1, b2, b3, b4, b5, b6, b7], _ =>
    show [w32 (b0 + a0), w32 (b1 + a1), w32 (b2 + a2), w32 (b3 + a3), w32 (b4 + a4), w32 (b5 + a5), w32 (b6 + a6), w32 (b7 + a7)] = [w32 (a0 + b0), w32 (a1 + b1), w32 (a2 + b2), w32 (a3 + b3), w32 (a4 + b4), w32 (a5 + b5), w32 (a6 + b6), w32 (a7 + b7)]
    simp only [Int.add_comm]
def byt8 (b : List Int) : Prop := ∀ x ∈ b, 0 ≤ x ∧ x < 256
theorem byt8_get {b : List Int} (h : byt8 b) (i : Nat) : 0 ≤ b.getD i 0 ∧ b.getD i 0 < 256 := by
  rw [List.getD_eq_getElem?_getD]
  rcases hi : b[i]? with _ | x
  · simp
  · exact h x (List.mem_of_getElem? hi)
theorem join8 (x y : Int) (h0 : 0 ≤ x) (h1 : x < 16777216) (h2 : 0 ≤ y) (h3 : y < 256) : bits .or .u32 (w32 (x * 2 ^ 8)) (w32 y) = x * 256 + y := by
  have e1 : w32 (x * 2 ^ 8) = x * 256 := by
    show IntKind.u32.wrap (x * 2 ^ 8) = x * 256
    rw [IntKind.wrap_u32]; omega
  have e2 : w32 y = y := by
    show IntKind.u32.wrap y = y
    rw [IntKind.wrap_u32]; omega
  rw [e1, e2]
  exact bits_join .u32 32 (by decide) (fun n h0 h1 => by rw [IntKind.wrap_u32]; omega) 8 _ _ (by omega) (by omega) (by omega) h2 (by omega) (by omega)
theorem four_val {b : List Int} (h : byt8 b) (j : Nat) : four b j = ((b.getD (4 * j) 0 * 256 + b.getD (4 * j + 1) 0) * 256 + b.getD (4 * j + 2) 0) * 256 + b.getD (4 * j + 3) 0 := by
  have h0 := byt8_get h (4 * j)
  have h1 := byt8_get h (4 * j + 1)
  have h2 := byt8_get h (4 * j + 2)
  have h3 := byt8_get h (4 * j + 3)
  have e : ∀ x : Int, w32 x = x % 4294967296 := fun x => IntKind.wrap_u32 x
  unfold four
  rw [e, e, e, e, e, e, e, e, e, e]
  omega
theorem dW_zero (b : List Int) : ∀ j, j ≤ 16 → ∀ k, j ≤ k → (dW b j).getD k 0 = 0
  | 0, _, k, _ => by
    show (List.replicate 64 (0 : Int)).getD k 0 = 0
    rw [List.getD_eq_getElem?_getD, List.getElem?_replicate]
    split <;> rfl
  | j + 1, h, k, hk => by
    rw [dW, List.getD_eq_getElem?_getD, List.getElem?_set_ne (by omega), ← List.getD_eq_getElem?_getD]
    exact dW_zero b j (by omega) k (by omega)
theorem set_getD (l : List Int) (j : Nat) (v : Int) (h : j < l.length) : (l.set j v).getD j 0 = v := by
  simp [List.getD_eq_getElem?_getD, List.getElem?_set, h]
theorem spA_dW {b : List Int} (hb : byt8 b) : ∀ j, j ≤ 16 → spA b (4 * j) = dW b j
  | 0, _ => rfl
  | j + 1, h => by
    have ih := spA_dW hb j (by omega)
    have hl := dW_length b j
    have hz := dW_zero b j (by omega) j (Nat.le_refl j)
    have h0 := byt8_get hb (4 * j)
    have h1 := byt8_get hb (4 * j + 1)
    have h2 := byt8_get hb (4 * j + 2)
    have h3 := byt8_get hb (4 * j + 3)
    have q0 : 4 * j / 4 = j := by omega
    have q1 : (4 * j + 1) / 4 = j := by omega
    have q2 : (4 * j + 2) / 4 = j := by omega
    have q3 : (4 * j + 3) / 4 = j := by omega
    have e : spA b (4 * (j + 1)) = spA b (4 * j + 1 + 1 + 1 + 1) := rfl
    rw [e, spA, spA, spA, spA, ih, q0, q1, q2, q3, hz]
    have hset : ∀ v, ((dW b j).set j v).getD j 0 = v := fun v => set_getD _ _ _ (by omega)
    simp only [hset, List.set_set]
    rw [join8 0 _ (by omega) (by omega) h0.1 h0.2, join8 _ _ (by omega) (by omega) h1.1 h1.2, join8 _ _ (by omega) (by omega) h2.1 h2.2, join8 _ _ (by omega) (by omega) h3.1 h3.2]
    rw [dW, if_pos (by omega), four_val hb, Int.zero_mul, Int.zero_add]
theorem nxt_eq (w : List Int) (k : Nat) : nxt w k = dnx w (16 + k) := by
  unfold nxt dnx sig0 sig1
  rw [show 16 + k - 16 = k from by omega, show 16 + k - 15 = k + 1 from by omega, show 16 + k - 7 = k + 9 from by omega, show 16 + k - 2 = k + 14 from by omega, rot_trn, rot_trn, rot_trn, rot_trn]
theorem spB_dW {b : List Int} (hb : byt8 b) : ∀ k, spB (dW b 16) k = dW b (16 + k)
  | 0 => rfl
  | k + 1 => by
    rw [spB, spB_dW hb k, nxt_eq, ← Nat.add_assoc, dW, if_neg (by omega)]
theorem words_eq {b : List Int} (hb : byt8 b) : spread b = dW b 64 := by
  have h := spA_dW hb 16 (Nat.le_refl _)
  have h2 := spB_dW hb 48
  show spB (spA b 64) 48 = dW b 64
  rw [show spA b 64 = dW b 16 from h]
  exact h2
theorem block_eq {b : List Int} (hb : byt8 b) (S : List Int) (hS : S.length = 8) : block S b = dblock S b := by
  unfold block dblock
  rw [sums_eq _ _ hS (runs_length _ _ _ _), runs_eq _ _ _ hS, words_eq hb]
theorem byt8_drop {b : List Int} (h : byt8 b) (n : Nat) : byt8 (b.drop n) := fun x hx => h x (List.mem_of_mem_drop hx)
theorem byt8_take {b : List Int} (h : byt8 b) (n : Nat) : byt8 (b.take n) := fun x hx => h x (List.mem_of_mem_take hx)
theorem getD_take (b : List Int) (n j : Nat) (h : j < n) : (b.take n).getD j 0 = b.getD j 0 := by
  simp [List.getD_eq_getElem?_getD, List.getElem?_take, h]
theorem absorb_dabs {P : List Int} (h : byt8 P) : ∀ m, absorb W0 P m = dabs P m
  | 0 => rfl
  | m + 1 => by
    rw [absorb, dabs, absorb_dabs h m, ← block_eq (byt8_take (byt8_drop h _) _) _ (dabs_length P m)]
    exact block_same _ _ _ (fun j hj => (getD_take _ _ _ hj).symm)
theorem byt8_lay (g : Int) : byt8 (lay8 g) := by
  intro x hx
  simp only [lay8, List.mem_map] at hx
  obtain ⟨i, _, rfl⟩ := hx
  rw [IntKind.wrap_u8]; omega
theorem byt8_app {a b : List Int} (ha : byt8 a) (hb : byt8 b) : byt8 (a ++ b) := fun x hx => by
  rcases List.mem_append.1 hx with h | h
  · exact ha x h
  · exact hb x h
theorem byt8_fill {b : List Int} (h : byt8 b) (g : Int) : byt8 (fill b g) := by
  refine byt8_app (byt8_app (byt8_app h ?_) ?_) (byt8_lay g)
  · intro x hx; simp at hx; omega
  · intro x hx; rw [List.eq_of_mem_replicate hx]; omega
theorem digest_doc {b : List Int} (h : byt8 b) : digestF b = docF b := by
  have hq : ∀ m, absorb W0 (fill b (IN b.length)) m = dabs (fill b (IN b.length)) m := absorb_dabs (byt8_fill h _)
  unfold digestF docF
  rw [← hq]
  congr 1
  obtain ⟨q, hqq⟩ : ∃ q, q = b.length / 64 := ⟨_, rfl⟩
  rw [← hqq]
  obtain ⟨g, hg⟩ : ∃ g : Int, g = IN b.length := ⟨_, rfl⟩
  rw [← hg]
  have hz : padz (b.drop (64 * q)).length = padz b.length := by
    rw [List.length_drop]; simp only [padz]; omega
  obtain ⟨T, hT⟩ : ∃ T, T = [128] ++ (List.replicate (padz b.length) 0 ++ lay8 g) := ⟨_, rfl⟩
  have e1 : fill b g = b ++ T := by rw [hT, fill, List.append_assoc, List.append_assoc]
  have e2 : fill (b.drop (64 * q)) g = b.drop (64 * q) ++ T := by rw [hT, fill, hz, List.append_assoc, List.append_assoc]
  have e3 : (b.drop (64 * q) ++ T) = (b ++ T).drop (64 * q) := by rw [List.drop_append_of_le_length (by omega)]
  have e4 : (b ++ T).length / 64 = q + ((b.drop (64 * q) ++ T).length / 64) := by
    rw [List.length_append, List.length_append, List.length_drop]; omega
  unfold sumS
  rw [e1, e2, e4, absorb_add, absorb_front W0 b T q (by omega), ← e3]
end Go.Proofs.Ytdjjibmjinllnaa.DigP
