import Derived.Test.YtbmdahhhgpbchaaSwC
import Derived.RangeFuncNested
import Derived.RangeFuncLeaves
import Derived.Shelf.Abstract
import Derived.Shelf.RegionOpen
import Derived.WalkKit
import Derived.OwnWalkIn
import Derived.TacticsInMore
import Derived.LoopNIn
import Derived.LoopIn
namespace Go.Proofs.Ytbmdahhhgpbchaa.SwS
open Go Go.Sim Go.Sim.E Go.RowKit Go.Proofs Go.Proofs.Ytbmdahhhgpbchaa.Cod Go.Proofs.Ytbmdahhhgpbchaa.Tab Go.Proofs.Ytbmdahhhgpbchaa.Bse Go.Proofs.Ytbmdahhhgpbchaa.SpnP Go.Proofs.Ytbmdahhhgpbchaa.SwA Go.Proofs.Ytbmdahhhgpbchaa.SwB Go.Proofs.Ytbmdahhhgpbchaa.SwC
set_option linter.unusedVariables false
set_option linter.unusedSimpArgs false
set_option maxRecDepth 100000
set_option maxHeartbeats 4000000
attribute [local go_sem] Oper.semAt_some
/-- The segments within reach. -/
def segG (t e : Int) : Nat → Int → List Rg
  | 0, _ => []
  | k + 1, at_ => if at_ < e then (at_, min (at_ + 256) t) :: segG t e k (at_ + 256) else []
def segs (t b : Int) : List Rg := segG t (min t (b + 2048)) 9 b
abbrev vR (r : Rg) : Value := .agg #[.int .i64 r.1, .int .i64 r.2]
/-- What the iterator holds: the window, in a box. -/
theorem capt {W : World} {t : Int} {s o : List Rg} {l : List Value} (h : VRs W allT noLay [.fp (wC t s o) 0] l) :
    ∃ b k x y, l = [.pointer (some ⟨b, k, none⟩)] ∧ W.cell? ⟨b, k, none⟩ = some (.int .i64 t) ∧ W.cell? ⟨b, k + 1, none⟩ = some x ∧ W.cell? ⟨b, k + 2, none⟩ = some y ∧ VR W allT noLay (fR s) x ∧ VR W allT noLay (fR o) y := by
  obtain ⟨h0, h1⟩ := h
  obtain ⟨v, rfl⟩ : ∃ v, l = [v] := by
    match l, h0 with
    | [v], _ => exact ⟨v, rfl⟩
  have hv := h1 0 _ rfl
  obtain ⟨b, k, g, e, hc, hr⟩ := hv.fp_eq
  have e' : v = .pointer (some ⟨b, k + 0, none⟩) := e
  subst e'
  have r0 := hr 0 _ rfl
  have r1 := hr 1 _ rfl
  have r2 := hr 2 _ rfl
  have c0 := (hc 0 (by simp)).2
  have c1 := (hc 1 (by simp)).2
  have c2 := (hc 2 (by simp)).2
  have e0 := r0.sc_eq
  refine ⟨b, k, g 1, g 2, rfl, by rw [e0] at c0; exact c0, c1, c2, r1, r2⟩
theorem con_val {P : Program} {f : FuncId} {args : List AV} {n : Int} (h : Con P f [] args [] (I n)) {W : World} {cargs : Array Value} (hv : VRs W allT noLay args cargs.toList) :
    Calls P f cargs W fun e W' => e = .returned (.int .i64 n) ∧ Upd (fun _ => False) W W' := by
  have hHR : HR ⟨P, W, 0, fun _ => False, all W, 0, noLay, W.heap.size⟩ noLay [] W :=
    ⟨(fun id o ho => by cases ho), (fun id B hB => by cases hB), (fun id id' B B' hB => by cases hB), (fun id B hB => by cases hB), (fun b i hs => ⟨hs, fun e => e⟩), ⟨rfl, rfl, rfl, Nat.le_refl _, fun _ _ _ => rfl, NcK.refl _⟩⟩
  have hM : NcK W W := NcK.refl _
  refine (h W (fun _ => False) (all W) noLay cargs (fun _ _ => rfl) hHR ⟨hv.1, fun i x hx => (hv.2 i x hx).move (fun b i u hs hc => ⟨.inl (cell_lt hc), hc⟩) (fun _ _ hy => .inl hy)⟩).mono ?_
  rintro e W' ⟨v, L', rfl, _, _, hR, hr⟩
  exact ⟨by rw [hr.sc_eq], hR.upd⟩
theorem segG_cons (t e : Int) (k : Nat) (a : Int) (h : a < e) : segG t e (k + 1) a = (a, min (a + 256) t) :: segG t e k (a + 256) := by simp [segG, h]
theorem segG_nil (t e : Int) (k : Nat) (a : Int) (h : ¬ a < e) : segG t e k a = [] := by cases k <;> simp [segG, h]
theorem segs_seq (t : Int) (s o : List Rg) (hs : s.length < 1000000) (ht : 0 ≤ t ∧ t ≤ 1099511627776) (b : Int) (hb : endF (lim 0) s = b) (hb0 : 0 ≤ b ∧ b ≤ 4611686018427387904) :
    SeqC Try.prog 133 [.fp (wC t s o) 0] vR (fun xs => xs = segs t b) (fun pre => pre <+: segs t b) 9 := by
  intro W lb l J Jx hJ hJx hV hY h0
  obtain ⟨lb⟩ := lb
  obtain ⟨B, k, x, y, rfl, c0, c1, c2, v1, v2⟩ := capt (hV [] W h0)
  have hw : ∀ a : Int, 0 ≤ a ∧ a ≤ 4611686018427400000 → IntKind.i64.wrap (a + 256) = a + 256 := fun a h => w64 _ (by omega)
  have hw2 : IntKind.i64.wrap (b + 2048) = b + 2048 := w64 _ (by omega)
  refine callsIn_of_wp Try.func133 rfl trivial ?_ rfl
  simp only [Try.ntmps133, List.size_toArray, List.length_cons, List.length_nil, Nat.reduceAdd, Nat.reduceSub, Array.replicate_succ, Array.replicate_zero, List.push_toArray, List.append_toArray, List.nil_append, List.cons_append]
  have hv : VRs W allT noLay [wV t s o] [.agg #[.int .i64 t, x, y]] := by
    refine ⟨rfl, fun i z hz => ?_⟩
    match i, hz with
    | 0, hz =>
      injection hz with hz; subst hz
      refine .ag _ _ _ (fun j => #[.int .i64 t, x, y].getD j undef) rfl (fun j hj => ?_) (fun j q hq => ?_)
      · match j, hj with
        | 0, _ => rfl
        | 1, _ => rfl
        | 2, _ => rfl
      · match j, hq with
        | 0, hq => injection hq with hq; subst hq; exact .sc _ _
        | 1, hq => injection hq with hq; subst hq; exact v1
        | 2, hq => injection hq with hq; subst hq; exact v2
  have hbc := con_val (base_con t s o hs) (cargs := #[.agg #[.int .i64 t, x, y]]) hv
  rw [hb] at hbc
  gi_wp2_with (refine ⟨trivial, rfl, (callsIn_wide.2 hbc).mono ?_⟩; rintro e w1 ⟨rfl, hu⟩)
  have c1' : w1.cell? ⟨B, k, none⟩ = some (.int .i64 t) := by
    have := hu.block B (cell_lt c0) (fun e => e)
    simp only [World.cell?, this] at c0 ⊢
    exact c0
  gi_loopw [4] (fun p wr => ∃ (pre : List Rg) (a : Int) (n : Nat), p = .int .i64 a ∧ segs t b = pre ++ segG t (min t (b + 2048)) n a ∧ pre.length + n = 9 ∧ b ≤ a ∧ a - b = 256 * pre.length ∧ J pre wr)
    (fun p wr => match p with | .int _ a => (b + 2560 - a).toNat | _ => 0)
  case atStart => exact ⟨[], b, 9, rfl, rfl, rfl, Int.le_refl _, by simp, hJ _ _ _ h0 hu⟩
  case round =>
    obtain ⟨pre, a, n, rfl, hsg, hlen, hba, hae, hJs⟩ := hrel
    obtain ⟨B', k', x', y', e, d0, -⟩ := capt (hV pre wr hJs)
    injection e with e; injection e with e; injection e with e; injection e with e1 e2
    subst e1; subst e2
    have hwa := hw a (by omega)
    by_cases hlt : a < min t (b + 2048)
    · obtain ⟨m, rfl⟩ : ∃ m, n = m + 1 := ⟨n - 1, by omega⟩
      obtain ⟨fn, tmps, assign, body, hy, hR⟩ := hY pre (a, min (a + 256) t) wr hJs (by omega)
      have hsg2 := hsg
      rw [segG_cons _ _ _ _ hlt] at hsg2
      rcases (by omega : (a + 256 ≤ t ∧ t ≤ b + 2048 ∧ min (a + 256) t = a + 256) ∨ (a + 256 ≤ t ∧ b + 2048 < t ∧ min (a + 256) t = a + 256) ∨ (t < a + 256 ∧ t ≤ b + 2048 ∧ min (a + 256) t = t)) with ⟨hm, hn, em⟩ | ⟨hm, hn, em⟩ | ⟨hm, hn, em⟩ <;> rw [em] at hy
      all_goals
        gi_wp2
        refine ⟨rfl, hR.mono ?_⟩
        rintro e W3 (⟨rfl, hJ3⟩ | ⟨rfl, hJx3⟩)
        · gi_wp2
          go_roundw
          case rel => exact ⟨pre ++ [(a, min (a + 256) t)], a + 256, m, rfl, by rw [hsg2]; simp, by simp; omega, by omega, by simp; omega, hJ3⟩
          case measure => simp; omega
        · gi_wp2
          refine bodyPost_ret (results_none rfl _ _ _) rfl ?_
          exact ⟨⟨_, rfl⟩, .inr ⟨pre ++ [(a, min (a + 256) t)], ⟨segG t (min t (b + 2048)) m (a + 256), by rw [hsg2]; simp⟩, hJx3⟩⟩
    · rcases (by omega : (t ≤ b + 2048 ∧ min t (b + 2048) = t) ∨ (b + 2048 < t ∧ min t (b + 2048) = b + 2048)) with ⟨hn, en⟩ | ⟨hn, en⟩
      all_goals
        rw [segG_nil _ _ _ _ hlt, List.append_nil] at hsg
        clear hn
        rw [en] at hlt
        gi_wp2
        all_goals
          go_end0
          exact ⟨⟨_, rfl⟩, .inl hJs⟩
end Go.Proofs.Ytbmdahhhgpbchaa.SwS
