-- The generic part of this repo's walks over an abstract state (wip/sim), laid by mksim.py.
import Derived.Test.YtbmdahhhgpbchaaSimB
import Derived.Laws.Pointers
import Derived.ScopeJumps
import Derived.RangeFuncNested
import Derived.RangeFuncBound
import Derived.RangeFuncCalls
import Derived.OrdersIn
import Derived.TacticsIn
set_option linter.unusedVariables false
set_option linter.unusedSimpArgs false
namespace Go.Sim
open Go.RowKit

section
variable {c : Cx} {L : Lay} {F : Nat → Prop} {st : St} {a : Act} {w : World}
def staP (c : Cx) (L : Lay) (hp : List (Nat × Ob)) (w : World) (B B1 : Blk) (p : Ob) (b i : Nat) : Prop :=
  (sta c L hp b i ∧ b < w.heap.size ∧ b ≠ B.block) ∨ (w.heap.size ≤ b ∧ ¬ (b = B1.block ∧ p.hw ≤ i ∧ i < B1.size))
theorem own_block {id : Nat} {ob : Ob} {B : Blk} (h : Rel c L F st a w) (hid : look st.hp id = some ob) (hw0 : ob.hw = 0) (hB : L id = some (some B)) (hz : B.size ≠ 0) {b i : Nat} {u : Value} (hs : sta c L st.hp b i) (hc : w.cell? ⟨b, i, none⟩ = some u) : b ≠ B.block := by
  rintro rfl
  rcases hs with hs | ⟨_, hs⟩
  · have k := h.hr.kept _ _ hs
    rcases h.hr.mine id B hB hz with m | m
    · exact k.2 m
    · omega
  · refine hs ⟨id, ob, B, hid, hB, rfl, by omega, ?_⟩
    obtain ⟨B2, e1, _, _, e4⟩ := h.hr.live id ob hid
    rw [hB] at e1
    injection e1 with e1
    injection e1 with e1
    subst e1
    obtain ⟨C, T, fr, e5, e6, _⟩ := e4 hz
    simp only [World.cell?, e5] at hc
    by_cases hi : i < B.size
    · exact hi
    · have hnone : C[i]? = none := Array.getElem?_eq_none (by omega)
      simp [hnone] at hc
theorem Rel.shares (h : Rel c L F st a w) {w' : World} {id : Nat} {ob ob' : Ob} (hid : look st.hp id = some ob) (hw0 : ob.hw = 0) {B : Blk} (hB : L id = some (some B)) (hz : B.size ≠ 0) (hu : Upd (fun b => b = B.block) w w')
    (hw0' : ob'.hw = 0) (hBe : B.esz = ob'.esz) (hlen : ob'.cells.length ≤ B.size) {nid : Nat} (hF : F nid) {p : Ob} {B1 : Blk} (hBe1 : B1.esz = p.esz) (hlen1 : p.cells.length ≤ B1.size) (hB1 : B1.size ≠ 0 → w.heap.size ≤ B1.block)
    (real0 : ∃ C T fr, w'.heap[B.block]? = some (.cells C T fr) ∧ C.size = B.size ∧ (fr.1 = fr.2 ∨ B.size ≤ fr.1) ∧ ∀ i x, ob'.cells[i]? = some x → VR w' (staP c L st.hp w B B1 p) noLay x (C.getD i undef))
    (real1 : B1.size ≠ 0 → ∃ C T fr, w'.heap[B1.block]? = some (.cells C T fr) ∧ C.size = B1.size ∧ (fr.1 = fr.2 ∨ B1.size ≤ fr.1) ∧ ∀ i x, p.cells[i]? = some x → VR w' (staP c L st.hp w B B1 p) noLay x (C.getD i undef)) :
    Rel c (lset L nid (some (some B1))) (fun j => F j ∧ j ≠ nid) { st with hp := ins (ins st.hp id ob') nid p } a w' ∧
    ∀ b i, staP c L st.hp w B B1 p b i → sta c (lset L nid (some (some B1))) (ins (ins st.hp id ob') nid p) b i := by
  have hb : ∀ k, k < w.heap.size → k ≠ B.block → w'.heap[k]? = w.heap[k]? := fun k hk hk2 => hu.block k hk hk2
  have hLn := h.fresh nid hF
  have hidn : id ≠ nid := fun e => by rw [e, hLn] at hB; cases hB
  have old : ∀ j Bj, L j = some (some Bj) → Bj.size ≠ 0 → Bj.block < w.heap.size := by
    intro j Bj hj hz
    obtain ⟨p, hp⟩ := h.hr.dead j Bj hj
    obtain ⟨B2, e1, _, _, e4⟩ := h.hr.live j p hp
    rw [hj] at e1
    injection e1 with e1
    injection e1 with e1
    subst e1
    obtain ⟨C', T', fr', e5, _⟩ := e4 hz
    by_cases hh : Bj.block < w.heap.size
    · exact hh
    · rw [Array.getElem?_eq_none (by omega)] at e5; cases e5
  have hBlt := old id B hB hz
  have g1 : ∀ j, j ≠ nid → lset L nid (some (some B1)) j = L j := fun j hj => by simp [lset, hj]
  have g2 : lset L nid (some (some B1)) nid = some (some B1) := by simp [lset]
  have hL : ∀ j y, L j = some y → lset L nid (some (some B1)) j = some y ∨ lset L nid (some (some B1)) j = some none := by
    intro j y hy
    have : j ≠ nid := fun e => by rw [e, hLn] at hy; cases hy
    exact .inl (by rw [g1 j this]; exact hy)
  have lk : ∀ j, look (ins (ins st.hp id ob') nid p) j = if nid = j then some p else if id = j then some ob' else look st.hp j := fun j => by rw [look_ins, look_ins]
  have hN : ∀ b i, staP c L st.hp w B B1 p b i → sta c (lset L nid (some (some B1))) (ins (ins st.hp id ob') nid p) b i := by
    intro b i hs
    rcases hs with ⟨hs, hlt, hne⟩ | ⟨h1, h2⟩
    · rcases hs with hs | ⟨h3, h4⟩
      · exact .inl hs
      · refine .inr ⟨h3, ?_⟩
        rintro ⟨j, q, Bj, e1, e2, e3, e4, e5⟩
        rw [lk] at e1
        by_cases hj : nid = j
        · subst hj
          rw [g2] at e2
          injection e2 with e2
          injection e2 with e2
          subst e2
          have := hB1 (by omega)
          omega
        · rw [if_neg hj] at e1
          rw [g1 j (Ne.symm hj)] at e2
          by_cases hij : id = j
          · subst hij
            rw [hB] at e2
            injection e2 with e2
            injection e2 with e2
            subst e2
            exact hne e3.symm
          · rw [if_neg hij] at e1
            exact h4 ⟨j, q, Bj, e1, e2, e3, e4, e5⟩
    · refine .inr ⟨.inr (Nat.le_trans h.hr.upd.size h1), ?_⟩
      rintro ⟨j, q, Bj, e1, e2, e3, e4, e5⟩
      rw [lk] at e1
      by_cases hj : nid = j
      · subst hj
        rw [g2] at e2
        injection e2 with e2
        injection e2 with e2
        subst e2
        rw [if_pos rfl] at e1
        injection e1 with e1
        subst e1
        exact h2 ⟨e3.symm, e4, e5⟩
      · rw [g1 j (Ne.symm hj)] at e2
        have := old j Bj e2 (by omega)
        omega
  have hS : ∀ b i u, sta c L st.hp b i → w.cell? ⟨b, i, none⟩ = some u → sta c (lset L nid (some (some B1))) (ins (ins st.hp id ob') nid p) b i ∧ w'.cell? ⟨b, i, none⟩ = some u := by
    intro b i u hs hcu
    have hlt := cell_lt hcu
    have hne := own_block h hid hw0 hB hz hs hcu
    refine ⟨hN b i (.inl ⟨hs, hlt, hne⟩), ?_⟩
    simp only [World.cell?, hb b hlt hne]
    exact hcu
  have hM : NcK w w' := hu.maps
  refine ⟨h.change hL hS ?_ ⟨fun j q hq => ?_, fun j Bj hj => ?_, fun j j' Bj Bj' hj hj' hz1 hz' hbb => ?_, fun j Bj hj hz1 => ?_, h.hr.kept, h.hr.upd.trans hu.size hu.os hu.tape hu.output (fun k hk hI => hb k (by have := h.hr.upd.size; omega) (fun e => ?_))⟩, hN⟩
  · rintro j ⟨h1, h2⟩
    rw [g1 j h2]; exact h.fresh j h1
  · rw [lk] at hq
    by_cases hj : nid = j
    · subst hj
      rw [if_pos rfl] at hq
      injection hq with hq
      subst hq
      refine ⟨B1, g2, hBe1, hlen1, fun hz1 => ?_⟩
      obtain ⟨C, T, fr, e5, e6, e7, e8⟩ := real1 hz1
      exact ⟨C, T, fr, e5, e6, e7, fun i x hx => ((e8 i x hx).mono hN).of_no _⟩
    · rw [if_neg hj] at hq
      by_cases hij : id = j
      · subst hij
        rw [if_pos rfl] at hq
        injection hq with hq
        subst hq
        refine ⟨B, by rw [g1 id (Ne.symm hj)]; exact hB, hBe, hlen, fun _ => ?_⟩
        obtain ⟨C, T, fr, e5, e6, e7, e8⟩ := real0
        exact ⟨C, T, fr, e5, e6, e7, fun i x hx => ((e8 i x hx).mono hN).of_no _⟩
      · rw [if_neg hij] at hq
        obtain ⟨Bj, d1, d2, d3, d4⟩ := h.hr.live j q hq
        refine ⟨Bj, by rw [g1 j (Ne.symm hj)]; exact d1, d2, d3, fun hz1 => ?_⟩
        obtain ⟨C, T, fr, d5, d6, d7, d8⟩ := d4 hz1
        have hne : Bj.block ≠ B.block := fun e => hij (h.hr.inj id j B Bj hB d1 hz hz1 e.symm)
        exact ⟨C, T, fr, by rw [hb _ (old j Bj d1 hz1) hne]; exact d5, d6, d7, fun i y hy => (d8 i y hy).move hS hL⟩
  · by_cases hjn : j = nid
    · subst hjn; exact ⟨p, by rw [lk, if_pos rfl]⟩
    · obtain ⟨q, hq⟩ := h.hr.dead j Bj (by rw [← g1 j hjn]; exact hj)
      by_cases hij : id = j
      · exact ⟨ob', by rw [lk, if_neg (Ne.symm hjn), if_pos hij]⟩
      · exact ⟨q, by rw [lk, if_neg (Ne.symm hjn), if_neg hij]; exact hq⟩
  · by_cases hjn : j = nid
    · by_cases hjn' : j' = nid
      · rw [hjn, hjn']
      · rw [hjn, g2] at hj; injection hj with hj; injection hj with hj; subst hj
        rw [g1 j' hjn'] at hj'
        have := old j' Bj' hj' hz'
        have := hB1 hz1
        omega
    · by_cases hjn' : j' = nid
      · rw [hjn', g2] at hj'; injection hj' with hj'; injection hj' with hj'; subst hj'
        rw [g1 j hjn] at hj
        have := old j Bj hj hz1
        have := hB1 hz'
        omega
      · exact h.hr.inj j j' Bj Bj' (by rw [← g1 j hjn]; exact hj) (by rw [← g1 j' hjn']; exact hj') hz1 hz' hbb
  · by_cases hjn : j = nid
    · rw [hjn, g2] at hj; injection hj with hj; injection hj with hj; subst hj
      exact .inr (Nat.le_trans h.hr.upd.size (hB1 hz1))
    · exact h.hr.mine j Bj (by rw [← g1 j hjn]; exact hj) hz1
  · subst e
    rcases h.hr.mine id B hB hz with m | m
    · exact hI m
    · omega
def nl2 : AV → Bool
  | .ag l => l.all isF
  | x => isF x
def nlm : AV → Bool
  | .tu l => l.all nl2
  | x => nl2 x
theorem VR.nl2_any {w : World} {S : Nat → Nat → Prop} {L : Lay} {x : AV} {v : Value} (h : VR w S L x v) (hx : nl2 x = true) (L' : Lay) : VR w S L' x v := by
  cases x with
  | ag l =>
    obtain ⟨vs, g, rfl, h0, h1, h2⟩ := h.ag_eq
    refine .ag _ _ _ g h0 h1 (fun i y hy => (h2 i y hy).isF_any ?_ L')
    exact List.all_eq_true.1 hx y (List.mem_of_getElem? hy)
  | _ => exact h.isF_any hx L'
theorem VR.nlm_any {w : World} {S : Nat → Nat → Prop} {L : Lay} {x : AV} {v : Value} (h : VR w S L x v) (hx : nlm x = true) (L' : Lay) : VR w S L' x v := by
  cases x with
  | tu l =>
    obtain ⟨vs, g, rfl, h0, h1, h2⟩ := h.tu_eq
    refine .tu _ _ _ g h0 h1 (fun i y hy => (h2 i y hy).nl2_any ?_ L')
    exact List.all_eq_true.1 hx y (List.mem_of_getElem? hy)
  | ag l => exact h.nl2_any hx L'
  | _ => exact h.isF_any hx L'
def n01 : AV → Bool
  | .lv id _ _ => id != 0
  | .pt id _ => id != 0
  | .ag _ | .tu _ | .fn _ _ | .bf _ _ => false
  | _ => true
def n02 : AV → Bool
  | .ag l => l.all n01
  | x => n01 x
def n0m : AV → Bool
  | .tu l => l.all n02
  | x => n02 x
def no0 (L : Lay) : Lay := fun j => if j = 0 then none else L j
theorem VR.n01_any {w : World} {S : Nat → Nat → Prop} {L : Lay} {x : AV} {v : Value} (h : VR w S L x v) (hx : n01 x = true) : VR w S (no0 L) x v := by
  cases x with
  | lv id off n =>
    have hn : id ≠ 0 := by simpa [n01] using hx
    have e : no0 L id = L id := by simp [no0, hn]
    cases h with
    | lv L id off len B A cap h h0 h1 h2 => exact .lv _ _ _ _ B _ _ (by rw [e]; exact h) h0 h1 h2
    | lvd L id off len v h => exact .lvd _ _ _ _ _ (by rw [e]; exact h)
  | pt id off =>
    have hn : id ≠ 0 := by simpa [n01] using hx
    have e : no0 L id = L id := by simp [no0, hn]
    cases h with
    | pt L id off B h => exact .pt _ _ _ B (by rw [e]; exact h)
    | ptd L id off v h => exact .ptd _ _ _ _ (by rw [e]; exact h)
  | ag _ => cases hx
  | tu _ => cases hx
  | fn _ _ => cases hx
  | bf _ _ => cases hx
  | sc _ => exact h.isF_any rfl _
  | nl => exact h.isF_any rfl _
  | un => exact h.isF_any rfl _
  | fz _ _ => exact h.isF_any rfl _
  | fp _ _ => exact h.isF_any rfl _
  | mp _ _ => exact h.isF_any rfl _
  | fq _ _ => exact h.isF_any rfl _
theorem VR.n02_any {w : World} {S : Nat → Nat → Prop} {L : Lay} {x : AV} {v : Value} (h : VR w S L x v) (hx : n02 x = true) : VR w S (no0 L) x v := by
  cases x with
  | ag l =>
    obtain ⟨vs, g, rfl, h0, h1, h2⟩ := h.ag_eq
    exact .ag _ _ _ g h0 h1 (fun i y hy => (h2 i y hy).n01_any (List.all_eq_true.1 hx y (List.mem_of_getElem? hy)))
  | _ => exact h.n01_any hx
theorem VR.n0m_any {w : World} {S : Nat → Nat → Prop} {L : Lay} {x : AV} {v : Value} (h : VR w S L x v) (hx : n0m x = true) : VR w S (no0 L) x v := by
  cases x with
  | tu l =>
    obtain ⟨vs, g, rfl, h0, h1, h2⟩ := h.tu_eq
    exact .tu _ _ _ g h0 h1 (fun i y hy => (h2 i y hy).n02_any (List.all_eq_true.1 hx y (List.mem_of_getElem? hy)))
  | ag l => exact h.n02_any hx
  | _ => exact h.n01_any hx
def hpo2 : Option Ob → List (Nat × Ob)
  | none => []
  | some o => [(1, o)]
def okM (ob' : Ob) (h1 : Option Ob) (r : AV) : Prop := ob'.hw = 0 ∧ okI ob'.cells ∧ match h1 with | none => nlm r = true | some p => shm r = true ∧ n0m r = true ∧ okI p.cells
def St.backM (st : St) (nid : Nat) (dst : Option Nat) (ls : List (Nat × Nat)) (id : Nat) (ob' : Ob) (h1 : Option Ob) (r : AV) : St :=
  match h1 with
  | none => St.put { st.lends ls with hp := ins (st.lends ls).hp id ob' } dst r
  | some p => St.put { st.lends ls with hp := ins (ins (st.lends ls).hp id ob') nid p } dst (rnm nid r)
theorem look_lendsM (id : Nat) : ∀ (ls : List (Nat × Nat)) (st : St), (∀ x ∈ ls, x.1 ≠ id) → look (st.lends ls).hp id = look st.hp id
  | [], st, _ => rfl
  | (k, n) :: r, st, h => by
    have hk : k ≠ id := h (k, n) (List.mem_cons_self ..)
    have hr := fun x hx => h x (List.mem_cons_of_mem _ hx)
    simp only [St.lends]
    split
    · rw [look_lendsM id r _ hr, look_ins, if_neg hk]
    · exact look_lendsM id r _ hr
theorem does_callM {nid : Nat} (hF : F nid) {o : Oper} {fo : Operand} {args : Array Operand} {argTypes : Array TypeId} (ho : o.op = .call { callee := .value fo, args, argTypes }) {f : FuncId} {caps : List AV} (hf : st.ev fo = .fn f caps)
    (hcl : callable c.P f = true) {id : Nat} {rest : List AV} (hraw : args.toList.map st.ev ++ caps = .pt id 0 :: rest) {ob : Ob} (hid : look st.hp id = some ob) (hw0 : ob.hw = 0) (hz0 : ob.cells.length ≠ 0) (hI : okI ob.cells)
    {as : List AV} {ls : List (Nat × Nat)} {pr : Prop} (hfr : frzs st rest = some (as, ls, pr)) (hob : pr) (hls : ∀ x ∈ ls, x.1 ≠ id) {ob' : Ob} {h1 : Option Ob} {r : AV} (hcon : Con c.P f [(0, ob)] (.pt 0 0 :: as) ((0, ob') :: hpo2 h1) r)
    (hd : ∀ k, o.dst = some k → k < c.n) (hok : okM ob' h1 r) : Does c F o st (fun j => F j ∧ j ≠ nid) (st.backM nid o.dst ls id ob' h1 r) := by
  intro L a w K Q h hK
  have hfo := h.ev fo
  rw [hf] at hfo
  obtain ⟨vs, g, hfe, h0, h1', h2⟩ := hfo.fn_eq
  have hall : VRs w (sta c L st.hp) L (args.toList.map st.ev ++ caps) (args.map a.eval ++ vs).toList := by
    obtain ⟨e1, e2⟩ := evs h args.toList
    refine ⟨by simp [h0], fun i x hx => ?_⟩
    by_cases hi : i < args.size
    · rw [List.getElem?_append_left (by simpa using hi)] at hx
      have := e2 i x hx
      have e : (args.map a.eval ++ vs).toList.getD i undef = (args.toList.map a.eval).getD i undef := by
        simp [List.getD_eq_getElem?_getD, List.getElem?_append_left, hi]
      rw [e]; exact this
    · rw [List.getElem?_append_right (by simpa using hi)] at hx
      simp only [List.length_map, Array.length_toList] at hx
      have hlt := (List.getElem?_eq_some_iff.1 hx).1
      have := h2 _ x hx
      have e : (args.map a.eval ++ vs).toList.getD i undef = g (i - args.size) := by
        rw [List.getD_eq_getElem?_getD, Array.toList_append, List.getElem?_append_right (by simp; omega)]
        simp [h1' _ hlt]
      rw [e]; exact this
  rw [hraw] at hall
  obtain ⟨v0, vr, hvals⟩ : ∃ v0 vr, (args.map a.eval ++ vs).toList = v0 :: vr := by
    cases hh : (args.map a.eval ++ vs).toList with
    | nil => have := hall.1; rw [hh] at this; simp at this
    | cons x y => exact ⟨x, y, rfl⟩
  rw [hvals] at hall
  have hv0 : VR w (sta c L st.hp) L (.pt id 0) v0 := hall.2 0 _ rfl
  have hrest : VRs w (sta c L st.hp) L rest vr := ⟨by have := hall.1; simpa using this, fun i x hx => hall.2 (i + 1) x (by simpa using hx)⟩
  have hargs := frzs_spec h hrest hfr hob
  obtain ⟨B, hB, hBe, hBl, hBr⟩ := h.hr.live id ob hid
  have hz : B.size ≠ 0 := by omega
  obtain ⟨C0, T0, fr0, c1, c2, c3, c4⟩ := hBr hz
  have hptr := hv0.pt_eq hB
  let S : Nat → Nat → Prop := fun b i => staL c L st.hp ls b i ∧ b < w.heap.size ∧ b ≠ B.block
  let L0 : Lay := fun j => if j = 0 then some (some B) else none
  let cx : Cx := ⟨c.P, w, 0, fun b => b = B.block, S, 0, L0, w.heap.size⟩
  have lk0 : ∀ j q, look [(0, ob)] j = some q → j = 0 ∧ q = ob := by
    intro j q hq
    simp only [look] at hq
    split at hq
    · rename_i e; exact ⟨e.symm, (Option.some.inj hq).symm⟩
    · cases hq
  have L00 : ∀ j B', L0 j = some (some B') → j = 0 ∧ B' = B := by
    intro j B' hj
    simp only [L0] at hj
    split at hj
    · rename_i e; injection hj with hj; injection hj with hj; exact ⟨e, hj.symm⟩
    · cases hj
  have ne_of : ∀ b i u, staL c L st.hp ls b i → w.cell? ⟨b, i, none⟩ = some u → b ≠ B.block := by
    intro b i u hs hu
    rcases hs with hs | ⟨id', k, B', hm, hB', hz', rfl, hik⟩
    · exact own_block h hid hw0 hB hz hs hu
    · intro e
      exact hls _ hm (h.hr.inj id' id B' B hB' hB hz' hz e)
  have hHR : HR cx L0 [(0, ob)] w := by
    refine ⟨fun j q hq => ?_, fun j B' hj => ?_, fun j j' B1 B2 hj hj' _ _ _ => ?_, fun j B' hj _ => ?_, fun b i hs => ⟨hs.2.1, hs.2.2⟩, ⟨rfl, rfl, rfl, Nat.le_refl _, fun _ _ _ => rfl, NcK.refl _⟩⟩
    · obtain ⟨rfl, rfl⟩ := lk0 j q hq
      refine ⟨B, rfl, hBe, hBl, fun _ => ⟨C0, T0, fr0, c1, c2, c3, fun i x hx => ?_⟩⟩
      exact ((c4 i x hx).isF_any (hI x (List.mem_of_getElem? hx)) L0).move (fun b i u hs hu => ⟨.inl ⟨.inl hs, cell_lt hu, own_block h hid hw0 hB hz hs hu⟩, hu⟩) (fun _ _ hy => .inl hy)
    · obtain ⟨rfl, rfl⟩ := L00 j B' hj
      exact ⟨ob, rfl⟩
    · rw [(L00 j B1 hj).1, (L00 j' B2 hj').1]
    · rw [(L00 j B' hj).2]; exact .inl rfl
  have hVRs : VRs w (sta cx L0 [(0, ob)]) L0 (.pt 0 0 :: as) (args.map a.eval ++ vs).toList := by
    rw [hvals]
    refine ⟨by simp [hargs.1], fun i x hx => ?_⟩
    cases i with
    | zero =>
      simp at hx
      subst hx
      rw [hptr]
      exact .pt _ _ _ B rfl
    | succ i =>
      exact ((hargs.2 i x (by simpa using hx)).of_no L0).move (fun b i u hs hu => ⟨.inl ⟨hs, cell_lt hu, ne_of b i u hs hu⟩, hu⟩) (fun _ _ hy => .inl hy)
  have hcall := hcon w (fun b => b = B.block) S L0 (args.map a.eval ++ vs) (fun j hj => by
    simp only [look] at hj
    split at hj
    · cases hj
    · rename_i e; simp only [L0]; rw [if_neg (Ne.symm e)]) hHR hVRs
  unfold Oper.wp
  have hrun : (execOp a.eval o).run c.P w = .ok (.enter f (args.map a.eval ++ vs)) w := by
    obtain ⟨dst, op, ty, pos, aft, gd⟩ := o
    simp only at ho
    subst ho
    simp only [execOp, resolve, hfe, Deferred.ofValue, Sem.run_bind, Sem.run_pure, Result.andThen_ok, invoke, Array.empty_append]
    exact run_callFunc hcl _ _
  rw [hrun]
  refine hcall.mono ?_
  rintro e w' ⟨v, L', rfl, hLe, hnew, hHR', hr⟩
  have hu : Upd (fun b => b = B.block) w w' := hHR'.upd
  show K _ _
  obtain ⟨hR1, k3, k4, k5⟩ := Rel.lends ls h
  have hid1 : look (st.lends ls).hp id = some ob := by rw [look_lendsM id ls st hls]; exact hid
  obtain ⟨hw', hI', hrest'⟩ := hok
  obtain ⟨Bx, q1, q2, q3, q4⟩ := hHR'.live 0 ob' rfl
  have hBx : Bx = B := by
    rcases hLe 0 (some B) rfl with e | e
    · rw [q1] at e; injection e with e; injection e
    · rw [q1] at e; injection e with e; cases e
  subst hBx
  obtain ⟨C1, T1, fr1, d1, d2, d3, d4⟩ := q4 hz
  -- the places of what comes back
  have places : ∀ (B1 : Blk) (p : Ob), (∀ b i, (b = B1.block ∧ p.hw ≤ i ∧ i < B1.size) → own L' ((0, ob') :: hpo2 h1) b i) → ∀ b i u, sta cx L' ((0, ob') :: hpo2 h1) b i → w'.cell? ⟨b, i, none⟩ = some u → staP c L (st.lends ls).hp w Bx B1 p b i := by
    intro B1 p hown b i u hs hu'
    rcases hs with hs | ⟨hs, hno⟩
    · exact .inl ⟨staL_lends h ls hs.1, hs.2.1, hs.2.2⟩
    · rcases hs with hs | hs
      · exfalso
        have hs' : b = Bx.block := hs
        subst hs'
        refine hno ⟨0, ob', Bx, rfl, q1, rfl, by omega, ?_⟩
        simp only [World.cell?, d1] at hu'
        by_cases hi : i < Bx.size
        · exact hi
        · have hnone : C1[i]? = none := Array.getElem?_eq_none (by omega)
          simp [hnone] at hu'
      · exact .inr ⟨hs, fun e => hno (hown b i e)⟩
  have hLn := h.fresh nid hF
  cases h1 with
  | none =>
    let B1 : Blk := ⟨w.heap.size, 0, 1⟩
    let p : Ob := ⟨[], 1, 0⟩
    have hpl := places B1 p (fun b i e => absurd e.2.2 (Nat.not_lt_zero _))
    obtain ⟨hR2, hN⟩ := hR1.shares hid1 hw0 hB hz hu hw' q2 q3 hF (p := p) (B1 := B1) rfl (Nat.le_refl _) (fun e => absurd rfl e)
      ⟨C1, T1, fr1, d1, d2, d3, fun i x hx => ((d4 i x hx).isF_any (hI' x (List.mem_of_getElem? hx)) noLay).move (fun b i u hs hu' => ⟨hpl b i u hs hu', hu'⟩) (fun _ _ hy => .inl hy)⟩ (fun e => absurd rfl e)
    have hv2 : VR w' (sta c (lset L nid (some (some B1))) (ins (ins (st.lends ls).hp id ob') nid p)) (lset L nid (some (some B1))) r v :=
      (hr.nlm_any hrest' (lset L nid (some (some B1)))).move (fun b i u hs hu' => ⟨hN b i (hpl b i u hs hu'), hu'⟩) (fun _ _ hy => .inl hy)
    have hR3 := hR2.put (d := o.dst) hd hv2
    have hR4 := hR3.gone nid (by rw [put_hp, look_ins, if_pos rfl]; rfl)
    refine hK (lset (lset L nid (some (some B1))) nid (some none)) _ _ ?_
    have hnone : look (st.lends ls).hp nid = none := by
      cases hq : look (st.lends ls).hp nid with
      | none => rfl
      | some q => obtain ⟨Bq, e1, _⟩ := hR1.hr.live nid q hq; rw [hLn] at e1; cases e1
    have hsame : ∀ q, look (del (ins (ins (st.lends ls).hp id ob') nid p) nid) q = look (ins (st.lends ls).hp id ob') q := by
      intro q
      rw [look_del, look_ins]
      by_cases e : nid = q
      · subst e
        rw [if_pos rfl, look_ins]
        have : id ≠ nid := fun e => by rw [e, hLn] at hB; cases hB
        rw [if_neg this, hnone]
      · rw [if_neg e, if_neg e]
    have hR5 : Rel c (lset (lset L nid (some (some B1))) nid (some none)) (fun j => F j ∧ j ≠ nid) { (St.put { st.lends ls with hp := ins (ins (st.lends ls).hp id ob') nid p } o.dst r) with hp := del (ins (ins (st.lends ls).hp id ob') nid p) nid } (a.put o.dst v) w' := by
      have := hR4
      rw [put_hp] at this
      exact this
    have hR6 := Rel.same hsame hR5
    have e : St.backM st nid o.dst ls id ob' none r = { (St.put { st.lends ls with hp := ins (ins (st.lends ls).hp id ob') nid p } o.dst r) with hp := ins (st.lends ls).hp id ob' } := by
      simp only [St.backM]
      cases o.dst <;> rfl
    rw [e]
    exact hR6
  | some p =>
    obtain ⟨hshm, hn0, hFs⟩ := hrest'
    obtain ⟨B1, p1, p2, p3, p4⟩ := hHR'.live 1 p rfl
    have hne1 : B1.size ≠ 0 → w.heap.size ≤ B1.block := by
      intro hz1
      rcases hHR'.mine 1 B1 p1 hz1 with m | m
      · have := hHR'.inj 1 0 B1 Bx p1 q1 hz1 hz m
        cases this
      · exact m
    have hpl := places B1 p (fun b i e => ⟨1, p, B1, rfl, p1, e.1.symm, e.2.1, e.2.2⟩)
    obtain ⟨hR2, hN⟩ := hR1.shares hid1 hw0 hB hz hu hw' q2 q3 hF (p := p) (B1 := B1) p2 p3 hne1
      ⟨C1, T1, fr1, d1, d2, d3, fun i x hx => ((d4 i x hx).isF_any (hI' x (List.mem_of_getElem? hx)) noLay).move (fun b i u hs hu' => ⟨hpl b i u hs hu', hu'⟩) (fun _ _ hy => .inl hy)⟩
      (fun hz1 => by
        obtain ⟨C2, T2, fr2, e1, e2, e3, e4⟩ := p4 hz1
        exact ⟨C2, T2, fr2, e1, e2, e3, fun i x hx => ((e4 i x hx).isF_any (hFs x (List.mem_of_getElem? hx)) noLay).move (fun b i u hs hu' => ⟨hpl b i u hs hu', hu'⟩) (fun _ _ hy => .inl hy)⟩)
    refine hK (lset L nid (some (some B1))) _ _ ?_
    simp only [St.backM]
    have hv3 : VR w' (sta c (lset L nid (some (some B1))) (ins (ins (st.lends ls).hp id ob') nid p)) (no0 L') r v :=
      (hr.n0m_any hn0).move (fun b i u hs hu' => ⟨hN b i (hpl b i u hs hu'), hu'⟩) (fun _ _ hy => .inl hy)
    refine hR2.put hd (hv3.rnm hshm (fun j y hy => ?_))
    have hj : j = 1 := by
      by_cases e0 : j = 0
      · subst e0; simp [no0] at hy
      · by_cases e1 : j = 1
        · exact e1
        · simp only [no0, e0, if_false] at hy
          rw [hnew j (by simp only [look]; rw [if_neg (Ne.symm e0)]) (by simp only [hpo2, look]; rw [if_neg (Ne.symm e0), if_neg (Ne.symm e1)])] at hy
          cases hy
    subst hj
    simp only [no0] at hy
    rw [if_neg (by decide), p1] at hy
    injection hy with hy
    subst hy
    simp [lset]
end
end Go.Sim

namespace Go.Sim
open Go.RowKit
set_option linter.unusedVariables false
set_option linter.unusedSimpArgs false
set_option linter.unusedSectionVars false

inductive AO where
  | t (n : Nat)
  | k (v : AV)
def coO : Operand → AO
  | .tmp t => .t t
  | .const v => .k (ofVal v)
  | .global _ => .k .un
  | .func f => .k (.fn f [])
def St.e (st : St) : AO → AV
  | .t n => st.get n
  | .k v => v
theorem e_co (st : St) (o : Operand) : st.e (coO o) = st.ev o := by cases o <;> rfl
theorem e_cos (st : St) (l : List Operand) : (l.map coO).map st.e = l.map st.ev := by
  rw [List.map_map]; exact List.map_congr_left (fun o _ => e_co st o)

inductive AP where
  | mv (x : AO)
  | pick (c a b : AO)
  | bin (op : BinOp) (bb : Bool) (x y : AO)
  | aeq (neg : Bool) (sz : Nat) (l : List LK) (x y : AO)
  | nil (eq : Bool) (x y : AO)
  | un (op : UnOp) (x : AO)
  | cvi (k : IntKind) (x : AO)
  | cvs (x : AO)
  | cvb (x : AO)
  | cvm (x : AO)
  | ld (ag : Bool) (sz : Nat) (x : AO)
  | fa (o : Nat) (x : AO)
  | fld (ag : Bool) (sz o : Nat) (x : AO)
  | ixaA (n sz : Nat) (x i : AO)
  | ixaS (sz : Nat) (x i : AO)
  | ixA (n : Nat) (ag : Bool) (sz : Nat) (x i : AO)
  | ixS (x i : AO)
  | ext (x : AO) (k : Nat)
  | bld (z : List AV) (ps : List (Nat × Nat × AO))
  | mkf (f : Nat) (cs : List AO)
  | nck (x : AO)
  | slS (lo hi : Option AO) (x : AO)
  | slL (sz : Nat) (lo hi mx : Option AO) (x : AO)
  | slA (n sz : Nat) (lo hi : Option AO) (x : AO)
  | lenS (x : AO)
  | lenL (x : AO)
  | lenA (n : Nat) (x : AO)
  | mx (xs : List AO)
  | mn (xs : List AO)
  | alc (z : List AV)
  | box (x : AO)
  | bsl (n sz : Nat) (z : List AV) (ps : List (Nat × Nat × AO))
  | mks (z : AV) (l k : AO)
  | apz (z : AV) (byt : Nat) (s x : AO)
  | sto (sz : Nat) (x y : AO)
  | app (sz byt : Nat) (s x : AO)
  | cal (f : AO) (as : List AO)
  | calM (f : AO) (as : List AO)
  | calG (ps : List Nat) (f : AO) (as : List AO)
  | appR (sz byt : Nat) (s x : AO)
  | pnil (eq : Bool) (x : AO)
  | mkb (f : FuncId) (x : AO)
  | s2p (n : Nat) (x : AO)
  | mlk (ok : Bool) (x i : AO)

def coParts (pl : List (Nat × Nat)) : List (Nat × Operand) → Option (List (Nat × Nat × AO))
  | [] => some []
  | (i, o) :: r => match pl[i]?, coParts pl r with
    | some (off, size), some l => some ((off, size, coO o) :: l)
    | _, _ => none
def coNil (op : BinOp) (x y : AO) : Option AP := match op with | .eql => some (.nil true x y) | .neq => some (.nil false x y) | _ => none
def coAeq (P : Program) (t : TypeId) (op : BinOp) (x y : AO) : Option AP :=
  if P.eqGuardType P.depth t = false then
    match lks P 6 t with
    | some l => (match op with | .eql => some (.aeq false (siz P t) l x y) | .neq => some (.aeq true (siz P t) l x y) | _ => none)
    | none => none
  else none
def coPtr (op : BinOp) (x : AO) : Operand → Option AP
  | .const (.pointer none) => (match op with | .eql => some (.pnil true x) | .neq => some (.pnil false x) | _ => none)
  | _ => none
def coP (P : Program) : Op → Option AP
  | .move x | .assign x => some (.mv (coO x))
  | .pick c a b => some (.pick (coO c) (coO a) (coO b))
  | .binOp op t x y _ =>
    if (elm P t).isSome then coNil op (coO x) (coO y)
    else if ags P t then coAeq P t op (coO x) (coO y)
    else if isPtr P t then coPtr op (coO x) y
    else some (.bin op (isBool P t) (coO x) (coO y))
  | .unOp op _ x => some (.un op (coO x))
  | .convert s d x => match ikd P d with
    | some k => if (P.underlying s).isSome then some (.cvi k (coO x)) else none
    | none => match elm P s with
      | some e => if ikd P e = some .u8 then (if isStr P d then some (.cvb (coO x)) else if s = d then some (.cvm (coO x)) else none) else none
      | none => if isStr P d && (P.underlying s).isSome then some (.cvs (coO x)) else none
  | .load t x => if good P t then some (.ld (ags P t) (siz P t) (coO x)) else none
  | .fieldAddr t x k => match fld P t k with | some (fo, ft) => if siz P ft ≠ 0 then some (.fa fo (coO x)) else none | none => none
  | .field t x k => match fld P t k with | some (fo, ft) => if good P ft then some (.fld (ags P ft) (siz P ft) fo (coO x)) else none | none => none
  | .indexAddr t x i => match arr P t, elm P t with
    | some (n, e), _ => if siz P e ≠ 0 then some (.ixaA n (siz P e) (coO x) (coO i)) else none
    | none, some e => if siz P e ≠ 0 then some (.ixaS (siz P e) (coO x) (coO i)) else none
    | none, none => none
  | .index t x i => match arr P t with
    | some (n, e) => if good P e then some (.ixA n (ags P e) (siz P e) (coO x) (coO i)) else none
    | none => if isStr P t then some (.ixS (coO x) (coO i)) else none
  | .extract x k => some (.ext (coO x) k)
  | .build t ps => match plc P t, zrc P t with
    | some pl, some z => (match coParts pl ps.toList with | some l => some (.bld z l) | none => none)
    | _, _ => none
  | .makeFunc (.func f) first captured => if first.isEmpty then some (.mkf f (captured.toList.map coO)) else (match first.toList, captured.toList with | [x], [] => some (.mkb f (coO x)) | _, _ => none)
  | .sliceToArrayPointer t x => match arr P t with | some (n, _) => if n ≠ 0 then some (.s2p n (coO x)) else none | none => none
  | .lookup t x i ok => match mpT P t with | some (kt, et) => if mz P et = true ∧ ikd P kt = some .i64 then some (.mlk ok (coO x) (coO i)) else none | none => none
  | .nilCheck x => some (.nck (coO x))
  | .slice t x lo hi mx =>
    if isStr P t then (if mx.isNone then some (.slS (lo.map coO) (hi.map coO) (coO x)) else none)
    else match elm P t with
      | some e => if siz P e ≠ 0 ∧ (mx.isNone || hi.isSome) then some (.slL (siz P e) (lo.map coO) (hi.map coO) (mx.map coO) (coO x)) else none
      | none => match arr P t with
        | some (n, e) => if siz P e ≠ 0 ∧ mx.isNone then some (.slA n (siz P e) (lo.map coO) (hi.map coO) (coO x)) else none
        | none => none
  | .call { callee := .builtin .len, args, argTypes } =>
    match args.toList, argTypes.toList with
    | [x], [t] => if isStr P t then some (.lenS (coO x)) else if (elm P t).isSome then some (.lenL (coO x)) else (match arr P t with | some (n, _) => some (.lenA n (coO x)) | none => none)
    | _, _ => none
  | .call { callee := .builtin .max, args, .. } => some (.mx (args.toList.map coO))
  | .call { callee := .builtin .min, args, .. } => some (.mn (args.toList.map coO))
  | .alloc t => match zrc P t with | some z => some (.alc z) | none => none
  | .box _ x => some (.box (coO x))
  | .buildSlice t n ps => match elm P t with
    | some e => (match zrc P e with
      | some z => if siz P e ≠ 0 ∧ z.length = siz P e ∧ n * siz P e ≤ 16777216 then
          (match coParts ((List.range n).map fun k => (k * siz P e, siz P e)) ps.toList with | some l => some (.bsl n (siz P e) (List.replicate n z).flatten l) | none => none) else none
      | none => none)
    | none => none
  | .makeSlice t l k => match elm P t with
    | some e => (match zrc P e with
      | some [z] => if siz P e = 1 ∧ byt P e ≤ 16777216 then some (.mks z (coO l) (coO k)) else none
      | _ => none)
    | none => none
  | .store t x y => if siz P t ≠ 0 then some (.sto (siz P t) (coO x) (coO y)) else none
  | .call { callee := .builtin .append, args, argTypes } =>
    match args.toList, argTypes.toList with
    | [s, x], [t, t2] => (match elm P t with
      | some e => (match zrc P e with
        | some z => if siz P e ≠ 0 ∧ z.length = siz P e ∧ ((elm P t2).isSome ∨ isStr P t2 = true) then some (.app (siz P e) (byt P e) (coO s) (coO x)) else
          (match z with
          | [z0] => if okf z0 = true ∧ siz P e = 1 ∧ isIntT P t2 = true then some (.apz z0 (byt P e) (coO s) (coO x)) else none
          | _ => none)
        | none => none)
      | none => none)
    | _, _ => none
  | .call { callee := .value fo, args, .. } => some (.cal (coO fo) (args.toList.map coO))
  | _ => none

def rdx (ag : Bool) (sz : Nat) (cells : List AV) (off : Nat) : AV :=
  if ag = true then (if sz ≤ 8 then .ag (rdn cells off sz) else .ag ((cells.drop off).take sz)) else cells.getD off .un
theorem rdn_take : ∀ (n : Nat) (cells : List AV) (off : Nat), off + n ≤ cells.length → rdn cells off n = (cells.drop off).take n
  | 0, cells, off, h => by simp [rdn]
  | n + 1, cells, off, h => by
    rw [rdn, rdn_take n cells (off + 1) (by omega), List.drop_eq_getElem_cons (show off < cells.length by omega), List.take_succ_cons, List.getD_eq_getElem?_getD, List.getElem?_eq_getElem (by omega)]
    rfl
theorem rdx_eq {P : Program} {t : TypeId} {cells : List AV} {off : Nat} (h : off + siz P t ≤ cells.length) : rdx (ags P t) (siz P t) cells off = rdc P cells off t := by
  unfold rdx rdc
  split
  · split
    · rfl
    · rw [rdn_take _ _ _ h]
  · rfl
def bldA (st : St) : List (Nat × Nat × AO) → List AV → Prop → Option (List AV × Prop)
  | [], cells, ob => some (cells, ob)
  | (off, size, x) :: r, cells, ob => match cel st (st.e x) with
    | some cs => bldA st r (spl cells off cs) (ob ∧ cs.length = size ∧ off + size ≤ cells.length)
    | none => none
def abdA (st : St) (d : Nat) : Option AO → Option Int
  | none => some d
  | some x => aint (st.e x)
theorem abdA_eq (st : St) (d : Nat) (x : Option Operand) : abdA st d (x.map coO) = abd st d x := by
  cases x with
  | none => rfl
  | some x => simp [abdA, abd, e_co]
noncomputable def effA (nid : Nat) (st : St) : AP → Option (AV × List (Nat × Option Ob) × Prop)
  | .mv x => some (st.e x, [], True)
  | .pick c a b => match st.e c with | .sc (.bool t) => some (if t = true then st.e a else st.e b, [], True) | _ => none
  | .bin op bb x y => match st.e x, st.e y with
    | .sc (.int k a), .sc (.int k' b) => (match op with
      | .shl => some (.sc (.int k (k.wrap (a * 2 ^ min b.toNat k.bits))), [], 0 ≤ b)
      | .shr => some (.sc (.int k (a.fdiv (2 ^ min b.toNat k.bits))), [], 0 ≤ b)
      | .add => some (.sc (.int k (k.wrap (a + b))), [], k = k')
      | .sub => some (.sc (.int k (k.wrap (a - b))), [], k = k')
      | .mul => some (.sc (.int k (k.wrap (a * b))), [], k = k')
      | .quo => some (.sc (.int k (k.wrap (a.tdiv b))), [], k = k' ∧ b ≠ 0)
      | .rem => some (.sc (.int k (a.tmod b)), [], k = k' ∧ b ≠ 0)
      | .and => some (.sc (.int k (bits .and k a b)), [], k = k')
      | .or => some (.sc (.int k (bits .or k a b)), [], k = k')
      | .xor => some (.sc (.int k (bits .xor k a b)), [], k = k')
      | .andNot => some (.sc (.int k (bits .andNot k a b)), [], k = k')
      | .eql => some (.sc (.bool (decide (a = b))), [], k = k')
      | .neq => some (.sc (.bool (!decide (a = b))), [], k = k')
      | .lss => some (.sc (.bool (decide (a < b))), [], k = k')
      | .leq => some (.sc (.bool (decide (a ≤ b))), [], k = k')
      | .gtr => some (.sc (.bool (decide (b < a))), [], k = k')
      | .geq => some (.sc (.bool (decide (b ≤ a))), [], k = k'))
    | .sc (.bool a), .sc (.bool b) => (match op with
      | .eql => some (.sc (.bool (a == b)), [], bb = true)
      | .neq => some (.sc (.bool (!(a == b))), [], bb = true)
      | _ => none)
    | .sc (.string a), .sc (.string b) => (match op with
      | .add => some (.sc (.string (a ++ b)), [], (a.size + b.size : Nat) ≤ (9223372036854775807 : Int))
      | .eql => some (.sc (.bool (a.toList == b.toList)), [], True)
      | .neq => some (.sc (.bool (!(a.toList == b.toList))), [], True)
      | _ => none)
    | _, _ => none
  | .aeq neg sz l x y => match st.e x, st.e y with
    | .ag xs, .ag ys => some (.sc (.bool (if neg = true then !(@decide (xs = ys) (Classical.propDecidable _)) else @decide (xs = ys) (Classical.propDecidable _))), [], xs.length = sz ∧ ys.length = sz ∧ sks l xs ys)
    | _, _ => none
  | .un op x => match st.e x with
    | .sc (.int k n) => (match op with | .neg => some (.sc (.int k (k.wrap (0 - n))), [], True) | .xor => some (.sc (.int k (bits .xor k (if k.signed then -1 else k.max) n)), [], True) | _ => none)
    | .sc (.bool b) => (match op with | .not => some (.sc (.bool !b), [], True) | _ => none)
    | _ => none
  | .cvi k x => match st.e x with | .sc (.int _ n) => some (.sc (.int k (k.wrap n)), [], True) | _ => none
  | .cvs x => match st.e x with | .sc (.string b) => some (.sc (.string b), [], True) | _ => none
  | .cvb x => match st.e x with
    | .fz n cells => some (.sc (.string ⟨(cells.filterMap aby).toArray⟩), [], cells.length = n ∧ ∀ x ∈ cells, (aby x).isSome = true)
    | .nl => some (.sc (.string ⟨#[]⟩), [], True)
    | _ => none
  | .cvm x => match st.e x with
    | .lv id off n => (match look st.hp id with
      | some o => some (.lv id off n, [], n ≠ 0 ∧ 0 < o.esz)
      | none => none)
    | _ => none
  | .ld ag sz x => match st.e x with
    | .pt id off => (match look st.hp id with | some o => some (rdx ag sz o.cells off, [], off + sz ≤ o.cells.length) | none => none)
    | .fp cells off => some (rdx ag sz cells off, [], off + sz ≤ cells.length)
    | _ => none
  | .fa fo x => match st.e x with
    | .pt id off => (match look st.hp id with | some _ => some (.pt id (off + fo), [], True) | none => none)
    | .fp cells off => some (.fp cells (off + fo), [], True)
    | _ => none
  | .fld ag sz fo x => match st.e x with
    | .ag cs => some (rdx ag sz cs fo, [], fo + sz ≤ cs.length)
    | _ => none
  | .ixaA n sz x i => match st.e x, aint (st.e i) with
    | .pt id off, some k => (match look st.hp id with | some _ => some (.pt id (off + k.toNat * sz), [], 0 ≤ k ∧ k < n) | none => none)
    | .fp cells off, some k => some (.fp cells (off + k.toNat * sz), [], 0 ≤ k ∧ k < n)
    | _, _ => none
  | .ixaS sz x i => match st.e x, aint (st.e i) with
    | .lv id off n, some k => (match look st.hp id with | some _ => some (.pt id (off + k.toNat * sz), [], 0 ≤ k ∧ k < n) | none => none)
    | .fz n cells, some k => some (.fp cells (k.toNat * sz), [], 0 ≤ k ∧ k < n ∧ k.toNat * sz + sz ≤ cells.length)
    | _, _ => none
  | .ixA n ag sz x i => match st.e x, aint (st.e i) with
    | .ag cs, some k => some (rdx ag sz cs (k.toNat * sz), [], 0 ≤ k ∧ k < n ∧ k.toNat * sz + sz ≤ cs.length)
    | _, _ => none
  | .ixS x i => match st.e x, aint (st.e i) with
    | .sc (.string s), some k => some (.sc (.int .u8 (s.data.getD k.toNat 0).toNat), [], 0 ≤ k ∧ k < s.size)
    | _, _ => none
  | .ext x k => match st.e x with | .tu vs => some (vs.getD k .un, [], k < vs.length) | _ => none
  | .bld z ps => match bldA st ps z True with | some (cs, ob) => some (.ag cs, [], ob) | none => none
  | .mkf f cs => some (.fn f (cs.map st.e), [], True)
  | .mkb f x => some (.bf f (st.e x), [], True)
  | .s2p n x => match st.e x with
    | .fz m cells => some (.fp cells 0, [], n ≤ m)
    | .lv id off m => (match look st.hp id with | some _ => some (.pt id off, [], n ≤ m) | none => none)
    | _ => none
  | .mlk ok x i => match st.e x, st.e i with
    | .mp ks vs, .sc (.int .i64 n) => some (mres ok (mget ks vs n), [], True)
    | _, _ => none
  | .nck x => match st.e x with
    | .pt id off => (match look st.hp id with | some _ => some (.pt id off, [], True) | none => none)
    | .fp c o => some (.fp c o, [], True)
    | _ => none
  | .slS lo hi x => match st.e x with
    | .sc (.string s) => (match abdA st 0 lo, abdA st s.size hi with
      | some l, some h => some (.sc (.string (s.extract l.toNat h.toNat)), [], 0 ≤ l ∧ l ≤ h ∧ h ≤ s.size)
      | _, _ => none)
    | _ => none
  | .slL sz lo hi mx x => match st.e x with
    | .fz n cells => (match mx with
      | none => (match abdA st 0 lo, abdA st n hi with
        | some l, some h => some (.fz (h.toNat - l.toNat) ((cells.drop (l.toNat * sz)).take ((h.toNat - l.toNat) * sz)), [], 0 ≤ l ∧ l ≤ h ∧ h ≤ n)
        | _, _ => none)
      | some mx => (match abdA st 0 lo, abdA st n hi, aint (st.e mx) with
        | some l, some h, some m => if l = h then some (.lv nid 0 0, [(nid, some ⟨[], sz, 0⟩)], 0 ≤ l ∧ l = h ∧ h = m ∧ m ≤ n) else some (.fq h.toNat (cells.take (h.toNat * sz)), [], l = 0 ∧ 0 ≤ h ∧ h = m ∧ m ≤ n)
        | _, _, _ => none))
    | .lv id off n => (match look st.hp id with
      | some o => (match abdA st 0 lo, abdA st n hi, abdA st n mx with
        | some l, some h, some m => some (.lv id (off + l.toNat * sz) (h.toNat - l.toNat), [], o.esz = sz ∧ 0 ≤ l ∧ l ≤ h ∧ h ≤ m ∧ m ≤ n)
        | _, _, _ => none)
      | none => none)
    | .nl => (match abdA st 0 lo, abdA st 0 hi, abdA st 0 mx with
        | some l, some h, some m => some (.nl, [], l = 0 ∧ h = 0 ∧ m = 0)
        | _, _, _ => none)
    | _ => none
  | .slA n sz lo hi x => match st.e x with
    | .pt id off => (match look st.hp id with
      | some o => (match abdA st 0 lo, abdA st n hi with
        | some l, some h => some (.lv id (off + l.toNat * sz) (h.toNat - l.toNat), [], o.esz = sz ∧ 0 ≤ l ∧ l ≤ h ∧ h ≤ n ∧ off + n * sz ≤ o.cells.length)
        | _, _ => none)
      | none => none)
    | _ => none
  | .lenS x => match st.e x with | .sc (.string s) => some (.sc (.int .i64 s.size), [], True) | _ => none
  | .lenL x => match st.e x with
    | .fz n _ => some (.sc (.int .i64 n), [], True)
    | .nl => some (.sc (.int .i64 0), [], True)
    | .lv id off n => (match look st.hp id with | some _ => some (.sc (.int .i64 n), [], True) | none => none)
    | _ => none
  | .lenA n x => match st.e x with | .ag _ | .pt _ _ | .fp _ _ => some (.sc (.int .i64 n), [], True) | _ => none
  | .mx xs => match amx (xs.map st.e) with | some (k, n) => some (.sc (.int k n), [], True) | none => none
  | .mn xs => match amn (xs.map st.e) with | some (k, n) => some (.sc (.int k n), [], True) | none => none
  | .alc z => some (.pt nid 0, [(nid, some ⟨z, 1, 0⟩)], True)
  | .box x => match cel st (st.e x) with | some cs => some (.pt nid 0, [(nid, some ⟨cs, 1, 0⟩)], True) | none => none
  | .bsl n sz z ps => match bldA st ps z True with | some (cs, ob) => some (.lv nid 0 n, [(nid, some ⟨cs, sz, 0⟩)], ob) | none => none
  | .mks z l k => match aint (st.e l), aint (st.e k) with
    | some n, some m => some (.lv nid 0 n.toNat, [(nid, some ⟨List.replicate n.toNat z, 1, 0⟩)], 0 ≤ n ∧ n ≤ m ∧ m ≤ 16777216)
    | _, _ => none
  | .sto sz x y => match st.e x, cel st (st.e y) with
    | .pt id off, some cs => (match look st.hp id with
      | some o => some (.un, [(id, some ⟨spl o.cells off cs, o.esz, o.hw⟩)], cs.length = sz ∧ o.hw ≤ off ∧ off + cs.length ≤ o.cells.length ∧ okCells st cs)
      | none => none)
    | _, _ => none
  | .apz z byt s x => match aint (st.e x) with
    | none => none
    | some n => match st.e s with
      | .nl => some (.lv nid 0 n.toNat, [(nid, some ⟨List.replicate n.toNat z, 1, 0⟩)], 0 ≤ n ∧ n.toNat * byt ≤ 140737488355328 ∧ n.toNat ≤ 4611686018427387904)
      | .lv id off k => (match look st.hp id with
        | none => none
        | some o => some (.lv nid 0 (k + n.toNat), [(id, none), (nid, some ⟨o.cells ++ List.replicate n.toNat z, 1, o.hw⟩)],
            0 ≤ n ∧ (k + n.toNat) * byt ≤ 140737488355328 ∧ k + n.toNat ≤ 4611686018427387904 ∧ off = 0 ∧ o.esz = 1 ∧ o.cells.length = k * 1 ∧ o.hw ≤ o.cells.length))
      | _ => none
  | .app sz byt s x => match src st sz (st.e x) with
    | none => none
    | some (m, cs, ob) => match st.e s with
      | .nl => some (.lv nid 0 m, [(nid, some ⟨cs, sz, 0⟩)], ob ∧ okF cs ∧ m * byt ≤ 140737488355328 ∧ m ≤ 4611686018427387904)
      | .lv id off n => (match look st.hp id with
        | none => none
        | some o => some (.lv nid 0 (n + m), [(id, none), (nid, some ⟨o.cells ++ cs, sz, o.hw⟩)],
            ob ∧ okF cs ∧ (n + m) * byt ≤ 140737488355328 ∧ n + m ≤ 4611686018427387904 ∧ off = 0 ∧ o.esz = sz ∧ o.cells.length = n * sz ∧ o.hw ≤ o.cells.length))
      | .fq n cs0 => some (.lv nid 0 (n + m), [(nid, some ⟨cs0 ++ cs, sz, 0⟩)], ob ∧ okF cs ∧ (n + m) * byt ≤ 140737488355328 ∧ n + m ≤ 4611686018427387904 ∧ m ≠ 0 ∧ cs0.length = n * sz)
      | _ => none
  | .pnil e x => match st.e x with
    | .pt id _ => if (look st.hp id).isSome = true then some (.sc (.bool !e), [], True) else none
    | .fp _ _ => some (.sc (.bool !e), [], True)
    | _ => none
  | .nil _ _ _ | .cal _ _ | .calM _ _ | .calG _ _ _ | .appR _ _ _ _ => none

theorem bldA_spec (st : St) (pl : List (Nat × Nat)) : ∀ (ps : List (Nat × Operand)) (l : List (Nat × Nat × AO)) (z : List AV) (ob : Prop) (cs : List AV) (ob' : Prop), coParts pl ps = some l → bldA st l z ob = some (cs, ob') → ob' →
    ob ∧ ∃ r, cels st ps = some r ∧ afl pl z r = some cs := by
  intro ps
  induction ps with
  | nil =>
    intro l z ob cs ob' h1 h2 h3
    simp only [coParts, Option.some.injEq] at h1
    subst h1
    simp only [bldA, Option.some.injEq, Prod.mk.injEq] at h2
    obtain ⟨rfl, rfl⟩ := h2
    exact ⟨h3, [], rfl, rfl⟩
  | cons p ps ih =>
    obtain ⟨i, o⟩ := p
    intro l z ob cs ob' h1 h2 h3
    simp only [coParts] at h1
    split at h1
    · rename_i off size l' hpl hl'
      simp only [Option.some.injEq] at h1
      subst h1
      simp only [bldA, e_co] at h2
      split at h2
      · rename_i c hc
        obtain ⟨⟨h4, h5, h6⟩, r, h7, h8⟩ := ih _ _ _ _ _ hl' h2 h3
        refine ⟨h4, (i, c) :: r, ?_, ?_⟩
        · simp only [cels, hc, h7]
        · simp only [afl, hpl]
          rw [if_pos ⟨h5, h6⟩]
          exact h8
      · cases h2
    · cases h1
section
variable {P : Program} {nid : Nat} {st : St}
theorem eff_avl {op : Op} {r : AV} {ob : Prop} (h : avl P st op = some (r, ob)) : eff P nid st op = some (r, [], ob) := by
  unfold eff; rw [h]
theorem eff_aef {op : Op} {x : AV × List (Nat × Option Ob) × Prop} (h : avl P st op = none) (h2 : aef P nid st op = some x) : eff P nid st op = some x := by
  unfold eff; rw [h]; exact h2
theorem abd_of {d : Nat} {x : Option Operand} {n : Int} (h : abdA st d (x.map coO) = some n) : abd st d x = some n := by rw [← abdA_eq]; exact h

def Okk (P : Program) (nid : Nat) (st : St) (op : Op) (x : AV × List (Nat × Option Ob) × Prop) : Prop := ∃ ob, eff P nid st op = some (x.1, x.2.1, ob) ∧ ob
theorem Okk.val {op : Op} {r : AV} {p q : Prop} (h : avl P st op = some (r, p)) (hp : p) : Okk P nid st op (r, [], q) := ⟨p, eff_avl h, hp⟩

theorem Okk.aef {op : Op} {r : AV} {up : List (Nat × Option Ob)} {p q : Prop} (h : avl P st op = none) (h2 : aef P nid st op = some (r, up, p)) (hp : p) : Okk P nid st op (r, up, q) := ⟨p, eff_aef h h2, hp⟩
theorem effA_bin {op : BinOp} {t ty : TypeId} {x y : Operand} {r : AV} {up : List (Nat × Option Ob)} {ob : Prop} (he : effA nid st (.bin op (isBool P t) (coO x) (coO y)) = some (r, up, ob)) (hob : ob) :
    Okk P nid st (.binOp op t x y ty) (r, up, ob) := by
  simp only [effA, e_co] at he
  split at he
  · rename_i k a k' b hx hy
    cases op <;> (simp only [Option.some.injEq, Prod.mk.injEq] at he; obtain ⟨rfl, rfl, rfl⟩ := he; refine Okk.val (p := _) ?_ hob; simp only [avl, hx, hy, bop])
  · rename_i a b hx hy
    cases op <;> simp only [Option.some.injEq, Prod.mk.injEq, reduceCtorEq] at he <;> (obtain ⟨rfl, rfl, rfl⟩ := he; refine Okk.val (p := _) ?_ hob; simp only [avl, hx, hy, bop])
  · rename_i a b hx hy
    cases op <;> simp only [Option.some.injEq, Prod.mk.injEq, reduceCtorEq] at he <;> (obtain ⟨rfl, rfl, rfl⟩ := he; refine Okk.val (p := _) ?_ hob; simp only [avl, hx, hy, bop])
  · cases he

theorem effA_sound {op : Op} {p : AP} (hc : coP P op = some p) {r : AV} {up : List (Nat × Option Ob)} {ob : Prop} (he : effA nid st p = some (r, up, ob)) (hob : ob) : Okk P nid st op (r, up, ob) := by
  cases op with
  | move x =>
    simp only [coP, Option.some.injEq] at hc; subst hc
    simp only [effA, e_co, Option.some.injEq, Prod.mk.injEq] at he
    obtain ⟨rfl, rfl, rfl⟩ := he
    exact .val (p := True) rfl trivial
  | assign x =>
    simp only [coP, Option.some.injEq] at hc; subst hc
    simp only [effA, e_co, Option.some.injEq, Prod.mk.injEq] at he
    obtain ⟨rfl, rfl, rfl⟩ := he
    exact .val (p := True) rfl trivial
  | pick c a b =>
    simp only [coP, Option.some.injEq] at hc; subst hc
    simp only [effA, e_co] at he
    split at he
    · rename_i t ht
      simp only [Option.some.injEq, Prod.mk.injEq] at he
      obtain ⟨rfl, rfl, rfl⟩ := he
      refine .val (p := True) ?_ trivial
      simp only [avl, ht]
    · cases he
  | binOp op t x y ty =>
    simp only [coP] at hc
    split at hc
    · unfold coNil at hc
      split at hc <;> simp only [Option.some.injEq, reduceCtorEq] at hc <;> subst hc <;> cases he
    · split at hc
      · rename_i hag
        unfold coAeq at hc
        split at hc
        · rename_i hg
          split at hc
          · rename_i l hl
            split at hc
            · simp only [Option.some.injEq] at hc; subst hc
              simp only [effA, e_co] at he
              split at he
              · rename_i xs ys hx hy
                simp only [Option.some.injEq, Prod.mk.injEq] at he
                obtain ⟨rfl, rfl, rfl⟩ := he
                refine .val (p := (aeq P t xs ys).2) ?_ ⟨hag, hob.1, hob.2.1, hg, _, hl, hob.2.2⟩
                simp only [avl, hx, hy, aeq, Bool.false_eq_true, if_false, if_true]
              · cases he
            · simp only [Option.some.injEq] at hc; subst hc
              simp only [effA, e_co] at he
              split at he
              · rename_i xs ys hx hy
                simp only [Option.some.injEq, Prod.mk.injEq] at he
                obtain ⟨rfl, rfl, rfl⟩ := he
                refine .val (p := (aeq P t xs ys).2) ?_ ⟨hag, hob.1, hob.2.1, hg, _, hl, hob.2.2⟩
                simp only [avl, hx, hy, aeq, Bool.false_eq_true, if_false, if_true]
              · cases he
            · cases hc
          · cases hc
        · cases hc
      · split at hc
        · rename_i hp
          unfold coPtr at hc
          split at hc
          · have hev : St.ev st (.const (.pointer none)) = .sc (.pointer none) := rfl
            split at hc
            · simp only [Option.some.injEq] at hc; subst hc
              simp only [effA, e_co] at he
              split at he
              · rename_i id off hx
                split at he
                · rename_i hs
                  simp only [Option.some.injEq, Prod.mk.injEq] at he
                  obtain ⟨rfl, rfl, rfl⟩ := he
                  refine .val (p := isPtr P t = true) ?_ hp
                  simp only [avl, hx, hev, pnq, hs, if_true]
                  rfl
                · cases he
              · rename_i cs off hx
                simp only [Option.some.injEq, Prod.mk.injEq] at he
                obtain ⟨rfl, rfl, rfl⟩ := he
                refine .val (p := isPtr P t = true) ?_ hp
                simp only [avl, hx, hev, pnq]
                rfl
              · cases he
            · simp only [Option.some.injEq] at hc; subst hc
              simp only [effA, e_co] at he
              split at he
              · rename_i id off hx
                split at he
                · rename_i hs
                  simp only [Option.some.injEq, Prod.mk.injEq] at he
                  obtain ⟨rfl, rfl, rfl⟩ := he
                  refine .val (p := isPtr P t = true) ?_ hp
                  simp only [avl, hx, hev, pnq, hs, if_true]
                  rfl
                · cases he
              · rename_i cs off hx
                simp only [Option.some.injEq, Prod.mk.injEq] at he
                obtain ⟨rfl, rfl, rfl⟩ := he
                refine .val (p := isPtr P t = true) ?_ hp
                simp only [avl, hx, hev, pnq]
                rfl
              · cases he
            · cases hc
          · cases hc
        · simp only [Option.some.injEq] at hc; subst hc
          exact effA_bin he hob
  | unOp op t x =>
    simp only [coP, Option.some.injEq] at hc; subst hc
    simp only [effA, e_co] at he
    split at he
    · rename_i k n hx
      cases op <;> simp only [Option.some.injEq, Prod.mk.injEq, reduceCtorEq] at he <;> (obtain ⟨rfl, rfl, rfl⟩ := he; refine .val (p := True) ?_ trivial; simp only [avl, hx, uop])
    · rename_i b hx
      cases op <;> simp only [Option.some.injEq, Prod.mk.injEq, reduceCtorEq] at he <;> (obtain ⟨rfl, rfl, rfl⟩ := he; refine .val (p := True) ?_ trivial; simp only [avl, hx, uop])
    · cases he
  | convert s d x =>
    simp only [coP] at hc
    split at hc
    · rename_i k hk
      split at hc
      · rename_i hs
        simp only [Option.some.injEq] at hc; subst hc
        simp only [effA, e_co] at he
        split at he
        · rename_i k' n hx
          simp only [Option.some.injEq, Prod.mk.injEq] at he
          obtain ⟨rfl, rfl, rfl⟩ := he
          refine .val (p := (P.underlying s).isSome = true) ?_ hs
          simp only [avl, hx, hk]
        · cases he
      · cases hc
    · rename_i hk
      split at hc
      · rename_i e hel
        split at hc
        · rename_i hu
          split at hc
          · rename_i hstr
            simp only [Option.some.injEq] at hc; subst hc
            simp only [effA, e_co] at he
            split at he
            · rename_i n cells hx
              simp only [Option.some.injEq, Prod.mk.injEq] at he
              obtain ⟨rfl, rfl, rfl⟩ := he
              refine .val (p := (∃ e, elm P s = some e ∧ ikd P e = some .u8) ∧ isStr P d = true ∧ cells.length = n ∧ ∀ x ∈ cells, (aby x).isSome = true) ?_ ⟨⟨e, hel, hu⟩, hstr, hob⟩
              simp only [avl, hx]
            · rename_i hx
              simp only [Option.some.injEq, Prod.mk.injEq] at he
              obtain ⟨rfl, rfl, rfl⟩ := he
              refine .val (p := (∃ e, elm P s = some e ∧ ikd P e = some .u8) ∧ isStr P d = true) ?_ ⟨⟨e, hel, hu⟩, hstr⟩
              simp only [avl, hx]
            · cases he
          · split at hc
            · rename_i hsd
              simp only [Option.some.injEq] at hc; subst hc
              simp only [effA, e_co] at he
              split at he
              · rename_i id off n hx
                split at he
                · rename_i o ho
                  simp only [Option.some.injEq, Prod.mk.injEq] at he
                  obtain ⟨rfl, rfl, rfl⟩ := he
                  refine ⟨s = d ∧ n ≠ 0 ∧ 0 < o.esz ∧ ∃ e, elm P s = some e ∧ ikd P e = some .u8, eff_aef ?_ ?_, hsd, hob.1, hob.2, e, hel, hu⟩
                  · simp only [avl, hx]
                  · simp only [Sim.aef, hx, ho]
                · cases he
              · cases he
            · cases hc
        · cases hc
      · split at hc
        · rename_i hh
          simp only [Bool.and_eq_true] at hh
          simp only [Option.some.injEq] at hc; subst hc
          simp only [effA, e_co] at he
          split at he
          · rename_i b hx
            simp only [Option.some.injEq, Prod.mk.injEq] at he
            obtain ⟨rfl, rfl, rfl⟩ := he
            refine .val (p := (P.underlying s).isSome = true ∧ isStr P d = true) ?_ ⟨hh.2, hh.1⟩
            simp only [avl, hx]
          · cases he
        · cases hc
  | load t x =>
    simp only [coP] at hc
    split at hc
    · rename_i hg
      simp only [Option.some.injEq] at hc; subst hc
      simp only [effA, e_co] at he
      split at he
      · rename_i id off hx
        split at he
        · rename_i o ho
          simp only [Option.some.injEq, Prod.mk.injEq] at he
          obtain ⟨rfl, rfl, rfl⟩ := he
          refine .val (p := good P t = true ∧ off + siz P t ≤ o.cells.length) ?_ ⟨hg, hob⟩
          simp only [avl, hx, ho, rdx_eq hob]
        · cases he
      · rename_i cells off hx
        simp only [Option.some.injEq, Prod.mk.injEq] at he
        obtain ⟨rfl, rfl, rfl⟩ := he
        refine .val (p := good P t = true ∧ off + siz P t ≤ cells.length) ?_ ⟨hg, hob⟩
        simp only [avl, hx, rdx_eq hob]
      · cases he
    · cases hc
  | fieldAddr t x k =>
    simp only [coP] at hc
    split at hc
    · rename_i fo ft hf
      split at hc
      · rename_i hs
        simp only [Option.some.injEq] at hc; subst hc
        simp only [effA, e_co] at he
        split at he
        · rename_i id off hx
          split at he
          · rename_i o ho
            simp only [Option.some.injEq, Prod.mk.injEq] at he
            obtain ⟨rfl, rfl, rfl⟩ := he
            refine .val (p := siz P ft ≠ 0) ?_ hs
            simp only [avl, hf, hx, ho, Option.isSome_some, if_true]
          · cases he
        · rename_i cells off hx
          simp only [Option.some.injEq, Prod.mk.injEq] at he
          obtain ⟨rfl, rfl, rfl⟩ := he
          refine .val (p := siz P ft ≠ 0) ?_ hs
          simp only [avl, hf, hx]
        · cases he
      · cases hc
    · cases hc
  | field t x k =>
    simp only [coP] at hc
    split at hc
    · rename_i fo ft hf
      split at hc
      · rename_i hs
        simp only [Option.some.injEq] at hc; subst hc
        simp only [effA, e_co] at he
        split at he
        · rename_i cs hx
          simp only [Option.some.injEq, Prod.mk.injEq] at he
          obtain ⟨rfl, rfl, rfl⟩ := he
          refine .val (p := good P ft = true ∧ fo + siz P ft ≤ cs.length) ?_ ⟨hs, hob⟩
          simp only [avl, hf, hx, rdx_eq hob]
        · cases he
      · cases hc
    · cases hc
  | indexAddr t x i =>
    simp only [coP] at hc
    split at hc
    · rename_i _ n e ha
      split at hc
      · rename_i hs
        simp only [Option.some.injEq] at hc; subst hc
        simp only [effA, e_co] at he
        split at he
        · rename_i id off k hx hi
          split at he
          · rename_i o ho
            simp only [Option.some.injEq, Prod.mk.injEq] at he
            obtain ⟨rfl, rfl, rfl⟩ := he
            refine .val (p := siz P e ≠ 0 ∧ 0 ≤ k ∧ k < n) ?_ ⟨hs, hob⟩
            simp only [avl, hi, ha, hx, ho, Option.isSome_some, if_true]
          · cases he
        · rename_i cells off k hx hi
          simp only [Option.some.injEq, Prod.mk.injEq] at he
          obtain ⟨rfl, rfl, rfl⟩ := he
          refine .val (p := siz P e ≠ 0 ∧ 0 ≤ k ∧ k < n) ?_ ⟨hs, hob⟩
          simp only [avl, hi, ha, hx]
        · cases he
      · cases hc
    · rename_i e ha hel
      split at hc
      · rename_i hs
        simp only [Option.some.injEq] at hc; subst hc
        simp only [effA, e_co] at he
        split at he
        · rename_i id off n k hx hi
          split at he
          · rename_i o ho
            simp only [Option.some.injEq, Prod.mk.injEq] at he
            obtain ⟨rfl, rfl, rfl⟩ := he
            refine .val (p := siz P e ≠ 0 ∧ 0 ≤ k ∧ k < n) ?_ ⟨hs, hob⟩
            simp only [avl, hi, ha, hel, hx, ho, Option.isSome_some, if_true]
          · cases he
        · rename_i n cells k hx hi
          simp only [Option.some.injEq, Prod.mk.injEq] at he
          obtain ⟨rfl, rfl, rfl⟩ := he
          refine .val (p := siz P e ≠ 0 ∧ 0 ≤ k ∧ k < n ∧ k.toNat * siz P e + siz P e ≤ cells.length) ?_ ⟨hs, hob⟩
          simp only [avl, hi, ha, hel, hx]
        · cases he
      · cases hc
    · cases hc
  | index t x i =>
    simp only [coP] at hc
    split at hc
    · rename_i n e ha
      split at hc
      · rename_i hs
        simp only [Option.some.injEq] at hc; subst hc
        simp only [effA, e_co] at he
        split at he
        · rename_i cs k hx hi
          simp only [Option.some.injEq, Prod.mk.injEq] at he
          obtain ⟨rfl, rfl, rfl⟩ := he
          refine .val (p := good P e = true ∧ 0 ≤ k ∧ k < n ∧ k.toNat * siz P e + siz P e ≤ cs.length) ?_ ⟨hs, hob⟩
          simp only [avl, hi, ha, hx, rdx_eq hob.2.2]
        · cases he
      · cases hc
    · rename_i ha
      split at hc
      · rename_i hs
        simp only [Option.some.injEq] at hc; subst hc
        simp only [effA, e_co] at he
        split at he
        · rename_i s k hx hi
          simp only [Option.some.injEq, Prod.mk.injEq] at he
          obtain ⟨rfl, rfl, rfl⟩ := he
          refine .val (p := isStr P t = true ∧ 0 ≤ k ∧ k < s.size) ?_ ⟨hs, hob⟩
          simp only [avl, hi, hx]
        · cases he
      · cases hc
  | extract x k =>
    simp only [coP, Option.some.injEq] at hc; subst hc
    simp only [effA, e_co] at he
    split at he
    · rename_i vs hx
      simp only [Option.some.injEq, Prod.mk.injEq] at he
      obtain ⟨rfl, rfl, rfl⟩ := he
      refine .val (p := k < vs.length) ?_ hob
      simp only [avl, hx]
    · cases he
  | build t ps =>
    simp only [coP] at hc
    split at hc
    · rename_i pl z hpl hz
      split at hc
      · rename_i l hl
        simp only [Option.some.injEq] at hc; subst hc
        simp only [effA] at he
        split at he
        · rename_i cs ob' hb
          simp only [Option.some.injEq, Prod.mk.injEq] at he
          obtain ⟨rfl, rfl, rfl⟩ := he
          obtain ⟨_, r, h1, h2⟩ := bldA_spec st pl _ _ _ _ _ _ hl hb hob
          refine .val (p := True) ?_ trivial
          simp only [avl, h1, hpl, hz, h2]
        · cases he
      · cases hc
    · cases hc
  | makeFunc fn first captured =>
    cases fn with
    | func f =>
      simp only [coP] at hc
      split at hc
      · rename_i hf
        simp only [Option.some.injEq] at hc; subst hc
        simp only [effA, e_cos, Option.some.injEq, Prod.mk.injEq] at he
        obtain ⟨rfl, rfl, rfl⟩ := he
        refine .val (p := True) ?_ trivial
        simp only [avl, hf, if_true]
      · rename_i hf
        split at hc
        · rename_i x h1 h2
          simp only [Option.some.injEq] at hc; subst hc
          simp only [effA, e_co, Option.some.injEq, Prod.mk.injEq] at he
          obtain ⟨rfl, rfl, rfl⟩ := he
          refine .val (p := True) ?_ trivial
          simp only [avl, hf, h1, h2, if_false, Bool.false_eq_true]
        · cases hc
    | _ => cases hc
  | lookup t x i ok =>
    simp only [coP] at hc
    split at hc
    · rename_i kt et ht
      split at hc
      · rename_i hn
        simp only [Option.some.injEq] at hc; subst hc
        simp only [effA, e_co] at he
        split at he
        · rename_i ks vs n hx hi
          simp only [Option.some.injEq, Prod.mk.injEq] at he
          obtain ⟨rfl, rfl, rfl⟩ := he
          refine .val (p := ikd P kt = some .i64) ?_ hn.2
          simp only [avl, ht, hx, hi, hn.1, if_true]
        · cases he
      · cases hc
    · cases hc
  | sliceToArrayPointer t x =>
    simp only [coP] at hc
    split at hc
    · rename_i n e ha
      split at hc
      · rename_i hn
        simp only [Option.some.injEq] at hc; subst hc
        simp only [effA, e_co] at he
        split at he
        · rename_i m cells hx
          simp only [Option.some.injEq, Prod.mk.injEq] at he
          obtain ⟨rfl, rfl, rfl⟩ := he
          refine .val (p := n ≠ 0 ∧ n ≤ m) ?_ ⟨hn, hob⟩
          simp only [avl, ha, hx]
        · rename_i id off m hx
          split at he
          · rename_i o ho
            simp only [Option.some.injEq, Prod.mk.injEq] at he
            obtain ⟨rfl, rfl, rfl⟩ := he
            refine .val (p := n ≠ 0 ∧ n ≤ m) ?_ ⟨hn, hob⟩
            simp only [avl, ha, hx, ho, Option.isSome_some, if_true]
          · cases he
        · cases he
      · cases hc
    · cases hc
  | nilCheck x =>
    simp only [coP, Option.some.injEq] at hc; subst hc
    simp only [effA, e_co] at he
    split at he
    · rename_i id off hx
      split at he
      · rename_i o ho
        simp only [Option.some.injEq, Prod.mk.injEq] at he
        obtain ⟨rfl, rfl, rfl⟩ := he
        refine .val (p := True) ?_ trivial
        simp only [avl, hx, ho, Option.isSome_some, if_true]
      · cases he
    · rename_i c o hx
      simp only [Option.some.injEq, Prod.mk.injEq] at he
      obtain ⟨rfl, rfl, rfl⟩ := he
      refine .val (p := True) ?_ trivial
      simp only [avl, hx]
    · cases he
  | slice t x lo hi mx =>
    simp only [coP] at hc
    split at hc
    · rename_i hstr
      split at hc
      · rename_i hmx
        have hmx' : mx = none := by cases mx <;> simp_all
        subst hmx'
        simp only [Option.some.injEq] at hc; subst hc
        simp only [effA, e_co] at he
        split at he
        · rename_i s hx
          split at he
          · rename_i l h hl hh
            simp only [Option.some.injEq, Prod.mk.injEq] at he
            obtain ⟨rfl, rfl, rfl⟩ := he
            refine .val (p := isStr P t = true ∧ (none : Option Operand) = none ∧ 0 ≤ l ∧ l ≤ h ∧ h ≤ s.size) ?_ ⟨hstr, rfl, hob⟩
            simp only [avl, hx, abd_of hl, abd_of hh]
          · cases he
        · cases he
      · cases hc
    · split at hc
      · rename_i e hel
        split at hc
        · rename_i hh0
          obtain ⟨hs, hmh⟩ := hh0
          have hmh' : mx.isSome = true → hi.isSome = true := by intro h; cases mx <;> simp_all
          simp only [Option.some.injEq] at hc; subst hc
          simp only [effA, e_co] at he
          split at he
          · rename_i n cells hx
            cases mx with
            | none =>
              simp only [Option.map_none] at he
              split at he
              · rename_i l h hl hh
                simp only [Option.some.injEq, Prod.mk.injEq] at he
                obtain ⟨rfl, rfl, rfl⟩ := he
                refine .val (p := siz P e ≠ 0 ∧ 0 ≤ l ∧ l ≤ h ∧ h ≤ (n : Int) ∧ (n : Int) ≤ n ∧ ((none : Option Operand).isSome = true → hi.isSome = true)) ?_ ⟨hs, hob.1, hob.2.1, hob.2.2, Int.le_refl _, hmh'⟩
                have hm : abd st n none = some (n : Int) := rfl
                simp only [avl, hx, Option.isSome_none, Bool.false_eq_true, if_false, hel, abd_of hl, abd_of hh, hm]
              · cases he
            | some m0 =>
              simp only [Option.map_some, e_co] at he
              split at he
              · rename_i l h m hl hh hm
                by_cases hlh : l = h
                · rw [if_pos hlh] at he
                  simp only [Option.some.injEq, Prod.mk.injEq] at he
                  obtain ⟨rfl, rfl, rfl⟩ := he
                  refine ⟨siz P e ≠ 0 ∧ 0 ≤ l ∧ l = h ∧ h = m ∧ m ≤ n ∧ hi.isSome = true, eff_aef ?_ ?_, hs, hob.1, hob.2.1, hob.2.2.1, hob.2.2.2, hmh' rfl⟩
                  · simp only [avl, hx, Option.isSome_some, if_true]
                  · simp only [Sim.aef, hx, hel, abd_of hl, abd_of hh, hm, if_pos hlh]
                · rw [if_neg hlh] at he
                  simp only [Option.some.injEq, Prod.mk.injEq] at he
                  obtain ⟨rfl, rfl, rfl⟩ := he
                  refine ⟨siz P e ≠ 0 ∧ l = 0 ∧ 0 ≤ h ∧ h = m ∧ m ≤ n ∧ hi.isSome = true, eff_aef ?_ ?_, hs, hob.1, hob.2.1, hob.2.2.1, hob.2.2.2, hmh' rfl⟩
                  · simp only [avl, hx, Option.isSome_some, if_true]
                  · simp only [Sim.aef, hx, hel, abd_of hl, abd_of hh, hm, if_neg hlh]
              · cases he
          · rename_i id off n hx
            split at he
            · rename_i o ho
              split at he
              · rename_i l h m hl hh hm
                simp only [Option.some.injEq, Prod.mk.injEq] at he
                obtain ⟨rfl, rfl, rfl⟩ := he
                refine .val (p := siz P e ≠ 0 ∧ o.esz = siz P e ∧ 0 ≤ l ∧ l ≤ h ∧ h ≤ m ∧ m ≤ n ∧ (mx.isSome = true → hi.isSome = true)) ?_ ⟨hs, hob.1, hob.2.1, hob.2.2.1, hob.2.2.2.1, hob.2.2.2.2, hmh'⟩
                simp only [avl, hx, hel, ho, abd_of hl, abd_of hh, abd_of hm]
              · cases he
            · cases he
          · rename_i hx
            split at he
            · rename_i l h m hl hh hm
              simp only [Option.some.injEq, Prod.mk.injEq] at he
              obtain ⟨rfl, rfl, rfl⟩ := he
              refine .val (p := siz P e ≠ 0 ∧ l = 0 ∧ h = 0 ∧ m = 0 ∧ (mx.isSome = true → hi.isSome = true)) ?_ ⟨hs, hob.1, hob.2.1, hob.2.2, hmh'⟩
              simp only [avl, hx, hel, abd_of hl, abd_of hh, abd_of hm]
            · cases he
          · cases he
        · cases hc
      · rename_i hel
        split at hc
        · rename_i n e ha
          split at hc
          · rename_i hh0
            obtain ⟨hs, hmx⟩ := hh0
            have hmx' : mx = none := by cases mx <;> simp_all
            subst hmx'
            simp only [Option.some.injEq] at hc; subst hc
            simp only [effA, e_co] at he
            split at he
            · rename_i id off hx
              split at he
              · rename_i o ho
                split at he
                · rename_i l h hl hh
                  simp only [Option.some.injEq, Prod.mk.injEq] at he
                  obtain ⟨rfl, rfl, rfl⟩ := he
                  refine .val (p := siz P e ≠ 0 ∧ o.esz = siz P e ∧ 0 ≤ l ∧ l ≤ h ∧ h ≤ n ∧ off + n * siz P e ≤ o.cells.length) ?_ ⟨hs, hob⟩
                  simp only [avl, hx, ha, ho, abd_of hl, abd_of hh]
                · cases he
              · cases he
            · cases he
          · cases hc
        · cases hc
  | call cc =>
    obtain ⟨callee, args, argTypes⟩ := cc
    cases callee with
    | value fo => simp only [coP, Option.some.injEq] at hc; subst hc; cases he
    | builtin b =>
      cases b with
      | len =>
        simp only [coP] at hc
        split at hc
        · rename_i x t hargs htys
          split at hc
          · rename_i hstr
            simp only [Option.some.injEq] at hc; subst hc
            simp only [effA, e_co] at he
            split at he
            · rename_i s hx
              simp only [Option.some.injEq, Prod.mk.injEq] at he
              obtain ⟨rfl, rfl, rfl⟩ := he
              refine .val (p := isStr P t = true) ?_ hstr
              simp only [avl, hargs, htys, hx]
            · cases he
          · split at hc
            · rename_i hel
              simp only [Option.some.injEq] at hc; subst hc
              simp only [effA, e_co] at he
              split at he
              · rename_i n cs hx
                simp only [Option.some.injEq, Prod.mk.injEq] at he
                obtain ⟨rfl, rfl, rfl⟩ := he
                refine .val (p := (elm P t).isSome = true) ?_ hel
                simp only [avl, hargs, htys, hx]
              · rename_i hx
                simp only [Option.some.injEq, Prod.mk.injEq] at he
                obtain ⟨rfl, rfl, rfl⟩ := he
                refine .val (p := (elm P t).isSome = true) ?_ hel
                simp only [avl, hargs, htys, hx]
              · rename_i id off n hx
                split at he
                · rename_i o ho
                  simp only [Option.some.injEq, Prod.mk.injEq] at he
                  obtain ⟨rfl, rfl, rfl⟩ := he
                  refine .val (p := (elm P t).isSome = true) ?_ hel
                  simp only [avl, hargs, htys, hx, ho, Option.isSome_some, if_true]
                · cases he
              · cases he
            · split at hc
              · rename_i n e ha
                simp only [Option.some.injEq] at hc; subst hc
                simp only [effA, e_co] at he
                split at he <;> first
                  | (rename_i hx
                     simp only [Option.some.injEq, Prod.mk.injEq] at he
                     obtain ⟨rfl, rfl, rfl⟩ := he
                     refine .val (p := True) ?_ trivial
                     simp only [avl, hargs, htys, hx, ha])
                  | cases he
              · cases hc
        · cases hc
      | max =>
        simp only [coP, Option.some.injEq] at hc; subst hc
        simp only [effA, e_cos] at he
        split at he
        · rename_i k n hx
          simp only [Option.some.injEq, Prod.mk.injEq] at he
          obtain ⟨rfl, rfl, rfl⟩ := he
          refine .val (p := True) ?_ trivial
          simp only [avl, hx]
        · cases he
      | min =>
        simp only [coP, Option.some.injEq] at hc; subst hc
        simp only [effA, e_cos] at he
        split at he
        · rename_i k n hx
          simp only [Option.some.injEq, Prod.mk.injEq] at he
          obtain ⟨rfl, rfl, rfl⟩ := he
          refine .val (p := True) ?_ trivial
          simp only [avl, hx]
        · cases he
      | append =>
        simp only [coP] at hc
        split at hc
        · rename_i s x t t2 hargs htys
          split at hc
          · rename_i e hel
            split at hc
            · rename_i z hz
              split at hc
              · rename_i hh
                obtain ⟨h1, h2, h3⟩ := hh
                simp only [Option.some.injEq] at hc; subst hc
                simp only [effA, e_co] at he
                split at he
                · cases he
                · rename_i m cs ob' hsrc
                  split at he
                  · rename_i hs
                    simp only [Option.some.injEq, Prod.mk.injEq] at he
                    obtain ⟨rfl, rfl, rfl⟩ := he
                    obtain ⟨g1, g2, g3, g4⟩ := hob
                    refine .aef (p := ob' ∧ okF cs ∧ siz P e ≠ 0 ∧ (∃ z, zrc P e = some z ∧ z.length = siz P e) ∧ ((elm P t2).isSome ∨ isStr P t2 = true) ∧ m * byt P e ≤ 140737488355328 ∧ m ≤ 4611686018427387904) rfl ?_ ⟨g1, g2, h1, ⟨z, hz, h2⟩, h3, g3, g4⟩
                    simp only [Sim.aef, hargs, htys, aap, hel, hsrc, hs, Option.some_or]
                  · rename_i id off n hs
                    split at he
                    · cases he
                    · rename_i o ho
                      simp only [Option.some.injEq, Prod.mk.injEq] at he
                      obtain ⟨rfl, rfl, rfl⟩ := he
                      obtain ⟨g1, g2, g3, g4, g5⟩ := hob
                      refine .aef (p := ob' ∧ okF cs ∧ siz P e ≠ 0 ∧ (∃ z, zrc P e = some z ∧ z.length = siz P e) ∧ ((elm P t2).isSome ∨ isStr P t2 = true) ∧ (n + m) * byt P e ≤ 140737488355328 ∧ n + m ≤ 4611686018427387904 ∧ off = 0 ∧ o.esz = siz P e ∧ o.cells.length = n * siz P e ∧ o.hw ≤ o.cells.length) rfl ?_ ⟨g1, g2, h1, ⟨z, hz, h2⟩, h3, g3, g4, g5⟩
                      simp only [Sim.aef, hargs, htys, aap, hel, hsrc, hs, ho, Option.some_or]
                  · rename_i n cs0 hs
                    simp only [Option.some.injEq, Prod.mk.injEq] at he
                    obtain ⟨rfl, rfl, rfl⟩ := he
                    obtain ⟨g1, g2, g3, g4, g5, g6⟩ := hob
                    refine .aef (p := ob' ∧ okF cs ∧ siz P e ≠ 0 ∧ (∃ z, zrc P e = some z ∧ z.length = siz P e) ∧ ((elm P t2).isSome ∨ isStr P t2 = true) ∧ (n + m) * byt P e ≤ 140737488355328 ∧ n + m ≤ 4611686018427387904 ∧ m ≠ 0 ∧ cs0.length = n * siz P e) rfl ?_ ⟨g1, g2, h1, ⟨z, hz, h2⟩, h3, g3, g4, g5, g6⟩
                    simp only [Sim.aef, hargs, htys, aap, hel, hsrc, hs, Option.some_or]
                  · cases he
              · split at hc
                · rename_i z0 hh
                  split at hc
                  · rename_i hh2
                    obtain ⟨h4, h5, h6⟩ := hh2
                    simp only [Option.some.injEq] at hc; subst hc
                    simp only [effA, e_co] at he
                    split at he
                    · cases he
                    · rename_i n hn
                      have hx : ∃ kx, st.ev x = .sc (.int kx n) := by
                        unfold aint at hn
                        split at hn
                        · rename_i kx n' hx
                          injection hn with hn
                          exact ⟨kx, by rw [hx, hn]⟩
                        · cases hn
                      obtain ⟨kx, hx⟩ := hx
                      split at he
                      · rename_i hs
                        simp only [Option.some.injEq, Prod.mk.injEq] at he
                        obtain ⟨rfl, rfl, rfl⟩ := he
                        obtain ⟨g1, g2, g3⟩ := hob
                        refine .aef (p := 0 ≤ n ∧ okf z0 = true ∧ siz P e = 1 ∧ isIntT P t2 = true ∧ n.toNat * byt P e ≤ 140737488355328 ∧ n.toNat ≤ 4611686018427387904) rfl ?_ ⟨g1, h4, h5, h6, g2, g3⟩
                        simp only [Sim.aef, hargs, htys, aap, aapZ, hel, hz, hs, hx, src, aint, Option.none_or]
                      · rename_i id off k hs
                        split at he
                        · cases he
                        · rename_i o ho
                          simp only [Option.some.injEq, Prod.mk.injEq] at he
                          obtain ⟨rfl, rfl, rfl⟩ := he
                          obtain ⟨g1, g2, g3, g4⟩ := hob
                          refine .aef (p := 0 ≤ n ∧ okf z0 = true ∧ siz P e = 1 ∧ isIntT P t2 = true ∧ (k + n.toNat) * byt P e ≤ 140737488355328 ∧ k + n.toNat ≤ 4611686018427387904 ∧ off = 0 ∧ o.esz = 1 ∧ o.cells.length = k * 1 ∧ o.hw ≤ o.cells.length) rfl ?_ ⟨g1, h4, h5, h6, g2, g3, g4⟩
                          simp only [Sim.aef, hargs, htys, aap, aapZ, hel, hz, hs, hx, src, aint, ho, Option.none_or]
                      · cases he
                  · cases hc
                · cases hc
            · cases hc
          · cases hc
        · cases hc
      | _ => cases hc
    | _ => cases hc
  | alloc t =>
    simp only [coP] at hc
    split at hc
    · rename_i z hz
      simp only [Option.some.injEq] at hc; subst hc
      simp only [effA, Option.some.injEq, Prod.mk.injEq] at he
      obtain ⟨rfl, rfl, rfl⟩ := he
      exact ⟨True, eff_aef rfl (by simp only [Sim.aef, hz]), trivial⟩
    · cases hc
  | box t x =>
    simp only [coP, Option.some.injEq] at hc; subst hc
    simp only [effA, e_co] at he
    split at he
    · rename_i cs hx
      simp only [Option.some.injEq, Prod.mk.injEq] at he
      obtain ⟨rfl, rfl, rfl⟩ := he
      exact ⟨True, eff_aef rfl (by simp only [Sim.aef, hx]), trivial⟩
    · cases he
  | buildSlice t n ps =>
    simp only [coP] at hc
    split at hc
    · rename_i e hel
      split at hc
      · rename_i z hz
        split at hc
        · rename_i hh
          split at hc
          · rename_i l hl
            simp only [Option.some.injEq] at hc; subst hc
            simp only [effA] at he
            split at he
            · rename_i cs ob' hb
              simp only [Option.some.injEq, Prod.mk.injEq] at he
              obtain ⟨rfl, rfl, rfl⟩ := he
              obtain ⟨_, r, h1, h2⟩ := bldA_spec st _ _ _ _ _ _ _ hl hb hob
              exact .aef (p := siz P e ≠ 0 ∧ z.length = siz P e ∧ n * siz P e ≤ 16777216) rfl (by simp only [Sim.aef, hel, h1, hz, h2]) hh
            · cases he
          · cases hc
        · cases hc
      · cases hc
    · cases hc
  | makeSlice t l k =>
    simp only [coP] at hc
    split at hc
    · rename_i e hel
      split at hc
      · rename_i z hz
        split at hc
        · rename_i hh
          simp only [Option.some.injEq] at hc; subst hc
          simp only [effA, e_co] at he
          split at he
          · rename_i n m hn hm
            simp only [Option.some.injEq, Prod.mk.injEq] at he
            obtain ⟨rfl, rfl, rfl⟩ := he
            exact .aef (p := siz P e = 1 ∧ 0 ≤ n ∧ n ≤ m ∧ m ≤ 16777216 ∧ byt P e ≤ 16777216) rfl (by simp only [Sim.aef, hel, hz, hn, hm]) ⟨hh.1, hob.1, hob.2.1, hob.2.2, hh.2⟩
          · cases he
        · cases hc
      · cases hc
    · cases hc
  | store t x y =>
    simp only [coP] at hc
    split at hc
    · rename_i hs
      simp only [Option.some.injEq] at hc; subst hc
      simp only [effA, e_co] at he
      split at he
      · rename_i id off cs hx hy
        split at he
        · rename_i o ho
          simp only [Option.some.injEq, Prod.mk.injEq] at he
          obtain ⟨rfl, rfl, rfl⟩ := he
          exact .aef (p := siz P t ≠ 0 ∧ cs.length = siz P t ∧ o.hw ≤ off ∧ off + cs.length ≤ o.cells.length ∧ okCells st cs) rfl (by simp only [Sim.aef, hx, hy, ho]) ⟨hs, hob⟩
        · cases he
      · cases he
    · cases hc
  | _ => cases hc
end

structure AOp where
  dst : Option Nat
  g : Option (Nat × Bool)
  os : List AO
  us : List Nat
  op : AP
inductive ACode where
  | skip
  | reg (ops : List AOp) (ks : Option (List Nat))
  | regD (ops : List AOp) (ks : Option (List Nat))
  | seq (x y : ACode)
  | cond (k : AO) (x y : ACode)
  | block (id : Nat) (x : ACode)
  | loop (x : ACode)
  | exit (id : Nat)
  | scope (x : ACode)
  | ret
  | keep (ks : List Nat) (x : ACode)
  | lab (l : Nat)
  | goto (l : Nat)
  | scopeJ (l : Nat) (x r : ACode)
  | rgf (f : AO) (p : Nat) (x y : ACode)
def stripP : AP → AP
  | .calM f as => .cal f as
  | .calG _ f as => .cal f as
  | .appR sz byt s x => .app sz byt s x
  | p => p
def stripO (a : AOp) : AOp := ⟨a.dst, a.g, a.os, a.us, stripP a.op⟩
def strip : ACode → ACode
  | .reg ops _ => .reg (ops.map stripO) none
  | .regD ops _ => .regD (ops.map stripO) none
  | .seq x y => .seq (strip x) (strip y)
  | .cond k x y => .cond k (strip x) (strip y)
  | .block id x => .block id (strip x)
  | .loop x => .loop (strip x)
  | .scope x => .scope (strip x)
  | .keep _ x => strip x
  | .skip => .skip
  | .exit id => .exit id
  | .ret => .ret
  | .lab l => .lab l
  | .goto l => .goto l
  | .scopeJ l x r => .scopeJ l (strip x) (strip r)
  | .rgf f p x y => .rgf f p (strip x) (strip y)
def gotoA : ACode → Option Nat
  | .goto l => some l
  | .seq x y => (gotoA x).or (gotoA y)
  | .cond _ x y => (gotoA x).or (gotoA y)
  | .block _ x => gotoA x
  | .loop x => gotoA x
  | .scope x => gotoA x
  | .keep _ x => gotoA x
  | _ => none
def findA : ACode → Nat → Option ACode
  | .seq x y, l => match findA x l with
    | some r => some (.seq r y)
    | none => findA y l
  | .lab l', l => if l' = l then some .skip else none
  | _, _ => none
def scB (a : ACode) : Option ACode := match gotoA a with
  | none => some (.scope a)
  | some l => (findA a l).map (.scopeJ l a)
def dskB (n : Nat) : Option Nat → Bool
  | some k => decide (k < n)
  | none => true
theorem dskB_ok {n : Nat} {d : Option Nat} (h : dskB n d = true) : dsk n d := by
  cases d with
  | none => trivial
  | some k => simpa [dskB] using h
def coG (ops : Array Oper) : Option (Nat × Bool) → Option (Option (Nat × Bool))
  | none => some none
  | some (j, want) => match (ops[j]?).bind (·.dst) with | some d => some (some (d, want)) | none => none
def okB : ACode → Bool
  | .skip | .exit _ | .ret | .reg _ _ | .regD _ _ => true
  | .seq x y | .cond _ x y => okB x && okB y
  | .block _ x | .keep _ x => okB x
  | _ => false
theorem okB_strip : ∀ x : ACode, okB (strip x) = okB x := by
  intro x
  induction x with
  | seq x y h1 h2 => simp [strip, okB, h1, h2]
  | cond k x y h1 h2 => simp [strip, okB, h1, h2]
  | block id x h => simp [strip, okB, h]
  | keep ks x h => simp [strip, okB, h]
  | _ => rfl
def coRg (n : Nat) (f : AO) (ps : List Nat) : Option ACode → Option ACode → Option ACode
  | some a, some b => match ps with
    | [p] => if p < n ∧ okB a = true ∧ okB b = true then some (.rgf f p a b) else none
    | _ => none
  | _, _ => none
theorem coRg_some {n : Nat} {f : AO} {ps : List Nat} {x y : Option ACode} {z : ACode} (h : coRg n f ps x y = some z) : ∃ p a b, ps = [p] ∧ x = some a ∧ y = some b ∧ p < n ∧ okB a = true ∧ okB b = true ∧ z = .rgf f p a b := by
  unfold coRg at h
  split at h
  · rename_i a b
    split at h
    · rename_i p
      split at h
      · rename_i hh
        exact ⟨p, a, b, rfl, rfl, rfl, hh.1, hh.2.1, hh.2.2, (Option.some.inj h).symm⟩
      · cases h
    · cases h
  · cases h
def msk1 (tab : List Nat) : List Edge → Nat → Nat
  | [], acc => acc
  | e :: r, acc => msk1 tab r (if Region.binds .any e then acc ||| (1 <<< e.on) ||| tab.getD e.on 0 else acc)
def msks : List Oper → List Nat → List Nat
  | [], tab => tab
  | o :: r, tab => msks r (tab ++ [msk1 tab o.after.toList 0])
def stat2 (ops : Array Oper) (tab : List Nat) : Bool :=
  (List.range ops.size).all fun j => match ops[j]? with
    | some o => o.after.all (fun e => !Region.binds .any e || decide (e.on < j)) && (List.range j).all fun k => match ops[k]? with
      | some x => (tab.getD j 0).testBit k || x.apart ops o
      | none => true
    | none => true
def coOp (P : Program) (n : Nat) (ops : Array Oper) (D : Bool) (i m : Nat) (o : Oper) : Option AOp :=
  match coP P o.op, coG ops o.guard, dskB n o.dst with
  | some p, some g, true => some ⟨o.dst, g, if D then o.op.operands.toList.map coO else [], if D then (List.range i).filter (fun j => !m.testBit j) else [], p⟩
  | _, _, _ => none
def coOps (P : Program) (n : Nat) (ops : Array Oper) (D : Bool) (tab : List Nat) : List Oper → Nat → Option (List AOp)
  | [], _ => some []
  | o :: r, i => match coOp P n ops D i (tab.getD i 0) o, coOps P n ops D tab r (i + 1) with
    | some a, some l => some (a :: l)
    | _, _ => none
def coReg (P : Program) (n : Nat) (ops : Array Oper) : Option ACode := (coOps P n ops false [] ops.toList 0).map fun l => .reg l none
def coRegD (P : Program) (n : Nat) (ops : Array Oper) : Option ACode := if stat2 ops (msks ops.toList []) && P.follows .mixedOrders then (coOps P n ops true (msks ops.toList []) ops.toList 0).map fun l => .regD l none else none
def co2 (f : ACode → ACode → ACode) : Option ACode → Option ACode → Option ACode
  | some a, some b => some (f a b)
  | _, _ => none
def co (P : Program) (n : Nat) : Code → Option ACode
  | .skip => some .skip
  | .label l => some (.lab l)
  | .region _ ops draw => if draw then coRegD P n ops else coReg P n ops
  | .seq x y => co2 .seq (co P n x) (co P n y)
  | .cond k x y => co2 (.cond (coO k)) (co P n x) (co P n y)
  | .block id x => (co P n x).map (.block id)
  | .loop x => (co P n x).map .loop
  | .exit id => some (.exit id)
  | .scope x => (co P n x).bind scB
  | .ret => some .ret
  | .rangeFunc f ps x y => coRg n (coO f) ps.toList (co P n x) (co P n y)
  | .goto l => some (.goto l)
  | .refuse .. => none

def NilQ (n : Nat) (e : Bool) (st : St) (dst : Option Nat) (K : St → Prop) : Prop := ∀ b : Bool, (b = true → n = 0) → K (st.put dst (.sc (.bool (b == e))))
theorem nilQ {n : Nat} {e : Bool} {st : St} {dst : Option Nat} {K : St → Prop} (h1 : n = 0 → K (st.put dst (.sc (.bool e)))) (h2 : K (st.put dst (.sc (.bool !e)))) : NilQ n e st dst K := by
  intro b hb
  cases b with
  | true => cases e <;> exact h1 (hb rfl)
  | false => cases e <;> exact h2
def KX (K : St → Prop) : Option Ob → AV → St → Prop := fun _ _ s => K s
def KXD (K : List Nat → List Nat → St → Prop) (rd : List Nat) (nid : Nat) (ls : List (Nat × Nat)) : Option Ob → AV → St → Prop := fun h1 r s => K rd (wrc nid ls h1 r) s
def opidsA (st : St) (os : List AO) : List Nat := os.flatMap fun x => ids (st.e x)
def ClM (P : Program) (f : FuncId) (as : List AV) (st : St) (nid : Nat) (dst : Option Nat) (ls : List (Nat × Nat)) (id : Nat) (ob : Ob) (K : Option Ob → AV → St → Prop) : Prop :=
  ∃ ob' h1 r, Con P f [(0, ob)] (.pt 0 0 :: as) ((0, ob') :: hpo2 h1) r ∧ okM ob' h1 r ∧ K h1 r (st.backM nid dst ls id ob' h1 r)
def calMR (P : Program) (nid : Nat) (st : St) (dst : Option Nat) (f : FuncId) (K : St → Prop) : List AV → Prop
  | .pt id 0 :: rest => match look st.hp id, frzs st rest with
    | some ob, some (as, ls, pr) => ob.hw = 0 ∧ ob.cells.length ≠ 0 ∧ okI ob.cells ∧ pr ∧ (∀ x ∈ ls, x.1 ≠ id) ∧ ClM P f as st nid dst ls id ob (KX K)
    | _, _ => False
  | _ => False
def aw1A0 (P : Program) (nid : Nat) (o : AOp) (st : St) (K : St → Prop) : Prop :=
  match o.op with
  | .nil e x y => match st.e x, st.e y with
    | .fz n _, .nl => NilQ n e st o.dst K
    | _, _ => False
  | .cal fo as => match st.e fo with
    | .fn f caps => callable P f = true ∧ (match frzs st (as.map st.e ++ caps) with
      | some (as, ls, ob) => ob ∧ Cl P f as st nid o.dst ls (KX K)
      | none => False)
    | _ => False
  | op => match effA nid st op with
    | some (r, up, ob) => ob ∧ K ((st.up up).put o.dst r)
    | none => False
def pnA (e : Bool) (st : St) (dst : Option Nat) (K : St → Prop) : AV → Prop
  | .pt id _ => (look st.hp id).isSome = true ∧ K (st.put dst (.sc (.bool !e)))
  | .fp _ _ => K (st.put dst (.sc (.bool !e)))
  | .sc (.pointer none) => K (st.put dst (.sc (.bool e)))
  | _ => False
def appF (nid : Nat) (st : St) (sz byt : Nat) (s x : AV) : Option (AV × List (Nat × Option Ob) × Prop) :=
  match src st sz x with
  | none => none
  | some (m, cs, ob) => match s with
    | .nl => some (.lv nid 0 m, [(nid, some ⟨cs, sz, 0⟩)], ob ∧ okCells st cs ∧ m * byt ≤ 140737488355328 ∧ m ≤ 4611686018427387904)
    | .lv id off n => (match look st.hp id with
      | none => none
      | some o => some (.lv nid 0 (n + m), [(id, none), (nid, some ⟨o.cells ++ cs, sz, o.hw⟩)],
          ob ∧ okCells st cs ∧ (n + m) * byt ≤ 140737488355328 ∧ n + m ≤ 4611686018427387904 ∧ off = 0 ∧ o.esz = sz ∧ o.cells.length = n * sz ∧ o.hw ≤ o.cells.length))
    | _ => none
def aw1A (P : Program) (nid : Nat) (o : AOp) (st : St) (K : St → Prop) : Prop :=
  match o.op with
  | .appR sz byt s x => (match appF nid st sz byt (st.e s) (st.e x) with
    | some (r, up, ob) => ob ∧ K ((st.up up).put o.dst r)
    | none => False)
  | .calG ps fo as => match st.e fo with
    | .fn f caps => callable P f = true ∧ calG P nid st o.dst f (fun _ s => K s) ps (as.map st.e ++ caps)
    | .bf f x => callable P f = true ∧ calG P nid st o.dst f (fun _ s => K s) ps (x :: as.map st.e)
    | _ => False
  | .calM fo as => match st.e fo with
    | .fn f caps => callable P f = true ∧ calMR P nid st o.dst f K (as.map st.e ++ caps)
    | _ => False
  | .pnil e x => pnA e st o.dst K (st.e x)
  | .nil e x y => match st.e x, st.e y with
    | .nl, .nl => K (st.put o.dst (.sc (.bool e)))
    | .lv id _ n, .nl => (look st.hp id).isSome = true ∧ NilQ n e st o.dst K
    | _, _ => aw1A0 P nid o st K
  | _ => aw1A0 P nid o st K
def agdA (P : Program) (nid : Nat) (o : AOp) (st : St) (K : St → Prop) : Prop :=
  match o.g with
  | none => aw1A P nid o st K
  | some (d, want) => match st.get d with
    | .sc (.bool b) => if b = want then aw1A P nid o st K else K (st.put o.dst (.sc undef))
    | .sc v => v = undef ∧ K (st.put o.dst (.sc undef))
    | _ => False
def KO (f : Nat → St → (St → Prop) → Prop) (nid : Nat) (K : St → Prop) : St → Prop := fun s => f nid s K
def aopsA (P : Program) : List AOp → Nat → St → (St → Prop) → Prop
  | [], _, st, K => K st
  | o :: r, nid, st, K => agdA P nid o st (KO (aopsA P r) (nid + 1) K)
def aw1DA (P : Program) (nid : Nat) (o : AOp) (st : St) (K : List Nat → List Nat → St → Prop) : Prop :=
  match o.op with
  | .nil _ _ _ => False
  | .calG ps fo as => match st.e fo with
    | .fn f caps => callable P f = true ∧ calG P nid st o.dst f (K (opidsA st o.os)) ps (as.map st.e ++ caps)
    | .bf f x => callable P f = true ∧ calG P nid st o.dst f (K (opidsA st o.os)) ps (x :: as.map st.e)
    | _ => False
  | .cal fo as => match st.e fo with
    | .fn f caps => callable P f = true ∧ (match frzs st (as.map st.e ++ caps) with
      | some (as, ls, ob) => ob ∧ Cl P f as st nid o.dst ls (KXD K (opidsA st o.os) nid ls)
      | none => False)
    | _ => False
  | op => match effA nid st op with
    | some (r, up, ob) => ob ∧ K (opidsA st o.os) (up.map (·.1)) ((st.up up).put o.dst r)
    | none => False
def agdDA (P : Program) (nid : Nat) (o : AOp) (st : St) (K : List Nat → List Nat → St → Prop) : Prop :=
  match o.g with
  | none => aw1DA P nid o st K
  | some (d, want) => match st.get d with
    | .sc (.bool b) => if b = want then aw1DA P nid o st K else K [] [] (st.put o.dst (.sc undef))
    | .sc v => v = undef ∧ K [] [] (st.put o.dst (.sc undef))
    | _ => False
def nocfA (us rd wr : List Nat) : List (Nat × List Nat × List Nat) → Prop
  | [] => True
  | (j, r1, w1) :: r => (us.contains j = true → cfl r1 w1 rd wr = false) ∧ nocfA us rd wr r
def KOD (f : Nat → Nat → List (Nat × List Nat × List Nat) → St → (St → Prop) → Prop) (us : List Nat) (i nid : Nat) (dn : List (Nat × List Nat × List Nat)) (K : St → Prop) : List Nat → List Nat → St → Prop :=
  fun rd wr s => nocfA us rd wr dn ∧ f (i + 1) (nid + 1) ((i, rd, wr) :: dn) s K
def aopsDA (P : Program) : List AOp → Nat → Nat → List (Nat × List Nat × List Nat) → St → (St → Prop) → Prop
  | [], _, _, _, st, K => K st
  | o :: r, i, nid, dn, st, K => agdDA P nid o st (KOD (aopsDA P r) o.us i nid dn K)
def keepS : List (Nat × AV) → List Nat → List (Nat × AV)
  | [], _ => []
  | x :: xs, ks => if ks.contains x.1 then x :: keepS xs ks else keepS xs ks
def keepO (st : St) : Option (List Nat) → St
  | none => st
  | some ks => ⟨keepS st.sl ks, st.hp, st.nx⟩
def KR (len : Nat) (ks : Option (List Nat)) (nx : Nat) (Q : Exit → St → Prop) : St → Prop := fun s => Q .normal (keepO ⟨s.sl, s.hp, nx + len⟩ ks)
def KS (f : St → (Exit → St → Prop) → Prop) (Q : Exit → St → Prop) : Exit → St → Prop := fun e s => match e with | .normal => f s Q | e => Q e s
def KB (id : Nat) (Q : Exit → St → Prop) : Exit → St → Prop := fun e s => match e with | .exit i => if i = id then Q .normal s else Q (.exit i) s | e => Q e s
def KC (Q : Exit → St → Prop) : Exit → St → Prop := fun e s => match e with | .goto _ => False | e => Q e s
def KJ (l : Nat) (f : St → (Exit → St → Prop) → Prop) (Q : Exit → St → Prop) : Exit → St → Prop := fun e s => match e with | .goto l' => l' = l ∧ f s (KC Q) | e => Q e s
def hw0 (hp : List (Nat × Ob)) : Prop := ∀ p ∈ hp, p.2.hw = 0
theorem hw0.look {hp : List (Nat × Ob)} (h : hw0 hp) (id : Nat) (o : Ob) (ho : look hp id = some o) : o.hw = 0 := h _ (look_mem ho)
def allT : Nat → Nat → Prop := fun _ _ => True
def SeqC (P : Program) (g : FuncId) (caps : List AV) {α : Type} (vl : α → Value) (Sd Sp : List α → Prop) (N : Nat) : Prop :=
  ∀ (W : World) (lb : Array Value) (l : Nat) (J Jx : List α → World → Prop),
    (∀ pre W1 W2, J pre W1 → Upd (fun _ => False) W1 W2 → J pre W2) → (∀ pre W1 W2, Jx pre W1 → Upd (fun _ => False) W1 W2 → Jx pre W2) →
    (∀ pre W1, J pre W1 → VRs W1 allT noLay caps lb.toList) →
    (∀ pre x W1, J pre W1 → pre.length < N → YieldAt Fence.wide 0 P l #[vl x] W1 fun e W' => (e = .returned (.bool true) ∧ J (pre ++ [x]) W') ∨ (e = .returned (.bool false) ∧ Jx (pre ++ [x]) W')) →
    J [] W →
    CallsIn Fence.wide 0 P g (#[.func (.yield l) #[] #[]] ++ lb) W fun e W' => (∃ v, e = .returned v) ∧ ((∃ xs, Sd xs ∧ J xs W') ∨ (∃ pre, Sp pre ∧ Jx pre W'))
def RgN {α : Type} (m : Nat) (sl : List (Nat × AV)) (I : List α → List (Nat × Ob) → Nat → Prop) (xs : List α) (s : St) : Prop := ∃ ρ hp nx, I xs hp nx ∧ Wk m ρ ⟨sl, s.hp, s.nx⟩ ⟨sl, hp, nx⟩
def RgQ {α : Type} (m : Nat) (sl : List (Nat × AV)) (I : List α → List (Nat × Ob) → Nat → Prop) (Ix : Exit → List α → List (Nat × Ob) → Nat → Prop) (xs : List α) : Exit → St → Prop
  | .normal, s => RgN m sl I xs s
  | .ret, s => Ix .ret xs s.hp s.nx
  | .exit id, s => Ix (.exit id) xs s.hp s.nx
  | _, _ => False
def KRg {α : Type} (m : Nat) (B : St → (Exit → St → Prop) → Prop) (sl : List (Nat × AV)) (I : List α → List (Nat × Ob) → Nat → Prop) (Ix : Exit → List α → List (Nat × Ob) → Nat → Prop) (xs : List α) : Exit → St → Prop :=
  fun e s => e = .normal ∧ hw0 s.hp ∧ B s (RgQ m sl I Ix xs)
def RgA (P : Program) (m : Nat) (A B : St → (Exit → St → Prop) → Prop) (f : AV) (p : Nat) (st : St) (Q : Exit → St → Prop) : Prop :=
  ∃ (g : FuncId) (caps : List AV) (α : Type) (vl : α → Value) (ev : α → AV) (Sd Sp : List α → Prop) (N : Nat) (I : List α → List (Nat × Ob) → Nat → Prop) (Ix : Exit → List α → List (Nat × Ob) → Nat → Prop),
    f = .fn g caps ∧ callable P g = true ∧ okI caps ∧ (∀ x w S L, VR w S L (ev x) (vl x)) ∧ SeqC P g caps vl Sd Sp N ∧
    (∃ ρ hp nx, I [] hp nx ∧ Wk m ρ st ⟨st.sl, hp, nx⟩) ∧
    (∀ pre x hp nx, I pre hp nx → pre.length < N → hw0 hp ∧ A (St.put ⟨st.sl, hp, nx⟩ (some p) (ev x)) (KRg m B st.sl I Ix (pre ++ [x]))) ∧
    (∀ xs hp nx, Sd xs → I xs hp nx → Q .normal ⟨st.sl, hp, nx⟩) ∧
    (∀ e pre hp nx, Sp pre → Ix e pre hp nx → Q e ⟨st.sl, hp, nx⟩)
def awA (P : Program) (m : Nat) : ACode → St → (Exit → St → Prop) → Prop
  | .skip, st, Q => Q .normal st
  | .reg ops ks, st, Q => aopsA P ops st.nx st (KR ops.length ks st.nx Q)
  | .regD ops ks, st, Q => aopsDA P ops 0 st.nx [] st (KR ops.length ks st.nx Q)
  | .seq x y, st, Q => awA P m x st (KS (awA P m y) Q)
  | .cond k x y, st, Q => match st.e k with
    | .sc (.bool t) => if t = true then awA P m x st Q else awA P m y st Q
    | _ => False
  | .block id x, st, Q => awA P m x st (KB id Q)
  | .loop x, st, Q => lp m (awA P m x) st Q
  | .exit id, st, Q => Q (.exit id) st
  | .scope x, st, Q => awA P m x st (KC Q)
  | .ret, st, Q => Q .ret st
  | .keep ks x, st, Q => awA P m x ⟨keepS st.sl ks, st.hp, st.nx⟩ Q
  | .lab _, st, Q => Q .normal st
  | .goto l, st, Q => Q (.goto l) st
  | .scopeJ l x r, st, Q => awA P m x st (KJ l (awA P m r) Q)
  | .rgf f p x y, st, Q => RgA P m (awA P m x) (awA P m y) (st.e f) p st Q
def KL (m : Nat) (I : Nat → St → Prop) (k : Nat) (Q : Exit → St → Prop) : Exit → St → Prop := fun e s1 => match e with | .normal => ∃ k' ρ s2, k' < k ∧ I k' s2 ∧ Wk m ρ s1 s2 | e => Q e s1
def NextL (m : Nat) (I : Nat → St → Prop) (k : Nat) (s1 : St) : Prop := ∃ k' ρ s2, k' < k ∧ I k' s2 ∧ Wk m ρ s1 s2
theorem lpA {m : Nat} {B : St → (Exit → St → Prop) → Prop} {st : St} {Q : Exit → St → Prop} (I : Nat → St → Prop) (k : Nat) (ρ : List (Nat × Nat)) (s : St) (h0 : I k s) (hw : Wk m ρ st s)
    (hr : ∀ k s, I k s → B s (KL m I k Q)) : lp m B st Q := ⟨I, ⟨k, ρ, s, h0, hw⟩, hr⟩

section
variable {P : Program} {nid n : Nat} {st : St}
theorem aw1_eff {o : Oper} {K : St → Prop} (hd : dsk n o.dst) (hn : nilq P st o.op = none) (hc : ∀ fo args tys, o.op ≠ .call ⟨.value fo, args, tys⟩) {r : AV} {up : List (Nat × Option Ob)} {ob : Prop} (he : eff P nid st o.op = some (r, up, ob)) (hob : ob)
    (hK : K ((st.up up).put o.dst r)) : aw1 P n nid o st K := by
  refine ⟨hd, ?_⟩
  rw [hn]
  obtain ⟨dst, op, ty, pos, aft, gd⟩ := o
  simp only at hc he hK ⊢
  cases op with
  | call cc =>
    obtain ⟨callee, args, tys⟩ := cc
    cases callee with
    | value fo => exact absurd rfl (hc _ _ _)
    | _ => simp only [he]; exact ⟨hob, hK⟩
  | _ => simp only [he]; exact ⟨hob, hK⟩
theorem aw1D_eff {o : Oper} {K : List Nat → List Nat → St → Prop} (hd : dsk n o.dst) (hc : ∀ fo args tys, o.op ≠ .call ⟨.value fo, args, tys⟩) {r : AV} {up : List (Nat × Option Ob)} {ob : Prop} (he : eff P nid st o.op = some (r, up, ob)) (hob : ob)
    (hK : K (opids st o.op) (up.map (·.1)) ((st.up up).put o.dst r)) : aw1D P n nid o st K := by
  refine ⟨hd, ?_⟩
  obtain ⟨dst, op, ty, pos, aft, gd⟩ := o
  simp only at hc he hK ⊢
  cases op with
  | call cc =>
    obtain ⟨callee, args, tys⟩ := cc
    cases callee with
    | value fo => exact absurd rfl (hc _ _ _)
    | _ => simp only [he]; exact ⟨hob, hK⟩
  | _ => simp only [he]; exact ⟨hob, hK⟩
theorem coP_nil {op : Op} {e : Bool} {x y : AO} (h : coP P op = some (.nil e x y)) : ∃ b t x' y' ty el, op = .binOp b t x' y' ty ∧ elm P t = some el ∧ x = coO x' ∧ y = coO y' ∧ (b = .eql ∧ e = true ∨ b = .neq ∧ e = false) := by
  cases op with
  | binOp b t x' y' ty =>
    simp only [coP] at h
    split at h
    · rename_i hel
      obtain ⟨el, hel⟩ := Option.isSome_iff_exists.1 hel
      unfold coNil at h
      split at h
      · simp only [Option.some.injEq, AP.nil.injEq] at h
        obtain ⟨rfl, rfl, rfl⟩ := h
        exact ⟨_, _, _, _, _, el, rfl, hel, rfl, rfl, .inl ⟨rfl, rfl⟩⟩
      · simp only [Option.some.injEq, AP.nil.injEq] at h
        obtain ⟨rfl, rfl, rfl⟩ := h
        exact ⟨_, _, _, _, _, el, rfl, hel, rfl, rfl, .inr ⟨rfl, rfl⟩⟩
      · cases h
    · split at h
      · unfold coAeq at h
        (repeat' split at h) <;> cases h
      · split at h
        · unfold coPtr at h
          (repeat' split at h) <;> cases h
        · cases h
  | _ =>
    unfold coP at h
    (repeat' split at h) <;> first | (cases h; done) | contradiction | simp_all
theorem coP_cal {op : Op} {f : AO} {as : List AO} (h : coP P op = some (.cal f as)) : ∃ fo args tys, op = .call ⟨.value fo, args, tys⟩ ∧ f = coO fo ∧ as = args.toList.map coO := by
  cases op with
  | binOp b t x' y' ty =>
    simp only [coP] at h
    split at h
    · unfold coNil at h
      split at h <;> cases h
    · split at h
      · unfold coAeq at h
        (repeat' split at h) <;> cases h
      · split at h
        · unfold coPtr at h
          (repeat' split at h) <;> cases h
        · cases h
  | call cc =>
    obtain ⟨callee, args, tys⟩ := cc
    cases callee with
    | value fo =>
      simp only [coP, Option.some.injEq, AP.cal.injEq] at h
      obtain ⟨rfl, rfl⟩ := h
      exact ⟨_, _, _, rfl, rfl, rfl⟩
    | _ =>
      unfold coP at h
      (repeat' split at h) <;> first | (cases h; done) | contradiction | simp_all
  | _ =>
    unfold coP at h
    (repeat' split at h) <;> first | (cases h; done) | contradiction | simp_all
set_option maxHeartbeats 4000000 in
theorem coP_app {op : Op} {sz by' : Nat} {s x : AO} (h : coP P op = some (.app sz by' s x)) : ∃ args tys s' x' t t2 e z, op = .call ⟨.builtin .append, args, tys⟩ ∧ args.toList = [s', x'] ∧ tys.toList = [t, t2] ∧ s = coO s' ∧ x = coO x' ∧ elm P t = some e ∧ zrc P e = some z ∧ siz P e ≠ 0 ∧ z.length = siz P e ∧ ((elm P t2).isSome ∨ isStr P t2 = true) ∧ sz = siz P e ∧ by' = byt P e := by
  cases op with
  | binOp b t x' y' ty =>
    simp only [coP] at h
    split at h
    · unfold coNil at h
      split at h <;> cases h
    · split at h
      · unfold coAeq at h
        (repeat' split at h) <;> cases h
      · split at h
        · unfold coPtr at h
          (repeat' split at h) <;> cases h
        · cases h
  | call cc =>
    obtain ⟨callee, args, tys⟩ := cc
    cases callee with
    | value fo => simp only [coP, Option.some.injEq, reduceCtorEq] at h
    | builtin b =>
      cases b with
      | append =>
        simp only [coP] at h
        split at h
        · rename_i s' x' t t2 ha ht
          split at h
          · rename_i e hel
            split at h
            · rename_i z hz
              split at h
              · rename_i hh
                simp only [Option.some.injEq, AP.app.injEq] at h
                obtain ⟨rfl, rfl, rfl, rfl⟩ := h
                exact ⟨args, tys, s', x', t, t2, e, z, rfl, ha, ht, rfl, rfl, hel, hz, hh.1, hh.2.1, hh.2.2, rfl, rfl⟩
              · split at h
                · split at h
                  · cases h
                  · cases h
                · cases h
            · cases h
          · cases h
        · cases h
      | _ =>
        unfold coP at h
        (repeat' split at h) <;> first | (cases h; done) | contradiction | simp_all
    | _ =>
      unfold coP at h
      (repeat' split at h) <;> first | (cases h; done) | contradiction | simp_all
  | _ =>
    unfold coP at h
    (repeat' split at h) <;> first | (cases h; done) | contradiction | simp_all
theorem coP_pnil {op : Op} {e : Bool} {x : AO} (h : coP P op = some (.pnil e x)) : ∃ b t x' ty, op = .binOp b t x' (.const (.pointer none)) ty ∧ isPtr P t = true ∧ x = coO x' ∧ (b = .eql ∧ e = true ∨ b = .neq ∧ e = false) := by
  cases op with
  | binOp b t x' y' ty =>
    simp only [coP] at h
    split at h
    · unfold coNil at h
      split at h <;> cases h
    · split at h
      · unfold coAeq at h
        (repeat' split at h) <;> cases h
      · split at h
        · rename_i hp
          unfold coPtr at h
          split at h
          · split at h
            · simp only [Option.some.injEq, AP.pnil.injEq] at h
              obtain ⟨rfl, rfl⟩ := h
              exact ⟨_, _, _, _, rfl, hp, rfl, .inl ⟨rfl, rfl⟩⟩
            · simp only [Option.some.injEq, AP.pnil.injEq] at h
              obtain ⟨rfl, rfl⟩ := h
              exact ⟨_, _, _, _, rfl, hp, rfl, .inr ⟨rfl, rfl⟩⟩
            · cases h
          · cases h
        · cases h
  | call cc =>
    obtain ⟨callee, args, tys⟩ := cc
    cases callee with
    | value fo => simp only [coP, Option.some.injEq, reduceCtorEq] at h
    | _ =>
      unfold coP at h
      (repeat' split at h) <;> first | (cases h; done) | contradiction | simp_all
  | _ =>
    unfold coP at h
    (repeat' split at h) <;> first | (cases h; done) | contradiction | simp_all
theorem nilq_none {op : Op} {p : AP} (h : coP P op = some p) (hp : ∀ e x y, p ≠ .nil e x y) : nilq P st op = none := by
  unfold nilq
  split
  · rename_i b t x y ty
    split
    · rename_i hx hy hel
      simp only [coP, coNil, hel, Option.isSome_some, if_true, Option.some.injEq] at h
      exact absurd h.symm (hp _ _ _)
    · rename_i hx hy hel
      simp only [coP, coNil, hel, Option.isSome_some, if_true, Option.some.injEq] at h
      exact absurd h.symm (hp _ _ _)
    · rfl
  · rfl
theorem notcal {op : Op} {p : AP} (h : coP P op = some p) (hp : ∀ f as, p ≠ .cal f as) : ∀ fo args tys, op ≠ .call ⟨.value fo, args, tys⟩ := by
  rintro fo args tys rfl
  simp only [coP, Option.some.injEq] at h
  exact hp _ _ h.symm
theorem opidsA_eq (op : Op) : opidsA st (op.operands.toList.map coO) = opids st op := by
  unfold opidsA opids
  rw [List.flatMap_map]
  simp only [e_co]
theorem aw1A_imp {o : Oper} {p : AP} {a : AOp} {K : St → Prop} (hc : coP P o.op = some p) (ha : a.op = p) (hdst : a.dst = o.dst) (hd : dsk n o.dst) (h : aw1A0 P nid a st K) : aw1 P n nid o st K := by
  unfold aw1A0 at h
  rw [ha, hdst] at h
  split at h
  · rename_i e x y
    obtain ⟨b, t, x', y', ty, el, ho, hel, rfl, rfl, hb⟩ := coP_nil hc
    rw [e_co, e_co] at h
    split at h
    · rename_i m cells hx hy
      refine ⟨hd, ?_⟩
      rcases hb with ⟨rfl, rfl⟩ | ⟨rfl, rfl⟩
      · simp only [ho, nilq, hx, hy, hel]
        exact h
      · simp only [ho, nilq, hx, hy, hel]
        exact h
    · exact h.elim
  · rename_i fo as
    obtain ⟨fo', args, tys, ho, rfl, rfl⟩ := coP_cal hc
    rw [e_co, e_cos] at h
    refine ⟨hd, ?_⟩
    simp only [ho, nilq]
    split at h
    · rename_i f caps hf
      simp only [hf]
      exact h
    · exact h.elim
  · rename_i h1 h2
    split at h
    · rename_i r up ob he
      obtain ⟨ob', e1, e2⟩ := effA_sound hc he h.1
      exact aw1_eff hd (nilq_none hc h1) (notcal hc h2) e1 e2 h.2
    · exact h.elim
theorem aw1DA_imp {o : Oper} {p : AP} {a : AOp} {K : List Nat → List Nat → St → Prop} (hc : coP P o.op = some (stripP p)) (ha : a.op = p) (hdst : a.dst = o.dst) (hos : a.os = o.op.operands.toList.map coO) (hd : dsk n o.dst) (h : aw1DA P nid a st K) : aw1D P n nid o st K := by
  unfold aw1DA at h
  rw [ha, hdst, hos, opidsA_eq] at h
  split at h
  · exact h.elim
  · rename_i ps fo as
    obtain ⟨fo', args, tys, ho, rfl, rfl⟩ := coP_cal hc
    rw [e_co, e_cos] at h
    refine ⟨hd, ?_⟩
    rw [ho] at h ⊢
    simp only
    split at h
    · rename_i f caps hf
      simp only [hf]
      exact ⟨h.1, .inr ⟨ps, h.2⟩⟩
    · rename_i f x hf
      simp only [hf]
      exact ⟨h.1, ps, h.2⟩
    · exact h.elim
  · rename_i fo as
    obtain ⟨fo', args, tys, ho, rfl, rfl⟩ := coP_cal hc
    rw [e_co, e_cos] at h
    refine ⟨hd, ?_⟩
    rw [ho] at h ⊢
    simp only
    split at h
    · rename_i f caps hf
      simp only [hf]
      exact ⟨h.1, .inl h.2⟩
    · exact h.elim
  · rename_i h1 h0 h2
    have hs : stripP p = p := by
      cases p with
      | calM f as => exact h.elim
      | appR sz b' s x => exact h.elim
      | calG ps f as => exact absurd rfl (h0 ps f as)
      | _ => rfl
    rw [hs] at hc
    split at h
    · rename_i r up ob he
      obtain ⟨ob', e1, e2⟩ := effA_sound hc he h.1
      exact aw1D_eff hd (notcal hc h2) e1 e2 h.2
    · exact h.elim
theorem aw1D_mono {o : Oper} {K K' : List Nat → List Nat → St → Prop} (h : aw1D P n nid o st K) (hk : ∀ r w s, K r w s → K' r w s) : aw1D P n nid o st K' := by
  obtain ⟨hd, h⟩ := h
  refine ⟨hd, ?_⟩
  obtain ⟨dst, op, ty, pos, aft, gd⟩ := o
  simp only at h ⊢
  revert h
  have e : (match eff P nid st op with | some (r, up, ob) => ob ∧ K (opids st op) (up.map (·.1)) ((st.up up).put dst r) | none => False) → (match eff P nid st op with | some (r, up, ob) => ob ∧ K' (opids st op) (up.map (·.1)) ((st.up up).put dst r) | none => False) := by
    cases eff P nid st op with
    | none => exact id
    | some x => exact fun h => ⟨h.1, hk _ _ _ h.2⟩
  cases op with
  | call cc =>
    obtain ⟨callee, args, tys⟩ := cc
    cases callee with
    | value fo =>
      simp only
      cases st.ev fo with
      | fn f caps =>
        simp only
        rintro ⟨g1, g2⟩
        refine ⟨g1, ?_⟩
        rcases g2 with g2 | ⟨ps, g2⟩
        · refine .inl ?_
          revert g2
          cases frzs st (args.toList.map st.ev ++ caps) with
          | none => exact id
          | some x =>
            rintro ⟨hob, h1, r, hcon, hh, hK⟩
            exact ⟨hob, h1, r, hcon, hh, hk _ _ _ hK⟩
        · exact .inr ⟨ps, calG_mono g2 (fun wr s h => hk _ _ _ h)⟩
      | bf f x =>
        simp only
        rintro ⟨g1, ps, g2⟩
        exact ⟨g1, ps, calG_mono g2 (fun wr s h => hk _ _ _ h)⟩
      | _ => exact id
    | _ => exact e
  | _ => exact e
def TabOK (ops : Array Oper) (tab : List Nat) : Prop := ∀ i k : Nat, (tab.getD i 0).testBit k = true → ∀ f, i < f → ancF ops k f i = true
theorem msk1_spec (tab : List Nat) (k : Nat) : ∀ (es : List Edge) (acc : Nat), (msk1 tab es acc).testBit k = true → acc.testBit k = true ∨ ∃ e ∈ es, Region.binds .any e = true ∧ (e.on = k ∨ (tab.getD e.on 0).testBit k = true) := by
  intro es
  induction es with
  | nil => intro acc h; exact .inl h
  | cons e r ih =>
    intro acc h
    rcases ih _ h with h | ⟨e', h1, h2⟩
    · split at h
      · rename_i hb
        rw [Nat.testBit_or, Nat.testBit_or, Bool.or_eq_true, Bool.or_eq_true] at h
        rcases h with (h | h) | h
        · exact .inl h
        · refine .inr ⟨e, List.mem_cons_self .., hb, .inl ?_⟩
          rw [Nat.one_shiftLeft, Nat.testBit_two_pow] at h
          simpa using h
        · exact .inr ⟨e, List.mem_cons_self .., hb, .inr h⟩
      · exact .inl h
    · exact .inr ⟨e', List.mem_cons_of_mem _ h1, h2⟩
theorem msks_spec {ops : Array Oper} : ∀ (l : List Oper) (tab : List Nat), TabOK ops tab → ops.toList = ops.toList.take tab.length ++ l → tab.length + l.length = ops.size → TabOK ops (msks l tab) := by
  intro l
  induction l with
  | nil => intro tab h _ _; exact h
  | cons o r ih =>
    intro tab h he hl
    have ho : ops[tab.length]? = some o := by
      rw [← Array.getElem?_toList, he, List.getElem?_append_right (by simp; omega)]
      have : (List.take tab.length ops.toList).length = tab.length := by simp at hl ⊢; omega
      rw [this]; simp
    refine ih _ ?_ ?_ (by simp at hl ⊢; omega)
    · intro i k hb f hf
      by_cases hi : i < tab.length
      · refine h i k ?_ f hf
        rw [List.getD_eq_getElem?_getD, List.getElem?_append_left hi, ← List.getD_eq_getElem?_getD] at hb
        exact hb
      · by_cases hi2 : i = tab.length
        · subst hi2
          have e : (tab ++ [msk1 tab o.after.toList 0]).getD tab.length 0 = msk1 tab o.after.toList 0 := by simp [List.getD_eq_getElem?_getD]
          rw [e] at hb
          rcases msk1_spec tab k _ _ hb with hb | ⟨e, he1, he2, he3⟩
          · simp at hb
          · cases f with
            | zero => omega
            | succ f =>
              simp only [ancF, ho]
              rw [Array.any_eq_true']
              refine ⟨e, by simpa using he1, ?_⟩
              rw [Bool.and_eq_true]
              refine ⟨he2, ?_⟩
              rcases he3 with rfl | he3
              · simp
              · have : e.on < tab.length := by
                  by_cases hh : e.on < tab.length
                  · exact hh
                  · rw [List.getD_eq_getElem?_getD, List.getElem?_eq_none (by omega)] at he3
                    simp at he3
                rw [h _ _ he3 f (by omega)]
                simp
        · rw [List.getD_eq_getElem?_getD, List.getElem?_eq_none (by simp; omega)] at hb
          simp at hb
    · have e2 : tab.length < ops.toList.length := by simp at hl ⊢; omega
      have e3 : ops.toList[tab.length] = o := by
        have := ho
        rw [← Array.getElem?_toList, List.getElem?_eq_getElem e2] at this
        exact Option.some.inj this
      rw [show (tab ++ [msk1 tab o.after.toList 0]).length = tab.length + 1 by simp, List.take_add_one, List.getElem?_eq_getElem e2, e3]
      simp only [Option.toList_some, List.append_assoc, List.singleton_append]
      exact he
theorem tab_ok (ops : Array Oper) : TabOK ops (msks ops.toList []) := by
  refine msks_spec ops.toList [] ?_ (by simp) (by simp)
  intro i k h
  simp at h
theorem tab_anc {ops : Array Oper} {tab : List Nat} (h : TabOK ops tab) {i k : Nat} (hi : i < ops.size) (hb : (tab.getD i 0).testBit k = true) : ancB ops k i = true := h i k hb _ hi
theorem stat2_ok {ops : Array Oper} {tab : List Nat} (h : TabOK ops tab) (hs : stat2 ops tab = true) : statOK ops = true := by
  unfold stat2 at hs
  unfold statOK
  rw [List.all_eq_true] at hs ⊢
  intro j hj
  have := hs j hj
  have hj' : j < ops.size := List.mem_range.1 hj
  split at this
  · rename_i o ho
    simp only [ho]
    rw [Bool.and_eq_true] at this ⊢
    refine ⟨this.1, ?_⟩
    have h2 := this.2
    rw [List.all_eq_true] at h2 ⊢
    intro k hk
    have h3 := h2 k hk
    split at h3
    · rename_i x hx
      simp only [hx]
      rw [Bool.or_eq_true] at h3 ⊢
      exact h3.imp (fun hb => tab_anc h hj' hb) id
    · rename_i hx
      simp only [hx]
  · rename_i ho
    simp only [ho]
theorem coOp_spec {ops : Array Oper} {D : Bool} {i m : Nat} {o : Oper} {a : AOp} (h : coOp P n ops D i m o = some a) :
    coP P o.op = some a.op ∧ coG ops o.guard = some a.g ∧ dsk n o.dst ∧ a.dst = o.dst ∧ (D = true → a.os = o.op.operands.toList.map coO ∧ a.us = (List.range i).filter (fun j => !m.testBit j)) := by
  unfold coOp at h
  split at h
  · rename_i p g h1 h2 h3
    simp only [Option.some.injEq] at h
    subst h
    refine ⟨h1, h2, dskB_ok h3, rfl, ?_⟩
    rintro rfl
    exact ⟨rfl, rfl⟩
  · cases h
theorem coOps_cons {ops : Array Oper} {D : Bool} {tab : List Nat} {i : Nat} {o : Oper} {r : List Oper} {l : List AOp} (h : coOps P n ops D tab (o :: r) i = some l) : ∃ a l', l = a :: l' ∧ coOp P n ops D i (tab.getD i 0) o = some a ∧ coOps P n ops D tab r (i + 1) = some l' := by
  simp only [coOps] at h
  split at h
  · rename_i a l' h1 h2
    simp only [Option.some.injEq] at h
    exact ⟨a, l', h.symm, h1, h2⟩
  · cases h
end
section
variable {c : Cx}
theorem run_nil_slice {a : Act} {w : World} {t e yt ty : TypeId} {x y : Operand} {pos : String} {aft : Array Edge} {gd : Option (Nat × Bool)} {dst : Option Nat} {A : Option Addr} {n cp : Nat} {b : BinOp} {eq : Bool} (hb : b = .eql ∧ eq = true ∨ b = .neq ∧ eq = false)
    (hel : elm c.P t = some e) (hx : a.eval x = .slice A n cp) (hy : a.eval y = .slice none 0 0) : (execOp a.eval ⟨dst, .binOp b t x y yt, ty, pos, aft, gd⟩).run c.P w = .ok (.value (.bool (A.isNone == eq))) w := by
  have e1 : (Op.equal t (.slice A n cp) (.slice none 0 0)).run c.P w = .ok A.isNone w := run_equal_slice_nil w t e A n cp (elm_spec hel)
  rcases hb with ⟨rfl, rfl⟩ | ⟨rfl, rfl⟩
  · have e2 : (binOp .eql t (.slice A n cp) (.slice none 0 0)).run c.P w = .ok (.bool A.isNone) w := by
      show (do pure (.bool (← Op.equal t (.slice A n cp) (.slice none 0 0))) : Sem Value).run c.P w = _
      rw [Sem.run_bind, e1]; rfl
    simp only [execOp, hx, hy, eqGuard_at_slice]
    rw [Sem.run_bind, Sem.run_bind, Sem.run_pure]
    simp only [Result.andThen_ok, e2]
    rw [beq_true]; rfl
  · have e2 : (binOp .neq t (.slice A n cp) (.slice none 0 0)).run c.P w = .ok (.bool (!A.isNone)) w := run_neq_slice_nil w t e A n cp (elm_spec hel)
    simp only [execOp, hx, hy, eqGuard_at_slice]
    rw [Sem.run_bind, Sem.run_bind, Sem.run_pure]
    simp only [Result.andThen_ok, e2]
    rw [beq_false]; rfl
theorem run_nil_ptr {a : Act} {w : World} {t yt ty : TypeId} {x : Operand} {pos : String} {aft : Array Edge} {gd : Option (Nat × Bool)} {dst : Option Nat} {p : Option Addr} {b : BinOp} {eq : Bool} (hb : b = .eql ∧ eq = true ∨ b = .neq ∧ eq = false)
    (hp : isPtr c.P t = true) (hx : a.eval x = .pointer p) : (execOp a.eval ⟨dst, .binOp b t x (.const (.pointer none)) yt, ty, pos, aft, gd⟩).run c.P w = .ok (.value (.bool (p.isNone == eq))) w := by
  have ht : c.P.underlying t = some (.pointer (c.P.pointee t)) := by
    obtain ⟨e, he⟩ := isPtr_spec hp
    rw [he, show c.P.pointee t = e from by simp [Program.pointee, he]]
  have hy : a.eval (.const (.pointer none)) = .pointer none := rfl
  have hg : ∀ (q : BinOp) (u v : Operand), eqGuard q t u v (.pointer p) (.pointer none) = pure () := by
    intro q u v
    unfold eqGuard
    cases q <;> rfl
  rcases hb with ⟨rfl, rfl⟩ | ⟨rfl, rfl⟩
  · simp only [execOp, hx, hy, hg]
    rw [Sem.run_bind, Sem.run_bind, Sem.run_pure]
    simp only [Result.andThen_ok, run_eql_pointer_nil w t p ht]
    rw [beq_true]; rfl
  · simp only [execOp, hx, hy, hg]
    rw [Sem.run_bind, Sem.run_bind, Sem.run_pure]
    simp only [Result.andThen_ok, run_neq_pointer_nil w t p ht]
    rw [beq_false]; rfl
theorem aw1A_sound {L : Lay} {F : Nat → Prop} {st : St} {a : Act} {w : World} {nid : Nat} {o : Oper} {b : AOp} {K : St → Prop} (hc : coP c.P o.op = some (stripP b.op)) (hdst : b.dst = o.dst) (hd : dsk c.n o.dst) (h : aw1A c.P nid b st K) (hF : F nid) (hr : Rel c L F st a w)
    (Kc : Act → World → Prop) (Q : Exit → Act → World → Prop) (hK : ∀ s L' a' w', K s → Rel c L' (fun j => F j ∧ j ≠ nid) s a' w' → Kc a' w') : o.wp c.P a w Kc Q := by
  have hd' : ∀ k, o.dst = some k → k < c.n := by intro k hk; rw [hk] at hd; exact hd
  have old : aw1A0 c.P nid b st K → stripP b.op = b.op → o.wp c.P a w Kc Q := by
    intro h0 e
    rw [e] at hc
    exact aw1_sound (aw1A_imp hc rfl hdst hd h0) hF hr Kc Q hK
  have val : ∀ (bb : Bool), (execOp a.eval o).run c.P w = .ok (.value (.bool bb)) w → K (st.put o.dst (.sc (.bool bb))) → o.wp c.P a w Kc Q := by
    intro bb hrun hk
    unfold Oper.wp
    rw [hrun]
    exact hK _ L _ _ hk ((hr.put hd' (.sc _ _)).mono (fun j hj => hj.1))
  unfold aw1A at h
  split at h
  · rename_i sz by' s x hm
    rw [hm] at hc
    obtain ⟨args, tys, s', x', t, t2, e, z, ho, ha, ht, rfl, rfl, hel, hz, g1, g2, g3, rfl, rfl⟩ := coP_app hc
    rw [e_co, e_co, hdst] at h
    split at h
    · rename_i r up ob he
      obtain ⟨hob, hk⟩ := h
      have hR : ∃ ob', aapR c.P nid st t t2 (st.ev s') (st.ev x') = some (r, up, ob') ∧ ob' := by
        unfold appF at he
        unfold aapR
        rw [hel]
        simp only
        cases hsrc : src st (siz c.P e) (st.ev x') with
        | none => rw [hsrc] at he; cases he
        | some y =>
          obtain ⟨m, cs, ob1⟩ := y
          rw [hsrc] at he
          simp only at he ⊢
          cases hs : st.ev s' with
          | nl =>
            rw [hs] at he
            simp only [Option.some.injEq, Prod.mk.injEq] at he ⊢
            obtain ⟨rfl, rfl, rfl⟩ := he
            exact ⟨_, ⟨rfl, rfl, rfl⟩, hob.1, hob.2.1, g1, ⟨z, hz, g2⟩, g3, hob.2.2⟩
          | lv id off n =>
            rw [hs] at he
            simp only at he ⊢
            cases ho2 : look st.hp id with
            | none => rw [ho2] at he; cases he
            | some o2 =>
              rw [ho2] at he
              simp only [Option.some.injEq, Prod.mk.injEq] at he ⊢
              obtain ⟨rfl, rfl, rfl⟩ := he
              exact ⟨_, ⟨rfl, rfl, rfl⟩, hob.1, hob.2.1, g1, ⟨z, hz, g2⟩, g3, hob.2.2⟩
          | _ => rw [hs] at he; cases he
      obtain ⟨ob', e1, e2⟩ := hR
      obtain ⟨dst, op, ty, pos, aft, gd⟩ := o
      simp only at ho
      subst ho
      obtain ⟨w', L', hR, hv⟩ := acts_appendR (dst := dst) (ty := ty) (pos := pos) (aft := aft) (gd := gd) hr hF ha ht e1 e2
      unfold Oper.wp
      rcases hv with ⟨v, h1, h2⟩ | ⟨h1, rfl⟩
      · rw [h1]
        exact hK _ _ _ _ hk (hR.put hd' h2)
      · rw [h1]
        exact hK _ _ _ _ hk (hR.put hd' (.un _ _))
    · exact h.elim
  · rename_i ps fo as hm
    rw [hm] at hc
    obtain ⟨fo', args, tys, ho, rfl, rfl⟩ := coP_cal hc
    simp only [e_co, e_cos, hdst] at h
    split at h
    · rename_i f caps hf
      obtain ⟨hcl, h⟩ := h
      unfold calG at h
      split at h
      · rename_i hdd hhd
        split at h
        · rename_i hp0 p0 as ls pr hhob hfr
          obtain ⟨hnd, hp0', hob, hls, obs, h1, r, hlen, hcon, hok, hk⟩ := h
          exact does_callG hF (entersF ho hf hcl) hnd hhob hp0' hfr hob hls hlen hcon hd' hok L a w Kc Q hr (fun L' a' w' hR => hK _ L' a' w' hk hR)
        · exact h.elim
      · exact h.elim
    · rename_i f x hf
      obtain ⟨hcl, h⟩ := h
      unfold calG at h
      split at h
      · rename_i hdd hhd
        split at h
        · rename_i hp0 p0 as ls pr hhob hfr
          obtain ⟨hnd, hp0', hob, hls, obs, h1, r, hlen, hcon, hok, hk⟩ := h
          exact does_callG hF (entersB ho hf hcl) hnd hhob hp0' hfr hob hls hlen hcon hd' hok L a w Kc Q hr (fun L' a' w' hR => hK _ L' a' w' hk hR)
        · exact h.elim
      · exact h.elim
    · exact h.elim
  · rename_i fo as hm
    rw [hm] at hc
    obtain ⟨fo', args, tys, ho, rfl, rfl⟩ := coP_cal hc
    simp only [e_co, e_cos, hdst] at h
    split at h
    · rename_i f caps hf
      obtain ⟨hcl, h⟩ := h
      unfold calMR at h
      split at h
      · rename_i id rest hraw
        split at h
        · rename_i ob as ls pr hid hfr
          obtain ⟨g1, g2, g3, g4, g5, ob', h1, r, hcon, hok, hk⟩ := h
          exact does_callM hF ho hf hcl hraw hid g1 g2 g3 hfr g4 g5 hcon hd' hok L a w Kc Q hr (fun L' a' w' hR => hK _ L' a' w' hk hR)
        · exact h.elim
      · exact h.elim
    · exact h.elim
  · rename_i e x hm
    rw [hm] at hc
    obtain ⟨bp, t, x', yt, ho, hp, rfl, hb⟩ := coP_pnil hc
    rw [e_co, hdst] at h
    have hx := hr.ev x'
    obtain ⟨dst, op, ty, pos, aft, gd⟩ := o
    simp only at ho
    subst ho
    unfold pnA at h
    split at h
    · rename_i id off hex
      rw [hex] at hx
      obtain ⟨B, hB⟩ := isSome_live hr h.1
      have hxe := hx.pt_eq hB
      refine val (!e) ?_ h.2
      have := run_nil_ptr (c := c) (w := w) (yt := yt) (ty := ty) (pos := pos) (aft := aft) (gd := gd) (dst := dst) hb hp hxe
      rw [this]
      cases e <;> rfl
    · rename_i cs off hex
      rw [hex] at hx
      obtain ⟨bb, oo, g, hxe, _⟩ := hx.fp_eq
      refine val (!e) ?_ h
      have := run_nil_ptr (c := c) (w := w) (yt := yt) (ty := ty) (pos := pos) (aft := aft) (gd := gd) (dst := dst) hb hp hxe
      rw [this]
      cases e <;> rfl
    · rename_i hex
      rw [hex] at hx
      have hxe := hx.sc_eq
      refine val e ?_ h
      have := run_nil_ptr (c := c) (w := w) (yt := yt) (ty := ty) (pos := pos) (aft := aft) (gd := gd) (dst := dst) hb hp hxe
      rw [this]
      cases e <;> rfl
    · exact h.elim
  · rename_i e x y hm
    have hs : stripP b.op = b.op := by rw [hm]; rfl
    split at h
    · rename_i hex hey
      have hc' := hc
      rw [hm] at hc'
      obtain ⟨bp, t, x', y', yt, el, ho, hel, rfl, rfl, hb⟩ := coP_nil hc'
      rw [e_co] at hex hey
      have hx := hr.ev x'
      have hy := hr.ev y'
      rw [hex] at hx
      rw [hey] at hy
      rw [hdst] at h
      obtain ⟨dst, op, ty, pos, aft, gd⟩ := o
      simp only at ho
      subst ho
      refine val e ?_ h
      have := run_nil_slice (c := c) (w := w) (yt := yt) (ty := ty) (pos := pos) (aft := aft) (gd := gd) (dst := dst) hb hel hx.nl_eq hy.nl_eq
      rw [this]
      cases e <;> rfl
    · rename_i id off n hex hey
      have hc' := hc
      rw [hm] at hc'
      obtain ⟨bp, t, x', y', yt, el, ho, hel, rfl, rfl, hb⟩ := coP_nil hc'
      rw [e_co] at hex hey
      have hx := hr.ev x'
      have hy := hr.ev y'
      rw [hex] at hx
      rw [hey] at hy
      rw [hdst] at h
      obtain ⟨B, hB⟩ := isSome_live hr h.1
      obtain ⟨A, cap, hxe, k1, k2, k3⟩ := hx.lv_eq hB
      obtain ⟨dst, op, ty, pos, aft, gd⟩ := o
      simp only at ho
      subst ho
      have := run_nil_slice (c := c) (w := w) (yt := yt) (ty := ty) (pos := pos) (aft := aft) (gd := gd) (dst := dst) hb hel hxe hy.nl_eq
      refine val (A.isNone == e) this (h.2 A.isNone (fun hn => ?_))
      by_cases hc0 : 0 < cap
      · rw [k2 hc0] at hn; cases hn
      · omega
    · exact old h hs
  · rename_i hnR hn0 hn1 hn2 hn3
    refine old h ?_
    unfold stripP
    split
    · rename_i f as e; exact absurd e (hn1 f as)
    · rename_i ps f as e; exact absurd e (hn0 ps f as)
    · rename_i sz b' s x e; exact absurd e (hnR sz b' s x)
    · rfl
theorem aopsA_sound {ops : Array Oper} {tab : List Nat} {Qc : Exit → Act → World → Prop} : ∀ (l : List Oper) (i : Nat) (la : List AOp) (nid : Nat) (st : St) (L : Lay) (F : Nat → Prop) (a : Act) (w : World) (K : St → Prop), coOps c.P c.n ops false tab l i = some (la.map stripO) → aopsA c.P la nid st K → (∀ j, nid ≤ j → F j) → Rel c L F st a w →
    (∀ s L' a' w', K s → Rel c L' (fun j => F j ∧ nid + l.length ≤ j) s a' w' → Qc .normal a' w') → wpList c.P ops Qc l a w := by
  intro l
  induction l with
  | nil =>
    intro i la nid st L F a w K hc h hF hr hK
    simp only [coOps, Option.some.injEq] at hc
    obtain rfl : la = [] := by
      cases la with
      | nil => rfl
      | cons x y => simp at hc
    exact hK st L a w h (hr.mono (fun j hj => hj.1))
  | cons o l ih =>
    intro i la nid st L F a w K hc h hF hr hK
    obtain ⟨b0, l0, hla, ha, hrr⟩ := coOps_cons hc
    obtain ⟨b, lb, rfl, rfl, rfl⟩ : ∃ b lb, la = b :: lb ∧ b0 = stripO b ∧ l0 = lb.map stripO := by
      cases la with
      | nil => simp at hla
      | cons x y => simp only [List.map_cons, List.cons.injEq] at hla; exact ⟨x, y, rfl, hla.1.symm, hla.2.symm⟩
    obtain ⟨h1, h2, h3, h4, _⟩ := coOp_spec ha
    have h1' : coP c.P o.op = some (stripP b.op) := h1
    have h2' : coG ops o.guard = some b.g := h2
    have h4' : b.dst = o.dst := h4
    have next : ∀ s L' a' w', KO (aopsA c.P lb) (nid + 1) K s → Rel c L' (fun j => F j ∧ j ≠ nid) s a' w' → wpList c.P ops Qc l a' w' := by
      intro s L' a' w' hs hR
      refine ih (i + 1) lb (nid + 1) s L' (fun j => F j ∧ nid + 1 ≤ j) a' w' K hrr hs (fun j hj => ⟨hF j (by omega), hj⟩) (hR.mono (fun j hj => ⟨hj.1, by omega⟩)) (fun s2 L2 a2 w2 k1 k2 => hK s2 L2 a2 w2 k1 (k2.mono (fun j hj => ?_)))
      simp only [List.length_cons] at hj
      exact ⟨⟨hj.1, by omega⟩, by omega⟩
    have h' : agdA c.P nid b st (KO (aopsA c.P lb) (nid + 1) K) := h
    unfold agdA at h'
    refine wpList_step fun Kw hKw => ?_
    cases hg : o.guard with
    | none =>
      rw [hg] at h2'
      simp only [coG, Option.some.injEq] at h2'
      rw [← h2'] at h'
      rw [if_pos (by simp [Region.wanted, hg])]
      exact aw1A_sound h1' h4' h3 h' (hF nid (Nat.le_refl _)) hr Kw Qc (fun s L' a' w' hs hR => hKw _ _ (next s L' a' w' hs hR))
    | some jw =>
      obtain ⟨j, want⟩ := jw
      rw [hg] at h2'
      simp only [coG] at h2'
      split at h2'
      · rename_i d hd
        simp only [Option.some.injEq] at h2'
        rw [← h2'] at h'
        simp only at h'
        split at h'
        · rename_i bb hst
          have hv := hr.slot d
          rw [hst] at hv
          have hb := hv.sc_eq
          have hlt : d < a.tmps.size := by
            by_cases hh : d < a.tmps.size
            · exact hh
            · simp [Array.getD, hh, undef] at hb
          have hget : a.tmps[d]? = some (.bool bb) := by
            simp [Array.getD, hlt] at hb
            simp [hlt, hb]
          have hy : yielded ops a.tmps j = some bb := by
            unfold yielded
            rw [hd]
            simp [hget]
          by_cases hbw : bb = want
          · rw [if_pos (by simp [Region.wanted, hg, hy, hbw])]
            exact aw1A_sound h1' h4' h3 (by rwa [if_pos hbw] at h') (hF nid (Nat.le_refl _)) hr Kw Qc (fun s L' a' w' hs hR => hKw _ _ (next s L' a' w' hs hR))
          · rw [if_neg (by simp [Region.wanted, hg, hy, hbw])]
            rw [if_neg hbw, h4'] at h'
            have hd' : ∀ k, o.dst = some k → k < c.n := by
              intro k hk
              rw [hk] at h3
              exact h3
            exact hKw _ _ (next _ L _ _ h' ((hr.put hd' (.sc _ _)).mono (fun j hj => hj.1)))
        · rename_i v hnb hst
          obtain ⟨rfl, h'⟩ := h'
          have hv := hr.slot d
          rw [hst] at hv
          have hy := yielded_undef hd hv.sc_eq
          rw [if_neg (by simp [Region.wanted, hg, hy])]
          rw [h4'] at h'
          have hd' : ∀ k, o.dst = some k → k < c.n := by
            intro k hk
            rw [hk] at h3
            exact h3
          exact hKw _ _ (next _ L _ _ h' ((hr.put hd' (.sc _ _)).mono (fun j hj => hj.1)))
        · exact h'.elim
      · cases h2'
end
section
variable {P : Program} {n : Nat}
theorem nocf_of {ops : Array Oper} {i m : Nat} {rd wr : List Nat} (hm : ∀ j, m.testBit j = true → ancB ops j i = true) : ∀ (dn : List (Nat × List Nat × List Nat)), (∀ q ∈ dn, q.1 < i) → nocfA ((List.range i).filter (fun j => !m.testBit j)) rd wr dn → nocf ops i rd wr dn
  | [], _, _ => trivial
  | (j, r1, w1) :: dn, hq, h => by
    refine ⟨?_, nocf_of hm dn (fun q hm => hq q (List.mem_cons_of_mem _ hm)) h.2⟩
    by_cases ha : m.testBit j = true
    · exact .inr (hm _ ha)
    · refine .inl (h.1 ?_)
      have hj : j < i := hq (j, r1, w1) (List.mem_cons_self ..)
      rw [List.contains_iff_mem, List.mem_filter]
      exact ⟨List.mem_range.2 hj, by simpa using ha⟩
theorem aopsDA_imp {ops : Array Oper} {tab : List Nat} (ht : TabOK ops tab) : ∀ (l : List Oper) (i : Nat) (la : List AOp) (nid : Nat) (dn : List (Nat × List Nat × List Nat)) (st : St) (K : St → Prop), coOps P n ops true tab l i = some (la.map stripO) → i + l.length ≤ ops.size → (∀ q ∈ dn, q.1 < i) → aopsDA P la i nid dn st K → aopsD P n ops l i nid dn st K := by
  intro l
  induction l with
  | nil =>
    intro i la nid dn st K hc hsz hq h
    simp only [coOps, Option.some.injEq] at hc
    obtain rfl : la = [] := by
      cases la with
      | nil => rfl
      | cons x y => simp at hc
    exact h
  | cons o r ih =>
    intro i la nid dn st K hc hsz hq h
    rw [List.length_cons] at hsz
    obtain ⟨b0, l0, hla, ha, hr⟩ := coOps_cons hc
    obtain ⟨a, l', rfl, rfl, rfl⟩ : ∃ b lb, la = b :: lb ∧ b0 = stripO b ∧ l0 = lb.map stripO := by
      cases la with
      | nil => simp at hla
      | cons x y => simp only [List.map_cons, List.cons.injEq] at hla; exact ⟨x, y, rfl, hla.1.symm, hla.2.symm⟩
    obtain ⟨h1, h2, h3, h4, h5⟩ := coOp_spec ha
    obtain ⟨h5, h6⟩ := h5 rfl
    have h1 : coP P o.op = some (stripP a.op) := h1
    have h2 : coG ops o.guard = some a.g := h2
    have h4 : a.dst = o.dst := h4
    have h5 : a.os = o.op.operands.toList.map coO := h5
    have h6 : a.us = (List.range i).filter (fun j => !(tab.getD i 0).testBit j) := h6
    have hk : ∀ rd wr s, KOD (aopsDA P l') a.us i nid dn K rd wr s → nocf ops i rd wr dn ∧ aopsD P n ops r (i + 1) (nid + 1) ((i, rd, wr) :: dn) s K := by
      intro rd wr s hs
      obtain ⟨k1, k2⟩ := hs
      rw [h6] at k1
      refine ⟨nocf_of (fun j hj => tab_anc ht (by omega) hj) dn hq k1, ih _ _ _ _ _ _ hr (by omega) ?_ k2⟩
      intro q hm
      rcases List.mem_cons.1 hm with rfl | hm
      · exact Nat.lt_succ_self i
      · exact Nat.lt_succ_of_lt (hq q hm)
    show agdD P n nid ops o st _
    have h' : agdDA P nid a st (KOD (aopsDA P l') a.us i nid dn K) := h
    unfold agdDA at h'
    unfold agdD
    cases hg : o.guard with
    | none =>
      rw [hg] at h2
      simp only [coG, Option.some.injEq] at h2
      rw [← h2] at h'
      exact aw1D_mono (aw1DA_imp h1 rfl h4 h5 h3 h') hk
    | some jw =>
      obtain ⟨j, want⟩ := jw
      rw [hg] at h2
      simp only [coG] at h2
      split at h2
      · rename_i d hd
        simp only [Option.some.injEq] at h2
        rw [← h2] at h'
        simp only [hd]
        simp only at h'
        split at h'
        · rename_i b hb
          simp only [hb]
          split
          · rename_i hbw
            rw [if_pos hbw] at h'
            exact aw1D_mono (aw1DA_imp h1 rfl h4 h5 h3 h') hk
          · rename_i hbw
            rw [if_neg hbw, h4] at h'
            exact ⟨h3, hk _ _ _ h'⟩
        · rename_i v hnb hst
          obtain ⟨rfl, h'⟩ := h'
          rw [h4] at h'
          rw [hst]
          exact ⟨rfl, h3, hk _ _ _ h'⟩
        · exact h'.elim
      · cases h2

theorem look_keepS (ks : List Nat) : ∀ (sl : List (Nat × AV)) (t : Nat), look (keepS sl ks) t = look sl t ∨ look (keepS sl ks) t = none
  | [], t => .inl rfl
  | x :: xs, t => by
    simp only [keepS]
    split
    · simp only [look]
      split
      · exact .inl rfl
      · exact look_keepS ks xs t
    · rename_i hk
      simp only [look]
      by_cases hx : x.1 = t
      · rw [if_pos hx]
        right
        have : ∀ (sl : List (Nat × AV)), look (keepS sl ks) t = none := by
          intro sl
          induction sl with
          | nil => rfl
          | cons y ys ih =>
            simp only [keepS]
            split
            · rename_i hy
              simp only [look]
              rw [if_neg, ih]
              intro e
              rw [hx, ← e] at hk
              exact hk hy
            · exact ih
        exact this xs
      · rw [if_neg hx]
        exact look_keepS ks xs t
theorem Rel.keep {c : Cx} {L : Lay} {F : Nat → Prop} {st : St} {a : Act} {w : World} (h : Rel c L F st a w) (ks : List Nat) : Rel c L F ⟨keepS st.sl ks, st.hp, st.nx⟩ a w := by
  refine ⟨h.hr, h.fresh, h.defs, h.size, fun t => ?_, h.ext⟩
  rcases look_keepS ks st.sl t with e | e
  · have : (St.mk (keepS st.sl ks) st.hp st.nx).get t = st.get t := by simp only [St.get, e]
    rw [this]
    exact h.slot t
  · have : (St.mk (keepS st.sl ks) st.hp st.nx).get t = .un := by simp only [St.get, e]; rfl
    rw [this]
    exact .un _ _
theorem Rel.keepO {c : Cx} {L : Lay} {F : Nat → Prop} {st : St} {a : Act} {w : World} (h : Rel c L F st a w) (ks : Option (List Nat)) : Rel c L F (keepO st ks) a w := by
  cases ks with
  | none => exact h
  | some ks => exact h.keep ks
theorem keepO_nx (st : St) (ks : Option (List Nat)) : (Sim.keepO st ks).nx = st.nx := by cases ks <;> rfl

theorem coOps_length {ops : Array Oper} {D : Bool} {tab : List Nat} : ∀ {l : List Oper} {i : Nat} {la : List AOp}, coOps P n ops D tab l i = some la → la.length = l.length := by
  intro l
  induction l with
  | nil => intro i la h; simp only [coOps, Option.some.injEq] at h; subst h; rfl
  | cons o r ih =>
    intro i la h
    obtain ⟨a, l', rfl, _, hr⟩ := coOps_cons h
    simp [ih hr]
theorem co2_some {f : ACode → ACode → ACode} {x y : Option ACode} {z : ACode} (h : co2 f x y = some z) : ∃ a b, x = some a ∧ y = some b ∧ f a b = z := by
  unfold co2 at h
  split at h
  · rename_i a b
    exact ⟨a, b, rfl, rfl, Option.some.inj h⟩
  · cases h
theorem coReg_some {ops : Array Oper} {z : ACode} (h : coReg P n ops = some z) : ∃ l, coOps P n ops false [] ops.toList 0 = some l ∧ z = .reg l none := by
  unfold coReg at h
  rw [Option.map_eq_some_iff] at h
  obtain ⟨l, h1, h2⟩ := h
  exact ⟨l, h1, h2.symm⟩
theorem coRegD_some {ops : Array Oper} {z : ACode} (h : coRegD P n ops = some z) : ∃ l, statOK ops = true ∧ P.follows .mixedOrders = true ∧ coOps P n ops true (msks ops.toList []) ops.toList 0 = some l ∧ z = .regD l none := by
  unfold coRegD at h
  split at h
  · rename_i hs
    rw [Bool.and_eq_true] at hs
    rw [Option.map_eq_some_iff] at h
    obtain ⟨l, h1, h2⟩ := h
    exact ⟨l, stat2_ok (tab_ok ops) hs.1, hs.2, h1, h2.symm⟩
  · cases h
theorem co_inv (x : Code) {z : ACode} (h : co P n x = some z) :
    (z = .skip ∧ x = .skip) ∨ (∃ id ops l, x = .region id ops false ∧ coOps P n ops false [] ops.toList 0 = some l ∧ z = .reg l none) ∨
    (∃ id ops l, x = .region id ops true ∧ statOK ops = true ∧ P.follows .mixedOrders = true ∧ coOps P n ops true (msks ops.toList []) ops.toList 0 = some l ∧ z = .regD l none) ∨
    (∃ x1 x2 a b, x = .seq x1 x2 ∧ co P n x1 = some a ∧ co P n x2 = some b ∧ z = .seq a b) ∨
    (∃ k x1 x2 a b, x = .cond k x1 x2 ∧ co P n x1 = some a ∧ co P n x2 = some b ∧ z = .cond (coO k) a b) ∨
    (∃ id x1 a, x = .block id x1 ∧ co P n x1 = some a ∧ z = .block id a) ∨ (∃ x1 a, x = .loop x1 ∧ co P n x1 = some a ∧ z = .loop a) ∨ (∃ id, x = .exit id ∧ z = .exit id) ∨
    (∃ x1 a, x = .scope x1 ∧ co P n x1 = some a ∧ z = .scope a) ∨ (x = .ret ∧ z = .ret) ∨ (∃ l, x = .label l ∧ z = .lab l) ∨ (∃ l, x = .goto l ∧ z = .goto l) ∨ (∃ x1 a l r, x = .scope x1 ∧ co P n x1 = some a ∧ findA a l = some r ∧ z = .scopeJ l a r) ∨
    (∃ f p x1 x2 a b, x = .rangeFunc f #[p] x1 x2 ∧ co P n x1 = some a ∧ co P n x2 = some b ∧ p < n ∧ okB a = true ∧ okB b = true ∧ z = .rgf (coO f) p a b) := by
  cases x with
  | skip => simp only [co, Option.some.injEq] at h; exact .inl ⟨h.symm, rfl⟩
  | label l => simp only [co, Option.some.injEq] at h; exact .inr (.inr (.inr (.inr (.inr (.inr (.inr (.inr (.inr (.inr (.inl ⟨l, rfl, h.symm⟩))))))))))
  | region id ops draw =>
    cases draw with
    | false =>
      obtain ⟨l, h1, h2⟩ := coReg_some (ops := ops) (z := z) (by simpa [co] using h)
      exact .inr (.inl ⟨id, ops, l, rfl, h1, h2⟩)
    | true =>
      obtain ⟨l, h1, h2, h3, h4⟩ := coRegD_some (ops := ops) (z := z) (by simpa [co] using h)
      exact .inr (.inr (.inl ⟨id, ops, l, rfl, h1, h2, h3, h4⟩))
  | seq x1 x2 =>
    obtain ⟨a, b, h1, h2, h3⟩ := co2_some (show co2 .seq (co P n x1) (co P n x2) = some z from h)
    exact .inr (.inr (.inr (.inl ⟨x1, x2, a, b, rfl, h1, h2, h3.symm⟩)))
  | cond k x1 x2 =>
    obtain ⟨a, b, h1, h2, h3⟩ := co2_some (show co2 (.cond (coO k)) (co P n x1) (co P n x2) = some z from h)
    exact .inr (.inr (.inr (.inr (.inl ⟨k, x1, x2, a, b, rfl, h1, h2, h3.symm⟩))))
  | block id x1 =>
    obtain ⟨a, h1, h2⟩ := Option.map_eq_some_iff.1 (show (co P n x1).map (.block id) = some z from h)
    exact .inr (.inr (.inr (.inr (.inr (.inl ⟨id, x1, a, rfl, h1, h2.symm⟩)))))
  | loop x1 =>
    obtain ⟨a, h1, h2⟩ := Option.map_eq_some_iff.1 (show (co P n x1).map .loop = some z from h)
    exact .inr (.inr (.inr (.inr (.inr (.inr (.inl ⟨x1, a, rfl, h1, h2.symm⟩))))))
  | exit id => exact .inr (.inr (.inr (.inr (.inr (.inr (.inr (.inl ⟨id, rfl, (Option.some.inj h).symm⟩)))))))
  | scope x1 =>
    obtain ⟨a, h1, h2⟩ := Option.bind_eq_some_iff.1 (show (co P n x1).bind scB = some z from h)
    unfold scB at h2
    split at h2
    · exact .inr (.inr (.inr (.inr (.inr (.inr (.inr (.inr (.inl ⟨x1, a, rfl, h1, (Option.some.inj h2).symm⟩))))))))
    · rename_i l hl
      obtain ⟨r, h3, h4⟩ := Option.map_eq_some_iff.1 h2
      exact .inr (.inr (.inr (.inr (.inr (.inr (.inr (.inr (.inr (.inr (.inr (.inr (.inl ⟨x1, a, l, r, rfl, h1, h3, h4.symm⟩))))))))))))
  | ret => exact .inr (.inr (.inr (.inr (.inr (.inr (.inr (.inr (.inr (.inl ⟨rfl, (Option.some.inj h).symm⟩)))))))))
  | goto l => exact .inr (.inr (.inr (.inr (.inr (.inr (.inr (.inr (.inr (.inr (.inr (.inl ⟨l, rfl, (Option.some.inj h).symm⟩)))))))))))
  | rangeFunc f ps x1 x2 =>
    obtain ⟨p, a, b, h1, h2, h3, h4, h5, h6, h7⟩ := coRg_some (show coRg n (coO f) ps.toList (co P n x1) (co P n x2) = some z from h)
    obtain rfl : ps = #[p] := by rw [← Array.toList_inj, h1]
    exact .inr (.inr (.inr (.inr (.inr (.inr (.inr (.inr (.inr (.inr (.inr (.inr (.inr ⟨f, p, x1, x2, a, b, rfl, h2, h3, h4, h5, h6, h7⟩))))))))))))
  | refuse => cases h
theorem co_skip {x : Code} (h : co P n x = some .skip) : x = .skip := by
  rcases co_inv x h with h | ⟨_, _, _, _, _, h⟩ | ⟨_, _, _, _, _, _, _, h⟩ | ⟨_, _, _, _, _, _, _, h⟩ | ⟨_, _, _, _, _, _, _, _, h⟩ | ⟨_, _, _, _, _, h⟩ | ⟨_, _, _, _, h⟩ | ⟨_, _, h⟩ | ⟨_, _, _, _, h⟩ | ⟨_, h⟩ | ⟨_, _, h⟩ | ⟨_, _, h⟩ | ⟨_, _, _, _, _, _, _, h⟩ | ⟨_, _, _, _, _, _, _, _, _, _, _, _, h⟩
  · exact h.2
  all_goals cases h
theorem co_reg {x : Code} {l : List AOp} (h : co P n x = some (.reg l none)) : ∃ id ops, x = .region id ops false ∧ coOps P n ops false [] ops.toList 0 = some l := by
  rcases co_inv x h with ⟨h, _⟩ | ⟨id, ops, _, h1, h2, h⟩ | ⟨_, _, _, _, _, _, _, h⟩ | ⟨_, _, _, _, _, _, _, h⟩ | ⟨_, _, _, _, _, _, _, _, h⟩ | ⟨_, _, _, _, _, h⟩ | ⟨_, _, _, _, h⟩ | ⟨_, _, h⟩ | ⟨_, _, _, _, h⟩ | ⟨_, h⟩ | ⟨_, _, h⟩ | ⟨_, _, h⟩ | ⟨_, _, _, _, _, _, _, h⟩ | ⟨_, _, _, _, _, _, _, _, _, _, _, _, h⟩
  · cases h
  · cases h; exact ⟨id, ops, h1, h2⟩
  all_goals cases h
theorem co_regD {x : Code} {l : List AOp} (h : co P n x = some (.regD l none)) : ∃ id ops, x = .region id ops true ∧ statOK ops = true ∧ P.follows .mixedOrders = true ∧ coOps P n ops true (msks ops.toList []) ops.toList 0 = some l := by
  rcases co_inv x h with ⟨h, _⟩ | ⟨_, _, _, _, _, h⟩ | ⟨id, ops, _, h1, h2, h3, h4, h⟩ | ⟨_, _, _, _, _, _, _, h⟩ | ⟨_, _, _, _, _, _, _, _, h⟩ | ⟨_, _, _, _, _, h⟩ | ⟨_, _, _, _, h⟩ | ⟨_, _, h⟩ | ⟨_, _, _, _, h⟩ | ⟨_, h⟩ | ⟨_, _, h⟩ | ⟨_, _, h⟩ | ⟨_, _, _, _, _, _, _, h⟩ | ⟨_, _, _, _, _, _, _, _, _, _, _, _, h⟩
  · cases h
  · cases h
  · cases h; exact ⟨id, ops, h1, h2, h3, h4⟩
  all_goals cases h
theorem co_seq {x : Code} {a b : ACode} (h : co P n x = some (.seq a b)) : ∃ y z, x = .seq y z ∧ co P n y = some a ∧ co P n z = some b := by
  rcases co_inv x h with ⟨h, _⟩ | ⟨_, _, _, _, _, h⟩ | ⟨_, _, _, _, _, _, _, h⟩ | ⟨y, z, _, _, h1, h2, h3, h⟩ | ⟨_, _, _, _, _, _, _, _, h⟩ | ⟨_, _, _, _, _, h⟩ | ⟨_, _, _, _, h⟩ | ⟨_, _, h⟩ | ⟨_, _, _, _, h⟩ | ⟨_, h⟩ | ⟨_, _, h⟩ | ⟨_, _, h⟩ | ⟨_, _, _, _, _, _, _, h⟩ | ⟨_, _, _, _, _, _, _, _, _, _, _, _, h⟩
  · cases h
  · cases h
  · cases h
  · cases h; exact ⟨y, z, h1, h2, h3⟩
  all_goals cases h
theorem co_cond {x : Code} {k : AO} {a b : ACode} (h : co P n x = some (.cond k a b)) : ∃ k' y z, x = .cond k' y z ∧ k = coO k' ∧ co P n y = some a ∧ co P n z = some b := by
  rcases co_inv x h with ⟨h, _⟩ | ⟨_, _, _, _, _, h⟩ | ⟨_, _, _, _, _, _, _, h⟩ | ⟨_, _, _, _, _, _, _, h⟩ | ⟨k', y, z, _, _, h1, h2, h3, h⟩ | ⟨_, _, _, _, _, h⟩ | ⟨_, _, _, _, h⟩ | ⟨_, _, h⟩ | ⟨_, _, _, _, h⟩ | ⟨_, h⟩ | ⟨_, _, h⟩ | ⟨_, _, h⟩ | ⟨_, _, _, _, _, _, _, h⟩ | ⟨_, _, _, _, _, _, _, _, _, _, _, _, h⟩
  · cases h
  · cases h
  · cases h
  · cases h
  · cases h; exact ⟨k', y, z, h1, rfl, h2, h3⟩
  all_goals cases h
theorem co_block {x : Code} {id : Nat} {a : ACode} (h : co P n x = some (.block id a)) : ∃ y, x = .block id y ∧ co P n y = some a := by
  rcases co_inv x h with ⟨h, _⟩ | ⟨_, _, _, _, _, h⟩ | ⟨_, _, _, _, _, _, _, h⟩ | ⟨_, _, _, _, _, _, _, h⟩ | ⟨_, _, _, _, _, _, _, _, h⟩ | ⟨_, y, _, h1, h2, h⟩ | ⟨_, _, _, _, h⟩ | ⟨_, _, h⟩ | ⟨_, _, _, _, h⟩ | ⟨_, h⟩ | ⟨_, _, h⟩ | ⟨_, _, h⟩ | ⟨_, _, _, _, _, _, _, h⟩ | ⟨_, _, _, _, _, _, _, _, _, _, _, _, h⟩
  · cases h
  · cases h
  · cases h
  · cases h
  · cases h
  · cases h; exact ⟨y, h1, h2⟩
  all_goals cases h
theorem co_loop {x : Code} {a : ACode} (h : co P n x = some (.loop a)) : ∃ y, x = .loop y ∧ co P n y = some a := by
  rcases co_inv x h with ⟨h, _⟩ | ⟨_, _, _, _, _, h⟩ | ⟨_, _, _, _, _, _, _, h⟩ | ⟨_, _, _, _, _, _, _, h⟩ | ⟨_, _, _, _, _, _, _, _, h⟩ | ⟨_, _, _, _, _, h⟩ | ⟨y, _, h1, h2, h⟩ | ⟨_, _, h⟩ | ⟨_, _, _, _, h⟩ | ⟨_, h⟩ | ⟨_, _, h⟩ | ⟨_, _, h⟩ | ⟨_, _, _, _, _, _, _, h⟩ | ⟨_, _, _, _, _, _, _, _, _, _, _, _, h⟩
  · cases h
  · cases h
  · cases h
  · cases h
  · cases h
  · cases h
  · cases h; exact ⟨y, h1, h2⟩
  all_goals cases h
theorem co_exit {x : Code} {id : Nat} (h : co P n x = some (.exit id)) : x = .exit id := by
  rcases co_inv x h with ⟨h, _⟩ | ⟨_, _, _, _, _, h⟩ | ⟨_, _, _, _, _, _, _, h⟩ | ⟨_, _, _, _, _, _, _, h⟩ | ⟨_, _, _, _, _, _, _, _, h⟩ | ⟨_, _, _, _, _, h⟩ | ⟨_, _, _, _, h⟩ | ⟨_, h1, h⟩ | ⟨_, _, _, _, h⟩ | ⟨_, h⟩ | ⟨_, _, h⟩ | ⟨_, _, h⟩ | ⟨_, _, _, _, _, _, _, h⟩ | ⟨_, _, _, _, _, _, _, _, _, _, _, _, h⟩
  · cases h
  · cases h
  · cases h
  · cases h
  · cases h
  · cases h
  · cases h
  · cases h; exact h1
  all_goals cases h
theorem co_scope {x : Code} {a : ACode} (h : co P n x = some (.scope a)) : ∃ y, x = .scope y ∧ co P n y = some a := by
  rcases co_inv x h with ⟨h, _⟩ | ⟨_, _, _, _, _, h⟩ | ⟨_, _, _, _, _, _, _, h⟩ | ⟨_, _, _, _, _, _, _, h⟩ | ⟨_, _, _, _, _, _, _, _, h⟩ | ⟨_, _, _, _, _, h⟩ | ⟨_, _, _, _, h⟩ | ⟨_, _, h⟩ | ⟨y, _, h1, h2, h⟩ | ⟨_, h⟩ | ⟨_, _, h⟩ | ⟨_, _, h⟩ | ⟨_, _, _, _, _, _, _, h⟩ | ⟨_, _, _, _, _, _, _, _, _, _, _, _, h⟩
  · cases h
  · cases h
  · cases h
  · cases h
  · cases h
  · cases h
  · cases h
  · cases h
  · cases h; exact ⟨y, h1, h2⟩
  all_goals cases h
theorem co_ret {x : Code} (h : co P n x = some .ret) : x = .ret := by
  rcases co_inv x h with ⟨h, _⟩ | ⟨_, _, _, _, _, h⟩ | ⟨_, _, _, _, _, _, _, h⟩ | ⟨_, _, _, _, _, _, _, h⟩ | ⟨_, _, _, _, _, _, _, _, h⟩ | ⟨_, _, _, _, _, h⟩ | ⟨_, _, _, _, h⟩ | ⟨_, _, h⟩ | ⟨_, _, _, _, h⟩ | ⟨h1, h⟩ | ⟨_, _, h⟩ | ⟨_, _, h⟩ | ⟨_, _, _, _, _, _, _, h⟩ | ⟨_, _, _, _, _, _, _, _, _, _, _, _, h⟩
  · cases h
  · cases h
  · cases h
  · cases h
  · cases h
  · cases h
  · cases h
  · cases h
  · cases h
  · exact h1
  all_goals cases h
theorem co_lab {x : Code} {l : Nat} (h : co P n x = some (.lab l)) : x = .label l := by
  rcases co_inv x h with ⟨h, _⟩ | ⟨_, _, _, _, _, h⟩ | ⟨_, _, _, _, _, _, _, h⟩ | ⟨_, _, _, _, _, _, _, h⟩ | ⟨_, _, _, _, _, _, _, _, h⟩ | ⟨_, _, _, _, _, h⟩ | ⟨_, _, _, _, h⟩ | ⟨_, _, h⟩ | ⟨_, _, _, _, h⟩ | ⟨_, h⟩ | ⟨l', h1, h⟩ | ⟨_, _, h⟩ | ⟨_, _, _, _, _, _, _, h⟩ | ⟨_, _, _, _, _, _, _, _, _, _, _, _, h⟩
  · cases h
  · cases h
  · cases h
  · cases h
  · cases h
  · cases h
  · cases h
  · cases h
  · cases h
  · cases h
  · cases h; exact h1
  all_goals cases h
theorem co_goto {x : Code} {l : Nat} (h : co P n x = some (.goto l)) : x = .goto l := by
  rcases co_inv x h with ⟨h, _⟩ | ⟨_, _, _, _, _, h⟩ | ⟨_, _, _, _, _, _, _, h⟩ | ⟨_, _, _, _, _, _, _, h⟩ | ⟨_, _, _, _, _, _, _, _, h⟩ | ⟨_, _, _, _, _, h⟩ | ⟨_, _, _, _, h⟩ | ⟨_, _, h⟩ | ⟨_, _, _, _, h⟩ | ⟨_, h⟩ | ⟨_, _, h⟩ | ⟨_, h1, h⟩ | ⟨_, _, _, _, _, _, _, h⟩ | ⟨_, _, _, _, _, _, _, _, _, _, _, _, h⟩
  · cases h
  · cases h
  · cases h
  · cases h
  · cases h
  · cases h
  · cases h
  · cases h
  · cases h
  · cases h
  · cases h
  · cases h; exact h1
  · cases h
  · cases h
theorem co_scopeJ {x : Code} {l : Nat} {a r : ACode} (h : co P n x = some (.scopeJ l a r)) : ∃ y, x = .scope y ∧ co P n y = some a ∧ findA a l = some r := by
  rcases co_inv x h with ⟨h, _⟩ | ⟨_, _, _, _, _, h⟩ | ⟨_, _, _, _, _, _, _, h⟩ | ⟨_, _, _, _, _, _, _, h⟩ | ⟨_, _, _, _, _, _, _, _, h⟩ | ⟨_, _, _, _, _, h⟩ | ⟨_, _, _, _, h⟩ | ⟨_, _, h⟩ | ⟨_, _, _, _, h⟩ | ⟨_, h⟩ | ⟨_, _, h⟩ | ⟨_, _, h⟩ | ⟨y, _, _, _, h1, h2, h3, h⟩ | ⟨_, _, _, _, _, _, _, _, _, _, _, _, h⟩
  · cases h
  · cases h
  · cases h
  · cases h
  · cases h
  · cases h
  · cases h
  · cases h
  · cases h
  · cases h
  · cases h
  · cases h
  · cases h; exact ⟨y, h1, h2, h3⟩
  · cases h
theorem co_rgf {x : Code} {f : AO} {p : Nat} {a b : ACode} (h : co P n x = some (.rgf f p a b)) : ∃ fo y z, x = .rangeFunc fo #[p] y z ∧ f = coO fo ∧ co P n y = some a ∧ co P n z = some b ∧ p < n ∧ okB a = true ∧ okB b = true := by
  rcases co_inv x h with ⟨h, _⟩ | ⟨_, _, _, _, _, h⟩ | ⟨_, _, _, _, _, _, _, h⟩ | ⟨_, _, _, _, _, _, _, h⟩ | ⟨_, _, _, _, _, _, _, _, h⟩ | ⟨_, _, _, _, _, h⟩ | ⟨_, _, _, _, h⟩ | ⟨_, _, h⟩ | ⟨_, _, _, _, h⟩ | ⟨_, h⟩ | ⟨_, _, h⟩ | ⟨_, _, h⟩ | ⟨_, _, _, _, _, _, _, h⟩ | ⟨f, _, y, z, _, _, h1, h2, h3, h4, h5, h6, h⟩
  · cases h
  · cases h
  · cases h
  · cases h
  · cases h
  · cases h
  · cases h
  · cases h
  · cases h
  · cases h
  · cases h
  · cases h
  · cases h
  · cases h; exact ⟨f, y, z, h1, rfl, h2, h3, h4, h5, h6⟩
theorem findA_code : ∀ (x : Code) (a : ACode) (l : Nat), co P n x = some a → match findA a l with | some ra => ∃ r, findLabel x l = some r ∧ co P n r = some ra | none => findLabel x l = none := by
  intro x
  induction x with
  | seq x y ihx ihy =>
    intro a l h
    obtain ⟨b, d, h1, h2, h3⟩ := co2_some (show co2 .seq (co P n x) (co P n y) = some a from h)
    subst h3
    have e1 := ihx b l h1
    have e2 := ihy d l h2
    simp only [findA]
    cases hb : findA b l with
    | some r =>
      rw [hb] at e1
      obtain ⟨r', g1, g2⟩ := e1
      refine ⟨.seq r' y, by simp [findLabel, g1], ?_⟩
      show co2 .seq (co P n r') (co P n y) = _
      rw [g2, h2]; rfl
    | none =>
      rw [hb] at e1
      simp only at e1 ⊢
      cases hd : findA d l with
      | some r =>
        rw [hd] at e2
        obtain ⟨r', g1, g2⟩ := e2
        exact ⟨r', by simp [findLabel, e1, g1], g2⟩
      | none =>
        rw [hd] at e2
        simp only at e2
        simp [findLabel, e1, e2]
  | label l' =>
    intro a l h
    simp only [co, Option.some.injEq] at h
    subst h
    by_cases e : l' = l
    · simp only [findA, if_pos e]
      exact ⟨.skip, by simp [findLabel, e], rfl⟩
    · simp only [findA, if_neg e]
      simp [findLabel, e]
  | _ =>
    intro a l h
    rcases co_inv _ h with ⟨rfl, _⟩ | ⟨_, _, _, h1, _, rfl⟩ | ⟨_, _, _, h1, _, _, _, rfl⟩ | ⟨_, _, _, _, h1, _, _, rfl⟩ | ⟨_, _, _, _, _, h1, _, _, rfl⟩ | ⟨_, _, _, h1, _, rfl⟩ | ⟨_, _, h1, _, rfl⟩ | ⟨_, h1, rfl⟩ | ⟨_, _, h1, _, rfl⟩ | ⟨h1, rfl⟩ | ⟨_, h1, rfl⟩ | ⟨_, h1, rfl⟩ | ⟨_, _, _, _, h1, _, _, rfl⟩ | ⟨_, _, _, _, _, _, h1, _, _, _, _, _, rfl⟩
    all_goals first
      | rfl
      | cases h1
end

end Go.Sim

namespace Go.Sim
open Go.RowKit
set_option linter.unusedVariables false
set_option linter.unusedSimpArgs false

abbrev wr (l : Nat) : Fence := Fence.wide.inRound l
section
variable {P : Program} {ops : Array Oper} {Q : Exit → Act → World → Prop}
theorem calls_in {f : FuncId} {args : Array Value} {w : World} {R : Ending → World → Prop} (l n : Nat) (h : Calls P f args w R) : CallsIn (wr l) n P f args w R := CallsIn.inRound l (callsIn_wide.2 h)
theorem rows_in {row : String} {args : Array Value} {w : World} {R : Value → World → Prop} (l n : Nat) (h : Rows P row args w R) : RowsIn (wr l) n P row args w R := by
  intro c cs _
  obtain ⟨v, w', h1, h2⟩ := h c cs
  exact ⟨v, w', h1, stepsIn_wide.2 h2⟩
theorem oper_in {o : Oper} {a : Act} {w : World} {K : Act → World → Prop} (l n : Nat) (hd : ∀ c, o.op ≠ .defer c) (h : o.wp P a w K Q) : o.wpIn (wr l) n P a w K Q := by
  refine ⟨fun _ _ => trivial, ?_⟩
  rw [Oper.semAt_eq _ _ _ hd]
  unfold Oper.wp at h
  generalize (execOp a.eval o).run P w = r at *
  have hn : (wr l).depth.isSome = true → 1 ≤ n := fun e => by cases e
  cases r with
  | ok x w' =>
    cases x <;> simp only [Oper.upon, Oper.uponIn] at h ⊢ <;>
      first
        | exact h
        | exact ⟨hn, calls_in l _ (Calls.mono h (fun e w'' he => by cases e <;> exact he))⟩
        | exact ⟨hn, rows_in l _ h⟩
        | exact h.elim
  | halt x w' => cases x <;> simp only [Oper.upon, Oper.uponIn] at h ⊢ <;> exact h
theorem list_in (l n : Nat) (hno : ¬ LetsOut Q) : ∀ (os : List Oper) (a : Act) (w : World), (∀ o ∈ os, ∀ c, o.op ≠ .defer c) → wpList P ops Q os a w → wpListIn (wr l) n P ops Q os a w := by
  intro os
  induction os with
  | nil => exact fun a w _ h => h
  | cons o os ih =>
    intro a w hd h
    have hd' : ∀ o ∈ os, ∀ c, o.op ≠ .defer c := fun x hx => hd x (List.mem_cons_of_mem _ hx)
    simp only [wpList] at h
    simp only [wpListIn]
    split
    · rename_i hw
      rw [if_pos hw] at h
      rcases h with h | h
      · exact oper_in l n (hd o (List.mem_cons_self ..)) (Oper.wp_mono (fun a w => ih a w hd') h)
      · exact absurd h.2 hno
    · rename_i hw
      rw [if_neg hw] at h
      exact ⟨fun _ _ => trivial, ih _ _ hd' h⟩
theorem any_in (l n : Nat) (hno : ¬ LetsOut Q) (hd : ∀ o ∈ ops.toList, ∀ c, o.op ≠ .defer c) : ∀ (fuel : Nat) (listed : Array Bool) (a : Act) (w : World), wpAny P .any ops Q fuel listed a w → wpAnyIn (wr l) n P .any ops Q fuel listed a w := by
  intro fuel
  induction fuel with
  | zero => exact fun _ _ _ h => h
  | succ fuel ih =>
    intro listed a w h
    refine ⟨h.1, fun i hi => ?_⟩
    have h2 := wpOp_mono (fun a w => ih _ a w) (h.2 i hi)
    unfold wpOp at h2
    unfold wpOpIn
    split
    · rename_i ho
      rw [ho] at h2; exact h2
    · rename_i o ho
      rw [ho] at h2
      simp only at h2
      split
      · rename_i hw
        rw [if_pos hw] at h2
        rcases h2 with h2 | h2
        · exact oper_in l n (hd o (Array.mem_toList_iff.2 (Array.mem_of_getElem? ho))) h2
        · exact absurd h2.2 hno
      · rename_i hw
        rw [if_neg hw] at h2
        exact ⟨fun _ _ => trivial, h2⟩
end
theorem coOps_def {P : Program} {n : Nat} {ops : Array Oper} {D : Bool} {tab : List Nat} : ∀ {l : List Oper} {i : Nat} {la : List AOp}, coOps P n ops D tab l i = some la → ∀ o ∈ l, ∀ c, o.op ≠ .defer c := by
  intro l
  induction l with
  | nil => intro i la _ o ho; cases ho
  | cons o r ih =>
    intro i la h o' ho'
    obtain ⟨a, l', rfl, ha, hr⟩ := coOps_cons h
    rcases List.mem_cons.1 ho' with rfl | ho'
    · intro c e
      unfold coOp at ha
      rw [e] at ha
      simp [coP] at ha
    · exact ih hr o' ho'
section
variable {c : Cx}
theorem awI_sound (l0 n0 : Nat) : ∀ (x : ACode) (y : Code) (st : St) (Q : Exit → St → Prop) (L : Lay) (a : Act) (w : World) (Qc : Exit → Act → World → Prop), okB x = true → co c.P c.n y = some (strip x) → awA c.P c.m x st Q → Rel c L (fun j => st.nx ≤ j) st a w →
    (∀ e s L' a' w', Q e s → Rel c L' (fun j => s.nx ≤ j) s a' w' → Qc e a' w') → (∀ a w, ¬ Qc .outgrown a w) → y.wpIn (wr l0) n0 c.P Qc a w := by
  intro x
  induction x with
  | skip =>
    intro y st Q L a w Qc hb hc h hr hQ hno
    obtain rfl := co_skip hc
    exact wpIn_skip (hQ _ _ L _ _ h hr)
  | exit id =>
    intro y st Q L a w Qc hb hc h hr hQ hno
    obtain rfl := co_exit hc
    exact wpIn_exit (hQ _ _ L _ _ h hr)
  | ret =>
    intro y st Q L a w Qc hb hc h hr hQ hno
    obtain rfl := co_ret hc
    exact wpIn_ret (hQ _ _ L _ _ h hr)
  | reg l ks =>
    intro y st Q L a w Qc hb hc h hr hQ hno
    obtain ⟨id, ops, rfl, hl⟩ := co_reg hc
    have hlen := coOps_length hl
    rw [List.length_map] at hlen
    refine wpIn_region_list (list_in l0 n0 (fun ⟨a, w, h⟩ => hno a w h) _ _ _ (coOps_def hl) (aopsA_sound ops.toList 0 l st.nx st L (fun j => st.nx ≤ j) a w _ hl h (fun j hj => hj) hr (fun s L' a' w' hs hR => ?_)))
    refine hQ _ _ L' _ _ hs (Rel.mono (Rel.keepO (hR.nx _) ks) (fun j hj => ?_))
    rw [keepO_nx] at hj
    simp only at hj
    exact ⟨by omega, by omega⟩
  | regD l ks =>
    intro y st Q L a w Qc hb hc h hr hQ hno
    obtain ⟨id, ops, rfl, h1, h2, hl⟩ := co_regD hc
    have hlen := coOps_length hl
    refine wpIn_region_any h2 (any_in l0 n0 (fun ⟨a, w, h⟩ => hno a w h) (coOps_def hl) _ _ _ _ (awD_any h2 h1 (aopsDA_imp (tab_ok ops) _ _ _ _ _ _ _ hl (by simp) (fun q hq => by cases hq) h) hr (fun s L' a' w' hs hR => ?_)))
    refine hQ _ _ L' _ _ hs (Rel.mono (Rel.keepO (hR.nx _) ks) (fun j hj => ?_))
    rw [keepO_nx] at hj
    simp only at hj ⊢
    rw [List.length_map] at hlen
    rw [hlen] at hj
    simpa using hj
  | seq x z ihx ihz =>
    intro y st Q L a w Qc hb hc h hr hQ hno
    simp only [okB, Bool.and_eq_true] at hb
    obtain ⟨y1, y2, rfl, h1, h2⟩ := co_seq hc
    refine wpIn_seq (ihx y1 st _ L a w _ hb.1 h1 h hr (fun e s L' a' w' hs hR => ?_) (fun a w h => hno a w h))
    cases e with
    | normal => exact ihz y2 s Q L' a' w' Qc hb.2 h2 hs hR hQ hno
    | exit id => exact hQ _ _ L' _ _ hs hR
    | goto l => exact hQ _ _ L' _ _ hs hR
    | ret => exact hQ _ _ L' _ _ hs hR
    | panic ch => exact hQ _ _ L' _ _ hs hR
    | outgrown => exact hQ _ _ L' _ _ hs hR
  | cond k x z ihx ihz =>
    intro y st Q L a w Qc hb hc h hr hQ hno
    simp only [okB, Bool.and_eq_true] at hb
    obtain ⟨k', y1, y2, rfl, rfl, h1, h2⟩ := co_cond hc
    simp only [awA, e_co] at h
    split at h
    · rename_i t ht
      have hv := hr.ev k'
      rw [ht] at hv
      cases t with
      | true => exact wpIn_cond (t := true) hv.sc_eq (ihx y1 st Q L a w Qc hb.1 h1 (by simpa using h) hr hQ hno)
      | false => exact wpIn_cond (t := false) hv.sc_eq (ihz y2 st Q L a w Qc hb.2 h2 (by simpa using h) hr hQ hno)
    · exact h.elim
  | block id x ih =>
    intro y st Q L a w Qc hb hc h hr hQ hno
    obtain ⟨y1, rfl, h1⟩ := co_block hc
    refine wpIn_block (ih y1 st _ L a w _ hb h1 h hr (fun e s L' a' w' hs hR => ?_) (fun a w h => hno a w h))
    cases e with
    | exit i =>
      simp only [Exit.inBlock]
      split
      · rename_i hi
        simp only [KB, hi, if_true] at hs
        exact hQ _ _ L' _ _ hs hR
      · rename_i hi
        simp only [KB, hi, if_false] at hs
        exact hQ _ _ L' _ _ hs hR
    | normal => exact hQ _ _ L' _ _ hs hR
    | goto l => exact hQ _ _ L' _ _ hs hR
    | ret => exact hQ _ _ L' _ _ hs hR
    | panic ch => exact hQ _ _ L' _ _ hs hR
    | outgrown => exact hQ _ _ L' _ _ hs hR
  | keep ks x ih =>
    intro y st Q L a w Qc hb hc h hr hQ hno
    exact ih y _ Q L a w Qc hb hc h (hr.keep ks) hQ hno
  | _ => intro y st Q L a w Qc hb; cases hb
end
end Go.Sim

namespace Go.Sim
open Go.RowKit
set_option linter.unusedVariables false
set_option linter.unusedSimpArgs false

def ownB (L : Lay) (hp : List (Nat × Ob)) (b : Nat) : Prop := ∃ id o B, look hp id = some o ∧ L id = some (some B) ∧ B.size ≠ 0 ∧ B.block = b
def Cx.at (c : Cx) (L : Lay) (hp : List (Nat × Ob)) (w : World) : Cx := ⟨c.P, w, c.n, ownB L hp, fun b i => sta c L hp b i ∧ b < w.heap.size ∧ ¬ ownB L hp b, c.m, L, c.B⟩
section
variable {c : Cx} {L L1 : Lay} {F F1 : Nat → Prop} {st s : St} {a a1 : Act} {w w1 : World}
theorem sta_not_own {hp : List (Nat × Ob)} (h : HR c L hp w) (h0 : hw0 hp) {b i : Nat} {u : Value} (hs : sta c L hp b i) (hc : w.cell? ⟨b, i, none⟩ = some u) : ¬ ownB L hp b := by
  rintro ⟨id, o, B, ho, hB, hz, rfl⟩
  obtain ⟨B', e1, e2, e3, e4⟩ := h.live id o ho
  rw [hB] at e1; injection e1 with e1; injection e1 with e1; subst e1
  obtain ⟨C, T, fr, e5, e6, _⟩ := e4 hz
  have hi : i < B.size := by
    simp only [World.cell?, e5] at hc
    have := (Array.getElem?_eq_some_iff.1 (by simpa using hc)).1
    omega
  rcases hs with hs | ⟨_, hs⟩
  · have := h.kept _ _ hs
    rcases h.mine id B hB hz with hm | hm
    · exact this.2 hm
    · omega
  · exact hs ⟨id, o, B, ho, hB, rfl, by rw [h0.look id o ho]; exact Nat.zero_le _, hi⟩
theorem sta_at {hp : List (Nat × Ob)} (h : HR c L hp w) (h0 : hw0 hp) : ∀ b i u, sta c L hp b i → w.cell? ⟨b, i, none⟩ = some u → sta (c.at L hp w) L hp b i ∧ w.cell? ⟨b, i, none⟩ = some u :=
  fun b i u hs hc => ⟨.inl ⟨hs, cell_lt hc, sta_not_own h h0 hs hc⟩, hc⟩
theorem Rel.enter (h : Rel c L F st a w) (h0 : hw0 st.hp) : Rel (c.at L st.hp w) L F st a w := by
  have hS := sta_at h.hr h0
  have hL : ∀ q y, L q = some y → L q = some y ∨ L q = some none := fun _ _ hy => .inl hy
  refine ⟨⟨fun j p hp => ?_, h.hr.dead, h.hr.inj, fun id B hB hz => ?_, fun b i hs => ⟨hs.2.1, hs.2.2⟩, ⟨rfl, rfl, rfl, Nat.le_refl _, fun _ _ _ => rfl, NcK.refl _⟩⟩, h.fresh, h.defs, h.size, fun t => (h.slot t).move hS hL, fun id y hy => .inl hy⟩
  · obtain ⟨B, e1, e2, e3, e4⟩ := h.hr.live j p hp
    refine ⟨B, e1, e2, e3, fun hz => ?_⟩
    obtain ⟨C, T, fr, e5, e6, e7, e8⟩ := e4 hz
    exact ⟨C, T, fr, e5, e6, e7, fun i x hx => (e8 i x hx).move hS hL⟩
  · obtain ⟨o, ho⟩ := h.hr.dead id B hB
    exact .inl ⟨id, o, B, ho, hB, hz, rfl⟩
theorem sta_back {hp1 : List (Nat × Ob)} (h : HR c L st.hp w) (h1 : HR (c.at L st.hp w) L1 hp1 w1) : ∀ b i, sta (c.at L st.hp w) L1 hp1 b i → sta c L1 hp1 b i := by
  rintro b i (⟨hs, hlt, hno⟩ | ⟨hb, hno⟩)
  · rcases hs with hs | ⟨hb, _⟩
    · exact .inl hs
    · refine .inr ⟨hb, ?_⟩
      rintro ⟨id, o, B, ho, hB, rfl, _, hi⟩
      rcases h1.mine id B hB (by omega) with hm | hm
      · exact hno hm
      · have hm' : w.heap.size ≤ B.block := hm
        omega
  · refine .inr ⟨?_, hno⟩
    rcases hb with ⟨id, o, B, ho, hB, hz, rfl⟩ | hb
    · exact h.mine id B hB hz
    · have hb' : w.heap.size ≤ b := hb
      exact .inr (Nat.le_trans h.upd.size hb')
theorem HR.back (h : HR c L st.hp w) {hp1 : List (Nat × Ob)} (h1 : HR (c.at L st.hp w) L1 hp1 w1) : HR c L1 hp1 w1 := by
  have hs := sta_back h h1
  have hu : ∀ b, ownB L st.hp b → c.I b ∨ c.W.heap.size ≤ b := by
    rintro b ⟨id, o, B, ho, hB, hz, rfl⟩
    exact h.mine id B hB hz
  have hu1 := h1.upd
  refine ⟨fun j p hp => ?_, h1.dead, h1.inj, fun id B hB hz => ?_, h.kept, ⟨hu1.os.trans h.upd.os, hu1.tape.trans h.upd.tape, hu1.output.trans h.upd.output, Nat.le_trans h.upd.size hu1.size, fun k hk hi => ?_, h.upd.maps.trans hu1.maps⟩⟩
  · obtain ⟨B, e1, e2, e3, e4⟩ := h1.live j p hp
    refine ⟨B, e1, e2, e3, fun hz => ?_⟩
    obtain ⟨C, T, fr, e5, e6, e7, e8⟩ := e4 hz
    exact ⟨C, T, fr, e5, e6, e7, fun i x hx => (e8 i x hx).move (fun b i u x y => ⟨hs b i x, y⟩) (fun _ _ hy => .inl hy)⟩
  · rcases h1.mine id B hB hz with hm | hm
    · exact hu _ hm
    · have hm' : w.heap.size ≤ B.block := hm
      exact .inr (Nat.le_trans h.upd.size hm')
  · have hks := h.upd.size
    rw [← h.upd.block k hk hi]
    refine hu1.block k (Nat.lt_of_lt_of_le hk hks) (fun ho => ?_)
    rcases hu k ho with h2 | h2
    · exact hi h2
    · omega
theorem Rel.back (h : HR c L st.hp w) (h1 : Rel (c.at L st.hp w) L1 F1 s a1 w1) (he : ∀ id y, c.L0 id = some y → L id = some y ∨ L id = some none) {d : List Deferred} (hd : okD c w1 d) : Rel c L1 F1 s { a1 with defers := d } w1 := by
  have hs := sta_back h h1.hr
  refine ⟨HR.back h h1.hr, h1.fresh, hd, h1.size, fun t => (h1.slot t).move (fun b i u x y => ⟨hs b i x, y⟩) (fun _ _ hy => .inl hy), fun id y hy => ?_⟩
  rcases he id y hy with e | e
  · exact h1.ext _ _ e
  · exact .inr ((h1.ext _ _ e).elim _root_.id _root_.id)
theorem Rel.outer (h : Rel c L F st a w) (h0 : hw0 st.hp) (h1 : Rel (c.at L st.hp w) L1 F1 s a1 w1) : Rel c L1 F1 ⟨st.sl, s.hp, s.nx⟩ a w1 := by
  have hs := sta_back h.hr h1.hr
  have hu1 := h1.hr.upd
  have hM : NcK w w1 := hu1.maps
  refine ⟨HR.back h.hr h1.hr, h1.fresh, h.defs.move hM, h.size, fun t => (h.slot t).move (fun b i u x y => ?_) h1.ext, fun id y hy => ?_⟩
  · have hno := sta_not_own h.hr h0 x y
    have hlt := cell_lt y
    refine ⟨hs b i (.inl ⟨x, hlt, hno⟩), ?_⟩
    have := hu1.block b hlt hno
    simp only [World.cell?] at y ⊢
    have e : w1.heap[b]? = w.heap[b]? := this
    rw [e]; exact y
  · rcases h.ext id y hy with e | e
    · exact h1.ext _ _ e
    · exact .inr ((h1.ext _ _ e).elim _root_.id _root_.id)
end
def SndI (P : Program) (n m : Nat) (A : St → (Exit → St → Prop) → Prop) (y : Code) : Prop :=
  ∀ (l0 : Nat) (c : Cx), c.P = P → c.n = n → c.m = m → ∀ (st : St) (Q : Exit → St → Prop) (L : Lay) (a : Act) (w : World) (Qc : Exit → Act → World → Prop), A st Q → Rel c L (fun j => st.nx ≤ j) st a w →
    (∀ e s L' a' w', Q e s → Rel c L' (fun j => s.nx ≤ j) s a' w' → Qc e a' w') → (∀ a w, ¬ Qc .outgrown a w) → y.wpIn (wr l0) 0 P Qc a w
def jOf : Exit → Option Code
  | .ret => some .ret
  | .exit id => some (.exit id)
  | _ => none
theorem Rel.defers {c : Cx} {L : Lay} {F : Nat → Prop} {st : St} {a : Act} {w : World} (h : Rel c L F st a w) {d : List Deferred} (hd : okD c w d) : Rel c L F st { a with defers := d } w := ⟨h.hr, h.fresh, hd, h.size, h.slot, h.ext⟩
theorem rgA_sound {c : Cx} (hc0 : ∀ id, c.m ≤ id → c.L0 id = none) (hcB : c.B ≤ c.W.heap.size) {A B : St → (Exit → St → Prop) → Prop} {ya yb : Code} {fo : Operand} {p : Nat} (hpn : p < c.n) (hA : SndI c.P c.n c.m A ya) (hB : SndI c.P c.n c.m B yb)
    {st : St} {Q : Exit → St → Prop} {L : Lay} {a : Act} {w : World} {Qc : Exit → Act → World → Prop} (h : RgA c.P c.m A B (st.ev fo) p st Q) (hr : Rel c L (fun j => st.nx ≤ j) st a w)
    (hQ : ∀ e s L' a' w', Q e s → Rel c L' (fun j => s.nx ≤ j) s a' w' → Qc e a' w') : (Code.rangeFunc fo #[p] ya yb).wp c.P Qc a w := by
  obtain ⟨g, caps, α, vl, ev, Sd, Sp, N, I, Ix, hf, hcal, hcI, hev, hseq, ⟨ρ, hp0, nx0, hI0, hwk⟩, hrnd, hdone, hstop⟩ := h
  have hfn := hr.ev fo
  rw [hf] at hfn
  obtain ⟨lb, gg, hfe, _⟩ := hfn.fn_eq
  refine (wpIn_wide (n := 0)).1 (wpIn_rangeFunc ?_)
  intro fn _
  obtain ⟨rec, hrec⟩ : ∃ rec : LoopState → Option Code → Loop, rec = fun s pe => { state := s, pending := pe, fn, tmps := a.tmps, params := #[p], assign := ya, body := yb, defers := w.heap.size } := ⟨_, rfl⟩
  obtain ⟨W1, hW1⟩ : ∃ W1, W1 = (w.alloc (.deferred (some []))).alloc (.loop (rec .ready none)) := ⟨_, rfl⟩
  have hl : W1.heap[w.heap.size + 1]? = some (.loop (rec .ready none)) := by
    rw [hW1]; have := World.alloc_heap_new (w.alloc (.deferred (some []))) (.loop (rec .ready none)); rwa [World.size_alloc] at this
  have hold : ∀ k, k < w.heap.size → W1.heap[k]? = w.heap[k]? := fun k hk => by
    rw [hW1, heap_alloc_lt _ _ (by rw [World.size_alloc]; omega), heap_alloc_lt _ _ hk]
  have hD : W1.heap[w.heap.size]? = some (.deferred (some [])) := by
    rw [hW1, heap_alloc_lt _ _ (by rw [World.size_alloc]; omega)]; exact World.alloc_heap_new w _
  have hu : Upd (fun _ => False) w W1 := ⟨by rw [hW1]; rfl, by rw [hW1]; rfl, by rw [hW1]; rfl, by rw [hW1, World.size_alloc, World.size_alloc]; omega, fun k hk _ => hold k hk, NcK.of_lt hold⟩
  obtain ⟨a2, ha2⟩ : ∃ a2 : Act, a2 = { a with defers := markD w.heap.size :: a.defers } := ⟨_, rfl⟩
  have hRa := (hr.frame hu).wk hc0 hwk
  have hd2 : okD c W1 (markD w.heap.size :: a.defers) := by
    obtain ⟨Ds, k1, k2, k3⟩ := hr.defs
    refine ⟨w.heap.size :: Ds, by rw [k1]; rfl, List.nodup_cons.2 ⟨fun hm => ?_, k2⟩, fun D hm => ?_⟩
    · have := (Array.getElem?_eq_some_iff.1 (k3 _ hm).2).1; omega
    · rcases List.mem_cons.1 hm with rfl | hm
      · exact ⟨Nat.le_trans hcB hr.hr.upd.size, hD⟩
      · exact ⟨(k3 D hm).1, by rw [hold D (Array.getElem?_eq_some_iff.1 (k3 D hm).2).1]; exact (k3 D hm).2⟩
  have hRa2 : Rel c (renL c.m ρ L hp0) (fun j => nx0 ≤ j) ⟨st.sl, hp0, nx0⟩ a2 W1 := by rw [ha2]; exact hRa.defers hd2
  have hae : ∀ x, a2.eval x = a.eval x := fun x => by rw [ha2]; rfl
  have hle : c.W.heap.size ≤ w.heap.size + 1 := Nat.le_trans hr.hr.upd.size (Nat.le_succ _)
  obtain ⟨J, hJ⟩ : ∃ J : List α → World → Prop, J = fun pre W => ∃ hp nx L', I pre hp nx ∧ Rel c L' (fun j => nx ≤ j) ⟨st.sl, hp, nx⟩ a2 W ∧ W.heap[w.heap.size + 1]? = some (.loop (rec .ready none)) := ⟨_, rfl⟩
  obtain ⟨Jx, hJx⟩ : ∃ Jx : List α → World → Prop, Jx = fun pre W => ∃ e jc hp nx L', jOf e = some jc ∧ Ix e pre hp nx ∧ Rel c L' (fun j => nx ≤ j) ⟨st.sl, hp, nx⟩ a2 W ∧ W.heap[w.heap.size + 1]? = some (.loop (rec .done (some jc))) := ⟨_, rfl⟩
  refine ⟨w.heap.size + 1, [markD w.heap.size], W1, { target := .fn (.func g) lb, args := #[.func (.yield (w.heap.size + 1)) #[] #[]] }, W1, g, #[.func (.yield (w.heap.size + 1)) #[] #[]] ++ lb, W1, ?_, ?_, ?_, ?_, (fun e => by cases e), ?_⟩
  · rw [hW1, hrec]; exact run_enterLoop_outer _ _ _ _ _
  · simp only [resolve, hfe]
    simp [go_sem]
  · intro _ _; trivial
  · simp [invoke, go_sem, run_callFunc hcal]
  have hone : ([markD w.heap.size] ++ a.defers) = markD w.heap.size :: a.defers := rfl
  rw [hone, ← ha2]
  refine (hseq W1 lb (w.heap.size + 1) J Jx ?_ ?_ ?_ ?_ ?_).mono ?_
  · rw [hJ]
    rintro pre X Y ⟨hp, nx, L', h1, h2, h3⟩ hu
    exact ⟨hp, nx, L', h1, h2.frame hu, hu.maps _ _ h3 rfl⟩
  · rw [hJx]
    rintro pre X Y ⟨e, jc, hp, nx, L', h0, h1, h2, h3⟩ hu
    exact ⟨e, jc, hp, nx, L', h0, h1, h2.frame hu, hu.maps _ _ h3 rfl⟩
  · rw [hJ]
    rintro pre X ⟨hp, nx, L', h1, h2, h3⟩
    have hv := h2.ev fo
    have e1 : St.ev ⟨st.sl, hp, nx⟩ fo = st.ev fo := by cases fo <;> rfl
    rw [e1, hf, hae, hfe] at hv
    obtain ⟨vs, gv, hvs, k0, k1, k2⟩ := hv.fn_eq
    injection hvs with _ _ hvs
    subst hvs
    refine ⟨by simpa using k0, fun i x hx => ?_⟩
    have hi := (List.getElem?_eq_some_iff.1 hx).1
    have := k1 i hi
    have e2 : lb.toList.getD i undef = gv i := by simp [List.getD_eq_getElem?_getD, this]
    rw [e2]
    exact ((k2 i x hx).isF_any (hcI x (List.mem_of_getElem? hx)) noLay).mono (fun _ _ _ => trivial)
  · rw [hJ, hJx]
    rintro pre x X ⟨hp, nx, L', h1, h2, h3⟩ hN
    obtain ⟨hw1, hAx⟩ := hrnd pre x hp nx h1 hN
    have hy := run_yield (P := c.P) (args := #[vl x]) h3 (by rw [hrec]; rfl)
    refine ⟨_, _, _, _, hy, roundIn_of_wpIn trivial ?_⟩
    -- the round's own activation
    have hfold : ((rec .ready none).params.zip #[vl x]).foldl (fun tmps (t, a) => tmps.setIfInBounds t a) (rec .ready none).tmps = a.tmps.setIfInBounds p (vl x) := by rw [hrec]; simp
    have hass : (rec .ready none).assign = ya := by rw [hrec]
    have hbod : (rec .ready none).body = yb := by rw [hrec]
    rw [hfold, hass, hbod]
    have hRe := ((h2.enter hw1).defers (d := []) okD.nil).put (d := some p) (fun k hk => by cases hk; exact hpn) (hev x X _ L')
    have hact : ({ a2 with defers := [] } : Act).put (some p) (vl x) = { tmps := a.tmps.setIfInBounds p (vl x), defers := [] } := by rw [ha2]; rfl
    rw [hact] at hRe
    refine hA (w.heap.size + 1) (c.at L' hp X) rfl rfl rfl _ _ _ _ _ _ hAx (by exact hRe) (fun e s L1 a1 w1 hs hR => ?_) (fun _ _ h => h)
    obtain ⟨rfl, hw2, hBs⟩ := hs
    have hl1 : w1.heap[w.heap.size + 1]? = some (.loop (rec .ready none)) := hR.hr.upd.maps _ _ h3 rfl
    have hO1 := h2.outer hw1 hR
    have hI1 := Rel.back h2.hr hR h2.ext (d := a1.defers) (by
      obtain ⟨Ds, q1, q2, q3⟩ := hR.defs
      exact ⟨Ds, q1, q2, fun D hD => ⟨(q3 D hD).1, (q3 D hD).2⟩⟩)
    obtain ⟨w2, hw2e⟩ : ∃ w2, w2 = w1.putObj (w.heap.size + 1) (.loop { rec .ready none with state := .busy }) := ⟨_, rfl⟩
    have hlt1 : w.heap.size + 1 < w1.heap.size := (Array.getElem?_eq_some_iff.1 hl1).1
    have hl2 : w2.heap[w.heap.size + 1]? = some (.loop { rec .ready none with state := .busy }) := by rw [hw2e]; exact World.putObj_heap_same hlt1
    have okT : ∀ {d : List Deferred} {X Y : World} {r r' : Loop}, X.heap[w.heap.size + 1]? = some (.loop r) → Y = X.putObj (w.heap.size + 1) (.loop r') → okD c X d → okD c Y d := by
      intro d X Y r r' hX hY ⟨Ds, q1, q2, q3⟩
      refine ⟨Ds, q1, q2, fun D hD => ⟨(q3 D hD).1, ?_⟩⟩
      rw [hY, World.putObj_heap_other (fun e => by have := (q3 D hD).2; rw [e, hX] at this; cases this)]
      exact (q3 D hD).2
    have hO2 : Rel c L1 (fun j => s.nx ≤ j) ⟨st.sl, s.hp, s.nx⟩ a2 w2 := by
      have := hO1.turnD hl1 rfl (fun _ _ e => by cases e) rfl hle (o' := .loop { rec .ready none with state := .busy }) (okT hl1 rfl hO1.defs)
      rw [← hw2e] at this; exact this
    have hI2 : Rel c L1 (fun j => s.nx ≤ j) s a1 w2 := by
      have := hI1.turnD hl1 rfl (fun _ _ e => by cases e) rfl hle (o' := .loop { rec .ready none with state := .busy }) (okT hl1 rfl hI1.defs)
      rw [← hw2e] at this; exact this
    refine ⟨w2, by rw [hw2e]; exact run_beginRound hl1 (by rw [hrec]), ?_⟩
    have hRb := hI2.enter hw2
    have post : ∀ (jump : Option Code) (s3 : St) (L3 : Lay) (a3 : Act) (w3 : World), Rel (c.at L1 s.hp w2) L3 (fun j => s3.nx ≤ j) s3 a3 w3 →
        ∃ w4, (Instr.endRound (w.heap.size + 1) jump).run c.P w3 = .ok (.bool jump.isNone) w4 ∧ Rel c L3 (fun j => s3.nx ≤ j) ⟨st.sl, s3.hp, s3.nx⟩ a2 w4 ∧
          w4.heap[w.heap.size + 1]? = some (.loop (rec (if jump.isNone then .ready else .done) jump)) := by
      intro jump s3 L3 a3 w3 hR3
      have hl3 : w3.heap[w.heap.size + 1]? = some (.loop { rec .ready none with state := .busy }) := hR3.hr.upd.maps _ _ hl2 rfl
      have hO3 : Rel c L3 (fun j => s3.nx ≤ j) ⟨st.sl, s3.hp, s3.nx⟩ a2 w3 := Rel.outer (st := ⟨st.sl, s.hp, s.nx⟩) hO2 hw2 hR3
      have he := run_endRound (P := c.P) jump hl3
      have hrr : ({ ({ rec .ready none with state := .busy } : Loop) with state := if jump.isNone then .ready else .done, pending := jump } : Loop) = rec (if jump.isNone then .ready else .done) jump := by rw [hrec]
      rw [hrr] at he
      have hO4 := hO3.turnD hl3 rfl (fun _ _ e => by cases e) rfl hle (o' := .loop (rec (if jump.isNone then .ready else .done) jump)) (okT hl3 rfl hO3.defs)
      exact ⟨_, he, hO4, World.putObj_heap_same (Array.getElem?_eq_some_iff.1 hl3).1⟩
    refine hB (w.heap.size + 1) (c.at L1 s.hp w2) rfl rfl rfl _ _ _ _ _ _ hBs hRb (fun e s3 L3 a3 w3 hs3 hR3 => ?_) (fun _ _ h => h)
    cases e with
    | normal =>
      obtain ⟨ρ3, hp3, nx3, hI3, hwk3⟩ := hs3
      obtain ⟨w4, k1, k2, k3⟩ := post none s3 L3 a3 w3 hR3
      exact ⟨_, w4, k1, .inl ⟨rfl, hp3, nx3, _, hI3, k2.wk hc0 hwk3, k3⟩⟩
    | ret =>
      obtain ⟨w4, k1, k2, k3⟩ := post (some .ret) s3 L3 a3 w3 hR3
      exact ⟨_, w4, k1, .inr ⟨rfl, .ret, .ret, s3.hp, s3.nx, _, rfl, hs3, k2, k3⟩⟩
    | exit id =>
      obtain ⟨w4, k1, k2, k3⟩ := post (some (.exit id)) s3 L3 a3 w3 hR3
      exact ⟨_, w4, k1, .inr ⟨rfl, .exit id, .exit id, s3.hp, s3.nx, _, rfl, hs3, k2, k3⟩⟩
    | goto t => exact hs3.elim
    | panic ch => exact hs3.elim
    | outgrown => exact hs3.elim
  · rw [hJ]; exact ⟨hp0, nx0, _, hI0, hRa2, hl⟩
  · rw [hJ, hJx]
    have okT : ∀ {d : List Deferred} {X Y : World} {r r' : Loop}, X.heap[w.heap.size + 1]? = some (.loop r) → Y = X.putObj (w.heap.size + 1) (.loop r') → okD c X d → okD c Y d := by
      intro d X Y r r' hX hY ⟨Ds, q1, q2, q3⟩
      refine ⟨Ds, q1, q2, fun D hD => ⟨(q3 D hD).1, ?_⟩⟩
      rw [hY, World.putObj_heap_other (fun e => by have := (q3 D hD).2; rw [e, hX] at this; cases this)]
      exact (q3 D hD).2
    rintro e X ⟨⟨v, rfl⟩, (⟨xs, hS, hp, nx, L', h1, h2, h3⟩ | ⟨pre, hS, e, jc, hp, nx, L', h0, h1, h2, h3⟩)⟩
    · have he := run_endLoop (P := c.P) h3 (by rw [hrec]; simp)
      have hO := h2.turnD h3 rfl (fun _ _ e => by cases e) rfl hle (o' := .loop { rec .ready none with state := .exhausted }) (okT h3 rfl h2.defs)
      have hpn' : (rec .ready none).pending = none := by rw [hrec]
      obtain ⟨o', ho'⟩ : ∃ o' : Loop, o' = { rec .ready none with state := .exhausted } := ⟨_, rfl⟩
      rw [← ho'] at he hO
      rw [hpn'] at he
      exact ⟨none, _, he, hQ _ _ _ _ _ (hdone xs hp nx hS h1) hO⟩
    · have he := run_endLoop (P := c.P) h3 (by rw [hrec]; simp)
      have hO := h2.turnD h3 rfl (fun _ _ e => by cases e) rfl hle (o' := .loop { rec .done (some jc) with state := .exhausted }) (okT h3 rfl h2.defs)
      have hpn' : (rec .done (some jc)).pending = some jc := by rw [hrec]
      obtain ⟨o', ho'⟩ : ∃ o' : Loop, o' = { rec .done (some jc) with state := .exhausted } := ⟨_, rfl⟩
      rw [← ho'] at he hO
      rw [hpn'] at he
      refine ⟨some jc, _, he, ?_⟩
      cases e with
      | ret =>
        injection h0 with h0; subst h0
        exact wpIn_ret (hQ _ _ _ _ _ (hstop .ret pre hp nx hS h1) hO)
      | exit id =>
        injection h0 with h0; subst h0
        exact wpIn_exit (hQ _ _ _ _ _ (hstop (.exit id) pre hp nx hS h1) hO)
      | _ => cases h0
end Go.Sim

namespace Go.Sim
open Go.RowKit
set_option linter.unusedVariables false
set_option linter.unusedSimpArgs false

section
variable {c : Cx}
theorem awA_sound (hc0 : ∀ id, c.m ≤ id → c.L0 id = none) (hcB : c.B ≤ c.W.heap.size) : ∀ (x : ACode) (y : Code) (st : St) (Q : Exit → St → Prop) (L : Lay) (a : Act) (w : World) (Qc : Exit → Act → World → Prop), co c.P c.n y = some (strip x) → awA c.P c.m x st Q → Rel c L (fun j => st.nx ≤ j) st a w →
    (∀ e s L' a' w', Q e s → Rel c L' (fun j => s.nx ≤ j) s a' w' → Qc e a' w') → y.wp c.P Qc a w := by
  intro x
  induction x with
  | skip =>
    intro y st Q L a w Qc hc h hr hQ
    obtain rfl := co_skip hc
    exact wp_skip (hQ _ _ L _ _ h hr)
  | lab l =>
    intro y st Q L a w Qc hc h hr hQ
    obtain rfl := co_lab hc
    exact wp_label (hQ _ _ L _ _ h hr)
  | goto l =>
    intro y st Q L a w Qc hc h hr hQ
    obtain rfl := co_goto hc
    exact wp_goto (hQ _ _ L _ _ h hr)
  | scopeJ l x r ihx ihr =>
    intro y st Q L a w Qc hc h hr hQ
    obtain ⟨y1, rfl, h1, h2⟩ := co_scopeJ hc
    have hf := findA_code y1 (strip x) l h1
    rw [h2] at hf
    obtain ⟨yr, hf1, hf2⟩ := hf
    refine wp_scope_jumps l (fun a' w' => ∃ s L', awA c.P c.m r s (KC Q) ∧ Rel c L' (fun j => s.nx ≤ j) s a' w') (fun _ _ => 0) hf1 (ihx y1 st _ L a w _ h1 h hr (fun e s L' a' w' hs hR => ?_)) (fun a1 w1 hJ => ?_)
    · cases e with
      | goto l' => exact ⟨hs.1, s, L', hs.2, hR⟩
      | exit i => exact hQ _ _ L' _ _ hs hR
      | normal => exact hQ _ _ L' _ _ hs hR
      | ret => exact hQ _ _ L' _ _ hs hR
      | panic ch => exact hQ _ _ L' _ _ hs hR
      | outgrown => exact hQ _ _ L' _ _ hs hR
    · obtain ⟨s, L1, hs1, hR1⟩ := hJ
      refine ihr yr s _ L1 a1 w1 _ hf2 hs1 hR1 (fun e s' L' a' w' hs hR => ?_)
      cases e with
      | goto l' => exact hs.elim
      | exit i => exact hQ _ _ L' _ _ hs hR
      | normal => exact hQ _ _ L' _ _ hs hR
      | ret => exact hQ _ _ L' _ _ hs hR
      | panic ch => exact hQ _ _ L' _ _ hs hR
      | outgrown => exact hQ _ _ L' _ _ hs hR
  | exit id =>
    intro y st Q L a w Qc hc h hr hQ
    obtain rfl := co_exit hc
    exact wp_exit (hQ _ _ L _ _ h hr)
  | ret =>
    intro y st Q L a w Qc hc h hr hQ
    obtain rfl := co_ret hc
    exact wp_ret (hQ _ _ L _ _ h hr)
  | reg l ks =>
    intro y st Q L a w Qc hc h hr hQ
    obtain ⟨id, ops, rfl, hl⟩ := co_reg hc
    have hlen := coOps_length hl
    rw [List.length_map] at hlen
    refine wp_region_list (aopsA_sound ops.toList 0 l st.nx st L (fun j => st.nx ≤ j) a w _ hl h (fun j hj => hj) hr (fun s L' a' w' hs hR => ?_))
    refine hQ _ _ L' _ _ hs (Rel.mono (Rel.keepO (hR.nx _) ks) (fun j hj => ?_))
    rw [keepO_nx] at hj
    simp only at hj
    exact ⟨by omega, by omega⟩
  | regD l ks =>
    intro y st Q L a w Qc hc h hr hQ
    obtain ⟨id, ops, rfl, h1, h2, hl⟩ := co_regD hc
    have hlen := coOps_length hl
    refine awD_sound h2 h1 (aopsDA_imp (tab_ok ops) _ _ _ _ _ _ _ hl (by simp) (fun q hq => by cases hq) h) hr (fun s L' a' w' hs hR => ?_)
    refine hQ _ _ L' _ _ hs (Rel.mono (Rel.keepO (hR.nx _) ks) (fun j hj => ?_))
    rw [keepO_nx] at hj
    simp only at hj ⊢
    rw [List.length_map] at hlen
    rw [hlen] at hj
    simpa using hj
  | seq x z ihx ihz =>
    intro y st Q L a w Qc hc h hr hQ
    obtain ⟨y1, y2, rfl, h1, h2⟩ := co_seq hc
    refine wp_seq (ihx y1 st _ L a w _ h1 h hr (fun e s L' a' w' hs hR => ?_))
    cases e with
    | normal => exact ihz y2 s Q L' a' w' Qc h2 hs hR hQ
    | exit id => exact hQ _ _ L' _ _ hs hR
    | goto l => exact hQ _ _ L' _ _ hs hR
    | ret => exact hQ _ _ L' _ _ hs hR
    | panic ch => exact hQ _ _ L' _ _ hs hR
    | outgrown => exact hQ _ _ L' _ _ hs hR
  | cond k x z ihx ihz =>
    intro y st Q L a w Qc hc h hr hQ
    obtain ⟨k', y1, y2, rfl, rfl, h1, h2⟩ := co_cond hc
    simp only [awA, e_co] at h
    split at h
    · rename_i t ht
      have hv := hr.ev k'
      rw [ht] at hv
      cases t with
      | true => exact wp_cond (t := true) hv.sc_eq (ihx y1 st Q L a w Qc h1 (by simpa using h) hr hQ)
      | false => exact wp_cond (t := false) hv.sc_eq (ihz y2 st Q L a w Qc h2 (by simpa using h) hr hQ)
    · exact h.elim
  | block id x ih =>
    intro y st Q L a w Qc hc h hr hQ
    obtain ⟨y1, rfl, h1⟩ := co_block hc
    refine wp_block (ih y1 st _ L a w _ h1 h hr (fun e s L' a' w' hs hR => ?_))
    cases e with
    | exit i =>
      simp only [Exit.inBlock]
      split
      · rename_i hi
        simp only [KB, hi, if_true] at hs
        exact hQ _ _ L' _ _ hs hR
      · rename_i hi
        simp only [KB, hi, if_false] at hs
        exact hQ _ _ L' _ _ hs hR
    | normal => exact hQ _ _ L' _ _ hs hR
    | goto l => exact hQ _ _ L' _ _ hs hR
    | ret => exact hQ _ _ L' _ _ hs hR
    | panic ch => exact hQ _ _ L' _ _ hs hR
    | outgrown => exact hQ _ _ L' _ _ hs hR
  | scope x ih =>
    intro y st Q L a w Qc hc h hr hQ
    obtain ⟨y1, rfl, h1⟩ := co_scope hc
    refine wp_scope_straight (ih y1 st _ L a w _ h1 h hr (fun e s L' a' w' hs hR => ?_))
    cases e with
    | goto l => exact hs.elim
    | exit i => exact hQ _ _ L' _ _ hs hR
    | normal => exact hQ _ _ L' _ _ hs hR
    | ret => exact hQ _ _ L' _ _ hs hR
    | panic ch => exact hQ _ _ L' _ _ hs hR
    | outgrown => exact hQ _ _ L' _ _ hs hR
  | keep ks x ih =>
    intro y st Q L a w Qc hc h hr hQ
    exact ih y _ Q L a w Qc hc h (hr.keep ks) hQ
  | rgf f p x z ihx ihz =>
    intro y st Q L a w Qc hc h hr hQ
    obtain ⟨fo, y1, y2, rfl, rfl, h1, h2, hpn, k1, k2⟩ := co_rgf hc
    simp only [awA, e_co] at h
    rw [okB_strip] at k1 k2
    exact rgA_sound hc0 hcB hpn (fun l0 c' e1 e2 e3 st Q L a w Qc hA hr hQ hno => by
        have := awI_sound l0 0 x y1 st Q L a w Qc k1 (by rw [e1, e2]; exact h1) (by rw [e1, e3]; exact hA) hr hQ hno
        rw [e1] at this; exact this)
      (fun l0 c' e1 e2 e3 st Q L a w Qc hA hr hQ hno => by
        have := awI_sound l0 0 z y2 st Q L a w Qc k2 (by rw [e1, e2]; exact h2) (by rw [e1, e3]; exact hA) hr hQ hno
        rw [e1] at this; exact this) h hr hQ
  | loop x ih =>
    intro y st Q L a w Qc hc h hr hQ
    obtain ⟨y1, rfl, h1⟩ := co_loop hc
    obtain ⟨I, ⟨k0, ρ0, s0, hI0, hw0⟩, hround⟩ := h
    refine wp_loop_ghost (fun k a w => ∃ s L, I k s ∧ Rel c L (fun j => s.nx ≤ j) s a w) k0 ⟨s0, _, hI0, hr.wk hc0 hw0⟩ (fun k a w hI => ?_)
    obtain ⟨s, L2, hIs, hR⟩ := hI
    refine ih y1 s _ L2 a w _ h1 (hround k s hIs) hR (fun e s1 L' a' w' hs hR' => ?_)
    cases e with
    | normal =>
      obtain ⟨k', ρ, s2, hk, hI2, hw2⟩ := hs
      exact ⟨k', hk, s2, _, hI2, hR'.wk hc0 hw2⟩
    | exit id => exact hQ _ _ L' _ _ hs hR'
    | goto l => exact hQ _ _ L' _ _ hs hR'
    | ret => exact hQ _ _ L' _ _ hs hR'
    | panic ch => exact hQ _ _ L' _ _ hs hR'
    | outgrown => exact hQ _ _ L' _ _ hs hR'
end

inductive AR where
  | t (n : Nat)
  | c (n : Nat) (ag : Bool) (sz : Nat)
def coR (P : Program) : List ResultVar → Option (List AR)
  | [] => some []
  | .tmp t :: r => match coR P r with | some l => some (.t t :: l) | none => none
  | .cell t ty :: r => match coR P r, good P ty with | some l, true => some (.c t (ags P ty) (siz P ty) :: l) | _, _ => none
def rvA (st : St) : List AR → Option (List AV × Prop)
  | [] => some ([], True)
  | .t t :: r => match rvA st r with | some (l, p) => some (st.get t :: l, p) | none => none
  | .c t ag sz :: r => match rvA st r, st.get t with
    | some (l, p), .pt id off => (match look st.hp id with
      | some o => some (rdx ag sz o.cells off :: l, p ∧ off + sz ≤ o.cells.length)
      | none => none)
    | _, _ => none
theorem rvA_spec {P : Program} {st : St} : ∀ (rs : List ResultVar) (as : List AR) (l : List AV) (p : Prop), coR P rs = some as → rvA st as = some (l, p) → p → ∃ q, rvs P st rs = some (l, q) ∧ q := by
  intro rs
  induction rs with
  | nil =>
    intro as l p h1 h2 h3
    simp only [coR, Option.some.injEq] at h1
    subst h1
    simp only [rvA, Option.some.injEq, Prod.mk.injEq] at h2
    obtain ⟨rfl, rfl⟩ := h2
    exact ⟨True, rfl, trivial⟩
  | cons x r ih =>
    intro as l p h1 h2 h3
    cases x with
    | tmp t =>
      simp only [coR] at h1
      split at h1
      · rename_i l1 hl1
        simp only [Option.some.injEq] at h1
        subst h1
        simp only [rvA] at h2
        split at h2
        · rename_i l2 p2 hr
          simp only [Option.some.injEq, Prod.mk.injEq] at h2
          obtain ⟨rfl, rfl⟩ := h2
          obtain ⟨q, hq, hq2⟩ := ih _ _ _ hl1 hr h3
          exact ⟨q, by simp only [rvs, hq], hq2⟩
        · cases h2
      · cases h1
    | cell t ty =>
      simp only [coR] at h1
      split at h1
      · rename_i l1 hl1 hg
        simp only [Option.some.injEq] at h1
        subst h1
        simp only [rvA] at h2
        split at h2
        · rename_i l2 p2 id off hr hg2
          split at h2
          · rename_i o ho
            simp only [Option.some.injEq, Prod.mk.injEq] at h2
            obtain ⟨rfl, rfl⟩ := h2
            obtain ⟨q, hq, hq2⟩ := ih _ _ _ hl1 hr h3.1
            exact ⟨q ∧ good P ty = true ∧ off + siz P ty ≤ o.cells.length, by simp only [rvs, hq, hg2, ho, rdx_eq h3.2], hq2, hg, h3.2⟩
          · cases h2
        · cases h2
      · cases h1
def RvA (m : Nat) (hp1 : List (Nat × Ob)) (r : AV) (hp : List (Nat × Ob)) : Option (List AV × Prop) → Prop
  | some (l, p) => p ∧ ∃ ρ, Fin m ρ hp (one l) hp1 r
  | none => False
def EndF (m : Nat) (hp : List (Nat × Ob)) (x : AV) (hp1 : List (Nat × Ob)) (r : AV) : Prop := ∃ ρ, Fin m ρ hp x hp1 r
def RetsA (m : Nat) (rs : List AR) (hp1 : List (Nat × Ob)) (r : AV) (e : Exit) (st : St) : Prop :=
  (match e with | .normal | .ret => True | _ => False) ∧ RvA m hp1 r st.hp (rvA st rs)
theorem rets_of {P : Program} {m : Nat} {rs : List ResultVar} {as : List AR} {hp1 : List (Nat × Ob)} {r : AV} {e : Exit} {st : St} (hc : coR P rs = some as) (h : RetsA m as hp1 r e st) : Rets P m rs hp1 r e st := by
  obtain ⟨he, h⟩ := h
  refine ⟨he, ?_⟩
  unfold RvA at h
  split at h
  · rename_i l p hrv
    obtain ⟨q, hq, hq2⟩ := rvA_spec _ _ _ _ hc hrv h.1
    rw [hq]
    exact ⟨hq2, h.2⟩
  · exact h.elim
def cmpF (P : Program) (fn : Func) : Option (ACode × List AR) :=
  match fn.body with
  | some x => match co P fn.ntmps x, coR P fn.results.toList with
    | some a, some rs => some (a, rs)
    | _, _ => none
  | none => none
theorem con_c {P : Program} {f : FuncId} (fn : Func) (x : ACode) (rs : List AR) {hp0 hp1 : List (Nat × Ob)} {args : List AV} {r : AV} (hf : P.funcs[f]? = some fn) (hcm : cmpF P fn = some (strip x, rs)) (hargs : args.length ≤ fn.ntmps) (nx : Nat)
    (hn : ∀ p ∈ hp0, p.1 < nx) (hn' : ∀ id, id < nx → look hp0 id ≠ none) (h : awA P nx x ⟨slots args 0, hp0, nx⟩ (RetsA nx rs hp1 r)) : Con P f hp0 args hp1 r := by
  unfold cmpF at hcm
  split at hcm
  · rename_i code hb
    split at hcm
    · rename_i a rs' hco hcr
      simp only [Option.some.injEq, Prod.mk.injEq] at hcm
      obtain ⟨rfl, rfl⟩ := hcm
      intro W I S L cargs hcl hHR hV
      have hL0 : ∀ id, nx ≤ id → L id = none := by
        intro id hid
        refine hcl id ?_
        cases hl : look hp0 id with
        | none => rfl
        | some o => have := hn _ (look_mem hl); simp only at this; omega
      let c : Cx := ⟨P, W, fn.ntmps, I, S, nx, L, W.heap.size⟩
      have hsz : cargs.size = args.length := by have := hV.1; simpa using this
      have hRel : Rel c L (fun j => nx ≤ j) ⟨slots args 0, hp0, nx⟩ { tmps := cargs ++ Array.replicate (fn.ntmps - cargs.size) undef, defers := [] } W := by
        refine ⟨hHR.cx, fun id hid => hL0 id hid, okD.nil, by show (cargs ++ _).size = fn.ntmps; simp; omega, fun t => ?_, fun id y hy => .inl hy⟩
        simp only [St.get, look_slots, Nat.not_lt_zero, if_false, Nat.sub_zero]
        by_cases ht : t < args.length
        · rw [List.getElem?_eq_getElem ht, Option.getD_some]
          have := hV.2 t args[t] (List.getElem?_eq_getElem ht)
          have e : (cargs ++ Array.replicate (fn.ntmps - cargs.size) undef).getD t undef = cargs.toList.getD t undef := by
            rw [Array.getD_eq_getD_getElem?, Array.getElem?_append_left (by omega), List.getD_eq_getElem?_getD]
            simp
          rw [e]
          exact this
        · rw [List.getElem?_eq_none (by omega)]
          exact .un _ _
      refine calls_closed hf hb (awA_sound (c := c) (fun id hid => hL0 id hid) (Nat.le_refl _) x code _ _ L _ W _ hco h hRel (fun e s L1 a1 w0 hs hR0 => ?_))
      obtain ⟨he, hs⟩ := rets_of hcr hs
      obtain ⟨w1, hlv, hR⟩ := hR0.closed (Nat.le_refl _)
      have key : ∃ w2, Leaves P a1 w0 w2 ∧ ∃ v, (results fn a1.tmps).run P w2 = .ok v w2 ∧ (fun (e : Ending) (W' : World) => ∃ v L', e = .returned v ∧ (∀ id y, L id = some y → L' id = some y ∨ L' id = some none) ∧ (∀ id, look hp0 id = none → look hp1 id = none → L' id = none) ∧
          HR ⟨P, W, 0, I, S, 0, L, W.heap.size⟩ L' hp1 W' ∧ VR W' (sta ⟨P, W, 0, I, S, 0, L, W.heap.size⟩ L' hp1) L' r v) (.returned v) w2 := by
        split at hs
        · rename_i l p hrv
          obtain ⟨hp, ρ, hfin⟩ := hs
          obtain ⟨v, hv1, hv2⟩ := results_spec hR hrv hp
          obtain ⟨f1, f2, f3, f4⟩ := hfin
          obtain ⟨k1, k2⟩ := hR.hr.ren nx f2 f3
          refine ⟨w1, hlv, v, hv1, v, renL nx ρ L1 hp1, rfl, fun id y hy => ?_, fun id h0 h1 => ?_, k1.cx, k2 _ _ _ hv2 f1⟩
          · have hm : id < nx := by
              by_cases hh : id < nx
              · exact hh
              · rw [hL0 id (by omega)] at hy; cases hy
            cases hl : look hp1 id with
            | none =>
              simp only [renL, hl, if_pos hm]
              rcases hR.ext id y hy with e | e <;> simp [e]
            | some o =>
              have := f4 _ (look_mem hl) hm
              simp only at this
              simp only [renL, hl, this]
              exact hR.ext id y hy
          · have hm : ¬ id < nx := fun hh => hn' id hh h0
            simp only [renL, h1, if_neg hm]
        · exact hs.elim
      cases e with
      | normal => exact ⟨.inl rfl, key⟩
      | ret => exact ⟨.inr rfl, key⟩
      | _ => exact he.elim
    · cases hcm
  · cases hcm
def cmpG (P : Program) (f : FuncId) : Option (ACode × List AR × Nat) := match P.funcs[f]? with
  | some fn => match cmpF P fn with | some (a, rs) => some (a, rs, fn.ntmps) | none => none
  | none => none
theorem con_k {P : Program} {f : FuncId} {x : ACode} {rs : List AR} {n : Nat} (hk : cmpG P f = some (strip x, rs, n)) {args : List AV} {r : AV} (hargs : args.length ≤ n)
    (h : awA P 0 x ⟨slots args 0, [], 0⟩ (RetsA 0 rs [] r)) : Con P f [] args [] r := by
  unfold cmpG at hk
  split at hk
  · rename_i fn hf
    split at hk
    · rename_i a rs' hc
      simp only [Option.some.injEq, Prod.mk.injEq] at hk
      obtain ⟨rfl, rfl, rfl⟩ := hk
      exact con_c fn x _ hf hc hargs 0 (fun p hp => by cases hp) (fun id hid => absurd hid (Nat.not_lt_zero _)) h
    · cases hk
  · cases hk
theorem con_m {P : Program} {f : FuncId} {x : ACode} {rs : List AR} {n : Nat} (hk : cmpG P f = some (strip x, rs, n)) {args : List AV} {ob : Ob} {hp1 : List (Nat × Ob)} {r : AV} (hargs : args.length ≤ n)
    (h : awA P 1 x ⟨slots args 0, [(0, ob)], 1⟩ (RetsA 1 rs hp1 r)) : Con P f [(0, ob)] args hp1 r := by
  unfold cmpG at hk
  split at hk
  · rename_i fn hf
    split at hk
    · rename_i a rs' hc
      simp only [Option.some.injEq, Prod.mk.injEq] at hk
      obtain ⟨rfl, rfl, rfl⟩ := hk
      refine con_c fn x _ hf hc hargs 1 (fun p hp => ?_) (fun id hid => ?_) h
      · simp only [List.mem_singleton] at hp; subst hp; exact Nat.lt_succ_self _
      · have : id = 0 := by omega
        subst this
        simp [look]
    · cases hk
  · cases hk
end Go.Sim
