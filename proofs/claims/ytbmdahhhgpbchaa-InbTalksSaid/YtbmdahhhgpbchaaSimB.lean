-- The generic part of this repo's walks over an abstract state (wip/sim), laid by mksim.py.
import Derived.Test.YtbmdahhhgpbchaaSimA
import Derived.Laws.Cover3
import Derived.ScopeJumps
import Derived.RangeFuncLeaves
import Derived.ChangeArms
import Derived.OpenShut
import Derived.WideShapes
import Derived.Deep.Matrix
namespace Go.Sim
open Go.RowKit
set_option linter.unusedVariables false
set_option linter.unusedSimpArgs false

noncomputable def eff (P : Program) (nid : Nat) (st : St) (op : Op) : Option (AV × List (Nat × Option Ob) × Prop) :=
  match avl P st op with
  | some (x, ob) => some (x, [], ob)
  | none => aef P nid st op
section
variable {c : Cx} {L : Lay} {F : Nat → Prop} {st : St} {a : Act} {w : World}
theorem acts_eff (h : Rel c L F st a w) {nid : Nat} (hF : F nid) {o : Oper} {r : AV} {up : List (Nat × Option Ob)} {ob : Prop} (he : eff c.P nid st o.op = some (r, up, ob)) (hob : ob) : Acts c L F st a w nid o r up := by
  unfold eff at he
  split at he
  · rename_i x ob' hx
    simp only [Option.some.injEq, Prod.mk.injEq] at he
    obtain ⟨rfl, rfl, rfl⟩ := he
    obtain ⟨v, h1, h2⟩ := avl_run h hx hob
    exact ⟨w, L, h.mono (fun j hj => hj.1), .inl ⟨v, h1, h2⟩⟩
  · obtain ⟨dst, op, ty, pos, aft, gd⟩ := o
    simp only at he
    cases op with
    | alloc t => exact acts_alloc h hF he
    | box t x => exact acts_box h hF he
    | buildSlice t n ps => exact acts_buildSlice h hF he hob
    | makeSlice t x y => exact acts_makeSlice h hF he hob
    | store t x y => exact acts_store h he hob
    | convert s d x => exact acts_mark h he hob
    | slice t x lo hi mx => exact acts_cut3 h hF he hob
    | call cl =>
      obtain ⟨callee, args, argTypes⟩ := cl
      cases callee with
      | builtin b =>
        cases b with
        | append => exact acts_append h hF he hob
        | _ => simp [aef] at he
      | _ => simp [aef] at he
    | _ => simp [aef] at he
theorem up_sl (st : St) (up : List (Nat × Option Ob)) : (st.up up).sl = st.sl ∧ (st.up up).nx = st.nx := by
  induction up generalizing st with
  | nil => exact ⟨rfl, rfl⟩
  | cons u up ih =>
    obtain ⟨k, o⟩ := u
    cases o <;> simp only [St.up] <;> exact ih _
theorem does_eff {nid : Nat} (hF : F nid) {o : Oper} {r : AV} {up : List (Nat × Option Ob)} {ob : Prop} (hd : ∀ k, o.dst = some k → k < c.n) (he : eff c.P nid st o.op = some (r, up, ob)) (hob : ob) :
    Does c F o st (fun j => F j ∧ j ≠ nid) ((st.up up).put o.dst r) := by
  intro L a w K Q h hK
  obtain ⟨w', L', hR, hv⟩ := acts_eff h hF he hob
  unfold Oper.wp
  rcases hv with ⟨v, h1, h2⟩ | ⟨h1, rfl⟩
  · rw [h1]
    exact hK _ _ _ (hR.put hd h2)
  · rw [h1]
    exact hK _ _ _ (hR.put hd (.un _ _))
end

def Con (P : Program) (f : FuncId) (hp0 : List (Nat × Ob)) (args : List AV) (hp1 : List (Nat × Ob)) (r : AV) : Prop :=
  ∀ (W : World) (I : Nat → Prop) (S : Nat → Nat → Prop) (L : Lay) (cargs : Array Value),
    (∀ id, look hp0 id = none → L id = none) → HR ⟨P, W, 0, I, S, 0, L, W.heap.size⟩ L hp0 W → VRs W (sta ⟨P, W, 0, I, S, 0, L, W.heap.size⟩ L hp0) L args cargs.toList →
    Calls P f cargs W fun e W' => ∃ v L', e = .returned v ∧ (∀ id y, L id = some y → L' id = some y ∨ L' id = some none) ∧ (∀ id, look hp0 id = none → look hp1 id = none → L' id = none) ∧
      HR ⟨P, W, 0, I, S, 0, L, W.heap.size⟩ L' hp1 W' ∧ VR W' (sta ⟨P, W, 0, I, S, 0, L, W.heap.size⟩ L' hp1) L' r v

def isF : AV → Bool
  | .sc _ | .nl | .fz _ _ | .fp _ _ | .un | .mp _ _ | .fq _ _ => true
  | _ => false
def okI (l : List AV) : Prop := ∀ x ∈ l, isF x = true
def isFl : AV → Bool
  | .sc _ | .nl | .un => true
  | _ => false
def flat : AV → Bool
  | .ag l => l.all isFl
  | .tu l => l.all fun x => match x with | .ag l => l.all isFl | x => isFl x
  | x => isFl x
def frz1 (st : St) : AV → Option (AV × List (Nat × Nat) × Prop)
  | .lv id off n => match look st.hp id with
    | some o => some (.fz n ((o.cells.drop off).take (n * o.esz)), [(id, off + n * o.esz)], off + n * o.esz ≤ o.cells.length ∧ 0 < o.esz ∧ okI o.cells)
    | none => none
  | .nl => some (.fz 0 [], [], True)
  | .pt id off => match look st.hp id with
    | some o => some (.fp o.cells off, [(id, o.cells.length)], okI o.cells)
    | none => none
  | x => if isF x then some (x, [], True) else none
def frzs1 (st : St) : List AV → Option (List AV × List (Nat × Nat) × Prop)
  | [] => some ([], [], True)
  | x :: r => match frz1 st x, frzs1 st r with
    | some (y, l, p), some (ys, ls, q) => some (y :: ys, l ++ ls, p ∧ q)
    | _, _ => none
def frz (st : St) : AV → Option (AV × List (Nat × Nat) × Prop)
  | .ag l => match frzs1 st l with | some (ys, ls, p) => some (.ag ys, ls, p) | none => none
  | .fn f l => match frzs1 st l with | some (ys, ls, p) => some (.fn f ys, ls, p) | none => none
  | x => frz1 st x
def frzs (st : St) : List AV → Option (List AV × List (Nat × Nat) × Prop)
  | [] => some ([], [], True)
  | x :: r => match frz st x, frzs st r with
    | some (y, l, p), some (ys, ls, q) => some (y :: ys, l ++ ls, p ∧ q)
    | _, _ => none
def St.lends (st : St) : List (Nat × Nat) → St
  | [] => st
  | (id, k) :: r => match look st.hp id with
    | some o => St.lends { st with hp := ins st.hp id ⟨o.cells, o.esz, max o.hw k⟩ } r
    | none => St.lends st r

section
variable {c : Cx} {L : Lay} {F : Nat → Prop} {st : St} {a : Act} {w : World}
def staL (c : Cx) (L : Lay) (hp : List (Nat × Ob)) (ls : List (Nat × Nat)) (b i : Nat) : Prop :=
  sta c L hp b i ∨ ∃ id k B, (id, k) ∈ ls ∧ L id = some (some B) ∧ B.size ≠ 0 ∧ B.block = b ∧ i < k
theorem VR.isF_any {w : World} {S : Nat → Nat → Prop} {L : Lay} {x : AV} {v : Value} (h : VR w S L x v) (hx : isF x = true) (L' : Lay) : VR w S L' x v := by
  cases h with
  | un => exact .un _ _
  | sc => exact .sc _ _
  | nl => exact .nl _
  | fz0 => exact .fz0 _ _ _
  | fz L n cells b o c g h0 h1 h2 => exact .fz _ _ _ _ _ _ g h0 h1 h2
  | fp L cells off b o g h1 h2 => exact .fp _ _ _ _ _ g h1 h2
  | lv => cases hx
  | lvd => cases hx
  | pt => cases hx
  | ptd => cases hx
  | ag => cases hx
  | tu => cases hx
  | fn => cases hx
  | bf => cases hx
  | fq0 => exact .fq0 _ _
  | fq L n cells b o g h1 h2 => exact .fq _ _ _ _ _ g h1 h2
  | mp0 => exact .mp0 _
  | mp L ks vs r es ck g h0 hm h1 h2 => exact .mp _ _ _ _ es ck g h0 hm h1 h2
theorem VR.isFl_any {w w' : World} {S S' : Nat → Nat → Prop} {L L' : Lay} {x : AV} {v : Value} (h : VR w S L x v) (hx : isFl x = true) : VR w' S' L' x v := by
  cases h with
  | un => exact .un _ _
  | sc => exact .sc _ _
  | nl => exact .nl _
  | _ => cases hx
theorem VR.mono {w : World} {S S' : Nat → Nat → Prop} {L : Lay} {x : AV} {v : Value} (h : VR w S L x v) (hs : ∀ b i, S b i → S' b i) : VR w S' L x v :=
  h.move (fun b i u hb hu => ⟨hs b i hb, hu⟩) (fun _ _ hy => .inl hy)
theorem VR.flat_any {w w' : World} {S S' : Nat → Nat → Prop} {L L' : Lay} {x : AV} {v : Value} (h : VR w S L x v) (hx : flat x = true) : VR w' S' L' x v := by
  cases x with
  | ag l =>
    obtain ⟨vs, g, rfl, h0, h1, h2⟩ := h.ag_eq
    exact .ag _ _ _ g h0 h1 (fun i y hy => (h2 i y hy).isFl_any (List.all_eq_true.1 hx y (List.mem_of_getElem? hy)))
  | tu l =>
    obtain ⟨vs, g, rfl, h0, h1, h2⟩ := h.tu_eq
    refine .tu _ _ _ g h0 h1 (fun i y hy => ?_)
    have hy1 := List.all_eq_true.1 hx y (List.mem_of_getElem? hy)
    cases y with
    | ag l' =>
      obtain ⟨vs', g', e', h0', h1', h2'⟩ := (h2 i _ hy).ag_eq
      rw [e']
      exact .ag _ _ _ g' h0' h1' (fun j z hz => (h2' j z hz).isFl_any (List.all_eq_true.1 hy1 z (List.mem_of_getElem? hz)))
    | _ => exact (h2 i _ hy).isFl_any hy1
  | _ => exact h.isFl_any hx
theorem frz1_spec (h : Rel c L F st a w) {x y : AV} {v : Value} (hv : VR w (sta c L st.hp) L x v) {ls : List (Nat × Nat)} {ob : Prop} (he : frz1 st x = some (y, ls, ob)) (hob : ob) : VR w (staL c L st.hp ls) noLay y v := by
  unfold frz1 at he
  split at he
  · rename_i id off n
    split at he
    · rename_i o ho
      simp only [Option.some.injEq, Prod.mk.injEq] at he
      obtain ⟨rfl, rfl, rfl⟩ := he
      obtain ⟨hl, hez, hF⟩ := hob
      obtain ⟨B, hB, hBe, hlen, hreal⟩ := h.hr.live id o ho
      obtain ⟨A, cap, rfl, hcap, hA, hroom⟩ := hv.lv_eq hB
      by_cases hn : n = 0
      · subst hn
        simp only [Nat.zero_mul, List.take_zero]
        exact .fz0 _ _ _
      · have hA' := hA (by omega)
        subst hA'
        have hpos : 0 < n * o.esz := Nat.mul_pos (by omega) hez
        have hz : B.size ≠ 0 := by omega
        obtain ⟨C, T, fr, e5, e6, e7, e8⟩ := hreal hz
        refine .fz _ _ _ _ _ _ (fun i => C.getD (off + i) undef) hcap (fun i hi => ?_) (fun i x hx => ?_)
        · simp only [List.length_take, List.length_drop] at hi
          have hlt : off + i < C.size := by omega
          refine ⟨.inr ⟨id, _, B, by simp; rfl, hB, hz, rfl, by omega⟩, ?_⟩
          simp [World.cell?, e5, hlt]
        · have hi := (List.getElem?_eq_some_iff.1 hx).1
          simp only [List.length_take, List.length_drop] at hi
          rw [List.getElem?_take, if_pos (by omega), List.getElem?_drop] at hx
          exact ((e8 _ _ hx).isF_any (hF x (List.mem_of_getElem? hx)) noLay).mono (fun b i hs => .inl hs)
    · cases he
  · simp only [Option.some.injEq, Prod.mk.injEq] at he
    obtain ⟨rfl, rfl, rfl⟩ := he
    have := hv.nl_eq
    subst this
    exact .fz0 _ _ _
  · rename_i id off
    split at he
    · rename_i o ho
      simp only [Option.some.injEq, Prod.mk.injEq] at he
      obtain ⟨rfl, rfl, rfl⟩ := he
      obtain ⟨B, hB, hBe, hlen, hreal⟩ := h.hr.live id o ho
      have := hv.pt_eq hB
      subst this
      by_cases hz : B.size = 0
      · have : o.cells = [] := List.eq_nil_of_length_eq_zero (by omega)
        rw [this]
        have := VR.fp (w := w) (S := staL c L st.hp [(id, ([] : List AV).length)]) noLay [] off B.block 0 (fun _ => undef) (fun i hi => absurd hi (Nat.not_lt_zero _)) (fun i x hx => by simp at hx)
        rw [Nat.zero_add] at this
        exact this
      · obtain ⟨C, T, fr, e5, e6, e7, e8⟩ := hreal hz
        have := VR.fp (w := w) (S := staL c L st.hp [(id, o.cells.length)]) noLay o.cells off B.block 0 (fun i => C.getD i undef) (fun i hi => by
          have hlt : i < C.size := by omega
          rw [Nat.zero_add]
          exact ⟨.inr ⟨id, _, B, by simp, hB, hz, rfl, hi⟩, by simp [World.cell?, e5, hlt]⟩) (fun i x hx => ((e8 i x hx).isF_any (hob x (List.mem_of_getElem? hx)) noLay).mono (fun b i hs => .inl hs))
        rw [Nat.zero_add] at this
        exact this
    · cases he
  · split at he
    · rename_i hx
      simp only [Option.some.injEq, Prod.mk.injEq] at he
      obtain ⟨rfl, rfl, rfl⟩ := he
      exact (hv.isF_any hx noLay).mono (fun b i hs => .inl hs)
    · cases he
theorem staL_app1 {hp : List (Nat × Ob)} {l1 l2 : List (Nat × Nat)} {b i : Nat} (h : staL c L hp l1 b i) : staL c L hp (l1 ++ l2) b i := by
  rcases h with h | ⟨id, k, B, h1, h2⟩
  · exact .inl h
  · exact .inr ⟨id, k, B, List.mem_append.2 (.inl h1), h2⟩
theorem staL_app2 {hp : List (Nat × Ob)} {l1 l2 : List (Nat × Nat)} {b i : Nat} (h : staL c L hp l2 b i) : staL c L hp (l1 ++ l2) b i := by
  rcases h with h | ⟨id, k, B, h1, h2⟩
  · exact .inl h
  · exact .inr ⟨id, k, B, List.mem_append.2 (.inr h1), h2⟩
theorem frzs1_spec (h : Rel c L F st a w) : ∀ {xs ys : List AV} {g : Nat → Value} {ls : List (Nat × Nat)} {ob : Prop}, (∀ i x, xs[i]? = some x → VR w (sta c L st.hp) L x (g i)) → frzs1 st xs = some (ys, ls, ob) → ob →
    ys.length = xs.length ∧ ∀ i y, ys[i]? = some y → VR w (staL c L st.hp ls) noLay y (g i) := by
  intro xs
  induction xs with
  | nil =>
    intro ys g ls ob _ he _
    simp [frzs1] at he
    obtain ⟨rfl, rfl, _⟩ := he
    exact ⟨rfl, fun i y hy => by simp at hy⟩
  | cons x xs ih =>
    intro ys g ls ob hv he hob
    simp only [frzs1] at he
    split at he
    · rename_i y l p ys' ls' q h1 h2
      simp only [Option.some.injEq, Prod.mk.injEq] at he
      obtain ⟨rfl, rfl, rfl⟩ := he
      obtain ⟨e1, e2⟩ := ih (g := fun i => g (i + 1)) (fun i x hx => hv (i + 1) x (by simpa using hx)) h2 hob.2
      refine ⟨by simp [e1], fun i z hz => ?_⟩
      cases i with
      | zero =>
        simp at hz
        subst hz
        exact (frz1_spec h (hv 0 x rfl) h1 hob.1).mono (fun b i hs => staL_app1 hs)
      | succ i => exact (e2 i z (by simpa using hz)).mono (fun b i hs => staL_app2 hs)
    · cases he
theorem frz_spec (h : Rel c L F st a w) {x y : AV} {v : Value} (hv : VR w (sta c L st.hp) L x v) {ls : List (Nat × Nat)} {ob : Prop} (he : frz st x = some (y, ls, ob)) (hob : ob) : VR w (staL c L st.hp ls) noLay y v := by
  unfold frz at he
  split at he
  · rename_i l
    split at he
    · rename_i ys ls' p h1
      simp only [Option.some.injEq, Prod.mk.injEq] at he
      obtain ⟨rfl, rfl, rfl⟩ := he
      obtain ⟨vs, g, rfl, h0, h1', h2⟩ := hv.ag_eq
      obtain ⟨e1, e2⟩ := frzs1_spec h h2 h1 hob
      exact .ag _ _ _ g (by omega) (fun i hi => h1' i (by omega)) e2
    · cases he
  · rename_i f l
    split at he
    · rename_i ys ls' p h1
      simp only [Option.some.injEq, Prod.mk.injEq] at he
      obtain ⟨rfl, rfl, rfl⟩ := he
      obtain ⟨vs, g, rfl, h0, h1', h2⟩ := hv.fn_eq
      obtain ⟨e1, e2⟩ := frzs1_spec h h2 h1 hob
      exact .fn _ _ _ _ g (by omega) (fun i hi => h1' i (by omega)) e2
    · cases he
  · exact frz1_spec h hv he hob
theorem frzs_spec (h : Rel c L F st a w) : ∀ {xs ys : List AV} {vs : List Value} {ls : List (Nat × Nat)} {ob : Prop}, VRs w (sta c L st.hp) L xs vs → frzs st xs = some (ys, ls, ob) → ob → VRs w (staL c L st.hp ls) noLay ys vs := by
  intro xs
  induction xs with
  | nil =>
    intro ys vs ls ob hv he _
    simp [frzs] at he
    obtain ⟨rfl, rfl, _⟩ := he
    exact ⟨hv.1, fun i y hy => by simp at hy⟩
  | cons x xs ih =>
    intro ys vs ls ob hv he hob
    cases vs with
    | nil => have := hv.1; simp at this
    | cons v vs =>
      simp only [frzs] at he
      split at he
      · rename_i y l p ys' ls' q h1 h2
        simp only [Option.some.injEq, Prod.mk.injEq] at he
        obtain ⟨rfl, rfl, rfl⟩ := he
        have hx := hv.2 0 x rfl
        simp at hx
        obtain ⟨e1, e2⟩ := ih (vs := vs) ⟨by have := hv.1; simpa using this, fun i x hx => by have := hv.2 (i + 1) x (by simpa using hx); simpa using this⟩ h2 hob.2
        refine ⟨by simp [e1], fun i z hz => ?_⟩
        cases i with
        | zero =>
          simp at hz
          subst hz
          simpa using (frz_spec h hx h1 hob.1).mono (fun b i hs => staL_app1 hs)
        | succ i => simpa using (e2 i z (by simpa using hz)).mono (fun b i hs => staL_app2 hs)
      · cases he

theorem lends_sl (st : St) (ls : List (Nat × Nat)) : (st.lends ls).sl = st.sl ∧ (st.lends ls).nx = st.nx := by
  induction ls generalizing st with
  | nil => exact ⟨rfl, rfl⟩
  | cons p ls ih =>
    obtain ⟨id, k⟩ := p
    simp only [St.lends]
    split
    · exact ih _
    · exact ih _
theorem Rel.lends : ∀ (ls : List (Nat × Nat)) {st : St}, Rel c L F st a w → Rel c L F (st.lends ls) a w ∧ (∀ b i, sta c L st.hp b i → sta c L (st.lends ls).hp b i) ∧
    (∀ id, (look (st.lends ls).hp id).isSome = (look st.hp id).isSome) ∧ (∀ id o, look (st.lends ls).hp id = some o → ∃ o', look st.hp id = some o' ∧ o'.hw ≤ o.hw ∧ ∀ k, (id, k) ∈ ls → k ≤ o.hw) := by
  intro ls
  induction ls with
  | nil => exact fun h => ⟨h, fun _ _ hs => hs, fun _ => rfl, fun id o ho => ⟨o, ho, Nat.le_refl _, fun k hk => by simp at hk⟩⟩
  | cons p ls ih =>
    intro st h
    obtain ⟨id, k⟩ := p
    simp only [St.lends]
    split
    · rename_i o ho
      have h1 := h.lend ho (k := max o.hw k) (by omega)
      obtain ⟨h2, h3, h4, h5⟩ := ih h1
      refine ⟨h2, fun b i hs => h3 b i ?_, fun j => ?_, fun j o2 ho2 => ?_⟩
      · rcases hs with hs | ⟨k1, k2⟩
        · exact .inl hs
        · refine .inr ⟨k1, ?_⟩
          rintro ⟨j, p, B, e1, e2, e3, e4, e5⟩
          rw [look_ins] at e1
          by_cases hj : id = j
          · subst hj
            rw [if_pos rfl] at e1
            injection e1 with e1
            subst e1
            exact k2 ⟨id, o, B, ho, e2, e3, by simp at e4; omega, e5⟩
          · rw [if_neg hj] at e1
            exact k2 ⟨j, p, B, e1, e2, e3, e4, e5⟩
      · rw [h4, look_ins]
        by_cases hj : id = j
        · subst hj; simp [ho]
        · simp [hj]
      · obtain ⟨o3, q1, q2, q3⟩ := h5 j o2 ho2
        rw [look_ins] at q1
        by_cases hj : id = j
        · subst hj
          rw [if_pos rfl] at q1
          injection q1 with q1
          subst q1
          refine ⟨o, ho, by simp at q2; omega, fun k' hk' => ?_⟩
          simp at hk'
          rcases hk' with rfl | hk'
          · simp at q2; omega
          · exact q3 k' hk'
        · rw [if_neg hj] at q1
          refine ⟨o3, q1, q2, fun k' hk' => ?_⟩
          simp at hk'
          rcases hk' with ⟨e, _⟩ | hk'
          · exact absurd e.symm hj
          · exact q3 k' hk'
    · rename_i hno
      obtain ⟨h2, h3, h4, h5⟩ := ih h
      refine ⟨h2, h3, h4, fun j o2 ho2 => ?_⟩
      obtain ⟨o3, q1, q2, q3⟩ := h5 j o2 ho2
      refine ⟨o3, q1, q2, fun k' hk' => ?_⟩
      simp at hk'
      rcases hk' with ⟨e, _⟩ | hk'
      · subst e; rw [hno] at q1; cases q1
      · exact q3 k' hk'
theorem staL_lends (h : Rel c L F st a w) (ls : List (Nat × Nat)) {b i : Nat} (hs : staL c L st.hp ls b i) : sta c L (st.lends ls).hp b i := by
  obtain ⟨h2, h3, h4, h5⟩ := Rel.lends ls h
  rcases hs with hs | ⟨id, k, B, k1, k2, k3, rfl, k5⟩
  · exact h3 b i hs
  · refine .inr ⟨h.hr.mine id B k2 k3, ?_⟩
    rintro ⟨j, p, B', e1, e2, e3, e4, e5⟩
    have : id = j := h.hr.inj id j B B' k2 e2 k3 (by omega) e3.symm
    subst this
    obtain ⟨o', _, _, q3⟩ := h5 id p e1
    have := q3 k k1
    omega

theorem Rel.frame (h : Rel c L F st a w) {w' : World} (hu : Upd (fun _ => False) w w') : Rel c L F st a w' := by
  have hb : ∀ k, k < w.heap.size → w'.heap[k]? = w.heap[k]? := fun k hk => hu.block k hk (fun e => e)
  have hc : ∀ b i u, w.cell? ⟨b, i, none⟩ = some u → w'.cell? ⟨b, i, none⟩ = some u := by
    intro b i u hcu
    have := cell_lt hcu
    simp only [World.cell?, hb b this]
    exact hcu
  have hS : ∀ b i u, sta c L st.hp b i → w.cell? ⟨b, i, none⟩ = some u → sta c L st.hp b i ∧ w'.cell? ⟨b, i, none⟩ = some u := fun b i u hs hcu => ⟨hs, hc b i u hcu⟩
  have hL : ∀ q y, L q = some y → L q = some y ∨ L q = some none := fun _ _ hy => .inl hy
  have hM : NcK w w' := hu.maps
  refine h.change hL hS h.fresh ⟨fun j p hp => ?_, h.hr.dead, h.hr.inj, h.hr.mine, h.hr.kept, h.hr.upd.trans hu.size hu.os hu.tape hu.output (fun k hk _ => hb k (by have := h.hr.upd.size; omega))⟩
  obtain ⟨B, d1, d2, d3, d4⟩ := h.hr.live j p hp
  refine ⟨B, d1, d2, d3, fun hz => ?_⟩
  obtain ⟨C, T, fr, d5, d6, d7, d8⟩ := d4 hz
  have hlt : B.block < w.heap.size := by
    by_cases hh : B.block < w.heap.size
    · exact hh
    · rw [Array.getElem?_eq_none (by omega)] at d5; cases d5
  exact ⟨C, T, fr, by rw [hb _ hlt]; exact d5, d6, d7, fun i y hy => (d8 i y hy).move hS hL⟩
end
end Go.Sim

namespace Go.Sim
open Go.RowKit
set_option linter.unusedVariables false
set_option linter.unusedSimpArgs false

section
variable {c : Cx} {L : Lay} {F : Nat → Prop} {st : St} {a : Act} {w : World}
def staN (c : Cx) (L : Lay) (hp : List (Nat × Ob)) (w : World) (B : Blk) (o : Ob) (b i : Nat) : Prop :=
  sta c L hp b i ∧ b < w.heap.size ∨ (w.heap.size ≤ b ∧ ¬ (b = B.block ∧ o.hw ≤ i ∧ i < B.size))
theorem Rel.brings (h : Rel c L F st a w) {w' : World} (hu : Upd (fun _ => False) w w') {nid : Nat} (hF : F nid) {B : Blk} {o : Ob} (hBe : B.esz = o.esz) (hlen : o.cells.length ≤ B.size) (hB : B.size ≠ 0 → w.heap.size ≤ B.block)
    (hreal : B.size ≠ 0 → ∃ C T fr, w'.heap[B.block]? = some (.cells C T fr) ∧ C.size = B.size ∧ (fr.1 = fr.2 ∨ B.size ≤ fr.1) ∧ ∀ i x, o.cells[i]? = some x → VR w' (staN c L st.hp w B o) noLay x (C.getD i undef)) :
    Rel c (lset L nid (some (some B))) (fun j => F j ∧ j ≠ nid) { st with hp := ins st.hp nid o } a w' ∧
    ∀ b i, staN c L st.hp w B o b i → sta c (lset L nid (some (some B))) (ins st.hp nid o) b i := by
  have hb : ∀ k, k < w.heap.size → w'.heap[k]? = w.heap[k]? := fun k hk => hu.block k hk (fun e => e)
  have hLn := h.fresh nid hF
  have old : ∀ j Bj, L j = some (some Bj) → Bj.size ≠ 0 → Bj.block < w.heap.size := by
    intro j Bj hj hz
    obtain ⟨p, hp⟩ := h.hr.dead j Bj hj
    obtain ⟨B2, e1, _, _, e4⟩ := h.hr.live j p hp
    rw [hj] at e1
    injection e1 with e1
    injection e1 with e1
    subst e1
    obtain ⟨C', T', fr', e5, _⟩ := e4 hz
    by_cases hh : Bj.block < w.heap.size
    · exact hh
    · rw [Array.getElem?_eq_none (by omega)] at e5; cases e5
  have g1 : ∀ j, j ≠ nid → lset L nid (some (some B)) j = L j := fun j hj => by simp [lset, hj]
  have g2 : lset L nid (some (some B)) nid = some (some B) := by simp [lset]
  have hL : ∀ j y, L j = some y → lset L nid (some (some B)) j = some y ∨ lset L nid (some (some B)) j = some none := by
    intro j y hy
    have : j ≠ nid := fun e => by rw [e, hLn] at hy; cases hy
    exact .inl (by rw [g1 j this]; exact hy)
  have hN : ∀ b i, staN c L st.hp w B o b i → sta c (lset L nid (some (some B))) (ins st.hp nid o) b i := by
    intro b i hs
    rcases hs with ⟨hs, hlt⟩ | ⟨h1, h2⟩
    · rcases hs with hs | ⟨h3, h4⟩
      · exact .inl hs
      · refine .inr ⟨h3, ?_⟩
        rintro ⟨j, p, Bj, e1, e2, e3, e4, e5⟩
        rw [look_ins] at e1
        by_cases hj : nid = j
        · subst hj
          rw [g2] at e2
          injection e2 with e2
          injection e2 with e2
          subst e2
          have := hB (by omega)
          omega
        · rw [if_neg hj] at e1
          exact h4 ⟨j, p, Bj, e1, by rw [← g1 j (Ne.symm hj)]; exact e2, e3, e4, e5⟩
    · refine .inr ⟨.inr (Nat.le_trans h.hr.upd.size h1), ?_⟩
      rintro ⟨j, p, Bj, e1, e2, e3, e4, e5⟩
      rw [look_ins] at e1
      by_cases hj : nid = j
      · subst hj
        rw [g2] at e2
        injection e2 with e2
        injection e2 with e2
        subst e2
        rw [if_pos rfl] at e1
        injection e1 with e1
        subst e1
        exact h2 ⟨e3.symm, e4, e5⟩
      · rw [g1 j (Ne.symm hj)] at e2
        have := old j Bj e2 (by omega)
        omega
  have hS : ∀ b i u, sta c L st.hp b i → w.cell? ⟨b, i, none⟩ = some u → sta c (lset L nid (some (some B))) (ins st.hp nid o) b i ∧ w'.cell? ⟨b, i, none⟩ = some u := by
    intro b i u hs hcu
    have hlt := cell_lt hcu
    refine ⟨hN b i (.inl ⟨hs, hlt⟩), ?_⟩
    simp only [World.cell?, hb b hlt]
    exact hcu
  have hM : NcK w w' := hu.maps
  refine ⟨h.change hL hS ?_ ⟨fun j p hp => ?_, fun j Bj hj => ?_, fun j j' Bj Bj' hj hj' hz hz' hbb => ?_, fun j Bj hj hz => ?_, h.hr.kept, h.hr.upd.trans hu.size hu.os hu.tape hu.output (fun k hk _ => hb k (by have := h.hr.upd.size; omega))⟩, hN⟩
  · rintro j ⟨h1, h2⟩
    rw [g1 j h2]; exact h.fresh j h1
  · rw [look_ins] at hp
    by_cases hj : nid = j
    · subst hj
      rw [if_pos rfl] at hp
      injection hp with hp
      subst hp
      refine ⟨B, g2, hBe, hlen, fun hz => ?_⟩
      obtain ⟨C, T, fr, e5, e6, e7, e8⟩ := hreal hz
      exact ⟨C, T, fr, e5, e6, e7, fun i x hx => ((e8 i x hx).mono hN).of_no _⟩
    · rw [if_neg hj] at hp
      obtain ⟨Bj, d1, d2, d3, d4⟩ := h.hr.live j p hp
      refine ⟨Bj, by rw [g1 j (Ne.symm hj)]; exact d1, d2, d3, fun hz => ?_⟩
      obtain ⟨C, T, fr, d5, d6, d7, d8⟩ := d4 hz
      exact ⟨C, T, fr, by rw [hb _ (old j Bj d1 hz)]; exact d5, d6, d7, fun i y hy => (d8 i y hy).move hS hL⟩
  · by_cases hjn : j = nid
    · subst hjn; exact ⟨o, by rw [look_ins, if_pos rfl]⟩
    · obtain ⟨p, hp⟩ := h.hr.dead j Bj (by rw [← g1 j hjn]; exact hj)
      exact ⟨p, by rw [look_ins, if_neg (Ne.symm hjn)]; exact hp⟩
  · by_cases hjn : j = nid
    · by_cases hjn' : j' = nid
      · rw [hjn, hjn']
      · rw [hjn, g2] at hj; injection hj with hj; injection hj with hj; subst hj
        rw [g1 j' hjn'] at hj'
        have := old j' Bj' hj' hz'
        have := hB hz
        omega
    · by_cases hjn' : j' = nid
      · rw [hjn', g2] at hj'; injection hj' with hj'; injection hj' with hj'; subst hj'
        rw [g1 j hjn] at hj
        have := old j Bj hj hz
        have := hB hz'
        omega
      · exact h.hr.inj j j' Bj Bj' (by rw [← g1 j hjn]; exact hj) (by rw [← g1 j' hjn']; exact hj') hz hz' hbb
  · by_cases hjn : j = nid
    · rw [hjn, g2] at hj; injection hj with hj; injection hj with hj; subst hj
      exact .inr (Nat.le_trans h.hr.upd.size (hB hz))
    · exact h.hr.mine j Bj (by rw [← g1 j hjn]; exact hj) hz

def rn1 (nid : Nat) : AV → AV
  | .lv _ o n => .lv nid o n
  | .pt _ o => .pt nid o
  | x => x
def rn2 (nid : Nat) : AV → AV
  | .ag l => .ag (l.map (rn1 nid))
  | x => rn1 nid x
def rnm (nid : Nat) : AV → AV
  | .tu l => .tu (l.map (rn2 nid))
  | x => rn2 nid x
def sh1 : AV → Bool
  | .sc _ | .nl | .fz _ _ | .fp _ _ | .un | .lv _ _ _ | .pt _ _ | .mp _ _ => true
  | _ => false
def sh2 : AV → Bool
  | .ag l => l.all sh1
  | x => sh1 x
def shm : AV → Bool
  | .tu l => l.all sh2
  | x => sh2 x
theorem VR.rn1 {w : World} {S : Nat → Nat → Prop} {L L' : Lay} {nid : Nat} {x : AV} {v : Value} (h : VR w S L x v) (hx : sh1 x = true) (hL : ∀ id y, L id = some y → L' nid = some y) : VR w S L' (rn1 nid x) v := by
  cases h with
  | un => exact .un _ _
  | sc => exact .sc _ _
  | nl => exact .nl _
  | fz0 => exact .fz0 _ _ _
  | fz L n cells b o c g h0 h1 h2 => exact .fz _ _ _ _ _ _ g h0 h1 h2
  | fp L cells off b o g h1 h2 => exact .fp _ _ _ _ _ g h1 h2
  | lv L id off len B A cap h h0 h1 h2 => exact .lv _ _ _ _ B _ _ (hL _ _ h) h0 h1 h2
  | lvd L id off len v h => exact .lvd _ _ _ _ _ (hL _ _ h)
  | pt L id off B h => exact .pt _ _ _ B (hL _ _ h)
  | ptd L id off v h => exact .ptd _ _ _ _ (hL _ _ h)
  | mp0 => exact .mp0 _
  | mp L ks vs r es ck g h0 hm h1 h2 => exact .mp _ _ _ _ es ck g h0 hm h1 h2
  | _ => cases hx
theorem VR.rn2 {w : World} {S : Nat → Nat → Prop} {L L' : Lay} {nid : Nat} {x : AV} {v : Value} (h : VR w S L x v) (hx : sh2 x = true) (hL : ∀ id y, L id = some y → L' nid = some y) : VR w S L' (rn2 nid x) v := by
  cases x with
  | ag l =>
    obtain ⟨vs, g, rfl, h0, h1, h2⟩ := h.ag_eq
    refine .ag _ _ _ g (by simpa using h0) (fun i hi => h1 i (by simpa using hi)) (fun i y hy => ?_)
    simp at hy
    obtain ⟨z, hz, rfl⟩ := hy
    exact (h2 i z hz).rn1 (List.all_eq_true.1 hx z (List.mem_of_getElem? hz)) hL
  | _ => exact h.rn1 hx hL
theorem VR.rnm {w : World} {S : Nat → Nat → Prop} {L L' : Lay} {nid : Nat} {x : AV} {v : Value} (h : VR w S L x v) (hx : shm x = true) (hL : ∀ id y, L id = some y → L' nid = some y) : VR w S L' (rnm nid x) v := by
  cases x with
  | tu l =>
    obtain ⟨vs, g, rfl, h0, h1, h2⟩ := h.tu_eq
    refine .tu _ _ _ g (by simpa using h0) (fun i hi => h1 i (by simpa using hi)) (fun i y hy => ?_)
    simp at hy
    obtain ⟨z, hz, rfl⟩ := hy
    exact (h2 i z hz).rn2 (List.all_eq_true.1 hx z (List.mem_of_getElem? hz)) hL
  | _ => exact h.rn2 hx hL

def callable (P : Program) (f : FuncId) : Bool := match P.funcs[f]? with | some fn => fn.name != "runtime.NumGoroutine" && fn.body.isSome | none => false
theorem run_callFunc {P : Program} {f : FuncId} (h : callable P f = true) (args : Array Value) (w : World) : (callFunc f args).run P w = .ok (.enter f args) w := by
  unfold callable at h
  split at h
  · rename_i fn hf
    simp only [Bool.and_eq_true, bne_iff_ne] at h
    have hb : fn.body.isNone = false := by
      cases hx : fn.body with
      | none => simp [hx] at h
      | some b => rfl
    simp only [callFunc, Sem.run_bind, run_program, Result.andThen_ok, hf, hb]
    have hne : (fn.name == "runtime.NumGoroutine") = false := by simpa using h.1
    simp [hne]
  · cases h

def hpo : Option Ob → List (Nat × Ob)
  | none => []
  | some o => [(0, o)]
def St.back (st : St) (nid : Nat) (dst : Option Nat) (ls : List (Nat × Nat)) (h1 : Option Ob) (r : AV) : St :=
  match h1 with
  | none => (if flat r then st else st.lends ls).put dst r
  | some o => St.put { st.lends ls with hp := ins (st.lends ls).hp nid o } dst (rnm nid r)

theorem does_call {nid : Nat} (hF : F nid) {o : Oper} {fo : Operand} {args : Array Operand} {argTypes : Array TypeId} (ho : o.op = .call { callee := .value fo, args, argTypes }) {f : FuncId} {caps : List AV} (hf : st.ev fo = .fn f caps)
    (hcl : callable c.P f = true) {as : List AV} {ls : List (Nat × Nat)} {ob : Prop} (hfr : frzs st (args.toList.map st.ev ++ caps) = some (as, ls, ob)) (hob : ob) {h1 : Option Ob} {r : AV} (hcon : Con c.P f [] as (hpo h1) r)
    (hd : ∀ k, o.dst = some k → k < c.n) (hok : ∀ p, h1 = some p → shm r = true ∧ ∀ x ∈ p.cells, isF x = true) : Does c F o st (fun j => F j ∧ j ≠ nid) (st.back nid o.dst ls h1 r) := by
  intro L a w K Q h hK
  have hfo := h.ev fo
  rw [hf] at hfo
  obtain ⟨vs, g, hfe, h0, h1', h2⟩ := hfo.fn_eq
  -- what is handed over
  have hall : VRs w (sta c L st.hp) L (args.toList.map st.ev ++ caps) (args.map a.eval ++ vs).toList := by
    obtain ⟨e1, e2⟩ := evs h args.toList
    refine ⟨by simp [h0], fun i x hx => ?_⟩
    by_cases hi : i < args.size
    · rw [List.getElem?_append_left (by simpa using hi)] at hx
      have := e2 i x hx
      have e : (args.map a.eval ++ vs).toList.getD i undef = (args.toList.map a.eval).getD i undef := by
        simp [List.getD_eq_getElem?_getD, List.getElem?_append_left, hi]
      rw [e]; exact this
    · rw [List.getElem?_append_right (by simpa using hi)] at hx
      simp only [List.length_map, Array.length_toList] at hx
      have hlt := (List.getElem?_eq_some_iff.1 hx).1
      have := h2 _ x hx
      have e : (args.map a.eval ++ vs).toList.getD i undef = g (i - args.size) := by
        rw [List.getD_eq_getElem?_getD, Array.toList_append, List.getElem?_append_right (by simp; omega)]
        simp [h1' _ hlt]
      rw [e]; exact this
  have hargs := frzs_spec h hall hfr hob
  -- the callee's own view
  let S : Nat → Nat → Prop := fun b i => staL c L st.hp ls b i ∧ b < w.heap.size
  let cx : Cx := ⟨c.P, w, 0, fun _ => False, S, 0, noLay, w.heap.size⟩
  have hHR : HR cx noLay [] w := ⟨(fun id o ho => by cases ho), (fun id B hB => by cases hB), (fun id id' B B' hB => by cases hB), (fun id B hB => by cases hB), (fun b i hs => ⟨hs.2, fun e => e⟩), ⟨rfl, rfl, rfl, Nat.le_refl _, fun _ _ _ => rfl, NcK.refl _⟩⟩
  have hVRs : VRs w (sta cx noLay []) noLay as (args.map a.eval ++ vs).toList :=
    ⟨hargs.1, fun i x hx => (hargs.2 i x hx).move (fun b i u hs hu => ⟨.inl ⟨hs, cell_lt hu⟩, hu⟩) (fun _ _ hy => .inl hy)⟩
  have hcall := hcon w (fun _ => False) S noLay (args.map a.eval ++ vs) (fun _ _ => rfl) hHR hVRs
  unfold Oper.wp
  have hrun : (execOp a.eval o).run c.P w = .ok (.enter f (args.map a.eval ++ vs)) w := by
    obtain ⟨dst, op, ty, pos, aft, gd⟩ := o
    simp only at ho
    subst ho
    simp only [execOp, resolve, hfe, Deferred.ofValue, Sem.run_bind, Sem.run_pure, Result.andThen_ok, invoke, Array.empty_append]
    exact run_callFunc hcl _ _
  rw [hrun]
  refine hcall.mono ?_
  rintro e w' ⟨v, L', rfl, hLe, hnew, hHR', hr⟩
  have hu : Upd (fun _ => False) w w' := hHR'.upd
  show K _ _
  obtain ⟨hR1, k3, k4, k5⟩ := Rel.lends ls h
  cases h1 with
  | none =>
    have hL' : ∀ id, L' id = none := fun id => hnew id rfl rfl
    have hown : ∀ b i, ¬ own L' [] b i := by rintro b i ⟨j, p, B, e1, _⟩; cases e1
    simp only [hpo] at hr
    by_cases hfl : flat r = true
    · refine hK L _ _ ?_
      simp only [St.back, hfl, if_true]
      exact ((h.frame hu).mono (fun j hj => hj.1)).put hd (hr.flat_any hfl)
    · refine hK L _ _ ?_
      simp only [St.back, hfl]
      refine ((hR1.frame hu).mono (fun j hj => hj.1)).put hd (hr.move (fun b i u hs hcu => ⟨?_, hcu⟩) (fun id y hy => by rw [hL'] at hy; cases hy))
      rcases hs with hs | ⟨hs, _⟩
      · exact staL_lends h ls hs.1
      · rcases hs with hs | hs
        · exact hs.elim
        · refine .inr ⟨.inr (Nat.le_trans h.hr.upd.size hs), ?_⟩
          rintro ⟨j, p, Bj, e1, e2, e3, e4, e5⟩
          obtain ⟨B2, d1, _, _, d4⟩ := hR1.hr.live j p e1
          rw [e2] at d1
          injection d1 with d1
          injection d1 with d1
          subst d1
          obtain ⟨C', T', fr', d5, _⟩ := d4 (by omega)
          have hs' : w.heap.size ≤ b := hs
          rw [Array.getElem?_eq_none (by rw [e3]; exact hs')] at d5
          cases d5
  | some p =>
    obtain ⟨hshm, hFs⟩ := hok p rfl
    simp only [hpo] at hr hHR' hnew
    obtain ⟨B, q1, q2, q3, q4⟩ := hHR'.live 0 p rfl
    have hBb : B.size ≠ 0 → w.heap.size ≤ B.block := fun hz => (hHR'.mine 0 B q1 hz).resolve_left (fun e => e)
    have hcell : ∀ b i, sta cx L' [(0, p)] b i → staN c L (st.lends ls).hp w B p b i := by
      intro b i hs
      rcases hs with hs | ⟨hs, hno⟩
      · exact .inl ⟨staL_lends h ls hs.1, hs.2⟩
      · rcases hs with hs | hs
        · exact hs.elim
        · refine .inr ⟨hs, ?_⟩
          rintro ⟨rfl, h5, h6⟩
          exact hno ⟨0, p, B, rfl, q1, rfl, h5, h6⟩
    obtain ⟨hR2, hN⟩ := hR1.brings hu hF q2 q3 hBb (fun hz => by
      obtain ⟨C, T, fr, q5, q6, q7, q8⟩ := q4 hz
      exact ⟨C, T, fr, q5, q6, q7, fun i x hx => ((q8 i x hx).isF_any (hFs x (List.mem_of_getElem? hx)) noLay).mono hcell⟩)
    refine hK (lset L nid (some (some B))) _ _ ?_
    simp only [St.back]
    refine hR2.put hd ((hr.mono (fun b i hs => hN b i (hcell b i hs))).rnm hshm (fun id y hy => ?_))
    have : id = 0 := by
      by_cases hid : id = 0
      · exact hid
      · rw [hnew id rfl (by simp [look, Ne.symm hid])] at hy; cases hy
    subst this
    rw [q1] at hy
    injection hy with hy
    subst hy
    simp [lset]
end
end Go.Sim

namespace Go.Sim
open Go.RowKit
set_option linter.unusedVariables false
set_option linter.unusedSimpArgs false

def rv1 (ρ : List (Nat × Nat)) (hp hp' : List (Nat × Ob)) : AV → AV → Prop
  | _, .un => True
  | .lv j o n, .lv id o' n' => (look hp' id).isSome = true ∧ look ρ id = some j ∧ o = o' ∧ n = n' ∧ (look hp j).isSome = true
  | .nl, .lv id o n => (look hp' id).isSome = true ∧ look ρ id = none ∧ o = 0 ∧ n = 0
  | .pt j o, .pt id o' => (look hp' id).isSome = true ∧ look ρ id = some j ∧ o = o' ∧ (look hp j).isSome = true
  | .lv j o n, .fz n' cs => ∃ ob, look hp j = some ob ∧ n' = n ∧ cs = (ob.cells.drop o).take (n * ob.esz) ∧ o + n * ob.esz ≤ ob.cells.length ∧ 0 < ob.esz ∧ okI ob.cells ∧
      ∀ p ∈ hp', look ρ p.1 = some j → o + n * ob.esz ≤ p.2.hw
  | .nl, .fz n cs => n = 0 ∧ cs = []
  | .pt j o, .fp cs o' => ∃ ob, look hp j = some ob ∧ cs = ob.cells ∧ o' = o ∧ okI ob.cells ∧ ∀ p ∈ hp', look ρ p.1 = some j → ob.cells.length ≤ p.2.hw
  | x, y => x = y ∧ isF x = true
def rv1s (ρ : List (Nat × Nat)) (hp hp' : List (Nat × Ob)) : List AV → List AV → Prop
  | [], [] => True
  | x :: xs, y :: ys => rv1 ρ hp hp' x y ∧ rv1s ρ hp hp' xs ys
  | _, _ => False
def rv2 (ρ : List (Nat × Nat)) (hp hp' : List (Nat × Ob)) : AV → AV → Prop
  | .ag l, .ag l' => rv1s ρ hp hp' l l'
  | x, y => rv1 ρ hp hp' x y
def rv2s (ρ : List (Nat × Nat)) (hp hp' : List (Nat × Ob)) : List AV → List AV → Prop
  | [], [] => True
  | x :: xs, y :: ys => rv2 ρ hp hp' x y ∧ rv2s ρ hp hp' xs ys
  | _, _ => False
def rvm (ρ : List (Nat × Nat)) (hp hp' : List (Nat × Ob)) : AV → AV → Prop
  | .tu l, .tu l' => rv2s ρ hp hp' l l'
  | .fn f l, .fn f' l' => f = f' ∧ rv1s ρ hp hp' l l'
  | .bf f x, .bf f' x' => f = f' ∧ rv1 ρ hp hp' x x'
  | x, y => rv2 ρ hp hp' x y
def obk (ρ : List (Nat × Nat)) (hp hp' : List (Nat × Ob)) (p : Nat × Ob) : Prop :=
  match look ρ p.1 with
  | none => p.2.cells = []
  | some j => match look hp j with
    | none => False
    | some o => p.2.esz = o.esz ∧ o.hw ≤ p.2.hw ∧ (p.2.cells = o.cells ∧ okI o.cells ∨ rv1s ρ hp hp' o.cells p.2.cells)
def Wk (m : Nat) (ρ : List (Nat × Nat)) (s s' : St) : Prop :=
  (∀ p ∈ s'.sl, rvm ρ s.hp s'.hp (s.get p.1) p.2) ∧ (∀ p ∈ s'.hp, obk ρ s.hp s'.hp p) ∧ (ρ.map (·.2)).Nodup ∧ (∀ p ∈ s'.hp, p.1 < s'.nx) ∧ m ≤ s'.nx ∧ ∀ p ∈ s'.hp, p.1 < m → look ρ p.1 = some p.1
def Fin (m : Nat) (ρ : List (Nat × Nat)) (hp : List (Nat × Ob)) (x : AV) (hp' : List (Nat × Ob)) (r : AV) : Prop :=
  rvm ρ hp hp' x r ∧ (∀ p ∈ hp', obk ρ hp hp' p) ∧ (ρ.map (·.2)).Nodup ∧ ∀ p ∈ hp', p.1 < m → look ρ p.1 = some p.1

theorem look_mem {α : Type} {l : List (Nat × α)} {k : Nat} {v : α} (h : look l k = some v) : (k, v) ∈ l := by
  induction l with
  | nil => cases h
  | cons x xs ih =>
    simp only [look] at h
    split at h
    · rename_i e
      injection h with h
      subst h; subst e
      exact List.mem_cons_self
    · exact List.mem_cons_of_mem _ (ih h)
theorem look_inj {ρ : List (Nat × Nat)} (hn : (ρ.map (·.2)).Nodup) {i j k : Nat} (h1 : look ρ i = some k) (h2 : look ρ j = some k) : i = j := by
  induction ρ with
  | nil => cases h1
  | cons x xs ih =>
    simp only [List.map_cons, List.nodup_cons] at hn
    simp only [look] at h1 h2
    have hm : ∀ {i}, look xs i = some k → k ∈ xs.map (·.2) := fun h => List.mem_map.2 ⟨_, look_mem h, rfl⟩
    split at h1
    · rename_i e1
      split at h2
      · rename_i e2; omega
      · injection h1 with h1
        subst h1
        exact absurd (hm h2) hn.1
    · split at h2
      · injection h2 with h2
        subst h2
        exact absurd (hm h1) hn.1
      · exact ih hn.2 h1 h2

def renL (m : Nat) (ρ : List (Nat × Nat)) (L : Lay) (hp' : List (Nat × Ob)) : Lay := fun id =>
  match look hp' id with
  | some o => (match look ρ id with | some j => L j | none => some (some ⟨0, 0, o.esz⟩))
  | none => if id < m then (match L id with | none => none | some _ => some none) else none

section
variable {c : Cx} {L : Lay} {w : World} {hp hp' : List (Nat × Ob)} {ρ : List (Nat × Nat)}

theorem ren_look {m : Nat} {id j : Nat} {o : Ob} (h1 : look hp' id = some o) (h2 : look ρ id = some j) : renL m ρ L hp' id = L j := by simp [renL, h1, h2]

theorem HR.ren (h : HR c L hp w) (m : Nat) (ho : ∀ p ∈ hp', obk ρ hp hp' p) (hn : (ρ.map (·.2)).Nodup) :
    HR c (renL m ρ L hp') hp' w ∧ ∀ x x' v, VR w (sta c L hp) L x v → rvm ρ hp hp' x x' → VR w (sta c (renL m ρ L hp') hp') (renL m ρ L hp') x' v := by
  -- what is live by the new numbers
  have live : ∀ id B, renL m ρ L hp' id = some (some B) → ∃ o', look hp' id = some o' ∧ ((∃ j o, look ρ id = some j ∧ look hp j = some o ∧ L j = some (some B) ∧ o'.esz = o.esz ∧ o.hw ≤ o'.hw) ∨ (look ρ id = none ∧ B = ⟨0, 0, o'.esz⟩)) := by
    intro id B hB
    unfold renL at hB
    split at hB
    · rename_i o' ho'
      refine ⟨o', ho', ?_⟩
      have hob := ho _ (look_mem ho')
      simp only [obk] at hob
      split at hB
      · rename_i j hj
        rw [hj] at hob
        simp only at hob
        split at hob
        · exact hob.elim
        · rename_i o hlo
          exact .inl ⟨j, o, hj, hlo, hB, hob.1, hob.2.1⟩
      · rename_i hj
        injection hB with hB
        injection hB with hB
        exact .inr ⟨hj, hB.symm⟩
    · split at hB
      · split at hB
        · cases hB
        · injection hB with hB; cases hB
      · cases hB
  have hown : ∀ b i, own (renL m ρ L hp') hp' b i → own L hp b i := by
    rintro b i ⟨id, o', B, e1, e2, e3, e4, e5⟩
    obtain ⟨o2, f1, f2⟩ := live id B e2
    rw [e1] at f1
    injection f1 with f1
    subst f1
    rcases f2 with ⟨j, o, g1, g2, g3, g4, g5⟩ | ⟨_, rfl⟩
    · exact ⟨j, o, B, g2, g3, e3, by omega, e5⟩
    · simp at e5
  have hsta : ∀ b i, sta c L hp b i → sta c (renL m ρ L hp') hp' b i := by
    intro b i hs
    rcases hs with hs | ⟨h1, h2⟩
    · exact .inl hs
    · exact .inr ⟨h1, fun ho => h2 (hown b i ho)⟩
  have v1 : ∀ x x' v, VR w (sta c L hp) L x v → rv1 ρ hp hp' x x' → VR w (sta c (renL m ρ L hp') hp') (renL m ρ L hp') x' v := by
    intro x x' v hv hr
    have same : ∀ y, x = y → isF x = true → VR w (sta c (renL m ρ L hp') hp') (renL m ρ L hp') y v := by
      intro y e hf
      subst e
      exact (hv.isF_any hf _).mono hsta
    have toL : ∀ {id j}, (look hp' id).isSome = true → look ρ id = some j → renL m ρ L hp' id = L j := by
      intro id j h1 h2
      obtain ⟨o, ho⟩ := Option.isSome_iff_exists.1 h1
      exact ren_look ho h2
    have lv2 : ∀ {j o n id o' n'}, x = .lv j o n → ((look hp' id).isSome = true ∧ look ρ id = some j ∧ o = o' ∧ n = n' ∧ (look hp j).isSome = true) → VR w (sta c (renL m ρ L hp') hp') (renL m ρ L hp') (.lv id o' n') v := by
      rintro j o n id o' n' rfl ⟨h1, h2, rfl, rfl, h3⟩
      have hl := toL h1 h2
      cases hv with
      | lv _ _ _ _ B A cap k0 k1 k2 k3 => exact .lv _ _ _ _ B _ _ (by rw [hl]; exact k0) k1 k2 k3
      | lvd _ _ _ _ _ k0 => exact .lvd _ _ _ _ _ (by rw [hl]; exact k0)
    have pt2 : ∀ {j o id o'}, x = .pt j o → ((look hp' id).isSome = true ∧ look ρ id = some j ∧ o = o' ∧ (look hp j).isSome = true) → VR w (sta c (renL m ρ L hp') hp') (renL m ρ L hp') (.pt id o') v := by
      rintro j o id o' rfl ⟨h1, h2, rfl, h3⟩
      have hl := toL h1 h2
      cases hv with
      | pt _ _ _ B k0 => exact .pt _ _ _ B (by rw [hl]; exact k0)
      | ptd _ _ _ _ k0 => exact .ptd _ _ _ _ (by rw [hl]; exact k0)
    unfold rv1 at hr
    split at hr
    · exact .un _ _
    · exact lv2 rfl hr
    · obtain ⟨h1, h2, rfl, rfl⟩ := hr
      have := hv.nl_eq
      subst this
      obtain ⟨o, ho⟩ := Option.isSome_iff_exists.1 h1
      exact .lv _ _ _ _ ⟨0, 0, o.esz⟩ _ _ (by simp [renL, ho, h2]) (Nat.le_refl _) (fun hp => absurd hp (by omega)) (by simp)
    · exact pt2 rfl hr
    · rename_i j o n n' cs
      obtain ⟨ob, h1, rfl, rfl, h2, h3, h4, h5⟩ := hr
      obtain ⟨B, hB, hBe, hlen, hreal⟩ := h.live j ob h1
      obtain ⟨A, cap, rfl, hcap, hA, hroom⟩ := hv.lv_eq hB
      by_cases hn0 : n' = 0
      · subst hn0
        simp only [Nat.zero_mul, List.take_zero]
        exact .fz0 _ _ _
      · have hA' := hA (by omega)
        subst hA'
        have hpos : 0 < n' * ob.esz := Nat.mul_pos (by omega) h3
        have hz : B.size ≠ 0 := by omega
        obtain ⟨C, T, fr, e5, e6, e7, e8⟩ := hreal hz
        refine .fz _ _ _ _ _ _ (fun i => C.getD (o + i) undef) hcap (fun i hi => ?_) (fun i x hx => ?_)
        · simp only [List.length_take, List.length_drop] at hi
          have hlt : o + i < C.size := by omega
          refine ⟨.inr ⟨h.mine j B hB hz, ?_⟩, by simp [World.cell?, e5, hlt]⟩
          rintro ⟨id, o', B', d1, d2, d3, d4, d5⟩
          obtain ⟨o2, f1, f2⟩ := live id B' d2
          rw [d1] at f1
          injection f1 with f1
          subst f1
          rcases f2 with ⟨j', ob', g1, g2, g3, g4, g5⟩ | ⟨_, rfl⟩
          · have : j' = j := h.inj j' j B' B g3 hB (by omega) hz d3
            subst this
            have := h5 _ (look_mem d1) g1
            simp only at this
            omega
          · simp at d5
        · have hi := (List.getElem?_eq_some_iff.1 hx).1
          simp only [List.length_take, List.length_drop] at hi
          rw [List.getElem?_take, if_pos (by omega), List.getElem?_drop] at hx
          exact ((e8 _ _ hx).isF_any (h4 x (List.mem_of_getElem? hx)) noLay).mono hsta
    · obtain ⟨rfl, rfl⟩ := hr
      have := hv.nl_eq
      subst this
      exact .fz0 _ _ _
    · rename_i j o cs o'
      obtain ⟨ob, h1, rfl, rfl, h4, h5⟩ := hr
      obtain ⟨B, hB, hBe, hlen, hreal⟩ := h.live j ob h1
      have := hv.pt_eq hB
      subst this
      by_cases hz : B.size = 0
      · have hc : ob.cells = [] := List.eq_nil_of_length_eq_zero (by omega)
        rw [hc]
        have := VR.fp (w := w) (S := sta c (renL m ρ L hp') hp') (renL m ρ L hp') [] o' B.block 0 (fun _ => undef) (fun i hi => absurd hi (Nat.not_lt_zero _)) (fun i x hx => by simp at hx)
        rw [Nat.zero_add] at this
        exact this
      · obtain ⟨C, T, fr, e5, e6, e7, e8⟩ := hreal hz
        have := VR.fp (w := w) (S := sta c (renL m ρ L hp') hp') (renL m ρ L hp') ob.cells o' B.block 0 (fun i => C.getD i undef) (fun i hi => by
          have hlt : i < C.size := by omega
          rw [Nat.zero_add]
          refine ⟨.inr ⟨h.mine j B hB hz, ?_⟩, by simp [World.cell?, e5, hlt]⟩
          rintro ⟨id, o', B', d1, d2, d3, d4, d5⟩
          obtain ⟨o2, f1, f2⟩ := live id B' d2
          rw [d1] at f1
          injection f1 with f1
          subst f1
          rcases f2 with ⟨j', ob', g1, g2, g3, g4, g5⟩ | ⟨_, rfl⟩
          · have : j' = j := h.inj j' j B' B g3 hB (by omega) hz d3
            subst this
            have := h5 _ (look_mem d1) g1
            simp only at this
            omega
          · simp at d5) (fun i x hx => ((e8 i x hx).isF_any (h4 x (List.mem_of_getElem? hx)) noLay).mono hsta)
        rw [Nat.zero_add] at this
        exact this
    · exact same _ hr.1 hr.2
  have v1s : ∀ (xs ys : List AV) (g : Nat → Value), (∀ i x, xs[i]? = some x → VR w (sta c L hp) L x (g i)) → rv1s ρ hp hp' xs ys → ys.length = xs.length ∧ ∀ i y, ys[i]? = some y → VR w (sta c (renL m ρ L hp') hp') (renL m ρ L hp') y (g i) := by
    intro xs
    induction xs with
    | nil =>
      intro ys g _ hr
      cases ys with
      | nil => exact ⟨rfl, fun i y hy => by simp at hy⟩
      | cons y ys => exact hr.elim
    | cons x xs ih =>
      intro ys g hv hr
      cases ys with
      | nil => exact hr.elim
      | cons y ys =>
        obtain ⟨e1, e2⟩ := ih ys (fun i => g (i + 1)) (fun i z hz => hv (i + 1) z (by simpa using hz)) hr.2
        refine ⟨by simp [e1], fun i z hz => ?_⟩
        cases i with
        | zero => simp at hz; subst hz; exact v1 _ _ _ (hv 0 x rfl) hr.1
        | succ i => exact e2 i z (by simpa using hz)
  have v2 : ∀ x x' v, VR w (sta c L hp) L x v → rv2 ρ hp hp' x x' → VR w (sta c (renL m ρ L hp') hp') (renL m ρ L hp') x' v := by
    intro x x' v hv hr
    unfold rv2 at hr
    split at hr
    · rename_i l l'
      obtain ⟨vs, g, rfl, h0, h1, h2⟩ := hv.ag_eq
      obtain ⟨e1, e2⟩ := v1s l l' g h2 hr
      exact .ag _ _ _ g (by omega) (fun i hi => h1 i (by omega)) e2
    · exact v1 _ _ _ hv hr
  have v2s : ∀ (xs ys : List AV) (g : Nat → Value), (∀ i x, xs[i]? = some x → VR w (sta c L hp) L x (g i)) → rv2s ρ hp hp' xs ys → ys.length = xs.length ∧ ∀ i y, ys[i]? = some y → VR w (sta c (renL m ρ L hp') hp') (renL m ρ L hp') y (g i) := by
    intro xs
    induction xs with
    | nil =>
      intro ys g _ hr
      cases ys with
      | nil => exact ⟨rfl, fun i y hy => by simp at hy⟩
      | cons y ys => exact hr.elim
    | cons x xs ih =>
      intro ys g hv hr
      cases ys with
      | nil => exact hr.elim
      | cons y ys =>
        obtain ⟨e1, e2⟩ := ih ys (fun i => g (i + 1)) (fun i z hz => hv (i + 1) z (by simpa using hz)) hr.2
        refine ⟨by simp [e1], fun i z hz => ?_⟩
        cases i with
        | zero => simp at hz; subst hz; exact v2 _ _ _ (hv 0 x rfl) hr.1
        | succ i => exact e2 i z (by simpa using hz)
  refine ⟨⟨fun id o' ho' => ?_, fun id B hB => ?_, fun id id' B B' hB hB' hz hz' hbb => ?_, fun id B hB hz => ?_, h.kept, h.upd⟩, fun x x' v hv hr => ?_⟩
  · have hob := ho _ (look_mem ho')
    simp only [obk] at hob
    split at hob
    · rename_i hj
      refine ⟨⟨0, 0, o'.esz⟩, by simp [renL, ho', hj], rfl, by simp [hob], fun hz => absurd rfl hz⟩
    · rename_i j hj
      split at hob
      · exact hob.elim
      · rename_i o hlo
        obtain ⟨k1, k2, k3⟩ := hob
        obtain ⟨B, d1, d2, d3, d4⟩ := h.live j o hlo
        have hlen : o'.cells.length = o.cells.length := by
          rcases k3 with k3 | k3
          · rw [k3.1]
          · have key : ∀ (xs ys : List AV), rv1s ρ hp hp' xs ys → ys.length = xs.length := by
              intro xs
              induction xs with
              | nil => intro ys hr; cases ys with | nil => rfl | cons y ys => exact hr.elim
              | cons x xs ih => intro ys hr; cases ys with | nil => exact hr.elim | cons y ys => simp [ih ys hr.2]
            exact key _ _ k3
        refine ⟨B, by rw [ren_look ho' hj]; exact d1, d2.trans k1.symm, by omega, fun hz => ?_⟩
        obtain ⟨C, T, fr, e5, e6, e7, e8⟩ := d4 hz
        refine ⟨C, T, fr, e5, e6, e7, fun i x hx => ?_⟩
        rcases k3 with ⟨k3, k4⟩ | k3
        · rw [k3] at hx
          exact ((e8 i x hx).isF_any (k4 x (List.mem_of_getElem? hx)) _).mono hsta
        · exact (v1s _ _ _ e8 k3).2 i x hx
  · obtain ⟨o, ho, _⟩ := live id B hB
    exact ⟨o, ho⟩
  · obtain ⟨o, f1, f2⟩ := live id B hB
    obtain ⟨o', f1', f2'⟩ := live id' B' hB'
    rcases f2 with ⟨j, ob, g1, g2, g3, _⟩ | ⟨_, rfl⟩
    · rcases f2' with ⟨j', ob', g1', g2', g3', _⟩ | ⟨_, rfl⟩
      · have : j = j' := h.inj j j' B B' g3 g3' hz hz' hbb
        subst this
        exact look_inj hn g1 g1'
      · exact absurd rfl hz'
    · exact absurd rfl hz
  · obtain ⟨o, f1, f2⟩ := live id B hB
    rcases f2 with ⟨j, ob, g1, g2, g3, _⟩ | ⟨_, rfl⟩
    · exact h.mine j B g3 hz
    · exact absurd rfl hz
  · unfold rvm at hr
    split at hr
    · rename_i l l'
      obtain ⟨vs, g, rfl, h0, h1, h2⟩ := hv.tu_eq
      obtain ⟨e1, e2⟩ := v2s l l' g h2 hr
      exact .tu _ _ _ g (by omega) (fun i hi => h1 i (by omega)) e2
    · rename_i f l f' l'
      obtain ⟨rfl, hr⟩ := hr
      obtain ⟨vs, g, rfl, h0, h1, h2⟩ := hv.fn_eq
      obtain ⟨e1, e2⟩ := v1s l l' g h2 hr
      exact .fn _ _ _ _ g (by omega) (fun i hi => h1 i (by omega)) e2
    · rename_i f x f' x'
      obtain ⟨rfl, hr⟩ := hr
      obtain ⟨u, rfl, h1⟩ := hv.bf_eq
      exact .bf _ _ _ _ (v1 _ _ _ h1 hr)
    · exact v2 _ _ _ hv hr
end

theorem Rel.wk {c : Cx} {L : Lay} {F : Nat → Prop} {s s' : St} {a : Act} {w : World} {ρ : List (Nat × Nat)} (h : Rel c L F s a w) (hc0 : ∀ id, c.m ≤ id → c.L0 id = none) (hw : Wk c.m ρ s s') :
    Rel c (renL c.m ρ L s'.hp) (fun j => s'.nx ≤ j) s' a w := by
  obtain ⟨h1, h2, h3, h4, h5, h6⟩ := hw
  obtain ⟨k1, k2⟩ := h.hr.ren c.m h2 h3
  refine ⟨k1, fun id hid => ?_, h.defs, h.size, fun t => ?_, fun id y hy => ?_⟩
  · have : look s'.hp id = none := by
      cases hl : look s'.hp id with
      | none => rfl
      | some o => have := h4 _ (look_mem hl); simp only at this; omega
    simp only [renL, this]
    rw [if_neg (by omega)]
  · cases hl : look s'.sl t with
    | none => simp only [St.get, hl]; exact .un _ _
    | some y =>
      have := h1 _ (look_mem hl)
      simp only [St.get, hl, Option.getD_some]
      exact k2 _ _ _ (h.slot t) this
  · have hm : id < c.m := by
      by_cases hh : id < c.m
      · exact hh
      · rw [hc0 id (by omega)] at hy; cases hy
    cases hl : look s'.hp id with
    | none =>
      simp only [renL, hl, if_pos hm]
      rcases h.ext id y hy with e | e <;> simp [e]
    | some o =>
      have := h6 _ (look_mem hl) hm
      simp only at this
      simp only [renL, hl, this]
      exact h.ext id y hy
end Go.Sim

set_option linter.unusedVariables false
set_option linter.unusedSimpArgs false
namespace Go.Sim
open Go.RowKit

def posF : List Nat → Nat → Nat → Option Nat
  | [], _, _ => none
  | x :: r, k, id => if x = id then some k else posF r (k + 1) id
def ndH : List Nat → Prop
  | [] => True
  | x :: r => posF r 0 x = none ∧ ndH r
def lsH (hd : List Nat) : List (Nat × Nat) → Prop
  | [] => True
  | x :: r => posF hd 0 x.1 = none ∧ lsH hd r
def hand1 (st : St) (hd : List Nat) : AV → Option (AV × List (Nat × Nat) × Prop)
  | .lv id off n => match posF hd 0 id with | some k => some (.lv k off n, [], True) | none => frz st (.lv id off n)
  | .pt id off => match posF hd 0 id with | some k => some (.pt k off, [], True) | none => frz st (.pt id off)
  | .nl => some (.nl, [], True)
  | .ag l => if l.all isF then some (.ag l, [], True) else frz st (.ag l)
  | x => frz st x
def hands (st : St) (hd : List Nat) : List AV → Option (List AV × List (Nat × Nat) × Prop)
  | [] => some ([], [], True)
  | x :: r => match hand1 st hd x, hands st hd r with
    | some (y, l, p), some (ys, ls, q) => some (y :: ys, l ++ ls, p ∧ q)
    | _, _ => none
def hob (hp : List (Nat × Ob)) : List Nat → Nat → Option (List (Nat × Ob) × Prop)
  | [], _ => some ([], True)
  | id :: r, k => match look hp id, hob hp r (k + 1) with
    | some o, some (l, p) => some ((k, o) :: l, o.hw = 0 ∧ okI o.cells ∧ p)
    | _, _ => none
def hpG : Nat → List (Option Ob) → Option Ob → List (Nat × Ob)
  | _, [], none => []
  | k, [], some o => [(k, o)]
  | k, some o :: r, h => (k, o) :: hpG (k + 1) r h
  | k, none :: r, h => hpG (k + 1) r h
def setO : List Nat → List (Option Ob) → List (Nat × Ob) → List (Nat × Ob)
  | id :: r, some o :: q, hp => setO r q (ins hp id o)
  | id :: r, none :: q, hp => setO r q (del hp id)
  | _, _, hp => hp
def insO (hp : List (Nat × Ob)) (nid : Nat) : Option Ob → List (Nat × Ob)
  | none => hp
  | some o => ins hp nid o
def sg1 (hd : List Nat) (nid : Nat) : AV → AV
  | .lv k o n => .lv (hd.getD k nid) o n
  | .pt k o => .pt (hd.getD k nid) o
  | x => x
def sg2 (hd : List Nat) (nid : Nat) : AV → AV
  | .ag l => .ag (l.map (sg1 hd nid))
  | x => sg1 hd nid x
def sgm (hd : List Nat) (nid : Nat) : AV → AV
  | .tu l => .tu (l.map (sg2 hd nid))
  | x => sg2 hd nid x
def okO : List (Option Ob) → Prop
  | [] => True
  | some o :: r => okI o.cells ∧ okO r
  | none :: r => okO r
def okG (obs : List (Option Ob)) (h1 : Option Ob) (r : AV) : Prop := okO obs ∧ (match h1 with | some p => okI p.cells | none => True) ∧ shm r = true
def St.backG (st : St) (nid : Nat) (dst : Option Nat) (ls : List (Nat × Nat)) (hd : List Nat) (obs : List (Option Ob)) (h1 : Option Ob) (r : AV) : St :=
  St.put { st.lends ls with hp := insO (setO hd obs (st.lends ls).hp) nid h1 } dst (sgm hd nid r)

def hdAt (xs : List AV) : List Nat → Option (List Nat)
  | [] => some []
  | p :: r => match xs.getD p .un, hdAt xs r with
    | .lv id _ _, some l => some (id :: l)
    | .pt id _, some l => some (id :: l)
    | .fz _ _, some l => some l
    | _, _ => none
def ClG (P : Program) (f : FuncId) (hp0 : List (Nat × Ob)) (as : List AV) (st : St) (nid : Nat) (dst : Option Nat) (ls : List (Nat × Nat)) (hd : List Nat) (K : St → Prop) : Prop :=
  ∃ obs h1 r, obs.length = hd.length ∧ Con P f hp0 as (hpG 0 obs h1) r ∧ okG obs h1 r ∧ K (st.backG nid dst ls hd obs h1 r)
theorem clG {P : Program} {f : FuncId} {hp0 : List (Nat × Ob)} {as : List AV} {st : St} {nid : Nat} {dst : Option Nat} {ls : List (Nat × Nat)} {hd : List Nat} {K : St → Prop} (obs : List (Option Ob)) (h1 : Option Ob) {r : AV}
    (hc : Con P f hp0 as (hpG 0 obs h1) r) (hl : obs.length = hd.length) (hok : okG obs h1 r) (hk : K (st.backG nid dst ls hd obs h1 r)) : ClG P f hp0 as st nid dst ls hd K := ⟨obs, h1, r, hl, hc, hok, hk⟩
def wrG (nid : Nat) (hd : List Nat) (ls : List (Nat × Nat)) : List Nat := nid :: (hd ++ ls.map (·.1))
def calG (P : Program) (nid : Nat) (st : St) (dst : Option Nat) (f : FuncId) (K : List Nat → St → Prop) (ps : List Nat) (xs : List AV) : Prop :=
  match hdAt xs ps with
  | some hd => (match hob st.hp hd 0, hands st hd xs with
    | some (hp0, p0), some (as, ls, pr) => ndH hd ∧ p0 ∧ pr ∧ lsH hd ls ∧ ClG P f hp0 as st nid dst ls hd (K (wrG nid hd ls))
    | _, _ => False)
  | none => False
theorem calG_mono {P : Program} {nid : Nat} {st : St} {dst : Option Nat} {f : FuncId} {K K' : List Nat → St → Prop} {ps : List Nat} {xs : List AV} (h : calG P nid st dst f K ps xs) (hk : ∀ wr s, K wr s → K' wr s) : calG P nid st dst f K' ps xs := by
  unfold calG at h ⊢
  cases e : hdAt xs ps with
  | none => rw [e] at h; exact h.elim
  | some hd =>
    rw [e] at h
    simp only at h ⊢
    cases e1 : hob st.hp hd 0 with
    | none => rw [e1] at h; exact h.elim
    | some x =>
      cases e2 : hands st hd xs with
      | none => rw [e1, e2] at h; exact h.elim
      | some y =>
        rw [e1, e2] at h
        obtain ⟨g1, g2, g3, g4, obs, h1, r, g5, g6, g7, g8⟩ := h
        exact ⟨g1, g2, g3, g4, obs, h1, r, g5, g6, g7, hk _ _ g8⟩
theorem posF_some : ∀ {hd : List Nat} {k id j : Nat}, posF hd k id = some j → k ≤ j ∧ hd[j - k]? = some id
  | [], k, id, j, h => by cases h
  | x :: r, k, id, j, h => by
    simp only [posF] at h
    split at h
    · injection h with h
      subst h
      rename_i e
      simp [e]
    · obtain ⟨h1, h2⟩ := posF_some h
      refine ⟨by omega, ?_⟩
      rw [show j - k = (j - (k + 1)) + 1 from by omega]
      simpa using h2
theorem posF_none : ∀ {hd : List Nat} {k id : Nat}, posF hd k id = none → id ∉ hd
  | [], k, id, h => by simp
  | x :: r, k, id, h => by
    simp only [posF] at h
    split at h
    · cases h
    · rename_i e
      intro hm
      rcases List.mem_cons.1 hm with e2 | e2
      · exact e e2.symm
      · exact posF_none h e2
theorem posF_get : ∀ {hd : List Nat} {k j id : Nat}, ndH hd → hd[j]? = some id → posF hd k id = some (k + j)
  | [], k, j, id, h, hj => by simp at hj
  | x :: r, k, j, id, h, hj => by
    simp only [posF]
    cases j with
    | zero => simp at hj; simp [hj]
    | succ j =>
      simp at hj
      have hne : x ≠ id := by
        intro e
        subst e
        exact posF_none h.1 (List.mem_of_getElem? hj)
      rw [if_neg hne, posF_get h.2 hj]
      congr 1
      omega
theorem posF_get0 {hd : List Nat} {j id : Nat} (h : ndH hd) (hj : hd[j]? = some id) : posF hd 0 id = some j := by
  rw [posF_get h hj, Nat.zero_add]
theorem look_hpG : ∀ (obs : List (Option Ob)) (k : Nat) (h : Option Ob) (j : Nat), look (hpG k obs h) j = if j < k then none else if j < k + obs.length then (obs[j - k]?).join else if j = k + obs.length then h else none
  | [], k, none, j => by simp [hpG, look]
  | [], k, some o, j => by
    simp only [hpG, look, List.length_nil, Nat.add_zero]
    by_cases h1 : j < k
    · rw [if_pos h1, if_neg (by omega)]
    · by_cases h2 : k = j
      · rw [if_pos h2, if_neg h1, if_neg h1, if_pos h2.symm]
      · rw [if_neg h2, if_neg h1, if_neg h1, if_neg (Ne.symm h2)]
  | some o :: r, k, h, j => by
    simp only [hpG, look, look_hpG r (k + 1) h j, List.length_cons]
    by_cases h1 : j < k
    · rw [if_pos h1, if_neg (by omega), if_pos (by omega)]
    · by_cases h2 : k = j
      · subst h2
        rw [if_pos rfl, if_neg h1, if_pos (by omega)]
        simp
      · rw [if_neg h2, if_neg h1, if_neg (by omega)]
        by_cases h3 : j < k + (r.length + 1)
        · rw [if_pos (by omega), if_pos h3, show j - k = (j - (k + 1)) + 1 from by omega]
          simp
        · rw [if_neg (by omega), if_neg h3]
          by_cases h4 : j = k + (r.length + 1)
          · rw [if_pos (by omega), if_pos h4]
          · rw [if_neg (by omega), if_neg h4]
  | none :: r, k, h, j => by
    simp only [hpG, look_hpG r (k + 1) h j, List.length_cons]
    by_cases h1 : j < k
    · rw [if_pos h1, if_pos (by omega)]
    · rw [if_neg h1]
      by_cases h2 : j = k
      · subst h2
        rw [if_pos (by omega), if_pos (by omega)]
        simp
      · rw [if_neg (by omega)]
        by_cases h3 : j < k + (r.length + 1)
        · rw [if_pos (by omega), if_pos h3, show j - k = (j - (k + 1)) + 1 from by omega]
          simp
        · rw [if_neg (by omega), if_neg h3]
          by_cases h4 : j = k + (r.length + 1)
          · rw [if_pos (by omega), if_pos h4]
          · rw [if_neg (by omega), if_neg h4]
theorem look_setO : ∀ (hd : List Nat) (obs : List (Option Ob)) (hp : List (Nat × Ob)) (j : Nat), ndH hd → obs.length = hd.length → look (setO hd obs hp) j = match posF hd 0 j with | some k => (obs[k]?).join | none => look hp j
  | [], [], hp, j, _, _ => rfl
  | [], _ :: _, hp, j, _, hl => by simp at hl
  | _ :: _, [], hp, j, _, hl => by simp at hl
  | id :: r, o :: q, hp, j, hn, hl => by
    have hl' : q.length = r.length := by simpa using hl
    have hshift : ∀ j, posF r 1 j = (posF r 0 j).map (· + 1) := by
      intro j
      cases h0 : posF r 0 j with
      | none =>
        cases h1 : posF r 1 j with
        | none => rfl
        | some k => exact absurd (List.mem_of_getElem? (posF_some h1).2) (posF_none h0)
      | some k =>
        have := (posF_some h0).2
        rw [posF_get hn.2 this]
        simp; omega
    by_cases e : id = j
    · subst e
      have hp0 := hn.1
      have h1 : posF (id :: r) 0 id = some 0 := by simp [posF]
      cases o with
      | some o =>
        simp only [setO]
        rw [look_setO r q _ id hn.2 hl', hp0, h1, look_ins, if_pos rfl]
        simp
      | none =>
        simp only [setO]
        rw [look_setO r q _ id hn.2 hl', hp0, h1, look_del, if_pos rfl]
        simp
    · have h1 : posF (id :: r) 0 j = (posF r 0 j).map (· + 1) := by simp only [posF]; rw [if_neg e]; exact hshift j
      cases o with
      | some o =>
        simp only [setO]
        rw [look_setO r q _ j hn.2 hl', h1]
        cases posF r 0 j with
        | none => simp only [Option.map_none]; rw [look_ins, if_neg e]
        | some k => simp
      | none =>
        simp only [setO]
        rw [look_setO r q _ j hn.2 hl', h1]
        cases posF r 0 j with
        | none => simp only [Option.map_none]; rw [look_del, if_neg e]
        | some k => simp
theorem hob_spec : ∀ {hp : List (Nat × Ob)} {hd : List Nat} {k : Nat} {l : List (Nat × Ob)} {p : Prop}, hob hp hd k = some (l, p) → p → ∀ j, look l j = (if j < k then none else (hd[j - k]?).bind (look hp)) ∧ (∀ (i id : Nat), hd[i]? = some id → ∃ o, look hp id = some o ∧ o.hw = 0 ∧ okI o.cells)
  | hp, [], k, l, p, h, hp0, j => by
    simp only [hob, Option.some.injEq, Prod.mk.injEq] at h
    obtain ⟨rfl, rfl⟩ := h
    refine ⟨by simp [look], fun i id hi => by simp at hi⟩
  | hp, id :: r, k, l, p, h, hp0, j => by
    simp only [hob] at h
    split at h
    · rename_i o l' p' ho hr
      simp only [Option.some.injEq, Prod.mk.injEq] at h
      obtain ⟨rfl, rfl⟩ := h
      obtain ⟨g1, g2⟩ := hob_spec hr hp0.2.2 j
      refine ⟨?_, fun i id' hi => ?_⟩
      · simp only [look, g1]
        by_cases h1 : j < k
        · rw [if_neg (by omega), if_pos h1, if_pos (by omega)]
        · by_cases h2 : k = j
          · subst h2
            rw [if_pos rfl, if_neg h1]
            simp [ho]
          · rw [if_neg h2, if_neg h1, if_neg (by omega), show j - k = (j - (k + 1)) + 1 from by omega]
            simp
      · cases i with
        | zero => simp at hi; subst hi; exact ⟨o, ho, hp0.1, hp0.2.1⟩
        | succ i => exact g2 i id' (by simpa using hi)
    · cases h
section
variable {c : Cx} {L : Lay} {F : Nat → Prop} {st : St} {a : Act} {w : World}
theorem own_block0 {id : Nat} {ob : Ob} {B : Blk} (h : Rel c L F st a w) (hid : look st.hp id = some ob) (hw0 : ob.hw = 0) (hB : L id = some (some B)) (hz : B.size ≠ 0) {b i : Nat} {u : Value} (hs : sta c L st.hp b i) (hc : w.cell? ⟨b, i, none⟩ = some u) : b ≠ B.block := by
  rintro rfl
  rcases hs with hs | ⟨_, hs⟩
  · have k := h.hr.kept _ _ hs
    rcases h.hr.mine id B hB hz with m | m
    · exact k.2 m
    · omega
  · refine hs ⟨id, ob, B, hid, hB, rfl, by omega, ?_⟩
    obtain ⟨B2, e1, _, _, e4⟩ := h.hr.live id ob hid
    rw [hB] at e1
    injection e1 with e1
    injection e1 with e1
    subst e1
    obtain ⟨C, T, fr, e5, e6, _⟩ := e4 hz
    simp only [World.cell?, e5] at hc
    by_cases hi : i < B.size
    · exact hi
    · have hnone : C[i]? = none := Array.getElem?_eq_none (by omega)
      simp [hnone] at hc
theorem lsH_mem : ∀ {hd : List Nat} {ls : List (Nat × Nat)}, lsH hd ls → ∀ x ∈ ls, posF hd 0 x.1 = none
  | hd, [], _, x, hx => by cases hx
  | hd, y :: r, h, x, hx => by
    rcases List.mem_cons.1 hx with e | e
    · subst e; exact h.1
    · exact lsH_mem h.2 x e
theorem look_lendsG (id : Nat) : ∀ (ls : List (Nat × Nat)) (st : St), (∀ x ∈ ls, x.1 ≠ id) → look (st.lends ls).hp id = look st.hp id
  | [], st, _ => rfl
  | (k, n) :: r, st, h => by
    have hk : k ≠ id := h (k, n) (List.mem_cons_self ..)
    have hr := fun x hx => h x (List.mem_cons_of_mem _ hx)
    simp only [St.lends]
    split
    · rw [look_lendsG id r _ hr, look_ins, if_neg hk]
    · exact look_lendsG id r _ hr
theorem keep_spec (h : Rel c L F st a w) {l : List AV} {v : Value} (hl : l.all isF = true) (hv : VR w (sta c L st.hp) L (.ag l) v) : VR w (staL c L st.hp []) noLay (.ag l) v := by
  obtain ⟨vs, g, rfl, h0, h1, h2⟩ := hv.ag_eq
  refine .ag _ _ _ g h0 h1 (fun i x hx => ?_)
  have hF : isF x = true := List.all_eq_true.1 hl x (List.mem_of_getElem? hx)
  have hvx := h2 i x hx
  cases x with
  | nl =>
    obtain ⟨u, hu⟩ : ∃ u, u = g i := ⟨_, rfl⟩
    rw [← hu] at hvx ⊢
    cases hvx
    exact .nl _
  | lv id off n => cases hF
  | pt id off => cases hF
  | ag l => cases hF
  | tu l => cases hF
  | fn f l => cases hF
  | bf f y => cases hF
  | sc u => exact frz1_spec h hvx (y := .sc u) (ls := []) (ob := True) rfl trivial
  | un => exact frz1_spec h hvx (y := .un) (ls := []) (ob := True) rfl trivial
  | fz n cs => exact frz1_spec h hvx (y := .fz n cs) (ls := []) (ob := True) rfl trivial
  | fp cs n => exact frz1_spec h hvx (y := .fp cs n) (ls := []) (ob := True) rfl trivial
  | mp ks vs => exact frz1_spec h hvx (y := .mp ks vs) (ls := []) (ob := True) rfl trivial
  | fq n cs => exact frz1_spec h hvx (y := .fq n cs) (ls := []) (ob := True) rfl trivial
theorem hands_spec (h : Rel c L F st a w) {hd : List Nat} {L0 : Lay} (hL0 : ∀ (k id : Nat), hd[k]? = some id → L0 k = L id) {S : Nat → Nat → Prop} {ls0 : List (Nat × Nat)} (hS : ∀ b i u, staL c L st.hp ls0 b i → w.cell? ⟨b, i, none⟩ = some u → S b i) :
    ∀ {xs ys : List AV} {vs : List Value} {ls : List (Nat × Nat)} {p : Prop}, VRs w (sta c L st.hp) L xs vs → hands st hd xs = some (ys, ls, p) → p → (∀ x ∈ ls, x ∈ ls0) → VRs w S L0 ys vs := by
  intro xs
  induction xs with
  | nil =>
    intro ys vs ls p hv hh hp _
    simp only [hands, Option.some.injEq, Prod.mk.injEq] at hh
    obtain ⟨rfl, rfl, rfl⟩ := hh
    exact ⟨hv.1, fun i x hx => by cases hx⟩
  | cons x xs ih =>
    intro ys vs ls p hv hh hp hls
    simp only [hands] at hh
    split at hh
    · rename_i y l p1 ys' ls' q hx hr
      simp only [Option.some.injEq, Prod.mk.injEq] at hh
      obtain ⟨rfl, rfl, rfl⟩ := hh
      obtain ⟨v, vr, rfl⟩ : ∃ v vr, vs = v :: vr := by
        cases vs with
        | nil => have := hv.1; simp at this
        | cons v vr => exact ⟨v, vr, rfl⟩
      have hv0 : VR w (sta c L st.hp) L x v := hv.2 0 x rfl
      have hvr : VRs w (sta c L st.hp) L xs vr := ⟨by have := hv.1; simpa using this, fun i z hz => hv.2 (i + 1) z (by simpa using hz)⟩
      have hrest := ih hvr hr hp.2 (fun z hz => hls z (List.mem_append.2 (.inr hz)))
      have hfr : frz st x = some (y, l, p1) → VR w S L0 y v := by
        intro hf
        have h2 : VR w (staL c L st.hp l) noLay y v := frz_spec h hv0 hf hp.1
        refine (h2.of_no L0).move (fun b i u hs hu => ⟨hS b i u ?_ hu, hu⟩) (fun _ _ hy => .inl hy)
        rcases hs with hs | ⟨id', k, B', hm, hB', hz', hb', hik⟩
        · exact .inl hs
        · exact .inr ⟨id', k, B', hls _ (List.mem_append.2 (.inl hm)), hB', hz', hb', hik⟩
      have hy : VR w S L0 y v := by
        cases x with
        | lv id off n =>
          simp only [hand1] at hx
          split at hx
          · rename_i k hk
            simp only [Option.some.injEq, Prod.mk.injEq] at hx
            obtain ⟨rfl, rfl, rfl⟩ := hx
            have e := hL0 k id (by have := (posF_some hk).2; simpa using this)
            cases hv0 with
            | lv L id off len B A cap h h0 h1 h2 => exact .lv _ _ _ _ B _ _ (by rw [e]; exact h) h0 h1 h2
            | lvd L id off len v h => exact .lvd _ _ _ _ _ (by rw [e]; exact h)
          · exact hfr hx
        | pt id off =>
          simp only [hand1] at hx
          split at hx
          · rename_i k hk
            simp only [Option.some.injEq, Prod.mk.injEq] at hx
            obtain ⟨rfl, rfl, rfl⟩ := hx
            have e := hL0 k id (by have := (posF_some hk).2; simpa using this)
            cases hv0 with
            | pt L id off B h => exact .pt _ _ _ B (by rw [e]; exact h)
            | ptd L id off v h => exact .ptd _ _ _ _ (by rw [e]; exact h)
          · exact hfr hx
        | nl =>
          simp only [hand1, Option.some.injEq, Prod.mk.injEq] at hx
          obtain ⟨rfl, rfl, rfl⟩ := hx
          cases hv0
          exact .nl _
        | ag l0 =>
          simp only [hand1] at hx
          split at hx
          · rename_i hall
            simp only [Option.some.injEq, Prod.mk.injEq] at hx
            obtain ⟨rfl, rfl, rfl⟩ := hx
            refine ((keep_spec h hall hv0).of_no L0).move (fun b i u hs hu => ⟨hS b i u ?_ hu, hu⟩) (fun _ _ hy => .inl hy)
            rcases hs with hs | ⟨id', k, B', hm, hB', hz', hb', hik⟩
            · exact .inl hs
            · cases hm
          · exact hfr hx
        | _ => exact hfr hx
      refine ⟨by simp [hrest.1], fun i z hz => ?_⟩
      cases i with
      | zero => simp at hz; subst hz; exact hy
      | succ i => exact hrest.2 i z (by simpa using hz)
    · cases hh
theorem VR.sg1 {w : World} {S : Nat → Nat → Prop} {L L' : Lay} {hd : List Nat} {nid : Nat} {x : AV} {v : Value} (h : VR w S L x v) (hx : sh1 x = true) (hL : ∀ k y, L k = some y → L' (hd.getD k nid) = some y) : VR w S L' (sg1 hd nid x) v := by
  cases h with
  | un => exact .un _ _
  | sc => exact .sc _ _
  | nl => exact .nl _
  | fz0 => exact .fz0 _ _ _
  | fz L n cells b o c g h0 h1 h2 => exact .fz _ _ _ _ _ _ g h0 h1 h2
  | fp L cells off b o g h1 h2 => exact .fp _ _ _ _ _ g h1 h2
  | lv L id off len B A cap h h0 h1 h2 => exact .lv _ _ _ _ B _ _ (hL _ _ h) h0 h1 h2
  | lvd L id off len v h => exact .lvd _ _ _ _ _ (hL _ _ h)
  | pt L id off B h => exact .pt _ _ _ B (hL _ _ h)
  | ptd L id off v h => exact .ptd _ _ _ _ (hL _ _ h)
  | mp0 => exact .mp0 _
  | mp L ks vs r es ck g h0 hm h1 h2 => exact .mp _ _ _ _ es ck g h0 hm h1 h2
  | _ => cases hx
theorem VR.sg2 {w : World} {S : Nat → Nat → Prop} {L L' : Lay} {hd : List Nat} {nid : Nat} {x : AV} {v : Value} (h : VR w S L x v) (hx : sh2 x = true) (hL : ∀ k y, L k = some y → L' (hd.getD k nid) = some y) : VR w S L' (sg2 hd nid x) v := by
  cases x with
  | ag l =>
    obtain ⟨vs, g, rfl, h0, h1, h2⟩ := h.ag_eq
    refine .ag _ _ _ g (by simpa using h0) (fun i hi => h1 i (by simpa using hi)) (fun i y hy => ?_)
    simp at hy
    obtain ⟨z, hz, rfl⟩ := hy
    exact (h2 i z hz).sg1 (List.all_eq_true.1 hx z (List.mem_of_getElem? hz)) hL
  | _ => exact h.sg1 hx hL
theorem VR.sgm {w : World} {S : Nat → Nat → Prop} {L L' : Lay} {hd : List Nat} {nid : Nat} {x : AV} {v : Value} (h : VR w S L x v) (hx : shm x = true) (hL : ∀ k y, L k = some y → L' (hd.getD k nid) = some y) : VR w S L' (sgm hd nid x) v := by
  cases x with
  | tu l =>
    obtain ⟨vs, g, rfl, h0, h1, h2⟩ := h.tu_eq
    refine .tu _ _ _ g (by simpa using h0) (fun i hi => h1 i (by simpa using hi)) (fun i y hy => ?_)
    simp at hy
    obtain ⟨z, hz, rfl⟩ := hy
    exact (h2 i z hz).sg2 (List.all_eq_true.1 hx z (List.mem_of_getElem? hz)) hL
  | _ => exact h.sg2 hx hL
theorem okO_get : ∀ {obs : List (Option Ob)} {k : Nat} {o : Ob}, okO obs → obs[k]? = some (some o) → okI o.cells
  | [], k, o, _, h => by simp at h
  | some p :: r, 0, o, h, hk => by simp at hk; subst hk; exact h.1
  | none :: r, 0, o, h, hk => by simp at hk
  | some p :: r, k + 1, o, h, hk => okO_get (obs := r) (k := k) h.2 (by simpa using hk)
  | none :: r, k + 1, o, h, hk => okO_get (obs := r) (k := k) h (by simpa using hk)
def Enters (c : Cx) (F : Nat → Prop) (st : St) (o : Oper) (f : FuncId) (xs : List AV) : Prop :=
  ∀ L a w, Rel c L F st a w → ∃ vals : Array Value, VRs w (sta c L st.hp) L xs vals.toList ∧ (execOp a.eval o).run c.P w = .ok (.enter f vals) w
theorem entersF {o : Oper} {fo : Operand} {args : Array Operand} {argTypes : Array TypeId} (ho : o.op = .call { callee := .value fo, args, argTypes }) {f : FuncId} {caps : List AV} (hf : st.ev fo = .fn f caps)
    (hcl : callable c.P f = true) : Enters c F st o f (args.toList.map st.ev ++ caps) := by
  intro L a w h
  have hfo := h.ev fo
  rw [hf] at hfo
  obtain ⟨vs, g, hfe, h0, h1', h2⟩ := hfo.fn_eq
  refine ⟨args.map a.eval ++ vs, ?_, ?_⟩
  · obtain ⟨e1, e2⟩ := evs h args.toList
    refine ⟨by simp [h0], fun i x hx => ?_⟩
    by_cases hi : i < args.size
    · rw [List.getElem?_append_left (by simpa using hi)] at hx
      have := e2 i x hx
      have e : (args.map a.eval ++ vs).toList.getD i undef = (args.toList.map a.eval).getD i undef := by
        simp [List.getD_eq_getElem?_getD, List.getElem?_append_left, hi]
      rw [e]; exact this
    · rw [List.getElem?_append_right (by simpa using hi)] at hx
      simp only [List.length_map, Array.length_toList] at hx
      have hlt := (List.getElem?_eq_some_iff.1 hx).1
      have := h2 _ x hx
      have e : (args.map a.eval ++ vs).toList.getD i undef = g (i - args.size) := by
        rw [List.getD_eq_getElem?_getD, Array.toList_append, List.getElem?_append_right (by simp; omega)]
        simp [h1' _ hlt]
      rw [e]; exact this
  · obtain ⟨dst, op, ty, pos, aft, gd⟩ := o
    simp only at ho
    subst ho
    simp only [execOp, resolve, hfe, Deferred.ofValue, Sem.run_bind, Sem.run_pure, Result.andThen_ok, invoke, Array.empty_append]
    exact run_callFunc hcl _ _
theorem entersB {o : Oper} {fo : Operand} {args : Array Operand} {argTypes : Array TypeId} (ho : o.op = .call { callee := .value fo, args, argTypes }) {f : FuncId} {x : AV} (hf : st.ev fo = .bf f x)
    (hcl : callable c.P f = true) : Enters c F st o f (x :: args.toList.map st.ev) := by
  intro L a w h
  have hfo := h.ev fo
  rw [hf] at hfo
  obtain ⟨u, hfe, h1⟩ := hfo.bf_eq
  refine ⟨#[u] ++ args.map a.eval, ?_, ?_⟩
  · obtain ⟨e1, e2⟩ := evs h args.toList
    refine ⟨by simp, fun i y hy => ?_⟩
    match i with
    | 0 =>
      simp at hy; subst hy
      simpa [List.getD_eq_getElem?_getD] using h1
    | i + 1 =>
      have := e2 i y (by simpa using hy)
      have e : (#[u] ++ args.map a.eval).toList.getD (i + 1) undef = (args.toList.map a.eval).getD i undef := by
        simp [List.getD_eq_getElem?_getD]
      rw [e]; exact this
  · obtain ⟨dst, op, ty, pos, aft, gd⟩ := o
    simp only at ho
    subst ho
    simp only [execOp, resolve, hfe, Deferred.ofValue, Sem.run_bind, Sem.run_pure, Result.andThen_ok, invoke, Array.append_empty]
    exact run_callFunc hcl _ _
theorem does_callG {nid : Nat} (hF : F nid) {o : Oper} {f : FuncId} {xs : List AV} (hent : Enters c F st o f xs) {hd : List Nat} (hnd : ndH hd) {hp0 : List (Nat × Ob)} {p0 : Prop} (hhob : hob st.hp hd 0 = some (hp0, p0)) (hp0' : p0)
    {as : List AV} {ls : List (Nat × Nat)} {pr : Prop} (hfr : hands st hd xs = some (as, ls, pr)) (hob : pr) (hls : lsH hd ls) {obs : List (Option Ob)} {h1 : Option Ob} {r : AV} (hlen : obs.length = hd.length) (hcon : Con c.P f hp0 as (hpG 0 obs h1) r)
    (hdd : ∀ k, o.dst = some k → k < c.n) (hok : okG obs h1 r) : Does c F o st (fun j => F j ∧ j ≠ nid) (st.backG nid o.dst ls hd obs h1 r) := by
  intro L a w K Q h hK
  obtain ⟨vals, hall, hrun⟩ := hent L a w h
  -- the objects that are handed over
  have hs := hob_spec hhob hp0'
  have hlive : ∀ (k id : Nat), hd[k]? = some id → ∃ ob B, look st.hp id = some ob ∧ ob.hw = 0 ∧ okI ob.cells ∧ L id = some (some B) ∧ B.esz = ob.esz ∧ ob.cells.length ≤ B.size ∧
      (B.size ≠ 0 → ∃ C T fr, w.heap[B.block]? = some (.cells C T fr) ∧ C.size = B.size ∧ (fr.1 = fr.2 ∨ B.size ≤ fr.1) ∧ ∀ i x, ob.cells[i]? = some x → VR w (sta c L st.hp) L x (C.getD i undef)) := by
    intro k id hk
    obtain ⟨ob, e1, e2, e3⟩ := (hs 0).2 k id hk
    obtain ⟨B, e4, e5, e6, e7⟩ := h.hr.live id ob e1
    exact ⟨ob, B, e1, e2, e3, e4, e5, e6, e7⟩
  have lk0 : ∀ j, look hp0 j = (hd[j]?).bind (look st.hp) := by
    intro j
    have := (hs j).1
    simpa using this
  let Hb : Nat → Prop := fun b => ∃ (k id : Nat) (B : Blk), hd[k]? = some id ∧ L id = some (some B) ∧ B.size ≠ 0 ∧ B.block = b
  let S : Nat → Nat → Prop := fun b i => staL c L st.hp ls b i ∧ b < w.heap.size ∧ ¬ Hb b
  let L0 : Lay := fun j => match hd[j]? with | some id => L id | none => none
  let cx : Cx := ⟨c.P, w, 0, Hb, S, 0, L0, w.heap.size⟩
  have hsta_ne : ∀ b i u, sta c L st.hp b i → w.cell? ⟨b, i, none⟩ = some u → ¬ Hb b := by
    rintro b i u hs hu ⟨k, id, B, e1, e2, e3, e4⟩
    obtain ⟨ob, B', g1, g2, g3, g4, _⟩ := hlive k id e1
    rw [e2] at g4
    injection g4 with g4; injection g4 with g4; subst g4
    exact own_block0 h g1 g2 e2 e3 hs hu e4.symm
  have hstaL_ne : ∀ b i u, staL c L st.hp ls b i → w.cell? ⟨b, i, none⟩ = some u → ¬ Hb b := by
    intro b i u hs hu
    rcases hs with hs | ⟨id', k, B', hm, hB', hz', rfl, hik⟩
    · exact hsta_ne b i u hs hu
    · rintro ⟨k2, id, B, e1, e2, e3, e4⟩
      have := h.hr.inj id' id B' B hB' e2 hz' e3 e4.symm
      subst this
      have hp := lsH_mem hls _ hm
      have := posF_get0 hnd e1
      simp only at hp
      rw [hp] at this
      cases this
  have hvr : VRs w S L0 as vals.toList := by
    refine hands_spec h (fun k id hk => by simp only [L0]; rw [hk]) (ls0 := ls) (fun b i u hs hu => ⟨hs, cell_lt hu, hstaL_ne b i u hs hu⟩) hall hfr hob (fun x hx => hx)
  have L0s : ∀ j y, L0 j = some y → ∃ id, hd[j]? = some id ∧ L id = some y := by
    intro j y hj
    simp only [L0] at hj
    split at hj
    · rename_i id hid; exact ⟨id, hid, hj⟩
    · cases hj
  have hHR : HR cx L0 hp0 w := by
    refine ⟨fun j q hq => ?_, fun j B' hj => ?_, fun j j' B1 B2 hj hj' hz1 hz2 hb => ?_, fun j B' hj hz => ?_, fun b i hs => ⟨hs.2.1, hs.2.2⟩, ⟨rfl, rfl, rfl, Nat.le_refl _, fun _ _ _ => rfl, NcK.refl _⟩⟩
    · rw [lk0] at hq
      cases hid : hd[j]? with
      | none => rw [hid] at hq; cases hq
      | some id =>
        rw [hid] at hq
        simp only [Option.bind_some] at hq
        obtain ⟨ob, B, e1, e2, e3, e4, e5, e6, e7⟩ := hlive j id hid
        rw [e1] at hq
        injection hq with hq
        subst hq
        refine ⟨B, by simp only [L0]; rw [hid]; exact e4, e5, e6, fun hz => ?_⟩
        obtain ⟨C, T, fr, c1, c2, c3, c4⟩ := e7 hz
        refine ⟨C, T, fr, c1, c2, c3, fun i x hx => ?_⟩
        exact ((c4 i x hx).isF_any (e3 x (List.mem_of_getElem? hx)) L0).move (fun b i u hs hu => ⟨.inl ⟨.inl hs, cell_lt hu, hsta_ne b i u hs hu⟩, hu⟩) (fun _ _ hy => .inl hy)
    · obtain ⟨id, hid, hL⟩ := L0s j _ hj
      obtain ⟨ob, B, e1, _⟩ := hlive j id hid
      exact ⟨ob, by rw [lk0, hid]; exact e1⟩
    · obtain ⟨id, hid, hL⟩ := L0s j _ hj
      obtain ⟨id', hid', hL'⟩ := L0s j' _ hj'
      have := h.hr.inj id id' B1 B2 hL hL' hz1 hz2 hb
      subst this
      have e1 := posF_get0 hnd hid
      have e2 := posF_get0 hnd hid'
      rw [e1] at e2
      injection e2
    · obtain ⟨id, hid, hL⟩ := L0s j _ hj
      exact .inl ⟨j, id, B', hid, hL, hz, rfl⟩
  have hVRs : VRs w (sta cx L0 hp0) L0 as vals.toList := ⟨hvr.1, fun i x hx => (hvr.2 i x hx).move (fun b i u hs hu => ⟨.inl hs, hu⟩) (fun _ _ hy => .inl hy)⟩
  have hcall := hcon w Hb S L0 vals (fun j hj => by
    simp only [L0]
    cases hid : hd[j]? with
    | none => rfl
    | some id =>
      rw [lk0, hid] at hj
      obtain ⟨ob, B, e1, _⟩ := hlive j id hid
      simp only [Option.bind_some] at hj
      rw [e1] at hj; cases hj) hHR hVRs
  unfold Oper.wp
  rw [hrun]
  refine hcall.mono ?_
  rintro e w' ⟨v, L', rfl, hLe, hnew, hHR', hr⟩
  have hu : Upd Hb w w' := hHR'.upd
  show K _ _
  obtain ⟨hR1, k3, k4, k5⟩ := Rel.lends ls h
  obtain ⟨hoO, hoh, hshm⟩ := hok
  let n := hd.length
  let hp1 := hpG 0 obs h1
  let hpl := (st.lends ls).hp
  let hp2 := insO (setO hd obs hpl) nid h1
  let κ : Nat → Option Nat := fun j => if j = nid then some n else posF hd 0 j
  let L2 : Lay := fun j => match κ j with | some k => L' k | none => L j
  have hLn := h.fresh nid hF
  have hnid : ∀ k : Nat, hd[k]? ≠ some nid := by
    intro k hk
    obtain ⟨ob, B, _, _, _, e4, _⟩ := hlive k nid hk
    rw [hLn] at e4; cases e4
  have κinj : ∀ j j' k, κ j = some k → κ j' = some k → j = j' := by
    intro j j' k e1 e2
    simp only [κ] at e1 e2
    by_cases h1 : j = nid
    · by_cases h2 : j' = nid
      · rw [h1, h2]
      · rw [if_pos h1] at e1
        rw [if_neg h2] at e2
        injection e1 with e1
        have := (posF_some e2).2
        rw [← e1] at this
        simp [n] at this
    · by_cases h2 : j' = nid
      · rw [if_pos h2] at e2
        rw [if_neg h1] at e1
        injection e2 with e2
        have := (posF_some e1).2
        rw [← e2] at this
        simp [n] at this
      · rw [if_neg h1] at e1
        rw [if_neg h2] at e2
        have a1 := (posF_some e1).2
        have a2 := (posF_some e2).2
        rw [a1] at a2
        injection a2
  have lk1 : ∀ k, look hp1 k = if k < n then (obs[k]?).join else if k = n then h1 else none := by
    intro k
    have := look_hpG obs 0 h1 k
    simp only [Nat.not_lt_zero, if_false, Nat.zero_add, Nat.sub_zero, hlen] at this
    exact this
  have lk2 : ∀ j, look hp2 j = match κ j with | some k => look hp1 k | none => look hpl j := by
    intro j
    by_cases hj : j = nid
    · have e : κ j = some n := by simp only [κ]; rw [if_pos hj]
      rw [e]
      show look hp2 j = look hp1 n
      rw [lk1, if_neg (Nat.lt_irrefl _), if_pos rfl]
      subst hj
      have hpn : posF hd 0 j = none := by
        cases hq : posF hd 0 j with
        | none => rfl
        | some k => exact absurd (by simpa using (posF_some hq).2) (hnid k)
      have hln : look hpl j = none := by
        cases hq : look hpl j with
        | none => rfl
        | some q => obtain ⟨Bq, e1, _⟩ := hR1.hr.live j q hq; rw [hLn] at e1; cases e1
      cases h1 with
      | none => simp only [hp2, insO]; rw [look_setO hd obs hpl j hnd hlen, hpn]; exact hln
      | some p => simp only [hp2, insO]; rw [look_ins, if_pos rfl]
    · have e : κ j = posF hd 0 j := by simp only [κ]; rw [if_neg hj]
      have e3 : look hp2 j = look (setO hd obs hpl) j := by
        cases h1 with
        | none => rfl
        | some p => simp only [hp2, insO]; rw [look_ins, if_neg (Ne.symm hj)]
      rw [e3, look_setO hd obs hpl j hnd hlen, e]
      cases hq : posF hd 0 j with
      | none => rfl
      | some k =>
        have hk := (posF_some hq).2
        have hlt : k < n := by
          have := (List.getElem?_eq_some_iff.1 hk).1
          simp [n]; omega
        simp only
        rw [lk1, if_pos hlt]
  have κL : ∀ j k y, κ j = some k → L j = some y → ∃ B, y = some B ∧ L0 k = some (some B) := by
    intro j k y e1 e2
    by_cases hj : j = nid
    · rw [hj, hLn] at e2; cases e2
    · simp only [κ] at e1
      rw [if_neg hj] at e1
      have hk : hd[k]? = some j := by have := (posF_some e1).2; simpa using this
      obtain ⟨ob, B, _, _, _, e4, _⟩ := hlive k j hk
      rw [e2] at e4
      injection e4 with e4
      exact ⟨B, e4, by simp only [L0]; rw [hk]; show L j = _; rw [e2, e4]⟩
  have old : ∀ j Bj, L j = some (some Bj) → Bj.size ≠ 0 → Bj.block < w.heap.size := by
    intro j Bj hj hz
    obtain ⟨p, hp⟩ := h.hr.dead j Bj hj
    obtain ⟨B2, e1, _, _, e4⟩ := h.hr.live j p hp
    rw [hj] at e1
    injection e1 with e1
    injection e1 with e1
    subst e1
    obtain ⟨C', T', fr', e5, _⟩ := e4 hz
    by_cases hh : Bj.block < w.heap.size
    · exact hh
    · rw [Array.getElem?_eq_none (by omega)] at e5; cases e5
  have other : ∀ j Bj, κ j = none → L j = some (some Bj) → Bj.size ≠ 0 → ¬ Hb Bj.block := by
    rintro j Bj e1 e2 e3 ⟨k, id, B, g1, g2, g3, g4⟩
    have := h.hr.inj id j B Bj g2 e2 g3 e3 g4
    subst this
    have hq := posF_get0 hnd g1
    have hne : id ≠ nid := fun e => hnid k (by rw [← e]; exact g1)
    simp only [κ] at e1
    rw [if_neg hne, hq] at e1
    cases e1
  have newB : ∀ k B, L' k = some (some B) → B.size ≠ 0 → Hb B.block ∨ w.heap.size ≤ B.block := fun k B hk hz => hHR'.mine k B hk hz
  have hL : ∀ j y, L j = some y → L2 j = some y ∨ L2 j = some none := by
    intro j y hy
    simp only [L2]
    cases hk : κ j with
    | none => exact .inl hy
    | some k =>
      obtain ⟨B, rfl, e⟩ := κL j k y hk hy
      exact hLe k _ e
  have Hmine : ∀ b, Hb b → c.I b ∨ c.W.heap.size ≤ b := by
    rintro b ⟨k, id, B, g1, g2, g3, g4⟩
    have := h.hr.mine id B g2 g3
    rw [g4] at this
    exact this
  have hN : ∀ b i u, sta cx L' hp1 b i → w'.cell? ⟨b, i, none⟩ = some u → sta c L2 hp2 b i := by
    intro b i u hs hu'
    have noown : ∀ j, (∃ q B, look hp2 j = some q ∧ L2 j = some (some B) ∧ B.block = b ∧ q.hw ≤ i ∧ i < B.size) → κ j = none → ¬ Hb b ∧ b < w.heap.size := by
      rintro j ⟨q, B, e1, e2, e3, e4, e5⟩ hk
      simp only [L2, hk] at e2
      subst e3
      exact ⟨other j B hk e2 (by omega), old j B e2 (by omega)⟩
    rcases hs with ⟨hs, hlt, hne⟩ | ⟨hs, hno⟩
    · rcases staL_lends h ls hs with hs | ⟨h3, h4⟩
      · exact .inl hs
      · refine .inr ⟨h3, ?_⟩
        rintro ⟨j, q, B, e1, e2, e3, e4, e5⟩
        rw [lk2] at e1
        simp only [L2] at e2
        cases hk : κ j with
        | none =>
          rw [hk] at e1 e2
          exact h4 ⟨j, q, B, e1, e2, e3, e4, e5⟩
        | some k =>
          rw [hk] at e2
          subst e3
          rcases newB k B e2 (by omega) with m | m
          · exact hne m
          · omega
    · have hin : c.I b ∨ c.W.heap.size ≤ b := by
        rcases hs with hs | hs
        · exact Hmine b hs
        · exact .inr (Nat.le_trans h.hr.upd.size hs)
      refine .inr ⟨hin, ?_⟩
      rintro ⟨j, q, B, e1, e2, e3, e4, e5⟩
      cases hk : κ j with
      | none =>
        have := noown j ⟨q, B, e1, e2, e3, e4, e5⟩ hk
        rcases hs with hs | hs
        · exact this.1 hs
        · have hs' : w.heap.size ≤ b := hs
          omega
      | some k =>
        rw [lk2, hk] at e1
        simp only [L2, hk] at e2
        exact hno ⟨k, q, B, e1, e2, e3, e4, e5⟩
  have hS : ∀ b i u, sta c L hpl b i → w.cell? ⟨b, i, none⟩ = some u → ¬ Hb b → sta c L2 hp2 b i ∧ w'.cell? ⟨b, i, none⟩ = some u := by
    intro b i u hs hcu hne
    have hlt := cell_lt hcu
    have hcell : w'.cell? ⟨b, i, none⟩ = some u := by
      simp only [World.cell?, hu.block b hlt hne]
      exact hcu
    refine ⟨?_, hcell⟩
    rcases hs with hs | ⟨h3, h4⟩
    · exact .inl hs
    · refine .inr ⟨h3, ?_⟩
      rintro ⟨j, q, B, e1, e2, e3, e4, e5⟩
      rw [lk2] at e1
      simp only [L2] at e2
      cases hk : κ j with
      | none =>
        rw [hk] at e1 e2
        exact h4 ⟨j, q, B, e1, e2, e3, e4, e5⟩
      | some k =>
        rw [hk] at e2
        subst e3
        rcases newB k B e2 (by omega) with m | m
        · exact hne m
        · omega
  have lkl : ∀ (k id : Nat), hd[k]? = some id → look hpl id = look st.hp id := by
    intro k id hk
    refine look_lendsG id ls st (fun x hx e => ?_)
    have hp := lsH_mem hls x hx
    rw [e, posF_get0 hnd hk] at hp
    cases hp
  have hsta_ne1 : ∀ b i u, sta c L hpl b i → w.cell? ⟨b, i, none⟩ = some u → ¬ Hb b := by
    rintro b i u hs hu ⟨k, id, B, e1, e2, e3, e4⟩
    obtain ⟨ob, B', g1, g2, g3, g4, _⟩ := hlive k id e1
    rw [e2] at g4
    injection g4 with g4; injection g4 with g4; subst g4
    exact own_block0 hR1 (by rw [← g1]; exact lkl k id e1) g2 e2 e3 hs hu e4.symm
  have hS' : ∀ b i u, sta c L (st.lends ls).hp b i → w.cell? ⟨b, i, none⟩ = some u → sta c L2 hp2 b i ∧ w'.cell? ⟨b, i, none⟩ = some u := fun b i u hs hu => hS b i u hs hu (hsta_ne1 b i u hs hu)
  have hM : NcK w w' := hu.maps
  have hHR2 : HR c L2 hp2 w' := by
    refine ⟨fun j q hq => ?_, fun j Bj hj => ?_, fun j j' Bj Bj' hj hj' hz1 hz' hbb => ?_, fun j Bj hj hz1 => ?_, h.hr.kept, h.hr.upd.trans hu.size hu.os hu.tape hu.output (fun k hk hI => hu.block k (by have := h.hr.upd.size; omega) (fun e => ?_))⟩
    · rw [lk2] at hq
      cases hk : κ j with
      | some k =>
        rw [hk] at hq
        obtain ⟨B, d1, d2, d3, d4⟩ := hHR'.live k q hq
        refine ⟨B, by simp only [L2, hk]; exact d1, d2, d3, fun hz => ?_⟩
        obtain ⟨C, T, fr, c1, c2, c3, c4⟩ := d4 hz
        have hI : okI q.cells := by
          have hq' : look hp1 k = some q := hq
          rw [lk1] at hq'
          split at hq'
          · cases hk2 : obs[k]? with
            | none => rw [hk2] at hq'; cases hq'
            | some oo =>
              rw [hk2] at hq'
              simp only [Option.join_some] at hq'
              subst hq'
              exact okO_get hoO hk2
          · split at hq'
            · subst hq'; exact hoh
            · cases hq'
        refine ⟨C, T, fr, c1, c2, c3, fun i x hx => ?_⟩
        exact ((c4 i x hx).isF_any (hI x (List.mem_of_getElem? hx)) L2).move (fun b i u hs hu' => ⟨hN b i u hs hu', hu'⟩) (fun _ _ hy => .inl hy)
      | none =>
        rw [hk] at hq
        obtain ⟨B, d1, d2, d3, d4⟩ := hR1.hr.live j q hq
        refine ⟨B, by simp only [L2, hk]; exact d1, d2, d3, fun hz => ?_⟩
        obtain ⟨C, T, fr, c1, c2, c3, c4⟩ := d4 hz
        exact ⟨C, T, fr, by rw [hu.block _ (old j B d1 hz) (other j B hk d1 hz)]; exact c1, c2, c3, fun i y hy => (c4 i y hy).move hS' hL⟩
    · rw [lk2]
      simp only [L2] at hj
      cases hk : κ j with
      | some k => rw [hk] at hj; exact hHR'.dead k Bj hj
      | none => rw [hk] at hj; exact hR1.hr.dead j Bj hj
    · simp only [L2] at hj hj'
      cases hk : κ j with
      | some k =>
        rw [hk] at hj
        cases hk' : κ j' with
        | some k' =>
          rw [hk'] at hj'
          have := hHR'.inj k k' Bj Bj' hj hj' hz1 hz' hbb
          subst this
          exact κinj j j' k hk hk'
        | none =>
          rw [hk'] at hj'
          exfalso
          rcases newB k Bj hj hz1 with m | m
          · exact other j' Bj' hk' hj' hz' (by rw [← hbb]; exact m)
          · have := old j' Bj' hj' hz'
            omega
      | none =>
        rw [hk] at hj
        cases hk' : κ j' with
        | some k' =>
          rw [hk'] at hj'
          exfalso
          rcases newB k' Bj' hj' hz' with m | m
          · exact other j Bj hk hj hz1 (by rw [hbb]; exact m)
          · have := old j Bj hj hz1
            omega
        | none => rw [hk'] at hj'; exact h.hr.inj j j' Bj Bj' hj hj' hz1 hz' hbb
    · simp only [L2] at hj
      cases hk : κ j with
      | some k =>
        rw [hk] at hj
        rcases newB k Bj hj hz1 with m | m
        · exact Hmine _ m
        · exact .inr (Nat.le_trans h.hr.upd.size m)
      | none => rw [hk] at hj; exact h.hr.mine j Bj hj hz1
    · rcases Hmine k e with m | m
      · exact hI m
      · omega
  have hR2 : Rel c L2 (fun j => F j ∧ j ≠ nid) { st.lends ls with hp := hp2 } a w' := hR1.change hL hS' (by
    rintro j ⟨h1, h2⟩
    have e : κ j = none := by
      simp only [κ]
      rw [if_neg h2]
      cases hq : posF hd 0 j with
      | none => rfl
      | some k =>
        obtain ⟨ob, B, _, _, _, e4, _⟩ := hlive k j (by have := (posF_some hq).2; simpa using this)
        rw [h.fresh j h1] at e4; cases e4
    simp only [L2, e]
    exact h.fresh j h1) hHR2
  refine hK L2 _ _ ?_
  have hv : VR w' (sta c L2 hp2) L2 (sgm hd nid r) v := by
    have e : VR w' (sta cx L' hp1) L2 (sgm hd nid r) v := hr.sgm hshm (fun k y hy => by
      by_cases hk : k < n
      · have hid : hd[k]? = some (hd.getD k nid) := by simp [List.getD_eq_getElem?_getD, List.getElem?_eq_getElem (show k < hd.length from hk)]
        have hp := posF_get0 hnd hid
        have hne : hd.getD k nid ≠ nid := fun e => hnid k (by rw [hid, e])
        simp only [L2, κ]
        rw [if_neg hne, hp]
        exact hy
      · have hg : hd.getD k nid = nid := by
          rw [List.getD_eq_getElem?_getD, List.getElem?_eq_none (by omega)]
          rfl
        have hkn : k = n := by
          by_cases e : k = n
          · exact e
          · have hn1 := hnew k (by rw [lk0, List.getElem?_eq_none (by omega)]; rfl) (by
              have := lk1 k
              rw [if_neg hk, if_neg e] at this
              exact this)
            rw [hn1] at hy; cases hy
        subst hkn
        simp only [L2, κ]
        rw [hg, if_pos rfl]
        exact hy)
    exact e.move (fun b i u hs hu' => ⟨hN b i u hs hu', hu'⟩) (fun _ _ hy => .inl hy)
  exact hR2.put hdd hv
end
end Go.Sim

namespace Go.Sim
open Go.RowKit
set_option linter.unusedVariables false
set_option linter.unusedSimpArgs false

def dsk (n : Nat) (d : Option Nat) : Prop := match d with | some k => k < n | none => True
def hok (h1 : Option Ob) (r : AV) : Prop := match h1 with | none => True | some p => shm r = true ∧ okI p.cells
def Cl (P : Program) (f : FuncId) (as : List AV) (st : St) (nid : Nat) (dst : Option Nat) (ls : List (Nat × Nat)) (K : Option Ob → AV → St → Prop) : Prop := ∃ h1 r, Con P f [] as (hpo h1) r ∧ hok h1 r ∧ K h1 r (st.back nid dst ls h1 r)
theorem cl {P : Program} {f : FuncId} {as : List AV} {st : St} {nid : Nat} {dst : Option Nat} {ls : List (Nat × Nat)} {K : Option Ob → AV → St → Prop} (h1 : Option Ob) {r : AV} (hc : Con P f [] as (hpo h1) r) (hh : hok h1 r) (hk : K h1 r (st.back nid dst ls h1 r)) : Cl P f as st nid dst ls K := ⟨h1, r, hc, hh, hk⟩
def nilq (P : Program) (st : St) : Op → Option (Nat × Bool)
  | .binOp op t x y _ =>
    match op, st.ev x, st.ev y, elm P t with
    | .eql, .fz n _, .nl, some _ => some (n, true)
    | .neq, .fz n _, .nl, some _ => some (n, false)
    | _, _, _, _ => none
  | _ => none
def aw1 (P : Program) (n nid : Nat) (o : Oper) (st : St) (K : St → Prop) : Prop :=
  dsk n o.dst ∧
  match nilq P st o.op with
  | some (m, e) => ∀ b : Bool, (b = true → m = 0) → K (st.put o.dst (.sc (.bool (b == e))))
  | none =>
  match o.op with
  | .call { callee := .value fo, args, argTypes } =>
    match st.ev fo with
    | .fn f caps => callable P f = true ∧
      match frzs st (args.toList.map st.ev ++ caps) with
      | some (as, ls, ob) => ob ∧ Cl P f as st nid o.dst ls fun _ _ s => K s
      | none => False
    | _ => False
  | op => match eff P nid st op with
    | some (r, up, ob) => ob ∧ K ((st.up up).put o.dst r)
    | none => False
def agd (P : Program) (n nid : Nat) (ops : Array Oper) (o : Oper) (st : St) (K : St → Prop) : Prop :=
  match o.guard with
  | none => aw1 P n nid o st K
  | some (j, want) => match (ops[j]?).bind (·.dst) with
    | some d => match st.get d with
      | .sc (.bool b) => if b = want then aw1 P n nid o st K else dsk n o.dst ∧ K (st.put o.dst (.sc undef))
      | .sc v => v = undef ∧ dsk n o.dst ∧ K (st.put o.dst (.sc undef))
      | _ => False
    | none => False
def aops (P : Program) (n : Nat) (ops : Array Oper) : List Oper → Nat → St → (St → Prop) → Prop
  | [], _, st, K => K st
  | o :: r, nid, st, K => agd P n nid ops o st (fun s => aops P n ops r (nid + 1) s K)
section
variable {c : Cx}
theorem aw1_sound {L : Lay} {F : Nat → Prop} {st : St} {a : Act} {w : World} {nid : Nat} {o : Oper} {K : St → Prop} (h : aw1 c.P c.n nid o st K) (hF : F nid) (hr : Rel c L F st a w) (Kc : Act → World → Prop) (Q : Exit → Act → World → Prop)
    (hK : ∀ s L' a' w', K s → Rel c L' (fun j => F j ∧ j ≠ nid) s a' w' → Kc a' w') : o.wp c.P a w Kc Q := by
  obtain ⟨hd, h⟩ := h
  have hd' : ∀ k, o.dst = some k → k < c.n := by
    intro k hk
    rw [hk] at hd
    exact hd
  split at h
  · rename_i m e hnq
    obtain ⟨dst, op, ty, pos, aft, gd⟩ := o
    simp only at hnq h hd' ⊢
    unfold nilq at hnq
    split at hnq
    · rename_i bop t x y yt
      have hx := hr.ev x
      have hy := hr.ev y
      split at hnq
      · rename_i n cells e' hex hey helm
        simp only [Option.some.injEq, Prod.mk.injEq] at hnq
        obtain ⟨rfl, rfl⟩ := hnq
        rw [hex] at hx
        rw [hey] at hy
        obtain ⟨A, cp, hxe, _, hA⟩ := hx.fz_eq
        have hye := hy.nl_eq
        have hb : A.isNone = true → n = 0 := by
          intro hn
          rcases hA with ⟨_, h0⟩ | ⟨b, o, g, rfl, _⟩
          · exact h0
          · cases hn
        have hrun : (execOp a.eval ⟨dst, .binOp .eql t x y yt, ty, pos, aft, gd⟩).run c.P w = .ok (.value (.bool A.isNone)) w := by
          have e1 : (Op.equal t (.slice A n cp) (.slice none 0 0)).run c.P w = .ok A.isNone w := run_equal_slice_nil w t e' A n cp (elm_spec helm)
          have e2 : (binOp .eql t (.slice A n cp) (.slice none 0 0)).run c.P w = .ok (.bool A.isNone) w := by
            show (do pure (.bool (← Op.equal t (.slice A n cp) (.slice none 0 0))) : Sem Value).run c.P w = _
            rw [Sem.run_bind, e1]; rfl
          simp only [execOp, hxe, hye, eqGuard_at_slice]
          rw [Sem.run_bind, Sem.run_bind, Sem.run_pure]
          simp only [Result.andThen_ok, e2]
          rfl
        unfold Oper.wp
        rw [hrun]
        exact hK _ L _ _ (h A.isNone hb) ((hr.put hd' (by rw [beq_true]; exact .sc _ _)).mono (fun j hj => hj.1))
      · rename_i n cells e' hex hey helm
        simp only [Option.some.injEq, Prod.mk.injEq] at hnq
        obtain ⟨rfl, rfl⟩ := hnq
        rw [hex] at hx
        rw [hey] at hy
        obtain ⟨A, cp, hxe, _, hA⟩ := hx.fz_eq
        have hye := hy.nl_eq
        have hb : A.isNone = true → n = 0 := by
          intro hn
          rcases hA with ⟨_, h0⟩ | ⟨b, o, g, rfl, _⟩
          · exact h0
          · cases hn
        have hrun : (execOp a.eval ⟨dst, .binOp .neq t x y yt, ty, pos, aft, gd⟩).run c.P w = .ok (.value (.bool (!A.isNone))) w := by
          have e1 : (Op.equal t (.slice A n cp) (.slice none 0 0)).run c.P w = .ok A.isNone w := run_equal_slice_nil w t e' A n cp (elm_spec helm)
          have e2 : (binOp .neq t (.slice A n cp) (.slice none 0 0)).run c.P w = .ok (.bool (!A.isNone)) w := by
            show (do pure (.bool (!(← Op.equal t (.slice A n cp) (.slice none 0 0)))) : Sem Value).run c.P w = _
            rw [Sem.run_bind, e1]; rfl
          simp only [execOp, hxe, hye, eqGuard_at_slice]
          rw [Sem.run_bind, Sem.run_bind, Sem.run_pure]
          simp only [Result.andThen_ok, e2]
          rfl
        unfold Oper.wp
        rw [hrun]
        exact hK _ L _ _ (h A.isNone hb) ((hr.put hd' (by rw [beq_false]; exact .sc _ _)).mono (fun j hj => hj.1))
      · cases hnq
    · cases hnq
  split at h
  · rename_i fo args argTypes hop
    split at h
    · rename_i f caps hfo
      obtain ⟨hcl, h⟩ := h
      split at h
      · rename_i as ls ob hfr
        obtain ⟨hob, h1, r, hcon, hho, hKs⟩ := h
        exact does_call hF hop hfo hcl hfr hob hcon hd' (fun p hp => by subst hp; exact hho) L a w Kc Q hr (fun L' a' w' hR => hK _ L' a' w' hKs hR)
      · exact h.elim
    · exact h.elim
  · split at h
    · rename_i r up ob he
      exact does_eff hF hd' he h.1 L a w Kc Q hr (fun L' a' w' hR => hK _ L' a' w' h.2 hR)
    · exact h.elim
theorem yielded_undef {ops : Array Oper} {j d : Nat} {T : Array Value} (hd : (ops[j]?).bind (·.dst) = some d) (hb : T.getD d undef = undef) : yielded ops T j = none := by
  unfold yielded
  rw [hd]
  by_cases hh : d < T.size
  · have hget : T[d]? = some undef := by
      simp [Array.getD, hh] at hb
      simp [hh, hb]
    simp [hget, undef]
  · simp [hh]
theorem Rel.nx {L : Lay} {F : Nat → Prop} {st : St} {a : Act} {w : World} (h : Rel c L F st a w) (k : Nat) : Rel c L F { st with nx := k } a w := ⟨h.hr, h.fresh, h.defs, h.size, h.slot, h.ext⟩

end
end Go.Sim

namespace Go.Sim
open Go.RowKit
set_option linter.unusedVariables false
set_option linter.unusedSimpArgs false

def ids1 : AV → List Nat
  | .lv id _ _ => [id]
  | .pt id _ => [id]
  | _ => []
def ids2 : AV → List Nat
  | .ag l => l.flatMap ids1
  | .fn _ l => l.flatMap ids1
  | .bf _ x => ids1 x
  | x => ids1 x
def ids : AV → List Nat
  | .fn _ l => l.flatMap ids2
  | .bf _ x => ids2 x
  | x => ids2 x
def opids (st : St) (op : Op) : List Nat := op.operands.toList.flatMap fun x => ids (st.ev x)

section
variable {P : Program} {s s' : St}
def Like (s s' : St) (xs : List Operand) : Prop := (∀ x ∈ xs, s.ev x = s'.ev x) ∧ ∀ x ∈ xs, ∀ id ∈ ids (s'.ev x), look s.hp id = look s'.hp id
theorem Like.sub {xs ys : List Operand} (h : Like s s' xs) (hs : ∀ y ∈ ys, y ∈ xs) : Like s s' ys := ⟨fun x hx => h.1 x (hs x hx), fun x hx => h.2 x (hs x hx)⟩
theorem cel_congr {x : AV} (h : ∀ id ∈ ids x, look s.hp id = look s'.hp id) : cel s x = cel s' x := by
  cases x with
  | lv id off n => simp only [cel, h id (by simp [ids, ids2, ids1])]
  | pt id off => simp only [cel, h id (by simp [ids, ids2, ids1])]
  | _ => rfl
theorem src_congr {x : AV} {sz : Nat} (h : ∀ id ∈ ids x, look s.hp id = look s'.hp id) : src s sz x = src s' sz x := by
  cases x with
  | lv id off n => simp only [src, h id (by simp [ids, ids2, ids1])]
  | sc v => cases v <;> rfl
  | _ => rfl
theorem frz1_congr {x : AV} (h : ∀ id ∈ ids1 x, look s.hp id = look s'.hp id) : frz1 s x = frz1 s' x := by
  cases x with
  | lv id off n => simp only [frz1, h id (by simp [ids1])]
  | pt id off => simp only [frz1, h id (by simp [ids1])]
  | _ => rfl
theorem frzs1_congr {l : List AV} (h : ∀ id ∈ l.flatMap ids1, look s.hp id = look s'.hp id) : frzs1 s l = frzs1 s' l := by
  induction l with
  | nil => rfl
  | cons x l ih =>
    simp only [frzs1]
    rw [frz1_congr (fun id hid => h id (by simp [hid])), ih (fun id hid => h id (by simp at hid; simp [hid]))]
theorem frz_congr {x : AV} (h : ∀ id ∈ ids2 x, look s.hp id = look s'.hp id) : frz s x = frz s' x := by
  cases x with
  | ag l => simp only [frz]; rw [frzs1_congr (fun id hid => h id hid)]
  | fn f l => simp only [frz]; rw [frzs1_congr (fun id hid => h id hid)]
  | lv id off n => exact frz1_congr (x := .lv id off n) (fun id hid => h id hid)
  | pt id off => exact frz1_congr (x := .pt id off) (fun id hid => h id hid)
  | _ => rfl
theorem frzs_congr {l : List AV} (h : ∀ id ∈ l.flatMap ids2, look s.hp id = look s'.hp id) : frzs s l = frzs s' l := by
  induction l with
  | nil => rfl
  | cons x l ih =>
    simp only [frzs]
    rw [frz_congr (fun id hid => h id (by simp [hid])), ih (fun id hid => h id (by simp at hid; simp [hid]))]
theorem cels_congr {ps : List (Nat × Operand)} (h : Like s s' (ps.map (·.2))) : cels s ps = cels s' ps := by
  induction ps with
  | nil => rfl
  | cons p ps ih =>
    obtain ⟨k, x⟩ := p
    have hx : x ∈ ((k, x) :: ps).map (·.2) := by simp
    simp only [cels]
    rw [h.1 x hx, cel_congr (s := s) (s' := s') (h.2 x hx), ih (h.sub (fun y hy => by simp at hy ⊢; exact .inr hy))]
theorem abd_congr {x : Option Operand} {d : Nat} (h : Like s s' x.toList) : abd s d x = abd s' d x := by
  cases x with
  | none => rfl
  | some y => simp only [abd]; rw [h.1 y (by simp)]
theorem okCells_congr {y : AV} {cs : List AV} {st : St} (hc : cel st y = some cs) (h : ∀ id ∈ ids y, look s.hp id = look s'.hp id) : okCells s cs = okCells s' cs := by
  have key : ∀ x ∈ cs, okc s x = okc s' x := by
    intro x hx
    have one : cs = [y] → okc s x = okc s' x := by
      intro e
      subst e
      simp at hx
      subst hx
      cases x with
      | lv id off n => simp only [okc, h id (by simp [ids, ids2, ids1])]
      | pt id off => simp only [okc, h id (by simp [ids, ids2, ids1])]
      | _ => rfl
    cases y with
    | ag l =>
      simp [cel] at hc
      subst hc
      cases x with
      | lv id off n => simp only [okc, h id (by simp only [ids, ids2, List.mem_flatMap]; exact ⟨_, hx, by simp [ids1]⟩)]
      | pt id off => simp only [okc, h id (by simp only [ids, ids2, List.mem_flatMap]; exact ⟨_, hx, by simp [ids1]⟩)]
      | _ => rfl
    | sc v => simp only [cel] at hc; split at hc; exact one (by injection hc with hc; exact hc.symm); cases hc
    | lv id off n => simp only [cel] at hc; split at hc; exact one (by injection hc with hc; exact hc.symm); cases hc
    | pt id off => simp only [cel] at hc; split at hc; exact one (by injection hc with hc; exact hc.symm); cases hc
    | nl => exact one (by injection hc with hc; exact hc.symm)
    | fz n c => exact one (by injection hc with hc; exact hc.symm)
    | fp c o => exact one (by injection hc with hc; exact hc.symm)
    | fn f c => exact one (by injection hc with hc; exact hc.symm)
    | mp k v => exact one (by injection hc with hc; exact hc.symm)
    | un => cases hc
    | fq n c => cases hc
    | bf f x => cases hc
    | tu l => cases hc
  simp only [okCells]
  exact propext ⟨fun hh x hx => by rw [← key x hx]; exact hh x hx, fun hh x hx => by rw [key x hx]; exact hh x hx⟩
theorem avl_congr {op : Op} (h : Like s s' op.operands.toList) : avl P s op = avl P s' op := by
  have lk1 : ∀ x, x ∈ op.operands.toList → ∀ id off, s'.ev x = .pt id off → look s.hp id = look s'.hp id := fun x hx id off e => h.2 x hx id (by rw [e]; simp [ids, ids2, ids1])
  have lk2 : ∀ x, x ∈ op.operands.toList → ∀ id off n, s'.ev x = .lv id off n → look s.hp id = look s'.hp id := fun x hx id off n e => h.2 x hx id (by rw [e]; simp [ids, ids2, ids1])
  cases op with
  | move x => simp only [avl]; rw [h.1 x (by simp [Op.operands])]
  | assign x => simp only [avl]; rw [h.1 x (by simp [Op.operands])]
  | pick c a b => simp only [avl]; rw [h.1 c (by simp [Op.operands]), h.1 a (by simp [Op.operands]), h.1 b (by simp [Op.operands])]
  | binOp op t x y ty =>
    simp only [avl]
    rw [h.1 x (by simp [Op.operands]), h.1 y (by simp [Op.operands])]
    have hq : pnq P t s.hp op (s'.ev x) = pnq P t s'.hp op (s'.ev x) := by
      unfold pnq
      cases hx : s'.ev x <;> simp only
      rename_i id off
      rw [lk1 x (by simp [Op.operands]) id off hx]
    generalize s'.ev x = u at hq
    generalize s'.ev y = v
    split <;> first | rfl | exact hq
  | unOp op t x => simp only [avl]; rw [h.1 x (by simp [Op.operands])]
  | convert a b x => simp only [avl]; rw [h.1 x (by simp [Op.operands])]
  | load t x =>
    simp only [avl]
    rw [h.1 x (by simp [Op.operands])]
    cases hx : s'.ev x <;> simp only
    rename_i id off
    rw [lk1 x (by simp [Op.operands]) id off hx]
  | fieldAddr t x k =>
    simp only [avl]
    rw [h.1 x (by simp [Op.operands])]
    cases hx : s'.ev x <;> simp only
    rename_i id off
    rw [lk1 x (by simp [Op.operands]) id off hx]
  | field t x k => simp only [avl]; rw [h.1 x (by simp [Op.operands])]
  | indexAddr t x i =>
    simp only [avl]
    rw [h.1 x (by simp [Op.operands]), h.1 i (by simp [Op.operands])]
    cases hx : s'.ev x <;> simp only
    · rename_i id off n
      rw [lk2 x (by simp [Op.operands]) id off n hx]
    · rename_i id off
      rw [lk1 x (by simp [Op.operands]) id off hx]
  | index t x i => simp only [avl]; rw [h.1 x (by simp [Op.operands]), h.1 i (by simp [Op.operands])]
  | extract x k => simp only [avl]; rw [h.1 x (by simp [Op.operands])]
  | build t ps =>
    simp only [avl]
    rw [cels_congr (h.sub (fun y hy => by simpa [Op.operands] using hy))]
  | makeFunc fn first captured =>
    cases fn with
    | func f =>
      simp only [avl]
      have : captured.toList.map s.ev = captured.toList.map s'.ev := List.map_congr_left (fun x hx => h.1 x (by simp [Op.operands]; exact .inr (by simpa using hx)))
      rw [this]
      split
      · rfl
      · split
        · rename_i x hx1 hx2
          rw [h.1 x (by simp [Op.operands, Array.toList_append, hx1])]
        · rfl
    | _ => rfl
  | lookup t x i ok => simp only [avl]; rw [h.1 x (by simp [Op.operands]), h.1 i (by simp [Op.operands])]
  | sliceToArrayPointer t x =>
    simp only [avl]
    rw [h.1 x (by simp [Op.operands])]
    cases hx : s'.ev x <;> cases arr P t <;> simp only
    rename_i id off n p
    rw [lk2 x (by simp [Op.operands]) id off n hx]
  | nilCheck x =>
    simp only [avl]
    rw [h.1 x (by simp [Op.operands])]
    cases hx : s'.ev x <;> simp only
    rename_i id off
    rw [lk1 x (by simp [Op.operands]) id off hx]
  | slice t x lo hi mx =>
    have e1 := fun d => abd_congr (s := s) (s' := s') (x := lo) (d := d) (h.sub (fun y hy => by simp only [Op.operands, Array.toList_append, List.mem_append]; exact .inl (.inl (.inr (by simpa using hy)))))
    have e2 := fun d => abd_congr (s := s) (s' := s') (x := hi) (d := d) (h.sub (fun y hy => by simp only [Op.operands, Array.toList_append, List.mem_append]; exact .inl (.inr (by simpa using hy))))
    have e3 := fun d => abd_congr (s := s) (s' := s') (x := mx) (d := d) (h.sub (fun y hy => by simp only [Op.operands, Array.toList_append, List.mem_append]; exact .inr (by simpa using hy)))
    have hx0 : x ∈ (Op.slice t x lo hi mx).operands.toList := by simp [Op.operands]
    simp only [avl]
    rw [h.1 x hx0]
    cases hx : s'.ev x with
    | lv id off n => simp only [e1, e2, e3, lk2 x hx0 id off n hx]
    | pt id off => simp only [e1, e2, e3, lk1 x hx0 id off hx]
    | sc v => cases v <;> simp only [e1, e2, e3]
    | _ => simp only [e1, e2, e3]
  | call cl =>
    obtain ⟨callee, args, argTypes⟩ := cl
    cases callee with
    | builtin b =>
      have hm : args.toList.map s.ev = args.toList.map s'.ev := List.map_congr_left (fun x hx => h.1 x (by simp [Op.operands, Call.operands]; simpa using hx))
      cases b with
      | max => simp only [avl]; rw [hm]
      | min => simp only [avl]; rw [hm]
      | len =>
        simp only [avl]
        split
        · rename_i x t hx ht
          have hx0 : x ∈ (Op.call { callee := .builtin .len, args, argTypes }).operands.toList := by simp [Op.operands, Call.operands]; rw [← Array.mem_toList_iff, hx]; simp
          rw [h.1 x hx0]
          cases he : s'.ev x with
          | lv id off n => simp only [lk2 x hx0 id off n he]
          | sc v => cases v <;> rfl
          | _ => rfl
        · rfl
      | _ => rfl
    | _ => rfl
  | _ => rfl
theorem aap_congr {nid : Nat} {t t2 : TypeId} {a x : AV} (ha : ∀ id ∈ ids a, look s.hp id = look s'.hp id) (hx : ∀ id ∈ ids x, look s.hp id = look s'.hp id) : aap P nid s t t2 a x = aap P nid s' t t2 a x := by
  simp only [aap]
  cases helm : elm P t with
  | none => rfl
  | some e =>
    simp only
    rw [src_congr hx]
    cases a with
    | lv id off n => simp only [ha id (by simp [ids, ids2, ids1])]
    | _ => rfl
theorem aapZ_congr {nid : Nat} {t t2 : TypeId} {a x : AV} (ha : ∀ id ∈ ids a, look s.hp id = look s'.hp id) : aapZ P nid s t t2 a x = aapZ P nid s' t t2 a x := by
  simp only [aapZ]
  cases helm : elm P t with
  | none => rfl
  | some e =>
    cases a with
    | lv id off n => simp only [ha id (by simp [ids, ids2, ids1])]
    | _ => rfl
theorem aef_congr {nid : Nat} {op : Op} (h : Like s s' op.operands.toList) : aef P nid s op = aef P nid s' op := by
  cases op with
  | alloc t => rfl
  | box t x => simp only [aef]; rw [h.1 x (by simp [Op.operands]), cel_congr (s := s) (s' := s') (h.2 x (by simp [Op.operands]))]
  | buildSlice t n ps =>
    simp only [aef]
    rw [cels_congr (h.sub (fun y hy => by simpa [Op.operands] using hy))]
  | makeSlice t l k => simp only [aef]; rw [h.1 l (by simp [Op.operands]), h.1 k (by simp [Op.operands])]
  | store t x y =>
    have hx := h.1 x (by simp [Op.operands])
    have hy := h.1 y (by simp [Op.operands])
    have hlk := h.2 y (by simp [Op.operands])
    have hlx := h.2 x (by simp [Op.operands])
    simp only [aef]
    rw [hx, hy, cel_congr (s := s) (s' := s') hlk]
    cases he : s'.ev x with
    | pt id off =>
      cases hc : cel s' (s'.ev y) with
      | none => rfl
      | some cs =>
        simp only
        rw [hlx id (by rw [he]; simp [ids, ids2, ids1]), okCells_congr hc hlk]
    | _ => rfl
  | convert a b x =>
    simp only [aef]
    rw [h.1 x (by simp [Op.operands])]
    cases he : s'.ev x <;> simp only
    rename_i id off n
    rw [h.2 x (by simp [Op.operands]) id (by rw [he]; simp [ids, ids2, ids1])]
  | slice t x lo hi mx =>
    cases mx with
    | none => rfl
    | some mx =>
      have e1 := fun d => abd_congr (s := s) (s' := s') (x := lo) (d := d) (h.sub (fun y hy => by simp only [Op.operands, Array.toList_append, List.mem_append]; exact .inl (.inl (.inr (by simpa using hy)))))
      have e2 := fun d => abd_congr (s := s) (s' := s') (x := hi) (d := d) (h.sub (fun y hy => by simp only [Op.operands, Array.toList_append, List.mem_append]; exact .inl (.inr (by simpa using hy))))
      simp only [aef]
      rw [h.1 x (by simp [Op.operands]), h.1 mx (by simp [Op.operands])]
      simp only [e1, e2]
  | call cl =>
    obtain ⟨callee, args, argTypes⟩ := cl
    cases callee with
    | builtin b =>
      cases b with
      | append =>
        simp only [aef]
        split
        · rename_i a x t t2 hax ht
          have ha0 : a ∈ (Op.call { callee := .builtin .append, args, argTypes }).operands.toList := by simp [Op.operands, Call.operands]; rw [← Array.mem_toList_iff, hax]; simp
          have hx0 : x ∈ (Op.call { callee := .builtin .append, args, argTypes }).operands.toList := by simp [Op.operands, Call.operands]; rw [← Array.mem_toList_iff, hax]; simp
          rw [h.1 a ha0, h.1 x hx0]
          rw [aap_congr (h.2 a ha0) (h.2 x hx0), aapZ_congr (h.2 a ha0)]
        · rfl
      | _ => rfl
    | _ => rfl
  | _ => rfl
theorem eff_congr {nid : Nat} {op : Op} (h : Like s s' op.operands.toList) : eff P nid s op = eff P nid s' op := by
  simp only [eff]
  rw [avl_congr h, aef_congr h]
end

theorem look_up (s s' : St) (up : List (Nat × Option Ob)) (id : Nat) (h : id ∈ up.map (·.1) ∨ look s.hp id = look s'.hp id) : look (s.up up).hp id = look (s'.up up).hp id := by
  induction up generalizing s s' with
  | nil => rcases h with h | h; simp at h; exact h
  | cons u up ih =>
    obtain ⟨k, o⟩ := u
    have step : ∀ (hp1 hp2 : List (Nat × Ob)), (id ∈ up.map (·.1) ∨ look hp1 id = look hp2 id) → look (St.up { s with hp := hp1 } up).hp id = look (St.up { s' with hp := hp2 } up).hp id := fun hp1 hp2 hh => ih { s with hp := hp1 } { s' with hp := hp2 } hh
    cases o with
    | some o =>
      simp only [St.up]
      refine step _ _ ?_
      simp only [look_ins]
      by_cases hk : k = id
      · right; simp [hk]
      · rcases h with h | h
        · simp at h
          rcases h with h | h
          · exact absurd h.symm hk
          · left; simpa using h
        · right; simp [hk, h]
    | none =>
      simp only [St.up]
      refine step _ _ ?_
      simp only [look_del]
      by_cases hk : k = id
      · right; simp [hk]
      · rcases h with h | h
        · simp at h
          rcases h with h | h
          · exact absurd h.symm hk
          · left; simpa using h
        · right; simp [hk, h]
theorem look_up_not (s : St) (up : List (Nat × Option Ob)) (id : Nat) (h : id ∉ up.map (·.1)) : look (s.up up).hp id = look s.hp id := by
  induction up generalizing s with
  | nil => rfl
  | cons u up ih =>
    obtain ⟨k, o⟩ := u
    simp at h
    cases o with
    | some o => simp only [St.up]; rw [ih _ (by simpa using h.2), look_ins, if_neg (Ne.symm h.1)]
    | none => simp only [St.up]; rw [ih _ (by simpa using h.2), look_del, if_neg (Ne.symm h.1)]
theorem look_lends (s s' : St) (ls : List (Nat × Nat)) (hl : ∀ id ∈ ls.map (·.1), look s.hp id = look s'.hp id) (id : Nat) (h : look s.hp id = look s'.hp id) : look (s.lends ls).hp id = look (s'.lends ls).hp id := by
  induction ls generalizing s s' with
  | nil => exact h
  | cons p ls ih =>
    obtain ⟨j, k⟩ := p
    have hj := hl j (by simp)
    simp only [St.lends]
    rw [hj]
    cases look s'.hp j with
    | none => exact ih s s' (fun i hi => hl i (by simp at hi ⊢; exact .inr hi)) h
    | some o =>
      simp only
      refine ih _ _ (fun i hi => ?_) ?_
      · simp only [look_ins]
        split
        · rfl
        · exact hl i (by simp at hi ⊢; exact .inr hi)
      · simp only [look_ins]
        split
        · rfl
        · exact h
theorem look_lends_not (s : St) (ls : List (Nat × Nat)) (id : Nat) (h : id ∉ ls.map (·.1)) : look (s.lends ls).hp id = look s.hp id := by
  induction ls generalizing s with
  | nil => rfl
  | cons p ls ih =>
    obtain ⟨j, k⟩ := p
    simp at h
    simp only [St.lends]
    split
    · rw [ih _ (by simpa using h.2), look_ins, if_neg (Ne.symm h.1)]
    · exact ih _ (by simpa using h.2)

def wrc (nid : Nat) (ls : List (Nat × Nat)) (h1 : Option Ob) (r : AV) : List Nat :=
  match h1 with
  | none => if flat r then [] else ls.map (·.1)
  | some _ => nid :: ls.map (·.1)
def aw1D (P : Program) (n nid : Nat) (o : Oper) (st : St) (K : List Nat → List Nat → St → Prop) : Prop :=
  dsk n o.dst ∧
  match o.op with
  | .call { callee := .value fo, args, argTypes } =>
    match st.ev fo with
    | .fn f caps => callable P f = true ∧
      ((match frzs st (args.toList.map st.ev ++ caps) with
      | some (as, ls, ob) => ob ∧ Cl P f as st nid o.dst ls fun h1 r s => K (opids st o.op) (wrc nid ls h1 r) s
      | none => False) ∨ ∃ ps, calG P nid st o.dst f (fun wr s => K (opids st o.op) wr s) ps (args.toList.map st.ev ++ caps))
    | .bf f x => callable P f = true ∧ ∃ ps, calG P nid st o.dst f (fun wr s => K (opids st o.op) wr s) ps (x :: args.toList.map st.ev)
    | _ => False
  | op => match eff P nid st op with
    | some (r, up, ob) => ob ∧ K (opids st op) (up.map (·.1)) ((st.up up).put o.dst r)
    | none => False
def agdD (P : Program) (n nid : Nat) (ops : Array Oper) (o : Oper) (st : St) (K : List Nat → List Nat → St → Prop) : Prop :=
  match o.guard with
  | none => aw1D P n nid o st K
  | some (j, want) => match (ops[j]?).bind (·.dst) with
    | some d => match st.get d with
      | .sc (.bool b) => if b = want then aw1D P n nid o st K else dsk n o.dst ∧ K [] [] (st.put o.dst (.sc undef))
      | .sc v => v = undef ∧ dsk n o.dst ∧ K [] [] (st.put o.dst (.sc undef))
      | _ => False
    | none => False
def cfl (r1 w1 r2 w2 : List Nat) : Bool := w1.any (fun x => r2.contains x || w2.contains x) || r1.any (fun x => w2.contains x)
def ancF (ops : Array Oper) (k : Nat) : Nat → Nat → Bool
  | 0, _ => false
  | f + 1, j => match ops[j]? with
    | some o => o.after.any fun e => Region.binds .any e && (e.on == k || ancF ops k f e.on)
    | none => false
def ancB (ops : Array Oper) (k j : Nat) : Bool := ancF ops k ops.size j
def statOK (ops : Array Oper) : Bool :=
  (List.range ops.size).all fun j => match ops[j]? with
    | some o => o.after.all (fun e => !Region.binds .any e || decide (e.on < j)) && (List.range j).all fun k => match ops[k]? with
      | some x => ancB ops k j || x.apart ops o
      | none => true
    | none => true
def nocf (ops : Array Oper) (i : Nat) (rd wr : List Nat) : List (Nat × List Nat × List Nat) → Prop
  | [] => True
  | q :: r => (cfl q.2.1 q.2.2 rd wr = false ∨ ancB ops q.1 i = true) ∧ nocf ops i rd wr r
def aopsD (P : Program) (n : Nat) (ops : Array Oper) : List Oper → Nat → Nat → List (Nat × List Nat × List Nat) → St → (St → Prop) → Prop
  | [], _, _, _, st, K => K st
  | o :: r, i, nid, dn, st, K => agdD P n nid ops o st (fun rd wr s => nocf ops i rd wr dn ∧ aopsD P n ops r (i + 1) (nid + 1) ((i, rd, wr) :: dn) s K)

structure Rec where
  dst : Option Nat
  r : AV
  rd : List Nat
  wr : List Nat
  val : Nat → Option Ob
def gt (D : Nat → Bool) (t : Nat) : List Rec → Nat → AV → AV
  | [], _, cur => cur
  | q :: qs, i, cur => gt D t qs (i + 1) (if D i = true ∧ q.dst = some t then q.r else cur)
def gh (D : Nat → Bool) (id : Nat) : List Rec → Nat → Option Ob → Option Ob
  | [], _, cur => cur
  | q :: qs, i, cur => gh D id qs (i + 1) (if D i = true ∧ id ∈ q.wr then q.val id else cur)
theorem gt_agree {D1 D2 : Nat → Bool} {t : Nat} : ∀ (qs : List Rec) (i : Nat) (cur : AV), (∀ k q, qs[k]? = some q → D1 (i + k) ≠ D2 (i + k) → q.dst ≠ some t) → gt D1 t qs i cur = gt D2 t qs i cur := by
  intro qs
  induction qs with
  | nil => intro i cur _; rfl
  | cons q qs ih =>
    intro i cur h
    simp only [gt]
    have e : (if D1 i = true ∧ q.dst = some t then q.r else cur) = (if D2 i = true ∧ q.dst = some t then q.r else cur) := by
      by_cases hd : q.dst = some t
      · have : D1 i = D2 i := by
          by_cases hh : D1 i = D2 i
          · exact hh
          · exact absurd hd (h 0 q rfl (by simpa using hh))
        rw [this]
      · simp [hd]
    rw [e]
    exact ih (i + 1) _ (fun k q' hk hn => h (k + 1) q' (by simpa using hk) (by rwa [show i + (k + 1) = i + 1 + k by omega]))
theorem gh_agree {D1 D2 : Nat → Bool} {id : Nat} : ∀ (qs : List Rec) (i : Nat) (cur : Option Ob), (∀ k q, qs[k]? = some q → D1 (i + k) ≠ D2 (i + k) → id ∉ q.wr) → gh D1 id qs i cur = gh D2 id qs i cur := by
  intro qs
  induction qs with
  | nil => intro i cur _; rfl
  | cons q qs ih =>
    intro i cur h
    simp only [gh]
    have e : (if D1 i = true ∧ id ∈ q.wr then q.val id else cur) = (if D2 i = true ∧ id ∈ q.wr then q.val id else cur) := by
      by_cases hd : id ∈ q.wr
      · have : D1 i = D2 i := by
          by_cases hh : D1 i = D2 i
          · exact hh
          · exact absurd hd (h 0 q rfl (by simpa using hh))
        rw [this]
      · simp [hd]
    rw [e]
    exact ih (i + 1) _ (fun k q' hk hn => h (k + 1) q' (by simpa using hk) (by rwa [show i + (k + 1) = i + 1 + k by omega]))
theorem gt_last {D : Nat → Bool} {t : Nat} : ∀ (qs : List Rec) (i : Nat) (cur : AV) (j : Nat) (q : Rec), qs[j]? = some q → D (i + j) = true → q.dst = some t → (∀ k q', qs[k]? = some q' → j < k → D (i + k) = true → q'.dst ≠ some t) → gt D t qs i cur = q.r := by
  intro qs
  induction qs with
  | nil => intro i cur j q h; simp at h
  | cons p qs ih =>
    intro i cur j q h hD hd hl
    simp only [gt]
    cases j with
    | zero =>
      simp at h
      subst h
      rw [if_pos ⟨by simpa using hD, hd⟩]
      have : gt D t qs (i + 1) p.r = gt (fun _ => false) t qs (i + 1) p.r := gt_agree qs (i + 1) p.r (fun k q' hk hne => by
        refine hl (k + 1) q' (by simpa using hk) (by omega) ?_
        rw [show i + (k + 1) = i + 1 + k by omega]
        cases hh : D (i + 1 + k)
        · exact absurd hh hne
        · rfl)
      rw [this]
      have key : ∀ (qs : List Rec) (i : Nat) (cur : AV), gt (fun _ => false) t qs i cur = cur := by
        intro qs
        induction qs with
        | nil => intro i cur; rfl
        | cons q qs ih => intro i cur; simp only [gt]; rw [ih]; simp
      exact key _ _ _
    | succ j =>
      exact ih (i + 1) _ j q (by simpa using h) (by rwa [show i + 1 + j = i + (j + 1) by omega]) hd (fun k q' hk hlt hDk => hl (k + 1) q' (by simpa using hk) (by omega) (by rwa [show i + (k + 1) = i + 1 + k by omega]))
theorem gh_last {D : Nat → Bool} {id : Nat} : ∀ (qs : List Rec) (i : Nat) (cur : Option Ob) (j : Nat) (q : Rec), qs[j]? = some q → D (i + j) = true → id ∈ q.wr → (∀ k q', qs[k]? = some q' → j < k → D (i + k) = true → id ∉ q'.wr) → gh D id qs i cur = q.val id := by
  intro qs
  induction qs with
  | nil => intro i cur j q h; simp at h
  | cons p qs ih =>
    intro i cur j q h hD hd hl
    simp only [gh]
    cases j with
    | zero =>
      simp at h
      subst h
      rw [if_pos ⟨by simpa using hD, hd⟩]
      have : gh D id qs (i + 1) (p.val id) = gh (fun _ => false) id qs (i + 1) (p.val id) := gh_agree qs (i + 1) _ (fun k q' hk hne => by
        refine hl (k + 1) q' (by simpa using hk) (by omega) ?_
        rw [show i + (k + 1) = i + 1 + k by omega]
        cases hh : D (i + 1 + k)
        · exact absurd hh hne
        · rfl)
      rw [this]
      have key : ∀ (qs : List Rec) (i : Nat) (cur : Option Ob), gh (fun _ => false) id qs i cur = cur := by
        intro qs
        induction qs with
        | nil => intro i cur; rfl
        | cons q qs ih => intro i cur; simp only [gh]; rw [ih]; simp
      exact key _ _ _
    | succ j =>
      exact ih (i + 1) _ j q (by simpa using h) (by rwa [show i + 1 + j = i + (j + 1) by omega]) hd (fun k q' hk hlt hDk => hl (k + 1) q' (by simpa using hk) (by omega) (by rwa [show i + (k + 1) = i + 1 + k by omega]))

def Fact (c : Cx) (ops : Array Oper) (j nid : Nat) (o : Oper) (q : Rec) (sj : St) : Prop :=
  q.dst = o.dst ∧ ∀ (s : St) (F : Nat → Prop), (∀ t, t ∈ o.looksAt ops → s.get t = sj.get t) → (∀ id, id ∈ q.rd ∨ id ∈ q.wr → look s.hp id = look sj.hp id) → F nid →
    ∃ s', (∀ t, s'.get t = if q.dst = some t then q.r else s.get t) ∧ (∀ id, look s'.hp id = if id ∈ q.wr then q.val id else look s.hp id) ∧
      ∀ L a w (Kc : Act → World → Prop) (Q : Exit → Act → World → Prop), Rel c L F s a w → (∀ L' a' w', Rel c L' (fun i => F i ∧ i ≠ nid) s' a' w' → Kc a' w') → wpOp c.P ops Q j Kc a w

section
variable {c : Cx} {ops : Array Oper}
theorem like_of {o : Oper} {s st : St} (hg : ∀ t, t ∈ o.looksAt ops → s.get t = st.get t) (hl : ∀ id, id ∈ opids st o.op → look s.hp id = look st.hp id) : Like s st o.op.operands.toList := by
  have hev : ∀ x ∈ o.op.operands.toList, s.ev x = st.ev x := by
    intro x hx
    cases x with
    | tmp t =>
      refine hg t ?_
      simp only [Oper.looksAt, List.mem_append, List.mem_filterMap]
      exact .inl ⟨_, hx, rfl⟩
    | _ => rfl
  exact ⟨hev, fun x hx id hid => hl id (by simp only [opids, List.mem_flatMap]; exact ⟨x, hx, hid⟩)⟩
theorem frz1_ls {st : St} {x y : AV} {ls : List (Nat × Nat)} {p : Prop} (h : frz1 st x = some (y, ls, p)) : ∀ q ∈ ls, q.1 ∈ ids1 x := by
  intro q hq
  unfold frz1 at h
  split at h
  · rename_i id off n
    split at h
    · simp only [Option.some.injEq, Prod.mk.injEq] at h
      obtain ⟨_, rfl, _⟩ := h
      simp at hq
      subst hq
      simp [ids1]
    · cases h
  · simp only [Option.some.injEq, Prod.mk.injEq] at h
    obtain ⟨_, rfl, _⟩ := h
    simp at hq
  · rename_i id off
    split at h
    · simp only [Option.some.injEq, Prod.mk.injEq] at h
      obtain ⟨_, rfl, _⟩ := h
      simp at hq
      subst hq
      simp [ids1]
    · cases h
  · split at h
    · simp only [Option.some.injEq, Prod.mk.injEq] at h
      obtain ⟨_, rfl, _⟩ := h
      simp at hq
    · cases h
theorem frzs1_ls {st : St} : ∀ {xs ys : List AV} {ls : List (Nat × Nat)} {p : Prop}, frzs1 st xs = some (ys, ls, p) → ∀ q ∈ ls, q.1 ∈ xs.flatMap ids1 := by
  intro xs
  induction xs with
  | nil => intro ys ls p h q hq; simp [frzs1] at h; obtain ⟨_, rfl, _⟩ := h; simp at hq
  | cons x xs ih =>
    intro ys ls p h q hq
    simp only [frzs1] at h
    split at h
    · rename_i h1 h2
      simp only [Option.some.injEq, Prod.mk.injEq] at h
      obtain ⟨_, rfl, _⟩ := h
      rcases List.mem_append.1 hq with hq | hq
      · simp only [List.flatMap_cons, List.mem_append]; exact .inl (frz1_ls h1 q hq)
      · simp only [List.flatMap_cons, List.mem_append]; exact .inr (ih h2 q hq)
    · cases h
theorem frz_ls {st : St} {x y : AV} {ls : List (Nat × Nat)} {p : Prop} (h : frz st x = some (y, ls, p)) : ∀ q ∈ ls, q.1 ∈ ids2 x := by
  unfold frz at h
  split at h
  · split at h
    · rename_i h1
      simp only [Option.some.injEq, Prod.mk.injEq] at h
      obtain ⟨_, rfl, _⟩ := h
      exact frzs1_ls h1
    · cases h
  · split at h
    · rename_i h1
      simp only [Option.some.injEq, Prod.mk.injEq] at h
      obtain ⟨_, rfl, _⟩ := h
      exact frzs1_ls h1
    · cases h
  · intro q hq
    have := frz1_ls h q hq
    cases x <;> simp_all [ids1, ids2]
theorem frzs_ls {st : St} : ∀ {xs ys : List AV} {ls : List (Nat × Nat)} {p : Prop}, frzs st xs = some (ys, ls, p) → ∀ q ∈ ls, q.1 ∈ xs.flatMap ids2 := by
  intro xs
  induction xs with
  | nil => intro ys ls p h q hq; simp [frzs] at h; obtain ⟨_, rfl, _⟩ := h; simp at hq
  | cons x xs ih =>
    intro ys ls p h q hq
    simp only [frzs] at h
    split at h
    · rename_i h1 h2
      simp only [Option.some.injEq, Prod.mk.injEq] at h
      obtain ⟨_, rfl, _⟩ := h
      rcases List.mem_append.1 hq with hq | hq
      · simp only [List.flatMap_cons, List.mem_append]; exact .inl (frz_ls h1 q hq)
      · simp only [List.flatMap_cons, List.mem_append]; exact .inr (ih h2 q hq)
    · cases h
theorem ids1_ids2 {x : AV} {i : Nat} (h : i ∈ ids1 x) : i ∈ ids2 x := by
  cases x <;> simp_all [ids2, ids1]
theorem ids2_ids {x : AV} {i : Nat} (h : i ∈ ids2 x) : i ∈ ids x := by
  cases x with
  | fn f l =>
    simp only [ids, ids2, List.mem_flatMap] at h ⊢
    obtain ⟨y, hy, hi⟩ := h
    exact ⟨y, hy, ids1_ids2 hi⟩
  | bf f y =>
    have h' : i ∈ ids1 y := h
    exact (ids1_ids2 h' : i ∈ ids2 y)
  | _ => simp_all [ids, ids2, ids1]

def bkr (nid : Nat) (h1 : Option Ob) (r : AV) : AV := match h1 with | none => r | some _ => rnm nid r
theorem back_get (s : St) (nid : Nat) (dst : Option Nat) (ls : List (Nat × Nat)) (h1 : Option Ob) (r : AV) (t : Nat) : (s.back nid dst ls h1 r).get t = if dst = some t then bkr nid h1 r else s.get t := by
  cases h1 with
  | none =>
    simp only [St.back, bkr]
    rw [get_put]
    by_cases h : dst = some t
    · rw [if_pos h, if_pos h]
    · rw [if_neg h, if_neg h]
      split
      · rfl
      · simp only [St.get, (lends_sl s ls).1]
  | some o =>
    simp only [St.back, bkr]
    rw [get_put]
    by_cases h : dst = some t
    · rw [if_pos h, if_pos h]
    · rw [if_neg h, if_neg h]
      simp only [St.get, (lends_sl s ls).1]
theorem back_hp (s st : St) (nid : Nat) (dst : Option Nat) (ls : List (Nat × Nat)) (h1 : Option Ob) (r : AV) (hl : ∀ id ∈ ls.map (·.1), look s.hp id = look st.hp id) (id : Nat) :
    look (s.back nid dst ls h1 r).hp id = if id ∈ wrc nid ls h1 r then look (st.back nid dst ls h1 r).hp id else look s.hp id := by
  cases h1 with
  | none =>
    simp only [St.back, put_hp, wrc]
    by_cases hf : flat r = true
    · simp [hf]
    · simp only [hf, Bool.false_eq_true, if_false]
      by_cases hi : id ∈ ls.map (·.1)
      · rw [if_pos hi]; exact look_lends s st ls hl id (hl id hi)
      · rw [if_neg hi]; exact look_lends_not s ls id hi
  | some o =>
    simp only [St.back, put_hp, wrc, look_ins]
    by_cases hn : nid = id
    · subst hn; simp
    · rw [if_neg hn, if_neg hn]
      by_cases hi : id ∈ ls.map (·.1)
      · rw [if_pos (List.mem_cons_of_mem _ hi)]; exact look_lends s st ls hl id (hl id hi)
      · rw [if_neg (fun hh => by rcases List.mem_cons.1 hh with e | e; exact hn e.symm; exact hi e)]; exact look_lends_not s ls id hi

theorem hand1_congr {s s' : St} {hd : List Nat} {x : AV} (h : ∀ id ∈ ids2 x, look s.hp id = look s'.hp id) : hand1 s hd x = hand1 s' hd x := by
  unfold hand1
  split
  · split
    · rfl
    · exact frz_congr h
  · split
    · rfl
    · exact frz_congr h
  · rfl
  · split
    · rfl
    · exact frz_congr h
  · exact frz_congr h
theorem hands_congr {s s' : St} {hd : List Nat} {l : List AV} (h : ∀ id ∈ l.flatMap ids2, look s.hp id = look s'.hp id) : hands s hd l = hands s' hd l := by
  induction l with
  | nil => rfl
  | cons x r ih =>
    simp only [hands]
    rw [hand1_congr (fun id hid => h id (by simp only [List.flatMap_cons, List.mem_append]; exact .inl hid)), ih (fun id hid => h id (by simp only [List.flatMap_cons, List.mem_append]; exact .inr hid))]
theorem hob_congr {hp hp' : List (Nat × Ob)} : ∀ {hd : List Nat} {k : Nat}, (∀ id ∈ hd, look hp id = look hp' id) → hob hp hd k = hob hp' hd k
  | [], k, _ => rfl
  | id :: r, k, h => by
    simp only [hob]
    rw [h id (List.mem_cons_self ..), hob_congr (fun i hi => h i (List.mem_cons_of_mem _ hi))]
theorem hdAt_ids {xs : List AV} : ∀ {ps hd : List Nat}, hdAt xs ps = some hd → ∀ id ∈ hd, id ∈ xs.flatMap ids2
  | [], hd, h, id, hid => by
    simp only [hdAt, Option.some.injEq] at h
    subst h
    cases hid
  | p :: r, hd, h, id, hid => by
    have hget : ∀ x, xs.getD p .un = x → x ≠ .un → x ∈ xs := by
      intro x hx hne
      rw [List.getD_eq_getElem?_getD] at hx
      cases hq : xs[p]? with
      | none => rw [hq] at hx; exact absurd hx.symm hne
      | some y => rw [hq] at hx; simp at hx; subst hx; exact List.mem_of_getElem? hq
    simp only [hdAt] at h
    split at h
    · rename_i i o n l hx hr
      simp only [Option.some.injEq] at h
      subst h
      rcases List.mem_cons.1 hid with e | e
      · subst e
        exact List.mem_flatMap.2 ⟨_, hget _ hx (by simp), by simp [ids2, ids1]⟩
      · exact hdAt_ids hr id e
    · rename_i i o l hx hr
      simp only [Option.some.injEq] at h
      subst h
      rcases List.mem_cons.1 hid with e | e
      · subst e
        exact List.mem_flatMap.2 ⟨_, hget _ hx (by simp), by simp [ids2, ids1]⟩
      · exact hdAt_ids hr id e
    · rename_i n c l hx hr
      simp only [Option.some.injEq] at h
      subst h
      exact hdAt_ids hr id hid
    · cases h
theorem backG_get (s : St) (nid : Nat) (dst : Option Nat) (ls : List (Nat × Nat)) (hd : List Nat) (obs : List (Option Ob)) (h1 : Option Ob) (r : AV) (t : Nat) : (s.backG nid dst ls hd obs h1 r).get t = if dst = some t then sgm hd nid r else s.get t := by
  simp only [St.backG]
  rw [get_put]
  by_cases h : dst = some t
  · rw [if_pos h, if_pos h]
  · rw [if_neg h, if_neg h]
    simp only [St.get, (lends_sl s ls).1]
theorem look_backG (s : St) (nid : Nat) (dst : Option Nat) (ls : List (Nat × Nat)) {hd : List Nat} (hn : ndH hd) {obs : List (Option Ob)} (hl : obs.length = hd.length) (h1 : Option Ob) (r : AV) (id : Nat) :
    look (s.backG nid dst ls hd obs h1 r).hp id = if nid = id ∧ h1.isSome then h1 else match posF hd 0 id with | some k => (obs[k]?).join | none => look (s.lends ls).hp id := by
  simp only [St.backG, put_hp]
  cases h1 with
  | none => simp only [insO]; rw [if_neg (by simp), look_setO _ _ _ _ hn hl]
  | some o =>
    simp only [insO]
    rw [look_ins]
    by_cases e : nid = id
    · rw [if_pos e, if_pos ⟨e, rfl⟩]
    · rw [if_neg e, if_neg (fun h => e h.1), look_setO _ _ _ _ hn hl]
theorem backG_hp (s st : St) (nid : Nat) (dst : Option Nat) (ls : List (Nat × Nat)) {hd : List Nat} (hn : ndH hd) {obs : List (Option Ob)} (hl : obs.length = hd.length) (h1 : Option Ob) (r : AV) (hq : ∀ id ∈ wrG nid hd ls, look s.hp id = look st.hp id) (id : Nat) :
    look (s.backG nid dst ls hd obs h1 r).hp id = if id ∈ wrG nid hd ls then look (st.backG nid dst ls hd obs h1 r).hp id else look s.hp id := by
  rw [look_backG s nid dst ls hn hl]
  by_cases hi : id ∈ wrG nid hd ls
  · rw [if_pos hi, look_backG st nid dst ls hn hl]
    have : look (s.lends ls).hp id = look (st.lends ls).hp id := look_lends s st ls (fun i him => hq i (List.mem_cons_of_mem _ (List.mem_append.2 (.inr him)))) id (hq id hi)
    rw [this]
  · rw [if_neg hi]
    have e1 : ¬ nid = id := fun e => hi (by rw [e]; exact List.mem_cons_self ..)
    have e2 : posF hd 0 id = none := by
      cases hp : posF hd 0 id with
      | none => rfl
      | some k => exact absurd (List.mem_cons_of_mem _ (List.mem_append.2 (.inl (List.mem_of_getElem? (posF_some hp).2)))) hi
    rw [if_neg (fun h => e1 h.1), e2]
    exact look_lends_not s ls id (fun h => hi (List.mem_cons_of_mem _ (List.mem_append.2 (.inr h))))
theorem fact_aw1 {j nid : Nat} {o : Oper} {st : St} {K : List Nat → List Nat → St → Prop} (ho : ops[j]? = some o) (h : aw1D c.P c.n nid o st K) (hwant : ∀ s, (∀ t, t ∈ o.looksAt ops → s.get t = st.get t) → ∀ L F a w, Rel c L F s a w → Region.wanted o (yielded ops a.tmps) = true) :
    ∃ q s', Fact c ops j nid o q st ∧ (∀ t, s'.get t = if q.dst = some t then q.r else st.get t) ∧ (∀ id, look s'.hp id = if id ∈ q.wr then q.val id else look st.hp id) ∧ K q.rd q.wr s' := by
  obtain ⟨hd, h⟩ := h
  have hd' : ∀ k, o.dst = some k → k < c.n := by
    intro k hk
    rw [hk] at hd
    exact hd
  have wpo : ∀ {s : St} {L F a w} {Kc : Act → World → Prop} {Q : Exit → Act → World → Prop}, (∀ t, t ∈ o.looksAt ops → s.get t = st.get t) → Rel c L F s a w → o.wp c.P a w Kc Q → wpOp c.P ops Q j Kc a w := by
    intro s L F a w Kc Q hg hR hw
    simp only [wpOp, ho]
    rw [if_pos (hwant s hg L F a w hR)]
    exact .inl hw
  split at h
  · rename_i fo args argTypes hop
    split at h
    · rename_i f caps hfo
      obtain ⟨hcl, h⟩ := h
      have hsub : ∀ i, i ∈ (args.toList.map st.ev ++ caps).flatMap ids2 → i ∈ opids st o.op := by
        intro i hi
        simp only [List.mem_flatMap, List.mem_append, List.mem_map] at hi
        obtain ⟨y, hy, hi⟩ := hi
        simp only [opids, hop, List.mem_flatMap]
        rcases hy with ⟨x, hx, rfl⟩ | hy
        · exact ⟨x, by simp [Op.operands, Call.operands]; exact .inr (by simpa using hx), ids2_ids hi⟩
        · exact ⟨fo, by simp [Op.operands, Call.operands], by rw [hfo]; simp only [ids, List.mem_flatMap]; exact ⟨y, hy, hi⟩⟩
      rcases h with h | ⟨ps, h⟩
      rotate_left
      · unfold calG at h
        split at h
        · rename_i hd hhd
          split at h
          · rename_i hp0 p0 as ls pr hhob hfr
            obtain ⟨hnd, hp0', hob, hls, obs, h1, r, hlen, hcon, hok, hKs⟩ := h
            refine ⟨⟨o.dst, sgm hd nid r, opids st o.op, wrG nid hd ls, fun id => look (st.backG nid o.dst ls hd obs h1 r).hp id⟩, st.backG nid o.dst ls hd obs h1 r, ⟨rfl, fun s F hg hl hF => ?_⟩, fun t => backG_get _ _ _ _ _ _ _ _ _, fun id => ?_, hKs⟩
            · have hlk := like_of (ops := ops) (o := o) hg (fun id hid => hl id (.inl hid))
              have hfo' : s.ev fo = .fn f caps := by rw [hlk.1 fo (by rw [hop]; simp [Op.operands, Call.operands]), hfo]
              have hargs : args.toList.map s.ev = args.toList.map st.ev := List.map_congr_left (fun x hx => hlk.1 x (by rw [hop]; simp [Op.operands, Call.operands]; exact .inr (by simpa using hx)))
              have hfr' : hands s hd (args.toList.map s.ev ++ caps) = some (as, ls, pr) := by
                rw [hargs, ← hfr]
                exact hands_congr (fun i hi => hl i (.inl (hsub i hi)))
              have hhob' : Sim.hob s.hp hd 0 = some (hp0, p0) := by
                rw [← hhob]
                exact hob_congr (fun i hi => hl i (.inl (hsub i (hdAt_ids hhd i hi))))
              refine ⟨s.backG nid o.dst ls hd obs h1 r, fun t => backG_get _ _ _ _ _ _ _ _ _, fun id => ?_, fun L a w Kc Q hR hK => wpo hg hR (does_callG hF (entersF hop hfo' hcl) hnd hhob' hp0' hfr' hob hls hlen hcon hd' hok L a w Kc Q hR hK)⟩
              exact backG_hp s st nid o.dst ls hnd hlen h1 r (fun i hi => hl i (.inr hi)) id
            · exact backG_hp st st nid o.dst ls hnd hlen h1 r (fun _ _ => rfl) id
          · exact h.elim
        · exact h.elim
      split at h
      · rename_i as ls ob hfr
        obtain ⟨hob, h1, r, hcon, hho, hKs⟩ := h
        refine ⟨⟨o.dst, bkr nid h1 r, opids st o.op, wrc nid ls h1 r, fun id => look (st.back nid o.dst ls h1 r).hp id⟩, st.back nid o.dst ls h1 r, ⟨rfl, fun s F hg hl hF => ?_⟩, fun t => back_get _ _ _ _ _ _ _, fun id => ?_, hKs⟩
        · have hlk := like_of (ops := ops) (o := o) hg (fun id hid => hl id (.inl hid))
          have hfo' : s.ev fo = .fn f caps := by rw [hlk.1 fo (by rw [hop]; simp [Op.operands, Call.operands]), hfo]
          have hargs : args.toList.map s.ev = args.toList.map st.ev := List.map_congr_left (fun x hx => hlk.1 x (by rw [hop]; simp [Op.operands, Call.operands]; exact .inr (by simpa using hx)))
          have hfr' : frzs s (args.toList.map s.ev ++ caps) = some (as, ls, ob) := by
            rw [hargs, ← hfr]
            exact frzs_congr (fun i hi => hl i (.inl (hsub i hi)))
          refine ⟨s.back nid o.dst ls h1 r, fun t => back_get _ _ _ _ _ _ _, fun id => ?_, fun L a w Kc Q hR hK => wpo hg hR (does_call hF hop hfo' hcl hfr' hob hcon hd' (fun p hp => by subst hp; exact hho) L a w Kc Q hR hK)⟩
          exact back_hp s st nid o.dst ls h1 r (fun i hi => by
            obtain ⟨q, hq, rfl⟩ := List.mem_map.1 hi
            exact hl _ (.inl (hsub _ (frzs_ls hfr q hq)))) id
        · have := back_hp st st nid o.dst ls h1 r (fun _ _ => rfl) id
          exact this
      · exact h.elim
    · rename_i f x hfo
      obtain ⟨hcl, ps, h⟩ := h
      have hsub : ∀ i, i ∈ (x :: args.toList.map st.ev).flatMap ids2 → i ∈ opids st o.op := by
        intro i hi
        simp only [List.mem_flatMap, List.mem_cons, List.mem_map] at hi
        obtain ⟨y, hy, hi⟩ := hi
        simp only [opids, hop, List.mem_flatMap]
        rcases hy with rfl | ⟨z, hz, rfl⟩
        · exact ⟨fo, by simp [Op.operands, Call.operands], by rw [hfo]; exact hi⟩
        · exact ⟨z, by simp [Op.operands, Call.operands]; exact .inr (by simpa using hz), ids2_ids hi⟩
      unfold calG at h
      split at h
      · rename_i hd hhd
        split at h
        · rename_i hp0 p0 as ls pr hhob hfr
          obtain ⟨hnd, hp0', hob, hls, obs, h1, r, hlen, hcon, hok, hKs⟩ := h
          refine ⟨⟨o.dst, sgm hd nid r, opids st o.op, wrG nid hd ls, fun id => look (st.backG nid o.dst ls hd obs h1 r).hp id⟩, st.backG nid o.dst ls hd obs h1 r, ⟨rfl, fun s F hg hl hF => ?_⟩, fun t => backG_get _ _ _ _ _ _ _ _ _, fun id => ?_, hKs⟩
          · have hlk := like_of (ops := ops) (o := o) hg (fun id hid => hl id (.inl hid))
            have hfo' : s.ev fo = .bf f x := by rw [hlk.1 fo (by rw [hop]; simp [Op.operands, Call.operands]), hfo]
            have hargs : args.toList.map s.ev = args.toList.map st.ev := List.map_congr_left (fun x hx => hlk.1 x (by rw [hop]; simp [Op.operands, Call.operands]; exact .inr (by simpa using hx)))
            have hfr' : hands s hd (x :: args.toList.map s.ev) = some (as, ls, pr) := by
              rw [hargs, ← hfr]
              exact hands_congr (fun i hi => hl i (.inl (hsub i hi)))
            have hhob' : Sim.hob s.hp hd 0 = some (hp0, p0) := by
              rw [← hhob]
              exact hob_congr (fun i hi => hl i (.inl (hsub i (hdAt_ids hhd i hi))))
            refine ⟨s.backG nid o.dst ls hd obs h1 r, fun t => backG_get _ _ _ _ _ _ _ _ _, fun id => ?_, fun L a w Kc Q hR hK => wpo hg hR (does_callG hF (entersB hop hfo' hcl) hnd hhob' hp0' hfr' hob hls hlen hcon hd' hok L a w Kc Q hR hK)⟩
            exact backG_hp s st nid o.dst ls hnd hlen h1 r (fun i hi => hl i (.inr hi)) id
          · exact backG_hp st st nid o.dst ls hnd hlen h1 r (fun _ _ => rfl) id
        · exact h.elim
      · exact h.elim
    · exact h.elim
  · split at h
    · rename_i r up ob he
      obtain ⟨hob, hKs⟩ := h
      refine ⟨⟨o.dst, r, opids st o.op, up.map (·.1), fun id => look (st.up up).hp id⟩, (st.up up).put o.dst r, ⟨rfl, fun s F hg hl hF => ?_⟩, fun t => ?_, fun id => ?_, hKs⟩
      · have hlk := like_of (ops := ops) (o := o) hg (fun id hid => hl id (.inl hid))
        have he' : eff c.P nid s o.op = some (r, up, ob) := by rw [eff_congr hlk]; exact he
        refine ⟨(s.up up).put o.dst r, fun t => ?_, fun id => ?_, fun L a w Kc Q hR hK => wpo hg hR (does_eff hF hd' he' hob L a w Kc Q hR hK)⟩
        · rw [get_put]
          split
          · rfl
          · simp only [St.get, (up_sl s up).1]
        · rw [put_hp]
          by_cases hi : id ∈ up.map (·.1)
          · simp only [hi, if_true]; exact look_up s st up id (.inl hi)
          · simp only [hi, if_false]; exact look_up_not s up id hi
      · rw [get_put]
        split
        · rfl
        · simp only [St.get, (up_sl st up).1]
      · rw [put_hp]
        by_cases hi : id ∈ up.map (·.1)
        · simp only [hi, if_true]
        · simp only [hi, if_false]; exact look_up_not st up id hi
    · exact h.elim
theorem fact_of {j nid : Nat} {o : Oper} {st : St} {K : List Nat → List Nat → St → Prop} (ho : ops[j]? = some o) (h : agdD c.P c.n nid ops o st K) :
    ∃ q s', Fact c ops j nid o q st ∧ (∀ t, s'.get t = if q.dst = some t then q.r else st.get t) ∧ (∀ id, look s'.hp id = if id ∈ q.wr then q.val id else look st.hp id) ∧ K q.rd q.wr s' := by
  unfold agdD at h
  split at h
  · rename_i hg
    exact fact_aw1 ho h (fun s _ L F a w _ => by simp [Region.wanted, hg])
  · rename_i g want hg
    split at h
    · rename_i d hd
      split at h
      · rename_i b hst
        have hda : d ∈ o.looksAt ops := by
          simp only [Oper.looksAt, hg, hd, List.mem_append]
          exact .inr (by simp)
        have hy : ∀ (s : St), (∀ t, t ∈ o.looksAt ops → s.get t = st.get t) → ∀ L F a w, Rel c L F s a w → yielded ops a.tmps g = some b := by
          intro s hgs L F a w hR
          have hv := hR.slot d
          rw [hgs d hda, hst] at hv
          have hb := hv.sc_eq
          have hlt : d < a.tmps.size := by
            by_cases hh : d < a.tmps.size
            · exact hh
            · simp [Array.getD, hh, undef] at hb
          have hget : a.tmps[d]? = some (.bool b) := by
            simp [Array.getD, hlt] at hb
            simp [hlt, hb]
          unfold yielded
          rw [hd]
          simp [hget]
        by_cases hbw : b = want
        · exact fact_aw1 ho (by rwa [if_pos hbw] at h) (fun s hgs L F a w hR => by simp [Region.wanted, hg, hy s hgs L F a w hR, hbw])
        · rw [if_neg hbw] at h
          obtain ⟨hds, hKs⟩ := h
          have hd' : ∀ k, o.dst = some k → k < c.n := by
            intro k hk
            rw [hk] at hds
            exact hds
          refine ⟨⟨o.dst, .sc undef, [], [], fun _ => none⟩, st.put o.dst (.sc undef), ⟨rfl, fun s F hgs hl hF => ⟨s.put o.dst (.sc undef), fun t => get_put _ _ _ _, fun id => by simp [put_hp], fun L a w Kc Q hR hK => ?_⟩⟩, fun t => get_put _ _ _ _, fun id => by simp [put_hp], hKs⟩
          simp only [wpOp, ho]
          rw [if_neg (by simp [Region.wanted, hg, hy s hgs L F a w hR, hbw])]
          exact hK L _ _ ((hR.put hd' (.sc _ _)).mono (fun j hj => hj.1))
      · rename_i v hnb hst
        obtain ⟨rfl, hds, hKs⟩ := h
        have hda : d ∈ o.looksAt ops := by
          simp only [Oper.looksAt, hg, hd, List.mem_append]
          exact .inr (by simp)
        have hy : ∀ (s : St), (∀ t, t ∈ o.looksAt ops → s.get t = st.get t) → ∀ L F a w, Rel c L F s a w → yielded ops a.tmps g = none := by
          intro s hgs L F a w hR
          have hv := hR.slot d
          rw [hgs d hda, hst] at hv
          exact yielded_undef hd hv.sc_eq
        have hd' : ∀ k, o.dst = some k → k < c.n := by
          intro k hk
          rw [hk] at hds
          exact hds
        refine ⟨⟨o.dst, .sc undef, [], [], fun _ => none⟩, st.put o.dst (.sc undef), ⟨rfl, fun s F hgs hl hF => ⟨s.put o.dst (.sc undef), fun t => get_put _ _ _ _, fun id => by simp [put_hp], fun L a w Kc Q hR hK => ?_⟩⟩, fun t => get_put _ _ _ _, fun id => by simp [put_hp], hKs⟩
        simp only [wpOp, ho]
        rw [if_neg (by simp [Region.wanted, hg, hy s hgs L F a w hR])]
        exact hK L _ _ ((hR.put hd' (.sc _ _)).mono (fun j hj => hj.1))
      · exact h.elim
    · exact h.elim
theorem nocf_mem {i : Nat} {rd wr : List Nat} {dn : List (Nat × List Nat × List Nat)} (h : nocf ops i rd wr dn) : ∀ q ∈ dn, cfl q.2.1 q.2.2 rd wr = false ∨ ancB ops q.1 i = true := by
  induction dn with
  | nil => intro q hq; simp at hq
  | cons d dn ih =>
    intro q hq
    rcases List.mem_cons.1 hq with rfl | hq
    · exact h.1
    · exact ih h.2 q hq
theorem trace {K : St → Prop} : ∀ (l : List Oper) (i nid : Nat) (dn : List (Nat × List Nat × List Nat)) (st : St), aopsD c.P c.n ops l i nid dn st K → (∀ k : Nat, l[k]? = ops[i + k]?) →
    ∃ (qs : List Rec) (ss : Nat → St), qs.length = l.length ∧ ss 0 = st ∧ K (ss l.length) ∧
      (∀ (k : Nat) (q : Rec), qs[k]? = some q → ∃ o, l[k]? = some o ∧ Fact c ops (i + k) (nid + k) o q (ss k) ∧ (∀ t, (ss (k + 1)).get t = if q.dst = some t then q.r else (ss k).get t) ∧ (∀ id, look (ss (k + 1)).hp id = if id ∈ q.wr then q.val id else look (ss k).hp id)) ∧
      (∀ (k1 k2 : Nat) (q1 q2 : Rec), k1 < k2 → qs[k1]? = some q1 → qs[k2]? = some q2 → cfl q1.rd q1.wr q2.rd q2.wr = false ∨ ancB ops (i + k1) (i + k2) = true) ∧
      (∀ d ∈ dn, ∀ (k : Nat) (q : Rec), qs[k]? = some q → cfl d.2.1 d.2.2 q.rd q.wr = false ∨ ancB ops d.1 (i + k) = true) := by
  intro l
  induction l with
  | nil => exact fun i nid dn st h _ => ⟨[], fun _ => st, rfl, rfl, h, fun k q hq => by simp at hq, fun k1 k2 q1 q2 _ hq => by simp at hq, fun d _ k q hq => by simp at hq⟩
  | cons o l ih =>
    intro i nid dn st h hl
    have ho : ops[i]? = some o := by have := hl 0; simpa using this.symm
    obtain ⟨q, s', hf, hg, hh, hK⟩ := fact_of (c := c) (j := i) ho h
    obtain ⟨hnc, hK⟩ := hK
    obtain ⟨qs, ss, e1, e2, e3, e4, e5, e6⟩ := ih (i + 1) (nid + 1) _ s' hK (fun k => by have := hl (k + 1); simpa [Nat.add_assoc, Nat.add_comm 1 k] using this)
    refine ⟨q :: qs, fun k => match k with | 0 => st | k + 1 => ss k, by simp [e1], rfl, e3, fun k p hp => ?_, fun k1 k2 q1 q2 hlt h1 h2 => ?_, fun d hd k p hp => ?_⟩
    · cases k with
      | zero =>
        simp at hp
        subst hp
        exact ⟨o, rfl, hf, fun t => by show (ss 0).get t = _; rw [e2]; exact hg t, fun id => by show look (ss 0).hp id = _; rw [e2]; exact hh id⟩
      | succ k =>
        obtain ⟨o', g1, g2, g3, g4⟩ := e4 k p (by simpa using hp)
        refine ⟨o', by simpa using g1, ?_, g3, g4⟩
        rw [show i + (k + 1) = i + 1 + k by omega, show nid + (k + 1) = nid + 1 + k by omega]
        exact g2
    · cases k1 with
      | zero =>
        simp at h1
        subst h1
        cases k2 with
        | zero => omega
        | succ k2 =>
          have := e6 (i, q.rd, q.wr) (by simp) k2 q2 (by simpa using h2)
          rw [show i + (k2 + 1) = i + 1 + k2 by omega]
          exact this
      | succ k1 =>
        cases k2 with
        | zero => omega
        | succ k2 =>
          rw [show i + (k1 + 1) = i + 1 + k1 by omega, show i + (k2 + 1) = i + 1 + k2 by omega]
          exact e5 k1 k2 q1 q2 (by omega) (by simpa using h1) (by simpa using h2)
    · cases k with
      | zero =>
        simp at hp
        subst hp
        exact nocf_mem hnc d hd
      | succ k =>
        rw [show i + (k + 1) = i + 1 + k by omega]
        exact e6 d (by simp [hd]) k p (by simpa using hp)

theorem Rel.like {L : Lay} {F : Nat → Prop} {s s' : St} {a : Act} {w : World} (h : Rel c L F s a w) (hg : ∀ t, s'.get t = s.get t) (hl : ∀ id, look s'.hp id = look s.hp id) : Rel c L F s' a w := by
  have hs : sta c L s'.hp = sta c L s.hp := by funext b k; simp only [sta, own, hl]
  refine ⟨⟨fun j p hj => ?_, fun j Bj hj => ?_, h.hr.inj, h.hr.mine, h.hr.kept, h.hr.upd⟩, h.fresh, h.defs, h.size, fun t => by rw [hs, hg]; exact h.slot t, h.ext⟩
  · rw [hl] at hj
    rw [hs]; exact h.hr.live j p hj
  · rw [hl]; exact h.hr.dead j Bj hj
theorem cfl_spec {r1 w1 r2 w2 : List Nat} (h : cfl r1 w1 r2 w2 = false) : (∀ x, x ∈ w1 → x ∉ r2 ∧ x ∉ w2) ∧ ∀ x, x ∈ r1 → x ∉ w2 := by
  simp only [cfl, Bool.or_eq_false_iff, List.any_eq_false, List.contains_iff_mem, Bool.or_eq_true, not_or] at h
  exact ⟨fun x hx => h.1 x hx, fun x hx => h.2 x hx⟩
theorem statOK_spec (h : statOK ops = true) {j : Nat} {o : Oper} (ho : ops[j]? = some o) : (∀ e ∈ o.after, Region.binds .any e = true → e.on < j) ∧ ∀ k x, k < j → ops[k]? = some x → ancB ops k j = true ∨ x.apart ops o = true := by
  have hj : j < ops.size := by
    by_cases hh : j < ops.size
    · exact hh
    · rw [Array.getElem?_eq_none (by omega)] at ho; cases ho
  have h1 := List.all_eq_true.1 h j (List.mem_range.2 hj)
  simp only [ho, Bool.and_eq_true] at h1
  refine ⟨fun e he hb => ?_, fun k x hk hx => ?_⟩
  · have := Array.all_eq_true'.1 h1.1 e he
    simpa [hb] using this
  · have := List.all_eq_true.1 h1.2 k (List.mem_range.2 hk)
    simp only [hx, Bool.or_eq_true] at this
    exact this
def Down (ops : Array Oper) (D : Nat → Bool) : Prop := ∀ j o, ops[j]? = some o → D j = true → ∀ e ∈ o.after, Region.binds .any e = true → D e.on = true
theorem anc_in {D : Nat → Bool} (hD : Down ops D) (k : Nat) : ∀ (f j : Nat), ancF ops k f j = true → D j = true → D k = true := by
  intro f
  induction f with
  | zero => intro j h; cases h
  | succ f ih =>
    intro j h hj
    simp only [ancF] at h
    split at h
    · rename_i o ho
      obtain ⟨e, he, h⟩ := Array.any_eq_true'.1 h
      simp only [Bool.and_eq_true, Bool.or_eq_true, beq_iff_eq] at h
      have hon := hD j o ho hj e he h.1
      rcases h.2 with h2 | h2
      · rw [← h2]; exact hon
      · exact ih e.on h2 hon
    · cases h
theorem anc_ready {D : Nat → Bool} (hD : Down ops D) {k j : Nat} {o : Oper} (ho : ops[j]? = some o) (hr : ∀ e ∈ o.after, Region.binds .any e = true → D e.on = true) (h : ancB ops k j = true) : D k = true := by
  unfold ancB at h
  cases hs : ops.size with
  | zero => rw [hs] at h; cases h
  | succ f =>
    rw [hs] at h
    simp only [ancF, ho] at h
    obtain ⟨e, he, h⟩ := Array.any_eq_true'.1 h
    simp only [Bool.and_eq_true, Bool.or_eq_true, beq_iff_eq] at h
    have hon := hr e he h.1
    rcases h.2 with h2 | h2
    · rw [← h2]; exact hon
    · exact anc_in hD k f e.on h2 hon

theorem awD_any {L : Lay} {st : St} {a : Act} {w : World} {K : St → Prop} {Qc : Exit → Act → World → Prop} (hm : c.P.follows .mixedOrders = true) (hs : statOK ops = true) (h : aopsD c.P c.n ops ops.toList 0 st.nx [] st K)
    (hr : Rel c L (fun j => st.nx ≤ j) st a w) (hQ : ∀ s L' a' w', K s → Rel c L' (fun j => st.nx + ops.size ≤ j) s a' w' → Qc .normal a' w') : wpAny c.P .any ops Qc ops.size (Array.replicate ops.size false) a { w with drawn := w.drawn + 1 } := by
  obtain ⟨qs, ss, e1, e2, e3, e4, e5, _⟩ := trace (c := c) (ops := ops) ops.toList 0 st.nx [] st h (fun k => by simp)
  have hlen : qs.length = ops.size := by simpa using e1
  -- the text's own states, told by what has been done
  have sg : ∀ j, j ≤ ops.size → ∀ t, (ss j).get t = gt (fun k => decide (k < j)) t qs 0 (st.get t) := by
    intro j
    induction j with
    | zero =>
      intro _ t
      rw [e2]
      have key : ∀ (qs : List Rec) (i : Nat) (cur : AV), gt (fun k => decide (k < 0)) t qs i cur = cur := by
        intro qs
        induction qs with
        | nil => intro i cur; rfl
        | cons q qs ih => intro i cur; simp only [gt]; rw [ih]; simp
      exact (key _ _ _).symm
    | succ j ih =>
      intro hj t
      obtain ⟨q, hq⟩ : ∃ q, qs[j]? = some q := ⟨qs[j]'(by omega), List.getElem?_eq_getElem _⟩
      obtain ⟨o, _, _, g, _⟩ := e4 j q hq
      rw [g t, ih (by omega) t]
      by_cases hd : q.dst = some t
      · rw [if_pos hd]
        exact (gt_last qs 0 _ j q hq (by simp) hd (fun k q' _ hlt hk => by simp at hk; omega)).symm
      · rw [if_neg hd]
        refine gt_agree qs 0 _ (fun k q' hk hne => ?_)
        have : k = j := by
          by_cases hkj : k = j
          · exact hkj
          · exfalso; apply hne; simp; omega
        subst this
        rw [hq] at hk
        injection hk with hk
        subst hk
        exact hd
  have sh : ∀ j, j ≤ ops.size → ∀ i, look (ss j).hp i = gh (fun k => decide (k < j)) i qs 0 (look st.hp i) := by
    intro j
    induction j with
    | zero =>
      intro _ i
      rw [e2]
      have key : ∀ (qs : List Rec) (k : Nat) (cur : Option Ob), gh (fun k => decide (k < 0)) i qs k cur = cur := by
        intro qs
        induction qs with
        | nil => intro k cur; rfl
        | cons q qs ih => intro k cur; simp only [gh]; rw [ih]; simp
      exact (key _ _ _).symm
    | succ j ih =>
      intro hj i
      obtain ⟨q, hq⟩ : ∃ q, qs[j]? = some q := ⟨qs[j]'(by omega), List.getElem?_eq_getElem _⟩
      obtain ⟨o, _, _, _, g⟩ := e4 j q hq
      rw [g i, ih (by omega) i]
      by_cases hd : i ∈ q.wr
      · rw [if_pos hd]
        exact (gh_last qs 0 _ j q hq (by simp) hd (fun k q' _ hlt hk => by simp at hk; omega)).symm
      · rw [if_neg hd]
        refine gh_agree qs 0 _ (fun k q' hk hne => ?_)
        have : k = j := by
          by_cases hkj : k = j
          · exact hkj
          · exfalso; apply hne; simp; omega
        subst this
        rw [hq] at hk
        injection hk with hk
        subst hk
        exact hd
  -- two of which neither must come ahead
  have pair : ∀ (D : Nat → Bool), Down ops D → ∀ (j : Nat) (o : Oper) (q : Rec), ops[j]? = some o → qs[j]? = some q → D j = false → (∀ e ∈ o.after, Region.binds .any e = true → D e.on = true) →
      ∀ (k : Nat) (q' : Rec), qs[k]? = some q' → D k ≠ decide (k < j) → k ≠ j →
      (∀ t, q'.dst = some t → t ∉ o.looksAt ops ∧ q.dst ≠ some t) ∧ (∀ i, i ∈ q'.wr → i ∉ q.rd ∧ i ∉ q.wr) := by
    intro D hD j o q ho hq hDj hrdy k q' hk hne hkj
    obtain ⟨o', ho', hfk, _⟩ := e4 k q' hk
    have ho'2 : ops[k]? = some o' := by simpa using ho'
    obtain ⟨o2, ho2, hfj, _⟩ := e4 j q hq
    have : o2 = o := by
      have h1 : ops[j]? = some o2 := by simpa using ho2
      rw [ho] at h1; injection h1 with h1; exact h1.symm
    subst this
    by_cases hlt : k < j
    · have hDk : D k = false := by
        cases hh : D k
        · rfl
        · exfalso; apply hne; simp [hh, hlt]
      have hna : ancB ops k j = false := by
        cases hh : ancB ops k j
        · rfl
        · have := anc_ready hD ho hrdy hh; rw [hDk] at this; cases this
      have hap := ((statOK_spec hs ho).2 k o' hlt ho'2).resolve_left (by rw [hna]; simp)
      obtain ⟨p1, p2, p3⟩ := Oper.apart_spec hap
      have hcf := (e5 k j q' q hlt hk hq).resolve_right (by rw [Nat.zero_add, Nat.zero_add, hna]; simp)
      obtain ⟨c1, c2⟩ := cfl_spec hcf
      refine ⟨fun t ht => ?_, fun i hi => c1 i hi⟩
      rw [hfk.1] at ht
      exact ⟨p1 t ht, by rw [hfj.1]; exact p2 t ht⟩
    · have hgt : j < k := by omega
      have hDk : D k = true := by
        cases hh : D k
        · exfalso; apply hne; simp [hh, hlt]
        · rfl
      have hna : ancB ops j k = false := by
        cases hh : ancB ops j k
        · rfl
        · have := anc_in hD j ops.size k hh hDk; rw [hDj] at this; cases this
      have hap := ((statOK_spec hs ho'2).2 j o2 hgt ho).resolve_left (by rw [hna]; simp)
      obtain ⟨p1, p2, p3⟩ := Oper.apart_spec hap
      have hcf := (e5 j k q q' hgt hq hk).resolve_right (by rw [Nat.zero_add, Nat.zero_add, hna]; simp)
      obtain ⟨c1, c2⟩ := cfl_spec hcf
      refine ⟨fun t ht => ?_, fun i hi => ⟨fun hr => c2 i hr hi, fun hw => (c1 i hw).2 hi⟩⟩
      rw [hfk.1] at ht
      refine ⟨p3 t ht, fun hd => ?_⟩
      rw [hfj.1] at hd
      exact p2 t hd ht
  -- all orders: by what has been done
  have main : ∀ (fuel : Nat) (listed : Array Bool) (s : St) (L : Lay) (a : Act) (w : World), listed.size = ops.size → (listed.toList.count false = fuel) → Down ops (fun k => listed.getD k false) →
      Rel c L (fun j => st.nx + ops.size ≤ j ∨ ∃ i, i < ops.size ∧ listed.getD i false = false ∧ j = st.nx + i) s a w → (∀ t, s.get t = gt (fun k => listed.getD k false) t qs 0 (st.get t)) → (∀ i, look s.hp i = gh (fun k => listed.getD k false) i qs 0 (look st.hp i)) →
      wpAny c.P .any ops Qc fuel listed a w := by
    intro fuel
    induction fuel with
    | zero =>
      intro listed s L a w hsz hcnt hD hR hg hh
      have hall : ∀ i, i < ops.size → listed.getD i false = true := by
        intro i hi
        have hnot : false ∉ listed.toList := List.count_eq_zero.1 hcnt
        cases hb : listed.getD i false with
        | true => rfl
        | false =>
          exfalso
          apply hnot
          have : listed[i]'(by omega) = false := by simpa [Array.getD, hsz, hi] using hb
          rw [← this]
          exact Array.mem_toList_iff.2 (Array.getElem_mem _)
      refine ⟨?_, hQ (ss ops.size) L a w (by simpa using e3) ((hR.like (fun t => ?_) (fun i => ?_)).mono (fun j hj => .inl hj))⟩
      · simp only [Region.ready, List.filter_eq_nil_iff, List.mem_range]
        intro i hi
        have := hall i hi
        have h2 : listed.getD i true = true := by simpa [Array.getD, hsz, hi] using this
        simp [h2]
      · rw [sg ops.size (Nat.le_refl _) t, hg t]
        exact gt_agree qs 0 _ (fun k q hk hne => by
          have hkl : k < ops.size := by rw [← hlen]; exact (List.getElem?_eq_some_iff.1 hk).1
          exfalso; apply hne
          simp only [Nat.zero_add, hall k hkl]
          simp [hkl])
      · rw [sh ops.size (Nat.le_refl _) i, hh i]
        exact gh_agree qs 0 _ (fun k q hk hne => by
          have hkl : k < ops.size := by rw [← hlen]; exact (List.getElem?_eq_some_iff.1 hk).1
          exfalso; apply hne
          simp only [Nat.zero_add, hall k hkl]
          simp [hkl])
    | succ fuel ih =>
      intro listed s L a w hsz hcnt hD hR hg hh
      refine ⟨fun hnil => ?_, fun j hj => ?_⟩
      · -- not all are done: the first of them is ready
        exfalso
        have hall : ∀ i, i < ops.size → listed.getD i false = true := by
          intro i
          induction i using Nat.strongRecOn with
          | _ i ihi =>
            intro hi
            cases hb : listed.getD i false with
            | true => rfl
            | false =>
              exfalso
              have hrd : i ∈ Region.ready .any ops listed := by
                simp only [Region.ready, List.mem_filter, List.mem_range]
                refine ⟨hi, ?_⟩
                have h2 : listed.getD i true = false := by simpa [Array.getD, hsz, hi] using hb
                obtain ⟨o, ho⟩ : ∃ o, ops[i]? = some o := ⟨ops[i], Array.getElem?_eq_getElem hi⟩
                simp only [h2, ho, Option.map_some, Option.getD_some, Bool.not_false, Bool.true_and]
                refine Array.all_eq_true'.2 (fun e he => ?_)
                cases hbd : Region.binds .any e with
                | false => rfl
                | true =>
                  have hlt := (statOK_spec hs ho).1 e he hbd
                  have := ihi e.on hlt (by omega)
                  simp [this]
              rw [hnil] at hrd
              cases hrd
        have : listed.toList.count false = 0 := by
          refine List.count_eq_zero.2 (fun hmem => ?_)
          obtain ⟨i, hi, hie⟩ := List.mem_iff_getElem.1 hmem
          have hi' : i < listed.size := by simpa using hi
          have := hall i (by omega)
          simp [Array.getD, hi'] at this
          simp [this] at hie
        omega
      · simp only [Region.ready, List.mem_filter, List.mem_range, Bool.and_eq_true] at hj
        obtain ⟨hjn, hjl, hjr⟩ := hj
        have hjl' : listed.getD j false = false := by
          have : listed.getD j true = false := by simpa using hjl
          simpa [Array.getD, hsz, hjn] using this
        obtain ⟨q, hq⟩ : ∃ q, qs[j]? = some q := ⟨qs[j]'(by omega), List.getElem?_eq_getElem _⟩
        obtain ⟨o, ho0, hf, _⟩ := e4 j q hq
        have ho : ops[j]? = some o := by simpa using ho0
        have hrdy : ∀ e ∈ o.after, Region.binds .any e = true → listed.getD e.on false = true := by
          intro e he hb
          simp only [ho, Option.map_some, Option.getD_some] at hjr
          have := Array.all_eq_true'.1 hjr e he
          simpa [hb] using this
        have hpair := pair _ hD j o q ho hq hjl' hrdy
        obtain ⟨hfd, hf⟩ := hf
        have hcellD : ∀ t, t ∈ o.looksAt ops → s.get t = (ss j).get t := by
          intro t ht
          rw [hg t, sg j (by omega) t]
          refine gt_agree qs 0 _ (fun k q' hk hne => ?_)
          simp only [Nat.zero_add] at hne
          by_cases hkj : k = j
          · subst hkj
            exfalso; apply hne
            simp only [hjl']
            simp
          · exact fun hd => ((hpair k q' hk hne hkj).1 t hd).1 ht
        have hlookD : ∀ i, i ∈ q.rd ∨ i ∈ q.wr → look s.hp i = look (ss j).hp i := by
          intro i hi
          rw [hh i, sh j (by omega) i]
          refine gh_agree qs 0 _ (fun k q' hk hne => ?_)
          simp only [Nat.zero_add] at hne
          by_cases hkj : k = j
          · subst hkj
            exfalso; apply hne
            simp only [hjl']
            simp
          · intro hw
            have := (hpair k q' hk hne hkj).2 i hw
            rcases hi with hi | hi
            · exact this.1 hi
            · exact this.2 hi
        obtain ⟨s', k1, k2, k3⟩ := hf s (fun i => st.nx + ops.size ≤ i ∨ ∃ i', i' < ops.size ∧ listed.getD i' false = false ∧ i = st.nx + i') hcellD hlookD (.inr ⟨j, hjn, hjl', by omega⟩)
        rw [Nat.zero_add] at k3
        refine k3 L a w _ Qc hR (fun L' a' w' hR' => ?_)
        have hset : ∀ k, (listed.setIfInBounds j true).getD k false = if k = j then true else listed.getD k false := by
          intro k
          by_cases hkj : k = j
          · subst hkj
            simp [Array.getD, hsz, hjn]
          · rw [if_neg hkj]
            by_cases hkl : k < listed.size
            · simp [Array.getD, hkl, Array.getElem_setIfInBounds, Ne.symm hkj]
            · simp [Array.getD, hkl]
        refine ih (listed.setIfInBounds j true) s' L' a' w' (by simp [hsz]) ?_ ?_ (hR'.mono (fun i hi => ?_)) (fun t => ?_) (fun i => ?_)
        · have hjs : j < listed.toList.length := by simp [hsz, hjn]
          have hlj : listed.toList[j] = false := by simpa [Array.getD, hsz, hjn] using hjl'
          rw [Array.toList_setIfInBounds, List.count_set hjs, hlj]
          simp
          simp at hcnt
          omega
        · intro k ok hok hk e he hb
          simp only [hset] at hk ⊢
          split
          · rfl
          · by_cases hkj : k = j
            · subst hkj
              rw [ho] at hok
              injection hok with hok
              subst hok
              exact hrdy e he hb
            · rw [if_neg hkj] at hk
              exact hD k ok hok hk e he hb
        · rcases hi with hi | ⟨i', hi1, hi2, rfl⟩
          · exact ⟨.inl hi, by omega⟩
          · rw [hset] at hi2
            split at hi2
            · cases hi2
            · rename_i hne
              exact ⟨.inr ⟨i', hi1, hi2, rfl⟩, by omega⟩
        · rw [k1 t]
          by_cases hd : q.dst = some t
          · rw [if_pos hd]
            refine (gt_last qs 0 _ j q hq (by simp only [Nat.zero_add, hset]; simp) hd (fun k q' hk hlt hDk => ?_)).symm
            have hkj : k ≠ j := by omega
            simp only [Nat.zero_add, hset, if_neg hkj] at hDk
            intro hd'
            exact ((hpair k q' hk (by rw [hDk]; simp; omega) hkj).1 t hd').2 hd
          · rw [if_neg hd, hg t]
            refine gt_agree qs 0 _ (fun k q' hk hne => ?_)
            simp only [Nat.zero_add, hset] at hne
            by_cases hkj : k = j
            · subst hkj
              rw [hq] at hk
              injection hk with hk
              subst hk
              exact hd
            · rw [if_neg hkj] at hne
              exact absurd rfl hne
        · rw [k2 i]
          by_cases hd : i ∈ q.wr
          · rw [if_pos hd]
            refine (gh_last qs 0 _ j q hq (by simp only [Nat.zero_add, hset]; simp) hd (fun k q' hk hlt hDk => ?_)).symm
            have hkj : k ≠ j := by omega
            simp only [Nat.zero_add, hset, if_neg hkj] at hDk
            intro hd'
            exact ((hpair k q' hk (by rw [hDk]; simp; omega) hkj).2 i hd').2 hd
          · rw [if_neg hd, hh i]
            refine gh_agree qs 0 _ (fun k q' hk hne => ?_)
            simp only [Nat.zero_add, hset] at hne
            by_cases hkj : k = j
            · subst hkj
              rw [hq] at hk
              injection hk with hk
              subst hk
              exact hd
            · rw [if_neg hkj] at hne
              exact absurd rfl hne
  have hnone : ∀ k, (Array.replicate ops.size false).getD k false = false := by
    intro k
    by_cases hk : k < ops.size <;> simp [Array.getD, hk]
  refine main ops.size (Array.replicate ops.size false) st L a _ (by simp) (by simp) ?_ ((hr.heap (w' := { w with drawn := w.drawn + 1 }) rfl rfl rfl rfl).mono (fun j hj => ?_)) (fun t => ?_) (fun i => ?_)
  · intro j o _ hj
    have hj' : (Array.replicate ops.size false).getD j false = true := hj
    rw [hnone] at hj'; cases hj'
  · rcases hj with hj | ⟨i, _, _, rfl⟩ <;> omega
  · have hfun : (fun k => (Array.replicate ops.size false).getD k false) = fun _ => false := funext hnone
    have key : ∀ (qs : List Rec) (i : Nat) (cur : AV), gt (fun _ => false) t qs i cur = cur := by
      intro qs
      induction qs with
      | nil => intro i cur; rfl
      | cons q qs ih => intro i cur; simp only [gt]; rw [ih]; simp
    rw [hfun]
    exact (key _ _ _).symm
  · have hfun : (fun k => (Array.replicate ops.size false).getD k false) = fun _ => false := funext hnone
    have key : ∀ (qs : List Rec) (k : Nat) (cur : Option Ob), gh (fun _ => false) i qs k cur = cur := by
      intro qs
      induction qs with
      | nil => intro k cur; rfl
      | cons q qs ih => intro k cur; simp only [gh]; rw [ih]; simp
    rw [hfun]
    exact (key _ _ _).symm
theorem awD_sound {L : Lay} {st : St} {a : Act} {w : World} {id : Nat} {K : St → Prop} {Qc : Exit → Act → World → Prop} (hm : c.P.follows .mixedOrders = true) (hs : statOK ops = true) (h : aopsD c.P c.n ops ops.toList 0 st.nx [] st K)
    (hr : Rel c L (fun j => st.nx ≤ j) st a w) (hQ : ∀ s L' a' w', K s → Rel c L' (fun j => st.nx + ops.size ≤ j) s a' w' → Qc .normal a' w') : (Code.region id ops true).wp c.P Qc a w := wp_region_any hm (awD_any hm hs h hr hQ)
end
end Go.Sim

namespace Go.Sim
open Go.RowKit
set_option linter.unusedVariables false
set_option linter.unusedSimpArgs false

def lp (m : Nat) (B : St → (Exit → St → Prop) → Prop) (st : St) (Q : Exit → St → Prop) : Prop :=
  ∃ I : Nat → St → Prop, (∃ k ρ s, I k s ∧ Wk m ρ st s) ∧
    ∀ k s, I k s → B s (fun e s1 => match e with | .normal => ∃ k' ρ s2, k' < k ∧ I k' s2 ∧ Wk m ρ s1 s2 | e => Q e s1)
def aw (P : Program) (n m : Nat) : Code → St → (Exit → St → Prop) → Prop
  | .skip, st, Q => Q .normal st
  | .label _, st, Q => Q .normal st
  | .region _ ops false, st, Q => aops P n ops ops.toList st.nx st (fun s => Q .normal { s with nx := st.nx + ops.size })
  | .region _ ops true, st, Q => statOK ops = true ∧ P.follows .mixedOrders = true ∧ aopsD P n ops ops.toList 0 st.nx [] st (fun s => Q .normal { s with nx := st.nx + ops.size })
  | .seq x y, st, Q => aw P n m x st (fun e s => match e with | .normal => aw P n m y s Q | e => Q e s)
  | .cond k x y, st, Q => match st.ev k with
    | .sc (.bool t) => if t = true then aw P n m x st Q else aw P n m y st Q
    | _ => False
  | .block id x, st, Q => aw P n m x st (fun e s => match e with | .exit i => if i = id then Q .normal s else Q (.exit i) s | e => Q e s)
  | .loop x, st, Q => lp m (aw P n m x) st Q
  | .exit id, st, Q => Q (.exit id) st
  | .scope x, st, Q => aw P n m x st (fun e s => match e with | .goto _ => False | e => Q e s)
  | .ret, st, Q => Q .ret st
  | _, _, _ => False

section
variable {c : Cx}
end

def rvs (P : Program) (st : St) : List ResultVar → Option (List AV × Prop)
  | [] => some ([], True)
  | .tmp t :: r => match rvs P st r with | some (l, p) => some (st.get t :: l, p) | none => none
  | .cell t ty :: r => match rvs P st r, st.get t with
    | some (l, p), .pt id off => (match look st.hp id with
      | some o => some (rdc P o.cells off ty :: l, p ∧ good P ty = true ∧ off + siz P ty ≤ o.cells.length)
      | none => none)
    | _, _ => none
def one : List AV → AV
  | [x] => x
  | l => .tu l
theorem rvs_spec {c : Cx} {L : Lay} {F : Nat → Prop} {st : St} {a : Act} {w : World} (hr : Rel c L F st a w) : ∀ (rs : List ResultVar) (l : List AV) (p : Prop), rvs c.P st rs = some (l, p) → p →
    ∃ vs : List Value, (rs.mapM (m := Sem) fun | .tmp t => pure (a.tmps.getD t undef) | .cell p t => do loadVar t (← asAddr (a.tmps.getD p undef))).run c.P w = .ok vs w ∧ vs.length = l.length ∧ ∀ i x, l[i]? = some x → VR w (sta c L st.hp) L x (vs.getD i undef) := by
  intro rs
  induction rs with
  | nil =>
    intro l p h _
    simp [rvs] at h
    obtain ⟨rfl, _⟩ := h
    exact ⟨[], rfl, rfl, fun i x hx => by simp at hx⟩
  | cons r rs ih =>
    intro l p h hp
    cases r with
    | tmp t =>
      simp only [rvs] at h
      split at h
      · rename_i l' p' h1
        simp only [Option.some.injEq, Prod.mk.injEq] at h
        obtain ⟨rfl, rfl⟩ := h
        obtain ⟨vs, e1, e2, e3⟩ := ih l' p' h1 hp
        refine ⟨a.tmps.getD t undef :: vs, ?_, by simp [e2], fun i x hx => ?_⟩
        · simp only [List.mapM_cons, Sem.run_bind, Sem.run_pure, Result.andThen_ok, e1]
        · cases i with
          | zero => simp at hx; subst hx; exact hr.slot t
          | succ i => simpa using e3 i x (by simpa using hx)
      · cases h
    | cell t ty =>
      simp only [rvs] at h
      split at h
      · rename_i l' p' id off h1 hst
        split at h
        · rename_i o ho
          simp only [Option.some.injEq, Prod.mk.injEq] at h
          obtain ⟨rfl, rfl⟩ := h
          obtain ⟨hp1, hg, hl⟩ := hp
          obtain ⟨vs, e1, e2, e3⟩ := ih l' p' h1 hp1
          obtain ⟨d, k1, k2, k3⟩ := good_spec hg
          have hx := hr.slot t
          rw [hst] at hx
          obtain ⟨B, C, T, fr, hL, hb, hsz, _, hlen, _, hcs⟩ := hr.hr.real ho (by omega)
          have hxe := hx.pt_eq hL
          obtain ⟨v, q1, q2⟩ := run_load_cells (P := c.P) (w := w) (S := sta c L st.hp) (L := L) k1 k2 k3 (cells := o.cells) (b := B.block) (o := 0) (off := off) (g := fun i => C.getD i undef)
            (fun i hi => by
              have : i < C.size := by omega
              simp [World.cell?, hb, this]) hcs hl
          rw [Nat.zero_add] at q1
          refine ⟨v :: vs, ?_, by simp [e2], fun i x hx => ?_⟩
          · rw [List.mapM_cons, Sem.run_bind]
            have hd : (do let x ← asAddr (a.tmps.getD t undef); loadVar ty x : Sem Value).run c.P w = .ok v w := by
              rw [hxe]
              simpa [asAddr] using q1
            rw [hd]
            simp only [Sem.run_bind, Sem.run_pure, Result.andThen_ok, e1]
          · cases i with
            | zero => simp at hx; subst hx; exact q2
            | succ i => simpa using e3 i x (by simpa using hx)
        · cases h
      · cases h
def slots : List AV → Nat → List (Nat × AV)
  | [], _ => []
  | x :: r, k => (k, x) :: slots r (k + 1)
theorem look_slots (l : List AV) (k t : Nat) : look (slots l k) t = if t < k then none else l[t - k]? := by
  induction l generalizing k with
  | nil => simp [slots, look]
  | cons x r ih =>
    simp only [slots, look, ih]
    by_cases h1 : k = t
    · subst h1
      simp
    · rw [if_neg h1]
      by_cases h2 : t < k
      · rw [if_pos (by omega), if_pos h2]
      · rw [if_neg (by omega), if_neg h2, show t - k = (t - (k + 1)) + 1 by omega, List.getElem?_cons_succ]
def Rets (P : Program) (m : Nat) (rs : List ResultVar) (hp1 : List (Nat × Ob)) (r : AV) (e : Exit) (st : St) : Prop :=
  (match e with | .normal | .ret => True | _ => False) ∧ match rvs P st rs with | some (l, p) => p ∧ ∃ ρ, Fin m ρ st.hp (one l) hp1 r | none => False
theorem results_spec {c : Cx} {L : Lay} {F : Nat → Prop} {st : St} {a : Act} {w : World} (hr : Rel c L F st a w) {fn : Func} {l : List AV} {p : Prop} (h : rvs c.P st fn.results.toList = some (l, p)) (hp : p) :
    ∃ v, (results fn a.tmps).run c.P w = .ok v w ∧ VR w (sta c L st.hp) L (one l) v := by
  obtain ⟨vs, e1, e2, e3⟩ := rvs_spec hr fn.results.toList l p h hp
  unfold results
  rw [Sem.run_bind, Array.mapM_eq_mapM_toList, Sem.run_map]
  have e1' : (fn.results.toList.mapM (m := Sem) fun x => match x with | .tmp t => pure (a.tmps.getD t undef) | .cell p t => do loadVar t (← asAddr (a.tmps.getD p undef))).run c.P w = .ok vs w := e1
  have key : ∃ v, (Result.ok (if h : vs.toArray.size = 1 then vs.toArray[0] else Value.tuple vs.toArray) w) = Result.ok v w ∧ VR w (sta c L st.hp) L (one l) v := by
    match l, vs, e2, e3 with
    | [], [], _, e3 => exact ⟨_, rfl, .tu _ _ _ (fun _ => undef) rfl (fun i hi => absurd hi (Nat.not_lt_zero _)) (fun i x hx => by simp at hx)⟩
    | [x], [v], _, e3 => exact ⟨v, rfl, by simpa [one] using e3 0 x rfl⟩
    | x :: y :: l, v :: u :: vs, e2, e3 =>
      refine ⟨.tuple (v :: u :: vs).toArray, by simp, .tu _ _ _ (fun i => (v :: u :: vs).getD i undef) (by simpa using e2) (fun i hi => ?_) e3⟩
      have : i < (v :: u :: vs).length := by rw [e2]; exact hi
      rw [List.getElem?_toArray, List.getElem?_eq_getElem this, List.getD_eq_getElem?_getD, List.getElem?_eq_getElem this]
      rfl
  obtain ⟨v, hv, hR⟩ := key
  exact ⟨v, (congrArg (fun r => Result.andThen (Result.andThen r fun a w' => Result.ok (List.toArray a) w') fun a w' => Sem.run c.P (pure (if h : a.size = 1 then a[0] else Value.tuple a)) w') e1').trans hv, hR⟩
theorem HR.cx {P : Program} {W : World} {I : Nat → Prop} {S : Nat → Nat → Prop} {n n' m m' b b' : Nat} {L0 L0' L : Lay} {hp : List (Nat × Ob)} {w : World} (h : HR ⟨P, W, n, I, S, m, L0, b⟩ L hp w) : HR ⟨P, W, n', I, S, m', L0', b'⟩ L hp w :=
  ⟨h.live, h.dead, h.inj, h.mine, h.kept, h.upd⟩
theorem Rel.turnD {c : Cx} {L : Lay} {F : Nat → Prop} {st : St} {a : Act} {w : World} (h : Rel c L F st a w) {D : Nat} {o o' : Obj} (hD : w.heap[D]? = some o) (ho : o.isCells = false) (hm : ∀ es ck, o ≠ .map es ck) (ho' : o'.isCells = false) (hle : c.W.heap.size ≤ D) {d : List Deferred} (hd : okD c (w.putObj D o') d) : Rel c L F st { a with defers := d } (w.putObj D o') := by
  have hh : ∀ k, k ≠ D → (w.putObj D o').heap[k]? = w.heap[k]? := fun k hk => World.putObj_heap_other hk
  have hlt : D < w.heap.size := (Array.getElem?_eq_some_iff.1 hD).1
  have hs : (w.putObj D o').heap[D]? = some o' := World.putObj_heap_same hlt
  have hcell : ∀ b i u, w.cell? ⟨b, i, none⟩ = some u → (w.putObj D o').cell? ⟨b, i, none⟩ = some u := by
    intro b i u hu
    by_cases hb : b = D
    · subst hb
      exfalso
      simp only [World.cell?, hD] at hu
      cases o <;> simp_all [Obj.isCells]
    · simp only [World.cell?, hh b hb] at hu ⊢
      exact hu
  have hS : ∀ b i u, sta c L st.hp b i → w.cell? ⟨b, i, none⟩ = some u → sta c L st.hp b i ∧ (w.putObj D o').cell? ⟨b, i, none⟩ = some u := fun b i u x y => ⟨x, hcell b i u y⟩
  have hL : ∀ q y, L q = some y → L q = some y ∨ L q = some none := fun _ _ hy => .inl hy
  have hM : MpK w (w.putObj D o') := fun b es ck hb => by
    have : b ≠ D := fun e => by subst e; rw [hD] at hb; injection hb with hb; exact hm es ck hb
    rw [hh b this]; exact hb
  refine ⟨⟨fun j p hp => ?_, h.hr.dead, h.hr.inj, h.hr.mine, h.hr.kept, ?_⟩, h.fresh, hd, h.size, fun t => (h.slot t).move hS hL, h.ext⟩
  · obtain ⟨B, e1, e2, e3, e4⟩ := h.hr.live j p hp
    refine ⟨B, e1, e2, e3, fun hz => ?_⟩
    obtain ⟨C, T, fr, e5, e6, e7, e8⟩ := e4 hz
    have hb : B.block ≠ D := fun e => by rw [e, hD] at e5; injection e5 with e5; subst e5; cases ho
    exact ⟨C, T, fr, by rw [hh _ hb]; exact e5, e6, e7, fun i x hx => (e8 i x hx).move hS hL⟩
  · have hu := h.hr.upd
    refine ⟨hu.os, hu.tape, hu.output, Nat.le_trans hu.size (by simp [World.putObj]), fun k hk hi => ?_, fun b o2 hb h2 => ?_⟩
    · rw [hh k (by omega)]; exact hu.block k hk hi
    · have := (Array.getElem?_eq_some_iff.1 hb).1
      rw [hh b (by omega)]; exact hu.maps b o2 hb h2
def LeavesD (P : Program) : List Nat → World → World → Prop
  | [], w, w2 => w2 = w
  | D :: Ds, w, w2 => ∃ w1, (Instr.takeDeferred D).run P w = .ok [] w1 ∧ LeavesD P Ds w1 w2
def Leaves (P : Program) (a : Act) (w w2 : World) : Prop := ∃ Ds : List Nat, a.defers = Ds.map markD ∧ LeavesD P Ds w w2
theorem Rel.closedD {c : Cx} {L : Lay} {F : Nat → Prop} {st : St} (hB : c.W.heap.size ≤ c.B) : ∀ (Ds : List Nat) {a : Act} {w : World}, Rel c L F st a w → a.defers = Ds.map markD → Ds.Nodup → (∀ D ∈ Ds, c.B ≤ D ∧ w.heap[D]? = some (.deferred (some []))) → ∃ w2, LeavesD c.P Ds w w2 ∧ Rel c L F st { a with defers := [] } w2 := by
  intro Ds
  induction Ds with
  | nil => intro a w h hd _ _; exact ⟨w, rfl, ⟨h.hr, h.fresh, okD.nil, h.size, h.slot, h.ext⟩⟩
  | cons D Ds ih =>
    intro a w h hd hn hD
    obtain ⟨h1, h2⟩ := hD D (List.mem_cons_self ..)
    have hnD := List.nodup_cons.1 hn
    have hrest : ∀ D' ∈ Ds, c.B ≤ D' ∧ (w.putObj D (.deferred none)).heap[D']? = some (.deferred (some [])) := fun D' hD' => by
      obtain ⟨k1, k2⟩ := hD D' (List.mem_cons_of_mem _ hD')
      refine ⟨k1, ?_⟩
      rw [World.putObj_heap_other (fun e => hnD.1 (by rw [← e]; exact hD'))]
      exact k2
    have hR := h.turnD (d := Ds.map markD) h2 rfl (fun _ _ e => by cases e) rfl (Nat.le_trans hB h1) (o' := .deferred none) ⟨Ds, rfl, hnD.2, hrest⟩
    obtain ⟨w2, k1, k2⟩ := ih hR rfl hnD.2 hrest
    exact ⟨w2, ⟨_, run_takeDeferred h2, k1⟩, k2⟩
theorem Rel.closed {c : Cx} {L : Lay} {F : Nat → Prop} {st : St} {a : Act} {w : World} (hB : c.W.heap.size ≤ c.B) (h : Rel c L F st a w) : ∃ w2, Leaves c.P a w w2 ∧ Rel c L F st { a with defers := [] } w2 := by
  obtain ⟨Ds, h1, h2, h3⟩ := h.defs
  obtain ⟨w2, k1, k2⟩ := h.closedD hB Ds h1 h2 h3
  exact ⟨w2, ⟨Ds, h1, k1⟩, k2⟩
theorem leaves_marks {P : Program} {fn : Func} {tmps : Array Value} {R : Ending → World → Prop} : ∀ (Ds : List Nat) {w w2 : World}, LeavesD P Ds w w2 → (∃ v, (results fn tmps).run P w2 = .ok v w2 ∧ R (.returned v) w2) → LeavesInM Fence.wide 0 P fn tmps R (Ds.map markD) .returning w := by
  intro Ds
  induction Ds with
  | nil =>
    intro w w2 h hv
    obtain rfl : w2 = w := h
    exact hv
  | cons D Ds ih =>
    intro w w2 h hv
    obtain ⟨w1, h1, h2⟩ := h
    exact ⟨by simp, .inl ⟨D, w1, rfl, h1, ih h2 hv⟩⟩
theorem calls_closed {P : Program} {f : FuncId} {fn : Func} {c : Code} {args : Array Value} {w : World} {R : Ending → World → Prop} (hf : P.funcs[f]? = some fn) (hb : fn.body = some c)
    (h : c.wp P (fun e a w' => (e = .normal ∨ e = .ret) ∧ ∃ w2, Leaves P a w' w2 ∧ ∃ v, (results fn a.tmps).run P w2 = .ok v w2 ∧ R (.returned v) w2) { tmps := args ++ Array.replicate (fn.ntmps - args.size) undef, defers := [] } w) : Calls P f args w R := by
  refine (callsIn_wide (n := 0)).1 (callsIn_of_wp_marks hf hb trivial (wpIn_wide.2 (wp_mono h ?_)))
  rintro e a w' ⟨he, w2, ⟨Ds, hd, hl⟩, hv⟩
  have key : LeavesInM Fence.wide 0 P fn a.tmps R a.defers .returning w' := by
    rw [hd]; exact leaves_marks Ds hl hv
  rcases he with rfl | rfl
  · exact key
  · exact key
end Go.Sim

namespace Go.Sim
open Go.RowKit
set_option linter.unusedVariables false
set_option linter.unusedSimpArgs false

theorem flat_get {α : Type} (enc : α → List AV) {s : Nat} (hs : 0 < s) : ∀ (l : List α), (∀ a ∈ l, (enc a).length = s) → ∀ k : Nat, (l.flatMap enc)[k]? = (l[k / s]?).bind fun a => (enc a)[k % s]? := by
  intro l
  induction l with
  | nil => intro _ k; simp
  | cons a l ih =>
    intro h k
    have ha := h a (by simp)
    simp only [List.flatMap_cons]
    by_cases hk : k < s
    · rw [List.getElem?_append_left (by omega), Nat.div_eq_of_lt hk, Nat.mod_eq_of_lt hk]
      simp
    · rw [List.getElem?_append_right (by omega), ha, ih (fun b hb => h b (by simp [hb])) (k - s)]
      have e1 : k / s = (k - s) / s + 1 := by rw [Nat.div_eq_sub_div hs (by omega)]
      have e2 : k % s = (k - s) % s := (Nat.mod_eq_sub_mod (by omega))
      rw [e1, e2]
      simp
theorem flat_length {α : Type} (enc : α → List AV) (s : Nat) : ∀ (l : List α), (∀ a ∈ l, (enc a).length = s) → (l.flatMap enc).length = l.length * s := by
  intro l
  induction l with
  | nil => intro _; simp
  | cons a l ih =>
    intro h
    simp only [List.flatMap_cons, List.length_append, List.length_cons, h a (by simp), ih (fun b hb => h b (by simp [hb])), Nat.add_mul]
    omega
def all (w : World) : Nat → Nat → Prop := fun b _ => b < w.heap.size
structure Opn (P : Program) (t : TypeId) {α : Type} (enc : α → List AV) (ok : α → Prop) : Prop where
  opn : ∀ {H : Type} {en : TypeId × Value → H} {w : World} {fuel : Nat} {cs : List Value} {x : DataW H × List MemPlace}, DataW.trod en P w 0 (fun _ => true) true fuel t cs = some x → ∃ a, ok a ∧ VRs w (all w) noLay (enc a) cs
  len : ∀ a, ok a → (enc a).length = P.cellsOf t
theorem opn_int {P : Program} {t : TypeId} {k : IntKind} (h : P.underlying t = some (.int k)) (hc : P.cellsOf t = 1) : Opn P t (fun n : Int => [.sc (.int k n)]) (fun n => k.min ≤ n ∧ n ≤ k.max) :=
  ⟨fun hx => by
    obtain ⟨n, rfl, _, hw⟩ := DataW.trod_int h hx
    refine ⟨n, by simpa [Lit.wf] using hw, rfl, fun i y hy => ?_⟩
    cases i with
    | zero => simp at hy; subst hy; exact .sc _ _
    | succ i => simp at hy, fun a _ => by rw [hc]; rfl⟩
theorem opn_slice {P : Program} {t e : TypeId} {α : Type} [Inhabited α] {enc : α → List AV} {ok : α → Prop} (h : P.underlying t = some (.slice e)) (hc : P.cellsOf t = 1) (he : P.cellsOf e ≠ 0) (ho : Opn P e enc ok) :
    Opn P t (fun l : List α => [.fz l.length (l.flatMap enc)]) (fun l => l.length ≤ maxLen ∧ ∀ a ∈ l, ok a) :=
  ⟨fun {H en w fuel cs x} hx => by
    rcases DataW.trod_slice h hx with ⟨rfl, _⟩ | ⟨a, len, cap, elems, rest, n, _, rfl, _, _, hl, hm, hlen, hel, _⟩
    · refine ⟨[], ⟨by simp, fun a ha => by simp at ha⟩, rfl, fun i y hy => ?_⟩
      cases i with
      | zero => simp at hy; subst hy; exact .fz0 _ _ _
      | succ i => simp at hy
    · have ex : ∀ i, i < len → ∃ z : α, ok z ∧ ∃ ci : List Value, w.cells? 0 (a.add (i * P.cellsOf e)) (P.cellsOf e) = some ci ∧ VRs w (all w) noLay (enc z) ci := by
        intro i hi
        have h1 := hel i hi
        rw [List.getElem?_eq_getElem (by omega)] at h1
        cases hc : w.cells? 0 (a.add (i * P.cellsOf e)) (P.cellsOf e) with
        | none => rw [hc] at h1; cases h1
        | some ci =>
          rw [hc] at h1
          obtain ⟨z, hz, hv⟩ := ho.opn h1
          exact ⟨z, hz, ci, rfl, hv⟩
      by_cases hz : len = 0
      · subst hz
        refine ⟨[], ⟨by simp, fun a ha => by simp at ha⟩, rfl, fun i y hy => ?_⟩
        cases i with
        | zero => simp at hy; subst hy; exact .fz0 _ _ _
        | succ i => simp at hy
      · obtain ⟨f, hf⟩ := Go.Deep.choose_lt ex
        have hlf : ((List.range len).map f).length = len := by simp
        have hok : ∀ z ∈ (List.range len).map f, ok z := by
          intro z hz
          obtain ⟨i, hi, rfl⟩ := List.mem_map.1 hz
          exact (hf i (List.mem_range.1 hi)).1
        have hfl := flat_length enc (P.cellsOf e) ((List.range len).map f) (fun z hz => ho.len z (hok z hz))
        rw [hlf] at hfl
        refine ⟨(List.range len).map f, ⟨by rw [hlf]; omega, hok⟩, rfl, fun i y hy => ?_⟩
        cases i with
        | succ i => simp at hy
        | zero =>
          simp only [List.getElem?_cons_zero, Option.some.injEq] at hy
          subst hy
          rw [hlf]
          -- every cell
          have cell : ∀ k, k < len * P.cellsOf e → ∃ v, w.cell? ⟨a.block, a.off + k, none⟩ = some v ∧ a.spot = none ∧ ∀ y, (((List.range len).map f).flatMap enc)[k]? = some y → VR w (all w) noLay y v := by
            intro k hk
            have hi : k / P.cellsOf e < len := by
              rw [Nat.div_lt_iff_lt_mul (by omega)]; exact hk
            have hj : k % P.cellsOf e < P.cellsOf e := Nat.mod_lt _ (by omega)
            obtain ⟨_, ci, hci, hv⟩ := hf _ hi
            obtain ⟨_, hcl, hcc⟩ := World.cells?_some hci
            have hget := hcc _ hj
            have hci2 : ci[k % P.cellsOf e]? = some (ci[k % P.cellsOf e]'(by omega)) := List.getElem?_eq_getElem _
            rw [hci2] at hget
            have hadd : ((a.add (k / P.cellsOf e * P.cellsOf e)).add (k % P.cellsOf e)) = ⟨a.block, a.off + k, none⟩ ∧ a.spot = none := by
              have hsp : a.spot = none := by
                have h0 := hf 0 (by omega)
                obtain ⟨_, c0, hc0, _⟩ := h0
                obtain ⟨_, hcl0, hcc0⟩ := World.cells?_some hc0
                have h1 := hcc0 0 (by omega)
                have e1 : ((a.add (0 * P.cellsOf e)).add 0) = a := by simp [Addr.add]
                rw [e1, List.getElem?_eq_getElem (by omega)] at h1
                unfold World.cell? at h1
                split at h1
                · split at h1
                  · cases h1
                  · rename_i hsp; simpa using hsp
                · cases h1
              refine ⟨?_, hsp⟩
              obtain ⟨b, o, sp⟩ := a
              simp only at hsp
              subst hsp
              rw [add_mk, add_mk]
              have hdm : k / P.cellsOf e * P.cellsOf e + k % P.cellsOf e = k := Nat.div_add_mod' k (P.cellsOf e)
              rw [Nat.add_assoc, hdm]
            rw [hadd.1] at hget
            refine ⟨_, hget, hadd.2, fun y hy => ?_⟩
            rw [flat_get enc (by omega) _ (fun z hz => ho.len z (hok z hz)) k, List.getElem?_map, List.getElem?_range hi] at hy
            simp only [Option.map_some, Option.bind_some] at hy
            have := hv.2 _ y hy
            rw [List.getD_eq_getElem?_getD, hci2] at this
            exact this
          obtain ⟨v0, hv0, hsp, _⟩ := cell 0 (Nat.mul_pos (by omega) (by omega))
          obtain ⟨b, o, sp⟩ := a
          simp only at hsp
          subst hsp
          refine .fz _ _ _ b o _ (fun k => (w.cell? ⟨b, o + k, none⟩).getD undef) hl (fun k hk => ?_) (fun k y hy => ?_)
          · rw [hfl] at hk
            obtain ⟨v, hv, _, _⟩ := cell k hk
            have hv' : w.cell? ⟨b, o + k, none⟩ = some v := hv
            exact ⟨cell_lt hv', by rw [hv']; rfl⟩
          · have hk := (List.getElem?_eq_some_iff.1 hy).1
            rw [hfl] at hk
            obtain ⟨v, hv, _, hr⟩ := cell k hk
            have hv' : w.cell? ⟨b, o + k, none⟩ = some v := hv
            rw [hv']
            exact hr y hy, fun a _ => by rw [hc]; rfl⟩
def FO (P : Program) (n : Nat) (fs : List Field) (off : Nat) {α : Type} (enc : α → List AV) (ok : α → Prop) : Prop :=
  (∀ {H : Type} {en : TypeId × Value → H} {w : World} {fuel : Nat} {cs : List Value}, cs.length = n → (∀ f ∈ fs, ∃ x, DataW.trod en P w 0 (fun _ => true) true fuel f.type ((cs.drop f.offset).take (P.cellsOf f.type)) = some x) → ∃ a, ok a ∧ VRs w (all w) noLay (enc a) (cs.drop off)) ∧
  ∀ a, ok a → (enc a).length + off = n
theorem FO.cons {P : Program} {n : Nat} {f : Field} {fs : List Field} {off : Nat} {α β : Type} {enc : α → List AV} {ok : α → Prop} {enc2 : β → List AV} {ok2 : β → Prop} (h : f.offset = off) (ho : Opn P f.type enc ok) (hr : FO P n fs (off + P.cellsOf f.type) enc2 ok2) :
    FO P n (f :: fs) off (fun x : α × β => enc x.1 ++ enc2 x.2) (fun x => ok x.1 ∧ ok2 x.2) :=
  ⟨fun {H en w fuel cs} hl hf => by
    obtain ⟨x, hx⟩ := hf f (by simp)
    obtain ⟨a, ha, hv⟩ := ho.opn hx
    obtain ⟨b, hb, hv2⟩ := hr.1 hl (fun g hg => hf g (by simp [hg]))
    refine ⟨(a, b), ⟨ha, hb⟩, ?_⟩
    rw [h] at hv
    have hla := ho.len a ha
    have hlb := hr.2 b hb
    refine ⟨by simp [hla]; omega, fun i y hy => ?_⟩
    simp only at hy
    by_cases hi : i < P.cellsOf f.type
    · rw [List.getElem?_append_left (by omega)] at hy
      have := hv.2 i y hy
      have e : ((cs.drop off).take (P.cellsOf f.type)).getD i undef = (cs.drop off).getD i undef := by simp [List.getD_eq_getElem?_getD, List.getElem?_take, hi]
      rw [e] at this; exact this
    · rw [List.getElem?_append_right (by omega), hla] at hy
      have := hv2.2 _ y hy
      have e : (cs.drop (off + P.cellsOf f.type)).getD (i - P.cellsOf f.type) undef = (cs.drop off).getD i undef := by
        simp only [List.getD_eq_getElem?_getD, List.getElem?_drop]
        congr 2
        omega
      rw [e] at this; exact this, fun x hx => by
    have h1 := ho.len x.1 hx.1
    have h2 := hr.2 x.2 hx.2
    simp [h1]; omega⟩
theorem opn_cell {P : Program} {t : TypeId} {α : Type} {enc : α → List AV} {ok : α → Prop} {one : α → AV} (ho : Opn P t enc ok) (h1 : ∀ a, enc a = [one a]) {H : Type} {en : TypeId × Value → H} {w : World} {v : Value} {d : DataW H} {p : List MemPlace}
    (hv : v.cells = #[v]) (h : DataW.Trod en P w 0 (fun _ => true) true t v d p) : ∃ a, ok a ∧ VR w (all w) noLay (one a) v := by
  obtain ⟨fuel, hf⟩ := h
  rw [hv] at hf
  obtain ⟨a, ha, hr⟩ := ho.opn hf
  refine ⟨a, ha, ?_⟩
  rw [h1 a] at hr
  simpa using hr.2 0 _ rfl
theorem con_done {P : Program} {f : FuncId} {args : List AV} (h : Con P f [] args [] (.sc (.bool true))) {W : World} {cargs : Array Value} (hv : VRs W (all W) noLay args cargs.toList) :
    Calls P f cargs W fun e W' => e = .returned (.bool true) ∧ Below W.heap.size W W' := by
  have hHR : HR ⟨P, W, 0, fun _ => False, all W, 0, noLay, W.heap.size⟩ noLay [] W :=
    ⟨(fun id o ho => by cases ho), (fun id B hB => by cases hB), (fun id id' B B' hB => by cases hB), (fun id B hB => by cases hB), (fun b i hs => ⟨hs, fun e => e⟩), ⟨rfl, rfl, rfl, Nat.le_refl _, fun _ _ _ => rfl, NcK.refl _⟩⟩
  refine (h W (fun _ => False) (all W) noLay cargs (fun _ _ => rfl) hHR ⟨hv.1, fun i x hx => (hv.2 i x hx).mono (fun b i hs => .inl hs)⟩).mono ?_
  rintro e W' ⟨v, L', rfl, _, _, hR, hr⟩
  have := hr.sc_eq
  subst this
  have hu := hR.upd
  exact ⟨rfl, hu.os, hu.tape, hu.output, hu.size, fun k hk => hu.block k hk (fun e => e)⟩
end Go.Sim

namespace Go.Sim
open Go.RowKit
set_option linter.unusedVariables false
set_option linter.unusedSimpArgs false
def tick : Nat := 0
@[simp] theorem tick_eq : tick = 0 := by decide
@[congr] theorem aops_congr {P : Program} {n : Nat} {ops : Array Oper} {l : List Oper} {nid : Nat} {st st' : St} {K : St → Prop} {tk : Nat} (ht : tick = tk) (h : st = st') : aops P n ops l nid st K = aops P n ops l nid st' K := by rw [h]
@[congr] theorem agd_congr {P : Program} {n nid : Nat} {ops : Array Oper} {o : Oper} {st st' : St} {K : St → Prop} {tk : Nat} (ht : tick = tk) (h : st = st') : agd P n nid ops o st K = agd P n nid ops o st' K := by rw [h]
@[congr] theorem aw1_congr {P : Program} {n nid : Nat} {o : Oper} {st st' : St} {K : St → Prop} {tk : Nat} (ht : tick = tk) (h : st = st') : aw1 P n nid o st K = aw1 P n nid o st' K := by rw [h]
@[congr] theorem aw_congr {P : Program} {n m : Nat} {x : Code} {st st' : St} {Q : Exit → St → Prop} {tk : Nat} (ht : tick = tk) (h : st = st') : aw P n m x st Q = aw P n m x st' Q := by rw [h]
@[congr] theorem Cl_congr {P : Program} {f : FuncId} {as as' : List AV} {st st' : St} {nid nid' : Nat} {dst dst' : Option Nat} {ls ls' : List (Nat × Nat)} {K : Option Ob → AV → St → Prop} {tk : Nat} (ht : tick = tk) (h : as = as') (hs : st = st') (hn : nid = nid') (hd : dst = dst') (hl : ls = ls') : Cl P f as st nid dst ls K = Cl P f as' st' nid' dst' ls' K := by rw [h, hs, hn, hd, hl]
@[congr] theorem lp_congr {m : Nat} {B : St → (Exit → St → Prop) → Prop} {st st' : St} {Q : Exit → St → Prop} {tk : Nat} (ht : tick = tk) (h : st = st') : lp m B st Q = lp m B st' Q := by rw [h]
@[congr] theorem aopsD_congr {P : Program} {n : Nat} {ops : Array Oper} {l : List Oper} {i nid : Nat} {dn : List (Nat × List Nat × List Nat)} {st st' : St} {K : St → Prop} {tk : Nat} (ht : tick = tk) (h : st = st') : aopsD P n ops l i nid dn st K = aopsD P n ops l i nid dn st' K := by rw [h]
@[congr] theorem agdD_congr {P : Program} {n nid : Nat} {ops : Array Oper} {o : Oper} {st st' : St} {K : List Nat → List Nat → St → Prop} {tk : Nat} (ht : tick = tk) (h : st = st') : agdD P n nid ops o st K = agdD P n nid ops o st' K := by rw [h]
@[congr] theorem aw1D_congr {P : Program} {n nid : Nat} {o : Oper} {st st' : St} {K : List Nat → List Nat → St → Prop} {tk : Nat} (ht : tick = tk) (h : st = st') : aw1D P n nid o st K = aw1D P n nid o st' K := by rw [h]
@[congr] theorem nocf_congr {ops : Array Oper} {i : Nat} {rd rd' wr wr' : List Nat} {dn dn' : List (Nat × List Nat × List Nat)} {tk : Nat} (ht : tick = tk) (h1 : rd = rd') (h2 : wr = wr') (h3 : dn = dn') : nocf ops i rd wr dn = nocf ops i rd' wr' dn' := by rw [h1, h2, h3]
@[congr] theorem statOK_congr {ops : Array Oper} {tk : Nat} (ht : tick = tk) : statOK ops = statOK ops := rfl
@[congr] theorem ancB_congr {ops : Array Oper} {i i' j j' : Nat} {tk : Nat} (ht : tick = tk) (hi : i = i') (hj : j = j') : ancB ops i j = ancB ops i' j' := by rw [hi, hj]
attribute [simp] nilq aeq sks sk
attribute [simp] aopsD agdD aw1D nocf cfl opids ids ids1 ids2 wrc Op.operands Call.operands okCells hok
attribute [simp] aap src
attribute [simp] aops agd aw1 dsk eff avl aef bop uop aint abd amx amx1 amn amn1 cel cels afl spl St.lends Go.Sim.look Go.Sim.ins Go.Sim.del St.get St.put St.ev St.up ofVal ofCell rdc rdn hpo flat isFl St.back frz frz1 frzs frzs1 slots okc Rets rvs one

section
variable {P : Program} {n m nid : Nat} {st : St} {sl : List (Nat × AV)} {hp : List (Nat × Ob)} {nx : Nat} {Q : Exit → St → Prop} {ops : Array Oper} {l : List Oper}
@[simp] theorem aw_skip : aw P n m .skip st Q = Q .normal st := rfl
@[simp] theorem aw_label {k : Nat} : aw P n m (.label k) st Q = Q .normal st := rfl
@[simp] theorem aw_region {id : Nat} : aw P n m (.region id l.toArray false) ⟨sl, hp, nx⟩ Q = aops P n l.toArray l nx ⟨sl, hp, nx⟩ (fun s => Q .normal ⟨s.sl, s.hp, nx + l.length⟩) := rfl
@[simp] theorem aw_regionD {id : Nat} : aw P n m (.region id l.toArray true) ⟨sl, hp, nx⟩ Q = (statOK l.toArray = true ∧ P.follows .mixedOrders = true ∧ aopsD P n l.toArray l 0 nx [] ⟨sl, hp, nx⟩ (fun s => Q .normal ⟨s.sl, s.hp, nx + l.length⟩)) := rfl
@[simp] theorem aw_seq {x y : Code} : aw P n m (.seq x y) st Q = aw P n m x st (fun e s => match e with | .normal => aw P n m y s Q | e => Q e s) := rfl
@[simp] theorem aw_cond {k : Operand} {x y : Code} : aw P n m (.cond k x y) st Q = (match st.ev k with | .sc (.bool t) => if t = true then aw P n m x st Q else aw P n m y st Q | _ => False) := rfl
@[simp] theorem aw_block {id : Nat} {x : Code} : aw P n m (.block id x) st Q = aw P n m x st (fun e s => match e with | .exit i => if i = id then Q .normal s else Q (.exit i) s | e => Q e s) := rfl
@[simp] theorem aw_loop {x : Code} : aw P n m (.loop x) st Q = lp m (aw P n m x) st Q := rfl
@[simp] theorem aw_exit {id : Nat} : aw P n m (.exit id) st Q = Q (.exit id) st := rfl
@[simp] theorem aw_scope {x : Code} : aw P n m (.scope x) st Q = aw P n m x st (fun e s => match e with | .goto _ => False | e => Q e s) := rfl
@[simp] theorem aw_ret : aw P n m .ret st Q = Q .ret st := rfl
end

@[simp] theorem oc_int (k : IntKind) (n : Int) : (Value.int k n).oneCell' = true := rfl
@[simp] theorem oc_bool (b : Bool) : (Value.bool b).oneCell' = true := rfl
@[simp] theorem oc_string (b : ByteArray) : (Value.string b).oneCell' = true := rfl
@[simp] theorem isF_sc (v : Value) : isF (.sc v) = true := rfl
@[simp] theorem isF_nl : isF .nl = true := rfl
@[simp] theorem isF_un : isF .un = true := rfl
@[simp] theorem isF_fz (n : Nat) (l : List AV) : isF (.fz n l) = true := rfl
@[simp] theorem isF_fp (l : List AV) (n : Nat) : isF (.fp l n) = true := rfl
@[simp] theorem isF_lv (i n m : Nat) : isF (.lv i n m) = false := rfl
@[simp] theorem isF_pt (i n : Nat) : isF (.pt i n) = false := rfl
@[simp] theorem isF_ag (l : List AV) : isF (.ag l) = false := rfl
@[simp] theorem isF_tu (l : List AV) : isF (.tu l) = false := rfl
@[simp] theorem isF_fn (f : FuncId) (l : List AV) : isF (.fn f l) = false := rfl
@[simp] theorem okf_sc (v : Value) : okf (.sc v) = v.oneCell' := rfl
@[simp] theorem okf_nl : okf .nl = true := rfl
@[simp] theorem okf_un : okf .un = false := rfl
@[simp] theorem okf_fz (n : Nat) (l : List AV) : okf (.fz n l) = true := rfl
@[simp] theorem okf_fp (l : List AV) (n : Nat) : okf (.fp l n) = true := rfl
@[simp] theorem okf_lv (i n m : Nat) : okf (.lv i n m) = false := rfl
@[simp] theorem okf_pt (i n : Nat) : okf (.pt i n) = false := rfl
@[simp] theorem okf_ag (l : List AV) : okf (.ag l) = false := rfl
@[simp] theorem okf_fn (f : FuncId) (l : List AV) : okf (.fn f l) = false := rfl
@[simp] theorem okF_nil : okF [] := fun _ h => by cases h
@[simp] theorem okF_cons (x : AV) (l : List AV) : okF (x :: l) ↔ okf x = true ∧ okF l := by simp [okF]
@[simp] theorem okF_append (a b : List AV) : okF (a ++ b) ↔ okF a ∧ okF b := by
  simp only [okF, List.mem_append]
  exact ⟨fun h => ⟨fun x hx => h x (.inl hx), fun x hx => h x (.inr hx)⟩, fun h x hx => hx.elim (h.1 x) (h.2 x)⟩
theorem okF_flat {α : Type} {enc : α → List AV} (h : ∀ a, okF (enc a)) (l : List α) : okF (l.flatMap enc) := by
  intro x hx
  obtain ⟨a, _, ha⟩ := List.mem_flatMap.1 hx
  exact h a x ha
@[simp] theorem okI_nil : okI [] := fun _ h => by cases h
@[simp] theorem okI_cons (x : AV) (l : List AV) : okI (x :: l) ↔ isF x = true ∧ okI l := by simp [okI]
@[simp] theorem okI_append (a b : List AV) : okI (a ++ b) ↔ okI a ∧ okI b := by
  simp only [okI, List.mem_append]
  exact ⟨fun h => ⟨fun x hx => h x (.inl hx), fun x hx => h x (.inr hx)⟩, fun h x hx => hx.elim (h.1 x) (h.2 x)⟩
theorem okI_flat {α : Type} {enc : α → List AV} (h : ∀ a, okI (enc a)) (l : List α) : okI (l.flatMap enc) := by
  intro x hx
  obtain ⟨a, _, ha⟩ := List.mem_flatMap.1 hx
  exact h a x ha
theorem flat_at {α : Type} [Inhabited α] (enc : α → List AV) {s : Nat} (l : List α) (h : ∀ a ∈ l, (enc a).length = s) (i j : Nat) (hi : i < l.length) (hj : j < s) : (l.flatMap enc)[i * s + j]? = (enc (l.getD i default))[j]? := by
  rw [flat_get enc (by omega) l h, show (i * s + j) / s = i by rw [Nat.mul_comm, Nat.mul_add_div (by omega), Nat.div_eq_of_lt hj]; rfl, show (i * s + j) % s = j by rw [Nat.mul_comm, Nat.mul_add_mod, Nat.mod_eq_of_lt hj]]
  simp [List.getElem?_eq_getElem hi, List.getD_eq_getElem?_getD]
end Go.Sim
