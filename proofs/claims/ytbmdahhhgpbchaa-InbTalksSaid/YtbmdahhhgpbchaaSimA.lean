-- The generic part of this repo's walks over an abstract state (wip/sim), laid by mksim.py.
import Derived.Below
import Derived.Orders
import Derived.Deep.LoopGhost
import Derived.Carry
import Derived.RangeFuncOwn
import Derived.MapKept
import Derived.Laws.Tables
import Derived.Laws.AppendOwn
import Derived.Laws.MakeOwn
import Derived.Laws.Slices
import Derived.Laws.StructEq
import Derived.Laws.Entries
import Derived.DeepKeys
import Derived.Laws.BitsLemmas
import Derived.Lib.ConvBytes
import Derived.Laws.Pointers
namespace Go.Sim
open Go.RowKit
set_option linter.unusedVariables false

inductive AV where
  | un
  | sc (v : Value)
  | nl
  | fz (n : Nat) (cells : List AV)
  | lv (id off len : Nat)
  | pt (id off : Nat)
  | fp (cells : List AV) (off : Nat)
  | ag (cells : List AV)
  | tu (vs : List AV)
  | fn (f : FuncId) (caps : List AV)
  | bf (f : FuncId) (x : AV)
  | fq (n : Nat) (cells : List AV)
  | mp (ks : List Int) (vs : List AV)
  deriving Inhabited

structure Blk where
  block : Nat
  size : Nat
  esz : Nat

abbrev Lay := Nat → Option (Option Blk)
def noLay : Lay := fun _ => none

structure MapIs (es : Array MapEntry) (ck : Nat) (ks : List Int) (g : Nat → Value) : Prop where
  st : Go.MapKept.Stamped es ck
  nodup : ks.Nodup
  fwd : ∀ e ∈ es.toList, ∃ i k, ks[i]? = some k ∧ e.key = .int .i64 k ∧ e.val = g i
  bwd : ∀ i k, ks[i]? = some k → ∃ e ∈ es.toList, e.key = .int .i64 k ∧ e.val = g i
inductive VR (w : World) (S : Nat → Nat → Prop) : Lay → AV → Value → Prop
  | un (L v) : VR w S L .un v
  | sc (L v) : VR w S L (.sc v) v
  | nl (L) : VR w S L .nl (.slice none 0 0)
  | fz0 (L A c) : VR w S L (.fz 0 []) (.slice A 0 c)
  | fz (L n cells b o c) (g : Nat → Value) (h0 : n ≤ c)
      (h1 : ∀ i, i < cells.length → S b (o + i) ∧ w.cell? ⟨b, o + i, none⟩ = some (g i))
      (h2 : ∀ i x, cells[i]? = some x → VR w S noLay x (g i)) : VR w S L (.fz n cells) (.slice (some ⟨b, o, none⟩) n c)
  | lv (L id off len) (B : Blk) (A cap) (h : L id = some (some B)) (h0 : len ≤ cap)
      (h1 : 0 < cap → A = some ⟨B.block, off, none⟩) (h2 : off + cap * B.esz ≤ B.size) : VR w S L (.lv id off len) (.slice A len cap)
  | lvd (L id off len v) (h : L id = some none) : VR w S L (.lv id off len) v
  | pt (L id off) (B : Blk) (h : L id = some (some B)) : VR w S L (.pt id off) (.pointer (some ⟨B.block, off, none⟩))
  | ptd (L id off v) (h : L id = some none) : VR w S L (.pt id off) v
  | fp (L cells off b o) (g : Nat → Value)
      (h1 : ∀ i, i < cells.length → S b (o + i) ∧ w.cell? ⟨b, o + i, none⟩ = some (g i))
      (h2 : ∀ i x, cells[i]? = some x → VR w S noLay x (g i)) : VR w S L (.fp cells off) (.pointer (some ⟨b, o + off, none⟩))
  | ag (L cells) (vs : Array Value) (g : Nat → Value) (h0 : vs.size = cells.length) (h1 : ∀ i, i < cells.length → vs[i]? = some (g i))
      (h2 : ∀ i x, cells[i]? = some x → VR w S L x (g i)) : VR w S L (.ag cells) (.agg vs)
  | tu (L cells) (vs : Array Value) (g : Nat → Value) (h0 : vs.size = cells.length) (h1 : ∀ i, i < cells.length → vs[i]? = some (g i))
      (h2 : ∀ i x, cells[i]? = some x → VR w S L x (g i)) : VR w S L (.tu cells) (.tuple vs)
  | fn (L f cells) (vs : Array Value) (g : Nat → Value) (h0 : vs.size = cells.length) (h1 : ∀ i, i < cells.length → vs[i]? = some (g i))
      (h2 : ∀ i x, cells[i]? = some x → VR w S L x (g i)) : VR w S L (.fn f cells) (.func (.func f) #[] vs)
  | bf (L f x v) (h : VR w S L x v) : VR w S L (.bf f x) (.func (.func f) #[v] #[])
  | fq0 (L A) : VR w S L (.fq 0 []) (.slice A 0 0)
  | fq (L n cells b o) (g : Nat → Value)
      (h1 : ∀ i, i < cells.length → S b (o + i) ∧ w.cell? ⟨b, o + i, none⟩ = some (g i))
      (h2 : ∀ i x, cells[i]? = some x → VR w S noLay x (g i)) : VR w S L (.fq n cells) (.slice (some ⟨b, o, none⟩) n n)
  | mp0 (L) : VR w S L (.mp [] []) (.map none)
  | mp (L ks vs r es ck) (g : Nat → Value) (h0 : vs.length = ks.length) (hm : w.heap[r]? = some (.map es ck)) (h1 : MapIs es ck ks g)
      (h2 : ∀ i x, vs[i]? = some x → VR w S noLay x (g i)) : VR w S L (.mp ks vs) (.map (some r))
def MpK (w w' : World) : Prop := ∀ (b : Nat) (es : Array MapEntry) (ck : Nat), w.heap[b]? = some (Obj.map es ck) → w'.heap[b]? = some (Obj.map es ck)
theorem MpK.refl (w : World) : MpK w w := fun _ _ _ h => h
theorem MpK.trans {a b c : World} (h : MpK a b) (k : MpK b c) : MpK a c := fun _ _ _ x => k _ _ _ (h _ _ _ x)
def NcK (w w' : World) : Prop := ∀ (b : Nat) (o : Obj), w.heap[b]? = some o → o.isCells = false → w'.heap[b]? = some o
theorem NcK.refl (w : World) : NcK w w := fun _ _ h _ => h
theorem NcK.trans {a b c : World} (h : NcK a b) (k : NcK b c) : NcK a c := fun _ _ x y => k _ _ (h _ _ x y) y
theorem NcK.weak {w w' : World} (h : NcK w w') : MpK w w' := fun _ _ _ x => h _ _ x rfl
theorem NcK.of_heap {w w' : World} (h : w'.heap = w.heap) : NcK w w' := fun _ _ x _ => by rw [h]; exact x
theorem NcK.of_lt {w w' : World} (h : ∀ k, k < w.heap.size → w'.heap[k]? = w.heap[k]?) : NcK w w' := fun b _ x _ => by
  rw [h b (Array.getElem?_eq_some_iff.1 x).1]; exact x
theorem NcK.of_one {w w' : World} {j : Nat} {C : Array Value} {T : TypeId} {fr : Nat × Nat} (hj : w.heap[j]? = some (.cells C T fr)) (h : ∀ k, k < w.heap.size → k ≠ j → w'.heap[k]? = w.heap[k]?) : NcK w w' := fun b o x y => by
  have hb : b ≠ j := fun e => by subst e; rw [hj] at x; injection x with x; subst x; cases y
  rw [h b (Array.getElem?_eq_some_iff.1 x).1 hb]; exact x
theorem VR.move {w w' : World} {S S' : Nat → Nat → Prop} {L : Lay} {x : AV} {v : Value} (h : VR w S L x v)
    (hS : ∀ b i u, S b i → w.cell? ⟨b, i, none⟩ = some u → S' b i ∧ w'.cell? ⟨b, i, none⟩ = some u) :
    ∀ {L' : Lay}, (∀ id y, L id = some y → L' id = some y ∨ L' id = some none) → (hM : MpK w w' := by first | assumption | exact NcK.weak (by assumption) | exact MpK.refl _) → VR w' S' L' x v := by
  intro L' hL hM
  revert L'
  induction h with
  | un L v => exact fun _ => .un _ _
  | sc L v => exact fun _ => .sc _ _
  | nl L => exact fun _ => .nl _
  | fz0 L A c => exact fun _ => .fz0 _ _ _
  | fz L n cells b o c g h0 h1 h2 ih =>
    exact fun _ => .fz _ _ _ _ _ _ g h0 (fun i hi => hS _ _ _ (h1 i hi).1 (h1 i hi).2) (fun i x hx => ih i x hx (fun id y hy => by cases hy))
  | lv L id off len B A cap h h0 h1 h2 =>
    intro L' hL
    rcases hL _ _ h with h' | h'
    · exact .lv _ _ _ _ B _ _ h' h0 h1 h2
    · exact .lvd _ _ _ _ _ h'
  | lvd L id off len v h => exact fun hL => .lvd _ _ _ _ _ (by rcases hL _ _ h with h' | h' <;> exact h')
  | pt L id off B h =>
    intro L' hL
    rcases hL _ _ h with h' | h'
    · exact .pt _ _ _ B h'
    · exact .ptd _ _ _ _ h'
  | ptd L id off v h => exact fun hL => .ptd _ _ _ _ (by rcases hL _ _ h with h' | h' <;> exact h')
  | fp L cells off b o g h1 h2 ih =>
    exact fun _ => .fp _ _ _ _ _ g (fun i hi => hS _ _ _ (h1 i hi).1 (h1 i hi).2) (fun i x hx => ih i x hx (fun id y hy => by cases hy))
  | ag L cells vs g h0 h1 h2 ih => exact fun hL => .ag _ _ _ g h0 h1 (fun i x hx => ih i x hx hL)
  | tu L cells vs g h0 h1 h2 ih => exact fun hL => .tu _ _ _ g h0 h1 (fun i x hx => ih i x hx hL)
  | fn L f cells vs g h0 h1 h2 ih => exact fun hL => .fn _ _ _ _ g h0 h1 (fun i x hx => ih i x hx hL)
  | bf L f x v h ih => exact fun hL => .bf _ _ _ _ (ih hL)
  | fq0 L A => exact fun _ => .fq0 _ _
  | fq L n cells b o g h1 h2 ih =>
    exact fun _ => .fq _ _ _ _ _ g (fun i hi => hS _ _ _ (h1 i hi).1 (h1 i hi).2) (fun i x hx => ih i x hx (fun id y hy => by cases hy))
  | mp0 L => exact fun _ => .mp0 _
  | mp L ks vs r es ck g h0 hm h1 h2 ih => exact fun _ => .mp _ _ _ _ es ck g h0 (hM _ _ _ hm) h1 (fun i x hx => ih i x hx (fun id y hy => by cases hy))

def look {α : Type} : List (Nat × α) → Nat → Option α
  | [], _ => none
  | x :: xs, k => if x.1 = k then some x.2 else look xs k
def ins {α : Type} : List (Nat × α) → Nat → α → List (Nat × α)
  | [], k, v => [(k, v)]
  | x :: xs, k, v => if k < x.1 then (k, v) :: x :: xs else if x.1 = k then (k, v) :: xs else x :: ins xs k v
def del {α : Type} : List (Nat × α) → Nat → List (Nat × α)
  | [], _ => []
  | x :: xs, k => if x.1 = k then del xs k else x :: del xs k
theorem look_ins {α : Type} (l : List (Nat × α)) (k : Nat) (v : α) (j : Nat) : look (ins l k v) j = if k = j then some v else look l j := by
  induction l with
  | nil => simp [ins, look]
  | cons x xs ih =>
    unfold ins
    split
    · simp [look]
    · split
      · rename_i h1 h2
        simp only [look]
        by_cases hj : k = j
        · rw [if_pos hj, if_pos hj]
        · rw [if_neg hj, if_neg hj, if_neg (by omega)]
      · rename_i h1 h2
        simp only [look, ih]
        by_cases hx : x.1 = j
        · rw [if_pos hx, if_pos hx, if_neg (by omega)]
        · rw [if_neg hx, if_neg hx]
theorem look_del {α : Type} (l : List (Nat × α)) (k j : Nat) : look (del l k) j = if k = j then none else look l j := by
  induction l with
  | nil => simp [del, look]
  | cons x xs ih =>
    unfold del
    split
    · rename_i h
      rw [ih]
      simp only [look]
      by_cases hj : k = j
      · rw [if_pos hj, if_pos hj]
      · rw [if_neg hj, if_neg hj, if_neg (by omega)]
    · rename_i h
      simp only [look, ih]
      by_cases hx : x.1 = j
      · rw [if_pos hx, if_pos hx, if_neg (by omega)]
      · rw [if_neg hx, if_neg hx]

structure Ob where
  cells : List AV
  esz : Nat
  hw : Nat
structure St where
  sl : List (Nat × AV)
  hp : List (Nat × Ob)
  nx : Nat
structure Cx where
  P : Program
  W : World
  n : Nat
  I : Nat → Prop
  S : Nat → Nat → Prop
  m : Nat
  L0 : Lay
  B : Nat

def ofCell : Value → AV
  | .slice none 0 0 => .nl
  | .map none => .mp [] []
  | v => .sc v
def ofVal : Value → AV
  | .slice none 0 0 => .nl
  | .map none => .mp [] []
  | .agg cs => .ag (cs.toList.map ofCell)
  | v => .sc v
theorem ofCell_vr (w : World) (S : Nat → Nat → Prop) (L : Lay) (v : Value) : VR w S L (ofCell v) v := by
  unfold ofCell
  split
  · exact .nl _
  · exact .mp0 _
  · exact .sc _ _
theorem ofVal_vr (w : World) (S : Nat → Nat → Prop) (L : Lay) (v : Value) : VR w S L (ofVal v) v := by
  unfold ofVal
  split
  · exact .nl _
  · exact .mp0 _
  · rename_i cs
    refine .ag _ _ _ (fun i => cs.getD i undef) (by simp) (fun i hi => ?_) (fun i x hx => ?_)
    · simp at hi
      simp [hi]
    · simp at hx
      obtain ⟨u, hu, rfl⟩ := hx
      have : cs.getD i undef = u := by simp [hu]
      rw [this]
      exact ofCell_vr ..
  · exact .sc _ _
def St.get (st : St) (t : Nat) : AV := (look st.sl t).getD .un
def St.put (st : St) (d : Option Nat) (v : AV) : St := match d with | some d => { st with sl := ins st.sl d v } | none => st
def St.ev (st : St) : Operand → AV
  | .tmp t => st.get t
  | .const v => ofVal v
  | .global _ => .un
  | .func f => .fn f []
def St.up (st : St) : List (Nat × Option Ob) → St
  | [] => st
  | (k, some o) :: r => St.up { st with hp := ins st.hp k o } r
  | (k, none) :: r => St.up { st with hp := del st.hp k } r

def own (L : Lay) (hp : List (Nat × Ob)) (b i : Nat) : Prop := ∃ id o B, look hp id = some o ∧ L id = some (some B) ∧ B.block = b ∧ o.hw ≤ i ∧ i < B.size
def sta (c : Cx) (L : Lay) (hp : List (Nat × Ob)) (b i : Nat) : Prop := c.S b i ∨ ((c.I b ∨ c.W.heap.size ≤ b) ∧ ¬ own L hp b i)

structure Upd (I : Nat → Prop) (w w' : World) : Prop where
  os : w'.os = w.os
  tape : w'.tape = w.tape
  output : w'.output = w.output
  size : w.heap.size ≤ w'.heap.size
  block : ∀ k, k < w.heap.size → ¬ I k → w'.heap[k]? = w.heap[k]?
  maps : NcK w w'

structure HR (c : Cx) (L : Lay) (hp : List (Nat × Ob)) (w : World) : Prop where
  live : ∀ id o, look hp id = some o → ∃ B, L id = some (some B) ∧ B.esz = o.esz ∧ o.cells.length ≤ B.size ∧
    (B.size ≠ 0 → ∃ C T fr, w.heap[B.block]? = some (.cells C T fr) ∧ C.size = B.size ∧ (fr.1 = fr.2 ∨ B.size ≤ fr.1) ∧ ∀ i x, o.cells[i]? = some x → VR w (sta c L hp) L x (C.getD i undef))
  dead : ∀ id B, L id = some (some B) → ∃ o, look hp id = some o
  inj : ∀ id id' B B', L id = some (some B) → L id' = some (some B') → B.size ≠ 0 → B'.size ≠ 0 → B.block = B'.block → id = id'
  mine : ∀ id B, L id = some (some B) → B.size ≠ 0 → c.I B.block ∨ c.W.heap.size ≤ B.block
  kept : ∀ b i, c.S b i → b < c.W.heap.size ∧ ¬ c.I b
  upd : Upd c.I c.W w
theorem HR.real {c : Cx} {L : Lay} {hp : List (Nat × Ob)} {w : World} (h : HR c L hp w) {id : Nat} {o : Ob} (ho : look hp id = some o) (hz : o.cells.length ≠ 0) :
    ∃ B C T fr, L id = some (some B) ∧ w.heap[B.block]? = some (.cells C T fr) ∧ C.size = B.size ∧ B.esz = o.esz ∧ o.cells.length ≤ B.size ∧ (fr.1 = fr.2 ∨ B.size ≤ fr.1) ∧
      ∀ i x, o.cells[i]? = some x → VR w (sta c L hp) L x (C.getD i undef) := by
  obtain ⟨B, h1, h2, h3, h4⟩ := h.live id o ho
  obtain ⟨C, T, fr, h5, h6, h7, h8⟩ := h4 (by omega)
  exact ⟨B, C, T, fr, h1, h5, h6, h2, h3, h7, h8⟩

def markD (D : Nat) : Deferred := { target := .collected D, args := #[] }
def okD (c : Cx) (w : World) (d : List Deferred) : Prop := ∃ Ds : List Nat, d = Ds.map markD ∧ Ds.Nodup ∧ ∀ D ∈ Ds, c.B ≤ D ∧ w.heap[D]? = some (.deferred (some []))
theorem okD.nil {c : Cx} {w : World} : okD c w [] := ⟨[], rfl, List.nodup_nil, fun D h => absurd h (List.not_mem_nil)⟩
theorem okD.move {c : Cx} {w w' : World} {d : List Deferred} (h : okD c w d) (hM : NcK w w') : okD c w' d := by
  obtain ⟨Ds, h1, h2, h3⟩ := h
  exact ⟨Ds, h1, h2, fun D hD => ⟨(h3 D hD).1, hM _ _ (h3 D hD).2 rfl⟩⟩
structure Rel (c : Cx) (L : Lay) (F : Nat → Prop) (st : St) (a : Act) (w : World) : Prop where
  hr : HR c L st.hp w
  fresh : ∀ id, F id → L id = none
  defs : okD c w a.defers
  size : a.tmps.size = c.n
  slot : ∀ t, VR w (sta c L st.hp) L (st.get t) (a.tmps.getD t undef)
  ext : ∀ id y, c.L0 id = some y → L id = some y ∨ L id = some none

def Does (c : Cx) (F : Nat → Prop) (o : Oper) (st : St) (F' : Nat → Prop) (st' : St) : Prop :=
  ∀ L a w (K : Act → World → Prop) (Q : Exit → Act → World → Prop), Rel c L F st a w → (∀ L' a' w', Rel c L' F' st' a' w' → K a' w') → o.wp c.P a w K Q

theorem Rel.ev {c : Cx} {L : Lay} {F : Nat → Prop} {st : St} {a : Act} {w : World} (h : Rel c L F st a w) (x : Operand) : VR w (sta c L st.hp) L (st.ev x) (a.eval x) := by
  cases x with
  | tmp t => exact h.slot t
  | const v => exact ofVal_vr ..
  | global g => exact .un _ _
  | func f => exact .fn _ _ _ _ (fun _ => undef) rfl (fun i hi => by simp at hi) (fun i x hx => by simp at hx)
theorem get_put (st : St) (d : Option Nat) (v : AV) (t : Nat) : (st.put d v).get t = if d = some t then v else st.get t := by
  cases d with
  | none => simp [St.put]
  | some d =>
    simp only [St.put, St.get, look_ins]
    by_cases h : d = t <;> simp [h]
theorem put_hp (st : St) (d : Option Nat) (v : AV) : (st.put d v).hp = st.hp := by cases d <;> rfl
theorem Rel.put {c : Cx} {L : Lay} {F : Nat → Prop} {st : St} {a : Act} {w : World} (h : Rel c L F st a w) {d : Option Nat} (hd : ∀ k, d = some k → k < c.n) {x : AV} {v : Value}
    (hv : VR w (sta c L st.hp) L x v) : Rel c L F (st.put d x) (a.put d v) w := by
  refine ⟨by rw [put_hp]; exact h.hr, h.fresh, ?_, ?_, ?_, h.ext⟩
  · cases d <;> exact h.defs
  · cases d <;> simp [Act.put, h.size]
  · intro t
    rw [get_put, put_hp]
    cases d with
    | none => simpa [Act.put] using h.slot t
    | some d =>
      have hd' := hd d rfl
      by_cases e : d = t
      · subst e
        simp [Act.put, h.size, hd', hv]
      · rw [if_neg (by simpa using e)]
        have := h.slot t
        simpa [Act.put, Array.getElem?_setIfInBounds, e] using this
theorem Rel.mono {c : Cx} {L : Lay} {F F' : Nat → Prop} {st : St} {a : Act} {w : World} (h : Rel c L F st a w) (hF : ∀ id, F' id → F id) : Rel c L F' st a w :=
  ⟨h.hr, fun id hi => h.fresh id (hF id hi), h.defs, h.size, h.slot, h.ext⟩

end Go.Sim

namespace Go.Sim
open Go.RowKit
set_option linter.unusedVariables false
set_option linter.unusedSimpArgs false

def siz (P : Program) (t : TypeId) : Nat := match P.info? t with | some i => i.size | none => 0
def ags (P : Program) (t : TypeId) : Bool := match P.underlying t with | some (.struct _) | some (.array _ _) => true | _ => false
def elm (P : Program) (t : TypeId) : Option TypeId := match P.underlying t with | some (.slice e) => some e | _ => none
def arr (P : Program) (t : TypeId) : Option (Nat × TypeId) := match P.underlying t with | some (.array n e) => some (n, e) | _ => none
def fld (P : Program) (t : TypeId) (k : Nat) : Option (Nat × TypeId) := match P.underlying t with | some (.struct fs) => (match fs[k]? with | some f => some (f.offset, f.type) | none => none) | _ => none
def ikd (P : Program) (t : TypeId) : Option IntKind := match P.underlying t with | some (.int k) => some k | _ => none
def isStr (P : Program) (t : TypeId) : Bool := match P.underlying t with | some .string => true | _ => false
def isBool (P : Program) (t : TypeId) : Bool := match P.underlying t with | some .bool => true | _ => false
def isPtr (P : Program) (t : TypeId) : Bool := match P.underlying t with | some (.pointer _) => true | _ => false

theorem elm_spec {P : Program} {t e : TypeId} (h : elm P t = some e) : P.underlying t = some (.slice e) := by
  unfold elm at h; split at h <;> simp_all
theorem arr_spec {P : Program} {t e : TypeId} {n : Nat} (h : arr P t = some (n, e)) : P.underlying t = some (.array n e) := by
  unfold arr at h; split at h <;> simp_all
theorem ikd_spec {P : Program} {t : TypeId} {k : IntKind} (h : ikd P t = some k) : P.underlying t = some (.int k) := by
  unfold ikd at h; split at h <;> simp_all
theorem isStr_spec {P : Program} {t : TypeId} (h : isStr P t = true) : P.underlying t = some .string := by
  unfold isStr at h; split at h <;> simp_all
theorem isBool_spec {P : Program} {t : TypeId} (h : isBool P t = true) : P.underlying t = some .bool := by
  unfold isBool at h; split at h <;> simp_all
theorem isPtr_spec {P : Program} {t : TypeId} (h : isPtr P t = true) : ∃ e, P.underlying t = some (.pointer e) := by
  unfold isPtr at h; split at h <;> simp_all
theorem siz_spec {P : Program} {t : TypeId} (h : siz P t ≠ 0) : ∃ i, P.info? t = some i ∧ i.size = siz P t := by
  unfold siz at *
  cases hi : P.info? t with
  | none => simp [hi] at h
  | some i => exact ⟨i, rfl, rfl⟩
theorem fld_spec {P : Program} {t ft : TypeId} {k off : Nat} (h : fld P t k = some (off, ft)) : ∃ fs f, P.underlying t = some (.struct fs) ∧ fs[k]? = some f ∧ f.offset = off ∧ f.type = ft := by
  unfold fld at h
  split at h
  · rename_i fs hu
    split at h
    · rename_i f hf
      simp at h
      exact ⟨fs, f, hu, hf, h.1, h.2⟩
    · cases h
  · cases h
theorem run_sizeOf' {P : Program} (w : World) {t : TypeId} (h : siz P t ≠ 0) : (sizeOf t).run P w = .ok (siz P t) w := by
  obtain ⟨i, h1, h2⟩ := siz_spec h
  simp [sizeOf, typeInfo, h1, h2]
theorem run_isAgg' {P : Program} (w : World) {t : TypeId} {d : TypeDesc} (h : P.underlying t = some d) : (isAgg t).run P w = .ok (ags P t) w := by
  unfold isAgg ags
  rw [Sem.run_bind, run_underlying h]
  simp only [Result.andThen_ok, h]
  cases d <;> rfl
section
variable {w : World} {S : Nat → Nat → Prop} {L : Lay}
theorem VR.sc_eq {u v : Value} (h : VR w S L (.sc u) v) : v = u := by cases h; rfl
theorem VR.nl_eq {v : Value} (h : VR w S L .nl v) : v = .slice none 0 0 := by cases h; rfl
theorem VR.pt_eq {id off : Nat} {v : Value} {B : Blk} (h : VR w S L (.pt id off) v) (hL : L id = some (some B)) : v = .pointer (some ⟨B.block, off, none⟩) := by
  cases h with
  | pt L id off B' h => rw [hL] at h; injection h with h; injection h with h; rw [h]
  | ptd L id off v h => rw [hL] at h; cases h
theorem VR.lv_eq {id off len : Nat} {v : Value} {B : Blk} (h : VR w S L (.lv id off len) v) (hL : L id = some (some B)) :
    ∃ A cap, v = .slice A len cap ∧ len ≤ cap ∧ (0 < cap → A = some ⟨B.block, off, none⟩) ∧ off + cap * B.esz ≤ B.size := by
  cases h with
  | lv L id off len B' A cap h h0 h1 h2 =>
    rw [hL] at h; injection h with h; injection h with h; subst h
    exact ⟨A, cap, rfl, h0, h1, h2⟩
  | lvd L id off len v h => rw [hL] at h; cases h
theorem VR.fz_eq {n : Nat} {cells : List AV} {v : Value} (h : VR w S L (.fz n cells) v) :
    ∃ A c, v = .slice A n c ∧ n ≤ c ∧ (cells = [] ∧ n = 0 ∨ ∃ (b o : Nat) (g : Nat → Value), A = some ⟨b, o, none⟩ ∧ (∀ i, i < cells.length → S b (o + i) ∧ w.cell? ⟨b, o + i, none⟩ = some (g i)) ∧ ∀ i x, cells[i]? = some x → VR w S noLay x (g i)) := by
  cases h with
  | fz0 L A c => exact ⟨A, c, rfl, Nat.zero_le _, .inl ⟨rfl, rfl⟩⟩
  | fz L n cells b o c g h0 h1 h2 => exact ⟨_, c, rfl, h0, .inr ⟨b, o, g, rfl, h1, h2⟩⟩
theorem VR.fq_eq {n : Nat} {cells : List AV} {v : Value} (h : VR w S L (.fq n cells) v) :
    ∃ A, v = .slice A n n ∧ (cells = [] ∧ n = 0 ∨ ∃ (b o : Nat) (g : Nat → Value), A = some ⟨b, o, none⟩ ∧ (∀ i, i < cells.length → S b (o + i) ∧ w.cell? ⟨b, o + i, none⟩ = some (g i)) ∧ ∀ i x, cells[i]? = some x → VR w S noLay x (g i)) := by
  cases h with
  | fq0 L A => exact ⟨A, rfl, .inl ⟨rfl, rfl⟩⟩
  | fq L n cells b o g h1 h2 => exact ⟨_, rfl, .inr ⟨b, o, g, rfl, h1, h2⟩⟩
theorem VR.fq_fz {n : Nat} {cells : List AV} {v : Value} (h : VR w S L (.fq n cells) v) : VR w S L (.fz n cells) v := by
  cases h with
  | fq0 L A => exact .fz0 _ _ _
  | fq L n cells b o g h1 h2 => exact .fz _ _ _ _ _ _ g (Nat.le_refl _) h1 h2
theorem VR.mp_eq {ks : List Int} {vs : List AV} {v : Value} (h : VR w S L (.mp ks vs) v) : ∃ m, v = .map m := by
  cases h with
  | mp0 L => exact ⟨_, rfl⟩
  | mp L ks vs r es ck g h0 hm h1 h2 => exact ⟨_, rfl⟩
theorem VR.fp_eq {cells : List AV} {off : Nat} {v : Value} (h : VR w S L (.fp cells off) v) :
    ∃ (b o : Nat) (g : Nat → Value), v = .pointer (some ⟨b, o + off, none⟩) ∧ (∀ i, i < cells.length → S b (o + i) ∧ w.cell? ⟨b, o + i, none⟩ = some (g i)) ∧ ∀ i x, cells[i]? = some x → VR w S noLay x (g i) := by
  cases h with
  | fp L cells off b o g h1 h2 => exact ⟨b, o, g, rfl, h1, h2⟩
theorem VR.ag_eq {cells : List AV} {v : Value} (h : VR w S L (.ag cells) v) :
    ∃ (vs : Array Value) (g : Nat → Value), v = .agg vs ∧ vs.size = cells.length ∧ (∀ i, i < cells.length → vs[i]? = some (g i)) ∧ ∀ i x, cells[i]? = some x → VR w S L x (g i) := by
  cases h with
  | ag L cells vs g h0 h1 h2 => exact ⟨vs, g, rfl, h0, h1, h2⟩
theorem VR.tu_eq {cells : List AV} {v : Value} (h : VR w S L (.tu cells) v) :
    ∃ (vs : Array Value) (g : Nat → Value), v = .tuple vs ∧ vs.size = cells.length ∧ (∀ i, i < cells.length → vs[i]? = some (g i)) ∧ ∀ i x, cells[i]? = some x → VR w S L x (g i) := by
  cases h with
  | tu L cells vs g h0 h1 h2 => exact ⟨vs, g, rfl, h0, h1, h2⟩
theorem VR.fn_eq {f : FuncId} {cells : List AV} {v : Value} (h : VR w S L (.fn f cells) v) :
    ∃ (vs : Array Value) (g : Nat → Value), v = .func (.func f) #[] vs ∧ vs.size = cells.length ∧ (∀ i, i < cells.length → vs[i]? = some (g i)) ∧ ∀ i x, cells[i]? = some x → VR w S L x (g i) := by
  cases h with
  | fn L f cells vs g h0 h1 h2 => exact ⟨vs, g, rfl, h0, h1, h2⟩
theorem VR.bf_eq {f : FuncId} {x : AV} {v : Value} (h : VR w S L (.bf f x) v) : ∃ u, v = .func (.func f) #[u] #[] ∧ VR w S L x u := by
  cases h with
  | bf L f x u h => exact ⟨u, rfl, h⟩
theorem VR.of_no {x : AV} {v : Value} (h : VR w S noLay x v) (L : Lay) : VR w S L x v :=
  h.move (fun b i u hs hc => ⟨hs, hc⟩) (fun id y hy => by cases hy)
end

def rdn (cells : List AV) (off : Nat) : Nat → List AV
  | 0 => []
  | n + 1 => cells.getD off .un :: rdn cells (off + 1) n
theorem rdn_length (cells : List AV) (off n : Nat) : (rdn cells off n).length = n := by
  induction n generalizing off with
  | zero => rfl
  | succ n ih => simp [rdn, ih]
theorem rdn_get (cells : List AV) (off n i : Nat) (h : i < n) : (rdn cells off n)[i]? = some (cells.getD (off + i) .un) := by
  induction n generalizing off i with
  | zero => omega
  | succ n ih =>
    cases i with
    | zero => simp [rdn]
    | succ i =>
      simp only [rdn, List.getElem?_cons_succ]
      rw [ih (off + 1) i (by omega)]
      congr 2
      omega
def rdc (P : Program) (cells : List AV) (off : Nat) (t : TypeId) : AV := if ags P t then .ag (rdn cells off (siz P t)) else cells.getD off .un

theorem add_mk (b o n : Nat) : (⟨b, o, none⟩ : Addr).add n = ⟨b, o + n, none⟩ := by
  unfold Addr.add; split <;> simp_all

theorem run_load_cells {P : Program} {w : World} {S : Nat → Nat → Prop} {L : Lay} {t : TypeId} {d : TypeDesc} (hu : P.underlying t = some d) (hs : siz P t ≠ 0) (h1 : ags P t = true ∨ siz P t = 1)
    {cells : List AV} {b o off : Nat} {g : Nat → Value} (hc : ∀ i, i < cells.length → w.cell? ⟨b, o + i, none⟩ = some (g i)) (hv : ∀ i x, cells[i]? = some x → VR w S L x (g i))
    (hoff : off + siz P t ≤ cells.length) : ∃ v, (loadVar t ⟨b, o + off, none⟩).run P w = .ok v w ∧ VR w S L (rdc P cells off t) v := by
  unfold loadVar
  rw [Sem.run_bind, run_isAgg' w hu]
  simp only [Result.andThen_ok, rdc]
  by_cases ha : ags P t = true
  · rw [if_pos ha, if_pos ha]
    have hl := run_loadCells_list (P := P) w ⟨b, o + off, none⟩ ((List.range (siz P t)).map fun j => g (off + j)) (fun j v hj => by
      have hjl : j < siz P t := by
        have := (List.getElem?_eq_some_iff.1 hj).1
        simpa using this
      simp [List.getElem?_map, List.getElem?_range hjl] at hj
      subst hj
      rw [add_mk, Nat.add_assoc]
      exact hc _ (by omega))
    simp only [List.length_map, List.length_range] at hl
    refine ⟨.agg ((List.range (siz P t)).map fun j => g (off + j)).toArray, ?_, ?_⟩
    · simp only [if_true, Sem.run_bind, run_sizeOf' w hs, Result.andThen_ok, hl]
      rfl
    · refine .ag _ _ _ (fun j => g (off + j)) (by simp [rdn_length]) (fun i hi => ?_) (fun i x hx => ?_)
      · rw [rdn_length] at hi
        simp [hi]
      · have hi : i < siz P t := by
          have := (List.getElem?_eq_some_iff.1 hx).1
          rwa [rdn_length] at this
        rw [rdn_get _ _ _ _ hi] at hx
        injection hx with hx
        subst hx
        have : off + i < cells.length := by omega
        refine hv (off + i) _ ?_
        simp [List.getD_eq_getElem?_getD, this]
  · have h1' : siz P t = 1 := by rcases h1 with h | h; exact absurd h ha; exact h
    rw [if_neg ha]
    have ha' : ags P t = false := by simpa using ha
    simp only [ha']
    refine ⟨g off, ?_, ?_⟩
    · have := hc off (by omega)
      simp [load, Sem.run, this]
    · have hlt : off < cells.length := by omega
      refine hv off _ ?_
      simp [List.getD_eq_getElem?_getD, hlt]

def good (P : Program) (t : TypeId) : Bool := (P.underlying t).isSome && siz P t != 0 && (ags P t || siz P t == 1)
theorem good_spec {P : Program} {t : TypeId} (h : good P t = true) : ∃ d, P.underlying t = some d ∧ siz P t ≠ 0 ∧ (ags P t = true ∨ siz P t = 1) := by
  simp only [good, Bool.and_eq_true, bne_iff_ne, Bool.or_eq_true, beq_iff_eq] at h
  obtain ⟨⟨h1, h2⟩, h3⟩ := h
  obtain ⟨d, hd⟩ := Option.isSome_iff_exists.1 h1
  exact ⟨d, hd, h2, h3⟩

def cel (st : St) : AV → Option (List AV)
  | .ag cs => some cs
  | .sc v => if v.oneCell' then some [.sc v] else none
  | .nl => some [.nl]
  | .fz n c => some [.fz n c]
  | .lv id off len => if (look st.hp id).isSome then some [.lv id off len] else none
  | .pt id off => if (look st.hp id).isSome then some [.pt id off] else none
  | .fp c o => some [.fp c o]
  | .fn f c => some [.fn f c]
  | .mp k v => some [.mp k v]
  | .un | .tu _ | .bf _ _ | .fq _ _ => none
theorem cells_one {v : Value} (h : v.oneCell' = true) : v.cells = #[v] := by
  cases v <;> simp_all [Value.cells, Value.oneCell']
def VRs (w : World) (S : Nat → Nat → Prop) (L : Lay) (cs : List AV) (vs : List Value) : Prop := vs.length = cs.length ∧ ∀ i x, cs[i]? = some x → VR w S L x (vs.getD i undef)
theorem Rel.cel {c : Cx} {L : Lay} {F : Nat → Prop} {st : St} {a : Act} {w : World} (h : Rel c L F st a w) {x : AV} {v : Value} (hv : VR w (sta c L st.hp) L x v) {cs : List AV}
    (hc : cel st x = some cs) : VRs w (sta c L st.hp) L cs v.cells.toList := by
  have one : v.oneCell' = true → cs = [x] → VRs w (sta c L st.hp) L cs v.cells.toList := by
    intro h1 h2
    rw [cells_one h1, h2]
    refine ⟨rfl, fun i y hy => ?_⟩
    cases i with
    | zero => simp at hy; subst hy; exact hv
    | succ i => simp at hy
  cases x with
  | un => cases hc
  | bf f y => cases hc
  | tu vs => cases hc
  | fq n cells => cases hc
  | mp ks vs => injection hc with hc; obtain ⟨m, rfl⟩ := hv.mp_eq; exact one rfl hc.symm
  | sc u =>
    simp only [Sim.cel] at hc
    split at hc
    · rename_i h1
      injection hc with hc
      have := hv.sc_eq
      subst this
      exact one h1 hc.symm
    · cases hc
  | nl => injection hc with hc; have := hv.nl_eq; subst this; exact one rfl hc.symm
  | fz n cells =>
    injection hc with hc
    obtain ⟨A, c', rfl, _⟩ := hv.fz_eq
    exact one rfl hc.symm
  | lv id off len =>
    simp only [Sim.cel] at hc
    split at hc
    · rename_i h1
      injection hc with hc
      obtain ⟨o, ho⟩ := Option.isSome_iff_exists.1 h1
      obtain ⟨B, hL, _⟩ := h.hr.live id o ho
      obtain ⟨A, cap, rfl, _⟩ := hv.lv_eq hL
      exact one rfl hc.symm
    · cases hc
  | pt id off =>
    simp only [Sim.cel] at hc
    split at hc
    · rename_i h1
      injection hc with hc
      obtain ⟨o, ho⟩ := Option.isSome_iff_exists.1 h1
      obtain ⟨B, hL, _⟩ := h.hr.live id o ho
      have := hv.pt_eq hL
      subst this
      exact one rfl hc.symm
    · cases hc
  | fp cells off =>
    injection hc with hc
    obtain ⟨b, o, g, rfl, _⟩ := hv.fp_eq
    exact one rfl hc.symm
  | fn f caps =>
    injection hc with hc
    obtain ⟨vs, g, rfl, _⟩ := hv.fn_eq
    exact one rfl hc.symm
  | ag cells =>
    injection hc with hc
    subst hc
    obtain ⟨vs, g, rfl, h0, h1, h2⟩ := hv.ag_eq
    refine ⟨by simp [Value.cells, h0], fun i x hx => ?_⟩
    have hi := (List.getElem?_eq_some_iff.1 hx).1
    have := h1 i hi
    have e : (Value.agg vs).cells.toList.getD i undef = g i := by
      show vs.toList.getD i undef = g i
      simp [List.getD_eq_getElem?_getD, this]
    rw [e]
    exact h2 i x hx
end Go.Sim

namespace Go.Sim
open Go.RowKit
set_option linter.unusedVariables false
set_option linter.unusedSimpArgs false

inductive LK where
  | i | b | s
  deriving DecidableEq
def lkF (P : Program) (g : TypeId → Option (List LK)) : List Field → Nat → Option (List LK)
  | [], _ => some []
  | f :: fs, off =>
    match g f.type with
    | none => none
    | some l => if f.name ≠ "_" ∧ f.offset = off ∧ l.length = siz P f.type ∧ siz P f.type ≠ 0 then (match lkF P g fs (off + siz P f.type) with | some r => some (l ++ r) | none => none) else none
def lks (P : Program) : Nat → TypeId → Option (List LK)
  | 0, _ => none
  | d + 1, t =>
    match P.underlying t with
    | some (.int _) => some [.i]
    | some .bool => some [.b]
    | some .string => some [.s]
    | some (.struct fs) => if P.stoodInHeld t then none else lkF P (lks P d) fs.toList 0
    | some (.array n e) => match lks P d e with
      | none => none
      | some l => if l.length = siz P e ∧ siz P e ≠ 0 then some (List.replicate n l).flatten else none
    | _ => none
def MK : List LK → List Value → List Value → Prop
  | [], [], [] => True
  | .i :: r, .int k _ :: vs, .int k' _ :: us => k = k' ∧ MK r vs us
  | .b :: r, .bool _ :: vs, .bool _ :: us => MK r vs us
  | .s :: r, .string _ :: vs, .string _ :: us => MK r vs us
  | _, _, _ => False
theorem MK_len : ∀ {l : List LK} {vs us : List Value}, MK l vs us → vs.length = l.length ∧ us.length = l.length := by
  intro l
  induction l with
  | nil => intro vs us h; cases vs <;> cases us <;> simp_all [MK]
  | cons k l ih =>
    intro vs us h
    cases vs with
    | nil => cases k <;> simp [MK] at h
    | cons v vs =>
      cases us with
      | nil => cases k <;> cases v <;> simp [MK] at h
      | cons u us =>
        cases k <;> cases v <;> cases u <;> simp only [MK] at h <;> first
          | exact h.elim
          | (have := ih h.2; simp; omega)
          | (have := ih h; simp; omega)
theorem MK_split : ∀ {l1 l2 : List LK} {vs us : List Value}, MK (l1 ++ l2) vs us → MK l1 (vs.take l1.length) (us.take l1.length) ∧ MK l2 (vs.drop l1.length) (us.drop l1.length) := by
  intro l1
  induction l1 with
  | nil => intro l2 vs us h; exact ⟨trivial, by simpa using h⟩
  | cons k l ih =>
    intro l2 vs us h
    cases vs with
    | nil => cases k <;> simp [MK] at h
    | cons v vs =>
      cases us with
      | nil => cases k <;> cases v <;> simp [MK] at h
      | cons u us =>
        simp only [List.cons_append] at h
        simp only [List.length_cons, List.take_succ_cons, List.drop_succ_cons]
        cases k <;> cases v <;> cases u <;> simp only [MK] at h ⊢ <;> first
          | exact h.elim
          | exact ⟨⟨h.1, (ih h.2).1⟩, (ih h.2).2⟩
          | exact ih h
def Fm (P : Program) (t : TypeId) (v : Value) : Prop := if ags P t then ∃ vs : Array Value, v = .agg vs ∧ vs.size = siz P t else v.oneCell' = true
theorem run_part' {P : Program} {w : World} {t : TypeId} {d : TypeDesc} (hu : P.underlying t = some d) (hs : siz P t ≠ 0) (h1 : ags P t = true ∨ siz P t = 1) {vs : Array Value} {off : Nat} (hoff : off + siz P t ≤ vs.size)
    (hone : ∀ v ∈ vs, v.oneCell' = true) : ∃ p, (part t vs off).run P w = .ok p w ∧ Fm P t p ∧ p.cells.toList = (vs.toList.drop off).take (siz P t) := by
  unfold part Fm
  by_cases ha : ags P t = true
  · refine ⟨.agg (vs.extract off (off + siz P t)), ?_, ?_, ?_⟩
    · rw [Sem.run_bind, run_isAgg' w hu, ha]
      simp [run_sizeOf' w hs]
    · rw [if_pos ha]; exact ⟨_, rfl, by simp; omega⟩
    · simp [Value.cells, List.drop_take]
  · have h1' : siz P t = 1 := by rcases h1 with h | h; exact absurd h ha; exact h
    have ha' : ags P t = false := by simpa using ha
    have hlt : off < vs.size := by omega
    have h1c := hone vs[off] (Array.getElem_mem _)
    refine ⟨vs[off], ?_, ?_, ?_⟩
    · rw [Sem.run_bind, run_isAgg' w hu, ha']
      simp [hlt]
    · rw [if_neg ha]; exact h1c
    · rw [cells_one h1c, h1', List.drop_eq_getElem_cons (by simpa using hlt)]
      simp
theorem lks_shape {P : Program} : ∀ {d : Nat} {t : TypeId} {l : List LK}, lks P d t = some l → ∃ k, P.underlying t = some k ∧ (ags P t = true ∨ l.length = 1) := by
  intro d t l h
  cases d with
  | zero => cases h
  | succ d =>
    simp only [lks] at h
    split at h
    all_goals first
      | (rename_i hu; refine ⟨_, hu, ?_⟩; first | (right; injection h with h; rw [← h]; rfl) | (left; simp [ags, hu]))
      | cases h
theorem take_drop_eq {α : Type} {a b : List α} {n : Nat} (ha : n ≤ a.length) (hb : n ≤ b.length) : a = b ↔ a.take n = b.take n ∧ a.drop n = b.drop n := by
  constructor
  · rintro rfl; exact ⟨rfl, rfl⟩
  · rintro ⟨h1, h2⟩
    rw [← List.take_append_drop n a, ← List.take_append_drop n b, h1, h2]
theorem MK_one : ∀ {l : List LK} {vs us : List Value}, MK l vs us → (∀ v ∈ vs, v.oneCell' = true) ∧ ∀ u ∈ us, u.oneCell' = true := by
  intro l
  induction l with
  | nil => intro vs us h; cases vs <;> cases us <;> simp_all [MK]
  | cons k l ih =>
    intro vs us h
    cases vs with
    | nil => cases k <;> simp [MK] at h
    | cons v vs =>
      cases us with
      | nil => cases k <;> cases v <;> simp [MK] at h
      | cons u us =>
        cases k <;> cases v <;> cases u <;> simp only [MK] at h <;> first
          | exact h.elim
          | (have := ih h.2; simp [Value.oneCell']; exact this)
          | (have := ih h; simp [Value.oneCell']; exact this)
def EQV (P : Program) (D : Nat) (t : TypeId) (l : List LK) : Prop := ∀ (w : World) (v u : Value), Fm P t v → Fm P t u → MK l v.cells.toList u.cells.toList → ∃ r : Bool, (Op.equalIn D t v u).run P w = .ok r w ∧ (r = true ↔ v.cells.toList = u.cells.toList)
theorem eq_fields {P : Program} {d D : Nat} (IH : ∀ t l, lks P d t = some l → EQV P D t l) (w : World) (vs us : Array Value) (h1 : ∀ v ∈ vs, v.oneCell' = true) (h2 : ∀ u ∈ us, u.oneCell' = true) : ∀ (fs : List Field) (off : Nat) (l : List LK), lkF P (lks P d) fs off = some l →
    MK l (vs.toList.drop off) (us.toList.drop off) → ∃ r : Bool, (Op.eqFields D vs us fs).run P w = .ok r w ∧ (r = true ↔ vs.toList.drop off = us.toList.drop off) := by
  intro fs
  induction fs with
  | nil =>
    intro off l h hm
    simp [lkF] at h
    subst h
    have := MK_len hm
    refine ⟨true, rfl, ?_⟩
    have e1 := List.eq_nil_of_length_eq_zero (by simpa using this.1 : (vs.toList.drop off).length = 0)
    have e2 := List.eq_nil_of_length_eq_zero (by simpa using this.2 : (us.toList.drop off).length = 0)
    rw [e1, e2]; simp
  | cons f fs ih =>
    intro off l h hm
    simp only [lkF] at h
    split at h
    · cases h
    · rename_i l1 hl1
      split at h
      · rename_i hc
        obtain ⟨hn, ho, hll, hz⟩ := hc
        split at h
        · rename_i l2 hl2
          injection h with h
          subst h
          obtain ⟨m1, m2⟩ := MK_split hm
          obtain ⟨k, hu, hsh⟩ := lks_shape hl1
          have hlen := MK_len hm
          simp only [List.length_append, List.length_drop, Array.length_toList] at hlen
          obtain ⟨p, p1, p2, p3⟩ := run_part' (w := w) hu hz (by rw [← hll]; exact hsh) (vs := vs) (off := off) (by omega) h1
          obtain ⟨q, q1, q2, q3⟩ := run_part' (w := w) hu hz (by rw [← hll]; exact hsh) (vs := us) (off := off) (by omega) h2
          obtain ⟨r, r1, r2⟩ := IH f.type l1 hl1 w p q p2 q2 (by rw [p3, q3, ← hll]; exact m1)
          rw [List.drop_drop, List.drop_drop] at m2
          rw [hll] at m2
          obtain ⟨r', s1, s2⟩ := ih (off + siz P f.type) l2 hl2 m2
          have hne : (f.name ≠ "_") := hn
          simp only [Op.eqFields, if_pos hne, Sem.run_bind, ho, p1, q1, r1, Result.andThen_ok]
          have key : (vs.toList.drop off = us.toList.drop off) ↔ (p.cells.toList = q.cells.toList ∧ vs.toList.drop (off + siz P f.type) = us.toList.drop (off + siz P f.type)) := by
            rw [p3, q3, take_drop_eq (n := siz P f.type) (by simp; omega) (by simp; omega), List.drop_drop, List.drop_drop]
          cases r with
          | true => exact ⟨r', by simpa using s1, by rw [s2, key]; simp [r2.1 rfl]⟩
          | false => exact ⟨false, by simp, by rw [key]; simp; intro e; exact absurd (r2.2 (by rw [e])) (by simp)⟩
        · cases h
      · cases h
theorem eq_items {P : Program} {D : Nat} {e : TypeId} {l : List LK} (IH : EQV P D e l) (w : World) (vs us : Array Value) (h1 : ∀ v ∈ vs, v.oneCell' = true) (h2 : ∀ u ∈ us, u.oneCell' = true) {k : TypeDesc} (hu : P.underlying e = some k) (hsh : ags P e = true ∨ l.length = 1) (hll : l.length = siz P e) (hz : siz P e ≠ 0) :
    ∀ (m i : Nat), MK (List.replicate m l).flatten (vs.toList.drop (i * siz P e)) (us.toList.drop (i * siz P e)) → ∃ r : Bool, (Op.eqItems D e (siz P e) vs us (List.range' i m)).run P w = .ok r w ∧ (r = true ↔ vs.toList.drop (i * siz P e) = us.toList.drop (i * siz P e)) := by
  intro m
  induction m with
  | zero =>
    intro i hm
    have := MK_len hm
    refine ⟨true, rfl, ?_⟩
    have e1 := List.eq_nil_of_length_eq_zero (by simpa using this.1 : (vs.toList.drop (i * siz P e)).length = 0)
    have e2 := List.eq_nil_of_length_eq_zero (by simpa using this.2 : (us.toList.drop (i * siz P e)).length = 0)
    rw [e1, e2]; simp
  | succ m ih =>
    intro i hm
    simp only [List.replicate_succ, List.flatten_cons] at hm
    obtain ⟨m1, m2⟩ := MK_split hm
    have hlen := MK_len hm
    simp only [List.length_append, List.length_drop, Array.length_toList] at hlen
    obtain ⟨p, p1, p2, p3⟩ := run_part' (w := w) hu hz (by rw [← hll]; exact hsh) (vs := vs) (off := i * siz P e) (by omega) h1
    obtain ⟨q, q1, q2, q3⟩ := run_part' (w := w) hu hz (by rw [← hll]; exact hsh) (vs := us) (off := i * siz P e) (by omega) h2
    obtain ⟨r, r1, r2⟩ := IH w p q p2 q2 (by rw [p3, q3]; rw [hll] at m1; exact m1)
    rw [List.drop_drop, List.drop_drop, hll] at m2
    have e1 : i * siz P e + siz P e = (i + 1) * siz P e := by rw [Nat.add_mul]; omega
    rw [e1] at m2
    obtain ⟨r', s1, s2⟩ := ih (i + 1) m2
    simp only [List.range'_succ, Op.eqItems, Sem.run_bind, p1, q1, r1, Result.andThen_ok]
    have key : (vs.toList.drop (i * siz P e) = us.toList.drop (i * siz P e)) ↔ (p.cells.toList = q.cells.toList ∧ vs.toList.drop ((i + 1) * siz P e) = us.toList.drop ((i + 1) * siz P e)) := by
      rw [p3, q3, take_drop_eq (n := siz P e) (by simp; omega) (by simp; omega), List.drop_drop, List.drop_drop, e1]
    cases r with
    | true => exact ⟨r', by simpa using s1, by rw [s2, key]; simp [r2.1 rfl]⟩
    | false => exact ⟨false, by simp, by rw [key]; simp; intro e; exact absurd (r2.2 (by rw [e])) (by simp)⟩

theorem eqv_all {P : Program} : ∀ (d D : Nat), d ≤ D → ∀ t l, lks P d t = some l → EQV P D t l := by
  intro d
  induction d with
  | zero => intro D _ t l h; cases h
  | succ d ih =>
    intro D hD t l h w v u hv hu hm
    obtain ⟨D, rfl⟩ : ∃ E, D = E + 1 := ⟨D - 1, by omega⟩
    have IH := ih D (by omega)
    simp only [lks] at h
    split at h
    · rename_i k hk
      injection h with h
      subst h
      have ha : ags P t = false := by simp [ags, hk]
      simp only [Fm, ha] at hv hu
      have hv' := cells_one (v := v) (by simpa using hv)
      have hu' := cells_one (v := u) (by simpa using hu)
      rw [hv', hu'] at hm ⊢
      cases v <;> cases u <;> simp only [MK] at hm <;> try exact hm.elim
      obtain ⟨rfl, _⟩ := hm
      rename_i kk a b _
      exact ⟨_, run_equalIn_int w D t kk k a b hk, by simp⟩
    · rename_i hk
      injection h with h
      subst h
      have ha : ags P t = false := by simp [ags, hk]
      simp only [Fm, ha] at hv hu
      have hv' := cells_one (v := v) (by simpa using hv)
      have hu' := cells_one (v := u) (by simpa using hu)
      rw [hv', hu'] at hm ⊢
      cases v <;> cases u <;> simp only [MK] at hm <;> try exact hm.elim
      exact ⟨_, run_equalIn_bool w D t _ _ hk, by simp⟩
    · rename_i hk
      injection h with h
      subst h
      have ha : ags P t = false := by simp [ags, hk]
      simp only [Fm, ha] at hv hu
      have hv' := cells_one (v := v) (by simpa using hv)
      have hu' := cells_one (v := u) (by simpa using hu)
      rw [hv', hu'] at hm ⊢
      cases v <;> cases u <;> simp only [MK] at hm <;> try exact hm.elim
      rename_i s1 s2
      refine ⟨_, run_equalIn_string w D t s1 s2 hk, ?_⟩
      rw [← beq_toListBytes]
      have : (s1 == s2) = true ↔ s1 = s2 := by
        obtain ⟨⟨a⟩⟩ := s1
        obtain ⟨⟨b⟩⟩ := s2
        show ((⟨a⟩ : Array UInt8) == ⟨b⟩) = true ↔ _
        simp
      rw [this]
      simp
    · rename_i fs hk
      split at h
      · cases h
      · rename_i hst
        have ha : ags P t = true := by simp [ags, hk]
        simp only [Fm, ha, if_true] at hv hu
        obtain ⟨vs, rfl, hvs⟩ := hv
        obtain ⟨us, rfl, hus⟩ := hu
        have hfo : P.fieldsOf t = fs := by simp [Program.fieldsOf, hk]
        obtain ⟨o1, o2⟩ := MK_one hm
        obtain ⟨r, r1, r2⟩ := eq_fields (d := d) (D := D) (P := P) (fun t l h => IH t l h) w vs us (fun v hv => o1 v (by simpa [Value.cells] using hv)) (fun v hv => o2 v (by simpa [Value.cells] using hv)) fs.toList 0 l h (by simpa [Value.cells] using hm)
        refine ⟨r, ?_, by simpa [Value.cells] using r2⟩
        rw [run_equalIn_struct w D t vs us (by rw [hfo]; exact hk) (by simpa using hst), hfo]
        exact r1
    · rename_i n e hk
      split at h
      · cases h
      · rename_i l1 hl1
        split at h
        · rename_i hc
          injection h with h
          subst h
          have ha : ags P t = true := by simp [ags, hk]
          simp only [Fm, ha, if_true] at hv hu
          obtain ⟨vs, rfl, hvs⟩ := hv
          obtain ⟨us, rfl, hus⟩ := hu
          obtain ⟨o1, o2⟩ := MK_one hm
          obtain ⟨k, hu, hsh⟩ := lks_shape hl1
          obtain ⟨r, r1, r2⟩ := eq_items (IH e l1 hl1) w vs us (fun v hv => o1 v (by simpa [Value.cells] using hv)) (fun v hv => o2 v (by simpa [Value.cells] using hv)) hu hsh hc.1 hc.2 n 0 (by simpa [Value.cells] using hm)
          refine ⟨r, ?_, by simpa [Value.cells] using r2⟩
          obtain ⟨i, hi, hsi⟩ := siz_spec hc.2
          have hce : P.cellsOf e = siz P e := by simp [Program.cellsOf, siz, hi]
          rw [run_equalIn_array w D vs us hk hi, hce, List.range_eq_range']
          exact r1
        · cases h
    · cases h
def sk : LK → AV → AV → Prop
  | .i, .sc (.int k _), .sc (.int k' _) => k = k'
  | .b, .sc (.bool _), .sc (.bool _) => True
  | .s, .sc (.string _), .sc (.string _) => True
  | _, _, _ => False
def sks : List LK → List AV → List AV → Prop
  | [], [], [] => True
  | l :: ls, x :: xs, y :: ys => sk l x y ∧ sks ls xs ys
  | _, _, _ => False
noncomputable def aeq (P : Program) (t : TypeId) (xs ys : List AV) : Bool × Prop :=
  (@decide (xs = ys) (Classical.propDecidable _), ags P t = true ∧ xs.length = siz P t ∧ ys.length = siz P t ∧ P.eqGuardType P.depth t = false ∧ ∃ l, lks P 6 t = some l ∧ sks l xs ys)
theorem sks_MK : ∀ {l : List LK} {xs ys : List AV} {vs us : List Value} {w : World} {S : Nat → Nat → Prop} {L : Lay}, sks l xs ys → VRs w S L xs vs → VRs w S L ys us → MK l vs us ∧ (vs = us ↔ xs = ys) := by
  intro l
  induction l with
  | nil =>
    intro xs ys vs us w S L h hv hu
    cases xs with
    | cons x xs => cases ys <;> simp [sks] at h
    | nil =>
      cases ys with
      | cons y ys => simp [sks] at h
      | nil =>
        obtain rfl : vs = [] := List.eq_nil_of_length_eq_zero (by have := hv.1; simpa using this)
        obtain rfl : us = [] := List.eq_nil_of_length_eq_zero (by have := hu.1; simpa using this)
        exact ⟨trivial, by simp⟩
  | cons k l ih =>
    intro xs ys vs us w S L h hv hu
    cases xs with
    | nil => simp [sks] at h
    | cons x xs =>
      cases ys with
      | nil => simp [sks] at h
      | cons y ys =>
        cases vs with
        | nil => have := hv.1; simp at this
        | cons v vs =>
          cases us with
          | nil => have := hu.1; simp at this
          | cons u us =>
            obtain ⟨h1, h2⟩ := h
            have e1 := hv.2 0 x rfl
            have e2 := hu.2 0 y rfl
            simp at e1 e2
            obtain ⟨m1, m2⟩ := ih h2 ⟨by have := hv.1; simpa using this, fun i z hz => by have := hv.2 (i + 1) z (by simpa using hz); simpa using this⟩ ⟨by have := hu.1; simpa using this, fun i z hz => by have := hu.2 (i + 1) z (by simpa using hz); simpa using this⟩
            unfold sk at h1
            split at h1
            · have a1 := e1.sc_eq
              have a2 := e2.sc_eq
              subst a1 a2 h1
              exact ⟨⟨rfl, m1⟩, by simp [m2]⟩
            · have a1 := e1.sc_eq
              have a2 := e2.sc_eq
              subst a1 a2
              exact ⟨m1, by simp [m2]⟩
            · have a1 := e1.sc_eq
              have a2 := e2.sc_eq
              subst a1 a2
              exact ⟨m1, by simp [m2]⟩
            · exact h1.elim
theorem run_aeq {P : Program} {w : World} {S : Nat → Nat → Prop} {L : Lay} {t : TypeId} {xs ys : List AV} {v u : Value} (hv : VR w S L (.ag xs) v) (hu : VR w S L (.ag ys) u) (h : (aeq P t xs ys).2) (x y : Operand) :
    (do eqGuard .eql t x y v u; binOp .eql t v u : Sem Value).run P w = .ok (.bool (aeq P t xs ys).1) w ∧ (do eqGuard .neq t x y v u; binOp .neq t v u : Sem Value).run P w = .ok (.bool (!(aeq P t xs ys).1)) w := by
  obtain ⟨ha, hlx, hly, hg, l, hl, hs⟩ := h
  obtain ⟨vs, g, rfl, h0, h1, h2⟩ := hv.ag_eq
  obtain ⟨us, g', rfl, h0', h1', h2'⟩ := hu.ag_eq
  have hvv : VRs w S L xs vs.toList := ⟨by simpa using h0, fun i x hx => by
    have hi := (List.getElem?_eq_some_iff.1 hx).1
    have := h1 i hi
    have e : vs.toList.getD i undef = g i := by simp [List.getD_eq_getElem?_getD, this]
    rw [e]; exact h2 i x hx⟩
  have huu : VRs w S L ys us.toList := ⟨by simpa using h0', fun i x hx => by
    have hi := (List.getElem?_eq_some_iff.1 hx).1
    have := h1' i hi
    have e : us.toList.getD i undef = g' i := by simp [List.getD_eq_getElem?_getD, this]
    rw [e]; exact h2' i x hx⟩
  obtain ⟨hm, hiff⟩ := sks_MK hs hvv huu
  obtain ⟨r, r1, r2⟩ := eqv_all 6 10000 (by decide) t l hl w (.agg vs) (.agg us) (by simp only [Fm, ha, if_true]; exact ⟨vs, rfl, by omega⟩) (by simp only [Fm, ha, if_true]; exact ⟨us, rfl, by omega⟩) hm
  have hr : r = (aeq P t xs ys).1 := by
    have h3 : r = true ↔ xs = ys := by
      rw [r2, ← hiff]
      exact Iff.rfl
    show r = @decide (xs = ys) (Classical.propDecidable _)
    cases r with
    | true => exact (@decide_eq_true (xs = ys) (Classical.propDecidable _) (h3.1 rfl)).symm
    | false => exact (@decide_eq_false (xs = ys) (Classical.propDecidable _) (fun e => absurd (h3.2 e) (by simp))).symm
  constructor
  · rw [Sem.run_bind, run_eqGuard_agg w .eql t x y vs us hg]
    simp only [Result.andThen_ok]
    rw [run_eql_struct w t vs us, r1, hr]
    rfl
  · rw [Sem.run_bind, run_eqGuard_agg w .neq t x y vs us hg]
    simp only [Result.andThen_ok]
    rw [run_neq_struct w t vs us, r1, hr]
    rfl
end Go.Sim

namespace Go.Sim
open Go.RowKit
set_option linter.unusedVariables false
set_option linter.unusedSimpArgs false

def bop (P : Program) (op : BinOp) (t : TypeId) : Value → Value → Option (Value × Prop)
  | .int k a, .int k' b =>
    match op with
    | .shl => some (.int k (k.wrap (a * 2 ^ min b.toNat k.bits)), 0 ≤ b)
    | .shr => some (.int k (a.fdiv (2 ^ min b.toNat k.bits)), 0 ≤ b)
    | .add => some (.int k (k.wrap (a + b)), k = k')
    | .sub => some (.int k (k.wrap (a - b)), k = k')
    | .mul => some (.int k (k.wrap (a * b)), k = k')
    | .quo => some (.int k (k.wrap (a.tdiv b)), k = k' ∧ b ≠ 0)
    | .rem => some (.int k (a.tmod b), k = k' ∧ b ≠ 0)
    | .and => some (.int k (bits .and k a b), k = k')
    | .or => some (.int k (bits .or k a b), k = k')
    | .xor => some (.int k (bits .xor k a b), k = k')
    | .andNot => some (.int k (bits .andNot k a b), k = k')
    | .eql => some (.bool (decide (a = b)), k = k')
    | .neq => some (.bool (!decide (a = b)), k = k')
    | .lss => some (.bool (decide (a < b)), k = k')
    | .leq => some (.bool (decide (a ≤ b)), k = k')
    | .gtr => some (.bool (decide (b < a)), k = k')
    | .geq => some (.bool (decide (b ≤ a)), k = k')
  | .bool a, .bool b =>
    match op with
    | .eql => some (.bool (a == b), isBool P t = true)
    | .neq => some (.bool (!(a == b)), isBool P t = true)
    | _ => none
  | .string a, .string b =>
    match op with
    | .add => some (.string (a ++ b), (a.size + b.size : Nat) ≤ (9223372036854775807 : Int))
    | .eql => some (.bool (a.toList == b.toList), True)
    | .neq => some (.bool (!(a.toList == b.toList)), True)
    | _ => none
  | _, _ => none
theorem bop_spec {P : Program} {op : BinOp} {t : TypeId} {u v r : Value} {ob : Prop} (h : bop P op t u v = some (r, ob)) (hob : ob) (x y : Operand) (w : World) :
    (do eqGuard op t x y u v; binOp op t u v : Sem Value).run P w = .ok r w := by
  unfold bop at h
  split at h
  · rename_i k a k' b
    have hg : eqGuard op t x y (.int k a) (.int k' b) = pure () := eqGuard_at_int ..
    rw [Sem.run_bind, hg]
    simp only [Sem.run_pure, Result.andThen_ok]
    cases op <;> simp only [Option.some.injEq, Prod.mk.injEq] at h <;> obtain ⟨rfl, rfl⟩ := h
    case shl => simp [binOp, Op.shift, Int.not_lt.2 hob]
    case shr => simp [binOp, Op.shift, Int.not_lt.2 hob]
    case quo => obtain ⟨rfl, hb⟩ := hob; simp [binOp, Op.intDiv, hb]
    case rem => obtain ⟨rfl, hb⟩ := hob; simp [binOp, Op.intDiv, hb]
    all_goals subst hob
    case and => simp [binOp, intBits_and]
    case or => simp [binOp, intBits_or]
    case xor => simp [binOp, intBits_xor]
    case andNot => simp [binOp, intBits_andNot]
    case add => simp [binOp, Op.intArith]
    case sub => simp [binOp, Op.intArith]
    case mul => simp [binOp, Op.intArith]
    case eql => simp [binOp, Op.intCmp]; by_cases h : a = b <;> simp [h]
    case neq => simp [binOp, Op.intCmp]; by_cases h : a = b <;> simp [h]
    case lss => simp [binOp, Op.intCmp]
    case leq => simp [binOp, Op.intCmp]
    case gtr => simp [binOp, Op.intCmp]
    case geq => simp [binOp, Op.intCmp]
  · rename_i a b
    have hg : eqGuard op t x y (.bool a) (.bool b) = pure () := eqGuard_at_bool ..
    rw [Sem.run_bind, hg]
    simp only [Sem.run_pure, Result.andThen_ok]
    cases op <;> simp only [Option.some.injEq, Prod.mk.injEq, reduceCtorEq] at h <;> obtain ⟨rfl, rfl⟩ := h <;> have hb := isBool_spec hob
    · have e : (Op.equal t (.bool a) (.bool b)).run P w = .ok (a == b) w := run_equalIn_bool w 9999 t a b hb
      show (do pure (.bool (← Op.equal t (.bool a) (.bool b))) : Sem Value).run P w = _
      rw [Sem.run_bind, e]
      rfl
    · have e : (Op.equal t (.bool a) (.bool b)).run P w = .ok (a == b) w := run_equalIn_bool w 9999 t a b hb
      show (do pure (.bool (!(← Op.equal t (.bool a) (.bool b)))) : Sem Value).run P w = _
      rw [Sem.run_bind, e]
      rfl
  · rename_i a b
    have hg : eqGuard op t x y (.string a) (.string b) = pure () := eqGuard_at_string ..
    rw [Sem.run_bind, hg]
    simp only [Sem.run_pure, Result.andThen_ok]
    cases op <;> simp only [Option.some.injEq, Prod.mk.injEq, reduceCtorEq] at h <;> obtain ⟨rfl, rfl⟩ := h
    · have : ¬ (((a.size + b.size : Nat) : Int) > IntKind.i64.max) := by
        have e : IntKind.i64.max = 9223372036854775807 := by decide
        omega
      simp only [binOp, Op.stringOp, if_neg this]
      rfl
    · simp [binOp, Op.stringOp]
    · simp [binOp, Op.stringOp]
  · cases h
def uop (op : UnOp) : Value → Option Value
  | .int k n => match op with | .neg => some (.int k (k.wrap (0 - n))) | .xor => some (.int k (bits .xor k (if k.signed then -1 else k.max) n)) | _ => none
  | .bool b => match op with | .not => some (.bool !b) | _ => none
  | _ => none
theorem uop_spec {P : Program} {op : UnOp} {u r : Value} (h : uop op u = some r) (w : World) : (Op.unary op u).run P w = .ok r w := by
  unfold uop at h
  split at h
  · split at h <;> simp at h <;> subst h
    · simp [Op.unary, Op.intArith]
    · simp [Op.unary, intBits_xor]
  · split at h <;> simp at h
    subst h
    simp [Op.unary]
  · cases h
def aint : AV → Option Int | .sc (.int _ n) => some n | _ => none
def aby : AV → Option UInt8 | .sc (.int .u8 n) => some (UInt8.ofNat n.toNat) | _ => none
def abd (st : St) (d : Nat) : Option Operand → Option Int
  | none => some d
  | some x => aint (st.ev x)
def amx1 (k : IntKind) (a : Int) : List AV → Option (IntKind × Int)
  | [] => some (k, a)
  | .sc (.int _ b) :: r => amx1 k (max a b) r
  | _ => none
def amx : List AV → Option (IntKind × Int)
  | .sc (.int k a) :: r => amx1 k a r
  | _ => none
def amn1 (k : IntKind) (a : Int) : List AV → Option (IntKind × Int)
  | [] => some (k, a)
  | .sc (.int _ b) :: r => amn1 k (min a b) r
  | _ => none
def amn : List AV → Option (IntKind × Int)
  | .sc (.int k a) :: r => amn1 k a r
  | _ => none

def spl (cells : List AV) (off : Nat) : List AV → List AV
  | [] => cells
  | x :: r => spl (cells.set off x) (off + 1) r
theorem spl_length (cells : List AV) (off : Nat) (xs : List AV) : (spl cells off xs).length = cells.length := by
  induction xs generalizing cells off with
  | nil => rfl
  | cons x r ih => simp [spl, ih]
def mpT (P : Program) (t : TypeId) : Option (TypeId × TypeId) := match P.underlying t with | some (.map k e) => some (k, e) | _ => none
theorem mpT_spec {P : Program} {t k e : TypeId} (h : mpT P t = some (k, e)) : P.underlying t = some (.map k e) := by
  unfold mpT at h
  split at h
  · rename_i k' e' h'
    injection h with h
    injection h with h1 h2
    rw [h', h1, h2]
  · cases h
def mz (P : Program) (t : TypeId) : Bool := match (P.info? t).bind (·.zero) with | some (.slice none 0 0) => true | _ => false
theorem mz_run {P : Program} {t : TypeId} (h : mz P t = true) (w : World) : (zeroValue t).run P w = .ok (.slice none 0 0) w := by
  unfold mz at h
  split at h
  · rename_i h'
    obtain ⟨i, hi, hz⟩ := Option.bind_eq_some_iff.1 h'
    simp [zeroValue, typeInfo, hi, hz, Result.andThen]
  · cases h
def mget : List Int → List AV → Int → Option AV
  | k0 :: ks, v :: vs, k => if k0 = k then some v else mget ks vs k
  | _, _, _ => none
def mres (ok : Bool) (o : Option AV) : AV := if ok = true then .tu [o.getD .nl, .sc (.bool o.isSome)] else o.getD .nl
theorem mget_at : ∀ (ks : List Int) (vs : List AV) (i : Nat) (k : Int) (x : AV), ks.Nodup → ks[i]? = some k → vs[i]? = some x → mget ks vs k = some x
  | k0 :: ks, v :: vs, 0, k, x, _, h1, h2 => by
    simp at h1 h2
    simp [mget, h1, h2]
  | k0 :: ks, v :: vs, i + 1, k, x, hn, h1, h2 => by
    simp at h1 h2
    have hm : k ∈ ks := List.mem_of_getElem? h1
    have hne : k0 ≠ k := fun e => by subst e; exact (List.nodup_cons.1 hn).1 hm
    rw [mget, if_neg hne]
    exact mget_at ks vs i k x (List.nodup_cons.1 hn).2 h1 h2
  | [], _, _, _, _, _, h1, _ => by simp at h1
  | _ :: _, [], i, _, _, _, _, h2 => by simp at h2
theorem mget_none : ∀ (ks : List Int) (vs : List AV) (k : Int), k ∉ ks → mget ks vs k = none
  | k0 :: ks, v :: vs, k, h => by
    rw [mget, if_neg (fun e => h (by simp [e])), mget_none ks vs k (fun hm => h (by simp [hm]))]
  | [], _, _, _ => rfl
  | _ :: _, [], _, _ => rfl
theorem map_lookup {P : Program} {w : World} {t kt et : TypeId} {r : Nat} {es : Array MapEntry} {ck : Nat} {ks : List Int} {g : Nat → Value} {z : Value} (hm : P.underlying t = some (.map kt et)) (hk : P.underlying kt = some (.int .i64))
    (hz : (zeroValue et).run P w = .ok z w) (hb : w.heap[r]? = some (.map es ck)) (h : MapIs es ck ks g) (n : Int) :
    (∃ i, ks[i]? = some n ∧ ∀ ok : Bool, (Instr.lookup t (.map (some r)) (.int .i64 n) ok).run P w = .ok (if ok = true then .tuple #[g i, .bool true] else g i) w) ∨
    (n ∉ ks ∧ ∀ ok : Bool, (Instr.lookup t (.map (some r)) (.int .i64 n) ok).run P w = .ok (if ok = true then .tuple #[z, .bool false] else z) w) := by
  have hik : MapKept.IsKey (.int .i64) (.int .i64 n) := rfl
  rcases MapKept.findNow_spec hik es.toList 0 (fun x hx => by obtain ⟨i, k, _, e, _⟩ := h.fwd x hx; rw [e]; rfl) with ⟨h1, h2⟩ | ⟨j, e, h1, h2, h3⟩
  · refine .inr ⟨fun hn => ?_, fun ok => ?_⟩
    · obtain ⟨i, hi⟩ := List.mem_iff_getElem?.1 hn
      obtain ⟨e, he, e1, _⟩ := h.bwd i n hi
      exact h2 e he e1
    · cases ok <;> simp [Instr.lookup, run_underlying hm, MapKept.run_getObj_map hb, MapKept.run_checkKey hk hik, MapKept.run_findKey hk h1, hz, Result.andThen]
  · obtain ⟨i, k, e1, e2, e3⟩ := h.fwd e (List.mem_of_getElem? h2)
    rw [e2] at h3
    injection h3 with _ h3
    subst h3
    refine .inl ⟨i, e1, fun ok => ?_⟩
    cases ok <;> simp [Instr.lookup, run_underlying hm, MapKept.run_getObj_map hb, MapKept.run_checkKey hk hik, MapKept.run_findKey hk h1, Result.andThen, e3]
theorem map_lookup_nil {P : Program} {w : World} {t kt et : TypeId} {z : Value} (hm : P.underlying t = some (.map kt et)) (hk : P.underlying kt = some (.int .i64)) (hz : (zeroValue et).run P w = .ok z w) (n : Int) (ok : Bool) :
    (Instr.lookup t (.map none) (.int .i64 n) ok).run P w = .ok (if ok = true then .tuple #[z, .bool false] else z) w := by
  have hik : MapKept.IsKey (.int .i64) (.int .i64 n) := rfl
  have h1 : Instr.findNow (.int .i64) (.int .i64 n) [] 0 = some none := rfl
  cases ok <;> simp [Instr.lookup, run_underlying hm, MapKept.run_checkKey hk hik, MapKept.run_findKey hk h1, hz, Result.andThen]
def plc (P : Program) (t : TypeId) : Option (List (Nat × Nat)) :=
  match P.underlying t with
  | some (.struct fs) => fs.toList.mapM fun f => (P.info? f.type).map fun i => (f.offset, i.size)
  | some (.array n e) => (P.info? e).map fun i => (List.range n).map fun k => (k * i.size, i.size)
  | _ => none
def zrc (P : Program) (t : TypeId) : Option (List AV) := ((P.info? t).bind (·.zero)).map fun z => z.cells.toList.map ofCell
def afl (pl : List (Nat × Nat)) (cells : List AV) : List (Nat × List AV) → Option (List AV)
  | [] => some cells
  | (i, cs) :: r =>
    match pl[i]? with
    | none => none
    | some (off, size) => if cs.length = size ∧ off + size ≤ cells.length then afl pl (spl cells off cs) r else none
def cels (st : St) : List (Nat × Operand) → Option (List (Nat × List AV))
  | [] => some []
  | (i, x) :: r => match cel st (st.ev x), cels st r with | some c, some l => some ((i, c) :: l) | _, _ => none

def pnq (P : Program) (t : TypeId) (hp : List (Nat × Ob)) (op : BinOp) (x : AV) : Option (AV × Prop) :=
  match x with
  | .pt id _ => if (look hp id).isSome then (match op with | .eql => some (.sc (.bool false), isPtr P t = true) | .neq => some (.sc (.bool true), isPtr P t = true) | _ => none) else none
  | .fp _ _ => (match op with | .eql => some (.sc (.bool false), isPtr P t = true) | .neq => some (.sc (.bool true), isPtr P t = true) | _ => none)
  | _ => none
noncomputable def avl (P : Program) (st : St) : Op → Option (AV × Prop)
  | .move x | .assign x => some (st.ev x, True)
  | .pick c a b => match st.ev c with | .sc (.bool t) => some (if t then st.ev a else st.ev b, True) | _ => none
  | .binOp op t x y _ =>
    match st.ev x, st.ev y with
    | .sc u, .sc v => (match bop P op t u v with | some (r, ob) => some (.sc r, ob) | none => none)
    | .ag xs, .ag ys => (match op with
      | .eql => some (.sc (.bool (aeq P t xs ys).1), (aeq P t xs ys).2)
      | .neq => some (.sc (.bool (!(aeq P t xs ys).1)), (aeq P t xs ys).2)
      | _ => none)
    | u, .sc (.pointer none) => pnq P t st.hp op u
    | _, _ => none
  | .unOp op t x => match st.ev x with | .sc u => (match uop op u with | some r => some (.sc r, True) | none => none) | _ => none
  | .convert s d x =>
    match st.ev x with
    | .sc (.int k n) => (match ikd P d with | some k' => some (.sc (.int k' (k'.wrap n)), (P.underlying s).isSome = true) | none => none)
    | .sc (.string b) => some (.sc (.string b), (P.underlying s).isSome = true ∧ isStr P d = true)
    | .fz n cells => some (.sc (.string ⟨(cells.filterMap aby).toArray⟩), (∃ e, elm P s = some e ∧ ikd P e = some .u8) ∧ isStr P d = true ∧ cells.length = n ∧ ∀ x ∈ cells, (aby x).isSome = true)
    | .nl => some (.sc (.string ⟨#[]⟩), (∃ e, elm P s = some e ∧ ikd P e = some .u8) ∧ isStr P d = true)
    | _ => none
  | .load t x =>
    match st.ev x with
    | .pt id off => (match look st.hp id with | some o => some (rdc P o.cells off t, good P t = true ∧ off + siz P t ≤ o.cells.length) | none => none)
    | .fp cells off => some (rdc P cells off t, good P t = true ∧ off + siz P t ≤ cells.length)
    | _ => none
  | .fieldAddr t x k =>
    match fld P t k with
    | some (fo, ft) => (match st.ev x with
      | .pt id off => if (look st.hp id).isSome then some (.pt id (off + fo), siz P ft ≠ 0) else none
      | .fp cells off => some (.fp cells (off + fo), siz P ft ≠ 0)
      | _ => none)
    | none => none
  | .field t x k =>
    match fld P t k with
    | some (fo, ft) => (match st.ev x with
      | .ag cs => some (rdc P cs fo ft, good P ft = true ∧ fo + siz P ft ≤ cs.length)
      | _ => none)
    | none => none
  | .indexAddr t x i =>
    match aint (st.ev i) with
    | none => none
    | some k =>
      match arr P t, elm P t with
      | some (n, e), _ => (match st.ev x with
        | .pt id off => if (look st.hp id).isSome then some (.pt id (off + k.toNat * siz P e), siz P e ≠ 0 ∧ 0 ≤ k ∧ k < n) else none
        | .fp cells off => some (.fp cells (off + k.toNat * siz P e), siz P e ≠ 0 ∧ 0 ≤ k ∧ k < n)
        | _ => none)
      | none, some e => (match st.ev x with
        | .lv id off n => if (look st.hp id).isSome then some (.pt id (off + k.toNat * siz P e), siz P e ≠ 0 ∧ 0 ≤ k ∧ k < n) else none
        | .fz n cells => some (.fp cells (k.toNat * siz P e), siz P e ≠ 0 ∧ 0 ≤ k ∧ k < n ∧ k.toNat * siz P e + siz P e ≤ cells.length)
        | _ => none)
      | none, none => none
  | .index t x i =>
    match aint (st.ev i) with
    | none => none
    | some k =>
      match st.ev x with
      | .ag cs => (match arr P t with | some (n, e) => some (rdc P cs (k.toNat * siz P e) e, good P e = true ∧ 0 ≤ k ∧ k < n ∧ k.toNat * siz P e + siz P e ≤ cs.length) | none => none)
      | .sc (.string s) => some (.sc (.int .u8 (s.data.getD k.toNat 0).toNat), isStr P t = true ∧ 0 ≤ k ∧ k < s.size)
      | _ => none
  | .lookup t x i ok =>
    match mpT P t, st.ev x, st.ev i with
    | some (kt, et), .mp ks vs, .sc (.int .i64 n) => (if mz P et = true then some (mres ok (mget ks vs n), ikd P kt = some .i64) else none)
    | _, _, _ => none
  | .extract x k => match st.ev x with | .tu vs => some (vs.getD k .un, k < vs.length) | _ => none
  | .build t ps =>
    match cels st ps.toList, plc P t, zrc P t with
    | some l, some pl, some z => (match afl pl z l with | some cs => some (.ag cs, True) | none => none)
    | _, _, _ => none
  | .makeFunc (.func f) first captured => if first.isEmpty then some (.fn f (captured.toList.map st.ev), True) else (match first.toList, captured.toList with | [x], [] => some (.bf f (st.ev x), True) | _, _ => none)
  | .sliceToArrayPointer t x =>
    match arr P t, st.ev x with
    | some (n, _), .fz m cells => some (.fp cells 0, n ≠ 0 ∧ n ≤ m)
    | some (n, _), .lv id off m => if (look st.hp id).isSome then some (.pt id off, n ≠ 0 ∧ n ≤ m) else none
    | _, _ => none
  | .nilCheck x =>
    match st.ev x with
    | .pt id off => if (look st.hp id).isSome then some (.pt id off, True) else none
    | .fp c o => some (.fp c o, True)
    | _ => none
  | .slice t x lo hi mx =>
    match st.ev x with
    | .sc (.string s) => (match abd st 0 lo, abd st s.size hi with
      | some l, some h => some (.sc (.string (s.extract l.toNat h.toNat)), isStr P t = true ∧ mx = none ∧ 0 ≤ l ∧ l ≤ h ∧ h ≤ s.size)
      | _, _ => none)
    | .fz n cells => (match (if mx.isSome then none else elm P t) with
      | some e => (match abd st 0 lo, abd st n hi, abd st n mx with
        | some l, some h, some m => some (.fz (h.toNat - l.toNat) ((cells.drop (l.toNat * siz P e)).take ((h.toNat - l.toNat) * siz P e)), siz P e ≠ 0 ∧ 0 ≤ l ∧ l ≤ h ∧ h ≤ m ∧ m ≤ n ∧ (mx.isSome = true → hi.isSome = true))
        | _, _, _ => none)
      | none => none)
    | .lv id off n => (match elm P t, look st.hp id with
      | some e, some o => (match abd st 0 lo, abd st n hi, abd st n mx with
        | some l, some h, some m => some (.lv id (off + l.toNat * siz P e) (h.toNat - l.toNat), siz P e ≠ 0 ∧ o.esz = siz P e ∧ 0 ≤ l ∧ l ≤ h ∧ h ≤ m ∧ m ≤ n ∧ (mx.isSome = true → hi.isSome = true))
        | _, _, _ => none)
      | _, _ => none)
    | .nl => (match elm P t with
      | some e => (match abd st 0 lo, abd st 0 hi, abd st 0 mx with
        | some l, some h, some m => some (.nl, siz P e ≠ 0 ∧ l = 0 ∧ h = 0 ∧ m = 0 ∧ (mx.isSome = true → hi.isSome = true))
        | _, _, _ => none)
      | none => none)
    | .pt id off => (match arr P t, look st.hp id with
      | some (n, e), some o => (match abd st 0 lo, abd st n hi, mx with
        | some l, some h, none => some (.lv id (off + l.toNat * siz P e) (h.toNat - l.toNat), siz P e ≠ 0 ∧ o.esz = siz P e ∧ 0 ≤ l ∧ l ≤ h ∧ h ≤ n ∧ off + n * siz P e ≤ o.cells.length)
        | _, _, _ => none)
      | _, _ => none)
    | _ => none
  | .call { callee := .builtin .len, args, argTypes } =>
    match args.toList, argTypes.toList with
    | [x], [t] => (match st.ev x with
      | .sc (.string s) => some (.sc (.int .i64 s.size), isStr P t = true)
      | .fz n _ => some (.sc (.int .i64 n), (elm P t).isSome = true)
      | .nl => some (.sc (.int .i64 0), (elm P t).isSome = true)
      | .lv id off n => if (look st.hp id).isSome then some (.sc (.int .i64 n), (elm P t).isSome = true) else none
      | _ => (match arr P t with | some (n, _) => some (.sc (.int .i64 n), True) | none => none))
    | _, _ => none
  | .call { callee := .builtin .max, args, .. } => match amx (args.toList.map st.ev) with | some (k, n) => some (.sc (.int k n), True) | none => none
  | .call { callee := .builtin .min, args, .. } => match amn (args.toList.map st.ev) with | some (k, n) => some (.sc (.int k n), True) | none => none
  | _ => none
end Go.Sim

namespace Go.Sim
open Go.RowKit
set_option linter.unusedVariables false
set_option linter.unusedSimpArgs false

section
variable {c : Cx} {L : Lay} {F : Nat → Prop} {st : St} {a : Act} {w : World}
def Yld (P : Program) (s : Sem Value) (w : World) (S : Nat → Nat → Prop) (L : Lay) (x : AV) : Prop := ∃ v, s.run P w = .ok v w ∧ VR w S L x v

theorem aint_spec {S : Nat → Nat → Prop} {x : AV} {n : Int} {v : Value} (hv : VR w S L x v) (h : aint x = some n) : ∃ k, v = .int k n := by
  unfold aint at h
  split at h
  · injection h with h
    subst h
    have := hv.sc_eq
    exact ⟨_, this⟩
  · cases h
theorem Rel.aint (h : Rel c L F st a w) {x : Operand} {n : Int} (hn : aint (st.ev x) = some n) : ∃ k, a.eval x = .int k n := aint_spec (h.ev x) hn

theorem yld_load (h : Rel c L F st a w) {t : TypeId} {x : Operand} {r : AV} {ob : Prop} (he : avl c.P st (.load t x) = some (r, ob)) (hob : ob) :
    Yld c.P (Instr.loadAt t (a.eval x)) w (sta c L st.hp) L r := by
  have hx := h.ev x
  simp only [avl] at he
  split at he
  · rename_i id off hst
    rw [hst] at hx
    split at he
    · rename_i o ho
      simp only [Option.some.injEq, Prod.mk.injEq] at he
      obtain ⟨rfl, rfl⟩ := he
      obtain ⟨hg, hl⟩ := hob
      obtain ⟨d, h1, h2, h3⟩ := good_spec hg
      obtain ⟨B, C, T, fr, hL, hb, hsz, _, hlen, _, hcs⟩ := h.hr.real ho (by omega)
      have hxe := hx.pt_eq hL
      obtain ⟨v, hr, hv⟩ := run_load_cells (P := c.P) (w := w) (S := sta c L st.hp) (L := L) h1 h2 h3 (cells := o.cells) (b := B.block) (o := 0) (off := off) (g := fun i => C.getD i undef)
        (fun i hi => by
          have : i < C.size := by omega
          simp [World.cell?, hb, this]) hcs hl
      rw [Nat.zero_add] at hr
      refine ⟨v, ?_, hv⟩
      rw [hxe]
      simpa [Instr.loadAt, Instr.sureAddr] using hr
    · cases he
  · rename_i cells off hst
    rw [hst] at hx
    simp only [Option.some.injEq, Prod.mk.injEq] at he
    obtain ⟨rfl, rfl⟩ := he
    obtain ⟨hg, hl⟩ := hob
    obtain ⟨d, h1, h2, h3⟩ := good_spec hg
    obtain ⟨b, o, g, hxe, hc, hv⟩ := hx.fp_eq
    obtain ⟨v, hr, hv⟩ := run_load_cells (P := c.P) (w := w) (S := sta c L st.hp) (L := L) h1 h2 h3 (fun i hi => (hc i hi).2) (fun i x hx => (hv i x hx).of_no L) hl
    refine ⟨v, ?_, hv⟩
    rw [hxe]
    simpa [Instr.loadAt, Instr.sureAddr] using hr
  · cases he

theorem isSome_live (h : Rel c L F st a w) {id : Nat} (hs : (look st.hp id).isSome = true) : ∃ B, L id = some (some B) := by
  obtain ⟨o, ho⟩ := Option.isSome_iff_exists.1 hs
  obtain ⟨B, hL, _⟩ := h.hr.live id o ho
  exact ⟨B, hL⟩

theorem yld_fieldAddr (h : Rel c L F st a w) {t : TypeId} {x : Operand} {k : Nat} {r : AV} {ob : Prop} (he : avl c.P st (.fieldAddr t x k) = some (r, ob)) (hob : ob) :
    Yld c.P (Instr.fieldAt t (a.eval x) k) w (sta c L st.hp) L r := by
  have hx := h.ev x
  simp only [avl] at he
  split at he
  · rename_i fo ft hf
    obtain ⟨fs, f, hu, hk, rfl, rfl⟩ := fld_spec hf
    split at he
    · rename_i id off hst
      rw [hst] at hx
      split at he
      · rename_i hs
        simp only [Option.some.injEq, Prod.mk.injEq] at he
        obtain ⟨rfl, rfl⟩ := he
        obtain ⟨B, hL⟩ := isSome_live h hs
        refine ⟨_, ?_, .pt _ _ _ B hL⟩
        rw [hx.pt_eq hL]
        simp [Instr.fieldAt, run_underlying hu, hk, Instr.sureAddr, fieldPlace, run_sizeOf' w hob, hob, add_mk]
      · cases he
    · rename_i cells off hst
      rw [hst] at hx
      simp only [Option.some.injEq, Prod.mk.injEq] at he
      obtain ⟨rfl, rfl⟩ := he
      obtain ⟨b, o, g, hxe, hc, hv⟩ := hx.fp_eq
      refine ⟨_, ?_, .fp _ _ _ b o g hc hv⟩
      rw [hxe]
      simp [Instr.fieldAt, run_underlying hu, hk, Instr.sureAddr, fieldPlace, run_sizeOf' w hob, hob, add_mk, Nat.add_assoc]
    · cases he
  · cases he

theorem run_part_ag {P : Program} {w : World} {S : Nat → Nat → Prop} {L : Lay} {t : TypeId} (hg : good P t = true) {cs : List AV} {vs : Array Value} {g : Nat → Value} (h0 : vs.size = cs.length)
    (h1 : ∀ i, i < cs.length → vs[i]? = some (g i)) (h2 : ∀ i x, cs[i]? = some x → VR w S L x (g i)) {off : Nat} (hoff : off + siz P t ≤ cs.length) : Yld P (part t vs off) w S L (rdc P cs off t) := by
  obtain ⟨d, hu, hs, ho⟩ := good_spec hg
  unfold part rdc
  by_cases ha : ags P t = true
  · refine ⟨.agg (vs.extract off (off + siz P t)), ?_, ?_⟩
    · rw [Sem.run_bind, run_isAgg' w hu, ha]
      simp [run_sizeOf' w hs]
    · rw [if_pos ha]
      refine .ag _ _ _ (fun j => g (off + j)) (by simp [rdn_length]; omega) (fun i hi => ?_) (fun i x hx => ?_)
      · rw [rdn_length] at hi
        rw [Array.getElem?_extract, if_pos (by omega)]
        exact h1 _ (by omega)
      · have hi : i < siz P t := by
          have := (List.getElem?_eq_some_iff.1 hx).1
          rwa [rdn_length] at this
        rw [rdn_get _ _ _ _ hi] at hx
        injection hx with hx
        subst hx
        have : off + i < cs.length := by omega
        refine h2 (off + i) _ ?_
        simp [List.getD_eq_getElem?_getD, this]
  · have h1' : siz P t = 1 := by rcases ho with h | h; exact absurd h ha; exact h
    have ha' : ags P t = false := by simpa using ha
    refine ⟨g off, ?_, ?_⟩
    · rw [Sem.run_bind, run_isAgg' w hu, ha']
      simp [h1 off (by omega)]
    · rw [if_neg ha]
      have hlt : off < cs.length := by omega
      refine h2 off _ ?_
      simp [List.getD_eq_getElem?_getD, hlt]

theorem yld_field (h : Rel c L F st a w) {t : TypeId} {x : Operand} {k : Nat} {r : AV} {ob : Prop} (he : avl c.P st (.field t x k) = some (r, ob)) (hob : ob) :
    Yld c.P (Instr.field t (a.eval x) k) w (sta c L st.hp) L r := by
  have hx := h.ev x
  simp only [avl] at he
  split at he
  · rename_i fo ft hf
    obtain ⟨fs, f, hu, hk, rfl, rfl⟩ := fld_spec hf
    split at he
    · rename_i cs hst
      rw [hst] at hx
      simp only [Option.some.injEq, Prod.mk.injEq] at he
      obtain ⟨rfl, rfl⟩ := he
      obtain ⟨vs, g, hxe, h0, h1, h2⟩ := hx.ag_eq
      obtain ⟨v, hr, hv⟩ := run_part_ag hob.1 h0 h1 h2 hob.2
      refine ⟨v, ?_, hv⟩
      rw [hxe]
      simpa [Instr.field, run_underlying hu, hk, asAgg] using hr
    · cases he
  · cases he

theorem run_und_arr {P : Program} {t e : TypeId} {n : Nat} (h : arr P t = some (n, e)) (w : World) : (underlying t).run P w = .ok (.array n e) w := run_underlying (arr_spec h) w

theorem yld_indexAddr (h : Rel c L F st a w) {t : TypeId} {x i : Operand} {r : AV} {ob : Prop} (he : avl c.P st (.indexAddr t x i) = some (r, ob)) (hob : ob) :
    Yld c.P (Instr.indexAt t (a.eval x) (a.eval i)) w (sta c L st.hp) L r := by
  have hx := h.ev x
  simp only [avl] at he
  split at he
  · cases he
  · rename_i k hk
    obtain ⟨kk, hie⟩ := h.aint hk
    split at he
    · rename_i n e harr
      have hu := arr_spec harr
      split at he
      · rename_i id off hst
        rw [hst] at hx
        split at he
        · rename_i hs
          simp only [Option.some.injEq, Prod.mk.injEq] at he
          obtain ⟨rfl, rfl⟩ := he
          obtain ⟨hz, h0, h1⟩ := hob
          obtain ⟨B, hL⟩ := isSome_live h hs
          refine ⟨_, ?_, .pt _ _ _ B hL⟩
          rw [hx.pt_eq hL, hie]
          simp [Instr.indexAt, asIntOf, run_underlying hu, Instr.sureAddr, run_sizeOf' w hz, add_mk, h0, h1]
        · cases he
      · rename_i cells off hst
        rw [hst] at hx
        simp only [Option.some.injEq, Prod.mk.injEq] at he
        obtain ⟨rfl, rfl⟩ := he
        obtain ⟨hz, h0, h1⟩ := hob
        obtain ⟨b, o, g, hxe, hc, hv⟩ := hx.fp_eq
        refine ⟨_, ?_, .fp _ _ _ b o g hc hv⟩
        rw [hxe, hie]
        simp [Instr.indexAt, asIntOf, run_underlying hu, Instr.sureAddr, run_sizeOf' w hz, add_mk, h0, h1, Nat.add_assoc]
      · cases he
    · rename_i e _ helm
      have hu := elm_spec helm
      split at he
      · rename_i id off n hst
        rw [hst] at hx
        split at he
        · rename_i hs
          simp only [Option.some.injEq, Prod.mk.injEq] at he
          obtain ⟨rfl, rfl⟩ := he
          obtain ⟨hz, h0, h1⟩ := hob
          obtain ⟨B, hL⟩ := isSome_live h hs
          obtain ⟨A, cap, hxe, hcap, hA, _⟩ := hx.lv_eq hL
          have hA' := hA (by omega)
          subst hA'
          refine ⟨_, ?_, .pt _ _ _ B hL⟩
          rw [hxe, hie]
          simp [Instr.indexAt, asIntOf, run_underlying hu, run_sizeOf' w hz, add_mk, h0, h1]
        · cases he
      · rename_i n cells hst
        rw [hst] at hx
        simp only [Option.some.injEq, Prod.mk.injEq] at he
        obtain ⟨rfl, rfl⟩ := he
        obtain ⟨hz, h0, h1, hne⟩ := hob
        obtain ⟨A, cc, hxe, _, hA⟩ := hx.fz_eq
        rcases hA with ⟨hn, _⟩ | ⟨b, o, g, rfl, hc, hv⟩
        · rw [hn] at hne; simp at hne; omega
        · refine ⟨_, ?_, .fp _ _ _ b o g hc hv⟩
          rw [hxe, hie]
          simp [Instr.indexAt, asIntOf, run_underlying hu, run_sizeOf' w hz, add_mk, h0, h1]
      · cases he
    · cases he

theorem yld_index (h : Rel c L F st a w) {t : TypeId} {x i : Operand} {r : AV} {ob : Prop} (he : avl c.P st (.index t x i) = some (r, ob)) (hob : ob) :
    Yld c.P (Instr.index t (a.eval x) (a.eval i)) w (sta c L st.hp) L r := by
  have hx := h.ev x
  simp only [avl] at he
  split at he
  · cases he
  · rename_i k hk
    obtain ⟨kk, hie⟩ := h.aint hk
    split at he
    · rename_i cs hst
      rw [hst] at hx
      split at he
      · rename_i n e harr
        simp only [Option.some.injEq, Prod.mk.injEq] at he
        obtain ⟨rfl, rfl⟩ := he
        obtain ⟨hg, h0, h1, hl⟩ := hob
        obtain ⟨_, _, hz, _⟩ := good_spec hg
        obtain ⟨vs, g, hxe, h0', h1', h2'⟩ := hx.ag_eq
        obtain ⟨v, hr, hv⟩ := run_part_ag hg h0' h1' h2' hl
        refine ⟨v, ?_, hv⟩
        rw [hxe, hie]
        simpa [Instr.index, asIntOf, run_und_arr harr, h0, h1, run_sizeOf' w hz] using hr
      · cases he
    · rename_i s hst
      rw [hst] at hx
      simp only [Option.some.injEq, Prod.mk.injEq] at he
      obtain ⟨rfl, rfl⟩ := he
      obtain ⟨hg, h0, h1⟩ := hob
      have hu := isStr_spec hg
      have hxe := hx.sc_eq
      have hlt : k.toNat < s.size := by omega
      refine ⟨_, ?_, .sc _ _⟩
      rw [hxe, hie]
      have hs : s[k.toNat]? = some (s.data.getD k.toNat 0) := by
        have hlt' : k.toNat < s.data.size := hlt
        rw [getElem?_pos s k.toNat hlt]
        simp only [Array.getD, hlt', dif_pos]
        rfl
      simp [Instr.index, asIntOf, run_underlying hu, h0, hs]
    · cases he
end
end Go.Sim

namespace Go.Sim
open Go.RowKit
set_option linter.unusedVariables false
set_option linter.unusedSimpArgs false

section
variable {c : Cx} {L : Lay} {F : Nat → Prop} {st : St} {a : Act} {w : World}

theorem run_sliceBound' {P : Program} (w : World) (k : IntKind) (i : Int) (y : Nat) (code : BoundsCode) (h0 : 0 ≤ i) (h1 : i ≤ y) : (Instr.sliceBound (.int k i) y code).run P w = .ok i.toNat w := by
  simp [Instr.sliceBound, asIntOf, h0, h1]
theorem run_bounds {P : Program} (w : World) (isS : Bool) (len cap : Nat) (lo hi mx : Option Value) (l h : Nat) (m : Nat)
    (hlo : lo = none ∧ l = 0 ∨ ∃ k, lo = some (.int k l)) (hhi : hi = none ∧ h = len ∧ mx = none ∨ ∃ k, hi = some (.int k h)) (hmx : mx = none ∧ m = cap ∨ ∃ k, mx = some (.int k m)) (h1 : l ≤ h) (h2 : h ≤ m) (h3 : m ≤ cap) :
    (Instr.sliceBounds isS len cap lo hi mx).run P w = .ok (l, h, m) w := by
  have hl : ∀ code, (Instr.sliceBound (.int .i64 (l : Int)) h code).run P w = .ok l w := fun code => by
    rw [run_sliceBound' w _ _ _ _ (by omega) (by omega), Int.toNat_natCast]
  have e : ∀ (k : IntKind) (n y : Nat) code, n ≤ y → (Instr.sliceBound (.int k (n : Int)) y code).run P w = .ok n w := fun k n y code hh => by
    rw [run_sliceBound' w _ _ _ _ (by omega) (by omega), Int.toNat_natCast]
  unfold Instr.sliceBounds
  rcases hmx with ⟨rfl, rfl⟩ | ⟨km, rfl⟩
  · rcases hhi with ⟨rfl, rfl, _⟩ | ⟨kh, rfl⟩
    · rcases hlo with ⟨rfl, rfl⟩ | ⟨kl, rfl⟩
      · simp
      · simp [e kl _ _ _ h1]
    · rcases hlo with ⟨rfl, rfl⟩ | ⟨kl, rfl⟩
      · simp [e kh _ _ _ h2]
      · simp [e kl _ _ _ h1, e kh _ _ _ h2]
  · rcases hhi with ⟨_, _, hx⟩ | ⟨kh, rfl⟩
    · cases hx
    · rcases hlo with ⟨rfl, rfl⟩ | ⟨kl, rfl⟩
      · simp [e kh _ _ _ h2, e km _ _ _ h3]
      · simp [e kl _ _ _ h1, e kh _ _ _ h2, e km _ _ _ h3]
theorem abd_spec (hr : Rel c L F st a w) {d : Nat} {x : Option Operand} {n : Int} (h : abd st d x = some n) (h0 : 0 ≤ n) : (x.map a.eval = none ∧ n.toNat = d) ∨ ∃ k, x.map a.eval = some (.int k (n.toNat : Nat)) := by
  cases x with
  | none => simp [abd] at h; exact .inl ⟨rfl, by omega⟩
  | some y =>
    obtain ⟨k, hk⟩ := hr.aint h
    exact .inr ⟨k, by simp [hk]; omega⟩

theorem yld_slice (h : Rel c L F st a w) {t : TypeId} {x : Operand} {lo hi mx : Option Operand} {r : AV} {ob : Prop} (he : avl c.P st (.slice t x lo hi mx) = some (r, ob)) (hob : ob) :
    Yld c.P (Instr.sliceAt t (a.eval x) (lo.map a.eval) (hi.map a.eval) (mx.map a.eval)) w (sta c L st.hp) L r := by
  have hx := h.ev x
  simp only [avl] at he
  split at he
  · rename_i s hst
    rw [hst] at hx
    split at he
    · rename_i l hh hl hhi
      simp only [Option.some.injEq, Prod.mk.injEq] at he
      obtain ⟨rfl, rfl⟩ := he
      obtain ⟨hs, rfl, h0, h1, h2⟩ := hob
      have hu := isStr_spec hs
      have bl := abd_spec h hl h0
      have bh := abd_spec h hhi (by omega)
      refine ⟨_, ?_, .sc _ _⟩
      rw [hx.sc_eq]
      have hb := run_bounds (P := c.P) w false s.size s.size (lo.map a.eval) (hi.map a.eval) none l.toNat hh.toNat s.size bl
        (by rcases bh with ⟨h1, h2⟩ | h1; exact .inl ⟨h1, h2, rfl⟩; exact .inr h1) (.inl ⟨rfl, rfl⟩) (by omega) (by omega) (Nat.le_refl _)
      simp [Instr.sliceAt, Instr.slice, run_underlying hu, hb]
    · cases he
  · rename_i n cells hst
    rw [hst] at hx
    split at he
    · rename_i e helm0
      have helm : elm c.P t = some e := by
        split at helm0
        · cases helm0
        · exact helm0
      have hu := elm_spec helm
      split at he
      · rename_i l hh m hl hhi hmx
        simp only [Option.some.injEq, Prod.mk.injEq] at he
        obtain ⟨rfl, rfl⟩ := he
        obtain ⟨hz, h0, h1, h2, h3, h4⟩ := hob
        obtain ⟨A, cp, hxe, hcap, hA⟩ := hx.fz_eq
        have bl := abd_spec h hl h0
        have bh := abd_spec h hhi (by omega)
        have bm := abd_spec h hmx (by omega)
        -- the bound m stands for the capacity where none is given
        obtain ⟨m', hm1, hm2, hm3⟩ : ∃ m', (mx.map a.eval = none ∧ m' = cp ∨ ∃ k, mx.map a.eval = some (.int k (m' : Nat))) ∧ hh.toNat ≤ m' ∧ m' ≤ cp := by
          rcases bm with ⟨e1, e2⟩ | ⟨k, e1⟩
          · exact ⟨cp, .inl ⟨e1, rfl⟩, by omega, Nat.le_refl _⟩
          · exact ⟨m.toNat, .inr ⟨k, e1⟩, by omega, by omega⟩
        have hb := run_bounds (P := c.P) w true n cp (lo.map a.eval) (hi.map a.eval) (mx.map a.eval) l.toNat hh.toNat m' bl
          (by
            rcases bh with ⟨e1, e2⟩ | e1
            · refine .inl ⟨e1, e2, ?_⟩
              cases mx with
              | none => rfl
              | some y => have := h4 rfl; cases hi with | none => cases this | some z => cases e1
            · exact .inr e1) hm1 (by omega) hm2 hm3
        have hrun : (Instr.sliceAt t (a.eval x) (lo.map a.eval) (hi.map a.eval) (mx.map a.eval)).run c.P w =
            .ok (.slice (if m' = l.toNat then A else A.map (·.add (l.toNat * siz c.P e))) (hh.toNat - l.toNat) (m' - l.toNat)) w := by
          rw [hxe]
          simp [Instr.sliceAt, Instr.slice, run_underlying hu, hb, run_sizeOf' w hz]
        refine ⟨_, hrun, ?_⟩
        by_cases hn : hh.toNat - l.toNat = 0
        · rw [hn]
          simp only [Nat.zero_mul, List.take_zero]
          exact .fz0 _ _ _
        · rcases hA with ⟨hn1, hn2⟩ | ⟨b, o, g, rfl, hc, hv⟩
          · exfalso; omega
          · rw [if_neg (by omega)]
            simp only [Option.map_some, add_mk]
            refine .fz _ _ _ b _ _ (fun i => g (l.toNat * siz c.P e + i)) (by omega) (fun i hi => ?_) (fun i y hy => ?_)
            · simp only [List.length_take, List.length_drop] at hi
              have := hc (l.toNat * siz c.P e + i) (by omega)
              rw [Nat.add_assoc]
              exact this
            · have hi := (List.getElem?_eq_some_iff.1 hy).1
              simp only [List.length_take, List.length_drop] at hi
              rw [List.getElem?_take, if_pos (by omega), List.getElem?_drop] at hy
              exact hv _ _ hy
      · cases he
    · cases he
  · rename_i id off n hst
    rw [hst] at hx
    split at he
    · rename_i e o helm ho
      have hu := elm_spec helm
      obtain ⟨B, hL, hez, hlen, _⟩ := h.hr.live id o ho
      split at he
      · rename_i l hh m hl hhi hmx
        simp only [Option.some.injEq, Prod.mk.injEq] at he
        obtain ⟨rfl, rfl⟩ := he
        obtain ⟨hz, hoe, h0, h1, h2, h3, h4⟩ := hob
        obtain ⟨A, cp, hxe, hcap, hA, hroom⟩ := hx.lv_eq hL
        have bl := abd_spec h hl h0
        have bh := abd_spec h hhi (by omega)
        have bm := abd_spec h hmx (by omega)
        obtain ⟨m', hm1, hm2, hm3⟩ : ∃ m', (mx.map a.eval = none ∧ m' = cp ∨ ∃ k, mx.map a.eval = some (.int k (m' : Nat))) ∧ hh.toNat ≤ m' ∧ m' ≤ cp := by
          rcases bm with ⟨e1, e2⟩ | ⟨k, e1⟩
          · exact ⟨cp, .inl ⟨e1, rfl⟩, by omega, Nat.le_refl _⟩
          · exact ⟨m.toNat, .inr ⟨k, e1⟩, by omega, by omega⟩
        have hb := run_bounds (P := c.P) w true n cp (lo.map a.eval) (hi.map a.eval) (mx.map a.eval) l.toNat hh.toNat m' bl
          (by
            rcases bh with ⟨e1, e2⟩ | e1
            · refine .inl ⟨e1, e2, ?_⟩
              cases mx with
              | none => rfl
              | some y => have := h4 rfl; cases hi with | none => cases this | some z => cases e1
            · exact .inr e1) hm1 (by omega) hm2 hm3
        have hrun : (Instr.sliceAt t (a.eval x) (lo.map a.eval) (hi.map a.eval) (mx.map a.eval)).run c.P w =
            .ok (.slice (if m' = l.toNat then A else A.map (·.add (l.toNat * siz c.P e))) (hh.toNat - l.toNat) (m' - l.toNat)) w := by
          rw [hxe]
          simp [Instr.sliceAt, Instr.slice, run_underlying hu, hb, run_sizeOf' w hz]
        refine ⟨_, hrun, ?_⟩
        have hBe : B.esz = siz c.P e := hez.trans hoe
        refine .lv _ _ _ _ B _ _ hL (by omega) (fun hp => ?_) ?_
        · rw [if_neg (by omega), hA (by omega)]
          simp [add_mk]
        · have e1 : off + l.toNat * siz c.P e + (m' - l.toNat) * B.esz = off + (l.toNat + (m' - l.toNat)) * B.esz := by rw [hBe, Nat.add_mul]; omega
          rw [e1]
          have e2 : (l.toNat + (m' - l.toNat)) * B.esz ≤ cp * B.esz := Nat.mul_le_mul_right _ (by omega)
          omega
      · cases he
    · cases he
  · rename_i hst
    rw [hst] at hx
    split at he
    · rename_i e helm
      have hu := elm_spec helm
      split at he
      · rename_i l hh m hl hhi hmx
        simp only [Option.some.injEq, Prod.mk.injEq] at he
        obtain ⟨rfl, rfl⟩ := he
        obtain ⟨hz, rfl, rfl, rfl, h4⟩ := hob
        have bl := abd_spec h hl (by omega)
        have bh := abd_spec h hhi (by omega)
        have bm := abd_spec h hmx (by omega)
        have hb := run_bounds (P := c.P) w true 0 0 (lo.map a.eval) (hi.map a.eval) (mx.map a.eval) 0 0 0 bl
          (by
            rcases bh with ⟨e1, e2⟩ | e1
            · refine .inl ⟨e1, e2, ?_⟩
              cases mx with
              | none => rfl
              | some y => have := h4 rfl; cases hi with | none => cases this | some z => cases e1
            · exact .inr e1) bm (by omega) (by omega) (by omega)
        refine ⟨.slice none 0 0, ?_, .nl _⟩
        rw [hx.nl_eq]
        simp [Instr.sliceAt, Instr.slice, run_underlying hu, hb, run_sizeOf' w hz]
      · cases he
    · cases he
  · rename_i id off hst
    rw [hst] at hx
    split at he
    · rename_i n e o harr ho
      have hu := arr_spec harr
      obtain ⟨B, hL, hez, hlen, _⟩ := h.hr.live id o ho
      split at he
      · rename_i l hh hl hhi
        simp only [Option.some.injEq, Prod.mk.injEq] at he
        obtain ⟨rfl, rfl⟩ := he
        obtain ⟨hz, hoe, h0, h1, h2, h3⟩ := hob
        have bl := abd_spec h hl h0
        have bh := abd_spec h hhi (by omega)
        have hb := run_bounds (P := c.P) w false n n (lo.map a.eval) (hi.map a.eval) none l.toNat hh.toNat n bl
          (by rcases bh with ⟨e1, e2⟩ | e1; exact .inl ⟨e1, e2, rfl⟩; exact .inr e1) (.inl ⟨rfl, rfl⟩) (by omega) (by omega) (Nat.le_refl _)
        have hrun : (Instr.sliceAt t (a.eval x) (lo.map a.eval) (hi.map a.eval) (Option.map a.eval none)).run c.P w =
            .ok (.slice (some (if n = l.toNat then ⟨B.block, off, none⟩ else (⟨B.block, off, none⟩ : Addr).add (l.toNat * siz c.P e))) (hh.toNat - l.toNat) (n - l.toNat)) w := by
          rw [hx.pt_eq hL]
          simp [Instr.sliceAt, run_underlying hu, Instr.sureAddr, hb, run_sizeOf' w hz]
        refine ⟨_, hrun, ?_⟩
        have hBe : B.esz = siz c.P e := hez.trans hoe
        refine .lv _ _ _ _ B _ _ hL (by omega) (fun hp => ?_) ?_
        · rw [if_neg (by omega), add_mk]
        · have e1 : off + l.toNat * siz c.P e + (n - l.toNat) * B.esz = off + (l.toNat + (n - l.toNat)) * B.esz := by rw [hBe, Nat.add_mul]; omega
          rw [e1]
          have e2 : (l.toNat + (n - l.toNat)) * B.esz ≤ n * siz c.P e := by rw [hBe]; exact Nat.mul_le_mul_right _ (by omega)
          omega
      · cases he
    · cases he
  · cases he
end
end Go.Sim

namespace Go.Sim
open Go.RowKit
set_option linter.unusedVariables false
set_option linter.unusedSimpArgs false

section
variable {c : Cx} {L : Lay} {F : Nat → Prop} {st : St} {a : Act} {w : World}

theorem aby_spec {S : Nat → Nat → Prop} {L : Lay} {x : AV} {v : Value} (hv : VR w S L x v) {b : UInt8} (h : aby x = some b) : ∃ n, v = .int .u8 n ∧ UInt8.ofNat n.toNat = b := by
  unfold aby at h
  split at h
  · injection h with h
    exact ⟨_, hv.sc_eq, h⟩
  · cases h

theorem toStr_loop {P : Program} (w : World) : ∀ (cs : List AV) (vs : List Value) (acc : ByteArray), vs.length = cs.length → (∀ (i : Nat) (b : UInt8), (cs[i]?.bind aby) = some b → ∃ n, vs[i]? = some (.int .u8 n) ∧ UInt8.ofNat n.toNat = b) → (∀ x ∈ cs, (aby x).isSome = true) →
    (forIn (m := Sem) vs acc (fun (v : Value) (s : ByteArray) => (match v with | Value.int IntKind.u8 n => pure (ForInStep.yield (s.push (UInt8.ofNat n.toNat))) | _ => (do stuck "bytesToString: byte expected"; pure (ForInStep.yield s))))).run P w = .ok ⟨acc.data ++ (cs.filterMap aby).toArray⟩ w := by
  intro cs
  induction cs with
  | nil =>
    intro vs acc hl _ _
    have : vs = [] := List.eq_nil_of_length_eq_zero hl
    subst this
    simp
  | cons x cs ih =>
    intro vs acc hl hc ha
    cases vs with
    | nil => simp at hl
    | cons v vs =>
      obtain ⟨b, hb⟩ := Option.isSome_iff_exists.1 (ha x (by simp))
      obtain ⟨n, hn, hnb⟩ := hc 0 b (by simp [hb])
      simp at hn
      subst hn
      simp only [List.forIn_cons, Sem.run_bind, Sem.run_pure, Result.andThen_ok]
      rw [ih vs _ (by simpa using hl) (fun i b' hb' => by
        have := hc (i + 1) b' (by simpa using hb')
        simpa using this) (fun y hy => ha y (by simp [hy]))]
      simp [hb, hnb, ByteArray.push]

theorem run_bytesToString {P : Program} {w : World} {S : Nat → Nat → Prop} {L : Lay} {n : Nat} {cells : List AV} {v : Value} (hv : VR w S L (.fz n cells) v) (hn : cells.length = n) (hb : ∀ x ∈ cells, (aby x).isSome = true) :
    (Conv.bytesToString v).run P w = .ok (.string ⟨(cells.filterMap aby).toArray⟩) w := by
  obtain ⟨A, cp, rfl, _, hA⟩ := hv.fz_eq
  have hlist : ∀ (i : Nat) (b : UInt8), (cells[i]?.bind aby) = some b → ∃ x, cells[i]? = some x ∧ aby x = some b := by
    intro i b h
    cases hx : cells[i]? with
    | none => simp [hx] at h
    | some x => exact ⟨x, rfl, by simpa [hx] using h⟩
  cases A with
  | none =>
    rcases hA with ⟨rfl, _⟩ | ⟨b, o, g, hA, _⟩
    · simp [Conv.bytesToString]; rfl
    · cases hA
  | some ad =>
    obtain ⟨vs, hvl, hvc, hvr⟩ : ∃ vs : List Value, vs.length = n ∧ (∀ j v, vs[j]? = some v → w.cell? (ad.add j) = some v) ∧ ∀ (i : Nat) (b : UInt8), (cells[i]?.bind aby) = some b → ∃ m, vs[i]? = some (.int .u8 m) ∧ UInt8.ofNat m.toNat = b := by
      rcases hA with ⟨rfl, rfl⟩ | ⟨b, o, g, hA, hc, hr⟩
      · exact ⟨[], rfl, fun j v h => by simp at h, fun i b h => by simp at h⟩
      · injection hA with hA
        subst hA
        refine ⟨(List.range n).map g, by simp, fun j v hj => ?_, fun i b' hi => ?_⟩
        · have hjl : j < n := by
            have := (List.getElem?_eq_some_iff.1 hj).1
            simpa using this
          simp [List.getElem?_map, List.getElem?_range hjl] at hj
          subst hj
          rw [add_mk]
          exact (hc j (by omega)).2
        · obtain ⟨x, hx, hxb⟩ := hlist i b' hi
          obtain ⟨m, hm, hmb⟩ := aby_spec (hr i x hx) hxb
          have hil := (List.getElem?_eq_some_iff.1 hx).1
          refine ⟨m, ?_, hmb⟩
          simp [List.getElem?_map, List.getElem?_range (show i < n by omega), hm]
    have hlc := run_loadCells_list (P := P) w ad vs hvc
    rw [hvl] at hlc
    have hloop := toStr_loop (P := P) w cells vs ByteArray.empty (by omega) hvr hb
    simp only [Conv.bytesToString]
    rw [Sem.run_bind, hlc]
    simp only [Result.andThen_ok, Sem.run_bind]
    rw [← Array.forIn_toList]
    refine Eq.trans (congrArg (fun r => Result.andThen r (fun a w' => Sem.run P (pure (Value.string a)) w')) hloop) ?_
    simp

theorem yld_convert (h : Rel c L F st a w) {s d : TypeId} {x : Operand} {r : AV} {ob : Prop} (he : avl c.P st (.convert s d x) = some (r, ob)) (hob : ob) :
    Yld c.P (convert s d (a.eval x)) w (sta c L st.hp) L r := by
  have hx := h.ev x
  simp only [avl] at he
  split at he
  · rename_i k n hst
    rw [hst] at hx
    split at he
    · rename_i k' hk
      simp only [Option.some.injEq, Prod.mk.injEq] at he
      obtain ⟨rfl, rfl⟩ := he
      obtain ⟨ds, hds⟩ := Option.isSome_iff_exists.1 hob
      refine ⟨_, ?_, .sc _ _⟩
      rw [hx.sc_eq]
      simp [convert, run_underlying hds, run_underlying (ikd_spec hk), Conv.intToInt]
    · cases he
  · rename_i b hst
    rw [hst] at hx
    simp only [Option.some.injEq, Prod.mk.injEq] at he
    obtain ⟨rfl, rfl⟩ := he
    obtain ⟨ds, hds⟩ := Option.isSome_iff_exists.1 hob.1
    refine ⟨_, ?_, .sc _ _⟩
    rw [hx.sc_eq]
    simp [convert, run_underlying hds, run_underlying (isStr_spec hob.2)]
  · rename_i n cells hst
    rw [hst] at hx
    simp only [Option.some.injEq, Prod.mk.injEq] at he
    obtain ⟨rfl, rfl⟩ := he
    obtain ⟨⟨e, he1, he2⟩, hd, hn, hb⟩ := hob
    refine ⟨_, ?_, .sc _ _⟩
    have hr := run_bytesToString (P := c.P) hx hn hb
    obtain ⟨A, cp, hxe, _, _⟩ := hx.fz_eq
    rw [hxe] at hr ⊢
    simp [convert, run_underlying (elm_spec he1), run_underlying (ikd_spec he2), run_underlying (isStr_spec hd), hr]
  · rename_i hst
    rw [hst] at hx
    simp only [Option.some.injEq, Prod.mk.injEq] at he
    obtain ⟨rfl, rfl⟩ := he
    obtain ⟨⟨e, he1, he2⟩, hd⟩ := hob
    refine ⟨_, ?_, .sc _ _⟩
    rw [hx.nl_eq]
    simp [convert, run_underlying (elm_spec he1), run_underlying (ikd_spec he2), run_underlying (isStr_spec hd), Conv.bytesToString]
    rfl
  · cases he

theorem amx1_spec {P : Program} {w : World} {S : Nat → Nat → Prop} {L : Lay} (k : IntKind) : ∀ (xs : List AV) (vs : List Value) (m : Int) (k' : IntKind) (r : Int), vs.length = xs.length → (∀ i x, xs[i]? = some x → VR w S L x (vs.getD i undef)) → amx1 k m xs = some (k', r) →
    (vs.foldlM Builtin.max2 (.int k m)).run P w = .ok (.int k' r) w := by
  intro xs
  induction xs with
  | nil =>
    intro vs m k' r hl _ h
    obtain rfl : vs = [] := List.eq_nil_of_length_eq_zero hl
    simp [amx1] at h
    simp [h]
  | cons x xs ih =>
    intro vs m k' r hl hv h
    cases vs with
    | nil => simp at hl
    | cons v vs =>
      unfold amx1 at h
      split at h
      · rename_i h1; cases h1
      · rename_i kb b _ h1
        injection h1 with h1 h2
        subst h1 h2
        have := (hv 0 _ rfl).sc_eq
        simp at this
        subst this
        have e : (if b > m then b else m) = max m b := by split <;> omega
        simp only [List.foldlM_cons, Sem.run_bind, Builtin.max2, Sem.run_pure, Result.andThen_ok, e]
        exact ih vs _ _ _ (by simpa using hl) (fun i y hy => by have := hv (i + 1) y (by simpa using hy); simpa using this) h
      · cases h
theorem amn1_spec {P : Program} {w : World} {S : Nat → Nat → Prop} {L : Lay} (k : IntKind) : ∀ (xs : List AV) (vs : List Value) (m : Int) (k' : IntKind) (r : Int), vs.length = xs.length → (∀ i x, xs[i]? = some x → VR w S L x (vs.getD i undef)) → amn1 k m xs = some (k', r) →
    (vs.foldlM Builtin.min2 (.int k m)).run P w = .ok (.int k' r) w := by
  intro xs
  induction xs with
  | nil =>
    intro vs m k' r hl _ h
    obtain rfl : vs = [] := List.eq_nil_of_length_eq_zero hl
    simp [amn1] at h
    simp [h]
  | cons x xs ih =>
    intro vs m k' r hl hv h
    cases vs with
    | nil => simp at hl
    | cons v vs =>
      unfold amn1 at h
      split at h
      · rename_i h1; cases h1
      · rename_i kb b _ h1
        injection h1 with h1 h2
        subst h1 h2
        have := (hv 0 _ rfl).sc_eq
        simp at this
        subst this
        have e : (if b < m then b else m) = min m b := by split <;> omega
        simp only [List.foldlM_cons, Sem.run_bind, Builtin.min2, Sem.run_pure, Result.andThen_ok, e]
        exact ih vs _ _ _ (by simpa using hl) (fun i y hy => by have := hv (i + 1) y (by simpa using hy); simpa using this) h
      · cases h
theorem evs (h : Rel c L F st a w) (xs : List Operand) : (xs.map a.eval).length = (xs.map st.ev).length ∧ ∀ i x, (xs.map st.ev)[i]? = some x → VR w (sta c L st.hp) L x ((xs.map a.eval).getD i undef) := by
  refine ⟨by simp, fun i x hx => ?_⟩
  simp at hx
  obtain ⟨y, hy, rfl⟩ := hx
  have : (xs.map a.eval).getD i undef = a.eval y := by simp [List.getD_eq_getElem?_getD, hy]
  rw [this]
  exact h.ev y
theorem cels_spec (h : Rel c L F st a w) : ∀ (ps : List (Nat × Operand)) (l : List (Nat × List AV)), cels st ps = some l →
    List.length l = ps.length ∧ ∀ (i k : Nat) (cs : List AV), l[i]? = some (k, cs) → ∃ x, ps[i]? = some (k, x) ∧ VRs w (sta c L st.hp) L cs (a.eval x).cells.toList := by
  intro ps
  induction ps with
  | nil => intro l hl; simp [cels] at hl; subst hl; exact ⟨rfl, fun i k cs hi => by simp at hi⟩
  | cons p ps ih =>
    intro l hl
    obtain ⟨k, x⟩ := p
    simp only [cels] at hl
    split at hl
    · rename_i cs l' h1 h2
      injection hl with hl
      subst hl
      obtain ⟨e1, e2⟩ := ih l' h2
      refine ⟨by simp [e1], fun i k' cs' hi => ?_⟩
      cases i with
      | zero =>
        simp at hi
        obtain ⟨rfl, rfl⟩ := hi
        exact ⟨x, rfl, h.cel (h.ev x) h1⟩
      | succ i => simpa using e2 i k' cs' (by simpa using hi)
    · cases hl

theorem fill_spec {w : World} {S : Nat → Nat → Prop} {L : Lay} (pl : List (Nat × Nat)) (place : Nat → Option (Nat × Nat)) (hp : ∀ (i : Nat) (p : Nat × Nat), pl[i]? = some p → place i = some p) : ∀ (l : List (Nat × List AV)) (vl : List (Nat × Value)) (z : List AV) (zv : Array Value) (cs : List AV),
    vl.length = l.length → (∀ (i k : Nat) (c : List AV), l[i]? = some (k, c) → ∃ v : Value, vl[i]? = some (k, v) ∧ VRs w S L c v.cells.toList) → VRs w S L z zv.toList → afl pl z l = some cs →
    ∃ cv : Array Value, Instr.fill place zv vl = some cv ∧ VRs w S L cs cv.toList := by
  intro l
  induction l with
  | nil =>
    intro vl z zv cs hl _ hz h
    obtain rfl : vl = [] := List.eq_nil_of_length_eq_zero hl
    simp [afl] at h
    subst h
    exact ⟨zv, rfl, hz⟩
  | cons q l ih =>
    intro vl z zv cs hl hv hz h
    obtain ⟨i, c⟩ := q
    cases vl with
    | nil => simp at hl
    | cons u vl =>
      obtain ⟨v, hv0, hvr⟩ := hv 0 i c rfl
      simp at hv0
      subst hv0
      simp only [afl] at h
      split at h
      · cases h
      · rename_i off size hpl
        split at h
        · rename_i hcond
          obtain ⟨hc1, hc2⟩ := hcond
          have hpi := hp i _ hpl
          have hvl : v.cells.size = c.length := by have := hvr.1; simpa using this
          have hzl : zv.size = z.length := by have := hz.1; simpa using this
          have key : ∀ (xs : List AV) (ys : List Value) (off : Nat) (z : List AV) (zv : Array Value), VRs w S L xs ys → VRs w S L z zv.toList → off + xs.length ≤ z.length →
              VRs w S L (spl z off xs) ((ys.zipIdx 0).foldl (fun cs (c, j) => cs.setIfInBounds (off + j) c) zv).toList := by
            intro xs
            induction xs with
            | nil =>
              intro ys off z zv hxy hz _
              obtain rfl : ys = [] := List.eq_nil_of_length_eq_zero (by have := hxy.1; simpa using this)
              simpa [spl] using hz
            | cons x xs ih2 =>
              intro ys off z zv hxy hz hoff
              cases ys with
              | nil => have := hxy.1; simp at this
              | cons y ys =>
                have hx := hxy.2 0 x rfl
                simp at hx
                have hsz : zv.size = z.length := by have := hz.1; simpa using this
                simp only [List.length_cons] at hoff
                have hshift : ∀ (ys : List Value) (k : Nat) (zv : Array Value) (off : Nat), (ys.zipIdx (k + 1)).foldl (fun cs (c, j) => cs.setIfInBounds (off + j) c) zv = (ys.zipIdx k).foldl (fun cs (c, j) => cs.setIfInBounds (off + 1 + j) c) zv := by
                  intro ys
                  induction ys with
                  | nil => intro k zv off; rfl
                  | cons y ys ih3 =>
                    intro k zv off
                    simp only [List.zipIdx_cons, List.foldl_cons]
                    rw [ih3 (k + 1), show off + (k + 1) = off + 1 + k by omega]
                simp only [List.zipIdx_cons, List.foldl_cons, spl, Nat.add_zero]
                rw [hshift ys 0]
                refine ih2 ys (off + 1) _ _ ⟨by have := hxy.1; simpa using this, fun i x hx => by have := hxy.2 (i + 1) x (by simpa using hx); simpa using this⟩ ?_ (by simp; omega)
                refine ⟨by simp [hsz], fun i u hu => ?_⟩
                by_cases hio : off = i
                · subst hio
                  rw [List.getElem?_set_self (by omega)] at hu
                  injection hu with hu
                  subst hu
                  have : (zv.setIfInBounds off y).toList.getD off undef = y := by
                    simp [List.getD_eq_getElem?_getD, List.getElem?_set_self (show off < zv.toList.length by simp; omega)]
                  rw [this]; exact hx
                · rw [List.getElem?_set_ne hio] at hu
                  have := hz.2 i u hu
                  have e : (zv.setIfInBounds off y).toList.getD i undef = zv.toList.getD i undef := by
                    simp [List.getD_eq_getElem?_getD, List.getElem?_set_ne hio]
                  rw [e]; exact this
          obtain ⟨cv, hcv, hcvr⟩ := ih vl (spl z off c) _ cs (by simpa using hl) (fun j k c' hj => by have := hv (j + 1) k c' (by simpa using hj); simpa using this)
            (key c v.cells.toList off z zv hvr hz (by omega)) h
          refine ⟨cv, ?_, hcvr⟩
          simp only [Instr.fill, hpi]
          have hcnd : (decide (v.cells.size ≠ size) || decide (off + v.cells.size > zv.size)) = false := by
            simp only [Bool.or_eq_false_iff, decide_eq_false_iff_not]
            exact ⟨by rw [hvl, hc1]; simp, by omega⟩
          rw [hcnd]
          simp only [Bool.false_eq_true, if_false]
          rw [← hcv]
          congr 1
          rw [← Array.foldl_toList]
          simp
        · cases h

theorem yld_build (h : Rel c L F st a w) {t : TypeId} {ps : Array (Nat × Operand)} {r : AV} {ob : Prop} (he : avl c.P st (.build t ps) = some (r, ob)) (hob : ob) :
    Yld c.P (Instr.build t (ps.map fun (i, x) => (i, a.eval x))) w (sta c L st.hp) L r := by
  simp only [avl] at he
  split at he
  · rename_i l pl z h1 h2 h3
    split at he
    · rename_i cs h4
      simp only [Option.some.injEq, Prod.mk.injEq] at he
      obtain ⟨rfl, rfl⟩ := he
      obtain ⟨e1, e2⟩ := cels_spec h _ _ h1
      unfold zrc at h3
      cases hi : c.P.info? t with
      | none => simp [hi] at h3
      | some it =>
        cases hzv : it.zero with
        | none => simp [hi, hzv] at h3
        | some zv =>
          simp [hi, hzv] at h3
          subst h3
          have hz : VRs w (sta c L st.hp) L (zv.cells.toList.map ofCell) zv.cells.toList := by
            refine ⟨by simp, fun i x hx => ?_⟩
            simp at hx
            obtain ⟨u, hu, rfl⟩ := hx
            have : zv.cells.toList.getD i undef = u := by simp [List.getD_eq_getElem?_getD, hu]
            rw [this]
            exact ofCell_vr ..
          have parts : ∀ (i k : Nat) (cs : List AV), l[i]? = some (k, cs) → ∃ v : Value, ((ps.map fun (i, x) => (i, a.eval x)).toList)[i]? = some (k, v) ∧ VRs w (sta c L st.hp) L cs v.cells.toList := by
            intro i k cs hi
            obtain ⟨x, hx, hr⟩ := e2 i k cs hi
            refine ⟨a.eval x, ?_, hr⟩
            have hx' : ps[i]? = some (k, x) := by simpa using hx
            simp only [Array.toList_map, List.getElem?_map, hx]
            rfl
          have hlen : ((ps.map fun (i, x) => (i, a.eval x)).toList).length = l.length := by simp [e1]
          have fin : ∀ place : Nat → Option (Nat × Nat), (∀ (i : Nat) (p : Nat × Nat), pl[i]? = some p → place i = some p) → c.P.built t (ps.map fun (i, x) => (i, a.eval x)).toList = Instr.fill place zv.cells (ps.map fun (i, x) => (i, a.eval x)).toList →
              Yld c.P (Instr.build t (ps.map fun (i, x) => (i, a.eval x))) w (sta c L st.hp) L (.ag cs) := by
            intro place hpl hb
            obtain ⟨cv, hcv, hcvr⟩ := fill_spec pl place hpl l _ _ _ cs hlen parts hz h4
            refine ⟨.agg cv, run_build w t _ cv (by rw [hb]; exact hcv), ?_⟩
            refine .ag _ _ _ (fun i => cv.toList.getD i undef) (by have := hcvr.1; simpa using this) (fun i hi => ?_) hcvr.2
            have : i < cv.size := by have := hcvr.1; simp at this; omega
            simp [List.getD_eq_getElem?_getD, this]
          unfold plc at h2
          split at h2
          · rename_i fs hu
            refine fin (fun i => pl[i]?) (fun i p hp => hp) ?_
            simp [Program.built, hi, hu, hzv, h2]
          · rename_i n e hu
            cases hie : c.P.info? e with
            | none => simp [hie] at h2
            | some ie =>
              simp [hie] at h2
              subst h2
              refine fin (fun i => some (i * ie.size, ie.size)) (fun i p hp => ?_) (by simp [Program.built, hi, hu, hzv, hie])
              have hil := (List.getElem?_eq_some_iff.1 hp).1
              simp at hil
              simp [List.getElem?_range hil] at hp
              simp [hp]
          · cases h2
    · cases he
  · cases he
end
end Go.Sim

namespace Go.Sim
open Go.RowKit
set_option linter.unusedVariables false
set_option linter.unusedSimpArgs false

section
variable {c : Cx} {L : Lay} {F : Nat → Prop} {st : St} {a : Act} {w : World}

theorem len_spec (h : Rel c L F st a w) {args : Array Operand} {argTypes : Array TypeId} {ty : TypeId} {r : AV} {ob : Prop}
    (he : avl c.P st (.call { callee := .builtin .len, args, argTypes }) = some (r, ob)) (hob : ob) : Yld c.P (Builtin.len_ argTypes ty (args.map a.eval)) w (sta c L st.hp) L r := by
  simp only [avl] at he
  split at he
  · rename_i x t hx ht
    have hxe : args.map a.eval = #[a.eval x] := by
      apply Array.ext'
      simp [hx]
    have hte : argTypes = #[t] := by
      apply Array.ext'
      simp [ht]
    rw [hxe, hte]
    have hv := h.ev x
    split at he
    · rename_i s hst
      rw [hst] at hv
      simp only [Option.some.injEq, Prod.mk.injEq] at he
      obtain ⟨rfl, rfl⟩ := he
      refine ⟨_, ?_, .sc _ _⟩
      rw [hv.sc_eq]
      simp [Builtin.len_, run_underlying (isStr_spec hob), goInt]
    · rename_i n cells hst
      rw [hst] at hv
      simp only [Option.some.injEq, Prod.mk.injEq] at he
      obtain ⟨rfl, rfl⟩ := he
      obtain ⟨e, hel⟩ := Option.isSome_iff_exists.1 hob
      obtain ⟨A, cp, hxe, _⟩ := hv.fz_eq
      refine ⟨_, ?_, .sc _ _⟩
      rw [hxe]
      simp [Builtin.len_, run_underlying (elm_spec hel), goInt]
    · rename_i hst
      rw [hst] at hv
      simp only [Option.some.injEq, Prod.mk.injEq] at he
      obtain ⟨rfl, rfl⟩ := he
      obtain ⟨e, hel⟩ := Option.isSome_iff_exists.1 hob
      refine ⟨_, ?_, .sc _ _⟩
      rw [hv.nl_eq]
      simp [Builtin.len_, run_underlying (elm_spec hel), goInt]
    · rename_i id off n hst
      rw [hst] at hv
      split at he
      · rename_i hs
        simp only [Option.some.injEq, Prod.mk.injEq] at he
        obtain ⟨rfl, rfl⟩ := he
        obtain ⟨B, hL⟩ := isSome_live h hs
        obtain ⟨e, hel⟩ := Option.isSome_iff_exists.1 hob
        obtain ⟨A, cp, hxe, _⟩ := hv.lv_eq hL
        refine ⟨_, ?_, .sc _ _⟩
        rw [hxe]
        simp [Builtin.len_, run_underlying (elm_spec hel), goInt]
      · cases he
    · split at he
      · rename_i n e harr
        simp only [Option.some.injEq, Prod.mk.injEq] at he
        obtain ⟨rfl, rfl⟩ := he
        refine ⟨_, ?_, .sc _ _⟩
        simp [Builtin.len_, run_underlying (arr_spec harr), goInt]
      · cases he
  · cases he
theorem mx_spec (h : Rel c L F st a w) {args : Array Operand} {argTypes : Array TypeId} {ty : TypeId} {r : AV} {ob : Prop}
    (he : avl c.P st (.call { callee := .builtin .max, args, argTypes }) = some (r, ob)) : Yld c.P (Builtin.max_ argTypes ty (args.map a.eval)) w (sta c L st.hp) L r := by
  simp only [avl] at he
  split at he
  · rename_i k n hm
    simp only [Option.some.injEq, Prod.mk.injEq] at he
    obtain ⟨rfl, rfl⟩ := he
    obtain ⟨e1, e2⟩ := evs h args.toList
    refine ⟨_, ?_, .sc _ _⟩
    unfold Builtin.max_
    have e3 : (args.map a.eval).toList = args.toList.map a.eval := by simp
    rw [e3]
    generalize args.toList.map st.ev = xs at *
    generalize args.toList.map a.eval = vs at *
    unfold amx at hm
    split at hm
    · rename_i k' m r
      cases vs with
      | nil => simp at e1
      | cons v vs =>
        have := (e2 0 _ rfl).sc_eq
        simp at this
        subst this
        exact amx1_spec k' r vs m k n (by simpa using e1) (fun i y hy => by have := e2 (i + 1) y (by simpa using hy); simpa using this) hm
    · cases hm
  · cases he
theorem mn_spec (h : Rel c L F st a w) {args : Array Operand} {argTypes : Array TypeId} {ty : TypeId} {r : AV} {ob : Prop}
    (he : avl c.P st (.call { callee := .builtin .min, args, argTypes }) = some (r, ob)) : Yld c.P (Builtin.min_ argTypes ty (args.map a.eval)) w (sta c L st.hp) L r := by
  simp only [avl] at he
  split at he
  · rename_i k n hm
    simp only [Option.some.injEq, Prod.mk.injEq] at he
    obtain ⟨rfl, rfl⟩ := he
    obtain ⟨e1, e2⟩ := evs h args.toList
    refine ⟨_, ?_, .sc _ _⟩
    unfold Builtin.min_
    have e3 : (args.map a.eval).toList = args.toList.map a.eval := by simp
    rw [e3]
    generalize args.toList.map st.ev = xs at *
    generalize args.toList.map a.eval = vs at *
    unfold amn at hm
    split at hm
    · rename_i k' m r
      cases vs with
      | nil => simp at e1
      | cons v vs =>
        have := (e2 0 _ rfl).sc_eq
        simp at this
        subst this
        exact amn1_spec k' r vs m k n (by simpa using e1) (fun i y hy => by have := e2 (i + 1) y (by simpa using hy); simpa using this) hm
    · cases hm
  · cases he

theorem run_ptn {t yt ty : TypeId} {x y : Operand} {pos : String} {aft : Array Edge} {gd : Option (Nat × Bool)} {dst : Option Nat} {p : Option Addr}
    (hp : isPtr c.P t = true) (hx : a.eval x = .pointer p) (hy : a.eval y = .pointer none) :
    (execOp a.eval ⟨dst, .binOp .eql t x y yt, ty, pos, aft, gd⟩).run c.P w = .ok (.value (.bool p.isNone)) w ∧ (execOp a.eval ⟨dst, .binOp .neq t x y yt, ty, pos, aft, gd⟩).run c.P w = .ok (.value (.bool (!p.isNone))) w := by
  have ht : c.P.underlying t = some (.pointer (c.P.pointee t)) := by
    obtain ⟨e, he⟩ := isPtr_spec hp
    rw [he, show c.P.pointee t = e from by simp [Program.pointee, he]]
  have hg : ∀ (q : BinOp) (u v : Operand), eqGuard q t u v (.pointer p) (.pointer none) = pure () := by
    intro q u v
    unfold eqGuard
    cases q <;> rfl
  constructor
  · simp only [execOp, hx, hy, hg]
    rw [Sem.run_bind, Sem.run_bind, Sem.run_pure]
    simp only [Result.andThen_ok, run_eql_pointer_nil w t p ht]
    rfl
  · simp only [execOp, hx, hy, hg]
    rw [Sem.run_bind, Sem.run_bind, Sem.run_pure]
    simp only [Result.andThen_ok, run_neq_pointer_nil w t p ht]
    rfl

theorem avl_run (hr : Rel c L F st a w) {o : Oper} {x : AV} {ob : Prop} (he : avl c.P st o.op = some (x, ob)) (hob : ob) :
    ∃ v, (execOp a.eval o).run c.P w = .ok (.value v) w ∧ VR w (sta c L st.hp) L x v := by
  obtain ⟨dst, op, ty, pos, aft, gd⟩ := o
  simp only at he ⊢
  cases op with
  | move y =>
    simp only [avl, Option.some.injEq, Prod.mk.injEq] at he
    obtain ⟨rfl, rfl⟩ := he
    exact ⟨_, by simp [execOp], hr.ev y⟩
  | assign y =>
    simp only [avl, Option.some.injEq, Prod.mk.injEq] at he
    obtain ⟨rfl, rfl⟩ := he
    exact ⟨_, by simp [execOp], hr.ev y⟩
  | pick k p q =>
    simp only [avl] at he
    split at he
    · rename_i t hst
      simp only [Option.some.injEq, Prod.mk.injEq] at he
      obtain ⟨rfl, rfl⟩ := he
      have hk := hr.ev k
      rw [hst] at hk
      refine ⟨_, by simp [execOp, hk.sc_eq, asBool]; rfl, ?_⟩
      cases t
      · exact hr.ev q
      · exact hr.ev p
    · cases he
  | binOp op t y z yt =>
    simp only [avl] at he
    split at he
    · rename_i u v hu hv
      split at he
      · rename_i r ob' hb
        simp only [Option.some.injEq, Prod.mk.injEq] at he
        obtain ⟨rfl, rfl⟩ := he
        have h1 := hr.ev y
        have h2 := hr.ev z
        rw [hu] at h1
        rw [hv] at h2
        have := bop_spec hb hob y z w
        refine ⟨r, ?_, .sc _ _⟩
        simp only [execOp, h1.sc_eq, h2.sc_eq]
        rw [Sem.run_bind, this]
        rfl
      · cases he
    · rename_i xs ys hu hv
      have h1 := hr.ev y
      have h2 := hr.ev z
      rw [hu] at h1
      rw [hv] at h2
      split at he
      · simp only [Option.some.injEq, Prod.mk.injEq] at he
        obtain ⟨rfl, rfl⟩ := he
        refine ⟨_, ?_, .sc _ _⟩
        simp only [execOp]
        rw [Sem.run_bind, (run_aeq h1 h2 hob y z).1]
        rfl
      · simp only [Option.some.injEq, Prod.mk.injEq] at he
        obtain ⟨rfl, rfl⟩ := he
        refine ⟨_, ?_, .sc _ _⟩
        simp only [execOp]
        rw [Sem.run_bind, (run_aeq h1 h2 hob y z).2]
        rfl
      · cases he
    · rename_i hz hn
      have h1 := hr.ev y
      have h2 := hr.ev z
      rw [hz] at h2
      have hz2 := h2.sc_eq
      unfold pnq at he
      split at he
      · rename_i id off hy
        split at he
        · rename_i hs
          rw [hy] at h1
          obtain ⟨B, hB⟩ := isSome_live hr hs
          have hxe := h1.pt_eq hB
          split at he <;> simp only [Option.some.injEq, Prod.mk.injEq, reduceCtorEq] at he
          · obtain ⟨rfl, rfl⟩ := he
            exact ⟨_, (run_ptn hob hxe hz2).1, .sc _ _⟩
          · obtain ⟨rfl, rfl⟩ := he
            exact ⟨_, (run_ptn hob hxe hz2).2, .sc _ _⟩
        · cases he
      · rename_i cs off hy
        rw [hy] at h1
        obtain ⟨bb, oo, gg, hxe, _⟩ := h1.fp_eq
        split at he <;> simp only [Option.some.injEq, Prod.mk.injEq, reduceCtorEq] at he
        · obtain ⟨rfl, rfl⟩ := he
          exact ⟨_, (run_ptn hob hxe hz2).1, .sc _ _⟩
        · obtain ⟨rfl, rfl⟩ := he
          exact ⟨_, (run_ptn hob hxe hz2).2, .sc _ _⟩
      · cases he
    · cases he
  | unOp op t y =>
    simp only [avl] at he
    split at he
    · rename_i u hu
      split at he
      · rename_i r hb
        simp only [Option.some.injEq, Prod.mk.injEq] at he
        obtain ⟨rfl, rfl⟩ := he
        have h1 := hr.ev y
        rw [hu] at h1
        have := uop_spec (P := c.P) hb w
        refine ⟨r, ?_, .sc _ _⟩
        simp only [execOp, h1.sc_eq]
        rw [Sem.run_bind, this]
        rfl
      · cases he
    · cases he
  | convert s d y =>
    obtain ⟨v, h1, h2⟩ := yld_convert hr he hob
    refine ⟨v, ?_, h2⟩
    simp only [execOp]
    rw [Sem.run_bind, h1]; rfl
  | load t y =>
    obtain ⟨v, h1, h2⟩ := yld_load hr he hob
    refine ⟨v, ?_, h2⟩
    simp only [execOp]
    rw [Sem.run_bind, h1]; rfl
  | fieldAddr t y k =>
    obtain ⟨v, h1, h2⟩ := yld_fieldAddr hr he hob
    refine ⟨v, ?_, h2⟩
    simp only [execOp]
    rw [Sem.run_bind, h1]; rfl
  | field t y k =>
    obtain ⟨v, h1, h2⟩ := yld_field hr he hob
    refine ⟨v, ?_, h2⟩
    simp only [execOp]
    rw [Sem.run_bind, h1]; rfl
  | indexAddr t y i =>
    obtain ⟨v, h1, h2⟩ := yld_indexAddr hr he hob
    refine ⟨v, ?_, h2⟩
    simp only [execOp]
    rw [Sem.run_bind, h1]; rfl
  | index t y i =>
    obtain ⟨v, h1, h2⟩ := yld_index hr he hob
    refine ⟨v, ?_, h2⟩
    simp only [execOp]
    rw [Sem.run_bind, h1]; rfl
  | slice t y lo hi mx =>
    obtain ⟨v, h1, h2⟩ := yld_slice hr he hob
    refine ⟨v, ?_, h2⟩
    simp only [execOp]
    rw [Sem.run_bind, h1]; rfl
  | build t ps =>
    obtain ⟨v, h1, h2⟩ := yld_build hr he hob
    refine ⟨v, ?_, h2⟩
    simp only [execOp]
    rw [Sem.run_bind, h1]; rfl
  | extract y k =>
    simp only [avl] at he
    split at he
    · rename_i vs hst
      simp only [Option.some.injEq, Prod.mk.injEq] at he
      obtain ⟨rfl, rfl⟩ := he
      have h1 := hr.ev y
      rw [hst] at h1
      obtain ⟨us, g, hxe, h0, h1', h2⟩ := h1.tu_eq
      refine ⟨g k, ?_, h2 k _ (by simp [List.getD_eq_getElem?_getD, hob])⟩
      simp [execOp, hxe, Instr.extract, h1' k hob]
    · cases he
  | makeFunc fn first captured =>
    cases fn with
    | func f =>
      simp only [avl] at he
      split at he
      · rename_i hf
        simp only [Option.some.injEq, Prod.mk.injEq] at he
        obtain ⟨rfl, rfl⟩ := he
        obtain ⟨e1, e2⟩ := evs hr captured.toList
        have hf' : first = #[] := by simpa using hf
        refine ⟨_, by simp [execOp, Instr.makeFunc, hf']; rfl, .fn _ _ _ _ (fun i => (captured.toList.map a.eval).getD i undef) (by simp) (fun i hi => ?_) e2⟩
        simp at hi
        simp [List.getD_eq_getElem?_getD, hi]
      · rename_i hf
        split at he
        · rename_i x hx1 hx2
          simp only [Option.some.injEq, Prod.mk.injEq] at he
          obtain ⟨rfl, rfl⟩ := he
          have e1 : first = #[x] := Array.toList_inj.1 hx1
          have e2 : captured = #[] := Array.toList_inj.1 hx2
          subst e1; subst e2
          exact ⟨_, by simp [execOp, Instr.makeFunc], .bf _ _ _ _ (hr.ev x)⟩
        · cases he
    | _ => simp [avl] at he
  | lookup t y i ok =>
    simp only [avl] at he
    have h1 := hr.ev y
    have h2 := hr.ev i
    split at he
    · rename_i kt et ks vs n ht hy hi
      split at he
      · rename_i hz
        simp only [Option.some.injEq, Prod.mk.injEq] at he
        obtain ⟨rfl, rfl⟩ := he
        rw [hy] at h1
        rw [hi] at h2
        have hm := mpT_spec ht
        have hk := ikd_spec hob
        have e2 := h2.sc_eq
        have pair : ∀ (o : Option AV) (u : Value), VR w (sta c L st.hp) L (o.getD .nl) u → ∀ b : Bool, b = o.isSome → VR w (sta c L st.hp) L (mres ok o) (if ok = true then .tuple #[u, .bool b] else u) := by
          intro o u hu b hb
          subst hb
          cases ok with
          | false => exact hu
          | true =>
            refine .tu _ _ _ (fun j => #[u, .bool o.isSome].getD j undef) rfl (fun j hj => ?_) (fun j x hx => ?_)
            · rcases j with _ | _ | j
              · rfl
              · rfl
              · simp at hj
                omega
            · rcases j with _ | _ | j
              · simp at hx; subst hx; exact hu
              · simp at hx; subst hx; exact .sc _ _
              · simp at hx
        generalize hu : a.eval y = u at h1
        cases h1 with
        | mp0 =>
          refine ⟨_, ?_, pair none _ (.nl _) false rfl⟩
          simp only [execOp, e2]
          rw [hu, Sem.run_bind, map_lookup_nil hm hk (mz_run hz w) n ok]
          rfl
        | mp _ _ _ r es ck g h0 hb hM hv =>
          rcases map_lookup hm hk (mz_run hz w) hb hM n with ⟨j, hj, hrun⟩ | ⟨hn, hrun⟩
          · have hjl : j < vs.length := by rw [h0]; exact (List.getElem?_eq_some_iff.1 hj).1
            have hx := hv j vs[j] (List.getElem?_eq_getElem hjl)
            rw [mget_at ks vs j n vs[j] hM.nodup hj (List.getElem?_eq_getElem hjl)]
            refine ⟨_, ?_, pair (some vs[j]) _ (hx.move (fun b i u h1 h2 => ⟨h1, h2⟩) (fun id y h => by cases h) (MpK.refl _)) true rfl⟩
            simp only [execOp, e2]
            rw [hu, Sem.run_bind, hrun ok]
            rfl
          · rw [mget_none ks vs n hn]
            refine ⟨_, ?_, pair none _ (.nl _) false rfl⟩
            simp only [execOp, e2]
            rw [hu, Sem.run_bind, hrun ok]
            rfl
      · cases he
    · cases he
  | sliceToArrayPointer t y =>
    simp only [avl] at he
    have h1 := hr.ev y
    split at he
    · rename_i n e m cells ha hst
      simp only [Option.some.injEq, Prod.mk.injEq] at he
      obtain ⟨rfl, rfl⟩ := he
      rw [hst] at h1
      obtain ⟨A, c', hxe, h0, h2⟩ := h1.fz_eq
      rcases h2 with ⟨_, h2⟩ | ⟨b, o, g, rfl, h2, h3⟩
      · omega
      · refine ⟨_, ?_, .fp _ _ _ b o g h2 h3⟩
        simp [execOp, hxe, Instr.arrayAt, run_underlying (arr_spec ha), Nat.not_lt.2 hob.2]
    · rename_i n e id off m ha hst
      split at he
      · rename_i hs
        simp only [Option.some.injEq, Prod.mk.injEq] at he
        obtain ⟨rfl, rfl⟩ := he
        obtain ⟨B, hL⟩ := isSome_live hr hs
        rw [hst] at h1
        obtain ⟨A, cap, hxe, h0, h2, h3⟩ := h1.lv_eq hL
        have hA := h2 (by omega)
        subst hA
        refine ⟨_, ?_, .pt _ _ _ B hL⟩
        simp [execOp, hxe, Instr.arrayAt, run_underlying (arr_spec ha), Nat.not_lt.2 hob.2]
      · cases he
    · cases he
  | nilCheck y =>
    simp only [avl] at he
    have h1 := hr.ev y
    split at he
    · rename_i id off hst
      rw [hst] at h1
      split at he
      · rename_i hs
        simp only [Option.some.injEq, Prod.mk.injEq] at he
        obtain ⟨rfl, rfl⟩ := he
        obtain ⟨B, hL⟩ := isSome_live hr hs
        refine ⟨_, ?_, h1⟩
        simp only [execOp, h1.pt_eq hL]
        rfl
      · cases he
    · rename_i cc oo hst
      rw [hst] at h1
      simp only [Option.some.injEq, Prod.mk.injEq] at he
      obtain ⟨rfl, rfl⟩ := he
      refine ⟨_, ?_, h1⟩
      obtain ⟨b, o, g, hxe, _⟩ := h1.fp_eq
      simp only [execOp, hxe]
      rfl
    · cases he
  | call cl =>
    obtain ⟨callee, args, argTypes⟩ := cl
    cases callee with
    | builtin b =>
      cases b with
      | len =>
        obtain ⟨v, h1, h2⟩ := len_spec (ty := ty) hr he hob
        refine ⟨v, ?_, h2⟩
        simp only [execOp, resolve, Sem.run_bind, Sem.run_pure, Result.andThen_ok, invoke, builtin]
        rw [h1]; rfl
      | max =>
        obtain ⟨v, h1, h2⟩ := mx_spec (ty := ty) hr he
        refine ⟨v, ?_, h2⟩
        simp only [execOp, resolve, Sem.run_bind, Sem.run_pure, Result.andThen_ok, invoke, builtin]
        rw [h1]; rfl
      | min =>
        obtain ⟨v, h1, h2⟩ := mn_spec (ty := ty) hr he
        refine ⟨v, ?_, h2⟩
        simp only [execOp, resolve, Sem.run_bind, Sem.run_pure, Result.andThen_ok, invoke, builtin]
        rw [h1]; rfl
      | _ => simp [avl] at he
    | _ => simp [avl] at he
  | _ => simp [avl] at he

end
end Go.Sim

namespace Go.Sim
open Go.RowKit
set_option linter.unusedVariables false
set_option linter.unusedSimpArgs false

theorem ins_ins {α : Type} (l : List (Nat × α)) (k : Nat) (u v : α) : ins (ins l k u) k v = ins l k v := by
  induction l with
  | nil => simp [ins]
  | cons x xs ih =>
    unfold ins
    by_cases h1 : k < x.1
    · simp [h1, ins]
    · by_cases h2 : x.1 = k
      · simp [h1, h2, ins]
      · simp [h1, h2, ins, ih]
def lset (L : Lay) (id : Nat) (y : Option (Option Blk)) : Lay := fun j => if j = id then y else L j

section
variable {c : Cx} {L : Lay} {F : Nat → Prop} {st : St} {a : Act} {w : World}

theorem Rel.change (h : Rel c L F st a w) {L' : Lay} {hp' : List (Nat × Ob)} {w' : World} {F' : Nat → Prop}
    (hL : ∀ id y, L id = some y → L' id = some y ∨ L' id = some none)
    (hS : ∀ b i u, sta c L st.hp b i → w.cell? ⟨b, i, none⟩ = some u → sta c L' hp' b i ∧ w'.cell? ⟨b, i, none⟩ = some u)
    (hF : ∀ id, F' id → L' id = none) (hHR : HR c L' hp' w') (hM : NcK w w' := by first | assumption | exact NcK.refl _) : Rel c L' F' { st with hp := hp' } a w' :=
  ⟨hHR, hF, h.defs.move hM, h.size, fun t => (h.slot t).move hS hL, fun id y hy => by
    rcases h.ext id y hy with e | e
    · exact hL _ _ e
    · exact .inr ((hL _ _ e).elim _root_.id _root_.id)⟩
theorem cell_lt {w : World} {b i : Nat} {u : Value} (h : w.cell? ⟨b, i, none⟩ = some u) : b < w.heap.size := World.block_lt_of_cell? w _ h
theorem Upd.trans {I : Nat → Prop} {w w' w'' : World} (h : Upd I w w') (hs : w'.heap.size ≤ w''.heap.size) (h1 : w''.os = w'.os) (h2 : w''.tape = w'.tape) (h3 : w''.output = w'.output)
    (hb : ∀ k, k < w.heap.size → ¬ I k → w''.heap[k]? = w'.heap[k]?) (hM : NcK w' w'' := by first | assumption | exact NcK.refl _) : Upd I w w'' :=
  ⟨h1.trans h.os, h2.trans h.tape, h3.trans h.output, Nat.le_trans h.size hs, fun k hk hi => (hb k hk hi).trans (h.block k hk hi), h.maps.trans hM⟩

theorem HR.heap {hp : List (Nat × Ob)} (h : HR c L hp w) {w' : World} (hh : w'.heap = w.heap) (h1 : w'.os = w.os) (h2 : w'.tape = w.tape) (h3 : w'.output = w.output) : HR c L hp w' := by
  have hc : ∀ a, w'.cell? a = w.cell? a := fun a => by simp [World.cell?, hh]
  have hM : NcK w w' := .of_heap hh
  refine ⟨fun id o ho => ?_, h.dead, h.inj, h.mine, h.kept, h.upd.trans (by rw [hh]; exact Nat.le_refl _) h1 h2 h3 (fun k _ _ => by rw [hh])⟩
  obtain ⟨B, e1, e2, e3, e4⟩ := h.live id o ho
  refine ⟨B, e1, e2, e3, fun hz => ?_⟩
  obtain ⟨C, T, fr, e5, e6, e7, e8⟩ := e4 hz
  exact ⟨C, T, fr, by rw [hh]; exact e5, e6, e7, fun i x hx => (e8 i x hx).move (fun b j u hs hu => ⟨hs, by rw [hc]; exact hu⟩) (fun _ _ hy => .inl hy)⟩
theorem Rel.heap (h : Rel c L F st a w) {w' : World} (hh : w'.heap = w.heap) (h1 : w'.os = w.os) (h2 : w'.tape = w.tape) (h3 : w'.output = w.output) : Rel c L F st a w' := by
  have hc : ∀ a, w'.cell? a = w.cell? a := fun a => by simp [World.cell?, hh]
  have hM : NcK w w' := .of_heap hh
  exact ⟨h.hr.heap hh h1 h2 h3, h.fresh, h.defs.move hM, h.size, fun t => (h.slot t).move (fun b j u hs hu => ⟨hs, by rw [hc]; exact hu⟩) (fun _ _ hy => .inl hy), h.ext⟩
theorem Rel.drew (h : Rel c L F st a w) : Rel c L F st a w.drew := h.heap rfl rfl rfl rfl

theorem heap_alloc_lt (w : World) (o : Obj) {k : Nat} (h : k < w.heap.size) : (w.alloc o).heap[k]? = w.heap[k]? := by
  show (w.heap.push o)[k]? = _
  rw [Array.getElem?_push, if_neg (by omega)]

theorem Rel.newObj (h : Rel c L F st a w) {id : Nat} (hid : F id) {cs : List AV} {C : Array Value} {T : TypeId} {fr : Nat × Nat} {esz n : Nat} (hn : C.size = n) (hlen : cs.length ≤ n) (hfr : fr.1 = fr.2 ∨ n ≤ fr.1)
    (hv : ∀ i x, cs[i]? = some x → VR w (sta c L st.hp) L x (C.getD i undef)) :
    Rel c (lset L id (some (some ⟨w.heap.size, n, esz⟩))) (fun j => F j ∧ j ≠ id) { st with hp := ins st.hp id ⟨cs, esz, 0⟩ } a (w.alloc (.cells C T fr)) := by
  subst hn
  have hLid := h.fresh id hid
  have hnl : look st.hp id = none := by
    cases hl : look st.hp id with
    | none => rfl
    | some o => obtain ⟨B, hB, _⟩ := h.hr.live id o hl; rw [hLid] at hB; cases hB
  have hM : NcK w (w.alloc (.cells C T fr)) := .of_lt (fun k hk => heap_alloc_lt w _ hk)
  have hcell : ∀ b i u, w.cell? ⟨b, i, none⟩ = some u → (w.alloc (.cells C T fr)).cell? ⟨b, i, none⟩ = some u := by
    intro b i u hu
    have := cell_lt hu
    simp only [World.cell?, heap_alloc_lt w _ this]
    exact hu
  have hL : ∀ j y, L j = some y → lset L id (some (some ⟨w.heap.size, C.size, esz⟩)) j = some y ∨ lset L id (some (some ⟨w.heap.size, C.size, esz⟩)) j = some none := by
    intro j y hy
    have : j ≠ id := fun e => by rw [e, hLid] at hy; cases hy
    exact .inl (by simp [lset, this, hy])
  have hS : ∀ b i u, sta c L st.hp b i → w.cell? ⟨b, i, none⟩ = some u →
      sta c (lset L id (some (some ⟨w.heap.size, C.size, esz⟩))) (ins st.hp id ⟨cs, esz, 0⟩) b i ∧ (w.alloc (.cells C T fr)).cell? ⟨b, i, none⟩ = some u := by
    intro b i u hs hu
    refine ⟨?_, hcell b i u hu⟩
    rcases hs with hs | ⟨h1, h2⟩
    · exact .inl hs
    · refine .inr ⟨h1, ?_⟩
      rintro ⟨j, o, B, e1, e2, e3, e4, e5⟩
      rw [look_ins] at e1
      by_cases hj : id = j
      · subst hj
        simp [lset] at e2
        subst e2
        have := cell_lt hu
        simp at e3
        omega
      · rw [if_neg hj] at e1
        have : lset L id (some (some ⟨w.heap.size, C.size, esz⟩)) j = L j := by simp [lset, Ne.symm hj]
        rw [this] at e2
        exact h2 ⟨j, o, B, e1, e2, e3, e4, e5⟩
  refine h.change hL hS ?_ ?_
  · rintro j ⟨h1, h2⟩
    simp [lset, h2, h.fresh j h1]
  · refine ⟨fun j o ho => ?_, fun j B hB => ?_, fun j j' B B' hB hB' hz hz' hbb => ?_, fun j B hB hz => ?_, h.hr.kept, ?_⟩
    · rw [look_ins] at ho
      by_cases hj : id = j
      · subst hj
        rw [if_pos rfl] at ho
        injection ho with ho
        subst ho
        refine ⟨⟨w.heap.size, C.size, esz⟩, by simp [lset], rfl, hlen, fun _ => ⟨C, T, fr, ?_, rfl, hfr, fun i x hx => (hv i x hx).move hS hL⟩⟩
        show (w.heap.push _)[w.heap.size]? = _
        simp
      · rw [if_neg hj] at ho
        obtain ⟨B, e1, e2, e3, e4⟩ := h.hr.live j o ho
        refine ⟨B, by simp [lset, Ne.symm hj, e1], e2, e3, fun hz => ?_⟩
        obtain ⟨C', T', fr', e5, e6, e7, e8⟩ := e4 hz
        have hlt : B.block < w.heap.size := by
          by_cases hh : B.block < w.heap.size
          · exact hh
          · rw [Array.getElem?_eq_none (by omega)] at e5; cases e5
        exact ⟨C', T', fr', by rw [heap_alloc_lt w _ hlt]; exact e5, e6, e7, fun i x hx => (e8 i x hx).move hS hL⟩
    · by_cases hj : j = id
      · subst hj
        exact ⟨_, by rw [look_ins, if_pos rfl]⟩
      · have : L j = some (some B) := by simpa [lset, hj] using hB
        obtain ⟨o, ho⟩ := h.hr.dead j B this
        exact ⟨o, by rw [look_ins, if_neg (Ne.symm hj)]; exact ho⟩
    · have old : ∀ j B, j ≠ id → lset L id (some (some ⟨w.heap.size, C.size, esz⟩)) j = some (some B) → B.size ≠ 0 → B.block < w.heap.size := by
        intro j B hj hB hz
        have hB' : L j = some (some B) := by simpa [lset, hj] using hB
        obtain ⟨o, ho⟩ := h.hr.dead j B hB'
        obtain ⟨B2, e1, _, _, e4⟩ := h.hr.live j o ho
        rw [hB'] at e1
        injection e1 with e1
        injection e1 with e1
        subst e1
        obtain ⟨C', T', fr', e5, _⟩ := e4 hz
        by_cases hh : B.block < w.heap.size
        · exact hh
        · rw [Array.getElem?_eq_none (by omega)] at e5; cases e5
      have new : ∀ B, lset L id (some (some ⟨w.heap.size, C.size, esz⟩)) id = some (some B) → B.block = w.heap.size := by
        intro B hB
        simp [lset] at hB
        subst hB
        rfl
      by_cases hj : j = id
      · by_cases hj' : j' = id
        · rw [hj, hj']
        · subst hj
          have := old j' B' hj' hB' hz'
          have := new B hB
          omega
      · by_cases hj' : j' = id
        · subst hj'
          have := old j B hj hB hz
          have := new B' hB'
          omega
        · exact h.hr.inj j j' B B' (by simpa [lset, hj] using hB) (by simpa [lset, hj'] using hB') hz hz' hbb
    · by_cases hj : j = id
      · subst hj
        simp [lset] at hB
        subst hB
        exact .inr h.hr.upd.size
      · exact h.hr.mine j B (by simpa [lset, hj] using hB) hz
    · refine h.hr.upd.trans (by show _ ≤ (w.heap.push _).size; simp) rfl rfl rfl (fun k hk _ => heap_alloc_lt w _ ?_)
      have := h.hr.upd.size
      omega

theorem Rel.gone (h : Rel c L F st a w) (id : Nat) (hid : (look st.hp id).isSome = true) : Rel c (lset L id (some none)) F { st with hp := del st.hp id } a w := by
  have hL : ∀ j y, L j = some y → lset L id (some none) j = some y ∨ lset L id (some none) j = some none := by
    intro j y hy
    by_cases hj : j = id
    · exact .inr (by simp [lset, hj])
    · exact .inl (by simp [lset, hj, hy])
  have hS : ∀ b i u, sta c L st.hp b i → w.cell? ⟨b, i, none⟩ = some u → sta c (lset L id (some none)) (del st.hp id) b i ∧ w.cell? ⟨b, i, none⟩ = some u := by
    intro b i u hs hu
    refine ⟨?_, hu⟩
    rcases hs with hs | ⟨h1, h2⟩
    · exact .inl hs
    · refine .inr ⟨h1, ?_⟩
      rintro ⟨j, o, B, e1, e2, e3, e4, e5⟩
      by_cases hj : j = id
      · subst hj; simp [lset] at e2
      · rw [look_del, if_neg (Ne.symm hj)] at e1
        exact h2 ⟨j, o, B, e1, by simpa [lset, hj] using e2, e3, e4, e5⟩
  have hns : ∀ {j}, F j → j ≠ id := by
    intro j hj e
    subst e
    obtain ⟨o, ho⟩ := Option.isSome_iff_exists.1 hid
    obtain ⟨B, hB, _⟩ := h.hr.live j o ho
    rw [h.fresh j hj] at hB
    cases hB
  refine h.change hL hS (fun j hj => by simp [lset, hns hj, h.fresh j hj]) ?_
  refine ⟨fun j o ho => ?_, fun j B hB => ?_, fun j j' B B' hB hB' hz hz' hbb => ?_, fun j B hB hz => ?_, h.hr.kept, h.hr.upd⟩
  · by_cases hj : id = j
    · subst hj; rw [look_del, if_pos rfl] at ho; cases ho
    · rw [look_del, if_neg hj] at ho
      obtain ⟨B, e1, e2, e3, e4⟩ := h.hr.live j o ho
      refine ⟨B, by simp [lset, Ne.symm hj, e1], e2, e3, fun hz => ?_⟩
      obtain ⟨C', T', fr', e5, e6, e7, e8⟩ := e4 hz
      exact ⟨C', T', fr', e5, e6, e7, fun i x hx => (e8 i x hx).move hS hL⟩
  · have hj : j ≠ id := fun e => by subst e; simp [lset] at hB
    obtain ⟨o, ho⟩ := h.hr.dead j B (by simpa [lset, hj] using hB)
    exact ⟨o, by rw [look_del, if_neg (Ne.symm hj)]; exact ho⟩
  · have hj : j ≠ id := fun e => by subst e; simp [lset] at hB
    have hj' : j' ≠ id := fun e => by subst e; simp [lset] at hB'
    exact h.hr.inj j j' B B' (by simpa [lset, hj] using hB) (by simpa [lset, hj'] using hB') hz hz' hbb
  · have hj : j ≠ id := fun e => by subst e; simp [lset] at hB
    exact h.hr.mine j B (by simpa [lset, hj] using hB) hz

theorem Rel.set1 (h : Rel c L F st a w) {id : Nat} {o : Ob} (ho : look st.hp id = some o) {B : Blk} (hB : L id = some (some B)) {j : Nat} (hj : j < B.size) (hw : o.hw ≤ j) {x : AV} {v : Value} {cs : List AV}
    (hv : VR w (sta c L st.hp) L x v) (h1 : v.oneCell' = true) (hlen : cs.length ≤ B.size) (hcs : ∀ i y, cs[i]? = some y → i = j ∧ y = x ∨ i ≠ j ∧ o.cells[i]? = some y) :
    (store ⟨B.block, j, none⟩ v).run c.P w = .ok () (w.setCell ⟨B.block, j, none⟩ v) ∧
    Rel c L F { st with hp := ins st.hp id ⟨cs, o.esz, o.hw⟩ } a (w.setCell ⟨B.block, j, none⟩ v) ∧
    ∀ y u, VR w (sta c L st.hp) L y u → VR (w.setCell ⟨B.block, j, none⟩ v) (sta c L (ins st.hp id ⟨cs, o.esz, o.hw⟩)) L y u := by
  obtain ⟨B', e1, e2, e3, e4⟩ := h.hr.live id o ho
  rw [hB] at e1
  injection e1 with e1
  injection e1 with e1
  subst e1
  obtain ⟨C, T, fr, e5, e6, e7, e8⟩ := e4 (by omega)
  have hcell : w.cell? ⟨B.block, j, none⟩ = some C[j] := by
    simp [World.cell?, e5, show j < C.size by omega]
  have hfz : w.frozen? ⟨B.block, j, none⟩ = false := by
    simp only [World.frozen?, e5]
    rcases e7 with e7 | e7
    · have : ¬ (fr.1 ≤ j ∧ j < fr.2) := by omega
      simp; omega
    · simp; omega
  have hheap : ∀ k, k ≠ B.block → (w.setCell ⟨B.block, j, none⟩ v).heap[k]? = w.heap[k]? := by
    intro k hk
    simp only [World.setCell, Array.getElem?_modify]
    rw [if_neg (fun e => hk e.symm)]
  have hheapB : (w.setCell ⟨B.block, j, none⟩ v).heap[B.block]? = some (.cells (C.setIfInBounds j v) T fr) := by
    simp only [World.setCell, Array.getElem?_modify, if_pos, e5]
    rfl
  have hown : own L st.hp B.block j := ⟨id, o, B, ho, hB, rfl, hw, hj⟩
  have hnst : ¬ sta c L st.hp B.block j := by
    rintro (h' | ⟨_, h'⟩)
    · have := h.hr.kept _ _ h'
      rcases h.hr.mine id B hB (by omega) with hm | hm
      · exact this.2 hm
      · omega
    · exact h' hown
  have hsta : ∀ b i, sta c L st.hp b i → sta c L (ins st.hp id ⟨cs, o.esz, o.hw⟩) b i := by
    intro b i hs
    rcases hs with hs | ⟨k1, k2⟩
    · exact .inl hs
    · refine .inr ⟨k1, ?_⟩
      rintro ⟨q, p, Bq, d1, d2, d3, d4, d5⟩
      rw [look_ins] at d1
      by_cases hq : id = q
      · subst hq
        rw [if_pos rfl] at d1
        injection d1 with d1
        subst d1
        exact k2 ⟨id, o, Bq, ho, d2, d3, d4, d5⟩
      · rw [if_neg hq] at d1
        exact k2 ⟨q, p, Bq, d1, d2, d3, d4, d5⟩
  have hM : NcK w (w.setCell ⟨B.block, j, none⟩ v) := .of_one e5 (fun k _ hk => hheap k hk)
  have hS : ∀ b i u, sta c L st.hp b i → w.cell? ⟨b, i, none⟩ = some u → sta c L (ins st.hp id ⟨cs, o.esz, o.hw⟩) b i ∧ (w.setCell ⟨B.block, j, none⟩ v).cell? ⟨b, i, none⟩ = some u := by
    intro b i u hs hu
    refine ⟨hsta b i hs, ?_⟩
    by_cases hb : b = B.block
    · subst hb
      have hij : i ≠ j := fun e => by subst e; exact hnst hs
      simp only [World.cell?, e5] at hu
      simp only [World.cell?, hheapB]
      simp at hu ⊢
      rw [Array.getElem?_setIfInBounds_ne (Ne.symm hij)]
      exact hu
    · simp only [World.cell?, hheap b hb]
      exact hu
  have hL : ∀ q y, L q = some y → L q = some y ∨ L q = some none := fun _ _ hy => .inl hy
  refine ⟨?_, ?_, fun y u hy => hy.move hS hL⟩
  · cases v <;> simp_all [store, Sem.run, Value.oneCell']
  · refine h.change hL hS h.fresh ?_
    refine ⟨fun q p hp => ?_, fun q Bq hq => ?_, h.hr.inj, h.hr.mine, h.hr.kept, ?_⟩
    · rw [look_ins] at hp
      by_cases hq : id = q
      · subst hq
        rw [if_pos rfl] at hp
        injection hp with hp
        subst hp
        refine ⟨B, hB, e2, hlen, fun _ => ⟨C.setIfInBounds j v, T, fr, hheapB, by simp [e6], e7, fun i y hy => ?_⟩⟩
        rcases hcs i y hy with ⟨rfl, rfl⟩ | ⟨hij, hy'⟩
        · have : (C.setIfInBounds i v).getD i undef = v := by simp [e6, hj]
          rw [this]
          exact hv.move hS hL
        · have : (C.setIfInBounds j v).getD i undef = C.getD i undef := by
            simp [Array.getElem?_setIfInBounds_ne (Ne.symm hij)]
          rw [this]
          exact (e8 i y hy').move hS hL
      · rw [if_neg hq] at hp
        obtain ⟨Bq, d1, d2, d3, d4⟩ := h.hr.live q p hp
        refine ⟨Bq, d1, d2, d3, fun hz => ?_⟩
        obtain ⟨C', T', fr', d5, d6, d7, d8⟩ := d4 hz
        have : Bq.block ≠ B.block := fun e => hq (h.hr.inj id q B Bq hB d1 (by omega) hz e.symm)
        exact ⟨C', T', fr', by rw [hheap _ this]; exact d5, d6, d7, fun i x hx => (d8 i x hx).move hS hL⟩
    · obtain ⟨p, hp⟩ := h.hr.dead q Bq hq
      by_cases hqi : id = q
      · exact ⟨_, by rw [look_ins, if_pos hqi]⟩
      · exact ⟨p, by rw [look_ins, if_neg hqi]; exact hp⟩
    · refine h.hr.upd.trans (by simp [World.setCell]) rfl rfl rfl (fun k hk hI => hheap k fun e => ?_)
      subst e
      rcases h.hr.mine id B hB (by omega) with hm | hm
      · exact hI hm
      · omega

def ovl (cells : List AV) (j : Nat) : List AV → List AV
  | [] => cells
  | x :: r => ovl (if j < cells.length then cells.set j x else cells ++ [x]) (j + 1) r
theorem ovl_spl (cells : List AV) (j : Nat) (xs : List AV) (h : j + xs.length ≤ cells.length) : ovl cells j xs = spl cells j xs := by
  induction xs generalizing cells j with
  | nil => rfl
  | cons x r ih =>
    simp only [List.length_cons] at h
    simp only [ovl, spl]
    rw [if_pos (by omega), ih _ _ (by simp; omega)]
theorem ovl_end (cells : List AV) (xs : List AV) : ovl cells cells.length xs = cells ++ xs := by
  induction xs generalizing cells with
  | nil => simp [ovl]
  | cons x r ih =>
    simp only [ovl]
    rw [if_neg (by omega)]
    have := ih (cells ++ [x])
    simp only [List.length_append, List.length_cons, List.length_nil, Nat.zero_add] at this
    rw [this]
    simp
theorem Rel.stores (id : Nat) (B : Blk) (hB : L id = some (some B)) (off : Nat) : ∀ (xs : List AV) (vs : List Value) (k : Nat) (o : Ob) (st : St) (w : World), Rel c L F st a w → look st.hp id = some o → o.hw ≤ off + k → off + k ≤ o.cells.length →
    off + k + xs.length ≤ B.size → VRs w (sta c L st.hp) L xs vs → (∀ v ∈ vs, v.oneCell' = true) → ∃ w', (storeCells ⟨B.block, off, none⟩ vs k).run c.P w = .ok () w' ∧ Rel c L F { st with hp := ins st.hp id ⟨ovl o.cells (off + k) xs, o.esz, o.hw⟩ } a w' := by
  intro xs
  induction xs with
  | nil =>
    intro vs k o st w h ho _ _ _ hv _
    obtain rfl : vs = [] := List.eq_nil_of_length_eq_zero (by have := hv.1; simpa using this)
    refine ⟨w, by simp [storeCells], ?_⟩
    have : ins st.hp id ⟨ovl o.cells (off + k) [], o.esz, o.hw⟩ = ins st.hp id o := rfl
    rw [this]
    -- the same heap, told anew
    have hl : ∀ j, look (ins st.hp id o) j = look st.hp j := fun j => by
      rw [look_ins]; by_cases hj : id = j
      · subst hj; rw [if_pos rfl, ho]
      · rw [if_neg hj]
    have hs : sta c L (ins st.hp id o) = sta c L st.hp := by
      funext b i
      simp only [sta, own, hl]
    refine ⟨⟨fun j p hp => ?_, fun j Bj hj => ?_, h.hr.inj, h.hr.mine, h.hr.kept, h.hr.upd⟩, h.fresh, h.defs, h.size, fun t => by rw [hs]; exact h.slot t, h.ext⟩
    · simp only [hl] at hp
      simp only [hs]
      exact h.hr.live j p hp
    · simp only [hl]
      exact h.hr.dead j Bj hj
  | cons x xs ih =>
    intro vs k o st w h ho hw hk hsz hv h1
    cases vs with
    | nil => have := hv.1; simp at this
    | cons v vs =>
      simp only [List.length_cons] at hsz
      have hx := hv.2 0 x rfl
      simp at hx
      obtain ⟨B', e1, e2, e3, _⟩ := h.hr.live id o ho
      rw [hB] at e1
      injection e1 with e1
      injection e1 with e1
      subst e1
      obtain ⟨r1, r2, r3⟩ := h.set1 ho hB (j := off + k) (by omega) hw (cs := if off + k < o.cells.length then o.cells.set (off + k) x else o.cells ++ [x]) hx (h1 v (by simp))
        (by split <;> simp <;> omega) (fun i y hy => by
          split at hy
          · rename_i hlt
            by_cases hi : off + k = i
            · subst hi
              rw [List.getElem?_set_self hlt] at hy
              injection hy with hy
              exact .inl ⟨rfl, hy.symm⟩
            · rw [List.getElem?_set_ne hi] at hy
              exact .inr ⟨Ne.symm hi, hy⟩
          · by_cases hi : i < o.cells.length
            · rw [List.getElem?_append_left hi] at hy
              exact .inr ⟨by omega, hy⟩
            · rw [List.getElem?_append_right (by omega)] at hy
              have : i - o.cells.length = 0 := by
                have := (List.getElem?_eq_some_iff.1 hy).1
                simp at this; omega
              rw [this] at hy
              simp at hy
              exact .inl ⟨by omega, hy.symm⟩)
      have hlen2 : off + (k + 1) ≤ (if off + k < o.cells.length then o.cells.set (off + k) x else o.cells ++ [x]).length := by split <;> simp <;> omega
      obtain ⟨w', q1, q2⟩ := ih vs (k + 1) ⟨if off + k < o.cells.length then o.cells.set (off + k) x else o.cells ++ [x], o.esz, o.hw⟩ _ _ r2 (by rw [look_ins, if_pos rfl]) (by show o.hw ≤ _; omega) hlen2 (by omega)
        ⟨by have := hv.1; simpa using this, fun i y hy => by have := hv.2 (i + 1) y (by simpa using hy); exact r3 _ _ (by simpa using this)⟩ (fun u hu => h1 u (by simp [hu]))
      refine ⟨w', ?_, ?_⟩
      · simp only [storeCells, Sem.run_bind, add_mk, r1, Result.andThen_ok]
        exact q1
      · simp only [ins_ins] at q2
        exact q2
end
end Go.Sim

namespace Go.Sim
open Go.RowKit
set_option linter.unusedVariables false
set_option linter.unusedSimpArgs false

def okc (st : St) : AV → Bool
  | .sc v => v.oneCell'
  | .nl | .fz _ _ | .fp _ _ | .fn _ _ | .mp _ _ => true
  | .lv id _ _ | .pt id _ => (look st.hp id).isSome
  | _ => false
def okf : AV → Bool
  | .sc v => v.oneCell'
  | .nl | .fz _ _ | .fp _ _ | .mp _ _ => true
  | _ => false
def okF (cs : List AV) : Prop := ∀ x ∈ cs, okf x = true
def okCells (st : St) (cs : List AV) : Prop := ∀ x ∈ cs, okc st x = true
def src (st : St) (sz : Nat) : AV → Option (Nat × List AV × Prop)
  | .fz m cs => some (m, cs, cs.length = m * sz)
  | .lv id off m => match look st.hp id with | some o => some (m, (o.cells.drop off).take (m * sz), o.esz = sz ∧ off + m * sz ≤ o.cells.length) | none => none
  | .nl => some (0, [], True)
  | .sc (.string s) => some (s.size, s.data.toList.map fun b => .sc (.int .u8 b.toNat), sz = 1)
  | _ => none

section
variable {c : Cx} {L : Lay} {F : Nat → Prop} {st : St} {a : Act} {w : World}

theorem okc_one (h : Rel c L F st a w) {x : AV} {v : Value} {S : Nat → Nat → Prop} {w' : World} (hv : VR w' S L x v) (hx : okc st x = true) : v.oneCell' = true := by
  cases x with
  | sc u => have := hv.sc_eq; subst this; exact hx
  | nl => have := hv.nl_eq; subst this; rfl
  | fz n cs => obtain ⟨A, c', rfl, _⟩ := hv.fz_eq; rfl
  | fp cs o => obtain ⟨b, o', g, rfl, _⟩ := hv.fp_eq; rfl
  | fn f cs => obtain ⟨vs, g, rfl, _⟩ := hv.fn_eq; rfl
  | lv id off n => obtain ⟨B, hB⟩ := isSome_live h hx; obtain ⟨A, cap, rfl, _⟩ := hv.lv_eq hB; rfl
  | pt id off => obtain ⟨B, hB⟩ := isSome_live h hx; have := hv.pt_eq hB; subst this; rfl
  | un => cases hx
  | ag cs => cases hx
  | tu cs => cases hx
  | bf f y => cases hx
  | fq n cs => cases hx
  | mp ks vs => obtain ⟨m, rfl⟩ := hv.mp_eq; rfl
theorem okF_cells {cs : List AV} (h : okF cs) (st : St) : okCells st cs := by
  intro x hx
  have := h x hx
  cases x <;> simp_all [okf, okc]
theorem okCells_one (h : Rel c L F st a w) {cs : List AV} {vs : List Value} {S : Nat → Nat → Prop} {w' : World} (hv : VRs w' S L cs vs) (hx : okCells st cs) : ∀ v ∈ vs, v.oneCell' = true := by
  intro v hvm
  obtain ⟨i, hi, rfl⟩ := List.mem_iff_getElem.1 hvm
  have hi' : i < cs.length := by rw [← hv.1]; exact hi
  have := hv.2 i cs[i] (by simp [hi'])
  have e : vs.getD i undef = vs[i] := by simp [List.getD_eq_getElem?_getD, hi]
  rw [e] at this
  exact okc_one h this (hx _ (List.getElem_mem hi'))

theorem Rel.lend (h : Rel c L F st a w) {id : Nat} {o : Ob} (ho : look st.hp id = some o) {k : Nat} (hk : o.hw ≤ k) : Rel c L F { st with hp := ins st.hp id ⟨o.cells, o.esz, k⟩ } a w := by
  have hS : ∀ b i u, sta c L st.hp b i → w.cell? ⟨b, i, none⟩ = some u → sta c L (ins st.hp id ⟨o.cells, o.esz, k⟩) b i ∧ w.cell? ⟨b, i, none⟩ = some u := by
    intro b i u hs hu
    refine ⟨?_, hu⟩
    rcases hs with hs | ⟨h1, h2⟩
    · exact .inl hs
    · refine .inr ⟨h1, ?_⟩
      rintro ⟨j, p, B, e1, e2, e3, e4, e5⟩
      rw [look_ins] at e1
      by_cases hj : id = j
      · subst hj
        rw [if_pos rfl] at e1
        injection e1 with e1
        subst e1
        exact h2 ⟨id, o, B, ho, e2, e3, Nat.le_trans hk e4, e5⟩
      · rw [if_neg hj] at e1
        exact h2 ⟨j, p, B, e1, e2, e3, e4, e5⟩
  have hL : ∀ q y, L q = some y → L q = some y ∨ L q = some none := fun _ _ hy => .inl hy
  refine h.change hL hS h.fresh ⟨fun j p hp => ?_, fun j B hB => ?_, h.hr.inj, h.hr.mine, h.hr.kept, h.hr.upd⟩
  · rw [look_ins] at hp
    by_cases hj : id = j
    · subst hj
      rw [if_pos rfl] at hp
      injection hp with hp
      subst hp
      obtain ⟨B, e1, e2, e3, e4⟩ := h.hr.live id o ho
      refine ⟨B, e1, e2, e3, fun hz => ?_⟩
      obtain ⟨C, T, fr, e5, e6, e7, e8⟩ := e4 hz
      exact ⟨C, T, fr, e5, e6, e7, fun i x hx => (e8 i x hx).move hS hL⟩
    · rw [if_neg hj] at hp
      obtain ⟨B, e1, e2, e3, e4⟩ := h.hr.live j p hp
      refine ⟨B, e1, e2, e3, fun hz => ?_⟩
      obtain ⟨C, T, fr, e5, e6, e7, e8⟩ := e4 hz
      exact ⟨C, T, fr, e5, e6, e7, fun i x hx => (e8 i x hx).move hS hL⟩
  · obtain ⟨p, hp⟩ := h.hr.dead j B hB
    by_cases hj : id = j
    · exact ⟨_, by rw [look_ins, if_pos hj]⟩
    · exact ⟨p, by rw [look_ins, if_neg hj]; exact hp⟩

theorem Rel.phantom (h : Rel c L F st a w) {id : Nat} (hid : F id) (esz hw : Nat) :
    Rel c (lset L id (some (some ⟨0, 0, esz⟩))) (fun j => F j ∧ j ≠ id) { st with hp := ins st.hp id ⟨[], esz, hw⟩ } a w := by
  have hLid := h.fresh id hid
  have hL : ∀ j y, L j = some y → lset L id (some (some ⟨0, 0, esz⟩)) j = some y ∨ lset L id (some (some ⟨0, 0, esz⟩)) j = some none := by
    intro j y hy
    have : j ≠ id := fun e => by rw [e, hLid] at hy; cases hy
    exact .inl (by simp [lset, this, hy])
  have hS : ∀ b i u, sta c L st.hp b i → w.cell? ⟨b, i, none⟩ = some u → sta c (lset L id (some (some ⟨0, 0, esz⟩))) (ins st.hp id ⟨[], esz, hw⟩) b i ∧ w.cell? ⟨b, i, none⟩ = some u := by
    intro b i u hs hu
    refine ⟨?_, hu⟩
    rcases hs with hs | ⟨h1, h2⟩
    · exact .inl hs
    · refine .inr ⟨h1, ?_⟩
      rintro ⟨j, o, B, e1, e2, e3, e4, e5⟩
      rw [look_ins] at e1
      by_cases hj : id = j
      · subst hj
        simp [lset] at e2
        subst e2
        simp at e5
      · rw [if_neg hj] at e1
        exact h2 ⟨j, o, B, e1, by simpa [lset, Ne.symm hj] using e2, e3, e4, e5⟩
  refine h.change hL hS (by rintro j ⟨h1, h2⟩; simp [lset, h2, h.fresh j h1]) ⟨fun j o ho => ?_, fun j B hB => ?_, fun j j' B B' hB hB' hz hz' hbb => ?_, fun j B hB hz => ?_, h.hr.kept, h.hr.upd⟩
  · rw [look_ins] at ho
    by_cases hj : id = j
    · subst hj
      rw [if_pos rfl] at ho
      injection ho with ho
      subst ho
      exact ⟨⟨0, 0, esz⟩, by simp [lset], rfl, Nat.le_refl _, fun hz => absurd rfl hz⟩
    · rw [if_neg hj] at ho
      obtain ⟨B, e1, e2, e3, e4⟩ := h.hr.live j o ho
      refine ⟨B, by simp [lset, Ne.symm hj, e1], e2, e3, fun hz => ?_⟩
      obtain ⟨C, T, fr, e5, e6, e7, e8⟩ := e4 hz
      exact ⟨C, T, fr, e5, e6, e7, fun i x hx => (e8 i x hx).move hS hL⟩
  · by_cases hj : j = id
    · subst hj; exact ⟨_, by rw [look_ins, if_pos rfl]⟩
    · obtain ⟨o, ho⟩ := h.hr.dead j B (by simpa [lset, hj] using hB)
      exact ⟨o, by rw [look_ins, if_neg (Ne.symm hj)]; exact ho⟩
  · have hj : j ≠ id := fun e => by subst e; simp [lset] at hB; subst hB; exact hz rfl
    have hj' : j' ≠ id := fun e => by subst e; simp [lset] at hB'; subst hB'; exact hz' rfl
    exact h.hr.inj j j' B B' (by simpa [lset, hj] using hB) (by simpa [lset, hj'] using hB') hz hz' hbb
  · have hj : j ≠ id := fun e => by subst e; simp [lset] at hB; subst hB; exact hz rfl
    exact h.hr.mine j B (by simpa [lset, hj] using hB) hz

theorem Rel.rename (h : Rel c L F st a w) {id nid : Nat} (hid : F nid) {o : Ob} (ho : look st.hp id = some o) {B : Blk} (hB : L id = some (some B)) :
    Rel c (lset (lset L nid (some (some B))) id (some none)) (fun j => F j ∧ j ≠ nid) { st with hp := ins (del st.hp id) nid o } a w := by
  have hLn := h.fresh nid hid
  have hne : id ≠ nid := fun e => by rw [e, hLn] at hB; cases hB
  have g1 : ∀ j, j ≠ id → j ≠ nid → lset (lset L nid (some (some B))) id (some none) j = L j := fun j h1 h2 => by simp [lset, h1, h2]
  have g2 : lset (lset L nid (some (some B))) id (some none) nid = some (some B) := by simp [lset, Ne.symm hne]
  have g3 : lset (lset L nid (some (some B))) id (some none) id = some none := by simp [lset]
  have hl : ∀ j, look (ins (del st.hp id) nid o) j = if nid = j then some o else if id = j then none else look st.hp j := fun j => by rw [look_ins, look_del]
  have hL : ∀ j y, L j = some y → lset (lset L nid (some (some B))) id (some none) j = some y ∨ lset (lset L nid (some (some B))) id (some none) j = some none := by
    intro j y hy
    by_cases h1 : j = id
    · subst h1; exact .inr g3
    · have h2 : j ≠ nid := fun e => by rw [e, hLn] at hy; cases hy
      exact .inl (by rw [g1 j h1 h2]; exact hy)
  have hS : ∀ b i u, sta c L st.hp b i → w.cell? ⟨b, i, none⟩ = some u → sta c (lset (lset L nid (some (some B))) id (some none)) (ins (del st.hp id) nid o) b i ∧ w.cell? ⟨b, i, none⟩ = some u := by
    intro b i u hs hu
    refine ⟨?_, hu⟩
    rcases hs with hs | ⟨h1, h2⟩
    · exact .inl hs
    · refine .inr ⟨h1, ?_⟩
      rintro ⟨j, p, Bj, e1, e2, e3, e4, e5⟩
      rw [hl] at e1
      by_cases hj : nid = j
      · subst hj
        rw [if_pos rfl] at e1
        injection e1 with e1
        subst e1
        rw [g2] at e2
        injection e2 with e2
        injection e2 with e2
        subst e2
        exact h2 ⟨id, o, B, ho, hB, e3, e4, e5⟩
      · rw [if_neg hj] at e1
        by_cases hi : id = j
        · rw [if_pos hi] at e1; cases e1
        · rw [if_neg hi] at e1
          rw [g1 j (Ne.symm hi) (Ne.symm hj)] at e2
          exact h2 ⟨j, p, Bj, e1, e2, e3, e4, e5⟩
  refine h.change hL hS ?_ ⟨fun j p hp => ?_, fun j Bj hj => ?_, fun j j' Bj Bj' hj hj' hz hz' hbb => ?_, fun j Bj hj hz => ?_, h.hr.kept, h.hr.upd⟩
  · rintro j ⟨h1, h2⟩
    have h3 : j ≠ id := fun e => by rw [← e, h.fresh j h1] at hB; cases hB
    rw [g1 j h3 h2]; exact h.fresh j h1
  · rw [hl] at hp
    by_cases hj : nid = j
    · subst hj
      rw [if_pos rfl] at hp
      injection hp with hp
      subst hp
      obtain ⟨B', e1, e2, e3, e4⟩ := h.hr.live id o ho
      rw [hB] at e1; injection e1 with e1; injection e1 with e1; subst e1
      refine ⟨B, g2, e2, e3, fun hz => ?_⟩
      obtain ⟨C, T, fr, e5, e6, e7, e8⟩ := e4 hz
      exact ⟨C, T, fr, e5, e6, e7, fun i x hx => (e8 i x hx).move hS hL⟩
    · rw [if_neg hj] at hp
      by_cases hi : id = j
      · rw [if_pos hi] at hp; cases hp
      · rw [if_neg hi] at hp
        obtain ⟨Bj, e1, e2, e3, e4⟩ := h.hr.live j p hp
        refine ⟨Bj, by rw [g1 j (Ne.symm hi) (Ne.symm hj)]; exact e1, e2, e3, fun hz => ?_⟩
        obtain ⟨C, T, fr, e5, e6, e7, e8⟩ := e4 hz
        exact ⟨C, T, fr, e5, e6, e7, fun i x hx => (e8 i x hx).move hS hL⟩
  · have h1 : j ≠ id := fun e => by rw [e, g3] at hj; cases hj
    by_cases h2 : j = nid
    · subst h2; exact ⟨o, by rw [hl, if_pos rfl]⟩
    · obtain ⟨p, hp⟩ := h.hr.dead j Bj (by rw [← g1 j h1 h2]; exact hj)
      exact ⟨p, by rw [hl, if_neg (Ne.symm h2), if_neg (Ne.symm h1)]; exact hp⟩
  · have h1 : j ≠ id := fun e => by rw [e, g3] at hj; cases hj
    have h1' : j' ≠ id := fun e => by rw [e, g3] at hj'; cases hj'
    by_cases h2 : j = nid
    · by_cases h2' : j' = nid
      · rw [h2, h2']
      · rw [h2, g2] at hj; injection hj with hj; injection hj with hj; subst hj
        exact absurd (h.hr.inj id j' B Bj' hB (by rw [← g1 j' h1' h2']; exact hj') hz hz' hbb) (Ne.symm h1')
    · by_cases h2' : j' = nid
      · rw [h2', g2] at hj'; injection hj' with hj'; injection hj' with hj'; subst hj'
        exact absurd (h.hr.inj j id Bj B (by rw [← g1 j h1 h2]; exact hj) hB hz hz' hbb) h1
      · exact h.hr.inj j j' Bj Bj' (by rw [← g1 j h1 h2]; exact hj) (by rw [← g1 j' h1' h2']; exact hj') hz hz' hbb
  · have h1 : j ≠ id := fun e => by rw [e, g3] at hj; cases hj
    by_cases h2 : j = nid
    · rw [h2, g2] at hj; injection hj with hj; injection hj with hj; subst hj
      exact h.hr.mine id B hB hz
    · exact h.hr.mine j Bj (by rw [← g1 j h1 h2]; exact hj) hz

theorem src_spec (h : Rel c L F st a w) {sz : Nat} {x : AV} {v : Value} (hv : VR w (sta c L st.hp) L x v) {m : Nat} {cs : List AV} {ob : Prop} (hs : src st sz x = some (m, cs, ob)) (hob : ob) :
    cs.length = m * sz ∧ ∃ news : List Value, VRs w (sta c L st.hp) L cs news ∧ ∀ w' : World, w'.heap = w.heap → (Builtin.lenOf v).run c.P w' = .ok m w' ∧ (Builtin.firstCells sz m v).run c.P w' = .ok news.toArray w' := by
  have nil0 : ∀ (A : Option Addr) (cp : Nat), ∃ news : List Value, VRs w (sta c L st.hp) L [] news ∧ ∀ w' : World, w'.heap = w.heap → (Builtin.lenOf (.slice A 0 cp)).run c.P w' = .ok 0 w' ∧ (Builtin.firstCells sz 0 (.slice A 0 cp)).run c.P w' = .ok news.toArray w' := by
    intro A cp
    refine ⟨[], ⟨rfl, fun i y hy => by simp at hy⟩, fun w' _ => ⟨rfl, ?_⟩⟩
    cases A with
    | none => rfl
    | some ad => simp [Builtin.firstCells, loadCells, loadCellsFrom]
  unfold src at hs
  split at hs
  · rename_i m' cs'
    simp only [Option.some.injEq, Prod.mk.injEq] at hs
    obtain ⟨rfl, rfl, rfl⟩ := hs
    refine ⟨hob, ?_⟩
    obtain ⟨A, cp, rfl, hcap, hA⟩ := hv.fz_eq
    rcases hA with ⟨rfl, rfl⟩ | ⟨b, o, g, rfl, hc, hr⟩
    · exact nil0 A cp
    · refine ⟨(List.range cs'.length).map g, ⟨by simp, fun i y hy => ?_⟩, fun w' hw => ⟨rfl, ?_⟩⟩
      · have hi := (List.getElem?_eq_some_iff.1 hy).1
        have e : ((List.range cs'.length).map g).getD i undef = g i := by simp [List.getD_eq_getElem?_getD, List.getElem?_map, List.getElem?_range hi]
        rw [e]
        exact (hr i y hy).of_no L
      · refine run_firstCells_some (P := c.P) w' sz m' _ m' cp _ (by simpa using hob) (fun j u hj => ?_)
        have hjl : j < cs'.length := by
          have := (List.getElem?_eq_some_iff.1 hj).1
          simpa using this
        simp [List.getElem?_map, List.getElem?_range hjl] at hj
        subst hj
        rw [add_mk]
        have := (hc j hjl).2
        simp only [World.cell?, hw] at this ⊢
        exact this
  · rename_i id off m'
    split at hs
    · rename_i o ho
      simp only [Option.some.injEq, Prod.mk.injEq] at hs
      obtain ⟨rfl, rfl, rfl⟩ := hs
      obtain ⟨hez, hlen⟩ := hob
      refine ⟨by simp [List.length_take, List.length_drop]; omega, ?_⟩
      obtain ⟨B, hB, e2, e3, e4⟩ := h.hr.live id o ho
      obtain ⟨A, cap, rfl, hcap, hA, hroom⟩ := hv.lv_eq hB
      by_cases hm : m' * sz = 0
      · by_cases hz : m' = 0
        · subst hz
          simpa [hm] using nil0 A cap
        · -- cells of no size
          have hsz : sz = 0 := by rcases Nat.mul_eq_zero.1 hm with h | h; exact absurd h hz; exact h
          subst hsz
          refine ⟨[], ⟨by simp, fun i y hy => by simp at hy⟩, fun w' _ => ⟨rfl, ?_⟩⟩
          cases A with
          | none => rfl
          | some ad => simp [Builtin.firstCells, loadCells, loadCellsFrom]
      · have hcp : 0 < cap := by
          rcases Nat.eq_zero_or_pos m' with h0 | h0
          · subst h0; simp at hm
          · omega
        have hA' := hA hcp
        subst hA'
        obtain ⟨C, T, fr, e5, e6, e7, e8⟩ := e4 (by omega)
        refine ⟨(List.range (m' * sz)).map fun j => C.getD (off + j) undef, ⟨by simp [List.length_take, List.length_drop]; omega, fun i y hy => ?_⟩, fun w' hw => ⟨rfl, ?_⟩⟩
        · have hi := (List.getElem?_eq_some_iff.1 hy).1
          simp [List.length_take, List.length_drop] at hi
          rw [List.getElem?_take, if_pos (by omega), List.getElem?_drop] at hy
          have e : ((List.range (m' * sz)).map fun j => C.getD (off + j) undef).getD i undef = C.getD (off + i) undef := by
            rw [List.getD_eq_getElem?_getD, List.getElem?_map, List.getElem?_range (by omega)]
            rfl
          rw [e]
          exact e8 _ _ hy
        · refine run_firstCells_some (P := c.P) w' sz m' _ m' cap _ (by simp) (fun j u hj => ?_)
          have hjl : j < m' * sz := by
            have := (List.getElem?_eq_some_iff.1 hj).1
            simpa using this
          rw [List.getElem?_map, List.getElem?_range hjl] at hj
          simp only [Option.map_some, Option.some.injEq] at hj
          subst hj
          rw [add_mk]
          have : off + j < C.size := by omega
          simp [World.cell?, hw, e5, this]
    · cases hs
  · simp only [Option.some.injEq, Prod.mk.injEq] at hs
    obtain ⟨rfl, rfl, rfl⟩ := hs
    have := hv.nl_eq
    subst this
    exact ⟨by simp, nil0 none 0⟩
  · rename_i s
    simp only [Option.some.injEq, Prod.mk.injEq] at hs
    obtain ⟨rfl, rfl, rfl⟩ := hs
    have := hv.sc_eq
    subst this
    subst hob
    refine ⟨by simp, s.data.toList.map fun b => .int .u8 b.toNat, ⟨by simp, fun i y hy => ?_⟩, fun w' _ => ⟨rfl, ?_⟩⟩
    · simp at hy
      obtain ⟨b, hb, rfl⟩ := hy
      have e : (s.data.toList.map fun b => Value.int .u8 (b.toNat : Int)).getD i undef = .int .u8 b.toNat := by simp [List.getD_eq_getElem?_getD, hb]
      rw [e]
      exact .sc _ _
    · have hx : (s.extract 0 s.size).data = s.data := by
        have : s.extract 0 s.size = s := by
          apply ByteArray.ext
          rw [ByteArray.data_extract]
          exact Array.extract_size
        rw [this]
      simp only [Builtin.firstCells, Sem.run_pure, hx]
      congr 1
      apply Array.ext'
      simp
  · cases hs
end
end Go.Sim

namespace Go.Sim
open Go.RowKit
set_option linter.unusedVariables false
set_option linter.unusedSimpArgs false

def byt (P : Program) (t : TypeId) : Nat := match P.info? t with | some i => i.bytes | none => 0
def appIn (P : Program) (w : World) (k : Nat) (news : List Value) (n cap : Nat) : Option Addr → Result Value
  | some a => ((storeCells (a.add k) news).run P w).andThen fun _ w' => .ok (.slice (some a) n cap) w'
  | none => .ok (.slice none n cap) w
theorem run_append_in {P : Program} {w : World} {t t2 ty e : TypeId} {i : TypeInfo} {d2 : TypeDesc} (ht : P.underlying t = some (.slice e)) (h2 : P.underlying t2 = some d2) (hd : (∃ e2, d2 = .slice e2) ∨ d2 = .string) (hi : P.info? e = some i)
    (base : Option Addr) (sLen sCap : Nat) (x : Value) (m : Nat) (news : List Value) (h3 : (Builtin.lenOf x).run P w = .ok m w) (h4 : (Builtin.firstCells i.size m x).run P w = .ok news.toArray w) (hroom : sLen + m ≤ sCap) :
    (Builtin.append_ #[t, t2] ty #[.slice base sLen sCap, x]).run P w = appIn P w (sLen * i.size) news (sLen + m) sCap base := by
  rcases hd with ⟨e2, rfl⟩ | rfl <;> cases base <;> simp [appIn, Builtin.append_, run_underlying ht, run_underlying h2, sizeOf, typeInfo, hi, h3, hroom, h4]
theorem run_append_out {P : Program} {w : World} {t t2 ty e : TypeId} {i : TypeInfo} {d2 : TypeDesc} {z : Value} (ht : P.underlying t = some (.slice e)) (h2 : P.underlying t2 = some d2) (hd : (∃ e2, d2 = .slice e2) ∨ d2 = .string) (hi : P.info? e = some i) (hz : i.zero = some z)
    (base : Option Addr) (sLen sCap : Nat) (x : Value) (m : Nat) (olds news : List Value) (h3 : (Builtin.lenOf x).run P w = .ok m w)
    (h5 : (Builtin.firstCells i.size sLen (.slice base sLen sCap)).run P w.drew = .ok olds.toArray w.drew) (h4 : (Builtin.firstCells i.size m x).run P w.drew = .ok news.toArray w.drew) (hg : sCap < sLen + m)
    (h63 : ((sLen + m : Nat) : Int) ≤ 9223372036854775807) (hfit : (sLen + m) * i.bytes ≤ 140737488355328) :
    (Builtin.append_ #[t, t2] ty #[.slice base sLen sCap, x]).run P w =
      .ok (.slice (some ⟨w.heap.size, 0, none⟩) (sLen + m) (grownCap w (sLen + m) sCap e))
        (w.drew.alloc (.cells (olds.toArray ++ news.toArray ++ Builtin.zeroCells z.cells (grownCap w (sLen + m) sCap e - (sLen + m))) e)) := by
  have hn : ¬ (sLen + m ≤ sCap) := by omega
  have h63' : ¬ (9223372036854775807 < ((sLen : Int) + (m : Int))) := by omega
  have h48' : ¬ (281474976710656 < Builtin.nextslicecap (sLen + m) sCap * i.bytes) := by have := growslice_fits (old := sCap) hg hfit; omega
  have fin : ∀ X : Array Value, Result.ok (Value.slice (some ⟨w.heap.size, 0, none⟩) (sLen + m) (grownCap w (sLen + m) sCap e)) (w.drew.alloc (.cells (olds.toArray ++ (news.toArray ++ X)) e)) =
      Result.ok (Value.slice (some ⟨w.heap.size, 0, none⟩) (sLen + m) (grownCap w (sLen + m) sCap e)) (w.drew.alloc (.cells (olds.toArray ++ news.toArray ++ X) e)) := fun X => by
    rw [Array.append_assoc]
  rw [← fin]
  rcases hd with ⟨e2, rfl⟩ | rfl <;> simp [Builtin.append_, run_underlying ht, run_underlying h2, sizeOf, typeInfo, zeroValue, hi, hz, h3, hn, h63', h48', Question.forced, h4, h5, newRow, grownCap]

def aap (P : Program) (nid : Nat) (st : St) (t t2 : TypeId) (s x : AV) : Option (AV × List (Nat × Option Ob) × Prop) :=
  match elm P t with
  | none => none
  | some e =>
    match src st (siz P e) x with
    | none => none
    | some (m, cs, ob) =>
      match s with
      | .nl => some (.lv nid 0 m, [(nid, some ⟨cs, siz P e, 0⟩)], ob ∧ okF cs ∧ siz P e ≠ 0 ∧ (∃ z, zrc P e = some z ∧ z.length = siz P e) ∧ ((elm P t2).isSome ∨ isStr P t2 = true) ∧ m * byt P e ≤ 140737488355328 ∧ m ≤ 4611686018427387904)
      | .lv id off n =>
        match look st.hp id with
        | none => none
        | some o => some (.lv nid 0 (n + m), [(id, none), (nid, some ⟨o.cells ++ cs, siz P e, o.hw⟩)],
            ob ∧ okF cs ∧ siz P e ≠ 0 ∧ (∃ z, zrc P e = some z ∧ z.length = siz P e) ∧ ((elm P t2).isSome ∨ isStr P t2 = true) ∧ (n + m) * byt P e ≤ 140737488355328 ∧ n + m ≤ 4611686018427387904 ∧
              off = 0 ∧ o.esz = siz P e ∧ o.cells.length = n * siz P e ∧ o.hw ≤ o.cells.length)
      | .fq n cs0 => some (.lv nid 0 (n + m), [(nid, some ⟨cs0 ++ cs, siz P e, 0⟩)], ob ∧ okF cs ∧ siz P e ≠ 0 ∧ (∃ z, zrc P e = some z ∧ z.length = siz P e) ∧ ((elm P t2).isSome ∨ isStr P t2 = true) ∧ (n + m) * byt P e ≤ 140737488355328 ∧ n + m ≤ 4611686018427387904 ∧ m ≠ 0 ∧ cs0.length = n * siz P e)
      | _ => none

def aapR (P : Program) (nid : Nat) (st : St) (t t2 : TypeId) (s x : AV) : Option (AV × List (Nat × Option Ob) × Prop) :=
  match elm P t with
  | none => none
  | some e =>
    match src st (siz P e) x with
    | none => none
    | some (m, cs, ob) =>
      match s with
      | .nl => some (.lv nid 0 m, [(nid, some ⟨cs, siz P e, 0⟩)], ob ∧ okCells st cs ∧ siz P e ≠ 0 ∧ (∃ z, zrc P e = some z ∧ z.length = siz P e) ∧ ((elm P t2).isSome ∨ isStr P t2 = true) ∧ m * byt P e ≤ 140737488355328 ∧ m ≤ 4611686018427387904)
      | .lv id off n =>
        match look st.hp id with
        | none => none
        | some o => some (.lv nid 0 (n + m), [(id, none), (nid, some ⟨o.cells ++ cs, siz P e, o.hw⟩)],
            ob ∧ okCells st cs ∧ siz P e ≠ 0 ∧ (∃ z, zrc P e = some z ∧ z.length = siz P e) ∧ ((elm P t2).isSome ∨ isStr P t2 = true) ∧ (n + m) * byt P e ≤ 140737488355328 ∧ n + m ≤ 4611686018427387904 ∧
              off = 0 ∧ o.esz = siz P e ∧ o.cells.length = n * siz P e ∧ o.hw ≤ o.cells.length)
      | .fq n cs0 => some (.lv nid 0 (n + m), [(nid, some ⟨cs0 ++ cs, siz P e, 0⟩)], ob ∧ okCells st cs ∧ siz P e ≠ 0 ∧ (∃ z, zrc P e = some z ∧ z.length = siz P e) ∧ ((elm P t2).isSome ∨ isStr P t2 = true) ∧ (n + m) * byt P e ≤ 140737488355328 ∧ n + m ≤ 4611686018427387904 ∧ m ≠ 0 ∧ cs0.length = n * siz P e)
      | _ => none

section
variable {c : Cx} {L : Lay} {F : Nat → Prop} {st : St} {a : Act} {w : World}

theorem zrc_spec {P : Program} {e : TypeId} {z : List AV} (h : zrc P e = some z) : ∃ i u, P.info? e = some i ∧ i.zero = some u ∧ z = u.cells.toList.map ofCell := by
  unfold zrc at h
  cases hi : P.info? e with
  | none => simp [hi] at h
  | some i =>
    cases hu : i.zero with
    | none => simp [hi, hu] at h
    | some u => simp [hi, hu] at h; exact ⟨i, u, rfl, hu, h.symm⟩
theorem not_int {P : Program} {t2 : TypeId} (h : (elm P t2).isSome ∨ isStr P t2 = true) : ∃ d, P.underlying t2 = some d ∧ ((∃ e2, d = .slice e2) ∨ d = .string) := by
  rcases h with h | h
  · obtain ⟨e, he⟩ := Option.isSome_iff_exists.1 h
    exact ⟨_, elm_spec he, .inl ⟨_, rfl⟩⟩
  · exact ⟨_, isStr_spec h, .inr rfl⟩

theorem app_new (h : Rel c L F st a w) {nid : Nat} (hF : F nid) {e : TypeId} {i : TypeInfo} (hi : c.P.info? e = some i) {z : Value} (hzs : z.cells.size = i.size) {n m : Nat} {cs1 cs2 : List AV} {olds news : List Value}
    (h1 : VRs w (sta c L st.hp) L cs1 olds) (h2 : VRs w (sta c L st.hp) L cs2 news) (hl1 : cs1.length = n * i.size) (hl2 : cs2.length = m * i.size) (old : Nat) :
    ∃ B, Rel c (lset L nid (some (some B))) (fun j => F j ∧ j ≠ nid) { st with hp := ins st.hp nid ⟨cs1 ++ cs2, i.size, 0⟩ } a
      (w.drew.alloc (.cells (olds.toArray ++ news.toArray ++ Builtin.zeroCells z.cells (grownCap w (n + m) old e - (n + m))) e)) ∧
      VR (w.drew.alloc (.cells (olds.toArray ++ news.toArray ++ Builtin.zeroCells z.cells (grownCap w (n + m) old e - (n + m))) e))
        (sta c (lset L nid (some (some B))) (ins st.hp nid ⟨cs1 ++ cs2, i.size, 0⟩)) (lset L nid (some (some B))) (.lv nid 0 (n + m)) (.slice (some ⟨w.heap.size, 0, none⟩) (n + m) (grownCap w (n + m) old e)) := by
  have hge := grownCap_ge w (n + m) old e
  have hsz : (olds.toArray ++ news.toArray ++ Builtin.zeroCells z.cells (grownCap w (n + m) old e - (n + m))).size = grownCap w (n + m) old e * i.size := by
    simp only [Array.size_append, List.size_toArray, size_zeroCells, hzs, h1.1, h2.1, hl1, hl2, ← Nat.add_mul]
    congr 1
    omega
  have hr := h.drew.newObj (T := e) (fr := (0, 0)) (esz := i.size) hF hsz (cs := cs1 ++ cs2) (by rw [List.length_append, hl1, hl2, ← Nat.add_mul]; exact Nat.mul_le_mul_right _ hge) (.inl rfl) (fun k x hx => by
    have hk : ∀ v, (olds ++ news)[k]? = some v → (olds.toArray ++ news.toArray ++ Builtin.zeroCells z.cells (grownCap w (n + m) old e - (n + m))).getD k undef = v := by
      intro v hv
      have hlt := (List.getElem?_eq_some_iff.1 hv).1
      simp at hlt
      rw [Array.getD_eq_getD_getElem?, Array.getElem?_append_left (by simp; omega)]
      have : (olds.toArray ++ news.toArray)[k]? = some v := by
        rw [← hv]
        simp
      rw [this]; rfl
    have hVR : VR w (sta c L st.hp) L x ((olds ++ news).getD k undef) := by
      by_cases hlt : k < cs1.length
      · rw [List.getElem?_append_left hlt] at hx
        have := h1.2 k x hx
        have e1 : (olds ++ news).getD k undef = olds.getD k undef := by
          simp [List.getD_eq_getElem?_getD, List.getElem?_append_left (show k < olds.length by rw [h1.1]; exact hlt)]
        rw [e1]; exact this
      · rw [List.getElem?_append_right (by omega)] at hx
        have := h2.2 _ x hx
        have e1 : (olds ++ news).getD k undef = news.getD (k - cs1.length) undef := by
          simp [List.getD_eq_getElem?_getD, List.getElem?_append_right (show olds.length ≤ k by rw [h1.1]; omega), h1.1]
        rw [e1]; exact this
    have hlt : k < (olds ++ news).length := by
      have := (List.getElem?_eq_some_iff.1 hx).1
      rw [List.length_append] at this ⊢
      rw [h1.1, h2.1]; exact this
    have hsome : (olds ++ news)[k]? = some ((olds ++ news).getD k undef) := by
      rw [List.getD_eq_getElem?_getD, List.getElem?_eq_getElem hlt]; rfl
    rw [hk _ hsome]
    exact hVR.move (w' := w.drew) (fun b j u hs hu => ⟨hs, hu⟩) (fun _ _ hy => .inl hy))
  refine ⟨_, hr, .lv _ _ _ _ _ _ _ (by simp [lset]; rfl) hge (fun _ => rfl) ?_⟩
  simp

theorem app_store (h : Rel c L F st a w) {id : Nat} {o : Ob} (ho : look st.hp id = some o) {B : Blk} (hB : L id = some (some B)) {sz n m cap : Nat} {A : Option Addr} (hBe : B.esz = o.esz) (hez : o.esz = sz) (hol : o.cells.length = n * sz)
    (hhw : o.hw ≤ o.cells.length) (hcap : n ≤ cap) (hA : 0 < cap → A = some ⟨B.block, 0, none⟩) (hroom : 0 + cap * B.esz ≤ B.size) (hfit : n + m ≤ cap) {cs : List AV} {news : List Value} (hl : cs.length = m * sz)
    (hnews : VRs w (sta c L st.hp) L cs news) (h1 : ∀ v ∈ news, v.oneCell' = true) :
    ∃ w', appIn c.P w (n * sz) news (n + m) cap A = .ok (.slice A (n + m) cap) w' ∧ Rel c L F { st with hp := ins st.hp id ⟨o.cells ++ cs, o.esz, o.hw⟩ } a w' := by
  by_cases hcz : cap = 0
  · obtain rfl : n = 0 := by omega
    obtain rfl : m = 0 := by omega
    obtain rfl : cs = [] := List.eq_nil_of_length_eq_zero (by simpa using hl)
    obtain rfl : news = [] := List.eq_nil_of_length_eq_zero (by have := hnews.1; simpa using this)
    have h0 : o.cells.length = 0 := by simpa using hol
    obtain ⟨w', q1, q2⟩ := Rel.stores (c := c) (F := F) (a := a) id B hB 0 [] [] 0 o st w h ho (by omega) (by omega) (by simp) hnews (fun v hv => by simp at hv)
    simp [storeCells] at q1
    subst q1
    refine ⟨w, ?_, ?_⟩
    · cases A <;> simp [appIn, storeCells]
    · simpa [ovl] using q2
  · have hA' := hA (by omega)
    subst hA'
    have hsp : n * sz + m * sz ≤ B.size := by
      rw [← Nat.add_mul]
      have : (n + m) * sz ≤ cap * B.esz := by rw [hBe, hez]; exact Nat.mul_le_mul_right _ hfit
      omega
    obtain ⟨w', q1, q2⟩ := Rel.stores (c := c) (F := F) (a := a) id B hB (n * sz) cs news 0 o st w h ho (by omega) (by omega) (by omega) hnews h1
    refine ⟨w', ?_, ?_⟩
    · simp only [appIn, add_mk, Nat.zero_add]
      rw [q1]
      rfl
    · have : ovl o.cells (n * sz + 0) cs = o.cells ++ cs := by rw [Nat.add_zero, ← hol]; exact ovl_end _ _
      rw [this] at q2
      exact q2
theorem del_ins {α : Type} (l : List (Nat × α)) (k : Nat) (u : α) : del (ins l k u) k = del l k := by
  induction l with
  | nil => simp [ins, del]
  | cons x xs ih =>
    unfold ins
    split
    · simp [del]
    · split
      · rename_i h1 h2
        simp [del, h2]
      · rename_i h1 h2
        simp [del, h2, ih]
theorem del_ins_ne {α : Type} (l : List (Nat × α)) (k j : Nat) (u : α) (hkj : k ≠ j) (q : Nat) : look (del (ins l k u) j) q = look (ins (del l j) k u) q := by
  rw [look_del, look_ins, look_ins, look_del]
  by_cases h1 : j = q
  · rw [if_pos h1, if_neg (by omega), if_pos h1]
  · rw [if_neg h1, if_neg h1]
theorem Rel.same {hp hp' : List (Nat × Ob)} (hq : ∀ q, look hp q = look hp' q) (hh : Rel c L F { st with hp := hp } a w) : Rel c L F { st with hp := hp' } a w := by
  have hs : sta c L hp' = sta c L hp := by funext b k; simp only [sta, own, hq]
  refine ⟨⟨fun j p hj => ?_, fun j Bj hj => ?_, hh.hr.inj, hh.hr.mine, hh.hr.kept, hh.hr.upd⟩, hh.fresh, hh.defs, hh.size, fun t => by rw [hs]; exact hh.slot t, hh.ext⟩
  · rw [← hq] at hj
    rw [hs]; exact hh.hr.live j p hj
  · rw [← hq]; exact hh.hr.dead j Bj hj

theorem append_specR (h : Rel c L F st a w) {nid : Nat} (hF : F nid) {t t2 ty : TypeId} {s x : AV} {vs vx : Value} (hvs : VR w (sta c L st.hp) L s vs) (hvx : VR w (sta c L st.hp) L x vx)
    {r : AV} {up : List (Nat × Option Ob)} {ob : Prop} (he : aapR c.P nid st t t2 s x = some (r, up, ob)) (hob : ob) :
    ∃ v w' L', (Builtin.append_ #[t, t2] ty #[vs, vx]).run c.P w = .ok v w' ∧ Rel c L' (fun j => F j ∧ j ≠ nid) (st.up up) a w' ∧ VR w' (sta c L' (st.up up).hp) L' r v := by
  unfold aapR at he
  split at he
  · cases he
  · rename_i e helm
    have ht := elm_spec helm
    split at he
    · cases he
    · rename_i m cs ob1 hsrc
      split at he
      · -- nil
        simp only [Option.some.injEq, Prod.mk.injEq] at he
        obtain ⟨rfl, rfl, rfl⟩ := he
        obtain ⟨hob1, hok, hz, ⟨z, hzr, hzl⟩, hty, hby, hmx⟩ := hob
        obtain ⟨hl, news, hnews, hrun⟩ := src_spec h hvx hsrc hob1
        obtain ⟨d2, h2, hd⟩ := not_int hty
        obtain ⟨i, u, hi, hu, rfl⟩ := zrc_spec hzr
        have hsi : i.size = siz c.P e := by simp [siz, hi]
        have hbi : i.bytes = byt c.P e := by simp [byt, hi]
        have hus : u.cells.size = i.size := by rw [hsi, ← hzl]; simp
        have := hvs.nl_eq
        subst this
        by_cases hm : m = 0
        · subst hm
          obtain rfl : cs = [] := List.eq_nil_of_length_eq_zero (by simpa using hl)
          obtain rfl : news = [] := List.eq_nil_of_length_eq_zero (by have := hnews.1; simpa using this)
          have hr := run_append_in (P := c.P) (w := w) (ty := ty) ht h2 hd hi none 0 0 vx 0 [] (hrun w rfl).1 (by rw [hsi]; exact (hrun w rfl).2) (Nat.le_refl _)
          refine ⟨_, _, _, hr, h.phantom hF (siz c.P e) 0, .lv _ _ _ _ ⟨0, 0, siz c.P e⟩ _ _ (by simp [lset]) (Nat.le_refl _) (fun hp => absurd hp (by omega)) (by simp)⟩
        · have hnil : VRs w (sta c L st.hp) L [] [] := ⟨rfl, fun i y hy => by simp at hy⟩
          have hr := run_append_out (P := c.P) (w := w) (ty := ty) ht h2 hd hi hu none 0 0 vx m [] news (hrun w rfl).1 rfl (by rw [hsi]; exact (hrun w.drew rfl).2) (by omega) (by omega) (by rw [hbi, Nat.zero_add]; omega)
          obtain ⟨B, hR, hV⟩ := app_new h hF hi hus (n := 0) (m := m) hnil hnews (by simp) (by rw [hsi]; exact hl) 0
          simp only [Nat.zero_add, List.nil_append, hsi] at hR hV hr
          exact ⟨_, _, _, hr, hR, hV⟩
      · rename_i id off n
        split at he
        · cases he
        · rename_i o ho
          simp only [Option.some.injEq, Prod.mk.injEq] at he
          obtain ⟨rfl, rfl, rfl⟩ := he
          obtain ⟨hob1, hok, hz, ⟨z, hzr, hzl⟩, hty, hby, hmx, rfl, hez, hol, hhw⟩ := hob
          obtain ⟨hl, news, hnews, hrun⟩ := src_spec h hvx hsrc hob1
          obtain ⟨d2, h2, hd⟩ := not_int hty
          obtain ⟨i, u, hi, hu, rfl⟩ := zrc_spec hzr
          have hsi : i.size = siz c.P e := by simp [siz, hi]
          have hbi : i.bytes = byt c.P e := by simp [byt, hi]
          have hus : u.cells.size = i.size := by rw [hsi, ← hzl]; simp
          have hnl : nid ≠ id := fun e => by
            obtain ⟨B, hB, _⟩ := h.hr.live id o ho
            rw [← e, h.fresh nid hF] at hB; cases hB
          -- the old cells as a source
          obtain ⟨hl0, olds, holds, hrun0⟩ := src_spec h (x := .lv id 0 n) (sz := siz c.P e) (m := n) (cs := (o.cells.drop 0).take (n * siz c.P e)) (ob := o.esz = siz c.P e ∧ 0 + n * siz c.P e ≤ o.cells.length) hvs (by simp [src, ho]) ⟨hez, by omega⟩
          have hcs0 : (o.cells.drop 0).take (n * siz c.P e) = o.cells := by simp [← hol]
          rw [hcs0] at holds hl0
          obtain ⟨B, hB, hBe, hlen, hreal⟩ := h.hr.live id o ho
          obtain ⟨A, cap, rfl, hcap, hA, hroom⟩ := hvs.lv_eq hB
          by_cases hfit : n + m ≤ cap
          · have hr := run_append_in (P := c.P) (w := w) (ty := ty) ht h2 hd hi A n cap vx m news (hrun w rfl).1 (by rw [hsi]; exact (hrun w rfl).2) hfit
            have hstore := app_store h ho hB hBe hez hol hhw (sz := siz c.P e) hcap hA hroom hfit hl hnews (okCells_one h hnews hok)
            rw [hsi] at hr
            obtain ⟨w', q1, q2⟩ := hstore
            rw [q1] at hr
            have q3 := q2.rename (id := id) hF (by rw [look_ins, if_pos rfl]) hB
            simp only [del_ins] at q3
            refine ⟨_, w', lset (lset L nid (some (some B))) id (some none), hr, ?_, ?_⟩
            · rw [← hez]; exact q3
            · refine .lv _ _ _ _ B _ _ (by simp [lset, hnl]) hfit hA hroom
          · have hr := run_append_out (P := c.P) (w := w) (ty := ty) ht h2 hd hi hu A n cap vx m olds news (hrun w rfl).1 (by rw [hsi]; exact (hrun0 w.drew rfl).2) (by rw [hsi]; exact (hrun w.drew rfl).2) (by omega) (by omega) (by rw [hbi]; omega)
            obtain ⟨B', hR, hV⟩ := app_new h hF hi hus (n := n) (m := m) holds hnews (by rw [hsi]; exact hol) (by rw [hsi]; exact hl) cap
            -- the old object goes
            have hlk : (look (ins st.hp nid ⟨o.cells ++ cs, i.size, 0⟩) id).isSome = true := by rw [look_ins, if_neg hnl, ho]; rfl
            have hR2 := hR.gone id hlk
            have hR3 := Rel.same (del_ins_ne st.hp nid id ⟨o.cells ++ cs, i.size, 0⟩ hnl) hR2
            have hR4 := hR3.lend (id := nid) (o := ⟨o.cells ++ cs, i.size, 0⟩) (k := o.hw) (by rw [look_ins, if_pos rfl]) (Nat.zero_le _)
            simp only [ins_ins, hsi] at hR4
            refine ⟨_, _, _, hr, hR4, ?_⟩
            obtain ⟨A2, cap2, hv2, k0, k1, k2⟩ := hV.lv_eq (B := B') (by simp [lset])
            injection hv2 with hv2a hv2b hv2c
            subst hv2a hv2c
            exact .lv _ _ _ _ B' _ _ (by simp [lset, hnl]) k0 k1 k2
      · rename_i n cs0
        simp only [Option.some.injEq, Prod.mk.injEq] at he
        obtain ⟨rfl, rfl, rfl⟩ := he
        obtain ⟨hob1, hok, hz, ⟨z, hzr, hzl⟩, hty, hby, hmx, hm0, hc0⟩ := hob
        obtain ⟨hl, news, hnews, hrun⟩ := src_spec h hvx hsrc hob1
        obtain ⟨d2, h2, hd⟩ := not_int hty
        obtain ⟨i, u, hi, hu, rfl⟩ := zrc_spec hzr
        have hsi : i.size = siz c.P e := by simp [siz, hi]
        have hbi : i.bytes = byt c.P e := by simp [byt, hi]
        have hus : u.cells.size = i.size := by rw [hsi, ← hzl]; simp
        obtain ⟨A, rfl, _⟩ := hvs.fq_eq
        obtain ⟨hl0, olds, holds, hrun0⟩ := src_spec h (x := .fz n cs0) (sz := siz c.P e) (m := n) (cs := cs0) (ob := cs0.length = n * siz c.P e) hvs.fq_fz (by simp [src]) hc0
        have hr := run_append_out (P := c.P) (w := w) (ty := ty) ht h2 hd hi hu A n n vx m olds news (hrun w rfl).1 (by rw [hsi]; exact (hrun0 w.drew rfl).2) (by rw [hsi]; exact (hrun w.drew rfl).2) (by omega) (by omega) (by rw [hbi]; omega)
        obtain ⟨B', hR, hV⟩ := app_new h hF hi hus (n := n) (m := m) holds hnews (by rw [hsi]; exact hl0) (by rw [hsi]; exact hl) n
        simp only [hsi] at hR hV hr
        exact ⟨_, _, _, hr, hR, hV⟩
      · cases he
theorem aap_R {P : Program} {nid : Nat} {st : St} {t t2 : TypeId} {s x : AV} {r : AV} {up : List (Nat × Option Ob)} {ob : Prop} (he : aap P nid st t t2 s x = some (r, up, ob)) (hob : ob) : ∃ ob', aapR P nid st t t2 s x = some (r, up, ob') ∧ ob' := by
  unfold aap at he
  unfold aapR
  split at he
  · cases he
  · rename_i e hel
    split at he
    · cases he
    · rename_i m cs ob1 hsrc
      split at he
      · simp only [Option.some.injEq, Prod.mk.injEq] at he
        obtain ⟨rfl, rfl, rfl⟩ := he
        exact ⟨_, rfl, hob.1, okF_cells hob.2.1 st, hob.2.2⟩
      · split at he
        · cases he
        · rename_i o ho
          simp only [Option.some.injEq, Prod.mk.injEq] at he
          obtain ⟨rfl, rfl, rfl⟩ := he
          exact ⟨_, rfl, hob.1, okF_cells hob.2.1 st, hob.2.2⟩
      · simp only [Option.some.injEq, Prod.mk.injEq] at he
        obtain ⟨rfl, rfl, rfl⟩ := he
        exact ⟨_, rfl, hob.1, okF_cells hob.2.1 st, hob.2.2⟩
      · cases he
theorem append_spec (h : Rel c L F st a w) {nid : Nat} (hF : F nid) {t t2 ty : TypeId} {s x : AV} {vs vx : Value} (hvs : VR w (sta c L st.hp) L s vs) (hvx : VR w (sta c L st.hp) L x vx)
    {r : AV} {up : List (Nat × Option Ob)} {ob : Prop} (he : aap c.P nid st t t2 s x = some (r, up, ob)) (hob : ob) :
    ∃ v w' L', (Builtin.append_ #[t, t2] ty #[vs, vx]).run c.P w = .ok v w' ∧ Rel c L' (fun j => F j ∧ j ≠ nid) (st.up up) a w' ∧ VR w' (sta c L' (st.up up).hp) L' r v := by
  obtain ⟨ob', e1, e2⟩ := aap_R he hob
  exact append_specR h hF hvs hvx e1 e2
end
end Go.Sim

namespace Go.Sim
open Go.RowKit
set_option linter.unusedVariables false
set_option linter.unusedSimpArgs false

def isIntT (P : Program) (t : TypeId) : Bool := match P.underlying t with | some (.int _) => true | _ => false
theorem isIntT_spec {P : Program} {t : TypeId} (h : isIntT P t = true) : ∃ k, P.underlying t = some (.int k) := by
  unfold isIntT at h
  split at h
  · rename_i k hk; exact ⟨k, hk⟩
  · cases h
theorem run_appz_in {P : Program} {w : World} {t t2 ty e : TypeId} {i : TypeInfo} {k2 k : IntKind} {z : Value} (ht : P.underlying t = some (.slice e)) (h2 : P.underlying t2 = some (.int k2)) (hi : P.info? e = some i) (hz : i.zero = some z)
    (base : Option Addr) (sLen sCap m : Nat) (hm : (m : Int) ≤ 9223372036854775807) (hb : ¬ (281474976710656 < (m : Int) * (i.bytes : Int))) (hm0 : ¬ m * i.size = 0) (hroom : sLen + m ≤ sCap) :
    (Builtin.append_ #[t, t2] ty #[.slice base sLen sCap, .int k m]).run P w = appIn P w (sLen * i.size) (Builtin.zeroCells z.cells m).toList (sLen + m) sCap base := by
  have hw : IntKind.i64.wrap (m : Int) = m := by rw [IntKind.wrap_i64]; omega
  have hn : ¬ ((m : Int) < 0) := by omega
  have hm1 : ¬ m = 0 := fun e => hm0 (by rw [e, Nat.zero_mul])
  have hm2 : ¬ i.size = 0 := fun e => hm0 (by rw [e, Nat.mul_zero])
  cases base <;> simp [appIn, Builtin.append_, run_underlying ht, run_underlying h2, sizeOf, typeInfo, zeroValue, hi, hz, hroom, asInt, asIntOf, hw, hn, hb, hm1, hm2]
  exact fun h => absurd h hm0
theorem run_appz_zero {P : Program} {w : World} {t t2 ty e : TypeId} {i : TypeInfo} {k2 k : IntKind} (ht : P.underlying t = some (.slice e)) (h2 : P.underlying t2 = some (.int k2)) (hi : P.info? e = some i)
    (base : Option Addr) (sLen sCap : Nat) (hroom : sLen + 0 ≤ sCap) :
    (Builtin.append_ #[t, t2] ty #[.slice base sLen sCap, .int k ((0 : Nat) : Int)]).run P w = appIn P w (sLen * i.size) [] (sLen + 0) sCap base := by
  have hw : IntKind.i64.wrap (0 : Int) = 0 := by decide
  have hr : sLen ≤ sCap := hroom
  cases base <;> simp [appIn, Builtin.append_, run_underlying ht, run_underlying h2, sizeOf, typeInfo, hi, hr, asInt, asIntOf, hw]
theorem run_appz_out {P : Program} {w : World} {t t2 ty e : TypeId} {i : TypeInfo} {k2 k : IntKind} {z : Value} (ht : P.underlying t = some (.slice e)) (h2 : P.underlying t2 = some (.int k2)) (hi : P.info? e = some i) (hz : i.zero = some z)
    (base : Option Addr) (sLen sCap m : Nat) (olds : List Value) (hb : ¬ (281474976710656 < (m : Int) * (i.bytes : Int))) (hm0 : ¬ m * i.size = 0)
    (h5 : (Builtin.firstCells i.size sLen (.slice base sLen sCap)).run P w.drew = .ok olds.toArray w.drew) (hg : sCap < sLen + m)
    (h63 : ((sLen + m : Nat) : Int) ≤ 9223372036854775807) (hfit : (sLen + m) * i.bytes ≤ 140737488355328) :
    (Builtin.append_ #[t, t2] ty #[.slice base sLen sCap, .int k m]).run P w =
      .ok (.slice (some ⟨w.heap.size, 0, none⟩) (sLen + m) (grownCap w (sLen + m) sCap e))
        (w.drew.alloc (.cells (olds.toArray ++ (Builtin.zeroCells z.cells m).toList.toArray ++ Builtin.zeroCells z.cells (grownCap w (sLen + m) sCap e - (sLen + m))) e)) := by
  have hn : ¬ (sLen + m ≤ sCap) := by omega
  have hw : IntKind.i64.wrap (m : Int) = m := by rw [IntKind.wrap_i64]; omega
  have hn2 : ¬ ((m : Int) < 0) := by omega
  have hm1 : ¬ m = 0 := fun e => hm0 (by rw [e, Nat.zero_mul])
  have hm2 : ¬ i.size = 0 := fun e => hm0 (by rw [e, Nat.mul_zero])
  have h63' : ¬ (9223372036854775807 < ((sLen : Int) + (m : Int))) := by omega
  have h48' : ¬ (281474976710656 < Builtin.nextslicecap (sLen + m) sCap * i.bytes) := by have := growslice_fits (old := sCap) hg hfit; omega
  have fin : ∀ X : Array Value, Result.ok (Value.slice (some ⟨w.heap.size, 0, none⟩) (sLen + m) (grownCap w (sLen + m) sCap e)) (w.drew.alloc (.cells (olds.toArray ++ ((Builtin.zeroCells z.cells m).toList.toArray ++ X)) e)) =
      Result.ok (Value.slice (some ⟨w.heap.size, 0, none⟩) (sLen + m) (grownCap w (sLen + m) sCap e)) (w.drew.alloc (.cells (olds.toArray ++ (Builtin.zeroCells z.cells m).toList.toArray ++ X) e)) := fun X => by
    rw [Array.append_assoc]
  rw [← fin]
  simp [Builtin.append_, run_underlying ht, run_underlying h2, sizeOf, typeInfo, zeroValue, hi, hz, asInt, asIntOf, hw, hn2, hb, hm1, hm2, hn, h63', h48', Question.forced, h5, newRow, grownCap]
  exact fun h => absurd h hm0
def aapZ (P : Program) (nid : Nat) (st : St) (t t2 : TypeId) (s x : AV) : Option (AV × List (Nat × Option Ob) × Prop) :=
  match elm P t with
  | none => none
  | some e =>
    match zrc P e, aint x with
    | some [z], some n =>
      (match s with
      | .nl => some (.lv nid 0 n.toNat, [(nid, some ⟨List.replicate n.toNat z, 1, 0⟩)], 0 ≤ n ∧ okf z = true ∧ siz P e = 1 ∧ isIntT P t2 = true ∧ n.toNat * byt P e ≤ 140737488355328 ∧ n.toNat ≤ 4611686018427387904)
      | .lv id off k =>
        (match look st.hp id with
        | none => none
        | some o => some (.lv nid 0 (k + n.toNat), [(id, none), (nid, some ⟨o.cells ++ List.replicate n.toNat z, 1, o.hw⟩)],
            0 ≤ n ∧ okf z = true ∧ siz P e = 1 ∧ isIntT P t2 = true ∧ (k + n.toNat) * byt P e ≤ 140737488355328 ∧ k + n.toNat ≤ 4611686018427387904 ∧ off = 0 ∧ o.esz = 1 ∧ o.cells.length = k * 1 ∧ o.hw ≤ o.cells.length))
      | _ => none)
    | _, _ => none
noncomputable def aef (P : Program) (nid : Nat) (st : St) : Op → Option (AV × List (Nat × Option Ob) × Prop)
  | .alloc t => match zrc P t with | some z => some (.pt nid 0, [(nid, some ⟨z, 1, 0⟩)], True) | none => none
  | .box t x => match cel st (st.ev x) with | some cs => some (.pt nid 0, [(nid, some ⟨cs, 1, 0⟩)], True) | none => none
  | .buildSlice t n ps =>
    match elm P t with
    | none => none
    | some e => match cels st ps.toList, zrc P e with
      | some l, some z => (match afl ((List.range n).map fun k => (k * siz P e, siz P e)) (List.replicate n z).flatten l with
        | some cs => some (.lv nid 0 n, [(nid, some ⟨cs, siz P e, 0⟩)], siz P e ≠ 0 ∧ z.length = siz P e ∧ n * siz P e ≤ 16777216)
        | none => none)
      | _, _ => none
  | .makeSlice t l k =>
    match elm P t with
    | none => none
    | some e => match zrc P e, aint (st.ev l), aint (st.ev k) with
      | some [z], some n, some m => some (.lv nid 0 n.toNat, [(nid, some ⟨List.replicate n.toNat z, 1, 0⟩)], siz P e = 1 ∧ 0 ≤ n ∧ n ≤ m ∧ m ≤ 16777216 ∧ byt P e ≤ 16777216)
      | _, _, _ => none
  | .store t x y =>
    match st.ev x, cel st (st.ev y) with
    | .pt id off, some cs => (match look st.hp id with
      | some o => some (.un, [(id, some ⟨spl o.cells off cs, o.esz, o.hw⟩)], siz P t ≠ 0 ∧ cs.length = siz P t ∧ o.hw ≤ off ∧ off + cs.length ≤ o.cells.length ∧ okCells st cs)
      | none => none)
    | _, _ => none
  | .convert s d x =>
    match st.ev x with
    | .lv id off n => (match look st.hp id with
      | some o => some (.lv id off n, [], s = d ∧ n ≠ 0 ∧ 0 < o.esz ∧ ∃ e, elm P s = some e ∧ ikd P e = some .u8)
      | none => none)
    | _ => none
  | .slice t x lo hi (some mx) =>
    match st.ev x, elm P t with
    | .fz n cs0, some e => (match abd st 0 lo, abd st n hi, aint (st.ev mx) with
      | some l, some h, some m => if l = h then some (.lv nid 0 0, [(nid, some ⟨[], siz P e, 0⟩)], siz P e ≠ 0 ∧ 0 ≤ l ∧ l = h ∧ h = m ∧ m ≤ n ∧ hi.isSome = true)
        else some (.fq h.toNat (cs0.take (h.toNat * siz P e)), [], siz P e ≠ 0 ∧ l = 0 ∧ 0 ≤ h ∧ h = m ∧ m ≤ n ∧ hi.isSome = true)
      | _, _, _ => none)
    | _, _ => none
  | .call { callee := .builtin .append, args, argTypes } =>
    match args.toList, argTypes.toList with
    | [s, x], [t, t2] => (aap P nid st t t2 (st.ev s) (st.ev x)).or (aapZ P nid st t t2 (st.ev s) (st.ev x))
    | _, _ => none
  | _ => none

section
variable {c : Cx} {L : Lay} {F : Nat → Prop} {st : St} {a : Act} {w : World}

theorem zrc_vrs {S : Nat → Nat → Prop} {L : Lay} {u : Value} : VRs w S L (u.cells.toList.map ofCell) u.cells.toList := by
  refine ⟨by simp, fun i x hx => ?_⟩
  simp at hx
  obtain ⟨v, hv, rfl⟩ := hx
  have : u.cells.toList.getD i undef = v := by simp [List.getD_eq_getElem?_getD, hv]
  rw [this]
  exact ofCell_vr ..
theorem Rel.made (h : Rel c L F st a w) {nid : Nat} (hF : F nid) {cs : List AV} {C : Array Value} {T : TypeId} {esz : Nat} (hv : VRs w (sta c L st.hp) L cs (C.toList.take cs.length)) (hlen : cs.length ≤ C.size) :
    Rel c (lset L nid (some (some ⟨w.heap.size, C.size, esz⟩))) (fun j => F j ∧ j ≠ nid) { st with hp := ins st.hp nid ⟨cs, esz, 0⟩ } a (w.alloc (.cells C T)) := by
  refine h.newObj hF rfl hlen (.inl rfl) (fun i x hx => ?_)
  have hi := (List.getElem?_eq_some_iff.1 hx).1
  have := hv.2 i x hx
  have e : (C.toList.take cs.length).getD i undef = C.getD i undef := by
    simp [List.getD_eq_getElem?_getD, hi]
  rw [e] at this
  exact this

theorem flatten_range {P : Program} (z : Array Value) (n : Nat) (hz : z.size ≠ 0) : ((Array.range (n * z.size)).map fun i => z[i % z.size]!).toList = (List.replicate n z.toList).flatten := by
  induction n with
  | zero => simp
  | succ n ih =>
    rw [List.replicate_succ', List.flatten_append, ← ih]
    apply List.ext_getElem?
    intro i
    simp only [Array.toList_map, Array.toList_range, List.flatten_cons, List.flatten_nil, List.append_nil]
    by_cases hi : i < n * z.size
    · rw [List.getElem?_append_left (by simp; exact hi)]
      rw [List.getElem?_map, List.getElem?_map, List.getElem?_range (by rw [Nat.add_mul]; omega), List.getElem?_range hi]
    · rw [List.getElem?_append_right (by simp; omega)]
      simp only [List.length_map, List.length_range]
      by_cases hi2 : i < (n + 1) * z.size
      · rw [List.getElem?_map, List.getElem?_range hi2]
        have e : i % z.size = i - n * z.size := by
          have : i = z.size * n + (i - n * z.size) := by rw [Nat.mul_comm]; omega
          rw [this, Nat.mul_add_mod, Nat.mod_eq_of_lt (by rw [Nat.add_mul] at hi2; omega), Nat.mul_comm]
          omega
        have hlt : i - n * z.size < z.size := by rw [Nat.add_mul] at hi2; omega
        simp [e, hlt]
      · rw [List.getElem?_eq_none (by simp; omega), List.getElem?_eq_none (by simp; rw [Nat.add_mul] at hi2; omega)]

theorem vrs_flatten {S : Nat → Nat → Prop} {L : Lay} {cs : List AV} {vs : List Value} (h : VRs w S L cs vs) (n : Nat) : VRs w S L (List.replicate n cs).flatten (List.replicate n vs).flatten := by
  induction n with
  | zero => exact ⟨rfl, fun i x hx => by simp at hx⟩
  | succ n ih =>
    simp only [List.replicate_succ, List.flatten_cons]
    refine ⟨by simp [h.1], fun i x hx => ?_⟩
    by_cases hi : i < cs.length
    · rw [List.getElem?_append_left hi] at hx
      have := h.2 i x hx
      have e : (vs ++ (List.replicate n vs).flatten).getD i undef = vs.getD i undef := by
        simp [List.getD_eq_getElem?_getD, List.getElem?_append_left (show i < vs.length by rw [h.1]; exact hi)]
      rw [e]; exact this
    · rw [List.getElem?_append_right (by omega)] at hx
      have := ih.2 _ x hx
      have e : (vs ++ (List.replicate n vs).flatten).getD i undef = ((List.replicate n vs).flatten).getD (i - cs.length) undef := by
        simp [List.getD_eq_getElem?_getD, List.getElem?_append_right (show vs.length ≤ i by rw [h.1]; omega), h.1]
      rw [e]; exact this

theorem vrs_rep {S : Nat → Nat → Prop} {L : Lay} {z : AV} {u : Value} (h : VR w S L z u) (n : Nat) : VRs w S L (List.replicate n z) (List.replicate n u) :=
  ⟨by simp, fun i x hx => by
    have hi := (List.getElem?_eq_some_iff.1 hx).1
    simp at hi
    simp [hi] at hx
    subst hx
    simpa [List.getD_eq_getElem?_getD, hi] using h⟩
theorem okF_rep {z : AV} (h : okf z = true) (n : Nat) : okF (List.replicate n z) := fun x hx => by rw [(List.mem_replicate.1 hx).2]; exact h
theorem zero_one {u : Value} {z : AV} (hzu : [z] = u.cells.toList.map ofCell) (n : Nat) : u.cells.size = 1 ∧ (Builtin.zeroCells u.cells n).toList = List.replicate n (u.cells.getD 0 undef) := by
  have hus : u.cells.size = 1 := by
    have := congrArg List.length hzu
    simpa using this.symm
  refine ⟨hus, ?_⟩
  unfold Builtin.zeroCells
  apply List.ext_getElem?
  intro i
  simp only [Array.toList_map, Array.toList_range, hus, Nat.mul_one, List.getElem?_map, Nat.mod_one]
  by_cases hi : i < n
  · rw [List.getElem?_range hi]
    simp [hi, hus]
  · rw [List.getElem?_eq_none (by simpa using hi), List.getElem?_eq_none (by simpa using hi)]
    rfl
theorem append_specZ (h : Rel c L F st a w) {nid : Nat} (hF : F nid) {t t2 ty : TypeId} {s x : AV} {vs vx : Value} (hvs : VR w (sta c L st.hp) L s vs) (hvx : VR w (sta c L st.hp) L x vx)
    {r : AV} {up : List (Nat × Option Ob)} {ob : Prop} (he : aapZ c.P nid st t t2 s x = some (r, up, ob)) (hob : ob) :
    ∃ v w' L', (Builtin.append_ #[t, t2] ty #[vs, vx]).run c.P w = .ok v w' ∧ Rel c L' (fun j => F j ∧ j ≠ nid) (st.up up) a w' ∧ VR w' (sta c L' (st.up up).hp) L' r v := by
  unfold aapZ at he
  split at he
  · cases he
  · rename_i e helm
    have ht := elm_spec helm
    split at he
    · rename_i z n hzr hn
      obtain ⟨kx, rfl⟩ := aint_spec hvx hn
      obtain ⟨i, u, hi, hu, hzu⟩ := zrc_spec hzr
      split at he
      · simp only [Option.some.injEq, Prod.mk.injEq] at he
        obtain ⟨rfl, rfl, rfl⟩ := he
        obtain ⟨hn0, hok, hz, hty, hby, hmx⟩ := hob
        obtain ⟨k2, h2⟩ := isIntT_spec hty
        obtain ⟨m, rfl⟩ := Int.eq_ofNat_of_zero_le hn0
        simp only [Int.toNat_natCast] at hby hmx ⊢
        have hsi : i.size = 1 := by simpa [siz, hi] using hz
        have hbi : i.bytes = byt c.P e := by simp [byt, hi]
        obtain ⟨hus, hzc⟩ := zero_one hzu m
        have hzv : VR w (sta c L st.hp) L z (u.cells.getD 0 undef) := by
          have := (zrc_vrs (w := w) (S := sta c L st.hp) (L := L) (u := u)).2 0 z (by rw [← hzu]; rfl)
          simpa using this
        have := hvs.nl_eq
        subst this
        by_cases hm : m = 0
        · subst hm
          have hr := run_appz_zero (P := c.P) (w := w) (ty := ty) (k := kx) ht h2 hi none 0 0 (Nat.le_refl _)
          refine ⟨_, _, _, hr, h.phantom hF 1 0, .lv _ _ _ _ ⟨0, 0, 1⟩ _ _ (by simp [lset]) (Nat.le_refl _) (fun hp => absurd hp (by omega)) (by simp)⟩
        · have hnil : VRs w (sta c L st.hp) L [] [] := ⟨rfl, fun i y hy => by simp at hy⟩
          have hb : ¬ (281474976710656 < (m : Int) * (i.bytes : Int)) := by
            rw [hbi]
            have := Int.ofNat_le.2 hby
            rw [Int.natCast_mul] at this
            omega
          have hr := run_appz_out (P := c.P) (w := w) (ty := ty) (k := kx) ht h2 hi hu none 0 0 m [] hb (by rw [hsi]; omega) rfl (by omega) (by omega) (by rw [hbi, Nat.zero_add]; omega)
          rw [hzc] at hr
          obtain ⟨B, hR, hV⟩ := app_new h hF hi (by rw [hus, hsi]) (n := 0) (m := m) hnil (vrs_rep hzv m) (by simp) (by rw [hsi]; simp) 0
          simp only [Nat.zero_add, List.nil_append, hsi] at hR hV hr
          exact ⟨_, _, _, hr, hR, hV⟩
      · rename_i id off k
        split at he
        · cases he
        · rename_i o ho
          simp only [Option.some.injEq, Prod.mk.injEq] at he
          obtain ⟨rfl, rfl, rfl⟩ := he
          obtain ⟨hn0, hok, hz, hty, hby, hmx, rfl, hez, hol, hhw⟩ := hob
          obtain ⟨k2, h2⟩ := isIntT_spec hty
          obtain ⟨m, rfl⟩ := Int.eq_ofNat_of_zero_le hn0
          simp only [Int.toNat_natCast] at hby hmx ⊢
          have hsi : i.size = 1 := by simpa [siz, hi] using hz
          have hbi : i.bytes = byt c.P e := by simp [byt, hi]
          obtain ⟨hus, hzc⟩ := zero_one hzu m
          have hzv : VR w (sta c L st.hp) L z (u.cells.getD 0 undef) := by
            have := (zrc_vrs (w := w) (S := sta c L st.hp) (L := L) (u := u)).2 0 z (by rw [← hzu]; rfl)
            simpa using this
          have hnl : nid ≠ id := fun e => by
            obtain ⟨B, hB, _⟩ := h.hr.live id o ho
            rw [← e, h.fresh nid hF] at hB; cases hB
          obtain ⟨hl0, olds, holds, hrun0⟩ := src_spec h (x := .lv id 0 k) (sz := 1) (m := k) (cs := (o.cells.drop 0).take (k * 1)) (ob := o.esz = 1 ∧ 0 + k * 1 ≤ o.cells.length) hvs (by simp [src, ho]) ⟨hez, by omega⟩
          have hcs0 : (o.cells.drop 0).take (k * 1) = o.cells := by rw [← hol]; simp
          rw [hcs0] at holds hl0
          obtain ⟨B, hB, hBe, hlen, hreal⟩ := h.hr.live id o ho
          obtain ⟨A, cap, rfl, hcap, hA, hroom⟩ := hvs.lv_eq hB
          have hb : ¬ (281474976710656 < (m : Int) * (i.bytes : Int)) := by
            rw [hbi]
            have h1 : m * byt c.P e ≤ 140737488355328 := Nat.le_trans (Nat.mul_le_mul_right _ (Nat.le_add_left _ _)) hby
            have := Int.ofNat_le.2 h1
            rw [Int.natCast_mul] at this
            omega
          by_cases hfit : k + m ≤ cap
          · have hr : (Builtin.append_ #[t, t2] ty #[.slice A k cap, .int kx m]).run c.P w = appIn c.P w (k * i.size) (List.replicate m (u.cells.getD 0 undef)) (k + m) cap A := by
              by_cases hm : m = 0
              · subst hm
                exact run_appz_zero (P := c.P) (w := w) (ty := ty) (k := kx) ht h2 hi A k cap hfit
              · have := run_appz_in (P := c.P) (w := w) (ty := ty) (k := kx) ht h2 hi hu A k cap m (by omega) hb (by rw [hsi]; omega) hfit
                rw [hzc] at this
                exact this
            have hstore := app_store h ho hB hBe hez hol hhw (sz := 1) hcap hA hroom hfit (cs := List.replicate m z) (by simp) (vrs_rep hzv m) (okCells_one h (vrs_rep hzv m) (okF_cells (okF_rep hok m) st))
            rw [hsi] at hr
            obtain ⟨w', q1, q2⟩ := hstore
            rw [q1] at hr
            have q3 := q2.rename (id := id) hF (by rw [look_ins, if_pos rfl]) hB
            simp only [del_ins] at q3
            refine ⟨_, w', lset (lset L nid (some (some B))) id (some none), hr, ?_, ?_⟩
            · rw [← hez]; exact q3
            · refine .lv _ _ _ _ B _ _ (by simp [lset, hnl]) hfit hA hroom
          · have hm : ¬ m = 0 := fun e => hfit (by rw [e]; exact hcap)
            have hr := run_appz_out (P := c.P) (w := w) (ty := ty) (k := kx) ht h2 hi hu A k cap m olds hb (by rw [hsi]; omega) (by rw [hsi]; exact (hrun0 w.drew rfl).2) (by omega) (by omega) (by rw [hbi]; omega)
            rw [hzc] at hr
            obtain ⟨B', hR, hV⟩ := app_new h hF hi (by rw [hus, hsi]) (n := k) (m := m) holds (vrs_rep hzv m) (by rw [hsi]; exact hol) (by rw [hsi]; simp) cap
            have hlk : (look (ins st.hp nid ⟨o.cells ++ List.replicate m z, i.size, 0⟩) id).isSome = true := by rw [look_ins, if_neg hnl, ho]; rfl
            have hR2 := hR.gone id hlk
            have hR3 := Rel.same (del_ins_ne st.hp nid id ⟨o.cells ++ List.replicate m z, i.size, 0⟩ hnl) hR2
            have hR4 := hR3.lend (id := nid) (o := ⟨o.cells ++ List.replicate m z, i.size, 0⟩) (k := o.hw) (by rw [look_ins, if_pos rfl]) (Nat.zero_le _)
            simp only [ins_ins, hsi] at hR4
            refine ⟨_, _, _, hr, hR4, ?_⟩
            obtain ⟨A2, cap2, hv2, k0, k1, k2⟩ := hV.lv_eq (B := B') (by simp [lset])
            injection hv2 with hv2a hv2b hv2c
            subst hv2a hv2c
            exact .lv _ _ _ _ B' _ _ (by simp [lset, hnl]) k0 k1 k2
      · cases he
    · cases he
def Acts (c : Cx) (L : Lay) (F : Nat → Prop) (st : St) (a : Act) (w : World) (nid : Nat) (o : Oper) (r : AV) (up : List (Nat × Option Ob)) : Prop :=
  ∃ w' L', Rel c L' (fun j => F j ∧ j ≠ nid) (st.up up) a w' ∧
    ((∃ v, (execOp a.eval o).run c.P w = .ok (.value v) w' ∧ VR w' (sta c L' (st.up up).hp) L' r v) ∨ ((execOp a.eval o).run c.P w = .ok .skip w' ∧ r = .un))

theorem acts_alloc (h : Rel c L F st a w) {nid : Nat} (hF : F nid) {dst : Option Tmp} {t ty : TypeId} {pos : String} {aft : Array Edge} {gd : Option (Nat × Bool)} {r : AV} {up : List (Nat × Option Ob)} {ob : Prop}
    (he : aef c.P nid st (.alloc t) = some (r, up, ob)) : Acts c L F st a w nid ⟨dst, .alloc t, ty, pos, aft, gd⟩ r up := by
  simp only [aef] at he
  split at he
  · rename_i z hz
    simp only [Option.some.injEq, Prod.mk.injEq] at he
    obtain ⟨rfl, rfl, rfl⟩ := he
    obtain ⟨i, u, hi, hu, rfl⟩ := zrc_spec hz
    have hr := h.made hF (cs := u.cells.toList.map ofCell) (C := u.cells) (T := t) (esz := 1) (by
      have : u.cells.toList.take (u.cells.toList.map ofCell).length = u.cells.toList := List.take_of_length_le (by simp)
      rw [this]; exact zrc_vrs) (by simp)
    refine ⟨_, _, hr, .inl ⟨.pointer (some ⟨w.heap.size, 0, none⟩), ?_, .pt _ _ _ ⟨w.heap.size, _, 1⟩ (by simp [lset]; rfl)⟩⟩
    simp [execOp, Instr.alloc, zeroValue, typeInfo, hi, hu, newVar, newRow]
  · cases he
theorem acts_box (h : Rel c L F st a w) {nid : Nat} (hF : F nid) {dst : Option Tmp} {t ty : TypeId} {x : Operand} {pos : String} {aft : Array Edge} {gd : Option (Nat × Bool)} {r : AV} {up : List (Nat × Option Ob)} {ob : Prop}
    (he : aef c.P nid st (.box t x) = some (r, up, ob)) : Acts c L F st a w nid ⟨dst, .box t x, ty, pos, aft, gd⟩ r up := by
  simp only [aef] at he
  split at he
  · rename_i cs hc
    simp only [Option.some.injEq, Prod.mk.injEq] at he
    obtain ⟨rfl, rfl, rfl⟩ := he
    have hv := h.cel (h.ev x) hc
    have hr := h.made hF (cs := cs) (C := (a.eval x).cells) (T := t) (esz := 1) (by
      have : (a.eval x).cells.toList.take cs.length = (a.eval x).cells.toList := List.take_of_length_le (by rw [← hv.1]; exact Nat.le_refl _)
      rw [this]; exact hv) (by have := hv.1; simp at this; omega)
    refine ⟨_, _, hr, .inl ⟨.pointer (some ⟨w.heap.size, 0, none⟩), ?_, .pt _ _ _ ⟨w.heap.size, _, 1⟩ (by simp [lset]; rfl)⟩⟩
    simp [execOp, Instr.box, newVar, newRow]
  · cases he
theorem acts_buildSlice (h : Rel c L F st a w) {nid : Nat} (hF : F nid) {dst : Option Tmp} {t ty : TypeId} {n : Nat} {ps : Array (Nat × Operand)} {pos : String} {aft : Array Edge} {gd : Option (Nat × Bool)} {r : AV} {up : List (Nat × Option Ob)} {ob : Prop}
    (he : aef c.P nid st (.buildSlice t n ps) = some (r, up, ob)) (hob : ob) : Acts c L F st a w nid ⟨dst, .buildSlice t n ps, ty, pos, aft, gd⟩ r up := by
  simp only [aef] at he
  split at he
  · cases he
  · rename_i e helm
    split at he
    · rename_i l z hl hz
      split at he
      · rename_i cs hcs
        simp only [Option.some.injEq, Prod.mk.injEq] at he
        obtain ⟨rfl, rfl, rfl⟩ := he
        obtain ⟨hsz, hzl, hmx⟩ := hob
        obtain ⟨i, u, hi, hu, rfl⟩ := zrc_spec hz
        have hus : u.cells.size = siz c.P e := by rw [← hzl]; simp
        obtain ⟨e1, e2⟩ := cels_spec h _ _ hl
        have parts : ∀ (i k : Nat) (cs : List AV), l[i]? = some (k, cs) → ∃ v : Value, ((ps.map fun (i, x) => (i, a.eval x)).toList)[i]? = some (k, v) ∧ VRs w (sta c L st.hp) L cs v.cells.toList := by
          intro i k cs hi
          obtain ⟨x, hx, hr⟩ := e2 i k cs hi
          refine ⟨a.eval x, ?_, hr⟩
          simp only [Array.toList_map, List.getElem?_map, hx]
          rfl
        have hzero : VRs w (sta c L st.hp) L (List.replicate n (u.cells.toList.map ofCell)).flatten ((Array.range (n * siz c.P e)).map fun i => u.cells[i % u.cells.size]!).toList := by
          rw [← hus, flatten_range (P := c.P) u.cells n (by omega)]
          exact vrs_flatten zrc_vrs n
        obtain ⟨cv, hcv, hcvr⟩ := fill_spec _ (fun i => some (i * siz c.P e, siz c.P e)) (fun i p hp => by
          have hil := (List.getElem?_eq_some_iff.1 hp).1
          simp at hil
          simp [List.getElem?_range hil] at hp
          simp [hp]) l _ _ _ cs (by simp [e1]) parts hzero hcs
        have hcvs : cv.size = cs.length := by have := hcvr.1; simpa using this
        have hcl : cs.length = n * siz c.P e := by
          have key : ∀ (pl : List (Nat × Nat)) (l : List (Nat × List AV)) (z cs : List AV), afl pl z l = some cs → cs.length = z.length := by
            intro pl l
            induction l with
            | nil => intro z cs h; simp [afl] at h; rw [h]
            | cons q l ih =>
              intro z cs h
              obtain ⟨i, c'⟩ := q
              simp only [afl] at h
              split at h
              · cases h
              · split at h
                · rw [ih _ _ h, spl_length]
                · cases h
          rw [key _ _ _ _ hcs]
          simp [hus]
        have hr := h.made hF (cs := cs) (C := cv) (T := e) (esz := siz c.P e) (by
          have : cv.toList.take cs.length = cv.toList := List.take_of_length_le (by rw [← hcvs]; simp)
          rw [this]; exact hcvr) (by omega)
        refine ⟨_, _, hr, .inl ⟨.slice (some ⟨w.heap.size, 0, none⟩) n n, ?_, .lv _ _ _ _ ⟨w.heap.size, cv.size, siz c.P e⟩ _ _ (by simp [lset]) (Nat.le_refl _) (fun _ => rfl) (by simp; omega)⟩⟩
        have hmx' : ¬ (16777216 < n * siz c.P e) := by omega
        have pe : (ps.map fun (i, x) => (i, a.eval x)).toList = ps.toList.map fun x => (x.fst, a.eval x.snd) := by simp
        rw [pe] at hcv
        have fin : ∀ (cv : Array Value), (Sem.run c.P ((fun a => Value.slice (some { block := a, off := 0 }) n n) <$> newObj (Obj.cells cv e)) w).andThen (fun a w' => Result.ok (Next.value a) w') =
            Result.ok (Next.value (Value.slice (some { block := w.heap.size, off := 0 }) n n)) (w.alloc (Obj.cells cv e)) := fun cv => by
          rw [Sem.run_map]; rfl
        by_cases hn : n * siz c.P e = 0
        · have z0 : ∀ f : Nat → Value, (Array.range 0).map f = #[] := fun f => by simp [Array.range_zero']
          rw [hn, z0] at hcv
          simp [execOp, Instr.buildSlice, run_underlying (elm_spec helm), run_sizeOf' w hsz, hn, newRow]
          rw [z0, hcv]
          exact fin cv
        · simp [execOp, Instr.buildSlice, run_underlying (elm_spec helm), run_sizeOf' w hsz, hn, hmx', newRow, zeroValue, typeInfo, hi, hu]
          rw [hcv]
          exact fin cv
      · cases he
    · cases he
theorem acts_makeSlice (h : Rel c L F st a w) {nid : Nat} (hF : F nid) {dst : Option Tmp} {t ty : TypeId} {x y : Operand} {pos : String} {aft : Array Edge} {gd : Option (Nat × Bool)} {r : AV} {up : List (Nat × Option Ob)} {ob : Prop}
    (he : aef c.P nid st (.makeSlice t x y) = some (r, up, ob)) (hob : ob) : Acts c L F st a w nid ⟨dst, .makeSlice t x y, ty, pos, aft, gd⟩ r up := by
  simp only [aef] at he
  split at he
  · cases he
  · rename_i e helm
    split at he
    · rename_i z n m hz hn hm
      simp only [Option.some.injEq, Prod.mk.injEq] at he
      obtain ⟨rfl, rfl, rfl⟩ := he
      obtain ⟨hsz, h0, h1, h2, hb⟩ := hob
      obtain ⟨i, u, hi, hu, hzu⟩ := zrc_spec hz
      obtain ⟨kn, hkn⟩ := h.aint hn
      obtain ⟨km, hkm⟩ := h.aint hm
      have hsi : i.size = 1 := by simpa [siz, hi] using hsz
      have hbi : i.bytes ≤ 16777216 := by simpa [byt, hi] using hb
      have hbm : (i.bytes : Int) * m ≤ 281474976710656 := by
        have h1 : (i.bytes : Int) ≤ 16777216 := by omega
        calc (i.bytes : Int) * m ≤ 16777216 * 16777216 := Int.mul_le_mul h1 h2 (by omega) (by omega)
          _ ≤ _ := by decide
      have hrun := run_makeSlice (P := c.P) w t e i u (elm_spec helm) hi hu kn km n m h0 h1 (by rw [hsi]; omega) hbm (by omega)
      have hus : u.cells.size = 1 := by
        have := congrArg List.length hzu
        simpa using this.symm
      have hmc : ∀ j, j < m.toNat → (madeCells u.cells (m.toNat * i.size)).getD j undef = u.cells.getD 0 undef := by
        intro j hj
        have : j < m.toNat * i.size := by rw [hsi]; omega
        simp [madeCells, this, hus, Nat.mod_one]
      have hzv : VR w (sta c L st.hp) L z (u.cells.getD 0 undef) := by
        have := (zrc_vrs (w := w) (S := sta c L st.hp) (L := L) (u := u)).2 0 z (by rw [← hzu]; rfl)
        simpa using this
      have hr := h.newObj (T := e) (fr := (0, 0)) (esz := 1) hF (C := madeCells u.cells (m.toNat * i.size)) (cs := List.replicate n.toNat z) rfl (by simp [size_madeCells, hsi]; omega) (.inl rfl) (fun j q hj => by
        have hjl := (List.getElem?_eq_some_iff.1 hj).1
        simp at hjl
        simp [hjl] at hj
        subst hj
        rw [hmc j (by omega)]
        exact hzv)
      refine ⟨_, _, hr, .inl ⟨.slice (some ⟨w.heap.size, 0, none⟩) n.toNat m.toNat, ?_, .lv _ _ _ _ ⟨w.heap.size, _, 1⟩ _ _ (by simp [lset]; rfl) (by omega) (fun _ => rfl) (by simp [size_madeCells, hsi])⟩⟩
      simp only [execOp, hkn, hkm, Sem.run_bind]
      rw [hrun]
      rfl
    · cases he
theorem acts_store (h : Rel c L F st a w) {nid : Nat} {dst : Option Tmp} {t ty : TypeId} {x y : Operand} {pos : String} {aft : Array Edge} {gd : Option (Nat × Bool)} {r : AV} {up : List (Nat × Option Ob)} {ob : Prop}
    (he : aef c.P nid st (.store t x y) = some (r, up, ob)) (hob : ob) : Acts c L F st a w nid ⟨dst, .store t x y, ty, pos, aft, gd⟩ r up := by
  simp only [aef] at he
  split at he
  · rename_i id off cs hst hc
    split at he
    · rename_i o ho
      simp only [Option.some.injEq, Prod.mk.injEq] at he
      obtain ⟨rfl, rfl, rfl⟩ := he
      obtain ⟨hsz, hcl, hhw, hoff, hok⟩ := hob
      have hx := h.ev x
      rw [hst] at hx
      obtain ⟨B, hB, hBe, hlen, _⟩ := h.hr.live id o ho
      have hxe := hx.pt_eq hB
      have hv := h.cel (h.ev y) hc
      obtain ⟨w', q1, q2⟩ := Rel.stores (c := c) (F := F) (a := a) id B hB off cs (a.eval y).cells.toList 0 o st w h ho (by omega) (by omega) (by omega) hv (okCells_one h hv hok)
      rw [Nat.add_zero, ovl_spl _ _ _ hoff] at q2
      refine ⟨w', L, q2.mono (fun j hj => hj.1), .inr ⟨?_, rfl⟩⟩
      have hvs : (a.eval y).cells.size = siz c.P t := by have := hv.1; simp at this; omega
      simp only [execOp, hxe, Instr.storeAt, Instr.sureAddr, Sem.run_bind, Sem.run_pure, Result.andThen_ok, storeVar, run_sizeOf' w hsz, hvs]
      simp [q1]
    · cases he
  · cases he
theorem acts_append (h : Rel c L F st a w) {nid : Nat} (hF : F nid) {dst : Option Tmp} {args : Array Operand} {argTypes : Array TypeId} {ty : TypeId} {pos : String} {aft : Array Edge} {gd : Option (Nat × Bool)} {r : AV} {up : List (Nat × Option Ob)} {ob : Prop}
    (he : aef c.P nid st (.call { callee := .builtin .append, args, argTypes }) = some (r, up, ob)) (hob : ob) : Acts c L F st a w nid ⟨dst, .call { callee := .builtin .append, args, argTypes }, ty, pos, aft, gd⟩ r up := by
  simp only [aef] at he
  split at he
  · rename_i s x t t2 ha ht
    have hae : args.map a.eval = #[a.eval s, a.eval x] := by apply Array.ext'; simp [ha]
    have hte : argTypes = #[t, t2] := by apply Array.ext'; simp [ht]
    have hq : ∃ v w' L', (Builtin.append_ #[t, t2] ty #[a.eval s, a.eval x]).run c.P w = .ok v w' ∧ Rel c L' (fun j => F j ∧ j ≠ nid) (st.up up) a w' ∧ VR w' (sta c L' (st.up up).hp) L' r v := by
      cases h1 : aap c.P nid st t t2 (st.ev s) (st.ev x) with
      | some y => rw [h1] at he; exact append_spec h hF (ty := ty) (h.ev s) (h.ev x) (h1.trans he) hob
      | none => rw [h1] at he; exact append_specZ h hF (ty := ty) (h.ev s) (h.ev x) he hob
    obtain ⟨v, w', L', q1, q2, q3⟩ := hq
    refine ⟨w', L', q2, .inl ⟨v, ?_, q3⟩⟩
    simp only [execOp, resolve, Sem.run_bind, Sem.run_pure, Result.andThen_ok, invoke, builtin, hae, hte]
    rw [q1]
    rfl
  · cases he

theorem acts_appendR (h : Rel c L F st a w) {nid : Nat} (hF : F nid) {dst : Option Tmp} {args : Array Operand} {argTypes : Array TypeId} {ty : TypeId} {pos : String} {aft : Array Edge} {gd : Option (Nat × Bool)} {s x : Operand} {t t2 : TypeId} (ha : args.toList = [s, x]) (ht : argTypes.toList = [t, t2])
    {r : AV} {up : List (Nat × Option Ob)} {ob : Prop} (he : aapR c.P nid st t t2 (st.ev s) (st.ev x) = some (r, up, ob)) (hob : ob) : Acts c L F st a w nid ⟨dst, .call { callee := .builtin .append, args, argTypes }, ty, pos, aft, gd⟩ r up := by
  have hae : args.map a.eval = #[a.eval s, a.eval x] := by apply Array.ext'; simp [ha]
  have hte : argTypes = #[t, t2] := by apply Array.ext'; simp [ht]
  obtain ⟨v, w', L', q1, q2, q3⟩ := append_specR h hF (ty := ty) (h.ev s) (h.ev x) he hob
  refine ⟨w', L', q2, .inl ⟨v, ?_, q3⟩⟩
  simp only [execOp, resolve, Sem.run_bind, Sem.run_pure, Result.andThen_ok, invoke, builtin, hae, hte]
  rw [q1]
  rfl
theorem acts_cut3 (h : Rel c L F st a w) {nid : Nat} (hF : F nid) {dst : Option Tmp} {t ty : TypeId} {x : Operand} {lo hi mx : Option Operand} {pos : String} {aft : Array Edge} {gd : Option (Nat × Bool)} {r : AV} {up : List (Nat × Option Ob)} {ob : Prop}
    (he : aef c.P nid st (.slice t x lo hi mx) = some (r, up, ob)) (hob : ob) : Acts c L F st a w nid ⟨dst, .slice t x lo hi mx, ty, pos, aft, gd⟩ r up := by
  cases mx with
  | none => simp [aef] at he
  | some mx =>
    simp only [aef] at he
    split at he
    · rename_i n cells e hst helm
      split at he
      · rename_i l hh m hl hhi hmx
        by_cases hlh : l = hh
        rotate_left
        · rw [if_neg hlh] at he
          simp only [Option.some.injEq, Prod.mk.injEq] at he
          obtain ⟨rfl, rfl, rfl⟩ := he
          obtain ⟨hz, rfl, h0, rfl, h3, h4⟩ := hob
          have hx := h.ev x
          rw [hst] at hx
          obtain ⟨A, cp, hxe, hcap, hA⟩ := hx.fz_eq
          obtain ⟨km, hkm⟩ := h.aint hmx
          obtain ⟨hi', rfl⟩ := Option.isSome_iff_exists.1 h4
          obtain ⟨kh, hkh⟩ := h.aint (x := hi') hhi
          have bl := abd_spec h hl (Int.le_refl _)
          have hb := run_bounds (P := c.P) w true n cp (lo.map a.eval) (some (a.eval hi')) (some (a.eval mx)) (0 : Int).toNat hh.toNat hh.toNat bl (.inr ⟨kh, by rw [hkh]; congr 2; omega⟩) (.inr ⟨km, by rw [hkm]; congr 2; omega⟩) (by omega) (Nat.le_refl _) (by omega)
          rcases hA with ⟨_, hn0⟩ | ⟨b, o, g, rfl, hc1, hc2⟩
          · omega
          · refine ⟨w, L, h.mono (fun j hj => hj.1), .inl ⟨.slice (some ⟨b, o, none⟩) hh.toNat hh.toNat, ?_, .fq _ _ _ _ _ g (fun i hi => hc1 i ?_) (fun i y hy => hc2 i y ?_)⟩⟩
            · have hne : ¬ hh.toNat = 0 := by omega
              simp [execOp, hxe, Instr.sliceAt, Instr.slice, run_underlying (elm_spec helm), hb, run_sizeOf' w hz, hne, Addr.add]
            · rw [List.length_take] at hi; omega
            · rw [List.getElem?_take] at hy
              split at hy
              · exact hy
              · cases hy
        rw [if_pos hlh] at he
        simp only [Option.some.injEq, Prod.mk.injEq] at he
        obtain ⟨rfl, rfl, rfl⟩ := he
        obtain ⟨hz, h0, rfl, rfl, h3, h4⟩ := hob
        have hx := h.ev x
        rw [hst] at hx
        obtain ⟨A, cp, hxe, hcap, _⟩ := hx.fz_eq
        obtain ⟨km, hkm⟩ := h.aint hmx
        obtain ⟨hi', rfl⟩ := Option.isSome_iff_exists.1 h4
        obtain ⟨kh, hkh⟩ := h.aint (x := hi') hhi
        have bl := abd_spec h hl h0
        have hb := run_bounds (P := c.P) w true n cp (lo.map a.eval) (some (a.eval hi')) (some (a.eval mx)) l.toNat l.toNat l.toNat bl (.inr ⟨kh, by rw [hkh]; congr 2; omega⟩) (.inr ⟨km, by rw [hkm]; congr 2; omega⟩) (Nat.le_refl _) (Nat.le_refl _) (by omega)
        refine ⟨w, _, h.phantom hF (siz c.P e) 0, .inl ⟨.slice A 0 0, ?_, .lv _ _ _ _ ⟨0, 0, siz c.P e⟩ _ _ (by simp [lset]) (Nat.le_refl _) (fun hp => absurd hp (by omega)) (by simp)⟩⟩
        simp [execOp, hxe, Instr.sliceAt, Instr.slice, run_underlying (elm_spec helm), hb, run_sizeOf' w hz]
      · cases he
    · cases he
theorem acts_mark (h : Rel c L F st a w) {nid : Nat} {dst : Option Tmp} {s d ty : TypeId} {x : Operand} {pos : String} {aft : Array Edge} {gd : Option (Nat × Bool)} {r : AV} {up : List (Nat × Option Ob)} {ob : Prop}
    (he : aef c.P nid st (.convert s d x) = some (r, up, ob)) (hob : ob) : Acts c L F st a w nid ⟨dst, .convert s d x, ty, pos, aft, gd⟩ r up := by
  simp only [aef] at he
  split at he
  · rename_i id off n hst
    split at he
    · rename_i o ho
      simp only [Option.some.injEq, Prod.mk.injEq] at he
      obtain ⟨rfl, rfl, rfl⟩ := he
      obtain ⟨rfl, hn, hez, e, he1, he2⟩ := hob
      have hx := h.ev x
      rw [hst] at hx
      obtain ⟨B, hB, hBe, hlen, hreal⟩ := h.hr.live id o ho
      obtain ⟨A, cap, hxe, hcap, hA, hroom⟩ := hx.lv_eq hB
      have hcap0 : 0 < cap := Nat.lt_of_lt_of_le (Nat.pos_of_ne_zero hn) hcap
      have hA' := hA hcap0
      subst hA'
      have hcp : 0 < cap * B.esz := Nat.mul_pos hcap0 (by rw [hBe]; exact hez)
      have hBz : B.size ≠ 0 := by clear hreal; omega
      obtain ⟨C, T, fr, e5, e6, e7, e8⟩ := hreal hBz
      clear hreal
      obtain ⟨fr', hfr, hok⟩ : ∃ fr' : Nat × Nat, (w.freeze ⟨B.block, C.size, none⟩ 1).heap[B.block]? = some (.cells C T fr') ∧ (fr'.1 = fr'.2 ∨ B.size ≤ fr'.1) := by
        obtain ⟨lo, hi⟩ := fr
        refine ⟨if lo == hi then (C.size, C.size + 1) else (min lo C.size, max hi (C.size + 1)), ?_, ?_⟩
        · simp only [World.freeze, Nat.one_ne_zero, if_false, Array.getElem?_modify, if_true, e5]
          rfl
        · by_cases hlh : lo = hi
          · simp [hlh, e6]
          · have hb : (lo == hi) = false := by simpa using hlh
            rw [hb]
            rcases e7 with e7 | e7
            · exact absurd e7 hlh
            · right
              have e7' : B.size ≤ lo := e7
              show B.size ≤ min lo C.size
              omega
      have hoth : ∀ k, k ≠ B.block → (w.freeze ⟨B.block, C.size, none⟩ 1).heap[k]? = w.heap[k]? := by
        intro k hk
        simp only [World.freeze, Nat.one_ne_zero, if_false, Array.getElem?_modify]
        rw [if_neg (Ne.symm hk)]
      have hcell : ∀ b i, (w.freeze ⟨B.block, C.size, none⟩ 1).cell? ⟨b, i, none⟩ = w.cell? ⟨b, i, none⟩ := by
        intro b i
        by_cases hb : b = B.block
        · subst hb
          simp [World.cell?, hfr, e5]
        · simp only [World.cell?, hoth b hb]
      have hM : NcK w (w.freeze ⟨B.block, C.size, none⟩ 1) := .of_one e5 (fun k _ hk => hoth k hk)
      have hS : ∀ b i u, sta c L st.hp b i → w.cell? ⟨b, i, none⟩ = some u → sta c L st.hp b i ∧ (w.freeze ⟨B.block, C.size, none⟩ 1).cell? ⟨b, i, none⟩ = some u :=
        fun b i u hs hu => ⟨hs, by rw [hcell]; exact hu⟩
      have hL : ∀ q y, L q = some y → L q = some y ∨ L q = some none := fun _ _ hy => .inl hy
      have hR : Rel c L F st a (w.freeze ⟨B.block, C.size, none⟩ 1) := by
        refine h.change hL hS h.fresh ⟨fun j p hp => ?_, h.hr.dead, h.hr.inj, h.hr.mine, h.hr.kept, ?_⟩
        · obtain ⟨Bj, d1, d2, d3, d4⟩ := h.hr.live j p hp
          refine ⟨Bj, d1, d2, d3, fun hz => ?_⟩
          obtain ⟨C', T', fr2, d5, d6, d7, d8⟩ := d4 hz
          by_cases hb : Bj.block = B.block
          · have hid := h.hr.inj j id Bj B d1 hB hz hBz hb
            subst hid
            rw [hB] at d1
            injection d1 with d1
            injection d1 with d1
            subst d1
            rw [e5] at d5
            injection d5 with d5
            injection d5 with d51 d52 d53
            subst d51
            exact ⟨C, T, fr', hfr, d6, hok, fun i y hy => (d8 i y hy).move hS hL⟩
          · exact ⟨C', T', fr2, by rw [hoth _ hb]; exact d5, d6, d7, fun i y hy => (d8 i y hy).move hS hL⟩
        · refine h.hr.upd.trans ?_ ?_ ?_ ?_ (fun k hk hI => hoth k fun e => ?_)
          · simp [World.freeze]
          · simp [World.freeze]
          · simp [World.freeze]
          · simp [World.freeze]
          · subst e
            rcases h.hr.mine id B hB hBz with hm | hm
            · exact hI hm
            · omega
      have hsh : w.shape? B.block = some (T, C.size) := by simp [World.shape?, e5]
      refine ⟨_, L, (hR.mono (fun j hj => hj.1)), .inl ⟨a.eval x, ?_, by rw [hxe]; exact .lv _ _ _ _ B _ _ hB hcap (fun _ => rfl) hroom⟩⟩
      rw [hxe]
      simp [execOp, hxe, convert, run_underlying (elm_spec he1), run_underlying (ikd_spec he2), markStringish, shape, freeze, Sem.run, hsh]
    · cases he
  · cases he
end
end Go.Sim
