import Derived.Test.YtbmdahhhgpbchaaMpA
import Derived.Test.YtbmdahhhgpbchaaRbA
import Derived.Test.YtbmdahhhgpbchaaProg
import Derived.Below
import Derived.Carry
import Derived.WalkKit
import Derived.KernelRfl
import Derived.RowKit3
import Derived.Outline
import Derived.Laws.Cover2
import Derived.Laws.Cover3
import Derived.Laws.ComplexArith
import Derived.WalkLawsBesides
import Derived.Deep.LoopGhost
import Derived.Deep.RegionHeld3
import Derived.Deep.Draws
import Derived.Deep.AppendLies
import Derived.Maps.AppendAt
import Derived.OwnWalk
import Derived.Laws.BytesArg
import Derived.Laws.MakeOwn
import Derived.Laws.OwnMore
import Derived.Deep.OwnRows
import Derived.Tactics
import Derived.Lib.ConvBytes
import Derived.Laws.Slices
import Derived.Deep.QuietTactic
import Derived.BigQuiet
import Derived.WideLaws
import Derived.Deep.DeepCutAuto
import Derived.Deep.CutBlock
import Derived.Laws.Rows
import Derived.Lib.AppendStr
import Derived.ArgAppend
import Derived.Laws.IdiomCopy
import Derived.RowKit
namespace Go.Proofs.Ytbmdahhhgpbchaa.MpB
open Go Go.Sim Go.RowKit Go.Maps Go.Proofs Go.Proofs.Ytbmdahhhgpbchaa.RbA Go.Proofs.Ytbmdahhhgpbchaa.Bse
set_option linter.unusedVariables false
set_option linter.unusedSimpArgs false
set_option maxRecDepth 100000
theorem zv62 (w : World) : (zeroValue 62).run Try.prog w = .ok (.slice none 0 0) w := by kernel_rfl
theorem grownBy_trans {a b c : World} {r1 r2 : Option Nat} {row : Option Nat} (h : a.grownBy b r1) (k : b.grownBy c r2) (h1 : ∀ j, j < a.heap.size → some j ≠ row → some j ≠ r1) (h2 : ∀ j, j < a.heap.size → some j ≠ row → some j ≠ r2) : a.grownBy c row :=
  ⟨k.os.trans h.os, k.tape.trans h.tape, k.output.trans h.output, Nat.le_trans h.size k.size, fun j hj hne => (k.block j (Nat.lt_of_lt_of_le hj h.size) (h2 j hj hne)).trans (h.block j hj (h1 j hj hne))⟩
theorem mpl_same {es es' : Array MapEntry} {ck ck' : Nat} {l l' : List (Int × Value)} (h : MpL es ck l) (h' : MpL es' ck' l') (hm : ∀ p, p ∈ l ↔ p ∈ l') : MpL es ck l' :=
  ⟨h.st, h'.nd, fun e he => by obtain ⟨p, hp, e1, e2⟩ := h.fwd e he; exact ⟨p, (hm p).1 hp, e1, e2⟩, fun p hp => h.bwd p ((hm p).2 hp)⟩
theorem copy_nil (r : Nat) (w : World) (hr : mapL w r []) : Calls Try.prog 98 #[.map (some r), .map none] w fun e w' => e = .returned (.tuple #[]) ∧ mapL w' r [] ∧ w.grownBy w' (some r) := by
  have hrg := run_range_nilMap (P := Try.prog) w 40 2 62 Try.underlying40
  have hnx : ∀ ty, (Instr.next (.pointer (some ⟨w.heap.size, 0, none⟩)) false ty).run Try.prog (w.alloc (.mapIter none 0 #[] 0)) = _ := fun ty => run_next_nilMap _ ty 0 0 #[]
  go_enter Try.func98, Try.ntmps98
  go_wp2
  refine wp_loop_rounds 1 ?_
  rw [rounds_succ]
  go_wp2
  go_end0
  exact ⟨rfl, hr.kept (World.grownBy_alloc w _ none) (by simp), (World.grownBy_alloc w _ none).but _⟩
theorem came_fresh {es : Array MapEntry} {ck : Nat} {seen : Array Nat} {l l1 : List (Int × Value)} {e : MapEntry} {k : Int} {v : Value} (hM : MpL es ck l) (h : Came es seen l l1) (c : Come es seen l e k v) : k ∉ l1.map (·.1) := by
  intro hk
  obtain ⟨p, hp, rfl⟩ := List.mem_map.1 hk
  obtain ⟨_, e', he', hse', hek'⟩ := (h p).1 hp
  have : e = e' := by
    obtain ⟨i, hi⟩ := List.mem_iff_getElem?.1 c.mem
    obtain ⟨j, hj⟩ := List.mem_iff_getElem?.1 he'
    have a1 : (es.toList.map (·.key))[i]? = some (.int .i64 p.1) := by rw [List.getElem?_map, hi, ← c.key]; rfl
    have a2 : (es.toList.map (·.key))[j]? = some (.int .i64 p.1) := by rw [List.getElem?_map, hj, ← hek']; rfl
    have := (List.getElem?_inj (List.getElem?_eq_some_iff.1 a1).1 hM.st.2.2).1 (a1.trans a2.symm)
    subst this
    rw [hi] at hj
    injection hj
  subst this
  rw [c.new] at hse'
  cases hse'
theorem came_step {es : Array MapEntry} {ck : Nat} {seen : Array Nat} {l l1 : List (Int × Value)} {e : MapEntry} {k : Int} {v : Value} (hM : MpL es ck l) (h : Came es seen l l1) (c : Come es seen l e k v) : Came es (seen.push e.born) l (l1 ++ [(k, v)]) := by
  intro p
  rw [List.mem_append, h p, List.mem_singleton]
  constructor
  · rintro (⟨h1, e', h2, h3, h4⟩ | rfl)
    · exact ⟨h1, e', h2, by rw [Array.contains_push, h3]; rfl, h4⟩
    · exact ⟨c.inl, e, c.mem, by rw [Array.contains_push]; simp, c.key⟩
  · rintro ⟨h1, e', h2, h3, h4⟩
    rw [Array.contains_push, Bool.or_eq_true] at h3
    rcases h3 with h3 | h3
    · exact .inl ⟨h1, e', h2, h3, h4⟩
    · right
      have hbn : e'.born = e.born := by simpa using h3
      have : e' = e := by
        obtain ⟨i, hi⟩ := List.mem_iff_getElem?.1 c.mem
        obtain ⟨j, hj⟩ := List.mem_iff_getElem?.1 h2
        have a1 : (es.toList.map (·.born))[i]? = some e.born := by rw [List.getElem?_map, hi]; rfl
        have a2 : (es.toList.map (·.born))[j]? = some e.born := by rw [List.getElem?_map, hj, ← hbn]; rfl
        have := (List.getElem?_inj (List.getElem?_eq_some_iff.1 a1).1 hM.st.2.1).1 (a1.trans a2.symm)
        subst this
        rw [hi] at hj
        injection hj with hj
        exact hj.symm
      subst this
      rw [c.key] at h4
      injection h4 with _ h4
      have g1 := lget_mem hM.nd h1
      have g2 := lget_mem hM.nd c.inl
      simp only at g1 g2
      rw [← h4, g2] at g1
      injection g1 with g1
      exact Prod.ext h4.symm g1.symm
theorem came_done {es : Array MapEntry} {ck : Nat} {seen : Array Nat} {l l1 : List (Int × Value)} (hM : MpL es ck l) (h : Came es seen l l1) (hall : AllCome es seen) : ∀ p, p ∈ l1 ↔ p ∈ l := fun p => ⟨fun hp => ((h p).1 hp).1, fun hp => (h p).2 ⟨hp, by
  obtain ⟨e, he, e1, _⟩ := hM.bwd p hp
  exact ⟨e, he, hall e he, e1⟩⟩⟩
theorem came_start (es : Array MapEntry) (l : List (Int × Value)) : Came es #[] l [] := fun p => by simp
theorem copy_some (r b : Nat) (l : List (Int × Value)) (w : World) (hr : mapL w r []) (hb : mapL w b l) (hne : r ≠ b) : Calls Try.prog 98 #[.map (some r), .map (some b)] w fun e w' => e = .returned (.tuple #[]) ∧ mapL w' r l ∧ w.grownBy w' (some r) := by
  have hbl := hb.lt
  have hrl := hr.lt
  obtain ⟨es, ck, hb0, hM⟩ := id hb
  go_enter Try.func98, Try.ntmps98
  go_wp2_with (first
    | (at_range; refine wpList_range_mp _ rfl _ _ rfl 2 62 Try.underlying40 b es ck rfl hb0 ?_; intro w0 hrg0 hg0 hs0)
    | go_in)
  go_frame
  go_loopw [4] (fun _ wr => ∃ (seen : Array Nat) (l1 : List (Int × Value)), Ranges wr b w.heap.size es ck seen ∧ mapL wr r l1 ∧
      Came es seen l l1 ∧ w.grownBy wr (some r))
    (fun _ wr => wr.rangeLeft b w.heap.size)
  case atStart =>
    exact ⟨#[], [], hrg0, hr.kept hg0 (by simp), came_start es l, hg0.but _⟩
  case round =>
    obtain ⟨seen, l1, hrg, hl1, hmem, hgw⟩ := hrel
    go_wp2_with (first
      | (at_next; refine wpList_next_mp _ rfl _ rfl b w.heap.size es ck seen l rfl hrg hM (by omega) ?_ ?_)
      | go_in)
    · intro hall
      go_wp2
      go_end0
      obtain ⟨es1, ck1, h1, hM1⟩ := hl1
      exact ⟨rfl, ⟨es1, ck1, h1, mpl_same hM1 hM (came_done hM hmem hall)⟩, hgw⟩
    · intro k v e w1 hcome hrg1 hlt hg1 hs1 hen
      have hl1' := hl1.kept hg1 (by simp; omega)
      have hnk := came_fresh hM hmem hcome
      go_wp2_with (first
        | (at_mapUpdate; refine wpList_update_mp _ rfl _ _ _ _ rfl 2 62 Try.underlying40 Try.underlying2 r l1 rfl hl1' k _ _ rfl rfl rfl hnk ?_; intro w2 hl2 hg2 hs2; go_frame)
        | go_in)
      have hrg2 := hrg1.kept hg2 (by simp; omega) (by simp; omega)
      go_roundw
      case rel =>
        exact ⟨_, _, hrg2, hl2, came_step hM hmem hcome, grownBy_trans (grownBy_trans (row := some r) hgw hg1 (fun j _ h => h) (fun j hj h e => by injection e with e; omega)) hg2 (fun j _ h => h) (fun j hj h e => by injection e with e; subst e; exact h rfl)⟩
      case measure => rw [hrg2.left, ← hrg1.left]; exact hlt
theorem info5 : (Try.prog.info? 5).map (fun i => (i.zero, i.size, i.bytes)) = some (some (.int .u8 0), 1, 1) := by kernel_rfl
theorem nil62 (W : World) (A : Option Addr) (n c : Nat) : (binOp .eql 62 (.slice A n c) (.slice none 0 0)).run Try.prog W = .ok (.bool A.isNone) W := Lib.run_eql_slice_nil W 62 5 A n c 0 0 Try.underlying62
theorem add_pl (b o j : Nat) : (⟨b, o, none⟩ : Addr).add j = ⟨b, o + j, none⟩ := by
  unfold Addr.add
  by_cases h : j = 0 <;> simp [h]
abbrev nu (d : List Int) : List Value := d.map (Value.int .u8)
/-- Bytes that can be read somewhere. -/
def Rd (w : World) (b o : Nat) (d : List Int) : Prop := ∀ i, i < d.length → w.cell? ⟨b, o + i, none⟩ = some (.int .u8 (d.getD i 0))
theorem Rd.news {w : World} {b o : Nat} {d : List Int} (h : Rd w b o d) : ∀ j u, (nu d)[j]? = some u → w.cell? ((⟨b, o, none⟩ : Addr).add j) = some u := by
  intro j u hu
  rw [List.getElem?_map] at hu
  obtain ⟨x, hx, rfl⟩ := Option.map_eq_some_iff.1 hu
  have hj := (List.getElem?_eq_some_iff.1 hx).1
  rw [add_pl, h j hj, List.getD_eq_getElem?_getD, hx]
  rfl
theorem Rd.mono {w w' : World} {b o : Nat} {d : List Int} (h : Rd w b o d) (hb : w'.heap[b]? = w.heap[b]?) : Rd w' b o d := fun i hi => by
  rw [← h i hi]
  simp [World.cell?, hb]
theorem Rd.lt {w : World} {b o : Nat} {d : List Int} (h : Rd w b o d) (h0 : 0 < d.length) : b < w.heap.size := by
  have := h 0 h0
  simp only [World.cell?] at this
  rcases Nat.lt_or_ge b w.heap.size with hl | hl
  · exact hl
  · rw [Array.getElem?_eq_none hl] at this
    cases this
theorem wpList_app {ops : Array Oper} {rest : List Oper} {o : Oper} {a : Act} {Q : Exit → Act → World → Prop} (w : World) (hg : o.guard = none) (s x : Operand) (hop : o.op = Op.call { callee := Callee.builtin Builtin.append, args := #[s, x], argTypes := #[62, 62] })
    (base : Nat) (v : Value) (n : Nat) (xs : List Value) (b of c : Nat) (d : List Int) (hs : a.eval s = v) (hx : a.eval x = .slice (some ⟨b, of, none⟩) d.length c) (hown : w.ownsRow base 5 1 v n xs) (hr : Rd w b of d) (hn : n + d.length ≤ 1000000000) (hbase : base ≤ w.heap.size)
    (hK : ∀ v' w', w'.ownsRow base 5 1 v' (n + d.length) (xs ++ nu d) → w.grownBy w' v.ownBlock → (v'.ownBlock = v.ownBlock ∨ v'.ownBlock = some w.heap.size) → wpList Try.prog ops Q rest (a.put o.dst v') w') : wpList Try.prog ops Q (o :: rest) a w := by
  refine wpList_plain hg fun K' hK' => ?_
  obtain ⟨i0, hi, hz0, hz1, hz2⟩ := info_parts info5
  obtain ⟨v', w', hrun, h1, h2, _, h3⟩ := run_append_own_at (P := Try.prog) w base 62 o.type 5 i0 (.int .u8 0) 1 1 Try.underlying62 hi hz0 hz1 hz2 rfl (by decide) v n xs hown ⟨b, of, none⟩ d.length c (nu d) (by simp) hr.news (by intro u hu; simp at hu; obtain ⟨y, _, rfl⟩ := hu; rfl) (by unfold maxLen; omega) (by omega) hbase
  unfold Oper.wp
  simp [execOp, hop, resolve, invoke, builtin, hs, hx, hrun, Result.andThen]
  exact hK' _ _ (hK v' w' h1 h2 h3)
theorem clone_calls (w : World) (b o c : Nat) (d : List Int) (h0 : 0 < d.length) (h1 : d.length ≤ 100000) (hc : Rd w b o d) :
    Calls Try.prog 68 #[.slice (some ⟨b, o, none⟩) d.length c] w fun e w' => ∃ v', e = .returned v' ∧ w'.ownsRow w.heap.size 5 1 v' d.length (nu d) ∧ Below w.heap.size w w' := by
  have hq := nil62
  have hlt := hc.lt h0
  go_enter Try.func68, Try.ntmps68
  go_wp2_with (first
    | (at_builtin; refine wpList_app _ rfl _ _ rfl w.heap.size _ 0 [] b o c d rfl rfl ?own (hc.mono ?_) (by omega) ?_ ?_)
    | go_in)
  · exact ⟨rfl, .inr ⟨w.heap.size, 0, #[], rfl, Nat.le_refl _, (MapKept.heap_alloc w _).1, Nat.le_refl _, by decide, rfl, rfl⟩⟩
  · exact (MapKept.heap_alloc w _).2 b hlt
  · simp
  · intro v' w' hown hg hb
    go_wp2
    go_ret
    exact ⟨_, rfl, by simpa using hown, ((Below.refl _ _).alloc (Nat.le_refl _) _).grown hg (by simp) (fun j hj => by simp [Value.ownBlock] at hj; omega)⟩
/-! ### the held segments -/
/-- A slice that reads as some bytes (at least one). -/
def RB (w : World) (T : Nat → Nat → Prop) (d : List Int) (v : Value) : Prop :=
  ∃ b o c, v = .slice (some ⟨b, o, none⟩) d.length c ∧ d.length ≤ c ∧ 0 < d.length ∧ ∀ i, i < d.length → T b (o + i) ∧ w.cell? ⟨b, o + i, none⟩ = some (.int .u8 (d.getD i 0))
theorem len_le : ∀ {a b : List Int}, a.Nodup → (∀ x ∈ a, x ∈ b) → a.length ≤ b.length
  | [], b, _, _ => Nat.zero_le _
  | x :: a, b, ha, h => by
    obtain ⟨h1, h2⟩ := List.nodup_cons.1 ha
    have hx := h x (List.mem_cons_self ..)
    have := len_le (b := b.erase x) h2 (fun y hy => (List.mem_erase_of_ne (fun e => h1 (by rw [← e]; exact hy))).2 (h y (List.mem_cons_of_mem _ hy)))
    rw [List.length_erase_of_mem hx] at this
    have := List.length_pos_of_mem hx
    simp only [List.length_cons]
    omega
def keyI : Value → Int | .int _ n => n | _ => 0
theorem mpl_size {es : Array MapEntry} {ck : Nat} {l : List (Int × Value)} (h : MpL es ck l) : es.size = l.length := by
  have e1 : es.toList.map (fun e => e.key) = (es.toList.map fun e => keyI e.key).map (Value.int .i64) := by
    rw [List.map_map]
    refine List.map_congr_left fun e he => ?_
    obtain ⟨p, _, e1, _⟩ := h.fwd e he
    simp [e1, keyI]
  have n1 : (es.toList.map fun e => keyI e.key).Nodup := by
    have := h.st.2.2
    rw [e1] at this
    simp only [List.Nodup, List.pairwise_map] at this ⊢
    exact this.imp (fun h e => h (by rw [e]))
  have a := len_le n1 (b := l.map (·.1)) (fun x hx => by
    obtain ⟨e, he, rfl⟩ := List.mem_map.1 hx
    obtain ⟨p, hp, e1, _⟩ := h.fwd e he
    rw [e1]
    exact List.mem_map_of_mem hp)
  have b := len_le h.nd (b := es.toList.map fun e => keyI e.key) (fun x hx => by
    obtain ⟨p, hp, rfl⟩ := List.mem_map.1 hx
    obtain ⟨e, he, e1, _⟩ := h.bwd p hp
    exact List.mem_map.2 ⟨e, he, by rw [e1]; rfl⟩)
  simp only [List.length_map, Array.length_toList] at a b
  omega
def mapSz (w : World) (r : Nat) : Nat := match w.heap[r]? with | some (.map es _) => es.size | _ => 0
theorem mapSz_eq {w : World} {r : Nat} {l : List (Int × Value)} (h : mapL w r l) : mapSz w r = l.length := by
  obtain ⟨es, ck, hb, hM⟩ := h
  simp only [mapSz, hb]
  exact mpl_size hM
abbrev Sgs := List (Int × List Int)
def hget (H : Sgs) (k : Int) : Option (List Int) := (H.find? (fun p => p.1 == k)).map (·.2)
def hdel (H : Sgs) (k : Int) : Sgs := H.filter (fun p => !(p.1 == k))
/-- What can be delivered is delivered. -/
def drF : Nat → Int → Sgs → List Int → Int × Sgs × List Int
  | 0, b, H, out => (b, H, out)
  | n + 1, b, H, out => match hget H b with
    | none => (b, H, out)
    | some x => drF n (b + x.length) (hdel H b) (out ++ x)
theorem drF_none {H : Sgs} {b : Int} (h : hget H b = none) (n : Nat) (out : List Int) : drF n b H out = (b, H, out) := by
  cases n with
  | zero => rfl
  | succ n => simp [drF, h]
inductive HV (w : World) (T : Nat → Nat → Prop) : List (Int × Value) → Sgs → Prop
  | nil : HV w T [] []
  | cons (k : Int) (v : Value) (d : List Int) (l : List (Int × Value)) (H : Sgs) (h : RB w T d v) (hs : HV w T l H) : HV w T ((k, v) :: l) ((k, d) :: H)
theorem hv_len {w : World} {T : Nat → Nat → Prop} {l : List (Int × Value)} {H : Sgs} (h : HV w T l H) : l.length = H.length := by
  induction h with
  | nil => rfl
  | cons k v d l H _ _ ih => simp [ih]
theorem hv_keys {w : World} {T : Nat → Nat → Prop} {l : List (Int × Value)} {H : Sgs} (h : HV w T l H) : l.map (·.1) = H.map (·.1) := by
  induction h with
  | nil => rfl
  | cons k v d l H _ _ ih => simp [ih]
theorem rb_move {w w' : World} {T T' : Nat → Nat → Prop} {d : List Int} {v : Value} (h : RB w T d v) (hT : ∀ b i u, T b i → w.cell? ⟨b, i, none⟩ = some u → T' b i ∧ w'.cell? ⟨b, i, none⟩ = some u) : RB w' T' d v := by
  obtain ⟨b, o, c, h1, h2, h3, h4⟩ := h
  exact ⟨b, o, c, h1, h2, h3, fun i hi => hT _ _ _ (h4 i hi).1 (h4 i hi).2⟩
theorem hv_move {w w' : World} {T T' : Nat → Nat → Prop} {l : List (Int × Value)} {H : Sgs} (h : HV w T l H) (hT : ∀ b i u, T b i → w.cell? ⟨b, i, none⟩ = some u → T' b i ∧ w'.cell? ⟨b, i, none⟩ = some u) : HV w' T' l H := by
  induction h with
  | nil => exact .nil
  | cons k v d l H h _ ih => exact .cons _ _ _ _ _ (rb_move h hT) ih
theorem hv_snoc {w : World} {T : Nat → Nat → Prop} {l : List (Int × Value)} {H : Sgs} (h : HV w T l H) {k : Int} {v : Value} {d : List Int} (hr : RB w T d v) : HV w T (l ++ [(k, v)]) (H ++ [(k, d)]) := by
  induction h with
  | nil => exact .cons _ _ _ _ _ hr .nil
  | cons k v d l H h _ ih => exact .cons _ _ _ _ _ h ih
theorem hv_del {w : World} {T : Nat → Nat → Prop} {l : List (Int × Value)} {H : Sgs} (h : HV w T l H) (k : Int) : HV w T (l.filter (fun p => !(p.1 == k))) (hdel H k) := by
  unfold hdel
  induction h with
  | nil => exact .nil
  | cons k' v d l H h _ ih =>
    simp only [List.filter_cons]
    split
    · exact .cons _ _ _ _ _ h ih
    · exact ih
theorem hv_get {w : World} {T : Nat → Nat → Prop} {l : List (Int × Value)} {H : Sgs} (h : HV w T l H) (k : Int) : (lget l k = none ∧ hget H k = none) ∨ ∃ v d, lget l k = some v ∧ hget H k = some d ∧ RB w T d v ∧ (k, d) ∈ H := by
  unfold lget hget
  induction h with
  | nil => exact .inl ⟨rfl, rfl⟩
  | cons k' v d l H h _ ih =>
    simp only [List.find?_cons]
    by_cases e : (k' == k) = true
    · have e' : k' = k := by simpa using e
      subst e'
      rw [e]
      exact .inr ⟨v, d, rfl, rfl, h, List.mem_cons_self ..⟩
    · have e' : (k' == k) = false := by simpa using e
      simp only [e']
      rcases ih with ih | ⟨v', d', h1, h2, h3, h4⟩
      · exact .inl ih
      · exact .inr ⟨v', d', h1, h2, h3, List.mem_cons_of_mem _ h4⟩
theorem hdel_len {H : Sgs} {k : Int} {d : List Int} (hn : (H.map (·.1)).Nodup) (hm : (k, d) ∈ H) : (hdel H k).length + 1 = H.length := by
  unfold hdel
  induction H with
  | nil => cases hm
  | cons q H ih =>
    simp only [List.map_cons, List.nodup_cons] at hn
    simp only [List.filter_cons]
    rcases List.mem_cons.1 hm with rfl | hm
    · have : H.filter (fun p => !(p.1 == k)) = H := by
        rw [List.filter_eq_self]
        intro p hp
        have : p.1 ≠ k := fun e => hn.1 (List.mem_map.2 ⟨p, hp, e⟩)
        simpa using this
      simp [this]
    · have hne : q.1 ≠ k := fun e => hn.1 (by rw [e]; exact List.mem_map_of_mem (f := (·.1)) hm)
      rw [if_pos (by simpa using hne), List.length_cons, ih hn.2 hm, List.length_cons]
theorem hdel_nd {H : Sgs} (hn : (H.map (·.1)).Nodup) (k : Int) : ((hdel H k).map (·.1)).Nodup := (List.filter_sublist.map _).nodup hn
theorem hdel_sub {H : Sgs} {k : Int} {p : Int × List Int} (h : p ∈ hdel H k) : p ∈ H := (List.mem_filter.1 h).1
theorem con_calls {P : Program} {f : FuncId} {args : List AV} {v : Value} (h : Con P f [] args [] (.sc v)) {W : World} {cargs : Array Value} (hv : VRs W (all W) noLay args cargs.toList) :
    Calls P f cargs W fun e W' => e = .returned v ∧ Below W.heap.size W W' := by
  have hHR : HR ⟨P, W, 0, fun _ => False, all W, 0, noLay, W.heap.size⟩ noLay [] W :=
    ⟨(fun id o ho => by cases ho), (fun id B hB => by cases hB), (fun id id' B B' hB => by cases hB), (fun id B hB => by cases hB), (fun b i hs => ⟨hs, fun e => e⟩), ⟨rfl, rfl, rfl, Nat.le_refl _, fun _ _ _ => rfl, NcK.refl _⟩⟩
  refine (h W (fun _ => False) (all W) noLay cargs (fun _ _ => rfl) hHR ⟨hv.1, fun i x hx => (hv.2 i x hx).mono (fun b i hs => .inl hs)⟩).mono ?_
  rintro e W' ⟨v, L', rfl, _, _, hR, hr⟩
  have := hr.sc_eq
  subst this
  have hu := hR.upd
  exact ⟨rfl, hu.os, hu.tape, hu.output, hu.size, fun k hk => hu.block k hk (fun e => e)⟩
theorem long_calls (W : World) (tot base off : Int) (mv : Value) (h : 0 ≤ base ∧ base ≤ tot ∧ tot ≤ 1099511627776) (ho : -9223372036854775808 ≤ off ∧ off ≤ 9223372036854775807) :
    Calls Try.prog 97 #[.agg #[.int .i64 tot, .int .i64 base, mv], .int .i64 off] W fun e W' => e = .returned (.int .i64 (lgF tot base off)) ∧ Below W.heap.size W W' := by
  refine con_calls (long_con tot base off (.sc mv) rfl h ho) ⟨rfl, fun i x hx => ?_⟩
  rcases i with _ | _ | i
  · simp at hx
    subst hx
    refine .ag _ _ _ (fun j => #[Value.int .i64 tot, .int .i64 base, mv].getD j undef) rfl (fun j hj => ?_) (fun j y hy => ?_)
    · rcases j with _ | _ | _ | j
      · rfl
      · rfl
      · rfl
      · simp at hj
        omega
    · rcases j with _ | _ | _ | j
      · simp at hy; subst hy; exact .sc _ _
      · simp at hy; subst hy; exact .sc _ _
      · simp at hy; subst hy; exact .sc _ _
      · simp at hy
  · simp at hx
    subst hx
    exact .sc _ _
  · simp at hx
abbrev bv (tot base : Int) (mv : Value) : Value := .agg #[.int .i64 tot, .int .i64 base, mv]
theorem mapv_keep {w w' : World} {mv : Value} {l : List (Int × Value)} (h : MapV w mv l) (hk : ∀ k, k < w.heap.size → w'.heap[k]? = w.heap[k]?) : MapV w' mv l := by
  rcases h with h | ⟨r, h1, es, ck, hb, hM⟩
  · exact .inl h
  · exact .inr ⟨r, h1, es, ck, (hk r (Array.getElem?_eq_some_iff.1 hb).1).trans hb, hM⟩
abbrev zb : Array Value := #[.int .i64 0, .int .i64 0, .map none]
abbrev bw (W : World) (tot base : Int) (mv : Value) : World := (W.alloc (.cells #[.int .i64 tot, .int .i64 base, mv] 42)).alloc (.cells zb 42)
theorem bw_size (W : World) (tot base : Int) (mv : Value) : (bw W tot base mv).heap.size = W.heap.size + 2 := by simp
theorem bw_old (W : World) (tot base : Int) (mv : Value) (k : Nat) (hk : k < W.heap.size) : (bw W tot base mv).heap[k]? = W.heap[k]? := by
  rw [(MapKept.heap_alloc _ _).2 k (by simp; omega), (MapKept.heap_alloc _ _).2 k hk]
theorem bw_box (W : World) (tot base : Int) (mv : Value) : (bw W tot base mv).heap[W.heap.size]? = some (.cells #[.int .i64 tot, .int .i64 base, mv] 42 (0, 0)) := by
  rw [(MapKept.heap_alloc _ _).2 _ (by simp), (MapKept.heap_alloc _ _).1]
theorem bw_res (W : World) (tot base : Int) (mv : Value) : (bw W tot base mv).heap[W.heap.size + 1]? = some (.cells zb 42 (0, 0)) := by
  have := (MapKept.heap_alloc (W.alloc (.cells #[.int .i64 tot, .int .i64 base, mv] 42)) (.cells zb 42)).1
  simpa using this
theorem cell_of {w : World} {g : Nat} {cs : Array Value} {t : TypeId} {fr : Nat × Nat} (h : w.heap[g]? = some (.cells cs t fr)) (i : Nat) : w.cell? ⟨g, i, none⟩ = cs[i]? := by simp [World.cell?, h]
theorem frz_of {w : World} {g : Nat} {cs : Array Value} {t : TypeId} (h : w.heap[g]? = some (.cells cs t (0, 0))) (i : Nat) : w.frozen? ⟨g, i, none⟩ = false := by simp [World.frozen?, h]
theorem res58 {w : World} {g : Nat} {x y z : Value} {tmps : Array Value} (h6 : tmps.getD 6 undef = .pointer (some ⟨g, 0, none⟩)) (hb : w.heap[g]? = some (.cells #[x, y, z] 42 (0, 0))) :
    (results Try.f58 tmps).run Try.prog w = .ok (.tuple #[.agg #[x, y, z], tmps.getD 7 undef, tmps.getD 8 undef]) w := by
  have hl := run_loadVar_row (P := Try.prog) w g 42 42 #[x, y, z] (0, 0) _ hb Try.underlying42 rfl (by kernel_rfl)
  have hr : Try.f58.results = #[.cell 6 42, .tmp 7, .tmp 8] := by rfl
  have h6' : tmps[6]?.getD undef = .pointer (some ⟨g, 0, none⟩) := by simpa using h6
  simp [results, hr, h6', hl, asAddr, Result.andThen]
abbrev set3 (w : World) (g : Nat) (x y z : Value) : World := ((w.setCell ⟨g, 0, none⟩ x).setCell ⟨g, 1, none⟩ y).setCell ⟨g, 2, none⟩ z
theorem set3_blk {w : World} {g : Nat} {a b c : Value} (h : w.heap[g]? = some (.cells #[a, b, c] 42 (0, 0))) (x y z : Value) : (set3 w g x y z).heap[g]? = some (.cells #[x, y, z] 42 (0, 0)) :=
  heap_setCell_same _ g 2 _ 42 z (heap_setCell_same _ g 1 _ 42 y (heap_setCell_same _ g 0 _ 42 x h))
theorem set3_far {w : World} {g k : Nat} (hk : k ≠ g) (x y z : Value) : (set3 w g x y z).heap[k]? = w.heap[k]? := by
  rw [heap_setCell_other _ _ _ _ hk, heap_setCell_other _ _ _ _ hk, heap_setCell_other _ _ _ _ hk]
theorem set3_below {w W : World} {g n : Nat} (h : Below n W w) (hg : n ≤ g) (x y z : Value) : Below n W (set3 w g x y z) :=
  ⟨h.os, h.tape, h.output, by have := h.size; simpa [World.setCell] using this, fun k hk => (set3_far (by omega) x y z).trans (h.block k hk)⟩
theorem below_bw {W w1 : World} {tot base : Int} {mv : Value} (h : Below (bw W tot base mv).heap.size (bw W tot base mv) w1) : Below W.heap.size W w1 :=
  ⟨h.os, h.tape, h.output, by have := h.size; rw [bw_size] at this; omega, fun k hk => (h.block k (by rw [bw_size]; omega)).trans (bw_old W tot base mv k hk)⟩
theorem put_met (W : World) (tot base off : Int) (m : Option Nat) (l : List (Int × Value)) (A : Option Addr) (n c : Nat) (h : 0 ≤ base ∧ base ≤ tot ∧ tot ≤ 1099511627776) (ho : -9223372036854775808 ≤ off ∧ off ≤ 9223372036854775807)
    (hmv : MapV W (.map m) l) (v : Value) (hov : lget l off = some v) :
    Calls Try.prog 58 #[bv tot base (.map m), .int .i64 off, .slice A n c] W fun e W' => e = .returned (.tuple #[bv tot base (.map m), .slice none 0 0, .bool false]) ∧ Below W.heap.size W W' := by
  have hlong := fun w => long_calls w tot base off (.map m) h ho
  generalize lgF tot base off = R at hlong
  go_enter Try.func58, Try.ntmps58
  go_wp2_with (fail)
  refine (hlong _).mono ?_
  rintro e w1 ⟨rfl, hb1⟩
  have X0 := (hb1.block W.heap.size (by rw [bw_size]; omega)).trans (bw_box W tot base (.map m))
  have X1 := (hb1.block (W.heap.size + 1) (by rw [bw_size]; omega)).trans (bw_res W tot base (.map m))
  have c0 := cell_of X0 0
  have c1 := cell_of X0 1
  have c2 := cell_of X0 2
  have hm1 : MapV w1 (.map m) l := mapv_keep hmv (fun k hk => (hb1.block k (by rw [bw_size]; omega)).trans (bw_old W tot base (.map m) k hk))
  have d0 := cell_of X1 0
  have d1 := cell_of X1 1
  have d2 := cell_of X1 2
  have f0 := frz_of X1 0
  have f1 := frz_of X1 1
  have f2 := frz_of X1 2
  have c2m := cell_of (((MapKept.heap_alloc w1 (.map #[] 0)).2 W.heap.size (Array.getElem?_eq_some_iff.1 X0).1).trans X0) 2
  simp at c0 c1 c2 d0 d1 d2 c2m
  go_wp2_with (at_lookup; refine wpList_lookup_mp _ rfl _ _ _ rfl 2 62 Try.underlying40 Try.underlying2 (zv62 _) (.map m) l rfl hm1 off rfl ?_; rw [hov]; rintro _ _ rfl rfl; simp only [Option.getD_some, Option.getD_none, Option.isSome_some, Option.isSome_none])
  exact bodyPost_ret (res58 rfl (set3_blk X1 _ _ _)) rfl ⟨rfl, set3_below (below_bw hb1) (Nat.le_succ _) _ _ _⟩
theorem put_zero (W : World) (tot base off : Int) (m : Option Nat) (l : List (Int × Value)) (A : Option Addr) (n c : Nat) (h : 0 ≤ base ∧ base ≤ tot ∧ tot ≤ 1099511627776) (ho : -9223372036854775808 ≤ off ∧ off ≤ 9223372036854775807)
    (hmv : MapV W (.map m) l) (hov : lget l off = none) (hR : lgF tot base off = 0) :
    Calls Try.prog 58 #[bv tot base (.map m), .int .i64 off, .slice A n c] W fun e W' => e = .returned (.tuple #[bv tot base (.map m), .slice none 0 0, .bool false]) ∧ Below W.heap.size W W' := by
  have hlong := fun w => long_calls w tot base off (.map m) h ho
  rw [hR] at hlong
  go_enter Try.func58, Try.ntmps58
  go_wp2_with (fail)
  refine (hlong _).mono ?_
  rintro e w1 ⟨rfl, hb1⟩
  have X0 := (hb1.block W.heap.size (by rw [bw_size]; omega)).trans (bw_box W tot base (.map m))
  have X1 := (hb1.block (W.heap.size + 1) (by rw [bw_size]; omega)).trans (bw_res W tot base (.map m))
  have c0 := cell_of X0 0
  have c1 := cell_of X0 1
  have c2 := cell_of X0 2
  have hm1 : MapV w1 (.map m) l := mapv_keep hmv (fun k hk => (hb1.block k (by rw [bw_size]; omega)).trans (bw_old W tot base (.map m) k hk))
  have d0 := cell_of X1 0
  have d1 := cell_of X1 1
  have d2 := cell_of X1 2
  have f0 := frz_of X1 0
  have f1 := frz_of X1 1
  have f2 := frz_of X1 2
  have c2m := cell_of (((MapKept.heap_alloc w1 (.map #[] 0)).2 W.heap.size (Array.getElem?_eq_some_iff.1 X0).1).trans X0) 2
  simp at c0 c1 c2 d0 d1 d2 c2m
  go_wp2_with (at_lookup; refine wpList_lookup_mp _ rfl _ _ _ rfl 2 62 Try.underlying40 Try.underlying2 (zv62 _) (.map m) l rfl hm1 off rfl ?_; rw [hov]; rintro _ _ rfl rfl; simp only [Option.getD_some, Option.getD_none, Option.isSome_some, Option.isSome_none])
  exact bodyPost_ret (res58 rfl (set3_blk X1 _ _ _)) rfl ⟨rfl, set3_below (below_bw hb1) (Nat.le_succ _) _ _ _⟩
theorem put_far (W : World) (tot base off : Int) (m : Option Nat) (l : List (Int × Value)) (A : Option Addr) (n c : Nat) (h : 0 ≤ base ∧ base ≤ tot ∧ tot ≤ 1099511627776) (ho : -9223372036854775808 ≤ off ∧ off ≤ 9223372036854775807)
    (hmv : MapV W (.map m) l) (hov : lget l off = none) (hR0 : ¬ lgF tot base off = 0) (hRn : ¬ (n : Int) = lgF tot base off) :
    Calls Try.prog 58 #[bv tot base (.map m), .int .i64 off, .slice A n c] W fun e W' => e = .returned (.tuple #[bv tot base (.map m), .slice none 0 0, .bool false]) ∧ Below W.heap.size W W' := by
  have hlong := fun w => long_calls w tot base off (.map m) h ho
  generalize lgF tot base off = R at hlong hR0 hRn
  have e1 : (R == 0) = false := by simpa using hR0
  have e2 : ((n : Int) != R) = true := by simpa using hRn
  clear hR0 hRn
  go_enter Try.func58, Try.ntmps58
  go_wp2_with (fail)
  refine (hlong _).mono ?_
  rintro e w1 ⟨rfl, hb1⟩
  have X0 := (hb1.block W.heap.size (by rw [bw_size]; omega)).trans (bw_box W tot base (.map m))
  have X1 := (hb1.block (W.heap.size + 1) (by rw [bw_size]; omega)).trans (bw_res W tot base (.map m))
  have c0 := cell_of X0 0
  have c1 := cell_of X0 1
  have c2 := cell_of X0 2
  have hm1 : MapV w1 (.map m) l := mapv_keep hmv (fun k hk => (hb1.block k (by rw [bw_size]; omega)).trans (bw_old W tot base (.map m) k hk))
  have d0 := cell_of X1 0
  have d1 := cell_of X1 1
  have d2 := cell_of X1 2
  have f0 := frz_of X1 0
  have f1 := frz_of X1 1
  have f2 := frz_of X1 2
  have c2m := cell_of (((MapKept.heap_alloc w1 (.map #[] 0)).2 W.heap.size (Array.getElem?_eq_some_iff.1 X0).1).trans X0) 2
  simp at c0 c1 c2 d0 d1 d2 c2m
  go_wp2_with (at_lookup; refine wpList_lookup_mp _ rfl _ _ _ rfl 2 62 Try.underlying40 Try.underlying2 (zv62 _) (.map m) l rfl hm1 off rfl ?_; rw [hov]; rintro _ _ rfl rfl; simp only [Option.getD_some, Option.getD_none, Option.isSome_some, Option.isSome_none])
  exact bodyPost_ret (res58 rfl (set3_blk X1 _ _ _)) rfl ⟨rfl, set3_below (below_bw hb1) (Nat.le_succ _) _ _ _⟩
theorem copy_any (r : Nat) (m : Option Nat) (l : List (Int × Value)) (w : World) (hr : mapL w r []) (hm : MapV w (.map m) l) (hne : m ≠ some r) : Calls Try.prog 98 #[.map (some r), .map m] w fun e w' => e = .returned (.tuple #[]) ∧ mapL w' r l ∧ w.grownBy w' (some r) := by
  rcases hm with ⟨h1, rfl⟩ | ⟨b, h1, hb⟩
  · injection h1 with h1
    subst h1
    exact copy_nil r w hr
  · injection h1 with h1
    subst h1
    exact copy_some r b l w hr hb (fun e => hne (by rw [e]))
theorem lget_fresh {l : List (Int × Value)} {k : Int} (h : lget l k = none) : k ∉ l.map (·.1) := by
  unfold lget at h
  rw [Option.map_eq_none_iff, List.find?_eq_none] at h
  intro hk
  obtain ⟨p, hp, rfl⟩ := List.mem_map.1 hk
  exact h p hp (by simp)
theorem own_blk {w : World} {base e n size : Nat} {v : Value} {xs : List Value} (h : w.ownsRow base e size v n xs) (k : Nat) (hk : v.ownBlock = some k) : base ≤ k := by
  rcases h.2 with ⟨rfl, _⟩ | ⟨g, cap, cur, rfl, hg, _⟩
  · cases hk
  · simp only [Value.ownBlock] at hk
    injection hk with hk
    omega
theorem own_keep {w w' : World} {base e n size : Nat} {v : Value} {xs : List Value} (h : w.ownsRow base e size v n xs) (hk : ∀ k, base ≤ k → k < w.heap.size → w'.heap[k]? = w.heap[k]?) : w'.ownsRow base e size v n xs := by
  refine ⟨h.1, ?_⟩
  rcases h.2 with h | ⟨g, cap, cur, h1, h2, h3, h4⟩
  · exact .inl h
  · exact .inr ⟨g, cap, cur, h1, h2, (hk g h2 (Array.getElem?_eq_some_iff.1 h3).1).trans h3, h4⟩
theorem map_no_cell {w : World} {r : Nat} {l : List (Int × Value)} (h : mapL w r l) (i : Nat) : w.cell? ⟨r, i, none⟩ = none := by
  obtain ⟨es, ck, hb, _⟩ := h
  simp [World.cell?, hb]
/-- What holds ahead of a round of Put's loop. -/
structure PutR (W : World) (N r : Nat) (T : Nat → Nat → Prop) (tot : Int) (fin : Int × Sgs × List Int) (v : Value) (wr : World) (bs : Int) (lc : List (Int × Value)) (H : Sgs) (out : List Int) : Prop where
  box : wr.heap[W.heap.size]? = some (.cells #[.int .i64 tot, .int .i64 bs, .map (some r)] 42 (0, 0))
  res : wr.heap[W.heap.size + 1]? = some (.cells zb 42 (0, 0))
  mp : mapL wr r lc
  hv : HV wr T lc H
  own : wr.ownsRow N 5 1 v out.length (nu out)
  below : Below W.heap.size W wr
  size : N ≤ wr.heap.size
  dr : drF H.length bs H out = fin
  bd : 0 ≤ bs ∧ bs ≤ 4611686018427387904
  ok : ∀ p ∈ H, p.1 ≤ 4611686018427387000 ∧ p.2.length ≤ 256
  len : out.length + 256 * H.length ≤ 1000000
  nd : (H.map (·.1)).Nodup
theorem put_main (W : World) (T : Nat → Nat → Prop) (tot base off : Int) (m : Option Nat) (l : List (Int × Value)) (H : Sgs) (b o c : Nat) (d : List Int) (h : 0 ≤ base ∧ base ≤ tot ∧ tot ≤ 1099511627776) (ho : -9223372036854775808 ≤ off ∧ off ≤ 4611686018427387000)
    (hmv : MapV W (.map m) l) (hH : HV W T l H) (hnd : (H.map (·.1)).Nodup) (hok : ∀ p ∈ H, p.1 ≤ 4611686018427387000 ∧ p.2.length ≤ 256) (hln : H.length ≤ 1000)
    (hd0 : 0 < d.length) (hd1 : d.length ≤ 256) (hrd : Rd W b o d) (hov : lget l off = none) (hR : lgF tot base off = d.length) :
    Calls Try.prog 58 #[bv tot base (.map m), .int .i64 off, .slice (some ⟨b, o, none⟩) d.length c] W fun e W' => ∃ N r v bs lc H' out, e = .returned (.tuple #[bv tot bs (.map (some r)), v, .bool true]) ∧ mapL W' r lc ∧
      HV W' (fun b i => (b < W.heap.size ∧ T b i) ∨ (W.heap.size + 2 ≤ b ∧ b < N)) lc H' ∧ W'.ownsRow N 5 1 v out.length (nu out) ∧ W.heap.size ≤ N ∧ Below W.heap.size W W' ∧ drF (H.length + 1) base (H ++ [(off, d)]) [] = (bs, H', out) := by
  have hlong := fun w => long_calls w tot base off (.map m) h (by omega)
  rw [hR] at hlong
  have hbl := hrd.lt hd0
  have hmm := @run_makeMap Try.prog
  have e1 : ((d.length : Int) == 0) = false := by simp; intro e; rw [e] at hd0; exact absurd hd0 (by decide)
  go_enter Try.func58, Try.ntmps58
  go_wp2_with (fail)
  refine (hlong _).mono ?_
  rintro e w1 ⟨rfl, hb1⟩
  have X0 := (hb1.block W.heap.size (by rw [bw_size]; omega)).trans (bw_box W tot base (.map m))
  have X1 := (hb1.block (W.heap.size + 1) (by rw [bw_size]; omega)).trans (bw_res W tot base (.map m))
  have c0 := cell_of X0 0
  have c1 := cell_of X0 1
  have c2 := cell_of X0 2
  have hm1 : MapV w1 (.map m) l := mapv_keep hmv (fun k hk => (hb1.block k (by rw [bw_size]; omega)).trans (bw_old W tot base (.map m) k hk))
  have d0 := cell_of X1 0
  have d1 := cell_of X1 1
  have d2 := cell_of X1 2
  have f0 := frz_of X1 0
  have f1 := frz_of X1 1
  have f2 := frz_of X1 2
  have c2m := cell_of (((MapKept.heap_alloc w1 (.map #[] 0)).2 W.heap.size (Array.getElem?_eq_some_iff.1 X0).1).trans X0) 2
  simp at c0 c1 c2 d0 d1 d2 c2m
  go_wp2_with (at_lookup; refine wpList_lookup_mp _ rfl _ _ _ rfl 2 62 Try.underlying40 Try.underlying2 (zv62 _) (.map m) l rfl hm1 off rfl ?_; rw [hov]; rintro _ _ rfl rfl; simp only [Option.getD_some, Option.getD_none, Option.isSome_some, Option.isSome_none])
  have hm2 : MapV (w1.alloc (.map #[] 0)) (.map m) l := mapv_keep hm1 (fun k hk => (MapKept.heap_alloc w1 _).2 k hk)
  have hne : m ≠ some w1.heap.size := by
    rintro rfl
    rcases hm1 with ⟨e, _⟩ | ⟨r, e, hr⟩
    · cases e
    · injection e with e
      injection e with e
      have := hr.lt
      omega
  refine (copy_any w1.heap.size m l _ (mapL.made w1) hm2 hne).mono ?_
  rintro e w3 ⟨rfl, hl3, hg3⟩
  generalize hr : w1.heap.size = r at *
  have X2 : (w1.alloc (.map #[] 0)).heap.size = r + 1 := by simp [hr]
  have hsz1 : W.heap.size + 2 ≤ r := by have := hb1.size; rw [bw_size] at this; omega
  have k3 : ∀ k, k < r → w3.heap[k]? = w1.heap[k]? := fun k hk => (hg3.block k (by rw [X2]; omega) (by simp; omega)).trans ((MapKept.heap_alloc w1 _).2 k (by omega))
  have X0' := (k3 W.heap.size (by omega)).trans X0
  have X1' := (k3 (W.heap.size + 1) (by omega)).trans X1
  clear c0 c1 c2 d0 d1 d2 f0 f1 f2
  have c0 := cell_of X0' 0
  have c1 := cell_of X0' 1
  have c2 := cell_of X0' 2
  simp at c0 c1 c2
  go_wp2_with (fail)
  have hrd3 : Rd w3 b o d := hrd.mono ((k3 b (by omega)).trans ((hb1.block b (by rw [bw_size]; omega)).trans (bw_old W tot base (.map m) b hbl)))
  refine (clone_calls w3 b o c d hd0 (by omega) hrd3).mono ?_
  rintro e w4 ⟨v4, rfl, hown4, hb4⟩
  have hs3 := hg3.size
  rw [X2] at hs3
  have hl4 : mapL w4 r l := by
    obtain ⟨es, ck, h1, h2⟩ := hl3
    exact ⟨es, ck, (hb4.block r (by omega)).trans h1, h2⟩
  have k4 : ∀ k, k < r → w4.heap[k]? = w1.heap[k]? := fun k hk => (hb4.block k (by omega)).trans (k3 k hk)
  have F5 : ∀ w5, w4.grownBy w5 (some r) → w5.cell? ⟨W.heap.size, 2, none⟩ = some (.map m) ∧ w5.frozen? ⟨W.heap.size, 2, none⟩ = false := fun w5 hg => by
    have X0'' := (hg.block W.heap.size (by have := hb4.size; omega) (by simp; omega)).trans ((k4 W.heap.size (by omega)).trans X0)
    exact ⟨by rw [cell_of X0'' 2]; rfl, frz_of X0'' 2⟩
  clear c0 c1 c2
  go_wp2_with (at_mapUpdate; refine wpList_update_mp _ rfl _ _ _ _ rfl 2 62 Try.underlying40 Try.underlying2 r l rfl hl4 off (.int .i64 off) v4 rfl rfl rfl (lget_fresh hov) ?_; intro w5 hl5 hg5 hs5; obtain ⟨c25, f25⟩ := F5 w5 hg5)
  have hw5s : (w5.setCell ⟨W.heap.size, 2, none⟩ (.map (some r))).heap.size = w5.heap.size := by simp [World.setCell]
  have k5 : ∀ k, k < w4.heap.size → k ≠ r → w5.heap[k]? = w4.heap[k]? := fun k hk hne => hg5.block k hk (fun e => hne (by injection e))
  have hs4 := hb4.size
  have PR0 : PutR W w5.heap.size r (fun b i => (b < W.heap.size ∧ T b i) ∨ (W.heap.size + 2 ≤ b ∧ b < w5.heap.size)) tot (drF (H.length + 1) base (H ++ [(off, d)]) []) (.slice none 0 0) (w5.setCell ⟨W.heap.size, 2, none⟩ (.map (some r))) base (l ++ [(off, v4)]) (H ++ [(off, d)]) [] := by
    have far : ∀ k, k ≠ W.heap.size → (w5.setCell ⟨W.heap.size, 2, none⟩ (.map (some r))).heap[k]? = w5.heap[k]? := fun k hk => heap_setCell_other _ _ _ _ hk
    have kW : ∀ k, k < W.heap.size → (w5.setCell ⟨W.heap.size, 2, none⟩ (.map (some r))).heap[k]? = W.heap[k]? := fun k hk => (far k (by omega)).trans ((k5 k (by omega) (by omega)).trans ((k4 k (by omega)).trans ((hb1.block k (by rw [bw_size]; omega)).trans (bw_old W tot base (.map m) k hk))))
    have X05 := (k5 W.heap.size (by omega) (by omega)).trans ((k4 W.heap.size (by omega)).trans X0)
    have X15 := (far (W.heap.size + 1) (by omega)).trans ((k5 (W.heap.size + 1) (by omega) (by omega)).trans ((k4 (W.heap.size + 1) (by omega)).trans X1))
    obtain ⟨es, ck, h1, h2⟩ := hl5
    have hkeys : off ∉ H.map (·.1) := by rw [← hv_keys hH]; exact lget_fresh hov
    refine ⟨heap_setCell_same _ _ 2 _ 42 _ X05, X15, ⟨es, ck, (far r (by omega)).trans h1, h2⟩, hv_snoc (hv_move hH fun b i u hT hc => ?_) ?_, ⟨rfl, .inl ⟨rfl, rfl⟩⟩, ⟨?_, ?_, ?_, by rw [hw5s]; omega, kW⟩, by rw [hw5s]; exact Nat.le_refl _, by rw [List.length_append]; rfl, by omega, ?_, by rw [List.length_append]; simp; omega, ?_⟩
    · have hlt : b < W.heap.size := by
        rcases Nat.lt_or_ge b W.heap.size with hl | hl
        · exact hl
        · simp [World.cell?, Array.getElem?_eq_none hl] at hc
      refine ⟨.inl ⟨hlt, hT⟩, ?_⟩
      rw [← hc]
      simp [World.cell?, kW b hlt]
    · rcases hown4.2 with ⟨_, h0⟩ | ⟨g, cap, cur, rfl, hg, hgb, hnc, _, hcs, htk⟩
      · omega
      · have hgl := (Array.getElem?_eq_some_iff.1 hgb).1
        refine ⟨g, 0, cap, rfl, hnc, hd0, fun i hi => ⟨.inr ⟨by omega, by omega⟩, ?_⟩⟩
        have hh := (far g (by omega)).trans ((k5 g hgl (by omega)).trans hgb)
        rw [Nat.zero_add, cell_of hh i]
        have e2 : (cur.toList.take (d.length * 1))[i]? = (nu d)[i]? := by rw [htk]
        rw [List.getElem?_take_of_lt (by omega), List.getElem?_map, List.getElem?_eq_getElem hi] at e2
        rw [← Array.getElem?_toList, e2, List.getD_eq_getElem?_getD, List.getElem?_eq_getElem hi]
        rfl
    · exact hg5.os.trans (hb4.os.trans (hg3.os.trans hb1.os))
    · exact hg5.tape.trans (hb4.tape.trans (hg3.tape.trans hb1.tape))
    · exact hg5.output.trans (hb4.output.trans (hg3.output.trans hb1.output))
    · intro p hp
      rcases List.mem_append.1 hp with hp | hp
      · exact hok p hp
      · simp at hp
        subst hp
        exact ⟨ho.2, hd1⟩
    · rw [List.map_append, List.nodup_append]
      refine ⟨hnd, by simp, fun a ha b hb e => ?_⟩
      simp at hb
      subst hb; subst e
      exact hkeys ha
  generalize hN : w5.heap.size = N at PR0
  generalize hT : (fun b i => (b < W.heap.size ∧ T b i) ∨ (W.heap.size + 2 ≤ b ∧ b < N)) = T' at PR0
  generalize hF : drF (H.length + 1) base (H ++ [(off, d)]) [] = fin at PR0
  have hrN : r < N := by omega
  have hWr : W.heap.size + 2 ≤ r := hsz1
  have hWN : W.heap.size ≤ N := by omega
  have hT' : ∀ b i, T' b i → b < N ∧ b ≠ W.heap.size ∧ b ≠ W.heap.size + 1 := fun b i hb => by
    rw [← hT] at hb
    rcases hb with hb | hb <;> omega
  generalize w5.setCell ⟨W.heap.size, 2, none⟩ (.map (some r)) = w6 at PR0
  clear hlong hmm hl4 k4 F5 c25 f25 hl5 hg5 hs5 k5 hown4 hb4 hs4 hs3 hl3 hg3 k3 X0' X1' hrd3 X2 hm2 c2m hm1 X0 X1 hb1 hne hw5s
  go_loopw [13] (fun v wr => ∃ bs lc H' out, PutR W N r T' tot fin v wr bs lc H' out) (fun _ wr => mapSz wr r)
  case atStart => exact ⟨_, _, _, _, PR0⟩
  case round =>
    obtain ⟨bs, lc, H', out, PR⟩ := hrel
    have c0 := cell_of PR.box 0
    have c1 := cell_of PR.box 1
    have c2 := cell_of PR.box 2
    have d0 := cell_of PR.res 0
    have d1 := cell_of PR.res 1
    have d2 := cell_of PR.res 2
    have f0 := frz_of PR.res 0
    have f1 := frz_of PR.res 1
    have f2 := frz_of PR.res 2
    simp at c0 c1 c2 d0 d1 d2
    have hmV : MapV wr (.map (some r)) lc := .inr ⟨r, rfl, PR.mp⟩
    rcases hv_get PR.hv bs with ⟨hov', hgN⟩ | ⟨vx, x, hov', hgS, hrb, hmem⟩
    · go_wp2_with (at_lookup; refine wpList_lookup_mp _ rfl _ _ _ rfl 2 62 Try.underlying40 Try.underlying2 (zv62 _) (.map (some r)) lc rfl hmV bs rfl ?_; rw [hov']; rintro _ _ rfl rfl; simp only [Option.getD_some, Option.getD_none, Option.isSome_some, Option.isSome_none])
      have far : ∀ k, k ≠ W.heap.size + 1 → (set3 wr (W.heap.size + 1) (.int .i64 tot) (.int .i64 bs) (.map (some r))).heap[k]? = wr.heap[k]? := fun k hk => set3_far hk _ _ _
      have hmp : mapL (set3 wr (W.heap.size + 1) (.int .i64 tot) (.int .i64 bs) (.map (some r))) r lc := by
        obtain ⟨es, ck, h1, h2⟩ := PR.mp
        exact ⟨es, ck, (far r (by omega)).trans h1, h2⟩
      refine bodyPost_ret (res58 rfl (set3_blk PR.res _ _ _)) rfl ⟨N, r, u13, bs, lc, H', out, rfl, hmp, hv_move PR.hv (fun b i u hb hc => ⟨by rw [← hT] at hb; exact hb, ?_⟩), own_keep PR.own (fun k h1 _ => far k (by omega)), hWN, set3_below PR.below (Nat.le_succ _) _ _ _, ?_⟩
      · rw [← hc]
        simp only [World.cell?, far b (hT' b i hb).2.2]
      · rw [hF, ← PR.dr, drF_none hgN]
    · obtain ⟨bx, ox, cx, rfl, hxc, hx0, hxr⟩ := hrb
      have hbo := PR.ok _ hmem
      simp only at hbo
      have hbd := PR.bd
      have hw : IntKind.i64.wrap (bs + (x.length : Int)) = bs + (x.length : Int) := w64 _ (by omega)
      have hdl := hdel_len PR.nd hmem
      have hln' := PR.len
      have hsz := PR.size
      have hnn : out.length + x.length ≤ 1000000000 := by omega
      have hxT := fun i hi => hT' _ _ (hxr i hi).1
      have FD : ∀ wd : World, wr.grownBy wd (some r) → wd.heap.size = wr.heap.size → wd.heap[W.heap.size]? = some (.cells #[.int .i64 tot, .int .i64 bs, .map (some r)] 42 (0, 0)) ∧ wd.heap[W.heap.size + 1]? = some (.cells zb 42 (0, 0)) ∧ wd.ownsRow N 5 1 u13 out.length (nu out) ∧ Rd wd bx ox x ∧ N ≤ wd.heap.size := fun wd hg hs => by
        have kk : ∀ k, k < wr.heap.size → k ≠ r → wd.heap[k]? = wr.heap[k]? := fun k hk hne => hg.block k hk (fun e => hne (by injection e))
        refine ⟨(kk _ (by omega) (by omega)).trans PR.box, (kk _ (by omega) (by omega)).trans PR.res, own_keep PR.own (fun k h1 h2 => kk k h2 (by omega)), fun i hi => ?_, by omega⟩
        have hc := (hxr i hi).2
        have hbr : bx ≠ r := fun e => by rw [e, map_no_cell PR.mp] at hc; cases hc
        rw [← hc]
        have := hxT i hi
        simp only [World.cell?, kk bx (by omega) hbr]
      have FA : ∀ wd wa : World, wd.ownsRow N 5 1 u13 out.length (nu out) → wd.heap[W.heap.size]? = some (.cells #[.int .i64 tot, .int .i64 bs, .map (some r)] 42 (0, 0)) → N ≤ wd.heap.size → wd.grownBy wa u13.ownBlock → wa.heap[W.heap.size]? = some (.cells #[.int .i64 tot, .int .i64 bs, .map (some r)] 42 (0, 0)) := fun wd wa ho hb hs hg =>
        (hg.block _ (by omega) (fun e => by have := own_blk ho _ e.symm; omega)).trans hb
      go_wp2_with (first
        | (at_lookup; refine wpList_lookup_mp _ rfl _ _ _ rfl 2 62 Try.underlying40 Try.underlying2 (zv62 _) (.map (some r)) lc rfl hmV bs rfl ?_; rw [hov']; rintro _ _ rfl rfl; simp only [Option.getD_some, Option.getD_none, Option.isSome_some, Option.isSome_none])
        | (at_delete; refine wpList_delete_mp _ rfl _ _ _ _ rfl 62 Try.underlying40 Try.underlying2 r lc rfl PR.mp bs rfl ?_; intro wd hld hgd hsd; obtain ⟨hdb, hdr, hdo, hdx, hdn⟩ := FD wd hgd hsd)
        | (at_builtin; refine wpList_app _ rfl _ _ rfl N u13 out.length (nu out) bx ox cx x rfl rfl hdo hdx hnn hdn ?_; intro va wa howna hga hloc; have hab := FA wd wa hdo hdb hdn hga; have a1 := cell_of hab 1; have a2 := frz_of hab 1; simp at a1))
      have far : ∀ k, k ≠ W.heap.size → (wa.setCell ⟨W.heap.size, 1, none⟩ (.int .i64 (bs + (x.length : Int)))).heap[k]? = wa.heap[k]? := fun k hk => heap_setCell_other _ _ _ _ hk
      have hws : (wa.setCell ⟨W.heap.size, 1, none⟩ (.int .i64 (bs + (x.length : Int)))).heap.size = wa.heap.size := by simp [World.setCell]
      have kd : ∀ k, k < wr.heap.size → k ≠ r → wd.heap[k]? = wr.heap[k]? := fun k hk hne => hgd.block k hk (fun e => hne (by injection e))
      have ka : ∀ k, k < N → wa.heap[k]? = wd.heap[k]? := fun k hk => hga.block k (by omega) (fun e => by have := own_blk hdo _ e.symm; omega)
      have hmp : mapL (wa.setCell ⟨W.heap.size, 1, none⟩ (.int .i64 (bs + (x.length : Int)))) r (lc.filter (fun p => !(p.1 == bs))) := by
        obtain ⟨es, ck, h1, h2⟩ := hld
        exact ⟨es, ck, (far r (by omega)).trans ((ka r hrN).trans h1), h2⟩
      have hhv : HV (wa.setCell ⟨W.heap.size, 1, none⟩ (.int .i64 (bs + (x.length : Int)))) T' (lc.filter (fun p => !(p.1 == bs))) (hdel H' bs) := hv_del (hv_move PR.hv fun b' i u hb hc => ⟨hb, by
        have hbr : b' ≠ r := fun e => by rw [e, map_no_cell PR.mp] at hc; cases hc
        have hb2 := hT' b' i hb
        rw [← hc]
        simp only [World.cell?, far b' hb2.2.1, ka b' hb2.1, kd b' (by omega) hbr]⟩) bs
      refine ⟨⟨bs + (x.length : Int), lc.filter (fun p => !(p.1 == bs)), hdel H' bs, out ++ x, ⟨heap_setCell_same _ _ 1 _ 42 _ hab, (far _ (by omega)).trans ((ka _ (by omega)).trans hdr), hmp, hhv, ?_, ?_, by have := hga.size; omega, ?_, by omega, fun p hp => PR.ok p (hdel_sub hp), by rw [List.length_append]; omega, hdel_nd PR.nd bs⟩⟩, ?_⟩
      · have := own_keep howna (w' := wa.setCell ⟨W.heap.size, 1, none⟩ (.int .i64 (bs + (x.length : Int)))) (fun k h1 _ => far k (by omega))
        rw [List.length_append]
        simpa using this
      · have hB := PR.below
        refine ⟨hga.os.trans (hgd.os.trans hB.os), hga.tape.trans (hgd.tape.trans hB.tape), hga.output.trans (hgd.output.trans hB.output), by have := hga.size; have := hB.size; omega, fun k hk => ?_⟩
        rw [far k (by omega), ka k (by omega), kd k (by omega) (by omega), hB.block k hk]
      · rw [← PR.dr, ← hdl]
        simp only [drF, hgS]
      · rw [mapSz_eq hmp, mapSz_eq PR.mp, hv_len hhv, hv_len PR.hv]
        omega
/-! ### Put as a contract -/
abbrev mH (H : Sgs) : AV := .mp (H.map (·.1)) (H.map fun p => fB p.2)
/-- What Put answers. -/
def putF (tot base : Int) (H : Sgs) (off : Int) (d : List Int) : (Int × Sgs × List Int) × Bool :=
  if (hget H off).isSome = true ∨ lgF tot base off = 0 ∨ ¬ (d.length : Int) = lgF tot base off then ((base, H, []), false) else (drF (H.length + 1) base (H ++ [(off, d)]) [], true)
def mkL : Sgs → (Nat → Value) → List (Int × Value)
  | [], _ => []
  | p :: H, g => (p.1, g 0) :: mkL H (fun i => g (i + 1))
theorem mkL_keys : ∀ (H : Sgs) (g : Nat → Value), (mkL H g).map (·.1) = H.map (·.1)
  | [], _ => rfl
  | p :: H, g => by simp [mkL, mkL_keys H]
theorem mkL_mem : ∀ (H : Sgs) (g : Nat → Value) (p : Int × Value), p ∈ mkL H g ↔ ∃ i k, (H.map (·.1))[i]? = some k ∧ p = (k, g i)
  | [], g, p => by simp [mkL]
  | q :: H, g, p => by
    rw [mkL, List.mem_cons, mkL_mem H]
    constructor
    · rintro (rfl | ⟨i, k, h1, rfl⟩)
      · exact ⟨0, q.1, by simp, rfl⟩
      · exact ⟨i + 1, k, by simpa using h1, rfl⟩
    · rintro ⟨i, k, h1, rfl⟩
      cases i with
      | zero => simp at h1; subst h1; exact .inl rfl
      | succ i => exact .inr ⟨i, k, by simpa using h1, rfl⟩
theorem mkL_hv {w : World} {T : Nat → Nat → Prop} : ∀ (H : Sgs) (g : Nat → Value), (∀ i q, H[i]? = some q → RB w T q.2 (g i)) → HV w T (mkL H g) H
  | [], _, _ => .nil
  | (k, d) :: H, g, h => .cons _ _ _ _ _ (h 0 (k, d) rfl) (mkL_hv H _ (fun i q hq => h (i + 1) q (by simpa using hq)))
theorem mpl_of {es : Array MapEntry} {ck : Nat} {H : Sgs} {g : Nat → Value} (h : MapIs es ck (H.map (·.1)) g) : MpL es ck (mkL H g) :=
  ⟨h.st, by rw [mkL_keys]; exact h.nodup, fun e he => by
    obtain ⟨i, k, h1, h2, h3⟩ := h.fwd e he
    exact ⟨(k, g i), (mkL_mem H g _).2 ⟨i, k, h1, rfl⟩, h2, h3⟩, fun p hp => by
    obtain ⟨i, k, h1, rfl⟩ := (mkL_mem H g p).1 hp
    exact h.bwd i k h1⟩
theorem hv_at {w : World} {T : Nat → Nat → Prop} {l : List (Int × Value)} {H : Sgs} (h : HV w T l H) : ∀ (i : Nat) (q : Int × List Int), H[i]? = some q → ∃ v, l[i]? = some (q.1, v) ∧ RB w T q.2 v := by
  induction h with
  | nil => intro i q hq; simp at hq
  | cons k v d l H h _ ih =>
    intro i q hq
    cases i with
    | zero => simp at hq; subst hq; exact ⟨v, rfl, h⟩
    | succ i => exact ih i q (by simpa using hq)
theorem rb_vr {w : World} {T S : Nat → Nat → Prop} {d : List Int} {v : Value} {L : Lay} (h : RB w T d v) (hS : ∀ b i, T b i → S b i) : VR w S L (fB d) v := by
  obtain ⟨b, o, c, rfl, h2, _, h4⟩ := h
  refine .fz _ _ _ b o c (fun i => .int .u8 (d.getD i 0)) h2 (fun i hi => ?_) (fun i x hx => ?_)
  · rw [cB_length] at hi
    exact ⟨hS _ _ (h4 i hi).1, (h4 i hi).2⟩
  · unfold cB at hx
    rw [List.getElem?_map] at hx
    obtain ⟨n, hn, rfl⟩ := Option.map_eq_some_iff.1 hx
    have : d.getD i 0 = n := by rw [List.getD_eq_getElem?_getD, hn]; rfl
    show VR w S noLay _ (.int .u8 (d.getD i 0))
    rw [this]
    exact .sc _ _
theorem vr_rb {w : World} {S : Nat → Nat → Prop} {d : List Int} {v : Value} {L : Lay} (h : VR w S L (fB d) v) (h0 : 0 < d.length) : RB w S d v := by
  obtain ⟨A, c, rfl, hc, h1⟩ := h.fz_eq
  rcases h1 with ⟨h1, _⟩ | ⟨b, o, g, rfl, h1, h2⟩
  · have := congrArg List.length h1
    rw [cB_length] at this
    simp at this
    omega
  · refine ⟨b, o, c, rfl, hc, h0, fun i hi => ?_⟩
    obtain ⟨h3, h4⟩ := h1 i (by rw [cB_length]; exact hi)
    refine ⟨h3, ?_⟩
    have := h2 i (.sc (.int .u8 (d.getD i 0))) (by unfold cB; rw [List.getElem?_map, List.getElem?_eq_getElem hi, List.getD_eq_getElem?_getD, List.getElem?_eq_getElem hi]; rfl)
    rw [h4, this.sc_eq]
theorem own_vr {w : World} {N : Nat} {v : Value} {out : List Int} {S : Nat → Nat → Prop} {L : Lay} (h : w.ownsRow N 5 1 v out.length (nu out)) (hS : ∀ b i, N ≤ b → b < w.heap.size → S b i) : VR w S L (fB out) v := by
  rcases h.2 with ⟨rfl, h0⟩ | ⟨g, cap, cur, rfl, hg, hgb, hnc, _, hcs, htk⟩
  · obtain rfl := List.length_eq_zero_iff.1 h0
    exact .fz0 _ _ _
  · by_cases h0 : out = []
    · subst h0
      exact .fz0 _ _ _
    · refine rb_vr (T := S) ⟨g, 0, cap, rfl, hnc, List.length_pos_iff.2 h0, fun i hi => ⟨hS _ _ hg (Array.getElem?_eq_some_iff.1 hgb).1, ?_⟩⟩ (fun _ _ h => h)
      rw [Nat.zero_add, cell_of hgb i]
      have e2 : (cur.toList.take (out.length * 1))[i]? = (nu out)[i]? := by rw [htk]
      rw [List.getElem?_take_of_lt (by omega), List.getElem?_map, List.getElem?_eq_getElem hi] at e2
      rw [← Array.getElem?_toList, e2, List.getD_eq_getElem?_getD, List.getElem?_eq_getElem hi]
      rfl
theorem hv_vr {w : World} {T S : Nat → Nat → Prop} {r : Nat} {l : List (Int × Value)} {H : Sgs} {L : Lay} (hm : mapL w r l) (h : HV w T l H) (hS : ∀ b i, T b i → S b i) : VR w S L (mH H) (.map (some r)) := by
  obtain ⟨es, ck, hb, hM⟩ := hm
  have hk := hv_keys h
  refine .mp _ _ _ r es ck (fun i => ((l[i]?).map (·.2)).getD undef) (by simp) hb ⟨hM.st, by rw [← hk]; exact hM.nd, fun e he => ?_, fun i k hi => ?_⟩ (fun i x hx => ?_)
  · obtain ⟨p, hp, e1, e2⟩ := hM.fwd e he
    obtain ⟨i, hi⟩ := List.mem_iff_getElem?.1 hp
    exact ⟨i, p.1, by rw [← hk, List.getElem?_map, hi]; rfl, e1, by rw [hi]; exact e2⟩
  · rw [← hk, List.getElem?_map] at hi
    obtain ⟨p, hp, rfl⟩ := Option.map_eq_some_iff.1 hi
    obtain ⟨e, he, e1, e2⟩ := hM.bwd p (List.mem_of_getElem? hp)
    exact ⟨e, he, e1, by rw [hp]; exact e2⟩
  · rw [List.getElem?_map] at hx
    obtain ⟨q, hq, rfl⟩ := Option.map_eq_some_iff.1 hx
    obtain ⟨v, hv, hr⟩ := hv_at h i q hq
    rw [hv]
    exact rb_vr hr hS
theorem hr_keep {P : Program} {W W' : World} {n m B : Nat} {I : Nat → Prop} {S : Nat → Nat → Prop} {L0 L : Lay} {hp : List (Nat × Ob)} (h : HR ⟨P, W, n, I, S, m, L0, B⟩ L hp W) (hb : Below W.heap.size W W') : HR ⟨P, W, n, I, S, m, L0, B⟩ L hp W' := by
  have hN : NcK W W' := NcK.of_lt hb.block
  refine ⟨fun id o ho => ?_, h.dead, h.inj, h.mine, h.kept, ⟨hb.os, hb.tape, hb.output, hb.size, fun k hk _ => hb.block k hk, hN⟩⟩
  obtain ⟨B', h1, h2, h3, h4⟩ := h.live id o ho
  refine ⟨B', h1, h2, h3, fun hz => ?_⟩
  obtain ⟨C, T, fr, h5, h6, h7, h8⟩ := h4 hz
  refine ⟨C, T, fr, (hb.block _ (Array.getElem?_eq_some_iff.1 h5).1).trans h5, h6, h7, fun i x hx => (h8 i x hx).move (fun b i u hs hc => ⟨hs, ?_⟩) (fun id y hy => .inl hy) hN.weak⟩
  have hlt : b < W.heap.size := by
    rcases Nat.lt_or_ge b W.heap.size with hl | hl
    · exact hl
    · simp [World.cell?, Array.getElem?_eq_none hl] at hc
  rw [← hc]
  simp only [World.cell?, hb.block b hlt]
theorem hget_of {w : World} {T : Nat → Nat → Prop} {l : List (Int × Value)} {H : Sgs} (h : HV w T l H) (k : Int) : (lget l k).isSome = (hget H k).isSome := by
  rcases hv_get h k with ⟨h1, h2⟩ | ⟨v, d, h1, h2, _⟩ <;> rw [h1, h2] <;> rfl
theorem vr_ag3 {w : World} {S : Nat → Nat → Prop} {L : Lay} {a b : Value} {y : AV} {v : Value} (h : VR w S L (.ag [.sc a, .sc b, y]) v) : ∃ z, v = .agg #[a, b, z] ∧ VR w S L y z := by
  obtain ⟨vs, g, rfl, h0, h1, h2⟩ := h.ag_eq
  obtain ⟨l⟩ := vs
  match l, h0 with
  | [p, q, z], _ =>
    have e0 := h1 0 (by simp)
    have e1 := h1 1 (by simp)
    have e2 := h1 2 (by simp)
    have f0 := (h2 0 _ rfl).sc_eq
    have f1 := (h2 1 _ rfl).sc_eq
    have f2 := h2 2 _ rfl
    simp at e0 e1 e2
    rw [e0, e1, f0, f1]
    exact ⟨z, rfl, by rw [e2]; exact f2⟩
theorem vr_map0 {w : World} {S : Nat → Nat → Prop} {L : Lay} {ks : List Int} {vs : List AV} {z : Value} (h : VR w S L (.mp ks vs) z) (H : Sgs) (e1 : ks = H.map (·.1)) (e2 : vs = H.map fun p => fB p.2) (h0 : ∀ p ∈ H, 0 < p.2.length) :
    ∃ m l, z = .map m ∧ MapV w (.map m) l ∧ HV w S l H := by
  cases h with
  | mp0 =>
    have : H = [] := by
      cases H with
      | nil => rfl
      | cons p H => simp at e1
    subst this
    exact ⟨none, [], rfl, .inl ⟨rfl, rfl⟩, .nil⟩
  | mp _ _ _ r es ck g a0 hm hM hv =>
    subst e1 e2
    refine ⟨some r, mkL H g, rfl, .inr ⟨r, rfl, es, ck, hm, mpl_of hM⟩, mkL_hv H g fun i q hq => ?_⟩
    have := hv i (fB q.2) (by rw [List.getElem?_map, hq]; rfl)
    exact vr_rb this (h0 q (List.mem_of_getElem? hq))
theorem vr_tu3 {w : World} {S : Nat → Nat → Prop} {L : Lay} {a b c : AV} {x y z : Value} (h1 : VR w S L a x) (h2 : VR w S L b y) (h3 : VR w S L c z) : VR w S L (.tu [a, b, c]) (.tuple #[x, y, z]) := by
  refine .tu _ _ _ (fun j => #[x, y, z].getD j undef) rfl (fun j hj => ?_) (fun j u hu => ?_)
  · rcases j with _ | _ | _ | j
    · rfl
    · rfl
    · rfl
    · simp at hj
      omega
  · rcases j with _ | _ | _ | j
    · simp at hu; subst hu; exact h1
    · simp at hu; subst hu; exact h2
    · simp at hu; subst hu; exact h3
    · simp at hu
theorem vr_mk3 {w : World} {S : Nat → Nat → Prop} {L : Lay} {a b c : AV} {x y z : Value} (h1 : VR w S L a x) (h2 : VR w S L b y) (h3 : VR w S L c z) : VR w S L (.ag [a, b, c]) (.agg #[x, y, z]) := by
  refine .ag _ _ _ (fun j => #[x, y, z].getD j undef) rfl (fun j hj => ?_) (fun j u hu => ?_)
  · rcases j with _ | _ | _ | j
    · rfl
    · rfl
    · rfl
    · simp at hj
      omega
  · rcases j with _ | _ | _ | j
    · simp at hu; subst hu; exact h1
    · simp at hu; subst hu; exact h2
    · simp at hu; subst hu; exact h3
    · simp at hu
theorem put_gen (hp0 : List (Nat × Ob)) (x : AV) (tot base off : Int) (H : Sgs) (d : List Int) (h : 0 ≤ base ∧ base ≤ tot ∧ tot ≤ 1099511627776) (ho : -9223372036854775808 ≤ off ∧ off ≤ 9223372036854775807)
    (hnd : (H.map (·.1)).Nodup) (hok : ∀ p ∈ H, p.1 ≤ 4611686018427387000 ∧ 0 < p.2.length ∧ p.2.length ≤ 256) (hln : H.length ≤ 1000)
    (hx : ∀ (W : World) (Ip : Nat → Prop) (S : Nat → Nat → Prop) (L : Lay) (v : Value), HR ⟨Try.prog, W, 0, Ip, S, 0, L, W.heap.size⟩ L hp0 W → VR W (sta ⟨Try.prog, W, 0, Ip, S, 0, L, W.heap.size⟩ L hp0) L x v → ∃ A c, v = .slice A d.length c ∧ (0 < d.length → ∃ b o, A = some ⟨b, o, none⟩ ∧ Rd W b o d)) :
    Con Try.prog 58 hp0 [.ag [I tot, I base, mH H], I off, x] hp0 (.tu [.ag [I tot, I (putF tot base H off d).1.1, mH (putF tot base H off d).1.2.1], fB (putF tot base H off d).1.2.2, Bo (putF tot base H off d).2]) := by
  intro W Ip S L cargs hn hHR hv
  obtain ⟨h1, h2⟩ := hv
  obtain ⟨v0, v1, v2, rfl⟩ : ∃ v0 v1 v2, cargs = #[v0, v1, v2] := by
    obtain ⟨l⟩ := cargs
    match l, h1 with
    | [a, b, c], _ => exact ⟨a, b, c, rfl⟩
  have g0 := h2 0 _ rfl
  have g1 := (h2 1 _ rfl).sc_eq
  have g2 := h2 2 _ rfl
  change VR W _ L _ v0 at g0
  change v1 = _ at g1
  change VR W _ L x v2 at g2
  subst g1
  obtain ⟨z, rfl, gz⟩ := vr_ag3 g0
  obtain ⟨A, c, rfl, hrd⟩ := hx W Ip S L v2 hHR g2
  obtain ⟨m, l, rfl, hmv, hH⟩ := vr_map0 gz H rfl rfl (fun p hp => (hok p hp).2.1)
  have hsame := hget_of hH off
  have early : ∀ W', Below W.heap.size W W' → (hget H off).isSome = true ∨ lgF tot base off = 0 ∨ ¬ (d.length : Int) = lgF tot base off →
      ∃ v L', Ending.returned (.tuple #[bv tot base (.map m), .slice none 0 0, .bool false]) = .returned v ∧ (∀ id y, L id = some y → L' id = some y ∨ L' id = some none) ∧ (∀ id, Go.Sim.look hp0 id = none → Go.Sim.look hp0 id = none → L' id = none) ∧
      HR ⟨Try.prog, W, 0, Ip, S, 0, L, W.heap.size⟩ L' hp0 W' ∧ VR W' (sta ⟨Try.prog, W, 0, Ip, S, 0, L, W.heap.size⟩ L' hp0) L' (.tu [.ag [I tot, I (putF tot base H off d).1.1, mH (putF tot base H off d).1.2.1], fB (putF tot base H off d).1.2.2, Bo (putF tot base H off d).2]) v := by
    intro W' hb hc
    unfold putF
    rw [if_pos hc]
    refine ⟨_, L, rfl, fun id y hy => .inl hy, fun id h1 _ => hn id h1, hr_keep hHR hb, vr_tu3 (vr_mk3 (.sc _ _) (.sc _ _) ?_) (.fz0 _ _ _) (.sc _ _)⟩
    refine gz.move (fun b i u hs hc => ⟨hs, ?_⟩) (fun id y hy => .inl hy) (NcK.of_lt hb.block).weak
    have hlt : b < W.heap.size := by
      rcases Nat.lt_or_ge b W.heap.size with hl | hl
      · exact hl
      · simp [World.cell?, Array.getElem?_eq_none hl] at hc
    rw [← hc]
    simp only [World.cell?, hb.block b hlt]
  by_cases c1 : (hget H off).isSome = true
  · rw [← hsame] at c1
    obtain ⟨v, hov⟩ := Option.isSome_iff_exists.1 c1
    refine (put_met W tot base off m l A d.length c h (by omega) hmv v hov).mono ?_
    rintro e W' ⟨rfl, hb⟩
    exact early W' hb (.inl (by rw [← hsame]; exact c1))
  have hov : lget l off = none := by
    rw [← hsame] at c1
    cases hl : lget l off with
    | none => rfl
    | some v => rw [hl] at c1; exact absurd rfl c1
  by_cases c2 : lgF tot base off = 0
  · refine (put_zero W tot base off m l A d.length c h (by omega) hmv hov c2).mono ?_
    rintro e W' ⟨rfl, hb⟩
    exact early W' hb (.inr (.inl c2))
  by_cases c3 : (d.length : Int) = lgF tot base off
  · have hd1 : d.length ≤ 256 := by
      unfold lgF at c3
      split at c3 <;> omega
    have ho2 : off ≤ 4611686018427387000 := by
      unfold lgF at c2
      split at c2
      · exact absurd rfl c2
      · rename_i hn
        omega
    obtain ⟨b, o, rfl, hrd'⟩ := hrd (by omega)
    refine (put_main W (sta ⟨Try.prog, W, 0, Ip, S, 0, L, W.heap.size⟩ L hp0) tot base off m l H b o c d h ⟨ho.1, ho2⟩ hmv hH hnd (fun p hp => ⟨(hok p hp).1, (hok p hp).2.2⟩) hln (by omega) hd1 hrd' hov c3.symm).mono ?_
    rintro e W' ⟨N, r, v, bs, lc, H', out, rfl, hmp, hhv, hown, hN, hb, hdr⟩
    unfold putF
    rw [if_neg (by rintro (h | h | h); exact c1 h; exact c2 h; exact h c3), hdr]
    have hnew : ∀ b i, W.heap.size ≤ b → sta ⟨Try.prog, W, 0, Ip, S, 0, L, W.heap.size⟩ L hp0 b i := fun b i hb' => .inr ⟨.inr hb', fun ⟨id, ob, B, h1, h2, h3, h4, h5⟩ => by
      obtain ⟨B', k1, k2, k3, k4⟩ := hHR.live id ob h1
      rw [h2] at k1
      injection k1 with k1
      injection k1 with k1
      subst k1
      obtain ⟨C, T, fr, k5, _⟩ := k4 (by omega)
      have := (Array.getElem?_eq_some_iff.1 k5).1
      rw [h3] at this
      omega⟩
    refine ⟨_, L, rfl, fun id y hy => .inl hy, fun id h1 _ => hn id h1, hr_keep hHR hb, vr_tu3 (vr_mk3 (.sc _ _) (.sc _ _) (hv_vr hmp hhv fun b i hT => ?_)) (own_vr hown fun b i h1 _ => hnew b i (by omega)) (.sc _ _)⟩
    rcases hT with hT | hT
    · exact hT.2
    · exact hnew b i (by omega)
  · refine (put_far W tot base off m l A d.length c h (by omega) hmv hov c2 c3).mono ?_
    rintro e W' ⟨rfl, hb⟩
    exact early W' hb (.inr (.inr c3))
theorem put_con (tot base off : Int) (H : Sgs) (d : List Int) (h : 0 ≤ base ∧ base ≤ tot ∧ tot ≤ 1099511627776) (ho : -9223372036854775808 ≤ off ∧ off ≤ 9223372036854775807)
    (hnd : (H.map (·.1)).Nodup) (hok : ∀ p ∈ H, p.1 ≤ 4611686018427387000 ∧ 0 < p.2.length ∧ p.2.length ≤ 256) (hln : H.length ≤ 1000) :
    Con Try.prog 58 [] [.ag [I tot, I base, mH H], I off, fB d] [] (.tu [.ag [I tot, I (putF tot base H off d).1.1, mH (putF tot base H off d).1.2.1], fB (putF tot base H off d).1.2.2, Bo (putF tot base H off d).2]) := by
  refine put_gen [] (fB d) tot base off H d h ho hnd hok hln fun W Ip S L v hHR hv => ?_
  by_cases h0 : 0 < d.length
  · obtain ⟨b, o, c, rfl, _, _, hr⟩ := vr_rb hv h0
    exact ⟨_, c, rfl, fun _ => ⟨b, o, rfl, fun i hi => (hr i hi).2⟩⟩
  · obtain ⟨A, c, rfl, _⟩ := hv.fz_eq
    exact ⟨A, c, rfl, fun h => absurd h h0⟩
end Go.Proofs.Ytbmdahhhgpbchaa.MpB
