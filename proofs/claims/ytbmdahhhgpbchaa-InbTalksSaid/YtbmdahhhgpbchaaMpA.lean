import Derived.Test.YtbmdahhhgpbchaaSimD
import Derived.Maps.RangeWalk
import Derived.Maps.OwnSet
import Derived.Maps.RangeRun
namespace Go.Sim
open Go.RowKit
set_option linter.unusedVariables false
set_option linter.unusedSimpArgs false
/-! ### maps by hand -/
/-- A map's entries, as a list (in whatever order). -/
structure MpL (es : Array MapEntry) (ck : Nat) (l : List (Int × Value)) : Prop where
  st : MapKept.Stamped es ck
  nd : (l.map (·.1)).Nodup
  fwd : ∀ e ∈ es.toList, ∃ p ∈ l, e.key = .int .i64 p.1 ∧ e.val = p.2
  bwd : ∀ p ∈ l, ∃ e ∈ es.toList, e.key = .int .i64 p.1 ∧ e.val = p.2
def mapL (w : World) (r : Nat) (l : List (Int × Value)) : Prop := ∃ es ck, w.heap[r]? = some (.map es ck) ∧ MpL es ck l
def lget (l : List (Int × Value)) (k : Int) : Option Value := (l.find? (fun p => p.1 == k)).map (·.2)
def setM (w : World) (r : Nat) (es : Array MapEntry) (ck : Nat) : World := { w with heap := w.heap.setIfInBounds r (.map es ck) }
theorem setM_spec {w : World} {r : Nat} {o : Obj} (hb : w.heap[r]? = some o) (es : Array MapEntry) (ck : Nat) :
    (setM w r es ck).heap[r]? = some (.map es ck) ∧ w.grownBy (setM w r es ck) (some r) ∧ (setM w r es ck).heap.size = w.heap.size :=
  ⟨(MapKept.heap_set hb).1, ⟨rfl, rfl, rfl, by simp [setM], fun i _ hi => (MapKept.heap_set hb).2 i (fun e => hi (by rw [e]))⟩, by simp [setM]⟩
theorem mapL.lt {w : World} {r : Nat} {l : List (Int × Value)} (h : mapL w r l) : r < w.heap.size := by
  obtain ⟨es, ck, hb, _⟩ := h
  exact (Array.getElem?_eq_some_iff.1 hb).1
theorem mapL.kept {w w' : World} {r : Nat} {l : List (Int × Value)} {row : Option Nat} (h : mapL w r l) (hg : w.grownBy w' row) (hne : some r ≠ row) : mapL w' r l := by
  have hlt := h.lt
  obtain ⟨es, ck, hb, hM⟩ := h
  exact ⟨es, ck, (hg.block r hlt hne).trans hb, hM⟩
theorem mapL.made (w : World) : mapL (w.alloc (.map #[] 0)) w.heap.size [] := ⟨#[], 0, (MapKept.heap_alloc w _).1, MapKept.stamped_empty 0, List.nodup_nil, fun e he => by simp at he, fun p hp => by cases hp⟩
theorem MpL.keys {es : Array MapEntry} {ck : Nat} {l : List (Int × Value)} (h : MpL es ck l) : ∀ x ∈ es.toList, MapKept.IsKey (.int .i64) x.key := fun x hx => by
  obtain ⟨p, _, e, _⟩ := h.fwd x hx
  rw [e]; rfl
theorem lget_mem {l : List (Int × Value)} (hn : (l.map (·.1)).Nodup) {p : Int × Value} (hp : p ∈ l) : lget l p.1 = some p.2 := by
  induction l with
  | nil => cases hp
  | cons q l ih =>
    simp only [List.map_cons, List.nodup_cons] at hn
    unfold lget
    rw [List.find?_cons]
    rcases List.mem_cons.1 hp with rfl | hp
    · simp
    · have hne : (q.1 == p.1) = false := by
        rw [beq_eq_false_iff_ne]
        intro e
        exact hn.1 (by rw [e]; exact List.mem_map_of_mem hp)
      rw [hne]
      exact ih hn.2 hp
theorem lget_none {l : List (Int × Value)} {k : Int} (h : k ∉ l.map (·.1)) : lget l k = none := by
  unfold lget
  rw [Option.map_eq_none_iff, List.find?_eq_none]
  intro p hp e
  rw [beq_iff_eq] at e
  exact h (by rw [← e]; exact List.mem_map_of_mem hp)
section
variable {P : Program} {w : World} {t kt et : TypeId} {r : Nat} {l : List (Int × Value)}
theorem mapL.find {es : Array MapEntry} {ck : Nat} (hM : MpL es ck l) (k : Int) :
    (Instr.findNow (.int .i64) (.int .i64 k) es.toList 0 = some none ∧ (∀ x ∈ es.toList, x.key ≠ .int .i64 k) ∧ k ∉ l.map (·.1)) ∨
    ∃ j e p, Instr.findNow (.int .i64) (.int .i64 k) es.toList 0 = some (some (j, e.val)) ∧ es[j]? = some e ∧ e.key = .int .i64 k ∧ p ∈ l ∧ p.1 = k ∧ p.2 = e.val := by
  have hik : MapKept.IsKey (.int .i64) (.int .i64 k) := rfl
  rcases MapKept.findNow_spec hik es.toList 0 hM.keys with ⟨h1, h2⟩ | ⟨j, e, h1, h2, h3⟩
  · refine .inl ⟨h1, h2, fun hk => ?_⟩
    obtain ⟨p, hp, rfl⟩ := List.mem_map.1 hk
    obtain ⟨e, he, e1, _⟩ := hM.bwd p hp
    exact h2 e he e1
  · obtain ⟨p, hp, e2, e3⟩ := hM.fwd e (List.mem_of_getElem? h2)
    rw [e2] at h3
    injection h3 with _ h4
    exact .inr ⟨j, e, p, by simpa using h1, by simpa using h2, by rw [e2, h4], hp, h4, e3.symm⟩
theorem mapL.lookup (h : mapL w r l) (hm : P.underlying t = some (.map kt et)) (hk : P.underlying kt = some (.int .i64)) (hz : (zeroValue et).run P w = .ok (.slice none 0 0) w) (k : Int) (ok : Bool) :
    (Instr.lookup t (.map (some r)) (.int .i64 k) ok).run P w = .ok (if ok = true then .tuple #[(lget l k).getD (.slice none 0 0), .bool (lget l k).isSome] else (lget l k).getD (.slice none 0 0)) w := by
  obtain ⟨es, ck, hb, hM⟩ := h
  have hik : MapKept.IsKey (.int .i64) (.int .i64 k) := rfl
  rcases mapL.find hM k with ⟨h1, h2, h3⟩ | ⟨j, e, p, h1, h2, h3, h4, h5, h6⟩
  · rw [lget_none h3]
    cases ok <;> simp [Instr.lookup, run_underlying hm, MapKept.run_getObj_map hb, MapKept.run_checkKey hk hik, MapKept.run_findKey hk h1, hz, Result.andThen]
  · have := lget_mem hM.nd h4
    rw [h5] at this
    rw [this, h6]
    cases ok <;> simp [Instr.lookup, run_underlying hm, MapKept.run_getObj_map hb, MapKept.run_checkKey hk hik, MapKept.run_findKey hk h1, Result.andThen]
theorem lookup_nilmap (hm : P.underlying t = some (.map kt et)) (hk : P.underlying kt = some (.int .i64)) (hz : (zeroValue et).run P w = .ok (.slice none 0 0) w) (k : Int) (ok : Bool) :
    (Instr.lookup t (.map none) (.int .i64 k) ok).run P w = .ok (if ok = true then .tuple #[(lget [] k).getD (.slice none 0 0), .bool (lget [] k).isSome] else (lget [] k).getD (.slice none 0 0)) w := map_lookup_nil hm hk hz k ok
theorem mapL.update (h : mapL w r l) (hm : P.underlying t = some (.map kt et)) (hk : P.underlying kt = some (.int .i64)) (k : Int) (v : Value) (hn : k ∉ l.map (·.1)) :
    ∃ w', (Instr.mapUpdate t (.map (some r)) (.int .i64 k) v).run P w = .ok () w' ∧ mapL w' r (l ++ [(k, v)]) ∧ w.grownBy w' (some r) ∧ w'.heap.size = w.heap.size := by
  obtain ⟨es, ck, hb, hM⟩ := h
  have hik : MapKept.IsKey (.int .i64) (.int .i64 k) := rfl
  rcases mapL.find hM k with ⟨h1, h2, h3⟩ | ⟨j, e, p, h1, h2, h3, h4, h5, h6⟩
  · obtain ⟨s1, s2, s3⟩ := setM_spec hb (es.push ⟨.int .i64 k, v, ck⟩) (ck + 1)
    refine ⟨setM w r (es.push ⟨.int .i64 k, v, ck⟩) (ck + 1), by simp [Instr.mapUpdate, run_underlying hm, MapKept.run_getObj_map hb, MapKept.run_checkKey hk hik, MapKept.run_findKey hk h1, MapKept.run_setObj_map _ hb, Result.andThen, setM], ⟨_, _, s1, MapKept.stamped_push hM.st h2, ?_, ?_, ?_⟩, s2, s3⟩
    · rw [List.map_append, List.nodup_append]
      refine ⟨hM.nd, by simp, fun a ha b hb e => ?_⟩
      simp at hb
      subst hb
      subst e
      exact hn ha
    · intro e he
      simp only [Array.toList_push, List.mem_append, List.mem_singleton] at he
      rcases he with he | rfl
      · obtain ⟨p, hp, e1, e2⟩ := hM.fwd e he
        exact ⟨p, List.mem_append_left _ hp, e1, e2⟩
      · exact ⟨(k, v), by simp, rfl, rfl⟩
    · intro p hp
      rcases List.mem_append.1 hp with hp | hp
      · obtain ⟨e, he, e1, e2⟩ := hM.bwd p hp
        exact ⟨e, by simp [he], e1, e2⟩
      · simp at hp
        subst hp
        exact ⟨⟨.int .i64 k, v, ck⟩, by simp, rfl, rfl⟩
  · exact absurd (by rw [← h5]; exact List.mem_map_of_mem h4) hn
theorem mapL.delete (h : mapL w r l) (hm : P.underlying t = some (.map kt et)) (hk : P.underlying kt = some (.int .i64)) (k : Int) (ty : TypeId) :
    ∃ w', (Builtin.delete_ #[t, kt] ty #[.map (some r), .int .i64 k]).run P w = .ok (.tuple #[]) w' ∧ mapL w' r (l.filter (fun p => !(p.1 == k))) ∧ w.grownBy w' (some r) ∧ w'.heap.size = w.heap.size := by
  obtain ⟨es, ck, hb, hM⟩ := h
  have hik : MapKept.IsKey (.int .i64) (.int .i64 k) := rfl
  have hnd : ((l.filter (fun p => !(p.1 == k))).map (·.1)).Nodup := (List.filter_sublist.map _).nodup hM.nd
  rcases mapL.find hM k with ⟨h1, h2, h3⟩ | ⟨j, e, p, h1, h2, h3, h4, h5, h6⟩
  · have hl : l.filter (fun p => !(p.1 == k)) = l := by
      rw [List.filter_eq_self]
      intro p hp
      have : p.1 ≠ k := fun e => h3 (by rw [← e]; exact List.mem_map_of_mem hp)
      simpa using this
    obtain ⟨s1, s2, s3⟩ := setM_spec hb es ck
    refine ⟨setM w r es ck, by simp [Builtin.delete_, run_underlying hm, MapKept.run_getObj_map hb, MapKept.run_checkKey hk hik, MapKept.run_findKey hk h1, MapKept.run_setObj_map _ hb, Result.andThen, setM], ⟨_, _, s1, by rw [hl]; exact hM⟩, s2, s3⟩
  · have hjl : j < es.size := (Array.getElem?_eq_some_iff.1 h2).1
    have hes : (es.eraseIdxIfInBounds j).toList = es.toList.eraseIdx j := by
      unfold Array.eraseIdxIfInBounds
      rw [dif_pos hjl, Array.toList_eraseIdx]
    have hkn := hM.st.2.2
    have hej : es.toList[j]? = some e := by simpa using h2
    have mem : ∀ x, x ∈ es.toList.eraseIdx j ↔ x ∈ es.toList ∧ x.key ≠ .int .i64 k := by
      intro x
      constructor
      · intro hx
        obtain ⟨i, hi⟩ := List.mem_iff_getElem?.1 hx
        rw [List.getElem?_eraseIdx] at hi
        have hi' : ∃ i', i' ≠ j ∧ es.toList[i']? = some x := by
          split at hi
          · exact ⟨i, by omega, hi⟩
          · exact ⟨i + 1, by omega, hi⟩
        obtain ⟨i', hne, hx'⟩ := hi'
        refine ⟨List.mem_of_getElem? hx', fun e1 => hne ?_⟩
        have a1 : (es.toList.map (·.key))[i']? = some (.int .i64 k) := by rw [List.getElem?_map, hx', ← e1]; rfl
        have a2 : (es.toList.map (·.key))[j]? = some (.int .i64 k) := by rw [List.getElem?_map, hej, ← h3]; rfl
        have l1 := (List.getElem?_eq_some_iff.1 a1).1
        exact (List.getElem?_inj l1 hkn).1 (a1.trans a2.symm)
      · rintro ⟨hx, hne⟩
        obtain ⟨i, hi⟩ := List.mem_iff_getElem?.1 hx
        have hij : i ≠ j := fun e1 => by subst e1; rw [hej] at hi; injection hi with hi; subst hi; exact hne h3
        rw [List.mem_iff_getElem?]
        by_cases hlt : i < j
        · exact ⟨i, by rw [List.getElem?_eraseIdx, if_pos hlt]; exact hi⟩
        · exact ⟨i - 1, by rw [List.getElem?_eraseIdx, if_neg (by omega), show i - 1 + 1 = i from by omega]; exact hi⟩
    obtain ⟨s1, s2, s3⟩ := setM_spec hb (es.eraseIdxIfInBounds j) ck
    refine ⟨setM w r (es.eraseIdxIfInBounds j) ck, by simp [Builtin.delete_, run_underlying hm, MapKept.run_getObj_map hb, MapKept.run_checkKey hk hik, MapKept.run_findKey hk h1, MapKept.run_setObj_map _ hb, Result.andThen, setM], ⟨_, _, s1, MapKept.stamped_erase hM.st j, hnd, ?_, ?_⟩, s2, s3⟩
    · intro x hx
      rw [hes, mem] at hx
      obtain ⟨q, hq, e1, e2⟩ := hM.fwd x hx.1
      refine ⟨q, ?_, e1, e2⟩
      rw [List.mem_filter]
      refine ⟨hq, ?_⟩
      have : q.1 ≠ k := fun e' => hx.2 (by rw [e1, e'])
      simpa using this
    · intro q hq
      rw [List.mem_filter] at hq
      obtain ⟨x, hx, e1, e2⟩ := hM.bwd q hq.1
      refine ⟨x, ?_, e1, e2⟩
      rw [hes, mem]
      refine ⟨hx, fun e' => ?_⟩
      rw [e1] at e'
      injection e' with _ e'
      simp [e'] at hq
end

section
variable {P : Program} {t kt et : TypeId} {r : Nat} {l : List (Int × Value)}
/-- A map's value. -/
def MapV (w : World) (mv : Value) (l : List (Int × Value)) : Prop := (mv = .map none ∧ l = []) ∨ ∃ r, mv = .map (some r) ∧ mapL w r l
theorem MapV.lookup {w : World} {mv : Value} (h : MapV w mv l) (hm : P.underlying t = some (.map kt et)) (hk : P.underlying kt = some (.int .i64)) (hz : (zeroValue et).run P w = .ok (.slice none 0 0) w) (k : Int) (ok : Bool) :
    (Instr.lookup t mv (.int .i64 k) ok).run P w = .ok (if ok = true then .tuple #[(lget l k).getD (.slice none 0 0), .bool (lget l k).isSome] else (lget l k).getD (.slice none 0 0)) w := by
  rcases h with ⟨rfl, rfl⟩ | ⟨r, rfl, h⟩
  · exact lookup_nilmap hm hk hz k ok
  · exact h.lookup hm hk hz k ok
variable (w : World) {ops : Array Oper} {rest : List Oper} {o : Oper} {a : Act} {Q : Exit → Act → World → Prop}
theorem wpList_lookup_mp (hg : o.guard = none) (m x : Operand) (t : TypeId) (hop : o.op = Op.lookup t m x true) (kt et : TypeId) (ht : P.underlying t = some (.map kt et)) (hk : P.underlying kt = some (.int .i64))
    (hz : (zeroValue et).run P w = .ok (.slice none 0 0) w) (mv : Value) (l : List (Int × Value)) (hm : a.eval m = mv) (hv : MapV w mv l) (k : Int) (hx : a.eval x = .int .i64 k)
    (hK : ∀ v b, v = (lget l k).getD (.slice none 0 0) → b = (lget l k).isSome → wpList P ops Q rest (a.put o.dst (.tuple #[v, .bool b])) w) : wpList P ops Q (o :: rest) a w := by
  refine wpList_plain hg fun K' hK' => ?_
  have hrun := hv.lookup ht hk hz k true
  unfold Oper.wp
  simp [execOp, hop, hm, hx, hrun, Result.andThen]
  exact hK' _ _ (hK _ _ rfl rfl)
theorem wpList_update_mp (hg : o.guard = none) (m x v : Operand) (t : TypeId) (hop : o.op = Op.mapUpdate t m x v) (kt et : TypeId) (ht : P.underlying t = some (.map kt et)) (hk : P.underlying kt = some (.int .i64))
    (r : Nat) (l : List (Int × Value)) (hm : a.eval m = .map (some r)) (h : mapL w r l) (k : Int) (key val : Value) (hx : a.eval x = key) (hkey : key = .int .i64 k) (hv : a.eval v = val) (hn : k ∉ l.map (·.1))
    (hK : ∀ w', mapL w' r (l ++ [(k, val)]) → w.grownBy w' (some r) → w'.heap.size = w.heap.size → wpList P ops Q rest (a.put o.dst undef) w') : wpList P ops Q (o :: rest) a w := by
  refine wpList_plain hg fun K' hK' => ?_
  obtain ⟨w', hrun, r1, r2, r3⟩ := h.update ht hk k val hn
  subst hkey
  unfold Oper.wp
  simp [execOp, hop, hm, hx, hv, hrun, Result.andThen]
  exact hK' _ _ (hK w' r1 r2 r3)
theorem wpList_delete_mp (hg : o.guard = none) (m x : Operand) (t kt : TypeId) (hop : o.op = Op.call { callee := Callee.builtin Builtin.delete, args := #[m, x], argTypes := #[t, kt] }) (et : TypeId) (ht : P.underlying t = some (.map kt et)) (hk : P.underlying kt = some (.int .i64))
    (r : Nat) (l : List (Int × Value)) (hm : a.eval m = .map (some r)) (h : mapL w r l) (k : Int) (hx : a.eval x = .int .i64 k)
    (hK : ∀ w', mapL w' r (l.filter (fun p => !(p.1 == k))) → w.grownBy w' (some r) → w'.heap.size = w.heap.size → wpList P ops Q rest (a.put o.dst (.tuple #[])) w') : wpList P ops Q (o :: rest) a w := by
  refine wpList_plain hg fun K' hK' => ?_
  obtain ⟨w', hrun, r1, r2, r3⟩ := h.delete ht hk k o.type
  unfold Oper.wp
  simp [execOp, hop, resolve, invoke, builtin, hm, hx, hrun, Result.andThen]
  exact hK' _ _ (hK w' r1 r2 r3)
/-- A loop over a map is under way: the map's entries, and those that have come. -/
structure Ranges (w : World) (b it : Nat) (es : Array MapEntry) (ck : Nat) (seen : Array Nat) : Prop where
  mp : w.heap[b]? = some (.map es ck)
  it : ∃ c0, ck ≤ c0 ∧ w.heap[it]? = some (.mapIter (some b) ck seen c0)
theorem Ranges.kept {w w' : World} {b it : Nat} {es : Array MapEntry} {ck : Nat} {seen : Array Nat} {row : Option Nat} (h : Ranges w b it es ck seen) (hg : w.grownBy w' row) (h1 : some b ≠ row) (h2 : some it ≠ row) : Ranges w' b it es ck seen := by
  obtain ⟨h3, c0, h4, h5⟩ := h
  exact ⟨(hg.block b (Array.getElem?_eq_some_iff.1 h3).1 h1).trans h3, c0, h4, (hg.block it (Array.getElem?_eq_some_iff.1 h5).1 h2).trans h5⟩
theorem Ranges.left {w : World} {b it : Nat} {es : Array MapEntry} {ck : Nat} {seen : Array Nat} (h : Ranges w b it es ck seen) : w.rangeLeft b it = (leftOf es seen).size := by
  obtain ⟨h3, c0, h4, h5⟩ := h
  simp only [World.rangeLeft, h3, h5]
theorem wpList_range_mp (hg : o.guard = none) (m : Operand) (t : TypeId) (hop : o.op = Op.range t m) (kt et : TypeId) (ht : P.underlying t = some (.map kt et)) (b : Nat) (es : Array MapEntry) (ck : Nat) (hm : a.eval m = .map (some b)) (hb : w.heap[b]? = some (.map es ck))
    (hK : ∀ w', Ranges w' b w.heap.size es ck #[] → w.grownBy w' none → w'.heap.size = w.heap.size + 1 → wpList P ops Q rest (a.put o.dst (.pointer (some ⟨w.heap.size, 0, none⟩))) w') : wpList P ops Q (o :: rest) a w := by
  refine wpList_plain hg fun K' hK' => ?_
  have hrun := run_range_map (P := P) w t kt et b es ck ht hb
  unfold Oper.wp
  simp [execOp, hop, hm, hrun, Result.andThen]
  exact hK' _ _ (hK _ ⟨((MapKept.heap_alloc w _).2 b (Array.getElem?_eq_some_iff.1 hb).1).trans hb, ck, Nat.le_refl _, (MapKept.heap_alloc w _).1⟩ (World.grownBy_alloc w _ none) (by simp))
theorem left_push {es : Array MapEntry} {ck : Nat} (hS : MapKept.Stamped es ck) {seen : Array Nat} {e : MapEntry} (he : e ∈ (leftOf es seen).toList) : (leftOf es (seen.push e.born)).size < (leftOf es seen).size := by
  have e1 : ∀ s, (leftOf es s).size = (es.toList.filter fun x => !s.contains x.born).length := fun s => by
    unfold leftOf
    rw [← Array.length_toList, Array.toList_filter]
  rw [e1, e1]
  have hm : e ∈ es.toList.filter fun x => !seen.contains x.born := by
    have := he
    unfold leftOf at this
    rwa [Array.toList_filter] at this
  have e2 : (es.toList.filter fun x => !(seen.push e.born).contains x.born) = (es.toList.filter fun x => !seen.contains x.born).filter (fun x => !(x.born == e.born)) := by
    rw [List.filter_filter]
    refine List.filter_congr fun x _ => ?_
    simp only [Array.contains_push]
    cases seen.contains x.born <;> cases (x.born == e.born) <;> rfl
  rw [e2]
  refine Nat.lt_of_le_of_ne (List.length_filter_le _ _) fun h => ?_
  have := List.length_filter_eq_length_iff.1 h e hm
  simp at this
structure Come (es : Array MapEntry) (seen : Array Nat) (l : List (Int × Value)) (e : MapEntry) (k : Int) (v : Value) : Prop where
  mem : e ∈ es.toList
  new : seen.contains e.born = false
  key : e.key = .int .i64 k
  val : e.val = v
  inl : (k, v) ∈ l
def AllCome (es : Array MapEntry) (seen : Array Nat) : Prop := ∀ e ∈ es.toList, seen.contains e.born = true
def Came (es : Array MapEntry) (seen : Array Nat) (l l1 : List (Int × Value)) : Prop := ∀ p, p ∈ l1 ↔ p ∈ l ∧ ∃ e ∈ es.toList, seen.contains e.born = true ∧ e.key = .int .i64 p.1
theorem wpList_next_mp (hg : o.guard = none) (it : Operand) (hop : o.op = Op.next it false) (b i : Nat) (es : Array MapEntry) (ck : Nat) (seen : Array Nat) (l : List (Int × Value))
    (hit : a.eval it = .pointer (some ⟨i, 0, none⟩)) (h : Ranges w b i es ck seen) (hM : MpL es ck l) (hbi : b ≠ i)
    (hDone : AllCome es seen → wpList P ops Q rest (a.put o.dst (.tuple #[.bool false])) w)
    (hMore : ∀ (k : Int) (v : Value) (e : MapEntry) (w' : World), Come es seen l e k v → Ranges w' b i es ck (seen.push e.born) → w'.rangeLeft b i < w.rangeLeft b i →
      w.grownBy w' (some i) → w'.heap.size = w.heap.size → (Instr.entry (.pointer (some ⟨i, 0, none⟩))).run P w' = .ok (.tuple #[.int .i64 k, v]) w' → wpList P ops Q rest (a.put o.dst (.tuple #[.bool true, .int .i64 k, v])) w') :
    wpList P ops Q (o :: rest) a w := by
  refine wpList_plain hg fun K' hK' => ?_
  unfold Oper.wp
  obtain ⟨hb, c0, hc, hi⟩ := id h
  rcases run_next_at (P := P) w o.type i b ck c0 seen es ck hi hb hM.st.1 hc with ⟨h0, hrun⟩ | ⟨e, he, w1, hw1, hrun⟩
  · simp [execOp, hop, hit, hrun, Result.andThen]
    refine hK' _ _ (hDone fun e he => ?_)
    have hn : (leftOf es seen) = #[] := Array.eq_empty_of_size_eq_zero h0
    unfold leftOf at hn
    rw [Array.filter_eq_empty_iff] at hn
    have := hn e (by simpa using he)
    simpa using this
  · have hl : e ∈ es.toList ∧ seen.contains e.born = false := by
      have := he
      unfold leftOf at this
      rw [Array.toList_filter, List.mem_filter] at this
      exact ⟨this.1, by simpa using this.2⟩
    obtain ⟨p, hp, e1, e2⟩ := hM.fwd e hl.1
    have hg1 : w.grownBy w1 (some i) ∧ w1.heap = w.heap := by
      rcases hw1 with rfl | rfl
      · exact ⟨⟨rfl, rfl, rfl, Nat.le_refl _, fun _ _ _ => rfl⟩, rfl⟩
      · exact ⟨⟨rfl, rfl, rfl, Nat.le_refl _, fun _ _ _ => rfl⟩, rfl⟩
    have hi1 : w1.heap[i]? = some (.mapIter (some b) ck seen c0) := by rw [hg1.2]; exact hi
    have hil := (Array.getElem?_eq_some_iff.1 hi).1
    have s1 : (ChangeMaps.setBlock w1 i (.mapIter (some b) ck (seen.push e.born) ck)).heap[i]? = some (.mapIter (some b) ck (seen.push e.born) ck) := (MapKept.heap_set hi1).1
    have s2 : ∀ j, j ≠ i → (ChangeMaps.setBlock w1 i (.mapIter (some b) ck (seen.push e.born) ck)).heap[j]? = w.heap[j]? := fun j hj => by rw [show (ChangeMaps.setBlock w1 i (.mapIter (some b) ck (seen.push e.born) ck)).heap[j]? = w1.heap[j]? from (MapKept.heap_set hi1).2 j hj, hg1.2]
    have sz : (ChangeMaps.setBlock w1 i (.mapIter (some b) ck (seen.push e.born) ck)).heap.size = w.heap.size := by simp [ChangeMaps.setBlock, hg1.2]
    have hR : Ranges (ChangeMaps.setBlock w1 i (.mapIter (some b) ck (seen.push e.born) ck)) b i es ck (seen.push e.born) := ⟨(s2 b hbi).trans hb, ck, Nat.le_refl _, s1⟩
    have hen := run_entry_at (P := P) _ i b ck seen es ck e s1 ((s2 b hbi).trans hb) hl.1 hM.st.2.1
    rw [e1, e2] at hen
    simp [execOp, hop, hit, hrun, Result.andThen, e1, e2]
    exact hK' _ _ (hMore p.1 p.2 e _ ⟨hl.1, hl.2, e1, e2, by simpa using hp⟩ hR (by rw [hR.left, h.left]; exact left_push hM.st he)
      ⟨hg1.1.os, hg1.1.tape, hg1.1.output, by rw [sz]; exact Nat.le_refl _, fun j hj hne => s2 j (fun e => hne (by rw [e]))⟩ sz hen)
end
end Go.Sim
