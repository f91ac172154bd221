import Derived.Test.YtnfgnafphfddhaaLnkB
namespace Go.Proofs.Ytnfgnafphfddhaa.LnkC
open Go.RowKit Go.Proofs.YtnfgnafphfddhaaW.PrintWords Go.Proofs.YtnfgnafphfddhaaW.PrintMore Go.Proofs.Ytnfgnafphfddhaa.Bas Go.Proofs.Ytnfgnafphfddhaa.LnkA Go.Proofs.Ytnfgnafphfddhaa.LnkB
set_option linter.unusedVariables false
set_option linter.unusedSimpArgs false

/-- append(l[:n:n], b): always a new row. -/
theorem app_last (ty : TypeId) (w : World) (A : Option Addr) (n : Nat) (L : List (List Int)) (hr : ReadsS w A n L) (B : Option Addr) (m d : Nat) (b : List Int) (hb : ReadsInt w .u8 B m b) (hd : m ≤ d) (g : Nat)
    (hg : w.heap[g]? = some (.cells #[.slice B m d] 22 (0, 0))) (hn : n ≤ 1000000) :
    ∃ v' w' us, (Builtin.append_ #[35, 35] ty #[.slice A n n, .slice (some ⟨g, 0, none⟩) 1 1]).run Try.prog w = .ok v' w' ∧ w'.ownsRow w.heap.size 22 1 v' (n + 1) us ∧ Elems w' (L ++ [b]) us ∧ Below w.heap.size w w' := by
  obtain ⟨vs, he, hv⟩ := reads_vals hr
  obtain rfl := hr.1
  obtain rfl := hb.1
  obtain ⟨i0, hi, hzz⟩ := Option.map_eq_some_iff.1 info22
  simp only [Prod.mk.injEq] at hzz
  obtain ⟨hz0, hz1, hz2⟩ := hzz
  have hc : ∀ j u, [Value.slice B b.length d][j]? = some u → w.cell? ((⟨g, 0, none⟩ : Addr).add j) = some u := by
    intro j u hu
    rw [add_plain, blk_cell hg j]
    rcases j with _ | j
    · simpa using hu
    · simp at hu
  have fin : ∀ v' w', w'.ownsRow w.heap.size 22 1 v' (L.length + 1) (vs ++ [Value.slice B b.length d]) → w.grownBy w' none → ∃ us, w'.ownsRow w.heap.size 22 1 v' (L.length + 1) us ∧ Elems w' (L ++ [b]) us ∧ Below w.heap.size w w' := by
    intro v' w' hown hgr
    have hB : Below w.heap.size w w' := (Below.refl _ w).grown hgr (Nat.le_refl _) (fun k hk => by cases hk)
    exact ⟨_, hown, ((he.append (Elems.one hd hb)).below hB), hB⟩
  rcases A with _ | ad
  · have h0 : L.length = 0 := by
      rcases Nat.eq_zero_or_pos L.length with h | h
      · exact h
      · obtain ⟨ad, e, _⟩ := hr.2.2 0 h
        cases e
    have hvs : vs = [] := List.eq_nil_of_length_eq_zero (by rw [he.1, h0])
    obtain ⟨v', w', hrun, hown, hgr, _⟩ := run_append_own_at (P := Try.prog) w w.heap.size 35 ty 22 i0 (.slice none 0 0) 1 24 Try.underlying35 hi hz0 hz1 hz2 rfl (by decide) (.slice none 0 0) 0 [] (own_nil w _ 22 1) ⟨g, 0, none⟩ 1 1 [.slice B b.length d] rfl hc
      (by intro u hu; simp at hu; rw [hu]; rfl) (by decide) (by decide) (Nat.le_refl _)
    obtain ⟨us, e1, e2, e3⟩ := fin v' w' (by rw [h0, hvs]; simpa using hown) (by simpa [Value.ownBlock] using hgr)
    exact ⟨v', w', us, by rw [h0]; exact hrun, e1, e2, e3⟩
  · obtain ⟨v', w', hrun, hown, hgr⟩ := run_append_arg_grows (P := Try.prog) (w := w) 35 ty 22 i0 (.slice none 0 0) 1 24 Try.underlying35 hi hz0 hz1 hz2 rfl (by decide) ad L.length L.length vs (by rw [he.1]; omega) (hv ad rfl) ⟨g, 0, none⟩ 1 1 [.slice B b.length d] rfl hc (by omega) (by simp only [maxLen]; omega) (by omega)
    obtain ⟨us, e1, e2, e3⟩ := fin v' w' hown hgr
    exact ⟨v', w', us, hrun, e1, e2, e3⟩

theorem cell_keep {w w1 : World} {g : Nat} {B : Option Addr} {m d : Nat} (hg : w.heap[g]? = some (.cells #[.slice B m d] 22 (0, 0))) (hgr : w.grownBy w1 (some g)) {a : Addr} {k : IntKind} {x : Int} (hc : w.cell? a = some (.int k x)) : w1.cell? a = some (.int k x) := by
  refine keep_cell (g := g) ⟨hgr.size, fun i hi hne _ => hgr.block i hi (by simpa using hne)⟩ hc ?_
  intro he
  simp only [World.cell?, he, hg] at hc
  rcases ho : a.off with _ | o
  · rw [ho] at hc; simp at hc
  · rw [ho] at hc; simp at hc
theorem ints_keep {w w1 : World} {g : Nat} {B : Option Addr} {m d : Nat} (hg : w.heap[g]? = some (.cells #[.slice B m d] 22 (0, 0))) (hgr : w.grownBy w1 (some g)) {A : Option Addr} {n : Nat} {xs : List Int} (h : ReadsInt w .u8 A n xs) : ReadsInt w1 .u8 A n xs :=
  ⟨h.1, h.2.1, fun hn => by
    obtain ⟨ad, e, hc⟩ := h.2.2 hn
    exact ⟨ad, e, fun j hj => cell_keep hg hgr (hc j hj)⟩⟩
theorem elems_keep {w w1 : World} {g : Nat} {B : Option Addr} {m d : Nat} (hg : w.heap[g]? = some (.cells #[.slice B m d] 22 (0, 0))) (hgr : w.grownBy w1 (some g)) {L : List (List Int)} {vs : List Value} (h : Elems w L vs) : Elems w1 L vs :=
  ⟨h.1, fun j hj => by
    obtain ⟨A, c, h1, h2, h3⟩ := h.2 j hj
    exact ⟨A, c, h1, h2, ints_keep hg hgr h3⟩⟩

/-- append([]T{b}, l...). -/
theorem app_first (ty : TypeId) (w : World) (A : Option Addr) (n c : Nat) (L : List (List Int)) (hr : ReadsS w A n L) (B : Option Addr) (m d : Nat) (b : List Int) (hb : ReadsInt w .u8 B m b) (hd : m ≤ d) (g base : Nat)
    (hg : w.heap[g]? = some (.cells #[.slice B m d] 22 (0, 0))) (hn : n ≤ 1000000) (hbg : base ≤ g) :
    ∃ v' w' us, (Builtin.append_ #[35, 35] ty #[.slice (some ⟨g, 0, none⟩) 1 1, .slice A n c]).run Try.prog w = .ok v' w' ∧ w'.ownsRow base 22 1 v' (1 + n) us ∧ Elems w' ([b] ++ L) us ∧ Below base w w' := by
  obtain ⟨vs, he, hv⟩ := reads_vals hr
  obtain rfl := hr.1
  obtain rfl := hb.1
  obtain ⟨i0, hi, hzz⟩ := Option.map_eq_some_iff.1 info22
  simp only [Prod.mk.injEq] at hzz
  obtain ⟨hz0, hz1, hz2⟩ := hzz
  have hown0 : w.ownsRow base 22 1 (.slice (some ⟨g, 0, none⟩) 1 1) 1 [.slice B b.length d] := ⟨rfl, .inr ⟨g, 1, _, rfl, hbg, hg, Nat.le_refl _, by decide, rfl, rfl⟩⟩
  have hgl := blk_lt hg
  rcases A with _ | ad
  · have h0 : L.length = 0 := by
      rcases Nat.eq_zero_or_pos L.length with h | h
      · exact h
      · obtain ⟨ad, e, _⟩ := hr.2.2 0 h
        cases e
    have hL : L = [] := List.eq_nil_of_length_eq_zero h0
    subst hL
    refine ⟨.slice (some ⟨g, 0, none⟩) 1 1, w, _, ?_, hown0, Elems.one hd hb, Below.refl _ _⟩
    simp [Builtin.append_, run_underlying Try.underlying35, sizeOf, typeInfo, hi, Builtin.lenOf, Builtin.firstCells, storeCells]
  · obtain ⟨v', w', hrun, hown, hgr, _, hat⟩ := run_append_own_at (P := Try.prog) w base 35 ty 22 i0 (.slice none 0 0) 1 24 Try.underlying35 hi hz0 hz1 hz2 rfl (by decide) (.slice (some ⟨g, 0, none⟩) 1 1) 1 [.slice B b.length d] hown0 ad L.length c vs (by rw [he.1]; omega) (hv ad rfl) he.ones (by simp only [maxLen]; omega) (by omega) (by omega)
    have hB : Below base w w' := (Below.refl _ w).grown hgr (by omega) (own_base hown0)
    have hE : Elems w' ([b] ++ L) ([Value.slice B b.length d] ++ vs) := elems_keep hg (by simpa [Value.ownBlock] using hgr) ((Elems.one hd hb).append he)
    exact ⟨v', w', _, hrun, hown, hE, hB⟩

/-- A builtin as one step of a region that draws, its run a law. -/
theorem step_app {P : Program} {ops : Array Oper} {o : Oper} {a : Act} {w : World} {K : Act → World → Prop} {Q : Exit → Act → World → Prop} {E : Prop}
    (hg : o.guard = none) (s x : Operand) (t : TypeId) (hop : o.op = Op.call { callee := Callee.builtin Builtin.append, args := #[s, x], argTypes := #[t, t] })
    (v vx v1 : Value) (w1 : World) (hs : a.eval s = v) (hx : a.eval x = vx) (hrun : (Builtin.append_ #[t, t] o.type #[v, vx]).run P w = .ok v1 w1)
    (hK : K (a.put o.dst v1) w1) : if Region.wanted o (yielded ops a.tmps) = true then Oper.wp P o a w K Q else E := by
  have hw : Region.wanted o (yielded ops a.tmps) = true := by simp [Region.wanted, hg]
  rw [if_pos hw]
  unfold Oper.wp
  simp [execOp, hop, resolve, invoke, builtin, hs, hx, hrun, Result.andThen]
  exact hK

/-- A store into a block that holds no bytes. -/
theorem elems_far {w : World} {g t : Nat} {cs : Array Value} {fr : Nat × Nat} (hg : w.heap[g]? = some (.cells cs t fr)) (hno : ∀ (j : Nat) (x : Int), cs[j]? ≠ some (Value.int .u8 x)) {L : List (List Int)} {vs : List Value} (h : Elems w L vs) (j : Nat) (u : Value) : Elems (w.setCell ⟨g, j, none⟩ u) L vs :=
  ⟨h.1, fun i hi => by
    obtain ⟨A, c, h1, h2, h3⟩ := h.2 i hi
    refine ⟨A, c, h1, h2, h3.1, h3.2.1, fun hn => ?_⟩
    obtain ⟨ad, e, hc⟩ := h3.2.2 hn
    refine ⟨ad, e, fun q hq => ?_⟩
    have hcq := hc q hq
    refine keep_cell (g := g) ⟨by simp [World.setCell], fun k hk hne _ => Below.heap_setCell w ⟨g, j, none⟩ u k hne⟩ hcq ?_
    intro he
    simp only [World.cell?, he, hg] at hcq
    by_cases hs : (ad.add q).spot.isSome = true
    · rw [if_pos hs] at hcq; cases hcq
    · rw [if_neg hs] at hcq; exact hno _ _ hcq⟩
theorem own_far {w : World} {base n e : Nat} {v : Value} {vs : List Value} (h : w.ownsRow base e 1 v n vs) {g : Nat} (hg : g < base) (j : Nat) (u : Value) : (w.setCell ⟨g, j, none⟩ u).ownsRow base e 1 v n vs := by
  refine own_other h (row := some g) ⟨rfl, rfl, rfl, by simp [World.setCell], fun k hk hne => Below.heap_setCell w ⟨g, j, none⟩ u k (by simpa using hne)⟩ ?_
  rcases hv : v.ownBlock with _ | k
  · exact .inl rfl
  · refine .inr fun he => ?_
    injection he with he
    have := own_base h k hv
    omega
/-- Four stores into a link's cells. -/
def set4 (w : World) (g : Nat) (a b c d : Value) : World := (((w.setCell ⟨g, 0, none⟩ a).setCell ⟨g, 1, none⟩ b).setCell ⟨g, 2, none⟩ c).setCell ⟨g, 3, none⟩ d
theorem set4_blk {w : World} {g : Nat} {z0 z1 z2 z3 : Value} (h : w.heap[g]? = some (.cells #[z0, z1, z2, z3] 37 (0, 0))) (a b c d : Value) : (set4 w g a b c d).heap[g]? = some (.cells #[a, b, c, d] 37 (0, 0)) :=
  blk_put (blk_put (blk_put (blk_put h 0 a rfl) 1 b rfl) 2 c rfl) 3 d rfl
theorem set4_far {w : World} {g g' : Nat} {cs : Array Value} {t : TypeId} (h : w.heap[g']? = some (.cells cs t (0, 0))) (hne : g' ≠ g) (a b c d : Value) : (set4 w g a b c d).heap[g']? = some (.cells cs t (0, 0)) :=
  blk_far (blk_far (blk_far (blk_far h (by exact hne) a) (by exact hne) b) (by exact hne) c) (by exact hne) d
theorem set4_below {w W : World} {g : Nat} (h : Below W.heap.size W w) (hg : W.heap.size ≤ g) (a b c d : Value) : Below W.heap.size W (set4 w g a b c d) := below_set (below_set (below_set (below_set h hg) hg) hg) hg
theorem set4_own {w : World} {base n e g : Nat} {v : Value} {vs : List Value} (h : w.ownsRow base e 1 v n vs) (hg : g < base) (a b c d : Value) : (set4 w g a b c d).ownsRow base e 1 v n vs := own_far (own_far (own_far (own_far h hg 0 a) hg 1 b) hg 2 c) hg 3 d
theorem set4_elems {w : World} {g : Nat} {r n l : Int} {A : Option Addr} {k c : Nat} (hg : w.heap[g]? = some (.cells #[.int .i64 r, .slice A k c, .int .i64 n, .int .i64 l] 37 (0, 0))) {L : List (List Int)} {vs : List Value} (h : Elems w L vs) (r' n' l' : Int) (A' : Option Addr) (k' c' : Nat) :
    Elems (set4 w g (.int .i64 r') (.slice A' k' c') (.int .i64 n') (.int .i64 l')) L vs := by
  have h0 := elems_far hg (by intro j x; rcases j with _ | _ | _ | _ | j <;> simp) h 0 (.int .i64 r')
  have g0 := blk_put hg 0 (.int .i64 r') rfl
  have h1 := elems_far g0 (by intro j x; rcases j with _ | _ | _ | _ | j <;> simp) h0 1 (.slice A' k' c')
  have g1 := blk_put g0 1 (.slice A' k' c') rfl
  have h2 := elems_far g1 (by intro j x; rcases j with _ | _ | _ | _ | j <;> simp) h1 2 (.int .i64 n')
  have g2 := blk_put g1 2 (.int .i64 n') rfl
  exact elems_far g2 (by intro j x; rcases j with _ | _ | _ | _ | j <;> simp) h2 3 (.int .i64 l')
theorem own_readsS' {w : World} {base n c : Nat} {A : Option Addr} {L : List (List Int)} {vs : List Value} (h : w.ownsRow base 22 1 (.slice A n c) n vs) (he : Elems w L vs) : ReadsS w A n L ∧ n ≤ c := by
  obtain ⟨A', c', e1, e2, e3⟩ := own_readsS h he
  injection e1 with h1 h2 h3
  subst h1 h2 h3
  exact ⟨e3, e2⟩
theorem step_last {ops : Array Oper} {o : Oper} {a : Act} {w : World} {K : Act → World → Prop} {Q : Exit → Act → World → Prop} {E : Prop}
    (hg : o.guard = none) (s x : Operand) (hop : o.op = Op.call { callee := Callee.builtin Builtin.append, args := #[s, x], argTypes := #[35, 35] })
    (A : Option Addr) (n : Nat) (L : List (List Int)) (B : Option Addr) (m d : Nat) (b : List Int) (g : Nat) (hs : a.eval s = .slice A n n) (hx : a.eval x = .slice (some ⟨g, 0, none⟩) 1 1)
    (hr : ReadsS w A n L) (hb : ReadsInt w .u8 B m b) (hd : m ≤ d) (hgb : w.heap[g]? = some (.cells #[.slice B m d] 22 (0, 0))) (hn : n ≤ 1000000)
    (hK : ∀ v' us w', w'.ownsRow w.heap.size 22 1 v' (n + 1) us → Elems w' (L ++ [b]) us → Below w.heap.size w w' → K (a.put o.dst v') w') :
    if Region.wanted o (yielded ops a.tmps) = true then Oper.wp Try.prog o a w K Q else E := by
  obtain ⟨v', w', us, hrun, h2, h3, h4⟩ := app_last o.type w A n L hr B m d b hb hd g hgb hn
  exact step_app hg s x 35 hop _ _ _ w' hs hx hrun (hK v' us w' h2 h3 h4)
theorem step_first {ops : Array Oper} {o : Oper} {a : Act} {w : World} {K : Act → World → Prop} {Q : Exit → Act → World → Prop} {E : Prop}
    (hg : o.guard = none) (s x : Operand) (hop : o.op = Op.call { callee := Callee.builtin Builtin.append, args := #[s, x], argTypes := #[35, 35] })
    (A : Option Addr) (n c : Nat) (L : List (List Int)) (B : Option Addr) (m d : Nat) (b : List Int) (g base : Nat) (hs : a.eval s = .slice (some ⟨g, 0, none⟩) 1 1) (hx : a.eval x = .slice A n c)
    (hr : ReadsS w A n L) (hb : ReadsInt w .u8 B m b) (hd : m ≤ d) (hgb : w.heap[g]? = some (.cells #[.slice B m d] 22 (0, 0))) (hn : n ≤ 1000000) (hbg : base ≤ g)
    (hK : ∀ v' us w', w'.ownsRow base 22 1 v' (1 + n) us → Elems w' ([b] ++ L) us → Below base w w' → K (a.put o.dst v') w') :
    if Region.wanted o (yielded ops a.tmps) = true then Oper.wp Try.prog o a w K Q else E := by
  obtain ⟨v', w', us, hrun, h2, h3, h4⟩ := app_first o.type w A n c L hr B m d b hb hd g base hgb hn hbg
  exact step_app hg s x 35 hop _ _ _ w' hs hx hrun (hK v' us w' h2 h3 h4)

/-- The row does not lie there. -/
def Away (A : Option Addr) (n g : Nat) : Prop := ∀ ad, A = some ad → 0 < n → ad.block ≠ g
theorem own_away {w : World} {base n c e : Nat} {A : Option Addr} {vs : List Value} (h : w.ownsRow base e 1 (.slice A n c) n vs) {g : Nat} (hg : g < base) : Away A n g := by
  intro ad e1 hn
  subst e1
  rcases h.2 with ⟨h0, _⟩ | ⟨k, cap, cur, h0, hb, _⟩
  · cases h0
  · injection h0 with h0
    injection h0 with h0
    subst h0
    show k ≠ g
    omega
theorem reads_far {w : World} {A : Option Addr} {n : Nat} {L : List (List Int)} (h : ReadsS w A n L) {g t : Nat} {cs : Array Value} {fr : Nat × Nat} (hg : w.heap[g]? = some (.cells cs t fr)) (hno : ∀ (j : Nat) (x : Int), cs[j]? ≠ some (Value.int .u8 x)) (ha : Away A n g) (j : Nat) (u : Value) : ReadsS (w.setCell ⟨g, j, none⟩ u) A n L := by
  refine ⟨h.1, h.2.1, fun i hi => ?_⟩
  obtain ⟨ad, e, A', c', h1, h2, h3⟩ := h.2.2 i hi
  have hk : KeepBut w (w.setCell ⟨g, j, none⟩ u) g none := ⟨by simp [World.setCell], fun k hk hne _ => Below.heap_setCell w ⟨g, j, none⟩ u k hne⟩
  refine ⟨ad, e, A', c', keep_cell hk h1 ?_, h2, h3.1, h3.2.1, fun hn => ?_⟩
  · have := ha ad e (by omega)
    have hb : (ad.add i).block = ad.block := by unfold Addr.add; split <;> rfl
    rw [hb]; exact this
  · obtain ⟨ad', e', hc⟩ := h3.2.2 hn
    refine ⟨ad', e', fun q hq => ?_⟩
    have hcq := hc q hq
    refine keep_cell hk hcq ?_
    intro he
    simp only [World.cell?, he, hg] at hcq
    by_cases hs : (ad'.add q).spot.isSome = true
    · rw [if_pos hs] at hcq; cases hcq
    · rw [if_neg hs] at hcq; exact hno _ _ hcq
theorem reads_set4 {w : World} {g : Nat} {r n l : Int} {A0 : Option Addr} {k c : Nat} (hg : w.heap[g]? = some (.cells #[.int .i64 r, .slice A0 k c, .int .i64 n, .int .i64 l] 37 (0, 0))) {A : Option Addr} {m : Nat} {L : List (List Int)} (h : ReadsS w A m L) (ha : Away A m g) (r' n' l' : Int) (A' : Option Addr) (k' c' : Nat) :
    ReadsS (set4 w g (.int .i64 r') (.slice A' k' c') (.int .i64 n') (.int .i64 l')) A m L := by
  have h0 := reads_far h hg (by intro j x; rcases j with _ | _ | _ | _ | j <;> simp) ha 0 (.int .i64 r')
  have g0 := blk_put hg 0 (.int .i64 r') rfl
  have h1 := reads_far h0 g0 (by intro j x; rcases j with _ | _ | _ | _ | j <;> simp) ha 1 (.slice A' k' c')
  have g1 := blk_put g0 1 (.slice A' k' c') rfl
  have h2 := reads_far h1 g1 (by intro j x; rcases j with _ | _ | _ | _ | j <;> simp) ha 2 (.int .i64 n')
  have g2 := blk_put g1 2 (.int .i64 n') rfl
  exact reads_far h2 g2 (by intro j x; rcases j with _ | _ | _ | _ | j <;> simp) ha 3 (.int .i64 l')
theorem reads_away {w : World} {A : Option Addr} {n : Nat} {L : List (List Int)} (h : ReadsS w A n L) {g : Nat} (hg : w.heap.size ≤ g) : Away A n g := by
  intro ad e hn
  obtain ⟨ad', e', A', c', h1, _⟩ := h.2.2 0 hn
  rw [e] at e'
  injection e' with e'
  subst e'
  have := World.block_lt_of_cell? w _ h1
  have hb : (ad.add 0).block = ad.block := by unfold Addr.add; split <;> rfl
  omega

def firstL (room : Int) (L : List (List Int)) (b : List Int) : List (List Int) := if room ≤ (L.length : Int) then L else [b] ++ L
theorem bel_le {w w1 w2 : World} {B C : Nat} (h : Below B w w1) (hB : B ≤ C) (k : Below C w1 w2) : Below B w w2 :=
  h.trans ⟨k.os, k.tape, k.output, k.size, fun i hi => k.block i (Nat.lt_of_lt_of_le hi hB)⟩
def putL (room : Int) (L : List (List Int)) (b : List Int) : List (List Int) := if room ≤ (L.length : Int) then L else L ++ [b]
def putN (room lost : Int) (L : List (List Int)) : Int := if room ≤ (L.length : Int) then lost + 1 else lost

set_option maxHeartbeats 8000000 in
theorem put_calls (room sent lost : Int) (A : Option Addr) (n c : Nat) (L : List (List Int)) (B : Option Addr) (m d : Nat) (b : List Int) (W : World) (hr : ReadsS W A n L) (hc : n ≤ c) (hb : ReadsInt W .u8 B m b) (hd : m ≤ d) (hm : m ≤ 100000) (hn : n ≤ 100000) (hlo : 0 ≤ lost ∧ lost ≤ 1000000) :
    Calls Try.prog 63 #[lv room sent lost A n c, .slice B m d] W fun e W' => ∃ A' c', e = .returned (lv room sent (putN room lost L) A' (putL room L b).length c') ∧ ReadsS W' A' (putL room L b).length (putL room L b) ∧ (putL room L b).length ≤ c' ∧ Below W.heap.size W W' ∧ (∀ g, g < W.heap.size → Away A n g → Away A' (putL room L b).length g) := by
  have hln := hr.1
  have HR := Aside0.mk hr
  have HRB := Aside0.mk hb
  clear hr hb
  by_cases hf : room ≤ (n : Int)
  · have h1 : putL room L b = L := if_pos (by rw [hln]; exact hf)
    have h2 : putN room lost L = lost + 1 := if_pos (by rw [hln]; exact hf)
    rw [h1, h2, hln]
    clear h1 h2
    go_enter Try.func63, Try.ntmps63
    go_wp2_with (fail)
    refine bodyPost_ret (results_cell_row rfl _ _ (W.heap.size + 1) 37 #[.int .i64 room, .slice A n c, .int .i64 sent, .int .i64 (lost + 1)] (0, 0) _ rfl (blk_second W _ _) Try.underlying37 rfl (by kernel_rfl)) rfl ⟨A, c, rfl, ?_, hc, ?_⟩
    · exact ReadsS_below HR.out (below_alloc (below_alloc (Below.refl _ _) _) _)
    · exact ⟨below_alloc (below_alloc (Below.refl _ _) _) _, fun g _ h => h⟩
  · have h1 : putL room L b = L ++ [b] := if_neg (by rw [hln]; exact hf)
    have h2 : putN room lost L = lost := if_neg (by rw [hln]; exact hf)
    have h3 : (L ++ [b]).length = n + 1 := by rw [List.length_append, hln]; rfl
    rw [h1, h2, h3]
    clear h1 h2
    go_enter Try.func63, Try.ntmps63
    go_upto_region 5 with fail
    have HX1 := Aside0.mk (blk_alloc (blk_new W (.cells #[.int .i64 room, .slice A n c, .int .i64 sent, .int .i64 lost] 37)) (.cells #[.int .i64 0, .slice none 0 0, .int .i64 0, .int .i64 0] 37))
    have HX2 := Aside0.mk (blk_second W (.cells #[.int .i64 room, .slice A n c, .int .i64 sent, .int .i64 lost] 37) (.cells #[.int .i64 0, .slice none 0 0, .int .i64 0, .int .i64 0] 37))
    have HBW := Aside0.mk (below_alloc (below_alloc (Below.refl W.heap.size W) (.cells #[.int .i64 room, .slice A n c, .int .i64 sent, .int .i64 lost] 37)) (.cells #[.int .i64 0, .slice none 0 0, .int .i64 0, .int .i64 0] 37))
    have hsz : ((W.alloc (.cells #[.int .i64 room, .slice A n c, .int .i64 sent, .int .i64 lost] 37)).alloc (.cells #[.int .i64 0, .slice none 0 0, .int .i64 0, .int .i64 0] 37)).heap.size = W.heap.size + 2 := by simp
    generalize (W.alloc (.cells #[.int .i64 room, .slice A n c, .int .i64 sent, .int .i64 lost] 37)).alloc (.cells #[.int .i64 0, .slice none 0 0, .int .i64 0, .int .i64 0] 37) = W1 at *
    have HR1 := Aside0.mk (ReadsS_below HR.out HBW.out)
    have HRB1 := Aside0.mk (HRB.out.below HBW.out)
    have k1 := blk_cell HX1.out 1
    have hs1 : W.heap.size < W1.heap.size := by omega
    have hs2 : W.heap.size + 1 < W1.heap.size := by omega
    have hnn : (n : Int) ≤ (n : Int) := by omega
    have hnc : (n : Int) ≤ (c : Int) := by omega
    go_region_law (first
      | (refine step_last rfl (.tmp 22) (.tmp 25) rfl A n L B2 b.length d2 b w2.heap.size (by simp [Act.eval, Act.put]) (by simp [Act.eval, Act.put]) ?r ?b ?d ?g (by omega) ?_; (case r => exact ReadsS_below (ReadsS_below HR1.out hbC) (below_alloc (Below.refl _ _) _)); (case b => exact hrC.allocS _); (case d => exact hcC); (case g => exact blk_new _ _); intro v3 us w3 hown3 hE3 hb3; obtain ⟨A3, c3, hv3⟩ := own_slice hown3; subst hv3; have HX3 := Aside0.mk (blk_below (blk_alloc (blk_below HX1.out hbC) _) hb3); have HX4 := Aside0.mk (blk_below (blk_alloc (blk_below HX2.out hbC) _) hb3); have kc := blk_cell HX3.out 1; have kf := blk_frozen HX3.out 1; have hs4 := blk_lt HX3.out; have hs5 := blk_lt HX4.out; have HO3 := Aside0.mk hown3; have HE3 := Aside0.mk hE3; have HB3 := Aside0.mk hb3; clear hown3 hE3 hb3)
      | (go_simp; go_at_call 62; refine (Clone_n B m d b _ (by exact HRB1.out) (by omega)).mono ?_; rintro e w2 ⟨v2, rfl, hown, hbC⟩; obtain ⟨B2, d2, rfl, hcC, hrC⟩ := Bas.own_cap hown; replace hbC := below_then (below_drew (Below.refl _ W1)) (Nat.le_refl _) hbC; have kk := blk_cell (blk_below HX1.out hbC) 1; have hs3 := blk_lt (blk_below HX1.out hbC)))
    all_goals
      have HP : Aside0 ((w3.setCell ⟨W.heap.size, 1, none⟩ (.slice A3 (n + 1) c3)).heap[W.heap.size]? = some (.cells #[.int .i64 room, .slice A3 (n + 1) c3, .int .i64 sent, .int .i64 lost] 37 (0, 0))) := ⟨blk_put HX3.out 1 _ rfl⟩
      have HQ : Aside0 ((w3.setCell ⟨W.heap.size, 1, none⟩ (.slice A3 (n + 1) c3)).heap[W.heap.size + 1]? = some (.cells #[.int .i64 0, .slice none 0 0, .int .i64 0, .int .i64 0] 37 (0, 0))) := ⟨blk_far HX4.out (by show W.heap.size + 1 ≠ W.heap.size; omega) _⟩
      have hb2 := hbC.size
      have hal : (w2.alloc (.cells #[.slice B2 b.length d2] 22)).heap.size = w2.heap.size + 1 := by simp
      have HO4 := Aside0.mk (own_weaken (base' := W.heap.size + 2) (own_far HO3.out (g := W.heap.size) (by omega) 1 (.slice A3 (n + 1) c3)) (by omega))
      have HE4 := Aside0.mk (elems_far HX3.out (by intro j x; rcases j with _ | _ | _ | _ | j <;> simp) HE3.out 1 (.slice A3 (n + 1) c3))
      have HB4 := Aside0.mk (below_set (below_then (below_then (below_then HBW.out (by omega) (hbC : Below W1.heap.size W1 w2)) (by omega) (below_alloc (Below.refl _ w2) (.cells #[.slice B2 b.length d2] 22))) (by omega) HB3.out) (Nat.le_refl W.heap.size) (j := 1) (v := .slice A3 (n + 1) c3))
      clear HX3 HX4 HO3 HE3 HB3 kc kf hal hb2 hown hbC hrC kk k1
      generalize w3.setCell ⟨W.heap.size, 1, none⟩ (.slice A3 (n + 1) c3) = w4 at *
      have p0 := blk_cell HP.out 0
      have p1 := blk_cell HP.out 1
      have p2 := blk_cell HP.out 2
      have p3 := blk_cell HP.out 3
      have q0 := blk_cell HQ.out 0
      have q1 := blk_cell HQ.out 1
      have q2 := blk_cell HQ.out 2
      have q3 := blk_cell HQ.out 3
      have f0 := blk_frozen HQ.out 0
      have f1 := blk_frozen HQ.out 1
      have f2 := blk_frozen HQ.out 2
      have f3 := blk_frozen HQ.out 3
      go_wp2_with (fail)
      have HF := set4_blk HQ.out (.int .i64 room) (.slice A3 (n + 1) c3) (.int .i64 sent) (.int .i64 lost)
      have HRS := own_readsS' (set4_own HO4.out (g := W.heap.size + 1) (by omega) (.int .i64 room) (.slice A3 (n + 1) c3) (.int .i64 sent) (.int .i64 lost)) (set4_elems HQ.out HE4.out room sent lost A3 (n + 1) c3)
      have HBF := set4_below HB4.out (g := W.heap.size + 1) (by omega) (.int .i64 room) (.slice A3 (n + 1) c3) (.int .i64 sent) (.int .i64 lost)
      refine bodyPost_ret (results_cell_row rfl _ _ (W.heap.size + 1) 37 _ (0, 0) _ rfl HF Try.underlying37 rfl (by kernel_rfl)) rfl ⟨A3, c3, rfl, HRS.1, HRS.2, HBF, fun g hg _ => own_away HO4.out (by omega)⟩

set_option maxHeartbeats 8000000 in
theorem first_calls (room sent lost : Int) (A : Option Addr) (n c : Nat) (L : List (List Int)) (B : Option Addr) (m d : Nat) (b : List Int) (W : World) (hr : ReadsS W A n L) (hc : n ≤ c) (hb : ReadsInt W .u8 B m b) (hd : m ≤ d) (hm : m ≤ 100000) (hn : n ≤ 100000) (hlo : 0 ≤ lost ∧ lost ≤ 1000000) :
    Calls Try.prog 64 #[lv room sent lost A n c, .slice B m d] W fun e W' => ∃ A' c', e = .returned (lv room sent (putN room lost L) A' (firstL room L b).length c') ∧ ReadsS W' A' (firstL room L b).length (firstL room L b) ∧ (firstL room L b).length ≤ c' ∧ Below W.heap.size W W' ∧ (∀ g, g < W.heap.size → Away A n g → Away A' (firstL room L b).length g) := by
  have hln := hr.1
  have HR := Aside0.mk hr
  have HRB := Aside0.mk hb
  clear hr hb
  by_cases hf : room ≤ (n : Int)
  · have h1 : firstL room L b = L := if_pos (by rw [hln]; exact hf)
    have h2 : putN room lost L = lost + 1 := if_pos (by rw [hln]; exact hf)
    rw [h1, h2, hln]
    clear h1 h2
    go_enter Try.func64, Try.ntmps64
    go_wp2_with (fail)
    refine bodyPost_ret (results_cell_row rfl _ _ (W.heap.size + 1) 37 #[.int .i64 room, .slice A n c, .int .i64 sent, .int .i64 (lost + 1)] (0, 0) _ rfl (blk_second W _ _) Try.underlying37 rfl (by kernel_rfl)) rfl ⟨A, c, rfl, ?_, hc, ?_⟩
    · exact ReadsS_below HR.out (below_alloc (below_alloc (Below.refl _ _) _) _)
    · exact ⟨below_alloc (below_alloc (Below.refl _ _) _) _, fun g _ h => h⟩
  · have h1 : firstL room L b = [b] ++ L := if_neg (by rw [hln]; exact hf)
    have h2 : putN room lost L = lost := if_neg (by rw [hln]; exact hf)
    have h3 : ([b] ++ L).length = 1 + n := by rw [List.length_append, hln]; rfl
    rw [h1, h2, h3]
    clear h1 h2
    go_enter Try.func64, Try.ntmps64
    go_upto_region 4 with fail
    have HX1 := Aside0.mk (blk_alloc (blk_new W (.cells #[.int .i64 room, .slice A n c, .int .i64 sent, .int .i64 lost] 37)) (.cells #[.int .i64 0, .slice none 0 0, .int .i64 0, .int .i64 0] 37))
    have HX2 := Aside0.mk (blk_second W (.cells #[.int .i64 room, .slice A n c, .int .i64 sent, .int .i64 lost] 37) (.cells #[.int .i64 0, .slice none 0 0, .int .i64 0, .int .i64 0] 37))
    have HBW := Aside0.mk (below_alloc (below_alloc (Below.refl W.heap.size W) (.cells #[.int .i64 room, .slice A n c, .int .i64 sent, .int .i64 lost] 37)) (.cells #[.int .i64 0, .slice none 0 0, .int .i64 0, .int .i64 0] 37))
    have hsz : ((W.alloc (.cells #[.int .i64 room, .slice A n c, .int .i64 sent, .int .i64 lost] 37)).alloc (.cells #[.int .i64 0, .slice none 0 0, .int .i64 0, .int .i64 0] 37)).heap.size = W.heap.size + 2 := by simp
    generalize (W.alloc (.cells #[.int .i64 room, .slice A n c, .int .i64 sent, .int .i64 lost] 37)).alloc (.cells #[.int .i64 0, .slice none 0 0, .int .i64 0, .int .i64 0] 37) = W1 at *
    have HR1 := Aside0.mk (ReadsS_below HR.out HBW.out)
    have HRB1 := Aside0.mk (HRB.out.below HBW.out)
    have k1 := blk_cell HX1.out 1
    have hs1 : W.heap.size < W1.heap.size := by omega
    have hs2 : W.heap.size + 1 < W1.heap.size := by omega
    have hnn : (n : Int) ≤ (n : Int) := by omega
    have hnc : (n : Int) ≤ (c : Int) := by omega
    go_region_law (first
      | (refine step_first rfl (.tmp 18) (.tmp 20) rfl A n c L B2 b.length d2 b w2.heap.size (W.heap.size + 2) (by simp [Act.eval, Act.put]) (by simp [Act.eval, Act.put]) ?r ?b ?d ?g (by omega) ?hb ?_; (case r => exact ReadsS_below (ReadsS_below HR1.out hbC) (below_alloc (Below.refl _ _) _)); (case b => exact hrC.allocS _); (case d => exact hcC); (case g => exact blk_new _ _); (case hb => have := hbC.size; omega); intro v3 us w3 hown3 hE3 hb3; obtain ⟨A3, c3, hv3⟩ := own_slice hown3; subst hv3; have HX3 := Aside0.mk ((hb3.block W.heap.size (by omega)).trans (blk_alloc (blk_below HX1.out hbC) _)); have HX4 := Aside0.mk ((hb3.block (W.heap.size + 1) (by omega)).trans (blk_alloc (blk_below HX2.out hbC) _)); have kc := blk_cell HX3.out 1; have kf := blk_frozen HX3.out 1; have hs4 := blk_lt HX3.out; have hs5 := blk_lt HX4.out; have HO3 := Aside0.mk hown3; have HE3 := Aside0.mk hE3; have HB3 := Aside0.mk hb3; clear hown3 hE3 hb3)
      | (go_simp; go_at_call 62; refine (Clone_n B m d b _ (by exact HRB1.out) (by omega)).mono ?_; rintro e w2 ⟨v2, rfl, hown, hbC⟩; obtain ⟨B2, d2, rfl, hcC, hrC⟩ := Bas.own_cap hown; replace hbC := below_then (below_drew (Below.refl _ W1)) (Nat.le_refl _) hbC; have kk := blk_cell (blk_below HX1.out hbC) 1; have hs3 := blk_lt (blk_below HX1.out hbC)))
    all_goals
      have HP : Aside0 ((w3.setCell ⟨W.heap.size, 1, none⟩ (.slice A3 (1 + n) c3)).heap[W.heap.size]? = some (.cells #[.int .i64 room, .slice A3 (1 + n) c3, .int .i64 sent, .int .i64 lost] 37 (0, 0))) := ⟨blk_put HX3.out 1 _ rfl⟩
      have HQ : Aside0 ((w3.setCell ⟨W.heap.size, 1, none⟩ (.slice A3 (1 + n) c3)).heap[W.heap.size + 1]? = some (.cells #[.int .i64 0, .slice none 0 0, .int .i64 0, .int .i64 0] 37 (0, 0))) := ⟨blk_far HX4.out (by show W.heap.size + 1 ≠ W.heap.size; omega) _⟩
      have hb2 := hbC.size
      have hal : (w2.alloc (.cells #[.slice B2 b.length d2] 22)).heap.size = w2.heap.size + 1 := by simp
      have HO4 := Aside0.mk (own_far HO3.out (g := W.heap.size) (by omega) 1 (.slice A3 (1 + n) c3))
      have HE4 := Aside0.mk (elems_far HX3.out (by intro j x; rcases j with _ | _ | _ | _ | j <;> simp) HE3.out 1 (.slice A3 (1 + n) c3))
      have HB4 := Aside0.mk (below_set (bel_le (below_then (below_then HBW.out (by omega) (hbC : Below W1.heap.size W1 w2)) (by omega) (below_alloc (Below.refl _ w2) (.cells #[.slice B2 b.length d2] 22))) (by omega) HB3.out) (Nat.le_refl W.heap.size) (j := 1) (v := .slice A3 (1 + n) c3))
      clear HX3 HX4 HO3 HE3 HB3 kc kf hal hb2 hown hbC hrC kk k1
      generalize w3.setCell ⟨W.heap.size, 1, none⟩ (.slice A3 (1 + n) c3) = w4 at *
      have p0 := blk_cell HP.out 0
      have p1 := blk_cell HP.out 1
      have p2 := blk_cell HP.out 2
      have p3 := blk_cell HP.out 3
      have q0 := blk_cell HQ.out 0
      have q1 := blk_cell HQ.out 1
      have q2 := blk_cell HQ.out 2
      have q3 := blk_cell HQ.out 3
      have f0 := blk_frozen HQ.out 0
      have f1 := blk_frozen HQ.out 1
      have f2 := blk_frozen HQ.out 2
      have f3 := blk_frozen HQ.out 3
      go_wp2_with (fail)
      have HF := set4_blk HQ.out (.int .i64 room) (.slice A3 (1 + n) c3) (.int .i64 sent) (.int .i64 lost)
      have HRS := own_readsS' (set4_own HO4.out (g := W.heap.size + 1) (by omega) (.int .i64 room) (.slice A3 (1 + n) c3) (.int .i64 sent) (.int .i64 lost)) (set4_elems HQ.out HE4.out room sent lost A3 (1 + n) c3)
      have HBF := set4_below HB4.out (g := W.heap.size + 1) (by omega) (.int .i64 room) (.slice A3 (1 + n) c3) (.int .i64 sent) (.int .i64 lost)
      refine bodyPost_ret (results_cell_row rfl _ _ (W.heap.size + 1) 37 _ (0, 0) _ rfl HF Try.underlying37 rfl (by kernel_rfl)) rfl ⟨A3, c3, rfl, HRS.1, HRS.2, HBF, fun g hg _ => own_away HO4.out (by omega)⟩
end Go.Proofs.Ytnfgnafphfddhaa.LnkC
