import Derived.Test.YtbmdahhhgpbchaaRbB
namespace Go.Proofs.Ytbmdahhhgpbchaa.RbP
open Go Go.Sim Go.Sim.E Go.RowKit Go.Proofs Go.Proofs.Ytbmdahhhgpbchaa.Cod Go.Proofs.Ytbmdahhhgpbchaa.Tab Go.Proofs.Ytbmdahhhgpbchaa.Bse Go.Proofs.Ytbmdahhhgpbchaa.SpnP Go.Proofs.Ytbmdahhhgpbchaa.SwA Go.Proofs.Ytbmdahhhgpbchaa.SwB Go.Proofs.Ytbmdahhhgpbchaa.SwC Go.Proofs.Ytbmdahhhgpbchaa.SwS Go.Proofs.Ytbmdahhhgpbchaa.SwD Go.Proofs.Ytbmdahhhgpbchaa.SwF Go.Proofs.Ytbmdahhhgpbchaa.SwG Go.Proofs.Ytbmdahhhgpbchaa.SwL Go.Proofs.Ytbmdahhhgpbchaa.RbA Go.Proofs.Ytbmdahhhgpbchaa.MpB Go.Proofs.Ytbmdahhhgpbchaa.RbB
set_option linter.unusedVariables false
set_option linter.unusedSimpArgs false
set_option maxRecDepth 100000
set_option maxHeartbeats 4000000
/-! ### what a buffer holds (plainly) -/
theorem hget_mem {H : Sgs} {k : Int} {x : List Int} (h : hget H k = some x) : (k, x) ∈ H := by
  unfold hget at h
  obtain ⟨p, hp, rfl⟩ := Option.map_eq_some_iff.1 h
  have := List.find?_some hp
  have e : p.1 = k := by simpa using this
  subst e
  exact List.mem_of_find?_eq_some hp
theorem hget_none {H : Sgs} {k : Int} (h : hget H k = none) : ∀ p ∈ H, p.1 ≠ k := by
  intro p hp e
  unfold hget at h
  rw [Option.map_eq_none_iff, List.find?_eq_none] at h
  exact h p hp (by simpa using e)
theorem hdel_ne {H : Sgs} {k : Int} {p : Int × List Int} (h : p ∈ hdel H k) : p.1 ≠ k := by
  have := (List.mem_filter.1 h).2
  simpa using this
/-- A buffer's segments: within reach, each whole. -/
structure RW (tot b : Int) (H : Sgs) : Prop where
  nd : (H.map (·.1)).Nodup
  ge : ∀ p ∈ H, b ≤ p.1 ∧ p.1 < tot ∧ p.1 < b + 2048 ∧ p.1 % 256 = 0 ∧ (p.2.length : Int) = min 256 (tot - p.1)
  b0 : 0 ≤ b ∧ b ≤ tot
  ba : b % 256 = 0 ∨ b = tot
theorem RW.nil {tot b : Int} (h : 0 ≤ b ∧ b ≤ tot) (ha : b % 256 = 0 ∨ b = tot) : RW tot b [] := ⟨List.nodup_nil, (fun p hp => by cases hp), h, ha⟩
/-- Bytes of a stream from a place to a place. -/
def cutS (s : List Int) (a b : Int) : List Int := (s.drop a.toNat).take (b.toNat - a.toNat)
theorem cutS_nil (s : List Int) (a : Int) : cutS s a a = [] := by simp [cutS]
theorem cutS_app (s : List Int) (a b c : Int) (h : 0 ≤ a ∧ a ≤ b ∧ b ≤ c) : cutS s a b ++ cutS s b c = cutS s a c := by
  unfold cutS
  have e1 : s.drop b.toNat = (s.drop a.toNat).drop (b.toNat - a.toNat) := by rw [List.drop_drop]; congr 1; omega
  have e2 : c.toNat - a.toNat = (b.toNat - a.toNat) + (c.toNat - b.toNat) := by omega
  rw [e1, e2, List.take_add]
theorem cutS_len (s : List Int) (a b : Int) (h : 0 ≤ a ∧ a ≤ b ∧ b ≤ (s.length : Int)) : ((cutS s a b).length : Int) = b - a := by
  unfold cutS
  rw [List.length_take, List.length_drop]
  omega
/-- The segments are those of the stream. -/
def OfS (s : List Int) (tot : Int) (H : Sgs) : Prop := ∀ p ∈ H, p.2 = cutS s p.1 (min (p.1 + 256) tot)
theorem RW.step {tot b : Int} {H : Sgs} (h : RW tot b H) {x : List Int} (hg : hget H b = some x) : RW tot (b + x.length) (hdel H b) ∧ (x.length : Int) = min 256 (tot - b) ∧ 0 < x.length := by
  have hm := hget_mem hg
  obtain ⟨h1, h2, h3, h4, h5⟩ := h.ge _ hm
  simp only at h1 h2 h3 h4 h5
  have hb := h.b0
  refine ⟨⟨hdel_nd h.nd b, fun p hp => ?_, by omega, ?_⟩, h5, by omega⟩
  · obtain ⟨a1, a2, a3, a4, a5⟩ := h.ge p (hdel_sub hp)
    have a6 := hdel_ne hp
    exact ⟨by omega, a2, by omega, a4, a5⟩
  · by_cases c : tot - b < 256
    · exact .inr (by omega)
    · exact .inl (by omega)
theorem dr_spec {tot : Int} : ∀ (n : Nat) (b : Int) (H : Sgs) (out : List Int), H.length ≤ n → RW tot b H →
    RW tot (drF n b H out).1 (drF n b H out).2.1 ∧ hget (drF n b H out).2.1 (drF n b H out).1 = none ∧ (∀ p ∈ (drF n b H out).2.1, p ∈ H) ∧ b ≤ (drF n b H out).1 ∧ (drF n b H out).2.1.length ≤ H.length ∧
    ((hget H b).isSome = true → b < (drF n b H out).1) ∧ ∀ s : List Int, OfS s tot H → (s.length : Int) = tot → (drF n b H out).2.2 = out ++ cutS s b (drF n b H out).1
  | 0, b, H, out, hl, h => by
    obtain rfl : H = [] := List.length_eq_zero_iff.1 (by omega)
    refine ⟨h, rfl, fun p hp => hp, Int.le_refl _, Nat.le_refl _, (fun e => by cases e), fun s _ _ => ?_⟩
    show out = out ++ cutS s b b
    rw [cutS_nil, List.append_nil]
  | n + 1, b, H, out, hl, h => by
    cases hg : hget H b with
    | none =>
      rw [drF_none hg]
      refine ⟨h, hg, fun p hp => hp, Int.le_refl _, Nat.le_refl _, (fun e => by cases e), fun s _ _ => ?_⟩
      show out = out ++ cutS s b b
      rw [cutS_nil, List.append_nil]
    | some x =>
      obtain ⟨h1, h2, h3⟩ := h.step hg
      have hlen := hdel_len h.nd (hget_mem hg)
      obtain ⟨r1, r2, r3, r4, r5, r6, r7⟩ := dr_spec n (b + x.length) (hdel H b) (out ++ x) (by omega) h1
      have e : drF (n + 1) b H out = drF n (b + x.length) (hdel H b) (out ++ x) := by simp only [drF, hg]
      rw [e]
      refine ⟨r1, r2, fun p hp => hdel_sub (r3 p hp), by omega, by omega, fun _ => by omega, fun s hs ht => ?_⟩
      rw [r7 s (fun p hp => hs p (hdel_sub hp)) ht, List.append_assoc]
      have hx := hs _ (hget_mem hg)
      simp only at hx
      have hb := h.b0
      rw [show min (b + 256) tot = b + (x.length : Int) by omega] at hx
      rw [← cutS_app s b (b + x.length) _ ⟨by omega, by omega, r4⟩, ← hx]
theorem lgF_pos {tot b off : Int} (hb : 0 ≤ b) (h : ¬ lgF tot b off = 0) : b ≤ off ∧ off < tot ∧ off < b + 2048 ∧ off % 256 = 0 ∧ lgF tot b off = min 256 (tot - off) := by
  unfold lgF at h ⊢
  split at h
  · exact absurd rfl h
  · rename_i hn
    have h1 : off.tmod 256 = 0 := Decidable.byContradiction fun e => hn (.inr (.inr e))
    rw [Int.tmod_eq_emod_of_nonneg (by omega)] at h1
    rw [if_neg hn]
    exact ⟨by omega, by omega, by omega, h1, rfl⟩
/-- What Put does, plainly. -/
theorem put_spec {tot b : Int} {H : Sgs} (h : RW tot b H) (hn : hget H b = none) (off : Int) (d : List Int) :
    RW tot (putF tot b H off d).1.1 (putF tot b H off d).1.2.1 ∧ hget (putF tot b H off d).1.2.1 (putF tot b H off d).1.1 = none ∧ b ≤ (putF tot b H off d).1.1 ∧ (putF tot b H off d).1.2.1.length ≤ H.length + 1 ∧
    (off = b → lgF tot b off = d.length → 0 < d.length → b < (putF tot b H off d).1.1) ∧
    ∀ s : List Int, OfS s tot H → (s.length : Int) = tot → (¬ lgF tot b off = 0 → (d.length : Int) = lgF tot b off → d = cutS s off (min (off + 256) tot)) → OfS s tot (putF tot b H off d).1.2.1 ∧ (putF tot b H off d).1.2.2 = cutS s b (putF tot b H off d).1.1 := by
  unfold putF
  split
  · rename_i hc
    refine ⟨h, hn, Int.le_refl _, Nat.le_succ _, fun e1 e2 e3 => ?_, fun s hs _ _ => ⟨hs, (cutS_nil s b).symm⟩⟩
    rcases hc with hc | hc | hc
    · rw [e1, hn] at hc; cases hc
    · omega
    · exact absurd e2.symm hc
  · rename_i hc
    have c1 : hget H off = none := by
      cases hg : hget H off with
      | none => rfl
      | some x => exact absurd (.inl (by rw [hg]; rfl)) hc
    have c2 : ¬ lgF tot b off = 0 := fun e => hc (.inr (.inl e))
    have c3 : (d.length : Int) = lgF tot b off := Decidable.byContradiction fun e => hc (.inr (.inr e))
    obtain ⟨l1, l2, l3, l4, l5⟩ := lgF_pos h.b0.1 c2
    have hR : RW tot b (H ++ [(off, d)]) := by
      refine ⟨?_, fun p hp => ?_, h.b0, h.ba⟩
      · rw [List.map_append, List.nodup_append]
        refine ⟨h.nd, by simp, fun a ha b hb e => ?_⟩
        simp at hb
        subst hb; subst e
        obtain ⟨p, hp, e⟩ := List.mem_map.1 ha
        exact hget_none c1 p hp e
      · rcases List.mem_append.1 hp with hp | hp
        · exact h.ge p hp
        · simp at hp
          subst hp
          exact ⟨l1, l2, l3, l4, by simp only; omega⟩
    obtain ⟨r1, r2, r3, r4, r5, r6, r7⟩ := dr_spec (H.length + 1) b (H ++ [(off, d)]) [] (by rw [List.length_append]; simp) hR
    refine ⟨r1, r2, r4, by rw [List.length_append] at r5; simpa using r5, fun e1 _ _ => r6 ?_, fun s hs ht hd => ?_⟩
    · subst e1
      unfold hget
      rw [List.find?_append]
      cases hf : List.find? (fun p => p.1 == off) H with
      | none => simp
      | some p => rfl
    · have hs' : OfS s tot (H ++ [(off, d)]) := fun p hp => by
        rcases List.mem_append.1 hp with hp | hp
        · exact hs p hp
        · simp at hp
          subst hp
          exact hd c2 c3
      exact ⟨fun p hp => hs' p (r3 p hp), by rw [r7 s hs' ht]; rfl⟩
end Go.Proofs.Ytbmdahhhgpbchaa.RbP
