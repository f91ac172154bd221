-- The generic part of this repo's walks over an abstract state (wip/sim), laid by mksim.py.
import Derived.Test.YtbmdahhhgpbchaaSimC
set_option linter.unusedVariables false
set_option linter.unusedSimpArgs false
namespace Go.Sim.E
open Go.RowKit
/-! ### the equations by which compiled code runs -/
/-- A count, as a whole number. -/
def IN (n : Nat) : Int := (n : Int)
section
variable {P : Program} {m nid : Nat} {Q : Exit → St → Prop} {sl : List (Nat × AV)} {hp : List (Nat × Ob)} {nx : Nat} {K : St → Prop} {KK : List Nat → List Nat → St → Prop}

theorem Zaa  : awA P m .skip (St.mk sl hp nx) Q = Q .normal (St.mk sl hp nx) := rfl
theorem Zab {ops : List AOp} {ks : Option (List Nat)} : awA P m (.reg ops ks) (St.mk sl hp nx) Q = aopsA P ops nx (St.mk sl hp nx) (KR ops.length ks nx Q) := rfl
theorem Zac {ops : List AOp} {ks : Option (List Nat)} : awA P m (.regD ops ks) (St.mk sl hp nx) Q = aopsDA P ops 0 nx [] (St.mk sl hp nx) (KR ops.length ks nx Q) := rfl
theorem Zad {x y : ACode} : awA P m (.seq x y) (St.mk sl hp nx) Q = awA P m x (St.mk sl hp nx) (KS (awA P m y) Q) := rfl
def condA (f g : St → (Exit → St → Prop) → Prop) (v : AV) (st : St) (Q : Exit → St → Prop) : Prop := match v with | .sc (.bool t) => if t = true then f st Q else g st Q | _ => False
theorem Zae {k : AO} {x y : ACode} : awA P m (.cond k x y) (St.mk sl hp nx) Q = condA (awA P m x) (awA P m y) (St.e (St.mk sl hp nx) k) (St.mk sl hp nx) Q := rfl
theorem Zaf {f g : St → (Exit → St → Prop) → Prop} {t : Bool} : condA f g (.sc (.bool t)) (St.mk sl hp nx) Q = (if t = true then f (St.mk sl hp nx) Q else g (St.mk sl hp nx) Q) := rfl
theorem Zag {id : Nat} {x : ACode} : awA P m (.block id x) (St.mk sl hp nx) Q = awA P m x (St.mk sl hp nx) (KB id Q) := rfl
theorem Zah {x : ACode} : awA P m (.loop x) (St.mk sl hp nx) Q = lp m (awA P m x) (St.mk sl hp nx) Q := rfl
theorem Zai {id : Nat} : awA P m (.exit id) (St.mk sl hp nx) Q = Q (.exit id) (St.mk sl hp nx) := rfl
theorem Zaj {x : ACode} : awA P m (.scope x) (St.mk sl hp nx) Q = awA P m x (St.mk sl hp nx) (KC Q) := rfl
theorem Zak  : awA P m .ret (St.mk sl hp nx) Q = Q .ret (St.mk sl hp nx) := rfl
theorem Zal {ks : List Nat} {x : ACode} : awA P m (.keep ks x) (St.mk sl hp nx) Q = awA P m x (St.mk (keepS sl ks) hp nx) Q := rfl
theorem Zam {f : St → (Exit → St → Prop) → Prop} : KS f Q .normal (St.mk sl hp nx) = f (St.mk sl hp nx) Q := rfl
theorem Zan {f : St → (Exit → St → Prop) → Prop} {i : Nat} {s : St} : KS f Q (.exit i) s = Q (.exit i) s := rfl
theorem Zao {f : St → (Exit → St → Prop) → Prop} {s : St} : KS f Q .ret s = Q .ret s := rfl
theorem Zap {id : Nat} {s : St} : KB id Q .normal s = Q .normal s := rfl
theorem Zaq {id i : Nat} {s : St} : KB id Q (.exit i) s = (if i = id then Q .normal s else Q (.exit i) s) := rfl
theorem Zar {id : Nat} {s : St} : KB id Q .ret s = Q .ret s := rfl
theorem Zxe {l : Nat} : awA P m (.lab l) (St.mk sl hp nx) Q = Q .normal (St.mk sl hp nx) := rfl
theorem Zau {s : St} : KC Q .ret s = Q .ret s := rfl
theorem Zav {I : Nat → St → Prop} {k : Nat} {s : St} : KL m I k Q .normal s = NextL m I k s := rfl
theorem Zaw {I : Nat → St → Prop} {k i : Nat} {s : St} : KL m I k Q (.exit i) s = Q (.exit i) s := rfl
theorem Zax {I : Nat → St → Prop} {k : Nat} {s : St} : KL m I k Q .ret s = Q .ret s := rfl
theorem Zay {len n0 : Nat} : KR len none n0 Q (St.mk sl hp nx) = Q .normal (St.mk sl hp (n0 + len)) := rfl
theorem Zaz {len n0 : Nat} {ks : List Nat} : KR len (some ks) n0 Q (St.mk sl hp nx) = Q .normal (St.mk (keepS sl ks) hp (n0 + len)) := rfl
theorem Za0 {ks : List Nat} : keepS [] ks = [] := rfl
theorem Za1 {a : Nat} {v : AV} {ks : List Nat} : keepS ((a, v) :: sl) ks = (if ks.contains a = true then (a, v) :: keepS sl ks else keepS sl ks) := rfl
theorem Za2 {a : Nat} : ([] : List Nat).contains a = false := rfl
theorem Za3 {a k : Nat} {ks : List Nat} : (k :: ks).contains a = (if a = k then true else ks.contains a) := by
  by_cases h : a = k <;> simp [h]
theorem Za4  : aopsA P [] nid (St.mk sl hp nx) K = K (St.mk sl hp nx) := rfl
theorem Za5 {dst : Option Nat} {os : List AO} {us : List Nat} {op : AP} {r : List AOp} : aopsA P (⟨dst, none, os, us, op⟩ :: r) nid (St.mk sl hp nx) K = aw1A P nid ⟨dst, none, os, us, op⟩ (St.mk sl hp nx) (KO (aopsA P r) (nid + 1) K) := rfl
def gdA (x y : St → (St → Prop) → Prop) (v : AV) (want : Bool) (st : St) (K : St → Prop) : Prop := match v with | .sc (.bool b) => if b = want then x st K else y st K | .sc v => v = undef ∧ y st K | _ => False
def unA (dst : Option Nat) (st : St) (K : St → Prop) : Prop := K (st.put dst (.sc undef))
theorem Za6 {dst : Option Nat} {os : List AO} {us : List Nat} {op : AP} {r : List AOp} {d : Nat} {want : Bool} : aopsA P (⟨dst, some (d, want), os, us, op⟩ :: r) nid (St.mk sl hp nx) K = gdA (aw1A P nid ⟨dst, none, os, us, op⟩) (unA dst) (St.get (St.mk sl hp nx) d) want (St.mk sl hp nx) (KO (aopsA P r) (nid + 1) K) := rfl
theorem Za7 {x y : St → (St → Prop) → Prop} {b want : Bool} : gdA x y (.sc (.bool b)) want (St.mk sl hp nx) K = (if b = want then x (St.mk sl hp nx) K else y (St.mk sl hp nx) K) := rfl
theorem Zrh {x y : St → (St → Prop) → Prop} {want : Bool} : gdA x y (.sc undef) want (St.mk sl hp nx) K = y (St.mk sl hp nx) K := by
  show (undef = undef ∧ _) = _
  simp only [true_and]
theorem Za8 {dst : Option Nat} : unA dst (St.mk sl hp nx) K = K (St.put (St.mk sl hp nx) dst (.sc undef)) := rfl
theorem Za9 {f : Nat → St → (St → Prop) → Prop} : KO f nid K (St.mk sl hp nx) = f nid (St.mk sl hp nx) K := rfl
def Ef (K : St → Prop) (st : St) (dst : Option Nat) : Option (AV × List (Nat × Option Ob) × Prop) → Prop | some (r, up, ob) => ob ∧ K ((st.up up).put dst r) | none => False
theorem Zba {dst : Option Nat} {r : AV} {up : List (Nat × Option Ob)} {ob : Prop} : Ef K (St.mk sl hp nx) dst (some (r, up, ob)) = (ob ∧ K (St.put (St.up (St.mk sl hp nx) up) dst r)) := rfl
def EfD (KK : List Nat → List Nat → St → Prop) (st : St) (dst : Option Nat) (os : List AO) : Option (AV × List (Nat × Option Ob) × Prop) → Prop | some (r, up, ob) => ob ∧ KK (opidsA st os) (up.map (·.1)) ((st.up up).put dst r) | none => False
theorem Zbb {dst : Option Nat} {os : List AO} {us : List Nat} {x' : AO} : aw1A P nid ⟨dst, none, os, us, (.mv x')⟩ (St.mk sl hp nx) K = Ef K (St.mk sl hp nx) dst (effA nid (St.mk sl hp nx) (.mv x')) := by
  unfold aw1A aw1A0 Ef; rfl
theorem Zbc {dst : Option Nat} {os : List AO} {us : List Nat} {x' : AO} : aw1DA P nid ⟨dst, none, os, us, (.mv x')⟩ (St.mk sl hp nx) KK = EfD KK (St.mk sl hp nx) dst os (effA nid (St.mk sl hp nx) (.mv x')) := by
  unfold aw1DA EfD; rfl
theorem Zbd {dst : Option Nat} {os : List AO} {us : List Nat} {c' : AO} {a' : AO} {b' : AO} : aw1A P nid ⟨dst, none, os, us, (.pick c' a' b')⟩ (St.mk sl hp nx) K = Ef K (St.mk sl hp nx) dst (effA nid (St.mk sl hp nx) (.pick c' a' b')) := by
  unfold aw1A aw1A0 Ef; rfl
theorem Zbe {dst : Option Nat} {os : List AO} {us : List Nat} {c' : AO} {a' : AO} {b' : AO} : aw1DA P nid ⟨dst, none, os, us, (.pick c' a' b')⟩ (St.mk sl hp nx) KK = EfD KK (St.mk sl hp nx) dst os (effA nid (St.mk sl hp nx) (.pick c' a' b')) := by
  unfold aw1DA EfD; rfl
theorem Zbf {dst : Option Nat} {os : List AO} {us : List Nat} {o' : BinOp} {bb' : Bool} {x' : AO} {y' : AO} : aw1A P nid ⟨dst, none, os, us, (.bin o' bb' x' y')⟩ (St.mk sl hp nx) K = Ef K (St.mk sl hp nx) dst (effA nid (St.mk sl hp nx) (.bin o' bb' x' y')) := by
  unfold aw1A aw1A0 Ef; rfl
theorem Zbg {dst : Option Nat} {os : List AO} {us : List Nat} {o' : BinOp} {bb' : Bool} {x' : AO} {y' : AO} : aw1DA P nid ⟨dst, none, os, us, (.bin o' bb' x' y')⟩ (St.mk sl hp nx) KK = EfD KK (St.mk sl hp nx) dst os (effA nid (St.mk sl hp nx) (.bin o' bb' x' y')) := by
  unfold aw1DA EfD; rfl
theorem Zbh {dst : Option Nat} {os : List AO} {us : List Nat} {neg' : Bool} {sz' : Nat} {l' : List LK} {x' : AO} {y' : AO} : aw1A P nid ⟨dst, none, os, us, (.aeq neg' sz' l' x' y')⟩ (St.mk sl hp nx) K = Ef K (St.mk sl hp nx) dst (effA nid (St.mk sl hp nx) (.aeq neg' sz' l' x' y')) := by
  unfold aw1A aw1A0 Ef; rfl
theorem Zbj {dst : Option Nat} {os : List AO} {us : List Nat} {o' : UnOp} {x' : AO} : aw1A P nid ⟨dst, none, os, us, (.un o' x')⟩ (St.mk sl hp nx) K = Ef K (St.mk sl hp nx) dst (effA nid (St.mk sl hp nx) (.un o' x')) := by
  unfold aw1A aw1A0 Ef; rfl
theorem Zbk {dst : Option Nat} {os : List AO} {us : List Nat} {o' : UnOp} {x' : AO} : aw1DA P nid ⟨dst, none, os, us, (.un o' x')⟩ (St.mk sl hp nx) KK = EfD KK (St.mk sl hp nx) dst os (effA nid (St.mk sl hp nx) (.un o' x')) := by
  unfold aw1DA EfD; rfl
theorem Zbl {dst : Option Nat} {os : List AO} {us : List Nat} {k' : IntKind} {x' : AO} : aw1A P nid ⟨dst, none, os, us, (.cvi k' x')⟩ (St.mk sl hp nx) K = Ef K (St.mk sl hp nx) dst (effA nid (St.mk sl hp nx) (.cvi k' x')) := by
  unfold aw1A aw1A0 Ef; rfl
theorem Zbm {dst : Option Nat} {os : List AO} {us : List Nat} {k' : IntKind} {x' : AO} : aw1DA P nid ⟨dst, none, os, us, (.cvi k' x')⟩ (St.mk sl hp nx) KK = EfD KK (St.mk sl hp nx) dst os (effA nid (St.mk sl hp nx) (.cvi k' x')) := by
  unfold aw1DA EfD; rfl
theorem Zbs {dst : Option Nat} {os : List AO} {us : List Nat} {x' : AO} : aw1DA P nid ⟨dst, none, os, us, (.cvm x')⟩ (St.mk sl hp nx) KK = EfD KK (St.mk sl hp nx) dst os (effA nid (St.mk sl hp nx) (.cvm x')) := by
  unfold aw1DA EfD; rfl
theorem Zbt {dst : Option Nat} {os : List AO} {us : List Nat} {ag' : Bool} {sz' : Nat} {x' : AO} : aw1A P nid ⟨dst, none, os, us, (.ld ag' sz' x')⟩ (St.mk sl hp nx) K = Ef K (St.mk sl hp nx) dst (effA nid (St.mk sl hp nx) (.ld ag' sz' x')) := by
  unfold aw1A aw1A0 Ef; rfl
theorem Zbu {dst : Option Nat} {os : List AO} {us : List Nat} {ag' : Bool} {sz' : Nat} {x' : AO} : aw1DA P nid ⟨dst, none, os, us, (.ld ag' sz' x')⟩ (St.mk sl hp nx) KK = EfD KK (St.mk sl hp nx) dst os (effA nid (St.mk sl hp nx) (.ld ag' sz' x')) := by
  unfold aw1DA EfD; rfl
theorem Zbv {dst : Option Nat} {os : List AO} {us : List Nat} {o' : Nat} {x' : AO} : aw1A P nid ⟨dst, none, os, us, (.fa o' x')⟩ (St.mk sl hp nx) K = Ef K (St.mk sl hp nx) dst (effA nid (St.mk sl hp nx) (.fa o' x')) := by
  unfold aw1A aw1A0 Ef; rfl
theorem Zbw {dst : Option Nat} {os : List AO} {us : List Nat} {o' : Nat} {x' : AO} : aw1DA P nid ⟨dst, none, os, us, (.fa o' x')⟩ (St.mk sl hp nx) KK = EfD KK (St.mk sl hp nx) dst os (effA nid (St.mk sl hp nx) (.fa o' x')) := by
  unfold aw1DA EfD; rfl
theorem Zbx {dst : Option Nat} {os : List AO} {us : List Nat} {ag' : Bool} {sz' : Nat} {o' : Nat} {x' : AO} : aw1A P nid ⟨dst, none, os, us, (.fld ag' sz' o' x')⟩ (St.mk sl hp nx) K = Ef K (St.mk sl hp nx) dst (effA nid (St.mk sl hp nx) (.fld ag' sz' o' x')) := by
  unfold aw1A aw1A0 Ef; rfl
theorem Zb1 {dst : Option Nat} {os : List AO} {us : List Nat} {sz' : Nat} {x' : AO} {i' : AO} : aw1A P nid ⟨dst, none, os, us, (.ixaS sz' x' i')⟩ (St.mk sl hp nx) K = Ef K (St.mk sl hp nx) dst (effA nid (St.mk sl hp nx) (.ixaS sz' x' i')) := by
  unfold aw1A aw1A0 Ef; rfl
theorem Zb2 {dst : Option Nat} {os : List AO} {us : List Nat} {sz' : Nat} {x' : AO} {i' : AO} : aw1DA P nid ⟨dst, none, os, us, (.ixaS sz' x' i')⟩ (St.mk sl hp nx) KK = EfD KK (St.mk sl hp nx) dst os (effA nid (St.mk sl hp nx) (.ixaS sz' x' i')) := by
  unfold aw1DA EfD; rfl
theorem Zb7 {dst : Option Nat} {os : List AO} {us : List Nat} {x' : AO} {k' : Nat} : aw1A P nid ⟨dst, none, os, us, (.ext x' k')⟩ (St.mk sl hp nx) K = Ef K (St.mk sl hp nx) dst (effA nid (St.mk sl hp nx) (.ext x' k')) := by
  unfold aw1A aw1A0 Ef; rfl
theorem Zb8 {dst : Option Nat} {os : List AO} {us : List Nat} {x' : AO} {k' : Nat} : aw1DA P nid ⟨dst, none, os, us, (.ext x' k')⟩ (St.mk sl hp nx) KK = EfD KK (St.mk sl hp nx) dst os (effA nid (St.mk sl hp nx) (.ext x' k')) := by
  unfold aw1DA EfD; rfl
theorem Zb9 {dst : Option Nat} {os : List AO} {us : List Nat} {z' : List AV} {ps' : List (Nat × Nat × AO)} : aw1A P nid ⟨dst, none, os, us, (.bld z' ps')⟩ (St.mk sl hp nx) K = Ef K (St.mk sl hp nx) dst (effA nid (St.mk sl hp nx) (.bld z' ps')) := by
  unfold aw1A aw1A0 Ef; rfl
theorem Zca {dst : Option Nat} {os : List AO} {us : List Nat} {z' : List AV} {ps' : List (Nat × Nat × AO)} : aw1DA P nid ⟨dst, none, os, us, (.bld z' ps')⟩ (St.mk sl hp nx) KK = EfD KK (St.mk sl hp nx) dst os (effA nid (St.mk sl hp nx) (.bld z' ps')) := by
  unfold aw1DA EfD; rfl
theorem Zcb {dst : Option Nat} {os : List AO} {us : List Nat} {f' : Nat} {cs' : List AO} : aw1A P nid ⟨dst, none, os, us, (.mkf f' cs')⟩ (St.mk sl hp nx) K = Ef K (St.mk sl hp nx) dst (effA nid (St.mk sl hp nx) (.mkf f' cs')) := by
  unfold aw1A aw1A0 Ef; rfl
theorem Zvm {dst : Option Nat} {os : List AO} {us : List Nat} {ok' : Bool} {x' : AO} {i' : AO} : aw1A P nid ⟨dst, none, os, us, (.mlk ok' x' i')⟩ (St.mk sl hp nx) K = Ef K (St.mk sl hp nx) dst (effA nid (St.mk sl hp nx) (.mlk ok' x' i')) := by
  unfold aw1A aw1A0 Ef; rfl
theorem Zch {dst : Option Nat} {os : List AO} {us : List Nat} {sz' : Nat} {lo' : Option AO} {hi' : Option AO} {mx' : Option AO} {x' : AO} : aw1A P nid ⟨dst, none, os, us, (.slL sz' lo' hi' mx' x')⟩ (St.mk sl hp nx) K = Ef K (St.mk sl hp nx) dst (effA nid (St.mk sl hp nx) (.slL sz' lo' hi' mx' x')) := by
  unfold aw1A aw1A0 Ef; rfl
theorem Zci {dst : Option Nat} {os : List AO} {us : List Nat} {sz' : Nat} {lo' : Option AO} {hi' : Option AO} {mx' : Option AO} {x' : AO} : aw1DA P nid ⟨dst, none, os, us, (.slL sz' lo' hi' mx' x')⟩ (St.mk sl hp nx) KK = EfD KK (St.mk sl hp nx) dst os (effA nid (St.mk sl hp nx) (.slL sz' lo' hi' mx' x')) := by
  unfold aw1DA EfD; rfl
theorem Zcj {dst : Option Nat} {os : List AO} {us : List Nat} {n' : Nat} {sz' : Nat} {lo' : Option AO} {hi' : Option AO} {x' : AO} : aw1A P nid ⟨dst, none, os, us, (.slA n' sz' lo' hi' x')⟩ (St.mk sl hp nx) K = Ef K (St.mk sl hp nx) dst (effA nid (St.mk sl hp nx) (.slA n' sz' lo' hi' x')) := by
  unfold aw1A aw1A0 Ef; rfl
theorem Zck {dst : Option Nat} {os : List AO} {us : List Nat} {n' : Nat} {sz' : Nat} {lo' : Option AO} {hi' : Option AO} {x' : AO} : aw1DA P nid ⟨dst, none, os, us, (.slA n' sz' lo' hi' x')⟩ (St.mk sl hp nx) KK = EfD KK (St.mk sl hp nx) dst os (effA nid (St.mk sl hp nx) (.slA n' sz' lo' hi' x')) := by
  unfold aw1DA EfD; rfl
theorem Zcn {dst : Option Nat} {os : List AO} {us : List Nat} {x' : AO} : aw1A P nid ⟨dst, none, os, us, (.lenL x')⟩ (St.mk sl hp nx) K = Ef K (St.mk sl hp nx) dst (effA nid (St.mk sl hp nx) (.lenL x')) := by
  unfold aw1A aw1A0 Ef; rfl
theorem Zco {dst : Option Nat} {os : List AO} {us : List Nat} {x' : AO} : aw1DA P nid ⟨dst, none, os, us, (.lenL x')⟩ (St.mk sl hp nx) KK = EfD KK (St.mk sl hp nx) dst os (effA nid (St.mk sl hp nx) (.lenL x')) := by
  unfold aw1DA EfD; rfl
theorem Zcr {dst : Option Nat} {os : List AO} {us : List Nat} {xs' : List AO} : aw1A P nid ⟨dst, none, os, us, (.mx xs')⟩ (St.mk sl hp nx) K = Ef K (St.mk sl hp nx) dst (effA nid (St.mk sl hp nx) (.mx xs')) := by
  unfold aw1A aw1A0 Ef; rfl
theorem Zcs {dst : Option Nat} {os : List AO} {us : List Nat} {xs' : List AO} : aw1DA P nid ⟨dst, none, os, us, (.mx xs')⟩ (St.mk sl hp nx) KK = EfD KK (St.mk sl hp nx) dst os (effA nid (St.mk sl hp nx) (.mx xs')) := by
  unfold aw1DA EfD; rfl
theorem Zct {dst : Option Nat} {os : List AO} {us : List Nat} {xs' : List AO} : aw1A P nid ⟨dst, none, os, us, (.mn xs')⟩ (St.mk sl hp nx) K = Ef K (St.mk sl hp nx) dst (effA nid (St.mk sl hp nx) (.mn xs')) := by
  unfold aw1A aw1A0 Ef; rfl
theorem Zcu {dst : Option Nat} {os : List AO} {us : List Nat} {xs' : List AO} : aw1DA P nid ⟨dst, none, os, us, (.mn xs')⟩ (St.mk sl hp nx) KK = EfD KK (St.mk sl hp nx) dst os (effA nid (St.mk sl hp nx) (.mn xs')) := by
  unfold aw1DA EfD; rfl
theorem Zcv {dst : Option Nat} {os : List AO} {us : List Nat} {z' : List AV} : aw1A P nid ⟨dst, none, os, us, (.alc z')⟩ (St.mk sl hp nx) K = Ef K (St.mk sl hp nx) dst (effA nid (St.mk sl hp nx) (.alc z')) := by
  unfold aw1A aw1A0 Ef; rfl
theorem Zcx {dst : Option Nat} {os : List AO} {us : List Nat} {x' : AO} : aw1A P nid ⟨dst, none, os, us, (.box x')⟩ (St.mk sl hp nx) K = Ef K (St.mk sl hp nx) dst (effA nid (St.mk sl hp nx) (.box x')) := by
  unfold aw1A aw1A0 Ef; rfl
theorem Zcz {dst : Option Nat} {os : List AO} {us : List Nat} {n' : Nat} {sz' : Nat} {z' : List AV} {ps' : List (Nat × Nat × AO)} : aw1A P nid ⟨dst, none, os, us, (.bsl n' sz' z' ps')⟩ (St.mk sl hp nx) K = Ef K (St.mk sl hp nx) dst (effA nid (St.mk sl hp nx) (.bsl n' sz' z' ps')) := by
  unfold aw1A aw1A0 Ef; rfl
theorem Zc0 {dst : Option Nat} {os : List AO} {us : List Nat} {n' : Nat} {sz' : Nat} {z' : List AV} {ps' : List (Nat × Nat × AO)} : aw1DA P nid ⟨dst, none, os, us, (.bsl n' sz' z' ps')⟩ (St.mk sl hp nx) KK = EfD KK (St.mk sl hp nx) dst os (effA nid (St.mk sl hp nx) (.bsl n' sz' z' ps')) := by
  unfold aw1DA EfD; rfl
theorem Zc1 {dst : Option Nat} {os : List AO} {us : List Nat} {z' : AV} {l' : AO} {k' : AO} : aw1A P nid ⟨dst, none, os, us, (.mks z' l' k')⟩ (St.mk sl hp nx) K = Ef K (St.mk sl hp nx) dst (effA nid (St.mk sl hp nx) (.mks z' l' k')) := by
  unfold aw1A aw1A0 Ef; rfl
theorem Zc2 {dst : Option Nat} {os : List AO} {us : List Nat} {z' : AV} {l' : AO} {k' : AO} : aw1DA P nid ⟨dst, none, os, us, (.mks z' l' k')⟩ (St.mk sl hp nx) KK = EfD KK (St.mk sl hp nx) dst os (effA nid (St.mk sl hp nx) (.mks z' l' k')) := by
  unfold aw1DA EfD; rfl
theorem Zc3 {dst : Option Nat} {os : List AO} {us : List Nat} {sz' : Nat} {x' : AO} {y' : AO} : aw1A P nid ⟨dst, none, os, us, (.sto sz' x' y')⟩ (St.mk sl hp nx) K = Ef K (St.mk sl hp nx) dst (effA nid (St.mk sl hp nx) (.sto sz' x' y')) := by
  unfold aw1A aw1A0 Ef; rfl
theorem Zc4 {dst : Option Nat} {os : List AO} {us : List Nat} {sz' : Nat} {x' : AO} {y' : AO} : aw1DA P nid ⟨dst, none, os, us, (.sto sz' x' y')⟩ (St.mk sl hp nx) KK = EfD KK (St.mk sl hp nx) dst os (effA nid (St.mk sl hp nx) (.sto sz' x' y')) := by
  unfold aw1DA EfD; rfl
theorem Zc5 {dst : Option Nat} {os : List AO} {us : List Nat} {sz' : Nat} {byt' : Nat} {s' : AO} {x' : AO} : aw1A P nid ⟨dst, none, os, us, (.app sz' byt' s' x')⟩ (St.mk sl hp nx) K = Ef K (St.mk sl hp nx) dst (effA nid (St.mk sl hp nx) (.app sz' byt' s' x')) := by
  unfold aw1A aw1A0 Ef; rfl
theorem Zc6 {dst : Option Nat} {os : List AO} {us : List Nat} {sz' : Nat} {byt' : Nat} {s' : AO} {x' : AO} : aw1DA P nid ⟨dst, none, os, us, (.app sz' byt' s' x')⟩ (St.mk sl hp nx) KK = EfD KK (St.mk sl hp nx) dst os (effA nid (St.mk sl hp nx) (.app sz' byt' s' x')) := by
  unfold aw1DA EfD; rfl
def upk (up : List (Nat × Option Ob)) : List Nat := up.map (·.1)
theorem Zc7 {dst : Option Nat} {os : List AO} {r : AV} {up : List (Nat × Option Ob)} {ob : Prop} : EfD KK (St.mk sl hp nx) dst os (some (r, up, ob)) = (ob ∧ KK (opidsA (St.mk sl hp nx) os) (upk up) (St.put (St.up (St.mk sl hp nx) up) dst r)) := rfl
theorem Zc8  : upk [] = [] := rfl
theorem Zc9 {k : Nat} {o : Option Ob} {r : List (Nat × Option Ob)} : upk ((k, o) :: r) = k :: upk r := rfl
def NilA (e : Bool) (x y : AV) (st : St) (dst : Option Nat) (K : St → Prop) : Prop := match x, y with | .fz n _, .nl => NilQ n e st dst K | .nl, .nl => K (st.put dst (.sc (.bool e))) | .lv id _ n, .nl => (look st.hp id).isSome = true ∧ NilQ n e st dst K | _, _ => False
theorem Zda {dst : Option Nat} {os : List AO} {us : List Nat} {e : Bool} {x y : AO} : aw1A P nid ⟨dst, none, os, us, .nil e x y⟩ (St.mk sl hp nx) K = NilA e (St.e (St.mk sl hp nx) x) (St.e (St.mk sl hp nx) y) (St.mk sl hp nx) dst K := by
  unfold aw1A aw1A0 NilA
  simp only
  generalize St.e (St.mk sl hp nx) x = u
  generalize St.e (St.mk sl hp nx) y = v
  cases u <;> cases v <;> rfl
theorem Zdb {dst : Option Nat} {e : Bool} {n : Nat} {cs : List AV} : NilA e (.fz n cs) .nl (St.mk sl hp nx) dst K = NilQ n e (St.mk sl hp nx) dst K := rfl
def CalA (P : Program) (nid : Nat) (st : St) (dst : Option Nat) (K : Option Ob → AV → St → Prop) (f : FuncId) : Option (List AV × List (Nat × Nat) × Prop) → Prop | some (as, ls, ob) => ob ∧ Cl P f as st nid dst ls K | none => False
def CalF (P : Program) (nid : Nat) (st : St) (dst : Option Nat) (as : List AV) (K : St → Prop) : AV → Prop | .fn f caps => callable P f = true ∧ CalA P nid st dst (KX K) f (frzs st (as ++ caps)) | _ => False
theorem Zdc {dst : Option Nat} {os : List AO} {us : List Nat} {fo : AO} {as : List AO} : aw1A P nid ⟨dst, none, os, us, .cal fo as⟩ (St.mk sl hp nx) K = CalF P nid (St.mk sl hp nx) dst (as.map (St.e (St.mk sl hp nx))) K (St.e (St.mk sl hp nx) fo) := by
  unfold aw1A aw1A0 CalF CalA; rfl
theorem Zdd {dst : Option Nat} {as caps : List AV} {f : FuncId} : CalF P nid (St.mk sl hp nx) dst as K (.fn f caps) = (callable P f = true ∧ CalA P nid (St.mk sl hp nx) dst (KX K) f (frzs (St.mk sl hp nx) (as ++ caps))) := rfl
theorem Zde {dst : Option Nat} {as : List AV} {ls : List (Nat × Nat)} {ob : Prop} {f : FuncId} {KC' : Option Ob → AV → St → Prop} : CalA P nid (St.mk sl hp nx) dst KC' f (some (as, ls, ob)) = (ob ∧ Cl P f as (St.mk sl hp nx) nid dst ls KC') := rfl
def CalAD (P : Program) (nid : Nat) (st : St) (dst : Option Nat) (KK : List Nat → List Nat → St → Prop) (rd : List Nat) (f : FuncId) : Option (List AV × List (Nat × Nat) × Prop) → Prop | some (as, ls, ob) => ob ∧ Cl P f as st nid dst ls (KXD KK rd nid ls) | none => False
def CalFD (P : Program) (nid : Nat) (st : St) (dst : Option Nat) (as : List AV) (KK : List Nat → List Nat → St → Prop) (rd : List Nat) : AV → Prop | .fn f caps => callable P f = true ∧ CalAD P nid st dst KK rd f (frzs st (as ++ caps)) | _ => False
theorem Zdf {dst : Option Nat} {os : List AO} {us : List Nat} {fo : AO} {as : List AO} : aw1DA P nid ⟨dst, none, os, us, .cal fo as⟩ (St.mk sl hp nx) KK = CalFD P nid (St.mk sl hp nx) dst (as.map (St.e (St.mk sl hp nx))) KK (opidsA (St.mk sl hp nx) os) (St.e (St.mk sl hp nx) fo) := by
  unfold aw1DA CalFD CalAD; rfl
theorem Zdg {dst : Option Nat} {as caps : List AV} {f : FuncId} {rd : List Nat} : CalFD P nid (St.mk sl hp nx) dst as KK rd (.fn f caps) = (callable P f = true ∧ CalAD P nid (St.mk sl hp nx) dst KK rd f (frzs (St.mk sl hp nx) (as ++ caps))) := rfl
theorem Zdh {dst : Option Nat} {as : List AV} {ls : List (Nat × Nat)} {ob : Prop} {f : FuncId} {rd : List Nat} : CalAD P nid (St.mk sl hp nx) dst KK rd f (some (as, ls, ob)) = (ob ∧ Cl P f as (St.mk sl hp nx) nid dst ls (KXD KK rd nid ls)) := rfl
theorem Zdi {h1 : Option Ob} {r : AV} : KX K h1 r (St.mk sl hp nx) = K (St.mk sl hp nx) := rfl
theorem Zdj {h1 : Option Ob} {r : AV} {rd : List Nat} {ls : List (Nat × Nat)} : KXD KK rd nid ls h1 r (St.mk sl hp nx) = KK rd (wrc nid ls h1 r) (St.mk sl hp nx) := rfl
def ls1 (ls : List (Nat × Nat)) : List Nat := ls.map (·.1)
theorem Zdk {r : AV} {ls : List (Nat × Nat)} : wrc nid ls none r = (if flat r = true then [] else ls1 ls) := by
  unfold wrc ls1; rfl
theorem Zdm  : ls1 [] = [] := rfl
theorem Zdn {a b : Nat} {r : List (Nat × Nat)} : ls1 ((a, b) :: r) = a :: ls1 r := rfl
def KG (K : St → Prop) : List Nat → St → Prop := fun _ s => K s
def CalGF (P : Program) (nid : Nat) (st : St) (dst : Option Nat) (KW : List Nat → St → Prop) (ps : List Nat) (as : List AV) : AV → Prop | .fn f caps => callable P f = true ∧ calG P nid st dst f KW ps (as ++ caps) | .bf f x => callable P f = true ∧ calG P nid st dst f KW ps (x :: as) | _ => False
theorem Zrj {dst : Option Nat} {os : List AO} {us : List Nat} {fo : AO} {as : List AO} {ps : List Nat} : aw1A P nid ⟨dst, none, os, us, .calG ps fo as⟩ (St.mk sl hp nx) K = CalGF P nid (St.mk sl hp nx) dst (KG K) ps (as.map (St.e (St.mk sl hp nx))) (St.e (St.mk sl hp nx) fo) := by
  unfold aw1A CalGF; rfl
theorem Zrk {dst : Option Nat} {os : List AO} {us : List Nat} {fo : AO} {as : List AO} {ps : List Nat} : aw1DA P nid ⟨dst, none, os, us, .calG ps fo as⟩ (St.mk sl hp nx) KK = CalGF P nid (St.mk sl hp nx) dst (KK (opidsA (St.mk sl hp nx) os)) ps (as.map (St.e (St.mk sl hp nx))) (St.e (St.mk sl hp nx) fo) := by
  unfold aw1DA CalGF; rfl
theorem Zrl {dst : Option Nat} {f : FuncId} {KW : List Nat → St → Prop} {as caps : List AV} {ps : List Nat} : CalGF P nid (St.mk sl hp nx) dst KW ps as (.fn f caps) = (callable P f = true ∧ calG P nid (St.mk sl hp nx) dst f KW ps (as ++ caps)) := rfl
def calGH (P : Program) (nid : Nat) (st : St) (dst : Option Nat) (f : FuncId) (KW : List Nat → St → Prop) (xs : List AV) : Option (List Nat) → Prop | some hd => (match hob st.hp hd 0, hands st hd xs with | some (hp0, p0), some (as, ls, pr) => ndH hd ∧ p0 ∧ pr ∧ lsH hd ls ∧ ClG P f hp0 as st nid dst ls hd (KW (wrG nid hd ls)) | _, _ => False) | none => False
def calGI (P : Program) (nid : Nat) (st : St) (dst : Option Nat) (f : FuncId) (KW : List Nat → St → Prop) (hd : List Nat) : Option (List (Nat × Ob) × Prop) → Option (List AV × List (Nat × Nat) × Prop) → Prop | some (hp0, p0), some (as, ls, pr) => ndH hd ∧ p0 ∧ pr ∧ lsH hd ls ∧ ClG P f hp0 as st nid dst ls hd (KW (wrG nid hd ls)) | _, _ => False
theorem Zrm {dst : Option Nat} {f : FuncId} {KW : List Nat → St → Prop} {ps : List Nat} {xs : List AV} : calG P nid (St.mk sl hp nx) dst f KW ps xs = calGH P nid (St.mk sl hp nx) dst f KW xs (hdAt xs ps) := by
  unfold calG calGH; rfl
theorem Zrn {dst : Option Nat} {f : FuncId} {KW : List Nat → St → Prop} {hd : List Nat} {xs : List AV} : calGH P nid (St.mk sl hp nx) dst f KW xs (some hd) = calGI P nid (St.mk sl hp nx) dst f KW hd (hob hp hd 0) (hands (St.mk sl hp nx) hd xs) := by
  unfold calGH calGI; rfl
theorem Zro {dst : Option Nat} {f : FuncId} {KW : List Nat → St → Prop} {hd : List Nat} {hp0 : List (Nat × Ob)} {p0 pr : Prop} {as : List AV} {ls : List (Nat × Nat)} : calGI P nid (St.mk sl hp nx) dst f KW hd (some (hp0, p0)) (some (as, ls, pr)) = (ndH hd ∧ p0 ∧ pr ∧ lsH hd ls ∧ ClG P f hp0 as (St.mk sl hp nx) nid dst ls hd (KW (wrG nid hd ls))) := rfl
theorem Zrp {wr : List Nat} : KG K wr (St.mk sl hp nx) = K (St.mk sl hp nx) := rfl
def hdC : AV → Option (List Nat) → Option (List Nat) | .lv id _ _, some l => some (id :: l) | .pt id _, some l => some (id :: l) | .fz _ _, some l => some l | _, _ => none
theorem Zrq {xs : List AV} : hdAt xs [] = some [] := rfl
theorem Zrr {xs : List AV} {p : Nat} {r : List Nat} : hdAt xs (p :: r) = hdC (xs.getD p .un) (hdAt xs r) := rfl
theorem Zrs {id o n : Nat} {l : List Nat} : hdC (.lv id o n) (some l) = some (id :: l) := rfl
theorem Zva {n : Nat} {c : List AV} {l : List Nat} : hdC (.fz n c) (some l) = some l := rfl
def hobC (k : Nat) : Option Ob → Option (List (Nat × Ob) × Prop) → Option (List (Nat × Ob) × Prop) | some o, some (l, p) => some ((k, o) :: l, o.hw = 0 ∧ okI o.cells ∧ p) | _, _ => none
theorem Zru {k : Nat} : hob hp [] k = some ([], True) := rfl
theorem Zrv {k id : Nat} {r : List Nat} : hob hp (id :: r) k = hobC k (look hp id) (hob hp r (k + 1)) := rfl
theorem Zrw {k e hw : Nat} {c : List AV} {l : List (Nat × Ob)} {p : Prop} : hobC k (some ⟨c, e, hw⟩) (some (l, p)) = some ((k, ⟨c, e, hw⟩) :: l, hw = 0 ∧ okI c ∧ p) := rfl
def hndC : Option (AV × List (Nat × Nat) × Prop) → Option (List AV × List (Nat × Nat) × Prop) → Option (List AV × List (Nat × Nat) × Prop) | some (y, l, p), some (ys, ls, q) => some (y :: ys, l ++ ls, p ∧ q) | _, _ => none
theorem Zrx {st : St} {hd : List Nat} : hands st hd [] = some ([], [], True) := rfl
theorem Zry {st : St} {hd : List Nat} {x : AV} {r : List AV} : hands st hd (x :: r) = hndC (hand1 st hd x) (hands st hd r) := rfl
theorem Zrz {y : AV} {ys : List AV} {l ls : List (Nat × Nat)} {p q : Prop} : hndC (some (y, l, p)) (some (ys, ls, q)) = some (y :: ys, l ++ ls, p ∧ q) := rfl
def hnLv (o n : Nat) (alt : Option (AV × List (Nat × Nat) × Prop)) : Option Nat → Option (AV × List (Nat × Nat) × Prop) | some k => some (.lv k o n, [], True) | none => alt
theorem Zr0 {st : St} {hd : List Nat} {id o n : Nat} : hand1 st hd (.lv id o n) = hnLv o n (frz st (.lv id o n)) (posF hd 0 id) := rfl
theorem Zr2 {st : St} {hd : List Nat} {v : Value} : hand1 st hd (.sc v) = frz st (.sc v) := rfl
theorem Zr5 {st : St} {hd : List Nat} {n : Nat} {c : List AV} : hand1 st hd (.fz n c) = frz st (.fz n c) := rfl
def hnAg (c : List AV) (alt : Option (AV × List (Nat × Nat) × Prop)) : Bool → Option (AV × List (Nat × Nat) × Prop) | true => some (.ag c, [], True) | false => alt
theorem Zr7 {st : St} {hd : List Nat} {c : List AV} : hand1 st hd (.ag c) = hnAg c (frz st (.ag c)) (c.all isF) := by
  show (if c.all isF then _ else _) = _
  cases c.all isF <;> rfl
theorem Zxa {c : List AV} {alt : Option (AV × List (Nat × Nat) × Prop)} : hnAg c alt true = some (.ag c, [], True) := rfl
theorem Zr9 {o n k : Nat} {alt : Option (AV × List (Nat × Nat) × Prop)} : hnLv o n alt (some k) = some (.lv k o n, [], True) := rfl
theorem Zsd {k id : Nat} : posF [] k id = none := rfl
theorem Zse {x k id : Nat} {r : List Nat} : posF (x :: r) k id = (if x = id then some k else posF r (k + 1) id) := rfl
theorem Zsf  : ndH [] = True := rfl
theorem Zsg {x : Nat} {r : List Nat} : ndH (x :: r) = (posF r 0 x = none ∧ ndH r) := rfl
theorem Zsh {hd : List Nat} : lsH hd [] = True := rfl
theorem Zsj {hd : List Nat} {ls : List (Nat × Nat)} : wrG nid hd ls = nid :: (hd ++ ls1 ls) := rfl
def gset (st : St) (hd : List Nat) (obs : List (Option Ob)) (nid : Nat) (h1 : Option Ob) : St := { st with hp := insO (setO hd obs st.hp) nid h1 }
theorem Zsm {st : St} {dst : Option Nat} {ls : List (Nat × Nat)} {hd : List Nat} {obs : List (Option Ob)} {h1 : Option Ob} {r : AV} : St.backG st nid dst ls hd obs h1 r = St.put (gset (St.lends st ls) hd obs nid h1) dst (sgm hd nid r) := rfl
theorem Zsn {hd : List Nat} {obs : List (Option Ob)} {h1 : Option Ob} : gset (St.mk sl hp nx) hd obs nid h1 = St.mk sl (insO (setO hd obs hp) nid h1) nx := rfl
theorem Zso  : setO [] [] hp = hp := rfl
theorem Zsq {id : Nat} {r : List Nat} {q : List (Option Ob)} : setO (id :: r) (none :: q) hp = setO r q (del hp id) := rfl
theorem Zsr  : insO hp nid none = hp := rfl
theorem Zss {o : Ob} : insO hp nid (some o) = ins hp nid o := rfl
theorem Zsw {hd : List Nat} {n : Nat} {c : List AV} : sgm hd nid (.fz n c) = (.fz n c) := rfl
theorem Zsy {hd : List Nat} {k o n : Nat} : sgm hd nid (.lv k o n) = .lv (hd.getD k nid) o n := rfl
theorem Zth {d i : Nat} : ([] : List Nat).getD i d = d := by simp
theorem Zti {x d i : Nat} {l : List Nat} : (x :: l).getD i d = (if i = 0 then x else l.getD (i - 1) d) := by
  cases i with
  | zero => rfl
  | succ i => simp
theorem Zdo {i : Nat} {dn : List (Nat × List Nat × List Nat)} : aopsDA P [] i nid dn (St.mk sl hp nx) K = K (St.mk sl hp nx) := rfl
theorem Zdp {dst : Option Nat} {os : List AO} {us : List Nat} {op : AP} {r : List AOp} {i : Nat} {dn : List (Nat × List Nat × List Nat)} : aopsDA P (⟨dst, none, os, us, op⟩ :: r) i nid dn (St.mk sl hp nx) K = aw1DA P nid ⟨dst, none, os, us, op⟩ (St.mk sl hp nx) (KOD (aopsDA P r) us i nid dn K) := rfl
def gdD (x y : St → (List Nat → List Nat → St → Prop) → Prop) (v : AV) (want : Bool) (st : St) (KK : List Nat → List Nat → St → Prop) : Prop := match v with | .sc (.bool b) => if b = want then x st KK else y st KK | .sc v => v = undef ∧ y st KK | _ => False
def unD (dst : Option Nat) (st : St) (KK : List Nat → List Nat → St → Prop) : Prop := KK [] [] (st.put dst (.sc undef))
theorem Zdq {dst : Option Nat} {os : List AO} {us : List Nat} {op : AP} {r : List AOp} {i : Nat} {dn : List (Nat × List Nat × List Nat)} {d : Nat} {want : Bool} : aopsDA P (⟨dst, some (d, want), os, us, op⟩ :: r) i nid dn (St.mk sl hp nx) K = gdD (aw1DA P nid ⟨dst, none, os, us, op⟩) (unD dst) (St.get (St.mk sl hp nx) d) want (St.mk sl hp nx) (KOD (aopsDA P r) us i nid dn K) := rfl
theorem Zdr {x y : St → (List Nat → List Nat → St → Prop) → Prop} {b want : Bool} : gdD x y (.sc (.bool b)) want (St.mk sl hp nx) KK = (if b = want then x (St.mk sl hp nx) KK else y (St.mk sl hp nx) KK) := rfl
theorem Zds {dst : Option Nat} : unD dst (St.mk sl hp nx) KK = KK [] [] (St.put (St.mk sl hp nx) dst (.sc undef)) := rfl
theorem Zdt {f : Nat → Nat → List (Nat × List Nat × List Nat) → St → (St → Prop) → Prop} {us rd wr : List Nat} {i : Nat} {dn : List (Nat × List Nat × List Nat)} : KOD f us i nid dn K rd wr (St.mk sl hp nx) = (nocfA us rd wr dn ∧ f (i + 1) (nid + 1) ((i, rd, wr) :: dn) (St.mk sl hp nx) K) := rfl
theorem Zdu {us rd wr : List Nat} : nocfA us rd wr [] = True := rfl
theorem Zdv {us rd wr r1 w1 : List Nat} {j : Nat} {dn : List (Nat × List Nat × List Nat)} : nocfA us rd wr ((j, r1, w1) :: dn) = ((if us.contains j = true then cfl r1 w1 rd wr = false else True) ∧ nocfA us rd wr dn) := by
  simp only [nocfA]
  congr 1
  split <;> rename_i h <;> simp only [h, true_implies, false_implies, Bool.false_eq_true]
def dj : List Nat → List Nat → Bool | [], _ => true | x :: xs, l => if l.contains x = true then false else dj xs l
theorem dj_eq (a l : List Nat) : dj a l = !(a.any fun x => l.contains x) := by
  induction a with
  | nil => rfl
  | cons x xs ih => rw [dj, List.any_cons, ih] <;> cases l.contains x <;> simp only [if_true, Bool.false_eq_true, if_false, Bool.true_or, Bool.false_or, Bool.not_true]
def cf3 (a b c : Bool) : Bool := !(a && b && c)
theorem Zdw {r1 w1 r2 w2 : List Nat} : cfl r1 w1 r2 w2 = cf3 (dj w1 r2) (dj w1 w2) (dj r1 w2) := by
  simp only [cfl, cf3, dj_eq]
  have e : (w1.any fun x => r2.contains x || w2.contains x) = ((w1.any fun x => r2.contains x) || w1.any fun x => w2.contains x) := by
    induction w1 with
    | nil => rfl
    | cons x xs ih => simp only [List.any_cons, ih] <;> cases r2.contains x <;> cases w2.contains x <;> simp
  rw [e]
  cases (w1.any fun x => r2.contains x) <;> cases (w1.any fun x => w2.contains x) <;> cases (r1.any fun x => w2.contains x) <;> rfl
theorem Zdx  : cf3 true true true = false := rfl
theorem Zdy {l : List Nat} : dj [] l = true := rfl
theorem Zdz {x : Nat} {xs l : List Nat} : dj (x :: xs) l = (if l.contains x = true then false else dj xs l) := rfl
theorem Zd0 {s : St} : opidsA s [] = [] := rfl
theorem Zd1 {s : St} {x : AO} {r : List AO} : opidsA s (x :: r) = ids (s.e x) ++ opidsA s r := by
  simp only [opidsA, List.flatMap_cons]
theorem Zd2 {v : Value} : ids (.sc v) = [] := rfl
theorem Zd3 {v : Value} : ids1 (.sc v) = [] := rfl
theorem Zd6  : ids1 (.nl ) = [] := rfl
theorem Zeb {n : Nat} {l : List AV} : ids (.fz n l) = [] := rfl
theorem Zec {n : Nat} {l : List AV} : ids1 (.fz n l) = [] := rfl
theorem Zee {l : List AV} {n : Nat} : ids (.fp l n) = [] := rfl
theorem Zeh {id o n : Nat} : ids (.lv id o n) = [id] := rfl
theorem Zei {id o n : Nat} : ids1 (.lv id o n) = [id] := rfl
theorem Zek {id o : Nat} : ids (.pt id o) = [id] := rfl
def idL (l : List AV) : List Nat := l.flatMap ids1
def idM (l : List AV) : List Nat := l.flatMap ids2
theorem Zen {l : List AV} : ids (.ag l) = idL l := rfl
theorem Zep {l : List AV} : ids (.tu l) = [] := rfl
theorem Zeq {f : FuncId} {l : List AV} : ids (.fn f l) = idM l := rfl
theorem Zer  : idL [] = [] := rfl
theorem Zes {x : AV} {l : List AV} : idL (x :: l) = ids1 x ++ idL l := by
  simp only [idL, List.flatMap_cons]
theorem Zet  : idM [] = [] := rfl
def lk (sl : List (Nat × AV)) (n : Nat) : AV := (look sl n).getD .un
theorem Zev {n : Nat} : St.e (St.mk sl hp nx) (.t n) = lk sl n := rfl
theorem Zew {s : St} {v : AV} : St.e s (.k v) = v := rfl
theorem Zex {n : Nat} : St.get (St.mk sl hp nx) n = lk sl n := rfl
theorem Zez {a n : Nat} {v : AV} : lk ((a, v) :: sl) n = (if a = n then v else lk sl n) := by
  simp only [lk, look]; split <;> rfl
theorem Ze0 {d : Nat} {v : AV} : St.put (St.mk sl hp nx) (some d) v = St.mk (ins sl d v) hp nx := rfl
theorem Ze1 {v : AV} : St.put (St.mk sl hp nx) none v = (St.mk sl hp nx) := rfl
theorem Ze2 {s : St} : St.up s [] = s := rfl
theorem Ze3 {k : Nat} {o : Ob} {r : List (Nat × Option Ob)} : St.up (St.mk sl hp nx) ((k, some o) :: r) = St.up (St.mk sl (ins hp k o) nx) r := rfl
theorem Ze4 {k : Nat} {r : List (Nat × Option Ob)} : St.up (St.mk sl hp nx) ((k, none) :: r) = St.up (St.mk sl (del hp k) nx) r := rfl
theorem Ze5  : (St.mk sl hp nx).hp = hp := rfl
theorem Ze8 {c : List AV} {e h : Nat} : (Ob.mk c e h).cells = c := rfl
theorem Ze9 {c : List AV} {e h : Nat} : (Ob.mk c e h).esz = e := rfl
theorem Zfb {α : Type} {k : Nat} : look ([] : List (Nat × α)) k = none := rfl
theorem Zfc {α : Type} {a k : Nat} {b : α} {xs : List (Nat × α)} : look ((a, b) :: xs) k = (if a = k then some b else look xs k) := rfl
theorem Zfd {α : Type} {k : Nat} {v : α} : ins ([] : List (Nat × α)) k v = [(k, v)] := rfl
theorem Zfe {α : Type} {a k : Nat} {b v : α} {xs : List (Nat × α)} : ins ((a, b) :: xs) k v = (if k < a then (k, v) :: (a, b) :: xs else if a = k then (k, v) :: xs else (a, b) :: ins xs k v) := by
  simp only [ins]
theorem Zff {α : Type} {k : Nat} : del ([] : List (Nat × α)) k = [] := rfl
theorem Zfg {α : Type} {a k : Nat} {b : α} {xs : List (Nat × α)} : del ((a, b) :: xs) k = (if a = k then del xs k else (a, b) :: del xs k) := rfl
end
section
variable {nid : Nat} {st : St}
theorem Zfh {x : AO} : effA nid st (.mv x) = some (st.e x, [], True) := rfl
noncomputable def fpick (c a b : AV) : Option (AV × List (Nat × Option Ob) × Prop) := match c with | .sc (.bool t) => some (if t = true then a else b, [], True) | _ => none
theorem Zfi {c : AO} {a : AO} {b : AO} : effA nid st (.pick c a b) = fpick (st.e c) (st.e a) (st.e b) := rfl
theorem Zfj {a b : AV} : fpick (.sc (.bool true)) a b = some (a, [], True) := by simp only [fpick, if_true]
theorem Zfk {a b : AV} : fpick (.sc (.bool false)) a b = some (b, [], True) := by simp only [fpick, Bool.false_eq_true, if_false]
theorem Zfl {t a b : Bool} : fpick (.sc (.bool t)) (.sc (.bool a)) (.sc (.bool b)) = some (.sc (.bool (if t = true then a else b)), [], True) := by cases t <;> simp only [fpick, if_true, Bool.false_eq_true, if_false]
noncomputable def fbin (op : BinOp) (bb : Bool) (x y : AV) : Option (AV × List (Nat × Option Ob) × Prop) := effA 0 ⟨[], [], 0⟩ (.bin op bb (.k x) (.k y))
theorem Zfn {o : BinOp} {bb : Bool} {x : AO} {y : AO} : effA nid st (.bin o bb x y) = fbin o bb (st.e x) (st.e y) := by
  simp only [effA, fbin, St.e]
theorem Zfp {bb : Bool} {k k' : IntKind} {a b : Int} : fbin .shr bb (.sc (.int k a)) (.sc (.int k' b)) = some (.sc (.int k (a.fdiv (2 ^ min b.toNat k.bits))), [], 0 ≤ b) := rfl
theorem Zfq {bb : Bool} {k : IntKind} {a b : Int} : fbin .add bb (.sc (.int k a)) (.sc (.int k b)) = some (.sc (.int k (k.wrap (a + b))), [], True) := by
  simp only [fbin, effA, St.e]
theorem Zfr {bb : Bool} {k : IntKind} {a b : Int} : fbin .sub bb (.sc (.int k a)) (.sc (.int k b)) = some (.sc (.int k (k.wrap (a - b))), [], True) := by
  simp only [fbin, effA, St.e]
theorem Zfs {bb : Bool} {k : IntKind} {a b : Int} : fbin .mul bb (.sc (.int k a)) (.sc (.int k b)) = some (.sc (.int k (k.wrap (a * b))), [], True) := by
  simp only [fbin, effA, St.e]
theorem Zfu {bb : Bool} {k : IntKind} {a b : Int} : fbin .rem bb (.sc (.int k a)) (.sc (.int k b)) = some (.sc (.int k (a.tmod b)), [], b ≠ 0) := by
  simp only [fbin, effA, St.e, true_and]
theorem Zfv {bb : Bool} {k : IntKind} {a b : Int} : fbin .and bb (.sc (.int k a)) (.sc (.int k b)) = some (.sc (.int k (bits .and k a b)), [], True) := by
  simp only [fbin, effA, St.e]
theorem Zfx {bb : Bool} {k : IntKind} {a b : Int} : fbin .xor bb (.sc (.int k a)) (.sc (.int k b)) = some (.sc (.int k (bits .xor k a b)), [], True) := by
  simp only [fbin, effA, St.e]
theorem Zfz {bb : Bool} {k : IntKind} {a b : Int} : fbin .eql bb (.sc (.int k a)) (.sc (.int k b)) = some (.sc (.bool (decide (a = b))), [], True) := by
  simp only [fbin, effA, St.e]
theorem Zf0 {bb : Bool} {k : IntKind} {a b : Int} : fbin .neq bb (.sc (.int k a)) (.sc (.int k b)) = some (.sc (.bool (!decide (a = b))), [], True) := by
  simp only [fbin, effA, St.e]
theorem Zf1 {bb : Bool} {k : IntKind} {a b : Int} : fbin .lss bb (.sc (.int k a)) (.sc (.int k b)) = some (.sc (.bool (decide (a < b))), [], True) := by
  simp only [fbin, effA, St.e]
theorem Zf2 {bb : Bool} {k : IntKind} {a b : Int} : fbin .leq bb (.sc (.int k a)) (.sc (.int k b)) = some (.sc (.bool (decide (a ≤ b))), [], True) := by
  simp only [fbin, effA, St.e]
theorem Zf3 {bb : Bool} {k : IntKind} {a b : Int} : fbin .gtr bb (.sc (.int k a)) (.sc (.int k b)) = some (.sc (.bool (decide (b < a))), [], True) := by
  simp only [fbin, effA, St.e]
theorem Zf4 {bb : Bool} {k : IntKind} {a b : Int} : fbin .geq bb (.sc (.int k a)) (.sc (.int k b)) = some (.sc (.bool (decide (b ≤ a))), [], True) := by
  simp only [fbin, effA, St.e]
noncomputable def faeq (neg : Bool) (sz : Nat) (l : List LK) (x y : AV) : Option (AV × List (Nat × Option Ob) × Prop) := effA 0 ⟨[], [], 0⟩ (.aeq neg sz l (.k x) (.k y))
theorem Zga {neg : Bool} {sz : Nat} {l : List LK} {x : AO} {y : AO} : effA nid st (.aeq neg sz l x y) = faeq neg sz l (st.e x) (st.e y) := by
  simp only [effA, faeq, St.e]
noncomputable def eqL (xs ys : List AV) : Bool := @decide (xs = ys) (Classical.propDecidable _)
theorem Zgb {sz : Nat} {l : List LK} {xs ys : List AV} : faeq false sz l (.ag xs) (.ag ys) = some (.sc (.bool (eqL xs ys)), [], xs.length = sz ∧ ys.length = sz ∧ sks l xs ys) := by
  simp only [faeq, effA, St.e, Bool.false_eq_true, if_false] <;> rfl
noncomputable def fun1 (op : UnOp) (x : AV) : Option (AV × List (Nat × Option Ob) × Prop) := effA 0 ⟨[], [], 0⟩ (.un op (.k x))
theorem Zgd {o : UnOp} {x : AO} : effA nid st (.un o x) = fun1 o (st.e x) := by
  simp only [effA, fun1, St.e]
theorem Zge {k : IntKind} {n : Int} : fun1 .neg (.sc (.int k n)) = some (.sc (.int k (k.wrap (0 - n))), [], True) := rfl
theorem Zgf {k : IntKind} {n : Int} : fun1 .xor (.sc (.int k n)) = some (.sc (.int k (bits .xor k (if k.signed then -1 else k.max) n)), [], True) := rfl
theorem Zgg {b : Bool} : fun1 .not (.sc (.bool b)) = some (.sc (.bool !b), [], True) := rfl
noncomputable def fcvi (k : IntKind) (x : AV) : Option (AV × List (Nat × Option Ob) × Prop) := match x with | .sc (.int _ n) => some (.sc (.int k (k.wrap n)), [], True) | _ => none
theorem Zgh {k : IntKind} {x : AO} : effA nid st (.cvi k x) = fcvi k (st.e x) := rfl
theorem Zgi {k k' : IntKind} {n : Int} : fcvi k (.sc (.int k' n)) = some (.sc (.int k (k.wrap n)), [], True) := rfl
noncomputable def fcvm (x : AV) (hp : List (Nat × Ob)) : Option (AV × List (Nat × Option Ob) × Prop) := match x with | .lv id off n => (match look hp id with | some o => some (.lv id off n, [], n ≠ 0 ∧ 0 < o.esz) | none => none) | _ => none
theorem Zgo {x : AO} : effA nid st (.cvm x) = fcvm (st.e x) st.hp := rfl
noncomputable def fcvm2 (id off n : Nat) : Option Ob → Option (AV × List (Nat × Option Ob) × Prop) | some o => some (.lv id off n, [], n ≠ 0 ∧ 0 < o.esz) | none => none
theorem Zgp {id off n : Nat} {hp : List (Nat × Ob)} : fcvm (.lv id off n) hp = fcvm2 id off n (look hp id) := rfl
theorem Zgq {id off n : Nat} {o : Ob} : fcvm2 id off n (some o) = some (.lv id off n, [], n ≠ 0 ∧ 0 < o.esz) := rfl
noncomputable def fld0 (ag : Bool) (sz : Nat) (x : AV) (hp : List (Nat × Ob)) : Option (AV × List (Nat × Option Ob) × Prop) := match x with | .pt id off => (match look hp id with | some o => some (rdx ag sz o.cells off, [], off + sz ≤ o.cells.length) | none => none) | .fp cells off => some (rdx ag sz cells off, [], off + sz ≤ cells.length) | _ => none
theorem Zgr {ag : Bool} {sz : Nat} {x : AO} : effA nid st (.ld ag sz x) = fld0 ag sz (st.e x) st.hp := rfl
noncomputable def fld2 (ag : Bool) (sz off : Nat) : Option Ob → Option (AV × List (Nat × Option Ob) × Prop) | some o => some (rdx ag sz o.cells off, [], off + sz ≤ o.cells.length) | none => none
theorem Zgs {ag : Bool} {sz id off : Nat} {hp : List (Nat × Ob)} : fld0 ag sz (.pt id off) hp = fld2 ag sz off (look hp id) := rfl
theorem Zgt {ag : Bool} {sz off : Nat} {o : Ob} : fld2 ag sz off (some o) = some (rdx ag sz o.cells off, [], off + sz ≤ o.cells.length) := rfl
theorem Zgu {ag : Bool} {sz off : Nat} {cells : List AV} {hp : List (Nat × Ob)} : fld0 ag sz (.fp cells off) hp = some (rdx ag sz cells off, [], off + sz ≤ cells.length) := rfl
noncomputable def live1 (x : AV) (p : Prop) : Option Ob → Option (AV × List (Nat × Option Ob) × Prop) | some _ => some (x, [], p) | none => none
theorem Zgv {x : AV} {p : Prop} {o : Ob} : live1 x p (some o) = some (x, [], p) := rfl
noncomputable def ffa (fo : Nat) (x : AV) (hp : List (Nat × Ob)) : Option (AV × List (Nat × Option Ob) × Prop) := match x with | .pt id off => (match look hp id with | some _ => some (.pt id (off + fo), [], True) | none => none) | .fp cells off => some (.fp cells (off + fo), [], True) | _ => none
theorem Zgw {o : Nat} {x : AO} : effA nid st (.fa o x) = ffa o (st.e x) st.hp := rfl
theorem Zgx {fo id off : Nat} {hp : List (Nat × Ob)} : ffa fo (.pt id off) hp = live1 (.pt id (off + fo)) True (look hp id) := rfl
theorem Zgy {fo off : Nat} {cells : List AV} {hp : List (Nat × Ob)} : ffa fo (.fp cells off) hp = some (.fp cells (off + fo), [], True) := rfl
noncomputable def ffld (ag : Bool) (sz fo : Nat) (x : AV) : Option (AV × List (Nat × Option Ob) × Prop) := match x with | .ag cs => some (rdx ag sz cs fo, [], fo + sz ≤ cs.length) | _ => none
theorem Zgz {ag : Bool} {sz : Nat} {o : Nat} {x : AO} : effA nid st (.fld ag sz o x) = ffld ag sz o (st.e x) := rfl
theorem Zg0 {ag : Bool} {sz fo : Nat} {cs : List AV} : ffld ag sz fo (.ag cs) = some (rdx ag sz cs fo, [], fo + sz ≤ cs.length) := rfl
noncomputable def fixaS (sz : Nat) (x : AV) (i : Option Int) (hp : List (Nat × Ob)) : Option (AV × List (Nat × Option Ob) × Prop) := match x, i with | .lv id off n, some k => (match look hp id with | some _ => some (.pt id (off + k.toNat * sz), [], 0 ≤ k ∧ k < n) | none => none) | .fz n cells, some k => some (.fp cells (k.toNat * sz), [], 0 ≤ k ∧ k < n ∧ k.toNat * sz + sz ≤ cells.length) | _, _ => none
theorem Zg4 {sz : Nat} {x : AO} {i : AO} : effA nid st (.ixaS sz x i) = fixaS sz (st.e x) (aint (st.e i)) st.hp := rfl
theorem Zg5 {n sz id off : Nat} {k : Int} {hp : List (Nat × Ob)} : fixaS sz (.lv id off n) (some k) hp = live1 (.pt id (off + k.toNat * sz)) (0 ≤ k ∧ k < IN n) (look hp id) := rfl
theorem Zg6 {n sz : Nat} {k : Int} {cells : List AV} {hp : List (Nat × Ob)} : fixaS sz (.fz n cells) (some k) hp = some (.fp cells (k.toNat * sz), [], 0 ≤ k ∧ k < IN n ∧ k.toNat * sz + sz ≤ cells.length) := rfl
noncomputable def fext (x : AV) (k : Nat) : Option (AV × List (Nat × Option Ob) × Prop) := match x with | .tu vs => some (vs.getD k .un, [], k < vs.length) | _ => none
theorem Zhb {x : AO} {k : Nat} : effA nid st (.ext x k) = fext (st.e x) k := rfl
theorem Zhc {vs : List AV} {k : Nat} : fext (.tu vs) k = some (vs.getD k .un, [], k < vs.length) := rfl
noncomputable def fbld (x : Option (List AV × Prop)) : Option (AV × List (Nat × Option Ob) × Prop) := match x with | some (cs, ob) => some (.ag cs, [], ob) | none => none
theorem Zhd {z : List AV} {ps : List (Nat × Nat × AO)} : effA nid st (.bld z ps) = fbld (bldA st ps z True) := rfl
theorem Zhe {cs : List AV} {ob : Prop} : fbld (some (cs, ob)) = some (.ag cs, [], ob) := rfl
theorem Zhf {z : List AV} {ob : Prop} : bldA st [] z ob = some (z, ob) := rfl
def bld2 (st : St) (r : List (Nat × Nat × AO)) (off size : Nat) (z : List AV) (ob : Prop) : Option (List AV) → Option (List AV × Prop) | some cs => bldA st r (spl z off cs) (ob ∧ cs.length = size ∧ off + size ≤ z.length) | none => none
theorem Zhg {off size : Nat} {x : AO} {r : List (Nat × Nat × AO)} {z : List AV} {ob : Prop} : bldA st ((off, size, x) :: r) z ob = bld2 st r off size z ob (cel st (st.e x)) := rfl
theorem Zhh {off size : Nat} {cs : List AV} {r : List (Nat × Nat × AO)} {z : List AV} {ob : Prop} : bld2 st r off size z ob (some cs) = bldA st r (spl z off cs) (ob ∧ cs.length = size ∧ off + size ≤ z.length) := rfl
theorem Zhi {f : Nat} {cs : List AO} : effA nid st (.mkf f cs) = some (.fn f (cs.map st.e), [], True) := rfl
noncomputable def fmlk (ok : Bool) (x i : AV) : Option (AV × List (Nat × Option Ob) × Prop) := match x, i with | .mp ks vs, .sc (.int .i64 n) => some (mres ok (mget ks vs n), [], True) | _, _ => none
theorem Zvo {ok : Bool} {x : AO} {i : AO} : effA nid st (.mlk ok x i) = fmlk ok (st.e x) (st.e i) := rfl
theorem Zvp {ok : Bool} {ks : List Int} {vs : List AV} {n : Int} : fmlk ok (.mp ks vs) (.sc (.int .i64 n)) = some (mres ok (mget ks vs n), [], True) := rfl
theorem Zvs {x : AV} : mres false (some x) = x := rfl
theorem Zvt  : mres false none = .nl := rfl
theorem Zhm {d : Nat} : abdA st d none = some (IN d) := rfl
theorem Zhn {d : Nat} {x : AO} : abdA st d (some x) = aint (st.e x) := rfl
theorem Zho {k : IntKind} {n : Int} : aint (.sc (.int k n)) = some n := rfl
noncomputable def fslL (nid : Nat) (sz : Nat) (st : St) (lo hi mx : Option AO) (x : AV) : Option (AV × List (Nat × Option Ob) × Prop) := effA nid st (.slL sz lo hi mx (.k x))
theorem Zhs {sz : Nat} {lo : Option AO} {hi : Option AO} {mx : Option AO} {x : AO} : effA nid st (.slL sz lo hi mx x) = fslL nid sz st lo hi mx (st.e x) := by
  simp only [effA, fslL, St.e]
noncomputable def cutF (n sz : Nat) (cells : List AV) : Option Int → Option Int → Option (AV × List (Nat × Option Ob) × Prop) | some l, some h => some (.fz (h.toNat - l.toNat) ((cells.drop (l.toNat * sz)).take ((h.toNat - l.toNat) * sz)), [], 0 ≤ l ∧ l ≤ h ∧ h ≤ n) | _, _ => none
theorem Zht {n sz : Nat} {lo hi : Option AO} {cells : List AV} : fslL nid sz st lo hi none (.fz n cells) = cutF n sz cells (abdA st 0 lo) (abdA st n hi) := by
  simp only [fslL, effA, St.e, cutF] <;> split <;> simp_all
theorem Zhu {n sz : Nat} {l h : Int} {cells : List AV} : cutF n sz cells (some l) (some h) = some (.fz (h.toNat - l.toNat) ((cells.drop (l.toNat * sz)).take ((h.toNat - l.toNat) * sz)), [], 0 ≤ l ∧ l ≤ h ∧ h ≤ IN n) := rfl
noncomputable def cutA (id off n sz : Nat) : Option Ob → Option Int → Option Int → Option (AV × List (Nat × Option Ob) × Prop) | some o, some l, some h => some (.lv id (off + l.toNat * sz) (h.toNat - l.toNat), [], o.esz = sz ∧ 0 ≤ l ∧ l ≤ h ∧ h ≤ n ∧ off + n * sz ≤ o.cells.length) | _, _, _ => none
noncomputable def fslA (n sz : Nat) (st : St) (lo hi : Option AO) (x : AV) : Option (AV × List (Nat × Option Ob) × Prop) := effA 0 st (.slA n sz lo hi (.k x))
theorem Zh1 {n : Nat} {sz : Nat} {lo : Option AO} {hi : Option AO} {x : AO} : effA nid st (.slA n sz lo hi x) = fslA n sz st lo hi (st.e x) := by
  simp only [effA, fslA, St.e]
theorem Zh2 {id off n sz : Nat} {lo hi : Option AO} : fslA n sz st lo hi (.pt id off) = cutA id off n sz (look st.hp id) (abdA st 0 lo) (abdA st n hi) := by
  simp only [fslA, effA, St.e, cutA] <;> split <;> (try split) <;> simp_all
theorem Zh3 {id off n sz : Nat} {o : Ob} {l h : Int} : cutA id off n sz (some o) (some l) (some h) = some (.lv id (off + l.toNat * sz) (h.toNat - l.toNat), [], o.esz = sz ∧ 0 ≤ l ∧ l ≤ h ∧ h ≤ IN n ∧ off + n * sz ≤ o.cells.length) := rfl
noncomputable def flen (x : AV) (hp : List (Nat × Ob)) : Option (AV × List (Nat × Option Ob) × Prop) := effA 0 ⟨[], hp, 0⟩ (.lenL (.k x))
theorem Zh6 {x : AO} : effA nid st (.lenL x) = flen (st.e x) st.hp := by
  simp only [effA, flen, St.e]
theorem Zh7 {n : Nat} {cs : List AV} {hp : List (Nat × Ob)} : flen (.fz n cs) hp = some (.sc (.int .i64 (IN n)), [], True) := rfl
theorem Zh8 {hp : List (Nat × Ob)} : flen .nl hp = some (.sc (.int .i64 0), [], True) := rfl
theorem Zh9 {id off n : Nat} {hp : List (Nat × Ob)} : flen (.lv id off n) hp = live1 (.sc (.int .i64 (IN n))) True (look hp id) := rfl
noncomputable def fmm : Option (IntKind × Int) → Option (AV × List (Nat × Option Ob) × Prop) | some (k, n) => some (.sc (.int k n), [], True) | none => none
theorem Zie {xs : List AO} : effA nid st (.mx xs) = fmm (amx (xs.map st.e)) := rfl
theorem Zif {xs : List AO} : effA nid st (.mn xs) = fmm (amn (xs.map st.e)) := rfl
theorem Zig {k : IntKind} {n : Int} : fmm (some (k, n)) = some (.sc (.int k n), [], True) := rfl
theorem Zih {k : IntKind} {a : Int} {r : List AV} : amx (.sc (.int k a) :: r) = amx1 k a r := rfl
theorem Zii {k : IntKind} {a : Int} : amx1 k a [] = some (k, a) := rfl
theorem Zij {k k' : IntKind} {a b : Int} {r : List AV} : amx1 k a (.sc (.int k' b) :: r) = amx1 k (max a b) r := rfl
theorem Zik {k : IntKind} {a : Int} {r : List AV} : amn (.sc (.int k a) :: r) = amn1 k a r := rfl
theorem Zil {k : IntKind} {a : Int} : amn1 k a [] = some (k, a) := rfl
theorem Zim {k k' : IntKind} {a b : Int} {r : List AV} : amn1 k a (.sc (.int k' b) :: r) = amn1 k (min a b) r := rfl
theorem Zin {z : List AV} : effA nid st (.alc z) = some (.pt nid 0, [(nid, some ⟨z, 1, 0⟩)], True) := rfl
noncomputable def fbox (nid : Nat) : Option (List AV) → Option (AV × List (Nat × Option Ob) × Prop) | some cs => some (.pt nid 0, [(nid, some ⟨cs, 1, 0⟩)], True) | none => none
theorem Zio {x : AO} : effA nid st (.box x) = fbox nid (cel st (st.e x)) := rfl
theorem Zip {cs : List AV} : fbox nid (some cs) = some (.pt nid 0, [(nid, some ⟨cs, 1, 0⟩)], True) := rfl
noncomputable def fbsl (nid n sz : Nat) : Option (List AV × Prop) → Option (AV × List (Nat × Option Ob) × Prop) | some (cs, ob) => some (.lv nid 0 n, [(nid, some ⟨cs, sz, 0⟩)], ob) | none => none
theorem Ziq {n : Nat} {sz : Nat} {z : List AV} {ps : List (Nat × Nat × AO)} : effA nid st (.bsl n sz z ps) = fbsl nid n sz (bldA st ps z True) := rfl
theorem Zir {n sz : Nat} {cs : List AV} {ob : Prop} : fbsl nid n sz (some (cs, ob)) = some (.lv nid 0 n, [(nid, some ⟨cs, sz, 0⟩)], ob) := rfl
noncomputable def fmks (nid : Nat) (z : AV) : Option Int → Option Int → Option (AV × List (Nat × Option Ob) × Prop) | some n, some m => some (.lv nid 0 n.toNat, [(nid, some ⟨List.replicate n.toNat z, 1, 0⟩)], 0 ≤ n ∧ n ≤ m ∧ m ≤ 16777216) | _, _ => none
theorem Zis {z : AV} {l : AO} {k : AO} : effA nid st (.mks z l k) = fmks nid z (aint (st.e l)) (aint (st.e k)) := rfl
theorem Zit {z : AV} {n m : Int} : fmks nid z (some n) (some m) = some (.lv nid 0 n.toNat, [(nid, some ⟨List.replicate n.toNat z, 1, 0⟩)], 0 ≤ n ∧ n ≤ m ∧ m ≤ 16777216) := rfl
noncomputable def fsto (st : St) (sz : Nat) (x : AV) (c : Option (List AV)) : Option (AV × List (Nat × Option Ob) × Prop) := match x, c with | .pt id off, some cs => (match look st.hp id with | some o => some (.un, [(id, some ⟨spl o.cells off cs, o.esz, o.hw⟩)], cs.length = sz ∧ o.hw ≤ off ∧ off + cs.length ≤ o.cells.length ∧ okCells st cs) | none => none) | _, _ => none
theorem Ziu {sz : Nat} {x : AO} {y : AO} : effA nid st (.sto sz x y) = fsto st sz (st.e x) (cel st (st.e y)) := rfl
noncomputable def fsto2 (st : St) (sz id off : Nat) (cs : List AV) : Option Ob → Option (AV × List (Nat × Option Ob) × Prop) | some o => some (.un, [(id, some ⟨spl o.cells off cs, o.esz, o.hw⟩)], cs.length = sz ∧ o.hw ≤ off ∧ off + cs.length ≤ o.cells.length ∧ okCells st cs) | none => none
theorem Ziv {sz id off : Nat} {cs : List AV} : fsto st sz (.pt id off) (some cs) = fsto2 st sz id off cs (look st.hp id) := rfl
theorem Ziw {sz id off e hw : Nat} {cs c : List AV} : fsto2 st sz id off cs (some ⟨c, e, hw⟩) = some (.un, [(id, some ⟨spl c off cs, e, hw⟩)], cs.length = sz ∧ hw ≤ off ∧ off + cs.length ≤ c.length ∧ okCells st cs) := rfl
noncomputable def fapp (nid sz byt : Nat) (st : St) (s : AV) : Option (Nat × List AV × Prop) → Option (AV × List (Nat × Option Ob) × Prop) | none => none | some (m, cs, ob) => match s with
  | .nl => some (.lv nid 0 m, [(nid, some ⟨cs, sz, 0⟩)], ob ∧ okF cs ∧ m * byt ≤ 140737488355328 ∧ m ≤ 4611686018427387904)
  | .lv id off n => (match look st.hp id with
    | none => none
    | some o => some (.lv nid 0 (n + m), [(id, none), (nid, some ⟨o.cells ++ cs, sz, o.hw⟩)], ob ∧ okF cs ∧ (n + m) * byt ≤ 140737488355328 ∧ n + m ≤ 4611686018427387904 ∧ off = 0 ∧ o.esz = sz ∧ o.cells.length = n * sz ∧ o.hw ≤ o.cells.length))
  | .fq n cs0 => some (.lv nid 0 (n + m), [(nid, some ⟨cs0 ++ cs, sz, 0⟩)], ob ∧ okF cs ∧ (n + m) * byt ≤ 140737488355328 ∧ n + m ≤ 4611686018427387904 ∧ m ≠ 0 ∧ cs0.length = n * sz)
  | _ => none
noncomputable def fapp2 (nid sz byt id off n m : Nat) (cs : List AV) (ob : Prop) : Option Ob → Option (AV × List (Nat × Option Ob) × Prop) | none => none | some o => some (.lv nid 0 (n + m), [(id, none), (nid, some ⟨o.cells ++ cs, sz, o.hw⟩)], ob ∧ okF cs ∧ (n + m) * byt ≤ 140737488355328 ∧ n + m ≤ 4611686018427387904 ∧ off = 0 ∧ o.esz = sz ∧ o.cells.length = n * sz ∧ o.hw ≤ o.cells.length)
theorem Zix {sz : Nat} {byt : Nat} {s : AO} {x : AO} : effA nid st (.app sz byt s x) = fapp nid sz byt st (st.e s) (src st sz (st.e x)) := by
  simp only [effA, fapp] <;> rfl
theorem Ziz {sz byt m id off n : Nat} {cs : List AV} {ob : Prop} : fapp nid sz byt st (.lv id off n) (some (m, cs, ob)) = fapp2 nid sz byt id off n m cs ob (look st.hp id) := by
  simp only [fapp, fapp2]
theorem Zi0 {sz byt m id off n e hw : Nat} {cs c : List AV} {ob : Prop} : fapp2 nid sz byt id off n m cs ob (some ⟨c, e, hw⟩) = some (.lv nid 0 (n + m), [(id, none), (nid, some ⟨c ++ cs, sz, hw⟩)], ob ∧ okF cs ∧ (n + m) * byt ≤ 140737488355328 ∧ n + m ≤ 4611686018427387904 ∧ off = 0 ∧ e = sz ∧ c.length = n * sz ∧ hw ≤ c.length) := rfl
def src2 (off m sz : Nat) : Option Ob → Option (Nat × List AV × Prop) | some o => some (m, (o.cells.drop off).take (m * sz), o.esz = sz ∧ off + m * sz ≤ o.cells.length) | none => none
theorem Zi1 {sz m : Nat} {cs : List AV} : src st sz (.fz m cs) = some (m, cs, cs.length = m * sz) := rfl
theorem Zi2 {sz id off m : Nat} : src st sz (.lv id off m) = src2 off m sz (look st.hp id) := rfl
theorem Zi3 {sz off m e hw : Nat} {c : List AV} : src2 off m sz (some ⟨c, e, hw⟩) = some (m, (c.drop off).take (m * sz), e = sz ∧ off + m * sz ≤ c.length) := rfl
theorem Zi6 {cs : List AV} : cel st (.ag cs) = some cs := rfl
theorem Zi7 {k : IntKind} {n : Int} : cel st (.sc (.int k n)) = some [.sc (.int k n)] := rfl
theorem Zi8 {b : Bool} : cel st (.sc (.bool b)) = some [.sc (.bool b)] := rfl
theorem Zjb {n : Nat} {c : List AV} : cel st (.fz n c) = some [.fz n c] := rfl
def cel2 (x : AV) : Option Ob → Option (List AV) | some _ => some [x] | none => none
theorem Zje {id off n : Nat} : cel st (.lv id off n) = cel2 (.lv id off n) (look st.hp id) := by
  simp only [cel, cel2] <;> cases look st.hp id <;> rfl
theorem Zjg {x : AV} {o : Ob} : cel2 x (some o) = some [x] := rfl
theorem Zjh : okCells st [] = True := propext ⟨fun _ => trivial, fun _ _ h => by cases h⟩
theorem Zji {x : AV} {l : List AV} : okCells st (x :: l) = (okc st x = true ∧ okCells st l) := propext ⟨fun h => ⟨h x (List.mem_cons_self ..), fun y hy => h y (List.mem_cons_of_mem _ hy)⟩, fun h y hy => by
  rcases List.mem_cons.1 hy with rfl | hy
  · exact h.1
  · exact h.2 y hy⟩
theorem Zjj : okF [] = True := propext ⟨fun _ => trivial, fun _ _ h => by cases h⟩
theorem Zjk {x : AV} {l : List AV} : okF (x :: l) = (okf x = true ∧ okF l) := propext ⟨fun h => ⟨h x (List.mem_cons_self ..), fun y hy => h y (List.mem_cons_of_mem _ hy)⟩, fun h y hy => by
  rcases List.mem_cons.1 hy with rfl | hy
  · exact h.1
  · exact h.2 y hy⟩
theorem Zjl : okI [] = True := propext ⟨fun _ => trivial, fun _ _ h => by cases h⟩
theorem Zjm {x : AV} {l : List AV} : okI (x :: l) = (isF x = true ∧ okI l) := propext ⟨fun h => ⟨h x (List.mem_cons_self ..), fun y hy => h y (List.mem_cons_of_mem _ hy)⟩, fun h y hy => by
  rcases List.mem_cons.1 hy with rfl | hy
  · exact h.1
  · exact h.2 y hy⟩
theorem Zjn {k : IntKind} {n : Int} : okc st (.sc (.int k n)) = true := rfl
theorem Zjo {k : IntKind} {n : Int} : okf (.sc (.int k n)) = true := rfl
theorem Zjp {k : IntKind} {n : Int} : isF (.sc (.int k n)) = true := rfl
theorem Zjq {k : IntKind} {n : Int} : isFl (.sc (.int k n)) = true := rfl
theorem Zjr {k : IntKind} {n : Int} : flat (.sc (.int k n)) = true := rfl
theorem Zjs {b : Bool} : okc st (.sc (.bool b)) = true := rfl
theorem Zjv {b : Bool} : isFl (.sc (.bool b)) = true := rfl
theorem Zjw {b : Bool} : flat (.sc (.bool b)) = true := rfl
theorem Zj2  : okc st (.nl) = true := rfl
theorem Zj7 {n : Nat} {c : List AV} : okc st (.fz n c) = true := rfl
theorem Zj8 {n : Nat} {c : List AV} : okf (.fz n c) = true := rfl
theorem Zj9 {n : Nat} {c : List AV} : isF (.fz n c) = true := rfl
theorem Zka {n : Nat} {c : List AV} : isFl (.fz n c) = false := rfl
theorem Zkb {n : Nat} {c : List AV} : flat (.fz n c) = false := rfl
theorem Zur {k : List Int} {c : List AV} : okc st (.mp k c) = true := rfl
theorem Zuu {k : List Int} {c : List AV} : isFl (.mp k c) = false := rfl
theorem Zkl {id off n : Nat} : okc st (.lv id off n) = (look st.hp id).isSome := rfl
def flL (l : List AV) : Bool := l.all isFl
theorem Zkv {c : List AV} : flat (.ag c) = flL c := rfl
theorem Zkw  : flL [] = true := rfl
theorem Zkx {x : AV} {l : List AV} : flL (x :: l) = (if isFl x = true then flL l else false) := by
  unfold flL; rw [List.all_cons] <;> cases isFl x <;> simp
def flm (x : AV) : Bool := match x with | .ag l => l.all isFl | x => isFl x
def flM (l : List AV) : Bool := l.all flm
theorem Zky {c : List AV} : flat (.tu c) = flM c := rfl
theorem Zkz  : flM [] = true := rfl
theorem Zk0 {x : AV} {l : List AV} : flM (x :: l) = (if flm x = true then flM l else false) := by
  unfold flM; rw [List.all_cons] <;> cases flm x <;> simp
theorem Zk1 {l : List AV} : flm (.ag l) = flL l := rfl
theorem Zk2 {v : Value} : flm (.sc v) = isFl (.sc v) := rfl
theorem Zk4 {n : Nat} {c : List AV} : flm (.fz n c) = isFl (.fz n c) := rfl
theorem Zk9 {f : FuncId} {c : List AV} : flat (.fn f c) = false := rfl
def fz2 : Option (AV × List (Nat × Nat) × Prop) → Option (List AV × List (Nat × Nat) × Prop) → Option (List AV × List (Nat × Nat) × Prop) | some (y, l, p), some (ys, ls, q) => some (y :: ys, l ++ ls, p ∧ q) | _, _ => none
theorem Zla  : frzs st [] = some ([], [], True) := rfl
theorem Zlb {x : AV} {r : List AV} : frzs st (x :: r) = fz2 (frz st x) (frzs st r) := rfl
theorem Zlc  : frzs1 st [] = some ([], [], True) := rfl
theorem Zld {x : AV} {r : List AV} : frzs1 st (x :: r) = fz2 (frz1 st x) (frzs1 st r) := rfl
theorem Zle {y : AV} {ys : List AV} {l ls : List (Nat × Nat)} {p q : Prop} : fz2 (some (y, l, p)) (some (ys, ls, q)) = some (y :: ys, l ++ ls, p ∧ q) := rfl
def fzag (x : Option (List AV × List (Nat × Nat) × Prop)) : Option (AV × List (Nat × Nat) × Prop) := match x with | some (ys, ls, p) => some (.ag ys, ls, p) | none => none
def fzfn (f : FuncId) (x : Option (List AV × List (Nat × Nat) × Prop)) : Option (AV × List (Nat × Nat) × Prop) := match x with | some (ys, ls, p) => some (.fn f ys, ls, p) | none => none
theorem Zlf {l : List AV} : frz st (.ag l) = fzag (frzs1 st l) := by
  simp only [frz, fzag] <;> cases frzs1 st l <;> rfl
theorem Zlg {f : FuncId} {l : List AV} : frz st (.fn f l) = fzfn f (frzs1 st l) := by
  simp only [frz, fzfn] <;> cases frzs1 st l <;> rfl
theorem Zlh {ys : List AV} {ls : List (Nat × Nat)} {p : Prop} : fzag (some (ys, ls, p)) = some (.ag ys, ls, p) := rfl
theorem Zli {f : FuncId} {ys : List AV} {ls : List (Nat × Nat)} {p : Prop} : fzfn f (some (ys, ls, p)) = some (.fn f ys, ls, p) := rfl
theorem Zlj {v : Value} : frz st (.sc v) = some (.sc v, [], True) := rfl
theorem Zlk {v : Value} : frz1 st (.sc v) = some (.sc v, [], True) := rfl
theorem Zll {n : Nat} {c : List AV} : frz st (.fz n c) = some (.fz n c, [], True) := rfl
theorem Zlm {n : Nat} {c : List AV} : frz1 st (.fz n c) = some (.fz n c, [], True) := rfl
theorem Zln {n : Nat} {c : List AV} : frz st (.fp c n) = some (.fp c n, [], True) := rfl
theorem Zlo {n : Nat} {c : List AV} : frz1 st (.fp c n) = some (.fp c n, [], True) := rfl
theorem Zu3 {k : List Int} {c : List AV} : frz1 st (.mp k c) = some (.mp k c, [], True) := rfl
theorem Zls  : frz1 st .nl = some (.fz 0 [], [], True) := rfl
def fzl (id off n : Nat) : Option Ob → Option (AV × List (Nat × Nat) × Prop) | some o => some (.fz n ((o.cells.drop off).take (n * o.esz)), [(id, off + n * o.esz)], off + n * o.esz ≤ o.cells.length ∧ 0 < o.esz ∧ okI o.cells) | none => none
def fzp (id off : Nat) : Option Ob → Option (AV × List (Nat × Nat) × Prop) | some o => some (.fp o.cells off, [(id, o.cells.length)], okI o.cells) | none => none
theorem Zlt {id off n : Nat} : frz st (.lv id off n) = fzl id off n (look st.hp id) := by
  simp only [frz, frz1, fzl] <;> cases look st.hp id <;> rfl
theorem Zlv {id off n : Nat} : frz1 st (.lv id off n) = fzl id off n (look st.hp id) := by
  simp only [frz, frz1, fzl] <;> cases look st.hp id <;> rfl
theorem Zlw {id off : Nat} : frz1 st (.pt id off) = fzp id off (look st.hp id) := by
  simp only [frz, frz1, fzp] <;> cases look st.hp id <;> rfl
theorem Zlx {id off n e hw : Nat} {c : List AV} : fzl id off n (some ⟨c, e, hw⟩) = some (.fz n ((c.drop off).take (n * e)), [(id, off + n * e)], off + n * e ≤ c.length ∧ 0 < e ∧ okI c) := rfl
theorem Zly {id off e hw : Nat} {c : List AV} : fzp id off (some ⟨c, e, hw⟩) = some (.fp c off, [(id, c.length)], okI c) := rfl
theorem Zlz {sl : List (Nat × AV)} {hp : List (Nat × Ob)} {nx : Nat} {dst : Option Nat} {ls : List (Nat × Nat)} {r : AV} : St.back (St.mk sl hp nx) nid dst ls none r = St.put (if flat r = true then (St.mk sl hp nx) else St.lends (St.mk sl hp nx) ls) dst r := rfl
def hpin (s : St) (nid : Nat) (o : Ob) : St := ⟨s.sl, ins s.hp nid o, s.nx⟩
theorem Zl0 {sl : List (Nat × AV)} {hp : List (Nat × Ob)} {nx : Nat} {dst : Option Nat} {ls : List (Nat × Nat)} {o : Ob} {r : AV} : St.back (St.mk sl hp nx) nid dst ls (some o) r = St.put (hpin (St.lends (St.mk sl hp nx) ls) nid o) dst (rnm nid r) := rfl
theorem Zl1 {sl : List (Nat × AV)} {hp : List (Nat × Ob)} {nx : Nat} {o : Ob} : hpin (St.mk sl hp nx) nid o = St.mk sl (ins hp nid o) nx := rfl
theorem Zl2 {sl : List (Nat × AV)} {hp : List (Nat × Ob)} {nx : Nat} : St.lends (St.mk sl hp nx) [] = (St.mk sl hp nx) := rfl
def len2' (sl : List (Nat × AV)) (hp : List (Nat × Ob)) (nx : Nat) (id k : Nat) (r : List (Nat × Nat)) : Option Ob → St | some o => St.lends ⟨sl, ins hp id ⟨o.cells, o.esz, max o.hw k⟩, nx⟩ r | none => St.lends ⟨sl, hp, nx⟩ r
theorem Zl3 {sl : List (Nat × AV)} {hp : List (Nat × Ob)} {nx : Nat} {id k : Nat} {r : List (Nat × Nat)} : St.lends (St.mk sl hp nx) ((id, k) :: r) = len2' sl hp nx id k r (look hp id) := by
  simp only [St.lends, len2'] <;> cases look hp id <;> rfl
theorem Zl4 {sl : List (Nat × AV)} {hp : List (Nat × Ob)} {nx : Nat} {id k e hw : Nat} {c : List AV} {r : List (Nat × Nat)} : len2' sl hp nx id k r (some ⟨c, e, hw⟩) = St.lends (St.mk sl (ins hp id ⟨c, e, max hw k⟩) nx) r := rfl
theorem Zmk {id off n : Nat} : rnm nid (.lv id off n) = .lv nid off n := rfl
theorem Zmt {sl : List (Nat × AV)} {hp : List (Nat × Ob)} {nx : Nat} {m : Nat} {rs : List AR} {hp1 : List (Nat × Ob)} {r : AV} : RetsA m rs hp1 r .ret (St.mk sl hp nx) = RvA m hp1 r hp (rvA (St.mk sl hp nx) rs) := by
  simp only [RetsA, true_and]
theorem Zmv {m : Nat} {hp1 hp : List (Nat × Ob)} {r : AV} {l : List AV} {p : Prop} : RvA m hp1 r hp (some (l, p)) = (p ∧ EndF m hp (one l) hp1 r) := rfl
def rv2' (x : AV) : Option (List AV × Prop) → Option (List AV × Prop) | some (l, p) => some (x :: l, p) | none => none
def rv3' (ag : Bool) (sz off : Nat) : Option (List AV × Prop) → Option Ob → Option (List AV × Prop) | some (l, p), some o => some (rdx ag sz o.cells off :: l, p ∧ off + sz ≤ o.cells.length) | _, _ => none
def rv4' (ag : Bool) (sz : Nat) (hp : List (Nat × Ob)) (x : Option (List AV × Prop)) : AV → Option (List AV × Prop) | .pt id off => rv3' ag sz off x (look hp id) | _ => none
theorem Zmw  : rvA st [] = some ([], True) := rfl
theorem Zmx {sl : List (Nat × AV)} {hp : List (Nat × Ob)} {nx : Nat} {t : Nat} {r : List AR} : rvA (St.mk sl hp nx) (.t t :: r) = rv2' (lk sl t) (rvA (St.mk sl hp nx) r) := by
  simp only [rvA, rv2', lk, St.get] <;> cases rvA (St.mk sl hp nx) r <;> rfl
theorem Zmy {sl : List (Nat × AV)} {hp : List (Nat × Ob)} {nx : Nat} {t sz : Nat} {ag : Bool} {r : List AR} : rvA (St.mk sl hp nx) (.c t ag sz :: r) = rv4' ag sz hp (rvA (St.mk sl hp nx) r) (lk sl t) := by
  simp only [rvA, rv4', rv3', lk, St.get] <;> cases rvA (St.mk sl hp nx) r <;> cases (look sl t).getD AV.un <;> simp only <;> (try (rename_i id off; cases look hp id <;> rfl))
theorem Zmz {x : AV} {l : List AV} {p : Prop} : rv2' x (some (l, p)) = some (x :: l, p) := rfl
theorem Zm0 {ag : Bool} {sz id off : Nat} {hp : List (Nat × Ob)} {x : Option (List AV × Prop)} : rv4' ag sz hp x (.pt id off) = rv3' ag sz off x (look hp id) := rfl
theorem Zm1 {ag : Bool} {sz off e hw : Nat} {c l : List AV} {p : Prop} : rv3' ag sz off (some (l, p)) (some ⟨c, e, hw⟩) = some (rdx ag sz c off :: l, p ∧ off + sz ≤ c.length) := rfl
theorem Zm2 {x : AV} : one [x] = x := rfl
theorem Zm3 {x y : AV} {l : List AV} : one (x :: y :: l) = .tu (x :: y :: l) := rfl
def rdb (c : List AV) (off sz : Nat) : List AV := (c.drop off).take sz
theorem Zm5 {sz off : Nat} {c : List AV} : rdx true sz c off = .ag (if sz ≤ 8 then rdn c off sz else rdb c off sz) := by
  unfold rdx rdb; simp only [if_true]; split <;> rfl
theorem Zm6 {sz off : Nat} {c : List AV} : rdx false sz c off = c.getD off .un := by
  unfold rdx; simp only [Bool.false_eq_true, if_false]
theorem Zm7 {c : List AV} {off n : Nat} : rdn c off n = (if n = 0 then [] else c.getD off .un :: rdn c (off + 1) (n - 1)) := by
  cases n with
  | zero => rfl
  | succ n => simp [rdn]
theorem Zm9 {x d : AV} {l : List AV} {i : Nat} : (x :: l).getD i d = (if i = 0 then x else l.getD (i - 1) d) := by
  cases i with
  | zero => rfl
  | succ i => simp
theorem Zna {α : Type} : ([] : List α).length = 0 := rfl
theorem Znb {α : Type} {x : α} {l : List α} : (x :: l).length = l.length + 1 := rfl
theorem Znc {α : Type} {l : List α} : [] ++ l = l := rfl
theorem Znd {α : Type} {x : α} {l r : List α} : (x :: l) ++ r = x :: (l ++ r) := rfl
theorem Zne {α : Type} {l : List α} : l ++ [] = l := List.append_nil l
theorem Znf {α β : Type} {f : α → β} : List.map f [] = [] := rfl
theorem Zng {α β : Type} {f : α → β} {x : α} {l : List α} : List.map f (x :: l) = f x :: List.map f l := rfl
theorem Znh {α : Type} {l : List α} : List.drop 0 l = l := rfl
theorem Znl {x : AV} {l : List AV} {n : Nat} : List.take n (x :: l) = (if n = 0 then [] else x :: List.take (n - 1) l) := by
  cases n with
  | zero => rfl
  | succ n => simp
theorem Znm {n : Nat} : List.take n ([] : List AV) = [] := by simp
theorem Znn {c : List AV} {off : Nat} : spl c off [] = c := rfl
theorem Zno {c r : List AV} {x : AV} {off : Nat} : spl c off (x :: r) = spl (c.set off x) (off + 1) r := rfl
theorem Znp {x v : AV} {l : List AV} {i : Nat} : (x :: l).set i v = (if i = 0 then v :: l else x :: l.set (i - 1) v) := by
  cases i with
  | zero => rfl
  | succ i => simp
theorem Znr {α : Type} {x : α} : (some x).isSome = true := rfl
theorem Zns {n : Nat} : Int.toNat (IN n) = n := Int.toNat_natCast n
theorem Znt {a b : Nat} : (IN a < IN b) = (a < b) := by simp [IN]
theorem Znu {a b : Nat} : (IN a ≤ IN b) = (a ≤ b) := by simp [IN]
theorem Znv {a b : Nat} : (IN a = IN b) = (a = b) := by simp [IN]; omega
theorem Znw {a : Nat} : (0 ≤ IN a) = True := by simp [IN]
theorem Zny {a : Nat} : (IN a = 0) = (a = 0) := by simp [IN]
theorem Zn5  : IN 0 = 0 := rfl
theorem Zn6  : IN 1 = 1 := rfl
theorem Zn9  : IN 4 = 4 := rfl
theorem Zoa  : IN 8 = 8 := rfl
theorem Zob  : IN 16 = 16 := rfl
theorem Zoc  : IN 32 = 32 := rfl
theorem Zod {a b : List AV} : okI (a ++ b) = (okI a ∧ okI b) := propext (okI_append a b)
theorem Zof {α β : Type} {a : α} {b : β} : (a, b).1 = a := rfl
theorem Zog {α β : Type} {a : α} {b : β} : (a, b).2 = b := rfl
theorem Zok  : eqL [] [] = true := by simp [eqL]
theorem Zol {k : IntKind} {a b : Int} {xs ys : List AV} : eqL (.sc (.int k a) :: xs) (.sc (.int k b) :: ys) = (if (a = b) then eqL xs ys else false) := by
  unfold eqL
  by_cases h : a = b <;> simp [h]
theorem Zom {k : IntKind} {a b : Int} {l : List LK} {xs ys : List AV} : sks (.i :: l) (.sc (.int k a) :: xs) (.sc (.int k b) :: ys) = sks l xs ys := by simp [sks, sk]
theorem Zon {a b : Bool} {xs ys : List AV} : eqL (.sc (.bool a) :: xs) (.sc (.bool b) :: ys) = (if (a == b) = true then eqL xs ys else false) := by
  unfold eqL
  by_cases h : a = b <;> simp [h]
theorem Zoo {a b : Bool} {l : List LK} {xs ys : List AV} : sks (.b :: l) (.sc (.bool a) :: xs) (.sc (.bool b) :: ys) = sks l xs ys := by simp [sks, sk]
theorem Zor  : sks [] [] [] = True := by simp [sks]
theorem Zrd {n : Nat} : Int.toNat (@OfNat.ofNat Int n instOfNat) = @OfNat.ofNat Nat n (instOfNatNat n) := rfl
theorem Zos {k : Nat} : slots [] k = [] := rfl
theorem Zot {x : AV} {r : List AV} {k : Nat} : slots (x :: r) k = (k, x) :: slots r (k + 1) := rfl
theorem Zou {p : Prop} [Decidable p] : (decide p = true) = p := propext decide_eq_true_iff
theorem Zoy {b : Bool} : (b == false) = !b := by cases b <;> rfl
theorem Zo3  : (!true) = false := rfl
theorem Zo4  : (!false) = true := rfl
theorem Zo6  : (true = false) = False := by simp
theorem Zo7  : (false = true) = False := by simp
theorem Zo8  : decide True = true := by simp
theorem Zo9  : decide False = false := by simp
theorem Zpa {ρ : List (Nat × Nat)} {hp hp' : List (Nat × Ob)} {v v' : Value} : Sim.rv1 ρ hp hp' (.sc v) (.sc v') = (v = v') := propext ⟨fun h => by have h := h.1; injection h, fun h => ⟨by subst h; rfl, rfl⟩⟩
theorem Zpb {ρ : List (Nat × Nat)} {hp hp' : List (Nat × Ob)} {v v' : Value} : Sim.rv2 ρ hp hp' (.sc v) (.sc v') = (v = v') := propext ⟨fun h => by have h := h.1; injection h, fun h => ⟨by subst h; rfl, rfl⟩⟩
theorem Zpc {ρ : List (Nat × Nat)} {hp hp' : List (Nat × Ob)} {v v' : Value} : Sim.rvm ρ hp hp' (.sc v) (.sc v') = (v = v') := propext ⟨fun h => by have h := h.1; injection h, fun h => ⟨by subst h; rfl, rfl⟩⟩
theorem Zpd {ρ : List (Nat × Nat)} {hp hp' : List (Nat × Ob)}  : Sim.rv1 ρ hp hp' (.nl) (.nl) = (True) := propext ⟨fun _ => trivial, fun _ => ⟨rfl, rfl⟩⟩
theorem Zpg {ρ : List (Nat × Nat)} {hp hp' : List (Nat × Ob)} {n n' : Nat} {c c' : List AV} : Sim.rv1 ρ hp hp' (.fz n c) (.fz n' c') = (n = n' ∧ c = c') := propext ⟨fun h => by have h := h.1; injection h with h1 h2; exact ⟨h1, h2⟩, fun h => ⟨by rw [h.1, h.2], rfl⟩⟩
theorem Zph {ρ : List (Nat × Nat)} {hp hp' : List (Nat × Ob)} {n n' : Nat} {c c' : List AV} : Sim.rv2 ρ hp hp' (.fz n c) (.fz n' c') = (n = n' ∧ c = c') := propext ⟨fun h => by have h := h.1; injection h with h1 h2; exact ⟨h1, h2⟩, fun h => ⟨by rw [h.1, h.2], rfl⟩⟩
theorem Zpi {ρ : List (Nat × Nat)} {hp hp' : List (Nat × Ob)} {n n' : Nat} {c c' : List AV} : Sim.rvm ρ hp hp' (.fz n c) (.fz n' c') = (n = n' ∧ c = c') := propext ⟨fun h => by have h := h.1; injection h with h1 h2; exact ⟨h1, h2⟩, fun h => ⟨by rw [h.1, h.2], rfl⟩⟩
theorem Zpj {ρ : List (Nat × Nat)} {hp hp' : List (Nat × Ob)} {n n' : Nat} {c c' : List AV} : Sim.rv1 ρ hp hp' (.fp c n) (.fp c' n') = (c = c' ∧ n = n') := propext ⟨fun h => by have h := h.1; injection h with h1 h2; exact ⟨h1, h2⟩, fun h => ⟨by rw [h.1, h.2], rfl⟩⟩
theorem Zu7 {ρ : List (Nat × Nat)} {hp hp' : List (Nat × Ob)} {k k' : List Int} {c c' : List AV} : Sim.rv1 ρ hp hp' (.mp k c) (.mp k' c') = (k = k' ∧ c = c') := propext ⟨fun h => by have h := h.1; injection h with h1 h2; exact ⟨h1, h2⟩, fun h => ⟨by rw [h.1, h.2], rfl⟩⟩
theorem Zpo {ρ : List (Nat × Nat)} {hp hp' : List (Nat × Ob)} {j o n id o' n' : Nat} : Sim.rvm ρ hp hp' (.lv j o n) (.lv id o' n') = ((look hp' id).isSome = true ∧ look ρ id = some j ∧ o = o' ∧ n = n' ∧ (look hp j).isSome = true) := rfl
theorem Zpr {ρ : List (Nat × Nat)} {hp hp' : List (Nat × Ob)} {id o n : Nat} : Sim.rvm ρ hp hp' (.nl) (.lv id o n) = ((look hp' id).isSome = true ∧ look ρ id = none ∧ o = 0 ∧ n = 0) := rfl
theorem Zpu {ρ : List (Nat × Nat)} {hp hp' : List (Nat × Ob)} {j o id o' : Nat} : Sim.rvm ρ hp hp' (.pt j o) (.pt id o') = ((look hp' id).isSome = true ∧ look ρ id = some j ∧ o = o' ∧ (look hp j).isSome = true) := rfl
theorem Zpv {ρ : List (Nat × Nat)} {hp hp' : List (Nat × Ob)} {n : Nat} {c : List AV} : Sim.rv1 ρ hp hp' (.nl) (.fz n c) = (n = 0 ∧ c = []) := rfl
theorem Zpw {ρ : List (Nat × Nat)} {hp hp' : List (Nat × Ob)} {n : Nat} {c : List AV} : Sim.rv2 ρ hp hp' (.nl) (.fz n c) = (n = 0 ∧ c = []) := rfl
theorem Zpx {ρ : List (Nat × Nat)} {hp hp' : List (Nat × Ob)} {n : Nat} {c : List AV} : Sim.rvm ρ hp hp' (.nl) (.fz n c) = (n = 0 ∧ c = []) := rfl
def hwA (ρ : List (Nat × Nat)) (j k : Nat) : List (Nat × Ob) → Prop | [] => True | (id, o) :: r => (if look ρ id = some j then k ≤ o.hw else True) ∧ hwA ρ j k r
theorem hwA_spec {ρ : List (Nat × Nat)} {j k : Nat} : ∀ {hp' : List (Nat × Ob)}, hwA ρ j k hp' → ∀ p ∈ hp', look ρ p.1 = some j → k ≤ p.2.hw
  | [], _, p, hp, _ => by cases hp
  | (id, o) :: r, h, p, hp, hl => by
    rcases List.mem_cons.1 hp with rfl | hp
    · have := h.1; rw [if_pos hl] at this; exact this
    · exact hwA_spec h.2 p hp hl
theorem hwA_of {ρ : List (Nat × Nat)} {j k : Nat} : ∀ {hp' : List (Nat × Ob)}, (∀ p ∈ hp', look ρ p.1 = some j → k ≤ p.2.hw) → hwA ρ j k hp'
  | [], _ => trivial
  | (id, o) :: r, h => by
    refine ⟨?_, hwA_of (fun p hp => h p (List.mem_cons_of_mem _ hp))⟩
    split
    · rename_i e; exact h (id, o) (List.mem_cons_self ..) e
    · trivial
def fzA (ρ : List (Nat × Nat)) (hp' : List (Nat × Ob)) (j o n n' : Nat) (cs : List AV) : Option Ob → Prop | none => False | some ob => n' = n ∧ cs = (ob.cells.drop o).take (n * ob.esz) ∧ o + n * ob.esz ≤ ob.cells.length ∧ 0 < ob.esz ∧ okI ob.cells ∧ hwA ρ j (o + n * ob.esz) hp'
theorem Zpy {ρ : List (Nat × Nat)} {hp hp' : List (Nat × Ob)} {j o n n' : Nat} {cs : List AV} : Sim.rv1 ρ hp hp' (.lv j o n) (.fz n' cs) = (fzA ρ hp' j o n n' cs (look hp j)) := by
  refine propext ⟨?_, ?_⟩
  · rintro ⟨ob, h1, h2, h3, h4, h5, h6, h7⟩
    rw [h1]
    exact ⟨h2, h3, h4, h5, h6, hwA_of h7⟩
  · intro h
    cases hl : look hp j with
    | none => rw [hl] at h; exact h.elim
    | some ob => rw [hl] at h; exact ⟨ob, hl, h.1, h.2.1, h.2.2.1, h.2.2.2.1, h.2.2.2.2.1, hwA_spec h.2.2.2.2.2⟩
theorem Zpz {ρ : List (Nat × Nat)} {hp hp' : List (Nat × Ob)} {j o n n' : Nat} {cs : List AV} : Sim.rv2 ρ hp hp' (.lv j o n) (.fz n' cs) = (fzA ρ hp' j o n n' cs (look hp j)) := by
  refine propext ⟨?_, ?_⟩
  · rintro ⟨ob, h1, h2, h3, h4, h5, h6, h7⟩
    rw [h1]
    exact ⟨h2, h3, h4, h5, h6, hwA_of h7⟩
  · intro h
    cases hl : look hp j with
    | none => rw [hl] at h; exact h.elim
    | some ob => rw [hl] at h; exact ⟨ob, hl, h.1, h.2.1, h.2.2.1, h.2.2.2.1, h.2.2.2.2.1, hwA_spec h.2.2.2.2.2⟩
theorem Zp0 {ρ : List (Nat × Nat)} {hp hp' : List (Nat × Ob)} {j o n n' : Nat} {cs : List AV} : Sim.rvm ρ hp hp' (.lv j o n) (.fz n' cs) = (fzA ρ hp' j o n n' cs (look hp j)) := by
  refine propext ⟨?_, ?_⟩
  · rintro ⟨ob, h1, h2, h3, h4, h5, h6, h7⟩
    rw [h1]
    exact ⟨h2, h3, h4, h5, h6, hwA_of h7⟩
  · intro h
    cases hl : look hp j with
    | none => rw [hl] at h; exact h.elim
    | some ob => rw [hl] at h; exact ⟨ob, hl, h.1, h.2.1, h.2.2.1, h.2.2.2.1, h.2.2.2.2.1, hwA_spec h.2.2.2.2.2⟩
theorem Zp1 {ρ : List (Nat × Nat)} {hp' : List (Nat × Ob)} {j o n n' e hw : Nat} {cs c : List AV} : fzA ρ hp' j o n n' cs (some ⟨c, e, hw⟩) = (n' = n ∧ cs = (c.drop o).take (n * e) ∧ o + n * e ≤ c.length ∧ 0 < e ∧ okI c ∧ hwA ρ j (o + n * e) hp') := rfl
theorem Zp2 {ρ : List (Nat × Nat)} {j k : Nat} : hwA ρ j k [] = True := rfl
def fpA (ρ : List (Nat × Nat)) (hp' : List (Nat × Ob)) (j o o' : Nat) (cs : List AV) : Option Ob → Prop | none => False | some ob => cs = ob.cells ∧ o' = o ∧ okI ob.cells ∧ hwA ρ j ob.cells.length hp'
theorem Zvi {ρ : List (Nat × Nat)} {hp hp' : List (Nat × Ob)} {j o o' : Nat} {cs : List AV} : Sim.rv1 ρ hp hp' (.pt j o) (.fp cs o') = (fpA ρ hp' j o o' cs (look hp j)) := by
  refine propext ⟨?_, ?_⟩
  · rintro ⟨ob, h1, h2, h3, h6, h7⟩
    rw [h1]
    exact ⟨h2, h3, h6, hwA_of h7⟩
  · intro h
    cases hl : look hp j with
    | none => rw [hl] at h; exact h.elim
    | some ob => rw [hl] at h; exact ⟨ob, hl, h.1, h.2.1, h.2.2.1, hwA_spec h.2.2.2⟩
theorem Zvl {ρ : List (Nat × Nat)} {hp' : List (Nat × Ob)} {j o o' e hw : Nat} {cs c : List AV} : fpA ρ hp' j o o' cs (some ⟨c, e, hw⟩) = (cs = c ∧ o' = o ∧ okI c ∧ hwA ρ j c.length hp') := rfl
theorem Zp7 {ρ : List (Nat × Nat)} {hp hp' : List (Nat × Ob)} {l l' : List AV} : Sim.rv2 ρ hp hp' (.ag l) (.ag l') = rv1s ρ hp hp' l l' := rfl
theorem Zp8 {ρ : List (Nat × Nat)} {hp hp' : List (Nat × Ob)} {l l' : List AV} : Sim.rvm ρ hp hp' (.ag l) (.ag l') = rv1s ρ hp hp' l l' := rfl
theorem Zp9 {ρ : List (Nat × Nat)} {hp hp' : List (Nat × Ob)} {l l' : List AV} : rvm ρ hp hp' (.tu l) (.tu l') = rv2s ρ hp hp' l l' := rfl
theorem Zqa {ρ : List (Nat × Nat)} {hp hp' : List (Nat × Ob)} {f f' : FuncId} {l l' : List AV} : rvm ρ hp hp' (.fn f l) (.fn f' l') = (f = f' ∧ rv1s ρ hp hp' l l') := rfl
theorem Zqb {ρ : List (Nat × Nat)} {hp hp' : List (Nat × Ob)} : rv1s ρ hp hp' [] [] = True := rfl
theorem Zqc {ρ : List (Nat × Nat)} {hp hp' : List (Nat × Ob)} {x y : AV} {l l' : List AV} : rv1s ρ hp hp' (x :: l) (y :: l') = (rv1 ρ hp hp' x y ∧ rv1s ρ hp hp' l l') := rfl
theorem Zqd {ρ : List (Nat × Nat)} {hp hp' : List (Nat × Ob)} : rv2s ρ hp hp' [] [] = True := rfl
theorem Zqe {ρ : List (Nat × Nat)} {hp hp' : List (Nat × Ob)} {x y : AV} {l l' : List AV} : rv2s ρ hp hp' (x :: l) (y :: l') = (rv2 ρ hp hp' x y ∧ rv2s ρ hp hp' l l') := rfl
theorem rv1_self {ρ : List (Nat × Nat)} {hp hp' : List (Nat × Ob)} {x : AV} (h : isF x = true) : rv1 ρ hp hp' x x := by
  cases x <;> first | exact ⟨rfl, rfl⟩ | trivial | cases h
theorem rs_self {ρ : List (Nat × Nat)} {hp hp' : List (Nat × Ob)} : ∀ {l : List AV}, okI l → rv1s ρ hp hp' l l
  | [], _ => trivial
  | x :: l, h => ⟨rv1_self (h x (List.mem_cons_self ..)), rs_self (fun y hy => h y (List.mem_cons_of_mem _ hy))⟩
def slA (ρ : List (Nat × Nat)) (sl : List (Nat × AV)) (hp hp' : List (Nat × Ob)) : List (Nat × AV) → Prop | [] => True | (k, v) :: r => rvm ρ hp hp' (lk sl k) v ∧ slA ρ sl hp hp' r
def obC (ρ : List (Nat × Nat)) (hp hp' : List (Nat × Ob)) (o : Ob) : Option Ob → Prop | none => False | some q => o.esz = q.esz ∧ q.hw ≤ o.hw ∧ rv1s ρ hp hp' q.cells o.cells
def obB (ρ : List (Nat × Nat)) (hp hp' : List (Nat × Ob)) (o : Ob) : Option Nat → Prop | none => o.cells = [] | some j => obC ρ hp hp' o (look hp j)
def obA (ρ : List (Nat × Nat)) (hp hp' : List (Nat × Ob)) (nx : Nat) : List (Nat × Ob) → Prop | [] => True | (id, o) :: r => (id < nx ∧ obB ρ hp hp' o (look ρ id)) ∧ obA ρ hp hp' nx r
def ndA : List (Nat × Nat) → List Nat → Prop | [], _ => True | (_, j) :: r, l => l.contains j = false ∧ ndA r (j :: l)
theorem slA_spec {ρ : List (Nat × Nat)} {sl : List (Nat × AV)} {hp hp' : List (Nat × Ob)} {nx : Nat} : ∀ {sl' : List (Nat × AV)}, slA ρ sl hp hp' sl' → ∀ p ∈ sl', rvm ρ hp hp' ((St.mk sl hp nx).get p.1) p.2
  | [], _, p, h => by cases h
  | (k, v) :: r, h, p, hm => by
    rcases List.mem_cons.1 hm with rfl | hm
    · exact h.1
    · exact slA_spec h.2 p hm
theorem obA_spec {ρ : List (Nat × Nat)} {hp hp' : List (Nat × Ob)} {nx : Nat} : ∀ {l : List (Nat × Ob)}, obA ρ hp hp' nx l → ∀ p ∈ l, p.1 < nx ∧ obk ρ hp hp' p
  | [], _, p, h => by cases h
  | (id, o) :: r, h, p, hm => by
    rcases List.mem_cons.1 hm with rfl | hm
    · refine ⟨h.1.1, ?_⟩
      have h2 := h.1.2
      unfold obk
      cases hl : look ρ id with
      | none => rw [hl] at h2; exact h2
      | some j =>
        rw [hl] at h2
        simp only [obB] at h2
        simp only
        cases hq : look hp j with
        | none => rw [hq] at h2; exact h2
        | some q => rw [hq] at h2; exact ⟨h2.1, h2.2.1, .inr h2.2.2⟩
    · exact obA_spec h.2 p hm
theorem ndA_spec : ∀ {ρ : List (Nat × Nat)} {l : List Nat}, ndA ρ l → (ρ.map (·.2)).Nodup ∧ ∀ x ∈ ρ.map (·.2), x ∉ l
  | [], l, _ => ⟨List.nodup_nil, fun x hx => by cases hx⟩
  | (i, j) :: r, l, h => by
    obtain ⟨h1, h2⟩ := ndA_spec h.2
    have hj : j ∉ l := by have := h.1; simpa using this
    refine ⟨List.nodup_cons.2 ⟨fun hm => h2 j hm (List.mem_cons_self ..), h1⟩, fun x hx => ?_⟩
    rcases List.mem_cons.1 hx with rfl | hx
    · exact hj
    · exact fun hl => h2 x hx (List.mem_cons_of_mem _ hl)
end
end Go.Sim.E
namespace Go.Sim
open Go.Sim.E
theorem wkA {ρ : List (Nat × Nat)} {sl sl' : List (Nat × AV)} {hp hp' : List (Nat × Ob)} {nx nx' : Nat} (h : slA ρ sl hp hp' sl' ∧ obA ρ hp hp' nx' hp' ∧ ndA ρ []) : Wk 0 ρ ⟨sl, hp, nx⟩ ⟨sl', hp', nx'⟩ :=
  ⟨slA_spec h.1, fun p hp => (obA_spec h.2.1 p hp).2, (ndA_spec h.2.2).1, fun p hp => (obA_spec h.2.1 p hp).1, Nat.zero_le _, fun p _ h0 => absurd h0 (Nat.not_lt_zero _)⟩
def mkA (m : Nat) (ρ : List (Nat × Nat)) : List (Nat × Ob) → Prop | [] => True | (id, o) :: r => (if id < m then look ρ id = some id else True) ∧ mkA m ρ r
theorem mkA_spec {m : Nat} {ρ : List (Nat × Nat)} : ∀ {l : List (Nat × Ob)}, mkA m ρ l → ∀ p ∈ l, p.1 < m → look ρ p.1 = some p.1
  | [], _, p, h, _ => by cases h
  | (id, o) :: r, h, p, hm, hlt => by
    rcases List.mem_cons.1 hm with rfl | hm
    · have := h.1; rw [if_pos hlt] at this; exact this
    · exact mkA_spec h.2 p hm hlt
theorem wkM {m : Nat} {ρ : List (Nat × Nat)} {sl sl' : List (Nat × AV)} {hp hp' : List (Nat × Ob)} {nx nx' : Nat} (h : slA ρ sl hp hp' sl' ∧ obA ρ hp hp' nx' hp' ∧ ndA ρ [] ∧ m ≤ nx' ∧ mkA m ρ hp') : Wk m ρ ⟨sl, hp, nx⟩ ⟨sl', hp', nx'⟩ :=
  ⟨slA_spec h.1, fun p hp => (obA_spec h.2.1 p hp).2, (ndA_spec h.2.2.1).1, fun p hp => (obA_spec h.2.1 p hp).1, h.2.2.2.1, mkA_spec h.2.2.2.2⟩
theorem endM {m : Nat} {hp hp1 : List (Nat × Ob)} {x r : AV} (ρ : List (Nat × Nat)) (nx : Nat) (h : rvm ρ hp hp1 x r ∧ obA ρ hp hp1 nx hp1 ∧ ndA ρ [] ∧ mkA m ρ hp1) : EndF m hp x hp1 r := ⟨ρ, h.1, fun p hp => (obA_spec h.2.1 p hp).2, (ndA_spec h.2.2.1).1, mkA_spec h.2.2.2⟩
theorem endA {hp : List (Nat × Ob)} {x r : AV} (h : rvm [] hp [] x r) : EndF 0 hp x [] r := ⟨[], h, (fun p hp => by cases hp), List.nodup_nil, (fun p hp => by cases hp)⟩
theorem endO {hp hp1 : List (Nat × Ob)} {x r : AV} (ρ : List (Nat × Nat)) {nx : Nat} (h : rvm ρ hp hp1 x r ∧ obA ρ hp hp1 nx hp1 ∧ ndA ρ []) : EndF 0 hp x hp1 r := ⟨ρ, h.1, fun p hp => (obA_spec h.2.1 p hp).2, (ndA_spec h.2.2).1, fun p _ h0 => absurd h0 (Nat.not_lt_zero _)⟩
end Go.Sim
namespace Go.Sim.E
section
theorem Zq5 {m : Nat} {ρ : List (Nat × Nat)} : mkA m ρ [] = True := rfl
theorem Zq6 {m id : Nat} {ρ : List (Nat × Nat)} {o : Ob} {r : List (Nat × Ob)} : mkA m ρ ((id, o) :: r) = ((if id < m then look ρ id = some id else True) ∧ mkA m ρ r) := rfl
theorem Zqf {ρ : List (Nat × Nat)} {hp hp' : List (Nat × Ob)} {sl : List (Nat × AV)} : slA ρ sl hp hp' [] = True := rfl
theorem Zqg {ρ : List (Nat × Nat)} {hp hp' : List (Nat × Ob)} {sl r : List (Nat × AV)} {k : Nat} {v : AV} : slA ρ sl hp hp' ((k, v) :: r) = (rvm ρ hp hp' (lk sl k) v ∧ slA ρ sl hp hp' r) := rfl
theorem Zqh {ρ : List (Nat × Nat)} {hp hp' : List (Nat × Ob)} {nx : Nat} : obA ρ hp hp' nx [] = True := rfl
theorem Zqi {ρ : List (Nat × Nat)} {hp hp' : List (Nat × Ob)} {nx id : Nat} {o : Ob} {r : List (Nat × Ob)} : obA ρ hp hp' nx ((id, o) :: r) = ((id < nx ∧ obB ρ hp hp' o (look ρ id)) ∧ obA ρ hp hp' nx r) := rfl
theorem Zqj {ρ : List (Nat × Nat)} {hp hp' : List (Nat × Ob)} {e hw : Nat} {c : List AV} : obB ρ hp hp' ⟨c, e, hw⟩ none = (c = []) := rfl
theorem Zqk {ρ : List (Nat × Nat)} {hp hp' : List (Nat × Ob)} {o : Ob} {j : Nat} : obB ρ hp hp' o (some j) = obC ρ hp hp' o (look hp j) := rfl
theorem Zql {ρ : List (Nat × Nat)} {hp hp' : List (Nat × Ob)} {c c2 : List AV} {e e2 hw hw2 : Nat} : obC ρ hp hp' ⟨c, e, hw⟩ (some ⟨c2, e2, hw2⟩) = (e = e2 ∧ hw2 ≤ hw ∧ rv1s ρ hp hp' c2 c) := rfl
theorem Zqm {l : List Nat} : ndA [] l = True := rfl
theorem Zqn {i j : Nat} {r : List (Nat × Nat)} {l : List Nat} : ndA ((i, j) :: r) l = (l.contains j = false ∧ ndA r (j :: l)) := rfl
theorem Zqr {k : IntKind} {a b : Int} : (Value.int k a = Value.int k b) = (a = b) := by simp
variable {P : Program} {m : Nat} {Q : Exit → St → Prop} {sl : List (Nat × AV)} {hp : List (Nat × Ob)} {nx : Nat}
theorem Zvb {f : AO} {p : Nat} {x y : ACode} : awA P m (.rgf f p x y) (St.mk sl hp nx) Q = RgA P m (awA P m x) (awA P m y) (St.e (St.mk sl hp nx) f) p (St.mk sl hp nx) Q := rfl
theorem Zvc {α : Type} {g : St → (Exit → St → Prop) → Prop} {sl' : List (Nat × AV)} {I : List α → List (Nat × Ob) → Nat → Prop} {Ix : Exit → List α → List (Nat × Ob) → Nat → Prop} {xs : List α} : KRg m g sl' I Ix xs .normal (St.mk sl hp nx) = (hw0 hp ∧ g (St.mk sl hp nx) (RgQ m sl' I Ix xs)) := by simp [KRg]
theorem Zvd {α : Type} {sl' : List (Nat × AV)} {I : List α → List (Nat × Ob) → Nat → Prop} {Ix : Exit → List α → List (Nat × Ob) → Nat → Prop} {xs : List α} {s : St} : RgQ m sl' I Ix xs .normal s = RgN m sl' I xs s := rfl
theorem Zve {α : Type} {sl' : List (Nat × AV)} {I : List α → List (Nat × Ob) → Nat → Prop} {Ix : Exit → List α → List (Nat × Ob) → Nat → Prop} {xs : List α} : RgQ m sl' I Ix xs .ret (St.mk sl hp nx) = Ix .ret xs hp nx := rfl
theorem Zvg  : hw0 [] = True := by simp [hw0]
theorem Zvh {id e h : Nat} {c : List AV} : hw0 ((id, ⟨c, e, h⟩) :: hp) = (h = 0 ∧ hw0 hp) := by simp [hw0]
end
end Go.Sim.E
namespace Go.Sim
theorem con_j {P : Program} {f : FuncId} {x : ACode} {rs : List AR} {n : Nat} {args : List AV} {r : AV} (hk : cmpG P f = some (strip x, rs, n)) (hargs : Nat.ble args.length n = true) (h : awA P 0 x ⟨slots args 0, [], 0⟩ (RetsA 0 rs [] r)) : Con P f [] args [] r := con_k hk (Nat.le_of_ble_eq_true hargs) h
theorem con_n {P : Program} {f : FuncId} {x : ACode} {rs : List AR} {n : Nat} {args : List AV} {ob : Ob} {hp1 : List (Nat × Ob)} {r : AV} (hk : cmpG P f = some (strip x, rs, n)) (hargs : Nat.ble args.length n = true) (h : awA P 1 x ⟨slots args 0, [(0, ob)], 1⟩ (RetsA 1 rs hp1 r)) : Con P f [(0, ob)] args hp1 r := con_m hk (Nat.le_of_ble_eq_true hargs) h
end Go.Sim
