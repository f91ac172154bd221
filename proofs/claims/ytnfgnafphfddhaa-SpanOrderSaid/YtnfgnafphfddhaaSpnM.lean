import Derived.Test.YtnfgnafphfddhaaCodC
import Derived.Test.YtnfgnafphfddhaaSpnL
namespace Go.Proofs.Ytnfgnafphfddhaa.SpnM
open Go Go.Sim Go.Sim.E Go.RowKit Go.Proofs Go.Proofs.Ytnfgnafphfddhaa.Cod Go.Proofs.Ytnfgnafphfddhaa.Tab Go.Proofs.Ytnfgnafphfddhaa.SpnP Go.Proofs.Ytnfgnafphfddhaa.SpnA Go.Proofs.Ytnfgnafphfddhaa.SpnB Go.Proofs.Ytnfgnafphfddhaa.SpnC Go.Proofs.Ytnfgnafphfddhaa.SpnD Go.Proofs.Ytnfgnafphfddhaa.SpnE Go.Proofs.Ytnfgnafphfddhaa.SpnQ Go.Proofs.Ytnfgnafphfddhaa.SpnL
set_option linter.unusedVariables false
set_option linter.unusedSimpArgs false
set_option maxRecDepth 100000
set_option maxHeartbeats 4000000
def sz : List Rg → Int
  | [] => 0
  | r :: l => (r.2 - r.1) + sz l
theorem in_bounds {s : List Rg} (hs : Norm s) (hi : In s) : ∀ r ∈ s, 0 ≤ r.1 ∧ r.1 < r.2 ∧ r.2 ≤ 4611686018427387904 := by
  intro r hr
  have h1 := norm_each s hs r hr
  have h2 := hi r.1 ⟨r, hr, by omega, h1⟩
  have h3 := hi (r.2 - 1) ⟨r, hr, by omega, by omega⟩
  omega
theorem sz_bound : ∀ (l : List Rg) (lo B : Int), Norm l → lo ≤ B → (∀ r ∈ l, lo ≤ r.1) → (∀ r ∈ l, r.2 ≤ B) → 0 ≤ sz l ∧ sz l ≤ B - lo
  | [], lo, B, _, h, _, _ => by simp [sz]; omega
  | r :: l, lo, B, hn, h, h1, h2 => by
    have g1 := h1 r (List.mem_cons_self ..)
    have g2 := h2 r (List.mem_cons_self ..)
    have := sz_bound l r.2 B hn.2.2 g2 (fun q hq => by have := hn.2.1 q hq; omega) (fun q hq => h2 q (List.mem_cons_of_mem _ hq))
    have g3 := hn.1
    simp only [sz]
    omega
theorem sumR_sz : ∀ (l : List Rg) (n : Int), 0 ≤ n → (∀ r ∈ l, 0 ≤ r.1 ∧ r.1 < r.2 ∧ r.2 ≤ 4611686018427387904) → n + sz l ≤ 4611686018427387904 → 0 ≤ sz l → (∀ r ∈ l, True) →
    l.foldl (fun n r => IntKind.i64.wrap (n + IntKind.i64.wrap (r.2 - r.1))) n = n + sz l
  | [], n, _, _, _, _, _ => by simp [sz]
  | r :: l, n, h0, h1, h2, h3, _ => by
    have g := h1 r (List.mem_cons_self ..)
    have hsz : 0 ≤ sz l := by
      have : ∀ (l : List Rg), (∀ r ∈ l, 0 ≤ r.1 ∧ r.1 < r.2 ∧ r.2 ≤ 4611686018427387904) → 0 ≤ sz l := by
        intro l
        induction l with
        | nil => intro _; simp [sz]
        | cons q l ih => intro h; have := h q (List.mem_cons_self ..); have := ih (fun x hx => h x (List.mem_cons_of_mem _ hx)); simp only [sz]; omega
      exact this l (fun x hx => h1 x (List.mem_cons_of_mem _ hx))
    simp only [sz] at h2 h3 ⊢
    rw [List.foldl_cons, w64 (r.2 - r.1) (by omega), w64 (n + (r.2 - r.1)) (by omega), sumR_sz l _ (by omega) (fun x hx => h1 x (List.mem_cons_of_mem _ hx)) (by omega) hsz (fun _ _ => trivial)]
    omega
theorem sumR_eq {s : List Rg} (hs : Norm s) (hi : In s) : sumR s = sz s := by
  have hb := in_bounds hs hi
  have h := sz_bound s 0 4611686018427387904 hs (by omega) (fun r hr => (hb r hr).1) (fun r hr => (hb r hr).2.2)
  have := sumR_sz s 0 (by omega) hb (by omega) h.1 (fun _ _ => trivial)
  rw [sumR, this]; omega
theorem merge_sz0 : ∀ (l : List Rg) (x r : Rg), Norm (r :: l) → x.1 ≤ r.1 → r.2 ≤ x.2 → sz (r :: l) ≤ sz (merge x l)
  | [], x, r, hn, h1, h2 => by simp only [sz, merge]; omega
  | q :: l, x, r, hn, h1, h2 => by
    have hq := hn.2.1 q (List.mem_cons_self ..)
    have hr := hn.1
    have hql := hn.2.2
    unfold merge
    by_cases h : q.1 ≤ x.2 ∧ x.1 ≤ q.2
    · rw [if_pos h]
      have := merge_sz0 l (min x.1 q.1, max x.2 q.2) (r.1, q.2) ⟨by have := hql.1; show r.1 < q.2; omega, hql.2.1, hql.2.2⟩ (by show min x.1 q.1 ≤ r.1; omega) (by show q.2 ≤ max x.2 q.2; omega)
      simp only [sz] at this ⊢
      omega
    · rw [if_neg h]
      simp only [sz]; omega
theorem merge_sz : ∀ (l : List Rg) (x : Rg), x.1 < x.2 → Norm l → sz l ≤ sz (merge x l)
  | [], x, hx, _ => by simp only [sz, merge]; omega
  | q :: l, x, hx, hn => by
    unfold merge
    by_cases h : q.1 ≤ x.2 ∧ x.1 ≤ q.2
    · rw [if_pos h]
      exact merge_sz0 l _ q hn (by show min x.1 q.1 ≤ q.1; omega) (by show q.2 ≤ max x.2 q.2; omega)
    · rw [if_neg h]
      simp only [sz]; omega
theorem add_sz (x : Rg) (hx : x.1 < x.2) : ∀ l : List Rg, Norm l → sz l ≤ sz (add x l)
  | [], _ => by simp only [add, sz]; omega
  | r :: l, hn => by
    unfold add
    split
    · have := add_sz x hx l hn.2.2; simp only [sz]; omega
    · exact merge_sz _ x hx hn
theorem cut_sz (low : Int) : ∀ l : List Rg, Norm l → sz (cut low l) ≤ sz l
  | [], _ => by simp [cut]
  | r :: l, hn => by
    have := cut_sz low l hn.2.2
    have := hn.1
    unfold cut
    split <;> simp only [sz] <;> omega
theorem cut_in {s : List Rg} (hs : Norm s) (hi : In s) (low : Int) : Norm (cut low s) ∧ In (cut low s) := by
  obtain ⟨h1, h2⟩ := cut_norm low s hs
  exact ⟨h1, fun p hp => hi p ((h2 p).1 hp).2⟩
theorem gS_in (q : List Rg) : In (gS q) := by
  exact (grown_spec q [] [] trivial (fun p hp => absurd hp (mem_nil p)) (fun p => Iff.rfl)).2.1
theorem cov_true {s : List Rg} (hs : Norm s) {a b : Int} (h0 : 0 ≤ a) (h1 : a ≤ 4611686018427387904) (h2 : 0 ≤ b) (h3 : b ≤ 4611686018427387904) (h : ∀ p, a ≤ p → p < b → mem s p) : decide (lim b ≤ lim a ∨ lim b ≤ endF (lim a) s) = true := by
  have ea : lim a = a := by simp only [lim]; omega
  have eb : lim b = b := by simp only [lim]; omega
  rw [ea, eb, decide_eq_true_iff]
  exact (covers_iff s hs a b).2 h
def PI (s G : List Rg) (xb at_ : Int) : Prop := 0 ≤ at_ ∧ at_ ≤ 4611686018427387904 ∧ Norm G ∧ (∀ r ∈ G, at_ ≤ r.1 ∧ r.2 ≤ xb) ∧ ∀ p, at_ ≤ p → p < xb → (mem s p ↔ ¬ mem G p)
theorem pi_step {s G : List Rg} {xb at_ : Int} {g : Rg} (hb : xb ≤ 4611686018427387904) (h : PI s (g :: G) xb at_) :
    at_ ≤ g.1 ∧ g.1 < g.2 ∧ g.2 ≤ xb ∧ (∀ p, at_ ≤ p → p < g.1 → mem s p) ∧ hasF s g.1 = false ∧ hasF s (g.2 - 1) = false ∧ PI s G xb g.2 := by
  obtain ⟨h0, h1, h2, h3, h4⟩ := h
  obtain ⟨g1, g2⟩ := h3 g (List.mem_cons_self ..)
  have g3 := h2.1
  refine ⟨g1, g3, g2, fun p hp hq => ?_, ?_, ?_, by omega, by omega, h2.2.2, fun r hr => ⟨by have := h2.2.1 r hr; omega, (h3 r (List.mem_cons_of_mem _ hr)).2⟩, fun p hp hq => ?_⟩
  · refine (h4 p hp (by omega)).2 ?_
    rw [mem_cons]
    rintro (h | h)
    · omega
    · have := norm_above h2 h; omega
  · rw [not_hasF]
    intro hm
    exact (h4 g.1 g1 (by omega)).1 hm ((mem_cons ..).2 (.inl ⟨by omega, g3⟩))
  · rw [not_hasF]
    intro hm
    exact (h4 (g.2 - 1) (by omega) (by omega)).1 hm ((mem_cons ..).2 (.inl ⟨by omega, by omega⟩))
  · rw [h4 p (by omega) hq, mem_cons]
    constructor
    · exact fun h hm => h (.inr hm)
    · rintro h (hm | hm)
      · omega
      · exact h hm
theorem pi_first (s : List Rg) (hs : Norm s) (a b : Int) : PI s (gapsF (lim b) s (lim a) []) (lim b) (lim a) := by
  obtain ⟨h1, h2⟩ := gaps_spec s hs (lim a) (lim b)
  have ha := lim_bounds a
  refine ⟨ha.1, ha.2, h1, fun r hr => ?_, fun p hp hq => ?_⟩
  · have g := norm_each _ h1 r hr
    have g1 := (h2 r.1).1 ⟨r, hr, by omega, g⟩
    have g2 := (h2 (r.2 - 1)).1 ⟨r, hr, by omega, by omega⟩
    omega
  · rw [h2 p]
    constructor
    · exact fun h hh => hh.2.2 h
    · intro h
      exact Classical.byContradiction fun hn => h ⟨hp, hq, hn⟩
def i10 (s G : List Rg) (a b xb : Int) (k : Nat) (t : St) : Prop := ∃ i : Nat, ∃ at_ : Int, i + k = G.length ∧ PI s (G.drop i) xb at_ ∧
  t = ⟨[(3, .pt 0 0), (5, .pt 1 0), (8, I xb), (9, I at_), (31, fR G), (32, I (IN G.length)), (33, I (IN i))], [(0, ⟨[I a, I b], 1, 0⟩), (1, ⟨[fR s], 1, 0⟩)], 2⟩
theorem parts_con (l : List Rg) (a b : Int) : Con Try.prog 10 [] [fR l, .ag [I a, I b]] [] (Bo true) := by
  refine con_j b10 rfl ?_
  sym =>
  simp [Zaa,Zab,Zac,Zad,Zae,Zaf,Zag,Zah,Zai,Zak,Zal,Zam,Zan,Zap,Zaq,Zav,Zaw,Zay,Zaz,Za0,Za1,Za2,Za3,Za4,Za5,Za6,Za7,Za8,Za9,Zba,Zbb,Zbc,Zbd,Zbe,Zbf,Zbg,Zbj,Zbt,Zbu,Zbv,Zbw,Zb1,Zb7,Zcn,Zcs,Zcu,Zcv,Zcx,Zc3,Zc7,Zc8,Zdc,Zdd,Zde,Zdf,Zdg,Zdh,Zdi,Zdj,Zdk,Zdm,Zdo,Zdp,Zdq,Zdr,Zds,Zdt,Zdu,Zdv,Zdw,Zdx,Zdy,Zdz,Zd0,Zd1,Zd2,Zd8,Zec,Zek,Zen,Zeq,Zer,Zes,Zet,Zev,Zew,Zex,Zez,Ze0,Ze1,Ze2,Ze3,Ze5,Ze8,Zfc,Zfd,Zfe,Zfh,Zfi,Zfj,Zfk,Zfl,Zfn,Zfq,Zfr,Zf1,Zf2,Zf3,Zf4,Zgd,Zgg,Zgr,Zgs,Zgt,Zgu,Zgv,Zgw,Zgx,Zg4,Zg6,Zhb,Zhc,Zho,Zh6,Zh7,Zie,Zif,Zig,Zih,Zii,Zij,Zik,Zil,Zim,Zin,Zio,Zip,Ziu,Ziv,Ziw,Zi6,Zjh,Zji,Zjn,Zjr,Zjw,Zj7,Zka,Zkb,Zkv,Zkx,Zky,Zk0,Zk1,Zla,Zlb,Zlc,Zld,Zle,Zlf,Zlh,Zlj,Zll,Zlm,Zlz,Zl2,Zmt,Zmv,Zmw,Zmx,Zmz,Zm2,Zm5,Zm6,Zm7,Zm9,Zna,Znb,Zne,Znf,Zng,Znn,Zno,Znp,Znr,Zns,Znt,Znw,Zn5,Zos,Zot,Zo3,Zo6,Zo7,Zo8,Zo9,Zpa,Zpc,Zpg,Zpi,Zpu,Zqb,Zqc,Zqf,Zqg,Zqh,Zqi,Zqk,Zql,Zqm,Zqn,eq_self,true_and,and_true,callable_32]
  tactic =>
  refine cl none (grown_con l) trivial ?_
  have hq : (l.take 30).length ≤ 30 := by simp; omega
  generalize l.take 30 = q at *
  have g1 := gS_length q
  obtain ⟨hn, hm⟩ := grown_is q
  have hin := gS_in q
  have hP := pi_first (gS q) hn a b
  have hGl : (gapsF (lim b) (gS q) (lim a) []).length ≤ 2 * (gR q).length + 1 := by rw [gaps_eq]; exact pcs_length _ _ _ _
  have g2 := gR_length q
  have cg := gaps_con (gS q) (by omega) a b
  have hb := lim_bounds b
  have hsub : IntKind.i64.wrap = IntKind.i64.wrap := rfl
  have ccut := cut_con (gS q) (by omega) a
  obtain ⟨hcn, hci⟩ := cut_in hn hin (lim a)
  have hcl := cut_length (lim a) (gS q)
  have hcs := cut_sz (lim a) (gS q) hn
  have e1 := sumR_eq hn hin
  have e2 := sumR_eq hcn hci
  generalize gS q = s at *
  generalize hG : gapsF (lim b) s (lim a) [] = G at *
  have ea : min (max a 0) 4611686018427387904 = lim a := rfl
  have eb : min (max b 0) 4611686018427387904 = lim b := rfl
  sym =>
  simp [Zaa,Zab,Zac,Zad,Zae,Zaf,Zag,Zah,Zai,Zak,Zal,Zam,Zan,Zap,Zaq,Zav,Zaw,Zay,Zaz,Za0,Za1,Za2,Za3,Za4,Za5,Za6,Za7,Za8,Za9,Zba,Zbb,Zbc,Zbd,Zbe,Zbf,Zbg,Zbj,Zbt,Zbu,Zbv,Zbw,Zb1,Zb7,Zcn,Zcs,Zcu,Zcv,Zcx,Zc3,Zc7,Zc8,Zdc,Zdd,Zde,Zdf,Zdg,Zdh,Zdi,Zdj,Zdk,Zdm,Zdo,Zdp,Zdq,Zdr,Zds,Zdt,Zdu,Zdv,Zdw,Zdx,Zdy,Zdz,Zd0,Zd1,Zd2,Zd8,Zec,Zek,Zen,Zeq,Zer,Zes,Zet,Zev,Zew,Zex,Zez,Ze0,Ze1,Ze2,Ze3,Ze5,Ze8,Zfc,Zfd,Zfe,Zfh,Zfi,Zfj,Zfk,Zfl,Zfn,Zfq,Zfr,Zf1,Zf2,Zf3,Zf4,Zgd,Zgg,Zgr,Zgs,Zgt,Zgu,Zgv,Zgw,Zgx,Zg4,Zg6,Zhb,Zhc,Zho,Zh6,Zh7,Zie,Zif,Zig,Zih,Zii,Zij,Zik,Zil,Zim,Zin,Zio,Zip,Ziu,Ziv,Ziw,Zi6,Zjh,Zji,Zjn,Zjr,Zjw,Zj7,Zka,Zkb,Zkv,Zkx,Zky,Zk0,Zk1,Zla,Zlb,Zlc,Zld,Zle,Zlf,Zlh,Zlj,Zll,Zlm,Zlz,Zl2,Zmt,Zmv,Zmw,Zmx,Zmz,Zm2,Zm5,Zm6,Zm7,Zm9,Zna,Znb,Zne,Znf,Zng,Znn,Zno,Znp,Znr,Zns,Znt,Znw,Zn5,Zos,Zot,Zo3,Zo6,Zo7,Zo8,Zo9,Zpa,Zpc,Zpg,Zpi,Zpu,Zqb,Zqc,Zqf,Zqg,Zqh,Zqi,Zqk,Zql,Zqm,Zqn,eq_self,true_and,and_true,callable_46,ea,eb]
  tactic =>
  refine cl none (cg) trivial ?_
  sym =>
  simp [Zaa,Zab,Zac,Zad,Zae,Zaf,Zag,Zah,Zai,Zak,Zal,Zam,Zan,Zap,Zaq,Zav,Zaw,Zay,Zaz,Za0,Za1,Za2,Za3,Za4,Za5,Za6,Za7,Za8,Za9,Zba,Zbb,Zbc,Zbd,Zbe,Zbf,Zbg,Zbj,Zbt,Zbu,Zbv,Zbw,Zb1,Zb7,Zcn,Zcs,Zcu,Zcv,Zcx,Zc3,Zc7,Zc8,Zdc,Zdd,Zde,Zdf,Zdg,Zdh,Zdi,Zdj,Zdk,Zdm,Zdo,Zdp,Zdq,Zdr,Zds,Zdt,Zdu,Zdv,Zdw,Zdx,Zdy,Zdz,Zd0,Zd1,Zd2,Zd8,Zec,Zek,Zen,Zeq,Zer,Zes,Zet,Zev,Zew,Zex,Zez,Ze0,Ze1,Ze2,Ze3,Ze5,Ze8,Zfc,Zfd,Zfe,Zfh,Zfi,Zfj,Zfk,Zfl,Zfn,Zfq,Zfr,Zf1,Zf2,Zf3,Zf4,Zgd,Zgg,Zgr,Zgs,Zgt,Zgu,Zgv,Zgw,Zgx,Zg4,Zg6,Zhb,Zhc,Zho,Zh6,Zh7,Zie,Zif,Zig,Zih,Zii,Zij,Zik,Zil,Zim,Zin,Zio,Zip,Ziu,Ziv,Ziw,Zi6,Zjh,Zji,Zjn,Zjr,Zjw,Zj7,Zka,Zkb,Zkv,Zkx,Zky,Zk0,Zk1,Zla,Zlb,Zlc,Zld,Zle,Zlf,Zlh,Zlj,Zll,Zlm,Zlz,Zl2,Zmt,Zmv,Zmw,Zmx,Zmz,Zm2,Zm5,Zm6,Zm7,Zm9,Zna,Znb,Zne,Znf,Zng,Znn,Zno,Znp,Znr,Zns,Znt,Znw,Zn5,Zos,Zot,Zo3,Zo6,Zo7,Zo8,Zo9,Zpa,Zpc,Zpg,Zpi,Zpu,Zqb,Zqc,Zqf,Zqg,Zqh,Zqi,Zqk,Zql,Zqm,Zqn,eq_self,true_and,and_true]
  tactic =>
  have hbb := hb
  generalize lim b = xb at *
  generalize lim a = xa at *
  refine lpA (i10 s G a b xb) G.length [(0, 0), (1, 7)] _ ⟨0, xa, by omega, by simpa using hP, rfl⟩ (wkA ?_) ?_
  · sym =>
    simp [Zaa,Zab,Zac,Zad,Zae,Zaf,Zag,Zah,Zai,Zak,Zal,Zam,Zan,Zap,Zaq,Zav,Zaw,Zay,Zaz,Za0,Za1,Za2,Za3,Za4,Za5,Za6,Za7,Za8,Za9,Zba,Zbb,Zbc,Zbd,Zbe,Zbf,Zbg,Zbj,Zbt,Zbu,Zbv,Zbw,Zb1,Zb7,Zcn,Zcs,Zcu,Zcv,Zcx,Zc3,Zc7,Zc8,Zdc,Zdd,Zde,Zdf,Zdg,Zdh,Zdi,Zdj,Zdk,Zdm,Zdo,Zdp,Zdq,Zdr,Zds,Zdt,Zdu,Zdv,Zdw,Zdx,Zdy,Zdz,Zd0,Zd1,Zd2,Zd8,Zec,Zek,Zen,Zeq,Zer,Zes,Zet,Zev,Zew,Zex,Zez,Ze0,Ze1,Ze2,Ze3,Ze5,Ze8,Zfc,Zfd,Zfe,Zfh,Zfi,Zfj,Zfk,Zfl,Zfn,Zfq,Zfr,Zf1,Zf2,Zf3,Zf4,Zgd,Zgg,Zgr,Zgs,Zgt,Zgu,Zgv,Zgw,Zgx,Zg4,Zg6,Zhb,Zhc,Zho,Zh6,Zh7,Zie,Zif,Zig,Zih,Zii,Zij,Zik,Zil,Zim,Zin,Zio,Zip,Ziu,Ziv,Ziw,Zi6,Zjh,Zji,Zjn,Zjr,Zjw,Zj7,Zka,Zkb,Zkv,Zkx,Zky,Zk0,Zk1,Zla,Zlb,Zlc,Zld,Zle,Zlf,Zlh,Zlj,Zll,Zlm,Zlz,Zl2,Zmt,Zmv,Zmw,Zmx,Zmz,Zm2,Zm5,Zm6,Zm7,Zm9,Zna,Znb,Zne,Znf,Zng,Znn,Zno,Znp,Znr,Zns,Znt,Znw,Zn5,Zos,Zot,Zo3,Zo6,Zo7,Zo8,Zo9,Zpa,Zpc,Zpg,Zpi,Zpu,Zqb,Zqc,Zqf,Zqg,Zqh,Zqi,Zqk,Zql,Zqm,Zqn,eq_self,true_and,and_true]
  rintro k t ⟨i, at_, hi, hpi, rfl⟩
  by_cases h : i < G.length
  · have hw := w64s i (by omega)
    have h0 := cR_q0 G i h
    have h1 := cR_q1 G i h
    rw [drop_cons G i h] at hpi
    obtain ⟨p1, p2, p3, p4, p5, p6, p7⟩ := pi_step hbb.2 hpi
    obtain ⟨q0, q1, _⟩ := hpi
    have c1 : ¬ G[i].1 < at_ := by omega
    have c2 : ¬ G[i].2 ≤ G[i].1 := by omega
    have c3 : ¬ xb < G[i].2 := by omega
    have hwg : IntKind.i64.wrap (G[i].2 - 1) = G[i].2 - 1 := w64 _ (by omega)
    have k1 := has_con s (by omega) G[i].1
    rw [p5] at k1
    have k2 := has_con s (by omega) (G[i].2 - 1)
    rw [p6] at k2
    by_cases c4 : at_ < G[i].1
    · have k3 := covers_con s (by omega) at_ G[i].1
      rw [cov_true hn q0 q1 (by omega) (by omega) p4] at k3
      sym =>
      simp [Zaa,Zab,Zac,Zad,Zae,Zaf,Zag,Zah,Zai,Zak,Zal,Zam,Zan,Zap,Zaq,Zav,Zaw,Zay,Zaz,Za0,Za1,Za2,Za3,Za4,Za5,Za6,Za7,Za8,Za9,Zba,Zbb,Zbc,Zbd,Zbe,Zbf,Zbg,Zbj,Zbt,Zbu,Zbv,Zbw,Zb1,Zb7,Zcn,Zcs,Zcu,Zcv,Zcx,Zc3,Zc7,Zc8,Zdc,Zdd,Zde,Zdf,Zdg,Zdh,Zdi,Zdj,Zdk,Zdm,Zdo,Zdp,Zdq,Zdr,Zds,Zdt,Zdu,Zdv,Zdw,Zdx,Zdy,Zdz,Zd0,Zd1,Zd2,Zd8,Zec,Zek,Zen,Zeq,Zer,Zes,Zet,Zev,Zew,Zex,Zez,Ze0,Ze1,Ze2,Ze3,Ze5,Ze8,Zfc,Zfd,Zfe,Zfh,Zfi,Zfj,Zfk,Zfl,Zfn,Zfq,Zfr,Zf1,Zf2,Zf3,Zf4,Zgd,Zgg,Zgr,Zgs,Zgt,Zgu,Zgv,Zgw,Zgx,Zg4,Zg6,Zhb,Zhc,Zho,Zh6,Zh7,Zie,Zif,Zig,Zih,Zii,Zij,Zik,Zil,Zim,Zin,Zio,Zip,Ziu,Ziv,Ziw,Zi6,Zjh,Zji,Zjn,Zjr,Zjw,Zj7,Zka,Zkb,Zkv,Zkx,Zky,Zk0,Zk1,Zla,Zlb,Zlc,Zld,Zle,Zlf,Zlh,Zlj,Zll,Zlm,Zlz,Zl2,Zmt,Zmv,Zmw,Zmx,Zmz,Zm2,Zm5,Zm6,Zm7,Zm9,Zna,Znb,Zne,Znf,Zng,Znn,Zno,Znp,Znr,Zns,Znt,Znw,Zn5,Zos,Zot,Zo3,Zo6,Zo7,Zo8,Zo9,Zpa,Zpc,Zpg,Zpi,Zpu,Zqb,Zqc,Zqf,Zqg,Zqh,Zqi,Zqk,Zql,Zqm,Zqn,eq_self,true_and,and_true,h,h0,h1,hw,c1,c2,c3,c4,cR_length,callable_45]
      tactic =>
      and_intros <;> try (first | omega | rfl | assumption | exact cR_okF _ | exact cR_okI _ | exact rs_self (cR_okI _) | (symm; refine List.take_of_length_le ?_; simp <;> omega))
      refine cl none (k3) trivial ?_
      sym =>
      simp [Zaa,Zab,Zac,Zad,Zae,Zaf,Zag,Zah,Zai,Zak,Zal,Zam,Zan,Zap,Zaq,Zav,Zaw,Zay,Zaz,Za0,Za1,Za2,Za3,Za4,Za5,Za6,Za7,Za8,Za9,Zba,Zbb,Zbc,Zbd,Zbe,Zbf,Zbg,Zbj,Zbt,Zbu,Zbv,Zbw,Zb1,Zb7,Zcn,Zcs,Zcu,Zcv,Zcx,Zc3,Zc7,Zc8,Zdc,Zdd,Zde,Zdf,Zdg,Zdh,Zdi,Zdj,Zdk,Zdm,Zdo,Zdp,Zdq,Zdr,Zds,Zdt,Zdu,Zdv,Zdw,Zdx,Zdy,Zdz,Zd0,Zd1,Zd2,Zd8,Zec,Zek,Zen,Zeq,Zer,Zes,Zet,Zev,Zew,Zex,Zez,Ze0,Ze1,Ze2,Ze3,Ze5,Ze8,Zfc,Zfd,Zfe,Zfh,Zfi,Zfj,Zfk,Zfl,Zfn,Zfq,Zfr,Zf1,Zf2,Zf3,Zf4,Zgd,Zgg,Zgr,Zgs,Zgt,Zgu,Zgv,Zgw,Zgx,Zg4,Zg6,Zhb,Zhc,Zho,Zh6,Zh7,Zie,Zif,Zig,Zih,Zii,Zij,Zik,Zil,Zim,Zin,Zio,Zip,Ziu,Ziv,Ziw,Zi6,Zjh,Zji,Zjn,Zjr,Zjw,Zj7,Zka,Zkb,Zkv,Zkx,Zky,Zk0,Zk1,Zla,Zlb,Zlc,Zld,Zle,Zlf,Zlh,Zlj,Zll,Zlm,Zlz,Zl2,Zmt,Zmv,Zmw,Zmx,Zmz,Zm2,Zm5,Zm6,Zm7,Zm9,Zna,Znb,Zne,Znf,Zng,Znn,Zno,Znp,Znr,Zns,Znt,Znw,Zn5,Zos,Zot,Zo3,Zo6,Zo7,Zo8,Zo9,Zpa,Zpc,Zpg,Zpi,Zpu,Zqb,Zqc,Zqf,Zqg,Zqh,Zqi,Zqk,Zql,Zqm,Zqn,eq_self,true_and,and_true,callable_38]
      tactic =>
      refine cl none (k1) trivial ?_
      sym =>
      simp [Zaa,Zab,Zac,Zad,Zae,Zaf,Zag,Zah,Zai,Zak,Zal,Zam,Zan,Zap,Zaq,Zav,Zaw,Zay,Zaz,Za0,Za1,Za2,Za3,Za4,Za5,Za6,Za7,Za8,Za9,Zba,Zbb,Zbc,Zbd,Zbe,Zbf,Zbg,Zbj,Zbt,Zbu,Zbv,Zbw,Zb1,Zb7,Zcn,Zcs,Zcu,Zcv,Zcx,Zc3,Zc7,Zc8,Zdc,Zdd,Zde,Zdf,Zdg,Zdh,Zdi,Zdj,Zdk,Zdm,Zdo,Zdp,Zdq,Zdr,Zds,Zdt,Zdu,Zdv,Zdw,Zdx,Zdy,Zdz,Zd0,Zd1,Zd2,Zd8,Zec,Zek,Zen,Zeq,Zer,Zes,Zet,Zev,Zew,Zex,Zez,Ze0,Ze1,Ze2,Ze3,Ze5,Ze8,Zfc,Zfd,Zfe,Zfh,Zfi,Zfj,Zfk,Zfl,Zfn,Zfq,Zfr,Zf1,Zf2,Zf3,Zf4,Zgd,Zgg,Zgr,Zgs,Zgt,Zgu,Zgv,Zgw,Zgx,Zg4,Zg6,Zhb,Zhc,Zho,Zh6,Zh7,Zie,Zif,Zig,Zih,Zii,Zij,Zik,Zil,Zim,Zin,Zio,Zip,Ziu,Ziv,Ziw,Zi6,Zjh,Zji,Zjn,Zjr,Zjw,Zj7,Zka,Zkb,Zkv,Zkx,Zky,Zk0,Zk1,Zla,Zlb,Zlc,Zld,Zle,Zlf,Zlh,Zlj,Zll,Zlm,Zlz,Zl2,Zmt,Zmv,Zmw,Zmx,Zmz,Zm2,Zm5,Zm6,Zm7,Zm9,Zna,Znb,Zne,Znf,Zng,Znn,Zno,Znp,Znr,Zns,Znt,Znw,Zn5,Zos,Zot,Zo3,Zo6,Zo7,Zo8,Zo9,Zpa,Zpc,Zpg,Zpi,Zpu,Zqb,Zqc,Zqf,Zqg,Zqh,Zqi,Zqk,Zql,Zqm,Zqn,eq_self,true_and,and_true,callable_38,hwg]
      tactic =>
      refine cl none (k2) trivial ?_
      sym =>
      simp [Zaa,Zab,Zac,Zad,Zae,Zaf,Zag,Zah,Zai,Zak,Zal,Zam,Zan,Zap,Zaq,Zav,Zaw,Zay,Zaz,Za0,Za1,Za2,Za3,Za4,Za5,Za6,Za7,Za8,Za9,Zba,Zbb,Zbc,Zbd,Zbe,Zbf,Zbg,Zbj,Zbt,Zbu,Zbv,Zbw,Zb1,Zb7,Zcn,Zcs,Zcu,Zcv,Zcx,Zc3,Zc7,Zc8,Zdc,Zdd,Zde,Zdf,Zdg,Zdh,Zdi,Zdj,Zdk,Zdm,Zdo,Zdp,Zdq,Zdr,Zds,Zdt,Zdu,Zdv,Zdw,Zdx,Zdy,Zdz,Zd0,Zd1,Zd2,Zd8,Zec,Zek,Zen,Zeq,Zer,Zes,Zet,Zev,Zew,Zex,Zez,Ze0,Ze1,Ze2,Ze3,Ze5,Ze8,Zfc,Zfd,Zfe,Zfh,Zfi,Zfj,Zfk,Zfl,Zfn,Zfq,Zfr,Zf1,Zf2,Zf3,Zf4,Zgd,Zgg,Zgr,Zgs,Zgt,Zgu,Zgv,Zgw,Zgx,Zg4,Zg6,Zhb,Zhc,Zho,Zh6,Zh7,Zie,Zif,Zig,Zih,Zii,Zij,Zik,Zil,Zim,Zin,Zio,Zip,Ziu,Ziv,Ziw,Zi6,Zjh,Zji,Zjn,Zjr,Zjw,Zj7,Zka,Zkb,Zkv,Zkx,Zky,Zk0,Zk1,Zla,Zlb,Zlc,Zld,Zle,Zlf,Zlh,Zlj,Zll,Zlm,Zlz,Zl2,Zmt,Zmv,Zmw,Zmx,Zmz,Zm2,Zm5,Zm6,Zm7,Zm9,Zna,Znb,Zne,Znf,Zng,Znn,Zno,Znp,Znr,Zns,Znt,Znw,Zn5,Zos,Zot,Zo3,Zo6,Zo7,Zo8,Zo9,Zpa,Zpc,Zpg,Zpi,Zpu,Zqb,Zqc,Zqf,Zqg,Zqh,Zqi,Zqk,Zql,Zqm,Zqn,eq_self,true_and,and_true,hw]
      tactic =>
      unfold NextL; refine ⟨(k - 1), [(0, 0), (1, 1)], _, by omega, ⟨i + 1, G[i].2, by omega, p7, rfl⟩, wkA ?_⟩
      sym =>
      simp [Zaa,Zab,Zac,Zad,Zae,Zaf,Zag,Zah,Zai,Zak,Zal,Zam,Zan,Zap,Zaq,Zav,Zaw,Zay,Zaz,Za0,Za1,Za2,Za3,Za4,Za5,Za6,Za7,Za8,Za9,Zba,Zbb,Zbc,Zbd,Zbe,Zbf,Zbg,Zbj,Zbt,Zbu,Zbv,Zbw,Zb1,Zb7,Zcn,Zcs,Zcu,Zcv,Zcx,Zc3,Zc7,Zc8,Zdc,Zdd,Zde,Zdf,Zdg,Zdh,Zdi,Zdj,Zdk,Zdm,Zdo,Zdp,Zdq,Zdr,Zds,Zdt,Zdu,Zdv,Zdw,Zdx,Zdy,Zdz,Zd0,Zd1,Zd2,Zd8,Zec,Zek,Zen,Zeq,Zer,Zes,Zet,Zev,Zew,Zex,Zez,Ze0,Ze1,Ze2,Ze3,Ze5,Ze8,Zfc,Zfd,Zfe,Zfh,Zfi,Zfj,Zfk,Zfl,Zfn,Zfq,Zfr,Zf1,Zf2,Zf3,Zf4,Zgd,Zgg,Zgr,Zgs,Zgt,Zgu,Zgv,Zgw,Zgx,Zg4,Zg6,Zhb,Zhc,Zho,Zh6,Zh7,Zie,Zif,Zig,Zih,Zii,Zij,Zik,Zil,Zim,Zin,Zio,Zip,Ziu,Ziv,Ziw,Zi6,Zjh,Zji,Zjn,Zjr,Zjw,Zj7,Zka,Zkb,Zkv,Zkx,Zky,Zk0,Zk1,Zla,Zlb,Zlc,Zld,Zle,Zlf,Zlh,Zlj,Zll,Zlm,Zlz,Zl2,Zmt,Zmv,Zmw,Zmx,Zmz,Zm2,Zm5,Zm6,Zm7,Zm9,Zna,Znb,Zne,Znf,Zng,Znn,Zno,Znp,Znr,Zns,Znt,Znw,Zn5,Zos,Zot,Zo3,Zo6,Zo7,Zo8,Zo9,Zpa,Zpc,Zpg,Zpi,Zpu,Zqb,Zqc,Zqf,Zqg,Zqh,Zqi,Zqk,Zql,Zqm,Zqn,eq_self,true_and,and_true]
    · sym =>
      simp [Zaa,Zab,Zac,Zad,Zae,Zaf,Zag,Zah,Zai,Zak,Zal,Zam,Zan,Zap,Zaq,Zav,Zaw,Zay,Zaz,Za0,Za1,Za2,Za3,Za4,Za5,Za6,Za7,Za8,Za9,Zba,Zbb,Zbc,Zbd,Zbe,Zbf,Zbg,Zbj,Zbt,Zbu,Zbv,Zbw,Zb1,Zb7,Zcn,Zcs,Zcu,Zcv,Zcx,Zc3,Zc7,Zc8,Zdc,Zdd,Zde,Zdf,Zdg,Zdh,Zdi,Zdj,Zdk,Zdm,Zdo,Zdp,Zdq,Zdr,Zds,Zdt,Zdu,Zdv,Zdw,Zdx,Zdy,Zdz,Zd0,Zd1,Zd2,Zd8,Zec,Zek,Zen,Zeq,Zer,Zes,Zet,Zev,Zew,Zex,Zez,Ze0,Ze1,Ze2,Ze3,Ze5,Ze8,Zfc,Zfd,Zfe,Zfh,Zfi,Zfj,Zfk,Zfl,Zfn,Zfq,Zfr,Zf1,Zf2,Zf3,Zf4,Zgd,Zgg,Zgr,Zgs,Zgt,Zgu,Zgv,Zgw,Zgx,Zg4,Zg6,Zhb,Zhc,Zho,Zh6,Zh7,Zie,Zif,Zig,Zih,Zii,Zij,Zik,Zil,Zim,Zin,Zio,Zip,Ziu,Ziv,Ziw,Zi6,Zjh,Zji,Zjn,Zjr,Zjw,Zj7,Zka,Zkb,Zkv,Zkx,Zky,Zk0,Zk1,Zla,Zlb,Zlc,Zld,Zle,Zlf,Zlh,Zlj,Zll,Zlm,Zlz,Zl2,Zmt,Zmv,Zmw,Zmx,Zmz,Zm2,Zm5,Zm6,Zm7,Zm9,Zna,Znb,Zne,Znf,Zng,Znn,Zno,Znp,Znr,Zns,Znt,Znw,Zn5,Zos,Zot,Zo3,Zo6,Zo7,Zo8,Zo9,Zpa,Zpc,Zpg,Zpi,Zpu,Zqb,Zqc,Zqf,Zqg,Zqh,Zqi,Zqk,Zql,Zqm,Zqn,eq_self,true_and,and_true,h,h0,h1,hw,c1,c2,c3,c4,cR_length,callable_38]
      tactic =>
      and_intros <;> try (first | omega | rfl | assumption | exact cR_okF _ | exact cR_okI _ | exact rs_self (cR_okI _) | (symm; refine List.take_of_length_le ?_; simp <;> omega))
      refine cl none (k1) trivial ?_
      sym =>
      simp [Zaa,Zab,Zac,Zad,Zae,Zaf,Zag,Zah,Zai,Zak,Zal,Zam,Zan,Zap,Zaq,Zav,Zaw,Zay,Zaz,Za0,Za1,Za2,Za3,Za4,Za5,Za6,Za7,Za8,Za9,Zba,Zbb,Zbc,Zbd,Zbe,Zbf,Zbg,Zbj,Zbt,Zbu,Zbv,Zbw,Zb1,Zb7,Zcn,Zcs,Zcu,Zcv,Zcx,Zc3,Zc7,Zc8,Zdc,Zdd,Zde,Zdf,Zdg,Zdh,Zdi,Zdj,Zdk,Zdm,Zdo,Zdp,Zdq,Zdr,Zds,Zdt,Zdu,Zdv,Zdw,Zdx,Zdy,Zdz,Zd0,Zd1,Zd2,Zd8,Zec,Zek,Zen,Zeq,Zer,Zes,Zet,Zev,Zew,Zex,Zez,Ze0,Ze1,Ze2,Ze3,Ze5,Ze8,Zfc,Zfd,Zfe,Zfh,Zfi,Zfj,Zfk,Zfl,Zfn,Zfq,Zfr,Zf1,Zf2,Zf3,Zf4,Zgd,Zgg,Zgr,Zgs,Zgt,Zgu,Zgv,Zgw,Zgx,Zg4,Zg6,Zhb,Zhc,Zho,Zh6,Zh7,Zie,Zif,Zig,Zih,Zii,Zij,Zik,Zil,Zim,Zin,Zio,Zip,Ziu,Ziv,Ziw,Zi6,Zjh,Zji,Zjn,Zjr,Zjw,Zj7,Zka,Zkb,Zkv,Zkx,Zky,Zk0,Zk1,Zla,Zlb,Zlc,Zld,Zle,Zlf,Zlh,Zlj,Zll,Zlm,Zlz,Zl2,Zmt,Zmv,Zmw,Zmx,Zmz,Zm2,Zm5,Zm6,Zm7,Zm9,Zna,Znb,Zne,Znf,Zng,Znn,Zno,Znp,Znr,Zns,Znt,Znw,Zn5,Zos,Zot,Zo3,Zo6,Zo7,Zo8,Zo9,Zpa,Zpc,Zpg,Zpi,Zpu,Zqb,Zqc,Zqf,Zqg,Zqh,Zqi,Zqk,Zql,Zqm,Zqn,eq_self,true_and,and_true,callable_38,hwg]
      tactic =>
      refine cl none (k2) trivial ?_
      sym =>
      simp [Zaa,Zab,Zac,Zad,Zae,Zaf,Zag,Zah,Zai,Zak,Zal,Zam,Zan,Zap,Zaq,Zav,Zaw,Zay,Zaz,Za0,Za1,Za2,Za3,Za4,Za5,Za6,Za7,Za8,Za9,Zba,Zbb,Zbc,Zbd,Zbe,Zbf,Zbg,Zbj,Zbt,Zbu,Zbv,Zbw,Zb1,Zb7,Zcn,Zcs,Zcu,Zcv,Zcx,Zc3,Zc7,Zc8,Zdc,Zdd,Zde,Zdf,Zdg,Zdh,Zdi,Zdj,Zdk,Zdm,Zdo,Zdp,Zdq,Zdr,Zds,Zdt,Zdu,Zdv,Zdw,Zdx,Zdy,Zdz,Zd0,Zd1,Zd2,Zd8,Zec,Zek,Zen,Zeq,Zer,Zes,Zet,Zev,Zew,Zex,Zez,Ze0,Ze1,Ze2,Ze3,Ze5,Ze8,Zfc,Zfd,Zfe,Zfh,Zfi,Zfj,Zfk,Zfl,Zfn,Zfq,Zfr,Zf1,Zf2,Zf3,Zf4,Zgd,Zgg,Zgr,Zgs,Zgt,Zgu,Zgv,Zgw,Zgx,Zg4,Zg6,Zhb,Zhc,Zho,Zh6,Zh7,Zie,Zif,Zig,Zih,Zii,Zij,Zik,Zil,Zim,Zin,Zio,Zip,Ziu,Ziv,Ziw,Zi6,Zjh,Zji,Zjn,Zjr,Zjw,Zj7,Zka,Zkb,Zkv,Zkx,Zky,Zk0,Zk1,Zla,Zlb,Zlc,Zld,Zle,Zlf,Zlh,Zlj,Zll,Zlm,Zlz,Zl2,Zmt,Zmv,Zmw,Zmx,Zmz,Zm2,Zm5,Zm6,Zm7,Zm9,Zna,Znb,Zne,Znf,Zng,Znn,Zno,Znp,Znr,Zns,Znt,Znw,Zn5,Zos,Zot,Zo3,Zo6,Zo7,Zo8,Zo9,Zpa,Zpc,Zpg,Zpi,Zpu,Zqb,Zqc,Zqf,Zqg,Zqh,Zqi,Zqk,Zql,Zqm,Zqn,eq_self,true_and,and_true,hw]
      tactic =>
      unfold NextL; refine ⟨(k - 1), [(0, 0), (1, 1)], _, by omega, ⟨i + 1, G[i].2, by omega, p7, rfl⟩, wkA ?_⟩
      sym =>
      simp [Zaa,Zab,Zac,Zad,Zae,Zaf,Zag,Zah,Zai,Zak,Zal,Zam,Zan,Zap,Zaq,Zav,Zaw,Zay,Zaz,Za0,Za1,Za2,Za3,Za4,Za5,Za6,Za7,Za8,Za9,Zba,Zbb,Zbc,Zbd,Zbe,Zbf,Zbg,Zbj,Zbt,Zbu,Zbv,Zbw,Zb1,Zb7,Zcn,Zcs,Zcu,Zcv,Zcx,Zc3,Zc7,Zc8,Zdc,Zdd,Zde,Zdf,Zdg,Zdh,Zdi,Zdj,Zdk,Zdm,Zdo,Zdp,Zdq,Zdr,Zds,Zdt,Zdu,Zdv,Zdw,Zdx,Zdy,Zdz,Zd0,Zd1,Zd2,Zd8,Zec,Zek,Zen,Zeq,Zer,Zes,Zet,Zev,Zew,Zex,Zez,Ze0,Ze1,Ze2,Ze3,Ze5,Ze8,Zfc,Zfd,Zfe,Zfh,Zfi,Zfj,Zfk,Zfl,Zfn,Zfq,Zfr,Zf1,Zf2,Zf3,Zf4,Zgd,Zgg,Zgr,Zgs,Zgt,Zgu,Zgv,Zgw,Zgx,Zg4,Zg6,Zhb,Zhc,Zho,Zh6,Zh7,Zie,Zif,Zig,Zih,Zii,Zij,Zik,Zil,Zim,Zin,Zio,Zip,Ziu,Ziv,Ziw,Zi6,Zjh,Zji,Zjn,Zjr,Zjw,Zj7,Zka,Zkb,Zkv,Zkx,Zky,Zk0,Zk1,Zla,Zlb,Zlc,Zld,Zle,Zlf,Zlh,Zlj,Zll,Zlm,Zlz,Zl2,Zmt,Zmv,Zmw,Zmx,Zmz,Zm2,Zm5,Zm6,Zm7,Zm9,Zna,Znb,Zne,Znf,Zng,Znn,Zno,Znp,Znr,Zns,Znt,Znw,Zn5,Zos,Zot,Zo3,Zo6,Zo7,Zo8,Zo9,Zpa,Zpc,Zpg,Zpi,Zpu,Zqb,Zqc,Zqf,Zqg,Zqh,Zqi,Zqk,Zql,Zqm,Zqn,eq_self,true_and,and_true]
  · rw [drop_all G i h] at hpi
    obtain ⟨q0, q1, _, _, q4⟩ := hpi
    have hle : ¬ sumR s < sumR (cut xa s) := by rw [e1, e2]; omega
    have cs := size_con s (by omega)
    have cc := size_con (cut xa s) (by omega)
    have cle : decide (sumR (cut xa s) ≤ sumR s) = true := by rw [decide_eq_true_iff]; omega
    by_cases c4 : xb ≤ at_
    · sym =>
      simp [Zaa,Zab,Zac,Zad,Zae,Zaf,Zag,Zah,Zai,Zak,Zal,Zam,Zan,Zap,Zaq,Zav,Zaw,Zay,Zaz,Za0,Za1,Za2,Za3,Za4,Za5,Za6,Za7,Za8,Za9,Zba,Zbb,Zbc,Zbd,Zbe,Zbf,Zbg,Zbj,Zbt,Zbu,Zbv,Zbw,Zb1,Zb7,Zcn,Zcs,Zcu,Zcv,Zcx,Zc3,Zc7,Zc8,Zdc,Zdd,Zde,Zdf,Zdg,Zdh,Zdi,Zdj,Zdk,Zdm,Zdo,Zdp,Zdq,Zdr,Zds,Zdt,Zdu,Zdv,Zdw,Zdx,Zdy,Zdz,Zd0,Zd1,Zd2,Zd8,Zec,Zek,Zen,Zeq,Zer,Zes,Zet,Zev,Zew,Zex,Zez,Ze0,Ze1,Ze2,Ze3,Ze5,Ze8,Zfc,Zfd,Zfe,Zfh,Zfi,Zfj,Zfk,Zfl,Zfn,Zfq,Zfr,Zf1,Zf2,Zf3,Zf4,Zgd,Zgg,Zgr,Zgs,Zgt,Zgu,Zgv,Zgw,Zgx,Zg4,Zg6,Zhb,Zhc,Zho,Zh6,Zh7,Zie,Zif,Zig,Zih,Zii,Zij,Zik,Zil,Zim,Zin,Zio,Zip,Ziu,Ziv,Ziw,Zi6,Zjh,Zji,Zjn,Zjr,Zjw,Zj7,Zka,Zkb,Zkv,Zkx,Zky,Zk0,Zk1,Zla,Zlb,Zlc,Zld,Zle,Zlf,Zlh,Zlj,Zll,Zlm,Zlz,Zl2,Zmt,Zmv,Zmw,Zmx,Zmz,Zm2,Zm5,Zm6,Zm7,Zm9,Zna,Znb,Zne,Znf,Zng,Znn,Zno,Znp,Znr,Zns,Znt,Znw,Zn5,Zos,Zot,Zo3,Zo6,Zo7,Zo8,Zo9,Zpa,Zpc,Zpg,Zpi,Zpu,Zqb,Zqc,Zqf,Zqg,Zqh,Zqi,Zqk,Zql,Zqm,Zqn,eq_self,true_and,and_true,h,c4,callable_44]
      tactic =>
      refine cl none (ccut) trivial ?_
      sym =>
      simp [Zaa,Zab,Zac,Zad,Zae,Zaf,Zag,Zah,Zai,Zak,Zal,Zam,Zan,Zap,Zaq,Zav,Zaw,Zay,Zaz,Za0,Za1,Za2,Za3,Za4,Za5,Za6,Za7,Za8,Za9,Zba,Zbb,Zbc,Zbd,Zbe,Zbf,Zbg,Zbj,Zbt,Zbu,Zbv,Zbw,Zb1,Zb7,Zcn,Zcs,Zcu,Zcv,Zcx,Zc3,Zc7,Zc8,Zdc,Zdd,Zde,Zdf,Zdg,Zdh,Zdi,Zdj,Zdk,Zdm,Zdo,Zdp,Zdq,Zdr,Zds,Zdt,Zdu,Zdv,Zdw,Zdx,Zdy,Zdz,Zd0,Zd1,Zd2,Zd8,Zec,Zek,Zen,Zeq,Zer,Zes,Zet,Zev,Zew,Zex,Zez,Ze0,Ze1,Ze2,Ze3,Ze5,Ze8,Zfc,Zfd,Zfe,Zfh,Zfi,Zfj,Zfk,Zfl,Zfn,Zfq,Zfr,Zf1,Zf2,Zf3,Zf4,Zgd,Zgg,Zgr,Zgs,Zgt,Zgu,Zgv,Zgw,Zgx,Zg4,Zg6,Zhb,Zhc,Zho,Zh6,Zh7,Zie,Zif,Zig,Zih,Zii,Zij,Zik,Zil,Zim,Zin,Zio,Zip,Ziu,Ziv,Ziw,Zi6,Zjh,Zji,Zjn,Zjr,Zjw,Zj7,Zka,Zkb,Zkv,Zkx,Zky,Zk0,Zk1,Zla,Zlb,Zlc,Zld,Zle,Zlf,Zlh,Zlj,Zll,Zlm,Zlz,Zl2,Zmt,Zmv,Zmw,Zmx,Zmz,Zm2,Zm5,Zm6,Zm7,Zm9,Zna,Znb,Zne,Znf,Zng,Znn,Zno,Znp,Znr,Zns,Znt,Znw,Zn5,Zos,Zot,Zo3,Zo6,Zo7,Zo8,Zo9,Zpa,Zpc,Zpg,Zpi,Zpu,Zqb,Zqc,Zqf,Zqg,Zqh,Zqi,Zqk,Zql,Zqm,Zqn,eq_self,true_and,and_true,callable_36]
      tactic =>
      refine cl none (cc) trivial ?_
      sym =>
      simp [Zaa,Zab,Zac,Zad,Zae,Zaf,Zag,Zah,Zai,Zak,Zal,Zam,Zan,Zap,Zaq,Zav,Zaw,Zay,Zaz,Za0,Za1,Za2,Za3,Za4,Za5,Za6,Za7,Za8,Za9,Zba,Zbb,Zbc,Zbd,Zbe,Zbf,Zbg,Zbj,Zbt,Zbu,Zbv,Zbw,Zb1,Zb7,Zcn,Zcs,Zcu,Zcv,Zcx,Zc3,Zc7,Zc8,Zdc,Zdd,Zde,Zdf,Zdg,Zdh,Zdi,Zdj,Zdk,Zdm,Zdo,Zdp,Zdq,Zdr,Zds,Zdt,Zdu,Zdv,Zdw,Zdx,Zdy,Zdz,Zd0,Zd1,Zd2,Zd8,Zec,Zek,Zen,Zeq,Zer,Zes,Zet,Zev,Zew,Zex,Zez,Ze0,Ze1,Ze2,Ze3,Ze5,Ze8,Zfc,Zfd,Zfe,Zfh,Zfi,Zfj,Zfk,Zfl,Zfn,Zfq,Zfr,Zf1,Zf2,Zf3,Zf4,Zgd,Zgg,Zgr,Zgs,Zgt,Zgu,Zgv,Zgw,Zgx,Zg4,Zg6,Zhb,Zhc,Zho,Zh6,Zh7,Zie,Zif,Zig,Zih,Zii,Zij,Zik,Zil,Zim,Zin,Zio,Zip,Ziu,Ziv,Ziw,Zi6,Zjh,Zji,Zjn,Zjr,Zjw,Zj7,Zka,Zkb,Zkv,Zkx,Zky,Zk0,Zk1,Zla,Zlb,Zlc,Zld,Zle,Zlf,Zlh,Zlj,Zll,Zlm,Zlz,Zl2,Zmt,Zmv,Zmw,Zmx,Zmz,Zm2,Zm5,Zm6,Zm7,Zm9,Zna,Znb,Zne,Znf,Zng,Znn,Zno,Znp,Znr,Zns,Znt,Znw,Zn5,Zos,Zot,Zo3,Zo6,Zo7,Zo8,Zo9,Zpa,Zpc,Zpg,Zpi,Zpu,Zqb,Zqc,Zqf,Zqg,Zqh,Zqi,Zqk,Zql,Zqm,Zqn,eq_self,true_and,and_true,callable_36]
      tactic =>
      refine cl none (cs) trivial ?_
      sym =>
      simp [Zaa,Zab,Zac,Zad,Zae,Zaf,Zag,Zah,Zai,Zak,Zal,Zam,Zan,Zap,Zaq,Zav,Zaw,Zay,Zaz,Za0,Za1,Za2,Za3,Za4,Za5,Za6,Za7,Za8,Za9,Zba,Zbb,Zbc,Zbd,Zbe,Zbf,Zbg,Zbj,Zbt,Zbu,Zbv,Zbw,Zb1,Zb7,Zcn,Zcs,Zcu,Zcv,Zcx,Zc3,Zc7,Zc8,Zdc,Zdd,Zde,Zdf,Zdg,Zdh,Zdi,Zdj,Zdk,Zdm,Zdo,Zdp,Zdq,Zdr,Zds,Zdt,Zdu,Zdv,Zdw,Zdx,Zdy,Zdz,Zd0,Zd1,Zd2,Zd8,Zec,Zek,Zen,Zeq,Zer,Zes,Zet,Zev,Zew,Zex,Zez,Ze0,Ze1,Ze2,Ze3,Ze5,Ze8,Zfc,Zfd,Zfe,Zfh,Zfi,Zfj,Zfk,Zfl,Zfn,Zfq,Zfr,Zf1,Zf2,Zf3,Zf4,Zgd,Zgg,Zgr,Zgs,Zgt,Zgu,Zgv,Zgw,Zgx,Zg4,Zg6,Zhb,Zhc,Zho,Zh6,Zh7,Zie,Zif,Zig,Zih,Zii,Zij,Zik,Zil,Zim,Zin,Zio,Zip,Ziu,Ziv,Ziw,Zi6,Zjh,Zji,Zjn,Zjr,Zjw,Zj7,Zka,Zkb,Zkv,Zkx,Zky,Zk0,Zk1,Zla,Zlb,Zlc,Zld,Zle,Zlf,Zlh,Zlj,Zll,Zlm,Zlz,Zl2,Zmt,Zmv,Zmw,Zmx,Zmz,Zm2,Zm5,Zm6,Zm7,Zm9,Zna,Znb,Zne,Znf,Zng,Znn,Zno,Znp,Znr,Zns,Znt,Znw,Zn5,Zos,Zot,Zo3,Zo6,Zo7,Zo8,Zo9,Zpa,Zpc,Zpg,Zpi,Zpu,Zqb,Zqc,Zqf,Zqg,Zqh,Zqi,Zqk,Zql,Zqm,Zqn,eq_self,true_and,and_true,callable_42,cle]
      tactic =>
      refine cl none (alive_con) trivial ?_
      sym =>
      simp [Zaa,Zab,Zac,Zad,Zae,Zaf,Zag,Zah,Zai,Zak,Zal,Zam,Zan,Zap,Zaq,Zav,Zaw,Zay,Zaz,Za0,Za1,Za2,Za3,Za4,Za5,Za6,Za7,Za8,Za9,Zba,Zbb,Zbc,Zbd,Zbe,Zbf,Zbg,Zbj,Zbt,Zbu,Zbv,Zbw,Zb1,Zb7,Zcn,Zcs,Zcu,Zcv,Zcx,Zc3,Zc7,Zc8,Zdc,Zdd,Zde,Zdf,Zdg,Zdh,Zdi,Zdj,Zdk,Zdm,Zdo,Zdp,Zdq,Zdr,Zds,Zdt,Zdu,Zdv,Zdw,Zdx,Zdy,Zdz,Zd0,Zd1,Zd2,Zd8,Zec,Zek,Zen,Zeq,Zer,Zes,Zet,Zev,Zew,Zex,Zez,Ze0,Ze1,Ze2,Ze3,Ze5,Ze8,Zfc,Zfd,Zfe,Zfh,Zfi,Zfj,Zfk,Zfl,Zfn,Zfq,Zfr,Zf1,Zf2,Zf3,Zf4,Zgd,Zgg,Zgr,Zgs,Zgt,Zgu,Zgv,Zgw,Zgx,Zg4,Zg6,Zhb,Zhc,Zho,Zh6,Zh7,Zie,Zif,Zig,Zih,Zii,Zij,Zik,Zil,Zim,Zin,Zio,Zip,Ziu,Ziv,Ziw,Zi6,Zjh,Zji,Zjn,Zjr,Zjw,Zj7,Zka,Zkb,Zkv,Zkx,Zky,Zk0,Zk1,Zla,Zlb,Zlc,Zld,Zle,Zlf,Zlh,Zlj,Zll,Zlm,Zlz,Zl2,Zmt,Zmv,Zmw,Zmx,Zmz,Zm2,Zm5,Zm6,Zm7,Zm9,Zna,Znb,Zne,Znf,Zng,Znn,Zno,Znp,Znr,Zns,Znt,Znw,Zn5,Zos,Zot,Zo3,Zo6,Zo7,Zo8,Zo9,Zpa,Zpc,Zpg,Zpi,Zpu,Zqb,Zqc,Zqf,Zqg,Zqh,Zqi,Zqk,Zql,Zqm,Zqn,eq_self,true_and,and_true]
      tactic =>
      refine endA ?_
      sym =>
      simp [Zaa,Zab,Zac,Zad,Zae,Zaf,Zag,Zah,Zai,Zak,Zal,Zam,Zan,Zap,Zaq,Zav,Zaw,Zay,Zaz,Za0,Za1,Za2,Za3,Za4,Za5,Za6,Za7,Za8,Za9,Zba,Zbb,Zbc,Zbd,Zbe,Zbf,Zbg,Zbj,Zbt,Zbu,Zbv,Zbw,Zb1,Zb7,Zcn,Zcs,Zcu,Zcv,Zcx,Zc3,Zc7,Zc8,Zdc,Zdd,Zde,Zdf,Zdg,Zdh,Zdi,Zdj,Zdk,Zdm,Zdo,Zdp,Zdq,Zdr,Zds,Zdt,Zdu,Zdv,Zdw,Zdx,Zdy,Zdz,Zd0,Zd1,Zd2,Zd8,Zec,Zek,Zen,Zeq,Zer,Zes,Zet,Zev,Zew,Zex,Zez,Ze0,Ze1,Ze2,Ze3,Ze5,Ze8,Zfc,Zfd,Zfe,Zfh,Zfi,Zfj,Zfk,Zfl,Zfn,Zfq,Zfr,Zf1,Zf2,Zf3,Zf4,Zgd,Zgg,Zgr,Zgs,Zgt,Zgu,Zgv,Zgw,Zgx,Zg4,Zg6,Zhb,Zhc,Zho,Zh6,Zh7,Zie,Zif,Zig,Zih,Zii,Zij,Zik,Zil,Zim,Zin,Zio,Zip,Ziu,Ziv,Ziw,Zi6,Zjh,Zji,Zjn,Zjr,Zjw,Zj7,Zka,Zkb,Zkv,Zkx,Zky,Zk0,Zk1,Zla,Zlb,Zlc,Zld,Zle,Zlf,Zlh,Zlj,Zll,Zlm,Zlz,Zl2,Zmt,Zmv,Zmw,Zmx,Zmz,Zm2,Zm5,Zm6,Zm7,Zm9,Zna,Znb,Zne,Znf,Zng,Znn,Zno,Znp,Znr,Zns,Znt,Znw,Zn5,Zos,Zot,Zo3,Zo6,Zo7,Zo8,Zo9,Zpa,Zpc,Zpg,Zpi,Zpu,Zqb,Zqc,Zqf,Zqg,Zqh,Zqi,Zqk,Zql,Zqm,Zqn,eq_self,true_and,and_true]
    · have k3 := covers_con s (by omega) at_ xb
      rw [cov_true hn q0 q1 hbb.1 hbb.2 (fun p hp hq => (q4 p hp hq).2 (mem_nil p))] at k3
      sym =>
      simp [Zaa,Zab,Zac,Zad,Zae,Zaf,Zag,Zah,Zai,Zak,Zal,Zam,Zan,Zap,Zaq,Zav,Zaw,Zay,Zaz,Za0,Za1,Za2,Za3,Za4,Za5,Za6,Za7,Za8,Za9,Zba,Zbb,Zbc,Zbd,Zbe,Zbf,Zbg,Zbj,Zbt,Zbu,Zbv,Zbw,Zb1,Zb7,Zcn,Zcs,Zcu,Zcv,Zcx,Zc3,Zc7,Zc8,Zdc,Zdd,Zde,Zdf,Zdg,Zdh,Zdi,Zdj,Zdk,Zdm,Zdo,Zdp,Zdq,Zdr,Zds,Zdt,Zdu,Zdv,Zdw,Zdx,Zdy,Zdz,Zd0,Zd1,Zd2,Zd8,Zec,Zek,Zen,Zeq,Zer,Zes,Zet,Zev,Zew,Zex,Zez,Ze0,Ze1,Ze2,Ze3,Ze5,Ze8,Zfc,Zfd,Zfe,Zfh,Zfi,Zfj,Zfk,Zfl,Zfn,Zfq,Zfr,Zf1,Zf2,Zf3,Zf4,Zgd,Zgg,Zgr,Zgs,Zgt,Zgu,Zgv,Zgw,Zgx,Zg4,Zg6,Zhb,Zhc,Zho,Zh6,Zh7,Zie,Zif,Zig,Zih,Zii,Zij,Zik,Zil,Zim,Zin,Zio,Zip,Ziu,Ziv,Ziw,Zi6,Zjh,Zji,Zjn,Zjr,Zjw,Zj7,Zka,Zkb,Zkv,Zkx,Zky,Zk0,Zk1,Zla,Zlb,Zlc,Zld,Zle,Zlf,Zlh,Zlj,Zll,Zlm,Zlz,Zl2,Zmt,Zmv,Zmw,Zmx,Zmz,Zm2,Zm5,Zm6,Zm7,Zm9,Zna,Znb,Zne,Znf,Zng,Znn,Zno,Znp,Znr,Zns,Znt,Znw,Zn5,Zos,Zot,Zo3,Zo6,Zo7,Zo8,Zo9,Zpa,Zpc,Zpg,Zpi,Zpu,Zqb,Zqc,Zqf,Zqg,Zqh,Zqi,Zqk,Zql,Zqm,Zqn,eq_self,true_and,and_true,h,c4,callable_45]
      tactic =>
      refine cl none (k3) trivial ?_
      sym =>
      simp [Zaa,Zab,Zac,Zad,Zae,Zaf,Zag,Zah,Zai,Zak,Zal,Zam,Zan,Zap,Zaq,Zav,Zaw,Zay,Zaz,Za0,Za1,Za2,Za3,Za4,Za5,Za6,Za7,Za8,Za9,Zba,Zbb,Zbc,Zbd,Zbe,Zbf,Zbg,Zbj,Zbt,Zbu,Zbv,Zbw,Zb1,Zb7,Zcn,Zcs,Zcu,Zcv,Zcx,Zc3,Zc7,Zc8,Zdc,Zdd,Zde,Zdf,Zdg,Zdh,Zdi,Zdj,Zdk,Zdm,Zdo,Zdp,Zdq,Zdr,Zds,Zdt,Zdu,Zdv,Zdw,Zdx,Zdy,Zdz,Zd0,Zd1,Zd2,Zd8,Zec,Zek,Zen,Zeq,Zer,Zes,Zet,Zev,Zew,Zex,Zez,Ze0,Ze1,Ze2,Ze3,Ze5,Ze8,Zfc,Zfd,Zfe,Zfh,Zfi,Zfj,Zfk,Zfl,Zfn,Zfq,Zfr,Zf1,Zf2,Zf3,Zf4,Zgd,Zgg,Zgr,Zgs,Zgt,Zgu,Zgv,Zgw,Zgx,Zg4,Zg6,Zhb,Zhc,Zho,Zh6,Zh7,Zie,Zif,Zig,Zih,Zii,Zij,Zik,Zil,Zim,Zin,Zio,Zip,Ziu,Ziv,Ziw,Zi6,Zjh,Zji,Zjn,Zjr,Zjw,Zj7,Zka,Zkb,Zkv,Zkx,Zky,Zk0,Zk1,Zla,Zlb,Zlc,Zld,Zle,Zlf,Zlh,Zlj,Zll,Zlm,Zlz,Zl2,Zmt,Zmv,Zmw,Zmx,Zmz,Zm2,Zm5,Zm6,Zm7,Zm9,Zna,Znb,Zne,Znf,Zng,Znn,Zno,Znp,Znr,Zns,Znt,Znw,Zn5,Zos,Zot,Zo3,Zo6,Zo7,Zo8,Zo9,Zpa,Zpc,Zpg,Zpi,Zpu,Zqb,Zqc,Zqf,Zqg,Zqh,Zqi,Zqk,Zql,Zqm,Zqn,eq_self,true_and,and_true,callable_44]
      tactic =>
      refine cl none (ccut) trivial ?_
      sym =>
      simp [Zaa,Zab,Zac,Zad,Zae,Zaf,Zag,Zah,Zai,Zak,Zal,Zam,Zan,Zap,Zaq,Zav,Zaw,Zay,Zaz,Za0,Za1,Za2,Za3,Za4,Za5,Za6,Za7,Za8,Za9,Zba,Zbb,Zbc,Zbd,Zbe,Zbf,Zbg,Zbj,Zbt,Zbu,Zbv,Zbw,Zb1,Zb7,Zcn,Zcs,Zcu,Zcv,Zcx,Zc3,Zc7,Zc8,Zdc,Zdd,Zde,Zdf,Zdg,Zdh,Zdi,Zdj,Zdk,Zdm,Zdo,Zdp,Zdq,Zdr,Zds,Zdt,Zdu,Zdv,Zdw,Zdx,Zdy,Zdz,Zd0,Zd1,Zd2,Zd8,Zec,Zek,Zen,Zeq,Zer,Zes,Zet,Zev,Zew,Zex,Zez,Ze0,Ze1,Ze2,Ze3,Ze5,Ze8,Zfc,Zfd,Zfe,Zfh,Zfi,Zfj,Zfk,Zfl,Zfn,Zfq,Zfr,Zf1,Zf2,Zf3,Zf4,Zgd,Zgg,Zgr,Zgs,Zgt,Zgu,Zgv,Zgw,Zgx,Zg4,Zg6,Zhb,Zhc,Zho,Zh6,Zh7,Zie,Zif,Zig,Zih,Zii,Zij,Zik,Zil,Zim,Zin,Zio,Zip,Ziu,Ziv,Ziw,Zi6,Zjh,Zji,Zjn,Zjr,Zjw,Zj7,Zka,Zkb,Zkv,Zkx,Zky,Zk0,Zk1,Zla,Zlb,Zlc,Zld,Zle,Zlf,Zlh,Zlj,Zll,Zlm,Zlz,Zl2,Zmt,Zmv,Zmw,Zmx,Zmz,Zm2,Zm5,Zm6,Zm7,Zm9,Zna,Znb,Zne,Znf,Zng,Znn,Zno,Znp,Znr,Zns,Znt,Znw,Zn5,Zos,Zot,Zo3,Zo6,Zo7,Zo8,Zo9,Zpa,Zpc,Zpg,Zpi,Zpu,Zqb,Zqc,Zqf,Zqg,Zqh,Zqi,Zqk,Zql,Zqm,Zqn,eq_self,true_and,and_true,callable_36]
      tactic =>
      refine cl none (cc) trivial ?_
      sym =>
      simp [Zaa,Zab,Zac,Zad,Zae,Zaf,Zag,Zah,Zai,Zak,Zal,Zam,Zan,Zap,Zaq,Zav,Zaw,Zay,Zaz,Za0,Za1,Za2,Za3,Za4,Za5,Za6,Za7,Za8,Za9,Zba,Zbb,Zbc,Zbd,Zbe,Zbf,Zbg,Zbj,Zbt,Zbu,Zbv,Zbw,Zb1,Zb7,Zcn,Zcs,Zcu,Zcv,Zcx,Zc3,Zc7,Zc8,Zdc,Zdd,Zde,Zdf,Zdg,Zdh,Zdi,Zdj,Zdk,Zdm,Zdo,Zdp,Zdq,Zdr,Zds,Zdt,Zdu,Zdv,Zdw,Zdx,Zdy,Zdz,Zd0,Zd1,Zd2,Zd8,Zec,Zek,Zen,Zeq,Zer,Zes,Zet,Zev,Zew,Zex,Zez,Ze0,Ze1,Ze2,Ze3,Ze5,Ze8,Zfc,Zfd,Zfe,Zfh,Zfi,Zfj,Zfk,Zfl,Zfn,Zfq,Zfr,Zf1,Zf2,Zf3,Zf4,Zgd,Zgg,Zgr,Zgs,Zgt,Zgu,Zgv,Zgw,Zgx,Zg4,Zg6,Zhb,Zhc,Zho,Zh6,Zh7,Zie,Zif,Zig,Zih,Zii,Zij,Zik,Zil,Zim,Zin,Zio,Zip,Ziu,Ziv,Ziw,Zi6,Zjh,Zji,Zjn,Zjr,Zjw,Zj7,Zka,Zkb,Zkv,Zkx,Zky,Zk0,Zk1,Zla,Zlb,Zlc,Zld,Zle,Zlf,Zlh,Zlj,Zll,Zlm,Zlz,Zl2,Zmt,Zmv,Zmw,Zmx,Zmz,Zm2,Zm5,Zm6,Zm7,Zm9,Zna,Znb,Zne,Znf,Zng,Znn,Zno,Znp,Znr,Zns,Znt,Znw,Zn5,Zos,Zot,Zo3,Zo6,Zo7,Zo8,Zo9,Zpa,Zpc,Zpg,Zpi,Zpu,Zqb,Zqc,Zqf,Zqg,Zqh,Zqi,Zqk,Zql,Zqm,Zqn,eq_self,true_and,and_true,callable_36]
      tactic =>
      refine cl none (cs) trivial ?_
      sym =>
      simp [Zaa,Zab,Zac,Zad,Zae,Zaf,Zag,Zah,Zai,Zak,Zal,Zam,Zan,Zap,Zaq,Zav,Zaw,Zay,Zaz,Za0,Za1,Za2,Za3,Za4,Za5,Za6,Za7,Za8,Za9,Zba,Zbb,Zbc,Zbd,Zbe,Zbf,Zbg,Zbj,Zbt,Zbu,Zbv,Zbw,Zb1,Zb7,Zcn,Zcs,Zcu,Zcv,Zcx,Zc3,Zc7,Zc8,Zdc,Zdd,Zde,Zdf,Zdg,Zdh,Zdi,Zdj,Zdk,Zdm,Zdo,Zdp,Zdq,Zdr,Zds,Zdt,Zdu,Zdv,Zdw,Zdx,Zdy,Zdz,Zd0,Zd1,Zd2,Zd8,Zec,Zek,Zen,Zeq,Zer,Zes,Zet,Zev,Zew,Zex,Zez,Ze0,Ze1,Ze2,Ze3,Ze5,Ze8,Zfc,Zfd,Zfe,Zfh,Zfi,Zfj,Zfk,Zfl,Zfn,Zfq,Zfr,Zf1,Zf2,Zf3,Zf4,Zgd,Zgg,Zgr,Zgs,Zgt,Zgu,Zgv,Zgw,Zgx,Zg4,Zg6,Zhb,Zhc,Zho,Zh6,Zh7,Zie,Zif,Zig,Zih,Zii,Zij,Zik,Zil,Zim,Zin,Zio,Zip,Ziu,Ziv,Ziw,Zi6,Zjh,Zji,Zjn,Zjr,Zjw,Zj7,Zka,Zkb,Zkv,Zkx,Zky,Zk0,Zk1,Zla,Zlb,Zlc,Zld,Zle,Zlf,Zlh,Zlj,Zll,Zlm,Zlz,Zl2,Zmt,Zmv,Zmw,Zmx,Zmz,Zm2,Zm5,Zm6,Zm7,Zm9,Zna,Znb,Zne,Znf,Zng,Znn,Zno,Znp,Znr,Zns,Znt,Znw,Zn5,Zos,Zot,Zo3,Zo6,Zo7,Zo8,Zo9,Zpa,Zpc,Zpg,Zpi,Zpu,Zqb,Zqc,Zqf,Zqg,Zqh,Zqi,Zqk,Zql,Zqm,Zqn,eq_self,true_and,and_true,callable_42,cle]
      tactic =>
      refine cl none (alive_con) trivial ?_
      sym =>
      simp [Zaa,Zab,Zac,Zad,Zae,Zaf,Zag,Zah,Zai,Zak,Zal,Zam,Zan,Zap,Zaq,Zav,Zaw,Zay,Zaz,Za0,Za1,Za2,Za3,Za4,Za5,Za6,Za7,Za8,Za9,Zba,Zbb,Zbc,Zbd,Zbe,Zbf,Zbg,Zbj,Zbt,Zbu,Zbv,Zbw,Zb1,Zb7,Zcn,Zcs,Zcu,Zcv,Zcx,Zc3,Zc7,Zc8,Zdc,Zdd,Zde,Zdf,Zdg,Zdh,Zdi,Zdj,Zdk,Zdm,Zdo,Zdp,Zdq,Zdr,Zds,Zdt,Zdu,Zdv,Zdw,Zdx,Zdy,Zdz,Zd0,Zd1,Zd2,Zd8,Zec,Zek,Zen,Zeq,Zer,Zes,Zet,Zev,Zew,Zex,Zez,Ze0,Ze1,Ze2,Ze3,Ze5,Ze8,Zfc,Zfd,Zfe,Zfh,Zfi,Zfj,Zfk,Zfl,Zfn,Zfq,Zfr,Zf1,Zf2,Zf3,Zf4,Zgd,Zgg,Zgr,Zgs,Zgt,Zgu,Zgv,Zgw,Zgx,Zg4,Zg6,Zhb,Zhc,Zho,Zh6,Zh7,Zie,Zif,Zig,Zih,Zii,Zij,Zik,Zil,Zim,Zin,Zio,Zip,Ziu,Ziv,Ziw,Zi6,Zjh,Zji,Zjn,Zjr,Zjw,Zj7,Zka,Zkb,Zkv,Zkx,Zky,Zk0,Zk1,Zla,Zlb,Zlc,Zld,Zle,Zlf,Zlh,Zlj,Zll,Zlm,Zlz,Zl2,Zmt,Zmv,Zmw,Zmx,Zmz,Zm2,Zm5,Zm6,Zm7,Zm9,Zna,Znb,Zne,Znf,Zng,Znn,Zno,Znp,Znr,Zns,Znt,Znw,Zn5,Zos,Zot,Zo3,Zo6,Zo7,Zo8,Zo9,Zpa,Zpc,Zpg,Zpi,Zpu,Zqb,Zqc,Zqf,Zqg,Zqh,Zqi,Zqk,Zql,Zqm,Zqn,eq_self,true_and,and_true]
      tactic =>
      refine endA ?_
      sym =>
      simp [Zaa,Zab,Zac,Zad,Zae,Zaf,Zag,Zah,Zai,Zak,Zal,Zam,Zan,Zap,Zaq,Zav,Zaw,Zay,Zaz,Za0,Za1,Za2,Za3,Za4,Za5,Za6,Za7,Za8,Za9,Zba,Zbb,Zbc,Zbd,Zbe,Zbf,Zbg,Zbj,Zbt,Zbu,Zbv,Zbw,Zb1,Zb7,Zcn,Zcs,Zcu,Zcv,Zcx,Zc3,Zc7,Zc8,Zdc,Zdd,Zde,Zdf,Zdg,Zdh,Zdi,Zdj,Zdk,Zdm,Zdo,Zdp,Zdq,Zdr,Zds,Zdt,Zdu,Zdv,Zdw,Zdx,Zdy,Zdz,Zd0,Zd1,Zd2,Zd8,Zec,Zek,Zen,Zeq,Zer,Zes,Zet,Zev,Zew,Zex,Zez,Ze0,Ze1,Ze2,Ze3,Ze5,Ze8,Zfc,Zfd,Zfe,Zfh,Zfi,Zfj,Zfk,Zfl,Zfn,Zfq,Zfr,Zf1,Zf2,Zf3,Zf4,Zgd,Zgg,Zgr,Zgs,Zgt,Zgu,Zgv,Zgw,Zgx,Zg4,Zg6,Zhb,Zhc,Zho,Zh6,Zh7,Zie,Zif,Zig,Zih,Zii,Zij,Zik,Zil,Zim,Zin,Zio,Zip,Ziu,Ziv,Ziw,Zi6,Zjh,Zji,Zjn,Zjr,Zjw,Zj7,Zka,Zkb,Zkv,Zkx,Zky,Zk0,Zk1,Zla,Zlb,Zlc,Zld,Zle,Zlf,Zlh,Zlj,Zll,Zlm,Zlz,Zl2,Zmt,Zmv,Zmw,Zmx,Zmz,Zm2,Zm5,Zm6,Zm7,Zm9,Zna,Znb,Zne,Znf,Zng,Znn,Zno,Znp,Znr,Zns,Znt,Znw,Zn5,Zos,Zot,Zo3,Zo6,Zo7,Zo8,Zo9,Zpa,Zpc,Zpg,Zpi,Zpu,Zqb,Zqc,Zqf,Zqg,Zqh,Zqi,Zqk,Zql,Zqm,Zqn,eq_self,true_and,and_true]
end Go.Proofs.Ytnfgnafphfddhaa.SpnM
