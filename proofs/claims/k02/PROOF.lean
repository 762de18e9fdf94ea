import PyProof.Rows.All
import Wide.All
import OpenK.AllK
import Wide.FinOn
import HandS.ForMost
import HandS.Evl
import HandS.IsInst
import HandS.Flow
import HandS.More
import PySem.Challenge.RW_wasmhost_k02_bytes_of_words
set_option Elab.async false
set_option linter.all false
set_option maxRecDepth 100000
set_option maxHeartbeats 4000000
/-! My own layer over HandS.Evl: statements relative to a ground heap, tests as propositions. -/
namespace Wm
open PySem L2 Evl
/-- a call's promise of a new tuple -/
def SpU (sp : Sp) (vs : List V) (H : Hp) (xs : List V) : Prop := ∀ H1, Ex H H1 → ∀ Q : VK, (∀ p H2, H1 p = none → Ex H1 H2 → H2 p = some (.tup xs) → Q (.ref p) H2) → ∀ E : XK, sp vs H1 Q E
/-- a test, told by a proposition -/
def EtP (t : TT) (σ : L2.St) (H : Hp) (p : Prop) : Prop := ∃ b : Bool, (b = true ↔ p) ∧ EvT t σ H b
section
variable {K : PySem.W.Frag} {σ : L2.St} {H H0 H1 H' : Hp} {ta tb tc te tx : TE} {t u : TT} {x y z v : V} {r : R2} {D : Ends} {tu tw tz : TS} {p q : Prop} {g : TG}
theorem EtP.mono (e : Ex H H') (h : EtP t σ H p) : EtP t σ H' p := by
  obtain ⟨b, hb, h⟩ := h
  exact ⟨b, hb, h.mono e⟩
theorem EtP.to (h : EtP t σ H p) (e : p ↔ q) : EtP t σ H q := by
  obtain ⟨b, hb, h⟩ := h
  exact ⟨b, hb.trans e, h⟩
theorem ep_val {b : Bool} (h : Ev te σ H (.bl b)) : EtP (tB te) σ H (b = true) := ⟨b, Iff.rfl, et_B h⟩
theorem ep_test {b : Bool} (h : Ev te σ H (.bl b)) : EtP (tTest te) σ H (b = true) := ⟨b, Iff.rfl, et_test h⟩
theorem ep_dec {p : Prop} [Decidable p] (h : Ev te σ H (.bl (decide p))) : EtP (tTest te) σ H p := ⟨decide p, decide_eq_true_iff, et_test h⟩
theorem ep_ndec {p : Prop} [Decidable p] (h : Ev te σ H (.bl (!decide p))) : EtP (tTest te) σ H (¬ p) := ⟨!decide p, by simp, et_test h⟩
theorem ep_and (h1 : EtP t σ H p) (h2 : p → EtP u σ H q) : EtP (tAnd t u) σ H (p ∧ q) := by
  obtain ⟨a, ha, h1⟩ := h1
  by_cases hp : p
  · obtain ⟨b, hb, h2⟩ := h2 hp
    exact ⟨a && b, by rw [Bool.and_eq_true, ha, hb], et_and h1 fun _ => h2⟩
  · have e : a = false := by
      cases a with
      | true => exact absurd (ha.mp rfl) hp
      | false => rfl
    subst e
    refine ⟨false && false, ⟨fun z => (by cases z), fun z => absurd z.1 hp⟩, et_and h1 fun z => (by cases z)⟩
theorem ep_or (h1 : EtP t σ H p) (h2 : ¬ p → EtP u σ H q) : EtP (tOr t u) σ H (p ∨ q) := by
  obtain ⟨a, ha, h1⟩ := h1
  by_cases hp : p
  · have e : a = true := ha.mpr hp
    subst e
    refine ⟨true || false, ⟨fun _ => Or.inl hp, fun _ => rfl⟩, et_or h1 fun z => (by cases z)⟩
  · obtain ⟨b, hb, h2⟩ := h2 hp
    exact ⟨a || b, by rw [Bool.or_eq_true, ha, hb], et_or h1 fun _ => h2⟩
theorem ep_not (h1 : EtP t σ H p) : EtP (tNot t) σ H (¬ p) := by
  obtain ⟨a, ha, h1⟩ := h1
  refine ⟨!a, ?_, et_not h1⟩
  rw [← ha]
  cases a <;> simp
/-! values -/
theorem rv_eqI {i j : Int} : RV rEq (.int i) (.int j) H (.bl (decide (i = j))) := fun H1 _ Q q => ⟨rfl, by
  have e : decide (V.int i = V.int j) = decide (i = j) := by
    by_cases h : i = j
    · subst h; simp
    · rw [decide_eq_false h, decide_eq_false fun z => h (V.int.inj z)]
  rw [e]
  exact q H1 (Ex.refl H1)⟩
theorem rv_neI {i j : Int} : RV rNe (.int i) (.int j) H (.bl (!decide (i = j))) := fun H1 _ Q q => ⟨rfl, by
  have e : decide (V.int i = V.int j) = decide (i = j) := by
    by_cases h : i = j
    · subst h; simp
    · rw [decide_eq_false h, decide_eq_false fun z => h (V.int.inj z)]
  rw [e]
  exact q H1 (Ex.refl H1)⟩
theorem rv_eqS {i j : Str} : RV rEq (.str i) (.str j) H (.bl (decide (i = j))) := fun H1 _ Q q => ⟨rfl, by
  have e : decide (V.str i = V.str j) = decide (i = j) := by
    by_cases h : i = j
    · subst h; simp
    · rw [decide_eq_false h, decide_eq_false fun z => h (V.str.inj z)]
  rw [e]
  exact q H1 (Ex.refl H1)⟩
theorem rv_neS {i j : Str} : RV rNe (.str i) (.str j) H (.bl (!decide (i = j))) := fun H1 _ Q q => ⟨rfl, by
  have e : decide (V.str i = V.str j) = decide (i = j) := by
    by_cases h : i = j
    · subst h; simp
    · rw [decide_eq_false h, decide_eq_false fun z => h (V.str.inj z)]
  rw [e]
  exact q H1 (Ex.refl H1)⟩
theorem rv_eqB {i j : Bool} : RV rEq (.bl i) (.bl j) H (.bl (decide (i = j))) := fun H1 _ Q q => ⟨rfl, by
  have e : decide (V.bl i = V.bl j) = decide (i = j) := by
    by_cases h : i = j
    · subst h; simp
    · rw [decide_eq_false h, decide_eq_false fun z => h (V.bl.inj z)]
  rw [e]
  exact q H1 (Ex.refl H1)⟩
def rAddS2 : R2 := fun x y H Q => ∃ i j, x = .str i ∧ y = .str j ∧ i.length + j.length ≤ sizeLine ∧ Q (.str (i ++ j)) H
theorem rv_addS {i j : Str} (h : i.length + j.length ≤ 100000) : RV rAddS2 (.str i) (.str j) H (.str (i ++ j)) := fun H1 _ Q q => ⟨i, j, rfl, rfl, sz_of h, q H1 (Ex.refl H1)⟩
/-- if-expressions, chains -/
theorem ev_ifP {a b : V} (h : EtP t σ H p) (h1 : p → Ev ta σ H a) (h2 : ¬ p → Ev tb σ H b) [Decidable p] : Ev (tIf t ta tb) σ H (if p then a else b) := by
  obtain ⟨c, hc, h⟩ := h
  refine ev_if h (fun e => ?_) (fun e => ?_)
  · rw [if_pos (hc.mp e)]
    exact h1 (hc.mp e)
  · have hp : ¬ p := fun z => by
      have := hc.mpr z
      rw [e] at this
      cases this
    rw [if_neg hp]
    exact h2 hp
theorem ev_chain {r r' : R2} {a b : Bool} (ha : Ev ta σ H x) (hb : Ev tb σ H y) (hr : RV r x y H (.bl a)) (hc : a = true → Ev tc σ H z) (hr' : a = true → RV r' y z H (.bl b)) : Ev (tChain r r' ta tb tc) σ H (.bl (a && b)) := fun H1 e Q q =>
  ha H1 e _ fun H2 e2 => hb H2 (e.trans e2) _ fun H3 e3 => hr H3 ((e.trans e2).trans e3) _ fun H4 e4 => ⟨a, rfl, by
    cases a with
    | true =>
      rw [if_pos rfl]
      exact hc rfl H4 (((e.trans e2).trans e3).trans e4) _ fun H5 e5 => hr' rfl H5 ((((e.trans e2).trans e3).trans e4).trans e5) Q fun H6 e6 => q H6 ((((e2.trans e3).trans e4).trans e5).trans e6)
    | false =>
      rw [if_neg Bool.false_ne_true]
      exact q H4 ((e2.trans e3).trans e4)⟩
theorem ep_chain {r r' : R2} {p q : Prop} [Decidable p] [Decidable q] (ha : Ev ta σ H x) (hb : Ev tb σ H y) (hr : RV r x y H (.bl (decide p))) (hc : p → Ev tc σ H z) (hr' : p → RV r' y z H (.bl (decide q))) : EtP (tTest (tChain r r' ta tb tc)) σ H (p ∧ q) :=
  ⟨decide p && decide q, by simp, et_test (ev_chain ha hb hr (fun e => hc (of_decide_eq_true e)) (fun e => hr' (of_decide_eq_true e)))⟩
/-! built-ins -/
def rInt1 : List V → Hp → VK → Prop := fun xs H Q => (∃ i, xs = [.int i] ∧ Q (.int i) H) ∨ ∃ k, xs = [.bl k] ∧ Q (.int (if k then 1 else 0)) H
theorem ev_int {i : Int} (h : Ev ta σ H (.int i)) : Ev (tCB rInt1 (tCons ta tNil)) σ H (.int i) := fun H1 e Q q => h H1 e _ fun H2 e2 => Or.inl ⟨i, rfl, q H2 e2⟩
theorem ev_intB {b : Bool} (h : Ev ta σ H (.bl b)) : Ev (tCB rInt1 (tCons ta tNil)) σ H (.int (if b then 1 else 0)) := fun H1 e Q q => h H1 e _ fun H2 e2 => Or.inr ⟨b, rfl, q H2 e2⟩
def rAbs1 : List V → Hp → VK → Prop := fun xs H Q => ∃ i, xs = [.int i] ∧ Q (.int (if i < 0 then -i else i)) H
theorem ev_abs {i : Int} (h : Ev ta σ H (.int i)) : Ev (tCB rAbs1 (tCons ta tNil)) σ H (.int (if i < 0 then -i else i)) := fun H1 e Q q => h H1 e _ fun H2 e2 => ⟨i, rfl, q H2 e2⟩
def rMin2 : List V → Hp → VK → Prop := fun xs H Q => ∃ i j, xs = [.int i, .int j] ∧ Q (.int (if j < i then j else i)) H
theorem ev_min2 {i j : Int} (ha : Ev ta σ H (.int i)) (hb : Ev tb σ H (.int j)) : Ev (tCB rMin2 (tCons ta (tCons tb tNil))) σ H (.int (if j < i then j else i)) := fun H1 e Q q =>
  ha H1 e _ fun H2 e2 => hb H2 (e.trans e2) _ fun H3 e3 => ⟨i, j, rfl, q H3 (e2.trans e3)⟩
def rLenS1 : List V → Hp → VK → Prop := fun xs H Q => ∃ z, xs = [.str z] ∧ z.length ≤ sizeLine ∧ Q (.int z.length) H
theorem ev_lenS {z : Str} (h : Ev ta σ H (.str z)) (hz : z.length ≤ 100000) : Ev (tCB rLenS1 (tCons ta tNil)) σ H (.int z.length) := fun H1 e Q q => h H1 e _ fun H2 e2 => ⟨z, rfl, sz_of hz, q H2 e2⟩
theorem ev_lenT {p : Addr} {xs : List V} (ha : Ev ta σ H (.ref p)) (h : SqT K H p xs) : Ev (tCB (rLenS K) (tCons ta tNil)) σ H (.int (xs.length : Int)) := fun H1 e Q q =>
  ha H1 e _ fun H2 e2 => ⟨p, xs, rfl, Or.inr (ex_t (e.trans e2) h), q H2 e2⟩
/-- isinstance of a value and a class -/
theorem ev_isi {c : V} {ty u : Value} {b : Bool} (ha : Ev ta σ H x) (hb : Ev tb σ H c) (k : ClsV c u) (ht : ∀ H1, Ex H H1 → TyX K H1 x ty) (hk : PySem.W.kitOne K ty u = some b) : Ev (tCB (rIsi K) (tCons ta (tCons tb tNil))) σ H (.bl b) := fun H1 e Q q =>
  ha H1 e _ fun H2 e2 => hb H2 (e.trans e2) _ fun H3 e3 => ⟨x, c, ty, u, b, rfl, k, ht H3 ((e.trans e2).trans e3), hk, q H3 (e2.trans e3)⟩
theorem ty_int {i : Int} : ∀ H1, Ex H H1 → TyX K H1 (.int i) (.type "int") := fun _ _ => .base (.int i)
theorem ty_bl {b : Bool} : ∀ H1, Ex H H1 → TyX K H1 (.bl b) (.type "bool") := fun _ _ => .base (.bl b)
theorem ty_str {i : Str} : ∀ H1, Ex H H1 → TyX K H1 (.str i) (.type "str") := fun _ _ => .base (.str i)
theorem ty_non : ∀ H1, Ex H H1 → TyX K H1 .non (.type "NoneType") := fun _ _ => .base .non
theorem ev_lenI {p : Addr} {ns : List Int} (ha : Ev ta σ H (.ref p)) (h : SqL K H p (ns.map V.int)) : Ev (tCB (rLenS K) (tCons ta tNil)) σ H (.int (ns.length : Int)) := by
  have q := ev_len ha h
  rw [List.length_map] at q
  exact q
theorem ev_lenTI {p : Addr} {ns : List Int} (ha : Ev ta σ H (.ref p)) (h : SqT K H p (ns.map V.int)) : Ev (tCB (rLenS K) (tCons ta tNil)) σ H (.int (ns.length : Int)) := by
  have q := ev_lenT ha h
  rw [List.length_map] at q
  exact q
/-! lists of ints compared -/
theorem lay_ints : ∀ ns : List Int, PyData.canLayAll0 (ns.map PyData.int) = true
  | [] => rfl
  | n :: r => by
    show (PyData.canLay0 (.int n) && PyData.canLayAll0 (r.map PyData.int)) = true
    rw [lay_ints r]
    rfl
theorem depth_ints : ∀ ns : List Int, PyData.depthAll (ns.map PyData.int) = 0
  | [] => rfl
  | n :: r => by
    show max (PyData.depth (.int n)) (PyData.depthAll (r.map PyData.int)) = 0
    rw [depth_ints r]
    rfl
theorem eqv_ints : ∀ ns ms : List Int, PyData.eqvAll (ns.map PyData.int) (ms.map PyData.int) = decide (ns = ms)
  | [], [] => rfl
  | [], _ :: _ => rfl
  | _ :: _, [] => rfl
  | n :: r, m :: t => by
    show (n == m && PyData.eqvAll (r.map PyData.int) (t.map PyData.int)) = _
    rw [eqv_ints r t]
    by_cases h : n = m
    · subst h; simp
    · simp [h]
theorem shaped_ints (ns : List Int) : SeqAt.shaped (.list (ns.map PyData.int)) = true := by
  unfold SeqAt.shaped
  rw [Bool.and_eq_true]
  refine ⟨lay_ints ns, decide_eq_true ?_⟩
  show PyData.depthAll (ns.map PyData.int) + 1 ≤ 64
  rw [depth_ints]
  decide
theorem dp_ints : ∀ ns : List Int, DpAll K H (ns.map V.int) (ns.map PyData.int)
  | [] => .nil
  | n :: r => .cons (.int n) (dp_ints r)
theorem rv_eqDI {p q : Addr} {ns ms : List Int} (h1 : SqL K H p (ns.map V.int)) (h2 : SqL K H q (ms.map V.int)) : RV (rEqD K) (.ref p) (.ref q) H (.bl (decide (ns = ms))) := fun H1 e Q k =>
  ⟨_, _, .lst (ex_l e h1) (dp_ints ns), .lst (ex_l e h2) (dp_ints ms), shaped_ints ns, shaped_ints ms, by
    show Q (.bl (PyData.eqvAll _ _)) H1
    rw [eqv_ints]
    exact k H1 (Ex.refl H1)⟩
theorem rv_neDI {p q : Addr} {ns ms : List Int} (h1 : SqL K H p (ns.map V.int)) (h2 : SqL K H q (ms.map V.int)) : RV (rNeD K) (.ref p) (.ref q) H (.bl (!decide (ns = ms))) := fun H1 e Q k =>
  ⟨_, _, .lst (ex_l e h1) (dp_ints ns), .lst (ex_l e h2) (dp_ints ms), shaped_ints ns, shaped_ints ms, by
    show Q (.bl (!PyData.eqvAll _ _)) H1
    rw [eqv_ints]
    exact k H1 (Ex.refl H1)⟩
theorem cutV_mid (xs : List V) (a b : Nat) : cutV xs (some (a : Int)) (some (b : Int)) = (xs.drop a).take (b - a) := by
  unfold cutV
  rw [HT.sIx_nat, HT.sIx_nat]
  by_cases h : a ≤ xs.length
  · have e1 : min a xs.length = a := by omega
    rw [e1]
    by_cases g : b ≤ xs.length
    · have e2 : min b xs.length = b := by omega
      rw [e2]
    · have e2 : min b xs.length = xs.length := by omega
      rw [e2, List.take_of_length_le (by rw [List.length_drop]; omega), List.take_of_length_le (by rw [List.length_drop]; omega)]
  · have e1 : min a xs.length = xs.length := by omega
    rw [e1, List.drop_of_length_le (Nat.le_refl _), List.drop_of_length_le (show xs.length ≤ a by omega), List.take_nil, List.take_nil]
/-! a list or a tuple -/
theorem q_mv {P : Hp → Prop} (e : Ex H H') (q : ∀ H1, Ex H H1 → P H1) : ∀ H1, Ex H' H1 → P H1 := fun H1 e1 => q H1 (e.trans e1)
theorem q_mvL {P : Addr → Hp → Prop} {o : HO} (e : Ex H H') (q : ∀ p H1, H p = none → Ex H H1 → H1 p = some o → P p H1) : ∀ p H1, H' p = none → Ex H' H1 → H1 p = some o → P p H1 := fun p H1 hp e1 h1 => q p H1 (fresh_back e hp) (e.trans e1) h1
theorem ty_list {a : Addr} {xs : List V} (h : H a = some (.lst xs)) : ∀ H1, Ex H H1 → TyX K H1 (.ref a) (.type "list") := fun H1 e => .base (.lst (e a _ h))
theorem ty_tup {a : Addr} {xs : List V} (h : H a = some (.tup xs)) : ∀ H1, Ex H H1 → TyX K H1 (.ref a) (.type "tuple") := fun H1 e => .base (.tup (e a _ h))
def SqQ (K : PySem.W.Frag) (H : Hp) (a : Addr) (xs : List V) : Prop := SqL K H a xs ∨ SqT K H a xs
theorem ex_q {a : Addr} {xs : List V} (e : Ex H H') (h : SqQ K H a xs) : SqQ K H' a xs := h.elim (fun z => Or.inl (ex_l e z)) fun z => Or.inr (ex_t e z)
theorem at_ints {ns : List Int} {i : Int} (h0 : 0 ≤ i) (h1 : i < (ns.length : Int)) : atI (ns.map V.int) i = some (.int (ns.getD i.toNat 0)) := by
  obtain ⟨j, rfl⟩ : ∃ j : Nat, i = (j : Int) := ⟨i.toNat, by omega⟩
  have hj : j < ns.length := by omega
  refine atI_nat ?_
  rw [List.getElem?_map, List.getElem?_eq_getElem hj]
  show some (V.int ns[j]) = some (V.int (ns.getD ((j : Int).toNat) 0))
  rw [Int.toNat_natCast, List.getD_eq_getElem?_getD, List.getElem?_eq_getElem hj]
  rfl
theorem rv_ixQI {p : Addr} {ns : List Int} {i : Int} (h : SqQ K H p (ns.map V.int)) (h0 : 0 ≤ i) (h1 : i < (ns.length : Int)) : RV (rIx K) (.ref p) (.int i) H (.int (ns.getD i.toNat 0)) := fun H1 e Q q =>
  h.elim (fun z => Or.inl ⟨p, _, i, _, rfl, rfl, ex_l e z, at_ints h0 h1, q H1 (Ex.refl H1)⟩) fun z => Or.inr (Or.inl ⟨p, _, i, _, rfl, rfl, ex_t e z, at_ints h0 h1, q H1 (Ex.refl H1)⟩)
theorem ev_lenQ {p : Addr} {xs : List V} (ha : Ev ta σ H (.ref p)) (h : SqQ K H p xs) : Ev (tCB (rLenS K) (tCons ta tNil)) σ H (.int (xs.length : Int)) := fun H1 e Q q =>
  ha H1 e _ fun H2 e2 => ⟨p, xs, rfl, h.elim (fun z => Or.inl (ex_l (e.trans e2) z)) fun z => Or.inr (ex_t (e.trans e2) z), q H2 e2⟩
theorem ev_lenQI {p : Addr} {ns : List Int} (ha : Ev ta σ H (.ref p)) (h : SqQ K H p (ns.map V.int)) : Ev (tCB (rLenS K) (tCons ta tNil)) σ H (.int (ns.length : Int)) := by
  have q := ev_lenQ ha h
  rw [List.length_map] at q
  exact q
theorem el_listQ {p : Addr} {xs : List V} (ha : Ev ta σ H (.ref p)) (h : SqQ K H p xs) : EvL (tCB (rListS K) (tCons ta tNil)) σ H xs := fun H1 e Q q =>
  ha H1 e _ fun H2 e2 => ⟨p, xs, rfl, h.elim (fun z => Or.inl (ex_l (e.trans e2) z)) fun z => Or.inr (ex_t (e.trans e2) z), fun l hl => q l _ (fresh_back e2 hl) (e2.trans (Ex.new hl)) upd_same⟩
def rTupS (K : PySem.W.Frag) : List V → Hp → VK → Prop := fun xs H Q => ∃ p ys, xs = [.ref p] ∧ ((SqL K H p ys ∧ ∀ l, H l = none → Q (.ref l) (upd H l (.tup ys))) ∨ (SqT K H p ys ∧ Q (.ref p) H))
theorem eu_tupL {p : Addr} {xs : List V} (ha : Ev ta σ H (.ref p)) (h : SqL K H p xs) : EvU (tCB (rTupS K) (tCons ta tNil)) σ H xs := fun H1 e Q q =>
  ha H1 e _ fun H2 e2 => ⟨p, xs, rfl, Or.inl ⟨ex_l (e.trans e2) h, fun l hl => q l _ (fresh_back e2 hl) (e2.trans (Ex.new hl)) upd_same⟩⟩
theorem eu_tupN {xs : List V} (ha : EvL ta σ H xs) : EvU (tCB (rTupS K) (tCons ta tNil)) σ H xs := fun H1 e Q q =>
  ha H1 e _ fun p H2 _ e2 hp => ⟨p, xs, rfl, Or.inl ⟨sq_of hp, fun l hl => q l _ (fresh_back e2 hl) (e2.trans (Ex.new hl)) upd_same⟩⟩
theorem el_listN {xs : List V} (ha : EvL ta σ H xs) : EvL (tCB (rListS K) (tCons ta tNil)) σ H xs := fun H1 e Q q =>
  ha H1 e _ fun p H2 _ e2 hp => ⟨p, xs, rfl, Or.inl (sq_of hp), fun l hl => q l _ (fresh_back e2 hl) (e2.trans (Ex.new hl)) upd_same⟩
/-- a call whose one argument is a new list, a new tuple -/
theorem ev_call1L {sp : Sp} {xs : List V} {E : XK} (h : EvL ta σ H xs) (hs : ∀ p H1, Ex H H1 → H1 p = some (.lst xs) → SpV sp [.ref p] H1 z) : Ev (tCall sp [] E (tCons ta tNil)) σ H z := fun H1 e Q q =>
  h H1 e _ fun p H2 _ e2 hp => hs p H2 (e.trans e2) hp H2 (Ex.refl H2) Q (fun H3 e3 => q H3 (e2.trans e3)) E
theorem ev_call1U {sp : Sp} {xs : List V} {E : XK} (h : EvU ta σ H xs) (hs : ∀ p H1, Ex H H1 → H1 p = some (.tup xs) → SpV sp [.ref p] H1 z) : Ev (tCall sp [] E (tCons ta tNil)) σ H z := fun H1 e Q q =>
  h H1 e _ fun p H2 _ e2 hp => hs p H2 (e.trans e2) hp H2 (Ex.refl H2) Q (fun H3 e3 => q H3 (e2.trans e3)) E
/-! new tuples and lists from calls -/
theorem eu_call {sp : Sp} {dvs vs xs : List V} {E : XK} {ta : TA} (h : EvA ta σ H vs) (hs : SpU sp (vs ++ dvs) H xs) : EvU (tCall sp dvs E ta) σ H xs := fun H1 e Q q =>
  h H1 e _ fun H2 e2 => hs H2 (e.trans e2) Q (fun p H3 hp e3 h3 => q p H3 (fresh_back e2 hp) (e2.trans e3) h3) E
/-! ### statements relative to a ground heap H0 -/
theorem r_asg {i : Nat} (e : Ex H0 H1) (h : Ev te σ H0 v) (k : ∀ H2, Ex H0 H2 → Ex H1 H2 → tz D (σ.set i (some v)) H2) : tSeq (tAsg te (gName i)) tz D σ H1 := h H1 e _ fun H2 e2 => k H2 (e.trans e2) e2
/-- a new list, a new tuple: the ground moves on -/
theorem r_asgL {i : Nat} {xs : List V} (e : Ex H0 H1) (h : EvL te σ H0 xs) (k : ∀ p H2, H0 p = none → Ex H0 H2 → Ex H1 H2 → H2 p = some (.lst xs) → tz D (σ.set i (some (.ref p))) H2) : tSeq (tAsg te (gName i)) tz D σ H1 :=
  h H1 e _ fun p H2 hp e2 h2 => k p H2 (fresh_back e hp) (e.trans e2) e2 h2
theorem r_asgU {i : Nat} {xs : List V} (e : Ex H0 H1) (h : EvU te σ H0 xs) (k : ∀ p H2, H0 p = none → Ex H0 H2 → Ex H1 H2 → H2 p = some (.tup xs) → tz D (σ.set i (some (.ref p))) H2) : tSeq (tAsg te (gName i)) tz D σ H1 :=
  h H1 e _ fun p H2 hp e2 h2 => k p H2 (fresh_back e hp) (e.trans e2) e2 h2
theorem r_aug {i : Nat} {f : Int → Int → Int} {a b : Int} (e : Ex H0 H1) (hx : σ[i]? = some (some (.int a))) (h : Ev te σ H0 (.int b)) (k : ∀ H2, Ex H0 H2 → Ex H1 H2 → tz D (σ.set i (some (.int (f a b)))) H2) : tSeq (tAug i te (ipI f)) tz D σ H1 :=
  ⟨.int a, hx, h H1 e _ fun H2 e2 => ⟨a, b, rfl, rfl, k H2 (e.trans e2) e2⟩⟩
theorem r_if (e : Ex H0 H1) (h : EtP t σ H0 p) (h1 : p → ∀ H2, Ex H0 H2 → Ex H1 H2 → tu { D with nx := tz D } σ H2) (h2 : ¬ p → ∀ H2, Ex H0 H2 → Ex H1 H2 → tw { D with nx := tz D } σ H2) : tSeq (tIfS t tu tw) tz D σ H1 := by
  obtain ⟨b, hb, h⟩ := h
  refine h H1 e _ fun H2 e2 => ?_
  cases b with
  | true => exact h1 (hb.mp rfl) H2 (e.trans e2) e2
  | false => exact h2 (fun z => nomatch hb.mpr z) H2 (e.trans e2) e2
/-- an if without else whose way ends -/
theorem r_when (e : Ex H0 H1) (h : EtP t σ H0 p) (h1 : p → ∀ H2, Ex H0 H2 → Ex H1 H2 → tu { D with nx := tz D } σ H2) (h2 : ¬ p → ∀ H2, Ex H0 H2 → Ex H1 H2 → tz D σ H2) : tSeq (tIfS t tu tNext) tz D σ H1 := r_if e h h1 h2
/-- an if both of whose ways go on (its term: pss_cut): J tells the slots and the heap behind it -/
theorem r_ifJ (e : Ex H0 H1) (h : EtP t σ H0 p) (J : L2.St → Hp → Prop) (h1 : p → ∀ H2, Ex H0 H2 → Ex H1 H2 → tu { D with nx := J } σ H2) (h2 : ¬ p → ∀ H2, Ex H0 H2 → Ex H1 H2 → tw { D with nx := J } σ H2) (hd : ∀ σ' H', J σ' H' → tz D σ' H') : tCut (tIfS t tu tw) tz D σ H1 := by
  refine ⟨J, ?_, hd⟩
  obtain ⟨b, hb, h⟩ := h
  refine h H1 e _ fun H2 e2 => ?_
  cases b with
  | true => exact h1 (hb.mp rfl) H2 (e.trans e2) e2
  | false => exact h2 (fun z => nomatch hb.mpr z) H2 (e.trans e2) e2
theorem r_ret (e : Ex H0 H1) (h : Ev te σ H0 v) (k : ∀ H2, Ex H0 H2 → D.rt v H2) : tSeq (tRet te) tz D σ H1 := h H1 e _ fun H2 e2 => k H2 (e.trans e2)
theorem r_retL {xs : List V} (e : Ex H0 H1) (h : EvL te σ H0 xs) (k : ∀ p H2, H0 p = none → Ex H0 H2 → H2 p = some (.lst xs) → D.rt (.ref p) H2) : tSeq (tRet te) tz D σ H1 := h H1 e _ fun p H2 hp e2 h2 => k p H2 (fresh_back e hp) (e.trans e2) h2
theorem r_retU {xs : List V} (e : Ex H0 H1) (h : EvU te σ H0 xs) (k : ∀ p H2, H0 p = none → Ex H0 H2 → H2 p = some (.tup xs) → D.rt (.ref p) H2) : tSeq (tRet te) tz D σ H1 := h H1 e _ fun p H2 hp e2 h2 => k p H2 (fresh_back e hp) (e.trans e2) h2
theorem r_drop (e : Ex H0 H1) (h : Ev te σ H0 v) (k : ∀ H2, Ex H0 H2 → Ex H1 H2 → tz D σ H2) : tSeq (tDrop te) tz D σ H1 := h H1 e _ fun H2 e2 => k H2 (e.trans e2) e2
theorem r_next (h : D.nx σ H) : tNext D σ H := h
theorem r_seq {t1 : TS} (h : t1 { D with nx := tz D } σ H) : tSeq t1 tz D σ H := h
/-- xs.append(e): the list is not in the ground -/
theorem r_app {l : Addr} {xs : List V} (e : Ex H0 H1) (hn : H0 l = none) (hl : H1 l = some (.lst xs)) (ha : Ev ta σ H0 (.ref l)) (h : Ev te σ H0 v) (hz : xs.length < 100000)
    (k : ∀ H2, Ex H0 H2 → H2 l = some (.lst (xs ++ [v])) → (∀ a o, a ≠ l → H1 a = some o → H2 a = some o) → tz D σ H2) : tSeq (tDrop (tBM K "list" rAppend ta (tCons te tNil))) tz D σ H1 := ha H1 e _ fun H2 e1 =>
  ⟨Or.inl ⟨rfl, xs, sq_of (e1 l _ hl)⟩, h H2 (e.trans e1) _ fun H3 e2 => ⟨l, xs, v, rfl, rfl, e2 l _ (e1 l _ hl), sz_lt hz, k _ (Ex.mut ((e.trans e1).trans e2) hn) upd_same fun a o ne ho => by
    rw [upd_ne ne]
    exact e2 a o (e1 a o ho)⟩⟩
theorem r_appU {l : Addr} {xs ys : List V} (e : Ex H0 H1) (hn : H0 l = none) (hl : H1 l = some (.lst xs)) (ha : Ev ta σ H0 (.ref l)) (h : EvU te σ H0 ys) (hz : xs.length < 100000)
    (k : ∀ p H2, H1 p = none → p ≠ l → Ex H0 H2 → H2 l = some (.lst (xs ++ [.ref p])) → H2 p = some (.tup ys) → (∀ a o, a ≠ l → H1 a = some o → H2 a = some o) → tz D σ H2) : tSeq (tDrop (tBM K "list" rAppend ta (tCons te tNil))) tz D σ H1 := ha H1 e _ fun H2 e1 =>
  ⟨Or.inl ⟨rfl, xs, sq_of (e1 l _ hl)⟩, h H2 (e.trans e1) _ fun p H3 hp e2 h2 => by
    have ne : p ≠ l := fun z => by
      rw [z, e1 l _ hl] at hp
      cases hp
    refine ⟨l, xs, .ref p, rfl, rfl, e2 l _ (e1 l _ hl), sz_lt hz, k p _ (fresh_back e1 hp) ne (Ex.mut ((e.trans e1).trans e2) hn) upd_same (by rw [upd_ne ne]; exact h2) fun a o ne ho => ?_⟩
    rw [upd_ne ne]
    exact e2 a o (e1 a o ho)⟩
/-- for over range(n), by a word of the slots; the heap only grows -/
theorem r_forR {ta : TA} {j : Nat} {n : Int} (e : Ex H0 H1) (h : EvA ta σ H0 [.int n]) (hn : -100000 ≤ n ∧ n ≤ 100000) (I : Nat → L2.St → Prop) (h0 : I 0 σ)
    (hs : ∀ (i : Nat) σ' H', (i : Int) < n → I i σ' → Ex H0 H' → tu { D with nx := fun σ2 H2 => I (i + 1) σ2 ∧ Ex H0 H2, ct := fun σ2 H2 => I (i + 1) σ2 ∧ Ex H0 H2, bk := tz D } (σ'.set j (some (.int (i : Int)))) H')
    (hd : ∀ σ' H', I n.toNat σ' → Ex H0 H' → tz D σ' H') : tSeq (tFor (iRng1 ta) (gName j) tu) tz D σ H1 :=
  h H1 e _ fun H2 e2 => ⟨n, rfl, by omega, by omega, for_range (lo := 0) (n := n.toNat) (D := { D with nx := tz D }) (fun i σ' H' => I i σ' ∧ Ex H0 H') ⟨h0, e.trans e2⟩ (fun i σ' H' hi p => by
    have e0 : (0 : Int) + (i : Int) = (i : Int) := Int.zero_add _
    show tu { D with nx := fun σ2 H2 => I (i + 1) σ2 ∧ Ex H0 H2, ct := fun σ2 H2 => I (i + 1) σ2 ∧ Ex H0 H2, bk := tz D } (σ'.set j (some (.int ((0 : Int) + (i : Int))))) H'
    rw [e0]
    exact hs i σ' H' (by omega) p.1 p.2) fun σ' H' p => hd σ' H' p.1 p.2⟩
/-- .. by a word of the slots and the heap -/
theorem r_forRH {ta : TA} {j : Nat} {n : Int} (e : Ex H0 H1) (h : EvA ta σ H0 [.int n]) (hn : -100000 ≤ n ∧ n ≤ 100000) (I : Nat → L2.St → Hp → Prop) (h0 : ∀ H2, Ex H1 H2 → I 0 σ H2)
    (hs : ∀ (i : Nat) σ' H', (i : Int) < n → I i σ' H' → tu { D with nx := I (i + 1), ct := I (i + 1), bk := tz D } (σ'.set j (some (.int (i : Int)))) H')
    (hd : ∀ σ' H', I n.toNat σ' H' → tz D σ' H') : tSeq (tFor (iRng1 ta) (gName j) tu) tz D σ H1 :=
  h H1 e _ fun H2 e2 => ⟨n, rfl, by omega, by omega, for_range (lo := 0) (n := n.toNat) (D := { D with nx := tz D }) I (h0 H2 e2) (fun i σ' H' hi p => by
    have e0 : (0 : Int) + (i : Int) = (i : Int) := Int.zero_add _
    show tu { D with nx := I (i + 1), ct := I (i + 1), bk := tz D } (σ'.set j (some (.int ((0 : Int) + (i : Int))))) H'
    rw [e0]
    exact hs i σ' H' (by omega) p) hd⟩
/-- for over a list of ints that stands -/
theorem r_forLI {a : Addr} {ns : List Int} {tl : TE} {j : Nat} (e : Ex H0 H1) (h : Ev tl σ H0 (.ref a)) (hx : SqL K H0 a (ns.map V.int)) (I : Nat → L2.St → Hp → Prop) (hw : ∀ i σ' H', I i σ' H' → Ex H0 H') (h0 : ∀ H2, Ex H1 H2 → I 0 σ H2)
    (hs : ∀ (i : Nat) (n : Int) σ' H', ns[i]? = some n → I i σ' H' → tu { D with nx := I (i + 1), ct := I (i + 1), bk := tz D } (σ'.set j (some (.int n))) H')
    (hd : ∀ σ' H', I ns.length σ' H' → tz D σ' H') : tSeq (tFor (iList K tl) (gName j) tu) tz D σ H1 :=
  h H1 e _ fun H2 e2 => ⟨a, rfl, ⟨_, ex_l (e.trans e2) hx⟩, for_list (D := { D with nx := tz D }) I (h0 H2 e2) (fun i σ' H' _ p => ex_l (hw i σ' H' p) hx) (fun i x σ' H' hi p => by
    rw [List.getElem?_map] at hi
    cases g : ns[i]? with
    | none => rw [g] at hi; cases hi
    | some n =>
      rw [g] at hi
      obtain rfl : V.int n = x := Option.some.inj hi
      exact hs i n σ' H' g p) fun σ' H' p => hd σ' H' (by rw [List.length_map] at p; exact p)⟩
/-- for over a list that stands -/
theorem r_forL {a : Addr} {xs : List V} {tl : TE} {j : Nat} (e : Ex H0 H1) (h : Ev tl σ H0 (.ref a)) (hx : SqL K H0 a xs) (I : Nat → L2.St → Prop) (h0 : I 0 σ)
    (hs : ∀ (i : Nat) x σ' H', xs[i]? = some x → I i σ' → Ex H0 H' → tu { D with nx := fun σ2 H2 => I (i + 1) σ2 ∧ Ex H0 H2, ct := fun σ2 H2 => I (i + 1) σ2 ∧ Ex H0 H2, bk := tz D } (σ'.set j (some x)) H')
    (hd : ∀ σ' H', I xs.length σ' → Ex H0 H' → tz D σ' H') : tSeq (tFor (iList K tl) (gName j) tu) tz D σ H1 :=
  h H1 e _ fun H2 e2 => ⟨a, rfl, ⟨xs, ex_l (e.trans e2) hx⟩, for_list (D := { D with nx := tz D }) (fun i σ' H' => I i σ' ∧ Ex H0 H') ⟨h0, e.trans e2⟩ (fun i σ' H' _ p => ex_l p.2 hx) (fun i x σ' H' hi p => hs i x σ' H' hi p.1 p.2) fun σ' H' p => hd σ' H' p.1 p.2⟩
/-- .. over a new list -/
theorem r_forNL {xs : List V} {tl : TE} {j : Nat} (e : Ex H0 H1) (h : EvL tl σ H0 xs) (I : Nat → L2.St → Prop) (h0 : I 0 σ)
    (hs : ∀ G, Ex H0 G → ∀ (i : Nat) x σ' H', xs[i]? = some x → I i σ' → Ex G H' → tu { D with nx := fun σ2 H2 => I (i + 1) σ2 ∧ Ex G H2, ct := fun σ2 H2 => I (i + 1) σ2 ∧ Ex G H2, bk := tz D } (σ'.set j (some x)) H')
    (hd : ∀ G, Ex H0 G → ∀ σ' H', I xs.length σ' → Ex G H' → tz D σ' H') : tSeq (tFor (iList K tl) (gName j) tu) tz D σ H1 :=
  h H1 e _ fun a H2 ha e2 h2 => ⟨a, rfl, ⟨xs, sq_of h2⟩, for_list (D := { D with nx := tz D }) (fun i σ' H' => I i σ' ∧ Ex H2 H') ⟨h0, Ex.refl _⟩ (fun i σ' H' _ p => ex_l p.2 (sq_of h2)) (fun i x σ' H' hi p => hs H2 (e.trans e2) i x σ' H' hi p.1 p.2) fun σ' H' p => hd H2 (e.trans e2) σ' H' p.1 p.2⟩
/-- an int of a list of ints -/
theorem rv_ixI {p : Addr} {ns : List Int} {i : Int} (h : SqL K H p (ns.map V.int)) (h0 : 0 ≤ i) (h1 : i < (ns.length : Int)) : RV (rIxL K) (.ref p) (.int i) H (.int (ns.getD i.toNat 0)) := by
  refine rv_ixL h ?_
  obtain ⟨j, rfl⟩ : ∃ j : Nat, i = (j : Int) := ⟨i.toNat, by omega⟩
  have hj : j < ns.length := by omega
  refine atI_nat ?_
  rw [List.getElem?_map, List.getElem?_eq_getElem hj]
  show some (V.int ns[j]) = some (V.int (ns.getD ((j : Int).toNat) 0))
  rw [Int.toNat_natCast, List.getD_eq_getElem?_getD, List.getElem?_eq_getElem hj]
  rfl
theorem cutV_to (xs : List V) (k : Nat) : cutV xs none (some (k : Int)) = xs.take k := by
  unfold cutV
  rw [HT.sIx_none, HT.sIx_nat, List.drop_zero, Nat.sub_zero]
  by_cases h : k ≤ xs.length
  · rw [Nat.min_eq_left h]
  · rw [Nat.min_eq_right (by omega), List.take_of_length_le (Nat.le_refl _), List.take_of_length_le (by omega)]
theorem cutV_all {xs : List V} (k : Nat) (h : xs.length ≤ k) : cutV xs none (some (k : Int)) = xs := by
  rw [cutV_to, List.take_of_length_le h]
theorem cutV_from (xs : List V) (k : Nat) : cutV xs (some (k : Int)) none = xs.drop k := by
  unfold cutV
  rw [HT.sIx_none, HT.sIx_nat]
  by_cases h : k ≤ xs.length
  · rw [Nat.min_eq_left h, List.take_of_length_le (by rw [List.length_drop]; omega)]
  · rw [Nat.min_eq_right (by omega), List.take_of_length_le (by rw [List.length_drop]; omega), List.drop_of_length_le (Nat.le_refl _), List.drop_of_length_le (by omega)]
theorem rv_kd {w : World} {p : Addr} {z : Str} {v : V} (h : KDct K w p z v) : RV (rIxD K w) (.ref p) (.str z) H v := fun H1 _ Q q => ⟨p, z, v, rfl, rfl, h, q H1 (Ex.refl H1)⟩
theorem rv_isN {x : V} : RV (fun x y H Q => y = .non ∧ Q (.bl (decide (x = .non))) H) x .non H (.bl (decide (x = .non))) := fun H1 _ Q q => ⟨rfl, q H1 (Ex.refl H1)⟩
theorem rv_notN {x : V} : RV (fun x y H Q => y = .non ∧ Q (.bl (!decide (x = .non))) H) x .non H (.bl (!decide (x = .non))) := fun H1 _ Q q => ⟨rfl, q H1 (Ex.refl H1)⟩
theorem ev_slS {tl th : TO} {zs : Str} {lo hi : Option Int} (h : Ev te σ H (.str zs)) (h1 : EvO tl σ H lo) (h2 : EvO th σ H hi) (hz : zs.length ≤ 100000) : Ev (tSl rSlS te tl th) σ H (.str (cutS zs lo hi)) := fun H1 e _ q =>
  h H1 e _ fun H2 e2 => h1 H2 (e.trans e2) _ fun H3 e3 => h2 H3 ((e.trans e2).trans e3) _ fun H4 e4 => ⟨zs, rfl, sz_of hz, q H4 ((e2.trans e3).trans e4)⟩
/-- [f(x) for x in xs] over a list of ints, each an int -/
theorem given_all {n : Nat} {v : Nat → V} : given n (fun _ => true) v = (List.range n).map v := by
  unfold given
  rw [List.filter_eq_self.mpr (fun _ _ => rfl)]
theorem et_yes {σ : L2.St} {H : Hp} : EvT tYes σ H true := fun H1 _ _ q => q H1 (Ex.refl H1)
theorem map_range {α : Type} {ns : List α} {d : α} {f : α → V} : (List.range ns.length).map (fun i => f (ns.getD i d)) = ns.map f := by
  apply List.ext_getElem?
  intro i
  rw [List.getElem?_map, List.getElem?_map]
  by_cases h : i < ns.length
  · rw [List.getElem?_range h, List.getElem?_eq_getElem h]
    show some (f (ns.getD i d)) = some (f ns[i])
    rw [List.getD_eq_getElem?_getD, List.getElem?_eq_getElem h]
    rfl
  · rw [List.getElem?_eq_none (by rw [List.length_range]; omega), List.getElem?_eq_none (by omega)]
    rfl
theorem el_lcI {a : Addr} {ns : List Int} {tl : TE} {j : Nat} {vs : List Nat} (f : Int → V) (h : Ev tl σ H (.ref a)) (hx : SqL K H a (ns.map V.int)) (hz : ns.length ≤ 40000) (hw : ∀ x, wipe ((wipe σ vs).set j (some x)) vs = wipe σ vs)
    (he : ∀ (n : Int) H1, Ex H H1 → n ∈ ns → Ev te ((wipe σ vs).set j (some (.int n))) H1 (f n)) : EvL (tLc (iList K tl) (gName j) tYes te vs) σ H (ns.map f) := by
  have q := el_lcL (K := K) (t := tYes) (te := te) (j := j) (vs := vs) (fun _ => true) (fun i => f (ns.getD i 0)) h hx (by rw [List.length_map]; exact hz) hw (fun _ _ _ _ _ => et_yes) (fun i x H1 e hi _ => by
    rw [List.getElem?_map] at hi
    cases g : ns[i]? with
    | none => rw [g] at hi; cases hi
    | some n =>
      rw [g] at hi
      obtain rfl : V.int n = x := Option.some.inj hi
      have d : ns.getD i 0 = n := by rw [List.getD_eq_getElem?_getD, g]; rfl
      rw [d]
      exact he n H1 e (List.mem_of_getElem? g))
  rw [given_all, List.length_map, map_range] at q
  exact q
/-- .. over a new list -/
theorem el_lcNI {ns : List Int} {tl : TE} {j : Nat} {vs : List Nat} (f : Int → V) (h : EvL tl σ H (ns.map V.int)) (hz : ns.length ≤ 40000) (hw : ∀ x, wipe ((wipe σ vs).set j (some x)) vs = wipe σ vs)
    (he : ∀ (n : Int) H1, Ex H H1 → n ∈ ns → Ev te ((wipe σ vs).set j (some (.int n))) H1 (f n)) : EvL (tLc (iList K tl) (gName j) tYes te vs) σ H (ns.map f) := by
  have q := el_lcNL (K := K) (t := tYes) (te := te) (j := j) (vs := vs) (fun _ => true) (fun i => f (ns.getD i 0)) h (by rw [List.length_map]; exact hz) hw (fun _ _ _ _ _ => et_yes) (fun i x H1 e hi _ => by
    rw [List.getElem?_map] at hi
    cases g : ns[i]? with
    | none => rw [g] at hi; cases hi
    | some n =>
      rw [g] at hi
      obtain rfl : V.int n = x := Option.some.inj hi
      have d : ns.getD i 0 = n := by rw [List.getD_eq_getElem?_getD, g]; rfl
      rw [d]
      exact he n H1 e (List.mem_of_getElem? g))
  rw [given_all, List.length_map, map_range] at q
  exact q
theorem el_to {xs ys : List V} (h : EvL te σ H xs) (e : xs = ys) : EvL te σ H ys := by rw [← e]; exact h
theorem r_retI {i j : Int} (e : Ex H0 H1) (h : Ev te σ H0 (.int i)) (hi : i = j) (k : ∀ H2, Ex H0 H2 → D.rt (.int j) H2) : tSeq (tRet te) tz D σ H1 := by
  subst hi
  exact h H1 e _ fun H2 e2 => k H2 (e.trans e2)
theorem r_retB {i j : Bool} (e : Ex H0 H1) (h : Ev te σ H0 (.bl i)) (hi : i = j) (k : ∀ H2, Ex H0 H2 → D.rt (.bl j) H2) : tSeq (tRet te) tz D σ H1 := by
  subst hi
  exact h H1 e _ fun H2 e2 => k H2 (e.trans e2)
theorem r_retS {i j : Str} (e : Ex H0 H1) (h : Ev te σ H0 (.str i)) (hi : i = j) (k : ∀ H2, Ex H0 H2 → D.rt (.str j) H2) : tSeq (tRet te) tz D σ H1 := by
  subst hi
  exact h H1 e _ fun H2 e2 => k H2 (e.trans e2)
/-- while; the heap only grows; W: by a measure and the slots -/
theorem r_while (e : Ex H0 H1) (W : Nat → L2.St → Prop) (m0 : Nat) (h0 : W m0 σ)
    (hs : ∀ m σ' H', W m σ' → Ex H0 H' → ∃ p, EtP t σ' H0 p ∧ (p → ∀ H2, Ex H0 H2 → tu { D with nx := fun σ2 H3 => (∃ m', m' < m ∧ W m' σ2) ∧ Ex H0 H3, ct := fun σ2 H3 => (∃ m', m' < m ∧ W m' σ2) ∧ Ex H0 H3, bk := tz D } σ' H2) ∧ (¬ p → ∀ H2, Ex H0 H2 → tz D σ' H2)) :
    tSeq (tWhile t tu) tz D σ H1 := by
  refine q_while (fun m σ' H' => W m σ' ∧ Ex H0 H') m0 ⟨h0, e⟩ ?_
  rintro m σ' H' ⟨hw, e'⟩
  obtain ⟨p, ⟨b, hb, ht⟩, h1, h2⟩ := hs m σ' H' hw e'
  refine ⟨b, ht.mono e', fun eb H2 e2 => ?_, fun eb H2 e2 => ?_⟩
  · exact ⟨_, fun σ2 H3 ⟨⟨m', l, w⟩, e3⟩ => ⟨m', l, w, e3⟩, h1 (hb.mp eb) H2 (e'.trans e2)⟩
  · refine h2 (fun z => ?_) H2 (e'.trans e2)
    have := hb.mpr z
    rw [eb] at this
    cases this
end

/-! ### a def that stands, and its calls -/
structure Df (P : Program) (w : World) (K : PySem.W.Frag) (mg : Str → Option Value) (base : Heap) (k : Nat) (x : Str) (a : Addr) (fd : FuncData) (ps : List Str) (sp : Sp) : Prop where
  ok : FnOk P w K mg base CX0 k a fd ps sp
  g : mg x = some (.ref a)
  kp : PySem.W.keepIn K (.ref a) = true
  b : Binds K fd ps []
section
variable {X : Cx} {k : Nat} {x : Str} {a : Addr} {fd : FuncData} {ps : List Str} {sp : Sp} {e : Expr} {es : List Expr} {t : TA} {p pos : Pos}
theorem cl (O : Df X.prog X.w X.K X.mg X.base k x a fd ps sp) (hr : Room k X.A) (hg : Gl X x) (ha : PA X (e :: es) t) (hdb : (x == ("__debug__" : Str)) = false := by decide)
    (he : starEach (e :: es) X.env = (false, eval e X.env) :: starEach es X.env := by rfl) (hpl : (backTo pos (starEach es X.env)).any (·.1) = false := by rfl) : PE X (.Call (.Name x p) (e :: es) [] pos) (tCall sp [] E0 t) :=
  pe_call O.ok hr hg O.g O.kp O.b .nil pass0 ha hdb he hpl
theorem cl0 (O : Df X.prog X.w X.K X.mg X.base k x a fd ps sp) (hr : Room k X.A) (hg : Gl X x) (hdb : (x == ("__debug__" : Str)) = false := by decide) : PE X (.Call (.Name x p) [] [] pos) (tCall sp [] E0 tNil) :=
  pe_call0 O.ok hr hg O.g O.kp O.b .nil pass0 hdb
end
end Wm
set_option Elab.async false
set_option linter.all false
set_option maxRecDepth 100000
set_option maxHeartbeats 4000000

open PySem
local macro_rules | `(tactic| walk_at "sd") => `(tactic| first | exact True.intro | assumption | omega | decide | (dsimp only; omega) | (refine Or.inl ⟨?_, ?_⟩ <;> (first | omega | decide)) | (refine Or.inr ⟨?_, ?_⟩ <;> (first | omega | decide)) | (refine ⟨?_, ?_⟩ <;> walk_at "sd"))
local macro_rules | `(tactic| walk_at "sq") => `(tactic| first | assumption | exact Or.inl (by assumption) | exact Or.inr (by assumption))
local macro_rules | `(tactic| walk_at "keysLit") => `(tactic| (refine ⟨⟨_, _, rfl, rfl⟩, ?_⟩; walk_at "keysLit"))
local macro_rules | `(tactic| walk_at "keysLit") => `(tactic| exact True.intro)
namespace Lk02
open PySem L2 Evl Wm
def topS (i : Nat) : Stmt := PySem.Challenge.pw_wasmhost_k02_bytes_of_words.main.body.getD i (.Pass ⟨0, 0, 0, 0⟩)
abbrev s_word_bytes : Stmt := topS 1
abbrev s_bytes_word : Stmt := topS 2
abbrev s_l_is_integer : Stmt := topS 4
abbrev s_l_cell : Stmt := topS 5
abbrev s_l_number : Stmt := topS 6
abbrev s_l_bytes : Stmt := topS 7
abbrev s_l_written : Stmt := topS 8
abbrev s_law : Stmt := topS 9
structure Tx (w : World) (K : PySem.W.Frag) (mg : Str → Option Value) : Prop where
  b_bool : mg "bool" = none
  b_int : mg "int" = none
  b_isinstance : mg "isinstance" = none
  b_len : mg "len" = none
  b_list : mg "list" = none
  b_range : mg "range" = none
  b_tuple : mg "tuple" = none

/-- the number that bytes write, lowest first -/
def val : List Int → Int
  | [] => 0
  | b :: r => b + 256 * val r
theorem val_take : ∀ (ns : List Int) (i : Nat), i < ns.length → val (ns.take (i + 1)) = val (ns.take i) + ns.getD i 0 * 256 ^ i
  | [], i, h => absurd h (Nat.not_lt_zero _)
  | b :: r, 0, _ => by
    show b + 256 * 0 = 0 + b * 256 ^ 0
    rw [Int.pow_zero]
    omega
  | b :: r, i + 1, h => by
    have ih := val_take r i (Nat.lt_of_succ_lt_succ h)
    show b + 256 * val (r.take (i + 1)) = (b + 256 * val (r.take i)) + r.getD i 0 * 256 ^ (i + 1)
    rw [ih, Int.pow_succ, Int.mul_add, ← Int.mul_assoc (r.getD i 0), Int.mul_comm _ 256]
    omega
theorem val_drop (ns : List Int) (i : Nat) (h : i < ns.length) : val (ns.drop i) = val (ns.drop (i + 1)) * 256 + ns.getD i 0 := by
  rw [List.drop_eq_getElem_cons h]
  show ns[i] + 256 * _ = _
  rw [List.getD_eq_getElem?_getD, List.getElem?_eq_getElem h]
  show ns[i] + 256 * _ = _ + ns[i]
  omega
def wb (n : Int) (c : Nat) : List Int := (List.range c).map fun (i : Nat) => n / 256 ^ i % 256
theorem div_pow (n : Int) (i : Nat) : n / 256 ^ i / 256 = n / 256 ^ (i + 1) := by
  rw [Int.ediv_ediv, if_neg (fun z => by have := Int.pow_pos (n := 256) (m := i) (by decide); omega), Int.pow_succ, Int.sub_zero]
theorem div_pow' (n : Int) (i : Nat) : n / 256 / 256 ^ i = n / 256 ^ (i + 1) := by
  rw [Int.ediv_ediv, if_neg (fun z => by omega), Int.pow_succ, Int.mul_comm, Int.sub_zero]
theorem wb_succ (n : Int) (c : Nat) : wb n (c + 1) = (n % 256) :: wb (n / 256) c := by
  unfold wb
  rw [List.range_succ_eq_map, List.map_cons, List.map_map]
  refine congr (congrArg List.cons ?_) (List.map_congr_left fun i _ => ?_)
  · rw [Int.pow_zero, Int.ediv_one]
  · show n / 256 ^ (i + 1) % 256 = n / 256 / 256 ^ i % 256
    rw [div_pow']
theorem wb_val : ∀ (c : Nat) (n : Int), ∃ q, val (wb n c) - n = 256 ^ c * q
  | 0, n => ⟨-n, by rw [Int.pow_zero]; show 0 - n = _; omega⟩
  | c + 1, n => by
    obtain ⟨q, hq⟩ := wb_val c (n / 256)
    refine ⟨q, ?_⟩
    rw [wb_succ]
    show n % 256 + 256 * val (wb (n / 256) c) - n = _
    rw [Int.pow_succ, Int.mul_assoc, Int.mul_comm 256 q, ← Int.mul_assoc, ← hq]
    omega
theorem wb_len (n : Int) (c : Nat) : (wb n c).length = c := by
  unfold wb
  rw [List.length_map, List.length_range]
theorem wb_byte {n : Int} {c : Nat} : ∀ x ∈ wb n c, 0 ≤ x ∧ x < 256 := by
  intro x hx
  unfold wb at hx
  obtain ⟨i, _, rfl⟩ := List.mem_map.mp hx
  omega
theorem pow8 (i : Nat) : (2 : Int) ^ (8 * (i : Int)).toNat = 256 ^ i := by
  have e : (8 * (i : Int)).toNat = 8 * i := by omega
  rw [e, Int.pow_mul]
  rfl
theorem and255 (x : Int) : Builtin.bitAnd x 255 = x % 256 := PySem.W.kbt_mask x 8
def digits : Nat → Int → List Int
  | 0, _ => []
  | k + 1, r => if 0 < r then (r % 256) :: digits k (r / 256) else []
theorem digits_neg {k : Nat} {r : Int} (h : ¬ 0 < r) : digits k r = [] := by
  cases k with
  | zero => rfl
  | succ k => exact if_neg h
theorem digits_byte : ∀ (k : Nat) (r : Int), (digits k r).length ≤ k ∧ ∀ x ∈ digits k r, 0 ≤ x ∧ x < 256
  | 0, _ => ⟨Nat.le_refl _, fun x h => nomatch h⟩
  | k + 1, r => by
    unfold digits
    split
    · obtain ⟨h1, h2⟩ := digits_byte k (r / 256)
      refine ⟨Nat.succ_le_succ h1, fun x h => ?_⟩
      rcases List.mem_cons.mp h with rfl | h
      · omega
      · exact h2 x h
    · exact ⟨Nat.zero_le _, fun x h => nomatch h⟩
theorem getD_mem {ns : List Int} {i : Nat} (h : i < ns.length) : ns.getD i 0 ∈ ns := by
  rw [List.getD_eq_getElem?_getD, List.getElem?_eq_getElem h]
  exact List.getElem_mem h

section
variable {P : Program} {w : World} {K : PySem.W.Frag} {mg : Str → Option Value} {base : Heap}
/-! word_bytes -/
def m_word_bytes (number count : Int) : List Int := wb number count.toNat
theorem sc_word_bytes : FnScope ["number", "count", "data", "_"] ["number", "count"] (defScope s_word_bytes) := ⟨rfl, rfl, rfl, by decide +kernel, rfl, by decide +kernel, by decide +kernel⟩
def sp_word_bytes (K : PySem.W.Frag) : Sp := fun vs H Q _ => ∃ (number : Int) (count : Int), vs = [.int number, .int count] ∧ (0 ≤ count ∧ count ≤ 8) ∧ ∀ p H1, H p = none → Ex H H1 → H1 p = some (.lst ((m_word_bytes number count).map V.int)) → Q (.ref p) H1
theorem sv_word_bytes {K : PySem.W.Frag} {H : Hp} {number : Int} {count : Int} (h : (0 ≤ count ∧ count ≤ 8)) : SpL (sp_word_bytes K) [.int number, .int count] H ((m_word_bytes number count).map V.int) := fun H1 e Q q _ => ⟨number, count, rfl, h, q⟩
theorem ok_word_bytes {f : Addr} {fd : FuncData} (F : Fun K "word_bytes" "word_bytes" s_word_bytes f fd) (T : Tx w K mg)  : FnOk P w K mg base CX0 1 f fd ["number", "count"] (sp_word_bytes K) := by
  refine F.ok sc_word_bytes (fun vs H Q E h => ?_) (fun cdv A outer s G vs Q E hr h => ?_)
  · obtain ⟨number, count, rfl, _⟩ := h
    rfl
  · obtain ⟨number, count, rfl, h, q⟩ := h
    refine ⟨_, (pss_cons (ps_set (i := 2) sc_word_bytes.nd rfl (Or.inl rfl) (pe_lst pa_nil)) (pss_cons (ps_for PassesOwn.never rfl (pi_range1 (by rfl) T.b_range (pa_cons (pv 1) pa_nil)) (pg_name (i := 3) sc_word_bytes.nd rfl (Or.inl rfl)) (pss_cons (ps_expr (pe_bm PySem.F.plainAttrs_list PySem.F.slot_list_append PySem.F.type_list_append mt_append (pv 2) (pa_cons (pe_op op_and (pv 0) pe_int) pa_nil))) (pss_cons (ps_set (i := 0) sc_word_bytes.nd rfl (Or.inl rfl) (pe_op op_shr (pv 0) pe_int)) pss_nil))) (pss_cons (ps_ret (pv 2)) pss_nil))), ?_⟩
    have e := Ex.refl G
    -- data = []
    refine r_asgL e (el_lst ea_nil (by walk_at "sd")) fun p_data H hp_data e e1 hl_data => ?_
    -- for _ in range(count)
    refine r_forRH e (ea_cons (ev_var rfl) ea_nil) (by omega) (fun i σ H => (∃ o__ : Option V, σ = [some (.int (number / 256 ^ i)), some (.int count), some (.ref p_data), o__]) ∧ Ex G H ∧ H p_data = some (.lst ((wb number i).map V.int))) (fun H2 e2 => ⟨⟨_, by rw [Int.pow_zero, Int.ediv_one]; rfl⟩, e.trans e2, e2 _ _ hl_data⟩) (fun i σ H hi hI => ?_) (fun σ H hI => ?_)
    · obtain ⟨⟨o__, rfl⟩, e, hl_data⟩ := hI
      have e8 : (2 : Int) ^ (8 : Int).toNat = 256 := by decide
      -- data.append(number & 255)
      refine r_app e hp_data hl_data (ev_var rfl) (ev_op (ev_var rfl) ev_c rv_I0) (by rw [List.length_map, wb_len]; omega) fun H e hl_data hk => ?_
      -- number = number >> 8
      refine r_asg e (ev_op (ev_var rfl) ev_c (rv_I (by walk_at "sd"))) fun H e e1 => ?_
      have hl_data := e1 _ _ hl_data
      refine ⟨⟨some (.int i), ?_⟩, e, ?_⟩
      · show [some (V.int (number / 256 ^ i / 2 ^ (8 : Int).toNat)), _, _, _] = _
        rw [e8, div_pow] <;> rfl
      · rw [hl_data]
        unfold wb
        rw [List.range_succ, List.map_append, List.map_append, and255]
        rfl
    obtain ⟨⟨o__, rfl⟩, e, hl_data⟩ := hI
    -- return data
    exact r_ret (Ex.refl H) (ev_var rfl) fun H2 e2 => q _ _ hp_data (e.trans e2) (e2 _ _ hl_data)

/-! bytes_word -/
def m_bytes_word (ns : List Int) : Int := val ns
theorem sc_bytes_word : FnScope ["data", "number", "k"] ["data"] (defScope s_bytes_word) := ⟨rfl, rfl, rfl, by decide +kernel, rfl, by decide +kernel, by decide +kernel⟩
def sp_bytes_word (K : PySem.W.Frag) : Sp := fun vs H Q _ => ∃ (data : Addr) (ns_data : List Int), vs = [.ref data] ∧ (SqQ K H data (ns_data.map V.int) ∧ ns_data.length ≤ 64 ∧ ∀ x ∈ ns_data, 0 ≤ x ∧ x < 256) ∧ ∀ H1, Ex H H1 → Q (.int (m_bytes_word ns_data)) H1
theorem sv_bytes_word {K : PySem.W.Frag} {H : Hp} {data : Addr} {ns_data : List Int} (h : (SqQ K H data (ns_data.map V.int) ∧ ns_data.length ≤ 64 ∧ ∀ x ∈ ns_data, 0 ≤ x ∧ x < 256)) : SpV (sp_bytes_word K) [.ref data] H (.int (m_bytes_word ns_data)) := fun H1 e Q q _ => ⟨data, ns_data, rfl, ⟨ex_q e h.1, h.2⟩, q⟩
theorem ok_bytes_word {f : Addr} {fd : FuncData} (F : Fun K "bytes_word" "bytes_word" s_bytes_word f fd) (T : Tx w K mg)  : FnOk P w K mg base CX0 1 f fd ["data"] (sp_bytes_word K) := by
  refine F.ok sc_bytes_word (fun vs H Q E h => ?_) (fun cdv A outer s G vs Q E hr h => ?_)
  · obtain ⟨data, ns_data, rfl, _⟩ := h
    rfl
  · obtain ⟨data, ns_data, rfl, ⟨hs_data, h⟩, q⟩ := h
    refine ⟨_, (pss_cons (ps_set (i := 1) sc_bytes_word.nd rfl (Or.inl rfl) pe_int) (pss_cons (ps_for PassesOwn.never rfl (pi_range1 (by rfl) T.b_range (pa_cons (pe_callB call_len_seq (by rfl) T.b_len (by decide +kernel) (pa_cons (pv 0) pa_nil)) pa_nil)) (pg_name (i := 2) sc_bytes_word.nd rfl (Or.inl rfl)) (pss_cons (ps_set (i := 1) sc_bytes_word.nd rfl (Or.inl rfl) (pe_op op_add (pv 1) (pe_op op_shl (pe_ix ix_seq (pv 0) (pv 2) (fun _ _ => rfl)) (pe_op op_mul pe_int (pv 2))))) pss_nil)) (pss_cons (ps_ret (pv 1)) pss_nil))), ?_⟩
    have e := Ex.refl G
    -- number = 0
    refine r_asg e ev_c fun H e e1 => ?_
    -- for k in range(len(data))
    refine r_forR e (ea_cons (ev_lenQI (ev_var rfl) (by assumption)) ea_nil) (by omega) (fun i σ => ∃ o_k : Option V, σ = [some (.ref data), some (.int (val (ns_data.take i))), o_k]) ⟨_, rfl⟩ (fun i σ H hi hI e => ?_) (fun σ H hI e => ?_)
    · obtain ⟨o_k, rfl⟩ := hI
      have hb := h.2 _ (getD_mem (show ((i : Int)).toNat < ns_data.length by omega))
      -- number = number + (data[k] << 8 * k)
      refine r_asg e (ev_op (ev_var rfl) (ev_op (ev_op (ev_var rfl) (ev_var rfl) (rv_ixQI (by assumption) (by walk_at "sd") (by walk_at "sd"))) (ev_op ev_c (ev_var rfl) (rv_I (by walk_at "sd"))) (rv_I (by walk_at "sd"))) rv_I0) fun H e e1 => ?_
      refine ⟨⟨some (.int i), ?_⟩, e⟩
      rw [val_take _ _ (by omega)]
      show [_, some (V.int (_ + _ * 2 ^ (8 * (i : Int)).toNat)), _] = _
      rw [pow8]
      rfl
    obtain ⟨o_k, rfl⟩ := hI
    -- return number
    rw [Int.toNat_natCast, List.take_length]
    exact r_ret e (ev_var rfl) q

/-! _law_is_integer -/
def m_l_is_integer (l_actual : Int) : Bool :=
  (true && (!false))
theorem sc_l_is_integer : FnScope ["_law_actual"] ["_law_actual"] (defScope s_l_is_integer) := ⟨rfl, rfl, rfl, by decide +kernel, rfl, by decide +kernel, by decide +kernel⟩
def sp_l_is_integer (K : PySem.W.Frag) : Sp := fun vs H Q _ => ∃ (l_actual : Int), vs = [.int l_actual] ∧ (True) ∧ ∀ H1, Ex H H1 → Q (.bl (m_l_is_integer l_actual)) H1
theorem sv_l_is_integer {K : PySem.W.Frag} {H : Hp} {l_actual : Int} (h : (True)) : SpV (sp_l_is_integer K) [.int l_actual] H (.bl (m_l_is_integer l_actual)) := fun H1 e Q q _ => ⟨l_actual, rfl, h, q⟩
theorem ok_l_is_integer {f : Addr} {fd : FuncData} (F : Fun K "_law_is_integer" "_law_is_integer" s_l_is_integer f fd) (T : Tx w K mg)  : FnOk P w K mg base CX0 1 f fd ["_law_actual"] (sp_l_is_integer K) := by
  refine F.ok sc_l_is_integer (fun vs H Q E h => ?_) (fun cdv A outer s G vs Q E hr h => ?_)
  · obtain ⟨l_actual, rfl, _⟩ := h
    rfl
  · obtain ⟨l_actual, rfl, h, q⟩ := h
    refine ⟨_, (pss_cons (ps_ret (pe_and (pe_callB call_isi (by rfl) T.b_isinstance (by decide +kernel) (pa_cons (pv 0) (pa_cons (pe_bltn (v := .ty "int") (by rfl) T.b_int (by decide +kernel) rfl) pa_nil))) (pe_one (pe_not (pe_callB call_isi (by rfl) T.b_isinstance (by decide +kernel) (pa_cons (pv 0) (pa_cons (pe_bltn (v := .ty "bool") (by rfl) T.b_bool (by decide +kernel) rfl) pa_nil))))))) pss_nil), ?_⟩
    have e := Ex.refl G
    -- return isinstance(_law_actual, int) and (not isinstance(_law_actual, bool))
    refine r_retB e (ev_andV (ev_isi (b := true) (ev_var rfl) ev_c (.ty _) ty_int (kit_ty (by decide +kernel))) (fun hb => (ev_notV (ev_isi (b := false) (ev_var rfl) ev_c (.ty _) ty_int (kit_ty (by decide +kernel)))))) (by show _ = m_l_is_integer _; unfold m_l_is_integer; rfl) q

/-! _law_cell -/
def m_l_cell (ns_l_script : List Int) (l_k : Int) : Int :=
  if (l_k < (ns_l_script.length : Int)) then
    (ns_l_script.getD (l_k : Int).toNat 0)
  else
    0
theorem sc_l_cell : FnScope ["_law_script", "_law_k"] ["_law_script", "_law_k"] (defScope s_l_cell) := ⟨rfl, rfl, rfl, by decide +kernel, rfl, by decide +kernel, by decide +kernel⟩
def sp_l_cell (K : PySem.W.Frag) : Sp := fun vs H Q _ => ∃ (l_script : Addr) (l_k : Int) (ns_l_script : List Int), vs = [.ref l_script, .int l_k] ∧ (SqL K H l_script (ns_l_script.map V.int) ∧ 0 ≤ l_k) ∧ ∀ H1, Ex H H1 → Q (.int (m_l_cell ns_l_script l_k)) H1
theorem sv_l_cell {K : PySem.W.Frag} {H : Hp} {l_script : Addr} {l_k : Int} {ns_l_script : List Int} (h : (SqL K H l_script (ns_l_script.map V.int) ∧ 0 ≤ l_k)) : SpV (sp_l_cell K) [.ref l_script, .int l_k] H (.int (m_l_cell ns_l_script l_k)) := fun H1 e Q q _ => ⟨l_script, l_k, ns_l_script, rfl, ⟨ex_l e h.1, h.2⟩, q⟩
theorem ok_l_cell {f : Addr} {fd : FuncData} (F : Fun K "_law_cell" "_law_cell" s_l_cell f fd) (T : Tx w K mg)  : FnOk P w K mg base CX0 1 f fd ["_law_script", "_law_k"] (sp_l_cell K) := by
  refine F.ok sc_l_cell (fun vs H Q E h => ?_) (fun cdv A outer s G vs Q E hr h => ?_)
  · obtain ⟨l_script, l_k, ns_l_script, rfl, _⟩ := h
    rfl
  · obtain ⟨l_script, l_k, ns_l_script, rfl, ⟨hs_l_script, h⟩, q⟩ := h
    refine ⟨_, (pss_cons (ps_if (pt_cmpR op_lt (pv 1) (pe_callB call_len_seq (by rfl) T.b_len (by decide +kernel) (pa_cons (pv 0) pa_nil)) (nomark _)) (pss_cons (ps_ret (pe_callTy call_int1 (by rfl) T.b_int (by decide +kernel) (pa_cons (pe_ix ix_list (pv 0) (pv 1) (fun _ _ => rfl)) pa_nil))) pss_nil) pss_nil) (pss_cons (ps_ret pe_int) pss_nil)), ?_⟩
    have e := Ex.refl G
    -- if _law_k < len(_law_script)
    refine r_when e (ep_dec (ev_op (ev_var rfl) (ev_lenI (ev_var rfl) (by assumption)) rv_I0)) (fun hb1 H e e1 => ?_) (fun hb1 H e e1 => ?_)
    · -- return int(_law_script[_law_k])
      refine r_retI e (ev_int (ev_op (ev_var rfl) (ev_var rfl) (rv_ixI (by assumption) (by walk_at "sd") (by walk_at "sd")))) (by show _ = m_l_cell _ _; unfold m_l_cell; rw [if_pos hb1]) q
    -- return 0
    refine r_retI e ev_c (by show _ = m_l_cell _ _; unfold m_l_cell; rw [if_neg hb1]) q

/-! _law_number -/
def m_l_number (ns : List Int) : Int := val ns
theorem sc_l_number : FnScope ["_law_data", "_law_number_here", "_law_k"] ["_law_data"] (defScope s_l_number) := ⟨rfl, rfl, rfl, by decide +kernel, rfl, by decide +kernel, by decide +kernel⟩
def sp_l_number (K : PySem.W.Frag) : Sp := fun vs H Q _ => ∃ (l_data : Addr) (ns_l_data : List Int), vs = [.ref l_data] ∧ (SqL K H l_data (ns_l_data.map V.int) ∧ ns_l_data.length ≤ 64) ∧ ∀ H1, Ex H H1 → Q (.int (m_l_number ns_l_data)) H1
theorem sv_l_number {K : PySem.W.Frag} {H : Hp} {l_data : Addr} {ns_l_data : List Int} (h : (SqL K H l_data (ns_l_data.map V.int) ∧ ns_l_data.length ≤ 64)) : SpV (sp_l_number K) [.ref l_data] H (.int (m_l_number ns_l_data)) := fun H1 e Q q _ => ⟨l_data, ns_l_data, rfl, ⟨ex_l e h.1, h.2⟩, q⟩
theorem ok_l_number {f : Addr} {fd : FuncData} (F : Fun K "_law_number" "_law_number" s_l_number f fd) (T : Tx w K mg)  : FnOk P w K mg base CX0 1 f fd ["_law_data"] (sp_l_number K) := by
  refine F.ok sc_l_number (fun vs H Q E h => ?_) (fun cdv A outer s G vs Q E hr h => ?_)
  · obtain ⟨l_data, ns_l_data, rfl, _⟩ := h
    rfl
  · obtain ⟨l_data, ns_l_data, rfl, ⟨hs_l_data, h⟩, q⟩ := h
    refine ⟨_, (pss_cons (ps_set (i := 1) sc_l_number.nd rfl (Or.inl rfl) pe_int) (pss_cons (ps_for PassesOwn.never rfl (pi_range1 (by rfl) T.b_range (pa_cons (pe_callB call_len_seq (by rfl) T.b_len (by decide +kernel) (pa_cons (pv 0) pa_nil)) pa_nil)) (pg_name (i := 2) sc_l_number.nd rfl (Or.inl rfl)) (pss_cons (ps_set (i := 1) sc_l_number.nd rfl (Or.inl rfl) (pe_op op_add (pe_op op_mul (pv 1) pe_int) (pe_ix ix_list (pv 0) (pe_op op_sub (pe_op op_sub (pe_callB call_len_seq (by rfl) T.b_len (by decide +kernel) (pa_cons (pv 0) pa_nil)) pe_int) (pv 2)) (fun _ _ => rfl)))) pss_nil)) (pss_cons (ps_ret (pv 1)) pss_nil))), ?_⟩
    have e := Ex.refl G
    -- _law_number_here = 0
    refine r_asg e ev_c fun H e e1 => ?_
    -- for _law_k in range(len(_law_data))
    refine r_forR e (ea_cons (ev_lenI (ev_var rfl) (by assumption)) ea_nil) (by omega) (fun i σ => ∃ o_l_k : Option V, σ = [some (.ref l_data), some (.int (val (ns_l_data.drop (ns_l_data.length - i)))), o_l_k]) ⟨_, by rw [Nat.sub_zero, List.drop_length]; rfl⟩ (fun i σ H hi hI e => ?_) (fun σ H hI e => ?_)
    · obtain ⟨o_l_k, rfl⟩ := hI
      -- _law_number_here = _law_number_here * 256 + _law_data[len(_law_data) - 1 - _law_k]
      refine r_asg e (ev_op (ev_op (ev_var rfl) ev_c (rv_I (by walk_at "sd"))) (ev_op (ev_var rfl) (ev_op (ev_op (ev_lenI (ev_var rfl) (by assumption)) ev_c rv_I0) (ev_var rfl) rv_I0) (rv_ixI (by assumption) (by walk_at "sd") (by walk_at "sd"))) rv_I0) fun H e e1 => ?_
      refine ⟨⟨some (.int i), ?_⟩, e⟩
      have hj : ns_l_data.length - (i + 1) + 1 = ns_l_data.length - i := by omega
      rw [val_drop ns_l_data (ns_l_data.length - (i + 1)) (by omega), hj]
      have hk : ((ns_l_data.length : Int) - 1 - (i : Int)).toNat = ns_l_data.length - (i + 1) := by omega
      rw [hk]
      rfl
    obtain ⟨o_l_k, rfl⟩ := hI
    -- return _law_number_here
    rw [Int.toNat_natCast, Nat.sub_self, List.drop_zero]
    exact r_ret e (ev_var rfl) q

/-! _law_bytes -/
def m_l_bytes (ns : List Int) : List Int := if 0 ≤ m_l_cell ns 0 then (ns.drop 1).map (· % 256) else digits 62 (m_l_cell ns 1)
theorem bytes_ok {ns : List Int} (h : ns.length ≤ 63) : (m_l_bytes ns).length ≤ 64 ∧ ∀ x ∈ m_l_bytes ns, 0 ≤ x ∧ x < 256 := by
  unfold m_l_bytes
  split
  · refine ⟨by rw [List.length_map, List.length_drop]; omega, fun x hx => ?_⟩
    obtain ⟨y, _, rfl⟩ := List.mem_map.mp hx
    omega
  · have := digits_byte 62 (m_l_cell ns 1)
    exact ⟨by omega, this.2⟩
theorem sc_l_bytes : FnScope ["_law_script", "_law_cell_here", "_law_data", "_law_rest", "_law_k"] ["_law_script"] (defScope s_l_bytes) := ⟨rfl, rfl, rfl, by decide +kernel, rfl, by decide +kernel, by decide +kernel⟩
def sp_l_bytes (K : PySem.W.Frag) : Sp := fun vs H Q _ => ∃ (l_script : Addr) (ns_l_script : List Int), vs = [.ref l_script] ∧ (SqL K H l_script (ns_l_script.map V.int) ∧ ns_l_script.length ≤ 63) ∧ ∀ p H1, H p = none → Ex H H1 → H1 p = some (.lst ((m_l_bytes ns_l_script).map V.int)) → Q (.ref p) H1
theorem sv_l_bytes {K : PySem.W.Frag} {H : Hp} {l_script : Addr} {ns_l_script : List Int} (h : (SqL K H l_script (ns_l_script.map V.int) ∧ ns_l_script.length ≤ 63)) : SpL (sp_l_bytes K) [.ref l_script] H ((m_l_bytes ns_l_script).map V.int) := fun H1 e Q q _ => ⟨l_script, ns_l_script, rfl, ⟨ex_l e h.1, h.2⟩, q⟩
theorem ok_l_bytes {f : Addr} {fd : FuncData} {a_l_cell : Addr} {d_l_cell : FuncData} (F : Fun K "_law_bytes" "_law_bytes" s_l_bytes f fd) (T : Tx w K mg) (O_l_cell : Df P w K mg base 1 "_law_cell" a_l_cell d_l_cell ["_law_script", "_law_k"] (sp_l_cell K)) : FnOk P w K mg base CX0 2 f fd ["_law_script"] (sp_l_bytes K) := by
  refine F.ok sc_l_bytes (fun vs H Q E h => ?_) (fun cdv A outer s G vs Q E hr h => ?_)
  · obtain ⟨l_script, ns_l_script, rfl, _⟩ := h
    rfl
  · obtain ⟨l_script, ns_l_script, rfl, ⟨hs_l_script, h⟩, q⟩ := h
    refine ⟨_, (pss_cons (ps_if (pt_cmpR op_ge (cl O_l_cell (hr.mono (by decide)) rfl (pa_cons (pv 0) (pa_cons pe_int pa_nil))) pe_int (nomark _)) (pss_cons (ps_ret (pe_lc (own := [("_law_cell_here", 1)]) (g := gName 1) (tt := tYes) rfl sc_l_bytes.nd (pi_list (pe_slice sl_list (pv 0) (po_some pe_int) (po_some pe_int))) (blkOk_by (N := ["_law_script", "_law_cell_here", "_law_data", "_law_rest", "_law_k"]) (sc := defScope s_l_bytes) (by decide +kernel)) (fun _ _ _ _ _ => pg_name (i := 1) sc_l_bytes.nd rfl (Or.inl rfl)) (fun _ _ _ _ _ => pts_nil) (fun _ _ _ _ _ => (pe_op op_mod (pe_callTy call_int1 (by rfl) T.b_int (by decide +kernel) (pa_cons (pv 1) pa_nil)) pe_int)))) pss_nil) pss_nil) (pss_cons (ps_set (i := 2) sc_l_bytes.nd rfl (Or.inl rfl) (pe_lst pa_nil)) (pss_cons (ps_set (i := 3) sc_l_bytes.nd rfl (Or.inl rfl) (cl O_l_cell (hr.mono (by decide)) rfl (pa_cons (pv 0) (pa_cons pe_int pa_nil)))) (pss_cons (ps_for PassesOwn.never rfl (pi_range1 (by rfl) T.b_range (pa_cons pe_int pa_nil)) (pg_name (i := 4) sc_l_bytes.nd rfl (Or.inl rfl)) (pss_cut (ps_if (pt_cmpR op_gt (pv 3) pe_int (nomark _)) (pss_cons (ps_expr (pe_bm PySem.F.plainAttrs_list PySem.F.slot_list_append PySem.F.type_list_append mt_append (pv 2) (pa_cons (pe_op op_mod (pe_callTy call_int1 (by rfl) T.b_int (by decide +kernel) (pa_cons (pv 3) pa_nil)) pe_int) pa_nil))) (pss_cons (ps_set (i := 3) sc_l_bytes.nd rfl (Or.inl rfl) (pe_op op_fdiv (pv 3) pe_int)) pss_nil)) pss_nil) pss_nil)) (pss_cons (ps_ret (pv 2)) pss_nil))))), ?_⟩
    have e := Ex.refl G
    -- if _law_cell(_law_script, 0) >= 0
    refine r_when e (ep_dec (ev_op (ev_call (ea_cons (ev_var rfl) (ea_cons ev_c ea_nil)) (sv_l_cell ⟨(by walk_at "sq"), by walk_at "sd"⟩)) ev_c rv_I0)) (fun hb1 H e e1 => ?_) (fun hb1 H e e1 => ?_)
    · -- return [int(_law_cell_here) % 256 for _law_cell_here in _law_script[1:64]]
      have hc : cutV (ns_l_script.map V.int) (some ((1 : Nat) : Int)) (some ((64 : Nat) : Int)) = (ns_l_script.drop 1).map V.int := by
        rw [cutV_mid, List.map_drop, List.take_of_length_le (by rw [List.length_drop, List.length_map]; omega)]
      have hm : m_l_bytes ns_l_script = (ns_l_script.drop 1).map (· % 256) := if_pos hb1
      rw [hm, List.map_map] at q
      exact r_retL e (el_lcNI (fun n => .int (n % 256)) (el_to (el_sl (ev_var rfl) (eo_some ev_c) (eo_some ev_c) hs_l_script) hc) (by rw [List.length_drop]; omega) (fun _ => rfl) (fun n H e _ => ev_op (ev_int (ev_var rfl)) ev_c (rv_I (by decide)))) q
    -- _law_data = []
    refine r_asgL e (el_lst ea_nil (by walk_at "sd")) fun p_l_data H hp_l_data e e1 hl_l_data => ?_
    -- _law_rest = _law_cell(_law_script, 1)
    refine r_asg e (ev_call (ea_cons (ev_var rfl) (ea_cons ev_c ea_nil)) (sv_l_cell ⟨(by walk_at "sq"), by walk_at "sd"⟩)) fun H e e1 => ?_
    have hl_l_data := e1 _ _ hl_l_data
    -- for _law_k in range(62)
    have hm : m_l_bytes ns_l_script = digits 62 (m_l_cell ns_l_script 1) := if_neg hb1
    refine r_forRH e (ea_cons ev_c ea_nil) (by decide) (fun i σ H => ∃ (d : List Int) (r : Int) (o_l_k : Option V), σ = [some (.ref l_script), none, some (.ref p_l_data), some (.int r), o_l_k] ∧ d ++ digits (62 - i) r = digits 62 (m_l_cell ns_l_script 1) ∧ d.length ≤ i ∧ Ex G H ∧ H p_l_data = some (.lst (d.map V.int)))
      (fun H2 e2 => ⟨[], _, _, rfl, rfl, Nat.le_refl _, e.trans e2, e2 _ _ hl_l_data⟩) (fun i σ H hi hI => ?_) (fun σ H hI => ?_)
    · obtain ⟨d, r, o_l_k, rfl, hd, hdl, e, hl_l_data⟩ := hI
      -- if _law_rest > 0
      have hk : 62 - i = (62 - (i + 1)) + 1 := by omega
      rw [hk] at hd
      refine r_ifJ (Ex.refl H) (ep_dec (ev_op (ev_var rfl) ev_c rv_I0)) (fun σ1 H1 => ∃ (d : List Int) (r : Int) (o_l_k : Option V), σ1 = [some (.ref l_script), none, some (.ref p_l_data), some (.int r), o_l_k] ∧ d ++ digits (62 - (i + 1)) r = digits 62 (m_l_cell ns_l_script 1) ∧ d.length ≤ i + 1 ∧ Ex G H1 ∧ H1 p_l_data = some (.lst (d.map V.int))) (fun hb2 H2 e2 e1 => ?_) (fun hb2 H2 e2 e1 => ?_) ?_
      · -- _law_data.append(int(_law_rest) % 256)
        have e := e.trans e2
        have hl_l_data := e2 _ _ hl_l_data
        refine r_app e hp_l_data hl_l_data (ev_var rfl) (ev_op (ev_int (ev_var rfl)) ev_c (rv_I (by decide))) (by rw [List.length_map]; omega) fun H e hl_l_data hk => ?_
        -- _law_rest = _law_rest // 256
        refine r_asg (Ex.refl H) (ev_op (ev_var rfl) ev_c (rv_I ⟨by decide, by decide⟩)) fun H3 e3 e1 => ?_
        refine r_next ⟨d ++ [r % 256], r / 256, _, rfl, ?_, by rw [List.length_append]; show d.length + 1 ≤ _; omega, e.trans e3, by rw [List.map_append]; exact e3 _ _ hl_l_data⟩
        rw [← hd, List.append_assoc]
        refine congrArg _ ?_
        show _ = (if 0 < r then _ else _)
        rw [if_pos hb2]
        rfl
      · refine r_next ⟨d, r, _, rfl, ?_, by omega, e.trans e2, e2 _ _ hl_l_data⟩
        rw [← hd, digits_neg hb2, digits_neg hb2]
      rintro σ H h
      exact h
    obtain ⟨d, r, o_l_k, rfl, hd, hdl, e, hl_l_data⟩ := hI
    -- return _law_data
    have hz : (62 : Int).toNat = 62 := rfl
    rw [hz, Nat.sub_self] at hd
    have hz2 : digits 0 r = [] := rfl
    rw [hz2, List.append_nil] at hd
    rw [hm, ← hd] at q
    exact r_ret (Ex.refl H) (ev_var rfl) fun H2 e2 => q _ _ hp_l_data (e.trans e2) (e2 _ _ hl_l_data)

/-! _law_written -/
theorem sc_l_written : FnScope ["_law_number_here", "_law_count", "_law_data", "_law_byte", "_law_back"] ["_law_number_here", "_law_count"] (defScope s_l_written) := ⟨rfl, rfl, rfl, by decide +kernel, rfl, by decide +kernel, by decide +kernel⟩
def sp_l_written (K : PySem.W.Frag) : Sp := fun vs H Q _ => ∃ (l_number_here : Int) (l_count : Int), vs = [.int l_number_here, .int l_count] ∧ (0 ≤ l_count ∧ l_count ≤ 8) ∧ ∀ H1, Ex H H1 → Q (.bl true) H1
theorem sv_l_written {K : PySem.W.Frag} {H : Hp} {l_number_here : Int} {l_count : Int} (h : (0 ≤ l_count ∧ l_count ≤ 8)) : SpV (sp_l_written K) [.int l_number_here, .int l_count] H (.bl true) := fun H1 e Q q _ => ⟨l_number_here, l_count, rfl, h, q⟩
theorem ok_l_written {f : Addr} {fd : FuncData} {a_word_bytes : Addr} {d_word_bytes : FuncData} {a_bytes_word : Addr} {d_bytes_word : FuncData} {a_l_is_integer : Addr} {d_l_is_integer : FuncData} {a_l_number : Addr} {d_l_number : FuncData} (F : Fun K "_law_written" "_law_written" s_l_written f fd) (T : Tx w K mg) (O_word_bytes : Df P w K mg base 1 "word_bytes" a_word_bytes d_word_bytes ["number", "count"] (sp_word_bytes K)) (O_bytes_word : Df P w K mg base 1 "bytes_word" a_bytes_word d_bytes_word ["data"] (sp_bytes_word K)) (O_l_is_integer : Df P w K mg base 1 "_law_is_integer" a_l_is_integer d_l_is_integer ["_law_actual"] (sp_l_is_integer K)) (O_l_number : Df P w K mg base 1 "_law_number" a_l_number d_l_number ["_law_data"] (sp_l_number K)) : FnOk P w K mg base CX0 2 f fd ["_law_number_here", "_law_count"] (sp_l_written K) := by
  refine F.ok sc_l_written (fun vs H Q E h => ?_) (fun cdv A outer s G vs Q E hr h => ?_)
  · obtain ⟨l_number_here, l_count, rfl, _⟩ := h
    rfl
  · obtain ⟨l_number_here, l_count, rfl, h, q⟩ := h
    refine ⟨_, (pss_cons (ps_set (i := 2) sc_l_written.nd rfl (Or.inl rfl) (cl O_word_bytes (hr.mono (by decide)) rfl (pa_cons (pv 0) (pa_cons (pv 1) pa_nil)))) (pss_cons (ps_if (PW.pt (pw_or (pt_not (pt_val (pe_callB call_isi (by rfl) T.b_isinstance (by decide +kernel) (pa_cons (pv 2) (pa_cons (pe_bltn (v := .ty "list") (by rfl) T.b_list (by decide +kernel) rfl) pa_nil))))) (pw_or1 (pt_cmpR op_ne (pe_callB call_len_seq (by rfl) T.b_len (by decide +kernel) (pa_cons (pv 2) pa_nil)) (pv 1) (nomark _))))) (pss_cons (ps_ret pe_bl) pss_nil) pss_nil) (pss_cons (ps_for PassesOwn.never rfl (pi_list (pv 2)) (pg_name (i := 3) sc_l_written.nd rfl (Or.inl rfl)) (pss_cons (ps_if (PW.pt (pw_or (pt_not (pt_val (cl O_l_is_integer (hr.mono (by decide)) rfl (pa_cons (pv 3) pa_nil)))) (pw_or (pt_cmpR op_lt (pv 3) pe_int (nomark _)) (pw_or1 (pt_cmpR op_gt (pv 3) pe_int (nomark _)))))) (pss_cons (ps_ret pe_bl) pss_nil) pss_nil) pss_nil)) (pss_cons (ps_if (pt_cmpR op_ne (pe_op op_mod (pe_callTy call_int1 (by rfl) T.b_int (by decide +kernel) (pa_cons (pe_op op_sub (cl O_l_number (hr.mono (by decide)) rfl (pa_cons (pv 2) pa_nil)) (pv 0)) pa_nil)) (pe_op op_shl pe_int (pe_op op_mul pe_int (pv 1)))) pe_int (nomark _)) (pss_cons (ps_ret pe_bl) pss_nil) pss_nil) (pss_cons (ps_set (i := 4) sc_l_written.nd rfl (Or.inl rfl) (cl O_bytes_word (hr.mono (by decide)) rfl (pa_cons (pe_callTy call_list_of (by rfl) T.b_list (by decide +kernel) (pa_cons (pv 2) pa_nil)) pa_nil))) (pss_cons (ps_ret (pe_and (cl O_l_is_integer (hr.mono (by decide)) rfl (pa_cons (pv 4) pa_nil)) (pe_one (pe_cmpR op_eq (pv 4) (cl O_l_number (hr.mono (by decide)) rfl (pa_cons (pv 2) pa_nil)) (nomark _))))) pss_nil)))))), ?_⟩
    have e := Ex.refl G
    -- _law_data = word_bytes(_law_number_here, _law_count)
    refine r_asgL e (el_call (ea_cons (ev_var rfl) (ea_cons (ev_var rfl) ea_nil)) (sv_word_bytes (by walk_at "sd"))) fun p_l_data G2 hp e2 e1 hl_l_data => ?_
    have q := q_mv e2 q
    have e := Ex.refl G2
    have hs_l_data := sq_of (K := K) hl_l_data
    have hlen : (m_word_bytes l_number_here l_count).length = l_count.toNat := wb_len _ _
    -- if not isinstance(_law_data, list) or len(_law_data) != _law_count
    refine r_when e (ep_or (ep_not (ep_val (ev_isi (b := true) (ev_var rfl) ev_c (.ty _) (ty_list hl_l_data) (kit_ty (by decide +kernel))))) (fun hb => (ep_ndec (ev_op (ev_lenI (ev_var rfl) (by assumption)) (ev_var rfl) rv_neI)))) (fun hb1 H e e1 => ?_) (fun hb1 H e e1 => ?_)
    · exact absurd hb1 (by rw [hlen]; intro z; rcases z with z | z; exact z rfl; exact z (by omega))
    -- for _law_byte in _law_data
    refine r_forLI e (ev_var rfl) hs_l_data (fun i σ H => (∃ o_l_byte : Option V, σ = [some (.int l_number_here), some (.int l_count), some (.ref p_l_data), o_l_byte, none]) ∧ Ex G2 H) (fun _ _ _ h => h.2) (fun H2 e2 => ⟨⟨_, rfl⟩, e.trans e2⟩) (fun i x σ H hi hI => ?_) (fun σ H hI => ?_)
    · obtain ⟨⟨o_l_byte, rfl⟩, e⟩ := hI
      have hb := wb_byte x (List.mem_of_getElem? hi)
      -- if not _law_is_integer(_law_byte) or _law_byte < 0 or _law_byte > 255
      refine r_when e (ep_or (ep_not (ep_val (ev_call (ea_cons (ev_var rfl) ea_nil) (sv_l_is_integer (by walk_at "sd"))))) (fun hb => (ep_or (ep_dec (ev_op (ev_var rfl) ev_c rv_I0)) (fun hb => (ep_dec (ev_op (ev_var rfl) ev_c rv_I0)))))) (fun hb2 H e e1 => ?_) (fun hb2 H e e1 => ?_)
      · exact absurd hb2 (by intro z; rcases z with z | z | z; exact z rfl; all_goals omega)
      exact ⟨⟨_, rfl⟩, e⟩
    obtain ⟨⟨o_l_byte, rfl⟩, e⟩ := hI
    have hpw : (0 : Int) < 2 ^ (8 * l_count).toNat := Int.pow_pos (by decide)
    -- if int(_law_number(_law_data) - _law_number_here) % (1 << 8 * _law_count) != 0
    refine r_when e (ep_ndec (ev_op (ev_op (ev_int (ev_op (ev_call (ea_cons (ev_var rfl) ea_nil) (sv_l_number ⟨(by walk_at "sq"), by walk_at "sd"⟩)) (ev_var rfl) rv_I0)) (ev_op ev_c (ev_op ev_c (ev_var rfl) (rv_I (by walk_at "sd"))) (rv_I (by walk_at "sd"))) (rv_I (by walk_at "sd"))) ev_c rv_neI)) (fun hb3 H e e1 => ?_) (fun hb3 H e e1 => ?_)
    · exact absurd hb3 (by
        obtain ⟨k, rfl⟩ : ∃ k : Nat, l_count = (k : Int) := ⟨l_count.toNat, by omega⟩
        obtain ⟨q, hq⟩ := wb_val k l_number_here
        show ¬ ¬ (val (wb l_number_here ((k : Int).toNat)) - l_number_here) % (1 * 2 ^ (8 * (k : Int)).toNat) = 0
        rw [Int.toNat_natCast, hq, pow8, Int.one_mul, Int.mul_emod_right]
        simp)
    -- _law_back = bytes_word(list(_law_data))
    refine r_asg e (ev_call1L (el_list (ev_var rfl) (by assumption)) (fun p H1 e hp => sv_bytes_word ⟨Or.inl (sq_of hp), by rw [wb_len]; omega, wb_byte⟩)) fun H e e1 => ?_
    -- return _law_is_integer(_law_back) and _law_back == _law_number(_law_data)
    exact r_retB e (ev_andV (ev_call (ea_cons (ev_var rfl) ea_nil) (sv_l_is_integer (by walk_at "sd"))) (fun hb => (ev_op (ev_var rfl) (ev_call (ea_cons (ev_var rfl) ea_nil) (sv_l_number ⟨(by walk_at "sq"), by walk_at "sd"⟩)) rv_eqI))) (by simp [m_bytes_word, m_l_number, m_word_bytes, m_l_is_integer]) q

/-! law -/
theorem sc_law : FnScope ["_law_script", "_law_first", "_law_count", "_law_data", "_law_passed", "_law_told", "_law_again"] ["_law_script"] (defScope s_law) := ⟨rfl, rfl, rfl, by decide +kernel, rfl, by decide +kernel, by decide +kernel⟩
def sp_law (K : PySem.W.Frag) : Sp := fun vs H Q _ => ∃ (l_script : Addr) (ns : List Int), vs = [.ref l_script] ∧ (SqL K H l_script (ns.map V.int) ∧ ns.length ≤ 63) ∧ ∀ H1, Q (.bl true) H1
theorem law_in {K : PySem.W.Frag} {H : Hp} {a : Addr} {ns : List Int} (hl : ns.length ≤ 63) (hS : SqL K H a (ns.map V.int)) : sp_law K [.ref a] H (fun v _ => v = .bl true) (fun _ _ _ => False) := ⟨a, ns, rfl, ⟨hS, hl⟩, fun _ => rfl⟩
theorem ok_law {f : Addr} {fd : FuncData} {a_bytes_word : Addr} {d_bytes_word : FuncData} {a_l_is_integer : Addr} {d_l_is_integer : FuncData} {a_l_cell : Addr} {d_l_cell : FuncData} {a_l_number : Addr} {d_l_number : FuncData} {a_l_bytes : Addr} {d_l_bytes : FuncData} {a_l_written : Addr} {d_l_written : FuncData} (F : Fun K "law" "law" s_law f fd) (T : Tx w K mg) (O_bytes_word : Df P w K mg base 1 "bytes_word" a_bytes_word d_bytes_word ["data"] (sp_bytes_word K)) (O_l_is_integer : Df P w K mg base 1 "_law_is_integer" a_l_is_integer d_l_is_integer ["_law_actual"] (sp_l_is_integer K)) (O_l_cell : Df P w K mg base 1 "_law_cell" a_l_cell d_l_cell ["_law_script", "_law_k"] (sp_l_cell K)) (O_l_number : Df P w K mg base 1 "_law_number" a_l_number d_l_number ["_law_data"] (sp_l_number K)) (O_l_bytes : Df P w K mg base 2 "_law_bytes" a_l_bytes d_l_bytes ["_law_script"] (sp_l_bytes K)) (O_l_written : Df P w K mg base 2 "_law_written" a_l_written d_l_written ["_law_number_here", "_law_count"] (sp_l_written K)) : FnOk P w K mg base CX0 3 f fd ["_law_script"] (sp_law K) := by
  refine F.ok sc_law (fun vs H Q E h => ?_) (fun cdv A outer s G vs Q E hr h => ?_)
  · obtain ⟨l_script, ns, rfl, _⟩ := h
    rfl
  · obtain ⟨l_script, ns, rfl, ⟨hS, hlen⟩, q⟩ := h
    refine ⟨_, (pss_cons (ps_set (i := 1) sc_law.nd rfl (Or.inl rfl) (cl O_l_cell (hr.mono (by decide)) rfl (pa_cons (pv 0) (pa_cons pe_int pa_nil)))) (pss_cons (ps_for PassesOwn.never rfl (pi_range1 (by rfl) T.b_range (pa_cons pe_int pa_nil)) (pg_name (i := 2) sc_law.nd rfl (Or.inl rfl)) (pss_cons (ps_if (PW.pt (pw_or (pt_not (pt_val (cl O_l_written (hr.mono (by decide)) rfl (pa_cons (pv 1) (pa_cons (pv 2) pa_nil))))) (pw_or1 (pt_not (pt_val (cl O_l_written (hr.mono (by decide)) rfl (pa_cons (pe_op op_sub (cl O_l_cell (hr.mono (by decide)) rfl (pa_cons (pv 0) (pa_cons pe_int pa_nil))) pe_int) (pa_cons (pv 2) pa_nil)))))))) (pss_cons (ps_ret pe_bl) pss_nil) pss_nil) pss_nil)) (pss_cons (ps_set (i := 3) sc_law.nd rfl (Or.inl rfl) (cl O_l_bytes (hr.mono (by decide)) rfl (pa_cons (pv 0) pa_nil))) (pss_cons (ps_set (i := 4) sc_law.nd rfl (Or.inl rfl) (pe_callTy call_list_of (by rfl) T.b_list (by decide +kernel) (pa_cons (pv 3) pa_nil))) (pss_cons (ps_set (i := 5) sc_law.nd rfl (Or.inl rfl) (cl O_bytes_word (hr.mono (by decide)) rfl (pa_cons (pv 4) pa_nil))) (pss_cons (ps_set (i := 6) sc_law.nd rfl (Or.inl rfl) (cl O_bytes_word (hr.mono (by decide)) rfl (pa_cons (pe_callTy call_tuple_of (by rfl) T.b_tuple (by decide +kernel) (pa_cons (pv 3) pa_nil)) pa_nil))) (pss_cons (ps_if (PW.pt (pw_or (pt_not (pt_val (cl O_l_is_integer (hr.mono (by decide)) rfl (pa_cons (pv 5) pa_nil)))) (pw_or1 (pt_not (pt_val (cl O_l_is_integer (hr.mono (by decide)) rfl (pa_cons (pv 6) pa_nil))))))) (pss_cons (ps_ret pe_bl) pss_nil) pss_nil) (pss_cons (ps_ret (pe_and (pe_cmpR op_eq (pv 5) (cl O_l_number (hr.mono (by decide)) rfl (pa_cons (pv 3) pa_nil)) (nomark _)) (pe_and (pe_cmpR op_eq (pv 6) (pv 5) (nomark _)) (pe_one (pe_cmpR (op_eqD hr.units) (pv 4) (pv 3) (nomark _)))))) pss_nil)))))))), ?_⟩
    have e := Ex.refl G
    -- _law_first = _law_cell(_law_script, 0)
    refine r_asg e (ev_call (ea_cons (ev_var rfl) (ea_cons ev_c ea_nil)) (sv_l_cell ⟨(by walk_at "sq"), by walk_at "sd"⟩)) fun H e e1 => ?_
    -- for _law_count in range(9)
    refine r_forR e (ea_cons ev_c ea_nil) (by walk_at "sd") (fun i σ => ∃ o_l_count : Option V, σ = [some (.ref l_script), some (.int (m_l_cell ns 0)), o_l_count, none, none, none, none]) ⟨_, rfl⟩ (fun i σ H hi hI e => ?_) (fun σ H hI e => ?_)
    · obtain ⟨o_l_count, rfl⟩ := hI
      -- if not _law_written(_law_first, _law_count) or not _law_written(_law_cell(_law_script, 1) - 1, _law_count)
      refine r_when e (ep_or (ep_not (ep_val (ev_call (ea_cons (ev_var rfl) (ea_cons (ev_var rfl) ea_nil)) (sv_l_written (by walk_at "sd"))))) (fun hb => (ep_not (ep_val (ev_call (ea_cons (ev_op (ev_call (ea_cons (ev_var rfl) (ea_cons ev_c ea_nil)) (sv_l_cell ⟨(by walk_at "sq"), by walk_at "sd"⟩)) ev_c rv_I0) (ea_cons (ev_var rfl) ea_nil)) (sv_l_written (by walk_at "sd"))))))) (fun hb1 H e e1 => ?_) (fun hb1 H e e1 => ?_)
      · exact absurd hb1 (by simp)
      exact ⟨⟨_, rfl⟩, e⟩
    obtain ⟨o_l_count, rfl⟩ := hI
    have hby := bytes_ok hlen
    -- _law_data = _law_bytes(_law_script)
    refine r_asgL e (el_call (ea_cons (ev_var rfl) ea_nil) (sv_l_bytes ⟨(by walk_at "sq"), by walk_at "sd"⟩)) fun p_l_data G2 hp e2 e1 hl_l_data => ?_
    have hS := ex_l e2 hS
    have e := Ex.refl G2
    have hs_l_data := sq_of (K := K) hl_l_data
    -- _law_passed = list(_law_data)
    refine r_asgL e (el_list (ev_var rfl) (by assumption)) fun p_l_passed G2 hp e2 e1 hl_l_passed => ?_
    have hS := ex_l e2 hS
    have hs_l_data := ex_l e2 hs_l_data
    have e := Ex.refl G2
    have hs_l_passed := sq_of (K := K) hl_l_passed
    -- _law_told = bytes_word(_law_passed)
    refine r_asg e (ev_call (ea_cons (ev_var rfl) ea_nil) (sv_bytes_word ⟨(by walk_at "sq"), hby⟩)) fun H e e1 => ?_
    -- _law_again = bytes_word(tuple(_law_data))
    refine r_asg e (ev_call1U (eu_tupL (ev_var rfl) (by assumption)) (fun p H1 e hp => sv_bytes_word ⟨Or.inr (st_of hp), hby⟩)) fun H e e1 => ?_
    -- if not _law_is_integer(_law_told) or not _law_is_integer(_law_again)
    refine r_when e (ep_or (ep_not (ep_val (ev_call (ea_cons (ev_var rfl) ea_nil) (sv_l_is_integer (by walk_at "sd"))))) (fun hb => (ep_not (ep_val (ev_call (ea_cons (ev_var rfl) ea_nil) (sv_l_is_integer (by walk_at "sd"))))))) (fun hb2 H e e1 => ?_) (fun hb2 H e e1 => ?_)
    · exact absurd hb2 (by intro z; rcases z with z | z <;> exact z rfl)
    -- return _law_told == _law_number(_law_data) and _law_again == _law_told and (_law_passed == _law_data)
    exact r_retB e (ev_andV (ev_op (ev_var rfl) (ev_call (ea_cons (ev_var rfl) ea_nil) (sv_l_number ⟨(by walk_at "sq"), hby.1⟩)) rv_eqI) (fun hb => (ev_andV (ev_op (ev_var rfl) (ev_var rfl) rv_eqI) (fun hb => (ev_op (ev_var rfl) (ev_var rfl) (rv_eqDI (by walk_at "sq") (by walk_at "sq"))))))) (by simp [m_bytes_word, m_l_number]) (fun H _ => q H)

end
theorem all_mk {l : PySem.W.OpenLaw} {w : World} {K : PySem.W.Frag} {h : Heap} {mg : Str → Option Value} {fa : Addr} {f_word_bytes f_bytes_word f_l_is_integer f_l_cell f_l_number f_l_bytes f_l_written f_law : Addr} (X : K.In h) (G : h.Ns mainGlobals mg) (hfa : mg "law" = some (.ref fa))
    {od_word_bytes an_word_bytes od_bytes_word an_bytes_word od_l_is_integer an_l_is_integer od_l_cell an_l_cell od_l_number an_l_number od_l_bytes an_l_bytes od_l_written an_l_written od_law an_law : Option Addr} {sl_word_bytes sl_bytes_word sl_l_is_integer sl_l_cell sl_l_number sl_l_bytes sl_l_written sl_law : Array (Option Value)}
    {oc_word_bytes kV_word_bytes dc_word_bytes pm_word_bytes cd_word_bytes ct_word_bytes oc_bytes_word kV_bytes_word dc_bytes_word pm_bytes_word cd_bytes_word ct_bytes_word oc_l_is_integer kV_l_is_integer dc_l_is_integer pm_l_is_integer cd_l_is_integer ct_l_is_integer oc_l_cell kV_l_cell dc_l_cell pm_l_cell cd_l_cell ct_l_cell oc_l_number kV_l_number dc_l_number pm_l_number cd_l_number ct_l_number oc_l_bytes kV_l_bytes dc_l_bytes pm_l_bytes cd_l_bytes ct_l_bytes oc_l_written kV_l_written dc_l_written pm_l_written cd_l_written ct_l_written oc_law kV_law dc_law pm_law cd_law ct_law : Value}
    (a_word_bytes : PySem.W.nsIn K mainGlobals "word_bytes" = some (some (.ref f_word_bytes)))
    (l_word_bytes : K.lookup f_word_bytes = some ⟨oc_word_bytes, od_word_bytes, .func (PySem.W.fnOf "word_bytes" "word_bytes" (defArgs s_word_bytes) (defBody s_word_bytes) (defScope s_word_bytes) .none kV_word_bytes dc_word_bytes pm_word_bytes an_word_bytes cd_word_bytes ct_word_bytes), sl_word_bytes⟩)
    (c_word_bytes : PySem.W.codeIn K cd_word_bytes "word_bytes" = true) (k_word_bytes : PySem.W.keepIn K (.ref f_word_bytes) = true)
    (a_bytes_word : PySem.W.nsIn K mainGlobals "bytes_word" = some (some (.ref f_bytes_word)))
    (l_bytes_word : K.lookup f_bytes_word = some ⟨oc_bytes_word, od_bytes_word, .func (PySem.W.fnOf "bytes_word" "bytes_word" (defArgs s_bytes_word) (defBody s_bytes_word) (defScope s_bytes_word) .none kV_bytes_word dc_bytes_word pm_bytes_word an_bytes_word cd_bytes_word ct_bytes_word), sl_bytes_word⟩)
    (c_bytes_word : PySem.W.codeIn K cd_bytes_word "bytes_word" = true) (k_bytes_word : PySem.W.keepIn K (.ref f_bytes_word) = true)
    (a_l_is_integer : PySem.W.nsIn K mainGlobals "_law_is_integer" = some (some (.ref f_l_is_integer)))
    (l_l_is_integer : K.lookup f_l_is_integer = some ⟨oc_l_is_integer, od_l_is_integer, .func (PySem.W.fnOf "_law_is_integer" "_law_is_integer" (defArgs s_l_is_integer) (defBody s_l_is_integer) (defScope s_l_is_integer) .none kV_l_is_integer dc_l_is_integer pm_l_is_integer an_l_is_integer cd_l_is_integer ct_l_is_integer), sl_l_is_integer⟩)
    (c_l_is_integer : PySem.W.codeIn K cd_l_is_integer "_law_is_integer" = true) (k_l_is_integer : PySem.W.keepIn K (.ref f_l_is_integer) = true)
    (a_l_cell : PySem.W.nsIn K mainGlobals "_law_cell" = some (some (.ref f_l_cell)))
    (l_l_cell : K.lookup f_l_cell = some ⟨oc_l_cell, od_l_cell, .func (PySem.W.fnOf "_law_cell" "_law_cell" (defArgs s_l_cell) (defBody s_l_cell) (defScope s_l_cell) .none kV_l_cell dc_l_cell pm_l_cell an_l_cell cd_l_cell ct_l_cell), sl_l_cell⟩)
    (c_l_cell : PySem.W.codeIn K cd_l_cell "_law_cell" = true) (k_l_cell : PySem.W.keepIn K (.ref f_l_cell) = true)
    (a_l_number : PySem.W.nsIn K mainGlobals "_law_number" = some (some (.ref f_l_number)))
    (l_l_number : K.lookup f_l_number = some ⟨oc_l_number, od_l_number, .func (PySem.W.fnOf "_law_number" "_law_number" (defArgs s_l_number) (defBody s_l_number) (defScope s_l_number) .none kV_l_number dc_l_number pm_l_number an_l_number cd_l_number ct_l_number), sl_l_number⟩)
    (c_l_number : PySem.W.codeIn K cd_l_number "_law_number" = true) (k_l_number : PySem.W.keepIn K (.ref f_l_number) = true)
    (a_l_bytes : PySem.W.nsIn K mainGlobals "_law_bytes" = some (some (.ref f_l_bytes)))
    (l_l_bytes : K.lookup f_l_bytes = some ⟨oc_l_bytes, od_l_bytes, .func (PySem.W.fnOf "_law_bytes" "_law_bytes" (defArgs s_l_bytes) (defBody s_l_bytes) (defScope s_l_bytes) .none kV_l_bytes dc_l_bytes pm_l_bytes an_l_bytes cd_l_bytes ct_l_bytes), sl_l_bytes⟩)
    (c_l_bytes : PySem.W.codeIn K cd_l_bytes "_law_bytes" = true) (k_l_bytes : PySem.W.keepIn K (.ref f_l_bytes) = true)
    (a_l_written : PySem.W.nsIn K mainGlobals "_law_written" = some (some (.ref f_l_written)))
    (l_l_written : K.lookup f_l_written = some ⟨oc_l_written, od_l_written, .func (PySem.W.fnOf "_law_written" "_law_written" (defArgs s_l_written) (defBody s_l_written) (defScope s_l_written) .none kV_l_written dc_l_written pm_l_written an_l_written cd_l_written ct_l_written), sl_l_written⟩)
    (c_l_written : PySem.W.codeIn K cd_l_written "_law_written" = true) (k_l_written : PySem.W.keepIn K (.ref f_l_written) = true)
    (a_law : PySem.W.nsIn K mainGlobals "law" = some (some (.ref f_law)))
    (l_law : K.lookup f_law = some ⟨oc_law, od_law, .func (PySem.W.fnOf "law" "law" (defArgs s_law) (defBody s_law) (defScope s_law) .none kV_law dc_law pm_law an_law cd_law ct_law), sl_law⟩)
    (c_law : PySem.W.codeIn K cd_law "law" = true) (k_law : PySem.W.keepIn K (.ref f_law) = true)
    (z_bool : PySem.W.nsIn K mainGlobals "bool" = some none)
    (z_int : PySem.W.nsIn K mainGlobals "int" = some none)
    (z_isinstance : PySem.W.nsIn K mainGlobals "isinstance" = some none)
    (z_len : PySem.W.nsIn K mainGlobals "len" = some none)
    (z_list : PySem.W.nsIn K mainGlobals "list" = some none)
    (z_range : PySem.W.nsIn K mainGlobals "range" = some none)
    (z_tuple : PySem.W.nsIn K mainGlobals "tuple" = some none)
    : ∃ fd : FuncData, (∀ (s : Shared) (v : Value), BindsTo s fd ⟨[v], []⟩ [("_law_script", v)]) ∧ ∀ base : Heap, K.In base → base.Ns mainGlobals mg → FnOk l.prog w K mg base CX0 3 fa fd ["_law_script"] (sp_law K) := by
  have e := hfa.symm.trans (PySem.W.mg_of X G a_law)
  cases e
  have T : Tx w K mg := ⟨PySem.W.mg_none_of X G z_bool, PySem.W.mg_none_of X G z_int, PySem.W.mg_none_of X G z_isinstance, PySem.W.mg_none_of X G z_len, PySem.W.mg_none_of X G z_list, PySem.W.mg_none_of X G z_range, PySem.W.mg_none_of X G z_tuple⟩
  have F_word_bytes := fun_mk (st := s_word_bytes) l_word_bytes c_word_bytes k_word_bytes
  have b_word_bytes := F_word_bytes.binds (ps := ["number", "count"]) fun _ _ _ _ _ _ us hl => match us, hl with | [_, _], _ => rfl
  have F_bytes_word := fun_mk (st := s_bytes_word) l_bytes_word c_bytes_word k_bytes_word
  have b_bytes_word := F_bytes_word.binds (ps := ["data"]) fun _ _ _ _ _ _ us hl => match us, hl with | [_], _ => rfl
  have F_l_is_integer := fun_mk (st := s_l_is_integer) l_l_is_integer c_l_is_integer k_l_is_integer
  have b_l_is_integer := F_l_is_integer.binds (ps := ["_law_actual"]) fun _ _ _ _ _ _ us hl => match us, hl with | [_], _ => rfl
  have F_l_cell := fun_mk (st := s_l_cell) l_l_cell c_l_cell k_l_cell
  have b_l_cell := F_l_cell.binds (ps := ["_law_script", "_law_k"]) fun _ _ _ _ _ _ us hl => match us, hl with | [_, _], _ => rfl
  have F_l_number := fun_mk (st := s_l_number) l_l_number c_l_number k_l_number
  have b_l_number := F_l_number.binds (ps := ["_law_data"]) fun _ _ _ _ _ _ us hl => match us, hl with | [_], _ => rfl
  have F_l_bytes := fun_mk (st := s_l_bytes) l_l_bytes c_l_bytes k_l_bytes
  have b_l_bytes := F_l_bytes.binds (ps := ["_law_script"]) fun _ _ _ _ _ _ us hl => match us, hl with | [_], _ => rfl
  have F_l_written := fun_mk (st := s_l_written) l_l_written c_l_written k_l_written
  have b_l_written := F_l_written.binds (ps := ["_law_number_here", "_law_count"]) fun _ _ _ _ _ _ us hl => match us, hl with | [_, _], _ => rfl
  have F_law := fun_mk (st := s_law) l_law c_law k_law
  refine ⟨PySem.W.fnOf "law" "law" (defArgs s_law) (defBody s_law) (defScope s_law) .none kV_law dc_law pm_law an_law cd_law ct_law, fun s v => .of_eq rfl, fun base _ _ => ?_⟩
  have O_word_bytes : Df l.prog w K mg base 1 "word_bytes" f_word_bytes _ ["number", "count"] (sp_word_bytes K) := ⟨ok_word_bytes F_word_bytes T, PySem.W.mg_of X G a_word_bytes, F_word_bytes.kp, b_word_bytes⟩
  have O_bytes_word : Df l.prog w K mg base 1 "bytes_word" f_bytes_word _ ["data"] (sp_bytes_word K) := ⟨ok_bytes_word F_bytes_word T, PySem.W.mg_of X G a_bytes_word, F_bytes_word.kp, b_bytes_word⟩
  have O_l_is_integer : Df l.prog w K mg base 1 "_law_is_integer" f_l_is_integer _ ["_law_actual"] (sp_l_is_integer K) := ⟨ok_l_is_integer F_l_is_integer T, PySem.W.mg_of X G a_l_is_integer, F_l_is_integer.kp, b_l_is_integer⟩
  have O_l_cell : Df l.prog w K mg base 1 "_law_cell" f_l_cell _ ["_law_script", "_law_k"] (sp_l_cell K) := ⟨ok_l_cell F_l_cell T, PySem.W.mg_of X G a_l_cell, F_l_cell.kp, b_l_cell⟩
  have O_l_number : Df l.prog w K mg base 1 "_law_number" f_l_number _ ["_law_data"] (sp_l_number K) := ⟨ok_l_number F_l_number T, PySem.W.mg_of X G a_l_number, F_l_number.kp, b_l_number⟩
  have O_l_bytes : Df l.prog w K mg base 2 "_law_bytes" f_l_bytes _ ["_law_script"] (sp_l_bytes K) := ⟨ok_l_bytes F_l_bytes T O_l_cell, PySem.W.mg_of X G a_l_bytes, F_l_bytes.kp, b_l_bytes⟩
  have O_l_written : Df l.prog w K mg base 2 "_law_written" f_l_written _ ["_law_number_here", "_law_count"] (sp_l_written K) := ⟨ok_l_written F_l_written T O_word_bytes O_bytes_word O_l_is_integer O_l_number, PySem.W.mg_of X G a_l_written, F_l_written.kp, b_l_written⟩
  exact ok_law F_law T O_bytes_word O_l_is_integer O_l_cell O_l_number O_l_bytes O_l_written
end Lk02

set_option Elab.async false
set_option linter.all false
set_option maxRecDepth 100000
set_option maxHeartbeats 4000000
open PySem PySem.W PyProof.Rows
local macro_rules | `(tactic| walk_at "keysLit") => `(tactic| (refine ⟨⟨_, _, rfl, rfl⟩, ?_⟩; walk_at "keysLit"))
local macro_rules | `(tactic| walk_at "keysLit") => `(tactic| exact True.intro)
set_option maxRecDepth 100000 in
set_option maxHeartbeats 0 in
theorem PySem.Challenge.cw_wasmhost_k02_bytes_of_words_holds : PySem.Challenge.rw_wasmhost_k02_bytes_of_words.Holds := by
  w_on; o_law; k_head; (case hw => w_witness2)
  k_fill
  refine L2.walk_ofK (l := PySem.Challenge.rw_wasmhost_k02_bytes_of_words) (n := 63) (k := 3) (x := "_law_script") (CX := L2.CX0) (sp := Lk02.sp_law) rfl (by decide) rfl ⟨rfl, by decide, by decide⟩ (fun w h Y => PySem.W.kIn_of Y) ?F (fun K H a ns hl _ hS => Lk02.law_in hl hS) (fun _ _ _ _ h => h)
  case F =>
    intro w mg fa h KX G hmg
    refine' Lk02.all_mk KX G hmg ?a_word_bytes ?l_word_bytes ?c_word_bytes ?k_word_bytes ?a_bytes_word ?l_bytes_word ?c_bytes_word ?k_bytes_word ?a_l_is_integer ?l_l_is_integer ?c_l_is_integer ?k_l_is_integer ?a_l_cell ?l_l_cell ?c_l_cell ?k_l_cell ?a_l_number ?l_l_number ?c_l_number ?k_l_number ?a_l_bytes ?l_l_bytes ?c_l_bytes ?k_l_bytes ?a_l_written ?l_l_written ?c_l_written ?k_l_written ?a_law ?l_law ?c_law ?k_law ?z_bool ?z_int ?z_isinstance ?z_len ?z_list ?z_range ?z_tuple
    (case a_word_bytes => k_is)
    (case l_word_bytes => k_is)
    (case c_word_bytes => k_is)
    (case k_word_bytes => k_is)
    (case a_bytes_word => k_is)
    (case l_bytes_word => k_is)
    (case c_bytes_word => k_is)
    (case k_bytes_word => k_is)
    (case a_l_is_integer => k_is)
    (case l_l_is_integer => k_is)
    (case c_l_is_integer => k_is)
    (case k_l_is_integer => k_is)
    (case a_l_cell => k_is)
    (case l_l_cell => k_is)
    (case c_l_cell => k_is)
    (case k_l_cell => k_is)
    (case a_l_number => k_is)
    (case l_l_number => k_is)
    (case c_l_number => k_is)
    (case k_l_number => k_is)
    (case a_l_bytes => k_is)
    (case l_l_bytes => k_is)
    (case c_l_bytes => k_is)
    (case k_l_bytes => k_is)
    (case a_l_written => k_is)
    (case l_l_written => k_is)
    (case c_l_written => k_is)
    (case k_l_written => k_is)
    (case a_law => k_is)
    (case l_law => k_is)
    (case c_law => k_is)
    (case k_law => k_is)
    (case z_bool => k_is)
    (case z_int => k_is)
    (case z_isinstance => k_is)
    (case z_len => k_is)
    (case z_list => k_is)
    (case z_range => k_is)
    (case z_tuple => k_is)
