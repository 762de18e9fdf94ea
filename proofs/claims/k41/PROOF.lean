import PyProof.Rows.All
import Wide.All
import OpenK.AllK
import Wide.FinOn
import HandS.ForMost
import HandS.Evl
import HandS.IsInst
import HandS.Flow
import HandS.More
import HandS.Zip
import PySem.Challenge.RW_wasmhost_k41_values_match_kinds
set_option Elab.async false
set_option linter.all false
set_option maxRecDepth 100000
set_option maxHeartbeats 4000000
/-! My own layer over HandS.Evl: statements relative to a ground heap, tests as propositions. -/
namespace Wm
open PySem L2 Evl RZ
/-- a call's promise of a new tuple -/
def SpU (sp : Sp) (vs : List V) (H : Hp) (xs : List V) : Prop := ∀ H1, Ex H H1 → ∀ Q : VK, (∀ p H2, H1 p = none → Ex H1 H2 → H2 p = some (.tup xs) → Q (.ref p) H2) → ∀ E : XK, sp vs H1 Q E
/-- a test, told by a proposition -/
def EtP (t : TT) (σ : L2.St) (H : Hp) (p : Prop) : Prop := ∃ b : Bool, (b = true ↔ p) ∧ EvT t σ H b
section
variable {K : PySem.W.Frag} {σ : L2.St} {H H0 H1 H' : Hp} {ta tb tc te tx : TE} {t u : TT} {x y z v : V} {r : R2} {D : Ends} {tu tw tz : TS} {p q : Prop} {g : TG}
theorem EtP.mono (e : Ex H H') (h : EtP t σ H p) : EtP t σ H' p := by
  obtain ⟨b, hb, h⟩ := h
  exact ⟨b, hb, h.mono e⟩
theorem EtP.to (h : EtP t σ H p) (e : p ↔ q) : EtP t σ H q := by
  obtain ⟨b, hb, h⟩ := h
  exact ⟨b, hb.trans e, h⟩
theorem ep_val {b : Bool} (h : Ev te σ H (.bl b)) : EtP (tB te) σ H (b = true) := ⟨b, Iff.rfl, et_B h⟩
theorem ep_test {b : Bool} (h : Ev te σ H (.bl b)) : EtP (tTest te) σ H (b = true) := ⟨b, Iff.rfl, et_test h⟩
theorem ep_dec {p : Prop} [Decidable p] (h : Ev te σ H (.bl (decide p))) : EtP (tTest te) σ H p := ⟨decide p, decide_eq_true_iff, et_test h⟩
theorem ep_ndec {p : Prop} [Decidable p] (h : Ev te σ H (.bl (!decide p))) : EtP (tTest te) σ H (¬ p) := ⟨!decide p, by simp, et_test h⟩
theorem ep_and (h1 : EtP t σ H p) (h2 : p → EtP u σ H q) : EtP (tAnd t u) σ H (p ∧ q) := by
  obtain ⟨a, ha, h1⟩ := h1
  by_cases hp : p
  · obtain ⟨b, hb, h2⟩ := h2 hp
    exact ⟨a && b, by rw [Bool.and_eq_true, ha, hb], et_and h1 fun _ => h2⟩
  · have e : a = false := by
      cases a with
      | true => exact absurd (ha.mp rfl) hp
      | false => rfl
    subst e
    refine ⟨false && false, ⟨fun z => (by cases z), fun z => absurd z.1 hp⟩, et_and h1 fun z => (by cases z)⟩
theorem ep_or (h1 : EtP t σ H p) (h2 : ¬ p → EtP u σ H q) : EtP (tOr t u) σ H (p ∨ q) := by
  obtain ⟨a, ha, h1⟩ := h1
  by_cases hp : p
  · have e : a = true := ha.mpr hp
    subst e
    refine ⟨true || false, ⟨fun _ => Or.inl hp, fun _ => rfl⟩, et_or h1 fun z => (by cases z)⟩
  · obtain ⟨b, hb, h2⟩ := h2 hp
    exact ⟨a || b, by rw [Bool.or_eq_true, ha, hb], et_or h1 fun _ => h2⟩
theorem ep_not (h1 : EtP t σ H p) : EtP (tNot t) σ H (¬ p) := by
  obtain ⟨a, ha, h1⟩ := h1
  refine ⟨!a, ?_, et_not h1⟩
  rw [← ha]
  cases a <;> simp
/-! values -/
theorem rv_eqI {i j : Int} : RV rEq (.int i) (.int j) H (.bl (decide (i = j))) := fun H1 _ Q q => ⟨rfl, by
  have e : decide (V.int i = V.int j) = decide (i = j) := by
    by_cases h : i = j
    · subst h; simp
    · rw [decide_eq_false h, decide_eq_false fun z => h (V.int.inj z)]
  rw [e]
  exact q H1 (Ex.refl H1)⟩
theorem rv_neI {i j : Int} : RV rNe (.int i) (.int j) H (.bl (!decide (i = j))) := fun H1 _ Q q => ⟨rfl, by
  have e : decide (V.int i = V.int j) = decide (i = j) := by
    by_cases h : i = j
    · subst h; simp
    · rw [decide_eq_false h, decide_eq_false fun z => h (V.int.inj z)]
  rw [e]
  exact q H1 (Ex.refl H1)⟩
theorem rv_eqS {i j : Str} : RV rEq (.str i) (.str j) H (.bl (decide (i = j))) := fun H1 _ Q q => ⟨rfl, by
  have e : decide (V.str i = V.str j) = decide (i = j) := by
    by_cases h : i = j
    · subst h; simp
    · rw [decide_eq_false h, decide_eq_false fun z => h (V.str.inj z)]
  rw [e]
  exact q H1 (Ex.refl H1)⟩
theorem rv_neS {i j : Str} : RV rNe (.str i) (.str j) H (.bl (!decide (i = j))) := fun H1 _ Q q => ⟨rfl, by
  have e : decide (V.str i = V.str j) = decide (i = j) := by
    by_cases h : i = j
    · subst h; simp
    · rw [decide_eq_false h, decide_eq_false fun z => h (V.str.inj z)]
  rw [e]
  exact q H1 (Ex.refl H1)⟩
theorem rv_eqB {i j : Bool} : RV rEq (.bl i) (.bl j) H (.bl (decide (i = j))) := fun H1 _ Q q => ⟨rfl, by
  have e : decide (V.bl i = V.bl j) = decide (i = j) := by
    by_cases h : i = j
    · subst h; simp
    · rw [decide_eq_false h, decide_eq_false fun z => h (V.bl.inj z)]
  rw [e]
  exact q H1 (Ex.refl H1)⟩
def rAddS2 : R2 := fun x y H Q => ∃ i j, x = .str i ∧ y = .str j ∧ i.length + j.length ≤ sizeLine ∧ Q (.str (i ++ j)) H
theorem rv_addS {i j : Str} (h : i.length + j.length ≤ 100000) : RV rAddS2 (.str i) (.str j) H (.str (i ++ j)) := fun H1 _ Q q => ⟨i, j, rfl, rfl, sz_of h, q H1 (Ex.refl H1)⟩
/-- if-expressions, chains -/
theorem ev_ifP {a b : V} (h : EtP t σ H p) (h1 : p → Ev ta σ H a) (h2 : ¬ p → Ev tb σ H b) [Decidable p] : Ev (tIf t ta tb) σ H (if p then a else b) := by
  obtain ⟨c, hc, h⟩ := h
  refine ev_if h (fun e => ?_) (fun e => ?_)
  · rw [if_pos (hc.mp e)]
    exact h1 (hc.mp e)
  · have hp : ¬ p := fun z => by
      have := hc.mpr z
      rw [e] at this
      cases this
    rw [if_neg hp]
    exact h2 hp
theorem ev_chain {r r' : R2} {a b : Bool} (ha : Ev ta σ H x) (hb : Ev tb σ H y) (hr : RV r x y H (.bl a)) (hc : a = true → Ev tc σ H z) (hr' : a = true → RV r' y z H (.bl b)) : Ev (tChain r r' ta tb tc) σ H (.bl (a && b)) := fun H1 e Q q =>
  ha H1 e _ fun H2 e2 => hb H2 (e.trans e2) _ fun H3 e3 => hr H3 ((e.trans e2).trans e3) _ fun H4 e4 => ⟨a, rfl, by
    cases a with
    | true =>
      rw [if_pos rfl]
      exact hc rfl H4 (((e.trans e2).trans e3).trans e4) _ fun H5 e5 => hr' rfl H5 ((((e.trans e2).trans e3).trans e4).trans e5) Q fun H6 e6 => q H6 ((((e2.trans e3).trans e4).trans e5).trans e6)
    | false =>
      rw [if_neg Bool.false_ne_true]
      exact q H4 ((e2.trans e3).trans e4)⟩
theorem ep_chain {r r' : R2} {p q : Prop} [Decidable p] [Decidable q] (ha : Ev ta σ H x) (hb : Ev tb σ H y) (hr : RV r x y H (.bl (decide p))) (hc : p → Ev tc σ H z) (hr' : p → RV r' y z H (.bl (decide q))) : EtP (tTest (tChain r r' ta tb tc)) σ H (p ∧ q) :=
  ⟨decide p && decide q, by simp, et_test (ev_chain ha hb hr (fun e => hc (of_decide_eq_true e)) (fun e => hr' (of_decide_eq_true e)))⟩
/-! built-ins -/
def rInt1 : List V → Hp → VK → Prop := fun xs H Q => (∃ i, xs = [.int i] ∧ Q (.int i) H) ∨ ∃ k, xs = [.bl k] ∧ Q (.int (if k then 1 else 0)) H
theorem ev_int {i : Int} (h : Ev ta σ H (.int i)) : Ev (tCB rInt1 (tCons ta tNil)) σ H (.int i) := fun H1 e Q q => h H1 e _ fun H2 e2 => Or.inl ⟨i, rfl, q H2 e2⟩
theorem ev_intB {b : Bool} (h : Ev ta σ H (.bl b)) : Ev (tCB rInt1 (tCons ta tNil)) σ H (.int (if b then 1 else 0)) := fun H1 e Q q => h H1 e _ fun H2 e2 => Or.inr ⟨b, rfl, q H2 e2⟩
def rAbs1 : List V → Hp → VK → Prop := fun xs H Q => ∃ i, xs = [.int i] ∧ Q (.int (if i < 0 then -i else i)) H
theorem ev_abs {i : Int} (h : Ev ta σ H (.int i)) : Ev (tCB rAbs1 (tCons ta tNil)) σ H (.int (if i < 0 then -i else i)) := fun H1 e Q q => h H1 e _ fun H2 e2 => ⟨i, rfl, q H2 e2⟩
def rMin2 : List V → Hp → VK → Prop := fun xs H Q => ∃ i j, xs = [.int i, .int j] ∧ Q (.int (if j < i then j else i)) H
theorem ev_min2 {i j : Int} (ha : Ev ta σ H (.int i)) (hb : Ev tb σ H (.int j)) : Ev (tCB rMin2 (tCons ta (tCons tb tNil))) σ H (.int (if j < i then j else i)) := fun H1 e Q q =>
  ha H1 e _ fun H2 e2 => hb H2 (e.trans e2) _ fun H3 e3 => ⟨i, j, rfl, q H3 (e2.trans e3)⟩
def rLenS1 : List V → Hp → VK → Prop := fun xs H Q => ∃ z, xs = [.str z] ∧ z.length ≤ sizeLine ∧ Q (.int z.length) H
theorem ev_lenS {z : Str} (h : Ev ta σ H (.str z)) (hz : z.length ≤ 100000) : Ev (tCB rLenS1 (tCons ta tNil)) σ H (.int z.length) := fun H1 e Q q => h H1 e _ fun H2 e2 => ⟨z, rfl, sz_of hz, q H2 e2⟩
theorem ev_lenT {p : Addr} {xs : List V} (ha : Ev ta σ H (.ref p)) (h : SqT K H p xs) : Ev (tCB (rLenS K) (tCons ta tNil)) σ H (.int (xs.length : Int)) := fun H1 e Q q =>
  ha H1 e _ fun H2 e2 => ⟨p, xs, rfl, Or.inr (ex_t (e.trans e2) h), q H2 e2⟩
/-- isinstance of a value and a class -/
theorem ev_isi {c : V} {ty u : Value} {b : Bool} (ha : Ev ta σ H x) (hb : Ev tb σ H c) (k : ClsV c u) (ht : ∀ H1, Ex H H1 → TyX K H1 x ty) (hk : PySem.W.kitOne K ty u = some b) : Ev (tCB (rIsi K) (tCons ta (tCons tb tNil))) σ H (.bl b) := fun H1 e Q q =>
  ha H1 e _ fun H2 e2 => hb H2 (e.trans e2) _ fun H3 e3 => ⟨x, c, ty, u, b, rfl, k, ht H3 ((e.trans e2).trans e3), hk, q H3 (e2.trans e3)⟩
theorem ty_int {i : Int} : ∀ H1, Ex H H1 → TyX K H1 (.int i) (.type "int") := fun _ _ => .base (.int i)
theorem ty_bl {b : Bool} : ∀ H1, Ex H H1 → TyX K H1 (.bl b) (.type "bool") := fun _ _ => .base (.bl b)
theorem ty_str {i : Str} : ∀ H1, Ex H H1 → TyX K H1 (.str i) (.type "str") := fun _ _ => .base (.str i)
theorem ty_non : ∀ H1, Ex H H1 → TyX K H1 .non (.type "NoneType") := fun _ _ => .base .non
theorem ev_lenI {p : Addr} {ns : List Int} (ha : Ev ta σ H (.ref p)) (h : SqL K H p (ns.map V.int)) : Ev (tCB (rLenS K) (tCons ta tNil)) σ H (.int (ns.length : Int)) := by
  have q := ev_len ha h
  rw [List.length_map] at q
  exact q
theorem ev_lenTI {p : Addr} {ns : List Int} (ha : Ev ta σ H (.ref p)) (h : SqT K H p (ns.map V.int)) : Ev (tCB (rLenS K) (tCons ta tNil)) σ H (.int (ns.length : Int)) := by
  have q := ev_lenT ha h
  rw [List.length_map] at q
  exact q
/-! lists of ints compared -/
theorem lay_ints : ∀ ns : List Int, PyData.canLayAll0 (ns.map PyData.int) = true
  | [] => rfl
  | n :: r => by
    show (PyData.canLay0 (.int n) && PyData.canLayAll0 (r.map PyData.int)) = true
    rw [lay_ints r]
    rfl
theorem depth_ints : ∀ ns : List Int, PyData.depthAll (ns.map PyData.int) = 0
  | [] => rfl
  | n :: r => by
    show max (PyData.depth (.int n)) (PyData.depthAll (r.map PyData.int)) = 0
    rw [depth_ints r]
    rfl
theorem eqv_ints : ∀ ns ms : List Int, PyData.eqvAll (ns.map PyData.int) (ms.map PyData.int) = decide (ns = ms)
  | [], [] => rfl
  | [], _ :: _ => rfl
  | _ :: _, [] => rfl
  | n :: r, m :: t => by
    show (n == m && PyData.eqvAll (r.map PyData.int) (t.map PyData.int)) = _
    rw [eqv_ints r t]
    by_cases h : n = m
    · subst h; simp
    · simp [h]
theorem shaped_ints (ns : List Int) : SeqAt.shaped (.list (ns.map PyData.int)) = true := by
  unfold SeqAt.shaped
  rw [Bool.and_eq_true]
  refine ⟨lay_ints ns, decide_eq_true ?_⟩
  show PyData.depthAll (ns.map PyData.int) + 1 ≤ 64
  rw [depth_ints]
  decide
theorem dp_ints : ∀ ns : List Int, DpAll K H (ns.map V.int) (ns.map PyData.int)
  | [] => .nil
  | n :: r => .cons (.int n) (dp_ints r)
theorem rv_eqDI {p q : Addr} {ns ms : List Int} (h1 : SqL K H p (ns.map V.int)) (h2 : SqL K H q (ms.map V.int)) : RV (rEqD K) (.ref p) (.ref q) H (.bl (decide (ns = ms))) := fun H1 e Q k =>
  ⟨_, _, .lst (ex_l e h1) (dp_ints ns), .lst (ex_l e h2) (dp_ints ms), shaped_ints ns, shaped_ints ms, by
    show Q (.bl (PyData.eqvAll _ _)) H1
    rw [eqv_ints]
    exact k H1 (Ex.refl H1)⟩
theorem rv_neDI {p q : Addr} {ns ms : List Int} (h1 : SqL K H p (ns.map V.int)) (h2 : SqL K H q (ms.map V.int)) : RV (rNeD K) (.ref p) (.ref q) H (.bl (!decide (ns = ms))) := fun H1 e Q k =>
  ⟨_, _, .lst (ex_l e h1) (dp_ints ns), .lst (ex_l e h2) (dp_ints ms), shaped_ints ns, shaped_ints ms, by
    show Q (.bl (!PyData.eqvAll _ _)) H1
    rw [eqv_ints]
    exact k H1 (Ex.refl H1)⟩
theorem cutV_mid (xs : List V) (a b : Nat) : cutV xs (some (a : Int)) (some (b : Int)) = (xs.drop a).take (b - a) := by
  unfold cutV
  rw [HT.sIx_nat, HT.sIx_nat]
  by_cases h : a ≤ xs.length
  · have e1 : min a xs.length = a := by omega
    rw [e1]
    by_cases g : b ≤ xs.length
    · have e2 : min b xs.length = b := by omega
      rw [e2]
    · have e2 : min b xs.length = xs.length := by omega
      rw [e2, List.take_of_length_le (by rw [List.length_drop]; omega), List.take_of_length_le (by rw [List.length_drop]; omega)]
  · have e1 : min a xs.length = xs.length := by omega
    rw [e1, List.drop_of_length_le (Nat.le_refl _), List.drop_of_length_le (show xs.length ≤ a by omega), List.take_nil, List.take_nil]
/-! a list or a tuple -/
theorem q_mv {P : Hp → Prop} (e : Ex H H') (q : ∀ H1, Ex H H1 → P H1) : ∀ H1, Ex H' H1 → P H1 := fun H1 e1 => q H1 (e.trans e1)
theorem q_mvL {P : Addr → Hp → Prop} {o : HO} (e : Ex H H') (q : ∀ p H1, H p = none → Ex H H1 → H1 p = some o → P p H1) : ∀ p H1, H' p = none → Ex H' H1 → H1 p = some o → P p H1 := fun p H1 hp e1 h1 => q p H1 (fresh_back e hp) (e.trans e1) h1
theorem ty_list {a : Addr} {xs : List V} (h : H a = some (.lst xs)) : ∀ H1, Ex H H1 → TyX K H1 (.ref a) (.type "list") := fun H1 e => .base (.lst (e a _ h))
theorem ty_tup {a : Addr} {xs : List V} (h : H a = some (.tup xs)) : ∀ H1, Ex H H1 → TyX K H1 (.ref a) (.type "tuple") := fun H1 e => .base (.tup (e a _ h))
def SqQ (K : PySem.W.Frag) (H : Hp) (a : Addr) (xs : List V) : Prop := SqL K H a xs ∨ SqT K H a xs
theorem ex_q {a : Addr} {xs : List V} (e : Ex H H') (h : SqQ K H a xs) : SqQ K H' a xs := h.elim (fun z => Or.inl (ex_l e z)) fun z => Or.inr (ex_t e z)
theorem at_ints {ns : List Int} {i : Int} (h0 : 0 ≤ i) (h1 : i < (ns.length : Int)) : atI (ns.map V.int) i = some (.int (ns.getD i.toNat 0)) := by
  obtain ⟨j, rfl⟩ : ∃ j : Nat, i = (j : Int) := ⟨i.toNat, by omega⟩
  have hj : j < ns.length := by omega
  refine atI_nat ?_
  rw [List.getElem?_map, List.getElem?_eq_getElem hj]
  show some (V.int ns[j]) = some (V.int (ns.getD ((j : Int).toNat) 0))
  rw [Int.toNat_natCast, List.getD_eq_getElem?_getD, List.getElem?_eq_getElem hj]
  rfl
theorem rv_ixQI {p : Addr} {ns : List Int} {i : Int} (h : SqQ K H p (ns.map V.int)) (h0 : 0 ≤ i) (h1 : i < (ns.length : Int)) : RV (rIx K) (.ref p) (.int i) H (.int (ns.getD i.toNat 0)) := fun H1 e Q q =>
  h.elim (fun z => Or.inl ⟨p, _, i, _, rfl, rfl, ex_l e z, at_ints h0 h1, q H1 (Ex.refl H1)⟩) fun z => Or.inr (Or.inl ⟨p, _, i, _, rfl, rfl, ex_t e z, at_ints h0 h1, q H1 (Ex.refl H1)⟩)
theorem ev_lenQ {p : Addr} {xs : List V} (ha : Ev ta σ H (.ref p)) (h : SqQ K H p xs) : Ev (tCB (rLenS K) (tCons ta tNil)) σ H (.int (xs.length : Int)) := fun H1 e Q q =>
  ha H1 e _ fun H2 e2 => ⟨p, xs, rfl, h.elim (fun z => Or.inl (ex_l (e.trans e2) z)) fun z => Or.inr (ex_t (e.trans e2) z), q H2 e2⟩
theorem ev_lenQI {p : Addr} {ns : List Int} (ha : Ev ta σ H (.ref p)) (h : SqQ K H p (ns.map V.int)) : Ev (tCB (rLenS K) (tCons ta tNil)) σ H (.int (ns.length : Int)) := by
  have q := ev_lenQ ha h
  rw [List.length_map] at q
  exact q
theorem el_listQ {p : Addr} {xs : List V} (ha : Ev ta σ H (.ref p)) (h : SqQ K H p xs) : EvL (tCB (rListS K) (tCons ta tNil)) σ H xs := fun H1 e Q q =>
  ha H1 e _ fun H2 e2 => ⟨p, xs, rfl, h.elim (fun z => Or.inl (ex_l (e.trans e2) z)) fun z => Or.inr (ex_t (e.trans e2) z), fun l hl => q l _ (fresh_back e2 hl) (e2.trans (Ex.new hl)) upd_same⟩
def rTupS (K : PySem.W.Frag) : List V → Hp → VK → Prop := fun xs H Q => ∃ p ys, xs = [.ref p] ∧ ((SqL K H p ys ∧ ∀ l, H l = none → Q (.ref l) (upd H l (.tup ys))) ∨ (SqT K H p ys ∧ Q (.ref p) H))
theorem eu_tupL {p : Addr} {xs : List V} (ha : Ev ta σ H (.ref p)) (h : SqL K H p xs) : EvU (tCB (rTupS K) (tCons ta tNil)) σ H xs := fun H1 e Q q =>
  ha H1 e _ fun H2 e2 => ⟨p, xs, rfl, Or.inl ⟨ex_l (e.trans e2) h, fun l hl => q l _ (fresh_back e2 hl) (e2.trans (Ex.new hl)) upd_same⟩⟩
theorem eu_tupN {xs : List V} (ha : EvL ta σ H xs) : EvU (tCB (rTupS K) (tCons ta tNil)) σ H xs := fun H1 e Q q =>
  ha H1 e _ fun p H2 _ e2 hp => ⟨p, xs, rfl, Or.inl ⟨sq_of hp, fun l hl => q l _ (fresh_back e2 hl) (e2.trans (Ex.new hl)) upd_same⟩⟩
theorem el_listN {xs : List V} (ha : EvL ta σ H xs) : EvL (tCB (rListS K) (tCons ta tNil)) σ H xs := fun H1 e Q q =>
  ha H1 e _ fun p H2 _ e2 hp => ⟨p, xs, rfl, Or.inl (sq_of hp), fun l hl => q l _ (fresh_back e2 hl) (e2.trans (Ex.new hl)) upd_same⟩
/-- a call whose one argument is a new list, a new tuple -/
theorem ev_call1L {sp : Sp} {xs : List V} {E : XK} (h : EvL ta σ H xs) (hs : ∀ p H1, Ex H H1 → H1 p = some (.lst xs) → SpV sp [.ref p] H1 z) : Ev (tCall sp [] E (tCons ta tNil)) σ H z := fun H1 e Q q =>
  h H1 e _ fun p H2 _ e2 hp => hs p H2 (e.trans e2) hp H2 (Ex.refl H2) Q (fun H3 e3 => q H3 (e2.trans e3)) E
theorem ev_call1U {sp : Sp} {xs : List V} {E : XK} (h : EvU ta σ H xs) (hs : ∀ p H1, Ex H H1 → H1 p = some (.tup xs) → SpV sp [.ref p] H1 z) : Ev (tCall sp [] E (tCons ta tNil)) σ H z := fun H1 e Q q =>
  h H1 e _ fun p H2 _ e2 hp => hs p H2 (e.trans e2) hp H2 (Ex.refl H2) Q (fun H3 e3 => q H3 (e2.trans e3)) E
/-- arguments some of which are new objects -/
def EvAX (ta : TA) (σ : L2.St) (H : Hp) (P : List V → Hp → Prop) : Prop := ∀ H1, Ex H H1 → ∀ Q : List V → Hp → Prop, (∀ vs H2, Ex H1 H2 → P vs H2 → Q vs H2) → ta σ H1 Q
theorem eax_nil : EvAX tNil σ H (fun vs _ => vs = []) := fun H1 _ _ q => q [] H1 (Ex.refl H1) rfl
theorem eax_V {tr : TA} {P : List V → Hp → Prop} (h : Ev ta σ H v) (hr : EvAX tr σ H P) : EvAX (tCons ta tr) σ H (fun vs H => ∃ r, vs = v :: r ∧ P r H) := fun H1 e Q q =>
  h H1 e _ fun H2 e2 => hr H2 (e.trans e2) _ fun vs H3 e3 hp => q _ H3 (e2.trans e3) ⟨vs, rfl, hp⟩
theorem eax_L {tr : TA} {P : List V → Hp → Prop} {xs : List V} (h : EvL ta σ H xs) (hr : EvAX tr σ H P) : EvAX (tCons ta tr) σ H (fun vs H => ∃ p r, vs = .ref p :: r ∧ H p = some (.lst xs) ∧ P r H) := fun H1 e Q q =>
  h H1 e _ fun p H2 _ e2 h2 => hr H2 (e.trans e2) _ fun vs H3 e3 hp => q _ H3 (e2.trans e3) ⟨p, vs, rfl, e3 _ _ h2, hp⟩
theorem eax_U {tr : TA} {P : List V → Hp → Prop} {xs : List V} (h : EvU ta σ H xs) (hr : EvAX tr σ H P) : EvAX (tCons ta tr) σ H (fun vs H => ∃ p r, vs = .ref p :: r ∧ H p = some (.tup xs) ∧ P r H) := fun H1 e Q q =>
  h H1 e _ fun p H2 _ e2 h2 => hr H2 (e.trans e2) _ fun vs H3 e3 hp => q _ H3 (e2.trans e3) ⟨p, vs, rfl, e3 _ _ h2, hp⟩
theorem ev_callX {sp : Sp} {P : List V → Hp → Prop} {E : XK} {tr : TA} (h : EvAX tr σ H P) (hs : ∀ vs H1, Ex H H1 → P vs H1 → SpV sp vs H1 z) : Ev (tCall sp [] E tr) σ H z := fun H1 e Q q =>
  h H1 e _ fun vs H2 e2 hp => by
    rw [List.append_nil]
    exact hs vs H2 (e.trans e2) hp H2 (Ex.refl H2) Q (fun H3 e3 => q H3 (e2.trans e3)) E
theorem el_callX {sp : Sp} {P : List V → Hp → Prop} {E : XK} {tr : TA} {xs : List V} (h : EvAX tr σ H P) (hs : ∀ vs H1, Ex H H1 → P vs H1 → SpL sp vs H1 xs) : EvL (tCall sp [] E tr) σ H xs := fun H1 e Q q =>
  h H1 e _ fun vs H2 e2 hp => by
    rw [List.append_nil]
    exact hs vs H2 (e.trans e2) hp H2 (Ex.refl H2) Q (fun p H3 h3 e3 g => q p H3 (fresh_back e2 h3) (e2.trans e3) g) E
theorem eu_callX {sp : Sp} {P : List V → Hp → Prop} {E : XK} {tr : TA} {xs : List V} (h : EvAX tr σ H P) (hs : ∀ vs H1, Ex H H1 → P vs H1 → SpU sp vs H1 xs) : EvU (tCall sp [] E tr) σ H xs := fun H1 e Q q =>
  h H1 e _ fun vs H2 e2 hp => by
    rw [List.append_nil]
    exact hs vs H2 (e.trans e2) hp H2 (Ex.refl H2) Q (fun p H3 h3 e3 g => q p H3 (fresh_back e2 h3) (e2.trans e3) g) E
/-! new tuples and lists from calls -/
theorem eu_call {sp : Sp} {dvs vs xs : List V} {E : XK} {ta : TA} (h : EvA ta σ H vs) (hs : SpU sp (vs ++ dvs) H xs) : EvU (tCall sp dvs E ta) σ H xs := fun H1 e Q q =>
  h H1 e _ fun H2 e2 => hs H2 (e.trans e2) Q (fun p H3 hp e3 h3 => q p H3 (fresh_back e2 hp) (e2.trans e3) h3) E
/-! ### statements relative to a ground heap H0 -/
theorem r_asg {i : Nat} (e : Ex H0 H1) (h : Ev te σ H0 v) (k : ∀ H2, Ex H0 H2 → Ex H1 H2 → tz D (σ.set i (some v)) H2) : tSeq (tAsg te (gName i)) tz D σ H1 := h H1 e _ fun H2 e2 => k H2 (e.trans e2) e2
/-- a new list, a new tuple: the ground moves on -/
theorem r_asgL {i : Nat} {xs : List V} (e : Ex H0 H1) (h : EvL te σ H0 xs) (k : ∀ p H2, H0 p = none → Ex H0 H2 → Ex H1 H2 → H2 p = some (.lst xs) → tz D (σ.set i (some (.ref p))) H2) : tSeq (tAsg te (gName i)) tz D σ H1 :=
  h H1 e _ fun p H2 hp e2 h2 => k p H2 (fresh_back e hp) (e.trans e2) e2 h2
theorem r_asgU {i : Nat} {xs : List V} (e : Ex H0 H1) (h : EvU te σ H0 xs) (k : ∀ p H2, H0 p = none → Ex H0 H2 → Ex H1 H2 → H2 p = some (.tup xs) → tz D (σ.set i (some (.ref p))) H2) : tSeq (tAsg te (gName i)) tz D σ H1 :=
  h H1 e _ fun p H2 hp e2 h2 => k p H2 (fresh_back e hp) (e.trans e2) e2 h2
theorem r_aug {i : Nat} {f : Int → Int → Int} {a b : Int} (e : Ex H0 H1) (hx : σ[i]? = some (some (.int a))) (h : Ev te σ H0 (.int b)) (k : ∀ H2, Ex H0 H2 → Ex H1 H2 → tz D (σ.set i (some (.int (f a b)))) H2) : tSeq (tAug i te (ipI f)) tz D σ H1 :=
  ⟨.int a, hx, h H1 e _ fun H2 e2 => ⟨a, b, rfl, rfl, k H2 (e.trans e2) e2⟩⟩
theorem r_if (e : Ex H0 H1) (h : EtP t σ H0 p) (h1 : p → ∀ H2, Ex H0 H2 → Ex H1 H2 → tu { D with nx := tz D } σ H2) (h2 : ¬ p → ∀ H2, Ex H0 H2 → Ex H1 H2 → tw { D with nx := tz D } σ H2) : tSeq (tIfS t tu tw) tz D σ H1 := by
  obtain ⟨b, hb, h⟩ := h
  refine h H1 e _ fun H2 e2 => ?_
  cases b with
  | true => exact h1 (hb.mp rfl) H2 (e.trans e2) e2
  | false => exact h2 (fun z => nomatch hb.mpr z) H2 (e.trans e2) e2
/-- an if without else whose way ends -/
theorem r_when (e : Ex H0 H1) (h : EtP t σ H0 p) (h1 : p → ∀ H2, Ex H0 H2 → Ex H1 H2 → tu { D with nx := tz D } σ H2) (h2 : ¬ p → ∀ H2, Ex H0 H2 → Ex H1 H2 → tz D σ H2) : tSeq (tIfS t tu tNext) tz D σ H1 := r_if e h h1 h2
/-- an if both of whose ways go on (its term: pss_cut): J tells the slots and the heap behind it -/
theorem r_ifJ (e : Ex H0 H1) (h : EtP t σ H0 p) (J : L2.St → Hp → Prop) (h1 : p → ∀ H2, Ex H0 H2 → Ex H1 H2 → tu { D with nx := J } σ H2) (h2 : ¬ p → ∀ H2, Ex H0 H2 → Ex H1 H2 → tw { D with nx := J } σ H2) (hd : ∀ σ' H', J σ' H' → tz D σ' H') : tCut (tIfS t tu tw) tz D σ H1 := by
  refine ⟨J, ?_, hd⟩
  obtain ⟨b, hb, h⟩ := h
  refine h H1 e _ fun H2 e2 => ?_
  cases b with
  | true => exact h1 (hb.mp rfl) H2 (e.trans e2) e2
  | false => exact h2 (fun z => nomatch hb.mpr z) H2 (e.trans e2) e2
theorem r_ret (e : Ex H0 H1) (h : Ev te σ H0 v) (k : ∀ H2, Ex H0 H2 → D.rt v H2) : tSeq (tRet te) tz D σ H1 := h H1 e _ fun H2 e2 => k H2 (e.trans e2)
theorem r_retL {xs : List V} (e : Ex H0 H1) (h : EvL te σ H0 xs) (k : ∀ p H2, H0 p = none → Ex H0 H2 → H2 p = some (.lst xs) → D.rt (.ref p) H2) : tSeq (tRet te) tz D σ H1 := h H1 e _ fun p H2 hp e2 h2 => k p H2 (fresh_back e hp) (e.trans e2) h2
theorem r_retU {xs : List V} (e : Ex H0 H1) (h : EvU te σ H0 xs) (k : ∀ p H2, H0 p = none → Ex H0 H2 → H2 p = some (.tup xs) → D.rt (.ref p) H2) : tSeq (tRet te) tz D σ H1 := h H1 e _ fun p H2 hp e2 h2 => k p H2 (fresh_back e hp) (e.trans e2) h2
theorem r_drop (e : Ex H0 H1) (h : Ev te σ H0 v) (k : ∀ H2, Ex H0 H2 → Ex H1 H2 → tz D σ H2) : tSeq (tDrop te) tz D σ H1 := h H1 e _ fun H2 e2 => k H2 (e.trans e2) e2
theorem r_next (h : D.nx σ H) : tNext D σ H := h
theorem r_seq {t1 : TS} (h : t1 { D with nx := tz D } σ H) : tSeq t1 tz D σ H := h
/-- xs.append(e): the list is not in the ground -/
theorem r_app {l : Addr} {xs : List V} (e : Ex H0 H1) (hn : H0 l = none) (hl : H1 l = some (.lst xs)) (ha : Ev ta σ H0 (.ref l)) (h : Ev te σ H0 v) (hz : xs.length < 100000)
    (k : ∀ H2, Ex H0 H2 → H2 l = some (.lst (xs ++ [v])) → (∀ a o, a ≠ l → H1 a = some o → H2 a = some o) → tz D σ H2) : tSeq (tDrop (tBM K "list" rAppend ta (tCons te tNil))) tz D σ H1 := ha H1 e _ fun H2 e1 =>
  ⟨Or.inl ⟨rfl, xs, sq_of (e1 l _ hl)⟩, h H2 (e.trans e1) _ fun H3 e2 => ⟨l, xs, v, rfl, rfl, e2 l _ (e1 l _ hl), sz_lt hz, k _ (Ex.mut ((e.trans e1).trans e2) hn) upd_same fun a o ne ho => by
    rw [upd_ne ne]
    exact e2 a o (e1 a o ho)⟩⟩
theorem r_appM {α : Type} {f : α → V} {l : Addr} {ms : List α} {n : α} (e : Ex H0 H1) (hn : H0 l = none) (hl : H1 l = some (.lst (ms.map f))) (ha : Ev ta σ H0 (.ref l)) (h : Ev te σ H0 (f n)) (hz : ms.length < 100000)
    (k : ∀ H2, Ex H0 H2 → H2 l = some (.lst ((ms ++ [n]).map f)) → (∀ a o, a ≠ l → H1 a = some o → H2 a = some o) → tz D σ H2) : tSeq (tDrop (tBM K "list" rAppend ta (tCons te tNil))) tz D σ H1 :=
  r_app e hn hl ha h (by rw [List.length_map]; exact hz) fun H2 e2 h2 hk => k H2 e2 (by rw [List.map_append]; exact h2) hk
theorem r_appU {l : Addr} {xs ys : List V} (e : Ex H0 H1) (hn : H0 l = none) (hl : H1 l = some (.lst xs)) (ha : Ev ta σ H0 (.ref l)) (h : EvU te σ H0 ys) (hz : xs.length < 100000)
    (k : ∀ p H2, H1 p = none → p ≠ l → Ex H0 H2 → H2 l = some (.lst (xs ++ [.ref p])) → H2 p = some (.tup ys) → (∀ a o, a ≠ l → H1 a = some o → H2 a = some o) → tz D σ H2) : tSeq (tDrop (tBM K "list" rAppend ta (tCons te tNil))) tz D σ H1 := ha H1 e _ fun H2 e1 =>
  ⟨Or.inl ⟨rfl, xs, sq_of (e1 l _ hl)⟩, h H2 (e.trans e1) _ fun p H3 hp e2 h2 => by
    have ne : p ≠ l := fun z => by
      rw [z, e1 l _ hl] at hp
      cases hp
    refine ⟨l, xs, .ref p, rfl, rfl, e2 l _ (e1 l _ hl), sz_lt hz, k p _ (fresh_back e1 hp) ne (Ex.mut ((e.trans e1).trans e2) hn) upd_same (by rw [upd_ne ne]; exact h2) fun a o ne ho => ?_⟩
    rw [upd_ne ne]
    exact e2 a o (e1 a o ho)⟩
/-- a call that hands back a new list of which P holds -/
def EvLE (te : TE) (σ : L2.St) (H : Hp) (P : List V → Prop) : Prop := ∀ H1, Ex H H1 → ∀ Q : VK, (∀ p H2 xs, P xs → H1 p = none → Ex H1 H2 → H2 p = some (.lst xs) → Q (.ref p) H2) → te σ H1 Q
def SpLE (sp : Sp) (vs : List V) (H : Hp) (P : List V → Prop) : Prop := ∀ H1, Ex H H1 → ∀ Q : VK, (∀ p H2 xs, P xs → H1 p = none → Ex H1 H2 → H2 p = some (.lst xs) → Q (.ref p) H2) → ∀ E : XK, sp vs H1 Q E
theorem ele_call {sp : Sp} {dvs vs : List V} {P : List V → Prop} {E : XK} {ta : TA} (h : EvA ta σ H vs) (hs : SpLE sp (vs ++ dvs) H P) : EvLE (tCall sp dvs E ta) σ H P := fun H1 e Q q =>
  h H1 e _ fun H2 e2 => hs H2 (e.trans e2) Q (fun p H3 xs hx hp e3 h3 => q p H3 xs hx (fresh_back e2 hp) (e2.trans e3) h3) E
theorem r_asgLE {i : Nat} {P : List V → Prop} (e : Ex H0 H1) (h : EvLE te σ H0 P) (k : ∀ p H2 xs, P xs → H0 p = none → Ex H0 H2 → Ex H1 H2 → H2 p = some (.lst xs) → tz D (σ.set i (some (.ref p))) H2) : tSeq (tAsg te (gName i)) tz D σ H1 :=
  h H1 e _ fun p H2 xs hx hp e2 h2 => k p H2 xs hx (fresh_back e hp) (e.trans e2) e2 h2
/-- for a, b in zip(t, u) over two tuples -/
theorem r_forZT {a b : Addr} {xs ys : List V} {ta : TA} {j k : Nat} (e : Ex H0 H1) (h : EvA ta σ H0 [.ref a, .ref b]) (hl : xs.length = ys.length) (hx : SqT K H0 a xs) (hy : SqT K H0 b ys) (I : Nat → L2.St → Prop) (h0 : I 0 σ)
    (hs : ∀ (i : Nat) x y σ' H', xs[i]? = some x → ys[i]? = some y → I i σ' → Ex H0 H' → tu { D with nx := fun σ2 H2 => I (i + 1) σ2 ∧ Ex H0 H2, ct := fun σ2 H2 => I (i + 1) σ2 ∧ Ex H0 H2, bk := tz D } ((σ'.set j (some x)).set k (some y)) H')
    (hd : ∀ σ' H', I xs.length σ' → Ex H0 H' → tz D σ' H') : tSeq (tFor (iZipA K ta) (gTup K 2 (gCons (gName j) (gCons (gName k) gNil))) tu) tz D σ H1 :=
  h H1 e _ fun H2 e2 => ⟨a, b, xs, ys, rfl, Or.inr ⟨ex_t (e.trans e2) hx, ex_t (e.trans e2) hy, for_zipT (D := { D with nx := tz D }) hl (fun i σ' H' => I i σ' ∧ Ex H0 H') ⟨h0, e.trans e2⟩ (fun i σ' H' p => ⟨ex_t p.2 hx, ex_t p.2 hy⟩)
    (fun i x y T σ' H' hi hj p hT => ⟨T, [x, y], rfl, st_of upd_same, rfl, x, [y], rfl, y, [], rfl, rfl, hs i x y σ' _ hi hj p.1 (p.2.trans (Ex.new hT))⟩) fun σ' H' p => hd σ' H' p.1 p.2⟩⟩
theorem r_forZTM {α β : Type} {f : α → V} {g : β → V} {a b : Addr} {xs : List α} {ys : List β} {ta : TA} {j k : Nat} (e : Ex H0 H1) (h : EvA ta σ H0 [.ref a, .ref b]) (hl : xs.length = ys.length) (hx : SqT K H0 a (xs.map f)) (hy : SqT K H0 b (ys.map g)) (I : Nat → L2.St → Prop) (h0 : I 0 σ)
    (hs : ∀ (i : Nat) x y σ' H', xs[i]? = some x → ys[i]? = some y → I i σ' → Ex H0 H' → tu { D with nx := fun σ2 H2 => I (i + 1) σ2 ∧ Ex H0 H2, ct := fun σ2 H2 => I (i + 1) σ2 ∧ Ex H0 H2, bk := tz D } ((σ'.set j (some (f x))).set k (some (g y))) H')
    (hd : ∀ σ' H', I xs.length σ' → Ex H0 H' → tz D σ' H') : tSeq (tFor (iZipA K ta) (gTup K 2 (gCons (gName j) (gCons (gName k) gNil))) tu) tz D σ H1 :=
  r_forZT e h (by rw [List.length_map, List.length_map]; exact hl) hx hy I h0 (fun i x y σ' H' hi hj p e => by
    rw [List.getElem?_map] at hi hj
    cases c : xs[i]? with
    | none => rw [c] at hi; cases hi
    | some u =>
      cases d : ys[i]? with
      | none => rw [d] at hj; cases hj
      | some v =>
        rw [c] at hi
        rw [d] at hj
        obtain rfl : f u = x := Option.some.inj hi
        obtain rfl : g v = y := Option.some.inj hj
        exact hs i u v σ' H' c d p e) fun σ' H' p e => hd σ' H' (by rw [List.length_map] at p; exact p) e
/-- xs.pop() as a statement -/
theorem r_pop {l : Addr} {xs : List V} {y : V} (e : Ex H0 H1) (hn : H0 l = none) (hl : H1 l = some (.lst xs)) (ha : Ev ta σ H0 (.ref l)) (hy : xs[xs.length - 1]? = some y)
    (k : ∀ H2, Ex H0 H2 → H2 l = some (.lst xs.dropLast) → (∀ a o, a ≠ l → H1 a = some o → H2 a = some o) → tz D σ H2) : tSeq (tDrop (tBM0 K "list" rPop ta)) tz D σ H1 := ha H1 e _ fun H2 e1 =>
  ⟨Or.inl ⟨rfl, xs, sq_of (e1 l _ hl)⟩, l, xs, y, rfl, rfl, e1 l _ hl, hy, k _ (Ex.mut (e.trans e1) hn) upd_same fun a o ne ho => by
    rw [upd_ne ne]
    exact e1 a o ho⟩
/-- for over range(n), by a word of the slots; the heap only grows -/
theorem r_forR {ta : TA} {j : Nat} {n : Int} (e : Ex H0 H1) (h : EvA ta σ H0 [.int n]) (hn : -100000 ≤ n ∧ n ≤ 100000) (I : Nat → L2.St → Prop) (h0 : I 0 σ)
    (hs : ∀ (i : Nat) σ' H', (i : Int) < n → I i σ' → Ex H0 H' → tu { D with nx := fun σ2 H2 => I (i + 1) σ2 ∧ Ex H0 H2, ct := fun σ2 H2 => I (i + 1) σ2 ∧ Ex H0 H2, bk := tz D } (σ'.set j (some (.int (i : Int)))) H')
    (hd : ∀ σ' H', I n.toNat σ' → Ex H0 H' → tz D σ' H') : tSeq (tFor (iRng1 ta) (gName j) tu) tz D σ H1 :=
  h H1 e _ fun H2 e2 => ⟨n, rfl, by omega, by omega, for_range (lo := 0) (n := n.toNat) (D := { D with nx := tz D }) (fun i σ' H' => I i σ' ∧ Ex H0 H') ⟨h0, e.trans e2⟩ (fun i σ' H' hi p => by
    have e0 : (0 : Int) + (i : Int) = (i : Int) := Int.zero_add _
    show tu { D with nx := fun σ2 H2 => I (i + 1) σ2 ∧ Ex H0 H2, ct := fun σ2 H2 => I (i + 1) σ2 ∧ Ex H0 H2, bk := tz D } (σ'.set j (some (.int ((0 : Int) + (i : Int))))) H'
    rw [e0]
    exact hs i σ' H' (by omega) p.1 p.2) fun σ' H' p => hd σ' H' p.1 p.2⟩
/-- .. by a word of the slots and the heap -/
theorem r_forRH {ta : TA} {j : Nat} {n : Int} (e : Ex H0 H1) (h : EvA ta σ H0 [.int n]) (hn : -100000 ≤ n ∧ n ≤ 100000) (I : Nat → L2.St → Hp → Prop) (h0 : ∀ H2, Ex H1 H2 → I 0 σ H2)
    (hs : ∀ (i : Nat) σ' H', (i : Int) < n → I i σ' H' → tu { D with nx := I (i + 1), ct := I (i + 1), bk := tz D } (σ'.set j (some (.int (i : Int)))) H')
    (hd : ∀ σ' H', I n.toNat σ' H' → tz D σ' H') : tSeq (tFor (iRng1 ta) (gName j) tu) tz D σ H1 :=
  h H1 e _ fun H2 e2 => ⟨n, rfl, by omega, by omega, for_range (lo := 0) (n := n.toNat) (D := { D with nx := tz D }) I (h0 H2 e2) (fun i σ' H' hi p => by
    have e0 : (0 : Int) + (i : Int) = (i : Int) := Int.zero_add _
    show tu { D with nx := I (i + 1), ct := I (i + 1), bk := tz D } (σ'.set j (some (.int ((0 : Int) + (i : Int))))) H'
    rw [e0]
    exact hs i σ' H' (by omega) p) hd⟩
/-- for over a list of ints that stands -/
theorem r_forLI {a : Addr} {ns : List Int} {tl : TE} {j : Nat} (e : Ex H0 H1) (h : Ev tl σ H0 (.ref a)) (hx : SqL K H0 a (ns.map V.int)) (I : Nat → L2.St → Hp → Prop) (hw : ∀ i σ' H', I i σ' H' → Ex H0 H') (h0 : ∀ H2, Ex H1 H2 → I 0 σ H2)
    (hs : ∀ (i : Nat) (n : Int) σ' H', ns[i]? = some n → I i σ' H' → tu { D with nx := I (i + 1), ct := I (i + 1), bk := tz D } (σ'.set j (some (.int n))) H')
    (hd : ∀ σ' H', I ns.length σ' H' → tz D σ' H') : tSeq (tFor (iList K tl) (gName j) tu) tz D σ H1 :=
  h H1 e _ fun H2 e2 => ⟨a, rfl, ⟨_, ex_l (e.trans e2) hx⟩, for_list (D := { D with nx := tz D }) I (h0 H2 e2) (fun i σ' H' _ p => ex_l (hw i σ' H' p) hx) (fun i x σ' H' hi p => by
    rw [List.getElem?_map] at hi
    cases g : ns[i]? with
    | none => rw [g] at hi; cases hi
    | some n =>
      rw [g] at hi
      obtain rfl : V.int n = x := Option.some.inj hi
      exact hs i n σ' H' g p) fun σ' H' p => hd σ' H' (by rw [List.length_map] at p; exact p)⟩
/-- .. of anything -/
theorem r_forLM {α : Type} {f : α → V} {a : Addr} {ns : List α} {tl : TE} {j : Nat} (e : Ex H0 H1) (h : Ev tl σ H0 (.ref a)) (hx : SqL K H0 a (ns.map f)) (I : Nat → L2.St → Hp → Prop) (hw : ∀ i σ' H', I i σ' H' → Ex H0 H') (h0 : ∀ H2, Ex H1 H2 → I 0 σ H2)
    (hs : ∀ (i : Nat) (n : α) σ' H', ns[i]? = some n → I i σ' H' → tu { D with nx := I (i + 1), ct := I (i + 1), bk := tz D } (σ'.set j (some (f n))) H')
    (hd : ∀ σ' H', I ns.length σ' H' → tz D σ' H') : tSeq (tFor (iList K tl) (gName j) tu) tz D σ H1 :=
  h H1 e _ fun H2 e2 => ⟨a, rfl, ⟨_, ex_l (e.trans e2) hx⟩, for_list (D := { D with nx := tz D }) I (h0 H2 e2) (fun i σ' H' _ p => ex_l (hw i σ' H' p) hx) (fun i x σ' H' hi p => by
    rw [List.getElem?_map] at hi
    cases g : ns[i]? with
    | none => rw [g] at hi; cases hi
    | some n =>
      rw [g] at hi
      obtain rfl : f n = x := Option.some.inj hi
      exact hs i n σ' H' g p) fun σ' H' p => hd σ' H' (by rw [List.length_map] at p; exact p)⟩
/-- .. over a displayed or called, new list -/
theorem r_forNM {α : Type} {f : α → V} {ns : List α} {tl : TE} {j : Nat} (e : Ex H0 H1) (h : EvL tl σ H0 (ns.map f)) (I : Hp → Nat → L2.St → Hp → Prop) (hw : ∀ G i σ' H', I G i σ' H' → Ex G H') (h0 : ∀ G, Ex H0 G → Ex H1 G → I G 0 σ G)
    (hs : ∀ G, Ex H0 G → ∀ (i : Nat) (n : α) σ' H', ns[i]? = some n → I G i σ' H' → tu { D with nx := I G (i + 1), ct := I G (i + 1), bk := tz D } (σ'.set j (some (f n))) H')
    (hd : ∀ G, Ex H0 G → ∀ σ' H', I G ns.length σ' H' → tz D σ' H') : tSeq (tFor (iList K tl) (gName j) tu) tz D σ H1 :=
  h H1 e _ fun a G ha e2 h2 => ⟨a, rfl, ⟨_, sq_of h2⟩, for_list (D := { D with nx := tz D }) (I G) (h0 G (e.trans e2) e2) (fun i σ' H' _ p => ex_l (hw G i σ' H' p) (sq_of h2)) (fun i x σ' H' hi p => by
    rw [List.getElem?_map] at hi
    cases g : ns[i]? with
    | none => rw [g] at hi; cases hi
    | some n =>
      rw [g] at hi
      obtain rfl : f n = x := Option.some.inj hi
      exact hs G (e.trans e2) i n σ' H' g p) fun σ' H' p => hd G (e.trans e2) σ' H' (by rw [List.length_map] at p; exact p)⟩
/-- while, by a word of the measure, the slots and the heap -/
theorem r_whileH (e : Ex H0 H1) (W : Nat → L2.St → Hp → Prop) (m0 : Nat) (hw : ∀ m σ' H', W m σ' H' → Ex H0 H') (h0 : W m0 σ H1)
    (hs : ∀ m σ' H', W m σ' H' → ∃ p, EtP t σ' H0 p ∧ (p → ∀ H2, Ex H0 H2 → Ex H' H2 → tu { D with nx := fun σ2 H3 => ∃ m', m' < m ∧ W m' σ2 H3, ct := fun σ2 H3 => ∃ m', m' < m ∧ W m' σ2 H3, bk := tz D } σ' H2) ∧ (¬ p → ∀ H2, Ex H0 H2 → Ex H' H2 → tz D σ' H2)) :
    tSeq (tWhile t tu) tz D σ H1 := by
  refine q_while W m0 h0 ?_
  intro m σ' H' hwm
  have e' := hw m σ' H' hwm
  obtain ⟨p, ⟨b, hb, ht⟩, h1, h2⟩ := hs m σ' H' hwm
  refine ⟨b, ht.mono e', fun eb H2 e2 => ?_, fun eb H2 e2 => ?_⟩
  · exact ⟨_, fun σ2 H3 z => z, h1 (hb.mp eb) H2 (e'.trans e2) e2⟩
  · refine h2 (fun z => ?_) H2 (e'.trans e2) e2
    have := hb.mpr z
    rw [eb] at this
    cases this
/-- for over a list that stands -/
theorem r_forL {a : Addr} {xs : List V} {tl : TE} {j : Nat} (e : Ex H0 H1) (h : Ev tl σ H0 (.ref a)) (hx : SqL K H0 a xs) (I : Nat → L2.St → Prop) (h0 : I 0 σ)
    (hs : ∀ (i : Nat) x σ' H', xs[i]? = some x → I i σ' → Ex H0 H' → tu { D with nx := fun σ2 H2 => I (i + 1) σ2 ∧ Ex H0 H2, ct := fun σ2 H2 => I (i + 1) σ2 ∧ Ex H0 H2, bk := tz D } (σ'.set j (some x)) H')
    (hd : ∀ σ' H', I xs.length σ' → Ex H0 H' → tz D σ' H') : tSeq (tFor (iList K tl) (gName j) tu) tz D σ H1 :=
  h H1 e _ fun H2 e2 => ⟨a, rfl, ⟨xs, ex_l (e.trans e2) hx⟩, for_list (D := { D with nx := tz D }) (fun i σ' H' => I i σ' ∧ Ex H0 H') ⟨h0, e.trans e2⟩ (fun i σ' H' _ p => ex_l p.2 hx) (fun i x σ' H' hi p => hs i x σ' H' hi p.1 p.2) fun σ' H' p => hd σ' H' p.1 p.2⟩
/-- .. over a new list -/
theorem r_forNL {xs : List V} {tl : TE} {j : Nat} (e : Ex H0 H1) (h : EvL tl σ H0 xs) (I : Nat → L2.St → Prop) (h0 : I 0 σ)
    (hs : ∀ G, Ex H0 G → ∀ (i : Nat) x σ' H', xs[i]? = some x → I i σ' → Ex G H' → tu { D with nx := fun σ2 H2 => I (i + 1) σ2 ∧ Ex G H2, ct := fun σ2 H2 => I (i + 1) σ2 ∧ Ex G H2, bk := tz D } (σ'.set j (some x)) H')
    (hd : ∀ G, Ex H0 G → ∀ σ' H', I xs.length σ' → Ex G H' → tz D σ' H') : tSeq (tFor (iList K tl) (gName j) tu) tz D σ H1 :=
  h H1 e _ fun a H2 ha e2 h2 => ⟨a, rfl, ⟨xs, sq_of h2⟩, for_list (D := { D with nx := tz D }) (fun i σ' H' => I i σ' ∧ Ex H2 H') ⟨h0, Ex.refl _⟩ (fun i σ' H' _ p => ex_l p.2 (sq_of h2)) (fun i x σ' H' hi p => hs H2 (e.trans e2) i x σ' H' hi p.1 p.2) fun σ' H' p => hd H2 (e.trans e2) σ' H' p.1 p.2⟩
/-- an int of a list of ints -/
theorem rv_ixI {p : Addr} {ns : List Int} {i : Int} (h : SqL K H p (ns.map V.int)) (h0 : 0 ≤ i) (h1 : i < (ns.length : Int)) : RV (rIxL K) (.ref p) (.int i) H (.int (ns.getD i.toNat 0)) := by
  refine rv_ixL h ?_
  obtain ⟨j, rfl⟩ : ∃ j : Nat, i = (j : Int) := ⟨i.toNat, by omega⟩
  have hj : j < ns.length := by omega
  refine atI_nat ?_
  rw [List.getElem?_map, List.getElem?_eq_getElem hj]
  show some (V.int ns[j]) = some (V.int (ns.getD ((j : Int).toNat) 0))
  rw [Int.toNat_natCast, List.getD_eq_getElem?_getD, List.getElem?_eq_getElem hj]
  rfl
theorem cutV_to (xs : List V) (k : Nat) : cutV xs none (some (k : Int)) = xs.take k := by
  unfold cutV
  rw [HT.sIx_none, HT.sIx_nat, List.drop_zero, Nat.sub_zero]
  by_cases h : k ≤ xs.length
  · rw [Nat.min_eq_left h]
  · rw [Nat.min_eq_right (by omega), List.take_of_length_le (Nat.le_refl _), List.take_of_length_le (by omega)]
theorem cutV_all {xs : List V} (k : Nat) (h : xs.length ≤ k) : cutV xs none (some (k : Int)) = xs := by
  rw [cutV_to, List.take_of_length_le h]
theorem cutV_from (xs : List V) (k : Nat) : cutV xs (some (k : Int)) none = xs.drop k := by
  unfold cutV
  rw [HT.sIx_none, HT.sIx_nat]
  by_cases h : k ≤ xs.length
  · rw [Nat.min_eq_left h, List.take_of_length_le (by rw [List.length_drop]; omega)]
  · rw [Nat.min_eq_right (by omega), List.take_of_length_le (by rw [List.length_drop]; omega), List.drop_of_length_le (Nat.le_refl _), List.drop_of_length_le (by omega)]
theorem rv_kd {w : World} {p : Addr} {z : Str} {v : V} (h : KDct K w p z v) : RV (rIxD K w) (.ref p) (.str z) H v := fun H1 _ Q q => ⟨p, z, v, rfl, rfl, h, q H1 (Ex.refl H1)⟩
theorem rv_isN {x : V} : RV (fun x y H Q => y = .non ∧ Q (.bl (decide (x = .non))) H) x .non H (.bl (decide (x = .non))) := fun H1 _ Q q => ⟨rfl, q H1 (Ex.refl H1)⟩
theorem rv_notN {x : V} : RV (fun x y H Q => y = .non ∧ Q (.bl (!decide (x = .non))) H) x .non H (.bl (!decide (x = .non))) := fun H1 _ Q q => ⟨rfl, q H1 (Ex.refl H1)⟩
theorem ev_slS {tl th : TO} {zs : Str} {lo hi : Option Int} (h : Ev te σ H (.str zs)) (h1 : EvO tl σ H lo) (h2 : EvO th σ H hi) (hz : zs.length ≤ 100000) : Ev (tSl rSlS te tl th) σ H (.str (cutS zs lo hi)) := fun H1 e _ q =>
  h H1 e _ fun H2 e2 => h1 H2 (e.trans e2) _ fun H3 e3 => h2 H3 ((e.trans e2).trans e3) _ fun H4 e4 => ⟨zs, rfl, sz_of hz, q H4 ((e2.trans e3).trans e4)⟩
/-- [f(x) for x in xs] over a list of ints, each an int -/
theorem given_all {n : Nat} {v : Nat → V} : given n (fun _ => true) v = (List.range n).map v := by
  unfold given
  rw [List.filter_eq_self.mpr (fun _ _ => rfl)]
theorem et_yes {σ : L2.St} {H : Hp} : EvT tYes σ H true := fun H1 _ _ q => q H1 (Ex.refl H1)
theorem map_range {α : Type} {ns : List α} {d : α} {f : α → V} : (List.range ns.length).map (fun i => f (ns.getD i d)) = ns.map f := by
  apply List.ext_getElem?
  intro i
  rw [List.getElem?_map, List.getElem?_map]
  by_cases h : i < ns.length
  · rw [List.getElem?_range h, List.getElem?_eq_getElem h]
    show some (f (ns.getD i d)) = some (f ns[i])
    rw [List.getD_eq_getElem?_getD, List.getElem?_eq_getElem h]
    rfl
  · rw [List.getElem?_eq_none (by rw [List.length_range]; omega), List.getElem?_eq_none (by omega)]
    rfl
theorem el_lcI {a : Addr} {ns : List Int} {tl : TE} {j : Nat} {vs : List Nat} (f : Int → V) (h : Ev tl σ H (.ref a)) (hx : SqL K H a (ns.map V.int)) (hz : ns.length ≤ 40000) (hw : ∀ x, wipe ((wipe σ vs).set j (some x)) vs = wipe σ vs)
    (he : ∀ (n : Int), n ∈ ns → Ev te ((wipe σ vs).set j (some (.int n))) H (f n)) : EvL (tLc (iList K tl) (gName j) tYes te vs) σ H (ns.map f) := by
  have q := el_lcL (K := K) (t := tYes) (te := te) (j := j) (vs := vs) (fun _ => true) (fun i => f (ns.getD i 0)) h hx (by rw [List.length_map]; exact hz) hw (fun _ _ _ _ _ => et_yes) (fun i x H1 e hi _ => by
    rw [List.getElem?_map] at hi
    cases g : ns[i]? with
    | none => rw [g] at hi; cases hi
    | some n =>
      rw [g] at hi
      obtain rfl : V.int n = x := Option.some.inj hi
      have d : ns.getD i 0 = n := by rw [List.getD_eq_getElem?_getD, g]; rfl
      rw [d]
      exact (he n (List.mem_of_getElem? g)).mono e)
  rw [given_all, List.length_map, map_range] at q
  exact q
/-- .. over a new list -/
theorem el_lcNI {ns : List Int} {tl : TE} {j : Nat} {vs : List Nat} (f : Int → V) (h : EvL tl σ H (ns.map V.int)) (hz : ns.length ≤ 40000) (hw : ∀ x, wipe ((wipe σ vs).set j (some x)) vs = wipe σ vs)
    (he : ∀ (n : Int), n ∈ ns → Ev te ((wipe σ vs).set j (some (.int n))) H (f n)) : EvL (tLc (iList K tl) (gName j) tYes te vs) σ H (ns.map f) := by
  have q := el_lcNL (K := K) (t := tYes) (te := te) (j := j) (vs := vs) (fun _ => true) (fun i => f (ns.getD i 0)) h (by rw [List.length_map]; exact hz) hw (fun _ _ _ _ _ => et_yes) (fun i x H1 e hi _ => by
    rw [List.getElem?_map] at hi
    cases g : ns[i]? with
    | none => rw [g] at hi; cases hi
    | some n =>
      rw [g] at hi
      obtain rfl : V.int n = x := Option.some.inj hi
      have d : ns.getD i 0 = n := by rw [List.getD_eq_getElem?_getD, g]; rfl
      rw [d]
      exact (he n (List.mem_of_getElem? g)).mono e)
  rw [given_all, List.length_map, map_range] at q
  exact q
/-- [e for k in range(n)] -/
theorem el_lcR {ta : TA} {j : Nat} {vs : List Nat} {n : Int} (v : Nat → V) (h : EvA ta σ H [.int n]) (hn : 0 ≤ n ∧ n ≤ 40000) (hw : ∀ x, wipe ((wipe σ vs).set j (some x)) vs = wipe σ vs)
    (he : ∀ (i : Nat), (i : Int) < n → Ev te ((wipe σ vs).set j (some (.int (i : Int)))) H (v i)) : EvL (tLc (iRng1 ta) (gName j) tYes te vs) σ H ((List.range n.toNat).map v) := by
  have q := el_lcR1 (te := te) (j := j) (vs := vs) (fun _ => true) v h hn hw (t := tYes) (fun _ _ _ _ => et_yes) (fun i H1 e hi _ => (he i hi).mono e)
  rw [given_all] at q
  exact q
/-- an item of a displayed list -/
theorem ev_ixD {ns : List Int} {i : Int} (ha : EvL ta σ H (ns.map V.int)) (hb : Ev tb σ H (.int i)) (h0 : 0 ≤ i) (h1 : i < (ns.length : Int)) : Ev (tOp (rIxL K) ta tb) σ H (.int (ns.getD i.toNat 0)) :=
  ev_opL1 ha (fun _ e => hb.mono e) fun p H1 h _ => rv_ixL (sq_of h) (by
    obtain ⟨j, rfl⟩ : ∃ j : Nat, i = (j : Int) := ⟨i.toNat, by omega⟩
    have hj : j < ns.length := by omega
    refine atI_nat ?_
    rw [List.getElem?_map, List.getElem?_eq_getElem hj, List.getD_eq_getElem?_getD, Int.toNat_natCast, List.getElem?_eq_getElem hj]
    rfl)
theorem at_strs {ns : List Str} {i : Int} (h0 : 0 ≤ i) (h1 : i < (ns.length : Int)) : atI (ns.map V.str) i = some (.str (ns.getD i.toNat "")) := by
  obtain ⟨j, rfl⟩ : ∃ j : Nat, i = (j : Int) := ⟨i.toNat, by omega⟩
  have hj : j < ns.length := by omega
  refine atI_nat ?_
  rw [List.getElem?_map, List.getElem?_eq_getElem hj, List.getD_eq_getElem?_getD, Int.toNat_natCast, List.getElem?_eq_getElem hj]
  rfl
theorem ev_ixDS {ns : List Str} {i : Int} (ha : EvL ta σ H (ns.map V.str)) (hb : Ev tb σ H (.int i)) (h0 : 0 ≤ i) (h1 : i < (ns.length : Int)) : Ev (tOp (rIxL K) ta tb) σ H (.str (ns.getD i.toNat "")) :=
  ev_opL1 ha (fun _ e => hb.mono e) fun p H1 h _ => rv_ixL (sq_of h) (at_strs h0 h1)
theorem rv_ixStr {p : Addr} {ns : List Str} {i : Int} (h : SqL K H p (ns.map V.str)) (h0 : 0 ≤ i) (h1 : i < (ns.length : Int)) : RV (rIxL K) (.ref p) (.int i) H (.str (ns.getD i.toNat "")) := rv_ixL h (at_strs h0 h1)
theorem ev_lenM {α : Type} {f : α → V} {p : Addr} {ns : List α} (ha : Ev ta σ H (.ref p)) (h : SqL K H p (ns.map f)) : Ev (tCB (rLenS K) (tCons ta tNil)) σ H (.int (ns.length : Int)) := by
  have q := ev_len ha h
  rw [List.length_map] at q
  exact q
theorem ev_lenTM {α : Type} {f : α → V} {p : Addr} {ns : List α} (ha : Ev ta σ H (.ref p)) (h : SqT K H p (ns.map f)) : Ev (tCB (rLenS K) (tCons ta tNil)) σ H (.int (ns.length : Int)) := by
  have q := ev_lenT ha h
  rw [List.length_map] at q
  exact q
theorem el_to {xs ys : List V} (h : EvL te σ H xs) (e : xs = ys) : EvL te σ H ys := by rw [← e]; exact h
theorem r_retI {i j : Int} (e : Ex H0 H1) (h : Ev te σ H0 (.int i)) (hi : i = j) (k : ∀ H2, Ex H0 H2 → D.rt (.int j) H2) : tSeq (tRet te) tz D σ H1 := by
  subst hi
  exact h H1 e _ fun H2 e2 => k H2 (e.trans e2)
theorem r_retB {i j : Bool} (e : Ex H0 H1) (h : Ev te σ H0 (.bl i)) (hi : i = j) (k : ∀ H2, Ex H0 H2 → D.rt (.bl j) H2) : tSeq (tRet te) tz D σ H1 := by
  subst hi
  exact h H1 e _ fun H2 e2 => k H2 (e.trans e2)
theorem r_retS {i j : Str} (e : Ex H0 H1) (h : Ev te σ H0 (.str i)) (hi : i = j) (k : ∀ H2, Ex H0 H2 → D.rt (.str j) H2) : tSeq (tRet te) tz D σ H1 := by
  subst hi
  exact h H1 e _ fun H2 e2 => k H2 (e.trans e2)
/-- while; the heap only grows; W: by a measure and the slots -/
theorem r_while (e : Ex H0 H1) (W : Nat → L2.St → Prop) (m0 : Nat) (h0 : W m0 σ)
    (hs : ∀ m σ' H', W m σ' → Ex H0 H' → ∃ p, EtP t σ' H0 p ∧ (p → ∀ H2, Ex H0 H2 → tu { D with nx := fun σ2 H3 => (∃ m', m' < m ∧ W m' σ2) ∧ Ex H0 H3, ct := fun σ2 H3 => (∃ m', m' < m ∧ W m' σ2) ∧ Ex H0 H3, bk := tz D } σ' H2) ∧ (¬ p → ∀ H2, Ex H0 H2 → tz D σ' H2)) :
    tSeq (tWhile t tu) tz D σ H1 := by
  refine q_while (fun m σ' H' => W m σ' ∧ Ex H0 H') m0 ⟨h0, e⟩ ?_
  rintro m σ' H' ⟨hw, e'⟩
  obtain ⟨p, ⟨b, hb, ht⟩, h1, h2⟩ := hs m σ' H' hw e'
  refine ⟨b, ht.mono e', fun eb H2 e2 => ?_, fun eb H2 e2 => ?_⟩
  · exact ⟨_, fun σ2 H3 ⟨⟨m', l, w⟩, e3⟩ => ⟨m', l, w, e3⟩, h1 (hb.mp eb) H2 (e'.trans e2)⟩
  · refine h2 (fun z => ?_) H2 (e'.trans e2)
    have := hb.mpr z
    rw [eb] at this
    cases this
end

/-! ### a def that stands, and its calls -/
structure Df (P : Program) (w : World) (K : PySem.W.Frag) (mg : Str → Option Value) (base : Heap) (k : Nat) (x : Str) (a : Addr) (fd : FuncData) (ps : List Str) (sp : Sp) : Prop where
  ok : FnOk P w K mg base CX0 k a fd ps sp
  g : mg x = some (.ref a)
  kp : PySem.W.keepIn K (.ref a) = true
  b : Binds K fd ps []
section
variable {X : Cx} {k : Nat} {x : Str} {a : Addr} {fd : FuncData} {ps : List Str} {sp : Sp} {e : Expr} {es : List Expr} {t : TA} {p pos : Pos}
theorem cl (O : Df X.prog X.w X.K X.mg X.base k x a fd ps sp) (hr : Room k X.A) (hg : Gl X x) (ha : PA X (e :: es) t) (hdb : (x == ("__debug__" : Str)) = false := by decide)
    (he : starEach (e :: es) X.env = (false, eval e X.env) :: starEach es X.env := by rfl) (hpl : (backTo pos (starEach es X.env)).any (·.1) = false := by rfl) : PE X (.Call (.Name x p) (e :: es) [] pos) (tCall sp [] E0 t) :=
  pe_call O.ok hr hg O.g O.kp O.b .nil pass0 ha hdb he hpl
theorem cl0 (O : Df X.prog X.w X.K X.mg X.base k x a fd ps sp) (hr : Room k X.A) (hg : Gl X x) (hdb : (x == ("__debug__" : Str)) = false := by decide) : PE X (.Call (.Name x p) [] [] pos) (tCall sp [] E0 tNil) :=
  pe_call0 O.ok hr hg O.g O.kp O.b .nil pass0 hdb
end
end Wm
set_option Elab.async false
set_option linter.all false
set_option maxRecDepth 100000
set_option maxHeartbeats 4000000

open PySem
local macro_rules | `(tactic| walk_at "sd") => `(tactic| first | exact True.intro | assumption | omega | decide | (dsimp only; omega) | (refine Or.inl ⟨?_, ?_⟩ <;> (first | omega | decide)) | (refine Or.inr ⟨?_, ?_⟩ <;> (first | omega | decide)) | (simp only [List.length_cons, List.length_nil]; omega) | exact Int.emod_nonneg _ (by omega) | exact Int.emod_lt_of_pos _ (by omega) | (refine ⟨?_, ?_⟩ <;> walk_at "sd"))
local macro_rules | `(tactic| walk_at "bd") => `(tactic| first | omega | (simp only [List.length_append, List.length_cons, List.length_nil, List.length_map, List.length_dropLast] at *; omega))
local macro_rules | `(tactic| walk_at "sq") => `(tactic| first | assumption | exact Or.inl (by assumption) | exact Or.inr (by assumption))
local macro_rules | `(tactic| walk_at "keysLit") => `(tactic| (refine ⟨⟨_, _, rfl, rfl⟩, ?_⟩; walk_at "keysLit"))
local macro_rules | `(tactic| walk_at "keysLit") => `(tactic| exact True.intro)
namespace Lk41
open PySem L2 Evl RZ Wm
def topS (i : Nat) : Stmt := PySem.Challenge.pw_wasmhost_k41_values_match_kinds.main.body.getD i (.Pass ⟨0, 0, 0, 0⟩)
abbrev s_value_fits : Stmt := topS 2
abbrev s_values_fit : Stmt := topS 3
abbrev s_l_tape : Stmt := topS 5
abbrev s_l_draw : Stmt := topS 6
abbrev s_l_says : Stmt := topS 7
abbrev s_l_value : Stmt := topS 8
abbrev s_l_fits : Stmt := topS 9
abbrev s_law : Stmt := topS 10
structure Tx (w : World) (K : PySem.W.Frag) (mg : Str → Option Value) : Prop where
  b_bool : mg "bool" = none
  b_int : mg "int" = none
  b_isinstance : mg "isinstance" = none
  b_len : mg "len" = none
  b_range : mg "range" = none
  b_tuple : mg "tuple" = none
  b_zip : mg "zip" = none
  g_LEAST_VALUES : ∃ a, mg "LEAST_VALUES" = some (.ref a) ∧ KDct K w a "i32" (.int (-2147483648)) ∧ KDct K w a "i64" (.int (-9223372036854775808))

section
variable {P : Program} {w : World} {K : PySem.W.Frag} {mg : Str → Option Value} {base : Heap}
/-! value_fits -/
def m_least (kind : Str) : Int := if kind = "i32" then -2147483648 else -9223372036854775808
def m_value_fits (kind : Str) (value : Int) : Bool := (decide (m_least kind ≤ value) && decide (value < -m_least kind))
theorem sc_value_fits : FnScope ["kind", "value", "least"] ["kind", "value"] (defScope s_value_fits) := ⟨rfl, rfl, rfl, by decide +kernel, rfl, by decide +kernel, by decide +kernel⟩
def sp_value_fits (K : PySem.W.Frag) : Sp := fun vs H Q _ => ∃ (kind : Str) (value : Int), vs = [.str kind, .int value] ∧ ((kind = "i32" ∨ kind = "i64")) ∧ ∀ H1, Ex H H1 → Q (.bl (m_value_fits kind value)) H1
theorem sv_value_fits {K : PySem.W.Frag} {H : Hp} {kind : Str} {value : Int} (h : ((kind = "i32" ∨ kind = "i64"))) : SpV (sp_value_fits K) [.str kind, .int value] H (.bl (m_value_fits kind value)) := fun H1 e Q q _ => ⟨kind, value, rfl, h, q⟩
theorem ok_value_fits {f : Addr} {fd : FuncData} (F : Fun K "value_fits" "value_fits" s_value_fits f fd) (T : Tx w K mg)  : FnOk P w K mg base CX0 1 f fd ["kind", "value"] (sp_value_fits K) := by
  refine F.ok sc_value_fits (fun vs H Q E h => ?_) (fun cdv A outer s G vs Q E hr h => ?_)
  · obtain ⟨kind, value, rfl, _⟩ := h
    rfl
  · obtain ⟨kind, value, rfl, h, q⟩ := h
    obtain ⟨a_LEAST_VALUES, g_LEAST_VALUES, k_LEAST_VALUES⟩ := T.g_LEAST_VALUES
    refine ⟨_, (pss_cons (ps_set (i := 2) sc_value_fits.nd rfl (Or.inl rfl) (pe_ix (r := rIxD K w) ix_kdict (pe_glob (v := .ref _) rfl g_LEAST_VALUES rfl) (pv 0) (fun _ _ => rfl))) (pss_cons (ps_ret (pe_chain op_le op_lt (pv 2) (pv 1) (pe_un un_neg (pv 2)))) pss_nil)), ?_⟩
    have e := Ex.refl G
    rcases h with rfl | rfl
    · refine r_asg e (ev_op ev_c (ev_var rfl) (rv_kd k_LEAST_VALUES.1)) fun H e e1 => ?_
      exact r_retB e (ev_chain (ev_var rfl) (ev_var rfl) rv_I0 (fun _ => (ev_un (ev_var rfl) ru_neg)) (fun _ => rv_I0)) rfl q
    · refine r_asg e (ev_op ev_c (ev_var rfl) (rv_kd k_LEAST_VALUES.2)) fun H e e1 => ?_
      exact r_retB e (ev_chain (ev_var rfl) (ev_var rfl) rv_I0 (fun _ => (ev_un (ev_var rfl) ru_neg)) (fun _ => rv_I0)) rfl q

/-! values_fit -/
def m_values_fit (ks : List Str) (vs : List Int) : Bool := decide (ks.length = vs.length) && (List.range ks.length).all fun i => m_value_fits (ks.getD i "") (vs.getD i 0)
theorem vf_len {ks : List Str} {vs : List Int} (h : ¬ (ks.length : Int) = vs.length) : m_values_fit ks vs = false := by
  unfold m_values_fit
  rw [decide_eq_false (by omega)]
  rfl
theorem vf_bad {ks : List Str} {vs : List Int} {i : Nat} {k : Str} {v : Int} (hi : ks[i]? = some k) (hj : vs[i]? = some v) (h : ¬ m_value_fits k v = true) : m_values_fit ks vs = false := by
  unfold m_values_fit
  rw [Bool.and_eq_false_iff]
  refine Or.inr ?_
  rw [List.all_eq_false]
  have hl := (List.getElem?_eq_some_iff.mp hi).1
  refine ⟨i, List.mem_range.mpr hl, ?_⟩
  rw [List.getD_eq_getElem?_getD, List.getD_eq_getElem?_getD, hi, hj]
  exact h
theorem vf_good {ks : List Str} {vs : List Int} (hl : (ks.length : Int) = vs.length) (h : ∀ j, j < ks.length → m_value_fits (ks.getD j "") (vs.getD j 0) = true) : m_values_fit ks vs = true := by
  unfold m_values_fit
  rw [decide_eq_true (by omega), Bool.true_and, List.all_eq_true]
  intro i hi
  exact h i (List.mem_range.mp hi)
theorem sc_values_fit : FnScope ["kinds", "values", "kind", "value"] ["kinds", "values"] (defScope s_values_fit) := ⟨rfl, rfl, rfl, by decide +kernel, rfl, by decide +kernel, by decide +kernel⟩
def sp_values_fit (K : PySem.W.Frag) : Sp := fun vs H Q _ => ∃ (kinds : Addr) (values : Addr) (ns_kinds : List Str) (ns_values : List Int), vs = [.ref kinds, .ref values] ∧ (SqT K H kinds (ns_kinds.map V.str) ∧ SqT K H values (ns_values.map V.int) ∧ (∀ k ∈ ns_kinds, k = "i32" ∨ k = "i64")) ∧ ∀ H1, Ex H H1 → Q (.bl (m_values_fit ns_kinds ns_values)) H1
theorem sv_values_fit {K : PySem.W.Frag} {H : Hp} {kinds : Addr} {values : Addr} {ns_kinds : List Str} {ns_values : List Int} (h : (SqT K H kinds (ns_kinds.map V.str) ∧ SqT K H values (ns_values.map V.int) ∧ (∀ k ∈ ns_kinds, k = "i32" ∨ k = "i64"))) : SpV (sp_values_fit K) [.ref kinds, .ref values] H (.bl (m_values_fit ns_kinds ns_values)) := fun H1 e Q q _ => ⟨kinds, values, ns_kinds, ns_values, rfl, ⟨ex_t e h.1, ex_t e h.2.1, h.2.2⟩, q⟩
theorem ok_values_fit {f : Addr} {fd : FuncData} {a_value_fits : Addr} {d_value_fits : FuncData} (F : Fun K "values_fit" "values_fit" s_values_fit f fd) (T : Tx w K mg) (O_value_fits : Df P w K mg base 1 "value_fits" a_value_fits d_value_fits ["kind", "value"] (sp_value_fits K)) : FnOk P w K mg base CX0 2 f fd ["kinds", "values"] (sp_values_fit K) := by
  refine F.ok sc_values_fit (fun vs H Q E h => ?_) (fun cdv A outer s G vs Q E hr h => ?_)
  · obtain ⟨kinds, values, ns_kinds, ns_values, rfl, _⟩ := h
    rfl
  · obtain ⟨kinds, values, ns_kinds, ns_values, rfl, ⟨hs_kinds, hs_values, h⟩, q⟩ := h
    refine ⟨_, (pss_cons (ps_if (pt_cmpR op_ne (pe_callB (r := rLenS K) call_len_seq (by rfl) T.b_len (by decide +kernel) (pa_cons (pv 0) pa_nil)) (pe_callB (r := rLenS K) call_len_seq (by rfl) T.b_len (by decide +kernel) (pa_cons (pv 1) pa_nil)) (nomark _)) (pss_cons (ps_ret pe_bl) pss_nil) pss_nil) (pss_cons (ps_for PassesOwn.never rfl (pi_zipA (by rfl) T.b_zip (pa_cons (pv 0) (pa_cons (pv 1) pa_nil))) (pg_tup rfl (pgs_cons (pg_name (i := 2) sc_values_fit.nd rfl (Or.inl rfl)) (pgs_cons (pg_name (i := 3) sc_values_fit.nd rfl (Or.inl rfl)) pgs_nil))) (pss_cons (ps_if (pt_not (pt_val (cl O_value_fits (hr.mono (by decide)) rfl (pa_cons (pv 2) (pa_cons (pv 3) pa_nil))))) (pss_cons (ps_ret pe_bl) pss_nil) pss_nil) pss_nil)) (pss_cons (ps_ret pe_bl) pss_nil))), ?_⟩
    have e := Ex.refl G
    -- if len(kinds) != len(values)
    refine r_when e (ep_ndec (ev_op (ev_lenTM (ev_var rfl) (by assumption)) (ev_lenTI (ev_var rfl) (by assumption)) rv_neI)) (fun hb1 H e e1 => ?_) (fun hb1 H e e1 => ?_)
    · -- return False
      exact r_retB e ev_c (vf_len hb1).symm q
    -- for (kind, value) in zip(kinds, values)   [loop 1]
    refine r_forZTM e (ea_cons (ev_var rfl) (ea_cons (ev_var rfl) ea_nil)) (by omega) hs_kinds hs_values (fun i σ => ∃ (o_kind : Option V) (o_value : Option V), σ = [some (.ref kinds), some (.ref values), o_kind, o_value] ∧ ∀ j, j < i → m_value_fits (ns_kinds.getD j "") (ns_values.getD j 0) = true) ⟨_, _, rfl, fun _ h => absurd h (Nat.not_lt_zero _)⟩ (fun i x y σ H hi hj hI e => ?_) (fun σ H hI e => ?_)
    · obtain ⟨o_kind, o_value, rfl, hall⟩ := hI
      have hk := h x (List.mem_of_getElem? hi)
      -- if not value_fits(kind, value)
      refine r_when e (ep_not (ep_val (ev_call (ea_cons (ev_var rfl) (ea_cons (ev_var rfl) ea_nil)) (sv_value_fits (by walk_at "sd"))))) (fun hb2 H e e1 => ?_) (fun hb2 H e e1 => ?_)
      · -- return False
        exact r_retB e ev_c (vf_bad hi hj hb2).symm q
      refine ⟨⟨_, _, rfl, fun j hj2 => ?_⟩, e⟩
      by_cases hji : j = i
      · subst hji
        rw [List.getD_eq_getElem?_getD, List.getD_eq_getElem?_getD, hi, hj]
        exact Decidable.not_not.mp hb2
      · exact hall j (by omega)
    obtain ⟨o_kind, o_value, rfl, hall⟩ := hI
    -- return True
    exact r_retB e ev_c (vf_good (Decidable.not_not.mp hb1) hall).symm q

/-! _law_tape -/

theorem sc_l_tape : FnScope ["_law_script", "_law_tape_here", "_law_cell", "_law_number", "_law_k", "_law_first"] ["_law_script"] (defScope s_l_tape) := ⟨rfl, rfl, rfl, by decide +kernel, rfl, by decide +kernel, by decide +kernel⟩
def sp_l_tape (K : PySem.W.Frag) : Sp := fun vs H Q _ => ∃ (l_script : Addr) (ns_l_script : List Int), vs = [.ref l_script] ∧ (SqL K H l_script (ns_l_script.map V.int) ∧ ns_l_script.length ≤ 63) ∧ ∀ p H1 xs, (∃ ms : List Int, xs = ms.map V.int ∧ ms.length ≤ 2520) → H p = none → Ex H H1 → H1 p = some (.lst xs) → Q (.ref p) H1
theorem sv_l_tape {K : PySem.W.Frag} {H : Hp} {l_script : Addr} {ns_l_script : List Int} (h : (SqL K H l_script (ns_l_script.map V.int) ∧ ns_l_script.length ≤ 63)) : SpLE (sp_l_tape K) [.ref l_script] H (fun xs => ∃ ms : List Int, xs = ms.map V.int ∧ ms.length ≤ 2520) := fun H1 e Q q _ => ⟨l_script, ns_l_script, rfl, ⟨ex_l e h.1, h.2⟩, q⟩
theorem ok_l_tape {f : Addr} {fd : FuncData} (F : Fun K "_law_tape" "_law_tape" s_l_tape f fd) (T : Tx w K mg)  : FnOk P w K mg base CX0 1 f fd ["_law_script"] (sp_l_tape K) := by
  refine F.ok sc_l_tape (fun vs H Q E h => ?_) (fun cdv A outer s G vs Q E hr h => ?_)
  · obtain ⟨l_script, ns_l_script, rfl, _⟩ := h
    rfl
  · obtain ⟨l_script, ns_l_script, rfl, ⟨hs_l_script, h⟩, q⟩ := h
    refine ⟨_, (pss_cons (ps_set (i := 1) sc_l_tape.nd rfl (Or.inl rfl) (pe_lst pa_nil)) (pss_cons (ps_for PassesOwn.never rfl (pi_list (pv 0)) (pg_name (i := 2) sc_l_tape.nd rfl (Or.inl rfl)) (pss_cons (ps_set (i := 3) sc_l_tape.nd rfl (Or.inl rfl) (pe_op op_mul pe_int (pe_callTy call_int1 (by rfl) T.b_int (by decide +kernel) (pa_cons (pv 2) pa_nil)))) (pss_cut (ps_if (pt_cmpR op_lt (pv 3) pe_int (nomark _)) (pss_cons (ps_set (i := 3) sc_l_tape.nd rfl (Or.inl rfl) (pe_op op_sub (pe_un un_neg pe_int) (pv 3))) pss_nil) pss_nil) (pss_cut (ps_if (pt_cmpR op_ge (pv 3) (pe_op op_pow pe_int pe_int) (nomark _)) (pss_cons (ps_for PassesOwn.never rfl (pi_range1 (by rfl) T.b_range (pa_cons pe_int pa_nil)) (pg_name (i := 4) sc_l_tape.nd rfl (Or.inl rfl)) (pss_cut (ps_if (pt_cmpR op_gt (pv 3) pe_int (nomark _)) (pss_cons (ps_expr (pe_bm PySem.F.plainAttrs_list PySem.F.slot_list_append PySem.F.type_list_append mt_append (pv 1) (pa_cons (pe_op op_mod (pe_callTy call_int1 (by rfl) T.b_int (by decide +kernel) (pa_cons (pv 3) pa_nil)) pe_int) pa_nil))) (pss_cons (ps_set (i := 3) sc_l_tape.nd rfl (Or.inl rfl) (pe_op op_fdiv (pv 3) pe_int)) pss_nil)) pss_nil) pss_nil)) pss_nil) (pss_cons (ps_for PassesOwn.never rfl (pi_range1 (by rfl) T.b_range (pa_cons pe_int pa_nil)) (pg_name (i := 4) sc_l_tape.nd rfl (Or.inl rfl)) (pss_cons (ps_set (i := 5) sc_l_tape.nd rfl (Or.inl rfl) (pe_op op_mod (pe_callTy call_int1 (by rfl) T.b_int (by decide +kernel) (pa_cons (pe_op op_add (pe_op op_add (pe_op op_mul (pv 3) pe_int) (pe_op op_mul (pv 4) pe_int)) pe_int) pa_nil)) pe_int)) (pss_cons (ps_expr (pe_bm PySem.F.plainAttrs_list PySem.F.slot_list_append PySem.F.type_list_append mt_append (pv 1) (pa_cons (pe_op op_mod (pe_callTy call_int1 (by rfl) T.b_int (by decide +kernel) (pa_cons (pe_op op_add (pe_op op_mul (pv 5) pe_int) (pe_op op_fdiv (pv 5) pe_int)) pa_nil)) pe_int) pa_nil))) pss_nil))) pss_nil)) pss_nil)))) (pss_cons (ps_ret (pv 1)) pss_nil))), ?_⟩
    have e := Ex.refl G
    -- _law_tape_here = []
    refine r_asgL e (el_lst ea_nil (by walk_at "sd")) fun p_l_tape_here H hp_l_tape_here e e1 hl_l_tape_here => ?_
    have hl_l_tape_here : H p_l_tape_here = some (.lst (([] : List Int).map V.int)) := hl_l_tape_here
    -- for _law_cell in _law_script   [loop 1]
    refine r_forLM e (ev_var rfl) hs_l_script (fun i σ H => ∃ (o_l_cell : Option V) (o_l_number : Option V) (o_l_k : Option V) (o_l_first : Option V) (ms_l_tape_here : List Int), σ = [some (.ref l_script), some (.ref p_l_tape_here), o_l_cell, o_l_number, o_l_k, o_l_first] ∧ Ex G H ∧ H p_l_tape_here = some (.lst (ms_l_tape_here.map V.int)) ∧ ms_l_tape_here.length ≤ 40 * i) (fun _ _ _ h => by obtain ⟨o_l_cell, o_l_number, o_l_k, o_l_first, ms_l_tape_here, _, e, hl_l_tape_here, hb_l_tape_here⟩ := h; exact e) (fun H2 e2 => ⟨_, _, _, _, _, rfl, e.trans e2, e2 _ _ hl_l_tape_here, by walk_at "bd"⟩) (fun i x σ H hi hI => ?_) (fun σ H hI => ?_)
    · obtain ⟨o_l_cell, o_l_number, o_l_k, o_l_first, ms_l_tape_here, rfl, e, hl_l_tape_here, hb_l_tape_here⟩ := hI
      have hil := (List.getElem?_eq_some_iff.mp hi).1
      -- _law_number = 2 * int(_law_cell)
      refine r_asg e (ev_op ev_c (ev_int (ev_var rfl)) (rv_I (by walk_at "sd"))) fun H e e1 => ?_
      have hl_l_tape_here := e1 _ _ hl_l_tape_here
      -- if _law_number < 0
      refine r_ifJ e (ep_dec (ev_op (ev_var rfl) ev_c rv_I0)) (fun σ H => ∃ (ms_l_tape_here : List Int), σ = [some (.ref l_script), some (.ref p_l_tape_here), some (.int x), some (.int (if ((2 * x) < 0) then ((-1) - (2 * x)) else (2 * x))), o_l_k, o_l_first] ∧ Ex G H ∧ H p_l_tape_here = some (.lst (ms_l_tape_here.map V.int)) ∧ ms_l_tape_here.length ≤ 40 * i) (fun hb1 H e e1 => ?_) (fun hb1 H e e1 => ?_) ?_
      · have hl_l_tape_here := e1 _ _ hl_l_tape_here
        -- _law_number = -1 - _law_number
        refine r_asg e (ev_op (ev_un ev_c ru_neg) (ev_var rfl) rv_I0) fun H e e1 => ?_
        have hl_l_tape_here := e1 _ _ hl_l_tape_here
        exact r_next ⟨_, (by rw [if_pos hb1]; rfl), e, hl_l_tape_here, by walk_at "bd"⟩
      · have hl_l_tape_here := e1 _ _ hl_l_tape_here
        exact r_next ⟨_, (by rw [if_neg hb1]; rfl), e, hl_l_tape_here, by walk_at "bd"⟩
      rintro σ H ⟨ms_l_tape_here, rfl, e, hl_l_tape_here, hb_l_tape_here⟩
      -- if _law_number >= 10 ** 18
      refine r_ifJ e (ep_dec (ev_op (ev_var rfl) (ev_op ev_c ev_c (rv_I (by walk_at "sd"))) rv_I0)) (fun σ H => ∃ (n_l_number : Int) (o_l_k : Option V) (o_l_first : Option V) (ms_l_tape_here : List Int), σ = [some (.ref l_script), some (.ref p_l_tape_here), some (.int x), some (.int n_l_number), o_l_k, o_l_first] ∧ Ex G H ∧ H p_l_tape_here = some (.lst (ms_l_tape_here.map V.int)) ∧ ms_l_tape_here.length ≤ 40 * (i + 1)) (fun hb2 H e e1 => ?_) (fun hb2 H e e1 => ?_) ?_
      · have hl_l_tape_here := e1 _ _ hl_l_tape_here
        -- for _law_k in range(40)   [loop 2]
        refine r_forRH e (ea_cons ev_c ea_nil) (by walk_at "sd") (fun i2 σ H => ∃ (n_l_number : Int) (o_l_k : Option V) (ms_l_tape_here : List Int), σ = [some (.ref l_script), some (.ref p_l_tape_here), some (.int x), some (.int n_l_number), o_l_k, o_l_first] ∧ Ex G H ∧ H p_l_tape_here = some (.lst (ms_l_tape_here.map V.int)) ∧ ms_l_tape_here.length ≤ 40 * i + i2) (fun H2 e2 => ⟨_, _, _, rfl, e.trans e2, e2 _ _ hl_l_tape_here, by walk_at "bd"⟩) (fun i2 σ H hi hI => ?_) (fun σ H hI => ?_)
        · obtain ⟨n_l_number, o_l_k, ms_l_tape_here, rfl, e, hl_l_tape_here, hb_l_tape_here⟩ := hI
          -- if _law_number > 0
          refine r_ifJ e (ep_dec (ev_op (ev_var rfl) ev_c rv_I0)) (fun σ H => ∃ (ms_l_tape_here : List Int), σ = [some (.ref l_script), some (.ref p_l_tape_here), some (.int x), some (.int (if (0 < n_l_number) then (n_l_number / 1000) else n_l_number)), some (.int (i2 : Int)), o_l_first] ∧ Ex G H ∧ H p_l_tape_here = some (.lst (ms_l_tape_here.map V.int)) ∧ ms_l_tape_here.length ≤ 40 * i + (i2 + 1)) (fun hb3 H e e1 => ?_) (fun hb3 H e e1 => ?_) ?_
          · have hl_l_tape_here := e1 _ _ hl_l_tape_here
            -- _law_tape_here.append(int(_law_number) % 1000)
            refine r_appM e hp_l_tape_here hl_l_tape_here (ev_var rfl) (ev_op (ev_int (ev_var rfl)) ev_c (rv_I (by walk_at "sd"))) (by walk_at "sd") fun H e hl_l_tape_here hk => ?_
            -- _law_number = _law_number // 1000
            refine r_asg e (ev_op (ev_var rfl) ev_c (rv_I (by walk_at "sd"))) fun H e e1 => ?_
            have hl_l_tape_here := e1 _ _ hl_l_tape_here
            exact r_next ⟨_, (by rw [if_pos hb3]; rfl), e, hl_l_tape_here, by walk_at "bd"⟩
          · have hl_l_tape_here := e1 _ _ hl_l_tape_here
            exact r_next ⟨_, (by rw [if_neg hb3]; rfl), e, hl_l_tape_here, by walk_at "bd"⟩
          rintro σ H ⟨ms_l_tape_here, rfl, e, hl_l_tape_here, hb_l_tape_here⟩
          exact ⟨_, _, _, rfl, e, hl_l_tape_here, by walk_at "bd"⟩
        obtain ⟨n_l_number, o_l_k, ms_l_tape_here, rfl, e, hl_l_tape_here, hb_l_tape_here⟩ := hI
        exact r_next ⟨_, _, _, _, rfl, e, hl_l_tape_here, by walk_at "bd"⟩
      · have hl_l_tape_here := e1 _ _ hl_l_tape_here
        -- for _law_k in range(3)   [loop 3]
        refine r_forRH e (ea_cons ev_c ea_nil) (by walk_at "sd") (fun i2 σ H => ∃ (o_l_k : Option V) (o_l_first : Option V) (ms_l_tape_here : List Int), σ = [some (.ref l_script), some (.ref p_l_tape_here), some (.int x), some (.int (if ((2 * x) < 0) then ((-1) - (2 * x)) else (2 * x))), o_l_k, o_l_first] ∧ Ex G H ∧ H p_l_tape_here = some (.lst (ms_l_tape_here.map V.int)) ∧ ms_l_tape_here.length ≤ 40 * i + i2) (fun H2 e2 => ⟨_, _, _, rfl, e.trans e2, e2 _ _ hl_l_tape_here, by walk_at "bd"⟩) (fun i2 σ H hi hI => ?_) (fun σ H hI => ?_)
        · obtain ⟨o_l_k, o_l_first, ms_l_tape_here, rfl, e, hl_l_tape_here, hb_l_tape_here⟩ := hI
          -- _law_first = int(_law_number * 48271 + _law_k * 40503 + 11) % 2147483629
          refine r_asg e (ev_op (ev_int (ev_op (ev_op (ev_op (ev_var rfl) ev_c (rv_I (by walk_at "sd"))) (ev_op (ev_var rfl) ev_c (rv_I (by walk_at "sd"))) rv_I0) ev_c rv_I0)) ev_c (rv_I (by walk_at "sd"))) fun H e e1 => ?_
          have hl_l_tape_here := e1 _ _ hl_l_tape_here
          -- _law_tape_here.append(int(_law_first * 69621 + _law_first // 65536) % 2147483629)
          refine r_appM e hp_l_tape_here hl_l_tape_here (ev_var rfl) (ev_op (ev_int (ev_op (ev_op (ev_var rfl) ev_c (rv_I (by walk_at "sd"))) (ev_op (ev_var rfl) ev_c (rv_I (by walk_at "sd"))) rv_I0)) ev_c (rv_I (by walk_at "sd"))) (by walk_at "sd") fun H e hl_l_tape_here hk => ?_
          exact ⟨_, _, _, rfl, e, hl_l_tape_here, by walk_at "bd"⟩
        obtain ⟨o_l_k, o_l_first, ms_l_tape_here, rfl, e, hl_l_tape_here, hb_l_tape_here⟩ := hI
        exact r_next ⟨_, _, _, _, rfl, e, hl_l_tape_here, by walk_at "bd"⟩
      rintro σ H ⟨n_l_number, o_l_k, o_l_first, ms_l_tape_here, rfl, e, hl_l_tape_here, hb_l_tape_here⟩
      exact ⟨_, _, _, _, _, rfl, e, hl_l_tape_here, by walk_at "bd"⟩
    obtain ⟨o_l_cell, o_l_number, o_l_k, o_l_first, ms_l_tape_here, rfl, e, hl_l_tape_here, hb_l_tape_here⟩ := hI
    -- return _law_tape_here
    exact r_ret (Ex.refl H) (ev_var rfl) fun H2 e2 => q _ _ _ ⟨_, rfl, by walk_at "bd"⟩ hp_l_tape_here (e.trans e2) (e2 _ _ hl_l_tape_here)

/-! _law_draw -/
def m_l_draw (ns_l_tape_here : List Int) (l_at : Int) (l_many : Int) : Int :=
  if (l_at < (ns_l_tape_here.length : Int)) then
    ((ns_l_tape_here.getD (l_at : Int).toNat 0) % l_many)
  else
    if (0 < (ns_l_tape_here.length : Int)) then
      (((((((ns_l_tape_here.getD ((l_at % (ns_l_tape_here.length : Int)) : Int).toNat 0) + l_at) * (l_at + 3)) * 7919) + (l_at * 104729)) % 65521) % l_many)
    else
      ((((((1 + l_at) * (l_at + 3)) * 7919) + (l_at * 104729)) % 65521) % l_many)
theorem sc_l_draw : FnScope ["_law_tape_here", "_law_at", "_law_many", "_law_number"] ["_law_tape_here", "_law_at", "_law_many"] (defScope s_l_draw) := ⟨rfl, rfl, rfl, by decide +kernel, rfl, by decide +kernel, by decide +kernel⟩
def sp_l_draw (K : PySem.W.Frag) : Sp := fun vs H Q _ => ∃ (l_tape_here : Addr) (l_at : Int) (l_many : Int) (ns_l_tape_here : List Int), vs = [.ref l_tape_here, .int l_at, .int l_many] ∧ (SqL K H l_tape_here (ns_l_tape_here.map V.int) ∧ 0 ≤ l_at ∧ l_at ≤ 100000 ∧ 0 < l_many) ∧ ∀ H1, Ex H H1 → Q (.int (m_l_draw ns_l_tape_here l_at l_many)) H1
theorem sv_l_draw {K : PySem.W.Frag} {H : Hp} {l_tape_here : Addr} {l_at : Int} {l_many : Int} {ns_l_tape_here : List Int} (h : (SqL K H l_tape_here (ns_l_tape_here.map V.int) ∧ 0 ≤ l_at ∧ l_at ≤ 100000 ∧ 0 < l_many)) : SpV (sp_l_draw K) [.ref l_tape_here, .int l_at, .int l_many] H (.int (m_l_draw ns_l_tape_here l_at l_many)) := fun H1 e Q q _ => ⟨l_tape_here, l_at, l_many, ns_l_tape_here, rfl, ⟨ex_l e h.1, h.2⟩, q⟩
theorem ok_l_draw {f : Addr} {fd : FuncData} (F : Fun K "_law_draw" "_law_draw" s_l_draw f fd) (T : Tx w K mg)  : FnOk P w K mg base CX0 1 f fd ["_law_tape_here", "_law_at", "_law_many"] (sp_l_draw K) := by
  refine F.ok sc_l_draw (fun vs H Q E h => ?_) (fun cdv A outer s G vs Q E hr h => ?_)
  · obtain ⟨l_tape_here, l_at, l_many, ns_l_tape_here, rfl, _⟩ := h
    rfl
  · obtain ⟨l_tape_here, l_at, l_many, ns_l_tape_here, rfl, ⟨hs_l_tape_here, h⟩, q⟩ := h
    refine ⟨_, (pss_cons (ps_if (pt_cmpR op_lt (pv 1) (pe_callB (r := rLenS K) call_len_seq (by rfl) T.b_len (by decide +kernel) (pa_cons (pv 0) pa_nil)) (nomark _)) (pss_cons (ps_ret (pe_op op_mod (pe_callTy call_int1 (by rfl) T.b_int (by decide +kernel) (pa_cons (pe_ix (r := rIxL K) ix_list (pv 0) (pv 1) (fun _ _ => rfl)) pa_nil)) (pv 2))) pss_nil) pss_nil) (pss_cons (ps_set (i := 3) sc_l_draw.nd rfl (Or.inl rfl) pe_int) (pss_cut (ps_if (pt_cmpR op_gt (pe_callB call_len_seq (by rfl) T.b_len (by decide +kernel) (pa_cons (pv 0) pa_nil)) pe_int (nomark _)) (pss_cons (ps_set (i := 3) sc_l_draw.nd rfl (Or.inl rfl) (pe_ix (r := rIxL K) ix_list (pv 0) (pe_op op_mod (pe_callTy call_int1 (by rfl) T.b_int (by decide +kernel) (pa_cons (pv 1) pa_nil)) (pe_callB (r := rLenS K) call_len_seq (by rfl) T.b_len (by decide +kernel) (pa_cons (pv 0) pa_nil))) (fun _ _ => rfl))) pss_nil) pss_nil) (pss_cons (ps_ret (pe_op op_mod (pe_op op_mod (pe_callTy call_int1 (by rfl) T.b_int (by decide +kernel) (pa_cons (pe_op op_add (pe_op op_mul (pe_op op_mul (pe_op op_add (pv 3) (pv 1)) (pe_op op_add (pv 1) pe_int)) pe_int) (pe_op op_mul (pv 1) pe_int)) pa_nil)) pe_int) (pv 2))) pss_nil)))), ?_⟩
    have e := Ex.refl G
    -- if _law_at < len(_law_tape_here)
    refine r_when e (ep_dec (ev_op (ev_var rfl) (ev_lenI (ev_var rfl) (by assumption)) rv_I0)) (fun hb1 H e e1 => ?_) (fun hb1 H e e1 => ?_)
    · -- return int(_law_tape_here[_law_at]) % _law_many
      refine r_retI e (ev_op (ev_int (ev_op (ev_var rfl) (ev_var rfl) (rv_ixI (by assumption) (by walk_at "sd") (by walk_at "sd")))) (ev_var rfl) (rv_I (by walk_at "sd"))) (by show _ = m_l_draw _ _ _; unfold m_l_draw; rw [if_pos hb1] <;> (first | rfl | (split <;> rfl))) q
    -- _law_number = 1
    refine r_asg e ev_c fun H e e1 => ?_
    -- if len(_law_tape_here) > 0
    refine r_ifJ e (ep_dec (ev_op (ev_lenI (ev_var rfl) (by assumption)) ev_c rv_I0)) (fun σ H => σ = [some (.ref l_tape_here), some (.int l_at), some (.int l_many), some (.int (if (0 < (ns_l_tape_here.length : Int)) then (ns_l_tape_here.getD ((l_at % (ns_l_tape_here.length : Int)) : Int).toNat 0) else 1))] ∧ Ex G H) (fun hb2 H e e1 => ?_) (fun hb2 H e e1 => ?_) ?_
    · -- _law_number = _law_tape_here[int(_law_at) % len(_law_tape_here)]
      refine r_asg e (ev_op (ev_var rfl) (ev_op (ev_int (ev_var rfl)) (ev_lenI (ev_var rfl) (by assumption)) (rv_I (by walk_at "sd"))) (rv_ixI (by assumption) (by walk_at "sd") (by walk_at "sd"))) fun H e e1 => ?_
      exact r_next ⟨(by rw [if_pos hb2]; rfl), e⟩
    · exact r_next ⟨(by rw [if_neg hb2]; rfl), e⟩
    rintro σ H ⟨rfl, e⟩
    -- return int((_law_number + _law_at) * (_law_at + 3) * 7919 + _law_at * 104729) % 65521 % _law_many
    refine r_retI e (ev_op (ev_op (ev_int (ev_op (ev_op (ev_op (ev_op (ev_var rfl) (ev_var rfl) rv_I0) (ev_op (ev_var rfl) ev_c rv_I0) (rv_I (by walk_at "sd"))) ev_c (rv_I (by walk_at "sd"))) (ev_op (ev_var rfl) ev_c (rv_I (by walk_at "sd"))) rv_I0)) ev_c (rv_I (by walk_at "sd"))) (ev_var rfl) (rv_I (by walk_at "sd"))) (by show _ = m_l_draw _ _ _; unfold m_l_draw; rw [if_neg hb1] <;> (first | rfl | (split <;> rfl))) q

/-! _law_says -/
def m_l_says (l_actual : Bool) (l_due : Bool) : Bool :=
  (true && (decide (l_actual = l_due)))
theorem sc_l_says : FnScope ["_law_actual", "_law_due"] ["_law_actual", "_law_due"] (defScope s_l_says) := ⟨rfl, rfl, rfl, by decide +kernel, rfl, by decide +kernel, by decide +kernel⟩
def sp_l_says (K : PySem.W.Frag) : Sp := fun vs H Q _ => ∃ (l_actual : Bool) (l_due : Bool), vs = [.bl l_actual, .bl l_due] ∧ (True) ∧ ∀ H1, Ex H H1 → Q (.bl (m_l_says l_actual l_due)) H1
theorem sv_l_says {K : PySem.W.Frag} {H : Hp} {l_actual : Bool} {l_due : Bool} (h : (True)) : SpV (sp_l_says K) [.bl l_actual, .bl l_due] H (.bl (m_l_says l_actual l_due)) := fun H1 e Q q _ => ⟨l_actual, l_due, rfl, h, q⟩
theorem ok_l_says {f : Addr} {fd : FuncData} (F : Fun K "_law_says" "_law_says" s_l_says f fd) (T : Tx w K mg)  : FnOk P w K mg base CX0 1 f fd ["_law_actual", "_law_due"] (sp_l_says K) := by
  refine F.ok sc_l_says (fun vs H Q E h => ?_) (fun cdv A outer s G vs Q E hr h => ?_)
  · obtain ⟨l_actual, l_due, rfl, _⟩ := h
    rfl
  · obtain ⟨l_actual, l_due, rfl, h, q⟩ := h
    refine ⟨_, (pss_cons (ps_ret (pe_and (pe_callB (r := rIsi K) call_isi (by rfl) T.b_isinstance (by decide +kernel) (pa_cons (pv 0) (pa_cons (pe_bltn (v := .ty "bool") (by rfl) T.b_bool (by decide +kernel) rfl) pa_nil))) (pe_one (pe_cmpR op_eq (pv 0) (pv 1) (nomark _))))) pss_nil), ?_⟩
    have e := Ex.refl G
    -- return isinstance(_law_actual, bool) and _law_actual == _law_due
    refine r_retB e (ev_andV (ev_isi (b := true) (ev_var rfl) ev_c (.ty _) ty_bl (kit_ty (by decide +kernel))) (fun hb => (ev_op (ev_var rfl) (ev_var rfl) rv_eqB))) (by show _ = m_l_says _ _; unfold m_l_says; (first | rfl | (split <;> rfl))) q

/-! _law_value -/
theorem draw_bd (ns : List Int) (a : Int) {m : Int} (h : 0 < m) : 0 ≤ m_l_draw ns a m ∧ m_l_draw ns a m < m := by
  unfold m_l_draw
  split
  · exact ⟨Int.emod_nonneg _ (by omega), Int.emod_lt_of_pos _ h⟩
  · split
    · exact ⟨Int.emod_nonneg _ (by omega), Int.emod_lt_of_pos _ h⟩
    · exact ⟨Int.emod_nonneg _ (by omega), Int.emod_lt_of_pos _ h⟩

def m_ends : List Int := [2 ^ (31 : Int).toNat, 2 ^ (63 : Int).toNat, 0, 2 ^ (32 : Int).toNat]
def sgn (d : Int) : Int := [1, -1].getD d.toNat 0
theorem sgn_bd (d : Int) : -1 ≤ sgn d ∧ sgn d ≤ 1 := by
  unfold sgn
  match d.toNat with
  | 0 => decide
  | 1 => decide
  | n + 2 => exact ⟨(by show (-1 : Int) ≤ 0; decide), (by show (0 : Int) ≤ 1; decide)⟩
def m_num (ns : List Int) (a : Int) (n : Nat) : Int := (List.range n).foldl (fun acc (k : Nat) => acc * 1000 + m_l_draw ns (a + 2 + (k : Int)) 1000) 0
theorem m_num_succ (ns : List Int) (a : Int) (n : Nat) : m_num ns a (n + 1) = m_num ns a n * 1000 + m_l_draw ns (a + 2 + (n : Int)) 1000 := by
  unfold m_num
  rw [List.range_succ, List.foldl_append]
  rfl
def m_l_value (ns : List Int) (a : Int) : Int :=
  if m_l_draw ns a 16 < 12 then sgn (m_l_draw ns (a + 1) 2) * m_ends.getD (m_l_draw ns a 16 / 3).toNat 0 + m_l_draw ns a 16 % 3 - 1
  else sgn (m_l_draw ns (a + 1) 2) * m_num ns a (m_l_draw ns (a + 10) 9).toNat
theorem sc_l_value : FnScope ["_law_tape_here", "_law_at", "_law_pick", "_law_ends", "_law_number", "_law_k"] ["_law_tape_here", "_law_at"] (defScope s_l_value) := ⟨rfl, rfl, rfl, by decide +kernel, rfl, by decide +kernel, by decide +kernel⟩
def sp_l_value (K : PySem.W.Frag) : Sp := fun vs H Q _ => ∃ (l_tape_here : Addr) (l_at : Int) (ns_l_tape_here : List Int), vs = [.ref l_tape_here, .int l_at] ∧ (SqL K H l_tape_here (ns_l_tape_here.map V.int) ∧ 0 ≤ l_at ∧ l_at ≤ 1000) ∧ ∀ H1, Ex H H1 → Q (.int (m_l_value ns_l_tape_here l_at)) H1
theorem sv_l_value {K : PySem.W.Frag} {H : Hp} {l_tape_here : Addr} {l_at : Int} {ns_l_tape_here : List Int} (h : (SqL K H l_tape_here (ns_l_tape_here.map V.int) ∧ 0 ≤ l_at ∧ l_at ≤ 1000)) : SpV (sp_l_value K) [.ref l_tape_here, .int l_at] H (.int (m_l_value ns_l_tape_here l_at)) := fun H1 e Q q _ => ⟨l_tape_here, l_at, ns_l_tape_here, rfl, ⟨ex_l e h.1, h.2⟩, q⟩
theorem ok_l_value {f : Addr} {fd : FuncData} {a_l_draw : Addr} {d_l_draw : FuncData} (F : Fun K "_law_value" "_law_value" s_l_value f fd) (T : Tx w K mg) (O_l_draw : Df P w K mg base 1 "_law_draw" a_l_draw d_l_draw ["_law_tape_here", "_law_at", "_law_many"] (sp_l_draw K)) : FnOk P w K mg base CX0 2 f fd ["_law_tape_here", "_law_at"] (sp_l_value K) := by
  refine F.ok sc_l_value (fun vs H Q E h => ?_) (fun cdv A outer s G vs Q E hr h => ?_)
  · obtain ⟨l_tape_here, l_at, ns_l_tape_here, rfl, _⟩ := h
    rfl
  · obtain ⟨l_tape_here, l_at, ns_l_tape_here, rfl, ⟨hs_l_tape_here, h⟩, q⟩ := h
    refine ⟨_, (pss_cons (ps_set (i := 2) sc_l_value.nd rfl (Or.inl rfl) (cl O_l_draw (hr.mono (by decide)) rfl (pa_cons (pv 0) (pa_cons (pv 1) (pa_cons pe_int pa_nil))))) (pss_cons (ps_if (pt_cmpR op_lt (pv 2) pe_int (nomark _)) (pss_cons (ps_set (i := 3) sc_l_value.nd rfl (Or.inl rfl) (pe_lst (pa_cons (pe_op op_pow pe_int pe_int) (pa_cons (pe_op op_pow pe_int pe_int) (pa_cons pe_int (pa_cons (pe_op op_pow pe_int pe_int) pa_nil)))))) (pss_cons (ps_ret (pe_op op_sub (pe_op op_add (pe_op op_mul (pe_ix (r := rIxL K) ix_list (pe_lst (pa_cons pe_int (pa_cons (pe_un un_neg pe_int) pa_nil))) (cl O_l_draw (hr.mono (by decide)) rfl (pa_cons (pv 0) (pa_cons (pe_op op_add (pv 1) pe_int) (pa_cons pe_int pa_nil)))) (fun _ _ => rfl)) (pe_ix (r := rIxL K) ix_list (pv 3) (pe_op op_fdiv (pv 2) pe_int) (fun _ _ => rfl))) (pe_op op_mod (pe_callTy call_int1 (by rfl) T.b_int (by decide +kernel) (pa_cons (pv 2) pa_nil)) pe_int)) pe_int)) pss_nil)) pss_nil) (pss_cons (ps_set (i := 4) sc_l_value.nd rfl (Or.inl rfl) pe_int) (pss_cons (ps_for PassesOwn.never rfl (pi_range1 (by rfl) T.b_range (pa_cons (cl O_l_draw (hr.mono (by decide)) rfl (pa_cons (pv 0) (pa_cons (pe_op op_add (pv 1) pe_int) (pa_cons pe_int pa_nil)))) pa_nil)) (pg_name (i := 5) sc_l_value.nd rfl (Or.inl rfl)) (pss_cons (ps_set (i := 4) sc_l_value.nd rfl (Or.inl rfl) (pe_op op_add (pe_op op_mul (pv 4) pe_int) (cl O_l_draw (hr.mono (by decide)) rfl (pa_cons (pv 0) (pa_cons (pe_op op_add (pe_op op_add (pv 1) pe_int) (pv 5)) (pa_cons pe_int pa_nil)))))) pss_nil)) (pss_cons (ps_ret (pe_op op_mul (pe_ix (r := rIxL K) ix_list (pe_lst (pa_cons pe_int (pa_cons (pe_un un_neg pe_int) pa_nil))) (cl O_l_draw (hr.mono (by decide)) rfl (pa_cons (pv 0) (pa_cons (pe_op op_add (pv 1) pe_int) (pa_cons pe_int pa_nil)))) (fun _ _ => rfl)) (pv 4))) pss_nil))))), ?_⟩
    have e := Ex.refl G
    have hd16 := draw_bd ns_l_tape_here l_at (m := 16) (by decide)
    have hd2 := draw_bd ns_l_tape_here (l_at + 1) (m := 2) (by decide)
    have hd9 := draw_bd ns_l_tape_here (l_at + 10) (m := 9) (by decide)
    have hsg := sgn_bd (m_l_draw ns_l_tape_here (l_at + 1) 2)
    -- _law_pick = _law_draw(_law_tape_here, _law_at, 16)
    refine r_asg e (ev_call (ea_cons (ev_var rfl) (ea_cons (ev_var rfl) (ea_cons ev_c ea_nil))) (sv_l_draw ⟨(by walk_at "sq"), by walk_at "sd"⟩)) fun H e e1 => ?_
    -- if _law_pick < 12
    refine r_when e (ep_dec (ev_op (ev_var rfl) ev_c rv_I0)) (fun hb1 H e e1 => ?_) (fun hb1 H e e1 => ?_)
    · -- _law_ends = [2 ** 31, 2 ** 63, 0, 2 ** 32]
      refine r_asgL e (el_lst (ea_cons (ev_op ev_c ev_c (rv_I (by walk_at "sd"))) (ea_cons (ev_op ev_c ev_c (rv_I (by walk_at "sd"))) (ea_cons ev_c (ea_cons (ev_op ev_c ev_c (rv_I (by walk_at "sd"))) ea_nil)))) (by walk_at "sd")) fun p_l_ends G2 hp e2 e1 hl_l_ends => ?_
      have hs_l_tape_here := ex_l e2 hs_l_tape_here
      have q := q_mv e2 q
      have e := Ex.refl G2
      have hs_l_ends := sq_of (K := K) hl_l_ends
      -- return [1, -1][_law_draw(_law_tape_here, _law_at + 1, 2)] * _law_ends[_law_pick // 3] + int(_law_pick) % 3 - 1
      have hs_l_ends : SqL K G2 p_l_ends (m_ends.map V.int) := hs_l_ends
      refine r_retI e (ev_op (ev_op (ev_op (ev_ixD (ns := [1, (-1)]) (el_lst (ea_cons ev_c (ea_cons (ev_un ev_c ru_neg) ea_nil)) (by walk_at "sd")) (ev_call (ea_cons (ev_var rfl) (ea_cons (ev_op (ev_var rfl) ev_c rv_I0) (ea_cons ev_c ea_nil))) (sv_l_draw ⟨(by walk_at "sq"), by walk_at "sd"⟩)) (by walk_at "sd") (by walk_at "sd")) (ev_op (ev_var rfl) (ev_op (ev_var rfl) ev_c (rv_I (by walk_at "sd"))) (rv_ixI hs_l_ends (by omega) (show _ < (4 : Int) by omega))) (rv_I (Or.inl ⟨by show _ < sgn _; omega, by show sgn _ < _; omega⟩))) (ev_op (ev_int (ev_var rfl)) ev_c (rv_I (by walk_at "sd"))) rv_I0) ev_c rv_I0) (by unfold m_l_value; rw [if_pos hb1]; rfl) q
    -- _law_number = 0
    refine r_asg e ev_c fun H e e1 => ?_
    -- for _law_k in range(_law_draw(_law_tape_here, _law_at + 10, 9))   [loop 1]
    refine r_forRH e (ea_cons (ev_call (ea_cons (ev_var rfl) (ea_cons (ev_op (ev_var rfl) ev_c rv_I0) (ea_cons ev_c ea_nil))) (sv_l_draw ⟨(by walk_at "sq"), by walk_at "sd"⟩)) ea_nil) (by walk_at "sd") (fun i σ H => ∃ (o_l_k : Option V), σ = [some (.ref l_tape_here), some (.int l_at), some (.int (m_l_draw ns_l_tape_here l_at 16)), none, some (.int (m_num ns_l_tape_here l_at i)), o_l_k] ∧ Ex G H) (fun H2 e2 => ⟨_, rfl, e.trans e2⟩) (fun i σ H hi hI => ?_) (fun σ H hI => ?_)
    · obtain ⟨o_l_k, rfl, e⟩ := hI
      -- _law_number = _law_number * 1000 + _law_draw(_law_tape_here, _law_at + 2 + _law_k, 1000)
      refine r_asg e (ev_op (ev_op (ev_var rfl) ev_c (rv_I (by walk_at "sd"))) (ev_call (ea_cons (ev_var rfl) (ea_cons (ev_op (ev_op (ev_var rfl) ev_c rv_I0) (ev_var rfl) rv_I0) (ea_cons ev_c ea_nil))) (sv_l_draw ⟨(by walk_at "sq"), by walk_at "sd"⟩)) rv_I0) fun H e e1 => ?_
      refine ⟨some (.int i), ?_, e⟩
      rw [m_num_succ]
      rfl
    obtain ⟨o_l_k, rfl, e⟩ := hI
    -- return [1, -1][_law_draw(_law_tape_here, _law_at + 1, 2)] * _law_number
    refine r_retI e (ev_op (ev_ixD (ns := [1, (-1)]) (el_lst (ea_cons ev_c (ea_cons (ev_un ev_c ru_neg) ea_nil)) (by walk_at "sd")) (ev_call (ea_cons (ev_var rfl) (ea_cons (ev_op (ev_var rfl) ev_c rv_I0) (ea_cons ev_c ea_nil))) (sv_l_draw ⟨(by walk_at "sq"), by walk_at "sd"⟩)) (by walk_at "sd") (by walk_at "sd")) (ev_var rfl) (rv_I (Or.inl ⟨by show _ < sgn _; omega, by show sgn _ < _; omega⟩))) (by unfold m_l_value; rw [if_neg hb1]; rfl) q

/-! _law_fits -/
def m_l_fits (l_kind : Str) (l_value_here : Int) : Bool :=
  if (l_kind = ("i64" : Str)) then
    ((decide ((0 - (2 ^ (63 : Int).toNat)) ≤ l_value_here)) && (decide (l_value_here ≤ ((2 ^ (63 : Int).toNat) - 1))))
  else
    ((decide ((0 - (2 ^ (31 : Int).toNat)) ≤ l_value_here)) && (decide (l_value_here ≤ ((2 ^ (31 : Int).toNat) - 1))))
theorem sc_l_fits : FnScope ["_law_kind", "_law_value_here", "_law_bound"] ["_law_kind", "_law_value_here"] (defScope s_l_fits) := ⟨rfl, rfl, rfl, by decide +kernel, rfl, by decide +kernel, by decide +kernel⟩
def sp_l_fits (K : PySem.W.Frag) : Sp := fun vs H Q _ => ∃ (l_kind : Str) (l_value_here : Int), vs = [.str l_kind, .int l_value_here] ∧ (True) ∧ ∀ H1, Ex H H1 → Q (.bl (m_l_fits l_kind l_value_here)) H1
theorem sv_l_fits {K : PySem.W.Frag} {H : Hp} {l_kind : Str} {l_value_here : Int} (h : (True)) : SpV (sp_l_fits K) [.str l_kind, .int l_value_here] H (.bl (m_l_fits l_kind l_value_here)) := fun H1 e Q q _ => ⟨l_kind, l_value_here, rfl, h, q⟩
theorem ok_l_fits {f : Addr} {fd : FuncData} (F : Fun K "_law_fits" "_law_fits" s_l_fits f fd) (T : Tx w K mg)  : FnOk P w K mg base CX0 1 f fd ["_law_kind", "_law_value_here"] (sp_l_fits K) := by
  refine F.ok sc_l_fits (fun vs H Q E h => ?_) (fun cdv A outer s G vs Q E hr h => ?_)
  · obtain ⟨l_kind, l_value_here, rfl, _⟩ := h
    rfl
  · obtain ⟨l_kind, l_value_here, rfl, h, q⟩ := h
    refine ⟨_, (pss_cons (ps_set (i := 2) sc_l_fits.nd rfl (Or.inl rfl) (pe_op op_pow pe_int pe_int)) (pss_cut (ps_if (pt_cmpR op_eq (pv 0) pe_str (nomark _)) (pss_cons (ps_set (i := 2) sc_l_fits.nd rfl (Or.inl rfl) (pe_op op_pow pe_int pe_int)) pss_nil) pss_nil) (pss_cons (ps_ret (pe_and (pe_cmpR op_ge (pv 1) (pe_op op_sub pe_int (pv 2)) (nomark _)) (pe_one (pe_cmpR op_le (pv 1) (pe_op op_sub (pv 2) pe_int) (nomark _))))) pss_nil))), ?_⟩
    have e := Ex.refl G
    -- _law_bound = 2 ** 31
    refine r_asg e (ev_op ev_c ev_c (rv_I (by walk_at "sd"))) fun H e e1 => ?_
    -- if _law_kind == 'i64'
    refine r_ifJ e (ep_dec (ev_op (ev_var rfl) ev_c rv_eqS)) (fun σ H => σ = [some (.str l_kind), some (.int l_value_here), some (.int (if (l_kind = ("i64" : Str)) then (2 ^ (63 : Int).toNat) else (2 ^ (31 : Int).toNat)))] ∧ Ex G H) (fun hb1 H e e1 => ?_) (fun hb1 H e e1 => ?_) ?_
    · -- _law_bound = 2 ** 63
      refine r_asg e (ev_op ev_c ev_c (rv_I (by walk_at "sd"))) fun H e e1 => ?_
      exact r_next ⟨(by rw [if_pos hb1]; rfl), e⟩
    · exact r_next ⟨(by rw [if_neg hb1]; rfl), e⟩
    rintro σ H ⟨rfl, e⟩
    -- return _law_value_here >= 0 - _law_bound and _law_value_here <= _law_bound - 1
    refine r_retB e (ev_andV (ev_op (ev_var rfl) (ev_op ev_c (ev_var rfl) rv_I0) rv_I0) (fun hb => (ev_op (ev_var rfl) (ev_op (ev_var rfl) ev_c rv_I0) rv_I0))) (by show _ = m_l_fits _ _; unfold m_l_fits; (first | rfl | (split <;> rfl))) q

/-! law -/
def ks_of (ns : List Int) : List Str := (List.range (m_l_draw ns 0 7).toNat).map fun (i : Nat) => ([("i32" : Str), ("i64" : Str)].getD (m_l_draw ns (1 + 13 * (i : Int)) 2).toNat "")
def vs_of (ns : List Int) : List Int := (List.range (m_l_draw ns 0 7).toNat).map fun (i : Nat) => m_l_value ns (2 + 13 * (i : Int))
theorem ks_kind {ns : List Int} : ∀ k ∈ ks_of ns, k = "i32" ∨ k = "i64" := by
  intro k hk
  obtain ⟨i, _, rfl⟩ := List.mem_map.mp hk
  have h := draw_bd ns (1 + 13 * (i : Int)) (m := 2) (by decide)
  have h2 : (m_l_draw ns (1 + 13 * (i : Int)) 2).toNat = 0 ∨ (m_l_draw ns (1 + 13 * (i : Int)) 2).toNat = 1 := by omega
  rcases h2 with h2 | h2 <;> rw [h2]
  · exact Or.inl rfl
  · exact Or.inr rfl
theorem ks_len (ns : List Int) : (ks_of ns).length = (m_l_draw ns 0 7).toNat := by unfold ks_of; rw [List.length_map, List.length_range]
theorem vs_len (ns : List Int) : (vs_of ns).length = (m_l_draw ns 0 7).toNat := by unfold vs_of; rw [List.length_map, List.length_range]
theorem fits_same {k : Str} (h : k = "i32" ∨ k = "i64") (v : Int) : m_value_fits k v = m_l_fits k v := by
  unfold m_value_fits m_l_fits m_least
  rcases h with rfl | rfl
  · rw [if_pos rfl, if_neg (by decide +kernel)]
    have a : (2 : Int) ^ (31 : Int).toNat = 2147483648 := by decide
    rw [a, Bool.eq_iff_iff]
    simp
    omega
  · rw [if_neg (by decide +kernel), if_pos rfl]
    have a : (2 : Int) ^ (63 : Int).toNat = 9223372036854775808 := by decide
    rw [a, Bool.eq_iff_iff]
    simp
    omega
def all_to (ks : List Str) (vs : List Int) (n : Nat) : Bool := (List.range n).all fun (i : Nat) => m_l_fits (ks.getD i "") (vs.getD i 0)
theorem all_succ (ks : List Str) (vs : List Int) (n : Nat) : all_to ks vs (n + 1) = (all_to ks vs n && m_l_fits (ks.getD n "") (vs.getD n 0)) := by
  unfold all_to
  rw [List.range_succ, List.all_append]
  simp
theorem vf_eq {ks : List Str} {vs : List Int} (h : ∀ k ∈ ks, k = "i32" ∨ k = "i64") (hl : vs.length = ks.length) : m_values_fit ks vs = all_to ks vs ks.length := by
  unfold m_values_fit all_to
  rw [decide_eq_true hl.symm, Bool.true_and, Bool.eq_iff_iff, List.all_eq_true, List.all_eq_true]
  refine ⟨fun g i hi => ?_, fun g i hi => ?_⟩
  all_goals
    have hi2 := List.mem_range.mp hi
    have hm : ks.getD i "" ∈ ks := by
      rw [List.getD_eq_getElem?_getD, List.getElem?_eq_getElem hi2]
      exact List.getElem_mem hi2
    have q := g i hi
  · rw [← fits_same (h _ hm)]; exact q
  · rw [fits_same (h _ hm)]; exact q
theorem sc_law : FnScope ["_law_script", "_law_tape_here", "_law_kinds", "_law_k", "_law_values", "_law_due", "_law_fits_here", "_law_change"] ["_law_script"] (defScope s_law) := ⟨rfl, rfl, rfl, by decide +kernel, rfl, by decide +kernel, by decide +kernel⟩
def sp_law (K : PySem.W.Frag) : Sp := fun vs H Q _ => ∃ (l_script : Addr) (ns : List Int), vs = [.ref l_script] ∧ (SqL K H l_script (ns.map V.int) ∧ ns.length ≤ 63) ∧ ∀ H1, Q (.bl true) H1
theorem law_in {K : PySem.W.Frag} {H : Hp} {a : Addr} {ns : List Int} (hl : ns.length ≤ 63) (hS : SqL K H a (ns.map V.int)) : sp_law K [.ref a] H (fun v _ => v = .bl true) (fun _ _ _ => False) := ⟨a, ns, rfl, ⟨hS, hl⟩, fun _ => rfl⟩
theorem ok_law {f : Addr} {fd : FuncData} {a_value_fits : Addr} {d_value_fits : FuncData} {a_values_fit : Addr} {d_values_fit : FuncData} {a_l_tape : Addr} {d_l_tape : FuncData} {a_l_draw : Addr} {d_l_draw : FuncData} {a_l_says : Addr} {d_l_says : FuncData} {a_l_value : Addr} {d_l_value : FuncData} {a_l_fits : Addr} {d_l_fits : FuncData} (F : Fun K "law" "law" s_law f fd) (T : Tx w K mg) (O_value_fits : Df P w K mg base 1 "value_fits" a_value_fits d_value_fits ["kind", "value"] (sp_value_fits K)) (O_values_fit : Df P w K mg base 2 "values_fit" a_values_fit d_values_fit ["kinds", "values"] (sp_values_fit K)) (O_l_tape : Df P w K mg base 1 "_law_tape" a_l_tape d_l_tape ["_law_script"] (sp_l_tape K)) (O_l_draw : Df P w K mg base 1 "_law_draw" a_l_draw d_l_draw ["_law_tape_here", "_law_at", "_law_many"] (sp_l_draw K)) (O_l_says : Df P w K mg base 1 "_law_says" a_l_says d_l_says ["_law_actual", "_law_due"] (sp_l_says K)) (O_l_value : Df P w K mg base 2 "_law_value" a_l_value d_l_value ["_law_tape_here", "_law_at"] (sp_l_value K)) (O_l_fits : Df P w K mg base 1 "_law_fits" a_l_fits d_l_fits ["_law_kind", "_law_value_here"] (sp_l_fits K)) : FnOk P w K mg base CX0 3 f fd ["_law_script"] (sp_law K) := by
  refine F.ok sc_law (fun vs H Q E h => ?_) (fun cdv A outer s G vs Q E hr h => ?_)
  · obtain ⟨l_script, ns, rfl, _⟩ := h
    rfl
  · obtain ⟨l_script, ns, rfl, ⟨hS, hlen⟩, q⟩ := h
    refine ⟨_, (pss_cons (ps_set (i := 1) sc_law.nd rfl (Or.inr rfl) (cl O_l_tape (hr.mono (by decide)) rfl (pa_cons (pv 0) pa_nil))) (pss_cons (ps_setLc (i := 2) (own := [("_law_k", 3)]) (g := gName 3) (tt := tYes) rfl sc_law.nd rfl rfl (sw_true rfl rfl rfl (by decide +kernel)) (pi_range1 (by rfl) T.b_range (pa_cons (cl O_l_draw (hr.mono (by decide)) rfl (pa_cons (pv 1) (pa_cons pe_int (pa_cons pe_int pa_nil)))) pa_nil)) (blkOk_by (N := ["_law_script", "_law_tape_here", "_law_kinds", "_law_k", "_law_values", "_law_due", "_law_fits_here", "_law_change"]) (sc := defScope s_law) (by decide +kernel)) (fun _ _ _ _ _ => pg_name (i := 3) sc_law.nd rfl (Or.inl rfl)) (fun _ _ _ _ _ => pts_nil) (fun _ _ _ _ _ => (pe_ix (r := rIxL K) ix_list (pe_lst (pa_cons pe_str (pa_cons pe_str pa_nil))) (cl O_l_draw (hr.mono (by decide)) rfl (pa_cons (pv 1) (pa_cons (pe_op op_add pe_int (pe_op op_mul pe_int (pv 3))) (pa_cons pe_int pa_nil)))) (fun _ _ => rfl)))) (pss_cons (ps_setLc (i := 4) (own := [("_law_k", 3)]) (g := gName 3) (tt := tYes) rfl sc_law.nd rfl rfl (sw_true rfl rfl rfl (by decide +kernel)) (pi_range1 (by rfl) T.b_range (pa_cons (pe_callB (r := rLenS K) call_len_seq (by rfl) T.b_len (by decide +kernel) (pa_cons (pv 2) pa_nil)) pa_nil)) (blkOk_by (N := ["_law_script", "_law_tape_here", "_law_kinds", "_law_k", "_law_values", "_law_due", "_law_fits_here", "_law_change"]) (sc := defScope s_law) (by decide +kernel)) (fun _ _ _ _ _ => pg_name (i := 3) sc_law.nd rfl (Or.inl rfl)) (fun _ _ _ _ _ => pts_nil) (fun _ _ _ _ _ => (cl O_l_value (hr.mono (by decide)) rfl (pa_cons (pv 1) (pa_cons (pe_op op_add pe_int (pe_op op_mul pe_int (pv 3))) pa_nil))))) (pss_cons (ps_set (i := 5) sc_law.nd rfl (Or.inl rfl) pe_bl) (pss_cons (ps_for PassesOwn.never rfl (pi_range1 (by rfl) T.b_range (pa_cons (pe_callB (r := rLenS K) call_len_seq (by rfl) T.b_len (by decide +kernel) (pa_cons (pv 2) pa_nil)) pa_nil)) (pg_name (i := 3) sc_law.nd rfl (Or.inl rfl)) (pss_cons (ps_set (i := 6) sc_law.nd rfl (Or.inl rfl) (cl O_l_fits (hr.mono (by decide)) rfl (pa_cons (pe_ix (r := rIxL K) ix_list (pv 2) (pv 3) (fun _ _ => rfl)) (pa_cons (pe_ix (r := rIxL K) ix_list (pv 4) (pv 3) (fun _ _ => rfl)) pa_nil)))) (pss_cons (ps_set (i := 5) sc_law.nd rfl (Or.inl rfl) (pe_and (pv 5) (pe_one (pv 6)))) (pss_cons (ps_if (pt_not (pt_val (cl O_l_says (hr.mono (by decide)) rfl (pa_cons (cl O_value_fits (hr.mono (by decide)) rfl (pa_cons (pe_ix (r := rIxL K) ix_list (pv 2) (pv 3) (fun _ _ => rfl)) (pa_cons (pe_ix (r := rIxL K) ix_list (pv 4) (pv 3) (fun _ _ => rfl)) pa_nil))) (pa_cons (pv 6) pa_nil))))) (pss_cons (ps_ret pe_bl) pss_nil) pss_nil) pss_nil)))) (pss_cons (ps_set (i := 7) sc_law.nd rfl (Or.inl rfl) (cl O_l_draw (hr.mono (by decide)) rfl (pa_cons (pv 1) (pa_cons pe_int (pa_cons pe_int pa_nil))))) (pss_cut (ps_if (pt_cmpR op_eq (pv 7) pe_int (nomark _)) (pss_cons (ps_expr (pe_bm PySem.F.plainAttrs_list PySem.F.slot_list_append PySem.F.type_list_append mt_append (pv 4) (pa_cons pe_int pa_nil))) pss_nil) (pss_cut (ps_if (PW.pt (pw_and (pt_cmpR op_eq (pv 7) pe_int (nomark _)) (pw_and1 (pt_cmpR op_gt (pe_callB (r := rLenS K) call_len_seq (by rfl) T.b_len (by decide +kernel) (pa_cons (pv 4) pa_nil)) pe_int (nomark _))))) (pss_cons (ps_expr (pe_bm0 PySem.F.plainAttrs_list PySem.F.slot_list_pop PySem.F.type_list_pop mt_pop (pv 4))) pss_nil) pss_nil) pss_nil)) (pss_cons (ps_set (i := 5) sc_law.nd rfl (Or.inl rfl) (pe_and (pv 5) (pe_one (pe_cmpR op_eq (pe_callB (r := rLenS K) call_len_seq (by rfl) T.b_len (by decide +kernel) (pa_cons (pv 4) pa_nil)) (pe_callB (r := rLenS K) call_len_seq (by rfl) T.b_len (by decide +kernel) (pa_cons (pv 2) pa_nil)) (nomark _))))) (pss_cons (ps_ret (cl O_l_says (hr.mono (by decide)) rfl (pa_cons (cl O_values_fit (hr.mono (by decide)) rfl (pa_cons (pe_callTy (r := rTupS K) call_tuple_of (by rfl) T.b_tuple (by decide +kernel) (pa_cons (pv 2) pa_nil)) (pa_cons (pe_callTy (r := rTupS K) call_tuple_of (by rfl) T.b_tuple (by decide +kernel) (pa_cons (pv 4) pa_nil)) pa_nil))) (pa_cons (pv 5) pa_nil)))) pss_nil))))))))), ?_⟩
    have e := Ex.refl G
    -- _law_tape_here = _law_tape(_law_script)
    refine r_asgLE e (ele_call (ea_cons (ev_var rfl) ea_nil) (sv_l_tape ⟨(by walk_at "sq"), by walk_at "sd"⟩)) fun p_l_tape_here G2 xs_l_tape_here hx_l_tape_here hp e2 e1 hl_l_tape_here => ?_
    obtain ⟨ns_l_tape_here, rfl, hx_l_tape_here⟩ := hx_l_tape_here
    have hS := ex_l e2 hS
    clear e e1
    have e := Ex.refl G2
    have hs_l_tape_here := sq_of (K := K) hl_l_tape_here
    have hd7 := draw_bd ns_l_tape_here 0 (m := 7) (by decide)
    -- _law_kinds = [['i32', 'i64'][_law_draw(_law_tape_here, 1 + 13 * _law_k, 2)] for _law_k in range(_law_draw(_law_tape_here, 0, 7))]
    refine r_asgL e (el_lcR (fun i => .str ([("i32" : Str), ("i64" : Str)].getD (m_l_draw ns_l_tape_here (1 + 13 * (i : Int)) 2).toNat "")) (ea_cons (ev_call (ea_cons (ev_var rfl) (ea_cons ev_c (ea_cons ev_c ea_nil))) (sv_l_draw ⟨hs_l_tape_here, by walk_at "sd"⟩)) ea_nil) (by walk_at "sd") (fun _ => rfl) (fun i hi => have hd2 := draw_bd ns_l_tape_here (1 + 13 * (i : Int)) (m := 2) (by decide)
      (ev_ixDS (ns := [("i32" : Str), ("i64" : Str)]) (el_lst (ea_cons ev_c (ea_cons ev_c ea_nil)) (by walk_at "sd")) (ev_call (ea_cons (ev_var rfl) (ea_cons (ev_op ev_c (ev_op ev_c (ev_var rfl) (rv_I (by walk_at "sd"))) rv_I0) (ea_cons ev_c ea_nil))) (sv_l_draw ⟨hs_l_tape_here, by walk_at "sd"⟩)) (by walk_at "sd") (by walk_at "sd")))) fun p_l_kinds G2 hp e2 e1 hl_l_kinds => ?_
    have hS := ex_l e2 hS
    have hs_l_tape_here := ex_l e2 hs_l_tape_here
    have e := Ex.refl G2
    have hs_l_kinds := sq_of (K := K) hl_l_kinds
    have hs_l_kinds : SqL K G2 p_l_kinds ((ks_of ns_l_tape_here).map V.str) := by
      unfold ks_of
      rw [List.map_map]
      exact hs_l_kinds
    -- _law_values = [_law_value(_law_tape_here, 2 + 13 * _law_k) for _law_k in range(len(_law_kinds))]
    have hkl := ks_len ns_l_tape_here
    have hvl := vs_len ns_l_tape_here
    refine r_asgL e (el_lcR (fun i => .int (m_l_value ns_l_tape_here (2 + 13 * (i : Int)))) (ea_cons (ev_lenM (ev_var rfl) hs_l_kinds) ea_nil) (by omega) (fun _ => rfl) (fun i hi => (ev_call (ea_cons (ev_var rfl) (ea_cons (ev_op ev_c (ev_op ev_c (ev_var rfl) (rv_I (by walk_at "sd"))) rv_I0) ea_nil)) (sv_l_value ⟨hs_l_tape_here, by omega⟩)))) fun p_l_values G3 hp_l_values e3 _ hl_l_values => ?_
    have hl_l_values : G3 p_l_values = some (.lst ((vs_of ns_l_tape_here).map V.int)) := by
      unfold vs_of
      rw [List.map_map]
      rw [Int.toNat_natCast, hkl] at hl_l_values
      exact hl_l_values
    have hk3 := ex_l e3 hs_l_kinds
    have ht3 := ex_l e3 hs_l_tape_here
    have hs_l_values := sq_of (K := K) hl_l_values
    have e := Ex.refl G3
    refine r_asg e ev_c fun H e e1 => ?_
    refine r_forRH e (ea_cons (ev_lenM (ev_var rfl) hk3) ea_nil) (by omega) (fun i σ H => ∃ (o_l_k : Option V) (o_l_fits_here : Option V), σ = [some (.ref l_script), some (.ref p_l_tape_here), some (.ref p_l_kinds), o_l_k, some (.ref p_l_values), some (.bl (all_to (ks_of ns_l_tape_here) (vs_of ns_l_tape_here) i)), o_l_fits_here, none] ∧ Ex G3 H) (fun H2 e2 => ⟨_, _, rfl, e.trans e2⟩) (fun i σ H hi hI => ?_) (fun σ H hI => ?_)
    · obtain ⟨o_l_k, o_l_fits_here, rfl, e⟩ := hI
      refine r_asg e (ev_call (ea_cons (ev_op (ev_var rfl) (ev_var rfl) (rv_ixStr hk3 (by omega) (by omega))) (ea_cons (ev_op (ev_var rfl) (ev_var rfl) (rv_ixI hs_l_values (by omega) (by omega))) ea_nil)) (sv_l_fits True.intro)) fun H e e1 => ?_
      refine r_asg e (ev_andV (ev_var rfl) (fun hb => (ev_var rfl))) fun H e e1 => ?_
      have hkm : (ks_of ns_l_tape_here).getD ((i : Int)).toNat "" ∈ ks_of ns_l_tape_here := by
        rw [List.getD_eq_getElem?_getD, List.getElem?_eq_getElem (by omega)]
        exact List.getElem_mem _
      refine r_when e (ep_not (ep_val (ev_call (ea_cons (ev_call (ea_cons (ev_op (ev_var rfl) (ev_var rfl) (rv_ixStr hk3 (by omega) (by omega))) (ea_cons (ev_op (ev_var rfl) (ev_var rfl) (rv_ixI hs_l_values (by omega) (by omega))) ea_nil)) (sv_value_fits (ks_kind _ hkm))) (ea_cons (ev_var rfl) ea_nil)) (sv_l_says True.intro)))) (fun hb1 H e e1 => ?_) (fun hb1 H e e1 => ?_)
      · exact absurd hb1 (by rw [fits_same (ks_kind _ hkm)]; simp [m_l_says])
      exact ⟨some (.int i), some (.bl _), by rw [all_succ]; rfl, e⟩
    obtain ⟨o_l_k, o_l_fits_here, rfl, e⟩ := hI
    rw [Int.toNat_natCast]
    refine r_asg e (ev_call (ea_cons (ev_var rfl) (ea_cons ev_c (ea_cons ev_c ea_nil))) (sv_l_draw ⟨ht3, by walk_at "sd"⟩)) fun H e e1 => ?_
    have hl_l_values := e _ _ hl_l_values
    have eG := e3.trans e
    refine r_ifJ (Ex.refl H) (ep_dec (ev_op (ev_var rfl) ev_c rv_eqI)) (fun σ H => ∃ (ms : List Int), σ = [some (.ref l_script), some (.ref p_l_tape_here), some (.ref p_l_kinds), o_l_k, some (.ref p_l_values), some (.bl (all_to (ks_of ns_l_tape_here) (vs_of ns_l_tape_here) (ks_of ns_l_tape_here).length)), o_l_fits_here, some (.int (m_l_draw ns_l_tape_here 90 8))] ∧ Ex G2 H ∧ H p_l_values = some (.lst (ms.map V.int)) ∧ ms.length ≤ 8 ∧ (ms.length = (ks_of ns_l_tape_here).length → ms = vs_of ns_l_tape_here)) (fun hb2 H4 e4 _ => ?_) (fun hb2 H4 e4 _ => ?_) ?_
    · refine r_appM (eG.trans e4) hp_l_values (e4 _ _ hl_l_values) (ev_var rfl) ev_c (by omega) fun H e hl_l_values hk => ?_
      exact r_next ⟨_, rfl, e, hl_l_values, by rw [List.length_append]; show _ + 1 ≤ 8; omega, fun z => by rw [List.length_append] at z; have z : (vs_of ns_l_tape_here).length + 1 = _ := z; omega⟩
    · refine r_ifJ (Ex.refl H4) (ep_and (ep_dec (ev_op (ev_var rfl) ev_c rv_eqI)) (fun hb => (ep_dec (ev_op (ev_lenI (ev_var rfl) (sq_of (e4 _ _ hl_l_values))) ev_c rv_I0)))) (fun σ H => ∃ (ms : List Int), σ = [some (.ref l_script), some (.ref p_l_tape_here), some (.ref p_l_kinds), o_l_k, some (.ref p_l_values), some (.bl (all_to (ks_of ns_l_tape_here) (vs_of ns_l_tape_here) (ks_of ns_l_tape_here).length)), o_l_fits_here, some (.int (m_l_draw ns_l_tape_here 90 8))] ∧ Ex G2 H ∧ H p_l_values = some (.lst (ms.map V.int)) ∧ ms.length ≤ 8 ∧ (ms.length = (ks_of ns_l_tape_here).length → ms = vs_of ns_l_tape_here)) (fun hb3 H5 e5 _ => ?_) (fun hb3 H5 e5 _ => ?_) ?_
      · have hne : 0 < (vs_of ns_l_tape_here).length := by have := hb3.2; omega
        refine r_pop (y := .int ((vs_of ns_l_tape_here).getD ((vs_of ns_l_tape_here).length - 1) 0)) ((eG.trans e4).trans e5) hp_l_values ((e4.trans e5) _ _ hl_l_values) (ev_var rfl) (by rw [List.length_map, List.getElem?_map, List.getD_eq_getElem?_getD, List.getElem?_eq_getElem (by omega)]; rfl) fun H e hl_l_values hk => ?_
        rw [← List.map_dropLast] at hl_l_values
        exact r_next ⟨_, rfl, e, hl_l_values, by rw [List.length_dropLast]; omega, fun z => by rw [List.length_dropLast] at z; omega⟩
      · exact r_next ⟨_, rfl, (eG.trans e4).trans e5, (e4.trans e5) _ _ hl_l_values, by omega, fun _ => rfl⟩
      rintro σ H h
      exact r_next h
    rintro σ H ⟨ms, rfl, e, hl, hm8, hms⟩
    have hk := ex_l e hs_l_kinds
    have hv := sq_of (K := K) hl
    have e := Ex.refl H
    refine r_asg e (ev_andV (ev_var rfl) (fun hb => (ev_op (ev_lenI (ev_var rfl) hv) (ev_lenM (ev_var rfl) hk) rv_eqI))) fun H e e1 => ?_
    refine r_retB (Ex.refl H) (ev_call (ea_cons (ev_callX (eax_U (eu_tupL (ev_var rfl) (ex_l e1 hk)) (eax_U (eu_tupL (ev_var rfl) (ex_l e1 hv)) eax_nil)) (fun vs H1 e h => by obtain ⟨_, _, rfl, h1, _, _, rfl, h2, rfl⟩ := h; exact sv_values_fit (ns_kinds := ks_of ns_l_tape_here) (ns_values := ms) ⟨st_of h1, st_of h2, ks_kind⟩)) (ea_cons (ev_var rfl) ea_nil)) (sv_l_says True.intro)) (by
      by_cases z : ms.length = (ks_of ns_l_tape_here).length
      · rw [hms z, vf_eq ks_kind (by omega)]
        simp [m_l_says]
        omega
      · rw [vf_len (by omega)]
        have z2 : decide ((ms.length : Int) = (ks_of ns_l_tape_here).length) = false := decide_eq_false (by omega)
        rw [z2]
        simp [m_l_says]) (fun H _ => q H)

end
theorem all_mk {l : PySem.W.OpenLaw} {w : World} {K : PySem.W.Frag} {h : Heap} {mg : Str → Option Value} {fa : Addr} {f_value_fits f_values_fit f_l_tape f_l_draw f_l_says f_l_value f_l_fits f_law : Addr} (X : K.In h) (G : h.Ns mainGlobals mg) (hfa : mg "law" = some (.ref fa))
    {od_value_fits an_value_fits od_values_fit an_values_fit od_l_tape an_l_tape od_l_draw an_l_draw od_l_says an_l_says od_l_value an_l_value od_l_fits an_l_fits od_law an_law : Option Addr} {sl_value_fits sl_values_fit sl_l_tape sl_l_draw sl_l_says sl_l_value sl_l_fits sl_law : Array (Option Value)}
    {oc_value_fits kV_value_fits dc_value_fits pm_value_fits cd_value_fits ct_value_fits oc_values_fit kV_values_fit dc_values_fit pm_values_fit cd_values_fit ct_values_fit oc_l_tape kV_l_tape dc_l_tape pm_l_tape cd_l_tape ct_l_tape oc_l_draw kV_l_draw dc_l_draw pm_l_draw cd_l_draw ct_l_draw oc_l_says kV_l_says dc_l_says pm_l_says cd_l_says ct_l_says oc_l_value kV_l_value dc_l_value pm_l_value cd_l_value ct_l_value oc_l_fits kV_l_fits dc_l_fits pm_l_fits cd_l_fits ct_l_fits oc_law kV_law dc_law pm_law cd_law ct_law : Value}
    (a_value_fits : PySem.W.nsIn K mainGlobals "value_fits" = some (some (.ref f_value_fits)))
    (l_value_fits : K.lookup f_value_fits = some ⟨oc_value_fits, od_value_fits, .func (PySem.W.fnOf "value_fits" "value_fits" (defArgs s_value_fits) (defBody s_value_fits) (defScope s_value_fits) .none kV_value_fits dc_value_fits pm_value_fits an_value_fits cd_value_fits ct_value_fits), sl_value_fits⟩)
    (c_value_fits : PySem.W.codeIn K cd_value_fits "value_fits" = true) (k_value_fits : PySem.W.keepIn K (.ref f_value_fits) = true)
    (a_values_fit : PySem.W.nsIn K mainGlobals "values_fit" = some (some (.ref f_values_fit)))
    (l_values_fit : K.lookup f_values_fit = some ⟨oc_values_fit, od_values_fit, .func (PySem.W.fnOf "values_fit" "values_fit" (defArgs s_values_fit) (defBody s_values_fit) (defScope s_values_fit) .none kV_values_fit dc_values_fit pm_values_fit an_values_fit cd_values_fit ct_values_fit), sl_values_fit⟩)
    (c_values_fit : PySem.W.codeIn K cd_values_fit "values_fit" = true) (k_values_fit : PySem.W.keepIn K (.ref f_values_fit) = true)
    (a_l_tape : PySem.W.nsIn K mainGlobals "_law_tape" = some (some (.ref f_l_tape)))
    (l_l_tape : K.lookup f_l_tape = some ⟨oc_l_tape, od_l_tape, .func (PySem.W.fnOf "_law_tape" "_law_tape" (defArgs s_l_tape) (defBody s_l_tape) (defScope s_l_tape) .none kV_l_tape dc_l_tape pm_l_tape an_l_tape cd_l_tape ct_l_tape), sl_l_tape⟩)
    (c_l_tape : PySem.W.codeIn K cd_l_tape "_law_tape" = true) (k_l_tape : PySem.W.keepIn K (.ref f_l_tape) = true)
    (a_l_draw : PySem.W.nsIn K mainGlobals "_law_draw" = some (some (.ref f_l_draw)))
    (l_l_draw : K.lookup f_l_draw = some ⟨oc_l_draw, od_l_draw, .func (PySem.W.fnOf "_law_draw" "_law_draw" (defArgs s_l_draw) (defBody s_l_draw) (defScope s_l_draw) .none kV_l_draw dc_l_draw pm_l_draw an_l_draw cd_l_draw ct_l_draw), sl_l_draw⟩)
    (c_l_draw : PySem.W.codeIn K cd_l_draw "_law_draw" = true) (k_l_draw : PySem.W.keepIn K (.ref f_l_draw) = true)
    (a_l_says : PySem.W.nsIn K mainGlobals "_law_says" = some (some (.ref f_l_says)))
    (l_l_says : K.lookup f_l_says = some ⟨oc_l_says, od_l_says, .func (PySem.W.fnOf "_law_says" "_law_says" (defArgs s_l_says) (defBody s_l_says) (defScope s_l_says) .none kV_l_says dc_l_says pm_l_says an_l_says cd_l_says ct_l_says), sl_l_says⟩)
    (c_l_says : PySem.W.codeIn K cd_l_says "_law_says" = true) (k_l_says : PySem.W.keepIn K (.ref f_l_says) = true)
    (a_l_value : PySem.W.nsIn K mainGlobals "_law_value" = some (some (.ref f_l_value)))
    (l_l_value : K.lookup f_l_value = some ⟨oc_l_value, od_l_value, .func (PySem.W.fnOf "_law_value" "_law_value" (defArgs s_l_value) (defBody s_l_value) (defScope s_l_value) .none kV_l_value dc_l_value pm_l_value an_l_value cd_l_value ct_l_value), sl_l_value⟩)
    (c_l_value : PySem.W.codeIn K cd_l_value "_law_value" = true) (k_l_value : PySem.W.keepIn K (.ref f_l_value) = true)
    (a_l_fits : PySem.W.nsIn K mainGlobals "_law_fits" = some (some (.ref f_l_fits)))
    (l_l_fits : K.lookup f_l_fits = some ⟨oc_l_fits, od_l_fits, .func (PySem.W.fnOf "_law_fits" "_law_fits" (defArgs s_l_fits) (defBody s_l_fits) (defScope s_l_fits) .none kV_l_fits dc_l_fits pm_l_fits an_l_fits cd_l_fits ct_l_fits), sl_l_fits⟩)
    (c_l_fits : PySem.W.codeIn K cd_l_fits "_law_fits" = true) (k_l_fits : PySem.W.keepIn K (.ref f_l_fits) = true)
    (a_law : PySem.W.nsIn K mainGlobals "law" = some (some (.ref f_law)))
    (l_law : K.lookup f_law = some ⟨oc_law, od_law, .func (PySem.W.fnOf "law" "law" (defArgs s_law) (defBody s_law) (defScope s_law) .none kV_law dc_law pm_law an_law cd_law ct_law), sl_law⟩)
    (c_law : PySem.W.codeIn K cd_law "law" = true) (k_law : PySem.W.keepIn K (.ref f_law) = true)
    (z_bool : PySem.W.nsIn K mainGlobals "bool" = some none)
    (z_int : PySem.W.nsIn K mainGlobals "int" = some none)
    (z_isinstance : PySem.W.nsIn K mainGlobals "isinstance" = some none)
    (z_len : PySem.W.nsIn K mainGlobals "len" = some none)
    (z_range : PySem.W.nsIn K mainGlobals "range" = some none)
    (z_tuple : PySem.W.nsIn K mainGlobals "tuple" = some none)
    (z_zip : PySem.W.nsIn K mainGlobals "zip" = some none)
    {a_LEAST_VALUES : Addr} {es_LEAST_VALUES : Array DictEntry} {n_LEAST_VALUES : Nat}
    {t_LEAST_VALUES_0 : Tok}
    {t_LEAST_VALUES_1 : Tok}
    (m_LEAST_VALUES : PySem.W.nsIn K mainGlobals "LEAST_VALUES" = some (some (.ref a_LEAST_VALUES)))
    (l_LEAST_VALUES : K.lookup a_LEAST_VALUES = some ⟨.type "dict", none, .dict es_LEAST_VALUES n_LEAST_VALUES, #[]⟩)
    (kl_LEAST_VALUES : PySem.W.KeysLit w.params es_LEAST_VALUES.toList)
    (i_LEAST_VALUES_0 : PySem.W.nsIn K a_LEAST_VALUES "i32" = some (some (.int (-2147483648) t_LEAST_VALUES_0)))
    (i_LEAST_VALUES_1 : PySem.W.nsIn K a_LEAST_VALUES "i64" = some (some (.int (-9223372036854775808) t_LEAST_VALUES_1)))
    : ∃ fd : FuncData, (∀ (s : Shared) (v : Value), BindsTo s fd ⟨[v], []⟩ [("_law_script", v)]) ∧ ∀ base : Heap, K.In base → base.Ns mainGlobals mg → FnOk l.prog w K mg base CX0 3 fa fd ["_law_script"] (sp_law K) := by
  have e := hfa.symm.trans (PySem.W.mg_of X G a_law)
  cases e
  have T : Tx w K mg := ⟨PySem.W.mg_none_of X G z_bool, PySem.W.mg_none_of X G z_int, PySem.W.mg_none_of X G z_isinstance, PySem.W.mg_none_of X G z_len, PySem.W.mg_none_of X G z_range, PySem.W.mg_none_of X G z_tuple, PySem.W.mg_none_of X G z_zip, ⟨_, PySem.W.mg_of X G m_LEAST_VALUES, ⟨_, _, _, l_LEAST_VALUES, kl_LEAST_VALUES, i_LEAST_VALUES_0, ⟨_, rfl⟩⟩, ⟨_, _, _, l_LEAST_VALUES, kl_LEAST_VALUES, i_LEAST_VALUES_1, ⟨_, rfl⟩⟩⟩⟩
  have F_value_fits := fun_mk (st := s_value_fits) l_value_fits c_value_fits k_value_fits
  have b_value_fits := F_value_fits.binds (ps := ["kind", "value"]) fun _ _ _ _ _ _ us hl => match us, hl with | [_, _], _ => rfl
  have F_values_fit := fun_mk (st := s_values_fit) l_values_fit c_values_fit k_values_fit
  have b_values_fit := F_values_fit.binds (ps := ["kinds", "values"]) fun _ _ _ _ _ _ us hl => match us, hl with | [_, _], _ => rfl
  have F_l_tape := fun_mk (st := s_l_tape) l_l_tape c_l_tape k_l_tape
  have b_l_tape := F_l_tape.binds (ps := ["_law_script"]) fun _ _ _ _ _ _ us hl => match us, hl with | [_], _ => rfl
  have F_l_draw := fun_mk (st := s_l_draw) l_l_draw c_l_draw k_l_draw
  have b_l_draw := F_l_draw.binds (ps := ["_law_tape_here", "_law_at", "_law_many"]) fun _ _ _ _ _ _ us hl => match us, hl with | [_, _, _], _ => rfl
  have F_l_says := fun_mk (st := s_l_says) l_l_says c_l_says k_l_says
  have b_l_says := F_l_says.binds (ps := ["_law_actual", "_law_due"]) fun _ _ _ _ _ _ us hl => match us, hl with | [_, _], _ => rfl
  have F_l_value := fun_mk (st := s_l_value) l_l_value c_l_value k_l_value
  have b_l_value := F_l_value.binds (ps := ["_law_tape_here", "_law_at"]) fun _ _ _ _ _ _ us hl => match us, hl with | [_, _], _ => rfl
  have F_l_fits := fun_mk (st := s_l_fits) l_l_fits c_l_fits k_l_fits
  have b_l_fits := F_l_fits.binds (ps := ["_law_kind", "_law_value_here"]) fun _ _ _ _ _ _ us hl => match us, hl with | [_, _], _ => rfl
  have F_law := fun_mk (st := s_law) l_law c_law k_law
  refine ⟨PySem.W.fnOf "law" "law" (defArgs s_law) (defBody s_law) (defScope s_law) .none kV_law dc_law pm_law an_law cd_law ct_law, fun s v => .of_eq rfl, fun base _ _ => ?_⟩
  have O_value_fits : Df l.prog w K mg base 1 "value_fits" f_value_fits _ ["kind", "value"] (sp_value_fits K) := ⟨ok_value_fits F_value_fits T, PySem.W.mg_of X G a_value_fits, F_value_fits.kp, b_value_fits⟩
  have O_values_fit : Df l.prog w K mg base 2 "values_fit" f_values_fit _ ["kinds", "values"] (sp_values_fit K) := ⟨ok_values_fit F_values_fit T O_value_fits, PySem.W.mg_of X G a_values_fit, F_values_fit.kp, b_values_fit⟩
  have O_l_tape : Df l.prog w K mg base 1 "_law_tape" f_l_tape _ ["_law_script"] (sp_l_tape K) := ⟨ok_l_tape F_l_tape T, PySem.W.mg_of X G a_l_tape, F_l_tape.kp, b_l_tape⟩
  have O_l_draw : Df l.prog w K mg base 1 "_law_draw" f_l_draw _ ["_law_tape_here", "_law_at", "_law_many"] (sp_l_draw K) := ⟨ok_l_draw F_l_draw T, PySem.W.mg_of X G a_l_draw, F_l_draw.kp, b_l_draw⟩
  have O_l_says : Df l.prog w K mg base 1 "_law_says" f_l_says _ ["_law_actual", "_law_due"] (sp_l_says K) := ⟨ok_l_says F_l_says T, PySem.W.mg_of X G a_l_says, F_l_says.kp, b_l_says⟩
  have O_l_value : Df l.prog w K mg base 2 "_law_value" f_l_value _ ["_law_tape_here", "_law_at"] (sp_l_value K) := ⟨ok_l_value F_l_value T O_l_draw, PySem.W.mg_of X G a_l_value, F_l_value.kp, b_l_value⟩
  have O_l_fits : Df l.prog w K mg base 1 "_law_fits" f_l_fits _ ["_law_kind", "_law_value_here"] (sp_l_fits K) := ⟨ok_l_fits F_l_fits T, PySem.W.mg_of X G a_l_fits, F_l_fits.kp, b_l_fits⟩
  exact ok_law F_law T O_value_fits O_values_fit O_l_tape O_l_draw O_l_says O_l_value O_l_fits
end Lk41

set_option Elab.async false
set_option linter.all false
set_option maxRecDepth 100000
set_option maxHeartbeats 4000000
open PySem PySem.W PyProof.Rows
local macro_rules | `(tactic| walk_at "keysLit") => `(tactic| (refine ⟨⟨_, _, rfl, rfl⟩, ?_⟩; walk_at "keysLit"))
local macro_rules | `(tactic| walk_at "keysLit") => `(tactic| exact True.intro)
set_option maxRecDepth 100000 in
set_option maxHeartbeats 0 in
theorem PySem.Challenge.cw_wasmhost_k41_values_match_kinds_holds : PySem.Challenge.rw_wasmhost_k41_values_match_kinds.Holds := by
  w_on; o_law; k_head; (case hw => w_witness2)
  k_fill
  refine L2.walk_ofK (l := PySem.Challenge.rw_wasmhost_k41_values_match_kinds) (n := 63) (k := 3) (x := "_law_script") (CX := L2.CX0) (sp := Lk41.sp_law) rfl (by decide) rfl ⟨rfl, by decide, by decide⟩ (fun w h Y => PySem.W.kIn_of Y) ?F (fun K H a ns hl _ hS => Lk41.law_in hl hS) (fun _ _ _ _ h => h)
  case F =>
    intro w mg fa h KX G hmg
    refine' Lk41.all_mk KX G hmg ?a_value_fits ?l_value_fits ?c_value_fits ?k_value_fits ?a_values_fit ?l_values_fit ?c_values_fit ?k_values_fit ?a_l_tape ?l_l_tape ?c_l_tape ?k_l_tape ?a_l_draw ?l_l_draw ?c_l_draw ?k_l_draw ?a_l_says ?l_l_says ?c_l_says ?k_l_says ?a_l_value ?l_l_value ?c_l_value ?k_l_value ?a_l_fits ?l_l_fits ?c_l_fits ?k_l_fits ?a_law ?l_law ?c_law ?k_law ?z_bool ?z_int ?z_isinstance ?z_len ?z_range ?z_tuple ?z_zip ?m_LEAST_VALUES ?l_LEAST_VALUES ?kl_LEAST_VALUES ?i_LEAST_VALUES_0 ?i_LEAST_VALUES_1
    (case a_value_fits => k_is)
    (case l_value_fits => k_is)
    (case c_value_fits => k_is)
    (case k_value_fits => k_is)
    (case a_values_fit => k_is)
    (case l_values_fit => k_is)
    (case c_values_fit => k_is)
    (case k_values_fit => k_is)
    (case a_l_tape => k_is)
    (case l_l_tape => k_is)
    (case c_l_tape => k_is)
    (case k_l_tape => k_is)
    (case a_l_draw => k_is)
    (case l_l_draw => k_is)
    (case c_l_draw => k_is)
    (case k_l_draw => k_is)
    (case a_l_says => k_is)
    (case l_l_says => k_is)
    (case c_l_says => k_is)
    (case k_l_says => k_is)
    (case a_l_value => k_is)
    (case l_l_value => k_is)
    (case c_l_value => k_is)
    (case k_l_value => k_is)
    (case a_l_fits => k_is)
    (case l_l_fits => k_is)
    (case c_l_fits => k_is)
    (case k_l_fits => k_is)
    (case a_law => k_is)
    (case l_law => k_is)
    (case c_law => k_is)
    (case k_law => k_is)
    (case z_bool => k_is)
    (case z_int => k_is)
    (case z_isinstance => k_is)
    (case z_len => k_is)
    (case z_range => k_is)
    (case z_tuple => k_is)
    (case z_zip => k_is)
    (case m_LEAST_VALUES => k_is)
    (case l_LEAST_VALUES => k_is)
    (case kl_LEAST_VALUES => walk_at "keysLit")
    (case i_LEAST_VALUES_0 => k_is)
    (case i_LEAST_VALUES_1 => k_is)
