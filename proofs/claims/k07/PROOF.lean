import PyProof.Rows.All
import Wide.All
import OpenK.AllK
import Wide.FinOn
import HandS.ForMost
import HandS.Evl
import HandS.IsInst
import HandS.Flow
import HandS.More
import HandS.Zip
import HandS.CallLocal
import HandS.Style
import PySem.Challenge.RW_wasmhost_k07_counts_and_conversions
set_option Elab.async false
set_option linter.all false
set_option maxRecDepth 100000
set_option maxHeartbeats 4000000
/-! My own layer over HandS.Evl: statements relative to a ground heap, tests as propositions. -/
namespace Wm
open PySem L2 Evl RZ
/-- a call's promise of a new tuple -/
def SpU (sp : Sp) (vs : List V) (H : Hp) (xs : List V) : Prop := ∀ H1, Ex H H1 → ∀ Q : VK, (∀ p H2, H1 p = none → Ex H1 H2 → H2 p = some (.tup xs) → Q (.ref p) H2) → ∀ E : XK, sp vs H1 Q E
/-- a test, told by a proposition -/
def EtP (t : TT) (σ : L2.St) (H : Hp) (p : Prop) : Prop := ∃ b : Bool, (b = true ↔ p) ∧ EvT t σ H b
section
variable {K : PySem.W.Frag} {σ : L2.St} {H H0 H1 H' : Hp} {ta tb tc te tx : TE} {t u : TT} {x y z v : V} {r : R2} {D : Ends} {tu tw tz : TS} {p q : Prop} {g : TG}
theorem EtP.mono (e : Ex H H') (h : EtP t σ H p) : EtP t σ H' p := by
  obtain ⟨b, hb, h⟩ := h
  exact ⟨b, hb, h.mono e⟩
theorem EtP.to (h : EtP t σ H p) (e : p ↔ q) : EtP t σ H q := by
  obtain ⟨b, hb, h⟩ := h
  exact ⟨b, hb.trans e, h⟩
theorem ep_val {b : Bool} (h : Ev te σ H (.bl b)) : EtP (tB te) σ H (b = true) := ⟨b, Iff.rfl, et_B h⟩
theorem ep_test {b : Bool} (h : Ev te σ H (.bl b)) : EtP (tTest te) σ H (b = true) := ⟨b, Iff.rfl, et_test h⟩
theorem ep_dec {p : Prop} [Decidable p] (h : Ev te σ H (.bl (decide p))) : EtP (tTest te) σ H p := ⟨decide p, decide_eq_true_iff, et_test h⟩
theorem ep_ndec {p : Prop} [Decidable p] (h : Ev te σ H (.bl (!decide p))) : EtP (tTest te) σ H (¬ p) := ⟨!decide p, by simp, et_test h⟩
theorem ep_and (h1 : EtP t σ H p) (h2 : p → EtP u σ H q) : EtP (tAnd t u) σ H (p ∧ q) := by
  obtain ⟨a, ha, h1⟩ := h1
  by_cases hp : p
  · obtain ⟨b, hb, h2⟩ := h2 hp
    exact ⟨a && b, by rw [Bool.and_eq_true, ha, hb], et_and h1 fun _ => h2⟩
  · have e : a = false := by
      cases a with
      | true => exact absurd (ha.mp rfl) hp
      | false => rfl
    subst e
    refine ⟨false && false, ⟨fun z => (by cases z), fun z => absurd z.1 hp⟩, et_and h1 fun z => (by cases z)⟩
theorem ep_or (h1 : EtP t σ H p) (h2 : ¬ p → EtP u σ H q) : EtP (tOr t u) σ H (p ∨ q) := by
  obtain ⟨a, ha, h1⟩ := h1
  by_cases hp : p
  · have e : a = true := ha.mpr hp
    subst e
    refine ⟨true || false, ⟨fun _ => Or.inl hp, fun _ => rfl⟩, et_or h1 fun z => (by cases z)⟩
  · obtain ⟨b, hb, h2⟩ := h2 hp
    exact ⟨a || b, by rw [Bool.or_eq_true, ha, hb], et_or h1 fun _ => h2⟩
theorem ep_not (h1 : EtP t σ H p) : EtP (tNot t) σ H (¬ p) := by
  obtain ⟨a, ha, h1⟩ := h1
  refine ⟨!a, ?_, et_not h1⟩
  rw [← ha]
  cases a <;> simp
/-! values -/
theorem rv_eqI {i j : Int} : RV rEq (.int i) (.int j) H (.bl (decide (i = j))) := fun H1 _ Q q => ⟨rfl, by
  have e : decide (V.int i = V.int j) = decide (i = j) := by
    by_cases h : i = j
    · subst h; simp
    · rw [decide_eq_false h, decide_eq_false fun z => h (V.int.inj z)]
  rw [e]
  exact q H1 (Ex.refl H1)⟩
theorem rv_neI {i j : Int} : RV rNe (.int i) (.int j) H (.bl (!decide (i = j))) := fun H1 _ Q q => ⟨rfl, by
  have e : decide (V.int i = V.int j) = decide (i = j) := by
    by_cases h : i = j
    · subst h; simp
    · rw [decide_eq_false h, decide_eq_false fun z => h (V.int.inj z)]
  rw [e]
  exact q H1 (Ex.refl H1)⟩
theorem rv_eqS {i j : Str} : RV rEq (.str i) (.str j) H (.bl (decide (i = j))) := fun H1 _ Q q => ⟨rfl, by
  have e : decide (V.str i = V.str j) = decide (i = j) := by
    by_cases h : i = j
    · subst h; simp
    · rw [decide_eq_false h, decide_eq_false fun z => h (V.str.inj z)]
  rw [e]
  exact q H1 (Ex.refl H1)⟩
theorem rv_neS {i j : Str} : RV rNe (.str i) (.str j) H (.bl (!decide (i = j))) := fun H1 _ Q q => ⟨rfl, by
  have e : decide (V.str i = V.str j) = decide (i = j) := by
    by_cases h : i = j
    · subst h; simp
    · rw [decide_eq_false h, decide_eq_false fun z => h (V.str.inj z)]
  rw [e]
  exact q H1 (Ex.refl H1)⟩
theorem rv_eqB {i j : Bool} : RV rEq (.bl i) (.bl j) H (.bl (decide (i = j))) := fun H1 _ Q q => ⟨rfl, by
  have e : decide (V.bl i = V.bl j) = decide (i = j) := by
    by_cases h : i = j
    · subst h; simp
    · rw [decide_eq_false h, decide_eq_false fun z => h (V.bl.inj z)]
  rw [e]
  exact q H1 (Ex.refl H1)⟩
def rAddS2 : R2 := fun x y H Q => ∃ i j, x = .str i ∧ y = .str j ∧ i.length + j.length ≤ sizeLine ∧ Q (.str (i ++ j)) H
theorem rv_addS {i j : Str} (h : i.length + j.length ≤ 100000) : RV rAddS2 (.str i) (.str j) H (.str (i ++ j)) := fun H1 _ Q q => ⟨i, j, rfl, rfl, sz_of h, q H1 (Ex.refl H1)⟩
theorem flat_strs : ∀ l : List Str, (l.map V.str).all flatV = true
  | [] => rfl
  | _ :: r => by
    show (true && (r.map V.str).all flatV) = true
    rw [flat_strs r]
    rfl
theorem inV_strs (z : Str) : ∀ l : List Str, inV (.str z) (l.map V.str) = decide (z ∈ l)
  | [] => rfl
  | y :: r => by
    have ih := inV_strs z r
    unfold inV at ih ⊢
    rw [List.map_cons, List.any_cons, ih]
    have e : eqV (.str y) (.str z) = decide (y = z) := by
      unfold eqV
      first | rfl | simp
    rw [e]
    by_cases h : y = z
    · subst h; simp
    · have h2 : ¬ z = y := fun q => h q.symm
      simp [h, h2]
theorem rv_inTS {p : Addr} {z : Str} {ns : List Str} (h : SqT K H p (ns.map V.str)) : RV (rIn K false) (.str z) (.ref p) H (.bl (decide (z ∈ ns))) := by
  have q := rv_isT (x := .str z) h rfl (flat_strs ns)
  rw [inV_strs] at q
  exact q
theorem rv_niTS {p : Addr} {z : Str} {ns : List Str} (h : SqT K H p (ns.map V.str)) : RV (rIn K true) (.str z) (.ref p) H (.bl (!decide (z ∈ ns))) := by
  have q := rv_niT (x := .str z) h rfl (flat_strs ns)
  rw [inV_strs] at q
  exact q
theorem rv_inLS {p : Addr} {z : Str} {ns : List Str} (h : SqL K H p (ns.map V.str)) : RV (rIn K false) (.str z) (.ref p) H (.bl (decide (z ∈ ns))) := by
  have q := rv_isL (x := .str z) h rfl (flat_strs ns)
  rw [inV_strs] at q
  exact q
/-- if-expressions, chains -/
theorem ev_ifP {a b : V} (h : EtP t σ H p) (h1 : p → Ev ta σ H a) (h2 : ¬ p → Ev tb σ H b) [Decidable p] : Ev (tIf t ta tb) σ H (if p then a else b) := by
  obtain ⟨c, hc, h⟩ := h
  refine ev_if h (fun e => ?_) (fun e => ?_)
  · rw [if_pos (hc.mp e)]
    exact h1 (hc.mp e)
  · have hp : ¬ p := fun z => by
      have := hc.mpr z
      rw [e] at this
      cases this
    rw [if_neg hp]
    exact h2 hp
theorem ev_chain {r r' : R2} {a b : Bool} (ha : Ev ta σ H x) (hb : Ev tb σ H y) (hr : RV r x y H (.bl a)) (hc : a = true → Ev tc σ H z) (hr' : a = true → RV r' y z H (.bl b)) : Ev (tChain r r' ta tb tc) σ H (.bl (a && b)) := fun H1 e Q q =>
  ha H1 e _ fun H2 e2 => hb H2 (e.trans e2) _ fun H3 e3 => hr H3 ((e.trans e2).trans e3) _ fun H4 e4 => ⟨a, rfl, by
    cases a with
    | true =>
      rw [if_pos rfl]
      exact hc rfl H4 (((e.trans e2).trans e3).trans e4) _ fun H5 e5 => hr' rfl H5 ((((e.trans e2).trans e3).trans e4).trans e5) Q fun H6 e6 => q H6 ((((e2.trans e3).trans e4).trans e5).trans e6)
    | false =>
      rw [if_neg Bool.false_ne_true]
      exact q H4 ((e2.trans e3).trans e4)⟩
theorem ep_chain {r r' : R2} {p q : Prop} [Decidable p] [Decidable q] (ha : Ev ta σ H x) (hb : Ev tb σ H y) (hr : RV r x y H (.bl (decide p))) (hc : p → Ev tc σ H z) (hr' : p → RV r' y z H (.bl (decide q))) : EtP (tTest (tChain r r' ta tb tc)) σ H (p ∧ q) :=
  ⟨decide p && decide q, by simp, et_test (ev_chain ha hb hr (fun e => hc (of_decide_eq_true e)) (fun e => hr' (of_decide_eq_true e)))⟩
/-! built-ins -/
def rInt1 : List V → Hp → VK → Prop := fun xs H Q => (∃ i, xs = [.int i] ∧ Q (.int i) H) ∨ ∃ k, xs = [.bl k] ∧ Q (.int (if k then 1 else 0)) H
theorem ev_int {i : Int} (h : Ev ta σ H (.int i)) : Ev (tCB rInt1 (tCons ta tNil)) σ H (.int i) := fun H1 e Q q => h H1 e _ fun H2 e2 => Or.inl ⟨i, rfl, q H2 e2⟩
theorem ev_intB {b : Bool} (h : Ev ta σ H (.bl b)) : Ev (tCB rInt1 (tCons ta tNil)) σ H (.int (if b then 1 else 0)) := fun H1 e Q q => h H1 e _ fun H2 e2 => Or.inr ⟨b, rfl, q H2 e2⟩
def rStrI : List V → Hp → VK → Prop := fun xs H Q => ∃ i, xs = [.int i] ∧ i.natAbs.log2 < 1920 ∧ Q (.str (toString i)) H
theorem ev_str {i : Int} (h : Ev ta σ H (.int i)) (hz : i.natAbs.log2 < 1920) : Ev (tCB rStrI (tCons ta tNil)) σ H (.str (toString i)) := fun H1 e Q q => h H1 e _ fun H2 e2 => ⟨i, rfl, hz, q H2 e2⟩
def rAbs1 : List V → Hp → VK → Prop := fun xs H Q => ∃ i, xs = [.int i] ∧ Q (.int (if i < 0 then -i else i)) H
theorem ev_abs {i : Int} (h : Ev ta σ H (.int i)) : Ev (tCB rAbs1 (tCons ta tNil)) σ H (.int (if i < 0 then -i else i)) := fun H1 e Q q => h H1 e _ fun H2 e2 => ⟨i, rfl, q H2 e2⟩
def rMin2 : List V → Hp → VK → Prop := fun xs H Q => ∃ i j, xs = [.int i, .int j] ∧ Q (.int (if j < i then j else i)) H
theorem ev_min2 {i j : Int} (ha : Ev ta σ H (.int i)) (hb : Ev tb σ H (.int j)) : Ev (tCB rMin2 (tCons ta (tCons tb tNil))) σ H (.int (if j < i then j else i)) := fun H1 e Q q =>
  ha H1 e _ fun H2 e2 => hb H2 (e.trans e2) _ fun H3 e3 => ⟨i, j, rfl, q H3 (e2.trans e3)⟩
def rLenS1 : List V → Hp → VK → Prop := fun xs H Q => ∃ z, xs = [.str z] ∧ z.length ≤ sizeLine ∧ Q (.int z.length) H
theorem ev_lenS {z : Str} (h : Ev ta σ H (.str z)) (hz : z.length ≤ 100000) : Ev (tCB rLenS1 (tCons ta tNil)) σ H (.int z.length) := fun H1 e Q q => h H1 e _ fun H2 e2 => ⟨z, rfl, sz_of hz, q H2 e2⟩
theorem ev_lenT {p : Addr} {xs : List V} (ha : Ev ta σ H (.ref p)) (h : SqT K H p xs) : Ev (tCB (rLenS K) (tCons ta tNil)) σ H (.int (xs.length : Int)) := fun H1 e Q q =>
  ha H1 e _ fun H2 e2 => ⟨p, xs, rfl, Or.inr (ex_t (e.trans e2) h), q H2 e2⟩
/-- isinstance of a value and a class -/
theorem ev_isi {c : V} {ty u : Value} {b : Bool} (ha : Ev ta σ H x) (hb : Ev tb σ H c) (k : ClsV c u) (ht : ∀ H1, Ex H H1 → TyX K H1 x ty) (hk : PySem.W.kitOne K ty u = some b) : Ev (tCB (rIsi K) (tCons ta (tCons tb tNil))) σ H (.bl b) := fun H1 e Q q =>
  ha H1 e _ fun H2 e2 => hb H2 (e.trans e2) _ fun H3 e3 => ⟨x, c, ty, u, b, rfl, k, ht H3 ((e.trans e2).trans e3), hk, q H3 (e2.trans e3)⟩
theorem ty_int {i : Int} : ∀ H1, Ex H H1 → TyX K H1 (.int i) (.type "int") := fun _ _ => .base (.int i)
theorem ty_bl {b : Bool} : ∀ H1, Ex H H1 → TyX K H1 (.bl b) (.type "bool") := fun _ _ => .base (.bl b)
theorem ty_str {i : Str} : ∀ H1, Ex H H1 → TyX K H1 (.str i) (.type "str") := fun _ _ => .base (.str i)
theorem ty_non : ∀ H1, Ex H H1 → TyX K H1 .non (.type "NoneType") := fun _ _ => .base .non
theorem ev_lenI {p : Addr} {ns : List Int} (ha : Ev ta σ H (.ref p)) (h : SqL K H p (ns.map V.int)) : Ev (tCB (rLenS K) (tCons ta tNil)) σ H (.int (ns.length : Int)) := by
  have q := ev_len ha h
  rw [List.length_map] at q
  exact q
theorem ev_lenTI {p : Addr} {ns : List Int} (ha : Ev ta σ H (.ref p)) (h : SqT K H p (ns.map V.int)) : Ev (tCB (rLenS K) (tCons ta tNil)) σ H (.int (ns.length : Int)) := by
  have q := ev_lenT ha h
  rw [List.length_map] at q
  exact q
/-! lists of ints compared -/
theorem lay_ints : ∀ ns : List Int, PyData.canLayAll0 (ns.map PyData.int) = true
  | [] => rfl
  | n :: r => by
    show (PyData.canLay0 (.int n) && PyData.canLayAll0 (r.map PyData.int)) = true
    rw [lay_ints r]
    rfl
theorem depth_ints : ∀ ns : List Int, PyData.depthAll (ns.map PyData.int) = 0
  | [] => rfl
  | n :: r => by
    show max (PyData.depth (.int n)) (PyData.depthAll (r.map PyData.int)) = 0
    rw [depth_ints r]
    rfl
theorem eqv_ints : ∀ ns ms : List Int, PyData.eqvAll (ns.map PyData.int) (ms.map PyData.int) = decide (ns = ms)
  | [], [] => rfl
  | [], _ :: _ => rfl
  | _ :: _, [] => rfl
  | n :: r, m :: t => by
    show (n == m && PyData.eqvAll (r.map PyData.int) (t.map PyData.int)) = _
    rw [eqv_ints r t]
    by_cases h : n = m
    · subst h; simp
    · simp [h]
theorem shaped_ints (ns : List Int) : SeqAt.shaped (.list (ns.map PyData.int)) = true := by
  unfold SeqAt.shaped
  rw [Bool.and_eq_true]
  refine ⟨lay_ints ns, decide_eq_true ?_⟩
  show PyData.depthAll (ns.map PyData.int) + 1 ≤ 64
  rw [depth_ints]
  decide
theorem dp_ints : ∀ ns : List Int, DpAll K H (ns.map V.int) (ns.map PyData.int)
  | [] => .nil
  | n :: r => .cons (.int n) (dp_ints r)
theorem rv_eqDI {p q : Addr} {ns ms : List Int} (h1 : SqL K H p (ns.map V.int)) (h2 : SqL K H q (ms.map V.int)) : RV (rEqD K) (.ref p) (.ref q) H (.bl (decide (ns = ms))) := fun H1 e Q k =>
  ⟨_, _, .lst (ex_l e h1) (dp_ints ns), .lst (ex_l e h2) (dp_ints ms), shaped_ints ns, shaped_ints ms, by
    show Q (.bl (PyData.eqvAll _ _)) H1
    rw [eqv_ints]
    exact k H1 (Ex.refl H1)⟩
theorem rv_neDI {p q : Addr} {ns ms : List Int} (h1 : SqL K H p (ns.map V.int)) (h2 : SqL K H q (ms.map V.int)) : RV (rNeD K) (.ref p) (.ref q) H (.bl (!decide (ns = ms))) := fun H1 e Q k =>
  ⟨_, _, .lst (ex_l e h1) (dp_ints ns), .lst (ex_l e h2) (dp_ints ms), shaped_ints ns, shaped_ints ms, by
    show Q (.bl (!PyData.eqvAll _ _)) H1
    rw [eqv_ints]
    exact k H1 (Ex.refl H1)⟩
theorem cutV_mid (xs : List V) (a b : Nat) : cutV xs (some (a : Int)) (some (b : Int)) = (xs.drop a).take (b - a) := by
  unfold cutV
  rw [HT.sIx_nat, HT.sIx_nat]
  by_cases h : a ≤ xs.length
  · have e1 : min a xs.length = a := by omega
    rw [e1]
    by_cases g : b ≤ xs.length
    · have e2 : min b xs.length = b := by omega
      rw [e2]
    · have e2 : min b xs.length = xs.length := by omega
      rw [e2, List.take_of_length_le (by rw [List.length_drop]; omega), List.take_of_length_le (by rw [List.length_drop]; omega)]
  · have e1 : min a xs.length = xs.length := by omega
    rw [e1, List.drop_of_length_le (Nat.le_refl _), List.drop_of_length_le (show xs.length ≤ a by omega), List.take_nil, List.take_nil]
/-! a list or a tuple -/
theorem q_mv {P : Hp → Prop} (e : Ex H H') (q : ∀ H1, Ex H H1 → P H1) : ∀ H1, Ex H' H1 → P H1 := fun H1 e1 => q H1 (e.trans e1)
theorem q_mvL {P : Addr → Hp → Prop} {o : HO} (e : Ex H H') (q : ∀ p H1, H p = none → Ex H H1 → H1 p = some o → P p H1) : ∀ p H1, H' p = none → Ex H' H1 → H1 p = some o → P p H1 := fun p H1 hp e1 h1 => q p H1 (fresh_back e hp) (e.trans e1) h1
theorem ty_list {a : Addr} {xs : List V} (h : H a = some (.lst xs)) : ∀ H1, Ex H H1 → TyX K H1 (.ref a) (.type "list") := fun H1 e => .base (.lst (e a _ h))
theorem ty_tup {a : Addr} {xs : List V} (h : H a = some (.tup xs)) : ∀ H1, Ex H H1 → TyX K H1 (.ref a) (.type "tuple") := fun H1 e => .base (.tup (e a _ h))
def SqQ (K : PySem.W.Frag) (H : Hp) (a : Addr) (xs : List V) : Prop := SqL K H a xs ∨ SqT K H a xs
theorem ex_q {a : Addr} {xs : List V} (e : Ex H H') (h : SqQ K H a xs) : SqQ K H' a xs := h.elim (fun z => Or.inl (ex_l e z)) fun z => Or.inr (ex_t e z)
theorem at_ints {ns : List Int} {i : Int} (h0 : 0 ≤ i) (h1 : i < (ns.length : Int)) : atI (ns.map V.int) i = some (.int (ns.getD i.toNat 0)) := by
  obtain ⟨j, rfl⟩ : ∃ j : Nat, i = (j : Int) := ⟨i.toNat, by omega⟩
  have hj : j < ns.length := by omega
  refine atI_nat ?_
  rw [List.getElem?_map, List.getElem?_eq_getElem hj]
  show some (V.int ns[j]) = some (V.int (ns.getD ((j : Int).toNat) 0))
  rw [Int.toNat_natCast, List.getD_eq_getElem?_getD, List.getElem?_eq_getElem hj]
  rfl
theorem rv_ixQI {p : Addr} {ns : List Int} {i : Int} (h : SqQ K H p (ns.map V.int)) (h0 : 0 ≤ i) (h1 : i < (ns.length : Int)) : RV (rIx K) (.ref p) (.int i) H (.int (ns.getD i.toNat 0)) := fun H1 e Q q =>
  h.elim (fun z => Or.inl ⟨p, _, i, _, rfl, rfl, ex_l e z, at_ints h0 h1, q H1 (Ex.refl H1)⟩) fun z => Or.inr (Or.inl ⟨p, _, i, _, rfl, rfl, ex_t e z, at_ints h0 h1, q H1 (Ex.refl H1)⟩)
theorem ev_lenQ {p : Addr} {xs : List V} (ha : Ev ta σ H (.ref p)) (h : SqQ K H p xs) : Ev (tCB (rLenS K) (tCons ta tNil)) σ H (.int (xs.length : Int)) := fun H1 e Q q =>
  ha H1 e _ fun H2 e2 => ⟨p, xs, rfl, h.elim (fun z => Or.inl (ex_l (e.trans e2) z)) fun z => Or.inr (ex_t (e.trans e2) z), q H2 e2⟩
theorem ev_lenQI {p : Addr} {ns : List Int} (ha : Ev ta σ H (.ref p)) (h : SqQ K H p (ns.map V.int)) : Ev (tCB (rLenS K) (tCons ta tNil)) σ H (.int (ns.length : Int)) := by
  have q := ev_lenQ ha h
  rw [List.length_map] at q
  exact q
theorem el_listQ {p : Addr} {xs : List V} (ha : Ev ta σ H (.ref p)) (h : SqQ K H p xs) : EvL (tCB (rListS K) (tCons ta tNil)) σ H xs := fun H1 e Q q =>
  ha H1 e _ fun H2 e2 => ⟨p, xs, rfl, h.elim (fun z => Or.inl (ex_l (e.trans e2) z)) fun z => Or.inr (ex_t (e.trans e2) z), fun l hl => q l _ (fresh_back e2 hl) (e2.trans (Ex.new hl)) upd_same⟩
def rTupS (K : PySem.W.Frag) : List V → Hp → VK → Prop := fun xs H Q => ∃ p ys, xs = [.ref p] ∧ ((SqL K H p ys ∧ ∀ l, H l = none → Q (.ref l) (upd H l (.tup ys))) ∨ (SqT K H p ys ∧ Q (.ref p) H))
theorem eu_tupL {p : Addr} {xs : List V} (ha : Ev ta σ H (.ref p)) (h : SqL K H p xs) : EvU (tCB (rTupS K) (tCons ta tNil)) σ H xs := fun H1 e Q q =>
  ha H1 e _ fun H2 e2 => ⟨p, xs, rfl, Or.inl ⟨ex_l (e.trans e2) h, fun l hl => q l _ (fresh_back e2 hl) (e2.trans (Ex.new hl)) upd_same⟩⟩
theorem eu_tupN {xs : List V} (ha : EvL ta σ H xs) : EvU (tCB (rTupS K) (tCons ta tNil)) σ H xs := fun H1 e Q q =>
  ha H1 e _ fun p H2 _ e2 hp => ⟨p, xs, rfl, Or.inl ⟨sq_of hp, fun l hl => q l _ (fresh_back e2 hl) (e2.trans (Ex.new hl)) upd_same⟩⟩
theorem el_listN {xs : List V} (ha : EvL ta σ H xs) : EvL (tCB (rListS K) (tCons ta tNil)) σ H xs := fun H1 e Q q =>
  ha H1 e _ fun p H2 _ e2 hp => ⟨p, xs, rfl, Or.inl (sq_of hp), fun l hl => q l _ (fresh_back e2 hl) (e2.trans (Ex.new hl)) upd_same⟩
/-- a call whose one argument is a new list, a new tuple -/
theorem ev_call1L {sp : Sp} {xs : List V} {E : XK} (h : EvL ta σ H xs) (hs : ∀ p H1, Ex H H1 → H1 p = some (.lst xs) → SpV sp [.ref p] H1 z) : Ev (tCall sp [] E (tCons ta tNil)) σ H z := fun H1 e Q q =>
  h H1 e _ fun p H2 _ e2 hp => hs p H2 (e.trans e2) hp H2 (Ex.refl H2) Q (fun H3 e3 => q H3 (e2.trans e3)) E
theorem ev_call1U {sp : Sp} {xs : List V} {E : XK} (h : EvU ta σ H xs) (hs : ∀ p H1, Ex H H1 → H1 p = some (.tup xs) → SpV sp [.ref p] H1 z) : Ev (tCall sp [] E (tCons ta tNil)) σ H z := fun H1 e Q q =>
  h H1 e _ fun p H2 _ e2 hp => hs p H2 (e.trans e2) hp H2 (Ex.refl H2) Q (fun H3 e3 => q H3 (e2.trans e3)) E
/-- arguments some of which are new objects -/
def EvAX (ta : TA) (σ : L2.St) (H : Hp) (P : List V → Hp → Prop) : Prop := ∀ H1, Ex H H1 → ∀ Q : List V → Hp → Prop, (∀ vs H2, Ex H1 H2 → P vs H2 → Q vs H2) → ta σ H1 Q
theorem eax_nil : EvAX tNil σ H (fun vs _ => vs = []) := fun H1 _ _ q => q [] H1 (Ex.refl H1) rfl
theorem eax_V {tr : TA} {P : List V → Hp → Prop} (h : Ev ta σ H v) (hr : EvAX tr σ H P) : EvAX (tCons ta tr) σ H (fun vs H => ∃ r, vs = v :: r ∧ P r H) := fun H1 e Q q =>
  h H1 e _ fun H2 e2 => hr H2 (e.trans e2) _ fun vs H3 e3 hp => q _ H3 (e2.trans e3) ⟨vs, rfl, hp⟩
theorem eax_L {tr : TA} {P : List V → Hp → Prop} {xs : List V} (h : EvL ta σ H xs) (hr : EvAX tr σ H P) : EvAX (tCons ta tr) σ H (fun vs H => ∃ p r, vs = .ref p :: r ∧ H p = some (.lst xs) ∧ P r H) := fun H1 e Q q =>
  h H1 e _ fun p H2 _ e2 h2 => hr H2 (e.trans e2) _ fun vs H3 e3 hp => q _ H3 (e2.trans e3) ⟨p, vs, rfl, e3 _ _ h2, hp⟩
theorem eax_U {tr : TA} {P : List V → Hp → Prop} {xs : List V} (h : EvU ta σ H xs) (hr : EvAX tr σ H P) : EvAX (tCons ta tr) σ H (fun vs H => ∃ p r, vs = .ref p :: r ∧ H p = some (.tup xs) ∧ P r H) := fun H1 e Q q =>
  h H1 e _ fun p H2 _ e2 h2 => hr H2 (e.trans e2) _ fun vs H3 e3 hp => q _ H3 (e2.trans e3) ⟨p, vs, rfl, e3 _ _ h2, hp⟩
theorem ev_callX {sp : Sp} {P : List V → Hp → Prop} {E : XK} {tr : TA} (h : EvAX tr σ H P) (hs : ∀ vs H1, Ex H H1 → P vs H1 → SpV sp vs H1 z) : Ev (tCall sp [] E tr) σ H z := fun H1 e Q q =>
  h H1 e _ fun vs H2 e2 hp => by
    rw [List.append_nil]
    exact hs vs H2 (e.trans e2) hp H2 (Ex.refl H2) Q (fun H3 e3 => q H3 (e2.trans e3)) E
theorem el_callX {sp : Sp} {P : List V → Hp → Prop} {E : XK} {tr : TA} {xs : List V} (h : EvAX tr σ H P) (hs : ∀ vs H1, Ex H H1 → P vs H1 → SpL sp vs H1 xs) : EvL (tCall sp [] E tr) σ H xs := fun H1 e Q q =>
  h H1 e _ fun vs H2 e2 hp => by
    rw [List.append_nil]
    exact hs vs H2 (e.trans e2) hp H2 (Ex.refl H2) Q (fun p H3 h3 e3 g => q p H3 (fresh_back e2 h3) (e2.trans e3) g) E
theorem eu_callX {sp : Sp} {P : List V → Hp → Prop} {E : XK} {tr : TA} {xs : List V} (h : EvAX tr σ H P) (hs : ∀ vs H1, Ex H H1 → P vs H1 → SpU sp vs H1 xs) : EvU (tCall sp [] E tr) σ H xs := fun H1 e Q q =>
  h H1 e _ fun vs H2 e2 hp => by
    rw [List.append_nil]
    exact hs vs H2 (e.trans e2) hp H2 (Ex.refl H2) Q (fun p H3 h3 e3 g => q p H3 (fresh_back e2 h3) (e2.trans e3) g) E
/-! new tuples and lists from calls -/
theorem eu_call {sp : Sp} {dvs vs xs : List V} {E : XK} {ta : TA} (h : EvA ta σ H vs) (hs : SpU sp (vs ++ dvs) H xs) : EvU (tCall sp dvs E ta) σ H xs := fun H1 e Q q =>
  h H1 e _ fun H2 e2 => hs H2 (e.trans e2) Q (fun p H3 hp e3 h3 => q p H3 (fresh_back e2 hp) (e2.trans e3) h3) E
/-! ### statements relative to a ground heap H0 -/
theorem r_asg {i : Nat} (e : Ex H0 H1) (h : Ev te σ H0 v) (k : ∀ H2, Ex H0 H2 → Ex H1 H2 → tz D (σ.set i (some v)) H2) : tSeq (tAsg te (gName i)) tz D σ H1 := h H1 e _ fun H2 e2 => k H2 (e.trans e2) e2
/-- the value as a letter -/
theorem r_asgI {i : Nat} {z : Int} (e : Ex H0 H1) (h : Ev te σ H0 (.int z)) (k : ∀ n, n = z → ∀ H2, Ex H0 H2 → Ex H1 H2 → tz D (σ.set i (some (.int n))) H2) : tSeq (tAsg te (gName i)) tz D σ H1 := r_asg e h (k z rfl)
theorem r_asgS {i : Nat} {z : Str} (e : Ex H0 H1) (h : Ev te σ H0 (.str z)) (k : ∀ n, n = z → ∀ H2, Ex H0 H2 → Ex H1 H2 → tz D (σ.set i (some (.str n))) H2) : tSeq (tAsg te (gName i)) tz D σ H1 := r_asg e h (k z rfl)
theorem r_asgB {i : Nat} {z : Bool} (e : Ex H0 H1) (h : Ev te σ H0 (.bl z)) (k : ∀ n, n = z → ∀ H2, Ex H0 H2 → Ex H1 H2 → tz D (σ.set i (some (.bl n))) H2) : tSeq (tAsg te (gName i)) tz D σ H1 := r_asg e h (k z rfl)
/-- a new list, a new tuple: the ground moves on -/
theorem r_asgL {i : Nat} {xs : List V} (e : Ex H0 H1) (h : EvL te σ H0 xs) (k : ∀ p H2, H0 p = none → Ex H0 H2 → Ex H1 H2 → H2 p = some (.lst xs) → tz D (σ.set i (some (.ref p))) H2) : tSeq (tAsg te (gName i)) tz D σ H1 :=
  h H1 e _ fun p H2 hp e2 h2 => k p H2 (fresh_back e hp) (e.trans e2) e2 h2
theorem r_asgU {i : Nat} {xs : List V} (e : Ex H0 H1) (h : EvU te σ H0 xs) (k : ∀ p H2, H0 p = none → Ex H0 H2 → Ex H1 H2 → H2 p = some (.tup xs) → tz D (σ.set i (some (.ref p))) H2) : tSeq (tAsg te (gName i)) tz D σ H1 :=
  h H1 e _ fun p H2 hp e2 h2 => k p H2 (fresh_back e hp) (e.trans e2) e2 h2
theorem r_aug {i : Nat} {f : Int → Int → Int} {a b : Int} (e : Ex H0 H1) (hx : σ[i]? = some (some (.int a))) (h : Ev te σ H0 (.int b)) (k : ∀ H2, Ex H0 H2 → Ex H1 H2 → tz D (σ.set i (some (.int (f a b)))) H2) : tSeq (tAug i te (ipI f)) tz D σ H1 :=
  ⟨.int a, hx, h H1 e _ fun H2 e2 => ⟨a, b, rfl, rfl, k H2 (e.trans e2) e2⟩⟩
theorem r_if (e : Ex H0 H1) (h : EtP t σ H0 p) (h1 : p → ∀ H2, Ex H0 H2 → Ex H1 H2 → tu { D with nx := tz D } σ H2) (h2 : ¬ p → ∀ H2, Ex H0 H2 → Ex H1 H2 → tw { D with nx := tz D } σ H2) : tSeq (tIfS t tu tw) tz D σ H1 := by
  obtain ⟨b, hb, h⟩ := h
  refine h H1 e _ fun H2 e2 => ?_
  cases b with
  | true => exact h1 (hb.mp rfl) H2 (e.trans e2) e2
  | false => exact h2 (fun z => nomatch hb.mpr z) H2 (e.trans e2) e2
/-- an if without else whose way ends -/
theorem r_when (e : Ex H0 H1) (h : EtP t σ H0 p) (h1 : p → ∀ H2, Ex H0 H2 → Ex H1 H2 → tu { D with nx := tz D } σ H2) (h2 : ¬ p → ∀ H2, Ex H0 H2 → Ex H1 H2 → tz D σ H2) : tSeq (tIfS t tu tNext) tz D σ H1 := r_if e h h1 h2
/-- an if both of whose ways go on (its term: pss_cut): J tells the slots and the heap behind it -/
theorem r_ifJ (e : Ex H0 H1) (h : EtP t σ H0 p) (J : L2.St → Hp → Prop) (h1 : p → ∀ H2, Ex H0 H2 → Ex H1 H2 → tu { D with nx := J } σ H2) (h2 : ¬ p → ∀ H2, Ex H0 H2 → Ex H1 H2 → tw { D with nx := J } σ H2) (hd : ∀ σ' H', J σ' H' → tz D σ' H') : tCut (tIfS t tu tw) tz D σ H1 := by
  refine ⟨J, ?_, hd⟩
  obtain ⟨b, hb, h⟩ := h
  refine h H1 e _ fun H2 e2 => ?_
  cases b with
  | true => exact h1 (hb.mp rfl) H2 (e.trans e2) e2
  | false => exact h2 (fun z => nomatch hb.mpr z) H2 (e.trans e2) e2
theorem r_ret (e : Ex H0 H1) (h : Ev te σ H0 v) (k : ∀ H2, Ex H0 H2 → D.rt v H2) : tSeq (tRet te) tz D σ H1 := h H1 e _ fun H2 e2 => k H2 (e.trans e2)
theorem r_retL {xs : List V} (e : Ex H0 H1) (h : EvL te σ H0 xs) (k : ∀ p H2, H0 p = none → Ex H0 H2 → H2 p = some (.lst xs) → D.rt (.ref p) H2) : tSeq (tRet te) tz D σ H1 := h H1 e _ fun p H2 hp e2 h2 => k p H2 (fresh_back e hp) (e.trans e2) h2
theorem r_retU {xs : List V} (e : Ex H0 H1) (h : EvU te σ H0 xs) (k : ∀ p H2, H0 p = none → Ex H0 H2 → H2 p = some (.tup xs) → D.rt (.ref p) H2) : tSeq (tRet te) tz D σ H1 := h H1 e _ fun p H2 hp e2 h2 => k p H2 (fresh_back e hp) (e.trans e2) h2
/-- return of a new tuple some of whose items are new -/
theorem r_retT {ta : TA} {P : List V → Hp → Prop} (e : Ex H0 H1) (h : EvAX ta σ H0 P) (hz : ∀ vs H, P vs H → vs.length ≤ 100000) (k : ∀ vs p H2 H3, P vs H2 → Ex H0 H2 → Ex H2 H3 → H0 p = none → H3 p = some (.tup vs) → D.rt (.ref p) H3) : tSeq (tRet (tTup ta)) tz D σ H1 :=
  h H1 e _ fun vs H2 e2 hp => ⟨sz_of (hz vs H2 hp), fun p hn => k vs p H2 _ hp (e.trans e2) (Ex.new hn) (fresh_back (e.trans e2) hn) upd_same⟩
theorem r_drop (e : Ex H0 H1) (h : Ev te σ H0 v) (k : ∀ H2, Ex H0 H2 → Ex H1 H2 → tz D σ H2) : tSeq (tDrop te) tz D σ H1 := h H1 e _ fun H2 e2 => k H2 (e.trans e2) e2
theorem r_next (h : D.nx σ H) : tNext D σ H := h
theorem r_seq {t1 : TS} (h : t1 { D with nx := tz D } σ H) : tSeq t1 tz D σ H := h
/-- xs.append(e): the list is not in the ground -/
theorem r_app {l : Addr} {xs : List V} (e : Ex H0 H1) (hn : H0 l = none) (hl : H1 l = some (.lst xs)) (ha : Ev ta σ H0 (.ref l)) (h : Ev te σ H0 v) (hz : xs.length < 100000)
    (k : ∀ H2, Ex H0 H2 → H2 l = some (.lst (xs ++ [v])) → (∀ a o, a ≠ l → H1 a = some o → H2 a = some o) → tz D σ H2) : tSeq (tDrop (tBM K "list" rAppend ta (tCons te tNil))) tz D σ H1 := ha H1 e _ fun H2 e1 =>
  ⟨Or.inl ⟨rfl, xs, sq_of (e1 l _ hl)⟩, h H2 (e.trans e1) _ fun H3 e2 => ⟨l, xs, v, rfl, rfl, e2 l _ (e1 l _ hl), sz_lt hz, k _ (Ex.mut ((e.trans e1).trans e2) hn) upd_same fun a o ne ho => by
    rw [upd_ne ne]
    exact e2 a o (e1 a o ho)⟩⟩
theorem r_appM {α : Type} {f : α → V} {l : Addr} {ms : List α} {n : α} (e : Ex H0 H1) (hn : H0 l = none) (hl : H1 l = some (.lst (ms.map f))) (ha : Ev ta σ H0 (.ref l)) (h : Ev te σ H0 (f n)) (hz : ms.length < 100000)
    (k : ∀ H2, Ex H0 H2 → H2 l = some (.lst ((ms ++ [n]).map f)) → (∀ a o, a ≠ l → H1 a = some o → H2 a = some o) → tz D σ H2) : tSeq (tDrop (tBM K "list" rAppend ta (tCons te tNil))) tz D σ H1 :=
  r_app e hn hl ha h (by rw [List.length_map]; exact hz) fun H2 e2 h2 hk => k H2 e2 (by rw [List.map_append]; exact h2) hk
theorem r_appU {l : Addr} {xs ys : List V} (e : Ex H0 H1) (hn : H0 l = none) (hl : H1 l = some (.lst xs)) (ha : Ev ta σ H0 (.ref l)) (h : EvU te σ H0 ys) (hz : xs.length < 100000)
    (k : ∀ p H2, H1 p = none → p ≠ l → Ex H0 H2 → H2 l = some (.lst (xs ++ [.ref p])) → H2 p = some (.tup ys) → (∀ a o, a ≠ l → H1 a = some o → H2 a = some o) → tz D σ H2) : tSeq (tDrop (tBM K "list" rAppend ta (tCons te tNil))) tz D σ H1 := ha H1 e _ fun H2 e1 =>
  ⟨Or.inl ⟨rfl, xs, sq_of (e1 l _ hl)⟩, h H2 (e.trans e1) _ fun p H3 hp e2 h2 => by
    have ne : p ≠ l := fun z => by
      rw [z, e1 l _ hl] at hp
      cases hp
    refine ⟨l, xs, .ref p, rfl, rfl, e2 l _ (e1 l _ hl), sz_lt hz, k p _ (fresh_back e1 hp) ne (Ex.mut ((e.trans e1).trans e2) hn) upd_same (by rw [upd_ne ne]; exact h2) fun a o ne ho => ?_⟩
    rw [upd_ne ne]
    exact e2 a o (e1 a o ho)⟩
/-- a call that hands back a new list of which P holds -/
def EvLE (te : TE) (σ : L2.St) (H : Hp) (P : List V → Prop) : Prop := ∀ H1, Ex H H1 → ∀ Q : VK, (∀ p H2 xs, P xs → H1 p = none → Ex H1 H2 → H2 p = some (.lst xs) → Q (.ref p) H2) → te σ H1 Q
def SpLE (sp : Sp) (vs : List V) (H : Hp) (P : List V → Prop) : Prop := ∀ H1, Ex H H1 → ∀ Q : VK, (∀ p H2 xs, P xs → H1 p = none → Ex H1 H2 → H2 p = some (.lst xs) → Q (.ref p) H2) → ∀ E : XK, sp vs H1 Q E
theorem ele_call {sp : Sp} {dvs vs : List V} {P : List V → Prop} {E : XK} {ta : TA} (h : EvA ta σ H vs) (hs : SpLE sp (vs ++ dvs) H P) : EvLE (tCall sp dvs E ta) σ H P := fun H1 e Q q =>
  h H1 e _ fun H2 e2 => hs H2 (e.trans e2) Q (fun p H3 xs hx hp e3 h3 => q p H3 xs hx (fresh_back e2 hp) (e2.trans e3) h3) E
theorem r_asgLE {i : Nat} {P : List V → Prop} (e : Ex H0 H1) (h : EvLE te σ H0 P) (k : ∀ p H2 xs, P xs → H0 p = none → Ex H0 H2 → Ex H1 H2 → H2 p = some (.lst xs) → tz D (σ.set i (some (.ref p))) H2) : tSeq (tAsg te (gName i)) tz D σ H1 :=
  h H1 e _ fun p H2 xs hx hp e2 h2 => k p H2 xs hx (fresh_back e hp) (e.trans e2) e2 h2
/-- for a, b in zip(t, u) over two tuples -/
theorem r_forZT {a b : Addr} {xs ys : List V} {ta : TA} {j k : Nat} (e : Ex H0 H1) (h : EvA ta σ H0 [.ref a, .ref b]) (hl : xs.length = ys.length) (hx : SqT K H0 a xs) (hy : SqT K H0 b ys) (I : Nat → L2.St → Prop) (h0 : I 0 σ)
    (hs : ∀ (i : Nat) x y σ' H', xs[i]? = some x → ys[i]? = some y → I i σ' → Ex H0 H' → tu { D with nx := fun σ2 H2 => I (i + 1) σ2 ∧ Ex H0 H2, ct := fun σ2 H2 => I (i + 1) σ2 ∧ Ex H0 H2, bk := tz D } ((σ'.set j (some x)).set k (some y)) H')
    (hd : ∀ σ' H', I xs.length σ' → Ex H0 H' → tz D σ' H') : tSeq (tFor (iZipA K ta) (gTup K 2 (gCons (gName j) (gCons (gName k) gNil))) tu) tz D σ H1 :=
  h H1 e _ fun H2 e2 => ⟨a, b, xs, ys, rfl, Or.inr ⟨ex_t (e.trans e2) hx, ex_t (e.trans e2) hy, for_zipT (D := { D with nx := tz D }) hl (fun i σ' H' => I i σ' ∧ Ex H0 H') ⟨h0, e.trans e2⟩ (fun i σ' H' p => ⟨ex_t p.2 hx, ex_t p.2 hy⟩)
    (fun i x y T σ' H' hi hj p hT => ⟨T, [x, y], rfl, st_of upd_same, rfl, x, [y], rfl, y, [], rfl, rfl, hs i x y σ' _ hi hj p.1 (p.2.trans (Ex.new hT))⟩) fun σ' H' p => hd σ' H' p.1 p.2⟩⟩
theorem r_forZTM {α β : Type} {f : α → V} {g : β → V} {a b : Addr} {xs : List α} {ys : List β} {ta : TA} {j k : Nat} (e : Ex H0 H1) (h : EvA ta σ H0 [.ref a, .ref b]) (hl : xs.length = ys.length) (hx : SqT K H0 a (xs.map f)) (hy : SqT K H0 b (ys.map g)) (I : Nat → L2.St → Prop) (h0 : I 0 σ)
    (hs : ∀ (i : Nat) x y σ' H', xs[i]? = some x → ys[i]? = some y → I i σ' → Ex H0 H' → tu { D with nx := fun σ2 H2 => I (i + 1) σ2 ∧ Ex H0 H2, ct := fun σ2 H2 => I (i + 1) σ2 ∧ Ex H0 H2, bk := tz D } ((σ'.set j (some (f x))).set k (some (g y))) H')
    (hd : ∀ σ' H', I xs.length σ' → Ex H0 H' → tz D σ' H') : tSeq (tFor (iZipA K ta) (gTup K 2 (gCons (gName j) (gCons (gName k) gNil))) tu) tz D σ H1 :=
  r_forZT e h (by rw [List.length_map, List.length_map]; exact hl) hx hy I h0 (fun i x y σ' H' hi hj p e => by
    rw [List.getElem?_map] at hi hj
    cases c : xs[i]? with
    | none => rw [c] at hi; cases hi
    | some u =>
      cases d : ys[i]? with
      | none => rw [d] at hj; cases hj
      | some v =>
        rw [c] at hi
        rw [d] at hj
        obtain rfl : f u = x := Option.some.inj hi
        obtain rfl : g v = y := Option.some.inj hj
        exact hs i u v σ' H' c d p e) fun σ' H' p e => hd σ' H' (by rw [List.length_map] at p; exact p) e
/-- xs.pop() as a statement -/
theorem r_pop {l : Addr} {xs : List V} {y : V} (e : Ex H0 H1) (hn : H0 l = none) (hl : H1 l = some (.lst xs)) (ha : Ev ta σ H0 (.ref l)) (hy : xs[xs.length - 1]? = some y)
    (k : ∀ H2, Ex H0 H2 → H2 l = some (.lst xs.dropLast) → (∀ a o, a ≠ l → H1 a = some o → H2 a = some o) → tz D σ H2) : tSeq (tDrop (tBM0 K "list" rPop ta)) tz D σ H1 := ha H1 e _ fun H2 e1 =>
  ⟨Or.inl ⟨rfl, xs, sq_of (e1 l _ hl)⟩, l, xs, y, rfl, rfl, e1 l _ hl, hy, k _ (Ex.mut (e.trans e1) hn) upd_same fun a o ne ho => by
    rw [upd_ne ne]
    exact e1 a o ho⟩
/-- for over range(n), by a word of the slots; the heap only grows -/
theorem r_forR {ta : TA} {j : Nat} {n : Int} (e : Ex H0 H1) (h : EvA ta σ H0 [.int n]) (hn : -100000 ≤ n ∧ n ≤ 100000) (I : Nat → L2.St → Prop) (h0 : I 0 σ)
    (hs : ∀ (i : Nat) σ' H', (i : Int) < n → I i σ' → Ex H0 H' → tu { D with nx := fun σ2 H2 => I (i + 1) σ2 ∧ Ex H0 H2, ct := fun σ2 H2 => I (i + 1) σ2 ∧ Ex H0 H2, bk := tz D } (σ'.set j (some (.int (i : Int)))) H')
    (hd : ∀ σ' H', I n.toNat σ' → Ex H0 H' → tz D σ' H') : tSeq (tFor (iRng1 ta) (gName j) tu) tz D σ H1 :=
  h H1 e _ fun H2 e2 => ⟨n, rfl, by omega, by omega, for_range (lo := 0) (n := n.toNat) (D := { D with nx := tz D }) (fun i σ' H' => I i σ' ∧ Ex H0 H') ⟨h0, e.trans e2⟩ (fun i σ' H' hi p => by
    have e0 : (0 : Int) + (i : Int) = (i : Int) := Int.zero_add _
    show tu { D with nx := fun σ2 H2 => I (i + 1) σ2 ∧ Ex H0 H2, ct := fun σ2 H2 => I (i + 1) σ2 ∧ Ex H0 H2, bk := tz D } (σ'.set j (some (.int ((0 : Int) + (i : Int))))) H'
    rw [e0]
    exact hs i σ' H' (by omega) p.1 p.2) fun σ' H' p => hd σ' H' p.1 p.2⟩
/-- .. by a word of the slots and the heap -/
theorem r_forRH {ta : TA} {j : Nat} {n : Int} (e : Ex H0 H1) (h : EvA ta σ H0 [.int n]) (hn : -100000 ≤ n ∧ n ≤ 100000) (I : Nat → L2.St → Hp → Prop) (h0 : ∀ H2, Ex H1 H2 → I 0 σ H2)
    (hs : ∀ (i : Nat) σ' H', (i : Int) < n → I i σ' H' → tu { D with nx := I (i + 1), ct := I (i + 1), bk := tz D } (σ'.set j (some (.int (i : Int)))) H')
    (hd : ∀ σ' H', I n.toNat σ' H' → tz D σ' H') : tSeq (tFor (iRng1 ta) (gName j) tu) tz D σ H1 :=
  h H1 e _ fun H2 e2 => ⟨n, rfl, by omega, by omega, for_range (lo := 0) (n := n.toNat) (D := { D with nx := tz D }) I (h0 H2 e2) (fun i σ' H' hi p => by
    have e0 : (0 : Int) + (i : Int) = (i : Int) := Int.zero_add _
    show tu { D with nx := I (i + 1), ct := I (i + 1), bk := tz D } (σ'.set j (some (.int ((0 : Int) + (i : Int))))) H'
    rw [e0]
    exact hs i σ' H' (by omega) p) hd⟩
/-- for over a list of ints that stands -/
theorem r_forLI {a : Addr} {ns : List Int} {tl : TE} {j : Nat} (e : Ex H0 H1) (h : Ev tl σ H0 (.ref a)) (hx : SqL K H0 a (ns.map V.int)) (I : Nat → L2.St → Hp → Prop) (hw : ∀ i σ' H', I i σ' H' → Ex H0 H') (h0 : ∀ H2, Ex H1 H2 → I 0 σ H2)
    (hs : ∀ (i : Nat) (n : Int) σ' H', ns[i]? = some n → I i σ' H' → tu { D with nx := I (i + 1), ct := I (i + 1), bk := tz D } (σ'.set j (some (.int n))) H')
    (hd : ∀ σ' H', I ns.length σ' H' → tz D σ' H') : tSeq (tFor (iList K tl) (gName j) tu) tz D σ H1 :=
  h H1 e _ fun H2 e2 => ⟨a, rfl, ⟨_, ex_l (e.trans e2) hx⟩, for_list (D := { D with nx := tz D }) I (h0 H2 e2) (fun i σ' H' _ p => ex_l (hw i σ' H' p) hx) (fun i x σ' H' hi p => by
    rw [List.getElem?_map] at hi
    cases g : ns[i]? with
    | none => rw [g] at hi; cases hi
    | some n =>
      rw [g] at hi
      obtain rfl : V.int n = x := Option.some.inj hi
      exact hs i n σ' H' g p) fun σ' H' p => hd σ' H' (by rw [List.length_map] at p; exact p)⟩
/-- .. of anything -/
theorem r_forLM {α : Type} {f : α → V} {a : Addr} {ns : List α} {tl : TE} {j : Nat} (e : Ex H0 H1) (h : Ev tl σ H0 (.ref a)) (hx : SqL K H0 a (ns.map f)) (I : Nat → L2.St → Hp → Prop) (hw : ∀ i σ' H', I i σ' H' → Ex H0 H') (h0 : ∀ H2, Ex H1 H2 → I 0 σ H2)
    (hs : ∀ (i : Nat) (n : α) σ' H', ns[i]? = some n → I i σ' H' → tu { D with nx := I (i + 1), ct := I (i + 1), bk := tz D } (σ'.set j (some (f n))) H')
    (hd : ∀ σ' H', I ns.length σ' H' → tz D σ' H') : tSeq (tFor (iList K tl) (gName j) tu) tz D σ H1 :=
  h H1 e _ fun H2 e2 => ⟨a, rfl, ⟨_, ex_l (e.trans e2) hx⟩, for_list (D := { D with nx := tz D }) I (h0 H2 e2) (fun i σ' H' _ p => ex_l (hw i σ' H' p) hx) (fun i x σ' H' hi p => by
    rw [List.getElem?_map] at hi
    cases g : ns[i]? with
    | none => rw [g] at hi; cases hi
    | some n =>
      rw [g] at hi
      obtain rfl : f n = x := Option.some.inj hi
      exact hs i n σ' H' g p) fun σ' H' p => hd σ' H' (by rw [List.length_map] at p; exact p)⟩
/-- .. over a displayed or called, new list -/
theorem r_forNM {α : Type} {f : α → V} {ns : List α} {tl : TE} {j : Nat} (e : Ex H0 H1) (h : EvL tl σ H0 (ns.map f)) (I : Hp → Nat → L2.St → Hp → Prop) (hw : ∀ G i σ' H', I G i σ' H' → Ex G H') (h0 : ∀ G, Ex H0 G → Ex H1 G → I G 0 σ G)
    (hs : ∀ G, Ex H0 G → ∀ (i : Nat) (n : α) σ' H', ns[i]? = some n → I G i σ' H' → tu { D with nx := I G (i + 1), ct := I G (i + 1), bk := tz D } (σ'.set j (some (f n))) H')
    (hd : ∀ G, Ex H0 G → ∀ σ' H', I G ns.length σ' H' → tz D σ' H') : tSeq (tFor (iList K tl) (gName j) tu) tz D σ H1 :=
  h H1 e _ fun a G ha e2 h2 => ⟨a, rfl, ⟨_, sq_of h2⟩, for_list (D := { D with nx := tz D }) (I G) (h0 G (e.trans e2) e2) (fun i σ' H' _ p => ex_l (hw G i σ' H' p) (sq_of h2)) (fun i x σ' H' hi p => by
    rw [List.getElem?_map] at hi
    cases g : ns[i]? with
    | none => rw [g] at hi; cases hi
    | some n =>
      rw [g] at hi
      obtain rfl : f n = x := Option.some.inj hi
      exact hs G (e.trans e2) i n σ' H' g p) fun σ' H' p => hd G (e.trans e2) σ' H' (by rw [List.length_map] at p; exact p)⟩
/-- while, by a word of the measure, the slots and the heap -/
theorem r_whileH (e : Ex H0 H1) (W : Nat → L2.St → Hp → Prop) (m0 : Nat) (hw : ∀ m σ' H', W m σ' H' → Ex H0 H') (h0 : W m0 σ H1)
    (hs : ∀ m σ' H', W m σ' H' → ∃ p, EtP t σ' H0 p ∧ (p → ∀ H2, Ex H0 H2 → Ex H' H2 → tu { D with nx := fun σ2 H3 => ∃ m', m' < m ∧ W m' σ2 H3, ct := fun σ2 H3 => ∃ m', m' < m ∧ W m' σ2 H3, bk := tz D } σ' H2) ∧ (¬ p → ∀ H2, Ex H0 H2 → Ex H' H2 → tz D σ' H2)) :
    tSeq (tWhile t tu) tz D σ H1 := by
  refine q_while W m0 h0 ?_
  intro m σ' H' hwm
  have e' := hw m σ' H' hwm
  obtain ⟨p, ⟨b, hb, ht⟩, h1, h2⟩ := hs m σ' H' hwm
  refine ⟨b, ht.mono e', fun eb H2 e2 => ?_, fun eb H2 e2 => ?_⟩
  · exact ⟨_, fun σ2 H3 z => z, h1 (hb.mp eb) H2 (e'.trans e2) e2⟩
  · refine h2 (fun z => ?_) H2 (e'.trans e2) e2
    have := hb.mpr z
    rw [eb] at this
    cases this
/-- for over a list that stands -/
theorem r_forL {a : Addr} {xs : List V} {tl : TE} {j : Nat} (e : Ex H0 H1) (h : Ev tl σ H0 (.ref a)) (hx : SqL K H0 a xs) (I : Nat → L2.St → Prop) (h0 : I 0 σ)
    (hs : ∀ (i : Nat) x σ' H', xs[i]? = some x → I i σ' → Ex H0 H' → tu { D with nx := fun σ2 H2 => I (i + 1) σ2 ∧ Ex H0 H2, ct := fun σ2 H2 => I (i + 1) σ2 ∧ Ex H0 H2, bk := tz D } (σ'.set j (some x)) H')
    (hd : ∀ σ' H', I xs.length σ' → Ex H0 H' → tz D σ' H') : tSeq (tFor (iList K tl) (gName j) tu) tz D σ H1 :=
  h H1 e _ fun H2 e2 => ⟨a, rfl, ⟨xs, ex_l (e.trans e2) hx⟩, for_list (D := { D with nx := tz D }) (fun i σ' H' => I i σ' ∧ Ex H0 H') ⟨h0, e.trans e2⟩ (fun i σ' H' _ p => ex_l p.2 hx) (fun i x σ' H' hi p => hs i x σ' H' hi p.1 p.2) fun σ' H' p => hd σ' H' p.1 p.2⟩
/-- .. over a new list -/
theorem r_forNL {xs : List V} {tl : TE} {j : Nat} (e : Ex H0 H1) (h : EvL tl σ H0 xs) (I : Nat → L2.St → Prop) (h0 : I 0 σ)
    (hs : ∀ G, Ex H0 G → ∀ (i : Nat) x σ' H', xs[i]? = some x → I i σ' → Ex G H' → tu { D with nx := fun σ2 H2 => I (i + 1) σ2 ∧ Ex G H2, ct := fun σ2 H2 => I (i + 1) σ2 ∧ Ex G H2, bk := tz D } (σ'.set j (some x)) H')
    (hd : ∀ G, Ex H0 G → ∀ σ' H', I xs.length σ' → Ex G H' → tz D σ' H') : tSeq (tFor (iList K tl) (gName j) tu) tz D σ H1 :=
  h H1 e _ fun a H2 ha e2 h2 => ⟨a, rfl, ⟨xs, sq_of h2⟩, for_list (D := { D with nx := tz D }) (fun i σ' H' => I i σ' ∧ Ex H2 H') ⟨h0, Ex.refl _⟩ (fun i σ' H' _ p => ex_l p.2 (sq_of h2)) (fun i x σ' H' hi p => hs H2 (e.trans e2) i x σ' H' hi p.1 p.2) fun σ' H' p => hd H2 (e.trans e2) σ' H' p.1 p.2⟩
/-- an int of a list of ints -/
theorem rv_ixI {p : Addr} {ns : List Int} {i : Int} (h : SqL K H p (ns.map V.int)) (h0 : 0 ≤ i) (h1 : i < (ns.length : Int)) : RV (rIxL K) (.ref p) (.int i) H (.int (ns.getD i.toNat 0)) := by
  refine rv_ixL h ?_
  obtain ⟨j, rfl⟩ : ∃ j : Nat, i = (j : Int) := ⟨i.toNat, by omega⟩
  have hj : j < ns.length := by omega
  refine atI_nat ?_
  rw [List.getElem?_map, List.getElem?_eq_getElem hj]
  show some (V.int ns[j]) = some (V.int (ns.getD ((j : Int).toNat) 0))
  rw [Int.toNat_natCast, List.getD_eq_getElem?_getD, List.getElem?_eq_getElem hj]
  rfl
theorem cutV_to (xs : List V) (k : Nat) : cutV xs none (some (k : Int)) = xs.take k := by
  unfold cutV
  rw [HT.sIx_none, HT.sIx_nat, List.drop_zero, Nat.sub_zero]
  by_cases h : k ≤ xs.length
  · rw [Nat.min_eq_left h]
  · rw [Nat.min_eq_right (by omega), List.take_of_length_le (Nat.le_refl _), List.take_of_length_le (by omega)]
theorem cutV_all {xs : List V} (k : Nat) (h : xs.length ≤ k) : cutV xs none (some (k : Int)) = xs := by
  rw [cutV_to, List.take_of_length_le h]
theorem cutV_from (xs : List V) (k : Nat) : cutV xs (some (k : Int)) none = xs.drop k := by
  unfold cutV
  rw [HT.sIx_none, HT.sIx_nat]
  by_cases h : k ≤ xs.length
  · rw [Nat.min_eq_left h, List.take_of_length_le (by rw [List.length_drop]; omega)]
  · rw [Nat.min_eq_right (by omega), List.take_of_length_le (by rw [List.length_drop]; omega), List.drop_of_length_le (Nat.le_refl _), List.drop_of_length_le (by omega)]
theorem rv_kd {w : World} {p : Addr} {z : Str} {v : V} (h : KDct K w p z v) : RV (rIxD K w) (.ref p) (.str z) H v := fun H1 _ Q q => ⟨p, z, v, rfl, rfl, h, q H1 (Ex.refl H1)⟩
theorem rv_isN {x : V} : RV (fun x y H Q => y = .non ∧ Q (.bl (decide (x = .non))) H) x .non H (.bl (decide (x = .non))) := fun H1 _ Q q => ⟨rfl, q H1 (Ex.refl H1)⟩
theorem rv_notN {x : V} : RV (fun x y H Q => y = .non ∧ Q (.bl (!decide (x = .non))) H) x .non H (.bl (!decide (x = .non))) := fun H1 _ Q q => ⟨rfl, q H1 (Ex.refl H1)⟩
theorem ev_slS {tl th : TO} {zs : Str} {lo hi : Option Int} (h : Ev te σ H (.str zs)) (h1 : EvO tl σ H lo) (h2 : EvO th σ H hi) (hz : zs.length ≤ 100000) : Ev (tSl rSlS te tl th) σ H (.str (cutS zs lo hi)) := fun H1 e _ q =>
  h H1 e _ fun H2 e2 => h1 H2 (e.trans e2) _ fun H3 e3 => h2 H3 ((e.trans e2).trans e3) _ fun H4 e4 => ⟨zs, rfl, sz_of hz, q H4 ((e2.trans e3).trans e4)⟩
/-- [f(x) for x in xs] over a list of ints, each an int -/
theorem given_all {n : Nat} {v : Nat → V} : given n (fun _ => true) v = (List.range n).map v := by
  unfold given
  rw [List.filter_eq_self.mpr (fun _ _ => rfl)]
theorem et_yes {σ : L2.St} {H : Hp} : EvT tYes σ H true := fun H1 _ _ q => q H1 (Ex.refl H1)
theorem map_range {α : Type} {ns : List α} {d : α} {f : α → V} : (List.range ns.length).map (fun i => f (ns.getD i d)) = ns.map f := by
  apply List.ext_getElem?
  intro i
  rw [List.getElem?_map, List.getElem?_map]
  by_cases h : i < ns.length
  · rw [List.getElem?_range h, List.getElem?_eq_getElem h]
    show some (f (ns.getD i d)) = some (f ns[i])
    rw [List.getD_eq_getElem?_getD, List.getElem?_eq_getElem h]
    rfl
  · rw [List.getElem?_eq_none (by rw [List.length_range]; omega), List.getElem?_eq_none (by omega)]
    rfl
theorem el_lcI {a : Addr} {ns : List Int} {tl : TE} {j : Nat} {vs : List Nat} (f : Int → V) (h : Ev tl σ H (.ref a)) (hx : SqL K H a (ns.map V.int)) (hz : ns.length ≤ 40000) (hw : ∀ x, wipe ((wipe σ vs).set j (some x)) vs = wipe σ vs)
    (he : ∀ (n : Int), n ∈ ns → Ev te ((wipe σ vs).set j (some (.int n))) H (f n)) : EvL (tLc (iList K tl) (gName j) tYes te vs) σ H (ns.map f) := by
  have q := el_lcL (K := K) (t := tYes) (te := te) (j := j) (vs := vs) (fun _ => true) (fun i => f (ns.getD i 0)) h hx (by rw [List.length_map]; exact hz) hw (fun _ _ _ _ _ => et_yes) (fun i x H1 e hi _ => by
    rw [List.getElem?_map] at hi
    cases g : ns[i]? with
    | none => rw [g] at hi; cases hi
    | some n =>
      rw [g] at hi
      obtain rfl : V.int n = x := Option.some.inj hi
      have d : ns.getD i 0 = n := by rw [List.getD_eq_getElem?_getD, g]; rfl
      rw [d]
      exact (he n (List.mem_of_getElem? g)).mono e)
  rw [given_all, List.length_map, map_range] at q
  exact q
/-- .. over a new list -/
theorem el_lcNI {ns : List Int} {tl : TE} {j : Nat} {vs : List Nat} (f : Int → V) (h : EvL tl σ H (ns.map V.int)) (hz : ns.length ≤ 40000) (hw : ∀ x, wipe ((wipe σ vs).set j (some x)) vs = wipe σ vs)
    (he : ∀ (n : Int), n ∈ ns → Ev te ((wipe σ vs).set j (some (.int n))) H (f n)) : EvL (tLc (iList K tl) (gName j) tYes te vs) σ H (ns.map f) := by
  have q := el_lcNL (K := K) (t := tYes) (te := te) (j := j) (vs := vs) (fun _ => true) (fun i => f (ns.getD i 0)) h (by rw [List.length_map]; exact hz) hw (fun _ _ _ _ _ => et_yes) (fun i x H1 e hi _ => by
    rw [List.getElem?_map] at hi
    cases g : ns[i]? with
    | none => rw [g] at hi; cases hi
    | some n =>
      rw [g] at hi
      obtain rfl : V.int n = x := Option.some.inj hi
      have d : ns.getD i 0 = n := by rw [List.getD_eq_getElem?_getD, g]; rfl
      rw [d]
      exact (he n (List.mem_of_getElem? g)).mono e)
  rw [given_all, List.length_map, map_range] at q
  exact q
/-- [e for k in range(n)] -/
theorem given_list (ns : List Int) (p : Int → Bool) (f : Int → V) : given ns.length (fun i => p (ns.getD i 0)) (fun i => f (ns.getD i 0)) = (ns.filter p).map f := by
  have h : ns = (List.range ns.length).map fun i => ns.getD i 0 := by
    apply List.ext_getElem?
    intro i
    rw [List.getElem?_map]
    by_cases g : i < ns.length
    · rw [List.getElem?_range g, List.getElem?_eq_getElem g]
      show some ns[i] = some (ns.getD i 0)
      rw [List.getD_eq_getElem?_getD, List.getElem?_eq_getElem g]
      rfl
    · rw [List.getElem?_eq_none (show ns.length ≤ i by omega), List.getElem?_eq_none (show (List.range ns.length).length ≤ i by rw [List.length_range]; omega)]
      rfl
  unfold given
  generalize hn : ns.length = n
  rw [hn] at h
  generalize hg : (fun i => ns.getD i 0) = g at h
  have e1 : (fun i => p (ns.getD i 0)) = p ∘ g := by rw [← hg]; rfl
  have e2 : (fun i => f (ns.getD i 0)) = f ∘ g := by rw [← hg]; rfl
  rw [e1, e2, h, List.filter_map, List.map_map]
/-- .. some of them -/
theorem el_lcIF {a : Addr} {ns : List Int} {t : TT} {tl : TE} {j : Nat} {vs : List Nat} (p : Int → Bool) (f : Int → V) (h : Ev tl σ H (.ref a)) (hx : SqL K H a (ns.map V.int)) (hz : ns.length ≤ 40000) (hw : ∀ x, wipe ((wipe σ vs).set j (some x)) vs = wipe σ vs)
    (ht : ∀ (n : Int), n ∈ ns → EvT t ((wipe σ vs).set j (some (.int n))) H (p n)) (he : ∀ (n : Int), n ∈ ns → Ev te ((wipe σ vs).set j (some (.int n))) H (f n)) : EvL (tLc (iList K tl) (gName j) t te vs) σ H ((ns.filter p).map f) := by
  have hi : ∀ (i : Nat) (x : V), (ns.map V.int)[i]? = some x → ∃ n, n ∈ ns ∧ x = .int n ∧ ns.getD i 0 = n := fun i x hi => by
    rw [List.getElem?_map] at hi
    cases g : ns[i]? with
    | none => rw [g] at hi; cases hi
    | some n =>
      rw [g] at hi
      exact ⟨n, List.mem_of_getElem? g, (Option.some.inj hi).symm, by rw [List.getD_eq_getElem?_getD, g]; rfl⟩
  have q := el_lcL (K := K) (t := t) (te := te) (j := j) (vs := vs) (fun i => p (ns.getD i 0)) (fun i => f (ns.getD i 0)) h hx (by rw [List.length_map]; exact hz) hw
    (fun i x H1 e hx => by obtain ⟨n, hm, rfl, d⟩ := hi i x hx; show EvT _ _ _ (p (ns.getD i 0)); rw [d]; exact (ht n hm).mono e)
    (fun i x H1 e hx _ => by obtain ⟨n, hm, rfl, d⟩ := hi i x hx; show Ev _ _ _ (f (ns.getD i 0)); rw [d]; exact (he n hm).mono e)
  rw [List.length_map, given_list] at q
  exact q
theorem ev_sumN {ns : List Int} (h : EvL ta σ H (ns.map V.int)) : Ev (tCB (rSum K) (tCons ta tNil)) σ H (.int ns.sum) := fun H1 e Q q =>
  h H1 e _ fun p H2 _ e2 hp => ⟨p, ns, rfl, sq_of hp, q H2 e2⟩
theorem ev_sumR {n : Nat} {f : Nat → Int} (h : EvL ta σ H ((List.range n).map fun i => V.int (f i))) : Ev (tCB (rSum K) (tCons ta tNil)) σ H (.int ((List.range n).map f).sum) :=
  ev_sumN (by rw [List.map_map]; exact h)
theorem et_p {p : Prop} [Decidable p] (h : EtP t σ H p) : EvT t σ H (decide p) := by
  obtain ⟨b, hb, h⟩ := h
  refine et_is h ?_
  cases b with
  | true => exact (decide_eq_true (hb.mp rfl)).symm
  | false => exact (decide_eq_false fun z => nomatch hb.mpr z).symm
theorem el_revL {p : Addr} {xs : List V} (ha : Ev ta σ H (.ref p)) (h : SqL K H p xs) : EvL (tRevL K ta) σ H xs.reverse := fun H1 e Q q =>
  ha H1 e _ fun H2 e2 => ⟨p, xs, rfl, ex_l (e.trans e2) h, fun l hl => q l _ (fresh_back e2 hl) (e2.trans (Ex.new hl)) upd_same⟩
theorem el_revI {p : Addr} {ns : List Int} (ha : Ev ta σ H (.ref p)) (h : SqL K H p (ns.map V.int)) : EvL (tRevL K ta) σ H (ns.reverse.map V.int) := by
  rw [List.map_reverse]
  exact el_revL ha h
theorem el_lcR {ta : TA} {j : Nat} {vs : List Nat} {n : Int} (v : Nat → V) (h : EvA ta σ H [.int n]) (hn : 0 ≤ n ∧ n ≤ 40000) (hw : ∀ x, wipe ((wipe σ vs).set j (some x)) vs = wipe σ vs)
    (he : ∀ (i : Nat), (i : Int) < n → Ev te ((wipe σ vs).set j (some (.int (i : Int)))) H (v i)) : EvL (tLc (iRng1 ta) (gName j) tYes te vs) σ H ((List.range n.toNat).map v) := by
  have q := el_lcR1 (te := te) (j := j) (vs := vs) (fun _ => true) v h hn hw (t := tYes) (fun _ _ _ _ => et_yes) (fun i H1 e hi _ => (he i hi).mono e)
  rw [given_all] at q
  exact q
/-- an item of a displayed list -/
theorem ev_ixD {ns : List Int} {i : Int} (ha : EvL ta σ H (ns.map V.int)) (hb : Ev tb σ H (.int i)) (h0 : 0 ≤ i) (h1 : i < (ns.length : Int)) : Ev (tOp (rIxL K) ta tb) σ H (.int (ns.getD i.toNat 0)) :=
  ev_opL1 ha (fun _ e => hb.mono e) fun p H1 h _ => rv_ixL (sq_of h) (by
    obtain ⟨j, rfl⟩ : ∃ j : Nat, i = (j : Int) := ⟨i.toNat, by omega⟩
    have hj : j < ns.length := by omega
    refine atI_nat ?_
    rw [List.getElem?_map, List.getElem?_eq_getElem hj, List.getD_eq_getElem?_getD, Int.toNat_natCast, List.getElem?_eq_getElem hj]
    rfl)
theorem at_strs {ns : List Str} {i : Int} (h0 : 0 ≤ i) (h1 : i < (ns.length : Int)) : atI (ns.map V.str) i = some (.str (ns.getD i.toNat "")) := by
  obtain ⟨j, rfl⟩ : ∃ j : Nat, i = (j : Int) := ⟨i.toNat, by omega⟩
  have hj : j < ns.length := by omega
  refine atI_nat ?_
  rw [List.getElem?_map, List.getElem?_eq_getElem hj, List.getD_eq_getElem?_getD, Int.toNat_natCast, List.getElem?_eq_getElem hj]
  rfl
theorem ev_ixDS {ns : List Str} {i : Int} (ha : EvL ta σ H (ns.map V.str)) (hb : Ev tb σ H (.int i)) (h0 : 0 ≤ i) (h1 : i < (ns.length : Int)) : Ev (tOp (rIxL K) ta tb) σ H (.str (ns.getD i.toNat "")) :=
  ev_opL1 ha (fun _ e => hb.mono e) fun p H1 h _ => rv_ixL (sq_of h) (at_strs h0 h1)
theorem rv_ixStr {p : Addr} {ns : List Str} {i : Int} (h : SqL K H p (ns.map V.str)) (h0 : 0 ≤ i) (h1 : i < (ns.length : Int)) : RV (rIxL K) (.ref p) (.int i) H (.str (ns.getD i.toNat "")) := rv_ixL h (at_strs h0 h1)
theorem ev_lenM {α : Type} {f : α → V} {p : Addr} {ns : List α} (ha : Ev ta σ H (.ref p)) (h : SqL K H p (ns.map f)) : Ev (tCB (rLenS K) (tCons ta tNil)) σ H (.int (ns.length : Int)) := by
  have q := ev_len ha h
  rw [List.length_map] at q
  exact q
theorem ev_lenTM {α : Type} {f : α → V} {p : Addr} {ns : List α} (ha : Ev ta σ H (.ref p)) (h : SqT K H p (ns.map f)) : Ev (tCB (rLenS K) (tCons ta tNil)) σ H (.int (ns.length : Int)) := by
  have q := ev_lenT ha h
  rw [List.length_map] at q
  exact q
theorem el_to {xs ys : List V} (h : EvL te σ H xs) (e : xs = ys) : EvL te σ H ys := by rw [← e]; exact h
theorem r_retI {i j : Int} (e : Ex H0 H1) (h : Ev te σ H0 (.int i)) (hi : i = j) (k : ∀ H2, Ex H0 H2 → D.rt (.int j) H2) : tSeq (tRet te) tz D σ H1 := by
  subst hi
  exact h H1 e _ fun H2 e2 => k H2 (e.trans e2)
theorem r_retB {i j : Bool} (e : Ex H0 H1) (h : Ev te σ H0 (.bl i)) (hi : i = j) (k : ∀ H2, Ex H0 H2 → D.rt (.bl j) H2) : tSeq (tRet te) tz D σ H1 := by
  subst hi
  exact h H1 e _ fun H2 e2 => k H2 (e.trans e2)
theorem r_retS {i j : Str} (e : Ex H0 H1) (h : Ev te σ H0 (.str i)) (hi : i = j) (k : ∀ H2, Ex H0 H2 → D.rt (.str j) H2) : tSeq (tRet te) tz D σ H1 := by
  subst hi
  exact h H1 e _ fun H2 e2 => k H2 (e.trans e2)
/-- while; the heap only grows; W: by a measure and the slots -/
theorem r_while (e : Ex H0 H1) (W : Nat → L2.St → Prop) (m0 : Nat) (h0 : W m0 σ)
    (hs : ∀ m σ' H', W m σ' → Ex H0 H' → ∃ p, EtP t σ' H0 p ∧ (p → ∀ H2, Ex H0 H2 → tu { D with nx := fun σ2 H3 => (∃ m', m' < m ∧ W m' σ2) ∧ Ex H0 H3, ct := fun σ2 H3 => (∃ m', m' < m ∧ W m' σ2) ∧ Ex H0 H3, bk := tz D } σ' H2) ∧ (¬ p → ∀ H2, Ex H0 H2 → tz D σ' H2)) :
    tSeq (tWhile t tu) tz D σ H1 := by
  refine q_while (fun m σ' H' => W m σ' ∧ Ex H0 H') m0 ⟨h0, e⟩ ?_
  rintro m σ' H' ⟨hw, e'⟩
  obtain ⟨p, ⟨b, hb, ht⟩, h1, h2⟩ := hs m σ' H' hw e'
  refine ⟨b, ht.mono e', fun eb H2 e2 => ?_, fun eb H2 e2 => ?_⟩
  · exact ⟨_, fun σ2 H3 ⟨⟨m', l, w⟩, e3⟩ => ⟨m', l, w, e3⟩, h1 (hb.mp eb) H2 (e'.trans e2)⟩
  · refine h2 (fun z => ?_) H2 (e'.trans e2)
    have := hb.mpr z
    rw [eb] at this
    cases this
end

/-! ### written dicts with text keys, told by their pairs -/
def EntsK (P : Params) : List (Str × V) → List DictEntry → Prop
  | [], [] => True
  | (k, v) :: r, e :: l => (∃ t, e.key = .str k t) ∧ e.hash = PyData.keyHash P k ∧ RelV v e.val ∧ EntsK P r l
  | _, _ => False
theorem EntsK.lit {P : Params} : ∀ {r : List (Str × V)} {l : List DictEntry}, EntsK P r l → PySem.W.KeysLit P l
  | [], [], _ => True.intro
  | (k, v) :: r, e :: l, h => by
    obtain ⟨⟨t, h1⟩, h2, _, h4⟩ := h
    exact ⟨⟨k, t, h1, h2⟩, EntsK.lit h4⟩
  | [], _ :: _, h => h.elim
  | _ :: _, [], h => h.elim
theorem isStr_str (k z : Str) (t : Tok) : (Value.str k t).isStr z = decide (k = z) := by
  rw [PySem.W.isStr_of]
  by_cases h : k = z
  · subst h
    rw [decide_eq_true rfl]
    exact keyIs_str k t
  · rw [decide_eq_false h]
    cases e : Value.isStrOf z (.str k t) with
    | false => rfl
    | true =>
      obtain ⟨t2, e2⟩ := Value.isStrOf_shape (x := z) (v := .str k t) e
      injection e2 with e3 _
      exact absurd e3 h
theorem EntsK.find {P : Params} (z : Str) : ∀ {r : List (Str × V)} {l : List DictEntry}, EntsK P r l →
    (match l.find? (fun e => e.key.isStr z) with | some e => ∃ v, r.lookup z = some v ∧ RelV v e.val | none => r.lookup z = none ∧ l.any (·.refKey) = false)
  | [], [], _ => ⟨rfl, rfl⟩
  | (k, v) :: r, e :: l, h => by
    obtain ⟨⟨t, h1⟩, _, h3, h4⟩ := h
    have ih := EntsK.find z h4
    have hk : e.key.isStr z = decide (k = z) := by rw [h1]; exact isStr_str k z t
    by_cases hz : k = z
    · subst hz
      have q : (e :: l).find? (fun e => e.key.isStr k) = some e := by
        rw [List.find?_cons, hk, decide_eq_true rfl]
      rw [q]
      refine ⟨v, ?_, h3⟩
      rw [List.lookup_cons, beq_self_eq_true]
    · have q : (e :: l).find? (fun e => e.key.isStr z) = l.find? (fun e => e.key.isStr z) := by
        rw [List.find?_cons, hk, decide_eq_false hz]
      have g : ((k, v) :: r).lookup z = r.lookup z := by
        rw [List.lookup_cons, beq_eq_false_iff_ne.mpr (Ne.symm hz)]
      rw [q, g]
      cases c : l.find? (fun e => e.key.isStr z) with
      | some e2 =>
        rw [c] at ih
        exact ih
      | none =>
        rw [c] at ih
        refine ⟨ih.1, ?_⟩
        rw [List.any_cons, ih.2, Bool.or_false]
        unfold DictEntry.refKey
        rw [h1]
  | [], _ :: _, h => h.elim
  | _ :: _, [], h => h.elim
/-- at d stands a written dict of these pairs -/
structure SD (K : PySem.W.Frag) (w : World) (d : Addr) (kvs : List (Str × V)) : Prop where
  ex : ∃ es n, K.lookup d = some ⟨.type "dict", none, .dict es n, #[]⟩ ∧ EntsK w.params kvs es.toList
  low : (d == sysModules) = false
section
variable {K : PySem.W.Frag} {w : World} {d : Addr} {kvs : List (Str × V)} {H : Hp}
theorem SD.some (D : SD K w d kvs) {z : Str} {v : V} (h : kvs.lookup z = .some v) : KDct K w d z v := by
  obtain ⟨es, n, hl, he⟩ := D.ex
  have f := he.find z
  cases c : es.toList.find? (fun e => e.key.isStr z) with
  | none => rw [c] at f; rw [f.1] at h; cases h
  | some e =>
    rw [c] at f
    obtain ⟨v2, h2, h3⟩ := f
    rw [h] at h2
    cases h2
    refine ⟨es, n, e.val, hl, he.lit, ?_, h3⟩
    unfold PySem.W.nsIn
    rw [hl]
    dsimp only
    rw [c]
theorem SD.ns (D : SD K w d kvs) (z : Str) : ∃ r, PySem.W.nsIn K d z = .some r ∧ r.isSome = (kvs.lookup z).isSome := by
  obtain ⟨es, n, hl, he⟩ := D.ex
  have f := he.find z
  unfold PySem.W.nsIn
  rw [hl]
  dsimp only
  cases c : es.toList.find? (fun e => e.key.isStr z) with
  | none =>
    rw [c] at f
    rw [f.1]
    dsimp only
    rw [f.2]
    exact ⟨none, rfl, rfl⟩
  | some e =>
    rw [c] at f
    obtain ⟨v2, h2, h3⟩ := f
    rw [h2]
    exact ⟨_, rfl, rfl⟩
def rInSD (d : Addr) (kvs : List (Str × V)) (neg : Bool) : R2 := fun x y H Q => ∃ (z : Str), x = .str z ∧ y = .ref d ∧ Q (.bl (if neg then !(kvs.lookup z).isSome else (kvs.lookup z).isSome)) H
theorem op_in_sd {X : Cx} (D : SD X.K X.w d kvs) : OpR X (compareOp .In) (rInSD d kvs false) := by
  intro pins s σ H x y v u Q I rx ry h
  obtain ⟨z, rfl, rfl, q⟩ := h
  obtain ⟨es, n, hl, he⟩ := D.ex
  obtain ⟨r, hr, hs⟩ := D.ns z
  refine op_in_kd ⟨hl, he.lit, D.low⟩ pins s σ H (.str z) (.ref d) v u Q I rx ry ⟨z, r, rfl, rfl, hr, ?_⟩
  rw [hs]
  exact q
theorem op_notIn_sd {X : Cx} (D : SD X.K X.w d kvs) : OpR X (compareOp .NotIn) (rInSD d kvs true) := by
  intro pins s σ H x y v u Q I rx ry h
  obtain ⟨z, rfl, rfl, q⟩ := h
  obtain ⟨es, n, hl, he⟩ := D.ex
  obtain ⟨r, hr, hs⟩ := D.ns z
  refine op_notIn_kd ⟨hl, he.lit, D.low⟩ pins s σ H (.str z) (.ref d) v u Q I rx ry ⟨z, r, rfl, rfl, hr, ?_⟩
  rw [hs]
  exact q
theorem rv_inSD {z : Str} : RV (rInSD d kvs false) (.str z) (.ref d) H (.bl ((kvs.lookup z).isSome)) := fun H1 _ Q q => ⟨z, rfl, rfl, q H1 (Ex.refl H1)⟩
theorem rv_niSD {z : Str} : RV (rInSD d kvs true) (.str z) (.ref d) H (.bl (!(kvs.lookup z).isSome)) := fun H1 _ Q q => ⟨z, rfl, rfl, q H1 (Ex.refl H1)⟩
theorem lookup_keys (z : Str) : ∀ kvs : List (Str × V), (kvs.lookup z).isSome = decide (z ∈ kvs.map (·.1))
  | [] => rfl
  | (k, v) :: r => by
    have ih := lookup_keys z r
    by_cases h : z = k
    · subst h
      rw [List.lookup_cons, beq_self_eq_true]
      simp
    · rw [List.lookup_cons, beq_eq_false_iff_ne.mpr h]
      show (r.lookup z).isSome = _
      rw [ih]
      simp [h]
theorem rv_inSDk {z : Str} {keys : List Str} (hk : kvs.map (·.1) = keys) : RV (rInSD d kvs false) (.str z) (.ref d) H (.bl (decide (z ∈ keys))) := by
  have q := rv_inSD (d := d) (kvs := kvs) (H := H) (z := z)
  rw [lookup_keys, hk] at q
  exact q
theorem rv_niSDk {z : Str} {keys : List Str} (hk : kvs.map (·.1) = keys) : RV (rInSD d kvs true) (.str z) (.ref d) H (.bl (!decide (z ∈ keys))) := by
  have q := rv_niSD (d := d) (kvs := kvs) (H := H) (z := z)
  rw [lookup_keys, hk] at q
  exact q
/-- a written tuple of flat values -/
theorem sqt_k {a : Addr} {od : Option Addr} {its : Array Value} {n : Nat} {sl : Array (Option Value)} {xs : List V} (l : K.lookup a = some ⟨.type "tuple", od, .seq its n, sl⟩) (hz : its.size ≤ 100000) (r : Vals xs its.toList) : ∀ H : Hp, SqT K H a xs :=
  fun _ => Or.inr ⟨_, its, n, l, rfl, rfl, Nat.le_trans hz (by decide), r⟩
end
/-! ### a call of a local name that holds one of several defs -/
def tCallR (i : Nat) (S : Addr → Sp → Prop) (t : TA) : TE := fun σ H Q => ∃ f sp, σ[i]? = some (some (.ref f)) ∧ S f sp ∧ t σ H fun vs H1 => sp vs H1 Q (fun _ _ _ => False)
theorem pe_callR {X : Cx} {k i : Nat} {x : Str} {p pos : Pos} {e : Expr} {es : List Expr} {t : TA} {S : Addr → Sp → Prop} (A : ∀ f sp, S f sp → Held X.prog X.w X.K X.mg X.base k f sp) (hr : Room k X.A) (hN : X.N[i]? = some x) (hv : Vis X.env.scope x) (ha : PA X (e :: es) t)
    (hdb : (x == ("__debug__" : Str)) = false := by decide) (hcd : (x == ("__classdict__" : Str)) = false := by decide)
    (he : starEach (e :: es) X.env = (false, eval e X.env) :: starEach es X.env := by rfl) (hpl : (backTo pos (starEach es X.env)).any (·.1) = false := by rfl) : PE X (.Call (.Name x p) (e :: es) [] pos) (tCallR i S t) := by
  refine ⟨fun pins s σ H Q I h => ?_⟩
  obtain ⟨f, sp, hs, hS, ht⟩ := h
  obtain ⟨fd, ps, F, hk, hb⟩ := (A f sp hS).ex
  refine (pe_callL (i := i) (f := f) (sp := sp) (dvs := []) (E := fun _ _ _ => False) F hr hN hv hk hb .nil (fun _ _ _ _ _ _ _ z => z.elim) ha hdb hcd he hpl).run pins s σ H Q I ⟨hs, ?_⟩
  have e0 : (fun (vs : List V) (H1 : Hp) => sp (vs ++ []) H1 Q (fun _ _ _ => False)) = fun vs H1 => sp vs H1 Q (fun _ _ _ => False) := by
    funext vs H1
    rw [List.append_nil]
  show t σ H (fun vs H1 => sp (vs ++ []) H1 Q (fun _ _ _ => False))
  rw [e0]
  exact ht
theorem ev_callR {i : Nat} {S : Addr → Sp → Prop} {ta : TA} {σ : L2.St} {H : Hp} {f : Addr} {sp : Sp} {vs : List V} {z : V} (hs : σ[i]? = some (some (.ref f))) (hS : S f sp) (h : EvA ta σ H vs) (hp : SpV sp vs H z) : Ev (tCallR i S ta) σ H z := fun H1 e Q q =>
  ⟨f, sp, hs, hS, h H1 e _ fun H2 e2 => hp H2 (e.trans e2) Q (fun H3 e3 => q H3 (e2.trans e3)) _⟩
/-! ### a def that stands, and its calls -/
structure Df (P : Program) (w : World) (K : PySem.W.Frag) (mg : Str → Option Value) (base : Heap) (k : Nat) (x : Str) (a : Addr) (fd : FuncData) (ps : List Str) (sp : Sp) : Prop where
  ok : FnOk P w K mg base CX0 k a fd ps sp
  g : mg x = some (.ref a)
  kp : PySem.W.keepIn K (.ref a) = true
  b : Binds K fd ps []
theorem Df.held {P : Program} {w : World} {K : PySem.W.Frag} {mg : Str → Option Value} {base : Heap} {k : Nat} {x : Str} {a : Addr} {fd : FuncData} {ps : List Str} {sp : Sp} (D : Df P w K mg base k x a fd ps sp) : Held P w K mg base k a sp := ⟨⟨fd, ps, D.ok, D.kp, D.b⟩⟩
theorem Df.heldM {P : Program} {w : World} {K : PySem.W.Frag} {mg : Str → Option Value} {base : Heap} {k m : Nat} {x : Str} {a : Addr} {fd : FuncData} {ps : List Str} {sp : Sp} (D : Df P w K mg base k x a fd ps sp) (h : k ≤ m) : Held P w K mg base m a sp := ⟨⟨fd, ps, D.ok.mono h, D.kp, D.b⟩⟩
section
variable {X : Cx} {k : Nat} {x : Str} {a : Addr} {fd : FuncData} {ps : List Str} {sp : Sp} {e : Expr} {es : List Expr} {t : TA} {p pos : Pos}
theorem cl (O : Df X.prog X.w X.K X.mg X.base k x a fd ps sp) (hr : Room k X.A) (hg : Gl X x) (ha : PA X (e :: es) t) (hdb : (x == ("__debug__" : Str)) = false := by decide)
    (he : starEach (e :: es) X.env = (false, eval e X.env) :: starEach es X.env := by rfl) (hpl : (backTo pos (starEach es X.env)).any (·.1) = false := by rfl) : PE X (.Call (.Name x p) (e :: es) [] pos) (tCall sp [] E0 t) :=
  pe_call O.ok hr hg O.g O.kp O.b .nil pass0 ha hdb he hpl
theorem cl0 (O : Df X.prog X.w X.K X.mg X.base k x a fd ps sp) (hr : Room k X.A) (hg : Gl X x) (hdb : (x == ("__debug__" : Str)) = false := by decide) : PE X (.Call (.Name x p) [] [] pos) (tCall sp [] E0 tNil) :=
  pe_call0 O.ok hr hg O.g O.kp O.b .nil pass0 hdb
end
end Wm
set_option Elab.async false
set_option linter.all false
set_option maxRecDepth 100000
set_option maxHeartbeats 4000000

open PySem
local macro_rules | `(tactic| walk_at "sd") => `(tactic| first | exact True.intro | assumption | omega | decide | (dsimp only; omega) | (refine Or.inl ⟨?_, ?_⟩ <;> (first | omega | decide)) | (refine Or.inr ⟨?_, ?_⟩ <;> (first | omega | decide)) | (simp only [List.length_cons, List.length_nil]; omega) | exact Int.emod_nonneg _ (by omega) | exact Int.emod_lt_of_pos _ (by omega) | (refine ⟨?_, ?_⟩ <;> walk_at "sd"))
local macro_rules | `(tactic| walk_at "bd") => `(tactic| first | omega | (simp only [List.length_append, List.length_cons, List.length_nil, List.length_map, List.length_dropLast] at *; omega))
local macro_rules | `(tactic| walk_at "sq") => `(tactic| first | assumption | exact Or.inl (by assumption) | exact Or.inr (by assumption))
local macro_rules | `(tactic| walk_at "keysLit") => `(tactic| (refine ⟨⟨_, _, rfl, rfl⟩, ?_⟩; walk_at "keysLit"))
local macro_rules | `(tactic| walk_at "keysLit") => `(tactic| exact True.intro)
local macro_rules | `(tactic| walk_at "keysLit3") => `(tactic| first | exact True.intro | (refine ⟨⟨_, rfl⟩, rfl, ?_, ?_⟩; (first | exact ⟨_, rfl⟩ | exact rfl); walk_at "keysLit3"))
local macro_rules | `(tactic| walk_at "keysLit4") => `(tactic| first | exact PySem.Paired.nil | (refine PySem.Paired.cons ⟨_, rfl⟩ ?_; walk_at "keysLit4"))
namespace Lk07
open PySem L2 Evl RZ Wm
def topS (i : Nat) : Stmt := PySem.Challenge.pw_wasmhost_k07_counts_and_conversions.main.body.getD i (.Pass ⟨0, 0, 0, 0⟩)
abbrev s_width : Stmt := topS 7
abbrev s_unsigned : Stmt := topS 8
abbrev s_extend : Stmt := topS 9
abbrev s_signed : Stmt := topS 10
abbrev s_in_range : Stmt := topS 11
abbrev s_add : Stmt := topS 13
abbrev s_sub : Stmt := topS 14
abbrev s_mul : Stmt := topS 15
abbrev s_quotient : Stmt := topS 16
abbrev s_div_s : Stmt := topS 17
abbrev s_div_u : Stmt := topS 18
abbrev s_rem_s : Stmt := topS 19
abbrev s_rem_u : Stmt := topS 20
abbrev s_bit_and : Stmt := topS 21
abbrev s_bit_or : Stmt := topS 22
abbrev s_bit_xor : Stmt := topS 23
abbrev s_shift_count : Stmt := topS 24
abbrev s_shl : Stmt := topS 25
abbrev s_shr_s : Stmt := topS 26
abbrev s_shr_u : Stmt := topS 27
abbrev s_rotl : Stmt := topS 28
abbrev s_rotr : Stmt := topS 29
abbrev s_eq : Stmt := topS 30
abbrev s_ne : Stmt := topS 31
abbrev s_lt_s : Stmt := topS 32
abbrev s_gt_s : Stmt := topS 33
abbrev s_le_s : Stmt := topS 34
abbrev s_ge_s : Stmt := topS 35
abbrev s_lt_u : Stmt := topS 36
abbrev s_gt_u : Stmt := topS 37
abbrev s_le_u : Stmt := topS 38
abbrev s_ge_u : Stmt := topS 39
abbrev s_eqz : Stmt := topS 40
abbrev s_clz : Stmt := topS 41
abbrev s_ctz : Stmt := topS 42
abbrev s_popcnt : Stmt := topS 43
abbrev s_extend8_s : Stmt := topS 44
abbrev s_extend16_s : Stmt := topS 45
abbrev s_extend32_s : Stmt := topS 46
abbrev s_extend_u : Stmt := topS 47
abbrev s_signature_of : Stmt := topS 53
abbrev s_check_operands : Stmt := topS 54
abbrev s_calculate : Stmt := topS 55
abbrev s_l_is_integer : Stmt := topS 57
abbrev s_l_cell : Stmt := topS 58
abbrev s_l_signed : Stmt := topS 59
abbrev s_l_value : Stmt := topS 60
abbrev s_l_bits : Stmt := topS 61
abbrev s_l_zeros : Stmt := topS 62
abbrev s_l_due : Stmt := topS 63
abbrev s_l_told : Stmt := topS 64
abbrev s_l_counts : Stmt := topS 65
abbrev s_l_conversions : Stmt := topS 66
abbrev s_law : Stmt := topS 67
def kk_ARITHMETIC : List Str := ["add", "sub", "mul", "div_s", "div_u", "rem_s", "rem_u", "and", "or", "xor", "shl", "shr_s", "shr_u", "rotl", "rotr"]
def kk_COMPARISONS : List Str := ["eq", "ne", "lt_s", "lt_u", "gt_s", "gt_u", "le_s", "le_u", "ge_s", "ge_u"]
def kk_CONVERSIONS : List Str := ["i32.wrap_i64", "i64.extend_i32_s", "i64.extend_i32_u"]
def kk_COUNTS : List Str := ["clz", "ctz", "popcnt", "extend8_s", "extend16_s"]
def kc_INSTRUCTIONS : List Str := ("i32.eqz" : Str) :: ("i32.eq" : Str) :: ("i32.ne" : Str) :: ("i32.lt_s" : Str) :: ("i32.lt_u" : Str) :: ("i32.gt_s" : Str) :: ("i32.gt_u" : Str) :: ("i32.le_s" : Str) :: ("i32.le_u" : Str) :: ("i32.ge_s" : Str) :: ("i32.ge_u" : Str) :: ("i64.eqz" : Str) :: ("i64.eq" : Str) :: ("i64.ne" : Str) :: ("i64.lt_s" : Str) :: ("i64.lt_u" : Str) :: ("i64.gt_s" : Str) :: ("i64.gt_u" : Str) :: ("i64.le_s" : Str) :: ("i64.le_u" : Str) :: ("i64.ge_s" : Str) :: ("i64.ge_u" : Str) :: ("i32.clz" : Str) :: ("i32.ctz" : Str) :: ("i32.popcnt" : Str) :: ("i32.add" : Str) :: ("i32.sub" : Str) :: ("i32.mul" : Str) :: ("i32.div_s" : Str) :: ("i32.div_u" : Str) :: ("i32.rem_s" : Str) :: ("i32.rem_u" : Str) :: ("i32.and" : Str) :: ("i32.or" : Str) :: ("i32.xor" : Str) :: ("i32.shl" : Str) :: ("i32.shr_s" : Str) :: ("i32.shr_u" : Str) :: ("i32.rotl" : Str) :: ("i32.rotr" : Str) :: ("i64.clz" : Str) :: ("i64.ctz" : Str) :: ("i64.popcnt" : Str) :: ("i64.add" : Str) :: ("i64.sub" : Str) :: ("i64.mul" : Str) :: ("i64.div_s" : Str) :: ("i64.div_u" : Str) :: ("i64.rem_s" : Str) :: ("i64.rem_u" : Str) :: ("i64.and" : Str) :: ("i64.or" : Str) :: ("i64.xor" : Str) :: ("i64.shl" : Str) :: ("i64.shr_s" : Str) :: ("i64.shr_u" : Str) :: ("i64.rotl" : Str) :: ("i64.rotr" : Str) :: ("i32.wrap_i64" : Str) :: ("i64.extend_i32_s" : Str) :: ("i64.extend_i32_u" : Str) :: ("i32.extend8_s" : Str) :: ("i32.extend16_s" : Str) :: ("i64.extend8_s" : Str) :: ("i64.extend16_s" : Str) :: ("i64.extend32_s" : Str) :: []
def kk_WIDTHS : List Str := ["i32", "i64"]
structure Tx (w : World) (K : PySem.W.Frag) (mg : Str → Option Value) (ad : Nat → Addr) : Prop where
  b_bool : mg "bool" = none
  b_int : mg "int" = none
  b_isinstance : mg "isinstance" = none
  b_len : mg "len" = none
  b_max : mg "max" = none
  b_min : mg "min" = none
  b_range : mg "range" = none
  b_str : mg "str" = none
  b_sum : mg "sum" = none
  b_zip : mg "zip" = none
  g_ARITHMETIC : ∃ a, mg "ARITHMETIC" = some (.ref a) ∧ SD K w a [("add", .ref (ad 5)), ("sub", .ref (ad 6)), ("mul", .ref (ad 7)), ("div_s", .ref (ad 9)), ("div_u", .ref (ad 10)), ("rem_s", .ref (ad 11)), ("rem_u", .ref (ad 12)), ("and", .ref (ad 13)), ("or", .ref (ad 14)), ("xor", .ref (ad 15)), ("shl", .ref (ad 17)), ("shr_s", .ref (ad 18)), ("shr_u", .ref (ad 19)), ("rotl", .ref (ad 20)), ("rotr", .ref (ad 21))]
  g_COMPARISONS : ∃ a, mg "COMPARISONS" = some (.ref a) ∧ SD K w a [("eq", .ref (ad 22)), ("ne", .ref (ad 23)), ("lt_s", .ref (ad 24)), ("lt_u", .ref (ad 28)), ("gt_s", .ref (ad 25)), ("gt_u", .ref (ad 29)), ("le_s", .ref (ad 26)), ("le_u", .ref (ad 30)), ("ge_s", .ref (ad 27)), ("ge_u", .ref (ad 31))]
  g_CONVERSIONS : ∃ a, mg "CONVERSIONS" = some (.ref a) ∧ SD K w a [("i32.wrap_i64", .ref (ad 38)), ("i64.extend_i32_s", .ref (ad 38)), ("i64.extend_i32_u", .ref (ad 39))]
  g_COUNTS : ∃ a, mg "COUNTS" = some (.ref a) ∧ SD K w a [("clz", .ref (ad 33)), ("ctz", .ref (ad 34)), ("popcnt", .ref (ad 35)), ("extend8_s", .ref (ad 36)), ("extend16_s", .ref (ad 37))]
  g_INSTRUCTIONS : ∃ a, mg "INSTRUCTIONS" = some (.ref a) ∧ ∀ H, SqT K H a (kc_INSTRUCTIONS.map V.str)
  g_WIDTHS : ∃ a, mg "WIDTHS" = some (.ref a) ∧ SD K w a [("i32", .int (32)), ("i64", .int (64))]

section
variable {P : Program} {w : World} {K : PySem.W.Frag} {mg : Str → Option Value} {base : Heap} {ad : Nat → Addr}
/-! width -/
def m_width (kind : Str) : Int := if kind = "i32" then 32 else 64
theorem wd_cases {kind : Str} (h : kind = "i32" ∨ kind = "i64") : (m_width kind = 32 ∨ m_width kind = 64) := by
  rcases h with rfl | rfl
  · exact Or.inl (if_pos rfl)
  · exact Or.inr (if_neg (by decide +kernel))
theorem sc_width : FnScope ["kind"] ["kind"] (defScope s_width) := ⟨rfl, rfl, rfl, by decide +kernel, rfl, by decide +kernel, by decide +kernel⟩
def sp_width (K : PySem.W.Frag) : Sp := fun vs H Q _ => ∃ (kind : Str), vs = [.str kind] ∧ ((kind = "i32" ∨ kind = "i64")) ∧ ∀ H1, Ex H H1 → Q (.int (m_width kind)) H1
theorem sv_width {K : PySem.W.Frag} {H : Hp} {kind : Str} (h : ((kind = "i32" ∨ kind = "i64"))) : SpV (sp_width K) [.str kind] H (.int (m_width kind)) := fun H1 e Q q _ => ⟨kind, rfl, h, q⟩
theorem ok_width {f : Addr} {fd : FuncData} (F : Fun K "width" "width" s_width f fd) (T : Tx w K mg ad)  : FnOk P w K mg base CX0 1 f fd ["kind"] (sp_width K) := by
  refine F.ok sc_width (fun vs H Q E h => ?_) (fun cdv A outer s G vs Q E hr h => ?_)
  · obtain ⟨kind, rfl, _⟩ := h
    rfl
  · obtain ⟨kind, rfl, h, q⟩ := h
    obtain ⟨a_WIDTHS, g_WIDTHS, k_WIDTHS⟩ := T.g_WIDTHS
    refine ⟨_, (pss_cons (ps_ret (pe_ix (r := rIxD K w) ix_kdict (pe_glob (v := .ref _) rfl g_WIDTHS rfl) (pv 0) (fun _ _ => rfl))) pss_nil), ?_⟩
    have e := Ex.refl G
    rcases h with rfl | rfl
    · exact r_ret e (ev_op ev_c (ev_var rfl) (rv_kd (k_WIDTHS.some rfl))) fun H e => q H e
    · exact r_ret e (ev_op ev_c (ev_var rfl) (rv_kd (k_WIDTHS.some rfl))) fun H e => q H e

/-! unsigned -/
def m_unsigned (kind : Str) (number : Int) : Int :=
  (Builtin.bitAnd number ((1 * 2 ^ ((m_width kind) : Int).toNat) - 1))
theorem sc_unsigned : FnScope ["kind", "number"] ["kind", "number"] (defScope s_unsigned) := ⟨rfl, rfl, rfl, by decide +kernel, rfl, by decide +kernel, by decide +kernel⟩
def sp_unsigned (K : PySem.W.Frag) : Sp := fun vs H Q _ => ∃ (kind : Str) (number : Int), vs = [.str kind, .int number] ∧ ((kind = "i32" ∨ kind = "i64")) ∧ ∀ H1, Ex H H1 → Q (.int (m_unsigned kind number)) H1
theorem sv_unsigned {K : PySem.W.Frag} {H : Hp} {kind : Str} {number : Int} (h : ((kind = "i32" ∨ kind = "i64"))) : SpV (sp_unsigned K) [.str kind, .int number] H (.int (m_unsigned kind number)) := fun H1 e Q q _ => ⟨kind, number, rfl, h, q⟩
theorem ok_unsigned {f : Addr} {fd : FuncData} {d_width : FuncData} (F : Fun K "unsigned" "unsigned" s_unsigned f fd) (T : Tx w K mg ad) (O_width : Df P w K mg base 1 "width" (ad 0) d_width ["kind"] (sp_width K)) : FnOk P w K mg base CX0 2 f fd ["kind", "number"] (sp_unsigned K) := by
  refine F.ok sc_unsigned (fun vs H Q E h => ?_) (fun cdv A outer s G vs Q E hr h => ?_)
  · obtain ⟨kind, number, rfl, _⟩ := h
    rfl
  · obtain ⟨kind, number, rfl, h, q⟩ := h
    refine ⟨_, (pss_cons (ps_ret (pe_op op_and (pv 1) (pe_op op_sub (pe_op op_shl pe_int (cl O_width (hr.mono (by decide)) rfl (pa_cons (pv 0) pa_nil))) pe_int))) pss_nil), ?_⟩
    have e := Ex.refl G
    have hw := wd_cases h
    -- return number & (1 << width(kind)) - 1
    refine r_retI e (ev_op (ev_var rfl) (ev_op (ev_op ev_c (ev_call (ea_cons (ev_var rfl) ea_nil) (sv_width (by walk_at "sd"))) (rv_I (by walk_at "sd"))) ev_c rv_I0) rv_I0) (by show _ = m_unsigned _ _; unfold m_unsigned; (first | rfl | (split <;> rfl) | (split <;> simp_all))) q

/-! extend -/
def m_extend (number : Int) (bits : Int) : Int :=
  if ((1 * 2 ^ ((bits - 1) : Int).toNat) ≤ (Builtin.bitAnd number ((1 * 2 ^ (bits : Int).toNat) - 1))) then
    ((Builtin.bitAnd number ((1 * 2 ^ (bits : Int).toNat) - 1)) - (1 * 2 ^ (bits : Int).toNat))
  else
    (Builtin.bitAnd number ((1 * 2 ^ (bits : Int).toNat) - 1))
theorem sc_extend : FnScope ["number", "bits", "low"] ["number", "bits"] (defScope s_extend) := ⟨rfl, rfl, rfl, by decide +kernel, rfl, by decide +kernel, by decide +kernel⟩
def sp_extend (K : PySem.W.Frag) : Sp := fun vs H Q _ => ∃ (number : Int) (bits : Int), vs = [.int number, .int bits] ∧ ((1 ≤ bits ∧ bits ≤ 64)) ∧ ∀ H1, Ex H H1 → Q (.int (m_extend number bits)) H1
theorem sv_extend {K : PySem.W.Frag} {H : Hp} {number : Int} {bits : Int} (h : ((1 ≤ bits ∧ bits ≤ 64))) : SpV (sp_extend K) [.int number, .int bits] H (.int (m_extend number bits)) := fun H1 e Q q _ => ⟨number, bits, rfl, h, q⟩
theorem ok_extend {f : Addr} {fd : FuncData} (F : Fun K "extend" "extend" s_extend f fd) (T : Tx w K mg ad)  : FnOk P w K mg base CX0 1 f fd ["number", "bits"] (sp_extend K) := by
  refine F.ok sc_extend (fun vs H Q E h => ?_) (fun cdv A outer s G vs Q E hr h => ?_)
  · obtain ⟨number, bits, rfl, _⟩ := h
    rfl
  · obtain ⟨number, bits, rfl, h, q⟩ := h
    refine ⟨_, (pss_cons (ps_set (i := 2) sc_extend.nd rfl (Or.inl rfl) (pe_op op_and (pv 0) (pe_op op_sub (pe_op op_shl pe_int (pv 1)) pe_int))) (pss_cons (ps_if (pt_cmpR op_ge (pv 2) (pe_op op_shl pe_int (pe_op op_sub (pv 1) pe_int)) (nomark _)) (pss_cons (ps_ret (pe_op op_sub (pv 2) (pe_op op_shl pe_int (pv 1)))) pss_nil) pss_nil) (pss_cons (ps_ret (pv 2)) pss_nil))), ?_⟩
    have e := Ex.refl G
    -- low = number & (1 << bits) - 1
    refine r_asg e (ev_op (ev_var rfl) (ev_op (ev_op ev_c (ev_var rfl) (rv_I (by walk_at "sd"))) ev_c rv_I0) rv_I0) fun H e e1 => ?_
    -- if low >= 1 << bits - 1
    refine r_when e (ep_dec (ev_op (ev_var rfl) (ev_op ev_c (ev_op (ev_var rfl) ev_c rv_I0) (rv_I (by walk_at "sd"))) rv_I0)) (fun hb1 H e e1 => ?_) (fun hb1 H e e1 => ?_)
    · -- return low - (1 << bits)
      refine r_retI e (ev_op (ev_var rfl) (ev_op ev_c (ev_var rfl) (rv_I (by walk_at "sd"))) rv_I0) (by show _ = m_extend _ _; unfold m_extend; rw [if_pos hb1] <;> (first | rfl | (split <;> rfl) | (split <;> simp_all))) q
    -- return low
    refine r_retI e (ev_var rfl) (by show _ = m_extend _ _; unfold m_extend; rw [if_neg hb1] <;> (first | rfl | (split <;> rfl) | (split <;> simp_all))) q

/-! signed -/
def m_signed (kind : Str) (number : Int) : Int :=
  (m_extend number (m_width kind))
theorem sc_signed : FnScope ["kind", "number"] ["kind", "number"] (defScope s_signed) := ⟨rfl, rfl, rfl, by decide +kernel, rfl, by decide +kernel, by decide +kernel⟩
def sp_signed (K : PySem.W.Frag) : Sp := fun vs H Q _ => ∃ (kind : Str) (number : Int), vs = [.str kind, .int number] ∧ ((kind = "i32" ∨ kind = "i64")) ∧ ∀ H1, Ex H H1 → Q (.int (m_signed kind number)) H1
theorem sv_signed {K : PySem.W.Frag} {H : Hp} {kind : Str} {number : Int} (h : ((kind = "i32" ∨ kind = "i64"))) : SpV (sp_signed K) [.str kind, .int number] H (.int (m_signed kind number)) := fun H1 e Q q _ => ⟨kind, number, rfl, h, q⟩
theorem ok_signed {f : Addr} {fd : FuncData} {d_width : FuncData} {d_extend : FuncData} (F : Fun K "signed" "signed" s_signed f fd) (T : Tx w K mg ad) (O_width : Df P w K mg base 1 "width" (ad 0) d_width ["kind"] (sp_width K)) (O_extend : Df P w K mg base 1 "extend" (ad 2) d_extend ["number", "bits"] (sp_extend K)) : FnOk P w K mg base CX0 2 f fd ["kind", "number"] (sp_signed K) := by
  refine F.ok sc_signed (fun vs H Q E h => ?_) (fun cdv A outer s G vs Q E hr h => ?_)
  · obtain ⟨kind, number, rfl, _⟩ := h
    rfl
  · obtain ⟨kind, number, rfl, h, q⟩ := h
    refine ⟨_, (pss_cons (ps_ret (cl O_extend (hr.mono (by decide)) rfl (pa_cons (pv 1) (pa_cons (cl O_width (hr.mono (by decide)) rfl (pa_cons (pv 0) pa_nil)) pa_nil)))) pss_nil), ?_⟩
    have e := Ex.refl G
    have hw := wd_cases h
    have hw1 : 1 ≤ m_width kind ∧ m_width kind ≤ 64 := by omega
    -- return extend(number, width(kind))
    refine r_retI e (ev_call (ea_cons (ev_var rfl) (ea_cons (ev_call (ea_cons (ev_var rfl) ea_nil) (sv_width (by walk_at "sd"))) ea_nil)) (sv_extend (by walk_at "sd"))) (by show _ = m_signed _ _; unfold m_signed; (first | rfl | (split <;> rfl) | (split <;> simp_all))) q

/-! in_range -/
def m_in_range (kind : Str) (number : Int) : Bool :=
  (decide ((m_signed kind number) = number))
theorem sc_in_range : FnScope ["kind", "number"] ["kind", "number"] (defScope s_in_range) := ⟨rfl, rfl, rfl, by decide +kernel, rfl, by decide +kernel, by decide +kernel⟩
def sp_in_range (K : PySem.W.Frag) : Sp := fun vs H Q _ => ∃ (kind : Str) (number : Int), vs = [.str kind, .int number] ∧ ((kind = "i32" ∨ kind = "i64")) ∧ ∀ H1, Ex H H1 → Q (.bl (m_in_range kind number)) H1
theorem sv_in_range {K : PySem.W.Frag} {H : Hp} {kind : Str} {number : Int} (h : ((kind = "i32" ∨ kind = "i64"))) : SpV (sp_in_range K) [.str kind, .int number] H (.bl (m_in_range kind number)) := fun H1 e Q q _ => ⟨kind, number, rfl, h, q⟩
theorem ok_in_range {f : Addr} {fd : FuncData} {d_signed : FuncData} (F : Fun K "in_range" "in_range" s_in_range f fd) (T : Tx w K mg ad) (O_signed : Df P w K mg base 2 "signed" (ad 3) d_signed ["kind", "number"] (sp_signed K)) : FnOk P w K mg base CX0 3 f fd ["kind", "number"] (sp_in_range K) := by
  refine F.ok sc_in_range (fun vs H Q E h => ?_) (fun cdv A outer s G vs Q E hr h => ?_)
  · obtain ⟨kind, number, rfl, _⟩ := h
    rfl
  · obtain ⟨kind, number, rfl, h, q⟩ := h
    refine ⟨_, (pss_cons (ps_ret (pe_cmpR op_eq (cl O_signed (hr.mono (by decide)) rfl (pa_cons (pv 0) (pa_cons (pv 1) pa_nil))) (pv 1) (nomark _))) pss_nil), ?_⟩
    have e := Ex.refl G
    -- return signed(kind, number) == number
    refine r_retB e (ev_op (ev_call (ea_cons (ev_var rfl) (ea_cons (ev_var rfl) ea_nil)) (sv_signed (by walk_at "sd"))) (ev_var rfl) rv_eqI) (by show _ = m_in_range _ _; unfold m_in_range; (first | rfl | (split <;> rfl) | (split <;> simp_all))) q

/-! clz -/
theorem two_pw {b : Int} (hb : 1 ≤ b) : (2 : Int) ^ b.toNat = 2 * 2 ^ (b - 1).toNat := by
  have e : b.toNat = (b - 1).toNat + 1 := by omega
  rw [e, Int.pow_succ]
  omega
theorem cong_mod (n : Int) (b : Nat) : ∃ q, n % 2 ^ b - n = 2 ^ b * q := by
  refine ⟨-(n / 2 ^ b), ?_⟩
  have h := Int.mul_ediv_add_emod n (2 ^ b)
  rw [Int.mul_neg]
  omega
theorem low_eq (n b : Int) : Builtin.bitAnd n (1 * 2 ^ b.toNat - 1) = n % 2 ^ b.toNat := by rw [Int.one_mul, PySem.W.kbt_mask]
theorem wd_bits {k : Str} {b : Int} (h : (k = "i32" ∧ b = 32) ∨ (k = "i64" ∧ b = 64)) : m_width k = b := by
  rcases h with ⟨rfl, rfl⟩ | ⟨rfl, rfl⟩
  · rfl
  · rfl
theorem un_eq {k : Str} {b : Int} (h : (k = "i32" ∧ b = 32) ∨ (k = "i64" ∧ b = 64)) (m : Int) : m_unsigned k m = m % 2 ^ b.toNat := by
  unfold m_unsigned
  rw [wd_bits h, low_eq]
/-- the value with these lowest bits -/
def sg (n b : Int) : Int := if 2 ^ (b - 1).toNat ≤ n % 2 ^ b.toNat then n % 2 ^ b.toNat - 2 ^ b.toNat else n % 2 ^ b.toNat
theorem ext_sg (n b : Int) : m_extend n b = sg n b := by
  unfold m_extend sg
  rw [low_eq, Int.one_mul, Int.one_mul]
theorem si_eq {k : Str} {b : Int} (h : (k = "i32" ∧ b = 32) ∨ (k = "i64" ∧ b = 64)) (m : Int) : m_signed k m = sg m b := by
  unfold m_signed
  rw [wd_bits h, ext_sg]
theorem sg_range (n : Int) {b : Int} (hb : 1 ≤ b) : -(2 ^ (b - 1).toNat) ≤ sg n b ∧ sg n b < 2 ^ (b - 1).toNat := by
  have h2 := two_pw hb
  have hp : (0 : Int) < 2 ^ (b - 1).toNat := Int.pow_pos (by decide)
  have h0 := Int.emod_nonneg n (show (2 : Int) ^ b.toNat ≠ 0 by omega)
  have h1 := Int.emod_lt_of_pos n (show (0 : Int) < 2 ^ b.toNat by omega)
  unfold sg
  split <;> omega
theorem sg_id {n b : Int} (hb : 1 ≤ b) (h : -(2 ^ (b - 1).toNat) ≤ n ∧ n < 2 ^ (b - 1).toNat) : sg n b = n := by
  have h2 := two_pw hb
  unfold sg
  by_cases h0 : 0 ≤ n
  · have e : n % 2 ^ b.toNat = n := Int.emod_eq_of_lt h0 (by omega)
    rw [e, if_neg (by omega)]
  · have e : n % 2 ^ b.toNat = n + 2 ^ b.toNat := by
      rw [← Int.add_emod_right]
      exact Int.emod_eq_of_lt (by omega) (by omega)
    rw [e, if_pos (by omega)]
    omega
/-- a value of the kind -/
def InK (k : Str) (n : Int) : Prop := m_in_range k n = true
theorem inK_of {k : Str} {b : Int} (h : (k = "i32" ∧ b = 32) ∨ (k = "i64" ∧ b = 64)) {n : Int} (hn : -(2 ^ (b - 1).toNat) ≤ n ∧ n < 2 ^ (b - 1).toNat) : InK k n := by
  have hb : 1 ≤ b := by rcases h with ⟨_, rfl⟩ | ⟨_, rfl⟩ <;> decide
  unfold InK m_in_range
  rw [si_eq h, sg_id hb hn]
  exact decide_eq_true rfl
theorem inK_sg {k : Str} {b : Int} (h : (k = "i32" ∧ b = 32) ∨ (k = "i64" ∧ b = 64)) (n : Int) : InK k (sg n b) :=
  inK_of h (sg_range n (by rcases h with ⟨_, rfl⟩ | ⟨_, rfl⟩ <;> decide))

theorem two_ne (j : Nat) : (2 : Int) ^ j ≠ 0 := Int.ne_of_gt (Int.pow_pos (by decide))
/-- the lowest w bits, the lowest first -/
def brow (a : Int) (w : Nat) : List Int := (List.range w).map fun j => a / 2 ^ j % 2
theorem brow_len (a : Int) (w : Nat) : (brow a w).length = w := by
  unfold brow
  rw [List.length_map, List.length_range]
theorem brow_get {a : Int} {w j : Nat} (h : j < w) : (brow a w)[j]? = some (a / 2 ^ j % 2) := by
  unfold brow
  rw [List.getElem?_map, List.getElem?_range h]
  rfl
theorem low_bit (a : Int) {w j : Nat} (h : j < w) : a % 2 ^ w / 2 ^ j % 2 = a / 2 ^ j % 2 := by
  obtain ⟨d, rfl⟩ : ∃ d, w = j + (d + 1) := ⟨w - j - 1, by omega⟩
  have e1 : (2 : Int) ^ (j + (d + 1)) = 2 ^ j * (2 * 2 ^ d) := by rw [Int.pow_add, Int.pow_succ, Int.mul_comm (2 ^ d) 2]
  have h0 := Int.mul_ediv_add_emod a (2 ^ (j + (d + 1)))
  generalize a % 2 ^ (j + (d + 1)) = r at *
  generalize a / 2 ^ (j + (d + 1)) = q at *
  have e2 : a = r + 2 ^ j * (2 * (2 ^ d * q)) := by
    rw [← h0, e1, Int.mul_assoc, Int.mul_assoc]
    omega
  rw [e2, Int.add_mul_ediv_left _ _ (two_ne j)]
  omega
theorem brow_low (a : Int) (w : Nat) : brow (a % 2 ^ w) w = brow a w := by
  unfold brow
  apply List.map_congr_left
  intro j hj
  exact low_bit a (List.mem_range.mp hj)
/-- how many before the first one -/
def fz : List Int → Nat
  | [] => 0
  | x :: r => if x = 1 then 0 else fz r + 1
theorem fz_le : ∀ xs, fz xs ≤ xs.length
  | [] => Nat.le_refl 0
  | x :: r => by
    have ih := fz_le r
    unfold fz
    show _ ≤ r.length + 1
    split <;> omega
theorem fz_at : ∀ (xs : List Int) (c : Nat), c ≤ xs.length → (∀ j, j < c → ¬ xs[j]? = some 1) → (c = xs.length ∨ xs[c]? = some 1) → fz xs = c
  | [], c, h, _, _ => by
    have : c = 0 := Nat.le_zero.mp h
    subst this
    rfl
  | x :: r, 0, _, _, h2 => by
    unfold fz
    rcases h2 with h2 | h2
    · cases h2
    · have : x = 1 := Option.some.inj h2
      rw [if_pos this]
  | x :: r, c + 1, h, h1, h2 => by
    unfold fz
    have : ¬ x = 1 := fun z => h1 0 (Nat.zero_lt_succ c) (congrArg some z)
    rw [if_neg this, fz_at r c (Nat.le_of_succ_le_succ h) (fun j hj => h1 (j + 1) (Nat.succ_lt_succ hj)) (h2.imp (fun z => Nat.succ.inj z) id)]
/-- the size in bits -/
def nb (n : Nat) : Nat := if h : n = 0 then 0 else nb (n / 2) + 1
theorem nb_0 : nb 0 = 0 := by rw [nb]; rfl
theorem nb_s {n : Nat} (h : 0 < n) : nb n = nb (n / 2) + 1 := by rw [nb, dif_neg (by omega)]
theorem nb_le : ∀ (w n : Nat), n < 2 ^ w → nb n ≤ w
  | 0, n, h => by
    have : n = 0 := by omega
    subst this
    exact Nat.le_of_eq nb_0
  | w + 1, n, h => by
    by_cases g : n = 0
    · subst g
      rw [nb_0]
      exact Nat.zero_le _
    · rw [nb_s (by omega)]
      have := nb_le w (n / 2) (by omega)
      omega
theorem nb_ge : ∀ (w n : Nat), 2 ^ w ≤ n → w + 1 ≤ nb n
  | 0, n, h => by
    rw [nb_s (by omega)]
    omega
  | w + 1, n, h => by
    have p : 0 < 2 ^ w := Nat.pow_pos (by decide)
    rw [nb_s (by omega)]
    have := nb_ge w (n / 2) (by omega)
    omega
theorem brow_succ (a : Int) (w : Nat) : brow a (w + 1) = brow a w ++ [a / 2 ^ w % 2] := by
  unfold brow
  rw [List.range_succ, List.map_append]
  rfl
theorem fz_rev : ∀ (w n : Nat), n < 2 ^ w → fz (brow (n : Int) w).reverse + nb n = w
  | 0, n, h => by
    have : n = 0 := by omega
    subst this
    rw [nb_0]
    rfl
  | w + 1, n, h => by
    rw [brow_succ, List.reverse_append, List.reverse_singleton, List.singleton_append]
    unfold fz
    have e : ((n : Int) / 2 ^ w % 2) = ((n / 2 ^ w % 2 : Nat) : Int) := by
      rw [Int.natCast_emod, Int.natCast_ediv, PySem.W.kbt_cast]
      rfl
    have p : 0 < 2 ^ w := Nat.pow_pos (by decide)
    rw [e]
    by_cases g : 2 ^ w ≤ n
    · have : n / 2 ^ w = 1 := by
        apply Nat.div_eq_of_lt_le <;> omega
      rw [this, show ((1 % 2 : Nat) : Int) = 1 from rfl, if_pos rfl]
      have h1 := nb_ge w n g
      have h2 := nb_le (w + 1) n h
      omega
    · have : n / 2 ^ w = 0 := Nat.div_eq_of_lt (by omega)
      rw [this, show ((0 % 2 : Nat) : Int) = 0 from rfl, if_neg (by decide : ¬ (0 : Int) = 1)]
      have := fz_rev w n (by omega)
      omega
theorem un_low {k : Str} (hk : k = "i32" ∨ k = "i64") (a : Int) : m_unsigned k a = a % 2 ^ (m_width k).toNat := low_eq a _
theorem sum_filter : ∀ (xs : List Int), (∀ x ∈ xs, x = 0 ∨ x = 1) → xs.sum = ((xs.filter fun x => decide (x = 1)).length : Int)
  | [], _ => rfl
  | x :: r, h => by
    rw [List.sum_cons, sum_filter r fun y hy => h y (List.Mem.tail _ hy), List.filter_cons]
    rcases h x (List.Mem.head _) with rfl | rfl
    · rw [if_neg (by decide)]
      omega
    · rw [if_pos (by decide), List.length_cons]
      omega
theorem brow_01 (a : Int) (w : Nat) : ∀ x ∈ brow a w, x = 0 ∨ x = 1 := by
  intro x hx
  unfold brow at hx
  obtain ⟨j, _, rfl⟩ := List.mem_map.mp hx
  omega
def m_clz (kind : Str) (a : Int) : Int := (fz (brow a (m_width kind).toNat).reverse : Int)
theorem sc_clz : FnScope ["kind", "a", "bits", "count"] ["kind", "a"] (defScope s_clz) := ⟨rfl, rfl, rfl, by decide +kernel, rfl, by decide +kernel, by decide +kernel⟩
def sp_clz (K : PySem.W.Frag) : Sp := fun vs H Q _ => ∃ (kind : Str) (a : Int), vs = [.str kind, .int a] ∧ ((kind = "i32" ∨ kind = "i64")) ∧ ∀ H1, Ex H H1 → Q (.int (m_clz kind a)) H1
theorem sv_clz {K : PySem.W.Frag} {H : Hp} {kind : Str} {a : Int} (h : ((kind = "i32" ∨ kind = "i64"))) : SpV (sp_clz K) [.str kind, .int a] H (.int (m_clz kind a)) := fun H1 e Q q _ => ⟨kind, a, rfl, h, q⟩
theorem ok_clz {f : Addr} {fd : FuncData} {d_width : FuncData} {d_unsigned : FuncData} (F : Fun K "clz" "clz" s_clz f fd) (T : Tx w K mg ad) (O_width : Df P w K mg base 1 "width" (ad 0) d_width ["kind"] (sp_width K)) (O_unsigned : Df P w K mg base 2 "unsigned" (ad 1) d_unsigned ["kind", "number"] (sp_unsigned K)) : FnOk P w K mg base CX0 3 f fd ["kind", "a"] (sp_clz K) := by
  refine F.ok sc_clz (fun vs H Q E h => ?_) (fun cdv A outer s G vs Q E hr h => ?_)
  · obtain ⟨kind, a, rfl, _⟩ := h
    rfl
  · obtain ⟨kind, a, rfl, h, q⟩ := h
    refine ⟨_, (pss_cons (ps_set (i := 2) sc_clz.nd rfl (Or.inl rfl) (cl O_unsigned (hr.mono (by decide)) rfl (pa_cons (pv 0) (pa_cons (pv 1) pa_nil)))) (pss_cons (ps_set (i := 3) sc_clz.nd rfl (Or.inl rfl) (cl O_width (hr.mono (by decide)) rfl (pa_cons (pv 0) pa_nil))) (pss_cons (ps_while PassesOwn.never (pt_cmpR op_gt (pv 2) pe_int (nomark _)) (pss_cons (ps_set (i := 2) sc_clz.nd rfl (Or.inl rfl) (pe_op op_shr (pv 2) pe_int)) (pss_cons (ps_aug (i := 3) sc_clz.nd rfl (Or.inl rfl) pe_int ip_sub) pss_nil))) (pss_cons (ps_ret (pv 3)) pss_nil)))), ?_⟩
    have e := Ex.refl G
    have hwd := wd_cases h
    have hlow := un_low h a
    obtain ⟨u, hu⟩ : ∃ u : Nat, m_unsigned kind a = u := Int.eq_ofNat_of_zero_le (by rw [hlow]; exact Int.emod_nonneg _ (two_ne _))
    have hlt : u < 2 ^ (m_width kind).toNat := by
      have := Int.emod_lt_of_pos a (show (0 : Int) < 2 ^ (m_width kind).toNat from Int.pow_pos (by decide))
      rw [← hlow, hu, ← PySem.W.kbt_cast] at this
      omega
    have hfz := fz_rev _ _ hlt
    have hbr : brow (u : Int) (m_width kind).toNat = brow a (m_width kind).toNat := by rw [← hu, hlow, brow_low]
    rw [hbr] at hfz
    refine r_asg e (ev_is (ev_call (ea_cons (ev_var rfl) (ea_cons (ev_var rfl) ea_nil)) (sv_unsigned h)) (congrArg V.int hu)) fun H e e1 => ?_
    refine r_asg e (ev_call (ea_cons (ev_var rfl) ea_nil) (sv_width h)) fun H e e1 => ?_
    refine r_whileH e (fun m σ H => σ = [some (.str kind), some (.int a), some (.int (m : Int)), some (.int (m_width kind - (nb u : Int) + (nb m : Int)))] ∧ Ex G H) u (fun _ _ _ h => h.2) ⟨by rw [show m_width kind - (nb u : Int) + (nb u : Int) = m_width kind by omega]; rfl, e⟩ (fun m σ H hI => ?_)
    obtain ⟨rfl, e⟩ := hI
    refine ⟨_, ep_dec (ev_op (ev_var rfl) ev_c rv_I0), (fun hb H e e1 => ?_), fun hb H e e1 => ?_⟩
    · refine r_asg e (ev_op (ev_var rfl) ev_c (rv_I (by decide))) fun H e e1 => ?_
      refine r_aug e rfl ev_c fun H e e1 => ?_
      refine ⟨m / 2, by omega, ?_, e⟩
      have e3 : (m : Int) / 2 ^ (1 : Int).toNat = ((m / 2 : Nat) : Int) := by
        rw [Int.natCast_ediv]
        rfl
      have e4 : m_width kind - (nb u : Int) + (nb m : Int) - 1 = m_width kind - (nb u : Int) + (nb (m / 2) : Int) := by
        rw [nb_s (show 0 < m by omega)]
        omega
      rw [← e3, ← e4]
      rfl
    have hm : m = 0 := by omega
    subst hm
    refine r_ret e (ev_var rfl) fun H e => ?_
    have e5 : m_width kind - (nb u : Int) + (nb 0 : Int) = m_clz kind a := by
      unfold m_clz
      rw [nb_0]
      omega
    rw [e5]
    exact q _ e

/-! ctz -/
def m_ctz (kind : Str) (a : Int) : Int := (fz (brow a (m_width kind).toNat) : Int)
theorem sc_ctz : FnScope ["kind", "a", "count"] ["kind", "a"] (defScope s_ctz) := ⟨rfl, rfl, rfl, by decide +kernel, rfl, by decide +kernel, by decide +kernel⟩
def sp_ctz (K : PySem.W.Frag) : Sp := fun vs H Q _ => ∃ (kind : Str) (a : Int), vs = [.str kind, .int a] ∧ ((kind = "i32" ∨ kind = "i64")) ∧ ∀ H1, Ex H H1 → Q (.int (m_ctz kind a)) H1
theorem sv_ctz {K : PySem.W.Frag} {H : Hp} {kind : Str} {a : Int} (h : ((kind = "i32" ∨ kind = "i64"))) : SpV (sp_ctz K) [.str kind, .int a] H (.int (m_ctz kind a)) := fun H1 e Q q _ => ⟨kind, a, rfl, h, q⟩
theorem ok_ctz {f : Addr} {fd : FuncData} {d_width : FuncData} (F : Fun K "ctz" "ctz" s_ctz f fd) (T : Tx w K mg ad) (O_width : Df P w K mg base 1 "width" (ad 0) d_width ["kind"] (sp_width K)) : FnOk P w K mg base CX0 2 f fd ["kind", "a"] (sp_ctz K) := by
  refine F.ok sc_ctz (fun vs H Q E h => ?_) (fun cdv A outer s G vs Q E hr h => ?_)
  · obtain ⟨kind, a, rfl, _⟩ := h
    rfl
  · obtain ⟨kind, a, rfl, h, q⟩ := h
    refine ⟨_, (pss_cons (ps_set (i := 2) sc_ctz.nd rfl (Or.inl rfl) pe_int) (pss_cons (ps_while PassesOwn.never (PW.pt (pw_and (pt_cmpR op_lt (pv 2) (cl O_width (hr.mono (by decide)) rfl (pa_cons (pv 0) pa_nil)) (nomark _)) (pw_and1 (pt_cmpR op_eq (pe_op op_and (pe_op op_shr (pv 1) (pv 2)) pe_int) pe_int (nomark _))))) (pss_cons (ps_aug (i := 2) sc_ctz.nd rfl (Or.inl rfl) pe_int ip_add) pss_nil)) (pss_cons (ps_ret (pv 2)) pss_nil))), ?_⟩
    have e := Ex.refl G
    have hwd := wd_cases h
    refine r_asg e ev_c fun H e e1 => ?_
    refine r_whileH e (fun m σ H => ∃ c : Nat, σ = [some (.str kind), some (.int a), some (.int (c : Int))] ∧ Ex G H ∧ m = (m_width kind).toNat - c ∧ c ≤ (m_width kind).toNat ∧ ∀ j, j < c → ¬ a / 2 ^ j % 2 = 1) _ (fun _ _ _ h => by obtain ⟨_, _, e, _⟩ := h; exact e) ⟨0, rfl, e, rfl, Nat.zero_le _, fun j h => absurd h (Nat.not_lt_zero _)⟩ (fun m σ H hI => ?_)
    obtain ⟨c, rfl, e, hm, hc, hz⟩ := hI
    refine ⟨_, ep_and (ep_dec (ev_op (ev_var rfl) (ev_call (ea_cons (ev_var rfl) ea_nil) (sv_width h)) rv_I0)) (fun hb => ep_dec (ev_op (ev_op (ev_op (ev_var rfl) (ev_var rfl) (rv_I (by omega))) ev_c rv_I0) ev_c rv_eqI)), (fun hb H e e1 => ?_), fun hb H e e1 => ?_⟩
    · refine r_aug e rfl ev_c fun H e e1 => ?_
      obtain ⟨h1, h2⟩ := hb
      refine ⟨_, by omega, c + 1, rfl, e, rfl, by omega, fun j hj => ?_⟩
      by_cases g : j = c
      · subst g
        have h3 : Builtin.bitAnd (a / 2 ^ (j : Int).toNat) (2 ^ 1 - 1) = 0 := h2
        rw [PySem.W.kbt_mask, Int.toNat_natCast] at h3
        omega
      · exact hz j (by omega)
    refine r_ret e (ev_var rfl) fun H e => ?_
    have e5 : (c : Int) = m_ctz kind a := by
      unfold m_ctz
      rw [fz_at (brow a (m_width kind).toNat) c (by rw [brow_len]; exact hc) (fun j hj => by rw [brow_get (by omega)]; intro z; exact hz j hj (Option.some.inj z)) ?_]
      rw [brow_len]
      by_cases g : c = (m_width kind).toNat
      · exact Or.inl g
      · right
        rw [brow_get (by omega)]
        congr 1
        have h3 : ¬ Builtin.bitAnd (a / 2 ^ (c : Int).toNat) (2 ^ 1 - 1) = 0 := fun z => hb ⟨by omega, z⟩
        rw [PySem.W.kbt_mask, Int.toNat_natCast] at h3
        omega
    rw [e5]
    exact q _ e

/-! popcnt -/
def m_popcnt (kind : Str) (a : Int) : Int := (brow a (m_width kind).toNat).sum
theorem sc_popcnt : FnScope ["kind", "a", "k"] ["kind", "a"] (defScope s_popcnt) := ⟨rfl, rfl, rfl, by decide +kernel, rfl, by decide +kernel, by decide +kernel⟩
def sp_popcnt (K : PySem.W.Frag) : Sp := fun vs H Q _ => ∃ (kind : Str) (a : Int), vs = [.str kind, .int a] ∧ ((kind = "i32" ∨ kind = "i64")) ∧ ∀ H1, Ex H H1 → Q (.int (m_popcnt kind a)) H1
theorem sv_popcnt {K : PySem.W.Frag} {H : Hp} {kind : Str} {a : Int} (h : ((kind = "i32" ∨ kind = "i64"))) : SpV (sp_popcnt K) [.str kind, .int a] H (.int (m_popcnt kind a)) := fun H1 e Q q _ => ⟨kind, a, rfl, h, q⟩
theorem ok_popcnt {f : Addr} {fd : FuncData} {d_width : FuncData} (F : Fun K "popcnt" "popcnt" s_popcnt f fd) (T : Tx w K mg ad) (O_width : Df P w K mg base 1 "width" (ad 0) d_width ["kind"] (sp_width K)) : FnOk P w K mg base CX0 2 f fd ["kind", "a"] (sp_popcnt K) := by
  refine F.ok sc_popcnt (fun vs H Q E h => ?_) (fun cdv A outer s G vs Q E hr h => ?_)
  · obtain ⟨kind, a, rfl, _⟩ := h
    rfl
  · obtain ⟨kind, a, rfl, h, q⟩ := h
    refine ⟨_, (pss_cons (ps_ret (pe_callB (cr_sum rfl) (by rfl) T.b_sum (by decide +kernel) (pa_cons (pe_lc (own := [("k", 2)]) (g := gName 2) (tt := tYes) rfl sc_popcnt.nd (pi_range1 (by rfl) T.b_range (pa_cons (cl O_width (hr.mono (by decide)) rfl (pa_cons (pv 0) pa_nil)) pa_nil)) (blkOk_by (N := ["kind", "a", "k"]) (sc := defScope s_popcnt) (by decide +kernel)) (fun _ _ _ _ _ => pg_name (i := 2) sc_popcnt.nd rfl (Or.inl rfl)) (fun _ _ _ _ _ => pts_nil) (fun _ _ _ _ _ => (pe_op op_and (pe_op op_shr (pv 1) (pv 2)) pe_int))) pa_nil))) pss_nil), ?_⟩
    have e := Ex.refl G
    have hwd := wd_cases h
    have hq : m_popcnt kind a = ((List.range (m_width kind).toNat).map fun (i : Nat) => Builtin.bitAnd (a / 2 ^ ((i : Int)).toNat) 1).sum := by
      unfold m_popcnt brow
      congr 1
      apply List.map_congr_left
      intro i hi
      exact (PySem.W.kbt_mask _ 1).symm
    rw [hq] at q
    exact r_ret e (ev_sumR (el_lcR (fun i => .int (Builtin.bitAnd (a / 2 ^ ((i : Int)).toNat) 1)) (ea_cons (ev_call (ea_cons (ev_var rfl) ea_nil) (sv_width h)) ea_nil) (by omega) (fun _ => rfl) (fun i hi => (ev_op (ev_op (ev_var rfl) (ev_var rfl) (rv_I (by omega))) ev_c rv_I0)))) fun H e => q H e

/-! extend8_s -/
def m_extend8_s (kind : Str) (a : Int) : Int :=
  (m_extend a 8)
theorem sc_extend8_s : FnScope ["kind", "a"] ["kind", "a"] (defScope s_extend8_s) := ⟨rfl, rfl, rfl, by decide +kernel, rfl, by decide +kernel, by decide +kernel⟩
def sp_extend8_s (K : PySem.W.Frag) : Sp := fun vs H Q _ => ∃ (kind : Str) (a : Int), vs = [.str kind, .int a] ∧ (True) ∧ ∀ H1, Ex H H1 → Q (.int (m_extend8_s kind a)) H1
theorem sv_extend8_s {K : PySem.W.Frag} {H : Hp} {kind : Str} {a : Int} (h : (True)) : SpV (sp_extend8_s K) [.str kind, .int a] H (.int (m_extend8_s kind a)) := fun H1 e Q q _ => ⟨kind, a, rfl, h, q⟩
theorem ok_extend8_s {f : Addr} {fd : FuncData} {d_extend : FuncData} (F : Fun K "extend8_s" "extend8_s" s_extend8_s f fd) (T : Tx w K mg ad) (O_extend : Df P w K mg base 1 "extend" (ad 2) d_extend ["number", "bits"] (sp_extend K)) : FnOk P w K mg base CX0 2 f fd ["kind", "a"] (sp_extend8_s K) := by
  refine F.ok sc_extend8_s (fun vs H Q E h => ?_) (fun cdv A outer s G vs Q E hr h => ?_)
  · obtain ⟨kind, a, rfl, _⟩ := h
    rfl
  · obtain ⟨kind, a, rfl, h, q⟩ := h
    refine ⟨_, (pss_cons (ps_ret (cl O_extend (hr.mono (by decide)) rfl (pa_cons (pv 1) (pa_cons pe_int pa_nil)))) pss_nil), ?_⟩
    have e := Ex.refl G
    -- return extend(a, 8)
    refine r_retI e (ev_call (ea_cons (ev_var rfl) (ea_cons ev_c ea_nil)) (sv_extend (by walk_at "sd"))) (by show _ = m_extend8_s _ _; unfold m_extend8_s; (first | rfl | (split <;> rfl) | (split <;> simp_all))) q

/-! extend16_s -/
def m_extend16_s (kind : Str) (a : Int) : Int :=
  (m_extend a 16)
theorem sc_extend16_s : FnScope ["kind", "a"] ["kind", "a"] (defScope s_extend16_s) := ⟨rfl, rfl, rfl, by decide +kernel, rfl, by decide +kernel, by decide +kernel⟩
def sp_extend16_s (K : PySem.W.Frag) : Sp := fun vs H Q _ => ∃ (kind : Str) (a : Int), vs = [.str kind, .int a] ∧ (True) ∧ ∀ H1, Ex H H1 → Q (.int (m_extend16_s kind a)) H1
theorem sv_extend16_s {K : PySem.W.Frag} {H : Hp} {kind : Str} {a : Int} (h : (True)) : SpV (sp_extend16_s K) [.str kind, .int a] H (.int (m_extend16_s kind a)) := fun H1 e Q q _ => ⟨kind, a, rfl, h, q⟩
theorem ok_extend16_s {f : Addr} {fd : FuncData} {d_extend : FuncData} (F : Fun K "extend16_s" "extend16_s" s_extend16_s f fd) (T : Tx w K mg ad) (O_extend : Df P w K mg base 1 "extend" (ad 2) d_extend ["number", "bits"] (sp_extend K)) : FnOk P w K mg base CX0 2 f fd ["kind", "a"] (sp_extend16_s K) := by
  refine F.ok sc_extend16_s (fun vs H Q E h => ?_) (fun cdv A outer s G vs Q E hr h => ?_)
  · obtain ⟨kind, a, rfl, _⟩ := h
    rfl
  · obtain ⟨kind, a, rfl, h, q⟩ := h
    refine ⟨_, (pss_cons (ps_ret (cl O_extend (hr.mono (by decide)) rfl (pa_cons (pv 1) (pa_cons pe_int pa_nil)))) pss_nil), ?_⟩
    have e := Ex.refl G
    -- return extend(a, 16)
    refine r_retI e (ev_call (ea_cons (ev_var rfl) (ea_cons ev_c ea_nil)) (sv_extend (by walk_at "sd"))) (by show _ = m_extend16_s _ _; unfold m_extend16_s; (first | rfl | (split <;> rfl) | (split <;> simp_all))) q

/-! extend32_s -/
def m_extend32_s (kind : Str) (a : Int) : Int :=
  (m_extend a 32)
theorem sc_extend32_s : FnScope ["kind", "a"] ["kind", "a"] (defScope s_extend32_s) := ⟨rfl, rfl, rfl, by decide +kernel, rfl, by decide +kernel, by decide +kernel⟩
def sp_extend32_s (K : PySem.W.Frag) : Sp := fun vs H Q _ => ∃ (kind : Str) (a : Int), vs = [.str kind, .int a] ∧ (True) ∧ ∀ H1, Ex H H1 → Q (.int (m_extend32_s kind a)) H1
theorem sv_extend32_s {K : PySem.W.Frag} {H : Hp} {kind : Str} {a : Int} (h : (True)) : SpV (sp_extend32_s K) [.str kind, .int a] H (.int (m_extend32_s kind a)) := fun H1 e Q q _ => ⟨kind, a, rfl, h, q⟩
theorem ok_extend32_s {f : Addr} {fd : FuncData} {d_extend : FuncData} (F : Fun K "extend32_s" "extend32_s" s_extend32_s f fd) (T : Tx w K mg ad) (O_extend : Df P w K mg base 1 "extend" (ad 2) d_extend ["number", "bits"] (sp_extend K)) : FnOk P w K mg base CX0 2 f fd ["kind", "a"] (sp_extend32_s K) := by
  refine F.ok sc_extend32_s (fun vs H Q E h => ?_) (fun cdv A outer s G vs Q E hr h => ?_)
  · obtain ⟨kind, a, rfl, _⟩ := h
    rfl
  · obtain ⟨kind, a, rfl, h, q⟩ := h
    refine ⟨_, (pss_cons (ps_ret (cl O_extend (hr.mono (by decide)) rfl (pa_cons (pv 1) (pa_cons pe_int pa_nil)))) pss_nil), ?_⟩
    have e := Ex.refl G
    -- return extend(a, 32)
    refine r_retI e (ev_call (ea_cons (ev_var rfl) (ea_cons ev_c ea_nil)) (sv_extend (by walk_at "sd"))) (by show _ = m_extend32_s _ _; unfold m_extend32_s; (first | rfl | (split <;> rfl) | (split <;> simp_all))) q

/-! extend_u -/
def m_extend_u (kind : Str) (a : Int) : Int :=
  (m_unsigned ("i32" : Str) a)
theorem sc_extend_u : FnScope ["kind", "a"] ["kind", "a"] (defScope s_extend_u) := ⟨rfl, rfl, rfl, by decide +kernel, rfl, by decide +kernel, by decide +kernel⟩
def sp_extend_u (K : PySem.W.Frag) : Sp := fun vs H Q _ => ∃ (kind : Str) (a : Int), vs = [.str kind, .int a] ∧ (True) ∧ ∀ H1, Ex H H1 → Q (.int (m_extend_u kind a)) H1
theorem sv_extend_u {K : PySem.W.Frag} {H : Hp} {kind : Str} {a : Int} (h : (True)) : SpV (sp_extend_u K) [.str kind, .int a] H (.int (m_extend_u kind a)) := fun H1 e Q q _ => ⟨kind, a, rfl, h, q⟩
theorem ok_extend_u {f : Addr} {fd : FuncData} {d_unsigned : FuncData} (F : Fun K "extend_u" "extend_u" s_extend_u f fd) (T : Tx w K mg ad) (O_unsigned : Df P w K mg base 2 "unsigned" (ad 1) d_unsigned ["kind", "number"] (sp_unsigned K)) : FnOk P w K mg base CX0 3 f fd ["kind", "a"] (sp_extend_u K) := by
  refine F.ok sc_extend_u (fun vs H Q E h => ?_) (fun cdv A outer s G vs Q E hr h => ?_)
  · obtain ⟨kind, a, rfl, _⟩ := h
    rfl
  · obtain ⟨kind, a, rfl, h, q⟩ := h
    refine ⟨_, (pss_cons (ps_ret (cl O_unsigned (hr.mono (by decide)) rfl (pa_cons pe_str (pa_cons (pv 1) pa_nil)))) pss_nil), ?_⟩
    have e := Ex.refl G
    -- return unsigned('i32', a)
    refine r_retI e (ev_call (ea_cons ev_c (ea_cons (ev_var rfl) ea_nil)) (sv_unsigned (by walk_at "sd"))) (by show _ = m_extend_u _ _; unfold m_extend_u; (first | rfl | (split <;> rfl) | (split <;> simp_all))) q

/-! signature_of -/
def m_kd (name : Str) : Str := cutS name none (some 3)
def m_wd (name : Str) : Str := cutS name (some 4) none
def m_sigp (name : Str) : List Str :=
  if name = "i32.wrap_i64" then ["i64"] else if name ∈ kk_CONVERSIONS then ["i32"] else if m_wd name ∈ kk_ARITHMETIC then [m_kd name, m_kd name]
  else if m_wd name ∈ kk_COMPARISONS then [m_kd name, m_kd name] else [m_kd name]
def m_sigr (name : Str) : List Str :=
  if name = "i32.wrap_i64" then ["i32"] else if name ∈ kk_CONVERSIONS then ["i64"] else if m_wd name ∈ kk_ARITHMETIC then [m_kd name]
  else if m_wd name ∈ kk_COMPARISONS then ["i32"] else if m_wd name = "eqz" then ["i32"] else [m_kd name]
theorem inst_len : ∀ n ∈ kc_INSTRUCTIONS, n.length ≤ 100 := by decide +kernel
theorem m_sigp_len (name : Str) : (m_sigp name).length ≤ 2 := by
  unfold m_sigp
  split
  · decide
  split
  · decide
  split
  · exact Nat.le_refl 2
  split
  · exact Nat.le_refl 2
  · exact Nat.le_succ 1
def KD (k : Str) : Prop := k = "i32" ∨ k = "i64"
def OpsOk (ps : List Str) (ops : List Int) : Prop := ps.length = ops.length ∧ ∀ (i : Nat) (k : Str) (n : Int), ps[i]? = some k → ops[i]? = some n → (k = "i32" ∨ k = "i64") ∧ m_in_range k n = true
theorem opsok1 {ps : List Str} {k : Str} {n : Int} (h : ps = [k]) (hk : k = "i32" ∨ k = "i64") (hn : m_in_range k n = true) : OpsOk ps [n] := by
  subst h
  refine ⟨rfl, fun i k' n' hi hn' => ?_⟩
  match i with
  | 0 => cases hi; cases hn'; exact ⟨hk, hn⟩
  | i + 1 => cases hi
theorem opsok2 {ps : List Str} {k : Str} {a b : Int} (h : ps = [k, k]) (hk : k = "i32" ∨ k = "i64") (ha : m_in_range k a = true) (hb : m_in_range k b = true) : OpsOk ps [a, b] := by
  subst h
  refine ⟨rfl, fun i k' n' hi hn' => ?_⟩
  match i with
  | 0 => cases hi; cases hn'; exact ⟨hk, ha⟩
  | 1 => cases hi; cases hn'; exact ⟨hk, hb⟩
  | i + 2 => cases hi
theorem sc_signature_of : FnScope ["name", "kind", "word"] ["name"] (defScope s_signature_of) := ⟨rfl, rfl, rfl, by decide +kernel, rfl, by decide +kernel, by decide +kernel⟩
def sp_signature_of (K : PySem.W.Frag) : Sp := fun vs H Q _ => ∃ (name : Str), vs = [.str name] ∧ (name ∈ kc_INSTRUCTIONS) ∧ ∀ (p q r : Addr) (H1 : Hp), H p = none → Ex H H1 → H1 p = some (.tup [.ref q, .ref r]) → H1 q = some (.tup ((m_sigp name).map V.str)) → H1 r = some (.tup ((m_sigr name).map V.str)) → Q (.ref p) H1
theorem ok_signature_of {f : Addr} {fd : FuncData} (F : Fun K "signature_of" "signature_of" s_signature_of f fd) (T : Tx w K mg ad)  : FnOk P w K mg base CX0 1 f fd ["name"] (sp_signature_of K) := by
  refine F.ok sc_signature_of (fun vs H Q E h => ?_) (fun cdv A outer s G vs Q E hr h => ?_)
  · obtain ⟨_, rfl, _⟩ := h
    rfl
  · obtain ⟨name, rfl, h, q⟩ := h
    obtain ⟨a_ARITHMETIC, g_ARITHMETIC, k_ARITHMETIC⟩ := T.g_ARITHMETIC
    obtain ⟨a_COMPARISONS, g_COMPARISONS, k_COMPARISONS⟩ := T.g_COMPARISONS
    obtain ⟨a_CONVERSIONS, g_CONVERSIONS, k_CONVERSIONS⟩ := T.g_CONVERSIONS
    obtain ⟨a_INSTRUCTIONS, g_INSTRUCTIONS, k_INSTRUCTIONS⟩ := T.g_INSTRUCTIONS
    refine ⟨_, (pss_cons (ps_if (pt_cmpR (op_notIn_seq : OpR _ _ (rIn K true)) (pv 0) (pe_glob (v := .ref _) rfl g_INSTRUCTIONS rfl) (by rfl)) pss_never pss_nil) (pss_cons (ps_set (i := 1) sc_signature_of.nd rfl (Or.inl rfl) (pe_slice sl_str (pv 0) po_none (po_some pe_int))) (pss_cons (ps_set (i := 2) sc_signature_of.nd rfl (Or.inl rfl) (pe_slice sl_str (pv 0) (po_some pe_int) po_none)) (pss_cons (ps_if (pt_cmpR op_eq (pv 0) pe_str (nomark _)) (pss_cons (ps_ret (pe_tup (pa_cons (pe_tup (pa_cons pe_str pa_nil)) (pa_cons (pe_tup (pa_cons pe_str pa_nil)) pa_nil)))) pss_nil) pss_nil) (pss_cons (ps_if (pt_cmpR (op_in_sd k_CONVERSIONS) (pv 0) (pe_glob (v := .ref _) rfl g_CONVERSIONS rfl) (by rfl)) (pss_cons (ps_ret (pe_tup (pa_cons (pe_tup (pa_cons pe_str pa_nil)) (pa_cons (pe_tup (pa_cons pe_str pa_nil)) pa_nil)))) pss_nil) pss_nil) (pss_cons (ps_if (pt_cmpR (op_in_sd k_ARITHMETIC) (pv 2) (pe_glob (v := .ref _) rfl g_ARITHMETIC rfl) (by rfl)) (pss_cons (ps_ret (pe_tup (pa_cons (pe_tup (pa_cons (pv 1) (pa_cons (pv 1) pa_nil))) (pa_cons (pe_tup (pa_cons (pv 1) pa_nil)) pa_nil)))) pss_nil) pss_nil) (pss_cons (ps_if (pt_cmpR (op_in_sd k_COMPARISONS) (pv 2) (pe_glob (v := .ref _) rfl g_COMPARISONS rfl) (by rfl)) (pss_cons (ps_ret (pe_tup (pa_cons (pe_tup (pa_cons (pv 1) (pa_cons (pv 1) pa_nil))) (pa_cons (pe_tup (pa_cons pe_str pa_nil)) pa_nil)))) pss_nil) pss_nil) (pss_cons (ps_if (pt_cmpR op_eq (pv 2) pe_str (nomark _)) (pss_cons (ps_ret (pe_tup (pa_cons (pe_tup (pa_cons (pv 1) pa_nil)) (pa_cons (pe_tup (pa_cons pe_str pa_nil)) pa_nil)))) pss_nil) pss_nil) (pss_cons (ps_ret (pe_tup (pa_cons (pe_tup (pa_cons (pv 1) pa_nil)) (pa_cons (pe_tup (pa_cons (pv 1) pa_nil)) pa_nil)))) pss_nil))))))))), ?_⟩
    have e := Ex.refl G
    have f1 : name.length ≤ 100 := inst_len name h
    refine r_when e (ep_ndec (ev_op (ev_var rfl) ev_c (rv_niTS (k_INSTRUCTIONS _)))) (fun hb1 H e e1 => ?_) (fun hb1 H e e1 => ?_)
    · exact absurd h hb1
    refine r_asg e (ev_slS (ev_var rfl) eo_none (eo_some ev_c) (by omega)) fun H e e1 => ?_
    refine r_asg e (ev_slS (ev_var rfl) (eo_some ev_c) eo_none (by omega)) fun H e e1 => ?_
    refine r_when e (ep_dec (ev_op (ev_var rfl) ev_c rv_eqS)) (fun hb2 H e e1 => ?_) (fun hb2 H e e1 => ?_)
    · have hq : m_sigp name = (["i64"] : List Str) := by unfold m_sigp; rw [if_pos hb2]
      have hr : m_sigr name = (["i32"] : List Str) := by unfold m_sigr; rw [if_pos hb2]
      rw [hq, hr] at q
      refine r_retT e (eax_U (eu_tup (ea_cons ev_c ea_nil) (by show 1 ≤ 100000; decide)) (eax_U (eu_tup (ea_cons ev_c ea_nil) (by show 1 ≤ 100000; decide)) eax_nil)) (fun vs H hp => by obtain ⟨a, _, rfl, ha, b, _, rfl, hb, rfl⟩ := hp; show 2 ≤ 100000; decide) fun vs p H2 H3 hp e2 e3 hn h3 => ?_
      obtain ⟨a, _, rfl, ha, b, _, rfl, hb, rfl⟩ := hp
      exact q p a b _ hn (e2.trans e3) h3 (e3 _ _ ha) (e3 _ _ hb)
    refine r_when e (ep_dec (ev_op (ev_var rfl) ev_c (rv_inSDk (keys := kk_CONVERSIONS) rfl))) (fun hb3 H e e1 => ?_) (fun hb3 H e e1 => ?_)
    · have hq : m_sigp name = (["i32"] : List Str) := by unfold m_sigp; rw [if_neg hb2, if_pos hb3]
      have hr : m_sigr name = (["i64"] : List Str) := by unfold m_sigr; rw [if_neg hb2, if_pos hb3]
      rw [hq, hr] at q
      refine r_retT e (eax_U (eu_tup (ea_cons ev_c ea_nil) (by show 1 ≤ 100000; decide)) (eax_U (eu_tup (ea_cons ev_c ea_nil) (by show 1 ≤ 100000; decide)) eax_nil)) (fun vs H hp => by obtain ⟨a, _, rfl, ha, b, _, rfl, hb, rfl⟩ := hp; show 2 ≤ 100000; decide) fun vs p H2 H3 hp e2 e3 hn h3 => ?_
      obtain ⟨a, _, rfl, ha, b, _, rfl, hb, rfl⟩ := hp
      exact q p a b _ hn (e2.trans e3) h3 (e3 _ _ ha) (e3 _ _ hb)
    refine r_when e (ep_dec (ev_op (ev_var rfl) ev_c (rv_inSDk (keys := kk_ARITHMETIC) rfl))) (fun (hb4 : m_wd name ∈ kk_ARITHMETIC) H e e1 => ?_) (fun (hb4 : ¬ m_wd name ∈ kk_ARITHMETIC) H e e1 => ?_)
    · have hq : m_sigp name = ([m_kd name, m_kd name] : List Str) := by unfold m_sigp; rw [if_neg hb2, if_neg hb3, if_pos hb4]
      have hr : m_sigr name = ([m_kd name] : List Str) := by unfold m_sigr; rw [if_neg hb2, if_neg hb3, if_pos hb4]
      rw [hq, hr] at q
      refine r_retT e (eax_U (eu_tup (ea_cons (ev_var rfl) (ea_cons (ev_var rfl) ea_nil)) (by show 2 ≤ 100000; decide)) (eax_U (eu_tup (ea_cons (ev_var rfl) ea_nil) (by show 1 ≤ 100000; decide)) eax_nil)) (fun vs H hp => by obtain ⟨a, _, rfl, ha, b, _, rfl, hb, rfl⟩ := hp; show 2 ≤ 100000; decide) fun vs p H2 H3 hp e2 e3 hn h3 => ?_
      obtain ⟨a, _, rfl, ha, b, _, rfl, hb, rfl⟩ := hp
      exact q p a b _ hn (e2.trans e3) h3 (e3 _ _ ha) (e3 _ _ hb)
    refine r_when e (ep_dec (ev_op (ev_var rfl) ev_c (rv_inSDk (keys := kk_COMPARISONS) rfl))) (fun (hb5 : m_wd name ∈ kk_COMPARISONS) H e e1 => ?_) (fun (hb5 : ¬ m_wd name ∈ kk_COMPARISONS) H e e1 => ?_)
    · have hq : m_sigp name = ([m_kd name, m_kd name] : List Str) := by unfold m_sigp; rw [if_neg hb2, if_neg hb3, if_neg hb4, if_pos hb5]
      have hr : m_sigr name = (["i32"] : List Str) := by unfold m_sigr; rw [if_neg hb2, if_neg hb3, if_neg hb4, if_pos hb5]
      rw [hq, hr] at q
      refine r_retT e (eax_U (eu_tup (ea_cons (ev_var rfl) (ea_cons (ev_var rfl) ea_nil)) (by show 2 ≤ 100000; decide)) (eax_U (eu_tup (ea_cons ev_c ea_nil) (by show 1 ≤ 100000; decide)) eax_nil)) (fun vs H hp => by obtain ⟨a, _, rfl, ha, b, _, rfl, hb, rfl⟩ := hp; show 2 ≤ 100000; decide) fun vs p H2 H3 hp e2 e3 hn h3 => ?_
      obtain ⟨a, _, rfl, ha, b, _, rfl, hb, rfl⟩ := hp
      exact q p a b _ hn (e2.trans e3) h3 (e3 _ _ ha) (e3 _ _ hb)
    refine r_when e (ep_dec (ev_op (ev_var rfl) ev_c rv_eqS)) (fun (hb6 : m_wd name = "eqz") H e e1 => ?_) (fun (hb6 : ¬ m_wd name = "eqz") H e e1 => ?_)
    · have hq : m_sigp name = ([m_kd name] : List Str) := by unfold m_sigp; rw [if_neg hb2, if_neg hb3, if_neg hb4, if_neg hb5]
      have hr : m_sigr name = (["i32"] : List Str) := by unfold m_sigr; rw [if_neg hb2, if_neg hb3, if_neg hb4, if_neg hb5, if_pos hb6]
      rw [hq, hr] at q
      refine r_retT e (eax_U (eu_tup (ea_cons (ev_var rfl) ea_nil) (by show 1 ≤ 100000; decide)) (eax_U (eu_tup (ea_cons ev_c ea_nil) (by show 1 ≤ 100000; decide)) eax_nil)) (fun vs H hp => by obtain ⟨a, _, rfl, ha, b, _, rfl, hb, rfl⟩ := hp; show 2 ≤ 100000; decide) fun vs p H2 H3 hp e2 e3 hn h3 => ?_
      obtain ⟨a, _, rfl, ha, b, _, rfl, hb, rfl⟩ := hp
      exact q p a b _ hn (e2.trans e3) h3 (e3 _ _ ha) (e3 _ _ hb)
    · have hq : m_sigp name = ([m_kd name] : List Str) := by unfold m_sigp; rw [if_neg hb2, if_neg hb3, if_neg hb4, if_neg hb5]
      have hr : m_sigr name = ([m_kd name] : List Str) := by unfold m_sigr; rw [if_neg hb2, if_neg hb3, if_neg hb4, if_neg hb5, if_neg hb6]
      rw [hq, hr] at q
      refine r_retT e (eax_U (eu_tup (ea_cons (ev_var rfl) ea_nil) (by show 1 ≤ 100000; decide)) (eax_U (eu_tup (ea_cons (ev_var rfl) ea_nil) (by show 1 ≤ 100000; decide)) eax_nil)) (fun vs H hp => by obtain ⟨a, _, rfl, ha, b, _, rfl, hb, rfl⟩ := hp; show 2 ≤ 100000; decide) fun vs p H2 H3 hp e2 e3 hn h3 => ?_
      obtain ⟨a, _, rfl, ha, b, _, rfl, hb, rfl⟩ := hp
      exact q p a b _ hn (e2.trans e3) h3 (e3 _ _ ha) (e3 _ _ hb)

/-! check_operands -/

theorem sc_check_operands : FnScope ["params", "operands", "kind", "value"] ["params", "operands"] (defScope s_check_operands) := ⟨rfl, rfl, rfl, by decide +kernel, rfl, by decide +kernel, by decide +kernel⟩
def sp_check_operands (K : PySem.W.Frag) : Sp := fun vs H Q _ => ∃ (params : Addr) (operands : Addr) (ns_params : List Str) (ns_operands : List Int), vs = [.ref params, .ref operands] ∧ (SqT K H params (ns_params.map V.str) ∧ SqT K H operands (ns_operands.map V.int) ∧ (OpsOk ns_params ns_operands)) ∧ ∀ H1, Ex H H1 → Q .non H1
theorem sv_check_operands {K : PySem.W.Frag} {H : Hp} {params : Addr} {operands : Addr} {ns_params : List Str} {ns_operands : List Int} (h : (SqT K H params (ns_params.map V.str) ∧ SqT K H operands (ns_operands.map V.int) ∧ (OpsOk ns_params ns_operands))) : SpV (sp_check_operands K) [.ref params, .ref operands] H .non := fun H1 e Q q _ => ⟨params, operands, ns_params, ns_operands, rfl, ⟨ex_t e h.1, ex_t e h.2.1, h.2.2⟩, q⟩
theorem ok_check_operands {f : Addr} {fd : FuncData} {d_in_range : FuncData} (F : Fun K "check_operands" "check_operands" s_check_operands f fd) (T : Tx w K mg ad) (O_in_range : Df P w K mg base 3 "in_range" (ad 4) d_in_range ["kind", "number"] (sp_in_range K)) : FnOk P w K mg base CX0 4 f fd ["params", "operands"] (sp_check_operands K) := by
  refine F.ok sc_check_operands (fun vs H Q E h => ?_) (fun cdv A outer s G vs Q E hr h => ?_)
  · obtain ⟨params, operands, ns_params, ns_operands, rfl, _⟩ := h
    rfl
  · obtain ⟨params, operands, ns_params, ns_operands, rfl, ⟨hs_params, hs_operands, h⟩, q⟩ := h
    refine ⟨_, (pss_cons (ps_if (pt_cmpR op_ne (pe_callB (r := rLenS K) call_len_seq (by rfl) T.b_len (by decide +kernel) (pa_cons (pv 1) pa_nil)) (pe_callB (r := rLenS K) call_len_seq (by rfl) T.b_len (by decide +kernel) (pa_cons (pv 0) pa_nil)) (nomark _)) pss_never pss_nil) (pss_cons (ps_for PassesOwn.never rfl (pi_zipA (by rfl) T.b_zip (pa_cons (pv 0) (pa_cons (pv 1) pa_nil))) (pg_tup rfl (pgs_cons (pg_name (i := 2) sc_check_operands.nd rfl (Or.inl rfl)) (pgs_cons (pg_name (i := 3) sc_check_operands.nd rfl (Or.inl rfl)) pgs_nil))) (pss_cons (ps_if (pt_not (pt_val (cl O_in_range (hr.mono (by decide)) rfl (pa_cons (pv 2) (pa_cons (pv 3) pa_nil))))) pss_never pss_nil) pss_nil)) pss_nil)), ?_⟩
    have e := Ex.refl G
    -- if len(operands) != len(params)
    refine r_when e (ep_ndec (ev_op (ev_lenTI (ev_var rfl) (by assumption)) (ev_lenTM (ev_var rfl) (by assumption)) rv_neI)) (fun hb1 H e e1 => ?_) (fun hb1 H e e1 => ?_)
    · exact absurd hb1 (fun z => z (by have := h.1; omega))
    -- for (kind, value) in zip(params, operands)   [loop 1]
    refine r_forZTM e (ea_cons (ev_var rfl) (ea_cons (ev_var rfl) ea_nil)) (by have := h.1; omega) hs_params hs_operands (fun i σ => ∃ (o_kind : Option V) (o_value : Option V), σ = [some (.ref params), some (.ref operands), o_kind, o_value]) ⟨_, _, rfl⟩ (fun i x y σ H hi hj hI e => ?_) (fun σ H hI e => ?_)
    · obtain ⟨o_kind, o_value, rfl⟩ := hI
      have hxy := h.2 i x y hi hj
      have hil := (List.getElem?_eq_some_iff.mp hi).1
      -- if not in_range(kind, value)
      refine r_when e (ep_not (ep_val (ev_call (ea_cons (ev_var rfl) (ea_cons (ev_var rfl) ea_nil)) (sv_in_range hxy.1)))) (fun hb2 H e e1 => ?_) (fun hb2 H e e1 => ?_)
      · exact absurd hb2 (fun z => z hxy.2)
      exact ⟨⟨_, _, rfl⟩, e⟩
    obtain ⟨o_kind, o_value, rfl⟩ := hI
    exact r_next (q _ e)

/-! calculate -/
def names14 : List Str := ["i32.clz", "i32.ctz", "i32.popcnt", "i32.extend8_s", "i32.extend16_s", "i64.clz", "i64.ctz", "i64.popcnt", "i64.extend8_s", "i64.extend16_s", "i64.extend32_s", "i32.wrap_i64", "i64.extend_i32_s", "i64.extend_i32_u"]

theorem names_in : ∀ n ∈ names14, n ∈ kc_INSTRUCTIONS ∧ n.length ≤ 100 ∧ m_wd n ∉ kk_ARITHMETIC ∧ m_wd n ∉ kk_COMPARISONS ∧ ¬ m_wd n = "eqz" ∧ (n ∈ kk_CONVERSIONS ∨ m_wd n = "extend32_s" ∨ m_wd n ∈ kk_COUNTS) ∧ (m_kd n = "i32" ∨ m_kd n = "i64") := by decide +kernel
def m_calc (name : Str) (a : Int) : Int :=
  if name ∈ kk_CONVERSIONS then (if name = "i64.extend_i32_u" then m_extend_u (m_kd name) a else m_extend32_s (m_kd name) a)
  else if m_wd name = "extend32_s" then m_extend32_s (m_kd name) a
  else if m_wd name = "clz" then m_clz (m_kd name) a else if m_wd name = "ctz" then m_ctz (m_kd name) a else if m_wd name = "popcnt" then m_popcnt (m_kd name) a
  else if m_wd name = "extend8_s" then m_extend8_s (m_kd name) a else m_extend16_s (m_kd name) a
def S_conv (K : PySem.W.Frag) (ad : Nat → Addr) (f : Addr) (sp : Sp) : Prop := (f, sp) ∈ [(ad 38, sp_extend32_s K), (ad 39, sp_extend_u K)]
def S_cnt (K : PySem.W.Frag) (ad : Nat → Addr) (f : Addr) (sp : Sp) : Prop := (f, sp) ∈ [(ad 33, sp_clz K), (ad 34, sp_ctz K), (ad 35, sp_popcnt K), (ad 36, sp_extend8_s K), (ad 37, sp_extend16_s K)]
theorem sc_calculate : FnScope ["name", "operands", "kind", "word", "convert", "combine", "compare", "count"] ["name", "operands"] (defScope s_calculate) := ⟨rfl, rfl, rfl, by decide +kernel, rfl, by decide +kernel, by decide +kernel⟩
def sp_calculate (K : PySem.W.Frag) : Sp := fun vs H Q _ => ∃ (name : Str) (p : Addr) (a : Int), vs = [.str name, .ref p] ∧ (SqT K H p ([a].map V.int) ∧ name ∈ names14 ∧ OpsOk (m_sigp name) [a]) ∧ ∀ H1, Ex H H1 → Q (.int (m_calc name a)) H1
theorem sv_calculate {K : PySem.W.Frag} {H : Hp} {name : Str} {p : Addr} {a : Int} (h : SqT K H p ([a].map V.int) ∧ name ∈ names14 ∧ OpsOk (m_sigp name) [a]) : SpV (sp_calculate K) [.str name, .ref p] H (.int (m_calc name a)) := fun H1 e Q q _ => ⟨name, p, a, rfl, ⟨ex_t e h.1, h.2⟩, q⟩
theorem ok_calculate {f : Addr} {fd : FuncData} {d_clz : FuncData} {d_ctz : FuncData} {d_popcnt : FuncData} {d_extend8_s : FuncData} {d_extend16_s : FuncData} {d_extend32_s : FuncData} {d_extend_u : FuncData} {d_signature_of : FuncData} {d_check_operands : FuncData} (F : Fun K "calculate" "calculate" s_calculate f fd) (T : Tx w K mg ad) (O_clz : Df P w K mg base 3 "clz" (ad 33) d_clz ["kind", "a"] (sp_clz K)) (O_ctz : Df P w K mg base 2 "ctz" (ad 34) d_ctz ["kind", "a"] (sp_ctz K)) (O_popcnt : Df P w K mg base 2 "popcnt" (ad 35) d_popcnt ["kind", "a"] (sp_popcnt K)) (O_extend8_s : Df P w K mg base 2 "extend8_s" (ad 36) d_extend8_s ["kind", "a"] (sp_extend8_s K)) (O_extend16_s : Df P w K mg base 2 "extend16_s" (ad 37) d_extend16_s ["kind", "a"] (sp_extend16_s K)) (O_extend32_s : Df P w K mg base 2 "extend32_s" (ad 38) d_extend32_s ["kind", "a"] (sp_extend32_s K)) (O_extend_u : Df P w K mg base 3 "extend_u" (ad 39) d_extend_u ["kind", "a"] (sp_extend_u K)) (O_signature_of : Df P w K mg base 1 "signature_of" (ad 40) d_signature_of ["name"] (sp_signature_of K)) (O_check_operands : Df P w K mg base 4 "check_operands" (ad 41) d_check_operands ["params", "operands"] (sp_check_operands K)) : FnOk P w K mg base CX0 5 f fd ["name", "operands"] (sp_calculate K) := by
  have A_conv : ∀ f sp, S_conv K ad f sp → Held P w K mg base 4 f sp := by
    intro f sp hS
    unfold S_conv at hS
    simp only [List.mem_cons, Prod.mk.injEq, List.not_mem_nil, or_false] at hS
    rcases hS with ⟨rfl, rfl⟩ | ⟨rfl, rfl⟩
    · exact O_extend32_s.heldM (by decide)
    · exact O_extend_u.heldM (by decide)
  have A_cnt : ∀ f sp, S_cnt K ad f sp → Held P w K mg base 4 f sp := by
    intro f sp hS
    unfold S_cnt at hS
    simp only [List.mem_cons, Prod.mk.injEq, List.not_mem_nil, or_false] at hS
    rcases hS with ⟨rfl, rfl⟩ | ⟨rfl, rfl⟩ | ⟨rfl, rfl⟩ | ⟨rfl, rfl⟩ | ⟨rfl, rfl⟩
    · exact O_clz.heldM (by decide)
    · exact O_ctz.heldM (by decide)
    · exact O_popcnt.heldM (by decide)
    · exact O_extend8_s.heldM (by decide)
    · exact O_extend16_s.heldM (by decide)
  refine F.ok sc_calculate (fun vs H Q E h => ?_) (fun cdv A outer s G vs Q E hr h => ?_)
  · obtain ⟨_, _, _, rfl, _⟩ := h
    rfl
  · obtain ⟨name, operands, a, rfl, ⟨hs_operands, h, hok⟩, q⟩ := h
    obtain ⟨a_ARITHMETIC, g_ARITHMETIC, k_ARITHMETIC⟩ := T.g_ARITHMETIC
    obtain ⟨a_COMPARISONS, g_COMPARISONS, k_COMPARISONS⟩ := T.g_COMPARISONS
    obtain ⟨a_CONVERSIONS, g_CONVERSIONS, k_CONVERSIONS⟩ := T.g_CONVERSIONS
    obtain ⟨a_COUNTS, g_COUNTS, k_COUNTS⟩ := T.g_COUNTS
    refine ⟨_, (pss_cons (ps_expr (cl O_check_operands (hr.mono (by decide)) rfl (pa_cons (pe_ix (r := rIxT K) ix_tup (cl O_signature_of (hr.mono (by decide)) rfl (pa_cons (pv 0) pa_nil)) pe_int (fun _ _ => rfl)) (pa_cons (pv 1) pa_nil)))) (pss_cons (ps_set (i := 2) sc_calculate.nd rfl (Or.inl rfl) (pe_slice sl_str (pv 0) po_none (po_some pe_int))) (pss_cons (ps_set (i := 3) sc_calculate.nd rfl (Or.inl rfl) (pe_slice sl_str (pv 0) (po_some pe_int) po_none)) (pss_cons (ps_if (pt_cmpR (op_in_sd k_CONVERSIONS) (pv 0) (pe_glob (v := .ref _) rfl g_CONVERSIONS rfl) (by rfl)) (pss_cons (ps_set (i := 4) sc_calculate.nd rfl (Or.inl rfl) (pe_ix (r := rIxD K w) ix_kdict (pe_glob (v := .ref _) rfl g_CONVERSIONS rfl) (pv 0) (fun _ _ => rfl))) (pss_cons (ps_ret (pe_callR (i := 4) (k := 4) (S := (S_conv K ad)) A_conv (hr.mono (by decide)) rfl (Or.inl rfl) (pa_cons (pv 2) (pa_cons (pe_ix (r := rIxT K) ix_tup (pv 1) pe_int (fun _ _ => rfl)) pa_nil)))) pss_nil)) pss_nil) (pss_cons (ps_if (pt_cmpR (op_in_sd k_ARITHMETIC) (pv 3) (pe_glob (v := .ref _) rfl g_ARITHMETIC rfl) (by rfl)) pss_never pss_nil) (pss_cons (ps_if (pt_cmpR (op_in_sd k_COMPARISONS) (pv 3) (pe_glob (v := .ref _) rfl g_COMPARISONS rfl) (by rfl)) pss_never pss_nil) (pss_cons (ps_if (pt_cmpR op_eq (pv 3) pe_str (nomark _)) pss_never pss_nil) (pss_cons (ps_if (pt_cmpR op_eq (pv 3) pe_str (nomark _)) (pss_cons (ps_ret (cl O_extend32_s (hr.mono (by decide)) rfl (pa_cons (pv 2) (pa_cons (pe_ix (r := rIxT K) ix_tup (pv 1) pe_int (fun _ _ => rfl)) pa_nil)))) pss_nil) pss_nil) (pss_cons (ps_set (i := 7) sc_calculate.nd rfl (Or.inl rfl) (pe_ix (r := rIxD K w) ix_kdict (pe_glob (v := .ref _) rfl g_COUNTS rfl) (pv 3) (fun _ _ => rfl))) (pss_cons (ps_ret (pe_callR (i := 7) (k := 4) (S := (S_cnt K ad)) A_cnt (hr.mono (by decide)) rfl (Or.inl rfl) (pa_cons (pv 2) (pa_cons (pe_ix (r := rIxT K) ix_tup (pv 1) pe_int (fun _ _ => rfl)) pa_nil)))) pss_nil)))))))))), ?_⟩
    have e := Ex.refl G
    obtain ⟨hin, f1, f2, f3, f4, f5, hk⟩ := names_in name h
    refine ⟨_, rfl, name, rfl, hin, fun p q1 r1 H1 np e1 hp hq hr => ⟨p, _, 0, .ref q1, rfl, rfl, st_of hp, atI_nat (j := 0) rfl, _, rfl, q1, operands, m_sigp name, [a], rfl, ⟨st_of hq, ex_t e1 hs_operands, hok⟩, fun H2 e2 => ?_⟩⟩
    have e := e1.trans e2
    refine r_asg e (ev_slS (ev_var rfl) eo_none (eo_some ev_c) (by omega)) fun H e e1 => ?_
    refine r_asg e (ev_slS (ev_var rfl) (eo_some ev_c) eo_none (by omega)) fun H e e1 => ?_
    refine r_when e (ep_dec (ev_op (ev_var rfl) ev_c (rv_inSDk (keys := kk_CONVERSIONS) rfl))) (fun hb1 H e e1 => ?_) (fun hb1 H e e1 => ?_)
    · have hc : name = "i32.wrap_i64" ∨ name = "i64.extend_i32_s" ∨ name = "i64.extend_i32_u" := by
        have := hb1
        unfold kk_CONVERSIONS at this
        simpa only [List.mem_cons, List.not_mem_nil, or_false] using this
      rcases hc with hc | hc | hc
      · have hq : m_calc name a = m_extend32_s (m_kd name) a := by unfold m_calc; rw [if_pos hb1, if_neg (by rw [hc]; decide +kernel)]
        rw [hq] at q
        refine r_asg e (ev_op ev_c (ev_is (ev_var rfl) (congrArg V.str hc)) (rv_kd (k_CONVERSIONS.some rfl))) fun H e e1 => ?_
        exact r_ret e (ev_callR rfl (List.Mem.head _) (ea_cons (ev_var rfl) (ea_cons (ev_op (ev_var rfl) ev_c (rv_ixT hs_operands (atI_nat (j := 0) rfl))) ea_nil)) (sv_extend32_s True.intro)) fun H e => q H e
      · have hq : m_calc name a = m_extend32_s (m_kd name) a := by unfold m_calc; rw [if_pos hb1, if_neg (by rw [hc]; decide +kernel)]
        rw [hq] at q
        refine r_asg e (ev_op ev_c (ev_is (ev_var rfl) (congrArg V.str hc)) (rv_kd (k_CONVERSIONS.some rfl))) fun H e e1 => ?_
        exact r_ret e (ev_callR rfl (List.Mem.head _) (ea_cons (ev_var rfl) (ea_cons (ev_op (ev_var rfl) ev_c (rv_ixT hs_operands (atI_nat (j := 0) rfl))) ea_nil)) (sv_extend32_s True.intro)) fun H e => q H e
      · have hq : m_calc name a = m_extend_u (m_kd name) a := by unfold m_calc; rw [if_pos hb1, if_pos hc]
        rw [hq] at q
        refine r_asg e (ev_op ev_c (ev_is (ev_var rfl) (congrArg V.str hc)) (rv_kd (k_CONVERSIONS.some rfl))) fun H e e1 => ?_
        exact r_ret e (ev_callR rfl (List.Mem.tail _ (List.Mem.head _)) (ea_cons (ev_var rfl) (ea_cons (ev_op (ev_var rfl) ev_c (rv_ixT hs_operands (atI_nat (j := 0) rfl))) ea_nil)) (sv_extend_u True.intro)) fun H e => q H e
    refine r_when e (ep_dec (ev_op (ev_var rfl) ev_c (rv_inSDk (keys := kk_ARITHMETIC) rfl))) (fun (hb2 : m_wd name ∈ kk_ARITHMETIC) H e e1 => ?_) (fun (hb2 : ¬ m_wd name ∈ kk_ARITHMETIC) H e e1 => ?_)
    · exact absurd hb2 f2
    refine r_when e (ep_dec (ev_op (ev_var rfl) ev_c (rv_inSDk (keys := kk_COMPARISONS) rfl))) (fun (hb3 : m_wd name ∈ kk_COMPARISONS) H e e1 => ?_) (fun (hb3 : ¬ m_wd name ∈ kk_COMPARISONS) H e e1 => ?_)
    · exact absurd hb3 f3
    refine r_when e (ep_dec (ev_op (ev_var rfl) ev_c rv_eqS)) (fun (hb4 : m_wd name = "eqz") H e e1 => ?_) (fun (hb4 : ¬ m_wd name = "eqz") H e e1 => ?_)
    · exact absurd hb4 f4
    refine r_when e (ep_dec (ev_op (ev_var rfl) ev_c rv_eqS)) (fun (hb5 : m_wd name = "extend32_s") H e e1 => ?_) (fun (hb5 : ¬ m_wd name = "extend32_s") H e e1 => ?_)
    · have hq : m_calc name a = m_extend32_s (m_kd name) a := by unfold m_calc; rw [if_neg hb1, if_pos hb5]
      rw [hq] at q
      exact r_ret e (ev_call (ea_cons (ev_var rfl) (ea_cons (ev_op (ev_var rfl) ev_c (rv_ixT hs_operands (atI_nat (j := 0) rfl))) ea_nil)) (sv_extend32_s True.intro)) fun H e => q H e
    have hw : m_wd name = "clz" ∨ m_wd name = "ctz" ∨ m_wd name = "popcnt" ∨ m_wd name = "extend8_s" ∨ m_wd name = "extend16_s" := by
      have := (f5.resolve_left hb1).resolve_left hb5
      unfold kk_COUNTS at this
      simpa only [List.mem_cons, List.not_mem_nil, or_false] using this
    rcases hw with hw | hw | hw | hw | hw
    · have hq : m_calc name a = m_clz (m_kd name) a := by unfold m_calc; rw [if_neg hb1, if_neg hb5, if_pos hw]
      rw [hq] at q
      refine r_asg e (ev_op ev_c (ev_is (ev_var rfl) (congrArg V.str hw)) (rv_kd (k_COUNTS.some rfl))) fun H e e1 => ?_
      exact r_ret e (ev_callR rfl (List.Mem.head _) (ea_cons (ev_var rfl) (ea_cons (ev_op (ev_var rfl) ev_c (rv_ixT hs_operands (atI_nat (j := 0) rfl))) ea_nil)) (sv_clz hk)) fun H e => q H e
    · have hq : m_calc name a = m_ctz (m_kd name) a := by unfold m_calc; rw [if_neg hb1, if_neg hb5, if_neg (by rw [hw]; decide +kernel), if_pos hw]
      rw [hq] at q
      refine r_asg e (ev_op ev_c (ev_is (ev_var rfl) (congrArg V.str hw)) (rv_kd (k_COUNTS.some rfl))) fun H e e1 => ?_
      exact r_ret e (ev_callR rfl (List.Mem.tail _ (List.Mem.head _)) (ea_cons (ev_var rfl) (ea_cons (ev_op (ev_var rfl) ev_c (rv_ixT hs_operands (atI_nat (j := 0) rfl))) ea_nil)) (sv_ctz hk)) fun H e => q H e
    · have hq : m_calc name a = m_popcnt (m_kd name) a := by unfold m_calc; rw [if_neg hb1, if_neg hb5, if_neg (by rw [hw]; decide +kernel), if_neg (by rw [hw]; decide +kernel), if_pos hw]
      rw [hq] at q
      refine r_asg e (ev_op ev_c (ev_is (ev_var rfl) (congrArg V.str hw)) (rv_kd (k_COUNTS.some rfl))) fun H e e1 => ?_
      exact r_ret e (ev_callR rfl (List.Mem.tail _ (List.Mem.tail _ (List.Mem.head _))) (ea_cons (ev_var rfl) (ea_cons (ev_op (ev_var rfl) ev_c (rv_ixT hs_operands (atI_nat (j := 0) rfl))) ea_nil)) (sv_popcnt hk)) fun H e => q H e
    · have hq : m_calc name a = m_extend8_s (m_kd name) a := by unfold m_calc; rw [if_neg hb1, if_neg hb5, if_neg (by rw [hw]; decide +kernel), if_neg (by rw [hw]; decide +kernel), if_neg (by rw [hw]; decide +kernel), if_pos hw]
      rw [hq] at q
      refine r_asg e (ev_op ev_c (ev_is (ev_var rfl) (congrArg V.str hw)) (rv_kd (k_COUNTS.some rfl))) fun H e e1 => ?_
      exact r_ret e (ev_callR rfl (List.Mem.tail _ (List.Mem.tail _ (List.Mem.tail _ (List.Mem.head _)))) (ea_cons (ev_var rfl) (ea_cons (ev_op (ev_var rfl) ev_c (rv_ixT hs_operands (atI_nat (j := 0) rfl))) ea_nil)) (sv_extend8_s True.intro)) fun H e => q H e
    · have hq : m_calc name a = m_extend16_s (m_kd name) a := by unfold m_calc; rw [if_neg hb1, if_neg hb5, if_neg (by rw [hw]; decide +kernel), if_neg (by rw [hw]; decide +kernel), if_neg (by rw [hw]; decide +kernel), if_neg (by rw [hw]; decide +kernel)]
      rw [hq] at q
      refine r_asg e (ev_op ev_c (ev_is (ev_var rfl) (congrArg V.str hw)) (rv_kd (k_COUNTS.some rfl))) fun H e e1 => ?_
      exact r_ret e (ev_callR rfl (List.Mem.tail _ (List.Mem.tail _ (List.Mem.tail _ (List.Mem.tail _ (List.Mem.head _))))) (ea_cons (ev_var rfl) (ea_cons (ev_op (ev_var rfl) ev_c (rv_ixT hs_operands (atI_nat (j := 0) rfl))) ea_nil)) (sv_extend16_s True.intro)) fun H e => q H e

/-! _law_is_integer -/
def m_l_is_integer (l_actual : Int) : Bool :=
  (true && (!false))
theorem sc_l_is_integer : FnScope ["_law_actual"] ["_law_actual"] (defScope s_l_is_integer) := ⟨rfl, rfl, rfl, by decide +kernel, rfl, by decide +kernel, by decide +kernel⟩
def sp_l_is_integer (K : PySem.W.Frag) : Sp := fun vs H Q _ => ∃ (l_actual : Int), vs = [.int l_actual] ∧ (True) ∧ ∀ H1, Ex H H1 → Q (.bl (m_l_is_integer l_actual)) H1
theorem sv_l_is_integer {K : PySem.W.Frag} {H : Hp} {l_actual : Int} (h : (True)) : SpV (sp_l_is_integer K) [.int l_actual] H (.bl (m_l_is_integer l_actual)) := fun H1 e Q q _ => ⟨l_actual, rfl, h, q⟩
theorem ok_l_is_integer {f : Addr} {fd : FuncData} (F : Fun K "_law_is_integer" "_law_is_integer" s_l_is_integer f fd) (T : Tx w K mg ad)  : FnOk P w K mg base CX0 1 f fd ["_law_actual"] (sp_l_is_integer K) := by
  refine F.ok sc_l_is_integer (fun vs H Q E h => ?_) (fun cdv A outer s G vs Q E hr h => ?_)
  · obtain ⟨l_actual, rfl, _⟩ := h
    rfl
  · obtain ⟨l_actual, rfl, h, q⟩ := h
    refine ⟨_, (pss_cons (ps_ret (pe_and (pe_callB (r := rIsi K) call_isi (by rfl) T.b_isinstance (by decide +kernel) (pa_cons (pv 0) (pa_cons (pe_bltn (v := .ty "int") (by rfl) T.b_int (by decide +kernel) rfl) pa_nil))) (pe_one (pe_not (pe_callB (r := rIsi K) call_isi (by rfl) T.b_isinstance (by decide +kernel) (pa_cons (pv 0) (pa_cons (pe_bltn (v := .ty "bool") (by rfl) T.b_bool (by decide +kernel) rfl) pa_nil))))))) pss_nil), ?_⟩
    have e := Ex.refl G
    -- return isinstance(_law_actual, int) and (not isinstance(_law_actual, bool))
    refine r_retB e (ev_andV (ev_isi (b := true) (ev_var rfl) ev_c (.ty _) ty_int (kit_ty (by decide +kernel))) (fun hb => (ev_notV (ev_isi (b := false) (ev_var rfl) ev_c (.ty _) ty_int (kit_ty (by decide +kernel)))))) (by show _ = m_l_is_integer _; unfold m_l_is_integer; (first | rfl | (split <;> rfl) | (split <;> simp_all))) q

/-! _law_cell -/
def m_l_cell (ns_l_script : List Int) (l_k : Int) : Int :=
  if (l_k < (ns_l_script.length : Int)) then
    (ns_l_script.getD (l_k : Int).toNat 0)
  else
    0
theorem sc_l_cell : FnScope ["_law_script", "_law_k"] ["_law_script", "_law_k"] (defScope s_l_cell) := ⟨rfl, rfl, rfl, by decide +kernel, rfl, by decide +kernel, by decide +kernel⟩
def sp_l_cell (K : PySem.W.Frag) : Sp := fun vs H Q _ => ∃ (l_script : Addr) (l_k : Int) (ns_l_script : List Int), vs = [.ref l_script, .int l_k] ∧ (SqL K H l_script (ns_l_script.map V.int) ∧ 0 ≤ l_k) ∧ ∀ H1, Ex H H1 → Q (.int (m_l_cell ns_l_script l_k)) H1
theorem sv_l_cell {K : PySem.W.Frag} {H : Hp} {l_script : Addr} {l_k : Int} {ns_l_script : List Int} (h : (SqL K H l_script (ns_l_script.map V.int) ∧ 0 ≤ l_k)) : SpV (sp_l_cell K) [.ref l_script, .int l_k] H (.int (m_l_cell ns_l_script l_k)) := fun H1 e Q q _ => ⟨l_script, l_k, ns_l_script, rfl, ⟨ex_l e h.1, h.2⟩, q⟩
theorem ok_l_cell {f : Addr} {fd : FuncData} (F : Fun K "_law_cell" "_law_cell" s_l_cell f fd) (T : Tx w K mg ad)  : FnOk P w K mg base CX0 1 f fd ["_law_script", "_law_k"] (sp_l_cell K) := by
  refine F.ok sc_l_cell (fun vs H Q E h => ?_) (fun cdv A outer s G vs Q E hr h => ?_)
  · obtain ⟨l_script, l_k, ns_l_script, rfl, _⟩ := h
    rfl
  · obtain ⟨l_script, l_k, ns_l_script, rfl, ⟨hs_l_script, h⟩, q⟩ := h
    refine ⟨_, (pss_cons (ps_if (pt_cmpR op_lt (pv 1) (pe_callB (r := rLenS K) call_len_seq (by rfl) T.b_len (by decide +kernel) (pa_cons (pv 0) pa_nil)) (nomark _)) (pss_cons (ps_ret (pe_callTy call_int1 (by rfl) T.b_int (by decide +kernel) (pa_cons (pe_ix (r := rIxL K) ix_list (pv 0) (pv 1) (fun _ _ => rfl)) pa_nil))) pss_nil) pss_nil) (pss_cons (ps_ret pe_int) pss_nil)), ?_⟩
    have e := Ex.refl G
    -- if _law_k < len(_law_script)
    refine r_when e (ep_dec (ev_op (ev_var rfl) (ev_lenI (ev_var rfl) (by assumption)) rv_I0)) (fun hb1 H e e1 => ?_) (fun hb1 H e e1 => ?_)
    · -- return int(_law_script[_law_k])
      refine r_retI e (ev_int (ev_op (ev_var rfl) (ev_var rfl) (rv_ixI (by assumption) (by walk_at "sd") (by walk_at "sd")))) (by show _ = m_l_cell _ _; unfold m_l_cell; rw [if_pos hb1] <;> (first | rfl | (split <;> rfl) | (split <;> simp_all))) q
    -- return 0
    refine r_retI e ev_c (by show _ = m_l_cell _ _; unfold m_l_cell; rw [if_neg hb1] <;> (first | rfl | (split <;> rfl) | (split <;> simp_all))) q

/-! _law_signed -/
def m_l_signed (l_number : Int) (l_bits_here : Int) : Int :=
  (if ((1 * 2 ^ ((l_bits_here - 1) : Int).toNat) ≤ (l_number % (1 * 2 ^ (l_bits_here : Int).toNat))) then ((l_number % (1 * 2 ^ (l_bits_here : Int).toNat)) - (1 * 2 ^ (l_bits_here : Int).toNat)) else (l_number % (1 * 2 ^ (l_bits_here : Int).toNat)))
theorem sc_l_signed : FnScope ["_law_number", "_law_bits_here", "_law_low"] ["_law_number", "_law_bits_here"] (defScope s_l_signed) := ⟨rfl, rfl, rfl, by decide +kernel, rfl, by decide +kernel, by decide +kernel⟩
def sp_l_signed (K : PySem.W.Frag) : Sp := fun vs H Q _ => ∃ (l_number : Int) (l_bits_here : Int), vs = [.int l_number, .int l_bits_here] ∧ ((1 ≤ l_bits_here ∧ l_bits_here ≤ 64)) ∧ ∀ H1, Ex H H1 → Q (.int (m_l_signed l_number l_bits_here)) H1
theorem sv_l_signed {K : PySem.W.Frag} {H : Hp} {l_number : Int} {l_bits_here : Int} (h : ((1 ≤ l_bits_here ∧ l_bits_here ≤ 64))) : SpV (sp_l_signed K) [.int l_number, .int l_bits_here] H (.int (m_l_signed l_number l_bits_here)) := fun H1 e Q q _ => ⟨l_number, l_bits_here, rfl, h, q⟩
theorem ok_l_signed {f : Addr} {fd : FuncData} (F : Fun K "_law_signed" "_law_signed" s_l_signed f fd) (T : Tx w K mg ad)  : FnOk P w K mg base CX0 1 f fd ["_law_number", "_law_bits_here"] (sp_l_signed K) := by
  refine F.ok sc_l_signed (fun vs H Q E h => ?_) (fun cdv A outer s G vs Q E hr h => ?_)
  · obtain ⟨l_number, l_bits_here, rfl, _⟩ := h
    rfl
  · obtain ⟨l_number, l_bits_here, rfl, h, q⟩ := h
    refine ⟨_, (pss_cons (ps_set (i := 2) sc_l_signed.nd rfl (Or.inl rfl) (pe_op op_mod (pe_callTy call_int1 (by rfl) T.b_int (by decide +kernel) (pa_cons (pv 0) pa_nil)) (pe_op op_shl pe_int (pv 1)))) (pss_cut (ps_if (pt_cmpR op_ge (pv 2) (pe_op op_shl pe_int (pe_op op_sub (pv 1) pe_int)) (nomark _)) (pss_cons (ps_set (i := 2) sc_l_signed.nd rfl (Or.inl rfl) (pe_op op_sub (pv 2) (pe_op op_shl pe_int (pv 1)))) pss_nil) pss_nil) (pss_cons (ps_ret (pv 2)) pss_nil))), ?_⟩
    have e := Ex.refl G
    have hp : (0 : Int) < 1 * 2 ^ l_bits_here.toNat := by rw [Int.one_mul]; exact Int.pow_pos (by decide)
    -- _law_low = int(_law_number) % (1 << _law_bits_here)
    refine r_asg e (ev_op (ev_int (ev_var rfl)) (ev_op ev_c (ev_var rfl) (rv_I (by walk_at "sd"))) (rv_I (by walk_at "sd"))) fun H e e1 => ?_
    -- if _law_low >= 1 << _law_bits_here - 1
    refine r_ifJ e (ep_dec (ev_op (ev_var rfl) (ev_op ev_c (ev_op (ev_var rfl) ev_c rv_I0) (rv_I (by walk_at "sd"))) rv_I0)) (fun σ H => σ = [some (.int l_number), some (.int l_bits_here), some (.int (if ((1 * 2 ^ ((l_bits_here - 1) : Int).toNat) ≤ (l_number % (1 * 2 ^ (l_bits_here : Int).toNat))) then ((l_number % (1 * 2 ^ (l_bits_here : Int).toNat)) - (1 * 2 ^ (l_bits_here : Int).toNat)) else (l_number % (1 * 2 ^ (l_bits_here : Int).toNat))))] ∧ Ex G H) (fun hb1 H e e1 => ?_) (fun hb1 H e e1 => ?_) ?_
    · -- _law_low = _law_low - (1 << _law_bits_here)
      refine r_asg e (ev_op (ev_var rfl) (ev_op ev_c (ev_var rfl) (rv_I (by walk_at "sd"))) rv_I0) fun H e e1 => ?_
      exact r_next ⟨(by first | (rw [if_pos hb1]; done) | (rw [if_pos hb1]; rfl) | (simp only [if_pos hb1]; done) | (simp only [if_pos hb1]; rfl)), e⟩
    · exact r_next ⟨(by first | (rw [if_neg hb1]; done) | (rw [if_neg hb1]; rfl) | (simp only [if_neg hb1]; done) | (simp only [if_neg hb1]; rfl)), e⟩
    rintro σ H ⟨rfl, e⟩
    -- return _law_low
    refine r_retI e (ev_var rfl) (by show _ = m_l_signed _ _; unfold m_l_signed; (first | rfl | (split <;> rfl) | (split <;> simp_all))) q

/-! _law_value -/
def m_l_value (l_cell_here : Int) (l_bits_here : Int) : Int :=
  (m_l_signed (if ((l_cell_here % 4) = 2) then (((1 * 2 ^ ((l_bits_here - 1) : Int).toNat) - 2) + ((if ((l_cell_here % 4) = 1) then ((((if ((l_cell_here % 4) = 0) then (([0, 1, (-1), 2, (-2), 31, 32, 33, 63, 64, 127, (-128), 255, 32767, (-32768), 65535] : List Int).getD (((l_cell_here / 4) % 16) : Int).toNat 0) else (l_cell_here / 4)) * 982451653) * 15485867) + 32452843) else (if ((l_cell_here % 4) = 0) then (([0, 1, (-1), 2, (-2), 31, 32, 33, 63, 64, 127, (-128), 255, 32767, (-32768), 65535] : List Int).getD (((l_cell_here / 4) % 16) : Int).toNat 0) else (l_cell_here / 4))) % 5)) else (if ((l_cell_here % 4) = 1) then ((((if ((l_cell_here % 4) = 0) then (([0, 1, (-1), 2, (-2), 31, 32, 33, 63, 64, 127, (-128), 255, 32767, (-32768), 65535] : List Int).getD (((l_cell_here / 4) % 16) : Int).toNat 0) else (l_cell_here / 4)) * 982451653) * 15485867) + 32452843) else (if ((l_cell_here % 4) = 0) then (([0, 1, (-1), 2, (-2), 31, 32, 33, 63, 64, 127, (-128), 255, 32767, (-32768), 65535] : List Int).getD (((l_cell_here / 4) % 16) : Int).toNat 0) else (l_cell_here / 4)))) l_bits_here)
theorem sc_l_value : FnScope ["_law_cell_here", "_law_bits_here", "_law_edges", "_law_number"] ["_law_cell_here", "_law_bits_here"] (defScope s_l_value) := ⟨rfl, rfl, rfl, by decide +kernel, rfl, by decide +kernel, by decide +kernel⟩
def sp_l_value (K : PySem.W.Frag) : Sp := fun vs H Q _ => ∃ (l_cell_here : Int) (l_bits_here : Int), vs = [.int l_cell_here, .int l_bits_here] ∧ ((1 ≤ l_bits_here ∧ l_bits_here ≤ 64)) ∧ ∀ H1, Ex H H1 → Q (.int (m_l_value l_cell_here l_bits_here)) H1
theorem sv_l_value {K : PySem.W.Frag} {H : Hp} {l_cell_here : Int} {l_bits_here : Int} (h : ((1 ≤ l_bits_here ∧ l_bits_here ≤ 64))) : SpV (sp_l_value K) [.int l_cell_here, .int l_bits_here] H (.int (m_l_value l_cell_here l_bits_here)) := fun H1 e Q q _ => ⟨l_cell_here, l_bits_here, rfl, h, q⟩
theorem ok_l_value {f : Addr} {fd : FuncData} {d_l_signed : FuncData} (F : Fun K "_law_value" "_law_value" s_l_value f fd) (T : Tx w K mg ad) (O_l_signed : Df P w K mg base 1 "_law_signed" (ad 45) d_l_signed ["_law_number", "_law_bits_here"] (sp_l_signed K)) : FnOk P w K mg base CX0 2 f fd ["_law_cell_here", "_law_bits_here"] (sp_l_value K) := by
  refine F.ok sc_l_value (fun vs H Q E h => ?_) (fun cdv A outer s G vs Q E hr h => ?_)
  · obtain ⟨l_cell_here, l_bits_here, rfl, _⟩ := h
    rfl
  · obtain ⟨l_cell_here, l_bits_here, rfl, h, q⟩ := h
    refine ⟨_, (pss_cons (ps_set (i := 2) sc_l_value.nd rfl (Or.inl rfl) (pe_lst (pa_cons pe_int (pa_cons pe_int (pa_cons (pe_un un_neg pe_int) (pa_cons pe_int (pa_cons (pe_un un_neg pe_int) (pa_cons pe_int (pa_cons pe_int (pa_cons pe_int (pa_cons pe_int (pa_cons pe_int (pa_cons pe_int (pa_cons (pe_un un_neg pe_int) (pa_cons pe_int (pa_cons pe_int (pa_cons (pe_un un_neg pe_int) (pa_cons pe_int pa_nil)))))))))))))))))) (pss_cons (ps_set (i := 3) sc_l_value.nd rfl (Or.inl rfl) (pe_op op_fdiv (pv 0) pe_int)) (pss_cut (ps_if (pt_cmpR op_eq (pe_op op_mod (pe_callTy call_int1 (by rfl) T.b_int (by decide +kernel) (pa_cons (pv 0) pa_nil)) pe_int) pe_int (nomark _)) (pss_cons (ps_set (i := 3) sc_l_value.nd rfl (Or.inl rfl) (pe_ix (r := rIxL K) ix_list (pv 2) (pe_op op_mod (pe_callTy call_int1 (by rfl) T.b_int (by decide +kernel) (pa_cons (pv 3) pa_nil)) pe_int) (fun _ _ => rfl))) pss_nil) pss_nil) (pss_cut (ps_if (pt_cmpR op_eq (pe_op op_mod (pe_callTy call_int1 (by rfl) T.b_int (by decide +kernel) (pa_cons (pv 0) pa_nil)) pe_int) pe_int (nomark _)) (pss_cons (ps_set (i := 3) sc_l_value.nd rfl (Or.inl rfl) (pe_op op_add (pe_op op_mul (pe_op op_mul (pv 3) pe_int) pe_int) pe_int)) pss_nil) pss_nil) (pss_cut (ps_if (pt_cmpR op_eq (pe_op op_mod (pe_callTy call_int1 (by rfl) T.b_int (by decide +kernel) (pa_cons (pv 0) pa_nil)) pe_int) pe_int (nomark _)) (pss_cons (ps_set (i := 3) sc_l_value.nd rfl (Or.inl rfl) (pe_op op_add (pe_op op_sub (pe_op op_shl pe_int (pe_op op_sub (pv 1) pe_int)) pe_int) (pe_op op_mod (pe_callTy call_int1 (by rfl) T.b_int (by decide +kernel) (pa_cons (pv 3) pa_nil)) pe_int))) pss_nil) pss_nil) (pss_cons (ps_ret (cl O_l_signed (hr.mono (by decide)) rfl (pa_cons (pv 3) (pa_cons (pv 1) pa_nil)))) pss_nil)))))), ?_⟩
    have e := Ex.refl G
    -- _law_edges = [0, 1, -1, 2, -2, 31, 32, 33, 63, 64, 127, -128, 255, 32767, -32768, 65535]
    refine r_asgL e (el_lst (ea_cons ev_c (ea_cons ev_c (ea_cons (ev_un ev_c ru_neg) (ea_cons ev_c (ea_cons (ev_un ev_c ru_neg) (ea_cons ev_c (ea_cons ev_c (ea_cons ev_c (ea_cons ev_c (ea_cons ev_c (ea_cons ev_c (ea_cons (ev_un ev_c ru_neg) (ea_cons ev_c (ea_cons ev_c (ea_cons (ev_un ev_c ru_neg) (ea_cons ev_c ea_nil)))))))))))))))) (by walk_at "sd")) fun p_l_edges G2 hp e2 e1 hl_l_edges => ?_
    have q := q_mv e2 q
    have e := Ex.refl G2
    have hs_l_edges := sq_of (K := K) hl_l_edges
    have hs_l_edges : SqL K G2 p_l_edges (([0, 1, (-1), 2, (-2), 31, 32, 33, 63, 64, 127, (-128), 255, 32767, (-32768), 65535] : List Int).map V.int) := hs_l_edges
    -- _law_number = _law_cell_here // 4
    refine r_asg e (ev_op (ev_var rfl) ev_c (rv_I (by walk_at "sd"))) fun H e e1 => ?_
    -- if int(_law_cell_here) % 4 == 0
    refine r_ifJ e (ep_dec (ev_op (ev_op (ev_int (ev_var rfl)) ev_c (rv_I (by walk_at "sd"))) ev_c rv_eqI)) (fun σ H => σ = [some (.int l_cell_here), some (.int l_bits_here), some (.ref p_l_edges), some (.int (if ((l_cell_here % 4) = 0) then (([0, 1, (-1), 2, (-2), 31, 32, 33, 63, 64, 127, (-128), 255, 32767, (-32768), 65535] : List Int).getD (((l_cell_here / 4) % 16) : Int).toNat 0) else (l_cell_here / 4)))] ∧ Ex G2 H) (fun hb1 H e e1 => ?_) (fun hb1 H e e1 => ?_) ?_
    · -- _law_number = _law_edges[int(_law_number) % 16]
      refine r_asg e (ev_op (ev_var rfl) (ev_op (ev_int (ev_var rfl)) ev_c (rv_I (by walk_at "sd"))) (rv_ixI (by assumption) (by walk_at "sd") (by walk_at "sd"))) fun H e e1 => ?_
      exact r_next ⟨(by first | (rw [if_pos hb1]; done) | (rw [if_pos hb1]; rfl) | (simp only [if_pos hb1]; done) | (simp only [if_pos hb1]; rfl)), e⟩
    · exact r_next ⟨(by first | (rw [if_neg hb1]; done) | (rw [if_neg hb1]; rfl) | (simp only [if_neg hb1]; done) | (simp only [if_neg hb1]; rfl)), e⟩
    rintro σ H ⟨rfl, e⟩
    -- if int(_law_cell_here) % 4 == 1
    refine r_ifJ e (ep_dec (ev_op (ev_op (ev_int (ev_var rfl)) ev_c (rv_I (by walk_at "sd"))) ev_c rv_eqI)) (fun σ H => σ = [some (.int l_cell_here), some (.int l_bits_here), some (.ref p_l_edges), some (.int (if ((l_cell_here % 4) = 1) then ((((if ((l_cell_here % 4) = 0) then (([0, 1, (-1), 2, (-2), 31, 32, 33, 63, 64, 127, (-128), 255, 32767, (-32768), 65535] : List Int).getD (((l_cell_here / 4) % 16) : Int).toNat 0) else (l_cell_here / 4)) * 982451653) * 15485867) + 32452843) else (if ((l_cell_here % 4) = 0) then (([0, 1, (-1), 2, (-2), 31, 32, 33, 63, 64, 127, (-128), 255, 32767, (-32768), 65535] : List Int).getD (((l_cell_here / 4) % 16) : Int).toNat 0) else (l_cell_here / 4))))] ∧ Ex G2 H) (fun hb2 H e e1 => ?_) (fun hb2 H e e1 => ?_) ?_
    · -- _law_number = _law_number * 982451653 * 15485867 + 32452843
      refine r_asg e (ev_op (ev_op (ev_op (ev_var rfl) ev_c (rv_I (by walk_at "sd"))) ev_c (rv_I (by walk_at "sd"))) ev_c rv_I0) fun H e e1 => ?_
      exact r_next ⟨(by first | (rw [if_pos hb2]; done) | (rw [if_pos hb2]; rfl) | (simp only [if_pos hb2]; done) | (simp only [if_pos hb2]; rfl)), e⟩
    · exact r_next ⟨(by first | (rw [if_neg hb2]; done) | (rw [if_neg hb2]; rfl) | (simp only [if_neg hb2]; done) | (simp only [if_neg hb2]; rfl)), e⟩
    rintro σ H ⟨rfl, e⟩
    -- if int(_law_cell_here) % 4 == 2
    refine r_ifJ e (ep_dec (ev_op (ev_op (ev_int (ev_var rfl)) ev_c (rv_I (by walk_at "sd"))) ev_c rv_eqI)) (fun σ H => σ = [some (.int l_cell_here), some (.int l_bits_here), some (.ref p_l_edges), some (.int (if ((l_cell_here % 4) = 2) then (((1 * 2 ^ ((l_bits_here - 1) : Int).toNat) - 2) + ((if ((l_cell_here % 4) = 1) then ((((if ((l_cell_here % 4) = 0) then (([0, 1, (-1), 2, (-2), 31, 32, 33, 63, 64, 127, (-128), 255, 32767, (-32768), 65535] : List Int).getD (((l_cell_here / 4) % 16) : Int).toNat 0) else (l_cell_here / 4)) * 982451653) * 15485867) + 32452843) else (if ((l_cell_here % 4) = 0) then (([0, 1, (-1), 2, (-2), 31, 32, 33, 63, 64, 127, (-128), 255, 32767, (-32768), 65535] : List Int).getD (((l_cell_here / 4) % 16) : Int).toNat 0) else (l_cell_here / 4))) % 5)) else (if ((l_cell_here % 4) = 1) then ((((if ((l_cell_here % 4) = 0) then (([0, 1, (-1), 2, (-2), 31, 32, 33, 63, 64, 127, (-128), 255, 32767, (-32768), 65535] : List Int).getD (((l_cell_here / 4) % 16) : Int).toNat 0) else (l_cell_here / 4)) * 982451653) * 15485867) + 32452843) else (if ((l_cell_here % 4) = 0) then (([0, 1, (-1), 2, (-2), 31, 32, 33, 63, 64, 127, (-128), 255, 32767, (-32768), 65535] : List Int).getD (((l_cell_here / 4) % 16) : Int).toNat 0) else (l_cell_here / 4)))))] ∧ Ex G2 H) (fun hb3 H e e1 => ?_) (fun hb3 H e e1 => ?_) ?_
    · -- _law_number = (1 << _law_bits_here - 1) - 2 + int(_law_number) % 5
      refine r_asg e (ev_op (ev_op (ev_op ev_c (ev_op (ev_var rfl) ev_c rv_I0) (rv_I (by walk_at "sd"))) ev_c rv_I0) (ev_op (ev_int (ev_var rfl)) ev_c (rv_I (by walk_at "sd"))) rv_I0) fun H e e1 => ?_
      exact r_next ⟨(by first | (rw [if_pos hb3]; done) | (rw [if_pos hb3]; rfl) | (simp only [if_pos hb3]; done) | (simp only [if_pos hb3]; rfl)), e⟩
    · exact r_next ⟨(by first | (rw [if_neg hb3]; done) | (rw [if_neg hb3]; rfl) | (simp only [if_neg hb3]; done) | (simp only [if_neg hb3]; rfl)), e⟩
    rintro σ H ⟨rfl, e⟩
    -- return _law_signed(_law_number, _law_bits_here)
    refine r_retI e (ev_call (ea_cons (ev_var rfl) (ea_cons (ev_var rfl) ea_nil)) (sv_l_signed (by walk_at "sd"))) (by show _ = m_l_value _ _; unfold m_l_value; (first | rfl | (split <;> rfl) | (split <;> simp_all))) q

/-! _law_bits -/
def m_l_bits (v b : Int) : List Int := brow (v % (1 * 2 ^ b.toNat)) b.toNat
theorem sc_l_bits : FnScope ["_law_value_here", "_law_bits_here", "_law_low", "_law_j"] ["_law_value_here", "_law_bits_here"] (defScope s_l_bits) := ⟨rfl, rfl, rfl, by decide +kernel, rfl, by decide +kernel, by decide +kernel⟩
def sp_l_bits (K : PySem.W.Frag) : Sp := fun vs H Q _ => ∃ (l_value_here : Int) (l_bits_here : Int), vs = [.int l_value_here, .int l_bits_here] ∧ ((1 ≤ l_bits_here ∧ l_bits_here ≤ 64)) ∧ ∀ p H1, H p = none → Ex H H1 → H1 p = some (.lst ((m_l_bits l_value_here l_bits_here).map V.int)) → Q (.ref p) H1
theorem sv_l_bits {K : PySem.W.Frag} {H : Hp} {l_value_here : Int} {l_bits_here : Int} (h : ((1 ≤ l_bits_here ∧ l_bits_here ≤ 64))) : SpL (sp_l_bits K) [.int l_value_here, .int l_bits_here] H ((m_l_bits l_value_here l_bits_here).map V.int) := fun H1 e Q q _ => ⟨l_value_here, l_bits_here, rfl, h, q⟩
theorem ok_l_bits {f : Addr} {fd : FuncData} (F : Fun K "_law_bits" "_law_bits" s_l_bits f fd) (T : Tx w K mg ad)  : FnOk P w K mg base CX0 1 f fd ["_law_value_here", "_law_bits_here"] (sp_l_bits K) := by
  refine F.ok sc_l_bits (fun vs H Q E h => ?_) (fun cdv A outer s G vs Q E hr h => ?_)
  · obtain ⟨l_value_here, l_bits_here, rfl, _⟩ := h
    rfl
  · obtain ⟨l_value_here, l_bits_here, rfl, h, q⟩ := h
    refine ⟨_, (pss_cons (ps_set (i := 2) sc_l_bits.nd rfl (Or.inr rfl) (pe_op op_mod (pe_callTy call_int1 (by rfl) T.b_int (by decide +kernel) (pa_cons (pv 0) pa_nil)) (pe_op op_shl pe_int (pv 1)))) (pss_cons (ps_ret (pe_lc (own := [("_law_j", 3)]) (g := gName 3) (tt := tYes) rfl sc_l_bits.nd (pi_range1 (by rfl) T.b_range (pa_cons (pv 1) pa_nil)) (blkOk_by (N := ["_law_value_here", "_law_bits_here", "_law_low", "_law_j"]) (sc := defScope s_l_bits) (by decide +kernel)) (fun _ _ _ _ _ => pg_name (i := 3) sc_l_bits.nd rfl (Or.inl rfl)) (fun _ _ _ _ _ => pts_nil) (fun _ _ _ _ _ => (pe_op op_mod (pe_callTy call_int1 (by rfl) T.b_int (by decide +kernel) (pa_cons (pe_op op_shr (pv 2) (pv 3)) pa_nil)) pe_int)))) pss_nil)), ?_⟩
    have e := Ex.refl G
    have hp : (0 : Int) < 1 * 2 ^ l_bits_here.toNat := by rw [Int.one_mul]; exact Int.pow_pos (by decide)
    -- _law_low = int(_law_value_here) % (1 << _law_bits_here)
    refine r_asg e (ev_op (ev_int (ev_var rfl)) (ev_op ev_c (ev_var rfl) (rv_I (by walk_at "sd"))) (rv_I (by walk_at "sd"))) fun H e e1 => ?_
    -- return [int(_law_low >> _law_j) % 2 for _law_j in range(_law_bits_here)]
    refine r_retL e (el_lcR (fun i => .int ((l_value_here % (1 * 2 ^ l_bits_here.toNat)) / 2 ^ ((i : Int)).toNat % 2)) (ea_cons (ev_var rfl) ea_nil) (by walk_at "sd") (fun _ => rfl) (fun i hi => (ev_op (ev_int (ev_op (ev_var rfl) (ev_var rfl) (rv_I (by walk_at "sd")))) ev_c (rv_I (by walk_at "sd"))))) fun p H hp e hl => ?_
    have hq : (m_l_bits l_value_here l_bits_here).map V.int = (List.range l_bits_here.toNat).map (fun (i : Nat) => V.int ((l_value_here % (1 * 2 ^ l_bits_here.toNat)) / 2 ^ ((i : Int)).toNat % 2)) := by
      unfold m_l_bits brow
      rw [List.map_map]
      rfl
    rw [← hq] at hl
    exact q _ _ hp e hl

/-! _law_zeros -/
def m_l_zeros (ns : List Int) : Int := (fz ns : Int)
theorem sc_l_zeros : FnScope ["_law_row", "_law_count", "_law_bit"] ["_law_row"] (defScope s_l_zeros) := ⟨rfl, rfl, rfl, by decide +kernel, rfl, by decide +kernel, by decide +kernel⟩
def sp_l_zeros (K : PySem.W.Frag) : Sp := fun vs H Q _ => ∃ (l_row : Addr) (ns_l_row : List Int), vs = [.ref l_row] ∧ (SqL K H l_row (ns_l_row.map V.int) ∧ ns_l_row.length ≤ 64) ∧ ∀ H1, Ex H H1 → Q (.int (m_l_zeros ns_l_row)) H1
theorem sv_l_zeros {K : PySem.W.Frag} {H : Hp} {l_row : Addr} {ns_l_row : List Int} (h : (SqL K H l_row (ns_l_row.map V.int) ∧ ns_l_row.length ≤ 64)) : SpV (sp_l_zeros K) [.ref l_row] H (.int (m_l_zeros ns_l_row)) := fun H1 e Q q _ => ⟨l_row, ns_l_row, rfl, ⟨ex_l e h.1, h.2⟩, q⟩
theorem ok_l_zeros {f : Addr} {fd : FuncData} (F : Fun K "_law_zeros" "_law_zeros" s_l_zeros f fd) (T : Tx w K mg ad)  : FnOk P w K mg base CX0 1 f fd ["_law_row"] (sp_l_zeros K) := by
  refine F.ok sc_l_zeros (fun vs H Q E h => ?_) (fun cdv A outer s G vs Q E hr h => ?_)
  · obtain ⟨l_row, ns_l_row, rfl, _⟩ := h
    rfl
  · obtain ⟨l_row, ns_l_row, rfl, ⟨hs_l_row, h⟩, q⟩ := h
    refine ⟨_, (pss_cons (ps_set (i := 1) sc_l_zeros.nd rfl (Or.inl rfl) pe_int) (pss_cons (ps_for PassesOwn.never rfl (pi_list (pv 0)) (pg_name (i := 2) sc_l_zeros.nd rfl (Or.inl rfl)) (pss_cons (ps_if (pt_cmpR op_eq (pv 2) pe_int (nomark _)) (pss_cons (ps_ret (pv 1)) pss_nil) pss_nil) (pss_cons (ps_set (i := 1) sc_l_zeros.nd rfl (Or.inl rfl) (pe_op op_add (pv 1) pe_int)) pss_nil))) (pss_cons (ps_ret (pv 1)) pss_nil))), ?_⟩
    have e := Ex.refl G
    refine r_asg e ev_c fun H e e1 => ?_
    refine r_forLM e (ev_var rfl) hs_l_row (fun i σ H => ∃ (o_l_bit : Option V), σ = [some (.ref l_row), some (.int (i : Int)), o_l_bit] ∧ Ex G H ∧ ∀ j, j < i → ¬ ns_l_row[j]? = some 1) (fun _ _ _ h => by obtain ⟨o_l_bit, _, e, _⟩ := h; exact e) (fun H2 e2 => ⟨_, rfl, e.trans e2, fun j h => absurd h (Nat.not_lt_zero _)⟩) (fun i x σ H hi hI => ?_) (fun σ H hI => ?_)
    · obtain ⟨o_l_bit, rfl, e, hz⟩ := hI
      have hil := (List.getElem?_eq_some_iff.mp hi).1
      refine r_when e (ep_dec (ev_op (ev_var rfl) ev_c rv_eqI)) (fun hb1 H e e1 => ?_) (fun hb1 H e e1 => ?_)
      · exact r_retI e (ev_var rfl) (by unfold m_l_zeros; rw [fz_at _ i (by omega) hz (Or.inr (by rw [hi, hb1]))]) q
      refine r_asg e (ev_op (ev_var rfl) ev_c rv_I0) fun H e e1 => ?_
      refine ⟨_, rfl, e, fun j hj => ?_⟩
      by_cases g : j = i
      · subst g
        rw [hi]
        exact fun z => hb1 (Option.some.inj z)
      · exact hz j (by omega)
    obtain ⟨o_l_bit, rfl, e, hz⟩ := hI
    exact r_retI e (ev_var rfl) (by unfold m_l_zeros; rw [fz_at _ _ (Nat.le_refl _) hz (Or.inl rfl)]) q

/-! _law_due -/
def m_l_due (w : Str) (row : List Int) : Int := if w = "clz" then m_l_zeros row.reverse else if w = "ctz" then m_l_zeros row else ((row.filter fun x => decide (x = 1)).length : Int)
theorem sc_l_due : FnScope ["_law_word", "_law_row", "_law_bit"] ["_law_word", "_law_row"] (defScope s_l_due) := ⟨rfl, rfl, rfl, by decide +kernel, rfl, by decide +kernel, by decide +kernel⟩
def sp_l_due (K : PySem.W.Frag) : Sp := fun vs H Q _ => ∃ (l_word : Str) (l_row : Addr) (ns_l_row : List Int), vs = [.str l_word, .ref l_row] ∧ (SqL K H l_row (ns_l_row.map V.int) ∧ ns_l_row.length ≤ 64) ∧ ∀ H1, Ex H H1 → Q (.int (m_l_due l_word ns_l_row)) H1
theorem sv_l_due {K : PySem.W.Frag} {H : Hp} {l_word : Str} {l_row : Addr} {ns_l_row : List Int} (h : (SqL K H l_row (ns_l_row.map V.int) ∧ ns_l_row.length ≤ 64)) : SpV (sp_l_due K) [.str l_word, .ref l_row] H (.int (m_l_due l_word ns_l_row)) := fun H1 e Q q _ => ⟨l_word, l_row, ns_l_row, rfl, ⟨ex_l e h.1, h.2⟩, q⟩
theorem ok_l_due {f : Addr} {fd : FuncData} {d_l_zeros : FuncData} (F : Fun K "_law_due" "_law_due" s_l_due f fd) (T : Tx w K mg ad) (O_l_zeros : Df P w K mg base 1 "_law_zeros" (ad 48) d_l_zeros ["_law_row"] (sp_l_zeros K)) : FnOk P w K mg base CX0 2 f fd ["_law_word", "_law_row"] (sp_l_due K) := by
  refine F.ok sc_l_due (fun vs H Q E h => ?_) (fun cdv A outer s G vs Q E hr h => ?_)
  · obtain ⟨l_word, l_row, ns_l_row, rfl, _⟩ := h
    rfl
  · obtain ⟨l_word, l_row, ns_l_row, rfl, ⟨hs_l_row, h⟩, q⟩ := h
    refine ⟨_, (pss_cons (ps_if (pt_cmpR op_eq (pv 0) pe_str (nomark _)) (pss_cons (ps_ret (cl O_l_zeros (hr.mono (by decide)) rfl (pa_cons (pe_revL (pv 1)) pa_nil))) pss_nil) pss_nil) (pss_cons (ps_if (pt_cmpR op_eq (pv 0) pe_str (nomark _)) (pss_cons (ps_ret (cl O_l_zeros (hr.mono (by decide)) rfl (pa_cons (pv 1) pa_nil))) pss_nil) pss_nil) (pss_cons (ps_ret (pe_callB (r := rLenS K) call_len_seq (by rfl) T.b_len (by decide +kernel) (pa_cons (pe_lc (own := [("_law_bit", 2)]) (g := gName 2) rfl sc_l_due.nd (pi_list (pv 1)) (blkOk_by (N := ["_law_word", "_law_row", "_law_bit"]) (sc := defScope s_l_due) (by decide +kernel)) (fun _ _ _ _ _ => pg_name (i := 2) sc_l_due.nd rfl (Or.inl rfl)) (fun _ _ _ _ _ => pts_one (pt_cmpR op_eq (pv 2) pe_int (nomark _))) (fun _ _ _ _ _ => (pv 2))) pa_nil))) pss_nil))), ?_⟩
    have e := Ex.refl G
    refine r_when e (ep_dec (ev_op (ev_var rfl) ev_c rv_eqS)) (fun hb1 H e e1 => ?_) (fun hb1 H e e1 => ?_)
    · exact r_retI e (ev_callX (eax_L (el_revI (ev_var rfl) (by assumption)) eax_nil) (fun vs H1 e h2 => by obtain ⟨_, _, rfl, ha0, rfl⟩ := h2; exact sv_l_zeros ⟨(sq_of ha0), by rw [List.length_reverse]; exact h⟩)) (by unfold m_l_due; rw [if_pos hb1]) q
    refine r_when e (ep_dec (ev_op (ev_var rfl) ev_c rv_eqS)) (fun hb2 H e e1 => ?_) (fun hb2 H e e1 => ?_)
    · exact r_retI e (ev_call (ea_cons (ev_var rfl) ea_nil) (sv_l_zeros ⟨(by walk_at "sq"), h⟩)) (by unfold m_l_due; rw [if_neg hb1, if_pos hb2]) q
    exact r_retI e (ev_lenN (el_lcIF (fun n => decide (n = 1)) (fun n => .int n) (ev_var rfl) (by assumption) (by omega) (fun _ => rfl) (fun n hn => (et_p (ep_dec (ev_op (ev_var rfl) ev_c rv_eqI)))) (fun n hn => (ev_var rfl)))) (by unfold m_l_due; rw [if_neg hb1, if_neg hb2, List.length_map]) q

/-! _law_told -/
def m_l_told (name : Str) (v due : Int) : Bool := decide (m_calc name v = due)
theorem sc_l_told : FnScope ["_law_name", "_law_operand", "_law_due_here", "_law_told_here"] ["_law_name", "_law_operand", "_law_due_here"] (defScope s_l_told) := ⟨rfl, rfl, rfl, by decide +kernel, rfl, by decide +kernel, by decide +kernel⟩
def sp_l_told (K : PySem.W.Frag) : Sp := fun vs H Q _ => ∃ (l_name : Str) (l_operand : Int) (l_due_here : Int), vs = [.str l_name, .int l_operand, .int l_due_here] ∧ ((l_name ∈ names14 ∧ OpsOk (m_sigp l_name) [l_operand])) ∧ ∀ H1, Ex H H1 → Q (.bl (m_l_told l_name l_operand l_due_here)) H1
theorem sv_l_told {K : PySem.W.Frag} {H : Hp} {l_name : Str} {l_operand : Int} {l_due_here : Int} (h : ((l_name ∈ names14 ∧ OpsOk (m_sigp l_name) [l_operand]))) : SpV (sp_l_told K) [.str l_name, .int l_operand, .int l_due_here] H (.bl (m_l_told l_name l_operand l_due_here)) := fun H1 e Q q _ => ⟨l_name, l_operand, l_due_here, rfl, h, q⟩
theorem ok_l_told {f : Addr} {fd : FuncData} {d_calculate : FuncData} {d_l_is_integer : FuncData} (F : Fun K "_law_told" "_law_told" s_l_told f fd) (T : Tx w K mg ad) (O_calculate : Df P w K mg base 5 "calculate" (ad 42) d_calculate ["name", "operands"] (sp_calculate K)) (O_l_is_integer : Df P w K mg base 1 "_law_is_integer" (ad 43) d_l_is_integer ["_law_actual"] (sp_l_is_integer K)) : FnOk P w K mg base CX0 6 f fd ["_law_name", "_law_operand", "_law_due_here"] (sp_l_told K) := by
  refine F.ok sc_l_told (fun vs H Q E h => ?_) (fun cdv A outer s G vs Q E hr h => ?_)
  · obtain ⟨l_name, l_operand, l_due_here, rfl, _⟩ := h
    rfl
  · obtain ⟨l_name, l_operand, l_due_here, rfl, h, q⟩ := h
    refine ⟨_, (pss_cons (ps_set (i := 3) sc_l_told.nd rfl (Or.inl rfl) (cl O_calculate (hr.mono (by decide)) rfl (pa_cons (pv 0) (pa_cons (pe_tup (pa_cons (pv 1) pa_nil)) pa_nil)))) (pss_cons (ps_ret (pe_and (cl O_l_is_integer (hr.mono (by decide)) rfl (pa_cons (pv 3) pa_nil)) (pe_one (pe_cmpR op_eq (pv 3) (pv 2) (nomark _))))) pss_nil)), ?_⟩
    have e := Ex.refl G
    -- _law_told_here = calculate(_law_name, (_law_operand,))
    refine r_asg e (ev_callX (eax_V (ev_var rfl) (eax_U (eu_tup (ea_cons (ev_var rfl) ea_nil) (by walk_at "sd")) eax_nil)) (fun vs H1 e h2 => by obtain ⟨_, rfl, _, _, rfl, ha1, rfl⟩ := h2; exact sv_calculate ⟨st_of ha1, by assumption⟩)) fun H e e1 => ?_
    -- return _law_is_integer(_law_told_here) and _law_told_here == _law_due_here
    exact r_retB e (ev_andV (ev_call (ea_cons (ev_var rfl) ea_nil) (sv_l_is_integer (by walk_at "sd"))) (fun hb => (ev_op (ev_var rfl) (ev_var rfl) rv_eqI))) rfl q

/-! _law_counts -/
theorem lsg (n b : Int) : m_l_signed n b = sg n b := by
  unfold m_l_signed sg
  rw [Int.one_mul, Int.one_mul]
theorem val_ok {k : Str} {b : Int} (h : (k = "i32" ∧ b = 32) ∨ (k = "i64" ∧ b = 64)) (n : Int) : InK k (m_l_signed n b) := by
  rw [lsg]
  exact inK_sg h n
theorem inK_id {k : Str} {b : Int} (h : (k = "i32" ∧ b = 32) ∨ (k = "i64" ∧ b = 64)) {n : Int} (hn : InK k n) : sg n b = n := by
  unfold InK m_in_range at hn
  rw [si_eq h] at hn
  exact of_decide_eq_true hn
def kinds2 : List Str := ["i32", "i64"]
theorem kd2 {k : Str} {b : Int} (h : (k = "i32" ∧ b = 32) ∨ (k = "i64" ∧ b = 64)) : k ∈ kinds2 := by
  rcases h with ⟨rfl, rfl⟩ | ⟨rfl, rfl⟩
  · exact List.Mem.head _
  · exact List.Mem.tail _ (List.Mem.head _)
def ws3 : List Str := ["clz", "ctz", "popcnt"]
def nm (k w : Str) : Str := (k ++ ("." : Str)) ++ w
def exn (k : Str) (n : Int) : Str := ((k ++ (".extend" : Str)) ++ Str.ofString (toString n)) ++ ("_s" : Str)
theorem nm3 : ∀ k ∈ kinds2, ∀ w ∈ ws3, nm k w ∈ names14 ∧ m_sigp (nm k w) = [k] ∧ (k ++ ("." : Str)).length + w.length ≤ 100 ∧ k.length + ("." : Str).length ≤ 100 := by decide +kernel
theorem nm8 : ∀ k ∈ kinds2, ∀ n ∈ ([8, 16] : List Int), exn k n ∈ names14 ∧ m_sigp (exn k n) = [k] ∧ k.length + (".extend" : Str).length ≤ 100 ∧ (k ++ (".extend" : Str)).length + (Str.ofString (toString n)).length ≤ 100 ∧ ((k ++ (".extend" : Str)) ++ Str.ofString (toString n)).length + ("_s" : Str).length ≤ 100 ∧ n.natAbs.log2 + 1 ≤ 1920 ∧ 1 ≤ n ∧ n ≤ 64 := by decide +kernel
theorem lb_brow (v b : Int) : m_l_bits v b = brow v b.toNat := by
  unfold m_l_bits
  rw [Int.one_mul]
  exact brow_low v _
theorem c_i32_clz (v : Int) : m_calc "i32.clz" v = m_clz "i32" v := by
  unfold m_calc
  rw [if_neg (by decide +kernel : ¬ ("i32.clz" : Str) ∈ kk_CONVERSIONS), if_neg (by decide +kernel : ¬ m_wd "i32.clz" = "extend32_s"), if_pos (by decide +kernel : m_wd "i32.clz" = "clz"), show m_kd "i32.clz" = "i32" from by decide +kernel]
theorem c_i32_ctz (v : Int) : m_calc "i32.ctz" v = m_ctz "i32" v := by
  unfold m_calc
  rw [if_neg (by decide +kernel : ¬ ("i32.ctz" : Str) ∈ kk_CONVERSIONS), if_neg (by decide +kernel : ¬ m_wd "i32.ctz" = "extend32_s"), if_neg (by decide +kernel : ¬ m_wd "i32.ctz" = "clz"), if_pos (by decide +kernel : m_wd "i32.ctz" = "ctz"), show m_kd "i32.ctz" = "i32" from by decide +kernel]
theorem c_i32_popcnt (v : Int) : m_calc "i32.popcnt" v = m_popcnt "i32" v := by
  unfold m_calc
  rw [if_neg (by decide +kernel : ¬ ("i32.popcnt" : Str) ∈ kk_CONVERSIONS), if_neg (by decide +kernel : ¬ m_wd "i32.popcnt" = "extend32_s"), if_neg (by decide +kernel : ¬ m_wd "i32.popcnt" = "clz"), if_neg (by decide +kernel : ¬ m_wd "i32.popcnt" = "ctz"), if_pos (by decide +kernel : m_wd "i32.popcnt" = "popcnt"), show m_kd "i32.popcnt" = "i32" from by decide +kernel]
theorem c_i32_extend8_s (v : Int) : m_calc "i32.extend8_s" v = m_extend8_s "i32" v := by
  unfold m_calc
  rw [if_neg (by decide +kernel : ¬ ("i32.extend8_s" : Str) ∈ kk_CONVERSIONS), if_neg (by decide +kernel : ¬ m_wd "i32.extend8_s" = "extend32_s"), if_neg (by decide +kernel : ¬ m_wd "i32.extend8_s" = "clz"), if_neg (by decide +kernel : ¬ m_wd "i32.extend8_s" = "ctz"), if_neg (by decide +kernel : ¬ m_wd "i32.extend8_s" = "popcnt"), if_pos (by decide +kernel : m_wd "i32.extend8_s" = "extend8_s"), show m_kd "i32.extend8_s" = "i32" from by decide +kernel]
theorem c_i32_extend16_s (v : Int) : m_calc "i32.extend16_s" v = m_extend16_s "i32" v := by
  unfold m_calc
  rw [if_neg (by decide +kernel : ¬ ("i32.extend16_s" : Str) ∈ kk_CONVERSIONS), if_neg (by decide +kernel : ¬ m_wd "i32.extend16_s" = "extend32_s"), if_neg (by decide +kernel : ¬ m_wd "i32.extend16_s" = "clz"), if_neg (by decide +kernel : ¬ m_wd "i32.extend16_s" = "ctz"), if_neg (by decide +kernel : ¬ m_wd "i32.extend16_s" = "popcnt"), if_neg (by decide +kernel : ¬ m_wd "i32.extend16_s" = "extend8_s"), show m_kd "i32.extend16_s" = "i32" from by decide +kernel]
theorem c_i64_clz (v : Int) : m_calc "i64.clz" v = m_clz "i64" v := by
  unfold m_calc
  rw [if_neg (by decide +kernel : ¬ ("i64.clz" : Str) ∈ kk_CONVERSIONS), if_neg (by decide +kernel : ¬ m_wd "i64.clz" = "extend32_s"), if_pos (by decide +kernel : m_wd "i64.clz" = "clz"), show m_kd "i64.clz" = "i64" from by decide +kernel]
theorem c_i64_ctz (v : Int) : m_calc "i64.ctz" v = m_ctz "i64" v := by
  unfold m_calc
  rw [if_neg (by decide +kernel : ¬ ("i64.ctz" : Str) ∈ kk_CONVERSIONS), if_neg (by decide +kernel : ¬ m_wd "i64.ctz" = "extend32_s"), if_neg (by decide +kernel : ¬ m_wd "i64.ctz" = "clz"), if_pos (by decide +kernel : m_wd "i64.ctz" = "ctz"), show m_kd "i64.ctz" = "i64" from by decide +kernel]
theorem c_i64_popcnt (v : Int) : m_calc "i64.popcnt" v = m_popcnt "i64" v := by
  unfold m_calc
  rw [if_neg (by decide +kernel : ¬ ("i64.popcnt" : Str) ∈ kk_CONVERSIONS), if_neg (by decide +kernel : ¬ m_wd "i64.popcnt" = "extend32_s"), if_neg (by decide +kernel : ¬ m_wd "i64.popcnt" = "clz"), if_neg (by decide +kernel : ¬ m_wd "i64.popcnt" = "ctz"), if_pos (by decide +kernel : m_wd "i64.popcnt" = "popcnt"), show m_kd "i64.popcnt" = "i64" from by decide +kernel]
theorem c_i64_extend8_s (v : Int) : m_calc "i64.extend8_s" v = m_extend8_s "i64" v := by
  unfold m_calc
  rw [if_neg (by decide +kernel : ¬ ("i64.extend8_s" : Str) ∈ kk_CONVERSIONS), if_neg (by decide +kernel : ¬ m_wd "i64.extend8_s" = "extend32_s"), if_neg (by decide +kernel : ¬ m_wd "i64.extend8_s" = "clz"), if_neg (by decide +kernel : ¬ m_wd "i64.extend8_s" = "ctz"), if_neg (by decide +kernel : ¬ m_wd "i64.extend8_s" = "popcnt"), if_pos (by decide +kernel : m_wd "i64.extend8_s" = "extend8_s"), show m_kd "i64.extend8_s" = "i64" from by decide +kernel]
theorem c_i64_extend16_s (v : Int) : m_calc "i64.extend16_s" v = m_extend16_s "i64" v := by
  unfold m_calc
  rw [if_neg (by decide +kernel : ¬ ("i64.extend16_s" : Str) ∈ kk_CONVERSIONS), if_neg (by decide +kernel : ¬ m_wd "i64.extend16_s" = "extend32_s"), if_neg (by decide +kernel : ¬ m_wd "i64.extend16_s" = "clz"), if_neg (by decide +kernel : ¬ m_wd "i64.extend16_s" = "ctz"), if_neg (by decide +kernel : ¬ m_wd "i64.extend16_s" = "popcnt"), if_neg (by decide +kernel : ¬ m_wd "i64.extend16_s" = "extend8_s"), show m_kd "i64.extend16_s" = "i64" from by decide +kernel]
theorem c_i64_extend32_s (v : Int) : m_calc "i64.extend32_s" v = m_extend32_s "i64" v := by
  unfold m_calc
  rw [if_neg (by decide +kernel : ¬ ("i64.extend32_s" : Str) ∈ kk_CONVERSIONS), if_pos (by decide +kernel : m_wd "i64.extend32_s" = "extend32_s"), show m_kd "i64.extend32_s" = "i64" from by decide +kernel]
theorem c_i32_wrap_i64 (v : Int) : m_calc "i32.wrap_i64" v = m_extend32_s "i32" v := by
  unfold m_calc
  rw [if_pos (by decide +kernel : ("i32.wrap_i64" : Str) ∈ kk_CONVERSIONS), if_neg (by decide +kernel : ¬ ("i32.wrap_i64" : Str) = "i64.extend_i32_u"), show m_kd "i32.wrap_i64" = "i32" from by decide +kernel]
theorem c_i64_extend_i32_s (v : Int) : m_calc "i64.extend_i32_s" v = m_extend32_s "i64" v := by
  unfold m_calc
  rw [if_pos (by decide +kernel : ("i64.extend_i32_s" : Str) ∈ kk_CONVERSIONS), if_neg (by decide +kernel : ¬ ("i64.extend_i32_s" : Str) = "i64.extend_i32_u"), show m_kd "i64.extend_i32_s" = "i64" from by decide +kernel]
theorem c_i64_extend_i32_u (v : Int) : m_calc "i64.extend_i32_u" v = m_extend_u "i64" v := by
  unfold m_calc
  rw [if_pos (by decide +kernel : ("i64.extend_i32_u" : Str) ∈ kk_CONVERSIONS), if_pos rfl, show m_kd "i64.extend_i32_u" = "i64" from by decide +kernel]
theorem cnt_due {k : Str} {b : Int} (h : (k = "i32" ∧ b = 32) ∨ (k = "i64" ∧ b = 64)) (v : Int) {w : Str} (hw : w ∈ ws3) : m_calc (nm k w) v = m_l_due w (m_l_bits v b) := by
  unfold ws3 at hw
  simp only [List.mem_cons, List.not_mem_nil, or_false] at hw
  rw [lb_brow]
  rcases h with ⟨rfl, rfl⟩ | ⟨rfl, rfl⟩
  · rcases hw with rfl | rfl | rfl
    · rw [show nm "i32" "clz" = "i32.clz" from by decide +kernel, c_i32_clz]
      unfold m_l_due
      rw [if_pos rfl]
      rfl
    · rw [show nm "i32" "ctz" = "i32.ctz" from by decide +kernel, c_i32_ctz]
      unfold m_l_due
      rw [if_neg (by decide +kernel : ¬ ("ctz" : Str) = "clz"), if_pos rfl]
      rfl
    · rw [show nm "i32" "popcnt" = "i32.popcnt" from by decide +kernel, c_i32_popcnt]
      unfold m_l_due
      rw [if_neg (by decide +kernel : ¬ ("popcnt" : Str) = "clz"), if_neg (by decide +kernel : ¬ ("popcnt" : Str) = "ctz"), ← sum_filter _ (brow_01 _ _)]
      rfl
  · rcases hw with rfl | rfl | rfl
    · rw [show nm "i64" "clz" = "i64.clz" from by decide +kernel, c_i64_clz]
      unfold m_l_due
      rw [if_pos rfl]
      rfl
    · rw [show nm "i64" "ctz" = "i64.ctz" from by decide +kernel, c_i64_ctz]
      unfold m_l_due
      rw [if_neg (by decide +kernel : ¬ ("ctz" : Str) = "clz"), if_pos rfl]
      rfl
    · rw [show nm "i64" "popcnt" = "i64.popcnt" from by decide +kernel, c_i64_popcnt]
      unfold m_l_due
      rw [if_neg (by decide +kernel : ¬ ("popcnt" : Str) = "clz"), if_neg (by decide +kernel : ¬ ("popcnt" : Str) = "ctz"), ← sum_filter _ (brow_01 _ _)]
      rfl
theorem ext_due {k : Str} (h : k ∈ kinds2) (v : Int) {n : Int} (hn : n ∈ ([8, 16] : List Int)) : m_calc (exn k n) v = m_l_signed v n := by
  unfold kinds2 at h
  simp only [List.mem_cons, List.not_mem_nil, or_false] at h hn
  rw [lsg, ← ext_sg]
  rcases h with rfl | rfl
  · rcases hn with rfl | rfl
    · rw [show exn "i32" 8 = "i32.extend8_s" from by decide +kernel, c_i32_extend8_s]
      rfl
    · rw [show exn "i32" 16 = "i32.extend16_s" from by decide +kernel, c_i32_extend16_s]
      rfl
  · rcases hn with rfl | rfl
    · rw [show exn "i64" 8 = "i64.extend8_s" from by decide +kernel, c_i64_extend8_s]
      rfl
    · rw [show exn "i64" 16 = "i64.extend16_s" from by decide +kernel, c_i64_extend16_s]
      rfl

theorem cv_ok (n : Str) (k : Str) (v : Int) (hn : n ∈ names14) (hs : m_sigp n = [k]) (hk : k = "i32" ∨ k = "i64") (hv : InK k v) : n ∈ names14 ∧ OpsOk (m_sigp n) [v] := ⟨hn, opsok1 hs hk hv⟩
def VOk (b v : Int) : Prop := (b = 32 ∧ InK "i32" v) ∨ (b = 64 ∧ InK "i64" v)
theorem vok_pre {b v : Int} (h : VOk b v) : ((("i" : Str) ++ Str.ofString (toString b) = "i32" ∧ b = 32) ∨ (("i" : Str) ++ Str.ofString (toString b) = "i64" ∧ b = 64)) ∧ InK (("i" : Str) ++ Str.ofString (toString b)) v := by
  rcases h with ⟨rfl, h⟩ | ⟨rfl, h⟩
  · have e : ("i" : Str) ++ Str.ofString (toString (32 : Int)) = "i32" := by decide +kernel
    rw [e]
    exact ⟨Or.inl ⟨rfl, rfl⟩, h⟩
  · have e : ("i" : Str) ++ Str.ofString (toString (64 : Int)) = "i64" := by decide +kernel
    rw [e]
    exact ⟨Or.inr ⟨rfl, rfl⟩, h⟩
theorem told_ok {n : Str} {v d : Int} (h : m_calc n v = d) : m_l_told n v d = true := decide_eq_true h
theorem eu_due {v : Int} (hv : InK "i32" v) : m_calc "i64.extend_i32_u" v = if v < 0 then v + 4294967296 else v := by
  rw [c_i64_extend_i32_u]
  show m_unsigned "i32" v = _
  rw [un_eq (Or.inl ⟨rfl, rfl⟩)]
  have h1 := inK_id (Or.inl ⟨rfl, rfl⟩) hv
  have h2 := sg_range v (show (1 : Int) ≤ 32 by decide)
  rw [h1] at h2
  have e1 : (2 : Int) ^ (32 - 1 : Int).toNat = 2147483648 := rfl
  have e2 : (2 : Int) ^ (32 : Int).toNat = 4294967296 := rfl
  rw [e1] at h2
  rw [e2]
  split <;> omega
theorem sc_l_counts : FnScope ["_law_kind", "_law_bits_here", "_law_value_here", "_law_word", "_law_size"] ["_law_kind", "_law_bits_here", "_law_value_here"] (defScope s_l_counts) := ⟨rfl, rfl, rfl, by decide +kernel, rfl, by decide +kernel, by decide +kernel⟩
def sp_l_counts (K : PySem.W.Frag) : Sp := fun vs H Q _ => ∃ (l_kind : Str) (l_bits_here : Int) (l_value_here : Int), vs = [.str l_kind, .int l_bits_here, .int l_value_here] ∧ ((((l_kind = "i32" ∧ l_bits_here = 32) ∨ (l_kind = "i64" ∧ l_bits_here = 64)) ∧ InK l_kind l_value_here)) ∧ ∀ H1, Ex H H1 → Q (.bl true) H1
theorem sv_l_counts {K : PySem.W.Frag} {H : Hp} {l_kind : Str} {l_bits_here : Int} {l_value_here : Int} (h : ((((l_kind = "i32" ∧ l_bits_here = 32) ∨ (l_kind = "i64" ∧ l_bits_here = 64)) ∧ InK l_kind l_value_here))) : SpV (sp_l_counts K) [.str l_kind, .int l_bits_here, .int l_value_here] H (.bl true) := fun H1 e Q q _ => ⟨l_kind, l_bits_here, l_value_here, rfl, h, q⟩
theorem ok_l_counts {f : Addr} {fd : FuncData} {d_l_signed : FuncData} {d_l_bits : FuncData} {d_l_due : FuncData} {d_l_told : FuncData} (F : Fun K "_law_counts" "_law_counts" s_l_counts f fd) (T : Tx w K mg ad) (O_l_signed : Df P w K mg base 1 "_law_signed" (ad 45) d_l_signed ["_law_number", "_law_bits_here"] (sp_l_signed K)) (O_l_bits : Df P w K mg base 1 "_law_bits" (ad 47) d_l_bits ["_law_value_here", "_law_bits_here"] (sp_l_bits K)) (O_l_due : Df P w K mg base 2 "_law_due" (ad 49) d_l_due ["_law_word", "_law_row"] (sp_l_due K)) (O_l_told : Df P w K mg base 6 "_law_told" (ad 50) d_l_told ["_law_name", "_law_operand", "_law_due_here"] (sp_l_told K)) : FnOk P w K mg base CX0 7 f fd ["_law_kind", "_law_bits_here", "_law_value_here"] (sp_l_counts K) := by
  refine F.ok sc_l_counts (fun vs H Q E h => ?_) (fun cdv A outer s G vs Q E hr h => ?_)
  · obtain ⟨l_kind, l_bits_here, l_value_here, rfl, _⟩ := h
    rfl
  · obtain ⟨l_kind, l_bits_here, l_value_here, rfl, h, q⟩ := h
    refine ⟨_, (pss_cons (ps_for PassesOwn.never rfl (pi_list (pe_lst (pa_cons pe_str (pa_cons pe_str (pa_cons pe_str pa_nil))))) (pg_name (i := 3) sc_l_counts.nd rfl (Or.inl rfl)) (pss_cons (ps_if (pt_not (pt_val (cl O_l_told (hr.mono (by decide)) rfl (pa_cons (pe_op op_add_str (pe_op op_add_str (pv 0) pe_str) (pv 3)) (pa_cons (pv 2) (pa_cons (cl O_l_due (hr.mono (by decide)) rfl (pa_cons (pv 3) (pa_cons (cl O_l_bits (hr.mono (by decide)) rfl (pa_cons (pv 2) (pa_cons (pv 1) pa_nil))) pa_nil))) pa_nil)))))) (pss_cons (ps_ret pe_bl) pss_nil) pss_nil) pss_nil)) (pss_cons (ps_for PassesOwn.never rfl (pi_list (pe_lst (pa_cons pe_int (pa_cons pe_int pa_nil)))) (pg_name (i := 4) sc_l_counts.nd rfl (Or.inl rfl)) (pss_cons (ps_if (pt_not (pt_val (cl O_l_told (hr.mono (by decide)) rfl (pa_cons (pe_op op_add_str (pe_op op_add_str (pe_op op_add_str (pv 0) pe_str) (pe_callTy call_str_int (by rfl) T.b_str (by decide +kernel) (pa_cons (pv 4) pa_nil))) pe_str) (pa_cons (pv 2) (pa_cons (cl O_l_signed (hr.mono (by decide)) rfl (pa_cons (pv 2) (pa_cons (pv 4) pa_nil))) pa_nil)))))) (pss_cons (ps_ret pe_bl) pss_nil) pss_nil) pss_nil)) (pss_cons (ps_ret pe_bl) pss_nil))), ?_⟩
    have e := Ex.refl G
    have hkk : l_kind = "i32" ∨ l_kind = "i64" := h.1.imp And.left And.left
    have hk2 := kd2 h.1
    -- for _law_word in ['clz', 'ctz', 'popcnt']   [loop 1]
    refine r_forNM (f := V.str) (ns := (["clz", "ctz", "popcnt"] : List Str)) e (el_lst (ea_cons ev_c (ea_cons ev_c (ea_cons ev_c ea_nil))) (by walk_at "sd")) (fun G11 i σ H => ∃ (o_l_word : Option V), σ = [some (.str l_kind), some (.int l_bits_here), some (.int l_value_here), o_l_word, none] ∧ Ex G11 H) (fun _ _ _ _ h => by obtain ⟨o_l_word, _, e⟩ := h; exact e) (fun G11 e0 e2 => ⟨_, rfl, Ex.refl _⟩) (fun G11 eg i x σ H hi hI => ?_) (fun G11 eg σ H hI => ?_)
    · obtain ⟨o_l_word, rfl, e⟩ := hI
      have q := q_mv eg q
      have hil := (List.getElem?_eq_some_iff.mp hi).1
      have hx3 : x ∈ ws3 := List.mem_of_getElem? hi
      have hn3 := nm3 l_kind hk2 x hx3
      -- if not _law_told(_law_kind + '.' + _law_word, _law_value_here, _law_due(_law_word, _law_bits(_law_value_here, _law_bits_here)))
      refine r_when e (ep_not (ep_val (ev_call (ea_cons (ev_op (ev_op (ev_var rfl) ev_c (rv_addS (Nat.le_trans hn3.2.2.2 (by decide)))) (ev_var rfl) (rv_addS (Nat.le_trans hn3.2.2.1 (by decide)))) (ea_cons (ev_var rfl) (ea_cons (ev_callX (eax_V (ev_var rfl) (eax_L (el_call (ea_cons (ev_var rfl) (ea_cons (ev_var rfl) ea_nil)) (sv_l_bits ⟨by omega, by omega⟩)) eax_nil)) (fun vs H1 e h9 => by obtain ⟨_, rfl, _, _, rfl, ha1, rfl⟩ := h9; exact sv_l_due ⟨sq_of ha1, by rw [lb_brow, brow_len]; omega⟩)) ea_nil))) (sv_l_told (l_name := nm l_kind x) (cv_ok _ _ _ hn3.1 hn3.2.1 hkk h.2))))) (fun hb1 H e e1 => ?_) (fun hb1 H e e1 => ?_)
      · exact absurd hb1 (fun z => z (told_ok (cnt_due h.1 _ hx3)))
      exact ⟨_, rfl, e⟩
    obtain ⟨o_l_word, rfl, e⟩ := hI
    have q := q_mv eg q
    -- for _law_size in [8, 16]   [loop 2]
    refine r_forNM (f := V.int) (ns := ([8, 16] : List Int)) e (el_lst (ea_cons ev_c (ea_cons ev_c ea_nil)) (by walk_at "sd")) (fun G11 i σ H => ∃ (o_l_size : Option V), σ = [some (.str l_kind), some (.int l_bits_here), some (.int l_value_here), o_l_word, o_l_size] ∧ Ex G11 H) (fun _ _ _ _ h => by obtain ⟨o_l_size, _, e⟩ := h; exact e) (fun G11 e0 e2 => ⟨_, rfl, Ex.refl _⟩) (fun G11 eg i x σ H hi hI => ?_) (fun G11 eg σ H hI => ?_)
    · obtain ⟨o_l_size, rfl, e⟩ := hI
      have q := q_mv eg q
      have hil := (List.getElem?_eq_some_iff.mp hi).1
      have hx8 : x ∈ ([8, 16] : List Int) := List.mem_of_getElem? hi
      have hn8 := nm8 l_kind hk2 x hx8
      -- if not _law_told(_law_kind + '.extend' + str(_law_size) + '_s', _law_value_here, _law_signed(_law_value_here, _law_size))
      refine r_when e (ep_not (ep_val (ev_call (ea_cons (ev_op (ev_op (ev_op (ev_var rfl) ev_c (rv_addS (Nat.le_trans hn8.2.2.1 (by decide)))) (ev_str (ev_var rfl) hn8.2.2.2.2.2.1) (rv_addS (Nat.le_trans hn8.2.2.2.1 (by decide)))) ev_c (rv_addS (Nat.le_trans hn8.2.2.2.2.1 (by decide)))) (ea_cons (ev_var rfl) (ea_cons (ev_call (ea_cons (ev_var rfl) (ea_cons (ev_var rfl) ea_nil)) (sv_l_signed hn8.2.2.2.2.2.2)) ea_nil))) (sv_l_told (l_name := exn l_kind x) (cv_ok _ _ _ hn8.1 hn8.2.1 hkk h.2))))) (fun hb2 H e e1 => ?_) (fun hb2 H e e1 => ?_)
      · exact absurd hb2 (fun z => z (told_ok (ext_due hk2 _ hx8)))
      exact ⟨_, rfl, e⟩
    obtain ⟨o_l_size, rfl, e⟩ := hI
    have q := q_mv eg q
    exact r_ret e ev_c q

/-! _law_conversions -/
theorem sc_l_conversions : FnScope ["_law_bits_here", "_law_value_here", "_law_due_here"] ["_law_bits_here", "_law_value_here"] (defScope s_l_conversions) := ⟨rfl, rfl, rfl, by decide +kernel, rfl, by decide +kernel, by decide +kernel⟩
def sp_l_conversions (K : PySem.W.Frag) : Sp := fun vs H Q _ => ∃ (l_bits_here : Int) (l_value_here : Int), vs = [.int l_bits_here, .int l_value_here] ∧ ((VOk l_bits_here l_value_here)) ∧ ∀ H1, Ex H H1 → Q (.bl true) H1
theorem sv_l_conversions {K : PySem.W.Frag} {H : Hp} {l_bits_here : Int} {l_value_here : Int} (h : ((VOk l_bits_here l_value_here))) : SpV (sp_l_conversions K) [.int l_bits_here, .int l_value_here] H (.bl true) := fun H1 e Q q _ => ⟨l_bits_here, l_value_here, rfl, h, q⟩
theorem ok_l_conversions {f : Addr} {fd : FuncData} {d_l_signed : FuncData} {d_l_told : FuncData} (F : Fun K "_law_conversions" "_law_conversions" s_l_conversions f fd) (T : Tx w K mg ad) (O_l_signed : Df P w K mg base 1 "_law_signed" (ad 45) d_l_signed ["_law_number", "_law_bits_here"] (sp_l_signed K)) (O_l_told : Df P w K mg base 6 "_law_told" (ad 50) d_l_told ["_law_name", "_law_operand", "_law_due_here"] (sp_l_told K)) : FnOk P w K mg base CX0 7 f fd ["_law_bits_here", "_law_value_here"] (sp_l_conversions K) := by
  refine F.ok sc_l_conversions (fun vs H Q E h => ?_) (fun cdv A outer s G vs Q E hr h => ?_)
  · obtain ⟨l_bits_here, l_value_here, rfl, _⟩ := h
    rfl
  · obtain ⟨l_bits_here, l_value_here, rfl, h, q⟩ := h
    refine ⟨_, (pss_cons (ps_if (pt_cmpR op_eq (pv 0) pe_int (nomark _)) (pss_cons (ps_set (i := 2) sc_l_conversions.nd rfl (Or.inl rfl) (pv 1)) (pss_cut (ps_if (pt_cmpR op_lt (pv 1) pe_int (nomark _)) (pss_cons (ps_set (i := 2) sc_l_conversions.nd rfl (Or.inl rfl) (pe_op op_add (pv 1) pe_int)) pss_nil) pss_nil) (pss_cons (ps_ret (pe_and (cl O_l_told (hr.mono (by decide)) rfl (pa_cons pe_str (pa_cons (pv 1) (pa_cons (pv 1) pa_nil)))) (pe_one (cl O_l_told (hr.mono (by decide)) rfl (pa_cons pe_str (pa_cons (pv 1) (pa_cons (pv 2) pa_nil))))))) pss_nil))) pss_nil) (pss_cons (ps_set (i := 2) sc_l_conversions.nd rfl (Or.inl rfl) (cl O_l_signed (hr.mono (by decide)) rfl (pa_cons (pv 1) (pa_cons pe_int pa_nil)))) (pss_cons (ps_ret (pe_and (cl O_l_told (hr.mono (by decide)) rfl (pa_cons pe_str (pa_cons (pv 1) (pa_cons (pv 2) pa_nil)))) (pe_one (cl O_l_told (hr.mono (by decide)) rfl (pa_cons pe_str (pa_cons (pv 1) (pa_cons (pv 2) pa_nil))))))) pss_nil))), ?_⟩
    have e := Ex.refl G
    refine r_when e (ep_dec (ev_op (ev_var rfl) ev_c rv_eqI)) (fun hb1 H e e1 => ?_) (fun hb1 H e e1 => ?_)
    · have hv : InK "i32" l_value_here := h.elim And.right fun z => by have := z.1; omega
      refine r_asg e (ev_var rfl) fun H e e1 => ?_
      refine r_ifJ e (ep_dec (ev_op (ev_var rfl) ev_c rv_I0)) (fun σ H => σ = [some (.int l_bits_here), some (.int l_value_here), some (.int (if (l_value_here < 0) then (l_value_here + 4294967296) else l_value_here))] ∧ Ex G H) (fun hb2 H e e1 => ?_) (fun hb2 H e e1 => ?_) ?_
      · refine r_asg e (ev_op (ev_var rfl) ev_c rv_I0) fun H e e1 => ?_
        exact r_next ⟨(by first | (rw [if_pos hb2]; done) | (rw [if_pos hb2]; rfl)), e⟩
      · exact r_next ⟨(by first | (rw [if_neg hb2]; done) | (rw [if_neg hb2]; rfl)), e⟩
      rintro σ H ⟨rfl, e⟩
      exact r_retB e (ev_andV (ev_call (ea_cons ev_c (ea_cons (ev_var rfl) (ea_cons (ev_var rfl) ea_nil))) (sv_l_told (cv_ok _ "i32" _ (by decide) (by decide +kernel) (Or.inl rfl) hv))) (fun hb => (ev_call (ea_cons ev_c (ea_cons (ev_var rfl) (ea_cons (ev_var rfl) ea_nil))) (sv_l_told (cv_ok _ "i32" _ (by decide) (by decide +kernel) (Or.inl rfl) hv))))) (by rw [told_ok (by rw [c_i64_extend_i32_s]; show m_extend l_value_here 32 = _; rw [ext_sg]; exact inK_id (Or.inl ⟨rfl, rfl⟩) hv), told_ok (eu_due hv)]; rfl) q
    have hv : InK "i64" l_value_here := h.elim (fun z => absurd z.1 hb1) And.right
    refine r_asg e (ev_call (ea_cons (ev_var rfl) (ea_cons ev_c ea_nil)) (sv_l_signed ⟨by omega, by omega⟩)) fun H e e1 => ?_
    exact r_retB e (ev_andV (ev_call (ea_cons ev_c (ea_cons (ev_var rfl) (ea_cons (ev_var rfl) ea_nil))) (sv_l_told (cv_ok _ "i64" _ (by decide) (by decide +kernel) (Or.inr rfl) hv))) (fun hb => (ev_call (ea_cons ev_c (ea_cons (ev_var rfl) (ea_cons (ev_var rfl) ea_nil))) (sv_l_told (cv_ok _ "i64" _ (by decide) (by decide +kernel) (Or.inr rfl) hv))))) (by rw [told_ok (by rw [c_i32_wrap_i64, lsg, ← ext_sg]; rfl), told_ok (by rw [c_i64_extend32_s, lsg, ← ext_sg]; rfl)]; rfl) q

/-! law -/
theorem sc_law : FnScope ["_law_script", "_law_k", "_law_cell_here", "_law_bits_here", "_law_value_here"] ["_law_script"] (defScope s_law) := ⟨rfl, rfl, rfl, by decide +kernel, rfl, by decide +kernel, by decide +kernel⟩
def sp_law (K : PySem.W.Frag) : Sp := fun vs H Q _ => ∃ (l_script : Addr) (ns : List Int), vs = [.ref l_script] ∧ (SqL K H l_script (ns.map V.int) ∧ ns.length ≤ 63) ∧ ∀ H1, Q (.bl true) H1
theorem law_in {K : PySem.W.Frag} {H : Hp} {a : Addr} {ns : List Int} (hl : ns.length ≤ 63) (hS : SqL K H a (ns.map V.int)) : sp_law K [.ref a] H (fun v _ => v = .bl true) (fun _ _ _ => False) := ⟨a, ns, rfl, ⟨hS, hl⟩, fun _ => rfl⟩
theorem ok_law {f : Addr} {fd : FuncData} {d_l_cell : FuncData} {d_l_signed : FuncData} {d_l_value : FuncData} {d_l_counts : FuncData} {d_l_conversions : FuncData} (F : Fun K "law" "law" s_law f fd) (T : Tx w K mg ad) (O_l_cell : Df P w K mg base 1 "_law_cell" (ad 44) d_l_cell ["_law_script", "_law_k"] (sp_l_cell K)) (O_l_signed : Df P w K mg base 1 "_law_signed" (ad 45) d_l_signed ["_law_number", "_law_bits_here"] (sp_l_signed K)) (O_l_value : Df P w K mg base 2 "_law_value" (ad 46) d_l_value ["_law_cell_here", "_law_bits_here"] (sp_l_value K)) (O_l_counts : Df P w K mg base 7 "_law_counts" (ad 51) d_l_counts ["_law_kind", "_law_bits_here", "_law_value_here"] (sp_l_counts K)) (O_l_conversions : Df P w K mg base 7 "_law_conversions" (ad 52) d_l_conversions ["_law_bits_here", "_law_value_here"] (sp_l_conversions K)) : FnOk P w K mg base CX0 8 f fd ["_law_script"] (sp_law K) := by
  refine F.ok sc_law (fun vs H Q E h => ?_) (fun cdv A outer s G vs Q E hr h => ?_)
  · obtain ⟨l_script, ns, rfl, _⟩ := h
    rfl
  · obtain ⟨l_script, ns, rfl, ⟨hS, hlen⟩, q⟩ := h
    refine ⟨_, (pss_cons (ps_for PassesOwn.never rfl (pi_range1 (by rfl) T.b_range (pa_cons (pe_callB (call_max2 rfl) (by rfl) T.b_max (by decide +kernel) (pa_cons pe_int (pa_cons (pe_callB (call_min2 rfl) (by rfl) T.b_min (by decide +kernel) (pa_cons (pe_callB (r := rLenS K) call_len_seq (by rfl) T.b_len (by decide +kernel) (pa_cons (pv 0) pa_nil)) (pa_cons pe_int pa_nil))) pa_nil))) pa_nil)) (pg_name (i := 1) sc_law.nd rfl (Or.inl rfl)) (pss_cons (ps_set (i := 2) sc_law.nd rfl (Or.inl rfl) (cl O_l_cell (hr.mono (by decide)) rfl (pa_cons (pv 0) (pa_cons (pv 1) pa_nil)))) (pss_cons (ps_set (i := 3) sc_law.nd rfl (Or.inl rfl) (pe_op op_add pe_int (pe_op op_mul pe_int (pe_op op_mod (pe_callTy call_int1 (by rfl) T.b_int (by decide +kernel) (pa_cons (pv 2) pa_nil)) pe_int)))) (pss_cons (ps_set (i := 4) sc_law.nd rfl (Or.inl rfl) (cl O_l_value (hr.mono (by decide)) rfl (pa_cons (pe_op op_fdiv (pv 2) pe_int) (pa_cons (pv 3) pa_nil)))) (pss_cut (ps_if (pt_cmpR op_eq (pe_op op_mod (pe_op op_fdiv (pe_callTy call_int1 (by rfl) T.b_int (by decide +kernel) (pa_cons (pv 2) pa_nil)) pe_int) pe_int) pe_int (nomark _)) (pss_cons (ps_set (i := 4) sc_law.nd rfl (Or.inl rfl) (cl O_l_signed (hr.mono (by decide)) rfl (pa_cons (pe_op op_shr (pe_op op_mod (pe_callTy call_int1 (by rfl) T.b_int (by decide +kernel) (pa_cons (pv 4) pa_nil)) (pe_op op_shl pe_int (pv 3))) (pe_op op_mod (pe_op op_fdiv (pe_callTy call_int1 (by rfl) T.b_int (by decide +kernel) (pa_cons (pv 2) pa_nil)) pe_int) (pv 3))) (pa_cons (pv 3) pa_nil)))) pss_nil) pss_nil) (pss_cons (ps_if (PW.pt (pw_or (pt_not (pt_val (cl O_l_counts (hr.mono (by decide)) rfl (pa_cons (pe_op op_add_str pe_str (pe_callTy call_str_int (by rfl) T.b_str (by decide +kernel) (pa_cons (pv 3) pa_nil))) (pa_cons (pv 3) (pa_cons (pv 4) pa_nil)))))) (pw_or1 (pt_not (pt_val (cl O_l_conversions (hr.mono (by decide)) rfl (pa_cons (pv 3) (pa_cons (pv 4) pa_nil)))))))) (pss_cons (ps_ret pe_bl) pss_nil) pss_nil) pss_nil)))))) (pss_cons (ps_ret pe_bl) pss_nil)), ?_⟩
    have e := Ex.refl G
    -- for _law_k in range(max(1, min(len(_law_script), 63)))   [loop 1]
    refine r_forRH e (ea_cons (ev_max2 ev_c (ev_min2 (ev_lenI (ev_var rfl) (by assumption)) ev_c)) ea_nil) (by walk_at "sd") (fun i σ H => ∃ (o_l_k : Option V) (o_l_cell_here : Option V) (o_l_bits_here : Option V) (o_l_value_here : Option V), σ = [some (.ref l_script), o_l_k, o_l_cell_here, o_l_bits_here, o_l_value_here] ∧ Ex G H) (fun H2 e2 => ⟨_, _, _, _, rfl, e.trans e2⟩) (fun i σ H hi hI => ?_) (fun σ H hI => ?_)
    · obtain ⟨o_l_k, o_l_cell_here, o_l_bits_here, o_l_value_here, rfl, e⟩ := hI
      -- _law_cell_here = _law_cell(_law_script, _law_k)
      refine r_asg e (ev_call (ea_cons (ev_var rfl) (ea_cons (ev_var rfl) ea_nil)) (sv_l_cell ⟨(by walk_at "sq"), by walk_at "sd"⟩)) fun H e e1 => ?_
      -- _law_bits_here = 32 + 32 * (int(_law_cell_here) % 2)
      refine r_asgI e (ev_op ev_c (ev_op ev_c (ev_op (ev_int (ev_var rfl)) ev_c (rv_I (by walk_at "sd"))) (rv_I (by walk_at "sd"))) rv_I0) fun n_l_bits_here hn_l_bits_here H e e1 => ?_
      have hbits : n_l_bits_here = 32 ∨ n_l_bits_here = 64 := by omega
      clear hn_l_bits_here
      -- _law_value_here = _law_value(_law_cell_here // 4, _law_bits_here)
      refine r_asgI e (ev_call (ea_cons (ev_op (ev_var rfl) ev_c (rv_I (by walk_at "sd"))) (ea_cons (ev_var rfl) ea_nil)) (sv_l_value (by walk_at "sd"))) fun n_l_value_here hn_l_value_here H e e1 => ?_
      have hv : VOk n_l_bits_here n_l_value_here := by
        rw [hn_l_value_here]
        rcases hbits with rfl | rfl
        · exact Or.inl ⟨rfl, val_ok (Or.inl ⟨rfl, rfl⟩) _⟩
        · exact Or.inr ⟨rfl, val_ok (Or.inr ⟨rfl, rfl⟩) _⟩
      clear hn_l_value_here
      -- if int(_law_cell_here) // 2 % 2 == 1
      refine r_ifJ e (ep_dec (ev_op (ev_op (ev_op (ev_int (ev_var rfl)) ev_c (rv_I (by walk_at "sd"))) ev_c (rv_I (by walk_at "sd"))) ev_c rv_eqI)) (fun σ H => ∃ (n_l_value_here : Int), σ = [some (.ref l_script), some (.int (i : Int)), some (.int (m_l_cell ns (i : Int))), some (.int n_l_bits_here), some (.int n_l_value_here)] ∧ Ex G H ∧ VOk n_l_bits_here n_l_value_here) (fun hb1 H e e1 => ?_) (fun hb1 H e e1 => ?_) ?_
      · -- _law_value_here = _law_signed(int(_law_value_here) % (1 << _law_bits_here) >> int(_law_cell_here) // 64 % _law_bits_here, _law_bits_here)
        refine r_asgI e (ev_call (ea_cons (ev_op (ev_op (ev_int (ev_var rfl)) (ev_op ev_c (ev_var rfl) (rv_I (by walk_at "sd"))) (rv_I (by rw [Int.one_mul]; exact Int.pow_pos (by decide)))) (ev_op (ev_op (ev_int (ev_var rfl)) ev_c (rv_I (by walk_at "sd"))) (ev_var rfl) (rv_I (by walk_at "sd"))) (rv_I (by walk_at "sd"))) (ea_cons (ev_var rfl) ea_nil)) (sv_l_signed (by walk_at "sd"))) fun n_l_value_here hn_l_value_here H e e1 => ?_
        have hv : VOk n_l_bits_here n_l_value_here := by
          rw [hn_l_value_here]
          rcases hbits with rfl | rfl
          · exact Or.inl ⟨rfl, val_ok (Or.inl ⟨rfl, rfl⟩) _⟩
          · exact Or.inr ⟨rfl, val_ok (Or.inr ⟨rfl, rfl⟩) _⟩
        clear hn_l_value_here
        exact r_next ⟨_, rfl, e, hv⟩
      · exact r_next ⟨_, rfl, e, hv⟩
      rintro σ H ⟨n_l_value_here, rfl, e, hj1⟩
      -- if not _law_counts('i' + str(_law_bits_here), _law_bits_here, _law_value_here) or not _law_conversions(_law_bits_here, _law_value_here)
      refine r_when e (ep_or (ep_not (ep_val (ev_call (ea_cons (ev_op ev_c (ev_str (ev_var rfl) (by rcases hbits with rfl | rfl <;> decide)) (rv_addS (by rcases hbits with rfl | rfl <;> decide +kernel))) (ea_cons (ev_var rfl) (ea_cons (ev_var rfl) ea_nil))) (sv_l_counts (vok_pre hj1))))) (fun hb => (ep_not (ep_val (ev_call (ea_cons (ev_var rfl) (ea_cons (ev_var rfl) ea_nil)) (sv_l_conversions hj1)))))) (fun hb2 H e e1 => ?_) (fun hb2 H e e1 => ?_)
      · exact absurd hb2 (fun z => z.elim (fun w => w rfl) fun w => w rfl)
      exact ⟨_, _, _, _, rfl, e⟩
    obtain ⟨o_l_k, o_l_cell_here, o_l_bits_here, o_l_value_here, rfl, e⟩ := hI
    exact r_ret e ev_c fun H e => q H

end
theorem all_mk {l : PySem.W.OpenLaw} {w : World} {K : PySem.W.Frag} {h : Heap} {mg : Str → Option Value} {fa : Addr} {f_width f_unsigned f_extend f_signed f_in_range f_add f_sub f_mul f_div_s f_div_u f_rem_s f_rem_u f_bit_and f_bit_or f_bit_xor f_shl f_shr_s f_shr_u f_rotl f_rotr f_eq f_ne f_lt_s f_gt_s f_le_s f_ge_s f_lt_u f_gt_u f_le_u f_ge_u f_clz f_ctz f_popcnt f_extend8_s f_extend16_s f_extend32_s f_extend_u f_signature_of f_check_operands f_calculate f_l_is_integer f_l_cell f_l_signed f_l_value f_l_bits f_l_zeros f_l_due f_l_told f_l_counts f_l_conversions f_law : Addr} (X : K.In h) (G : h.Ns mainGlobals mg) (hfa : mg "law" = some (.ref fa))
    {od_width an_width od_unsigned an_unsigned od_extend an_extend od_signed an_signed od_in_range an_in_range od_clz an_clz od_ctz an_ctz od_popcnt an_popcnt od_extend8_s an_extend8_s od_extend16_s an_extend16_s od_extend32_s an_extend32_s od_extend_u an_extend_u od_signature_of an_signature_of od_check_operands an_check_operands od_calculate an_calculate od_l_is_integer an_l_is_integer od_l_cell an_l_cell od_l_signed an_l_signed od_l_value an_l_value od_l_bits an_l_bits od_l_zeros an_l_zeros od_l_due an_l_due od_l_told an_l_told od_l_counts an_l_counts od_l_conversions an_l_conversions od_law an_law : Option Addr} {sl_width sl_unsigned sl_extend sl_signed sl_in_range sl_clz sl_ctz sl_popcnt sl_extend8_s sl_extend16_s sl_extend32_s sl_extend_u sl_signature_of sl_check_operands sl_calculate sl_l_is_integer sl_l_cell sl_l_signed sl_l_value sl_l_bits sl_l_zeros sl_l_due sl_l_told sl_l_counts sl_l_conversions sl_law : Array (Option Value)}
    {oc_width kV_width dc_width pm_width cd_width ct_width oc_unsigned kV_unsigned dc_unsigned pm_unsigned cd_unsigned ct_unsigned oc_extend kV_extend dc_extend pm_extend cd_extend ct_extend oc_signed kV_signed dc_signed pm_signed cd_signed ct_signed oc_in_range kV_in_range dc_in_range pm_in_range cd_in_range ct_in_range oc_clz kV_clz dc_clz pm_clz cd_clz ct_clz oc_ctz kV_ctz dc_ctz pm_ctz cd_ctz ct_ctz oc_popcnt kV_popcnt dc_popcnt pm_popcnt cd_popcnt ct_popcnt oc_extend8_s kV_extend8_s dc_extend8_s pm_extend8_s cd_extend8_s ct_extend8_s oc_extend16_s kV_extend16_s dc_extend16_s pm_extend16_s cd_extend16_s ct_extend16_s oc_extend32_s kV_extend32_s dc_extend32_s pm_extend32_s cd_extend32_s ct_extend32_s oc_extend_u kV_extend_u dc_extend_u pm_extend_u cd_extend_u ct_extend_u oc_signature_of kV_signature_of dc_signature_of pm_signature_of cd_signature_of ct_signature_of oc_check_operands kV_check_operands dc_check_operands pm_check_operands cd_check_operands ct_check_operands oc_calculate kV_calculate dc_calculate pm_calculate cd_calculate ct_calculate oc_l_is_integer kV_l_is_integer dc_l_is_integer pm_l_is_integer cd_l_is_integer ct_l_is_integer oc_l_cell kV_l_cell dc_l_cell pm_l_cell cd_l_cell ct_l_cell oc_l_signed kV_l_signed dc_l_signed pm_l_signed cd_l_signed ct_l_signed oc_l_value kV_l_value dc_l_value pm_l_value cd_l_value ct_l_value oc_l_bits kV_l_bits dc_l_bits pm_l_bits cd_l_bits ct_l_bits oc_l_zeros kV_l_zeros dc_l_zeros pm_l_zeros cd_l_zeros ct_l_zeros oc_l_due kV_l_due dc_l_due pm_l_due cd_l_due ct_l_due oc_l_told kV_l_told dc_l_told pm_l_told cd_l_told ct_l_told oc_l_counts kV_l_counts dc_l_counts pm_l_counts cd_l_counts ct_l_counts oc_l_conversions kV_l_conversions dc_l_conversions pm_l_conversions cd_l_conversions ct_l_conversions oc_law kV_law dc_law pm_law cd_law ct_law : Value}
    (a_width : PySem.W.nsIn K mainGlobals "width" = some (some (.ref f_width)))
    (l_width : K.lookup f_width = some ⟨oc_width, od_width, .func (PySem.W.fnOf "width" "width" (defArgs s_width) (defBody s_width) (defScope s_width) .none kV_width dc_width pm_width an_width cd_width ct_width), sl_width⟩)
    (c_width : PySem.W.codeIn K cd_width "width" = true) (k_width : PySem.W.keepIn K (.ref f_width) = true)
    (a_unsigned : PySem.W.nsIn K mainGlobals "unsigned" = some (some (.ref f_unsigned)))
    (l_unsigned : K.lookup f_unsigned = some ⟨oc_unsigned, od_unsigned, .func (PySem.W.fnOf "unsigned" "unsigned" (defArgs s_unsigned) (defBody s_unsigned) (defScope s_unsigned) .none kV_unsigned dc_unsigned pm_unsigned an_unsigned cd_unsigned ct_unsigned), sl_unsigned⟩)
    (c_unsigned : PySem.W.codeIn K cd_unsigned "unsigned" = true) (k_unsigned : PySem.W.keepIn K (.ref f_unsigned) = true)
    (a_extend : PySem.W.nsIn K mainGlobals "extend" = some (some (.ref f_extend)))
    (l_extend : K.lookup f_extend = some ⟨oc_extend, od_extend, .func (PySem.W.fnOf "extend" "extend" (defArgs s_extend) (defBody s_extend) (defScope s_extend) .none kV_extend dc_extend pm_extend an_extend cd_extend ct_extend), sl_extend⟩)
    (c_extend : PySem.W.codeIn K cd_extend "extend" = true) (k_extend : PySem.W.keepIn K (.ref f_extend) = true)
    (a_signed : PySem.W.nsIn K mainGlobals "signed" = some (some (.ref f_signed)))
    (l_signed : K.lookup f_signed = some ⟨oc_signed, od_signed, .func (PySem.W.fnOf "signed" "signed" (defArgs s_signed) (defBody s_signed) (defScope s_signed) .none kV_signed dc_signed pm_signed an_signed cd_signed ct_signed), sl_signed⟩)
    (c_signed : PySem.W.codeIn K cd_signed "signed" = true) (k_signed : PySem.W.keepIn K (.ref f_signed) = true)
    (a_in_range : PySem.W.nsIn K mainGlobals "in_range" = some (some (.ref f_in_range)))
    (l_in_range : K.lookup f_in_range = some ⟨oc_in_range, od_in_range, .func (PySem.W.fnOf "in_range" "in_range" (defArgs s_in_range) (defBody s_in_range) (defScope s_in_range) .none kV_in_range dc_in_range pm_in_range an_in_range cd_in_range ct_in_range), sl_in_range⟩)
    (c_in_range : PySem.W.codeIn K cd_in_range "in_range" = true) (k_in_range : PySem.W.keepIn K (.ref f_in_range) = true)
    (a_add : PySem.W.nsIn K mainGlobals "add" = some (some (.ref f_add)))
    (a_sub : PySem.W.nsIn K mainGlobals "sub" = some (some (.ref f_sub)))
    (a_mul : PySem.W.nsIn K mainGlobals "mul" = some (some (.ref f_mul)))
    (a_div_s : PySem.W.nsIn K mainGlobals "div_s" = some (some (.ref f_div_s)))
    (a_div_u : PySem.W.nsIn K mainGlobals "div_u" = some (some (.ref f_div_u)))
    (a_rem_s : PySem.W.nsIn K mainGlobals "rem_s" = some (some (.ref f_rem_s)))
    (a_rem_u : PySem.W.nsIn K mainGlobals "rem_u" = some (some (.ref f_rem_u)))
    (a_bit_and : PySem.W.nsIn K mainGlobals "bit_and" = some (some (.ref f_bit_and)))
    (a_bit_or : PySem.W.nsIn K mainGlobals "bit_or" = some (some (.ref f_bit_or)))
    (a_bit_xor : PySem.W.nsIn K mainGlobals "bit_xor" = some (some (.ref f_bit_xor)))
    (a_shl : PySem.W.nsIn K mainGlobals "shl" = some (some (.ref f_shl)))
    (a_shr_s : PySem.W.nsIn K mainGlobals "shr_s" = some (some (.ref f_shr_s)))
    (a_shr_u : PySem.W.nsIn K mainGlobals "shr_u" = some (some (.ref f_shr_u)))
    (a_rotl : PySem.W.nsIn K mainGlobals "rotl" = some (some (.ref f_rotl)))
    (a_rotr : PySem.W.nsIn K mainGlobals "rotr" = some (some (.ref f_rotr)))
    (a_eq : PySem.W.nsIn K mainGlobals "eq" = some (some (.ref f_eq)))
    (a_ne : PySem.W.nsIn K mainGlobals "ne" = some (some (.ref f_ne)))
    (a_lt_s : PySem.W.nsIn K mainGlobals "lt_s" = some (some (.ref f_lt_s)))
    (a_gt_s : PySem.W.nsIn K mainGlobals "gt_s" = some (some (.ref f_gt_s)))
    (a_le_s : PySem.W.nsIn K mainGlobals "le_s" = some (some (.ref f_le_s)))
    (a_ge_s : PySem.W.nsIn K mainGlobals "ge_s" = some (some (.ref f_ge_s)))
    (a_lt_u : PySem.W.nsIn K mainGlobals "lt_u" = some (some (.ref f_lt_u)))
    (a_gt_u : PySem.W.nsIn K mainGlobals "gt_u" = some (some (.ref f_gt_u)))
    (a_le_u : PySem.W.nsIn K mainGlobals "le_u" = some (some (.ref f_le_u)))
    (a_ge_u : PySem.W.nsIn K mainGlobals "ge_u" = some (some (.ref f_ge_u)))
    (a_clz : PySem.W.nsIn K mainGlobals "clz" = some (some (.ref f_clz)))
    (l_clz : K.lookup f_clz = some ⟨oc_clz, od_clz, .func (PySem.W.fnOf "clz" "clz" (defArgs s_clz) (defBody s_clz) (defScope s_clz) .none kV_clz dc_clz pm_clz an_clz cd_clz ct_clz), sl_clz⟩)
    (c_clz : PySem.W.codeIn K cd_clz "clz" = true) (k_clz : PySem.W.keepIn K (.ref f_clz) = true)
    (a_ctz : PySem.W.nsIn K mainGlobals "ctz" = some (some (.ref f_ctz)))
    (l_ctz : K.lookup f_ctz = some ⟨oc_ctz, od_ctz, .func (PySem.W.fnOf "ctz" "ctz" (defArgs s_ctz) (defBody s_ctz) (defScope s_ctz) .none kV_ctz dc_ctz pm_ctz an_ctz cd_ctz ct_ctz), sl_ctz⟩)
    (c_ctz : PySem.W.codeIn K cd_ctz "ctz" = true) (k_ctz : PySem.W.keepIn K (.ref f_ctz) = true)
    (a_popcnt : PySem.W.nsIn K mainGlobals "popcnt" = some (some (.ref f_popcnt)))
    (l_popcnt : K.lookup f_popcnt = some ⟨oc_popcnt, od_popcnt, .func (PySem.W.fnOf "popcnt" "popcnt" (defArgs s_popcnt) (defBody s_popcnt) (defScope s_popcnt) .none kV_popcnt dc_popcnt pm_popcnt an_popcnt cd_popcnt ct_popcnt), sl_popcnt⟩)
    (c_popcnt : PySem.W.codeIn K cd_popcnt "popcnt" = true) (k_popcnt : PySem.W.keepIn K (.ref f_popcnt) = true)
    (a_extend8_s : PySem.W.nsIn K mainGlobals "extend8_s" = some (some (.ref f_extend8_s)))
    (l_extend8_s : K.lookup f_extend8_s = some ⟨oc_extend8_s, od_extend8_s, .func (PySem.W.fnOf "extend8_s" "extend8_s" (defArgs s_extend8_s) (defBody s_extend8_s) (defScope s_extend8_s) .none kV_extend8_s dc_extend8_s pm_extend8_s an_extend8_s cd_extend8_s ct_extend8_s), sl_extend8_s⟩)
    (c_extend8_s : PySem.W.codeIn K cd_extend8_s "extend8_s" = true) (k_extend8_s : PySem.W.keepIn K (.ref f_extend8_s) = true)
    (a_extend16_s : PySem.W.nsIn K mainGlobals "extend16_s" = some (some (.ref f_extend16_s)))
    (l_extend16_s : K.lookup f_extend16_s = some ⟨oc_extend16_s, od_extend16_s, .func (PySem.W.fnOf "extend16_s" "extend16_s" (defArgs s_extend16_s) (defBody s_extend16_s) (defScope s_extend16_s) .none kV_extend16_s dc_extend16_s pm_extend16_s an_extend16_s cd_extend16_s ct_extend16_s), sl_extend16_s⟩)
    (c_extend16_s : PySem.W.codeIn K cd_extend16_s "extend16_s" = true) (k_extend16_s : PySem.W.keepIn K (.ref f_extend16_s) = true)
    (a_extend32_s : PySem.W.nsIn K mainGlobals "extend32_s" = some (some (.ref f_extend32_s)))
    (l_extend32_s : K.lookup f_extend32_s = some ⟨oc_extend32_s, od_extend32_s, .func (PySem.W.fnOf "extend32_s" "extend32_s" (defArgs s_extend32_s) (defBody s_extend32_s) (defScope s_extend32_s) .none kV_extend32_s dc_extend32_s pm_extend32_s an_extend32_s cd_extend32_s ct_extend32_s), sl_extend32_s⟩)
    (c_extend32_s : PySem.W.codeIn K cd_extend32_s "extend32_s" = true) (k_extend32_s : PySem.W.keepIn K (.ref f_extend32_s) = true)
    (a_extend_u : PySem.W.nsIn K mainGlobals "extend_u" = some (some (.ref f_extend_u)))
    (l_extend_u : K.lookup f_extend_u = some ⟨oc_extend_u, od_extend_u, .func (PySem.W.fnOf "extend_u" "extend_u" (defArgs s_extend_u) (defBody s_extend_u) (defScope s_extend_u) .none kV_extend_u dc_extend_u pm_extend_u an_extend_u cd_extend_u ct_extend_u), sl_extend_u⟩)
    (c_extend_u : PySem.W.codeIn K cd_extend_u "extend_u" = true) (k_extend_u : PySem.W.keepIn K (.ref f_extend_u) = true)
    (a_signature_of : PySem.W.nsIn K mainGlobals "signature_of" = some (some (.ref f_signature_of)))
    (l_signature_of : K.lookup f_signature_of = some ⟨oc_signature_of, od_signature_of, .func (PySem.W.fnOf "signature_of" "signature_of" (defArgs s_signature_of) (defBody s_signature_of) (defScope s_signature_of) .none kV_signature_of dc_signature_of pm_signature_of an_signature_of cd_signature_of ct_signature_of), sl_signature_of⟩)
    (c_signature_of : PySem.W.codeIn K cd_signature_of "signature_of" = true) (k_signature_of : PySem.W.keepIn K (.ref f_signature_of) = true)
    (a_check_operands : PySem.W.nsIn K mainGlobals "check_operands" = some (some (.ref f_check_operands)))
    (l_check_operands : K.lookup f_check_operands = some ⟨oc_check_operands, od_check_operands, .func (PySem.W.fnOf "check_operands" "check_operands" (defArgs s_check_operands) (defBody s_check_operands) (defScope s_check_operands) .none kV_check_operands dc_check_operands pm_check_operands an_check_operands cd_check_operands ct_check_operands), sl_check_operands⟩)
    (c_check_operands : PySem.W.codeIn K cd_check_operands "check_operands" = true) (k_check_operands : PySem.W.keepIn K (.ref f_check_operands) = true)
    (a_calculate : PySem.W.nsIn K mainGlobals "calculate" = some (some (.ref f_calculate)))
    (l_calculate : K.lookup f_calculate = some ⟨oc_calculate, od_calculate, .func (PySem.W.fnOf "calculate" "calculate" (defArgs s_calculate) (defBody s_calculate) (defScope s_calculate) .none kV_calculate dc_calculate pm_calculate an_calculate cd_calculate ct_calculate), sl_calculate⟩)
    (c_calculate : PySem.W.codeIn K cd_calculate "calculate" = true) (k_calculate : PySem.W.keepIn K (.ref f_calculate) = true)
    (a_l_is_integer : PySem.W.nsIn K mainGlobals "_law_is_integer" = some (some (.ref f_l_is_integer)))
    (l_l_is_integer : K.lookup f_l_is_integer = some ⟨oc_l_is_integer, od_l_is_integer, .func (PySem.W.fnOf "_law_is_integer" "_law_is_integer" (defArgs s_l_is_integer) (defBody s_l_is_integer) (defScope s_l_is_integer) .none kV_l_is_integer dc_l_is_integer pm_l_is_integer an_l_is_integer cd_l_is_integer ct_l_is_integer), sl_l_is_integer⟩)
    (c_l_is_integer : PySem.W.codeIn K cd_l_is_integer "_law_is_integer" = true) (k_l_is_integer : PySem.W.keepIn K (.ref f_l_is_integer) = true)
    (a_l_cell : PySem.W.nsIn K mainGlobals "_law_cell" = some (some (.ref f_l_cell)))
    (l_l_cell : K.lookup f_l_cell = some ⟨oc_l_cell, od_l_cell, .func (PySem.W.fnOf "_law_cell" "_law_cell" (defArgs s_l_cell) (defBody s_l_cell) (defScope s_l_cell) .none kV_l_cell dc_l_cell pm_l_cell an_l_cell cd_l_cell ct_l_cell), sl_l_cell⟩)
    (c_l_cell : PySem.W.codeIn K cd_l_cell "_law_cell" = true) (k_l_cell : PySem.W.keepIn K (.ref f_l_cell) = true)
    (a_l_signed : PySem.W.nsIn K mainGlobals "_law_signed" = some (some (.ref f_l_signed)))
    (l_l_signed : K.lookup f_l_signed = some ⟨oc_l_signed, od_l_signed, .func (PySem.W.fnOf "_law_signed" "_law_signed" (defArgs s_l_signed) (defBody s_l_signed) (defScope s_l_signed) .none kV_l_signed dc_l_signed pm_l_signed an_l_signed cd_l_signed ct_l_signed), sl_l_signed⟩)
    (c_l_signed : PySem.W.codeIn K cd_l_signed "_law_signed" = true) (k_l_signed : PySem.W.keepIn K (.ref f_l_signed) = true)
    (a_l_value : PySem.W.nsIn K mainGlobals "_law_value" = some (some (.ref f_l_value)))
    (l_l_value : K.lookup f_l_value = some ⟨oc_l_value, od_l_value, .func (PySem.W.fnOf "_law_value" "_law_value" (defArgs s_l_value) (defBody s_l_value) (defScope s_l_value) .none kV_l_value dc_l_value pm_l_value an_l_value cd_l_value ct_l_value), sl_l_value⟩)
    (c_l_value : PySem.W.codeIn K cd_l_value "_law_value" = true) (k_l_value : PySem.W.keepIn K (.ref f_l_value) = true)
    (a_l_bits : PySem.W.nsIn K mainGlobals "_law_bits" = some (some (.ref f_l_bits)))
    (l_l_bits : K.lookup f_l_bits = some ⟨oc_l_bits, od_l_bits, .func (PySem.W.fnOf "_law_bits" "_law_bits" (defArgs s_l_bits) (defBody s_l_bits) (defScope s_l_bits) .none kV_l_bits dc_l_bits pm_l_bits an_l_bits cd_l_bits ct_l_bits), sl_l_bits⟩)
    (c_l_bits : PySem.W.codeIn K cd_l_bits "_law_bits" = true) (k_l_bits : PySem.W.keepIn K (.ref f_l_bits) = true)
    (a_l_zeros : PySem.W.nsIn K mainGlobals "_law_zeros" = some (some (.ref f_l_zeros)))
    (l_l_zeros : K.lookup f_l_zeros = some ⟨oc_l_zeros, od_l_zeros, .func (PySem.W.fnOf "_law_zeros" "_law_zeros" (defArgs s_l_zeros) (defBody s_l_zeros) (defScope s_l_zeros) .none kV_l_zeros dc_l_zeros pm_l_zeros an_l_zeros cd_l_zeros ct_l_zeros), sl_l_zeros⟩)
    (c_l_zeros : PySem.W.codeIn K cd_l_zeros "_law_zeros" = true) (k_l_zeros : PySem.W.keepIn K (.ref f_l_zeros) = true)
    (a_l_due : PySem.W.nsIn K mainGlobals "_law_due" = some (some (.ref f_l_due)))
    (l_l_due : K.lookup f_l_due = some ⟨oc_l_due, od_l_due, .func (PySem.W.fnOf "_law_due" "_law_due" (defArgs s_l_due) (defBody s_l_due) (defScope s_l_due) .none kV_l_due dc_l_due pm_l_due an_l_due cd_l_due ct_l_due), sl_l_due⟩)
    (c_l_due : PySem.W.codeIn K cd_l_due "_law_due" = true) (k_l_due : PySem.W.keepIn K (.ref f_l_due) = true)
    (a_l_told : PySem.W.nsIn K mainGlobals "_law_told" = some (some (.ref f_l_told)))
    (l_l_told : K.lookup f_l_told = some ⟨oc_l_told, od_l_told, .func (PySem.W.fnOf "_law_told" "_law_told" (defArgs s_l_told) (defBody s_l_told) (defScope s_l_told) .none kV_l_told dc_l_told pm_l_told an_l_told cd_l_told ct_l_told), sl_l_told⟩)
    (c_l_told : PySem.W.codeIn K cd_l_told "_law_told" = true) (k_l_told : PySem.W.keepIn K (.ref f_l_told) = true)
    (a_l_counts : PySem.W.nsIn K mainGlobals "_law_counts" = some (some (.ref f_l_counts)))
    (l_l_counts : K.lookup f_l_counts = some ⟨oc_l_counts, od_l_counts, .func (PySem.W.fnOf "_law_counts" "_law_counts" (defArgs s_l_counts) (defBody s_l_counts) (defScope s_l_counts) .none kV_l_counts dc_l_counts pm_l_counts an_l_counts cd_l_counts ct_l_counts), sl_l_counts⟩)
    (c_l_counts : PySem.W.codeIn K cd_l_counts "_law_counts" = true) (k_l_counts : PySem.W.keepIn K (.ref f_l_counts) = true)
    (a_l_conversions : PySem.W.nsIn K mainGlobals "_law_conversions" = some (some (.ref f_l_conversions)))
    (l_l_conversions : K.lookup f_l_conversions = some ⟨oc_l_conversions, od_l_conversions, .func (PySem.W.fnOf "_law_conversions" "_law_conversions" (defArgs s_l_conversions) (defBody s_l_conversions) (defScope s_l_conversions) .none kV_l_conversions dc_l_conversions pm_l_conversions an_l_conversions cd_l_conversions ct_l_conversions), sl_l_conversions⟩)
    (c_l_conversions : PySem.W.codeIn K cd_l_conversions "_law_conversions" = true) (k_l_conversions : PySem.W.keepIn K (.ref f_l_conversions) = true)
    (a_law : PySem.W.nsIn K mainGlobals "law" = some (some (.ref f_law)))
    (l_law : K.lookup f_law = some ⟨oc_law, od_law, .func (PySem.W.fnOf "law" "law" (defArgs s_law) (defBody s_law) (defScope s_law) .none kV_law dc_law pm_law an_law cd_law ct_law), sl_law⟩)
    (c_law : PySem.W.codeIn K cd_law "law" = true) (k_law : PySem.W.keepIn K (.ref f_law) = true)
    (z_bool : PySem.W.nsIn K mainGlobals "bool" = some none)
    (z_int : PySem.W.nsIn K mainGlobals "int" = some none)
    (z_isinstance : PySem.W.nsIn K mainGlobals "isinstance" = some none)
    (z_len : PySem.W.nsIn K mainGlobals "len" = some none)
    (z_max : PySem.W.nsIn K mainGlobals "max" = some none)
    (z_min : PySem.W.nsIn K mainGlobals "min" = some none)
    (z_range : PySem.W.nsIn K mainGlobals "range" = some none)
    (z_str : PySem.W.nsIn K mainGlobals "str" = some none)
    (z_sum : PySem.W.nsIn K mainGlobals "sum" = some none)
    (z_zip : PySem.W.nsIn K mainGlobals "zip" = some none)
    {a_ARITHMETIC : Addr} {es_ARITHMETIC : Array DictEntry} {n_ARITHMETIC : Nat}
    (m_ARITHMETIC : PySem.W.nsIn K mainGlobals "ARITHMETIC" = some (some (.ref a_ARITHMETIC)))
    (l_ARITHMETIC : K.lookup a_ARITHMETIC = some ⟨.type "dict", none, .dict es_ARITHMETIC n_ARITHMETIC, #[]⟩)
    (en_ARITHMETIC : EntsK w.params [("add", .ref f_add), ("sub", .ref f_sub), ("mul", .ref f_mul), ("div_s", .ref f_div_s), ("div_u", .ref f_div_u), ("rem_s", .ref f_rem_s), ("rem_u", .ref f_rem_u), ("and", .ref f_bit_and), ("or", .ref f_bit_or), ("xor", .ref f_bit_xor), ("shl", .ref f_shl), ("shr_s", .ref f_shr_s), ("shr_u", .ref f_shr_u), ("rotl", .ref f_rotl), ("rotr", .ref f_rotr)] es_ARITHMETIC.toList)
    (lo_ARITHMETIC : (a_ARITHMETIC == sysModules) = false)
    {a_COMPARISONS : Addr} {es_COMPARISONS : Array DictEntry} {n_COMPARISONS : Nat}
    (m_COMPARISONS : PySem.W.nsIn K mainGlobals "COMPARISONS" = some (some (.ref a_COMPARISONS)))
    (l_COMPARISONS : K.lookup a_COMPARISONS = some ⟨.type "dict", none, .dict es_COMPARISONS n_COMPARISONS, #[]⟩)
    (en_COMPARISONS : EntsK w.params [("eq", .ref f_eq), ("ne", .ref f_ne), ("lt_s", .ref f_lt_s), ("lt_u", .ref f_lt_u), ("gt_s", .ref f_gt_s), ("gt_u", .ref f_gt_u), ("le_s", .ref f_le_s), ("le_u", .ref f_le_u), ("ge_s", .ref f_ge_s), ("ge_u", .ref f_ge_u)] es_COMPARISONS.toList)
    (lo_COMPARISONS : (a_COMPARISONS == sysModules) = false)
    {a_CONVERSIONS : Addr} {es_CONVERSIONS : Array DictEntry} {n_CONVERSIONS : Nat}
    (m_CONVERSIONS : PySem.W.nsIn K mainGlobals "CONVERSIONS" = some (some (.ref a_CONVERSIONS)))
    (l_CONVERSIONS : K.lookup a_CONVERSIONS = some ⟨.type "dict", none, .dict es_CONVERSIONS n_CONVERSIONS, #[]⟩)
    (en_CONVERSIONS : EntsK w.params [("i32.wrap_i64", .ref f_extend32_s), ("i64.extend_i32_s", .ref f_extend32_s), ("i64.extend_i32_u", .ref f_extend_u)] es_CONVERSIONS.toList)
    (lo_CONVERSIONS : (a_CONVERSIONS == sysModules) = false)
    {a_COUNTS : Addr} {es_COUNTS : Array DictEntry} {n_COUNTS : Nat}
    (m_COUNTS : PySem.W.nsIn K mainGlobals "COUNTS" = some (some (.ref a_COUNTS)))
    (l_COUNTS : K.lookup a_COUNTS = some ⟨.type "dict", none, .dict es_COUNTS n_COUNTS, #[]⟩)
    (en_COUNTS : EntsK w.params [("clz", .ref f_clz), ("ctz", .ref f_ctz), ("popcnt", .ref f_popcnt), ("extend8_s", .ref f_extend8_s), ("extend16_s", .ref f_extend16_s)] es_COUNTS.toList)
    (lo_COUNTS : (a_COUNTS == sysModules) = false)
    {a_INSTRUCTIONS : Addr} {its_INSTRUCTIONS : Array Value} {n_INSTRUCTIONS : Nat} {od_INSTRUCTIONS : Option Addr} {sl_INSTRUCTIONS : Array (Option Value)}
    (m_INSTRUCTIONS : PySem.W.nsIn K mainGlobals "INSTRUCTIONS" = some (some (.ref a_INSTRUCTIONS)))
    (l_INSTRUCTIONS : K.lookup a_INSTRUCTIONS = some ⟨.type "tuple", od_INSTRUCTIONS, .seq its_INSTRUCTIONS n_INSTRUCTIONS, sl_INSTRUCTIONS⟩)
    (vl_INSTRUCTIONS : Vals (kc_INSTRUCTIONS.map V.str) its_INSTRUCTIONS.toList)
    (sz_INSTRUCTIONS : its_INSTRUCTIONS.size ≤ 100000)
    {a_WIDTHS : Addr} {es_WIDTHS : Array DictEntry} {n_WIDTHS : Nat}
    (m_WIDTHS : PySem.W.nsIn K mainGlobals "WIDTHS" = some (some (.ref a_WIDTHS)))
    (l_WIDTHS : K.lookup a_WIDTHS = some ⟨.type "dict", none, .dict es_WIDTHS n_WIDTHS, #[]⟩)
    (en_WIDTHS : EntsK w.params [("i32", .int (32)), ("i64", .int (64))] es_WIDTHS.toList)
    (lo_WIDTHS : (a_WIDTHS == sysModules) = false)
    : ∃ fd : FuncData, (∀ (s : Shared) (v : Value), BindsTo s fd ⟨[v], []⟩ [("_law_script", v)]) ∧ ∀ base : Heap, K.In base → base.Ns mainGlobals mg → FnOk l.prog w K mg base CX0 8 fa fd ["_law_script"] (sp_law K) := by
  have e := hfa.symm.trans (PySem.W.mg_of X G a_law)
  cases e
  have T : Tx w K mg (fun n => match n with | 0 => f_width | 1 => f_unsigned | 2 => f_extend | 3 => f_signed | 4 => f_in_range | 5 => f_add | 6 => f_sub | 7 => f_mul | 9 => f_div_s | 10 => f_div_u | 11 => f_rem_s | 12 => f_rem_u | 13 => f_bit_and | 14 => f_bit_or | 15 => f_bit_xor | 17 => f_shl | 18 => f_shr_s | 19 => f_shr_u | 20 => f_rotl | 21 => f_rotr | 22 => f_eq | 23 => f_ne | 24 => f_lt_s | 25 => f_gt_s | 26 => f_le_s | 27 => f_ge_s | 28 => f_lt_u | 29 => f_gt_u | 30 => f_le_u | 31 => f_ge_u | 33 => f_clz | 34 => f_ctz | 35 => f_popcnt | 36 => f_extend8_s | 37 => f_extend16_s | 38 => f_extend32_s | 39 => f_extend_u | 40 => f_signature_of | 41 => f_check_operands | 42 => f_calculate | 43 => f_l_is_integer | 44 => f_l_cell | 45 => f_l_signed | 46 => f_l_value | 47 => f_l_bits | 48 => f_l_zeros | 49 => f_l_due | 50 => f_l_told | 51 => f_l_counts | 52 => f_l_conversions | _ => f_width) := ⟨PySem.W.mg_none_of X G z_bool, PySem.W.mg_none_of X G z_int, PySem.W.mg_none_of X G z_isinstance, PySem.W.mg_none_of X G z_len, PySem.W.mg_none_of X G z_max, PySem.W.mg_none_of X G z_min, PySem.W.mg_none_of X G z_range, PySem.W.mg_none_of X G z_str, PySem.W.mg_none_of X G z_sum, PySem.W.mg_none_of X G z_zip, ⟨_, PySem.W.mg_of X G m_ARITHMETIC, ⟨⟨_, _, l_ARITHMETIC, en_ARITHMETIC⟩, lo_ARITHMETIC⟩⟩, ⟨_, PySem.W.mg_of X G m_COMPARISONS, ⟨⟨_, _, l_COMPARISONS, en_COMPARISONS⟩, lo_COMPARISONS⟩⟩, ⟨_, PySem.W.mg_of X G m_CONVERSIONS, ⟨⟨_, _, l_CONVERSIONS, en_CONVERSIONS⟩, lo_CONVERSIONS⟩⟩, ⟨_, PySem.W.mg_of X G m_COUNTS, ⟨⟨_, _, l_COUNTS, en_COUNTS⟩, lo_COUNTS⟩⟩, ⟨_, PySem.W.mg_of X G m_INSTRUCTIONS, sqt_k l_INSTRUCTIONS sz_INSTRUCTIONS vl_INSTRUCTIONS⟩, ⟨_, PySem.W.mg_of X G m_WIDTHS, ⟨⟨_, _, l_WIDTHS, en_WIDTHS⟩, lo_WIDTHS⟩⟩⟩
  have F_width := fun_mk (st := s_width) l_width c_width k_width
  have b_width := F_width.binds (ps := ["kind"]) fun _ _ _ _ _ _ us hl => match us, hl with | [_], _ => rfl
  have F_unsigned := fun_mk (st := s_unsigned) l_unsigned c_unsigned k_unsigned
  have b_unsigned := F_unsigned.binds (ps := ["kind", "number"]) fun _ _ _ _ _ _ us hl => match us, hl with | [_, _], _ => rfl
  have F_extend := fun_mk (st := s_extend) l_extend c_extend k_extend
  have b_extend := F_extend.binds (ps := ["number", "bits"]) fun _ _ _ _ _ _ us hl => match us, hl with | [_, _], _ => rfl
  have F_signed := fun_mk (st := s_signed) l_signed c_signed k_signed
  have b_signed := F_signed.binds (ps := ["kind", "number"]) fun _ _ _ _ _ _ us hl => match us, hl with | [_, _], _ => rfl
  have F_in_range := fun_mk (st := s_in_range) l_in_range c_in_range k_in_range
  have b_in_range := F_in_range.binds (ps := ["kind", "number"]) fun _ _ _ _ _ _ us hl => match us, hl with | [_, _], _ => rfl
  have F_clz := fun_mk (st := s_clz) l_clz c_clz k_clz
  have b_clz := F_clz.binds (ps := ["kind", "a"]) fun _ _ _ _ _ _ us hl => match us, hl with | [_, _], _ => rfl
  have F_ctz := fun_mk (st := s_ctz) l_ctz c_ctz k_ctz
  have b_ctz := F_ctz.binds (ps := ["kind", "a"]) fun _ _ _ _ _ _ us hl => match us, hl with | [_, _], _ => rfl
  have F_popcnt := fun_mk (st := s_popcnt) l_popcnt c_popcnt k_popcnt
  have b_popcnt := F_popcnt.binds (ps := ["kind", "a"]) fun _ _ _ _ _ _ us hl => match us, hl with | [_, _], _ => rfl
  have F_extend8_s := fun_mk (st := s_extend8_s) l_extend8_s c_extend8_s k_extend8_s
  have b_extend8_s := F_extend8_s.binds (ps := ["kind", "a"]) fun _ _ _ _ _ _ us hl => match us, hl with | [_, _], _ => rfl
  have F_extend16_s := fun_mk (st := s_extend16_s) l_extend16_s c_extend16_s k_extend16_s
  have b_extend16_s := F_extend16_s.binds (ps := ["kind", "a"]) fun _ _ _ _ _ _ us hl => match us, hl with | [_, _], _ => rfl
  have F_extend32_s := fun_mk (st := s_extend32_s) l_extend32_s c_extend32_s k_extend32_s
  have b_extend32_s := F_extend32_s.binds (ps := ["kind", "a"]) fun _ _ _ _ _ _ us hl => match us, hl with | [_, _], _ => rfl
  have F_extend_u := fun_mk (st := s_extend_u) l_extend_u c_extend_u k_extend_u
  have b_extend_u := F_extend_u.binds (ps := ["kind", "a"]) fun _ _ _ _ _ _ us hl => match us, hl with | [_, _], _ => rfl
  have F_signature_of := fun_mk (st := s_signature_of) l_signature_of c_signature_of k_signature_of
  have b_signature_of := F_signature_of.binds (ps := ["name"]) fun _ _ _ _ _ _ us hl => match us, hl with | [_], _ => rfl
  have F_check_operands := fun_mk (st := s_check_operands) l_check_operands c_check_operands k_check_operands
  have b_check_operands := F_check_operands.binds (ps := ["params", "operands"]) fun _ _ _ _ _ _ us hl => match us, hl with | [_, _], _ => rfl
  have F_calculate := fun_mk (st := s_calculate) l_calculate c_calculate k_calculate
  have b_calculate := F_calculate.binds (ps := ["name", "operands"]) fun _ _ _ _ _ _ us hl => match us, hl with | [_, _], _ => rfl
  have F_l_is_integer := fun_mk (st := s_l_is_integer) l_l_is_integer c_l_is_integer k_l_is_integer
  have b_l_is_integer := F_l_is_integer.binds (ps := ["_law_actual"]) fun _ _ _ _ _ _ us hl => match us, hl with | [_], _ => rfl
  have F_l_cell := fun_mk (st := s_l_cell) l_l_cell c_l_cell k_l_cell
  have b_l_cell := F_l_cell.binds (ps := ["_law_script", "_law_k"]) fun _ _ _ _ _ _ us hl => match us, hl with | [_, _], _ => rfl
  have F_l_signed := fun_mk (st := s_l_signed) l_l_signed c_l_signed k_l_signed
  have b_l_signed := F_l_signed.binds (ps := ["_law_number", "_law_bits_here"]) fun _ _ _ _ _ _ us hl => match us, hl with | [_, _], _ => rfl
  have F_l_value := fun_mk (st := s_l_value) l_l_value c_l_value k_l_value
  have b_l_value := F_l_value.binds (ps := ["_law_cell_here", "_law_bits_here"]) fun _ _ _ _ _ _ us hl => match us, hl with | [_, _], _ => rfl
  have F_l_bits := fun_mk (st := s_l_bits) l_l_bits c_l_bits k_l_bits
  have b_l_bits := F_l_bits.binds (ps := ["_law_value_here", "_law_bits_here"]) fun _ _ _ _ _ _ us hl => match us, hl with | [_, _], _ => rfl
  have F_l_zeros := fun_mk (st := s_l_zeros) l_l_zeros c_l_zeros k_l_zeros
  have b_l_zeros := F_l_zeros.binds (ps := ["_law_row"]) fun _ _ _ _ _ _ us hl => match us, hl with | [_], _ => rfl
  have F_l_due := fun_mk (st := s_l_due) l_l_due c_l_due k_l_due
  have b_l_due := F_l_due.binds (ps := ["_law_word", "_law_row"]) fun _ _ _ _ _ _ us hl => match us, hl with | [_, _], _ => rfl
  have F_l_told := fun_mk (st := s_l_told) l_l_told c_l_told k_l_told
  have b_l_told := F_l_told.binds (ps := ["_law_name", "_law_operand", "_law_due_here"]) fun _ _ _ _ _ _ us hl => match us, hl with | [_, _, _], _ => rfl
  have F_l_counts := fun_mk (st := s_l_counts) l_l_counts c_l_counts k_l_counts
  have b_l_counts := F_l_counts.binds (ps := ["_law_kind", "_law_bits_here", "_law_value_here"]) fun _ _ _ _ _ _ us hl => match us, hl with | [_, _, _], _ => rfl
  have F_l_conversions := fun_mk (st := s_l_conversions) l_l_conversions c_l_conversions k_l_conversions
  have b_l_conversions := F_l_conversions.binds (ps := ["_law_bits_here", "_law_value_here"]) fun _ _ _ _ _ _ us hl => match us, hl with | [_, _], _ => rfl
  have F_law := fun_mk (st := s_law) l_law c_law k_law
  refine ⟨PySem.W.fnOf "law" "law" (defArgs s_law) (defBody s_law) (defScope s_law) .none kV_law dc_law pm_law an_law cd_law ct_law, fun s v => .of_eq rfl, fun base _ _ => ?_⟩
  have O_width : Df l.prog w K mg base 1 "width" f_width _ ["kind"] (sp_width K) := ⟨ok_width F_width T, PySem.W.mg_of X G a_width, F_width.kp, b_width⟩
  have O_unsigned : Df l.prog w K mg base 2 "unsigned" f_unsigned _ ["kind", "number"] (sp_unsigned K) := ⟨ok_unsigned F_unsigned T O_width, PySem.W.mg_of X G a_unsigned, F_unsigned.kp, b_unsigned⟩
  have O_extend : Df l.prog w K mg base 1 "extend" f_extend _ ["number", "bits"] (sp_extend K) := ⟨ok_extend F_extend T, PySem.W.mg_of X G a_extend, F_extend.kp, b_extend⟩
  have O_signed : Df l.prog w K mg base 2 "signed" f_signed _ ["kind", "number"] (sp_signed K) := ⟨ok_signed F_signed T O_width O_extend, PySem.W.mg_of X G a_signed, F_signed.kp, b_signed⟩
  have O_in_range : Df l.prog w K mg base 3 "in_range" f_in_range _ ["kind", "number"] (sp_in_range K) := ⟨ok_in_range F_in_range T O_signed, PySem.W.mg_of X G a_in_range, F_in_range.kp, b_in_range⟩
  have O_clz : Df l.prog w K mg base 3 "clz" f_clz _ ["kind", "a"] (sp_clz K) := ⟨ok_clz F_clz T O_width O_unsigned, PySem.W.mg_of X G a_clz, F_clz.kp, b_clz⟩
  have O_ctz : Df l.prog w K mg base 2 "ctz" f_ctz _ ["kind", "a"] (sp_ctz K) := ⟨ok_ctz F_ctz T O_width, PySem.W.mg_of X G a_ctz, F_ctz.kp, b_ctz⟩
  have O_popcnt : Df l.prog w K mg base 2 "popcnt" f_popcnt _ ["kind", "a"] (sp_popcnt K) := ⟨ok_popcnt F_popcnt T O_width, PySem.W.mg_of X G a_popcnt, F_popcnt.kp, b_popcnt⟩
  have O_extend8_s : Df l.prog w K mg base 2 "extend8_s" f_extend8_s _ ["kind", "a"] (sp_extend8_s K) := ⟨ok_extend8_s F_extend8_s T O_extend, PySem.W.mg_of X G a_extend8_s, F_extend8_s.kp, b_extend8_s⟩
  have O_extend16_s : Df l.prog w K mg base 2 "extend16_s" f_extend16_s _ ["kind", "a"] (sp_extend16_s K) := ⟨ok_extend16_s F_extend16_s T O_extend, PySem.W.mg_of X G a_extend16_s, F_extend16_s.kp, b_extend16_s⟩
  have O_extend32_s : Df l.prog w K mg base 2 "extend32_s" f_extend32_s _ ["kind", "a"] (sp_extend32_s K) := ⟨ok_extend32_s F_extend32_s T O_extend, PySem.W.mg_of X G a_extend32_s, F_extend32_s.kp, b_extend32_s⟩
  have O_extend_u : Df l.prog w K mg base 3 "extend_u" f_extend_u _ ["kind", "a"] (sp_extend_u K) := ⟨ok_extend_u F_extend_u T O_unsigned, PySem.W.mg_of X G a_extend_u, F_extend_u.kp, b_extend_u⟩
  have O_signature_of : Df l.prog w K mg base 1 "signature_of" f_signature_of _ ["name"] (sp_signature_of K) := ⟨ok_signature_of F_signature_of T, PySem.W.mg_of X G a_signature_of, F_signature_of.kp, b_signature_of⟩
  have O_check_operands : Df l.prog w K mg base 4 "check_operands" f_check_operands _ ["params", "operands"] (sp_check_operands K) := ⟨ok_check_operands F_check_operands T O_in_range, PySem.W.mg_of X G a_check_operands, F_check_operands.kp, b_check_operands⟩
  have O_calculate : Df l.prog w K mg base 5 "calculate" f_calculate _ ["name", "operands"] (sp_calculate K) := ⟨ok_calculate F_calculate T O_clz O_ctz O_popcnt O_extend8_s O_extend16_s O_extend32_s O_extend_u O_signature_of O_check_operands, PySem.W.mg_of X G a_calculate, F_calculate.kp, b_calculate⟩
  have O_l_is_integer : Df l.prog w K mg base 1 "_law_is_integer" f_l_is_integer _ ["_law_actual"] (sp_l_is_integer K) := ⟨ok_l_is_integer F_l_is_integer T, PySem.W.mg_of X G a_l_is_integer, F_l_is_integer.kp, b_l_is_integer⟩
  have O_l_cell : Df l.prog w K mg base 1 "_law_cell" f_l_cell _ ["_law_script", "_law_k"] (sp_l_cell K) := ⟨ok_l_cell F_l_cell T, PySem.W.mg_of X G a_l_cell, F_l_cell.kp, b_l_cell⟩
  have O_l_signed : Df l.prog w K mg base 1 "_law_signed" f_l_signed _ ["_law_number", "_law_bits_here"] (sp_l_signed K) := ⟨ok_l_signed F_l_signed T, PySem.W.mg_of X G a_l_signed, F_l_signed.kp, b_l_signed⟩
  have O_l_value : Df l.prog w K mg base 2 "_law_value" f_l_value _ ["_law_cell_here", "_law_bits_here"] (sp_l_value K) := ⟨ok_l_value F_l_value T O_l_signed, PySem.W.mg_of X G a_l_value, F_l_value.kp, b_l_value⟩
  have O_l_bits : Df l.prog w K mg base 1 "_law_bits" f_l_bits _ ["_law_value_here", "_law_bits_here"] (sp_l_bits K) := ⟨ok_l_bits F_l_bits T, PySem.W.mg_of X G a_l_bits, F_l_bits.kp, b_l_bits⟩
  have O_l_zeros : Df l.prog w K mg base 1 "_law_zeros" f_l_zeros _ ["_law_row"] (sp_l_zeros K) := ⟨ok_l_zeros F_l_zeros T, PySem.W.mg_of X G a_l_zeros, F_l_zeros.kp, b_l_zeros⟩
  have O_l_due : Df l.prog w K mg base 2 "_law_due" f_l_due _ ["_law_word", "_law_row"] (sp_l_due K) := ⟨ok_l_due F_l_due T O_l_zeros, PySem.W.mg_of X G a_l_due, F_l_due.kp, b_l_due⟩
  have O_l_told : Df l.prog w K mg base 6 "_law_told" f_l_told _ ["_law_name", "_law_operand", "_law_due_here"] (sp_l_told K) := ⟨ok_l_told F_l_told T O_calculate O_l_is_integer, PySem.W.mg_of X G a_l_told, F_l_told.kp, b_l_told⟩
  have O_l_counts : Df l.prog w K mg base 7 "_law_counts" f_l_counts _ ["_law_kind", "_law_bits_here", "_law_value_here"] (sp_l_counts K) := ⟨ok_l_counts F_l_counts T O_l_signed O_l_bits O_l_due O_l_told, PySem.W.mg_of X G a_l_counts, F_l_counts.kp, b_l_counts⟩
  have O_l_conversions : Df l.prog w K mg base 7 "_law_conversions" f_l_conversions _ ["_law_bits_here", "_law_value_here"] (sp_l_conversions K) := ⟨ok_l_conversions F_l_conversions T O_l_signed O_l_told, PySem.W.mg_of X G a_l_conversions, F_l_conversions.kp, b_l_conversions⟩
  exact ok_law F_law T O_l_cell O_l_signed O_l_value O_l_counts O_l_conversions
end Lk07

set_option Elab.async false
set_option linter.all false
set_option maxRecDepth 100000
set_option maxHeartbeats 4000000
open PySem PySem.W PyProof.Rows
local macro_rules | `(tactic| walk_at "keysLit") => `(tactic| (refine ⟨⟨_, _, rfl, rfl⟩, ?_⟩; walk_at "keysLit"))
local macro_rules | `(tactic| walk_at "keysLit") => `(tactic| exact True.intro)
local macro_rules | `(tactic| walk_at "keysLit3") => `(tactic| first | exact True.intro | (refine ⟨⟨_, rfl⟩, rfl, ?_, ?_⟩; (first | exact ⟨_, rfl⟩ | exact rfl); walk_at "keysLit3"))
local macro_rules | `(tactic| walk_at "keysLit4") => `(tactic| first | exact PySem.Paired.nil | (refine PySem.Paired.cons ⟨_, rfl⟩ ?_; walk_at "keysLit4"))
set_option maxRecDepth 100000 in
set_option maxHeartbeats 0 in
theorem PySem.Challenge.cw_wasmhost_k07_counts_and_conversions_holds : PySem.Challenge.rw_wasmhost_k07_counts_and_conversions.Holds := by
  w_on; o_law; k_head; (case hw => w_witness2)
  k_fill
  refine L2.walk_ofK (l := PySem.Challenge.rw_wasmhost_k07_counts_and_conversions) (n := 63) (k := 8) (x := "_law_script") (CX := L2.CX0) (sp := Lk07.sp_law) rfl (by decide) rfl ⟨rfl, by decide, by decide⟩ (fun w h Y => PySem.W.kIn_of Y) ?F (fun K H a ns hl _ hS => Lk07.law_in hl hS) (fun _ _ _ _ h => h)
  case F =>
    intro w mg fa h KX G hmg
    refine' Lk07.all_mk KX G hmg ?a_width ?l_width ?c_width ?k_width ?a_unsigned ?l_unsigned ?c_unsigned ?k_unsigned ?a_extend ?l_extend ?c_extend ?k_extend ?a_signed ?l_signed ?c_signed ?k_signed ?a_in_range ?l_in_range ?c_in_range ?k_in_range ?a_add ?a_sub ?a_mul ?a_div_s ?a_div_u ?a_rem_s ?a_rem_u ?a_bit_and ?a_bit_or ?a_bit_xor ?a_shl ?a_shr_s ?a_shr_u ?a_rotl ?a_rotr ?a_eq ?a_ne ?a_lt_s ?a_gt_s ?a_le_s ?a_ge_s ?a_lt_u ?a_gt_u ?a_le_u ?a_ge_u ?a_clz ?l_clz ?c_clz ?k_clz ?a_ctz ?l_ctz ?c_ctz ?k_ctz ?a_popcnt ?l_popcnt ?c_popcnt ?k_popcnt ?a_extend8_s ?l_extend8_s ?c_extend8_s ?k_extend8_s ?a_extend16_s ?l_extend16_s ?c_extend16_s ?k_extend16_s ?a_extend32_s ?l_extend32_s ?c_extend32_s ?k_extend32_s ?a_extend_u ?l_extend_u ?c_extend_u ?k_extend_u ?a_signature_of ?l_signature_of ?c_signature_of ?k_signature_of ?a_check_operands ?l_check_operands ?c_check_operands ?k_check_operands ?a_calculate ?l_calculate ?c_calculate ?k_calculate ?a_l_is_integer ?l_l_is_integer ?c_l_is_integer ?k_l_is_integer ?a_l_cell ?l_l_cell ?c_l_cell ?k_l_cell ?a_l_signed ?l_l_signed ?c_l_signed ?k_l_signed ?a_l_value ?l_l_value ?c_l_value ?k_l_value ?a_l_bits ?l_l_bits ?c_l_bits ?k_l_bits ?a_l_zeros ?l_l_zeros ?c_l_zeros ?k_l_zeros ?a_l_due ?l_l_due ?c_l_due ?k_l_due ?a_l_told ?l_l_told ?c_l_told ?k_l_told ?a_l_counts ?l_l_counts ?c_l_counts ?k_l_counts ?a_l_conversions ?l_l_conversions ?c_l_conversions ?k_l_conversions ?a_law ?l_law ?c_law ?k_law ?z_bool ?z_int ?z_isinstance ?z_len ?z_max ?z_min ?z_range ?z_str ?z_sum ?z_zip ?m_ARITHMETIC ?l_ARITHMETIC ?en_ARITHMETIC ?lo_ARITHMETIC ?m_COMPARISONS ?l_COMPARISONS ?en_COMPARISONS ?lo_COMPARISONS ?m_CONVERSIONS ?l_CONVERSIONS ?en_CONVERSIONS ?lo_CONVERSIONS ?m_COUNTS ?l_COUNTS ?en_COUNTS ?lo_COUNTS ?m_INSTRUCTIONS ?l_INSTRUCTIONS ?vl_INSTRUCTIONS ?sz_INSTRUCTIONS ?m_WIDTHS ?l_WIDTHS ?en_WIDTHS ?lo_WIDTHS
    (case a_width => k_is)
    (case l_width => k_is)
    (case c_width => k_is)
    (case k_width => k_is)
    (case a_unsigned => k_is)
    (case l_unsigned => k_is)
    (case c_unsigned => k_is)
    (case k_unsigned => k_is)
    (case a_extend => k_is)
    (case l_extend => k_is)
    (case c_extend => k_is)
    (case k_extend => k_is)
    (case a_signed => k_is)
    (case l_signed => k_is)
    (case c_signed => k_is)
    (case k_signed => k_is)
    (case a_in_range => k_is)
    (case l_in_range => k_is)
    (case c_in_range => k_is)
    (case k_in_range => k_is)
    (case a_add => k_is)
    (case a_sub => k_is)
    (case a_mul => k_is)
    (case a_div_s => k_is)
    (case a_div_u => k_is)
    (case a_rem_s => k_is)
    (case a_rem_u => k_is)
    (case a_bit_and => k_is)
    (case a_bit_or => k_is)
    (case a_bit_xor => k_is)
    (case a_shl => k_is)
    (case a_shr_s => k_is)
    (case a_shr_u => k_is)
    (case a_rotl => k_is)
    (case a_rotr => k_is)
    (case a_eq => k_is)
    (case a_ne => k_is)
    (case a_lt_s => k_is)
    (case a_gt_s => k_is)
    (case a_le_s => k_is)
    (case a_ge_s => k_is)
    (case a_lt_u => k_is)
    (case a_gt_u => k_is)
    (case a_le_u => k_is)
    (case a_ge_u => k_is)
    (case a_clz => k_is)
    (case l_clz => k_is)
    (case c_clz => k_is)
    (case k_clz => k_is)
    (case a_ctz => k_is)
    (case l_ctz => k_is)
    (case c_ctz => k_is)
    (case k_ctz => k_is)
    (case a_popcnt => k_is)
    (case l_popcnt => k_is)
    (case c_popcnt => k_is)
    (case k_popcnt => k_is)
    (case a_extend8_s => k_is)
    (case l_extend8_s => k_is)
    (case c_extend8_s => k_is)
    (case k_extend8_s => k_is)
    (case a_extend16_s => k_is)
    (case l_extend16_s => k_is)
    (case c_extend16_s => k_is)
    (case k_extend16_s => k_is)
    (case a_extend32_s => k_is)
    (case l_extend32_s => k_is)
    (case c_extend32_s => k_is)
    (case k_extend32_s => k_is)
    (case a_extend_u => k_is)
    (case l_extend_u => k_is)
    (case c_extend_u => k_is)
    (case k_extend_u => k_is)
    (case a_signature_of => k_is)
    (case l_signature_of => k_is)
    (case c_signature_of => k_is)
    (case k_signature_of => k_is)
    (case a_check_operands => k_is)
    (case l_check_operands => k_is)
    (case c_check_operands => k_is)
    (case k_check_operands => k_is)
    (case a_calculate => k_is)
    (case l_calculate => k_is)
    (case c_calculate => k_is)
    (case k_calculate => k_is)
    (case a_l_is_integer => k_is)
    (case l_l_is_integer => k_is)
    (case c_l_is_integer => k_is)
    (case k_l_is_integer => k_is)
    (case a_l_cell => k_is)
    (case l_l_cell => k_is)
    (case c_l_cell => k_is)
    (case k_l_cell => k_is)
    (case a_l_signed => k_is)
    (case l_l_signed => k_is)
    (case c_l_signed => k_is)
    (case k_l_signed => k_is)
    (case a_l_value => k_is)
    (case l_l_value => k_is)
    (case c_l_value => k_is)
    (case k_l_value => k_is)
    (case a_l_bits => k_is)
    (case l_l_bits => k_is)
    (case c_l_bits => k_is)
    (case k_l_bits => k_is)
    (case a_l_zeros => k_is)
    (case l_l_zeros => k_is)
    (case c_l_zeros => k_is)
    (case k_l_zeros => k_is)
    (case a_l_due => k_is)
    (case l_l_due => k_is)
    (case c_l_due => k_is)
    (case k_l_due => k_is)
    (case a_l_told => k_is)
    (case l_l_told => k_is)
    (case c_l_told => k_is)
    (case k_l_told => k_is)
    (case a_l_counts => k_is)
    (case l_l_counts => k_is)
    (case c_l_counts => k_is)
    (case k_l_counts => k_is)
    (case a_l_conversions => k_is)
    (case l_l_conversions => k_is)
    (case c_l_conversions => k_is)
    (case k_l_conversions => k_is)
    (case a_law => k_is)
    (case l_law => k_is)
    (case c_law => k_is)
    (case k_law => k_is)
    (case z_bool => k_is)
    (case z_int => k_is)
    (case z_isinstance => k_is)
    (case z_len => k_is)
    (case z_max => k_is)
    (case z_min => k_is)
    (case z_range => k_is)
    (case z_str => k_is)
    (case z_sum => k_is)
    (case z_zip => k_is)
    (case m_ARITHMETIC => k_is)
    (case l_ARITHMETIC => k_is)
    (case en_ARITHMETIC => walk_at "keysLit3")
    (case lo_ARITHMETIC => first | rfl | decide)
    (case m_COMPARISONS => k_is)
    (case l_COMPARISONS => k_is)
    (case en_COMPARISONS => walk_at "keysLit3")
    (case lo_COMPARISONS => first | rfl | decide)
    (case m_CONVERSIONS => k_is)
    (case l_CONVERSIONS => k_is)
    (case en_CONVERSIONS => walk_at "keysLit3")
    (case lo_CONVERSIONS => first | rfl | decide)
    (case m_COUNTS => k_is)
    (case l_COUNTS => k_is)
    (case en_COUNTS => walk_at "keysLit3")
    (case lo_COUNTS => first | rfl | decide)
    (case m_INSTRUCTIONS => k_is)
    (case l_INSTRUCTIONS => k_is)
    (case vl_INSTRUCTIONS => walk_at "keysLit4")
    (case sz_INSTRUCTIONS => first | rfl | decide)
    (case m_WIDTHS => k_is)
    (case l_WIDTHS => k_is)
    (case en_WIDTHS => walk_at "keysLit3")
    (case lo_WIDTHS => first | rfl | decide)
