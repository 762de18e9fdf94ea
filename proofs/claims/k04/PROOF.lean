import PyProof.Rows.All
import Wide.All
import OpenK.AllK
import Wide.FinOn
import HandS.ForMost
import HandS.Evl
import HandS.IsInst
import HandS.Flow
import HandS.More
import HandS.Zip
import HandS.CallLocal
import HandS.Style
import HandS.Wide
import HandS.ForExc
import HandS.ExcInit
import HandS.ExcField
import PySem.Challenge.RW_wasmhost_k04_arithmetic
set_option Elab.async false
set_option linter.all false
set_option maxRecDepth 100000
set_option maxHeartbeats 4000000
/-! My own layer over HandS.Evl: statements relative to a ground heap, tests as propositions. -/
namespace Wm
open PySem L2 Evl RZ
/-- a call's promise of a new tuple -/
def SpU (sp : Sp) (vs : List V) (H : Hp) (xs : List V) : Prop := ∀ H1, Ex H H1 → ∀ Q : VK, (∀ p H2, H1 p = none → Ex H1 H2 → H2 p = some (.tup xs) → Q (.ref p) H2) → ∀ E : XK, sp vs H1 Q E
/-- a test, told by a proposition -/
def EtP (t : TT) (σ : L2.St) (H : Hp) (p : Prop) : Prop := ∃ b : Bool, (b = true ↔ p) ∧ EvT t σ H b
section
variable {K : PySem.W.Frag} {σ : L2.St} {H H0 H1 H' : Hp} {ta tb tc te tx : TE} {t u : TT} {x y z v : V} {r : R2} {D : Ends} {tu tw tz : TS} {p q : Prop} {g : TG}
theorem EtP.mono (e : Ex H H') (h : EtP t σ H p) : EtP t σ H' p := by
  obtain ⟨b, hb, h⟩ := h
  exact ⟨b, hb, h.mono e⟩
theorem EtP.to (h : EtP t σ H p) (e : p ↔ q) : EtP t σ H q := by
  obtain ⟨b, hb, h⟩ := h
  exact ⟨b, hb.trans e, h⟩
theorem ep_val {b : Bool} (h : Ev te σ H (.bl b)) : EtP (tB te) σ H (b = true) := ⟨b, Iff.rfl, et_B h⟩
theorem ep_test {b : Bool} (h : Ev te σ H (.bl b)) : EtP (tTest te) σ H (b = true) := ⟨b, Iff.rfl, et_test h⟩
theorem ep_dec {p : Prop} [Decidable p] (h : Ev te σ H (.bl (decide p))) : EtP (tTest te) σ H p := ⟨decide p, decide_eq_true_iff, et_test h⟩
theorem ep_ndec {p : Prop} [Decidable p] (h : Ev te σ H (.bl (!decide p))) : EtP (tTest te) σ H (¬ p) := ⟨!decide p, by simp, et_test h⟩
theorem ep_and (h1 : EtP t σ H p) (h2 : p → EtP u σ H q) : EtP (tAnd t u) σ H (p ∧ q) := by
  obtain ⟨a, ha, h1⟩ := h1
  by_cases hp : p
  · obtain ⟨b, hb, h2⟩ := h2 hp
    exact ⟨a && b, by rw [Bool.and_eq_true, ha, hb], et_and h1 fun _ => h2⟩
  · have e : a = false := by
      cases a with
      | true => exact absurd (ha.mp rfl) hp
      | false => rfl
    subst e
    refine ⟨false && false, ⟨fun z => (by cases z), fun z => absurd z.1 hp⟩, et_and h1 fun z => (by cases z)⟩
theorem ep_or (h1 : EtP t σ H p) (h2 : ¬ p → EtP u σ H q) : EtP (tOr t u) σ H (p ∨ q) := by
  obtain ⟨a, ha, h1⟩ := h1
  by_cases hp : p
  · have e : a = true := ha.mpr hp
    subst e
    refine ⟨true || false, ⟨fun _ => Or.inl hp, fun _ => rfl⟩, et_or h1 fun z => (by cases z)⟩
  · obtain ⟨b, hb, h2⟩ := h2 hp
    exact ⟨a || b, by rw [Bool.or_eq_true, ha, hb], et_or h1 fun _ => h2⟩
theorem ep_not (h1 : EtP t σ H p) : EtP (tNot t) σ H (¬ p) := by
  obtain ⟨a, ha, h1⟩ := h1
  refine ⟨!a, ?_, et_not h1⟩
  rw [← ha]
  cases a <;> simp
/-! values -/
theorem rv_eqI {i j : Int} : RV rEq (.int i) (.int j) H (.bl (decide (i = j))) := fun H1 _ Q q => ⟨rfl, by
  have e : decide (V.int i = V.int j) = decide (i = j) := by
    by_cases h : i = j
    · subst h; simp
    · rw [decide_eq_false h, decide_eq_false fun z => h (V.int.inj z)]
  rw [e]
  exact q H1 (Ex.refl H1)⟩
theorem rv_neI {i j : Int} : RV rNe (.int i) (.int j) H (.bl (!decide (i = j))) := fun H1 _ Q q => ⟨rfl, by
  have e : decide (V.int i = V.int j) = decide (i = j) := by
    by_cases h : i = j
    · subst h; simp
    · rw [decide_eq_false h, decide_eq_false fun z => h (V.int.inj z)]
  rw [e]
  exact q H1 (Ex.refl H1)⟩
theorem rv_eqS {i j : Str} : RV rEq (.str i) (.str j) H (.bl (decide (i = j))) := fun H1 _ Q q => ⟨rfl, by
  have e : decide (V.str i = V.str j) = decide (i = j) := by
    by_cases h : i = j
    · subst h; simp
    · rw [decide_eq_false h, decide_eq_false fun z => h (V.str.inj z)]
  rw [e]
  exact q H1 (Ex.refl H1)⟩
theorem rv_neS {i j : Str} : RV rNe (.str i) (.str j) H (.bl (!decide (i = j))) := fun H1 _ Q q => ⟨rfl, by
  have e : decide (V.str i = V.str j) = decide (i = j) := by
    by_cases h : i = j
    · subst h; simp
    · rw [decide_eq_false h, decide_eq_false fun z => h (V.str.inj z)]
  rw [e]
  exact q H1 (Ex.refl H1)⟩
theorem rv_eqB {i j : Bool} : RV rEq (.bl i) (.bl j) H (.bl (decide (i = j))) := fun H1 _ Q q => ⟨rfl, by
  have e : decide (V.bl i = V.bl j) = decide (i = j) := by
    by_cases h : i = j
    · subst h; simp
    · rw [decide_eq_false h, decide_eq_false fun z => h (V.bl.inj z)]
  rw [e]
  exact q H1 (Ex.refl H1)⟩
def rAddS2 : R2 := fun x y H Q => ∃ i j, x = .str i ∧ y = .str j ∧ i.length + j.length ≤ sizeLine ∧ Q (.str (i ++ j)) H
theorem rv_addS {i j : Str} (h : i.length + j.length ≤ 100000) : RV rAddS2 (.str i) (.str j) H (.str (i ++ j)) := fun H1 _ Q q => ⟨i, j, rfl, rfl, sz_of h, q H1 (Ex.refl H1)⟩
theorem flat_strs : ∀ l : List Str, (l.map V.str).all flatV = true
  | [] => rfl
  | _ :: r => by
    show (true && (r.map V.str).all flatV) = true
    rw [flat_strs r]
    rfl
theorem inV_strs (z : Str) : ∀ l : List Str, inV (.str z) (l.map V.str) = decide (z ∈ l)
  | [] => rfl
  | y :: r => by
    have ih := inV_strs z r
    unfold inV at ih ⊢
    rw [List.map_cons, List.any_cons, ih]
    have e : eqV (.str y) (.str z) = decide (y = z) := by
      unfold eqV
      first | rfl | simp
    rw [e]
    by_cases h : y = z
    · subst h; simp
    · have h2 : ¬ z = y := fun q => h q.symm
      simp [h, h2]
theorem rv_inTS {p : Addr} {z : Str} {ns : List Str} (h : SqT K H p (ns.map V.str)) : RV (rIn K false) (.str z) (.ref p) H (.bl (decide (z ∈ ns))) := by
  have q := rv_isT (x := .str z) h rfl (flat_strs ns)
  rw [inV_strs] at q
  exact q
theorem rv_niTS {p : Addr} {z : Str} {ns : List Str} (h : SqT K H p (ns.map V.str)) : RV (rIn K true) (.str z) (.ref p) H (.bl (!decide (z ∈ ns))) := by
  have q := rv_niT (x := .str z) h rfl (flat_strs ns)
  rw [inV_strs] at q
  exact q
theorem rv_inLS {p : Addr} {z : Str} {ns : List Str} (h : SqL K H p (ns.map V.str)) : RV (rIn K false) (.str z) (.ref p) H (.bl (decide (z ∈ ns))) := by
  have q := rv_isL (x := .str z) h rfl (flat_strs ns)
  rw [inV_strs] at q
  exact q
/-- if-expressions, chains -/
theorem ev_ifP {a b : V} (h : EtP t σ H p) (h1 : p → Ev ta σ H a) (h2 : ¬ p → Ev tb σ H b) [Decidable p] : Ev (tIf t ta tb) σ H (if p then a else b) := by
  obtain ⟨c, hc, h⟩ := h
  refine ev_if h (fun e => ?_) (fun e => ?_)
  · rw [if_pos (hc.mp e)]
    exact h1 (hc.mp e)
  · have hp : ¬ p := fun z => by
      have := hc.mpr z
      rw [e] at this
      cases this
    rw [if_neg hp]
    exact h2 hp
theorem ev_chain {r r' : R2} {a b : Bool} (ha : Ev ta σ H x) (hb : Ev tb σ H y) (hr : RV r x y H (.bl a)) (hc : a = true → Ev tc σ H z) (hr' : a = true → RV r' y z H (.bl b)) : Ev (tChain r r' ta tb tc) σ H (.bl (a && b)) := fun H1 e Q q =>
  ha H1 e _ fun H2 e2 => hb H2 (e.trans e2) _ fun H3 e3 => hr H3 ((e.trans e2).trans e3) _ fun H4 e4 => ⟨a, rfl, by
    cases a with
    | true =>
      rw [if_pos rfl]
      exact hc rfl H4 (((e.trans e2).trans e3).trans e4) _ fun H5 e5 => hr' rfl H5 ((((e.trans e2).trans e3).trans e4).trans e5) Q fun H6 e6 => q H6 ((((e2.trans e3).trans e4).trans e5).trans e6)
    | false =>
      rw [if_neg Bool.false_ne_true]
      exact q H4 ((e2.trans e3).trans e4)⟩
theorem ep_chain {r r' : R2} {p q : Prop} [Decidable p] [Decidable q] (ha : Ev ta σ H x) (hb : Ev tb σ H y) (hr : RV r x y H (.bl (decide p))) (hc : p → Ev tc σ H z) (hr' : p → RV r' y z H (.bl (decide q))) : EtP (tTest (tChain r r' ta tb tc)) σ H (p ∧ q) :=
  ⟨decide p && decide q, by simp, et_test (ev_chain ha hb hr (fun e => hc (of_decide_eq_true e)) (fun e => hr' (of_decide_eq_true e)))⟩
/-! built-ins -/
def rInt1 : List V → Hp → VK → Prop := fun xs H Q => (∃ i, xs = [.int i] ∧ Q (.int i) H) ∨ ∃ k, xs = [.bl k] ∧ Q (.int (if k then 1 else 0)) H
theorem ev_int {i : Int} (h : Ev ta σ H (.int i)) : Ev (tCB rInt1 (tCons ta tNil)) σ H (.int i) := fun H1 e Q q => h H1 e _ fun H2 e2 => Or.inl ⟨i, rfl, q H2 e2⟩
theorem ev_intB {b : Bool} (h : Ev ta σ H (.bl b)) : Ev (tCB rInt1 (tCons ta tNil)) σ H (.int (if b then 1 else 0)) := fun H1 e Q q => h H1 e _ fun H2 e2 => Or.inr ⟨b, rfl, q H2 e2⟩
def rStrI : List V → Hp → VK → Prop := fun xs H Q => ∃ i, xs = [.int i] ∧ i.natAbs.log2 < 1920 ∧ Q (.str (toString i)) H
theorem ev_str {i : Int} (h : Ev ta σ H (.int i)) (hz : i.natAbs.log2 < 1920) : Ev (tCB rStrI (tCons ta tNil)) σ H (.str (toString i)) := fun H1 e Q q => h H1 e _ fun H2 e2 => ⟨i, rfl, hz, q H2 e2⟩
def rAbs1 : List V → Hp → VK → Prop := fun xs H Q => ∃ i, xs = [.int i] ∧ Q (.int (if i < 0 then -i else i)) H
theorem ev_abs {i : Int} (h : Ev ta σ H (.int i)) : Ev (tCB rAbs1 (tCons ta tNil)) σ H (.int (if i < 0 then -i else i)) := fun H1 e Q q => h H1 e _ fun H2 e2 => ⟨i, rfl, q H2 e2⟩
def rMin2 : List V → Hp → VK → Prop := fun xs H Q => ∃ i j, xs = [.int i, .int j] ∧ Q (.int (if j < i then j else i)) H
theorem ev_min2 {i j : Int} (ha : Ev ta σ H (.int i)) (hb : Ev tb σ H (.int j)) : Ev (tCB rMin2 (tCons ta (tCons tb tNil))) σ H (.int (if j < i then j else i)) := fun H1 e Q q =>
  ha H1 e _ fun H2 e2 => hb H2 (e.trans e2) _ fun H3 e3 => ⟨i, j, rfl, q H3 (e2.trans e3)⟩
def rLenS1 : List V → Hp → VK → Prop := fun xs H Q => ∃ z, xs = [.str z] ∧ z.length ≤ sizeLine ∧ Q (.int z.length) H
theorem ev_lenS {z : Str} (h : Ev ta σ H (.str z)) (hz : z.length ≤ 100000) : Ev (tCB rLenS1 (tCons ta tNil)) σ H (.int z.length) := fun H1 e Q q => h H1 e _ fun H2 e2 => ⟨z, rfl, sz_of hz, q H2 e2⟩
theorem ev_lenT {p : Addr} {xs : List V} (ha : Ev ta σ H (.ref p)) (h : SqT K H p xs) : Ev (tCB (rLenS K) (tCons ta tNil)) σ H (.int (xs.length : Int)) := fun H1 e Q q =>
  ha H1 e _ fun H2 e2 => ⟨p, xs, rfl, Or.inr (ex_t (e.trans e2) h), q H2 e2⟩
/-- isinstance of a value and a class -/
theorem ev_isi {c : V} {ty u : Value} {b : Bool} (ha : Ev ta σ H x) (hb : Ev tb σ H c) (k : ClsV c u) (ht : ∀ H1, Ex H H1 → TyX K H1 x ty) (hk : PySem.W.kitOne K ty u = some b) : Ev (tCB (rIsi K) (tCons ta (tCons tb tNil))) σ H (.bl b) := fun H1 e Q q =>
  ha H1 e _ fun H2 e2 => hb H2 (e.trans e2) _ fun H3 e3 => ⟨x, c, ty, u, b, rfl, k, ht H3 ((e.trans e2).trans e3), hk, q H3 (e2.trans e3)⟩
theorem ty_int {i : Int} : ∀ H1, Ex H H1 → TyX K H1 (.int i) (.type "int") := fun _ _ => .base (.int i)
theorem ty_bl {b : Bool} : ∀ H1, Ex H H1 → TyX K H1 (.bl b) (.type "bool") := fun _ _ => .base (.bl b)
theorem ty_str {i : Str} : ∀ H1, Ex H H1 → TyX K H1 (.str i) (.type "str") := fun _ _ => .base (.str i)
theorem ty_non : ∀ H1, Ex H H1 → TyX K H1 .non (.type "NoneType") := fun _ _ => .base .non
theorem ev_lenI {p : Addr} {ns : List Int} (ha : Ev ta σ H (.ref p)) (h : SqL K H p (ns.map V.int)) : Ev (tCB (rLenS K) (tCons ta tNil)) σ H (.int (ns.length : Int)) := by
  have q := ev_len ha h
  rw [List.length_map] at q
  exact q
theorem ev_lenTI {p : Addr} {ns : List Int} (ha : Ev ta σ H (.ref p)) (h : SqT K H p (ns.map V.int)) : Ev (tCB (rLenS K) (tCons ta tNil)) σ H (.int (ns.length : Int)) := by
  have q := ev_lenT ha h
  rw [List.length_map] at q
  exact q
/-! lists of ints compared -/
theorem lay_ints : ∀ ns : List Int, PyData.canLayAll0 (ns.map PyData.int) = true
  | [] => rfl
  | n :: r => by
    show (PyData.canLay0 (.int n) && PyData.canLayAll0 (r.map PyData.int)) = true
    rw [lay_ints r]
    rfl
theorem depth_ints : ∀ ns : List Int, PyData.depthAll (ns.map PyData.int) = 0
  | [] => rfl
  | n :: r => by
    show max (PyData.depth (.int n)) (PyData.depthAll (r.map PyData.int)) = 0
    rw [depth_ints r]
    rfl
theorem eqv_ints : ∀ ns ms : List Int, PyData.eqvAll (ns.map PyData.int) (ms.map PyData.int) = decide (ns = ms)
  | [], [] => rfl
  | [], _ :: _ => rfl
  | _ :: _, [] => rfl
  | n :: r, m :: t => by
    show (n == m && PyData.eqvAll (r.map PyData.int) (t.map PyData.int)) = _
    rw [eqv_ints r t]
    by_cases h : n = m
    · subst h; simp
    · simp [h]
theorem shaped_ints (ns : List Int) : SeqAt.shaped (.list (ns.map PyData.int)) = true := by
  unfold SeqAt.shaped
  rw [Bool.and_eq_true]
  refine ⟨lay_ints ns, decide_eq_true ?_⟩
  show PyData.depthAll (ns.map PyData.int) + 1 ≤ 64
  rw [depth_ints]
  decide
theorem dp_ints : ∀ ns : List Int, DpAll K H (ns.map V.int) (ns.map PyData.int)
  | [] => .nil
  | n :: r => .cons (.int n) (dp_ints r)
theorem rv_eqDI {p q : Addr} {ns ms : List Int} (h1 : SqL K H p (ns.map V.int)) (h2 : SqL K H q (ms.map V.int)) : RV (rEqD K) (.ref p) (.ref q) H (.bl (decide (ns = ms))) := fun H1 e Q k =>
  ⟨_, _, .lst (ex_l e h1) (dp_ints ns), .lst (ex_l e h2) (dp_ints ms), shaped_ints ns, shaped_ints ms, by
    show Q (.bl (PyData.eqvAll _ _)) H1
    rw [eqv_ints]
    exact k H1 (Ex.refl H1)⟩
theorem rv_neDI {p q : Addr} {ns ms : List Int} (h1 : SqL K H p (ns.map V.int)) (h2 : SqL K H q (ms.map V.int)) : RV (rNeD K) (.ref p) (.ref q) H (.bl (!decide (ns = ms))) := fun H1 e Q k =>
  ⟨_, _, .lst (ex_l e h1) (dp_ints ns), .lst (ex_l e h2) (dp_ints ms), shaped_ints ns, shaped_ints ms, by
    show Q (.bl (!PyData.eqvAll _ _)) H1
    rw [eqv_ints]
    exact k H1 (Ex.refl H1)⟩
theorem cutV_mid (xs : List V) (a b : Nat) : cutV xs (some (a : Int)) (some (b : Int)) = (xs.drop a).take (b - a) := by
  unfold cutV
  rw [HT.sIx_nat, HT.sIx_nat]
  by_cases h : a ≤ xs.length
  · have e1 : min a xs.length = a := by omega
    rw [e1]
    by_cases g : b ≤ xs.length
    · have e2 : min b xs.length = b := by omega
      rw [e2]
    · have e2 : min b xs.length = xs.length := by omega
      rw [e2, List.take_of_length_le (by rw [List.length_drop]; omega), List.take_of_length_le (by rw [List.length_drop]; omega)]
  · have e1 : min a xs.length = xs.length := by omega
    rw [e1, List.drop_of_length_le (Nat.le_refl _), List.drop_of_length_le (show xs.length ≤ a by omega), List.take_nil, List.take_nil]
/-! a list or a tuple -/
theorem q_mv {P : Hp → Prop} (e : Ex H H') (q : ∀ H1, Ex H H1 → P H1) : ∀ H1, Ex H' H1 → P H1 := fun H1 e1 => q H1 (e.trans e1)
theorem q_mvL {P : Addr → Hp → Prop} {o : HO} (e : Ex H H') (q : ∀ p H1, H p = none → Ex H H1 → H1 p = some o → P p H1) : ∀ p H1, H' p = none → Ex H' H1 → H1 p = some o → P p H1 := fun p H1 hp e1 h1 => q p H1 (fresh_back e hp) (e.trans e1) h1
theorem ty_list {a : Addr} {xs : List V} (h : H a = some (.lst xs)) : ∀ H1, Ex H H1 → TyX K H1 (.ref a) (.type "list") := fun H1 e => .base (.lst (e a _ h))
theorem ty_tup {a : Addr} {xs : List V} (h : H a = some (.tup xs)) : ∀ H1, Ex H H1 → TyX K H1 (.ref a) (.type "tuple") := fun H1 e => .base (.tup (e a _ h))
def SqQ (K : PySem.W.Frag) (H : Hp) (a : Addr) (xs : List V) : Prop := SqL K H a xs ∨ SqT K H a xs
theorem ex_q {a : Addr} {xs : List V} (e : Ex H H') (h : SqQ K H a xs) : SqQ K H' a xs := h.elim (fun z => Or.inl (ex_l e z)) fun z => Or.inr (ex_t e z)
theorem at_ints {ns : List Int} {i : Int} (h0 : 0 ≤ i) (h1 : i < (ns.length : Int)) : atI (ns.map V.int) i = some (.int (ns.getD i.toNat 0)) := by
  obtain ⟨j, rfl⟩ : ∃ j : Nat, i = (j : Int) := ⟨i.toNat, by omega⟩
  have hj : j < ns.length := by omega
  refine atI_nat ?_
  rw [List.getElem?_map, List.getElem?_eq_getElem hj]
  show some (V.int ns[j]) = some (V.int (ns.getD ((j : Int).toNat) 0))
  rw [Int.toNat_natCast, List.getD_eq_getElem?_getD, List.getElem?_eq_getElem hj]
  rfl
theorem rv_ixQI {p : Addr} {ns : List Int} {i : Int} (h : SqQ K H p (ns.map V.int)) (h0 : 0 ≤ i) (h1 : i < (ns.length : Int)) : RV (rIx K) (.ref p) (.int i) H (.int (ns.getD i.toNat 0)) := fun H1 e Q q =>
  h.elim (fun z => Or.inl ⟨p, _, i, _, rfl, rfl, ex_l e z, at_ints h0 h1, q H1 (Ex.refl H1)⟩) fun z => Or.inr (Or.inl ⟨p, _, i, _, rfl, rfl, ex_t e z, at_ints h0 h1, q H1 (Ex.refl H1)⟩)
theorem ev_lenQ {p : Addr} {xs : List V} (ha : Ev ta σ H (.ref p)) (h : SqQ K H p xs) : Ev (tCB (rLenS K) (tCons ta tNil)) σ H (.int (xs.length : Int)) := fun H1 e Q q =>
  ha H1 e _ fun H2 e2 => ⟨p, xs, rfl, h.elim (fun z => Or.inl (ex_l (e.trans e2) z)) fun z => Or.inr (ex_t (e.trans e2) z), q H2 e2⟩
theorem ev_lenQI {p : Addr} {ns : List Int} (ha : Ev ta σ H (.ref p)) (h : SqQ K H p (ns.map V.int)) : Ev (tCB (rLenS K) (tCons ta tNil)) σ H (.int (ns.length : Int)) := by
  have q := ev_lenQ ha h
  rw [List.length_map] at q
  exact q
theorem el_listQ {p : Addr} {xs : List V} (ha : Ev ta σ H (.ref p)) (h : SqQ K H p xs) : EvL (tCB (rListS K) (tCons ta tNil)) σ H xs := fun H1 e Q q =>
  ha H1 e _ fun H2 e2 => ⟨p, xs, rfl, h.elim (fun z => Or.inl (ex_l (e.trans e2) z)) fun z => Or.inr (ex_t (e.trans e2) z), fun l hl => q l _ (fresh_back e2 hl) (e2.trans (Ex.new hl)) upd_same⟩
def rTupS (K : PySem.W.Frag) : List V → Hp → VK → Prop := fun xs H Q => ∃ p ys, xs = [.ref p] ∧ ((SqL K H p ys ∧ ∀ l, H l = none → Q (.ref l) (upd H l (.tup ys))) ∨ (SqT K H p ys ∧ Q (.ref p) H))
theorem eu_tupL {p : Addr} {xs : List V} (ha : Ev ta σ H (.ref p)) (h : SqL K H p xs) : EvU (tCB (rTupS K) (tCons ta tNil)) σ H xs := fun H1 e Q q =>
  ha H1 e _ fun H2 e2 => ⟨p, xs, rfl, Or.inl ⟨ex_l (e.trans e2) h, fun l hl => q l _ (fresh_back e2 hl) (e2.trans (Ex.new hl)) upd_same⟩⟩
theorem eu_tupN {xs : List V} (ha : EvL ta σ H xs) : EvU (tCB (rTupS K) (tCons ta tNil)) σ H xs := fun H1 e Q q =>
  ha H1 e _ fun p H2 _ e2 hp => ⟨p, xs, rfl, Or.inl ⟨sq_of hp, fun l hl => q l _ (fresh_back e2 hl) (e2.trans (Ex.new hl)) upd_same⟩⟩
theorem el_listN {xs : List V} (ha : EvL ta σ H xs) : EvL (tCB (rListS K) (tCons ta tNil)) σ H xs := fun H1 e Q q =>
  ha H1 e _ fun p H2 _ e2 hp => ⟨p, xs, rfl, Or.inl (sq_of hp), fun l hl => q l _ (fresh_back e2 hl) (e2.trans (Ex.new hl)) upd_same⟩
/-- a call whose one argument is a new list, a new tuple -/
theorem ev_call1L {sp : Sp} {xs : List V} {E : XK} (h : EvL ta σ H xs) (hs : ∀ p H1, Ex H H1 → H1 p = some (.lst xs) → SpV sp [.ref p] H1 z) : Ev (tCall sp [] E (tCons ta tNil)) σ H z := fun H1 e Q q =>
  h H1 e _ fun p H2 _ e2 hp => hs p H2 (e.trans e2) hp H2 (Ex.refl H2) Q (fun H3 e3 => q H3 (e2.trans e3)) E
theorem ev_call1U {sp : Sp} {xs : List V} {E : XK} (h : EvU ta σ H xs) (hs : ∀ p H1, Ex H H1 → H1 p = some (.tup xs) → SpV sp [.ref p] H1 z) : Ev (tCall sp [] E (tCons ta tNil)) σ H z := fun H1 e Q q =>
  h H1 e _ fun p H2 _ e2 hp => hs p H2 (e.trans e2) hp H2 (Ex.refl H2) Q (fun H3 e3 => q H3 (e2.trans e3)) E
/-- arguments some of which are new objects -/
def EvAX (ta : TA) (σ : L2.St) (H : Hp) (P : List V → Hp → Prop) : Prop := ∀ H1, Ex H H1 → ∀ Q : List V → Hp → Prop, (∀ vs H2, Ex H1 H2 → P vs H2 → Q vs H2) → ta σ H1 Q
theorem eax_nil : EvAX tNil σ H (fun vs _ => vs = []) := fun H1 _ _ q => q [] H1 (Ex.refl H1) rfl
theorem eax_V {tr : TA} {P : List V → Hp → Prop} (h : Ev ta σ H v) (hr : EvAX tr σ H P) : EvAX (tCons ta tr) σ H (fun vs H => ∃ r, vs = v :: r ∧ P r H) := fun H1 e Q q =>
  h H1 e _ fun H2 e2 => hr H2 (e.trans e2) _ fun vs H3 e3 hp => q _ H3 (e2.trans e3) ⟨vs, rfl, hp⟩
theorem eax_L {tr : TA} {P : List V → Hp → Prop} {xs : List V} (h : EvL ta σ H xs) (hr : EvAX tr σ H P) : EvAX (tCons ta tr) σ H (fun vs H => ∃ p r, vs = .ref p :: r ∧ H p = some (.lst xs) ∧ P r H) := fun H1 e Q q =>
  h H1 e _ fun p H2 _ e2 h2 => hr H2 (e.trans e2) _ fun vs H3 e3 hp => q _ H3 (e2.trans e3) ⟨p, vs, rfl, e3 _ _ h2, hp⟩
theorem eax_U {tr : TA} {P : List V → Hp → Prop} {xs : List V} (h : EvU ta σ H xs) (hr : EvAX tr σ H P) : EvAX (tCons ta tr) σ H (fun vs H => ∃ p r, vs = .ref p :: r ∧ H p = some (.tup xs) ∧ P r H) := fun H1 e Q q =>
  h H1 e _ fun p H2 _ e2 h2 => hr H2 (e.trans e2) _ fun vs H3 e3 hp => q _ H3 (e2.trans e3) ⟨p, vs, rfl, e3 _ _ h2, hp⟩
theorem ev_callX {sp : Sp} {P : List V → Hp → Prop} {E : XK} {tr : TA} (h : EvAX tr σ H P) (hs : ∀ vs H1, Ex H H1 → P vs H1 → SpV sp vs H1 z) : Ev (tCall sp [] E tr) σ H z := fun H1 e Q q =>
  h H1 e _ fun vs H2 e2 hp => by
    rw [List.append_nil]
    exact hs vs H2 (e.trans e2) hp H2 (Ex.refl H2) Q (fun H3 e3 => q H3 (e2.trans e3)) E
theorem el_callX {sp : Sp} {P : List V → Hp → Prop} {E : XK} {tr : TA} {xs : List V} (h : EvAX tr σ H P) (hs : ∀ vs H1, Ex H H1 → P vs H1 → SpL sp vs H1 xs) : EvL (tCall sp [] E tr) σ H xs := fun H1 e Q q =>
  h H1 e _ fun vs H2 e2 hp => by
    rw [List.append_nil]
    exact hs vs H2 (e.trans e2) hp H2 (Ex.refl H2) Q (fun p H3 h3 e3 g => q p H3 (fresh_back e2 h3) (e2.trans e3) g) E
theorem eu_callX {sp : Sp} {P : List V → Hp → Prop} {E : XK} {tr : TA} {xs : List V} (h : EvAX tr σ H P) (hs : ∀ vs H1, Ex H H1 → P vs H1 → SpU sp vs H1 xs) : EvU (tCall sp [] E tr) σ H xs := fun H1 e Q q =>
  h H1 e _ fun vs H2 e2 hp => by
    rw [List.append_nil]
    exact hs vs H2 (e.trans e2) hp H2 (Ex.refl H2) Q (fun p H3 h3 e3 g => q p H3 (fresh_back e2 h3) (e2.trans e3) g) E
/-! new tuples and lists from calls -/
theorem eu_call {sp : Sp} {dvs vs xs : List V} {E : XK} {ta : TA} (h : EvA ta σ H vs) (hs : SpU sp (vs ++ dvs) H xs) : EvU (tCall sp dvs E ta) σ H xs := fun H1 e Q q =>
  h H1 e _ fun H2 e2 => hs H2 (e.trans e2) Q (fun p H3 hp e3 h3 => q p H3 (fresh_back e2 hp) (e2.trans e3) h3) E
/-! ### statements relative to a ground heap H0 -/
theorem r_asg {i : Nat} (e : Ex H0 H1) (h : Ev te σ H0 v) (k : ∀ H2, Ex H0 H2 → Ex H1 H2 → tz D (σ.set i (some v)) H2) : tSeq (tAsg te (gName i)) tz D σ H1 := h H1 e _ fun H2 e2 => k H2 (e.trans e2) e2
/-- the value as a letter -/
theorem r_asgI {i : Nat} {z : Int} (e : Ex H0 H1) (h : Ev te σ H0 (.int z)) (k : ∀ n, n = z → ∀ H2, Ex H0 H2 → Ex H1 H2 → tz D (σ.set i (some (.int n))) H2) : tSeq (tAsg te (gName i)) tz D σ H1 := r_asg e h (k z rfl)
theorem r_asgS {i : Nat} {z : Str} (e : Ex H0 H1) (h : Ev te σ H0 (.str z)) (k : ∀ n, n = z → ∀ H2, Ex H0 H2 → Ex H1 H2 → tz D (σ.set i (some (.str n))) H2) : tSeq (tAsg te (gName i)) tz D σ H1 := r_asg e h (k z rfl)
theorem r_asgB {i : Nat} {z : Bool} (e : Ex H0 H1) (h : Ev te σ H0 (.bl z)) (k : ∀ n, n = z → ∀ H2, Ex H0 H2 → Ex H1 H2 → tz D (σ.set i (some (.bl n))) H2) : tSeq (tAsg te (gName i)) tz D σ H1 := r_asg e h (k z rfl)
/-- a new list, a new tuple: the ground moves on -/
theorem r_asgL {i : Nat} {xs : List V} (e : Ex H0 H1) (h : EvL te σ H0 xs) (k : ∀ p H2, H0 p = none → Ex H0 H2 → Ex H1 H2 → H2 p = some (.lst xs) → tz D (σ.set i (some (.ref p))) H2) : tSeq (tAsg te (gName i)) tz D σ H1 :=
  h H1 e _ fun p H2 hp e2 h2 => k p H2 (fresh_back e hp) (e.trans e2) e2 h2
theorem r_asgU {i : Nat} {xs : List V} (e : Ex H0 H1) (h : EvU te σ H0 xs) (k : ∀ p H2, H0 p = none → Ex H0 H2 → Ex H1 H2 → H2 p = some (.tup xs) → tz D (σ.set i (some (.ref p))) H2) : tSeq (tAsg te (gName i)) tz D σ H1 :=
  h H1 e _ fun p H2 hp e2 h2 => k p H2 (fresh_back e hp) (e.trans e2) e2 h2
theorem r_aug {i : Nat} {f : Int → Int → Int} {a b : Int} (e : Ex H0 H1) (hx : σ[i]? = some (some (.int a))) (h : Ev te σ H0 (.int b)) (k : ∀ H2, Ex H0 H2 → Ex H1 H2 → tz D (σ.set i (some (.int (f a b)))) H2) : tSeq (tAug i te (ipI f)) tz D σ H1 :=
  ⟨.int a, hx, h H1 e _ fun H2 e2 => ⟨a, b, rfl, rfl, k H2 (e.trans e2) e2⟩⟩
theorem r_if (e : Ex H0 H1) (h : EtP t σ H0 p) (h1 : p → ∀ H2, Ex H0 H2 → Ex H1 H2 → tu { D with nx := tz D } σ H2) (h2 : ¬ p → ∀ H2, Ex H0 H2 → Ex H1 H2 → tw { D with nx := tz D } σ H2) : tSeq (tIfS t tu tw) tz D σ H1 := by
  obtain ⟨b, hb, h⟩ := h
  refine h H1 e _ fun H2 e2 => ?_
  cases b with
  | true => exact h1 (hb.mp rfl) H2 (e.trans e2) e2
  | false => exact h2 (fun z => nomatch hb.mpr z) H2 (e.trans e2) e2
/-- an if without else whose way ends -/
theorem r_when (e : Ex H0 H1) (h : EtP t σ H0 p) (h1 : p → ∀ H2, Ex H0 H2 → Ex H1 H2 → tu { D with nx := tz D } σ H2) (h2 : ¬ p → ∀ H2, Ex H0 H2 → Ex H1 H2 → tz D σ H2) : tSeq (tIfS t tu tNext) tz D σ H1 := r_if e h h1 h2
/-- an if both of whose ways go on (its term: pss_cut): J tells the slots and the heap behind it -/
theorem r_ifJ (e : Ex H0 H1) (h : EtP t σ H0 p) (J : L2.St → Hp → Prop) (h1 : p → ∀ H2, Ex H0 H2 → Ex H1 H2 → tu { D with nx := J } σ H2) (h2 : ¬ p → ∀ H2, Ex H0 H2 → Ex H1 H2 → tw { D with nx := J } σ H2) (hd : ∀ σ' H', J σ' H' → tz D σ' H') : tCut (tIfS t tu tw) tz D σ H1 := by
  refine ⟨J, ?_, hd⟩
  obtain ⟨b, hb, h⟩ := h
  refine h H1 e _ fun H2 e2 => ?_
  cases b with
  | true => exact h1 (hb.mp rfl) H2 (e.trans e2) e2
  | false => exact h2 (fun z => nomatch hb.mpr z) H2 (e.trans e2) e2
theorem r_ret (e : Ex H0 H1) (h : Ev te σ H0 v) (k : ∀ H2, Ex H0 H2 → D.rt v H2) : tSeq (tRet te) tz D σ H1 := h H1 e _ fun H2 e2 => k H2 (e.trans e2)
theorem r_retL {xs : List V} (e : Ex H0 H1) (h : EvL te σ H0 xs) (k : ∀ p H2, H0 p = none → Ex H0 H2 → H2 p = some (.lst xs) → D.rt (.ref p) H2) : tSeq (tRet te) tz D σ H1 := h H1 e _ fun p H2 hp e2 h2 => k p H2 (fresh_back e hp) (e.trans e2) h2
theorem r_retU {xs : List V} (e : Ex H0 H1) (h : EvU te σ H0 xs) (k : ∀ p H2, H0 p = none → Ex H0 H2 → H2 p = some (.tup xs) → D.rt (.ref p) H2) : tSeq (tRet te) tz D σ H1 := h H1 e _ fun p H2 hp e2 h2 => k p H2 (fresh_back e hp) (e.trans e2) h2
/-- return of a new tuple some of whose items are new -/
theorem r_retT {ta : TA} {P : List V → Hp → Prop} (e : Ex H0 H1) (h : EvAX ta σ H0 P) (hz : ∀ vs H, P vs H → vs.length ≤ 100000) (k : ∀ vs p H2 H3, P vs H2 → Ex H0 H2 → Ex H2 H3 → H0 p = none → H3 p = some (.tup vs) → D.rt (.ref p) H3) : tSeq (tRet (tTup ta)) tz D σ H1 :=
  h H1 e _ fun vs H2 e2 hp => ⟨sz_of (hz vs H2 hp), fun p hn => k vs p H2 _ hp (e.trans e2) (Ex.new hn) (fresh_back (e.trans e2) hn) upd_same⟩
theorem r_drop (e : Ex H0 H1) (h : Ev te σ H0 v) (k : ∀ H2, Ex H0 H2 → Ex H1 H2 → tz D σ H2) : tSeq (tDrop te) tz D σ H1 := h H1 e _ fun H2 e2 => k H2 (e.trans e2) e2
theorem r_next (h : D.nx σ H) : tNext D σ H := h
theorem r_seq {t1 : TS} (h : t1 { D with nx := tz D } σ H) : tSeq t1 tz D σ H := h
/-- xs.append(e): the list is not in the ground -/
theorem r_app {l : Addr} {xs : List V} (e : Ex H0 H1) (hn : H0 l = none) (hl : H1 l = some (.lst xs)) (ha : Ev ta σ H0 (.ref l)) (h : Ev te σ H0 v) (hz : xs.length < 100000)
    (k : ∀ H2, Ex H0 H2 → H2 l = some (.lst (xs ++ [v])) → (∀ a o, a ≠ l → H1 a = some o → H2 a = some o) → tz D σ H2) : tSeq (tDrop (tBM K "list" rAppend ta (tCons te tNil))) tz D σ H1 := ha H1 e _ fun H2 e1 =>
  ⟨Or.inl ⟨rfl, xs, sq_of (e1 l _ hl)⟩, h H2 (e.trans e1) _ fun H3 e2 => ⟨l, xs, v, rfl, rfl, e2 l _ (e1 l _ hl), sz_lt hz, k _ (Ex.mut ((e.trans e1).trans e2) hn) upd_same fun a o ne ho => by
    rw [upd_ne ne]
    exact e2 a o (e1 a o ho)⟩⟩
theorem r_appM {α : Type} {f : α → V} {l : Addr} {ms : List α} {n : α} (e : Ex H0 H1) (hn : H0 l = none) (hl : H1 l = some (.lst (ms.map f))) (ha : Ev ta σ H0 (.ref l)) (h : Ev te σ H0 (f n)) (hz : ms.length < 100000)
    (k : ∀ H2, Ex H0 H2 → H2 l = some (.lst ((ms ++ [n]).map f)) → (∀ a o, a ≠ l → H1 a = some o → H2 a = some o) → tz D σ H2) : tSeq (tDrop (tBM K "list" rAppend ta (tCons te tNil))) tz D σ H1 :=
  r_app e hn hl ha h (by rw [List.length_map]; exact hz) fun H2 e2 h2 hk => k H2 e2 (by rw [List.map_append]; exact h2) hk
theorem r_appU {l : Addr} {xs ys : List V} (e : Ex H0 H1) (hn : H0 l = none) (hl : H1 l = some (.lst xs)) (ha : Ev ta σ H0 (.ref l)) (h : EvU te σ H0 ys) (hz : xs.length < 100000)
    (k : ∀ p H2, H1 p = none → p ≠ l → Ex H0 H2 → H2 l = some (.lst (xs ++ [.ref p])) → H2 p = some (.tup ys) → (∀ a o, a ≠ l → H1 a = some o → H2 a = some o) → tz D σ H2) : tSeq (tDrop (tBM K "list" rAppend ta (tCons te tNil))) tz D σ H1 := ha H1 e _ fun H2 e1 =>
  ⟨Or.inl ⟨rfl, xs, sq_of (e1 l _ hl)⟩, h H2 (e.trans e1) _ fun p H3 hp e2 h2 => by
    have ne : p ≠ l := fun z => by
      rw [z, e1 l _ hl] at hp
      cases hp
    refine ⟨l, xs, .ref p, rfl, rfl, e2 l _ (e1 l _ hl), sz_lt hz, k p _ (fresh_back e1 hp) ne (Ex.mut ((e.trans e1).trans e2) hn) upd_same (by rw [upd_ne ne]; exact h2) fun a o ne ho => ?_⟩
    rw [upd_ne ne]
    exact e2 a o (e1 a o ho)⟩
/-- a call that hands back a new list of which P holds -/
def EvLE (te : TE) (σ : L2.St) (H : Hp) (P : List V → Prop) : Prop := ∀ H1, Ex H H1 → ∀ Q : VK, (∀ p H2 xs, P xs → H1 p = none → Ex H1 H2 → H2 p = some (.lst xs) → Q (.ref p) H2) → te σ H1 Q
def SpLE (sp : Sp) (vs : List V) (H : Hp) (P : List V → Prop) : Prop := ∀ H1, Ex H H1 → ∀ Q : VK, (∀ p H2 xs, P xs → H1 p = none → Ex H1 H2 → H2 p = some (.lst xs) → Q (.ref p) H2) → ∀ E : XK, sp vs H1 Q E
theorem ele_call {sp : Sp} {dvs vs : List V} {P : List V → Prop} {E : XK} {ta : TA} (h : EvA ta σ H vs) (hs : SpLE sp (vs ++ dvs) H P) : EvLE (tCall sp dvs E ta) σ H P := fun H1 e Q q =>
  h H1 e _ fun H2 e2 => hs H2 (e.trans e2) Q (fun p H3 xs hx hp e3 h3 => q p H3 xs hx (fresh_back e2 hp) (e2.trans e3) h3) E
theorem r_asgLE {i : Nat} {P : List V → Prop} (e : Ex H0 H1) (h : EvLE te σ H0 P) (k : ∀ p H2 xs, P xs → H0 p = none → Ex H0 H2 → Ex H1 H2 → H2 p = some (.lst xs) → tz D (σ.set i (some (.ref p))) H2) : tSeq (tAsg te (gName i)) tz D σ H1 :=
  h H1 e _ fun p H2 xs hx hp e2 h2 => k p H2 xs hx (fresh_back e hp) (e.trans e2) e2 h2
/-- for a, b in zip(t, u) over two tuples -/
theorem r_forZT {a b : Addr} {xs ys : List V} {ta : TA} {j k : Nat} (e : Ex H0 H1) (h : EvA ta σ H0 [.ref a, .ref b]) (hl : xs.length = ys.length) (hx : SqT K H0 a xs) (hy : SqT K H0 b ys) (I : Nat → L2.St → Prop) (h0 : I 0 σ)
    (hs : ∀ (i : Nat) x y σ' H', xs[i]? = some x → ys[i]? = some y → I i σ' → Ex H0 H' → tu { D with nx := fun σ2 H2 => I (i + 1) σ2 ∧ Ex H0 H2, ct := fun σ2 H2 => I (i + 1) σ2 ∧ Ex H0 H2, bk := tz D } ((σ'.set j (some x)).set k (some y)) H')
    (hd : ∀ σ' H', I xs.length σ' → Ex H0 H' → tz D σ' H') : tSeq (tFor (iZipA K ta) (gTup K 2 (gCons (gName j) (gCons (gName k) gNil))) tu) tz D σ H1 :=
  h H1 e _ fun H2 e2 => ⟨a, b, xs, ys, rfl, Or.inr ⟨ex_t (e.trans e2) hx, ex_t (e.trans e2) hy, for_zipT (D := { D with nx := tz D }) hl (fun i σ' H' => I i σ' ∧ Ex H0 H') ⟨h0, e.trans e2⟩ (fun i σ' H' p => ⟨ex_t p.2 hx, ex_t p.2 hy⟩)
    (fun i x y T σ' H' hi hj p hT => ⟨T, [x, y], rfl, st_of upd_same, rfl, x, [y], rfl, y, [], rfl, rfl, hs i x y σ' _ hi hj p.1 (p.2.trans (Ex.new hT))⟩) fun σ' H' p => hd σ' H' p.1 p.2⟩⟩
theorem r_forZTM {α β : Type} {f : α → V} {g : β → V} {a b : Addr} {xs : List α} {ys : List β} {ta : TA} {j k : Nat} (e : Ex H0 H1) (h : EvA ta σ H0 [.ref a, .ref b]) (hl : xs.length = ys.length) (hx : SqT K H0 a (xs.map f)) (hy : SqT K H0 b (ys.map g)) (I : Nat → L2.St → Prop) (h0 : I 0 σ)
    (hs : ∀ (i : Nat) x y σ' H', xs[i]? = some x → ys[i]? = some y → I i σ' → Ex H0 H' → tu { D with nx := fun σ2 H2 => I (i + 1) σ2 ∧ Ex H0 H2, ct := fun σ2 H2 => I (i + 1) σ2 ∧ Ex H0 H2, bk := tz D } ((σ'.set j (some (f x))).set k (some (g y))) H')
    (hd : ∀ σ' H', I xs.length σ' → Ex H0 H' → tz D σ' H') : tSeq (tFor (iZipA K ta) (gTup K 2 (gCons (gName j) (gCons (gName k) gNil))) tu) tz D σ H1 :=
  r_forZT e h (by rw [List.length_map, List.length_map]; exact hl) hx hy I h0 (fun i x y σ' H' hi hj p e => by
    rw [List.getElem?_map] at hi hj
    cases c : xs[i]? with
    | none => rw [c] at hi; cases hi
    | some u =>
      cases d : ys[i]? with
      | none => rw [d] at hj; cases hj
      | some v =>
        rw [c] at hi
        rw [d] at hj
        obtain rfl : f u = x := Option.some.inj hi
        obtain rfl : g v = y := Option.some.inj hj
        exact hs i u v σ' H' c d p e) fun σ' H' p e => hd σ' H' (by rw [List.length_map] at p; exact p) e
/-- xs.pop() as a statement -/
theorem r_pop {l : Addr} {xs : List V} {y : V} (e : Ex H0 H1) (hn : H0 l = none) (hl : H1 l = some (.lst xs)) (ha : Ev ta σ H0 (.ref l)) (hy : xs[xs.length - 1]? = some y)
    (k : ∀ H2, Ex H0 H2 → H2 l = some (.lst xs.dropLast) → (∀ a o, a ≠ l → H1 a = some o → H2 a = some o) → tz D σ H2) : tSeq (tDrop (tBM0 K "list" rPop ta)) tz D σ H1 := ha H1 e _ fun H2 e1 =>
  ⟨Or.inl ⟨rfl, xs, sq_of (e1 l _ hl)⟩, l, xs, y, rfl, rfl, e1 l _ hl, hy, k _ (Ex.mut (e.trans e1) hn) upd_same fun a o ne ho => by
    rw [upd_ne ne]
    exact e1 a o ho⟩
/-- for over range(n), by a word of the slots; the heap only grows -/
theorem r_forR {ta : TA} {j : Nat} {n : Int} (e : Ex H0 H1) (h : EvA ta σ H0 [.int n]) (hn : -100000 ≤ n ∧ n ≤ 100000) (I : Nat → L2.St → Prop) (h0 : I 0 σ)
    (hs : ∀ (i : Nat) σ' H', (i : Int) < n → I i σ' → Ex H0 H' → tu { D with nx := fun σ2 H2 => I (i + 1) σ2 ∧ Ex H0 H2, ct := fun σ2 H2 => I (i + 1) σ2 ∧ Ex H0 H2, bk := tz D } (σ'.set j (some (.int (i : Int)))) H')
    (hd : ∀ σ' H', I n.toNat σ' → Ex H0 H' → tz D σ' H') : tSeq (tFor (iRng1 ta) (gName j) tu) tz D σ H1 :=
  h H1 e _ fun H2 e2 => ⟨n, rfl, by omega, by omega, for_range (lo := 0) (n := n.toNat) (D := { D with nx := tz D }) (fun i σ' H' => I i σ' ∧ Ex H0 H') ⟨h0, e.trans e2⟩ (fun i σ' H' hi p => by
    have e0 : (0 : Int) + (i : Int) = (i : Int) := Int.zero_add _
    show tu { D with nx := fun σ2 H2 => I (i + 1) σ2 ∧ Ex H0 H2, ct := fun σ2 H2 => I (i + 1) σ2 ∧ Ex H0 H2, bk := tz D } (σ'.set j (some (.int ((0 : Int) + (i : Int))))) H'
    rw [e0]
    exact hs i σ' H' (by omega) p.1 p.2) fun σ' H' p => hd σ' H' p.1 p.2⟩
/-- .. by a word of the slots and the heap -/
theorem r_forRH {ta : TA} {j : Nat} {n : Int} (e : Ex H0 H1) (h : EvA ta σ H0 [.int n]) (hn : -100000 ≤ n ∧ n ≤ 100000) (I : Nat → L2.St → Hp → Prop) (h0 : ∀ H2, Ex H1 H2 → I 0 σ H2)
    (hs : ∀ (i : Nat) σ' H', (i : Int) < n → I i σ' H' → tu { D with nx := I (i + 1), ct := I (i + 1), bk := tz D } (σ'.set j (some (.int (i : Int)))) H')
    (hd : ∀ σ' H', I n.toNat σ' H' → tz D σ' H') : tSeq (tFor (iRng1 ta) (gName j) tu) tz D σ H1 :=
  h H1 e _ fun H2 e2 => ⟨n, rfl, by omega, by omega, for_range (lo := 0) (n := n.toNat) (D := { D with nx := tz D }) I (h0 H2 e2) (fun i σ' H' hi p => by
    have e0 : (0 : Int) + (i : Int) = (i : Int) := Int.zero_add _
    show tu { D with nx := I (i + 1), ct := I (i + 1), bk := tz D } (σ'.set j (some (.int ((0 : Int) + (i : Int))))) H'
    rw [e0]
    exact hs i σ' H' (by omega) p) hd⟩
/-- for over a list of ints that stands -/
theorem r_forLI {a : Addr} {ns : List Int} {tl : TE} {j : Nat} (e : Ex H0 H1) (h : Ev tl σ H0 (.ref a)) (hx : SqL K H0 a (ns.map V.int)) (I : Nat → L2.St → Hp → Prop) (hw : ∀ i σ' H', I i σ' H' → Ex H0 H') (h0 : ∀ H2, Ex H1 H2 → I 0 σ H2)
    (hs : ∀ (i : Nat) (n : Int) σ' H', ns[i]? = some n → I i σ' H' → tu { D with nx := I (i + 1), ct := I (i + 1), bk := tz D } (σ'.set j (some (.int n))) H')
    (hd : ∀ σ' H', I ns.length σ' H' → tz D σ' H') : tSeq (tFor (iList K tl) (gName j) tu) tz D σ H1 :=
  h H1 e _ fun H2 e2 => ⟨a, rfl, ⟨_, ex_l (e.trans e2) hx⟩, for_list (D := { D with nx := tz D }) I (h0 H2 e2) (fun i σ' H' _ p => ex_l (hw i σ' H' p) hx) (fun i x σ' H' hi p => by
    rw [List.getElem?_map] at hi
    cases g : ns[i]? with
    | none => rw [g] at hi; cases hi
    | some n =>
      rw [g] at hi
      obtain rfl : V.int n = x := Option.some.inj hi
      exact hs i n σ' H' g p) fun σ' H' p => hd σ' H' (by rw [List.length_map] at p; exact p)⟩
/-- .. of anything -/
theorem r_forLM {α : Type} {f : α → V} {a : Addr} {ns : List α} {tl : TE} {j : Nat} (e : Ex H0 H1) (h : Ev tl σ H0 (.ref a)) (hx : SqL K H0 a (ns.map f)) (I : Nat → L2.St → Hp → Prop) (hw : ∀ i σ' H', I i σ' H' → Ex H0 H') (h0 : ∀ H2, Ex H1 H2 → I 0 σ H2)
    (hs : ∀ (i : Nat) (n : α) σ' H', ns[i]? = some n → I i σ' H' → tu { D with nx := I (i + 1), ct := I (i + 1), bk := tz D } (σ'.set j (some (f n))) H')
    (hd : ∀ σ' H', I ns.length σ' H' → tz D σ' H') : tSeq (tFor (iList K tl) (gName j) tu) tz D σ H1 :=
  h H1 e _ fun H2 e2 => ⟨a, rfl, ⟨_, ex_l (e.trans e2) hx⟩, for_list (D := { D with nx := tz D }) I (h0 H2 e2) (fun i σ' H' _ p => ex_l (hw i σ' H' p) hx) (fun i x σ' H' hi p => by
    rw [List.getElem?_map] at hi
    cases g : ns[i]? with
    | none => rw [g] at hi; cases hi
    | some n =>
      rw [g] at hi
      obtain rfl : f n = x := Option.some.inj hi
      exact hs i n σ' H' g p) fun σ' H' p => hd σ' H' (by rw [List.length_map] at p; exact p)⟩
/-- .. over a displayed or called, new list -/
theorem r_forNM {α : Type} {f : α → V} {ns : List α} {tl : TE} {j : Nat} (e : Ex H0 H1) (h : EvL tl σ H0 (ns.map f)) (I : Hp → Nat → L2.St → Hp → Prop) (hw : ∀ G i σ' H', I G i σ' H' → Ex G H') (h0 : ∀ G, Ex H0 G → Ex H1 G → I G 0 σ G)
    (hs : ∀ G, Ex H0 G → ∀ (i : Nat) (n : α) σ' H', ns[i]? = some n → I G i σ' H' → tu { D with nx := I G (i + 1), ct := I G (i + 1), bk := tz D } (σ'.set j (some (f n))) H')
    (hd : ∀ G, Ex H0 G → ∀ σ' H', I G ns.length σ' H' → tz D σ' H') : tSeq (tFor (iList K tl) (gName j) tu) tz D σ H1 :=
  h H1 e _ fun a G ha e2 h2 => ⟨a, rfl, ⟨_, sq_of h2⟩, for_list (D := { D with nx := tz D }) (I G) (h0 G (e.trans e2) e2) (fun i σ' H' _ p => ex_l (hw G i σ' H' p) (sq_of h2)) (fun i x σ' H' hi p => by
    rw [List.getElem?_map] at hi
    cases g : ns[i]? with
    | none => rw [g] at hi; cases hi
    | some n =>
      rw [g] at hi
      obtain rfl : f n = x := Option.some.inj hi
      exact hs G (e.trans e2) i n σ' H' g p) fun σ' H' p => hd G (e.trans e2) σ' H' (by rw [List.length_map] at p; exact p)⟩
/-- while, by a word of the measure, the slots and the heap -/
theorem r_whileH (e : Ex H0 H1) (W : Nat → L2.St → Hp → Prop) (m0 : Nat) (hw : ∀ m σ' H', W m σ' H' → Ex H0 H') (h0 : W m0 σ H1)
    (hs : ∀ m σ' H', W m σ' H' → ∃ p, EtP t σ' H0 p ∧ (p → ∀ H2, Ex H0 H2 → Ex H' H2 → tu { D with nx := fun σ2 H3 => ∃ m', m' < m ∧ W m' σ2 H3, ct := fun σ2 H3 => ∃ m', m' < m ∧ W m' σ2 H3, bk := tz D } σ' H2) ∧ (¬ p → ∀ H2, Ex H0 H2 → Ex H' H2 → tz D σ' H2)) :
    tSeq (tWhile t tu) tz D σ H1 := by
  refine q_while W m0 h0 ?_
  intro m σ' H' hwm
  have e' := hw m σ' H' hwm
  obtain ⟨p, ⟨b, hb, ht⟩, h1, h2⟩ := hs m σ' H' hwm
  refine ⟨b, ht.mono e', fun eb H2 e2 => ?_, fun eb H2 e2 => ?_⟩
  · exact ⟨_, fun σ2 H3 z => z, h1 (hb.mp eb) H2 (e'.trans e2) e2⟩
  · refine h2 (fun z => ?_) H2 (e'.trans e2) e2
    have := hb.mpr z
    rw [eb] at this
    cases this
/-- for over a list that stands -/
theorem r_forL {a : Addr} {xs : List V} {tl : TE} {j : Nat} (e : Ex H0 H1) (h : Ev tl σ H0 (.ref a)) (hx : SqL K H0 a xs) (I : Nat → L2.St → Prop) (h0 : I 0 σ)
    (hs : ∀ (i : Nat) x σ' H', xs[i]? = some x → I i σ' → Ex H0 H' → tu { D with nx := fun σ2 H2 => I (i + 1) σ2 ∧ Ex H0 H2, ct := fun σ2 H2 => I (i + 1) σ2 ∧ Ex H0 H2, bk := tz D } (σ'.set j (some x)) H')
    (hd : ∀ σ' H', I xs.length σ' → Ex H0 H' → tz D σ' H') : tSeq (tFor (iList K tl) (gName j) tu) tz D σ H1 :=
  h H1 e _ fun H2 e2 => ⟨a, rfl, ⟨xs, ex_l (e.trans e2) hx⟩, for_list (D := { D with nx := tz D }) (fun i σ' H' => I i σ' ∧ Ex H0 H') ⟨h0, e.trans e2⟩ (fun i σ' H' _ p => ex_l p.2 hx) (fun i x σ' H' hi p => hs i x σ' H' hi p.1 p.2) fun σ' H' p => hd σ' H' p.1 p.2⟩
/-- .. over a new list -/
theorem r_forNL {xs : List V} {tl : TE} {j : Nat} (e : Ex H0 H1) (h : EvL tl σ H0 xs) (I : Nat → L2.St → Prop) (h0 : I 0 σ)
    (hs : ∀ G, Ex H0 G → ∀ (i : Nat) x σ' H', xs[i]? = some x → I i σ' → Ex G H' → tu { D with nx := fun σ2 H2 => I (i + 1) σ2 ∧ Ex G H2, ct := fun σ2 H2 => I (i + 1) σ2 ∧ Ex G H2, bk := tz D } (σ'.set j (some x)) H')
    (hd : ∀ G, Ex H0 G → ∀ σ' H', I xs.length σ' → Ex G H' → tz D σ' H') : tSeq (tFor (iList K tl) (gName j) tu) tz D σ H1 :=
  h H1 e _ fun a H2 ha e2 h2 => ⟨a, rfl, ⟨xs, sq_of h2⟩, for_list (D := { D with nx := tz D }) (fun i σ' H' => I i σ' ∧ Ex H2 H') ⟨h0, Ex.refl _⟩ (fun i σ' H' _ p => ex_l p.2 (sq_of h2)) (fun i x σ' H' hi p => hs H2 (e.trans e2) i x σ' H' hi p.1 p.2) fun σ' H' p => hd H2 (e.trans e2) σ' H' p.1 p.2⟩
/-- an int of a list of ints -/
theorem rv_ixI {p : Addr} {ns : List Int} {i : Int} (h : SqL K H p (ns.map V.int)) (h0 : 0 ≤ i) (h1 : i < (ns.length : Int)) : RV (rIxL K) (.ref p) (.int i) H (.int (ns.getD i.toNat 0)) := by
  refine rv_ixL h ?_
  obtain ⟨j, rfl⟩ : ∃ j : Nat, i = (j : Int) := ⟨i.toNat, by omega⟩
  have hj : j < ns.length := by omega
  refine atI_nat ?_
  rw [List.getElem?_map, List.getElem?_eq_getElem hj]
  show some (V.int ns[j]) = some (V.int (ns.getD ((j : Int).toNat) 0))
  rw [Int.toNat_natCast, List.getD_eq_getElem?_getD, List.getElem?_eq_getElem hj]
  rfl
theorem cutV_to (xs : List V) (k : Nat) : cutV xs none (some (k : Int)) = xs.take k := by
  unfold cutV
  rw [HT.sIx_none, HT.sIx_nat, List.drop_zero, Nat.sub_zero]
  by_cases h : k ≤ xs.length
  · rw [Nat.min_eq_left h]
  · rw [Nat.min_eq_right (by omega), List.take_of_length_le (Nat.le_refl _), List.take_of_length_le (by omega)]
theorem cutV_all {xs : List V} (k : Nat) (h : xs.length ≤ k) : cutV xs none (some (k : Int)) = xs := by
  rw [cutV_to, List.take_of_length_le h]
theorem cutV_from (xs : List V) (k : Nat) : cutV xs (some (k : Int)) none = xs.drop k := by
  unfold cutV
  rw [HT.sIx_none, HT.sIx_nat]
  by_cases h : k ≤ xs.length
  · rw [Nat.min_eq_left h, List.take_of_length_le (by rw [List.length_drop]; omega)]
  · rw [Nat.min_eq_right (by omega), List.take_of_length_le (by rw [List.length_drop]; omega), List.drop_of_length_le (Nat.le_refl _), List.drop_of_length_le (by omega)]
theorem rv_kd {w : World} {p : Addr} {z : Str} {v : V} (h : KDct K w p z v) : RV (rIxD K w) (.ref p) (.str z) H v := fun H1 _ Q q => ⟨p, z, v, rfl, rfl, h, q H1 (Ex.refl H1)⟩
theorem rv_isN {x : V} : RV (fun x y H Q => y = .non ∧ Q (.bl (decide (x = .non))) H) x .non H (.bl (decide (x = .non))) := fun H1 _ Q q => ⟨rfl, q H1 (Ex.refl H1)⟩
theorem rv_notN {x : V} : RV (fun x y H Q => y = .non ∧ Q (.bl (!decide (x = .non))) H) x .non H (.bl (!decide (x = .non))) := fun H1 _ Q q => ⟨rfl, q H1 (Ex.refl H1)⟩
theorem ev_slS {tl th : TO} {zs : Str} {lo hi : Option Int} (h : Ev te σ H (.str zs)) (h1 : EvO tl σ H lo) (h2 : EvO th σ H hi) (hz : zs.length ≤ 100000) : Ev (tSl rSlS te tl th) σ H (.str (cutS zs lo hi)) := fun H1 e _ q =>
  h H1 e _ fun H2 e2 => h1 H2 (e.trans e2) _ fun H3 e3 => h2 H3 ((e.trans e2).trans e3) _ fun H4 e4 => ⟨zs, rfl, sz_of hz, q H4 ((e2.trans e3).trans e4)⟩
/-- [f(x) for x in xs] over a list of ints, each an int -/
theorem given_all {n : Nat} {v : Nat → V} : given n (fun _ => true) v = (List.range n).map v := by
  unfold given
  rw [List.filter_eq_self.mpr (fun _ _ => rfl)]
theorem et_yes {σ : L2.St} {H : Hp} : EvT tYes σ H true := fun H1 _ _ q => q H1 (Ex.refl H1)
theorem map_range {α : Type} {ns : List α} {d : α} {f : α → V} : (List.range ns.length).map (fun i => f (ns.getD i d)) = ns.map f := by
  apply List.ext_getElem?
  intro i
  rw [List.getElem?_map, List.getElem?_map]
  by_cases h : i < ns.length
  · rw [List.getElem?_range h, List.getElem?_eq_getElem h]
    show some (f (ns.getD i d)) = some (f ns[i])
    rw [List.getD_eq_getElem?_getD, List.getElem?_eq_getElem h]
    rfl
  · rw [List.getElem?_eq_none (by rw [List.length_range]; omega), List.getElem?_eq_none (by omega)]
    rfl
theorem el_lcI {a : Addr} {ns : List Int} {tl : TE} {j : Nat} {vs : List Nat} (f : Int → V) (h : Ev tl σ H (.ref a)) (hx : SqL K H a (ns.map V.int)) (hz : ns.length ≤ 40000) (hw : ∀ x, wipe ((wipe σ vs).set j (some x)) vs = wipe σ vs)
    (he : ∀ (n : Int), n ∈ ns → Ev te ((wipe σ vs).set j (some (.int n))) H (f n)) : EvL (tLc (iList K tl) (gName j) tYes te vs) σ H (ns.map f) := by
  have q := el_lcL (K := K) (t := tYes) (te := te) (j := j) (vs := vs) (fun _ => true) (fun i => f (ns.getD i 0)) h hx (by rw [List.length_map]; exact hz) hw (fun _ _ _ _ _ => et_yes) (fun i x H1 e hi _ => by
    rw [List.getElem?_map] at hi
    cases g : ns[i]? with
    | none => rw [g] at hi; cases hi
    | some n =>
      rw [g] at hi
      obtain rfl : V.int n = x := Option.some.inj hi
      have d : ns.getD i 0 = n := by rw [List.getD_eq_getElem?_getD, g]; rfl
      rw [d]
      exact (he n (List.mem_of_getElem? g)).mono e)
  rw [given_all, List.length_map, map_range] at q
  exact q
/-- .. over a new list -/
theorem el_lcNI {ns : List Int} {tl : TE} {j : Nat} {vs : List Nat} (f : Int → V) (h : EvL tl σ H (ns.map V.int)) (hz : ns.length ≤ 40000) (hw : ∀ x, wipe ((wipe σ vs).set j (some x)) vs = wipe σ vs)
    (he : ∀ (n : Int), n ∈ ns → Ev te ((wipe σ vs).set j (some (.int n))) H (f n)) : EvL (tLc (iList K tl) (gName j) tYes te vs) σ H (ns.map f) := by
  have q := el_lcNL (K := K) (t := tYes) (te := te) (j := j) (vs := vs) (fun _ => true) (fun i => f (ns.getD i 0)) h (by rw [List.length_map]; exact hz) hw (fun _ _ _ _ _ => et_yes) (fun i x H1 e hi _ => by
    rw [List.getElem?_map] at hi
    cases g : ns[i]? with
    | none => rw [g] at hi; cases hi
    | some n =>
      rw [g] at hi
      obtain rfl : V.int n = x := Option.some.inj hi
      have d : ns.getD i 0 = n := by rw [List.getD_eq_getElem?_getD, g]; rfl
      rw [d]
      exact (he n (List.mem_of_getElem? g)).mono e)
  rw [given_all, List.length_map, map_range] at q
  exact q
/-- [e for k in range(n)] -/
theorem given_list (ns : List Int) (p : Int → Bool) (f : Int → V) : given ns.length (fun i => p (ns.getD i 0)) (fun i => f (ns.getD i 0)) = (ns.filter p).map f := by
  have h : ns = (List.range ns.length).map fun i => ns.getD i 0 := by
    apply List.ext_getElem?
    intro i
    rw [List.getElem?_map]
    by_cases g : i < ns.length
    · rw [List.getElem?_range g, List.getElem?_eq_getElem g]
      show some ns[i] = some (ns.getD i 0)
      rw [List.getD_eq_getElem?_getD, List.getElem?_eq_getElem g]
      rfl
    · rw [List.getElem?_eq_none (show ns.length ≤ i by omega), List.getElem?_eq_none (show (List.range ns.length).length ≤ i by rw [List.length_range]; omega)]
      rfl
  unfold given
  generalize hn : ns.length = n
  rw [hn] at h
  generalize hg : (fun i => ns.getD i 0) = g at h
  have e1 : (fun i => p (ns.getD i 0)) = p ∘ g := by rw [← hg]; rfl
  have e2 : (fun i => f (ns.getD i 0)) = f ∘ g := by rw [← hg]; rfl
  rw [e1, e2, h, List.filter_map, List.map_map]
/-- .. some of them -/
theorem el_lcIF {a : Addr} {ns : List Int} {t : TT} {tl : TE} {j : Nat} {vs : List Nat} (p : Int → Bool) (f : Int → V) (h : Ev tl σ H (.ref a)) (hx : SqL K H a (ns.map V.int)) (hz : ns.length ≤ 40000) (hw : ∀ x, wipe ((wipe σ vs).set j (some x)) vs = wipe σ vs)
    (ht : ∀ (n : Int), n ∈ ns → EvT t ((wipe σ vs).set j (some (.int n))) H (p n)) (he : ∀ (n : Int), n ∈ ns → Ev te ((wipe σ vs).set j (some (.int n))) H (f n)) : EvL (tLc (iList K tl) (gName j) t te vs) σ H ((ns.filter p).map f) := by
  have hi : ∀ (i : Nat) (x : V), (ns.map V.int)[i]? = some x → ∃ n, n ∈ ns ∧ x = .int n ∧ ns.getD i 0 = n := fun i x hi => by
    rw [List.getElem?_map] at hi
    cases g : ns[i]? with
    | none => rw [g] at hi; cases hi
    | some n =>
      rw [g] at hi
      exact ⟨n, List.mem_of_getElem? g, (Option.some.inj hi).symm, by rw [List.getD_eq_getElem?_getD, g]; rfl⟩
  have q := el_lcL (K := K) (t := t) (te := te) (j := j) (vs := vs) (fun i => p (ns.getD i 0)) (fun i => f (ns.getD i 0)) h hx (by rw [List.length_map]; exact hz) hw
    (fun i x H1 e hx => by obtain ⟨n, hm, rfl, d⟩ := hi i x hx; show EvT _ _ _ (p (ns.getD i 0)); rw [d]; exact (ht n hm).mono e)
    (fun i x H1 e hx _ => by obtain ⟨n, hm, rfl, d⟩ := hi i x hx; show Ev _ _ _ (f (ns.getD i 0)); rw [d]; exact (he n hm).mono e)
  rw [List.length_map, given_list] at q
  exact q
theorem ev_sumN {ns : List Int} (h : EvL ta σ H (ns.map V.int)) : Ev (tCB (rSum K) (tCons ta tNil)) σ H (.int ns.sum) := fun H1 e Q q =>
  h H1 e _ fun p H2 _ e2 hp => ⟨p, ns, rfl, sq_of hp, q H2 e2⟩
theorem ev_sumR {n : Nat} {f : Nat → Int} (h : EvL ta σ H ((List.range n).map fun i => V.int (f i))) : Ev (tCB (rSum K) (tCons ta tNil)) σ H (.int ((List.range n).map f).sum) :=
  ev_sumN (by rw [List.map_map]; exact h)
theorem et_p {p : Prop} [Decidable p] (h : EtP t σ H p) : EvT t σ H (decide p) := by
  obtain ⟨b, hb, h⟩ := h
  refine et_is h ?_
  cases b with
  | true => exact (decide_eq_true (hb.mp rfl)).symm
  | false => exact (decide_eq_false fun z => nomatch hb.mpr z).symm
theorem el_revL {p : Addr} {xs : List V} (ha : Ev ta σ H (.ref p)) (h : SqL K H p xs) : EvL (tRevL K ta) σ H xs.reverse := fun H1 e Q q =>
  ha H1 e _ fun H2 e2 => ⟨p, xs, rfl, ex_l (e.trans e2) h, fun l hl => q l _ (fresh_back e2 hl) (e2.trans (Ex.new hl)) upd_same⟩
theorem el_revI {p : Addr} {ns : List Int} (ha : Ev ta σ H (.ref p)) (h : SqL K H p (ns.map V.int)) : EvL (tRevL K ta) σ H (ns.reverse.map V.int) := by
  rw [List.map_reverse]
  exact el_revL ha h
theorem el_lcR {ta : TA} {j : Nat} {vs : List Nat} {n : Int} (v : Nat → V) (h : EvA ta σ H [.int n]) (hn : 0 ≤ n ∧ n ≤ 40000) (hw : ∀ x, wipe ((wipe σ vs).set j (some x)) vs = wipe σ vs)
    (he : ∀ (i : Nat), (i : Int) < n → Ev te ((wipe σ vs).set j (some (.int (i : Int)))) H (v i)) : EvL (tLc (iRng1 ta) (gName j) tYes te vs) σ H ((List.range n.toNat).map v) := by
  have q := el_lcR1 (te := te) (j := j) (vs := vs) (fun _ => true) v h hn hw (t := tYes) (fun _ _ _ _ => et_yes) (fun i H1 e hi _ => (he i hi).mono e)
  rw [given_all] at q
  exact q
/-- an item of a displayed list -/
theorem ev_ixD {ns : List Int} {i : Int} (ha : EvL ta σ H (ns.map V.int)) (hb : Ev tb σ H (.int i)) (h0 : 0 ≤ i) (h1 : i < (ns.length : Int)) : Ev (tOp (rIxL K) ta tb) σ H (.int (ns.getD i.toNat 0)) :=
  ev_opL1 ha (fun _ e => hb.mono e) fun p H1 h _ => rv_ixL (sq_of h) (by
    obtain ⟨j, rfl⟩ : ∃ j : Nat, i = (j : Int) := ⟨i.toNat, by omega⟩
    have hj : j < ns.length := by omega
    refine atI_nat ?_
    rw [List.getElem?_map, List.getElem?_eq_getElem hj, List.getD_eq_getElem?_getD, Int.toNat_natCast, List.getElem?_eq_getElem hj]
    rfl)
theorem at_strs {ns : List Str} {i : Int} (h0 : 0 ≤ i) (h1 : i < (ns.length : Int)) : atI (ns.map V.str) i = some (.str (ns.getD i.toNat "")) := by
  obtain ⟨j, rfl⟩ : ∃ j : Nat, i = (j : Int) := ⟨i.toNat, by omega⟩
  have hj : j < ns.length := by omega
  refine atI_nat ?_
  rw [List.getElem?_map, List.getElem?_eq_getElem hj, List.getD_eq_getElem?_getD, Int.toNat_natCast, List.getElem?_eq_getElem hj]
  rfl
theorem ev_ixDS {ns : List Str} {i : Int} (ha : EvL ta σ H (ns.map V.str)) (hb : Ev tb σ H (.int i)) (h0 : 0 ≤ i) (h1 : i < (ns.length : Int)) : Ev (tOp (rIxL K) ta tb) σ H (.str (ns.getD i.toNat "")) :=
  ev_opL1 ha (fun _ e => hb.mono e) fun p H1 h _ => rv_ixL (sq_of h) (at_strs h0 h1)
theorem rv_ixStr {p : Addr} {ns : List Str} {i : Int} (h : SqL K H p (ns.map V.str)) (h0 : 0 ≤ i) (h1 : i < (ns.length : Int)) : RV (rIxL K) (.ref p) (.int i) H (.str (ns.getD i.toNat "")) := rv_ixL h (at_strs h0 h1)
theorem ev_lenM {α : Type} {f : α → V} {p : Addr} {ns : List α} (ha : Ev ta σ H (.ref p)) (h : SqL K H p (ns.map f)) : Ev (tCB (rLenS K) (tCons ta tNil)) σ H (.int (ns.length : Int)) := by
  have q := ev_len ha h
  rw [List.length_map] at q
  exact q
theorem ev_lenTM {α : Type} {f : α → V} {p : Addr} {ns : List α} (ha : Ev ta σ H (.ref p)) (h : SqT K H p (ns.map f)) : Ev (tCB (rLenS K) (tCons ta tNil)) σ H (.int (ns.length : Int)) := by
  have q := ev_lenT ha h
  rw [List.length_map] at q
  exact q
theorem el_to {xs ys : List V} (h : EvL te σ H xs) (e : xs = ys) : EvL te σ H ys := by rw [← e]; exact h
theorem r_retI {i j : Int} (e : Ex H0 H1) (h : Ev te σ H0 (.int i)) (hi : i = j) (k : ∀ H2, Ex H0 H2 → D.rt (.int j) H2) : tSeq (tRet te) tz D σ H1 := by
  subst hi
  exact h H1 e _ fun H2 e2 => k H2 (e.trans e2)
theorem r_retB {i j : Bool} (e : Ex H0 H1) (h : Ev te σ H0 (.bl i)) (hi : i = j) (k : ∀ H2, Ex H0 H2 → D.rt (.bl j) H2) : tSeq (tRet te) tz D σ H1 := by
  subst hi
  exact h H1 e _ fun H2 e2 => k H2 (e.trans e2)
theorem r_retS {i j : Str} (e : Ex H0 H1) (h : Ev te σ H0 (.str i)) (hi : i = j) (k : ∀ H2, Ex H0 H2 → D.rt (.str j) H2) : tSeq (tRet te) tz D σ H1 := by
  subst hi
  exact h H1 e _ fun H2 e2 => k H2 (e.trans e2)
/-- while; the heap only grows; W: by a measure and the slots -/
theorem r_while (e : Ex H0 H1) (W : Nat → L2.St → Prop) (m0 : Nat) (h0 : W m0 σ)
    (hs : ∀ m σ' H', W m σ' → Ex H0 H' → ∃ p, EtP t σ' H0 p ∧ (p → ∀ H2, Ex H0 H2 → tu { D with nx := fun σ2 H3 => (∃ m', m' < m ∧ W m' σ2) ∧ Ex H0 H3, ct := fun σ2 H3 => (∃ m', m' < m ∧ W m' σ2) ∧ Ex H0 H3, bk := tz D } σ' H2) ∧ (¬ p → ∀ H2, Ex H0 H2 → tz D σ' H2)) :
    tSeq (tWhile t tu) tz D σ H1 := by
  refine q_while (fun m σ' H' => W m σ' ∧ Ex H0 H') m0 ⟨h0, e⟩ ?_
  rintro m σ' H' ⟨hw, e'⟩
  obtain ⟨p, ⟨b, hb, ht⟩, h1, h2⟩ := hs m σ' H' hw e'
  refine ⟨b, ht.mono e', fun eb H2 e2 => ?_, fun eb H2 e2 => ?_⟩
  · exact ⟨_, fun σ2 H3 ⟨⟨m', l, w⟩, e3⟩ => ⟨m', l, w, e3⟩, h1 (hb.mp eb) H2 (e'.trans e2)⟩
  · refine h2 (fun z => ?_) H2 (e'.trans e2)
    have := hb.mpr z
    rw [eb] at this
    cases this
end

/-! ### written dicts with text keys, told by their pairs -/
def EntsK (P : Params) : List (Str × V) → List DictEntry → Prop
  | [], [] => True
  | (k, v) :: r, e :: l => (∃ t, e.key = .str k t) ∧ e.hash = PyData.keyHash P k ∧ RelV v e.val ∧ EntsK P r l
  | _, _ => False
theorem EntsK.lit {P : Params} : ∀ {r : List (Str × V)} {l : List DictEntry}, EntsK P r l → PySem.W.KeysLit P l
  | [], [], _ => True.intro
  | (k, v) :: r, e :: l, h => by
    obtain ⟨⟨t, h1⟩, h2, _, h4⟩ := h
    exact ⟨⟨k, t, h1, h2⟩, EntsK.lit h4⟩
  | [], _ :: _, h => h.elim
  | _ :: _, [], h => h.elim
theorem isStr_str (k z : Str) (t : Tok) : (Value.str k t).isStr z = decide (k = z) := by
  rw [PySem.W.isStr_of]
  by_cases h : k = z
  · subst h
    rw [decide_eq_true rfl]
    exact keyIs_str k t
  · rw [decide_eq_false h]
    cases e : Value.isStrOf z (.str k t) with
    | false => rfl
    | true =>
      obtain ⟨t2, e2⟩ := Value.isStrOf_shape (x := z) (v := .str k t) e
      injection e2 with e3 _
      exact absurd e3 h
theorem EntsK.find {P : Params} (z : Str) : ∀ {r : List (Str × V)} {l : List DictEntry}, EntsK P r l →
    (match l.find? (fun e => e.key.isStr z) with | some e => ∃ v, r.lookup z = some v ∧ RelV v e.val | none => r.lookup z = none ∧ l.any (·.refKey) = false)
  | [], [], _ => ⟨rfl, rfl⟩
  | (k, v) :: r, e :: l, h => by
    obtain ⟨⟨t, h1⟩, _, h3, h4⟩ := h
    have ih := EntsK.find z h4
    have hk : e.key.isStr z = decide (k = z) := by rw [h1]; exact isStr_str k z t
    by_cases hz : k = z
    · subst hz
      have q : (e :: l).find? (fun e => e.key.isStr k) = some e := by
        rw [List.find?_cons, hk, decide_eq_true rfl]
      rw [q]
      refine ⟨v, ?_, h3⟩
      rw [List.lookup_cons, beq_self_eq_true]
    · have q : (e :: l).find? (fun e => e.key.isStr z) = l.find? (fun e => e.key.isStr z) := by
        rw [List.find?_cons, hk, decide_eq_false hz]
      have g : ((k, v) :: r).lookup z = r.lookup z := by
        rw [List.lookup_cons, beq_eq_false_iff_ne.mpr (Ne.symm hz)]
      rw [q, g]
      cases c : l.find? (fun e => e.key.isStr z) with
      | some e2 =>
        rw [c] at ih
        exact ih
      | none =>
        rw [c] at ih
        refine ⟨ih.1, ?_⟩
        rw [List.any_cons, ih.2, Bool.or_false]
        unfold DictEntry.refKey
        rw [h1]
  | [], _ :: _, h => h.elim
  | _ :: _, [], h => h.elim
/-- at d stands a written dict of these pairs -/
structure SD (K : PySem.W.Frag) (w : World) (d : Addr) (kvs : List (Str × V)) : Prop where
  ex : ∃ es n, K.lookup d = some ⟨.type "dict", none, .dict es n, #[]⟩ ∧ EntsK w.params kvs es.toList
  low : (d == sysModules) = false
section
variable {K : PySem.W.Frag} {w : World} {d : Addr} {kvs : List (Str × V)} {H : Hp}
theorem SD.some (D : SD K w d kvs) {z : Str} {v : V} (h : kvs.lookup z = .some v) : KDct K w d z v := by
  obtain ⟨es, n, hl, he⟩ := D.ex
  have f := he.find z
  cases c : es.toList.find? (fun e => e.key.isStr z) with
  | none => rw [c] at f; rw [f.1] at h; cases h
  | some e =>
    rw [c] at f
    obtain ⟨v2, h2, h3⟩ := f
    rw [h] at h2
    cases h2
    refine ⟨es, n, e.val, hl, he.lit, ?_, h3⟩
    unfold PySem.W.nsIn
    rw [hl]
    dsimp only
    rw [c]
theorem SD.ns (D : SD K w d kvs) (z : Str) : ∃ r, PySem.W.nsIn K d z = .some r ∧ r.isSome = (kvs.lookup z).isSome := by
  obtain ⟨es, n, hl, he⟩ := D.ex
  have f := he.find z
  unfold PySem.W.nsIn
  rw [hl]
  dsimp only
  cases c : es.toList.find? (fun e => e.key.isStr z) with
  | none =>
    rw [c] at f
    rw [f.1]
    dsimp only
    rw [f.2]
    exact ⟨none, rfl, rfl⟩
  | some e =>
    rw [c] at f
    obtain ⟨v2, h2, h3⟩ := f
    rw [h2]
    exact ⟨_, rfl, rfl⟩
def rInSD (d : Addr) (kvs : List (Str × V)) (neg : Bool) : R2 := fun x y H Q => ∃ (z : Str), x = .str z ∧ y = .ref d ∧ Q (.bl (if neg then !(kvs.lookup z).isSome else (kvs.lookup z).isSome)) H
theorem op_in_sd {X : Cx} (D : SD X.K X.w d kvs) : OpR X (compareOp .In) (rInSD d kvs false) := by
  intro pins s σ H x y v u Q I rx ry h
  obtain ⟨z, rfl, rfl, q⟩ := h
  obtain ⟨es, n, hl, he⟩ := D.ex
  obtain ⟨r, hr, hs⟩ := D.ns z
  refine op_in_kd ⟨hl, he.lit, D.low⟩ pins s σ H (.str z) (.ref d) v u Q I rx ry ⟨z, r, rfl, rfl, hr, ?_⟩
  rw [hs]
  exact q
theorem op_notIn_sd {X : Cx} (D : SD X.K X.w d kvs) : OpR X (compareOp .NotIn) (rInSD d kvs true) := by
  intro pins s σ H x y v u Q I rx ry h
  obtain ⟨z, rfl, rfl, q⟩ := h
  obtain ⟨es, n, hl, he⟩ := D.ex
  obtain ⟨r, hr, hs⟩ := D.ns z
  refine op_notIn_kd ⟨hl, he.lit, D.low⟩ pins s σ H (.str z) (.ref d) v u Q I rx ry ⟨z, r, rfl, rfl, hr, ?_⟩
  rw [hs]
  exact q
theorem rv_inSD {z : Str} : RV (rInSD d kvs false) (.str z) (.ref d) H (.bl ((kvs.lookup z).isSome)) := fun H1 _ Q q => ⟨z, rfl, rfl, q H1 (Ex.refl H1)⟩
theorem rv_niSD {z : Str} : RV (rInSD d kvs true) (.str z) (.ref d) H (.bl (!(kvs.lookup z).isSome)) := fun H1 _ Q q => ⟨z, rfl, rfl, q H1 (Ex.refl H1)⟩
theorem lookup_keys (z : Str) : ∀ kvs : List (Str × V), (kvs.lookup z).isSome = decide (z ∈ kvs.map (·.1))
  | [] => rfl
  | (k, v) :: r => by
    have ih := lookup_keys z r
    by_cases h : z = k
    · subst h
      rw [List.lookup_cons, beq_self_eq_true]
      simp
    · rw [List.lookup_cons, beq_eq_false_iff_ne.mpr h]
      show (r.lookup z).isSome = _
      rw [ih]
      simp [h]
theorem rv_inSDk {z : Str} {keys : List Str} (hk : kvs.map (·.1) = keys) : RV (rInSD d kvs false) (.str z) (.ref d) H (.bl (decide (z ∈ keys))) := by
  have q := rv_inSD (d := d) (kvs := kvs) (H := H) (z := z)
  rw [lookup_keys, hk] at q
  exact q
theorem rv_niSDk {z : Str} {keys : List Str} (hk : kvs.map (·.1) = keys) : RV (rInSD d kvs true) (.str z) (.ref d) H (.bl (!decide (z ∈ keys))) := by
  have q := rv_niSD (d := d) (kvs := kvs) (H := H) (z := z)
  rw [lookup_keys, hk] at q
  exact q
/-- a written tuple of flat values -/
theorem sqt_k {a : Addr} {od : Option Addr} {its : Array Value} {n : Nat} {sl : Array (Option Value)} {xs : List V} (l : K.lookup a = some ⟨.type "tuple", od, .seq its n, sl⟩) (hz : its.size ≤ 100000) (r : Vals xs its.toList) : ∀ H : Hp, SqT K H a xs :=
  fun _ => Or.inr ⟨_, its, n, l, rfl, rfl, Nat.le_trans hz (by decide), r⟩
end
/-! ### a call of a local name that holds one of several defs -/
def tCallR (i : Nat) (S : Addr → Sp → Prop) (t : TA) : TE := fun σ H Q => ∃ f sp, σ[i]? = some (some (.ref f)) ∧ S f sp ∧ t σ H fun vs H1 => sp vs H1 Q (fun _ _ _ => False)
theorem pe_callR {X : Cx} {k i : Nat} {x : Str} {p pos : Pos} {e : Expr} {es : List Expr} {t : TA} {S : Addr → Sp → Prop} (A : ∀ f sp, S f sp → Held X.prog X.w X.K X.mg X.base k f sp) (hr : Room k X.A) (hN : X.N[i]? = some x) (hv : Vis X.env.scope x) (ha : PA X (e :: es) t)
    (hdb : (x == ("__debug__" : Str)) = false := by decide) (hcd : (x == ("__classdict__" : Str)) = false := by decide)
    (he : starEach (e :: es) X.env = (false, eval e X.env) :: starEach es X.env := by rfl) (hpl : (backTo pos (starEach es X.env)).any (·.1) = false := by rfl) : PE X (.Call (.Name x p) (e :: es) [] pos) (tCallR i S t) := by
  refine ⟨fun pins s σ H Q I h => ?_⟩
  obtain ⟨f, sp, hs, hS, ht⟩ := h
  obtain ⟨fd, ps, F, hk, hb⟩ := (A f sp hS).ex
  refine (pe_callL (i := i) (f := f) (sp := sp) (dvs := []) (E := fun _ _ _ => False) F hr hN hv hk hb .nil (fun _ _ _ _ _ _ _ z => z.elim) ha hdb hcd he hpl).run pins s σ H Q I ⟨hs, ?_⟩
  have e0 : (fun (vs : List V) (H1 : Hp) => sp (vs ++ []) H1 Q (fun _ _ _ => False)) = fun vs H1 => sp vs H1 Q (fun _ _ _ => False) := by
    funext vs H1
    rw [List.append_nil]
  show t σ H (fun vs H1 => sp (vs ++ []) H1 Q (fun _ _ _ => False))
  rw [e0]
  exact ht
theorem ev_callR {i : Nat} {S : Addr → Sp → Prop} {ta : TA} {σ : L2.St} {H : Hp} {f : Addr} {sp : Sp} {vs : List V} {z : V} (hs : σ[i]? = some (some (.ref f))) (hS : S f sp) (h : EvA ta σ H vs) (hp : SpV sp vs H z) : Ev (tCallR i S ta) σ H z := fun H1 e Q q =>
  ⟨f, sp, hs, hS, h H1 e _ fun H2 e2 => hp H2 (e.trans e2) Q (fun H3 e3 => q H3 (e2.trans e3)) _⟩
/-! ### a def that stands, and its calls -/
structure Df (P : Program) (w : World) (K : PySem.W.Frag) (mg : Str → Option Value) (base : Heap) (k : Nat) (x : Str) (a : Addr) (fd : FuncData) (ps : List Str) (sp : Sp) : Prop where
  ok : FnOk P w K mg base CX0 k a fd ps sp
  g : mg x = some (.ref a)
  kp : PySem.W.keepIn K (.ref a) = true
  b : Binds K fd ps []
theorem Df.held {P : Program} {w : World} {K : PySem.W.Frag} {mg : Str → Option Value} {base : Heap} {k : Nat} {x : Str} {a : Addr} {fd : FuncData} {ps : List Str} {sp : Sp} (D : Df P w K mg base k x a fd ps sp) : Held P w K mg base k a sp := ⟨⟨fd, ps, D.ok, D.kp, D.b⟩⟩
theorem Df.heldM {P : Program} {w : World} {K : PySem.W.Frag} {mg : Str → Option Value} {base : Heap} {k m : Nat} {x : Str} {a : Addr} {fd : FuncData} {ps : List Str} {sp : Sp} (D : Df P w K mg base k x a fd ps sp) (h : k ≤ m) : Held P w K mg base m a sp := ⟨⟨fd, ps, D.ok.mono h, D.kp, D.b⟩⟩
section
variable {X : Cx} {k : Nat} {x : Str} {a : Addr} {fd : FuncData} {ps : List Str} {sp : Sp} {e : Expr} {es : List Expr} {t : TA} {p pos : Pos}
theorem cl (O : Df X.prog X.w X.K X.mg X.base k x a fd ps sp) (hr : Room k X.A) (hg : Gl X x) (ha : PA X (e :: es) t) (hdb : (x == ("__debug__" : Str)) = false := by decide)
    (he : starEach (e :: es) X.env = (false, eval e X.env) :: starEach es X.env := by rfl) (hpl : (backTo pos (starEach es X.env)).any (·.1) = false := by rfl) : PE X (.Call (.Name x p) (e :: es) [] pos) (tCall sp [] E0 t) :=
  pe_call O.ok hr hg O.g O.kp O.b .nil pass0 ha hdb he hpl
theorem cl0 (O : Df X.prog X.w X.K X.mg X.base k x a fd ps sp) (hr : Room k X.A) (hg : Gl X x) (hdb : (x == ("__debug__" : Str)) = false := by decide) : PE X (.Call (.Name x p) [] [] pos) (tCall sp [] E0 tNil) :=
  pe_call0 O.ok hr hg O.g O.kp O.b .nil pass0 hdb
end
/-! ### exceptions -/
/-- an exception: the class (its number), its fields -/
structure Exn where
  c : Nat
  fs : Option (List (Str × V))
def Exn.Is (x : Exn) (d : Option Addr) (H : Hp) : Prop := match x.fs with
  | none => d = none
  | some fs => ∃ a, d = some a ∧ H a = some (.xd fs)
/-- what a def that may raise comes to -/
def Outc {α : Type} (ad : Nat → Addr) (H : Hp) (Q : VK) (E : XK) (val : α → V) : Except Exn α → Prop
  | .ok z => ∀ H1, Ex H H1 → Q (val z) H1
  | .error x => ∀ d H1, Ex H H1 → x.Is d H1 → E (.ref (ad x.c)) d H1
theorem Outc.mono {α : Type} {ad : Nat → Addr} {H H' : Hp} {Q : VK} {E : XK} {val : α → V} {r : Except Exn α} (e : Ex H H') (q : Outc ad H Q E val r) : Outc ad H' Q E val r := by
  cases r with
  | ok z => exact fun H1 e1 => q H1 (e.trans e1)
  | error x => exact fun d H1 e1 => q d H1 (e.trans e1)
structure DfX (P : Program) (w : World) (K : PySem.W.Frag) (mg : Str → Option Value) (base : Heap) (k : Nat) (x : Str) (a : Addr) (fd : FuncData) (ps : List Str) (sp : Sp) : Prop where
  ok : FnOk P w K mg base (L2.CX P w) k a fd ps sp
  g : mg x = some (.ref a)
  kp : PySem.W.keepIn K (.ref a) = true
  b : Binds K fd ps []
/-- the class of an exception whose __init__ keeps one field f -/
structure ExK (K : PySem.W.Frag) (mg : Str → Option Value) (x : Str) (C I : Addr) (f : Str) : Prop where
  g : mg x = some (.ref C)
  o : OexC K C
  i : PySem.W.findIn K (.ref C) "__init__" = some (some (.ref I))
  t : PySem.W.typeIn K (.ref I) = some (.type "function")
  n : PySem.W.findIn K (.ref C) f = some none
  xf : XfC K C
def sp_init1 (K : PySem.W.Frag) (f : Str) : Sp := fun vs H Q _ => ∃ (a C : Addr) (y : V), vs = [.ref a, y] ∧ (OexC K C ∧ PySem.W.findIn K (.ref C) f = some none ∧ H a = some (exo a C none)) ∧
  ∀ dx, H dx = none → dx ≠ a → Q .non (upd (upd H dx (exd dx [(f, y)])) a (exo a C (some dx)))
/-- the exception x in the air with the slots σ -/
def EvE (te : TE) (σ : L2.St) (H : Hp) (P : Value → Option Addr → Hp → Prop) (W : WX) : Prop := ∀ H1, Ex H H1 → ∀ Q : VK, (∀ cls d H2, Ex H1 H2 → P cls d H2 → W cls d σ H2) → te σ H1 Q
def SpE (sp : Sp) (vs : List V) (H : Hp) (P : Value → Option Addr → Hp → Prop) : Prop := ∀ H1, Ex H H1 → ∀ (Q : VK) (E : XK), (∀ cls d H2, Ex H1 H2 → P cls d H2 → E cls d H2) → sp vs H1 Q E
def XIs (ad : Nat → Addr) (x : Exn) : Value → Option Addr → Hp → Prop := fun cls d H => cls = .ref (ad x.c) ∧ x.Is d H
section
variable {X : Cx} {K : PySem.W.Frag} {σ : L2.St} {H H0 H1 H' : Hp} {ta tb te : TE} {t : TA} {v z : V} {vs : List V} {D : Ends} {tz : TS} {W : WX} {sp : Sp} {P : Value → Option Addr → Hp → Prop}
theorem ev_callS {E : L2.St → XK} (h : EvA t σ H vs) (hs : SpV sp vs H z) : Ev (tCallS sp E t) σ H z := fun H1 e Q q =>
  h H1 e _ fun H2 e2 => hs H2 (e.trans e2) Q (fun H3 e3 => q H3 (e2.trans e3)) _
theorem ee_callS (h : EvA t σ H vs) (hs : SpE sp vs H P) : EvE (tCallS sp (WE W) t) σ H P W := fun H1 e Q q =>
  h H1 e _ fun H2 e2 => hs H2 (e.trans e2) Q _ fun cls d H3 e3 hp => q cls d H3 (e2.trans e3) hp
theorem ev_callSX {E : L2.St → XK} {R : List V → Hp → Prop} (h : EvAX t σ H R) (hs : ∀ vs H1, Ex H H1 → R vs H1 → SpV sp vs H1 z) : Ev (tCallS sp E t) σ H z := fun H1 e Q q =>
  h H1 e _ fun vs H2 e2 hp => hs vs H2 (e.trans e2) hp H2 (Ex.refl H2) Q (fun H3 e3 => q H3 (e2.trans e3)) _
theorem ee_callSX {R : List V → Hp → Prop} (h : EvAX t σ H R) (hs : ∀ vs H1, Ex H H1 → R vs H1 → SpE sp vs H1 P) : EvE (tCallS sp (WE W) t) σ H P W := fun H1 e Q q =>
  h H1 e _ fun vs H2 e2 hr => hs vs H2 (e.trans e2) hr H2 (Ex.refl H2) Q _ fun cls d H3 e3 hp => q cls d H3 (e2.trans e3) hp
theorem r_retE (e : Ex H0 H1) (h : EvE te σ H0 P W) (k : ∀ cls d H2, Ex H0 H2 → P cls d H2 → W cls d σ H2) : tSeq (tRet te) tz D σ H1 := h H1 e _ fun cls d H2 e2 hp => k cls d H2 (e.trans e2) hp
theorem r_asgE {i : Nat} (e : Ex H0 H1) (h : EvE te σ H0 P W) (k : ∀ cls d H2, Ex H0 H2 → P cls d H2 → W cls d σ H2) : tSeq (tAsg te (gName i)) tz D σ H1 := h H1 e _ fun cls d H2 e2 hp => k cls d H2 (e.trans e2) hp
theorem r_dropE (e : Ex H0 H1) (h : EvE te σ H0 P W) (k : ∀ cls d H2, Ex H0 H2 → P cls d H2 → W cls d σ H2) : tSeq (tDrop te) tz D σ H1 := h H1 e _ fun cls d H2 e2 hp => k cls d H2 (e.trans e2) hp
/-- raise C(y), C with one field -/
theorem r_raise1 {mg : Str → Option Value} {x f : Str} {C I : Addr} {y : V} (e : Ex H0 H1) (T : ExK K mg x C I f) (h : EvA t σ H0 [y]) (k : ∀ d H2, Ex H0 H2 → (∃ a, d = some a ∧ H2 a = some (.xd [(f, y)])) → W (.ref C) d σ H2) :
    tSeq (fun _ σ H => tMkO C (sp_init1 K f) [] t σ H fun cls d H' => W cls d σ H') tz D σ H1 :=
  h H1 e _ fun H2 e2 => ⟨by show 1 ≤ 1000; decide, fun a hn => ⟨a, C, y, rfl, ⟨T.o, T.n, upd_same⟩, fun dx h1 h2 => by
    have hd : H2 dx = none := by
      rw [upd_ne h2] at h1
      exact h1
    refine ⟨rfl, dx, [(f, y)], upd_same, by rw [upd_ne h2]; exact upd_same, hd, k _ _ ?_ ⟨dx, rfl, upd_same⟩⟩
    refine (e.trans e2).trans fun b o hb => ?_
    have nb1 : b ≠ dx := fun z => by rw [z, hd] at hb; cases hb
    have nb2 : b ≠ a := fun z => by rw [z, hn] at hb; cases hb
    rw [upd_ne nb1, del_ne nb2, upd_ne nb2, upd_ne nb1, upd_ne nb2]
    exact hb⟩⟩
theorem clS {k : Nat} {x : Str} {a : Addr} {fd : FuncData} {ps : List Str} {e : Expr} {es : List Expr} {p pos : Pos} {E : L2.St → XK} (O : DfX X.prog X.w X.K X.mg X.base k x a fd ps sp) (hr : Room k X.A) (hg : Gl X x) (hx : ∀ σ, PassesAt (L2.CX X.prog X.w) X σ (E σ)) (ha : PA X (e :: es) t)
    (hdb : (x == ("__debug__" : Str)) = false := by decide) (he : starEach (e :: es) X.env = (false, eval e X.env) :: starEach es X.env := by rfl) (hpl : (backTo pos (starEach es X.env)).any (·.1) = false := by rfl) : PE X (.Call (.Name x p) (e :: es) [] pos) (tCallS sp E t) :=
  pe_callS O.ok hr hg O.g O.kp O.b hx ha hdb he hpl
theorem clL {k : Nat} {x : Str} {a : Addr} {fd : FuncData} {ps : List Str} {e : Expr} {es : List Expr} {p pos : Pos} (O : DfX X.prog X.w X.K X.mg X.base k x a fd ps sp) (hr : Room k X.A) (hg : Gl X x) (ha : PA X (e :: es) t)
    (hdb : (x == ("__debug__" : Str)) = false := by decide) (he : starEach (e :: es) X.env = (false, eval e X.env) :: starEach es X.env := by rfl) (hpl : (backTo pos (starEach es X.env)).any (·.1) = false := by rfl) : PE X (.Call (.Name x p) (e :: es) [] pos) (tCall sp [] E0 t) :=
  pe_call O.ok hr hg O.g O.kp O.b .nil passL ha hdb he hpl
end
/-- a local name that holds one of several defs that may raise -/
structure HeldX (P : Program) (w : World) (K : PySem.W.Frag) (mg : Str → Option Value) (base : Heap) (k : Nat) (a : Addr) (sp : Sp) : Prop where
  ex : ∃ fd ps, FnOk P w K mg base (L2.CX P w) k a fd ps sp ∧ PySem.W.keepIn K (.ref a) = true ∧ Binds K fd ps []
theorem DfX.heldM {P : Program} {w : World} {K : PySem.W.Frag} {mg : Str → Option Value} {base : Heap} {k m : Nat} {x : Str} {a : Addr} {fd : FuncData} {ps : List Str} {sp : Sp} (D : DfX P w K mg base k x a fd ps sp) (h : k ≤ m) : HeldX P w K mg base m a sp := ⟨⟨fd, ps, D.ok.mono h, D.kp, D.b⟩⟩
theorem exm_of {K : PySem.W.Frag} {S B : Addr} {b : Bool} (h1 : PySem.W.subIn K (.ref S) (.type "BaseException") = some true) (h1' : PySem.W.subIn K (.ref B) (.type "BaseException") = some true) (h2 : PySem.W.isClsIn K B = true) (h3 : PySem.W.typeIn K (.ref B) = some (.type "type")) (h4 : PySem.W.subIn K (.ref S) (.ref B) = some b) :
    PySem.W.exmOne K (.ref S) (.ref B) = some b := by
  have e1 : (PySem.W.subIn K (.ref B) (.type "BaseException") == some true) = true := by rw [h1'] <;> rfl
  have e2 : ((PySem.W.clsIn K B).isSome && PySem.W.typeIn K (.ref B) == some (.type "type")) = true := by
    have h2' : (PySem.W.clsIn K B).isSome = true := h2
    rw [h2', h3] <;> rfl
  show (if (PySem.W.subIn K (.ref B) (.type "BaseException") == some true) = true then (if ((PySem.W.clsIn K B).isSome && PySem.W.typeIn K (.ref B) == some (.type "type")) = true then PySem.W.subIn K (.ref S) (.ref B) else none) else none) = some b
  rw [if_pos e1, if_pos e2]
  exact h4
structure InitOk (P : Program) (w : World) (K : PySem.W.Frag) (mg : Str → Option Value) (base : Heap) (a : Addr) (fd : FuncData) (ps : List Str) (sp : Sp) : Prop where
  ok : FnOk P w K mg base CX0 1 a fd ps sp
  b : Binds K fd ps []
def tCallRX (i : Nat) (S : Addr → Sp → Prop) (E : XK) (t : TA) : TE := fun σ H Q => ∃ f sp, σ[i]? = some (some (.ref f)) ∧ S f sp ∧ t σ H fun vs H1 => sp vs H1 Q E
theorem pe_callRX {X : Cx} {k i : Nat} {x : Str} {p pos : Pos} {e : Expr} {es : List Expr} {t : TA} {E : XK} {S : Addr → Sp → Prop} (A : ∀ f sp, S f sp → HeldX X.prog X.w X.K X.mg X.base k f sp) (hr : Room k X.A) (hN : X.N[i]? = some x) (hv : Vis X.env.scope x) (hx : Passes (L2.CX X.prog X.w) X E) (ha : PA X (e :: es) t)
    (hdb : (x == ("__debug__" : Str)) = false := by decide) (hcd : (x == ("__classdict__" : Str)) = false := by decide)
    (he : starEach (e :: es) X.env = (false, eval e X.env) :: starEach es X.env := by rfl) (hpl : (backTo pos (starEach es X.env)).any (·.1) = false := by rfl) : PE X (.Call (.Name x p) (e :: es) [] pos) (tCallRX i S E t) := by
  refine ⟨fun pins s σ H Q I h => ?_⟩
  obtain ⟨f, sp, hs, hS, ht⟩ := h
  obtain ⟨fd, ps, F, hk, hb⟩ := (A f sp hS).ex
  refine (pe_callL (i := i) (f := f) (sp := sp) (dvs := []) (E := E) F hr hN hv hk hb .nil hx ha hdb hcd he hpl).run pins s σ H Q I ⟨hs, ?_⟩
  have e0 : (fun (vs : List V) (H1 : Hp) => sp (vs ++ []) H1 Q E) = fun vs H1 => sp vs H1 Q E := by
    funext vs H1
    rw [List.append_nil]
  show t σ H (fun vs H1 => sp (vs ++ []) H1 Q E)
  rw [e0]
  exact ht
theorem ev_callRX {i : Nat} {S : Addr → Sp → Prop} {E : XK} {ta : TA} {σ : L2.St} {H : Hp} {f : Addr} {sp : Sp} {vs : List V} {z : V} (hs : σ[i]? = some (some (.ref f))) (hS : S f sp) (h : EvA ta σ H vs) (hp : SpV sp vs H z) : Ev (tCallRX i S E ta) σ H z := fun H1 e Q q =>
  ⟨f, sp, hs, hS, h H1 e _ fun H2 e2 => hp H2 (e.trans e2) Q (fun H3 e3 => q H3 (e2.trans e3)) _⟩
theorem ee_callRX {i : Nat} {S : Addr → Sp → Prop} {E : XK} {ta : TA} {σ : L2.St} {H : Hp} {f : Addr} {sp : Sp} {vs : List V} {P : Value → Option Addr → Hp → Prop} (hs : σ[i]? = some (some (.ref f))) (hS : S f sp) (h : EvA ta σ H vs) (hp : SpE sp vs H P) : EvE (tCallRX i S E ta) σ H P (fun cls d _ H => E cls d H) := fun H1 e Q q =>
  ⟨f, sp, hs, hS, h H1 e _ fun H2 e2 => hp H2 (e.trans e2) Q _ fun cls d H3 e3 h3 => q cls d H3 (e2.trans e3) h3⟩
/-- a promise by outcome, taken apart -/
theorem spv_of {α : Type} {ad : Nat → Addr} {sp : Sp} {vs : List V} {H : Hp} {val : α → V} {r : Except Exn α} {z : α} (h : ∀ H1, Ex H H1 → ∀ Q E, Outc ad H1 Q E val r → sp vs H1 Q E) (hr : r = .ok z) : SpV sp vs H (val z) := by
  subst hr
  exact fun H1 e Q q E => h H1 e Q E q
theorem spe_of {α : Type} {ad : Nat → Addr} {sp : Sp} {vs : List V} {H : Hp} {val : α → V} {r : Except Exn α} {x : Exn} (h : ∀ H1, Ex H H1 → ∀ Q E, Outc ad H1 Q E val r → sp vs H1 Q E) (hr : r = .error x) : SpE sp vs H (XIs ad x) := by
  subst hr
  exact fun H1 e Q E q => h H1 e Q E fun d H2 e2 hx => q _ d H2 e2 ⟨rfl, hx⟩
def EvAE (ta : TA) (σ : L2.St) (H : Hp) (P : Value → Option Addr → Hp → Prop) (W : WX) : Prop := ∀ H1, Ex H H1 → ∀ Q : List V → Hp → Prop, (∀ cls d H2, Ex H1 H2 → P cls d H2 → W cls d σ H2) → ta σ H1 Q
theorem eae_0 {te : TE} {tr : TA} {σ : L2.St} {H : Hp} {P : Value → Option Addr → Hp → Prop} {W : WX} (h : EvE te σ H P W) : EvAE (tCons te tr) σ H P W := fun H1 e Q q => h H1 e _ q
theorem eae_1 {te : TE} {tr : TA} {σ : L2.St} {H : Hp} {v : V} {P : Value → Option Addr → Hp → Prop} {W : WX} (h : Ev te σ H v) (hr : EvAE tr σ H P W) : EvAE (tCons te tr) σ H P W := fun H1 e Q q =>
  h H1 e _ fun H2 e2 => hr H2 (e.trans e2) _ fun cls d H3 e3 hp => q cls d H3 (e2.trans e3) hp
theorem ee_tup {ta : TA} {σ : L2.St} {H : Hp} {P : Value → Option Addr → Hp → Prop} {W : WX} (h : EvAE ta σ H P W) : EvE (tTup ta) σ H P W := fun H1 e _ q => h H1 e _ q
theorem ev_xf {te : TE} {σ : L2.St} {H : Hp} {a dd C : Addr} {f : Str} {fs : List (Str × V)} {v : V} (h : Ev te σ H (.ref a)) (hd : H dd = some (.xd fs)) (hl : fs.lookup f = some v) : Ev (tXf a (.ref C) (some dd) C f te) σ H v := fun H1 e Q q =>
  h H1 e _ fun H2 e2 => ⟨rfl, rfl, dd, fs, v, rfl, (e.trans e2) _ _ hd, hl, q H2 e2⟩
theorem lk1 (f : Str) (v : V) : [(f, v)].lookup f = some v := by simp [List.lookup]
def clsBodyW : Stmt → List Stmt
  | .ClassDef _ _ _ body _ _ _ _ _ _ _ => body
  | _ => []
theorem w_div {i j : Int} (h0 : 0 < j) (h1 : j ≤ 2 ^ 64) : CDivW i j := by
  refine ⟨h0, ?_⟩
  have h2 : j.natAbs < 2 ^ 65 := by omega
  have h3 := (Nat.log2_lt (by omega)).mpr h2
  omega
end Wm
set_option Elab.async false
set_option linter.all false
set_option maxRecDepth 100000
set_option maxHeartbeats 4000000

open PySem
local macro_rules | `(tactic| walk_at "sd") => `(tactic| first | exact True.intro | assumption | omega | decide | (dsimp only; omega) | (refine Or.inl ⟨?_, ?_⟩ <;> (first | omega | decide)) | (refine Or.inr ⟨?_, ?_⟩ <;> (first | omega | decide)) | (simp only [List.length_cons, List.length_nil]; omega) | exact Int.emod_nonneg _ (by omega) | exact Int.emod_lt_of_pos _ (by omega) | (refine ⟨?_, ?_⟩ <;> walk_at "sd"))
local macro_rules | `(tactic| walk_at "bd") => `(tactic| first | omega | (simp only [List.length_append, List.length_cons, List.length_nil, List.length_map, List.length_dropLast] at *; omega))
local macro_rules | `(tactic| walk_at "sq") => `(tactic| first | assumption | exact Or.inl (by assumption) | exact Or.inr (by assumption))
local macro_rules | `(tactic| walk_at "keysLit") => `(tactic| (refine ⟨⟨_, _, rfl, rfl⟩, ?_⟩; walk_at "keysLit"))
local macro_rules | `(tactic| walk_at "keysLit") => `(tactic| exact True.intro)
local macro_rules | `(tactic| walk_at "keysLit3") => `(tactic| first | exact True.intro | (refine ⟨⟨_, rfl⟩, rfl, ?_, ?_⟩; (first | exact ⟨_, rfl⟩ | exact rfl); walk_at "keysLit3"))
local macro_rules | `(tactic| walk_at "keysLit4") => `(tactic| first | exact PySem.Paired.nil | (refine PySem.Paired.cons ⟨_, rfl⟩ ?_; walk_at "keysLit4"))
namespace Lk04
open PySem L2 Evl RZ Wm
def topS (i : Nat) : Stmt := PySem.Challenge.pw_wasmhost_k04_arithmetic.main.body.getD i (.Pass ⟨0, 0, 0, 0⟩)
abbrev s_width : Stmt := topS 7
abbrev s_unsigned : Stmt := topS 8
abbrev s_extend : Stmt := topS 9
abbrev s_signed : Stmt := topS 10
abbrev s_in_range : Stmt := topS 11
abbrev s_add : Stmt := topS 13
abbrev s_sub : Stmt := topS 14
abbrev s_mul : Stmt := topS 15
abbrev s_quotient : Stmt := topS 16
abbrev s_div_s : Stmt := topS 17
abbrev s_div_u : Stmt := topS 18
abbrev s_rem_s : Stmt := topS 19
abbrev s_rem_u : Stmt := topS 20
abbrev s_bit_and : Stmt := topS 21
abbrev s_bit_or : Stmt := topS 22
abbrev s_bit_xor : Stmt := topS 23
abbrev s_shift_count : Stmt := topS 24
abbrev s_shl : Stmt := topS 25
abbrev s_shr_s : Stmt := topS 26
abbrev s_shr_u : Stmt := topS 27
abbrev s_rotl : Stmt := topS 28
abbrev s_rotr : Stmt := topS 29
abbrev s_eq : Stmt := topS 30
abbrev s_ne : Stmt := topS 31
abbrev s_lt_s : Stmt := topS 32
abbrev s_gt_s : Stmt := topS 33
abbrev s_le_s : Stmt := topS 34
abbrev s_ge_s : Stmt := topS 35
abbrev s_lt_u : Stmt := topS 36
abbrev s_gt_u : Stmt := topS 37
abbrev s_le_u : Stmt := topS 38
abbrev s_ge_u : Stmt := topS 39
abbrev s_eqz : Stmt := topS 40
abbrev s_clz : Stmt := topS 41
abbrev s_ctz : Stmt := topS 42
abbrev s_popcnt : Stmt := topS 43
abbrev s_extend8_s : Stmt := topS 44
abbrev s_extend16_s : Stmt := topS 45
abbrev s_extend32_s : Stmt := topS 46
abbrev s_extend_u : Stmt := topS 47
abbrev s_signature_of : Stmt := topS 53
abbrev s_check_operands : Stmt := topS 54
abbrev s_calculate : Stmt := topS 55
abbrev s_l_is_integer : Stmt := topS 57
abbrev s_l_cell : Stmt := topS 58
abbrev s_l_signed : Stmt := topS 59
abbrev s_l_value : Stmt := topS 60
abbrev s_l_quotient : Stmt := topS 61
abbrev s_l_due : Stmt := topS 62
abbrev s_l_told : Stmt := topS 63
abbrev s_l_same : Stmt := topS 64
abbrev s_law : Stmt := topS 65
def kk_ARITHMETIC : List Str := ["add", "sub", "mul", "div_s", "div_u", "rem_s", "rem_u", "and", "or", "xor", "shl", "shr_s", "shr_u", "rotl", "rotr"]
def kk_COMPARISONS : List Str := ["eq", "ne", "lt_s", "lt_u", "gt_s", "gt_u", "le_s", "le_u", "ge_s", "ge_u"]
def kk_CONVERSIONS : List Str := ["i32.wrap_i64", "i64.extend_i32_s", "i64.extend_i32_u"]
def kc_INSTRUCTIONS : List Str := ("i32.eqz" : Str) :: ("i32.eq" : Str) :: ("i32.ne" : Str) :: ("i32.lt_s" : Str) :: ("i32.lt_u" : Str) :: ("i32.gt_s" : Str) :: ("i32.gt_u" : Str) :: ("i32.le_s" : Str) :: ("i32.le_u" : Str) :: ("i32.ge_s" : Str) :: ("i32.ge_u" : Str) :: ("i64.eqz" : Str) :: ("i64.eq" : Str) :: ("i64.ne" : Str) :: ("i64.lt_s" : Str) :: ("i64.lt_u" : Str) :: ("i64.gt_s" : Str) :: ("i64.gt_u" : Str) :: ("i64.le_s" : Str) :: ("i64.le_u" : Str) :: ("i64.ge_s" : Str) :: ("i64.ge_u" : Str) :: ("i32.clz" : Str) :: ("i32.ctz" : Str) :: ("i32.popcnt" : Str) :: ("i32.add" : Str) :: ("i32.sub" : Str) :: ("i32.mul" : Str) :: ("i32.div_s" : Str) :: ("i32.div_u" : Str) :: ("i32.rem_s" : Str) :: ("i32.rem_u" : Str) :: ("i32.and" : Str) :: ("i32.or" : Str) :: ("i32.xor" : Str) :: ("i32.shl" : Str) :: ("i32.shr_s" : Str) :: ("i32.shr_u" : Str) :: ("i32.rotl" : Str) :: ("i32.rotr" : Str) :: ("i64.clz" : Str) :: ("i64.ctz" : Str) :: ("i64.popcnt" : Str) :: ("i64.add" : Str) :: ("i64.sub" : Str) :: ("i64.mul" : Str) :: ("i64.div_s" : Str) :: ("i64.div_u" : Str) :: ("i64.rem_s" : Str) :: ("i64.rem_u" : Str) :: ("i64.and" : Str) :: ("i64.or" : Str) :: ("i64.xor" : Str) :: ("i64.shl" : Str) :: ("i64.shr_s" : Str) :: ("i64.shr_u" : Str) :: ("i64.rotl" : Str) :: ("i64.rotr" : Str) :: ("i32.wrap_i64" : Str) :: ("i64.extend_i32_s" : Str) :: ("i64.extend_i32_u" : Str) :: ("i32.extend8_s" : Str) :: ("i32.extend16_s" : Str) :: ("i64.extend8_s" : Str) :: ("i64.extend16_s" : Str) :: ("i64.extend32_s" : Str) :: []
def kk_WIDTHS : List Str := ["i32", "i64"]
structure Tx (w : World) (K : PySem.W.Frag) (mg : Str → Option Value) (ad : Nat → Addr) : Prop where
  b_abs : mg "abs" = none
  b_bool : mg "bool" = none
  b_int : mg "int" = none
  b_isinstance : mg "isinstance" = none
  b_len : mg "len" = none
  b_max : mg "max" = none
  b_min : mg "min" = none
  b_range : mg "range" = none
  b_str : mg "str" = none
  b_zip : mg "zip" = none
  g_ARITHMETIC : ∃ a, mg "ARITHMETIC" = some (.ref a) ∧ SD K w a [("add", .ref (ad 5)), ("sub", .ref (ad 6)), ("mul", .ref (ad 7)), ("div_s", .ref (ad 9)), ("div_u", .ref (ad 10)), ("rem_s", .ref (ad 11)), ("rem_u", .ref (ad 12)), ("and", .ref (ad 13)), ("or", .ref (ad 14)), ("xor", .ref (ad 15)), ("shl", .ref (ad 17)), ("shr_s", .ref (ad 18)), ("shr_u", .ref (ad 19)), ("rotl", .ref (ad 20)), ("rotr", .ref (ad 21))]
  g_COMPARISONS : ∃ a, mg "COMPARISONS" = some (.ref a) ∧ SD K w a [("eq", .ref (ad 22)), ("ne", .ref (ad 23)), ("lt_s", .ref (ad 24)), ("lt_u", .ref (ad 28)), ("gt_s", .ref (ad 25)), ("gt_u", .ref (ad 29)), ("le_s", .ref (ad 26)), ("le_u", .ref (ad 30)), ("ge_s", .ref (ad 27)), ("ge_u", .ref (ad 31))]
  g_CONVERSIONS : ∃ a, mg "CONVERSIONS" = some (.ref a) ∧ SD K w a [("i32.wrap_i64", .ref (ad 38)), ("i64.extend_i32_s", .ref (ad 38)), ("i64.extend_i32_u", .ref (ad 39))]
  g_INSTRUCTIONS : ∃ a, mg "INSTRUCTIONS" = some (.ref a) ∧ ∀ H, SqT K H a (kc_INSTRUCTIONS.map V.str)
  g_WIDTHS : ∃ a, mg "WIDTHS" = some (.ref a) ∧ SD K w a [("i32", .int (32)), ("i64", .int (64))]
  e_Trap : ExK K mg "Trap" (ad 1001) (ad 2001) "reason"
  n_Trap : mg "Trap" = some (.ref (ad 1001))
  x_Trap_Trap : PySem.W.exmOne K (.ref (ad 1001)) (.ref (ad 1001)) = some true

section
variable {P : Program} {w : World} {K : PySem.W.Frag} {mg : Str → Option Value} {base : Heap} {ad : Nat → Addr}
abbrev s_init_Trap : Stmt := (clsBodyW (topS 2)).getD 0 (.Pass ⟨0, 0, 0, 0⟩)
theorem sc_init_Trap : FnScope ["self", "reason"] ["self", "reason"] (defScope s_init_Trap) := ⟨rfl, rfl, rfl, by decide +kernel, rfl, by decide +kernel, by decide +kernel⟩
theorem ok_init_Trap {f : Addr} {fd : FuncData} (F : Fun K "__init__" "Trap.__init__" s_init_Trap f fd) : FnOk P w K mg base CX0 1 f fd ["self", "reason"] (sp_init1 K "reason") := by
  refine F.ok sc_init_Trap (fun vs H Q E h => ?_) (fun cdv A outer s G vs Q E hr h => ?_)
  · obtain ⟨a, C, y, rfl, _⟩ := h
    rfl
  · obtain ⟨a, C, y, rfl, ⟨T, hno, ha⟩, q⟩ := h
    refine ⟨_, pss_one (ps_ost (pv 0) (pv 1)), ?_⟩
    exact ⟨_, rfl, _, rfl, a, C, rfl, T, hno, Or.inl ⟨ha, fun dx h1 h2 => q dx h1 h2⟩⟩
/-! width -/
def m_width (kind : Str) : Int := if kind = "i32" then 32 else 64
theorem wd_cases {kind : Str} (h : kind = "i32" ∨ kind = "i64") : (m_width kind = 32 ∨ m_width kind = 64) := by
  rcases h with rfl | rfl
  · exact Or.inl (if_pos rfl)
  · exact Or.inr (if_neg (by decide +kernel))
theorem sc_width : FnScope ["kind"] ["kind"] (defScope s_width) := ⟨rfl, rfl, rfl, by decide +kernel, rfl, by decide +kernel, by decide +kernel⟩
def sp_width (K : PySem.W.Frag) : Sp := fun vs H Q _ => ∃ (kind : Str), vs = [.str kind] ∧ ((kind = "i32" ∨ kind = "i64")) ∧ ∀ H1, Ex H H1 → Q (.int (m_width kind)) H1
theorem sv_width {K : PySem.W.Frag} {H : Hp} {kind : Str} (h : ((kind = "i32" ∨ kind = "i64"))) : SpV (sp_width K) [.str kind] H (.int (m_width kind)) := fun H1 e Q q _ => ⟨kind, rfl, h, q⟩
theorem ok_width {f : Addr} {fd : FuncData} (F : Fun K "width" "width" s_width f fd) (T : Tx w K mg ad)  : FnOk P w K mg base CX0 1 f fd ["kind"] (sp_width K) := by
  refine F.ok sc_width (fun vs H Q E h => ?_) (fun cdv A outer s G vs Q E hr h => ?_)
  · obtain ⟨kind, rfl, _⟩ := h
    rfl
  · obtain ⟨kind, rfl, h, q⟩ := h
    obtain ⟨a_WIDTHS, g_WIDTHS, k_WIDTHS⟩ := T.g_WIDTHS
    refine ⟨_, (pss_cons (ps_ret (pe_ix (r := rIxD K w) ix_kdict (pe_glob (v := .ref _) rfl g_WIDTHS rfl) (pv 0) (fun _ _ => rfl))) pss_nil), ?_⟩
    have e := Ex.refl G
    rcases h with rfl | rfl
    · exact r_ret e (ev_op ev_c (ev_var rfl) (rv_kd (k_WIDTHS.some rfl))) fun H e => q H e
    · exact r_ret e (ev_op ev_c (ev_var rfl) (rv_kd (k_WIDTHS.some rfl))) fun H e => q H e

/-! unsigned -/
def m_unsigned (kind : Str) (number : Int) : Int :=
  (Builtin.bitAnd number ((1 * 2 ^ ((m_width kind) : Int).toNat) - 1))
theorem sc_unsigned : FnScope ["kind", "number"] ["kind", "number"] (defScope s_unsigned) := ⟨rfl, rfl, rfl, by decide +kernel, rfl, by decide +kernel, by decide +kernel⟩
def sp_unsigned (K : PySem.W.Frag) : Sp := fun vs H Q _ => ∃ (kind : Str) (number : Int), vs = [.str kind, .int number] ∧ ((kind = "i32" ∨ kind = "i64")) ∧ ∀ H1, Ex H H1 → Q (.int (m_unsigned kind number)) H1
theorem sv_unsigned {K : PySem.W.Frag} {H : Hp} {kind : Str} {number : Int} (h : ((kind = "i32" ∨ kind = "i64"))) : SpV (sp_unsigned K) [.str kind, .int number] H (.int (m_unsigned kind number)) := fun H1 e Q q _ => ⟨kind, number, rfl, h, q⟩
theorem ok_unsigned {f : Addr} {fd : FuncData} {d_width : FuncData} (F : Fun K "unsigned" "unsigned" s_unsigned f fd) (T : Tx w K mg ad) (O_width : Df P w K mg base 1 "width" (ad 0) d_width ["kind"] (sp_width K)) : FnOk P w K mg base CX0 2 f fd ["kind", "number"] (sp_unsigned K) := by
  refine F.ok sc_unsigned (fun vs H Q E h => ?_) (fun cdv A outer s G vs Q E hr h => ?_)
  · obtain ⟨kind, number, rfl, _⟩ := h
    rfl
  · obtain ⟨kind, number, rfl, h, q⟩ := h
    refine ⟨_, (pss_cons (ps_ret (pe_op op_and (pv 1) (pe_op op_sub (pe_op op_shl pe_int (cl O_width (hr.mono (by decide)) rfl (pa_cons (pv 0) pa_nil))) pe_int))) pss_nil), ?_⟩
    have e := Ex.refl G
    have hw := wd_cases h
    -- return number & (1 << width(kind)) - 1
    refine r_retI e (ev_op (ev_var rfl) (ev_op (ev_op ev_c (ev_call (ea_cons (ev_var rfl) ea_nil) (sv_width (by walk_at "sd"))) (rv_I (by walk_at "sd"))) ev_c rv_I0) rv_I0) (by show _ = m_unsigned _ _; unfold m_unsigned; (first | rfl | (split <;> rfl) | (split <;> simp_all))) q

/-! extend -/
def m_extend (number : Int) (bits : Int) : Int :=
  if ((1 * 2 ^ ((bits - 1) : Int).toNat) ≤ (Builtin.bitAnd number ((1 * 2 ^ (bits : Int).toNat) - 1))) then
    ((Builtin.bitAnd number ((1 * 2 ^ (bits : Int).toNat) - 1)) - (1 * 2 ^ (bits : Int).toNat))
  else
    (Builtin.bitAnd number ((1 * 2 ^ (bits : Int).toNat) - 1))
theorem sc_extend : FnScope ["number", "bits", "low"] ["number", "bits"] (defScope s_extend) := ⟨rfl, rfl, rfl, by decide +kernel, rfl, by decide +kernel, by decide +kernel⟩
def sp_extend (K : PySem.W.Frag) : Sp := fun vs H Q _ => ∃ (number : Int) (bits : Int), vs = [.int number, .int bits] ∧ ((1 ≤ bits ∧ bits ≤ 64)) ∧ ∀ H1, Ex H H1 → Q (.int (m_extend number bits)) H1
theorem sv_extend {K : PySem.W.Frag} {H : Hp} {number : Int} {bits : Int} (h : ((1 ≤ bits ∧ bits ≤ 64))) : SpV (sp_extend K) [.int number, .int bits] H (.int (m_extend number bits)) := fun H1 e Q q _ => ⟨number, bits, rfl, h, q⟩
theorem ok_extend {f : Addr} {fd : FuncData} (F : Fun K "extend" "extend" s_extend f fd) (T : Tx w K mg ad)  : FnOk P w K mg base CX0 1 f fd ["number", "bits"] (sp_extend K) := by
  refine F.ok sc_extend (fun vs H Q E h => ?_) (fun cdv A outer s G vs Q E hr h => ?_)
  · obtain ⟨number, bits, rfl, _⟩ := h
    rfl
  · obtain ⟨number, bits, rfl, h, q⟩ := h
    refine ⟨_, (pss_cons (ps_set (i := 2) sc_extend.nd rfl (Or.inl rfl) (pe_op op_and (pv 0) (pe_op op_sub (pe_op op_shl pe_int (pv 1)) pe_int))) (pss_cons (ps_if (pt_cmpR op_ge (pv 2) (pe_op op_shl pe_int (pe_op op_sub (pv 1) pe_int)) (nomark _)) (pss_cons (ps_ret (pe_op op_sub (pv 2) (pe_op op_shl pe_int (pv 1)))) pss_nil) pss_nil) (pss_cons (ps_ret (pv 2)) pss_nil))), ?_⟩
    have e := Ex.refl G
    -- low = number & (1 << bits) - 1
    refine r_asg e (ev_op (ev_var rfl) (ev_op (ev_op ev_c (ev_var rfl) (rv_I (by walk_at "sd"))) ev_c rv_I0) rv_I0) fun H e e1 => ?_
    -- if low >= 1 << bits - 1
    refine r_when e (ep_dec (ev_op (ev_var rfl) (ev_op ev_c (ev_op (ev_var rfl) ev_c rv_I0) (rv_I (by walk_at "sd"))) rv_I0)) (fun hb1 H e e1 => ?_) (fun hb1 H e e1 => ?_)
    · -- return low - (1 << bits)
      refine r_retI e (ev_op (ev_var rfl) (ev_op ev_c (ev_var rfl) (rv_I (by walk_at "sd"))) rv_I0) (by show _ = m_extend _ _; unfold m_extend; rw [if_pos hb1] <;> (first | rfl | (split <;> rfl) | (split <;> simp_all))) q
    -- return low
    refine r_retI e (ev_var rfl) (by show _ = m_extend _ _; unfold m_extend; rw [if_neg hb1] <;> (first | rfl | (split <;> rfl) | (split <;> simp_all))) q

/-! signed -/
def m_signed (kind : Str) (number : Int) : Int :=
  (m_extend number (m_width kind))
theorem sc_signed : FnScope ["kind", "number"] ["kind", "number"] (defScope s_signed) := ⟨rfl, rfl, rfl, by decide +kernel, rfl, by decide +kernel, by decide +kernel⟩
def sp_signed (K : PySem.W.Frag) : Sp := fun vs H Q _ => ∃ (kind : Str) (number : Int), vs = [.str kind, .int number] ∧ ((kind = "i32" ∨ kind = "i64")) ∧ ∀ H1, Ex H H1 → Q (.int (m_signed kind number)) H1
theorem sv_signed {K : PySem.W.Frag} {H : Hp} {kind : Str} {number : Int} (h : ((kind = "i32" ∨ kind = "i64"))) : SpV (sp_signed K) [.str kind, .int number] H (.int (m_signed kind number)) := fun H1 e Q q _ => ⟨kind, number, rfl, h, q⟩
theorem ok_signed {f : Addr} {fd : FuncData} {d_width : FuncData} {d_extend : FuncData} (F : Fun K "signed" "signed" s_signed f fd) (T : Tx w K mg ad) (O_width : Df P w K mg base 1 "width" (ad 0) d_width ["kind"] (sp_width K)) (O_extend : Df P w K mg base 1 "extend" (ad 2) d_extend ["number", "bits"] (sp_extend K)) : FnOk P w K mg base CX0 2 f fd ["kind", "number"] (sp_signed K) := by
  refine F.ok sc_signed (fun vs H Q E h => ?_) (fun cdv A outer s G vs Q E hr h => ?_)
  · obtain ⟨kind, number, rfl, _⟩ := h
    rfl
  · obtain ⟨kind, number, rfl, h, q⟩ := h
    refine ⟨_, (pss_cons (ps_ret (cl O_extend (hr.mono (by decide)) rfl (pa_cons (pv 1) (pa_cons (cl O_width (hr.mono (by decide)) rfl (pa_cons (pv 0) pa_nil)) pa_nil)))) pss_nil), ?_⟩
    have e := Ex.refl G
    have hw := wd_cases h
    have hw1 : 1 ≤ m_width kind ∧ m_width kind ≤ 64 := by omega
    -- return extend(number, width(kind))
    refine r_retI e (ev_call (ea_cons (ev_var rfl) (ea_cons (ev_call (ea_cons (ev_var rfl) ea_nil) (sv_width (by walk_at "sd"))) ea_nil)) (sv_extend (by walk_at "sd"))) (by show _ = m_signed _ _; unfold m_signed; (first | rfl | (split <;> rfl) | (split <;> simp_all))) q

/-! in_range -/
def m_in_range (kind : Str) (number : Int) : Bool :=
  (decide ((m_signed kind number) = number))
theorem sc_in_range : FnScope ["kind", "number"] ["kind", "number"] (defScope s_in_range) := ⟨rfl, rfl, rfl, by decide +kernel, rfl, by decide +kernel, by decide +kernel⟩
def sp_in_range (K : PySem.W.Frag) : Sp := fun vs H Q _ => ∃ (kind : Str) (number : Int), vs = [.str kind, .int number] ∧ ((kind = "i32" ∨ kind = "i64")) ∧ ∀ H1, Ex H H1 → Q (.bl (m_in_range kind number)) H1
theorem sv_in_range {K : PySem.W.Frag} {H : Hp} {kind : Str} {number : Int} (h : ((kind = "i32" ∨ kind = "i64"))) : SpV (sp_in_range K) [.str kind, .int number] H (.bl (m_in_range kind number)) := fun H1 e Q q _ => ⟨kind, number, rfl, h, q⟩
theorem ok_in_range {f : Addr} {fd : FuncData} {d_signed : FuncData} (F : Fun K "in_range" "in_range" s_in_range f fd) (T : Tx w K mg ad) (O_signed : Df P w K mg base 2 "signed" (ad 3) d_signed ["kind", "number"] (sp_signed K)) : FnOk P w K mg base CX0 3 f fd ["kind", "number"] (sp_in_range K) := by
  refine F.ok sc_in_range (fun vs H Q E h => ?_) (fun cdv A outer s G vs Q E hr h => ?_)
  · obtain ⟨kind, number, rfl, _⟩ := h
    rfl
  · obtain ⟨kind, number, rfl, h, q⟩ := h
    refine ⟨_, (pss_cons (ps_ret (pe_cmpR op_eq (cl O_signed (hr.mono (by decide)) rfl (pa_cons (pv 0) (pa_cons (pv 1) pa_nil))) (pv 1) (nomark _))) pss_nil), ?_⟩
    have e := Ex.refl G
    -- return signed(kind, number) == number
    refine r_retB e (ev_op (ev_call (ea_cons (ev_var rfl) (ea_cons (ev_var rfl) ea_nil)) (sv_signed (by walk_at "sd"))) (ev_var rfl) rv_eqI) (by show _ = m_in_range _ _; unfold m_in_range; (first | rfl | (split <;> rfl) | (split <;> simp_all))) q

/-! add -/
theorem two_pw {b : Int} (hb : 1 ≤ b) : (2 : Int) ^ b.toNat = 2 * 2 ^ (b - 1).toNat := by
  have e : b.toNat = (b - 1).toNat + 1 := by omega
  rw [e, Int.pow_succ]
  omega
theorem cong_mod (n : Int) (b : Nat) : ∃ q, n % 2 ^ b - n = 2 ^ b * q := by
  refine ⟨-(n / 2 ^ b), ?_⟩
  have h := Int.mul_ediv_add_emod n (2 ^ b)
  rw [Int.mul_neg]
  omega
theorem low_eq (n b : Int) : Builtin.bitAnd n (1 * 2 ^ b.toNat - 1) = n % 2 ^ b.toNat := by rw [Int.one_mul, PySem.W.kbt_mask]
theorem wd_bits {k : Str} {b : Int} (h : (k = "i32" ∧ b = 32) ∨ (k = "i64" ∧ b = 64)) : m_width k = b := by
  rcases h with ⟨rfl, rfl⟩ | ⟨rfl, rfl⟩
  · rfl
  · rfl
theorem un_eq {k : Str} {b : Int} (h : (k = "i32" ∧ b = 32) ∨ (k = "i64" ∧ b = 64)) (m : Int) : m_unsigned k m = m % 2 ^ b.toNat := by
  unfold m_unsigned
  rw [wd_bits h, low_eq]
/-- the value with these lowest bits -/
def sg (n b : Int) : Int := if 2 ^ (b - 1).toNat ≤ n % 2 ^ b.toNat then n % 2 ^ b.toNat - 2 ^ b.toNat else n % 2 ^ b.toNat
theorem ext_sg (n b : Int) : m_extend n b = sg n b := by
  unfold m_extend sg
  rw [low_eq, Int.one_mul, Int.one_mul]
theorem si_eq {k : Str} {b : Int} (h : (k = "i32" ∧ b = 32) ∨ (k = "i64" ∧ b = 64)) (m : Int) : m_signed k m = sg m b := by
  unfold m_signed
  rw [wd_bits h, ext_sg]
theorem sg_range (n : Int) {b : Int} (hb : 1 ≤ b) : -(2 ^ (b - 1).toNat) ≤ sg n b ∧ sg n b < 2 ^ (b - 1).toNat := by
  have h2 := two_pw hb
  have hp : (0 : Int) < 2 ^ (b - 1).toNat := Int.pow_pos (by decide)
  have h0 := Int.emod_nonneg n (show (2 : Int) ^ b.toNat ≠ 0 by omega)
  have h1 := Int.emod_lt_of_pos n (show (0 : Int) < 2 ^ b.toNat by omega)
  unfold sg
  split <;> omega
theorem sg_id {n b : Int} (hb : 1 ≤ b) (h : -(2 ^ (b - 1).toNat) ≤ n ∧ n < 2 ^ (b - 1).toNat) : sg n b = n := by
  have h2 := two_pw hb
  unfold sg
  by_cases h0 : 0 ≤ n
  · have e : n % 2 ^ b.toNat = n := Int.emod_eq_of_lt h0 (by omega)
    rw [e, if_neg (by omega)]
  · have e : n % 2 ^ b.toNat = n + 2 ^ b.toNat := by
      rw [← Int.add_emod_right]
      exact Int.emod_eq_of_lt (by omega) (by omega)
    rw [e, if_pos (by omega)]
    omega
/-- a value of the kind -/
def InK (k : Str) (n : Int) : Prop := m_in_range k n = true
theorem inK_of {k : Str} {b : Int} (h : (k = "i32" ∧ b = 32) ∨ (k = "i64" ∧ b = 64)) {n : Int} (hn : -(2 ^ (b - 1).toNat) ≤ n ∧ n < 2 ^ (b - 1).toNat) : InK k n := by
  have hb : 1 ≤ b := by rcases h with ⟨_, rfl⟩ | ⟨_, rfl⟩ <;> decide
  unfold InK m_in_range
  rw [si_eq h, sg_id hb hn]
  exact decide_eq_true rfl
theorem inK_sg {k : Str} {b : Int} (h : (k = "i32" ∧ b = 32) ∨ (k = "i64" ∧ b = 64)) (n : Int) : InK k (sg n b) :=
  inK_of h (sg_range n (by rcases h with ⟨_, rfl⟩ | ⟨_, rfl⟩ <;> decide))

theorem inK_id {k : Str} {b : Int} (h : (k = "i32" ∧ b = 32) ∨ (k = "i64" ∧ b = 64)) {n : Int} (hn : InK k n) : sg n b = n := by
  unfold InK m_in_range at hn
  rw [si_eq h] at hn
  exact of_decide_eq_true hn
theorem sg_pos {n b : Int} (hb : 1 ≤ b) (h : sg n b = n) (h0 : ¬ n = 0) : 0 < n % 2 ^ b.toNat := by
  have h2 := two_pw hb
  have hp : (0 : Int) < 2 ^ (b - 1).toNat := Int.pow_pos (by decide)
  have g0 := Int.emod_nonneg n (show (2 : Int) ^ b.toNat ≠ 0 by omega)
  unfold sg at h
  by_cases g : n % 2 ^ b.toNat = 0
  · rw [g, if_neg (by omega)] at h
    exact absurd h.symm h0
  · omega
theorem inK_rng {k : Str} (hk : k = "i32" ∨ k = "i64") {n : Int} (hn : InK k n) : -2 ^ 64 < n ∧ n < 2 ^ 64 := by
  rcases hk with rfl | rfl
  · have h1 := inK_id (b := 32) (Or.inl ⟨rfl, rfl⟩) hn
    have h2 := sg_range n (show (1 : Int) ≤ 32 by decide)
    rw [h1] at h2
    have e1 : (2 : Int) ^ (32 - 1 : Int).toNat = 2147483648 := rfl
    rw [e1] at h2
    omega
  · have h1 := inK_id (b := 64) (Or.inr ⟨rfl, rfl⟩) hn
    have h2 := sg_range n (show (1 : Int) ≤ 64 by decide)
    rw [h1] at h2
    have e1 : (2 : Int) ^ (64 - 1 : Int).toNat = 9223372036854775808 := rfl
    rw [e1] at h2
    omega
theorem un_lt {k : Str} (hk : k = "i32" ∨ k = "i64") (n : Int) : m_unsigned k n < 2 ^ 64 := by
  rcases hk with rfl | rfl
  · rw [un_eq (b := 32) (Or.inl ⟨rfl, rfl⟩)]
    have := Int.emod_lt_of_pos n (show (0 : Int) < 2 ^ (32 : Int).toNat by decide)
    have e1 : (2 : Int) ^ (32 : Int).toNat = 4294967296 := rfl
    rw [e1] at this ⊢
    omega
  · rw [un_eq (b := 64) (Or.inr ⟨rfl, rfl⟩)]
    have := Int.emod_lt_of_pos n (show (0 : Int) < 2 ^ (64 : Int).toNat by decide)
    have e1 : (2 : Int) ^ (64 : Int).toNat = 18446744073709551616 := rfl
    rw [e1] at this ⊢
    omega
theorem un_pos {k : Str} (hk : k = "i32" ∨ k = "i64") {n : Int} (hn : InK k n) (h0 : ¬ n = 0) : 0 < m_unsigned k n := by
  rcases hk with rfl | rfl
  · rw [un_eq (Or.inl ⟨rfl, rfl⟩)]
    exact sg_pos (by decide) (inK_id (Or.inl ⟨rfl, rfl⟩) hn) h0
  · rw [un_eq (Or.inr ⟨rfl, rfl⟩)]
    exact sg_pos (by decide) (inK_id (Or.inr ⟨rfl, rfl⟩) hn) h0

/-- Trap(r) -/
def tr (r : Str) : Exn := ⟨1001, some [("reason", .str r)]⟩
def trE : Except Str Int → Except Exn Int
  | .ok z => .ok z
  | .error r => .error (tr r)
def ZD : Str := "integer divide by zero"
def OV : Str := "integer overflow"
def m_add (kind : Str) (a b : Int) : Except Exn Int := .ok (m_signed kind (a + b))
theorem sc_add : FnScope ["kind", "a", "b"] ["kind", "a", "b"] (defScope s_add) := ⟨rfl, rfl, rfl, by decide +kernel, rfl, by decide +kernel, by decide +kernel⟩
def sp_add (K : PySem.W.Frag) (ad : Nat → Addr) : Sp := fun vs H Q E => ∃ (kind : Str) (a : Int) (b : Int), vs = [.str kind, .int a, .int b] ∧ (((kind = "i32" ∨ kind = "i64") ∧ InK kind b)) ∧ Outc ad H Q E V.int (m_add kind a b)
theorem sx_add {K : PySem.W.Frag} {ad : Nat → Addr} {H : Hp} {kind : Str} {a : Int} {b : Int} (h : (((kind = "i32" ∨ kind = "i64") ∧ InK kind b))) : ∀ H1, Ex H H1 → ∀ Q E, Outc ad H1 Q E V.int (m_add kind a b) → sp_add K ad [.str kind, .int a, .int b] H1 Q E := fun H1 e Q E q => ⟨kind, a, b, rfl, h, q⟩
theorem ok_add {f : Addr} {fd : FuncData} {d_signed : FuncData} (F : Fun K "add" "add" s_add f fd) (T : Tx w K mg ad) (O_signed : Df P w K mg base 2 "signed" (ad 3) d_signed ["kind", "number"] (sp_signed K)) : FnOk P w K mg base (L2.CX P w) 3 f fd ["kind", "a", "b"] (sp_add K ad) := by
  refine F.okX sc_add (fun vs H Q E h => ?_) (fun cdv A outer s G vs Q E hr h => ?_)
  · obtain ⟨kind, a, b, rfl, _⟩ := h
    rfl
  · obtain ⟨kind, a, b, rfl, h, q⟩ := h
    refine ⟨_, (pss_cons (ps_ret (cl O_signed (hr.mono (by decide)) rfl (pa_cons (pv 0) (pa_cons (pe_op op_add (pv 1) (pv 2)) pa_nil)))) pss_nil), ?_⟩
    have e := Ex.refl G
    exact r_ret e (ev_call (ea_cons (ev_var rfl) (ea_cons (ev_op (ev_var rfl) (ev_var rfl) rv_I0) ea_nil)) (sv_signed h.1)) fun H e => q H e

/-! sub -/
def m_sub (kind : Str) (a b : Int) : Except Exn Int := .ok (m_signed kind (a - b))
theorem sc_sub : FnScope ["kind", "a", "b"] ["kind", "a", "b"] (defScope s_sub) := ⟨rfl, rfl, rfl, by decide +kernel, rfl, by decide +kernel, by decide +kernel⟩
def sp_sub (K : PySem.W.Frag) (ad : Nat → Addr) : Sp := fun vs H Q E => ∃ (kind : Str) (a : Int) (b : Int), vs = [.str kind, .int a, .int b] ∧ (((kind = "i32" ∨ kind = "i64") ∧ InK kind b)) ∧ Outc ad H Q E V.int (m_sub kind a b)
theorem sx_sub {K : PySem.W.Frag} {ad : Nat → Addr} {H : Hp} {kind : Str} {a : Int} {b : Int} (h : (((kind = "i32" ∨ kind = "i64") ∧ InK kind b))) : ∀ H1, Ex H H1 → ∀ Q E, Outc ad H1 Q E V.int (m_sub kind a b) → sp_sub K ad [.str kind, .int a, .int b] H1 Q E := fun H1 e Q E q => ⟨kind, a, b, rfl, h, q⟩
theorem ok_sub {f : Addr} {fd : FuncData} {d_signed : FuncData} (F : Fun K "sub" "sub" s_sub f fd) (T : Tx w K mg ad) (O_signed : Df P w K mg base 2 "signed" (ad 3) d_signed ["kind", "number"] (sp_signed K)) : FnOk P w K mg base (L2.CX P w) 3 f fd ["kind", "a", "b"] (sp_sub K ad) := by
  refine F.okX sc_sub (fun vs H Q E h => ?_) (fun cdv A outer s G vs Q E hr h => ?_)
  · obtain ⟨kind, a, b, rfl, _⟩ := h
    rfl
  · obtain ⟨kind, a, b, rfl, h, q⟩ := h
    refine ⟨_, (pss_cons (ps_ret (cl O_signed (hr.mono (by decide)) rfl (pa_cons (pv 0) (pa_cons (pe_op op_sub (pv 1) (pv 2)) pa_nil)))) pss_nil), ?_⟩
    have e := Ex.refl G
    exact r_ret e (ev_call (ea_cons (ev_var rfl) (ea_cons (ev_op (ev_var rfl) (ev_var rfl) rv_I0) ea_nil)) (sv_signed h.1)) fun H e => q H e

/-! mul -/
def m_mul (kind : Str) (a b : Int) : Except Exn Int := .ok (m_signed kind (a * b))
theorem sc_mul : FnScope ["kind", "a", "b"] ["kind", "a", "b"] (defScope s_mul) := ⟨rfl, rfl, rfl, by decide +kernel, rfl, by decide +kernel, by decide +kernel⟩
def sp_mul (K : PySem.W.Frag) (ad : Nat → Addr) : Sp := fun vs H Q E => ∃ (kind : Str) (a : Int) (b : Int), vs = [.str kind, .int a, .int b] ∧ (((kind = "i32" ∨ kind = "i64") ∧ InK kind b)) ∧ Outc ad H Q E V.int (m_mul kind a b)
theorem sx_mul {K : PySem.W.Frag} {ad : Nat → Addr} {H : Hp} {kind : Str} {a : Int} {b : Int} (h : (((kind = "i32" ∨ kind = "i64") ∧ InK kind b))) : ∀ H1, Ex H H1 → ∀ Q E, Outc ad H1 Q E V.int (m_mul kind a b) → sp_mul K ad [.str kind, .int a, .int b] H1 Q E := fun H1 e Q E q => ⟨kind, a, b, rfl, h, q⟩
theorem ok_mul {f : Addr} {fd : FuncData} {d_signed : FuncData} (F : Fun K "mul" "mul" s_mul f fd) (T : Tx w K mg ad) (O_signed : Df P w K mg base 2 "signed" (ad 3) d_signed ["kind", "number"] (sp_signed K)) : FnOk P w K mg base (L2.CX P w) 3 f fd ["kind", "a", "b"] (sp_mul K ad) := by
  refine F.okX sc_mul (fun vs H Q E h => ?_) (fun cdv A outer s G vs Q E hr h => ?_)
  · obtain ⟨kind, a, b, rfl, _⟩ := h
    rfl
  · obtain ⟨kind, a, b, rfl, h, q⟩ := h
    refine ⟨_, (pss_cons (ps_ret (cl O_signed (hr.mono (by decide)) rfl (pa_cons (pv 0) (pa_cons (pe_op op_mul (pv 1) (pv 2)) pa_nil)))) pss_nil), ?_⟩
    have e := Ex.refl G
    exact r_ret e (ev_call (ea_cons (ev_var rfl) (ea_cons (ev_op (ev_var rfl) (ev_var rfl) (rv_I (Or.inr (inK_rng h.1 h.2)))) ea_nil)) (sv_signed h.1)) fun H e => q H e

/-! quotient -/
def m_quotient (a : Int) (b : Int) : Int :=
  if ((decide (a < 0)) = (decide (b < 0))) then
    ((if a < 0 then -a else a) / (if b < 0 then -b else b))
  else
    (-((if a < 0 then -a else a) / (if b < 0 then -b else b)))
theorem sc_quotient : FnScope ["a", "b", "result"] ["a", "b"] (defScope s_quotient) := ⟨rfl, rfl, rfl, by decide +kernel, rfl, by decide +kernel, by decide +kernel⟩
def sp_quotient (K : PySem.W.Frag) : Sp := fun vs H Q _ => ∃ (a : Int) (b : Int), vs = [.int a, .int b] ∧ ((¬ b = 0 ∧ (-2 ^ 64 < b ∧ b < 2 ^ 64))) ∧ ∀ H1, Ex H H1 → Q (.int (m_quotient a b)) H1
theorem sv_quotient {K : PySem.W.Frag} {H : Hp} {a : Int} {b : Int} (h : ((¬ b = 0 ∧ (-2 ^ 64 < b ∧ b < 2 ^ 64)))) : SpV (sp_quotient K) [.int a, .int b] H (.int (m_quotient a b)) := fun H1 e Q q _ => ⟨a, b, rfl, h, q⟩
theorem ok_quotient {f : Addr} {fd : FuncData} (F : Fun K "quotient" "quotient" s_quotient f fd) (T : Tx w K mg ad)  : FnOk P w K mg base CX0 1 f fd ["a", "b"] (sp_quotient K) := by
  refine F.ok sc_quotient (fun vs H Q E h => ?_) (fun cdv A outer s G vs Q E hr h => ?_)
  · obtain ⟨a, b, rfl, _⟩ := h
    rfl
  · obtain ⟨a, b, rfl, h, q⟩ := h
    refine ⟨_, (pss_cons (ps_set (i := 2) sc_quotient.nd rfl (Or.inl rfl) (pe_op op_fdivW (pe_callB call_abs (by rfl) T.b_abs (by decide +kernel) (pa_cons (pv 0) pa_nil)) (pe_callB call_abs (by rfl) T.b_abs (by decide +kernel) (pa_cons (pv 1) pa_nil)))) (pss_cons (ps_if (pt_cmpR op_eq (pe_cmpR op_lt (pv 0) pe_int (nomark _)) (pe_cmpR op_lt (pv 1) pe_int (nomark _)) (nomark _)) (pss_cons (ps_ret (pv 2)) pss_nil) pss_nil) (pss_cons (ps_ret (pe_un un_neg (pv 2))) pss_nil))), ?_⟩
    have e := Ex.refl G
    -- result = abs(a) // abs(b)
    refine r_asg e (ev_op (ev_abs (ev_var rfl)) (ev_abs (ev_var rfl)) (rv_I (w_div (by split <;> omega) (by split <;> omega)))) fun H e e1 => ?_
    -- if (a < 0) == (b < 0)
    refine r_when e (ep_dec (ev_op (ev_op (ev_var rfl) ev_c rv_I0) (ev_op (ev_var rfl) ev_c rv_I0) rv_eqB)) (fun hb1 H e e1 => ?_) (fun hb1 H e e1 => ?_)
    · -- return result
      refine r_retI e (ev_var rfl) (by show _ = m_quotient _ _; unfold m_quotient; rw [if_pos hb1] <;> (first | rfl | (split <;> rfl) | (split <;> simp_all))) q
    -- return -result
    refine r_retI e (ev_un (ev_var rfl) ru_neg) (by show _ = m_quotient _ _; unfold m_quotient; rw [if_neg hb1] <;> (first | rfl | (split <;> rfl) | (split <;> simp_all))) q

/-! div_s -/
def r_div_s (kind : Str) (a b : Int) : Except Str Int := if b = 0 then .error ZD else if ¬ m_in_range kind (m_quotient a b) = true then .error OV else .ok (m_quotient a b)
def m_div_s (kind : Str) (a b : Int) : Except Exn Int := trE (r_div_s kind a b)
theorem sc_div_s : FnScope ["kind", "a", "b", "result"] ["kind", "a", "b"] (defScope s_div_s) := ⟨rfl, rfl, rfl, by decide +kernel, rfl, by decide +kernel, by decide +kernel⟩
def sp_div_s (K : PySem.W.Frag) (ad : Nat → Addr) : Sp := fun vs H Q E => ∃ (kind : Str) (a : Int) (b : Int), vs = [.str kind, .int a, .int b] ∧ (((kind = "i32" ∨ kind = "i64") ∧ InK kind b)) ∧ Outc ad H Q E V.int (m_div_s kind a b)
theorem sx_div_s {K : PySem.W.Frag} {ad : Nat → Addr} {H : Hp} {kind : Str} {a : Int} {b : Int} (h : (((kind = "i32" ∨ kind = "i64") ∧ InK kind b))) : ∀ H1, Ex H H1 → ∀ Q E, Outc ad H1 Q E V.int (m_div_s kind a b) → sp_div_s K ad [.str kind, .int a, .int b] H1 Q E := fun H1 e Q E q => ⟨kind, a, b, rfl, h, q⟩
theorem ok_div_s {f : Addr} {fd : FuncData} {d_in_range : FuncData} {d_quotient : FuncData} {di_Trap : FuncData} (F : Fun K "div_s" "div_s" s_div_s f fd) (T : Tx w K mg ad) (O_in_range : Df P w K mg base 3 "in_range" (ad 4) d_in_range ["kind", "number"] (sp_in_range K)) (O_quotient : Df P w K mg base 1 "quotient" (ad 8) d_quotient ["a", "b"] (sp_quotient K)) (O_init_Trap : InitOk P w K mg base (ad 2001) di_Trap ["self", "reason"] (sp_init1 K "reason")) : FnOk P w K mg base (L2.CX P w) 4 f fd ["kind", "a", "b"] (sp_div_s K ad) := by
  refine F.okX sc_div_s (fun vs H Q E h => ?_) (fun cdv A outer s G vs Q E hr h => ?_)
  · obtain ⟨kind, a, b, rfl, _⟩ := h
    rfl
  · obtain ⟨kind, a, b, rfl, h, q⟩ := h
    refine ⟨_, (pss_cons (ps_if (pt_cmpR op_eq (pv 2) pe_int (nomark _)) (pss_cons (ps_raise rfl (takes_of rfl rfl rfl rfl) (pmk_oex T.e_Trap.o T.e_Trap.i T.e_Trap.t O_init_Trap.ok (hr.mono (by decide)) O_init_Trap.b .nil pass0 rfl T.e_Trap.g (pa_cons pe_str pa_nil))) pss_nil) pss_nil) (pss_cons (ps_set (i := 3) sc_div_s.nd rfl (Or.inl rfl) (cl O_quotient (hr.mono (by decide)) rfl (pa_cons (pv 1) (pa_cons (pv 2) pa_nil)))) (pss_cons (ps_if (pt_not (pt_val (cl O_in_range (hr.mono (by decide)) rfl (pa_cons (pv 0) (pa_cons (pv 3) pa_nil))))) (pss_cons (ps_raise rfl (takes_of rfl rfl rfl rfl) (pmk_oex T.e_Trap.o T.e_Trap.i T.e_Trap.t O_init_Trap.ok (hr.mono (by decide)) O_init_Trap.b .nil pass0 rfl T.e_Trap.g (pa_cons pe_str pa_nil))) pss_nil) pss_nil) (pss_cons (ps_ret (pv 3)) pss_nil)))), ?_⟩
    have e := Ex.refl G
    -- if b == 0
    refine r_when e (ep_dec (ev_op (ev_var rfl) ev_c rv_eqI)) (fun hb1 H e e1 => ?_) (fun hb1 H e e1 => ?_)
    · -- raise Trap('integer divide by zero')
      refine r_raise1 e T.e_Trap (ea_cons ev_c ea_nil) fun d H2 e2 hd => ?_
      have hm : m_div_s kind a b = .error (tr ZD) := by unfold m_div_s r_div_s; rw [if_pos hb1]; rfl
      rw [hm] at q
      exact q d H2 e2 hd
    -- result = quotient(a, b)
    refine r_asg e (ev_call (ea_cons (ev_var rfl) (ea_cons (ev_var rfl) ea_nil)) (sv_quotient ⟨hb1, inK_rng h.1 h.2⟩)) fun H e e1 => ?_
    -- if not in_range(kind, result)
    refine r_when e (ep_not (ep_val (ev_call (ea_cons (ev_var rfl) (ea_cons (ev_var rfl) ea_nil)) (sv_in_range h.1)))) (fun hb2 H e e1 => ?_) (fun hb2 H e e1 => ?_)
    · -- raise Trap('integer overflow')
      refine r_raise1 e T.e_Trap (ea_cons ev_c ea_nil) fun d H2 e2 hd => ?_
      have hm : m_div_s kind a b = .error (tr OV) := by unfold m_div_s r_div_s; rw [if_neg hb1, if_pos hb2]; rfl
      rw [hm] at q
      exact q d H2 e2 hd
    -- return result
    refine r_ret e (ev_var rfl) fun H e => ?_
    have hm : m_div_s kind a b = .ok (m_quotient a b) := by unfold m_div_s r_div_s; rw [if_neg hb1, if_neg hb2]; rfl
    rw [hm] at q
    exact q H e

/-! div_u -/
def r_div_u (kind : Str) (a b : Int) : Except Str Int := if b = 0 then .error ZD else .ok (m_signed kind (m_unsigned kind a / m_unsigned kind b))
def m_div_u (kind : Str) (a b : Int) : Except Exn Int := trE (r_div_u kind a b)
theorem sc_div_u : FnScope ["kind", "a", "b"] ["kind", "a", "b"] (defScope s_div_u) := ⟨rfl, rfl, rfl, by decide +kernel, rfl, by decide +kernel, by decide +kernel⟩
def sp_div_u (K : PySem.W.Frag) (ad : Nat → Addr) : Sp := fun vs H Q E => ∃ (kind : Str) (a : Int) (b : Int), vs = [.str kind, .int a, .int b] ∧ (((kind = "i32" ∨ kind = "i64") ∧ InK kind b)) ∧ Outc ad H Q E V.int (m_div_u kind a b)
theorem sx_div_u {K : PySem.W.Frag} {ad : Nat → Addr} {H : Hp} {kind : Str} {a : Int} {b : Int} (h : (((kind = "i32" ∨ kind = "i64") ∧ InK kind b))) : ∀ H1, Ex H H1 → ∀ Q E, Outc ad H1 Q E V.int (m_div_u kind a b) → sp_div_u K ad [.str kind, .int a, .int b] H1 Q E := fun H1 e Q E q => ⟨kind, a, b, rfl, h, q⟩
theorem ok_div_u {f : Addr} {fd : FuncData} {d_unsigned : FuncData} {d_signed : FuncData} {di_Trap : FuncData} (F : Fun K "div_u" "div_u" s_div_u f fd) (T : Tx w K mg ad) (O_unsigned : Df P w K mg base 2 "unsigned" (ad 1) d_unsigned ["kind", "number"] (sp_unsigned K)) (O_signed : Df P w K mg base 2 "signed" (ad 3) d_signed ["kind", "number"] (sp_signed K)) (O_init_Trap : InitOk P w K mg base (ad 2001) di_Trap ["self", "reason"] (sp_init1 K "reason")) : FnOk P w K mg base (L2.CX P w) 3 f fd ["kind", "a", "b"] (sp_div_u K ad) := by
  refine F.okX sc_div_u (fun vs H Q E h => ?_) (fun cdv A outer s G vs Q E hr h => ?_)
  · obtain ⟨kind, a, b, rfl, _⟩ := h
    rfl
  · obtain ⟨kind, a, b, rfl, h, q⟩ := h
    refine ⟨_, (pss_cons (ps_if (pt_cmpR op_eq (pv 2) pe_int (nomark _)) (pss_cons (ps_raise rfl (takes_of rfl rfl rfl rfl) (pmk_oex T.e_Trap.o T.e_Trap.i T.e_Trap.t O_init_Trap.ok (hr.mono (by decide)) O_init_Trap.b .nil pass0 rfl T.e_Trap.g (pa_cons pe_str pa_nil))) pss_nil) pss_nil) (pss_cons (ps_ret (cl O_signed (hr.mono (by decide)) rfl (pa_cons (pv 0) (pa_cons (pe_op op_fdivW (cl O_unsigned (hr.mono (by decide)) rfl (pa_cons (pv 0) (pa_cons (pv 1) pa_nil))) (cl O_unsigned (hr.mono (by decide)) rfl (pa_cons (pv 0) (pa_cons (pv 2) pa_nil)))) pa_nil)))) pss_nil)), ?_⟩
    have e := Ex.refl G
    -- if b == 0
    refine r_when e (ep_dec (ev_op (ev_var rfl) ev_c rv_eqI)) (fun hb1 H e e1 => ?_) (fun hb1 H e e1 => ?_)
    · -- raise Trap('integer divide by zero')
      refine r_raise1 e T.e_Trap (ea_cons ev_c ea_nil) fun d H2 e2 hd => ?_
      have hm : m_div_u kind a b = .error (tr ZD) := by unfold m_div_u r_div_u; rw [if_pos hb1]; rfl
      rw [hm] at q
      exact q d H2 e2 hd
    have hu : 0 < m_unsigned kind b ∧ m_unsigned kind b < 2 ^ 64 := ⟨un_pos h.1 h.2 hb1, un_lt h.1 b⟩
    -- return signed(kind, unsigned(kind, a) // unsigned(kind, b))
    refine r_ret e (ev_call (ea_cons (ev_var rfl) (ea_cons (ev_op (ev_call (ea_cons (ev_var rfl) (ea_cons (ev_var rfl) ea_nil)) (sv_unsigned (by first | exact h.1 | exact w_div hu.1 (Int.le_of_lt hu.2) | omega))) (ev_call (ea_cons (ev_var rfl) (ea_cons (ev_var rfl) ea_nil)) (sv_unsigned (by first | exact h.1 | exact w_div hu.1 (Int.le_of_lt hu.2) | omega))) (rv_I (by first | exact h.1 | exact w_div hu.1 (Int.le_of_lt hu.2) | omega))) ea_nil)) (sv_signed (by first | exact h.1 | exact w_div hu.1 (Int.le_of_lt hu.2) | omega))) fun H e => ?_
    have hm : m_div_u kind a b = .ok (m_signed kind (m_unsigned kind a / m_unsigned kind b)) := by unfold m_div_u r_div_u; rw [if_neg hb1]; rfl
    rw [hm] at q
    exact q H e

/-! rem_s -/
def r_rem_s (kind : Str) (a b : Int) : Except Str Int := if b = 0 then .error ZD else .ok (a - b * m_quotient a b)
def m_rem_s (kind : Str) (a b : Int) : Except Exn Int := trE (r_rem_s kind a b)
theorem sc_rem_s : FnScope ["kind", "a", "b"] ["kind", "a", "b"] (defScope s_rem_s) := ⟨rfl, rfl, rfl, by decide +kernel, rfl, by decide +kernel, by decide +kernel⟩
def sp_rem_s (K : PySem.W.Frag) (ad : Nat → Addr) : Sp := fun vs H Q E => ∃ (kind : Str) (a : Int) (b : Int), vs = [.str kind, .int a, .int b] ∧ (((kind = "i32" ∨ kind = "i64") ∧ InK kind b)) ∧ Outc ad H Q E V.int (m_rem_s kind a b)
theorem sx_rem_s {K : PySem.W.Frag} {ad : Nat → Addr} {H : Hp} {kind : Str} {a : Int} {b : Int} (h : (((kind = "i32" ∨ kind = "i64") ∧ InK kind b))) : ∀ H1, Ex H H1 → ∀ Q E, Outc ad H1 Q E V.int (m_rem_s kind a b) → sp_rem_s K ad [.str kind, .int a, .int b] H1 Q E := fun H1 e Q E q => ⟨kind, a, b, rfl, h, q⟩
theorem ok_rem_s {f : Addr} {fd : FuncData} {d_quotient : FuncData} {di_Trap : FuncData} (F : Fun K "rem_s" "rem_s" s_rem_s f fd) (T : Tx w K mg ad) (O_quotient : Df P w K mg base 1 "quotient" (ad 8) d_quotient ["a", "b"] (sp_quotient K)) (O_init_Trap : InitOk P w K mg base (ad 2001) di_Trap ["self", "reason"] (sp_init1 K "reason")) : FnOk P w K mg base (L2.CX P w) 3 f fd ["kind", "a", "b"] (sp_rem_s K ad) := by
  refine F.okX sc_rem_s (fun vs H Q E h => ?_) (fun cdv A outer s G vs Q E hr h => ?_)
  · obtain ⟨kind, a, b, rfl, _⟩ := h
    rfl
  · obtain ⟨kind, a, b, rfl, h, q⟩ := h
    refine ⟨_, (pss_cons (ps_if (pt_cmpR op_eq (pv 2) pe_int (nomark _)) (pss_cons (ps_raise rfl (takes_of rfl rfl rfl rfl) (pmk_oex T.e_Trap.o T.e_Trap.i T.e_Trap.t O_init_Trap.ok (hr.mono (by decide)) O_init_Trap.b .nil pass0 rfl T.e_Trap.g (pa_cons pe_str pa_nil))) pss_nil) pss_nil) (pss_cons (ps_ret (pe_op op_sub (pv 1) (pe_op op_mul (pv 2) (cl O_quotient (hr.mono (by decide)) rfl (pa_cons (pv 1) (pa_cons (pv 2) pa_nil)))))) pss_nil)), ?_⟩
    have e := Ex.refl G
    -- if b == 0
    refine r_when e (ep_dec (ev_op (ev_var rfl) ev_c rv_eqI)) (fun hb1 H e e1 => ?_) (fun hb1 H e e1 => ?_)
    · -- raise Trap('integer divide by zero')
      refine r_raise1 e T.e_Trap (ea_cons ev_c ea_nil) fun d H2 e2 hd => ?_
      have hm : m_rem_s kind a b = .error (tr ZD) := by unfold m_rem_s r_rem_s; rw [if_pos hb1]; rfl
      rw [hm] at q
      exact q d H2 e2 hd
    -- return a - b * quotient(a, b)
    refine r_ret e (ev_op (ev_var rfl) (ev_op (ev_var rfl) (ev_call (ea_cons (ev_var rfl) (ea_cons (ev_var rfl) ea_nil)) (sv_quotient ⟨hb1, inK_rng h.1 h.2⟩)) (rv_I (Or.inl (inK_rng h.1 h.2)))) rv_I0) fun H e => ?_
    have hm : m_rem_s kind a b = .ok (a - b * m_quotient a b) := by unfold m_rem_s r_rem_s; rw [if_neg hb1]; rfl
    rw [hm] at q
    exact q H e

/-! rem_u -/
def r_rem_u (kind : Str) (a b : Int) : Except Str Int := if b = 0 then .error ZD else .ok (m_signed kind (m_unsigned kind a - m_unsigned kind b * (m_unsigned kind a / m_unsigned kind b)))
def m_rem_u (kind : Str) (a b : Int) : Except Exn Int := trE (r_rem_u kind a b)
theorem sc_rem_u : FnScope ["kind", "a", "b", "whole", "part"] ["kind", "a", "b"] (defScope s_rem_u) := ⟨rfl, rfl, rfl, by decide +kernel, rfl, by decide +kernel, by decide +kernel⟩
def sp_rem_u (K : PySem.W.Frag) (ad : Nat → Addr) : Sp := fun vs H Q E => ∃ (kind : Str) (a : Int) (b : Int), vs = [.str kind, .int a, .int b] ∧ (((kind = "i32" ∨ kind = "i64") ∧ InK kind b)) ∧ Outc ad H Q E V.int (m_rem_u kind a b)
theorem sx_rem_u {K : PySem.W.Frag} {ad : Nat → Addr} {H : Hp} {kind : Str} {a : Int} {b : Int} (h : (((kind = "i32" ∨ kind = "i64") ∧ InK kind b))) : ∀ H1, Ex H H1 → ∀ Q E, Outc ad H1 Q E V.int (m_rem_u kind a b) → sp_rem_u K ad [.str kind, .int a, .int b] H1 Q E := fun H1 e Q E q => ⟨kind, a, b, rfl, h, q⟩
theorem ok_rem_u {f : Addr} {fd : FuncData} {d_unsigned : FuncData} {d_signed : FuncData} {di_Trap : FuncData} (F : Fun K "rem_u" "rem_u" s_rem_u f fd) (T : Tx w K mg ad) (O_unsigned : Df P w K mg base 2 "unsigned" (ad 1) d_unsigned ["kind", "number"] (sp_unsigned K)) (O_signed : Df P w K mg base 2 "signed" (ad 3) d_signed ["kind", "number"] (sp_signed K)) (O_init_Trap : InitOk P w K mg base (ad 2001) di_Trap ["self", "reason"] (sp_init1 K "reason")) : FnOk P w K mg base (L2.CX P w) 3 f fd ["kind", "a", "b"] (sp_rem_u K ad) := by
  refine F.okX sc_rem_u (fun vs H Q E h => ?_) (fun cdv A outer s G vs Q E hr h => ?_)
  · obtain ⟨kind, a, b, rfl, _⟩ := h
    rfl
  · obtain ⟨kind, a, b, rfl, h, q⟩ := h
    refine ⟨_, (pss_cons (ps_if (pt_cmpR op_eq (pv 2) pe_int (nomark _)) (pss_cons (ps_raise rfl (takes_of rfl rfl rfl rfl) (pmk_oex T.e_Trap.o T.e_Trap.i T.e_Trap.t O_init_Trap.ok (hr.mono (by decide)) O_init_Trap.b .nil pass0 rfl T.e_Trap.g (pa_cons pe_str pa_nil))) pss_nil) pss_nil) (pss_cons (ps_set (i := 3) sc_rem_u.nd rfl (Or.inl rfl) (cl O_unsigned (hr.mono (by decide)) rfl (pa_cons (pv 0) (pa_cons (pv 1) pa_nil)))) (pss_cons (ps_set (i := 4) sc_rem_u.nd rfl (Or.inl rfl) (cl O_unsigned (hr.mono (by decide)) rfl (pa_cons (pv 0) (pa_cons (pv 2) pa_nil)))) (pss_cons (ps_ret (cl O_signed (hr.mono (by decide)) rfl (pa_cons (pv 0) (pa_cons (pe_op op_sub (pv 3) (pe_op op_mul (pv 4) (pe_op op_fdivW (pv 3) (pv 4)))) pa_nil)))) pss_nil)))), ?_⟩
    have e := Ex.refl G
    -- if b == 0
    refine r_when e (ep_dec (ev_op (ev_var rfl) ev_c rv_eqI)) (fun hb1 H e e1 => ?_) (fun hb1 H e e1 => ?_)
    · -- raise Trap('integer divide by zero')
      refine r_raise1 e T.e_Trap (ea_cons ev_c ea_nil) fun d H2 e2 hd => ?_
      have hm : m_rem_u kind a b = .error (tr ZD) := by unfold m_rem_u r_rem_u; rw [if_pos hb1]; rfl
      rw [hm] at q
      exact q d H2 e2 hd
    have hu : 0 < m_unsigned kind b ∧ m_unsigned kind b < 2 ^ 64 := ⟨un_pos h.1 h.2 hb1, un_lt h.1 b⟩
    -- whole = unsigned(kind, a)
    refine r_asg e (ev_call (ea_cons (ev_var rfl) (ea_cons (ev_var rfl) ea_nil)) (sv_unsigned (by first | exact h.1 | exact w_div hu.1 (Int.le_of_lt hu.2) | exact Or.inl ⟨by omega, hu.2⟩ | omega))) fun H e e1 => ?_
    -- part = unsigned(kind, b)
    refine r_asg e (ev_call (ea_cons (ev_var rfl) (ea_cons (ev_var rfl) ea_nil)) (sv_unsigned (by first | exact h.1 | exact w_div hu.1 (Int.le_of_lt hu.2) | exact Or.inl ⟨by omega, hu.2⟩ | omega))) fun H e e1 => ?_
    -- return signed(kind, whole - part * (whole // part))
    refine r_ret e (ev_call (ea_cons (ev_var rfl) (ea_cons (ev_op (ev_var rfl) (ev_op (ev_var rfl) (ev_op (ev_var rfl) (ev_var rfl) (rv_I (by first | exact h.1 | exact w_div hu.1 (Int.le_of_lt hu.2) | exact Or.inl ⟨by omega, hu.2⟩ | omega))) (rv_I (by first | exact h.1 | exact w_div hu.1 (Int.le_of_lt hu.2) | exact Or.inl ⟨by omega, hu.2⟩ | omega))) rv_I0) ea_nil)) (sv_signed (by first | exact h.1 | exact w_div hu.1 (Int.le_of_lt hu.2) | exact Or.inl ⟨by omega, hu.2⟩ | omega))) fun H e => ?_
    have hm : m_rem_u kind a b = .ok (m_signed kind (m_unsigned kind a - m_unsigned kind b * (m_unsigned kind a / m_unsigned kind b))) := by unfold m_rem_u r_rem_u; rw [if_neg hb1]; rfl
    rw [hm] at q
    exact q H e

/-! signature_of -/
def m_kd (name : Str) : Str := cutS name none (some 3)
def m_wd (name : Str) : Str := cutS name (some 4) none
def m_sigp (name : Str) : List Str :=
  if name = "i32.wrap_i64" then ["i64"] else if name ∈ kk_CONVERSIONS then ["i32"] else if m_wd name ∈ kk_ARITHMETIC then [m_kd name, m_kd name]
  else if m_wd name ∈ kk_COMPARISONS then [m_kd name, m_kd name] else [m_kd name]
def m_sigr (name : Str) : List Str :=
  if name = "i32.wrap_i64" then ["i32"] else if name ∈ kk_CONVERSIONS then ["i64"] else if m_wd name ∈ kk_ARITHMETIC then [m_kd name]
  else if m_wd name ∈ kk_COMPARISONS then ["i32"] else if m_wd name = "eqz" then ["i32"] else [m_kd name]
theorem inst_len : ∀ n ∈ kc_INSTRUCTIONS, n.length ≤ 100 := by decide +kernel
theorem m_sigp_len (name : Str) : (m_sigp name).length ≤ 2 := by
  unfold m_sigp
  split
  · decide
  split
  · decide
  split
  · exact Nat.le_refl 2
  split
  · exact Nat.le_refl 2
  · exact Nat.le_succ 1
def KD (k : Str) : Prop := k = "i32" ∨ k = "i64"
def OpsOk (ps : List Str) (ops : List Int) : Prop := ps.length = ops.length ∧ ∀ (i : Nat) (k : Str) (n : Int), ps[i]? = some k → ops[i]? = some n → (k = "i32" ∨ k = "i64") ∧ m_in_range k n = true
theorem opsok1 {ps : List Str} {k : Str} {n : Int} (h : ps = [k]) (hk : k = "i32" ∨ k = "i64") (hn : m_in_range k n = true) : OpsOk ps [n] := by
  subst h
  refine ⟨rfl, fun i k' n' hi hn' => ?_⟩
  match i with
  | 0 => cases hi; cases hn'; exact ⟨hk, hn⟩
  | i + 1 => cases hi
theorem opsok2 {ps : List Str} {k : Str} {a b : Int} (h : ps = [k, k]) (hk : k = "i32" ∨ k = "i64") (ha : m_in_range k a = true) (hb : m_in_range k b = true) : OpsOk ps [a, b] := by
  subst h
  refine ⟨rfl, fun i k' n' hi hn' => ?_⟩
  match i with
  | 0 => cases hi; cases hn'; exact ⟨hk, ha⟩
  | 1 => cases hi; cases hn'; exact ⟨hk, hb⟩
  | i + 2 => cases hi
theorem sc_signature_of : FnScope ["name", "kind", "word"] ["name"] (defScope s_signature_of) := ⟨rfl, rfl, rfl, by decide +kernel, rfl, by decide +kernel, by decide +kernel⟩
def sp_signature_of (K : PySem.W.Frag) : Sp := fun vs H Q _ => ∃ (name : Str), vs = [.str name] ∧ (name ∈ kc_INSTRUCTIONS) ∧ ∀ (p q r : Addr) (H1 : Hp), H p = none → Ex H H1 → H1 p = some (.tup [.ref q, .ref r]) → H1 q = some (.tup ((m_sigp name).map V.str)) → H1 r = some (.tup ((m_sigr name).map V.str)) → Q (.ref p) H1
theorem ok_signature_of {f : Addr} {fd : FuncData} (F : Fun K "signature_of" "signature_of" s_signature_of f fd) (T : Tx w K mg ad)  : FnOk P w K mg base CX0 1 f fd ["name"] (sp_signature_of K) := by
  refine F.ok sc_signature_of (fun vs H Q E h => ?_) (fun cdv A outer s G vs Q E hr h => ?_)
  · obtain ⟨_, rfl, _⟩ := h
    rfl
  · obtain ⟨name, rfl, h, q⟩ := h
    obtain ⟨a_ARITHMETIC, g_ARITHMETIC, k_ARITHMETIC⟩ := T.g_ARITHMETIC
    obtain ⟨a_COMPARISONS, g_COMPARISONS, k_COMPARISONS⟩ := T.g_COMPARISONS
    obtain ⟨a_CONVERSIONS, g_CONVERSIONS, k_CONVERSIONS⟩ := T.g_CONVERSIONS
    obtain ⟨a_INSTRUCTIONS, g_INSTRUCTIONS, k_INSTRUCTIONS⟩ := T.g_INSTRUCTIONS
    refine ⟨_, (pss_cons (ps_if (pt_cmpR (op_notIn_seq : OpR _ _ (rIn K true)) (pv 0) (pe_glob (v := .ref _) rfl g_INSTRUCTIONS rfl) (by rfl)) pss_never pss_nil) (pss_cons (ps_set (i := 1) sc_signature_of.nd rfl (Or.inl rfl) (pe_slice sl_str (pv 0) po_none (po_some pe_int))) (pss_cons (ps_set (i := 2) sc_signature_of.nd rfl (Or.inl rfl) (pe_slice sl_str (pv 0) (po_some pe_int) po_none)) (pss_cons (ps_if (pt_cmpR op_eq (pv 0) pe_str (nomark _)) (pss_cons (ps_ret (pe_tup (pa_cons (pe_tup (pa_cons pe_str pa_nil)) (pa_cons (pe_tup (pa_cons pe_str pa_nil)) pa_nil)))) pss_nil) pss_nil) (pss_cons (ps_if (pt_cmpR (op_in_sd k_CONVERSIONS) (pv 0) (pe_glob (v := .ref _) rfl g_CONVERSIONS rfl) (by rfl)) (pss_cons (ps_ret (pe_tup (pa_cons (pe_tup (pa_cons pe_str pa_nil)) (pa_cons (pe_tup (pa_cons pe_str pa_nil)) pa_nil)))) pss_nil) pss_nil) (pss_cons (ps_if (pt_cmpR (op_in_sd k_ARITHMETIC) (pv 2) (pe_glob (v := .ref _) rfl g_ARITHMETIC rfl) (by rfl)) (pss_cons (ps_ret (pe_tup (pa_cons (pe_tup (pa_cons (pv 1) (pa_cons (pv 1) pa_nil))) (pa_cons (pe_tup (pa_cons (pv 1) pa_nil)) pa_nil)))) pss_nil) pss_nil) (pss_cons (ps_if (pt_cmpR (op_in_sd k_COMPARISONS) (pv 2) (pe_glob (v := .ref _) rfl g_COMPARISONS rfl) (by rfl)) (pss_cons (ps_ret (pe_tup (pa_cons (pe_tup (pa_cons (pv 1) (pa_cons (pv 1) pa_nil))) (pa_cons (pe_tup (pa_cons pe_str pa_nil)) pa_nil)))) pss_nil) pss_nil) (pss_cons (ps_if (pt_cmpR op_eq (pv 2) pe_str (nomark _)) (pss_cons (ps_ret (pe_tup (pa_cons (pe_tup (pa_cons (pv 1) pa_nil)) (pa_cons (pe_tup (pa_cons pe_str pa_nil)) pa_nil)))) pss_nil) pss_nil) (pss_cons (ps_ret (pe_tup (pa_cons (pe_tup (pa_cons (pv 1) pa_nil)) (pa_cons (pe_tup (pa_cons (pv 1) pa_nil)) pa_nil)))) pss_nil))))))))), ?_⟩
    have e := Ex.refl G
    have f1 : name.length ≤ 100 := inst_len name h
    refine r_when e (ep_ndec (ev_op (ev_var rfl) ev_c (rv_niTS (k_INSTRUCTIONS _)))) (fun hb1 H e e1 => ?_) (fun hb1 H e e1 => ?_)
    · exact absurd h hb1
    refine r_asg e (ev_slS (ev_var rfl) eo_none (eo_some ev_c) (by omega)) fun H e e1 => ?_
    refine r_asg e (ev_slS (ev_var rfl) (eo_some ev_c) eo_none (by omega)) fun H e e1 => ?_
    refine r_when e (ep_dec (ev_op (ev_var rfl) ev_c rv_eqS)) (fun hb2 H e e1 => ?_) (fun hb2 H e e1 => ?_)
    · have hq : m_sigp name = (["i64"] : List Str) := by unfold m_sigp; rw [if_pos hb2]
      have hr : m_sigr name = (["i32"] : List Str) := by unfold m_sigr; rw [if_pos hb2]
      rw [hq, hr] at q
      refine r_retT e (eax_U (eu_tup (ea_cons ev_c ea_nil) (by show 1 ≤ 100000; decide)) (eax_U (eu_tup (ea_cons ev_c ea_nil) (by show 1 ≤ 100000; decide)) eax_nil)) (fun vs H hp => by obtain ⟨a, _, rfl, ha, b, _, rfl, hb, rfl⟩ := hp; show 2 ≤ 100000; decide) fun vs p H2 H3 hp e2 e3 hn h3 => ?_
      obtain ⟨a, _, rfl, ha, b, _, rfl, hb, rfl⟩ := hp
      exact q p a b _ hn (e2.trans e3) h3 (e3 _ _ ha) (e3 _ _ hb)
    refine r_when e (ep_dec (ev_op (ev_var rfl) ev_c (rv_inSDk (keys := kk_CONVERSIONS) rfl))) (fun hb3 H e e1 => ?_) (fun hb3 H e e1 => ?_)
    · have hq : m_sigp name = (["i32"] : List Str) := by unfold m_sigp; rw [if_neg hb2, if_pos hb3]
      have hr : m_sigr name = (["i64"] : List Str) := by unfold m_sigr; rw [if_neg hb2, if_pos hb3]
      rw [hq, hr] at q
      refine r_retT e (eax_U (eu_tup (ea_cons ev_c ea_nil) (by show 1 ≤ 100000; decide)) (eax_U (eu_tup (ea_cons ev_c ea_nil) (by show 1 ≤ 100000; decide)) eax_nil)) (fun vs H hp => by obtain ⟨a, _, rfl, ha, b, _, rfl, hb, rfl⟩ := hp; show 2 ≤ 100000; decide) fun vs p H2 H3 hp e2 e3 hn h3 => ?_
      obtain ⟨a, _, rfl, ha, b, _, rfl, hb, rfl⟩ := hp
      exact q p a b _ hn (e2.trans e3) h3 (e3 _ _ ha) (e3 _ _ hb)
    refine r_when e (ep_dec (ev_op (ev_var rfl) ev_c (rv_inSDk (keys := kk_ARITHMETIC) rfl))) (fun (hb4 : m_wd name ∈ kk_ARITHMETIC) H e e1 => ?_) (fun (hb4 : ¬ m_wd name ∈ kk_ARITHMETIC) H e e1 => ?_)
    · have hq : m_sigp name = ([m_kd name, m_kd name] : List Str) := by unfold m_sigp; rw [if_neg hb2, if_neg hb3, if_pos hb4]
      have hr : m_sigr name = ([m_kd name] : List Str) := by unfold m_sigr; rw [if_neg hb2, if_neg hb3, if_pos hb4]
      rw [hq, hr] at q
      refine r_retT e (eax_U (eu_tup (ea_cons (ev_var rfl) (ea_cons (ev_var rfl) ea_nil)) (by show 2 ≤ 100000; decide)) (eax_U (eu_tup (ea_cons (ev_var rfl) ea_nil) (by show 1 ≤ 100000; decide)) eax_nil)) (fun vs H hp => by obtain ⟨a, _, rfl, ha, b, _, rfl, hb, rfl⟩ := hp; show 2 ≤ 100000; decide) fun vs p H2 H3 hp e2 e3 hn h3 => ?_
      obtain ⟨a, _, rfl, ha, b, _, rfl, hb, rfl⟩ := hp
      exact q p a b _ hn (e2.trans e3) h3 (e3 _ _ ha) (e3 _ _ hb)
    refine r_when e (ep_dec (ev_op (ev_var rfl) ev_c (rv_inSDk (keys := kk_COMPARISONS) rfl))) (fun (hb5 : m_wd name ∈ kk_COMPARISONS) H e e1 => ?_) (fun (hb5 : ¬ m_wd name ∈ kk_COMPARISONS) H e e1 => ?_)
    · have hq : m_sigp name = ([m_kd name, m_kd name] : List Str) := by unfold m_sigp; rw [if_neg hb2, if_neg hb3, if_neg hb4, if_pos hb5]
      have hr : m_sigr name = (["i32"] : List Str) := by unfold m_sigr; rw [if_neg hb2, if_neg hb3, if_neg hb4, if_pos hb5]
      rw [hq, hr] at q
      refine r_retT e (eax_U (eu_tup (ea_cons (ev_var rfl) (ea_cons (ev_var rfl) ea_nil)) (by show 2 ≤ 100000; decide)) (eax_U (eu_tup (ea_cons ev_c ea_nil) (by show 1 ≤ 100000; decide)) eax_nil)) (fun vs H hp => by obtain ⟨a, _, rfl, ha, b, _, rfl, hb, rfl⟩ := hp; show 2 ≤ 100000; decide) fun vs p H2 H3 hp e2 e3 hn h3 => ?_
      obtain ⟨a, _, rfl, ha, b, _, rfl, hb, rfl⟩ := hp
      exact q p a b _ hn (e2.trans e3) h3 (e3 _ _ ha) (e3 _ _ hb)
    refine r_when e (ep_dec (ev_op (ev_var rfl) ev_c rv_eqS)) (fun (hb6 : m_wd name = "eqz") H e e1 => ?_) (fun (hb6 : ¬ m_wd name = "eqz") H e e1 => ?_)
    · have hq : m_sigp name = ([m_kd name] : List Str) := by unfold m_sigp; rw [if_neg hb2, if_neg hb3, if_neg hb4, if_neg hb5]
      have hr : m_sigr name = (["i32"] : List Str) := by unfold m_sigr; rw [if_neg hb2, if_neg hb3, if_neg hb4, if_neg hb5, if_pos hb6]
      rw [hq, hr] at q
      refine r_retT e (eax_U (eu_tup (ea_cons (ev_var rfl) ea_nil) (by show 1 ≤ 100000; decide)) (eax_U (eu_tup (ea_cons ev_c ea_nil) (by show 1 ≤ 100000; decide)) eax_nil)) (fun vs H hp => by obtain ⟨a, _, rfl, ha, b, _, rfl, hb, rfl⟩ := hp; show 2 ≤ 100000; decide) fun vs p H2 H3 hp e2 e3 hn h3 => ?_
      obtain ⟨a, _, rfl, ha, b, _, rfl, hb, rfl⟩ := hp
      exact q p a b _ hn (e2.trans e3) h3 (e3 _ _ ha) (e3 _ _ hb)
    · have hq : m_sigp name = ([m_kd name] : List Str) := by unfold m_sigp; rw [if_neg hb2, if_neg hb3, if_neg hb4, if_neg hb5]
      have hr : m_sigr name = ([m_kd name] : List Str) := by unfold m_sigr; rw [if_neg hb2, if_neg hb3, if_neg hb4, if_neg hb5, if_neg hb6]
      rw [hq, hr] at q
      refine r_retT e (eax_U (eu_tup (ea_cons (ev_var rfl) ea_nil) (by show 1 ≤ 100000; decide)) (eax_U (eu_tup (ea_cons (ev_var rfl) ea_nil) (by show 1 ≤ 100000; decide)) eax_nil)) (fun vs H hp => by obtain ⟨a, _, rfl, ha, b, _, rfl, hb, rfl⟩ := hp; show 2 ≤ 100000; decide) fun vs p H2 H3 hp e2 e3 hn h3 => ?_
      obtain ⟨a, _, rfl, ha, b, _, rfl, hb, rfl⟩ := hp
      exact q p a b _ hn (e2.trans e3) h3 (e3 _ _ ha) (e3 _ _ hb)

/-! check_operands -/

theorem sc_check_operands : FnScope ["params", "operands", "kind", "value"] ["params", "operands"] (defScope s_check_operands) := ⟨rfl, rfl, rfl, by decide +kernel, rfl, by decide +kernel, by decide +kernel⟩
def sp_check_operands (K : PySem.W.Frag) : Sp := fun vs H Q _ => ∃ (params : Addr) (operands : Addr) (ns_params : List Str) (ns_operands : List Int), vs = [.ref params, .ref operands] ∧ (SqT K H params (ns_params.map V.str) ∧ SqT K H operands (ns_operands.map V.int) ∧ (OpsOk ns_params ns_operands)) ∧ ∀ H1, Ex H H1 → Q .non H1
theorem sv_check_operands {K : PySem.W.Frag} {H : Hp} {params : Addr} {operands : Addr} {ns_params : List Str} {ns_operands : List Int} (h : (SqT K H params (ns_params.map V.str) ∧ SqT K H operands (ns_operands.map V.int) ∧ (OpsOk ns_params ns_operands))) : SpV (sp_check_operands K) [.ref params, .ref operands] H .non := fun H1 e Q q _ => ⟨params, operands, ns_params, ns_operands, rfl, ⟨ex_t e h.1, ex_t e h.2.1, h.2.2⟩, q⟩
theorem ok_check_operands {f : Addr} {fd : FuncData} {d_in_range : FuncData} (F : Fun K "check_operands" "check_operands" s_check_operands f fd) (T : Tx w K mg ad) (O_in_range : Df P w K mg base 3 "in_range" (ad 4) d_in_range ["kind", "number"] (sp_in_range K)) : FnOk P w K mg base CX0 4 f fd ["params", "operands"] (sp_check_operands K) := by
  refine F.ok sc_check_operands (fun vs H Q E h => ?_) (fun cdv A outer s G vs Q E hr h => ?_)
  · obtain ⟨params, operands, ns_params, ns_operands, rfl, _⟩ := h
    rfl
  · obtain ⟨params, operands, ns_params, ns_operands, rfl, ⟨hs_params, hs_operands, h⟩, q⟩ := h
    refine ⟨_, (pss_cons (ps_if (pt_cmpR op_ne (pe_callB (r := rLenS K) call_len_seq (by rfl) T.b_len (by decide +kernel) (pa_cons (pv 1) pa_nil)) (pe_callB (r := rLenS K) call_len_seq (by rfl) T.b_len (by decide +kernel) (pa_cons (pv 0) pa_nil)) (nomark _)) pss_never pss_nil) (pss_cons (ps_for PassesOwn.never rfl (pi_zipA (by rfl) T.b_zip (pa_cons (pv 0) (pa_cons (pv 1) pa_nil))) (pg_tup rfl (pgs_cons (pg_name (i := 2) sc_check_operands.nd rfl (Or.inl rfl)) (pgs_cons (pg_name (i := 3) sc_check_operands.nd rfl (Or.inl rfl)) pgs_nil))) (pss_cons (ps_if (pt_not (pt_val (cl O_in_range (hr.mono (by decide)) rfl (pa_cons (pv 2) (pa_cons (pv 3) pa_nil))))) pss_never pss_nil) pss_nil)) pss_nil)), ?_⟩
    have e := Ex.refl G
    -- if len(operands) != len(params)
    refine r_when e (ep_ndec (ev_op (ev_lenTI (ev_var rfl) (by assumption)) (ev_lenTM (ev_var rfl) (by assumption)) rv_neI)) (fun hb1 H e e1 => ?_) (fun hb1 H e e1 => ?_)
    · exact absurd hb1 (fun z => z (by have := h.1; omega))
    -- for (kind, value) in zip(params, operands)   [loop 1]
    refine r_forZTM e (ea_cons (ev_var rfl) (ea_cons (ev_var rfl) ea_nil)) (by have := h.1; omega) hs_params hs_operands (fun i σ => ∃ (o_kind : Option V) (o_value : Option V), σ = [some (.ref params), some (.ref operands), o_kind, o_value]) ⟨_, _, rfl⟩ (fun i x y σ H hi hj hI e => ?_) (fun σ H hI e => ?_)
    · obtain ⟨o_kind, o_value, rfl⟩ := hI
      have hxy := h.2 i x y hi hj
      have hil := (List.getElem?_eq_some_iff.mp hi).1
      -- if not in_range(kind, value)
      refine r_when e (ep_not (ep_val (ev_call (ea_cons (ev_var rfl) (ea_cons (ev_var rfl) ea_nil)) (sv_in_range hxy.1)))) (fun hb2 H e e1 => ?_) (fun hb2 H e e1 => ?_)
      · exact absurd hb2 (fun z => z hxy.2)
      exact ⟨⟨_, _, rfl⟩, e⟩
    obtain ⟨o_kind, o_value, rfl⟩ := hI
    exact r_next (q _ e)

/-! calculate -/
def names7 : List Str := ["i32.div_s", "i32.rem_s", "i32.div_u", "i32.rem_u", "i32.mul", "i32.add", "i32.sub", "i64.div_s", "i64.rem_s", "i64.div_u", "i64.rem_u", "i64.mul", "i64.add", "i64.sub"]

theorem names_in : ∀ n ∈ names7, n ∈ kc_INSTRUCTIONS ∧ n.length ≤ 100 ∧ n ∉ kk_CONVERSIONS ∧ m_wd n ∈ kk_ARITHMETIC ∧ (m_wd n = "div_s" ∨ m_wd n = "rem_s" ∨ m_wd n = "div_u" ∨ m_wd n = "rem_u" ∨ m_wd n = "mul" ∨ m_wd n = "add" ∨ m_wd n = "sub") ∧ (m_kd n = "i32" ∨ m_kd n = "i64") ∧ m_sigp n = [m_kd n, m_kd n] := by decide +kernel
def r_calc (name : Str) (a b : Int) : Except Str Int :=
  if m_wd name = "div_s" then r_div_s (m_kd name) a b else if m_wd name = "rem_s" then r_rem_s (m_kd name) a b else if m_wd name = "div_u" then r_div_u (m_kd name) a b
  else if m_wd name = "rem_u" then r_rem_u (m_kd name) a b else if m_wd name = "mul" then .ok (m_signed (m_kd name) (a * b)) else if m_wd name = "add" then .ok (m_signed (m_kd name) (a + b)) else .ok (m_signed (m_kd name) (a - b))
def S_ar (K : PySem.W.Frag) (ad : Nat → Addr) (f : Addr) (sp : Sp) : Prop := (f, sp) ∈ [(ad 9, sp_div_s K ad), (ad 11, sp_rem_s K ad), (ad 10, sp_div_u K ad), (ad 12, sp_rem_u K ad), (ad 7, sp_mul K ad), (ad 5, sp_add K ad), (ad 6, sp_sub K ad)]
theorem sc_calculate : FnScope ["name", "operands", "kind", "word", "convert", "combine", "compare", "count"] ["name", "operands"] (defScope s_calculate) := ⟨rfl, rfl, rfl, by decide +kernel, rfl, by decide +kernel, by decide +kernel⟩
def sp_calculate (K : PySem.W.Frag) (ad : Nat → Addr) : Sp := fun vs H Q E => ∃ (name : Str) (p : Addr) (a b : Int), vs = [.str name, .ref p] ∧ (SqT K H p ([a, b].map V.int) ∧ name ∈ names7 ∧ OpsOk (m_sigp name) [a, b]) ∧ Outc ad H Q E V.int (trE (r_calc name a b))
theorem sx_calculate {K : PySem.W.Frag} {ad : Nat → Addr} {H : Hp} {name : Str} {p : Addr} {a b : Int} (h : SqT K H p ([a, b].map V.int) ∧ name ∈ names7 ∧ OpsOk (m_sigp name) [a, b]) : ∀ H1, Ex H H1 → ∀ Q E, Outc ad H1 Q E V.int (trE (r_calc name a b)) → sp_calculate K ad [.str name, .ref p] H1 Q E := fun H1 e Q E q => ⟨name, p, a, b, rfl, ⟨ex_t e h.1, h.2⟩, q⟩
theorem ok_calculate {f : Addr} {fd : FuncData} {d_add : FuncData} {d_sub : FuncData} {d_mul : FuncData} {d_div_s : FuncData} {d_div_u : FuncData} {d_rem_s : FuncData} {d_rem_u : FuncData} {d_signature_of : FuncData} {d_check_operands : FuncData} (F : Fun K "calculate" "calculate" s_calculate f fd) (T : Tx w K mg ad) (O_add : DfX P w K mg base 3 "add" (ad 5) d_add ["kind", "a", "b"] (sp_add K ad)) (O_sub : DfX P w K mg base 3 "sub" (ad 6) d_sub ["kind", "a", "b"] (sp_sub K ad)) (O_mul : DfX P w K mg base 3 "mul" (ad 7) d_mul ["kind", "a", "b"] (sp_mul K ad)) (O_div_s : DfX P w K mg base 4 "div_s" (ad 9) d_div_s ["kind", "a", "b"] (sp_div_s K ad)) (O_div_u : DfX P w K mg base 3 "div_u" (ad 10) d_div_u ["kind", "a", "b"] (sp_div_u K ad)) (O_rem_s : DfX P w K mg base 3 "rem_s" (ad 11) d_rem_s ["kind", "a", "b"] (sp_rem_s K ad)) (O_rem_u : DfX P w K mg base 3 "rem_u" (ad 12) d_rem_u ["kind", "a", "b"] (sp_rem_u K ad)) (O_signature_of : Df P w K mg base 1 "signature_of" (ad 40) d_signature_of ["name"] (sp_signature_of K)) (O_check_operands : Df P w K mg base 4 "check_operands" (ad 41) d_check_operands ["params", "operands"] (sp_check_operands K)) : FnOk P w K mg base (L2.CX P w) 5 f fd ["name", "operands"] (sp_calculate K ad) := by
  have A_ar : ∀ f sp, S_ar K ad f sp → HeldX P w K mg base 4 f sp := by
    intro f sp hS
    unfold S_ar at hS
    simp only [List.mem_cons, Prod.mk.injEq, List.not_mem_nil, or_false] at hS
    rcases hS with ⟨rfl, rfl⟩ | ⟨rfl, rfl⟩ | ⟨rfl, rfl⟩ | ⟨rfl, rfl⟩ | ⟨rfl, rfl⟩ | ⟨rfl, rfl⟩ | ⟨rfl, rfl⟩
    · exact O_div_s.heldM (by decide)
    · exact O_rem_s.heldM (by decide)
    · exact O_div_u.heldM (by decide)
    · exact O_rem_u.heldM (by decide)
    · exact O_mul.heldM (by decide)
    · exact O_add.heldM (by decide)
    · exact O_sub.heldM (by decide)
  refine F.okX sc_calculate (fun vs H Q E h => ?_) (fun cdv A outer s G vs Q E hr h => ?_)
  · obtain ⟨_, _, _, _, rfl, _⟩ := h
    rfl
  · obtain ⟨name, operands, a, b, rfl, ⟨hs_operands, h, hok⟩, q⟩ := h
    obtain ⟨a_ARITHMETIC, g_ARITHMETIC, k_ARITHMETIC⟩ := T.g_ARITHMETIC
    obtain ⟨a_CONVERSIONS, g_CONVERSIONS, k_CONVERSIONS⟩ := T.g_CONVERSIONS
    refine ⟨_, (pss_cons (ps_expr (cl O_check_operands (hr.mono (by decide)) rfl (pa_cons (pe_ix (r := rIxT K) ix_tup (cl O_signature_of (hr.mono (by decide)) rfl (pa_cons (pv 0) pa_nil)) pe_int (fun _ _ => rfl)) (pa_cons (pv 1) pa_nil)))) (pss_cons (ps_set (i := 2) sc_calculate.nd rfl (Or.inl rfl) (pe_slice sl_str (pv 0) po_none (po_some pe_int))) (pss_cons (ps_set (i := 3) sc_calculate.nd rfl (Or.inl rfl) (pe_slice sl_str (pv 0) (po_some pe_int) po_none)) (pss_cons (ps_if (pt_cmpR (op_in_sd k_CONVERSIONS) (pv 0) (pe_glob (v := .ref _) rfl g_CONVERSIONS rfl) (by rfl)) pss_never pss_nil) (pss_cons (ps_if (pt_cmpR (op_in_sd k_ARITHMETIC) (pv 3) (pe_glob (v := .ref _) rfl g_ARITHMETIC rfl) (by rfl)) (pss_cons (ps_set (i := 5) sc_calculate.nd rfl (Or.inl rfl) (pe_ix (r := rIxD K w) ix_kdict (pe_glob (v := .ref _) rfl g_ARITHMETIC rfl) (pv 3) (fun _ _ => rfl))) (pss_cons (ps_ret (pe_callRX (i := 5) (k := 4) (S := (S_ar K ad)) A_ar (hr.mono (by decide)) rfl (Or.inl rfl) (passes_call (takes_of rfl rfl rfl rfl) fun _ _ _ _ h => h) (pa_cons (pv 2) (pa_cons (pe_ix (r := rIxT K) ix_tup (pv 1) pe_int (fun _ _ => rfl)) (pa_cons (pe_ix (r := rIxT K) ix_tup (pv 1) pe_int (fun _ _ => rfl)) pa_nil))))) pss_nil)) pss_nil) pss_never))))), ?_⟩
    have e := Ex.refl G
    obtain ⟨hin, f1, f2, f3, hw, hk, hsg⟩ := names_in name h
    have hbk : InK (m_kd name) b := (hok.2 1 (m_kd name) b (by rw [hsg]; rfl) rfl).2
    refine ⟨_, rfl, name, rfl, hin, fun p q1 r1 H1 np e1 hp hq hr => ⟨p, _, 0, .ref q1, rfl, rfl, st_of hp, atI_nat (j := 0) rfl, _, rfl, q1, operands, m_sigp name, [a, b], rfl, ⟨st_of hq, ex_t e1 hs_operands, hok⟩, fun H2 e2 => ?_⟩⟩
    have e := e1.trans e2
    refine r_asg e (ev_slS (ev_var rfl) eo_none (eo_some ev_c) (by omega)) fun H e e1 => ?_
    refine r_asg e (ev_slS (ev_var rfl) (eo_some ev_c) eo_none (by omega)) fun H e e1 => ?_
    refine r_when e (ep_dec (ev_op (ev_var rfl) ev_c (rv_inSDk (keys := kk_CONVERSIONS) rfl))) (fun hb1 H e e1 => ?_) (fun hb1 H e e1 => ?_)
    · exact absurd hb1 f2
    refine r_when e (ep_dec (ev_op (ev_var rfl) ev_c (rv_inSDk (keys := kk_ARITHMETIC) rfl))) (fun (hb2 : m_wd name ∈ kk_ARITHMETIC) H e e1 => ?_) (fun (hb2 : ¬ m_wd name ∈ kk_ARITHMETIC) H e e1 => ?_)
    · rcases hw with hw | hw | hw | hw | hw | hw | hw
      · have hq : trE (r_calc name a b) = m_div_s (m_kd name) a b := by unfold r_calc; rw [if_pos hw]; rfl
        rw [hq] at q
        refine r_asg e (ev_op ev_c (ev_is (ev_var rfl) (congrArg V.str hw)) (rv_kd (k_ARITHMETIC.some rfl))) fun H e e1 => ?_
        cases hr2 : m_div_s (m_kd name) a b with
        | ok z =>
          rw [hr2] at q
          exact r_ret e (ev_callRX rfl (List.Mem.head _) (ea_cons (ev_var rfl) (ea_cons (ev_op (ev_var rfl) ev_c (rv_ixT hs_operands (atI_nat (j := 0) rfl))) (ea_cons (ev_op (ev_var rfl) ev_c (rv_ixT hs_operands (atI_nat (j := 1) rfl))) ea_nil))) (spv_of (val := V.int) (sx_div_s ⟨hk, hbk⟩) hr2)) fun H e => q H e
        | error x =>
          rw [hr2] at q
          refine r_retE e (ee_callRX rfl (List.Mem.head _) (ea_cons (ev_var rfl) (ea_cons (ev_op (ev_var rfl) ev_c (rv_ixT hs_operands (atI_nat (j := 0) rfl))) (ea_cons (ev_op (ev_var rfl) ev_c (rv_ixT hs_operands (atI_nat (j := 1) rfl))) ea_nil))) (spe_of (val := V.int) (sx_div_s ⟨hk, hbk⟩) hr2)) fun cls d H2 e2 hp => ?_
          obtain ⟨rfl, hx⟩ := hp
          exact q d H2 e2 hx
      · have hq : trE (r_calc name a b) = m_rem_s (m_kd name) a b := by unfold r_calc; rw [if_neg (by rw [hw]; decide +kernel), if_pos hw]; rfl
        rw [hq] at q
        refine r_asg e (ev_op ev_c (ev_is (ev_var rfl) (congrArg V.str hw)) (rv_kd (k_ARITHMETIC.some rfl))) fun H e e1 => ?_
        cases hr2 : m_rem_s (m_kd name) a b with
        | ok z =>
          rw [hr2] at q
          exact r_ret e (ev_callRX rfl (List.Mem.tail _ (List.Mem.head _)) (ea_cons (ev_var rfl) (ea_cons (ev_op (ev_var rfl) ev_c (rv_ixT hs_operands (atI_nat (j := 0) rfl))) (ea_cons (ev_op (ev_var rfl) ev_c (rv_ixT hs_operands (atI_nat (j := 1) rfl))) ea_nil))) (spv_of (val := V.int) (sx_rem_s ⟨hk, hbk⟩) hr2)) fun H e => q H e
        | error x =>
          rw [hr2] at q
          refine r_retE e (ee_callRX rfl (List.Mem.tail _ (List.Mem.head _)) (ea_cons (ev_var rfl) (ea_cons (ev_op (ev_var rfl) ev_c (rv_ixT hs_operands (atI_nat (j := 0) rfl))) (ea_cons (ev_op (ev_var rfl) ev_c (rv_ixT hs_operands (atI_nat (j := 1) rfl))) ea_nil))) (spe_of (val := V.int) (sx_rem_s ⟨hk, hbk⟩) hr2)) fun cls d H2 e2 hp => ?_
          obtain ⟨rfl, hx⟩ := hp
          exact q d H2 e2 hx
      · have hq : trE (r_calc name a b) = m_div_u (m_kd name) a b := by unfold r_calc; rw [if_neg (by rw [hw]; decide +kernel), if_neg (by rw [hw]; decide +kernel), if_pos hw]; rfl
        rw [hq] at q
        refine r_asg e (ev_op ev_c (ev_is (ev_var rfl) (congrArg V.str hw)) (rv_kd (k_ARITHMETIC.some rfl))) fun H e e1 => ?_
        cases hr2 : m_div_u (m_kd name) a b with
        | ok z =>
          rw [hr2] at q
          exact r_ret e (ev_callRX rfl (List.Mem.tail _ (List.Mem.tail _ (List.Mem.head _))) (ea_cons (ev_var rfl) (ea_cons (ev_op (ev_var rfl) ev_c (rv_ixT hs_operands (atI_nat (j := 0) rfl))) (ea_cons (ev_op (ev_var rfl) ev_c (rv_ixT hs_operands (atI_nat (j := 1) rfl))) ea_nil))) (spv_of (val := V.int) (sx_div_u ⟨hk, hbk⟩) hr2)) fun H e => q H e
        | error x =>
          rw [hr2] at q
          refine r_retE e (ee_callRX rfl (List.Mem.tail _ (List.Mem.tail _ (List.Mem.head _))) (ea_cons (ev_var rfl) (ea_cons (ev_op (ev_var rfl) ev_c (rv_ixT hs_operands (atI_nat (j := 0) rfl))) (ea_cons (ev_op (ev_var rfl) ev_c (rv_ixT hs_operands (atI_nat (j := 1) rfl))) ea_nil))) (spe_of (val := V.int) (sx_div_u ⟨hk, hbk⟩) hr2)) fun cls d H2 e2 hp => ?_
          obtain ⟨rfl, hx⟩ := hp
          exact q d H2 e2 hx
      · have hq : trE (r_calc name a b) = m_rem_u (m_kd name) a b := by unfold r_calc; rw [if_neg (by rw [hw]; decide +kernel), if_neg (by rw [hw]; decide +kernel), if_neg (by rw [hw]; decide +kernel), if_pos hw]; rfl
        rw [hq] at q
        refine r_asg e (ev_op ev_c (ev_is (ev_var rfl) (congrArg V.str hw)) (rv_kd (k_ARITHMETIC.some rfl))) fun H e e1 => ?_
        cases hr2 : m_rem_u (m_kd name) a b with
        | ok z =>
          rw [hr2] at q
          exact r_ret e (ev_callRX rfl (List.Mem.tail _ (List.Mem.tail _ (List.Mem.tail _ (List.Mem.head _)))) (ea_cons (ev_var rfl) (ea_cons (ev_op (ev_var rfl) ev_c (rv_ixT hs_operands (atI_nat (j := 0) rfl))) (ea_cons (ev_op (ev_var rfl) ev_c (rv_ixT hs_operands (atI_nat (j := 1) rfl))) ea_nil))) (spv_of (val := V.int) (sx_rem_u ⟨hk, hbk⟩) hr2)) fun H e => q H e
        | error x =>
          rw [hr2] at q
          refine r_retE e (ee_callRX rfl (List.Mem.tail _ (List.Mem.tail _ (List.Mem.tail _ (List.Mem.head _)))) (ea_cons (ev_var rfl) (ea_cons (ev_op (ev_var rfl) ev_c (rv_ixT hs_operands (atI_nat (j := 0) rfl))) (ea_cons (ev_op (ev_var rfl) ev_c (rv_ixT hs_operands (atI_nat (j := 1) rfl))) ea_nil))) (spe_of (val := V.int) (sx_rem_u ⟨hk, hbk⟩) hr2)) fun cls d H2 e2 hp => ?_
          obtain ⟨rfl, hx⟩ := hp
          exact q d H2 e2 hx
      · have hq : trE (r_calc name a b) = m_mul (m_kd name) a b := by unfold r_calc; rw [if_neg (by rw [hw]; decide +kernel), if_neg (by rw [hw]; decide +kernel), if_neg (by rw [hw]; decide +kernel), if_neg (by rw [hw]; decide +kernel), if_pos hw]; rfl
        rw [hq] at q
        refine r_asg e (ev_op ev_c (ev_is (ev_var rfl) (congrArg V.str hw)) (rv_kd (k_ARITHMETIC.some rfl))) fun H e e1 => ?_
        cases hr2 : m_mul (m_kd name) a b with
        | ok z =>
          rw [hr2] at q
          exact r_ret e (ev_callRX rfl (List.Mem.tail _ (List.Mem.tail _ (List.Mem.tail _ (List.Mem.tail _ (List.Mem.head _))))) (ea_cons (ev_var rfl) (ea_cons (ev_op (ev_var rfl) ev_c (rv_ixT hs_operands (atI_nat (j := 0) rfl))) (ea_cons (ev_op (ev_var rfl) ev_c (rv_ixT hs_operands (atI_nat (j := 1) rfl))) ea_nil))) (spv_of (val := V.int) (sx_mul ⟨hk, hbk⟩) hr2)) fun H e => q H e
        | error x =>
          rw [hr2] at q
          refine r_retE e (ee_callRX rfl (List.Mem.tail _ (List.Mem.tail _ (List.Mem.tail _ (List.Mem.tail _ (List.Mem.head _))))) (ea_cons (ev_var rfl) (ea_cons (ev_op (ev_var rfl) ev_c (rv_ixT hs_operands (atI_nat (j := 0) rfl))) (ea_cons (ev_op (ev_var rfl) ev_c (rv_ixT hs_operands (atI_nat (j := 1) rfl))) ea_nil))) (spe_of (val := V.int) (sx_mul ⟨hk, hbk⟩) hr2)) fun cls d H2 e2 hp => ?_
          obtain ⟨rfl, hx⟩ := hp
          exact q d H2 e2 hx
      · have hq : trE (r_calc name a b) = m_add (m_kd name) a b := by unfold r_calc; rw [if_neg (by rw [hw]; decide +kernel), if_neg (by rw [hw]; decide +kernel), if_neg (by rw [hw]; decide +kernel), if_neg (by rw [hw]; decide +kernel), if_neg (by rw [hw]; decide +kernel), if_pos hw]; rfl
        rw [hq] at q
        refine r_asg e (ev_op ev_c (ev_is (ev_var rfl) (congrArg V.str hw)) (rv_kd (k_ARITHMETIC.some rfl))) fun H e e1 => ?_
        cases hr2 : m_add (m_kd name) a b with
        | ok z =>
          rw [hr2] at q
          exact r_ret e (ev_callRX rfl (List.Mem.tail _ (List.Mem.tail _ (List.Mem.tail _ (List.Mem.tail _ (List.Mem.tail _ (List.Mem.head _)))))) (ea_cons (ev_var rfl) (ea_cons (ev_op (ev_var rfl) ev_c (rv_ixT hs_operands (atI_nat (j := 0) rfl))) (ea_cons (ev_op (ev_var rfl) ev_c (rv_ixT hs_operands (atI_nat (j := 1) rfl))) ea_nil))) (spv_of (val := V.int) (sx_add ⟨hk, hbk⟩) hr2)) fun H e => q H e
        | error x =>
          rw [hr2] at q
          refine r_retE e (ee_callRX rfl (List.Mem.tail _ (List.Mem.tail _ (List.Mem.tail _ (List.Mem.tail _ (List.Mem.tail _ (List.Mem.head _)))))) (ea_cons (ev_var rfl) (ea_cons (ev_op (ev_var rfl) ev_c (rv_ixT hs_operands (atI_nat (j := 0) rfl))) (ea_cons (ev_op (ev_var rfl) ev_c (rv_ixT hs_operands (atI_nat (j := 1) rfl))) ea_nil))) (spe_of (val := V.int) (sx_add ⟨hk, hbk⟩) hr2)) fun cls d H2 e2 hp => ?_
          obtain ⟨rfl, hx⟩ := hp
          exact q d H2 e2 hx
      · have hq : trE (r_calc name a b) = m_sub (m_kd name) a b := by unfold r_calc; rw [if_neg (by rw [hw]; decide +kernel), if_neg (by rw [hw]; decide +kernel), if_neg (by rw [hw]; decide +kernel), if_neg (by rw [hw]; decide +kernel), if_neg (by rw [hw]; decide +kernel), if_neg (by rw [hw]; decide +kernel)]; rfl
        rw [hq] at q
        refine r_asg e (ev_op ev_c (ev_is (ev_var rfl) (congrArg V.str hw)) (rv_kd (k_ARITHMETIC.some rfl))) fun H e e1 => ?_
        cases hr2 : m_sub (m_kd name) a b with
        | ok z =>
          rw [hr2] at q
          exact r_ret e (ev_callRX rfl (List.Mem.tail _ (List.Mem.tail _ (List.Mem.tail _ (List.Mem.tail _ (List.Mem.tail _ (List.Mem.tail _ (List.Mem.head _))))))) (ea_cons (ev_var rfl) (ea_cons (ev_op (ev_var rfl) ev_c (rv_ixT hs_operands (atI_nat (j := 0) rfl))) (ea_cons (ev_op (ev_var rfl) ev_c (rv_ixT hs_operands (atI_nat (j := 1) rfl))) ea_nil))) (spv_of (val := V.int) (sx_sub ⟨hk, hbk⟩) hr2)) fun H e => q H e
        | error x =>
          rw [hr2] at q
          refine r_retE e (ee_callRX rfl (List.Mem.tail _ (List.Mem.tail _ (List.Mem.tail _ (List.Mem.tail _ (List.Mem.tail _ (List.Mem.tail _ (List.Mem.head _))))))) (ea_cons (ev_var rfl) (ea_cons (ev_op (ev_var rfl) ev_c (rv_ixT hs_operands (atI_nat (j := 0) rfl))) (ea_cons (ev_op (ev_var rfl) ev_c (rv_ixT hs_operands (atI_nat (j := 1) rfl))) ea_nil))) (spe_of (val := V.int) (sx_sub ⟨hk, hbk⟩) hr2)) fun cls d H2 e2 hp => ?_
          obtain ⟨rfl, hx⟩ := hp
          exact q d H2 e2 hx
    exact absurd f3 hb2

/-! _law_is_integer -/
def m_l_is_integer (l_actual : Int) : Bool :=
  (true && (!false))
theorem sc_l_is_integer : FnScope ["_law_actual"] ["_law_actual"] (defScope s_l_is_integer) := ⟨rfl, rfl, rfl, by decide +kernel, rfl, by decide +kernel, by decide +kernel⟩
def sp_l_is_integer (K : PySem.W.Frag) : Sp := fun vs H Q _ => ∃ (l_actual : Int), vs = [.int l_actual] ∧ (True) ∧ ∀ H1, Ex H H1 → Q (.bl (m_l_is_integer l_actual)) H1
theorem sv_l_is_integer {K : PySem.W.Frag} {H : Hp} {l_actual : Int} (h : (True)) : SpV (sp_l_is_integer K) [.int l_actual] H (.bl (m_l_is_integer l_actual)) := fun H1 e Q q _ => ⟨l_actual, rfl, h, q⟩
theorem ok_l_is_integer {f : Addr} {fd : FuncData} (F : Fun K "_law_is_integer" "_law_is_integer" s_l_is_integer f fd) (T : Tx w K mg ad)  : FnOk P w K mg base CX0 1 f fd ["_law_actual"] (sp_l_is_integer K) := by
  refine F.ok sc_l_is_integer (fun vs H Q E h => ?_) (fun cdv A outer s G vs Q E hr h => ?_)
  · obtain ⟨l_actual, rfl, _⟩ := h
    rfl
  · obtain ⟨l_actual, rfl, h, q⟩ := h
    refine ⟨_, (pss_cons (ps_ret (pe_and (pe_callB (r := rIsi K) call_isi (by rfl) T.b_isinstance (by decide +kernel) (pa_cons (pv 0) (pa_cons (pe_bltn (v := .ty "int") (by rfl) T.b_int (by decide +kernel) rfl) pa_nil))) (pe_one (pe_not (pe_callB (r := rIsi K) call_isi (by rfl) T.b_isinstance (by decide +kernel) (pa_cons (pv 0) (pa_cons (pe_bltn (v := .ty "bool") (by rfl) T.b_bool (by decide +kernel) rfl) pa_nil))))))) pss_nil), ?_⟩
    have e := Ex.refl G
    -- return isinstance(_law_actual, int) and (not isinstance(_law_actual, bool))
    refine r_retB e (ev_andV (ev_isi (b := true) (ev_var rfl) ev_c (.ty _) ty_int (kit_ty (by decide +kernel))) (fun hb => (ev_notV (ev_isi (b := false) (ev_var rfl) ev_c (.ty _) ty_int (kit_ty (by decide +kernel)))))) (by show _ = m_l_is_integer _; unfold m_l_is_integer; (first | rfl | (split <;> rfl) | (split <;> simp_all))) q

/-! _law_cell -/
def m_l_cell (ns_l_script : List Int) (l_k : Int) : Int :=
  if (l_k < (ns_l_script.length : Int)) then
    (ns_l_script.getD (l_k : Int).toNat 0)
  else
    0
theorem sc_l_cell : FnScope ["_law_script", "_law_k"] ["_law_script", "_law_k"] (defScope s_l_cell) := ⟨rfl, rfl, rfl, by decide +kernel, rfl, by decide +kernel, by decide +kernel⟩
def sp_l_cell (K : PySem.W.Frag) : Sp := fun vs H Q _ => ∃ (l_script : Addr) (l_k : Int) (ns_l_script : List Int), vs = [.ref l_script, .int l_k] ∧ (SqL K H l_script (ns_l_script.map V.int) ∧ 0 ≤ l_k) ∧ ∀ H1, Ex H H1 → Q (.int (m_l_cell ns_l_script l_k)) H1
theorem sv_l_cell {K : PySem.W.Frag} {H : Hp} {l_script : Addr} {l_k : Int} {ns_l_script : List Int} (h : (SqL K H l_script (ns_l_script.map V.int) ∧ 0 ≤ l_k)) : SpV (sp_l_cell K) [.ref l_script, .int l_k] H (.int (m_l_cell ns_l_script l_k)) := fun H1 e Q q _ => ⟨l_script, l_k, ns_l_script, rfl, ⟨ex_l e h.1, h.2⟩, q⟩
theorem ok_l_cell {f : Addr} {fd : FuncData} (F : Fun K "_law_cell" "_law_cell" s_l_cell f fd) (T : Tx w K mg ad)  : FnOk P w K mg base CX0 1 f fd ["_law_script", "_law_k"] (sp_l_cell K) := by
  refine F.ok sc_l_cell (fun vs H Q E h => ?_) (fun cdv A outer s G vs Q E hr h => ?_)
  · obtain ⟨l_script, l_k, ns_l_script, rfl, _⟩ := h
    rfl
  · obtain ⟨l_script, l_k, ns_l_script, rfl, ⟨hs_l_script, h⟩, q⟩ := h
    refine ⟨_, (pss_cons (ps_if (pt_cmpR op_lt (pv 1) (pe_callB (r := rLenS K) call_len_seq (by rfl) T.b_len (by decide +kernel) (pa_cons (pv 0) pa_nil)) (nomark _)) (pss_cons (ps_ret (pe_callTy call_int1 (by rfl) T.b_int (by decide +kernel) (pa_cons (pe_ix (r := rIxL K) ix_list (pv 0) (pv 1) (fun _ _ => rfl)) pa_nil))) pss_nil) pss_nil) (pss_cons (ps_ret pe_int) pss_nil)), ?_⟩
    have e := Ex.refl G
    -- if _law_k < len(_law_script)
    refine r_when e (ep_dec (ev_op (ev_var rfl) (ev_lenI (ev_var rfl) (by assumption)) rv_I0)) (fun hb1 H e e1 => ?_) (fun hb1 H e e1 => ?_)
    · -- return int(_law_script[_law_k])
      refine r_retI e (ev_int (ev_op (ev_var rfl) (ev_var rfl) (rv_ixI (by assumption) (by walk_at "sd") (by walk_at "sd")))) (by show _ = m_l_cell _ _; unfold m_l_cell; rw [if_pos hb1] <;> (first | rfl | (split <;> rfl) | (split <;> simp_all))) q
    -- return 0
    refine r_retI e ev_c (by show _ = m_l_cell _ _; unfold m_l_cell; rw [if_neg hb1] <;> (first | rfl | (split <;> rfl) | (split <;> simp_all))) q

/-! _law_signed -/
def m_l_signed (l_number : Int) (l_bits : Int) : Int :=
  (if ((1 * 2 ^ ((l_bits - 1) : Int).toNat) ≤ (l_number % (1 * 2 ^ (l_bits : Int).toNat))) then ((l_number % (1 * 2 ^ (l_bits : Int).toNat)) - (1 * 2 ^ (l_bits : Int).toNat)) else (l_number % (1 * 2 ^ (l_bits : Int).toNat)))
theorem sc_l_signed : FnScope ["_law_number", "_law_bits", "_law_low"] ["_law_number", "_law_bits"] (defScope s_l_signed) := ⟨rfl, rfl, rfl, by decide +kernel, rfl, by decide +kernel, by decide +kernel⟩
def sp_l_signed (K : PySem.W.Frag) : Sp := fun vs H Q _ => ∃ (l_number : Int) (l_bits : Int), vs = [.int l_number, .int l_bits] ∧ ((1 ≤ l_bits ∧ l_bits ≤ 64)) ∧ ∀ H1, Ex H H1 → Q (.int (m_l_signed l_number l_bits)) H1
theorem sv_l_signed {K : PySem.W.Frag} {H : Hp} {l_number : Int} {l_bits : Int} (h : ((1 ≤ l_bits ∧ l_bits ≤ 64))) : SpV (sp_l_signed K) [.int l_number, .int l_bits] H (.int (m_l_signed l_number l_bits)) := fun H1 e Q q _ => ⟨l_number, l_bits, rfl, h, q⟩
theorem ok_l_signed {f : Addr} {fd : FuncData} (F : Fun K "_law_signed" "_law_signed" s_l_signed f fd) (T : Tx w K mg ad)  : FnOk P w K mg base CX0 1 f fd ["_law_number", "_law_bits"] (sp_l_signed K) := by
  refine F.ok sc_l_signed (fun vs H Q E h => ?_) (fun cdv A outer s G vs Q E hr h => ?_)
  · obtain ⟨l_number, l_bits, rfl, _⟩ := h
    rfl
  · obtain ⟨l_number, l_bits, rfl, h, q⟩ := h
    refine ⟨_, (pss_cons (ps_set (i := 2) sc_l_signed.nd rfl (Or.inl rfl) (pe_op op_mod (pe_callTy call_int1 (by rfl) T.b_int (by decide +kernel) (pa_cons (pv 0) pa_nil)) (pe_op op_shl pe_int (pv 1)))) (pss_cut (ps_if (pt_cmpR op_ge (pv 2) (pe_op op_shl pe_int (pe_op op_sub (pv 1) pe_int)) (nomark _)) (pss_cons (ps_set (i := 2) sc_l_signed.nd rfl (Or.inl rfl) (pe_op op_sub (pv 2) (pe_op op_shl pe_int (pv 1)))) pss_nil) pss_nil) (pss_cons (ps_ret (pv 2)) pss_nil))), ?_⟩
    have e := Ex.refl G
    have hp : (0 : Int) < 1 * 2 ^ l_bits.toNat := by rw [Int.one_mul]; exact Int.pow_pos (by decide)
    -- _law_low = int(_law_number) % (1 << _law_bits)
    refine r_asg e (ev_op (ev_int (ev_var rfl)) (ev_op ev_c (ev_var rfl) (rv_I (by walk_at "sd"))) (rv_I (by walk_at "sd"))) fun H e e1 => ?_
    -- if _law_low >= 1 << _law_bits - 1
    refine r_ifJ e (ep_dec (ev_op (ev_var rfl) (ev_op ev_c (ev_op (ev_var rfl) ev_c rv_I0) (rv_I (by walk_at "sd"))) rv_I0)) (fun σ H => σ = [some (.int l_number), some (.int l_bits), some (.int (if ((1 * 2 ^ ((l_bits - 1) : Int).toNat) ≤ (l_number % (1 * 2 ^ (l_bits : Int).toNat))) then ((l_number % (1 * 2 ^ (l_bits : Int).toNat)) - (1 * 2 ^ (l_bits : Int).toNat)) else (l_number % (1 * 2 ^ (l_bits : Int).toNat))))] ∧ Ex G H) (fun hb1 H e e1 => ?_) (fun hb1 H e e1 => ?_) ?_
    · -- _law_low = _law_low - (1 << _law_bits)
      refine r_asg e (ev_op (ev_var rfl) (ev_op ev_c (ev_var rfl) (rv_I (by walk_at "sd"))) rv_I0) fun H e e1 => ?_
      exact r_next ⟨(by first | (rw [if_pos hb1]; done) | (rw [if_pos hb1]; rfl) | (simp only [if_pos hb1]; done) | (simp only [if_pos hb1]; rfl)), e⟩
    · exact r_next ⟨(by first | (rw [if_neg hb1]; done) | (rw [if_neg hb1]; rfl) | (simp only [if_neg hb1]; done) | (simp only [if_neg hb1]; rfl)), e⟩
    rintro σ H ⟨rfl, e⟩
    -- return _law_low
    refine r_retI e (ev_var rfl) (by show _ = m_l_signed _ _; unfold m_l_signed; (first | rfl | (split <;> rfl) | (split <;> simp_all))) q

/-! _law_value -/
def m_l_value (l_cell_here : Int) (l_bits : Int) : Int :=
  (m_l_signed (if ((l_cell_here % 4) = 2) then (((1 * 2 ^ ((l_bits - 1) : Int).toNat) - 2) + ((if ((l_cell_here % 4) = 1) then ((((if ((l_cell_here % 4) = 0) then (([0, 1, (-1), 2, (-2), 31, 32, 33, 63, 64, 127, (-128), 255, 32767, (-32768), 65535] : List Int).getD (((l_cell_here / 4) % 16) : Int).toNat 0) else (l_cell_here / 4)) * 982451653) * 15485867) + 32452843) else (if ((l_cell_here % 4) = 0) then (([0, 1, (-1), 2, (-2), 31, 32, 33, 63, 64, 127, (-128), 255, 32767, (-32768), 65535] : List Int).getD (((l_cell_here / 4) % 16) : Int).toNat 0) else (l_cell_here / 4))) % 5)) else (if ((l_cell_here % 4) = 1) then ((((if ((l_cell_here % 4) = 0) then (([0, 1, (-1), 2, (-2), 31, 32, 33, 63, 64, 127, (-128), 255, 32767, (-32768), 65535] : List Int).getD (((l_cell_here / 4) % 16) : Int).toNat 0) else (l_cell_here / 4)) * 982451653) * 15485867) + 32452843) else (if ((l_cell_here % 4) = 0) then (([0, 1, (-1), 2, (-2), 31, 32, 33, 63, 64, 127, (-128), 255, 32767, (-32768), 65535] : List Int).getD (((l_cell_here / 4) % 16) : Int).toNat 0) else (l_cell_here / 4)))) l_bits)
theorem sc_l_value : FnScope ["_law_cell_here", "_law_bits", "_law_edges", "_law_number"] ["_law_cell_here", "_law_bits"] (defScope s_l_value) := ⟨rfl, rfl, rfl, by decide +kernel, rfl, by decide +kernel, by decide +kernel⟩
def sp_l_value (K : PySem.W.Frag) : Sp := fun vs H Q _ => ∃ (l_cell_here : Int) (l_bits : Int), vs = [.int l_cell_here, .int l_bits] ∧ ((1 ≤ l_bits ∧ l_bits ≤ 64)) ∧ ∀ H1, Ex H H1 → Q (.int (m_l_value l_cell_here l_bits)) H1
theorem sv_l_value {K : PySem.W.Frag} {H : Hp} {l_cell_here : Int} {l_bits : Int} (h : ((1 ≤ l_bits ∧ l_bits ≤ 64))) : SpV (sp_l_value K) [.int l_cell_here, .int l_bits] H (.int (m_l_value l_cell_here l_bits)) := fun H1 e Q q _ => ⟨l_cell_here, l_bits, rfl, h, q⟩
theorem ok_l_value {f : Addr} {fd : FuncData} {d_l_signed : FuncData} (F : Fun K "_law_value" "_law_value" s_l_value f fd) (T : Tx w K mg ad) (O_l_signed : Df P w K mg base 1 "_law_signed" (ad 45) d_l_signed ["_law_number", "_law_bits"] (sp_l_signed K)) : FnOk P w K mg base CX0 2 f fd ["_law_cell_here", "_law_bits"] (sp_l_value K) := by
  refine F.ok sc_l_value (fun vs H Q E h => ?_) (fun cdv A outer s G vs Q E hr h => ?_)
  · obtain ⟨l_cell_here, l_bits, rfl, _⟩ := h
    rfl
  · obtain ⟨l_cell_here, l_bits, rfl, h, q⟩ := h
    refine ⟨_, (pss_cons (ps_set (i := 2) sc_l_value.nd rfl (Or.inl rfl) (pe_lst (pa_cons pe_int (pa_cons pe_int (pa_cons (pe_un un_neg pe_int) (pa_cons pe_int (pa_cons (pe_un un_neg pe_int) (pa_cons pe_int (pa_cons pe_int (pa_cons pe_int (pa_cons pe_int (pa_cons pe_int (pa_cons pe_int (pa_cons (pe_un un_neg pe_int) (pa_cons pe_int (pa_cons pe_int (pa_cons (pe_un un_neg pe_int) (pa_cons pe_int pa_nil)))))))))))))))))) (pss_cons (ps_set (i := 3) sc_l_value.nd rfl (Or.inl rfl) (pe_op op_fdiv (pv 0) pe_int)) (pss_cut (ps_if (pt_cmpR op_eq (pe_op op_mod (pe_callTy call_int1 (by rfl) T.b_int (by decide +kernel) (pa_cons (pv 0) pa_nil)) pe_int) pe_int (nomark _)) (pss_cons (ps_set (i := 3) sc_l_value.nd rfl (Or.inl rfl) (pe_ix (r := rIxL K) ix_list (pv 2) (pe_op op_mod (pe_callTy call_int1 (by rfl) T.b_int (by decide +kernel) (pa_cons (pv 3) pa_nil)) pe_int) (fun _ _ => rfl))) pss_nil) pss_nil) (pss_cut (ps_if (pt_cmpR op_eq (pe_op op_mod (pe_callTy call_int1 (by rfl) T.b_int (by decide +kernel) (pa_cons (pv 0) pa_nil)) pe_int) pe_int (nomark _)) (pss_cons (ps_set (i := 3) sc_l_value.nd rfl (Or.inl rfl) (pe_op op_add (pe_op op_mul (pe_op op_mul (pv 3) pe_int) pe_int) pe_int)) pss_nil) pss_nil) (pss_cut (ps_if (pt_cmpR op_eq (pe_op op_mod (pe_callTy call_int1 (by rfl) T.b_int (by decide +kernel) (pa_cons (pv 0) pa_nil)) pe_int) pe_int (nomark _)) (pss_cons (ps_set (i := 3) sc_l_value.nd rfl (Or.inl rfl) (pe_op op_add (pe_op op_sub (pe_op op_shl pe_int (pe_op op_sub (pv 1) pe_int)) pe_int) (pe_op op_mod (pe_callTy call_int1 (by rfl) T.b_int (by decide +kernel) (pa_cons (pv 3) pa_nil)) pe_int))) pss_nil) pss_nil) (pss_cons (ps_ret (cl O_l_signed (hr.mono (by decide)) rfl (pa_cons (pv 3) (pa_cons (pv 1) pa_nil)))) pss_nil)))))), ?_⟩
    have e := Ex.refl G
    -- _law_edges = [0, 1, -1, 2, -2, 31, 32, 33, 63, 64, 127, -128, 255, 32767, -32768, 65535]
    refine r_asgL e (el_lst (ea_cons ev_c (ea_cons ev_c (ea_cons (ev_un ev_c ru_neg) (ea_cons ev_c (ea_cons (ev_un ev_c ru_neg) (ea_cons ev_c (ea_cons ev_c (ea_cons ev_c (ea_cons ev_c (ea_cons ev_c (ea_cons ev_c (ea_cons (ev_un ev_c ru_neg) (ea_cons ev_c (ea_cons ev_c (ea_cons (ev_un ev_c ru_neg) (ea_cons ev_c ea_nil)))))))))))))))) (by walk_at "sd")) fun p_l_edges G2 hp e2 e1 hl_l_edges => ?_
    have q := q_mv e2 q
    have e := Ex.refl G2
    have hs_l_edges := sq_of (K := K) hl_l_edges
    have hs_l_edges : SqL K G2 p_l_edges (([0, 1, (-1), 2, (-2), 31, 32, 33, 63, 64, 127, (-128), 255, 32767, (-32768), 65535] : List Int).map V.int) := hs_l_edges
    -- _law_number = _law_cell_here // 4
    refine r_asg e (ev_op (ev_var rfl) ev_c (rv_I (by walk_at "sd"))) fun H e e1 => ?_
    -- if int(_law_cell_here) % 4 == 0
    refine r_ifJ e (ep_dec (ev_op (ev_op (ev_int (ev_var rfl)) ev_c (rv_I (by walk_at "sd"))) ev_c rv_eqI)) (fun σ H => σ = [some (.int l_cell_here), some (.int l_bits), some (.ref p_l_edges), some (.int (if ((l_cell_here % 4) = 0) then (([0, 1, (-1), 2, (-2), 31, 32, 33, 63, 64, 127, (-128), 255, 32767, (-32768), 65535] : List Int).getD (((l_cell_here / 4) % 16) : Int).toNat 0) else (l_cell_here / 4)))] ∧ Ex G2 H) (fun hb1 H e e1 => ?_) (fun hb1 H e e1 => ?_) ?_
    · -- _law_number = _law_edges[int(_law_number) % 16]
      refine r_asg e (ev_op (ev_var rfl) (ev_op (ev_int (ev_var rfl)) ev_c (rv_I (by walk_at "sd"))) (rv_ixI (by assumption) (by walk_at "sd") (by walk_at "sd"))) fun H e e1 => ?_
      exact r_next ⟨(by first | (rw [if_pos hb1]; done) | (rw [if_pos hb1]; rfl) | (simp only [if_pos hb1]; done) | (simp only [if_pos hb1]; rfl)), e⟩
    · exact r_next ⟨(by first | (rw [if_neg hb1]; done) | (rw [if_neg hb1]; rfl) | (simp only [if_neg hb1]; done) | (simp only [if_neg hb1]; rfl)), e⟩
    rintro σ H ⟨rfl, e⟩
    -- if int(_law_cell_here) % 4 == 1
    refine r_ifJ e (ep_dec (ev_op (ev_op (ev_int (ev_var rfl)) ev_c (rv_I (by walk_at "sd"))) ev_c rv_eqI)) (fun σ H => σ = [some (.int l_cell_here), some (.int l_bits), some (.ref p_l_edges), some (.int (if ((l_cell_here % 4) = 1) then ((((if ((l_cell_here % 4) = 0) then (([0, 1, (-1), 2, (-2), 31, 32, 33, 63, 64, 127, (-128), 255, 32767, (-32768), 65535] : List Int).getD (((l_cell_here / 4) % 16) : Int).toNat 0) else (l_cell_here / 4)) * 982451653) * 15485867) + 32452843) else (if ((l_cell_here % 4) = 0) then (([0, 1, (-1), 2, (-2), 31, 32, 33, 63, 64, 127, (-128), 255, 32767, (-32768), 65535] : List Int).getD (((l_cell_here / 4) % 16) : Int).toNat 0) else (l_cell_here / 4))))] ∧ Ex G2 H) (fun hb2 H e e1 => ?_) (fun hb2 H e e1 => ?_) ?_
    · -- _law_number = _law_number * 982451653 * 15485867 + 32452843
      refine r_asg e (ev_op (ev_op (ev_op (ev_var rfl) ev_c (rv_I (by walk_at "sd"))) ev_c (rv_I (by walk_at "sd"))) ev_c rv_I0) fun H e e1 => ?_
      exact r_next ⟨(by first | (rw [if_pos hb2]; done) | (rw [if_pos hb2]; rfl) | (simp only [if_pos hb2]; done) | (simp only [if_pos hb2]; rfl)), e⟩
    · exact r_next ⟨(by first | (rw [if_neg hb2]; done) | (rw [if_neg hb2]; rfl) | (simp only [if_neg hb2]; done) | (simp only [if_neg hb2]; rfl)), e⟩
    rintro σ H ⟨rfl, e⟩
    -- if int(_law_cell_here) % 4 == 2
    refine r_ifJ e (ep_dec (ev_op (ev_op (ev_int (ev_var rfl)) ev_c (rv_I (by walk_at "sd"))) ev_c rv_eqI)) (fun σ H => σ = [some (.int l_cell_here), some (.int l_bits), some (.ref p_l_edges), some (.int (if ((l_cell_here % 4) = 2) then (((1 * 2 ^ ((l_bits - 1) : Int).toNat) - 2) + ((if ((l_cell_here % 4) = 1) then ((((if ((l_cell_here % 4) = 0) then (([0, 1, (-1), 2, (-2), 31, 32, 33, 63, 64, 127, (-128), 255, 32767, (-32768), 65535] : List Int).getD (((l_cell_here / 4) % 16) : Int).toNat 0) else (l_cell_here / 4)) * 982451653) * 15485867) + 32452843) else (if ((l_cell_here % 4) = 0) then (([0, 1, (-1), 2, (-2), 31, 32, 33, 63, 64, 127, (-128), 255, 32767, (-32768), 65535] : List Int).getD (((l_cell_here / 4) % 16) : Int).toNat 0) else (l_cell_here / 4))) % 5)) else (if ((l_cell_here % 4) = 1) then ((((if ((l_cell_here % 4) = 0) then (([0, 1, (-1), 2, (-2), 31, 32, 33, 63, 64, 127, (-128), 255, 32767, (-32768), 65535] : List Int).getD (((l_cell_here / 4) % 16) : Int).toNat 0) else (l_cell_here / 4)) * 982451653) * 15485867) + 32452843) else (if ((l_cell_here % 4) = 0) then (([0, 1, (-1), 2, (-2), 31, 32, 33, 63, 64, 127, (-128), 255, 32767, (-32768), 65535] : List Int).getD (((l_cell_here / 4) % 16) : Int).toNat 0) else (l_cell_here / 4)))))] ∧ Ex G2 H) (fun hb3 H e e1 => ?_) (fun hb3 H e e1 => ?_) ?_
    · -- _law_number = (1 << _law_bits - 1) - 2 + int(_law_number) % 5
      refine r_asg e (ev_op (ev_op (ev_op ev_c (ev_op (ev_var rfl) ev_c rv_I0) (rv_I (by walk_at "sd"))) ev_c rv_I0) (ev_op (ev_int (ev_var rfl)) ev_c (rv_I (by walk_at "sd"))) rv_I0) fun H e e1 => ?_
      exact r_next ⟨(by first | (rw [if_pos hb3]; done) | (rw [if_pos hb3]; rfl) | (simp only [if_pos hb3]; done) | (simp only [if_pos hb3]; rfl)), e⟩
    · exact r_next ⟨(by first | (rw [if_neg hb3]; done) | (rw [if_neg hb3]; rfl) | (simp only [if_neg hb3]; done) | (simp only [if_neg hb3]; rfl)), e⟩
    rintro σ H ⟨rfl, e⟩
    -- return _law_signed(_law_number, _law_bits)
    refine r_retI e (ev_call (ea_cons (ev_var rfl) (ea_cons (ev_var rfl) ea_nil)) (sv_l_signed (by walk_at "sd"))) (by show _ = m_l_value _ _; unfold m_l_value; (first | rfl | (split <;> rfl) | (split <;> simp_all))) q

/-! _law_quotient -/
def m_l_quotient (l_a : Int) (l_b : Int) : Int :=
  if (((0 ≤ l_a) ∧ (0 < l_b)) ∨ ((l_a ≤ 0) ∧ (l_b < 0))) then
    ((if (-l_a) > l_a then (-l_a) else l_a) / (if (-l_b) > l_b then (-l_b) else l_b))
  else
    (-((if (-l_a) > l_a then (-l_a) else l_a) / (if (-l_b) > l_b then (-l_b) else l_b)))
theorem sc_l_quotient : FnScope ["_law_a", "_law_b", "_law_size"] ["_law_a", "_law_b"] (defScope s_l_quotient) := ⟨rfl, rfl, rfl, by decide +kernel, rfl, by decide +kernel, by decide +kernel⟩
def sp_l_quotient (K : PySem.W.Frag) : Sp := fun vs H Q _ => ∃ (l_a : Int) (l_b : Int), vs = [.int l_a, .int l_b] ∧ ((¬ l_b = 0 ∧ (-2 ^ 64 < l_b ∧ l_b < 2 ^ 64))) ∧ ∀ H1, Ex H H1 → Q (.int (m_l_quotient l_a l_b)) H1
theorem sv_l_quotient {K : PySem.W.Frag} {H : Hp} {l_a : Int} {l_b : Int} (h : ((¬ l_b = 0 ∧ (-2 ^ 64 < l_b ∧ l_b < 2 ^ 64)))) : SpV (sp_l_quotient K) [.int l_a, .int l_b] H (.int (m_l_quotient l_a l_b)) := fun H1 e Q q _ => ⟨l_a, l_b, rfl, h, q⟩
theorem ok_l_quotient {f : Addr} {fd : FuncData} (F : Fun K "_law_quotient" "_law_quotient" s_l_quotient f fd) (T : Tx w K mg ad)  : FnOk P w K mg base CX0 1 f fd ["_law_a", "_law_b"] (sp_l_quotient K) := by
  refine F.ok sc_l_quotient (fun vs H Q E h => ?_) (fun cdv A outer s G vs Q E hr h => ?_)
  · obtain ⟨l_a, l_b, rfl, _⟩ := h
    rfl
  · obtain ⟨l_a, l_b, rfl, h, q⟩ := h
    refine ⟨_, (pss_cons (ps_set (i := 2) sc_l_quotient.nd rfl (Or.inl rfl) (pe_op op_fdivW (pe_callB (call_max2 rfl) (by rfl) T.b_max (by decide +kernel) (pa_cons (pv 0) (pa_cons (pe_un un_neg (pv 0)) pa_nil))) (pe_callB (call_max2 rfl) (by rfl) T.b_max (by decide +kernel) (pa_cons (pv 1) (pa_cons (pe_un un_neg (pv 1)) pa_nil))))) (pss_cons (ps_if (PW.pt (pw_or (PW.pt (pw_and (pt_cmpR op_ge (pv 0) pe_int (nomark _)) (pw_and1 (pt_cmpR op_gt (pv 1) pe_int (nomark _))))) (pw_or1 (PW.pt (pw_and (pt_cmpR op_le (pv 0) pe_int (nomark _)) (pw_and1 (pt_cmpR op_lt (pv 1) pe_int (nomark _)))))))) (pss_cons (ps_ret (pv 2)) pss_nil) pss_nil) (pss_cons (ps_ret (pe_un un_neg (pv 2))) pss_nil))), ?_⟩
    have e := Ex.refl G
    -- _law_size = max(_law_a, -_law_a) // max(_law_b, -_law_b)
    refine r_asg e (ev_op (ev_max2 (ev_var rfl) (ev_un (ev_var rfl) ru_neg)) (ev_max2 (ev_var rfl) (ev_un (ev_var rfl) ru_neg)) (rv_I (w_div (by split <;> omega) (by split <;> omega)))) fun H e e1 => ?_
    -- if _law_a >= 0 and _law_b > 0 or (_law_a <= 0 and _law_b < 0)
    refine r_when e (ep_or (ep_and (ep_dec (ev_op (ev_var rfl) ev_c rv_I0)) (fun hb => (ep_dec (ev_op (ev_var rfl) ev_c rv_I0)))) (fun hb => (ep_and (ep_dec (ev_op (ev_var rfl) ev_c rv_I0)) (fun hb => (ep_dec (ev_op (ev_var rfl) ev_c rv_I0)))))) (fun hb1 H e e1 => ?_) (fun hb1 H e e1 => ?_)
    · -- return _law_size
      refine r_retI e (ev_var rfl) (by show _ = m_l_quotient _ _; unfold m_l_quotient; rw [if_pos hb1] <;> (first | rfl | (split <;> rfl) | (split <;> simp_all))) q
    -- return -_law_size
    refine r_retI e (ev_un (ev_var rfl) ru_neg) (by show _ = m_l_quotient _ _; unfold m_l_quotient; rw [if_neg hb1] <;> (first | rfl | (split <;> rfl) | (split <;> simp_all))) q

/-! _law_due -/
theorem pow_le64 {b : Int} (h1 : 1 ≤ b) (h2 : b ≤ 64) : (2 : Int) ^ b.toNat ≤ 2 ^ 64 := by
  have h3 : (2 : Nat) ^ b.toNat ≤ 2 ^ 64 := Nat.pow_le_pow_right (by decide) (by omega)
  have h4 : ((2 ^ b.toNat : Nat) : Int) ≤ ((2 ^ 64 : Nat) : Int) := Int.ofNat_le.mpr h3
  rw [PySem.W.kbt_cast, PySem.W.kbt_cast] at h4
  exact h4

def r_due (w : Str) (bits a b : Int) : Except Str Int :=
  if w = "add" then .ok (m_l_signed (a + b) bits) else if w = "sub" then .ok (m_l_signed (a - b) bits) else if w = "mul" then .ok (m_l_signed (a * b) bits)
  else if b = 0 then .error ZD else if w = "div_u" then .ok (m_l_signed (a % (1 * 2 ^ bits.toNat) / (b % (1 * 2 ^ bits.toNat))) bits)
  else if w = "rem_u" then .ok (m_l_signed (a % (1 * 2 ^ bits.toNat) % (b % (1 * 2 ^ bits.toNat))) bits)
  else if w = "rem_s" then .ok (a - b * m_l_quotient a b) else if m_l_quotient a b = 1 * 2 ^ (bits - 1).toNat then .error OV else .ok (m_l_quotient a b)

def resT : Except Str Int → List V
  | .ok z => [.str "value", .int z]
  | .error r => [.str "trap", .str r]
def m_l_due (w : Str) (bits a b : Int) : List V := resT (r_due w bits a b)
theorem sc_l_due : FnScope ["_law_word", "_law_bits", "_law_a", "_law_b", "_law_low", "_law_other"] ["_law_word", "_law_bits", "_law_a", "_law_b"] (defScope s_l_due) := ⟨rfl, rfl, rfl, by decide +kernel, rfl, by decide +kernel, by decide +kernel⟩
def sp_l_due (K : PySem.W.Frag) : Sp := fun vs H Q _ => ∃ (l_word : Str) (l_bits : Int) (l_a : Int) (l_b : Int), vs = [.str l_word, .int l_bits, .int l_a, .int l_b] ∧ ((1 ≤ l_bits ∧ l_bits ≤ 64 ∧ (¬ l_b = 0 → 0 < l_b % (1 * 2 ^ l_bits.toNat)) ∧ (-2 ^ 64 < l_b ∧ l_b < 2 ^ 64))) ∧ ∀ p H1, H p = none → Ex H H1 → H1 p = some (.tup (m_l_due l_word l_bits l_a l_b)) → Q (.ref p) H1
theorem sv_l_due {K : PySem.W.Frag} {H : Hp} {l_word : Str} {l_bits : Int} {l_a : Int} {l_b : Int} (h : ((1 ≤ l_bits ∧ l_bits ≤ 64 ∧ (¬ l_b = 0 → 0 < l_b % (1 * 2 ^ l_bits.toNat)) ∧ (-2 ^ 64 < l_b ∧ l_b < 2 ^ 64)))) : SpU (sp_l_due K) [.str l_word, .int l_bits, .int l_a, .int l_b] H (m_l_due l_word l_bits l_a l_b) := fun H1 e Q q _ => ⟨l_word, l_bits, l_a, l_b, rfl, h, q⟩
theorem ok_l_due {f : Addr} {fd : FuncData} {d_l_signed : FuncData} {d_l_quotient : FuncData} (F : Fun K "_law_due" "_law_due" s_l_due f fd) (T : Tx w K mg ad) (O_l_signed : Df P w K mg base 1 "_law_signed" (ad 45) d_l_signed ["_law_number", "_law_bits"] (sp_l_signed K)) (O_l_quotient : Df P w K mg base 1 "_law_quotient" (ad 47) d_l_quotient ["_law_a", "_law_b"] (sp_l_quotient K)) : FnOk P w K mg base CX0 2 f fd ["_law_word", "_law_bits", "_law_a", "_law_b"] (sp_l_due K) := by
  refine F.ok sc_l_due (fun vs H Q E h => ?_) (fun cdv A outer s G vs Q E hr h => ?_)
  · obtain ⟨l_word, l_bits, l_a, l_b, rfl, _⟩ := h
    rfl
  · obtain ⟨l_word, l_bits, l_a, l_b, rfl, h, q⟩ := h
    refine ⟨_, (pss_cons (ps_if (pt_cmpR op_eq (pv 0) pe_str (nomark _)) (pss_cons (ps_ret (pe_tup (pa_cons pe_str (pa_cons (cl O_l_signed (hr.mono (by decide)) rfl (pa_cons (pe_op op_add (pv 2) (pv 3)) (pa_cons (pv 1) pa_nil))) pa_nil)))) pss_nil) pss_nil) (pss_cons (ps_if (pt_cmpR op_eq (pv 0) pe_str (nomark _)) (pss_cons (ps_ret (pe_tup (pa_cons pe_str (pa_cons (cl O_l_signed (hr.mono (by decide)) rfl (pa_cons (pe_op op_sub (pv 2) (pv 3)) (pa_cons (pv 1) pa_nil))) pa_nil)))) pss_nil) pss_nil) (pss_cons (ps_if (pt_cmpR op_eq (pv 0) pe_str (nomark _)) (pss_cons (ps_ret (pe_tup (pa_cons pe_str (pa_cons (cl O_l_signed (hr.mono (by decide)) rfl (pa_cons (pe_op op_mul (pv 2) (pv 3)) (pa_cons (pv 1) pa_nil))) pa_nil)))) pss_nil) pss_nil) (pss_cons (ps_if (pt_cmpR op_eq (pv 3) pe_int (nomark _)) (pss_cons (ps_ret (pe_tup (pa_cons pe_str (pa_cons pe_str pa_nil)))) pss_nil) pss_nil) (pss_cons (ps_set (i := 4) sc_l_due.nd rfl (Or.inl rfl) (pe_op op_mod (pe_callTy call_int1 (by rfl) T.b_int (by decide +kernel) (pa_cons (pv 2) pa_nil)) (pe_op op_shl pe_int (pv 1)))) (pss_cons (ps_set (i := 5) sc_l_due.nd rfl (Or.inl rfl) (pe_op op_mod (pe_callTy call_int1 (by rfl) T.b_int (by decide +kernel) (pa_cons (pv 3) pa_nil)) (pe_op op_shl pe_int (pv 1)))) (pss_cons (ps_if (pt_cmpR op_eq (pv 0) pe_str (nomark _)) (pss_cons (ps_ret (pe_tup (pa_cons pe_str (pa_cons (cl O_l_signed (hr.mono (by decide)) rfl (pa_cons (pe_op op_fdivW (pv 4) (pv 5)) (pa_cons (pv 1) pa_nil))) pa_nil)))) pss_nil) pss_nil) (pss_cons (ps_if (pt_cmpR op_eq (pv 0) pe_str (nomark _)) (pss_cons (ps_ret (pe_tup (pa_cons pe_str (pa_cons (cl O_l_signed (hr.mono (by decide)) rfl (pa_cons (pe_op op_mod (pe_callTy call_int1 (by rfl) T.b_int (by decide +kernel) (pa_cons (pv 4) pa_nil)) (pv 5)) (pa_cons (pv 1) pa_nil))) pa_nil)))) pss_nil) pss_nil) (pss_cons (ps_if (pt_cmpR op_eq (pv 0) pe_str (nomark _)) (pss_cons (ps_ret (pe_tup (pa_cons pe_str (pa_cons (pe_op op_sub (pv 2) (pe_op op_mul (pv 3) (cl O_l_quotient (hr.mono (by decide)) rfl (pa_cons (pv 2) (pa_cons (pv 3) pa_nil))))) pa_nil)))) pss_nil) pss_nil) (pss_cons (ps_if (pt_cmpR op_eq (cl O_l_quotient (hr.mono (by decide)) rfl (pa_cons (pv 2) (pa_cons (pv 3) pa_nil))) (pe_op op_shl pe_int (pe_op op_sub (pv 1) pe_int)) (nomark _)) (pss_cons (ps_ret (pe_tup (pa_cons pe_str (pa_cons pe_str pa_nil)))) pss_nil) pss_nil) (pss_cons (ps_ret (pe_tup (pa_cons pe_str (pa_cons (cl O_l_quotient (hr.mono (by decide)) rfl (pa_cons (pv 2) (pa_cons (pv 3) pa_nil))) pa_nil)))) pss_nil))))))))))), ?_⟩
    have e := Ex.refl G
    have hp : (0 : Int) < 1 * 2 ^ l_bits.toNat := by rw [Int.one_mul]; exact Int.pow_pos (by decide)
    have hlb := h.2.2.2
    -- if _law_word == 'add'
    refine r_when e (ep_dec (ev_op (ev_var rfl) ev_c rv_eqS)) (fun hb1 H e e1 => ?_) (fun hb1 H e e1 => ?_)
    · -- return ('value', _law_signed(_law_a + _law_b, _law_bits))
      refine r_retU e (eu_tup (ea_cons ev_c (ea_cons (ev_call (ea_cons (ev_op (ev_var rfl) (ev_var rfl) rv_I0) (ea_cons (ev_var rfl) ea_nil)) (sv_l_signed (by first | assumption | exact w_div hob hol | exact ⟨hb4, hlb⟩ | exact Or.inr hlb | exact Or.inl hlb | walk_at "sd"))) ea_nil)) (by first | assumption | exact w_div hob hol | exact ⟨hb4, hlb⟩ | exact Or.inr hlb | exact Or.inl hlb | walk_at "sd")) fun p H hp e hl => ?_
      unfold m_l_due r_due at q
      rw [if_pos hb1] at q
      exact q _ _ hp e hl
    -- if _law_word == 'sub'
    refine r_when e (ep_dec (ev_op (ev_var rfl) ev_c rv_eqS)) (fun hb2 H e e1 => ?_) (fun hb2 H e e1 => ?_)
    · -- return ('value', _law_signed(_law_a - _law_b, _law_bits))
      refine r_retU e (eu_tup (ea_cons ev_c (ea_cons (ev_call (ea_cons (ev_op (ev_var rfl) (ev_var rfl) rv_I0) (ea_cons (ev_var rfl) ea_nil)) (sv_l_signed (by first | assumption | exact w_div hob hol | exact ⟨hb4, hlb⟩ | exact Or.inr hlb | exact Or.inl hlb | walk_at "sd"))) ea_nil)) (by first | assumption | exact w_div hob hol | exact ⟨hb4, hlb⟩ | exact Or.inr hlb | exact Or.inl hlb | walk_at "sd")) fun p H hp e hl => ?_
      unfold m_l_due r_due at q
      rw [if_neg hb1, if_pos hb2] at q
      exact q _ _ hp e hl
    -- if _law_word == 'mul'
    refine r_when e (ep_dec (ev_op (ev_var rfl) ev_c rv_eqS)) (fun hb3 H e e1 => ?_) (fun hb3 H e e1 => ?_)
    · -- return ('value', _law_signed(_law_a * _law_b, _law_bits))
      refine r_retU e (eu_tup (ea_cons ev_c (ea_cons (ev_call (ea_cons (ev_op (ev_var rfl) (ev_var rfl) (rv_I (by first | assumption | exact w_div hob hol | exact ⟨hb4, hlb⟩ | exact Or.inr hlb | exact Or.inl hlb | walk_at "sd"))) (ea_cons (ev_var rfl) ea_nil)) (sv_l_signed (by first | assumption | exact w_div hob hol | exact ⟨hb4, hlb⟩ | exact Or.inr hlb | exact Or.inl hlb | walk_at "sd"))) ea_nil)) (by first | assumption | exact w_div hob hol | exact ⟨hb4, hlb⟩ | exact Or.inr hlb | exact Or.inl hlb | walk_at "sd")) fun p H hp e hl => ?_
      unfold m_l_due r_due at q
      rw [if_neg hb1, if_neg hb2, if_pos hb3] at q
      exact q _ _ hp e hl
    -- if _law_b == 0
    refine r_when e (ep_dec (ev_op (ev_var rfl) ev_c rv_eqI)) (fun hb4 H e e1 => ?_) (fun hb4 H e e1 => ?_)
    · -- return ('trap', 'integer divide by zero')
      refine r_retU e (eu_tup (ea_cons ev_c (ea_cons ev_c ea_nil)) (by first | assumption | exact w_div hob hol | exact ⟨hb4, hlb⟩ | exact Or.inr hlb | exact Or.inl hlb | walk_at "sd")) fun p H hp e hl => ?_
      unfold m_l_due r_due at q
      rw [if_neg hb1, if_neg hb2, if_neg hb3, if_pos hb4] at q
      exact q _ _ hp e hl
    -- _law_low = int(_law_a) % (1 << _law_bits)
    refine r_asg e (ev_op (ev_int (ev_var rfl)) (ev_op ev_c (ev_var rfl) (rv_I (by first | assumption | exact w_div hob hol | exact ⟨hb4, hlb⟩ | exact Or.inr hlb | exact Or.inl hlb | walk_at "sd"))) (rv_I (by first | assumption | exact w_div hob hol | exact ⟨hb4, hlb⟩ | exact Or.inr hlb | exact Or.inl hlb | walk_at "sd"))) fun H e e1 => ?_
    have hob := h.2.2.1 hb4
    have hol : l_b % (1 * 2 ^ l_bits.toNat) ≤ 2 ^ 64 := Int.le_trans (Int.le_of_lt (Int.emod_lt_of_pos _ hp)) (by rw [Int.one_mul]; exact pow_le64 h.1 h.2.1)
    -- _law_other = int(_law_b) % (1 << _law_bits)
    refine r_asg e (ev_op (ev_int (ev_var rfl)) (ev_op ev_c (ev_var rfl) (rv_I (by first | assumption | exact w_div hob hol | exact ⟨hb4, hlb⟩ | exact Or.inr hlb | exact Or.inl hlb | walk_at "sd"))) (rv_I (by first | assumption | exact w_div hob hol | exact ⟨hb4, hlb⟩ | exact Or.inr hlb | exact Or.inl hlb | walk_at "sd"))) fun H e e1 => ?_
    -- if _law_word == 'div_u'
    refine r_when e (ep_dec (ev_op (ev_var rfl) ev_c rv_eqS)) (fun hb5 H e e1 => ?_) (fun hb5 H e e1 => ?_)
    · -- return ('value', _law_signed(_law_low // _law_other, _law_bits))
      refine r_retU e (eu_tup (ea_cons ev_c (ea_cons (ev_call (ea_cons (ev_op (ev_var rfl) (ev_var rfl) (rv_I (by first | assumption | exact w_div hob hol | exact ⟨hb4, hlb⟩ | exact Or.inr hlb | exact Or.inl hlb | walk_at "sd"))) (ea_cons (ev_var rfl) ea_nil)) (sv_l_signed (by first | assumption | exact w_div hob hol | exact ⟨hb4, hlb⟩ | exact Or.inr hlb | exact Or.inl hlb | walk_at "sd"))) ea_nil)) (by first | assumption | exact w_div hob hol | exact ⟨hb4, hlb⟩ | exact Or.inr hlb | exact Or.inl hlb | walk_at "sd")) fun p H hp e hl => ?_
      unfold m_l_due r_due at q
      rw [if_neg hb1, if_neg hb2, if_neg hb3, if_neg hb4, if_pos hb5] at q
      exact q _ _ hp e hl
    -- if _law_word == 'rem_u'
    refine r_when e (ep_dec (ev_op (ev_var rfl) ev_c rv_eqS)) (fun hb6 H e e1 => ?_) (fun hb6 H e e1 => ?_)
    · -- return ('value', _law_signed(int(_law_low) % _law_other, _law_bits))
      refine r_retU e (eu_tup (ea_cons ev_c (ea_cons (ev_call (ea_cons (ev_op (ev_int (ev_var rfl)) (ev_var rfl) (rv_I (by first | assumption | exact w_div hob hol | exact ⟨hb4, hlb⟩ | exact Or.inr hlb | exact Or.inl hlb | walk_at "sd"))) (ea_cons (ev_var rfl) ea_nil)) (sv_l_signed (by first | assumption | exact w_div hob hol | exact ⟨hb4, hlb⟩ | exact Or.inr hlb | exact Or.inl hlb | walk_at "sd"))) ea_nil)) (by first | assumption | exact w_div hob hol | exact ⟨hb4, hlb⟩ | exact Or.inr hlb | exact Or.inl hlb | walk_at "sd")) fun p H hp e hl => ?_
      unfold m_l_due r_due at q
      rw [if_neg hb1, if_neg hb2, if_neg hb3, if_neg hb4, if_neg hb5, if_pos hb6] at q
      exact q _ _ hp e hl
    -- if _law_word == 'rem_s'
    refine r_when e (ep_dec (ev_op (ev_var rfl) ev_c rv_eqS)) (fun hb7 H e e1 => ?_) (fun hb7 H e e1 => ?_)
    · -- return ('value', _law_a - _law_b * _law_quotient(_law_a, _law_b))
      refine r_retU e (eu_tup (ea_cons ev_c (ea_cons (ev_op (ev_var rfl) (ev_op (ev_var rfl) (ev_call (ea_cons (ev_var rfl) (ea_cons (ev_var rfl) ea_nil)) (sv_l_quotient (by first | assumption | exact w_div hob hol | exact ⟨hb4, hlb⟩ | exact Or.inr hlb | exact Or.inl hlb | walk_at "sd"))) (rv_I (by first | assumption | exact w_div hob hol | exact ⟨hb4, hlb⟩ | exact Or.inr hlb | exact Or.inl hlb | walk_at "sd"))) rv_I0) ea_nil)) (by first | assumption | exact w_div hob hol | exact ⟨hb4, hlb⟩ | exact Or.inr hlb | exact Or.inl hlb | walk_at "sd")) fun p H hp e hl => ?_
      unfold m_l_due r_due at q
      rw [if_neg hb1, if_neg hb2, if_neg hb3, if_neg hb4, if_neg hb5, if_neg hb6, if_pos hb7] at q
      exact q _ _ hp e hl
    -- if _law_quotient(_law_a, _law_b) == 1 << _law_bits - 1
    refine r_when e (ep_dec (ev_op (ev_call (ea_cons (ev_var rfl) (ea_cons (ev_var rfl) ea_nil)) (sv_l_quotient (by first | assumption | exact w_div hob hol | exact ⟨hb4, hlb⟩ | exact Or.inr hlb | exact Or.inl hlb | walk_at "sd"))) (ev_op ev_c (ev_op (ev_var rfl) ev_c rv_I0) (rv_I (by first | assumption | exact w_div hob hol | exact ⟨hb4, hlb⟩ | exact Or.inr hlb | exact Or.inl hlb | walk_at "sd"))) rv_eqI)) (fun hb8 H e e1 => ?_) (fun hb8 H e e1 => ?_)
    · -- return ('trap', 'integer overflow')
      refine r_retU e (eu_tup (ea_cons ev_c (ea_cons ev_c ea_nil)) (by first | assumption | exact w_div hob hol | exact ⟨hb4, hlb⟩ | exact Or.inr hlb | exact Or.inl hlb | walk_at "sd")) fun p H hp e hl => ?_
      unfold m_l_due r_due at q
      rw [if_neg hb1, if_neg hb2, if_neg hb3, if_neg hb4, if_neg hb5, if_neg hb6, if_neg hb7, if_pos hb8] at q
      exact q _ _ hp e hl
    -- return ('value', _law_quotient(_law_a, _law_b))
    refine r_retU e (eu_tup (ea_cons ev_c (ea_cons (ev_call (ea_cons (ev_var rfl) (ea_cons (ev_var rfl) ea_nil)) (sv_l_quotient (by first | assumption | exact w_div hob hol | exact ⟨hb4, hlb⟩ | exact Or.inr hlb | exact Or.inl hlb | walk_at "sd"))) ea_nil)) (by first | assumption | exact w_div hob hol | exact ⟨hb4, hlb⟩ | exact Or.inr hlb | exact Or.inl hlb | walk_at "sd")) fun p H hp e hl => ?_
    unfold m_l_due r_due at q
    rw [if_neg hb1, if_neg hb2, if_neg hb3, if_neg hb4, if_neg hb5, if_neg hb6, if_neg hb7, if_neg hb8] at q
    exact q _ _ hp e hl

/-! _law_told -/

theorem sc_l_told : FnScope ["_law_name", "_law_operands", "e"] ["_law_name", "_law_operands"] (defScope s_l_told) := ⟨rfl, rfl, rfl, by decide +kernel, rfl, by decide +kernel, by decide +kernel⟩
def sp_l_told (K : PySem.W.Frag) : Sp := fun vs H Q _ => ∃ (name : Str) (p : Addr) (a b : Int), vs = [.str name, .ref p] ∧ (SqT K H p ([a, b].map V.int) ∧ name ∈ names7 ∧ OpsOk (m_sigp name) [a, b]) ∧ ∀ p H1, H p = none → Ex H H1 → H1 p = some (.tup (resT (r_calc name a b))) → Q (.ref p) H1
theorem sv_l_told {K : PySem.W.Frag} {H : Hp} {name : Str} {p : Addr} {a b : Int} (h : SqT K H p ([a, b].map V.int) ∧ name ∈ names7 ∧ OpsOk (m_sigp name) [a, b]) : SpU (sp_l_told K) [.str name, .ref p] H (resT (r_calc name a b)) := fun H1 e Q q _ => ⟨name, p, a, b, rfl, ⟨ex_t e h.1, h.2⟩, q⟩
theorem ok_l_told {f : Addr} {fd : FuncData} {d_calculate : FuncData} (F : Fun K "_law_told" "_law_told" s_l_told f fd) (T : Tx w K mg ad) (O_calculate : DfX P w K mg base 5 "calculate" (ad 42) d_calculate ["name", "operands"] (sp_calculate K ad)) : FnOk P w K mg base CX0 6 f fd ["_law_name", "_law_operands"] (sp_l_told K) := by
  refine F.ok sc_l_told (fun vs H Q E h => ?_) (fun cdv A outer s G vs Q E hr h => ?_)
  · obtain ⟨_, _, _, _, rfl, _⟩ := h
    rfl
  · obtain ⟨name, operands, a, b, rfl, h, q⟩ := h
    refine ⟨_, (pss_cons (ps_try_as (i := 2) (c := .ref (ad 1001)) (Wout := (fun _ _ _ _ => False)) rfl rfl sc_l_told.nd rfl rfl ⟨rfl, by decide, Or.inl T.n_Trap⟩ takes0 (fun W pn xe tk _ => (pss_cons (ps_ret (pe_tup (pa_cons pe_str (pa_cons (clS O_calculate (hr.mono (by decide)) rfl (fun σ => passAt tk σ) (pa_cons (pv 0) (pa_cons (pv 1) pa_nil))) pa_nil)))) pss_nil)) (fun a oe cls d pn hz hf => (pss_cons (ps_ret (pe_tup (pa_cons pe_str (pa_cons (pe_xf T.e_Trap.xf T.e_Trap.n hz hf (pv 2)) pa_nil)))) pss_nil))) pss_nil), ?_⟩
    have e := Ex.refl G
    refine r_seq ?_
    cases hr2 : r_calc name a b with
    | ok z =>
      rw [hr2] at q
      exact r_retU e (eu_tup (ea_cons ev_c (ea_cons (ev_callS (ea_cons (ev_var rfl) (ea_cons (ev_var rfl) ea_nil)) (spv_of (val := V.int) (sx_calculate h) (by rw [hr2]; rfl))) ea_nil)) (by show 2 ≤ 100000; decide)) fun p H hp e hl => q _ _ hp e hl
    | error r =>
      rw [hr2] at q
      refine r_retE e (ee_tup (eae_1 ev_c (eae_0 (ee_callS (ea_cons (ev_var rfl) (ea_cons (ev_var rfl) ea_nil)) (spe_of (val := V.int) (x := tr r) (sx_calculate h) (by rw [hr2]; rfl)))))) fun cls d H2 e2 hp => ?_
      obtain ⟨rfl, dd, rfl, hd⟩ := hp
      refine ⟨true, T.x_Trap_Trap, fun _ a0 hn => ?_, fun z => nomatch z⟩
      exact r_retU (Ex.refl H2) (eu_tup (ea_cons ev_c (ea_cons (ev_xf (ev_var rfl) hd (lk1 _ _)) ea_nil)) (by show 2 ≤ 100000; decide)) fun p H3 hp3 e3 h3 => q _ _ (fresh_back e2 hp3) (e2.trans e3) h3

/-! _law_same -/

theorem sc_l_same : FnScope ["_law_told_here", "_law_due_here"] ["_law_told_here", "_law_due_here"] (defScope s_l_same) := ⟨rfl, rfl, rfl, by decide +kernel, rfl, by decide +kernel, by decide +kernel⟩
def sp_l_same (K : PySem.W.Frag) : Sp := fun vs H Q _ => ∃ (p1 p2 : Addr) (r : Except Str Int), vs = [.ref p1, .ref p2] ∧ (SqT K H p1 (resT r) ∧ SqT K H p2 (resT r)) ∧ ∀ H1, Ex H H1 → Q (.bl true) H1
theorem sv_l_same {K : PySem.W.Frag} {H : Hp} {p1 p2 : Addr} {r : Except Str Int} (h : SqT K H p1 (resT r) ∧ SqT K H p2 (resT r)) : SpV (sp_l_same K) [.ref p1, .ref p2] H (.bl true) := fun H1 e Q q _ => ⟨p1, p2, r, rfl, ⟨ex_t e h.1, ex_t e h.2⟩, q⟩
theorem ok_l_same {f : Addr} {fd : FuncData} {d_l_is_integer : FuncData} (F : Fun K "_law_same" "_law_same" s_l_same f fd) (T : Tx w K mg ad) (O_l_is_integer : Df P w K mg base 1 "_law_is_integer" (ad 43) d_l_is_integer ["_law_actual"] (sp_l_is_integer K)) : FnOk P w K mg base CX0 2 f fd ["_law_told_here", "_law_due_here"] (sp_l_same K) := by
  refine F.ok sc_l_same (fun vs H Q E h => ?_) (fun cdv A outer s G vs Q E hr h => ?_)
  · obtain ⟨_, _, _, rfl, _⟩ := h
    rfl
  · obtain ⟨p1, p2, r, rfl, ⟨h1, h2⟩, q⟩ := h
    refine ⟨_, (pss_cons (ps_if (pt_cmpR op_ne (pe_ix (r := rIxT K) ix_tup (pv 0) pe_int (fun _ _ => rfl)) (pe_ix (r := rIxT K) ix_tup (pv 1) pe_int (fun _ _ => rfl)) (nomark _)) (pss_cons (ps_ret pe_bl) pss_nil) pss_nil) (pss_cons (ps_if (pt_cmpR op_eq (pe_ix ix_tup (pv 1) pe_int (fun _ _ => rfl)) pe_str (nomark _)) (pss_cons (ps_ret (pe_and (pe_callB (r := rIsi K) call_isi (by rfl) T.b_isinstance (by decide +kernel) (pa_cons (pe_ix (r := rIxT K) ix_tup (pv 0) pe_int (fun _ _ => rfl)) (pa_cons (pe_bltn (v := .ty "str") (by rfl) T.b_str (by decide +kernel) rfl) pa_nil))) (pe_one (pe_cmpR op_eq (pe_ix (r := rIxT K) ix_tup (pv 0) pe_int (fun _ _ => rfl)) (pe_ix (r := rIxT K) ix_tup (pv 1) pe_int (fun _ _ => rfl)) (nomark _))))) pss_nil) pss_nil) (pss_cons (ps_ret (pe_and (cl O_l_is_integer (hr.mono (by decide)) rfl (pa_cons (pe_ix (r := rIxT K) ix_tup (pv 0) pe_int (fun _ _ => rfl)) pa_nil)) (pe_one (pe_cmpR op_eq (pe_ix (r := rIxT K) ix_tup (pv 0) pe_int (fun _ _ => rfl)) (pe_ix (r := rIxT K) ix_tup (pv 1) pe_int (fun _ _ => rfl)) (nomark _))))) pss_nil))), ?_⟩
    have e := Ex.refl G
    cases r with
    | ok z =>
      refine r_when e (ep_ndec (ev_op (ev_op (ev_var rfl) ev_c (rv_ixT h1 (atI_nat (j := 0) rfl))) (ev_op (ev_var rfl) ev_c (rv_ixT h2 (atI_nat (j := 0) rfl))) rv_neS)) (fun hb1 H e e1 => ?_) (fun hb1 H e e1 => ?_)
      · exact absurd rfl hb1
      refine r_when e (ep_dec (ev_op (ev_op (ev_var rfl) ev_c (rv_ixT h2 (atI_nat (j := 0) rfl))) ev_c rv_eqS)) (fun hb2 H e e1 => ?_) (fun hb2 H e e1 => ?_)
      · exact absurd hb2 (by decide +kernel)
      exact r_retB e (ev_andV (ev_call (ea_cons (ev_op (ev_var rfl) ev_c (rv_ixT h1 (atI_nat (j := 1) rfl))) ea_nil) (sv_l_is_integer True.intro)) (fun hb => (ev_op (ev_op (ev_var rfl) ev_c (rv_ixT h1 (atI_nat (j := 1) rfl))) (ev_op (ev_var rfl) ev_c (rv_ixT h2 (atI_nat (j := 1) rfl))) rv_eqI))) (by rw [decide_eq_true rfl]; rfl) q
    | error r =>
      refine r_when e (ep_ndec (ev_op (ev_op (ev_var rfl) ev_c (rv_ixT h1 (atI_nat (j := 0) rfl))) (ev_op (ev_var rfl) ev_c (rv_ixT h2 (atI_nat (j := 0) rfl))) rv_neS)) (fun hb1 H e e1 => ?_) (fun hb1 H e e1 => ?_)
      · exact absurd rfl hb1
      refine r_when e (ep_dec (ev_op (ev_op (ev_var rfl) ev_c (rv_ixT h2 (atI_nat (j := 0) rfl))) ev_c rv_eqS)) (fun hb2 H e e1 => ?_) (fun hb2 H e e1 => ?_)
      · exact r_retB e (ev_andV (ev_isi (b := true) (ev_op (ev_var rfl) ev_c (rv_ixT h1 (atI_nat (j := 1) rfl))) ev_c (.ty _) ty_str (kit_ty (by decide +kernel))) (fun hb => (ev_op (ev_op (ev_var rfl) ev_c (rv_ixT h1 (atI_nat (j := 1) rfl))) (ev_op (ev_var rfl) ev_c (rv_ixT h2 (atI_nat (j := 1) rfl))) rv_eqS))) (by rw [decide_eq_true rfl]; rfl) q
      exact absurd rfl hb2

/-! law -/
theorem lsg (n b : Int) : m_l_signed n b = sg n b := by
  unfold m_l_signed sg
  rw [Int.one_mul, Int.one_mul]
theorem val_ok {k : Str} {b : Int} (h : (k = "i32" ∧ b = 32) ∨ (k = "i64" ∧ b = 64)) (n : Int) : InK k (m_l_signed n b) := by
  rw [lsg]
  exact inK_sg h n
theorem quot_eq {a b : Int} (hb : ¬ b = 0) : m_quotient a b = m_l_quotient a b := by
  unfold m_quotient m_l_quotient
  have ea : (if a < 0 then -a else a) = (if -a > a then -a else a) := by split <;> split <;> omega
  have eb : (if b < 0 then -b else b) = (if -b > b then -b else b) := by split <;> split <;> omega
  rw [ea, eb]
  by_cases h1 : a < 0
  · by_cases h2 : b < 0
    · rw [decide_eq_true h1, decide_eq_true h2, if_pos rfl, if_pos (Or.inr ⟨by omega, h2⟩)]
    · rw [decide_eq_true h1, decide_eq_false h2, if_neg (by decide), if_neg (show ¬ ((0 ≤ a ∧ 0 < b) ∨ (a ≤ 0 ∧ b < 0)) by omega)]
  · by_cases h2 : b < 0
    · rw [decide_eq_false h1, decide_eq_true h2, if_neg (by decide)]
      by_cases h3 : a = 0
      · subst h3
        rw [if_pos (Or.inr ⟨by omega, h2⟩), show (if -(0 : Int) > 0 then -(0 : Int) else 0) = 0 from rfl, Int.zero_ediv]
        rfl
      · rw [if_neg (show ¬ ((0 ≤ a ∧ 0 < b) ∨ (a ≤ 0 ∧ b < 0)) by omega)]
    · rw [decide_eq_false h1, decide_eq_false h2, if_pos rfl, if_pos (Or.inl ⟨by omega, by omega⟩)]
theorem quot_rng {a b m : Int} (hm : 0 < m) (ha : -m ≤ a ∧ a < m) (hb : ¬ b = 0) : -m ≤ m_quotient a b ∧ m_quotient a b ≤ m := by
  unfold m_quotient
  have h1 : 0 ≤ (if a < 0 then -a else a) ∧ (if a < 0 then -a else a) ≤ m := by split <;> omega
  have h2 : 0 < (if b < 0 then -b else b) := by split <;> omega
  generalize (if a < 0 then -a else a) = x at *
  generalize (if b < 0 then -b else b) = y at *
  have h3 : 0 ≤ x / y := Int.ediv_nonneg h1.1 (by omega)
  have h4 : x / y ≤ x := Int.ediv_le_self y h1.1
  split <;> omega
theorem inK_iff {k : Str} {b : Int} (h : (k = "i32" ∧ b = 32) ∨ (k = "i64" ∧ b = 64)) {n : Int} (hn : -(2 ^ (b - 1).toNat) ≤ n ∧ n ≤ 2 ^ (b - 1).toNat) : (¬ m_in_range k n = true) ↔ n = 2 ^ (b - 1).toNat := by
  have hb : 1 ≤ b := by rcases h with ⟨_, rfl⟩ | ⟨_, rfl⟩ <;> decide
  constructor
  · intro h1
    apply Decidable.byContradiction
    intro h2
    exact h1 (inK_of h ⟨hn.1, by omega⟩)
  · intro h1 h2
    have h3 := inK_id h h2
    have h4 := sg_range n hb
    rw [h3] at h4
    omega
theorem d_add {k : Str} {b : Int} (h : (k = "i32" ∧ b = 32) ∨ (k = "i64" ∧ b = 64)) {x y : Int} (hx : InK k x) (hy : InK k y) : (.ok (m_signed k (x + y)) : Except Str Int) = r_due "add" b x y := by
  unfold r_due
  rw [if_pos rfl, si_eq h, lsg]
theorem d_sub {k : Str} {b : Int} (h : (k = "i32" ∧ b = 32) ∨ (k = "i64" ∧ b = 64)) {x y : Int} (hx : InK k x) (hy : InK k y) : (.ok (m_signed k (x - y)) : Except Str Int) = r_due "sub" b x y := by
  unfold r_due
  rw [if_neg (by decide +kernel : ¬ (("sub" : Str) = "add")), if_pos rfl, si_eq h, lsg]
theorem d_mul {k : Str} {b : Int} (h : (k = "i32" ∧ b = 32) ∨ (k = "i64" ∧ b = 64)) {x y : Int} (hx : InK k x) (hy : InK k y) : (.ok (m_signed k (x * y)) : Except Str Int) = r_due "mul" b x y := by
  unfold r_due
  rw [if_neg (by decide +kernel : ¬ (("mul" : Str) = "add")), if_neg (by decide +kernel : ¬ (("mul" : Str) = "sub")), if_pos rfl, si_eq h, lsg]
theorem d_div_u {k : Str} {b : Int} (h : (k = "i32" ∧ b = 32) ∨ (k = "i64" ∧ b = 64)) {x y : Int} (hx : InK k x) (hy : InK k y) : r_div_u k x y = r_due "div_u" b x y := by
  unfold r_due r_div_u
  rw [if_neg (by decide +kernel : ¬ (("div_u" : Str) = "add")), if_neg (by decide +kernel : ¬ (("div_u" : Str) = "sub")), if_neg (by decide +kernel : ¬ (("div_u" : Str) = "mul"))]
  by_cases h0 : y = 0
  · rw [if_pos h0, if_pos h0]
  · rw [if_neg h0, if_neg h0, if_pos rfl]
    rw [si_eq h, lsg, un_eq h, un_eq h, Int.one_mul]
theorem d_rem_u {k : Str} {b : Int} (h : (k = "i32" ∧ b = 32) ∨ (k = "i64" ∧ b = 64)) {x y : Int} (hx : InK k x) (hy : InK k y) : r_rem_u k x y = r_due "rem_u" b x y := by
  unfold r_due r_rem_u
  rw [if_neg (by decide +kernel : ¬ (("rem_u" : Str) = "add")), if_neg (by decide +kernel : ¬ (("rem_u" : Str) = "sub")), if_neg (by decide +kernel : ¬ (("rem_u" : Str) = "mul"))]
  by_cases h0 : y = 0
  · rw [if_pos h0, if_pos h0]
  · rw [if_neg h0, if_neg h0, if_neg (by decide +kernel : ¬ (("rem_u" : Str) = "div_u")), if_pos rfl]
    rw [si_eq h, lsg, un_eq h, un_eq h, Int.one_mul]
    congr 2
    have := Int.mul_ediv_add_emod (x % 2 ^ b.toNat) (y % 2 ^ b.toNat)
    omega
theorem d_rem_s {k : Str} {b : Int} (h : (k = "i32" ∧ b = 32) ∨ (k = "i64" ∧ b = 64)) {x y : Int} (hx : InK k x) (hy : InK k y) : r_rem_s k x y = r_due "rem_s" b x y := by
  unfold r_due r_rem_s
  rw [if_neg (by decide +kernel : ¬ (("rem_s" : Str) = "add")), if_neg (by decide +kernel : ¬ (("rem_s" : Str) = "sub")), if_neg (by decide +kernel : ¬ (("rem_s" : Str) = "mul"))]
  by_cases h0 : y = 0
  · rw [if_pos h0, if_pos h0]
  · rw [if_neg h0, if_neg h0, if_neg (by decide +kernel : ¬ (("rem_s" : Str) = "div_u")), if_neg (by decide +kernel : ¬ (("rem_s" : Str) = "rem_u")), if_pos rfl]
    rw [quot_eq h0]
theorem d_div_s {k : Str} {b : Int} (h : (k = "i32" ∧ b = 32) ∨ (k = "i64" ∧ b = 64)) {x y : Int} (hx : InK k x) (hy : InK k y) : r_div_s k x y = r_due "div_s" b x y := by
  unfold r_due r_div_s
  rw [if_neg (by decide +kernel : ¬ (("div_s" : Str) = "add")), if_neg (by decide +kernel : ¬ (("div_s" : Str) = "sub")), if_neg (by decide +kernel : ¬ (("div_s" : Str) = "mul"))]
  by_cases h0 : y = 0
  · rw [if_pos h0, if_pos h0]
  · rw [if_neg h0, if_neg h0, if_neg (by decide +kernel : ¬ (("div_s" : Str) = "div_u")), if_neg (by decide +kernel : ¬ (("div_s" : Str) = "rem_u")), if_neg (by decide +kernel : ¬ (("div_s" : Str) = "rem_s"))]
    have hb : 1 ≤ b := by rcases h with ⟨_, rfl⟩ | ⟨_, rfl⟩ <;> decide
    have h1 := sg_range x hb
    rw [inK_id h hx] at h1
    have h2 := quot_rng (Int.pow_pos (by decide)) h1 h0
    have h3 := inK_iff h h2
    rw [← quot_eq h0, Int.one_mul]
    by_cases h4 : m_quotient x y = 2 ^ (b - 1).toNat
    · rw [if_pos h4, if_pos (h3.mpr h4)]
    · rw [if_neg h4, if_neg (fun z => h4 (h3.mp z))]
def words7 : List Str := ["div_s", "rem_s", "div_u", "rem_u", "mul", "add", "sub"]

def kb (b : Int) : Str := ("i" : Str) ++ Str.ofString (toString b)
def nmb (b : Int) (w : Str) : Str := (kb b ++ ("." : Str)) ++ w
theorem nm7 : ∀ b ∈ ([32, 64] : List Int), ∀ w ∈ words7, nmb b w ∈ names7 ∧ m_sigp (nmb b w) = [kb b, kb b] ∧ (kb b = "i32" ∨ kb b = "i64") ∧ ("i" : Str).length + (Str.ofString (toString b)).length ≤ 100 ∧ (kb b).length + ("." : Str).length ≤ 100 ∧ (kb b ++ ("." : Str)).length + w.length ≤ 100 ∧ b.natAbs.log2 + 1 ≤ 1920 ∧ m_kd (nmb b w) = kb b ∧ m_wd (nmb b w) = w := by decide +kernel
theorem kb_ok : ∀ b ∈ ([32, 64] : List Int), (kb b = "i32" ∧ b = 32) ∨ (kb b = "i64" ∧ b = 64) := by decide +kernel
theorem getD_mem {l : List Str} {i : Nat} (h : i < l.length) : l.getD i "" ∈ l := by
  rw [List.getD_eq_getElem?_getD, List.getElem?_eq_getElem h]
  exact List.getElem_mem h
theorem calc_due {b : Int} (hb : b ∈ ([32, 64] : List Int)) {w : Str} (hw : w ∈ words7) {x y : Int} (hx : InK (kb b) x) (hy : InK (kb b) y) : r_calc (nmb b w) x y = r_due w b x y := by
  obtain ⟨_, _, _, _, _, _, _, h1, h2⟩ := nm7 b hb w hw
  have h := kb_ok b hb
  unfold r_calc
  rw [h1, h2]
  unfold words7 at hw
  simp only [List.mem_cons, List.not_mem_nil, or_false] at hw
  rcases hw with rfl | rfl | rfl | rfl | rfl | rfl | rfl
  · rw [if_pos rfl]
    exact d_div_s h hx hy
  · rw [if_neg (by decide +kernel : ¬ (("rem_s" : Str) = "div_s")), if_pos rfl]
    exact d_rem_s h hx hy
  · rw [if_neg (by decide +kernel : ¬ (("div_u" : Str) = "div_s")), if_neg (by decide +kernel : ¬ (("div_u" : Str) = "rem_s")), if_pos rfl]
    exact d_div_u h hx hy
  · rw [if_neg (by decide +kernel : ¬ (("rem_u" : Str) = "div_s")), if_neg (by decide +kernel : ¬ (("rem_u" : Str) = "rem_s")), if_neg (by decide +kernel : ¬ (("rem_u" : Str) = "div_u")), if_pos rfl]
    exact d_rem_u h hx hy
  · rw [if_neg (by decide +kernel : ¬ (("mul" : Str) = "div_s")), if_neg (by decide +kernel : ¬ (("mul" : Str) = "rem_s")), if_neg (by decide +kernel : ¬ (("mul" : Str) = "div_u")), if_neg (by decide +kernel : ¬ (("mul" : Str) = "rem_u")), if_pos rfl]
    exact d_mul h hx hy
  · rw [if_neg (by decide +kernel : ¬ (("add" : Str) = "div_s")), if_neg (by decide +kernel : ¬ (("add" : Str) = "rem_s")), if_neg (by decide +kernel : ¬ (("add" : Str) = "div_u")), if_neg (by decide +kernel : ¬ (("add" : Str) = "rem_u")), if_neg (by decide +kernel : ¬ (("add" : Str) = "mul")), if_pos rfl]
    exact d_add h hx hy
  · rw [if_neg (by decide +kernel : ¬ (("sub" : Str) = "div_s")), if_neg (by decide +kernel : ¬ (("sub" : Str) = "rem_s")), if_neg (by decide +kernel : ¬ (("sub" : Str) = "div_u")), if_neg (by decide +kernel : ¬ (("sub" : Str) = "rem_u")), if_neg (by decide +kernel : ¬ (("sub" : Str) = "mul")), if_neg (by decide +kernel : ¬ (("sub" : Str) = "add"))]
    exact d_sub h hx hy
theorem due_pre {k : Str} {b : Int} (h : (k = "i32" ∧ b = 32) ∨ (k = "i64" ∧ b = 64)) {y : Int} (hy : InK k y) : 1 ≤ b ∧ b ≤ 64 ∧ (¬ y = 0 → 0 < y % (1 * 2 ^ b.toNat)) ∧ (-2 ^ 64 < y ∧ y < 2 ^ 64) := by
  refine ⟨by rcases h with ⟨_, rfl⟩ | ⟨_, rfl⟩ <;> decide, by rcases h with ⟨_, rfl⟩ | ⟨_, rfl⟩ <;> decide, fun h0 => ?_, inK_rng (h.imp And.left And.left) hy⟩
  rw [Int.one_mul]
  exact sg_pos (by rcases h with ⟨_, rfl⟩ | ⟨_, rfl⟩ <;> decide) (inK_id h hy) h0
theorem sc_law : FnScope ["_law_script", "_law_words", "_law_k", "_law_pick", "_law_bits", "_law_word", "_law_a", "_law_b", "_law_told_here"] ["_law_script"] (defScope s_law) := ⟨rfl, rfl, rfl, by decide +kernel, rfl, by decide +kernel, by decide +kernel⟩
def sp_law (K : PySem.W.Frag) : Sp := fun vs H Q _ => ∃ (l_script : Addr) (ns : List Int), vs = [.ref l_script] ∧ (SqL K H l_script (ns.map V.int) ∧ ns.length ≤ 63) ∧ ∀ H1, Q (.bl true) H1
theorem law_in {K : PySem.W.Frag} {H : Hp} {a : Addr} {ns : List Int} (hl : ns.length ≤ 63) (hS : SqL K H a (ns.map V.int)) : sp_law K [.ref a] H (fun v _ => v = .bl true) (fun _ _ _ => False) := ⟨a, ns, rfl, ⟨hS, hl⟩, fun _ => rfl⟩
theorem ok_law {f : Addr} {fd : FuncData} {d_l_cell : FuncData} {d_l_value : FuncData} {d_l_due : FuncData} {d_l_told : FuncData} {d_l_same : FuncData} (F : Fun K "law" "law" s_law f fd) (T : Tx w K mg ad) (O_l_cell : Df P w K mg base 1 "_law_cell" (ad 44) d_l_cell ["_law_script", "_law_k"] (sp_l_cell K)) (O_l_value : Df P w K mg base 2 "_law_value" (ad 46) d_l_value ["_law_cell_here", "_law_bits"] (sp_l_value K)) (O_l_due : Df P w K mg base 2 "_law_due" (ad 48) d_l_due ["_law_word", "_law_bits", "_law_a", "_law_b"] (sp_l_due K)) (O_l_told : Df P w K mg base 6 "_law_told" (ad 49) d_l_told ["_law_name", "_law_operands"] (sp_l_told K)) (O_l_same : Df P w K mg base 2 "_law_same" (ad 50) d_l_same ["_law_told_here", "_law_due_here"] (sp_l_same K)) : FnOk P w K mg base CX0 7 f fd ["_law_script"] (sp_law K) := by
  refine F.ok sc_law (fun vs H Q E h => ?_) (fun cdv A outer s G vs Q E hr h => ?_)
  · obtain ⟨l_script, ns, rfl, _⟩ := h
    rfl
  · obtain ⟨l_script, ns, rfl, ⟨hS, hlen⟩, q⟩ := h
    refine ⟨_, (pss_cons (ps_set (i := 1) sc_law.nd rfl (Or.inl rfl) (pe_lst (pa_cons pe_str (pa_cons pe_str (pa_cons pe_str (pa_cons pe_str (pa_cons pe_str (pa_cons pe_str (pa_cons pe_str pa_nil))))))))) (pss_cons (ps_for PassesOwn.never rfl (pi_range1 (by rfl) T.b_range (pa_cons (pe_op op_add pe_int (pe_op op_fdiv (pe_callB (call_min2 rfl) (by rfl) T.b_min (by decide +kernel) (pa_cons (pe_callB (r := rLenS K) call_len_seq (by rfl) T.b_len (by decide +kernel) (pa_cons (pv 0) pa_nil)) (pa_cons pe_int pa_nil))) pe_int)) pa_nil)) (pg_name (i := 2) sc_law.nd rfl (Or.inl rfl)) (pss_cons (ps_set (i := 3) sc_law.nd rfl (Or.inl rfl) (cl O_l_cell (hr.mono (by decide)) rfl (pa_cons (pv 0) (pa_cons (pe_op op_mul pe_int (pv 2)) pa_nil)))) (pss_cons (ps_set (i := 4) sc_law.nd rfl (Or.inl rfl) (pe_op op_add pe_int (pe_op op_mul pe_int (pe_op op_mod (pe_callTy call_int1 (by rfl) T.b_int (by decide +kernel) (pa_cons (pv 3) pa_nil)) pe_int)))) (pss_cons (ps_set (i := 5) sc_law.nd rfl (Or.inl rfl) (pe_ix (r := rIxL K) ix_list (pv 1) (pe_op op_mod (pe_op op_fdiv (pe_callTy call_int1 (by rfl) T.b_int (by decide +kernel) (pa_cons (pv 3) pa_nil)) pe_int) pe_int) (fun _ _ => rfl))) (pss_cons (ps_set (i := 6) sc_law.nd rfl (Or.inl rfl) (cl O_l_value (hr.mono (by decide)) rfl (pa_cons (cl O_l_cell (hr.mono (by decide)) rfl (pa_cons (pv 0) (pa_cons (pe_op op_add (pe_op op_mul pe_int (pv 2)) pe_int) pa_nil))) (pa_cons (pv 4) pa_nil)))) (pss_cons (ps_set (i := 7) sc_law.nd rfl (Or.inl rfl) (cl O_l_value (hr.mono (by decide)) rfl (pa_cons (cl O_l_cell (hr.mono (by decide)) rfl (pa_cons (pv 0) (pa_cons (pe_op op_add (pe_op op_mul pe_int (pv 2)) pe_int) pa_nil))) (pa_cons (pv 4) pa_nil)))) (pss_cons (ps_set (i := 8) sc_law.nd rfl (Or.inl rfl) (cl O_l_told (hr.mono (by decide)) rfl (pa_cons (pe_op op_add_str (pe_op op_add_str (pe_op op_add_str pe_str (pe_callTy call_str_int (by rfl) T.b_str (by decide +kernel) (pa_cons (pv 4) pa_nil))) pe_str) (pv 5)) (pa_cons (pe_tup (pa_cons (pv 6) (pa_cons (pv 7) pa_nil))) pa_nil)))) (pss_cons (ps_if (pt_not (pt_val (cl O_l_same (hr.mono (by decide)) rfl (pa_cons (pv 8) (pa_cons (cl O_l_due (hr.mono (by decide)) rfl (pa_cons (pv 5) (pa_cons (pv 4) (pa_cons (pv 6) (pa_cons (pv 7) pa_nil))))) pa_nil))))) (pss_cons (ps_ret pe_bl) pss_nil) pss_nil) pss_nil)))))))) (pss_cons (ps_ret pe_bl) pss_nil))), ?_⟩
    have e := Ex.refl G
    -- _law_words = ['div_s', 'rem_s', 'div_u', 'rem_u', 'mul', 'add', 'sub']
    refine r_asgL e (el_lst (ea_cons ev_c (ea_cons ev_c (ea_cons ev_c (ea_cons ev_c (ea_cons ev_c (ea_cons ev_c (ea_cons ev_c ea_nil))))))) (by walk_at "sd")) fun p_l_words G2 hp e2 e1 hl_l_words => ?_
    have hS := ex_l e2 hS
    have e := Ex.refl G2
    have hs_l_words := sq_of (K := K) hl_l_words
    have hs_l_words : SqL K G2 p_l_words (([("div_s" : Str), ("rem_s" : Str), ("div_u" : Str), ("rem_u" : Str), ("mul" : Str), ("add" : Str), ("sub" : Str)] : List Str).map V.str) := hs_l_words
    -- for _law_k in range(1 + min(len(_law_script), 60) // 3)   [loop 1]
    refine r_forRH e (ea_cons (ev_op ev_c (ev_op (ev_min2 (ev_lenI (ev_var rfl) (by assumption)) ev_c) ev_c (rv_I (by walk_at "sd"))) rv_I0) ea_nil) (by walk_at "sd") (fun i σ H => ∃ (o_l_k : Option V) (o_l_pick : Option V) (o_l_bits : Option V) (o_l_word : Option V) (o_l_a : Option V) (o_l_b : Option V) (o_l_told_here : Option V), σ = [some (.ref l_script), some (.ref p_l_words), o_l_k, o_l_pick, o_l_bits, o_l_word, o_l_a, o_l_b, o_l_told_here] ∧ Ex G2 H) (fun H2 e2 => ⟨_, _, _, _, _, _, _, rfl, e.trans e2⟩) (fun i σ H hi hI => ?_) (fun σ H hI => ?_)
    · obtain ⟨o_l_k, o_l_pick, o_l_bits, o_l_word, o_l_a, o_l_b, o_l_told_here, rfl, e⟩ := hI
      -- _law_pick = _law_cell(_law_script, 3 * _law_k)
      refine r_asg e (ev_call (ea_cons (ev_var rfl) (ea_cons (ev_op ev_c (ev_var rfl) (rv_I (by walk_at "sd"))) ea_nil)) (sv_l_cell ⟨(by walk_at "sq"), by walk_at "sd"⟩)) fun H e e1 => ?_
      -- _law_bits = 32 + 32 * (int(_law_pick) % 2)
      refine r_asgI e (ev_op ev_c (ev_op ev_c (ev_op (ev_int (ev_var rfl)) ev_c (rv_I (by walk_at "sd"))) (rv_I (by walk_at "sd"))) rv_I0) fun n_l_bits hn_l_bits H e e1 => ?_
      have hbits : n_l_bits = 32 ∨ n_l_bits = 64 := by omega
      have hbm : n_l_bits ∈ ([32, 64] : List Int) := by rcases hbits with rfl | rfl <;> decide
      have hkb := kb_ok n_l_bits hbm
      clear hn_l_bits
      -- _law_word = _law_words[int(_law_pick) // 2 % 7]
      refine r_asgS e (ev_op (ev_var rfl) (ev_op (ev_op (ev_int (ev_var rfl)) ev_c (rv_I (by walk_at "sd"))) ev_c (rv_I (by walk_at "sd"))) (rv_ixStr (by assumption) (by walk_at "sd") (by walk_at "sd"))) fun n_l_word hn_l_word H e e1 => ?_
      have hw : n_l_word ∈ words7 := by rw [hn_l_word]; exact getD_mem (by show _ < 7; omega)
      clear hn_l_word
      have hn7 := nm7 n_l_bits hbm n_l_word hw
      -- _law_a = _law_value(_law_cell(_law_script, 3 * _law_k + 1), _law_bits)
      refine r_asgI e (ev_call (ea_cons (ev_call (ea_cons (ev_var rfl) (ea_cons (ev_op (ev_op ev_c (ev_var rfl) (rv_I (by walk_at "sd"))) ev_c rv_I0) ea_nil)) (sv_l_cell ⟨(by walk_at "sq"), by walk_at "sd"⟩)) (ea_cons (ev_var rfl) ea_nil)) (sv_l_value (by walk_at "sd"))) fun n_l_a hn_l_a H e e1 => ?_
      have ha : InK (kb n_l_bits) n_l_a := by rw [hn_l_a]; exact val_ok hkb _
      clear hn_l_a
      -- _law_b = _law_value(_law_cell(_law_script, 3 * _law_k + 2), _law_bits)
      refine r_asgI e (ev_call (ea_cons (ev_call (ea_cons (ev_var rfl) (ea_cons (ev_op (ev_op ev_c (ev_var rfl) (rv_I (by walk_at "sd"))) ev_c rv_I0) ea_nil)) (sv_l_cell ⟨(by walk_at "sq"), by walk_at "sd"⟩)) (ea_cons (ev_var rfl) ea_nil)) (sv_l_value (by walk_at "sd"))) fun n_l_b hn_l_b H e e1 => ?_
      have hb : InK (kb n_l_bits) n_l_b := by rw [hn_l_b]; exact val_ok hkb _
      clear hn_l_b
      -- _law_told_here = _law_told('i' + str(_law_bits) + '.' + _law_word, (_law_a, _law_b))
      refine r_asgU e (eu_callX (eax_V (ev_op (ev_op (ev_op ev_c (ev_str (ev_var rfl) hn7.2.2.2.2.2.2.1) (rv_addS (Nat.le_trans hn7.2.2.2.1 (by decide)))) ev_c (rv_addS (Nat.le_trans hn7.2.2.2.2.1 (by decide)))) (ev_var rfl) (rv_addS (Nat.le_trans hn7.2.2.2.2.2.1 (by decide)))) (eax_U (eu_tup (ea_cons (ev_var rfl) (ea_cons (ev_var rfl) ea_nil)) (by walk_at "sd")) eax_nil)) (fun vs H1 e h => by obtain ⟨_, rfl, _, _, rfl, ha1, rfl⟩ := h; exact sv_l_told (name := nmb n_l_bits n_l_word) ⟨st_of ha1, hn7.1, opsok2 hn7.2.1 hn7.2.2.1 ha hb⟩)) fun p_l_told_here G2 hp e2 e1 hl_l_told_here => ?_
      rw [calc_due hbm hw ha hb] at hl_l_told_here
      have hS := ex_l e2 hS
      have hs_l_words := ex_l e2 hs_l_words
      have eg11 := e2
      have e := Ex.refl G2
      have hs_l_told_here := st_of (K := K) hl_l_told_here
      -- if not _law_same(_law_told_here, _law_due(_law_word, _law_bits, _law_a, _law_b))
      refine r_when e (ep_not (ep_val (ev_callX (eax_V (ev_var rfl) (eax_U (eu_call (ea_cons (ev_var rfl) (ea_cons (ev_var rfl) (ea_cons (ev_var rfl) (ea_cons (ev_var rfl) ea_nil)))) (sv_l_due (due_pre hkb hb))) eax_nil)) (fun vs H1 e h => by obtain ⟨_, rfl, _, _, rfl, ha1, rfl⟩ := h; exact sv_l_same ⟨ex_t e hs_l_told_here, st_of ha1⟩)))) (fun hb1 H e e1 => ?_) (fun hb1 H e e1 => ?_)
      · exact absurd hb1 (fun z => z rfl)
      have e := eg11.trans (e)
      exact ⟨_, _, _, _, _, _, _, rfl, e⟩
    obtain ⟨o_l_k, o_l_pick, o_l_bits, o_l_word, o_l_a, o_l_b, o_l_told_here, rfl, e⟩ := hI
    exact r_ret e ev_c fun H e => q H

end
theorem all_mk {l : PySem.W.OpenLaw} {w : World} {K : PySem.W.Frag} {h : Heap} {mg : Str → Option Value} {fa : Addr} {f_width f_unsigned f_extend f_signed f_in_range f_add f_sub f_mul f_quotient f_div_s f_div_u f_rem_s f_rem_u f_bit_and f_bit_or f_bit_xor f_shl f_shr_s f_shr_u f_rotl f_rotr f_eq f_ne f_lt_s f_gt_s f_le_s f_ge_s f_lt_u f_gt_u f_le_u f_ge_u f_clz f_ctz f_popcnt f_extend8_s f_extend16_s f_extend32_s f_extend_u f_signature_of f_check_operands f_calculate f_l_is_integer f_l_cell f_l_signed f_l_value f_l_quotient f_l_due f_l_told f_l_same f_law c_HostError c_Trap fi_Trap : Addr} (X : K.In h) (G : h.Ns mainGlobals mg) (hfa : mg "law" = some (.ref fa))
    {od_width an_width od_unsigned an_unsigned od_extend an_extend od_signed an_signed od_in_range an_in_range od_add an_add od_sub an_sub od_mul an_mul od_quotient an_quotient od_div_s an_div_s od_div_u an_div_u od_rem_s an_rem_s od_rem_u an_rem_u od_signature_of an_signature_of od_check_operands an_check_operands od_calculate an_calculate od_l_is_integer an_l_is_integer od_l_cell an_l_cell od_l_signed an_l_signed od_l_value an_l_value od_l_quotient an_l_quotient od_l_due an_l_due od_l_told an_l_told od_l_same an_l_same od_law an_law : Option Addr} {sl_width sl_unsigned sl_extend sl_signed sl_in_range sl_add sl_sub sl_mul sl_quotient sl_div_s sl_div_u sl_rem_s sl_rem_u sl_signature_of sl_check_operands sl_calculate sl_l_is_integer sl_l_cell sl_l_signed sl_l_value sl_l_quotient sl_l_due sl_l_told sl_l_same sl_law : Array (Option Value)}
    {oc_width kV_width dc_width pm_width cd_width ct_width oc_unsigned kV_unsigned dc_unsigned pm_unsigned cd_unsigned ct_unsigned oc_extend kV_extend dc_extend pm_extend cd_extend ct_extend oc_signed kV_signed dc_signed pm_signed cd_signed ct_signed oc_in_range kV_in_range dc_in_range pm_in_range cd_in_range ct_in_range oc_add kV_add dc_add pm_add cd_add ct_add oc_sub kV_sub dc_sub pm_sub cd_sub ct_sub oc_mul kV_mul dc_mul pm_mul cd_mul ct_mul oc_quotient kV_quotient dc_quotient pm_quotient cd_quotient ct_quotient oc_div_s kV_div_s dc_div_s pm_div_s cd_div_s ct_div_s oc_div_u kV_div_u dc_div_u pm_div_u cd_div_u ct_div_u oc_rem_s kV_rem_s dc_rem_s pm_rem_s cd_rem_s ct_rem_s oc_rem_u kV_rem_u dc_rem_u pm_rem_u cd_rem_u ct_rem_u oc_signature_of kV_signature_of dc_signature_of pm_signature_of cd_signature_of ct_signature_of oc_check_operands kV_check_operands dc_check_operands pm_check_operands cd_check_operands ct_check_operands oc_calculate kV_calculate dc_calculate pm_calculate cd_calculate ct_calculate oc_l_is_integer kV_l_is_integer dc_l_is_integer pm_l_is_integer cd_l_is_integer ct_l_is_integer oc_l_cell kV_l_cell dc_l_cell pm_l_cell cd_l_cell ct_l_cell oc_l_signed kV_l_signed dc_l_signed pm_l_signed cd_l_signed ct_l_signed oc_l_value kV_l_value dc_l_value pm_l_value cd_l_value ct_l_value oc_l_quotient kV_l_quotient dc_l_quotient pm_l_quotient cd_l_quotient ct_l_quotient oc_l_due kV_l_due dc_l_due pm_l_due cd_l_due ct_l_due oc_l_told kV_l_told dc_l_told pm_l_told cd_l_told ct_l_told oc_l_same kV_l_same dc_l_same pm_l_same cd_l_same ct_l_same oc_law kV_law dc_law pm_law cd_law ct_law : Value}
    {od_init_Trap an_init_Trap : Option Addr} {sl_init_Trap : Array (Option Value)}
    {oc_init_Trap kV_init_Trap dc_init_Trap pm_init_Trap cd_init_Trap ct_init_Trap : Value}
    (cg_HostError : PySem.W.nsIn K mainGlobals "HostError" = some (some (.ref c_HostError)))
    (cg_Trap : PySem.W.nsIn K mainGlobals "Trap" = some (some (.ref c_Trap)))
    {nm_Trap q_Trap : Str} {N_Trap : Addr} {bs_Trap : List Value} {sn_Trap : List Str} {sub_Trap : List Value} {ab_Trap : Bool} {col_Trap : Option Bool} {dd_Trap : Option Addr} {m0_Trap m1_Trap m2_Trap m3_Trap m5_Trap : Option Value}
    (xL_Trap : K.lookup c_Trap = some (excClassObj nm_Trap q_Trap c_Trap N_Trap bs_Trap [.ref c_HostError, .type "ValueError", .type "Exception", .type "BaseException", .type "object"] true sn_Trap sub_Trap ab_Trap col_Trap dd_Trap m0_Trap m1_Trap m2_Trap m3_Trap m5_Trap "ValueError.__new__"))
    (sa_Trap : PySem.W.findIn K (.ref c_Trap) "__setattr__" = some (some (.builtin "object.__setattr__")))
    (ga_Trap : PySem.W.findIn K (.ref c_Trap) "__getattribute__" = some (some (.builtin "BaseException.__getattribute__")))
    (gg_Trap : PySem.W.findIn K (.ref c_Trap) "__getattr__" = some none)
    (nf_Trap : PySem.W.findIn K (.ref c_Trap) "reason" = some none)
    (ii_Trap : PySem.W.findIn K (.ref c_Trap) "__init__" = some (some (.ref fi_Trap)))
    (ti_Trap : PySem.W.typeIn K (.ref fi_Trap) = some (.type "function"))
    (kc_Trap : PySem.W.keepIn K (.ref c_Trap) = true)
    (eb_Trap : PySem.W.subIn K (.ref c_Trap) (.type "BaseException") = some true)
    (ty_Trap : PySem.W.typeIn K (.ref c_Trap) = some (.type "type"))
    (hd_Trap : PySem.W.hasDictIn K c_Trap = true)
    (l_init_Trap : K.lookup fi_Trap = some ⟨oc_init_Trap, od_init_Trap, .func (PySem.W.fnOf "__init__" "Trap.__init__" (defArgs s_init_Trap) (defBody s_init_Trap) (defScope s_init_Trap) .none kV_init_Trap dc_init_Trap pm_init_Trap an_init_Trap cd_init_Trap ct_init_Trap), sl_init_Trap⟩)
    (c_init_Trap : PySem.W.codeIn K cd_init_Trap "Trap.__init__" = true)
    (k_init_Trap : PySem.W.keepIn K (.ref fi_Trap) = true)
    (a_width : PySem.W.nsIn K mainGlobals "width" = some (some (.ref f_width)))
    (l_width : K.lookup f_width = some ⟨oc_width, od_width, .func (PySem.W.fnOf "width" "width" (defArgs s_width) (defBody s_width) (defScope s_width) .none kV_width dc_width pm_width an_width cd_width ct_width), sl_width⟩)
    (c_width : PySem.W.codeIn K cd_width "width" = true) (k_width : PySem.W.keepIn K (.ref f_width) = true)
    (a_unsigned : PySem.W.nsIn K mainGlobals "unsigned" = some (some (.ref f_unsigned)))
    (l_unsigned : K.lookup f_unsigned = some ⟨oc_unsigned, od_unsigned, .func (PySem.W.fnOf "unsigned" "unsigned" (defArgs s_unsigned) (defBody s_unsigned) (defScope s_unsigned) .none kV_unsigned dc_unsigned pm_unsigned an_unsigned cd_unsigned ct_unsigned), sl_unsigned⟩)
    (c_unsigned : PySem.W.codeIn K cd_unsigned "unsigned" = true) (k_unsigned : PySem.W.keepIn K (.ref f_unsigned) = true)
    (a_extend : PySem.W.nsIn K mainGlobals "extend" = some (some (.ref f_extend)))
    (l_extend : K.lookup f_extend = some ⟨oc_extend, od_extend, .func (PySem.W.fnOf "extend" "extend" (defArgs s_extend) (defBody s_extend) (defScope s_extend) .none kV_extend dc_extend pm_extend an_extend cd_extend ct_extend), sl_extend⟩)
    (c_extend : PySem.W.codeIn K cd_extend "extend" = true) (k_extend : PySem.W.keepIn K (.ref f_extend) = true)
    (a_signed : PySem.W.nsIn K mainGlobals "signed" = some (some (.ref f_signed)))
    (l_signed : K.lookup f_signed = some ⟨oc_signed, od_signed, .func (PySem.W.fnOf "signed" "signed" (defArgs s_signed) (defBody s_signed) (defScope s_signed) .none kV_signed dc_signed pm_signed an_signed cd_signed ct_signed), sl_signed⟩)
    (c_signed : PySem.W.codeIn K cd_signed "signed" = true) (k_signed : PySem.W.keepIn K (.ref f_signed) = true)
    (a_in_range : PySem.W.nsIn K mainGlobals "in_range" = some (some (.ref f_in_range)))
    (l_in_range : K.lookup f_in_range = some ⟨oc_in_range, od_in_range, .func (PySem.W.fnOf "in_range" "in_range" (defArgs s_in_range) (defBody s_in_range) (defScope s_in_range) .none kV_in_range dc_in_range pm_in_range an_in_range cd_in_range ct_in_range), sl_in_range⟩)
    (c_in_range : PySem.W.codeIn K cd_in_range "in_range" = true) (k_in_range : PySem.W.keepIn K (.ref f_in_range) = true)
    (a_add : PySem.W.nsIn K mainGlobals "add" = some (some (.ref f_add)))
    (l_add : K.lookup f_add = some ⟨oc_add, od_add, .func (PySem.W.fnOf "add" "add" (defArgs s_add) (defBody s_add) (defScope s_add) .none kV_add dc_add pm_add an_add cd_add ct_add), sl_add⟩)
    (c_add : PySem.W.codeIn K cd_add "add" = true) (k_add : PySem.W.keepIn K (.ref f_add) = true)
    (a_sub : PySem.W.nsIn K mainGlobals "sub" = some (some (.ref f_sub)))
    (l_sub : K.lookup f_sub = some ⟨oc_sub, od_sub, .func (PySem.W.fnOf "sub" "sub" (defArgs s_sub) (defBody s_sub) (defScope s_sub) .none kV_sub dc_sub pm_sub an_sub cd_sub ct_sub), sl_sub⟩)
    (c_sub : PySem.W.codeIn K cd_sub "sub" = true) (k_sub : PySem.W.keepIn K (.ref f_sub) = true)
    (a_mul : PySem.W.nsIn K mainGlobals "mul" = some (some (.ref f_mul)))
    (l_mul : K.lookup f_mul = some ⟨oc_mul, od_mul, .func (PySem.W.fnOf "mul" "mul" (defArgs s_mul) (defBody s_mul) (defScope s_mul) .none kV_mul dc_mul pm_mul an_mul cd_mul ct_mul), sl_mul⟩)
    (c_mul : PySem.W.codeIn K cd_mul "mul" = true) (k_mul : PySem.W.keepIn K (.ref f_mul) = true)
    (a_quotient : PySem.W.nsIn K mainGlobals "quotient" = some (some (.ref f_quotient)))
    (l_quotient : K.lookup f_quotient = some ⟨oc_quotient, od_quotient, .func (PySem.W.fnOf "quotient" "quotient" (defArgs s_quotient) (defBody s_quotient) (defScope s_quotient) .none kV_quotient dc_quotient pm_quotient an_quotient cd_quotient ct_quotient), sl_quotient⟩)
    (c_quotient : PySem.W.codeIn K cd_quotient "quotient" = true) (k_quotient : PySem.W.keepIn K (.ref f_quotient) = true)
    (a_div_s : PySem.W.nsIn K mainGlobals "div_s" = some (some (.ref f_div_s)))
    (l_div_s : K.lookup f_div_s = some ⟨oc_div_s, od_div_s, .func (PySem.W.fnOf "div_s" "div_s" (defArgs s_div_s) (defBody s_div_s) (defScope s_div_s) .none kV_div_s dc_div_s pm_div_s an_div_s cd_div_s ct_div_s), sl_div_s⟩)
    (c_div_s : PySem.W.codeIn K cd_div_s "div_s" = true) (k_div_s : PySem.W.keepIn K (.ref f_div_s) = true)
    (a_div_u : PySem.W.nsIn K mainGlobals "div_u" = some (some (.ref f_div_u)))
    (l_div_u : K.lookup f_div_u = some ⟨oc_div_u, od_div_u, .func (PySem.W.fnOf "div_u" "div_u" (defArgs s_div_u) (defBody s_div_u) (defScope s_div_u) .none kV_div_u dc_div_u pm_div_u an_div_u cd_div_u ct_div_u), sl_div_u⟩)
    (c_div_u : PySem.W.codeIn K cd_div_u "div_u" = true) (k_div_u : PySem.W.keepIn K (.ref f_div_u) = true)
    (a_rem_s : PySem.W.nsIn K mainGlobals "rem_s" = some (some (.ref f_rem_s)))
    (l_rem_s : K.lookup f_rem_s = some ⟨oc_rem_s, od_rem_s, .func (PySem.W.fnOf "rem_s" "rem_s" (defArgs s_rem_s) (defBody s_rem_s) (defScope s_rem_s) .none kV_rem_s dc_rem_s pm_rem_s an_rem_s cd_rem_s ct_rem_s), sl_rem_s⟩)
    (c_rem_s : PySem.W.codeIn K cd_rem_s "rem_s" = true) (k_rem_s : PySem.W.keepIn K (.ref f_rem_s) = true)
    (a_rem_u : PySem.W.nsIn K mainGlobals "rem_u" = some (some (.ref f_rem_u)))
    (l_rem_u : K.lookup f_rem_u = some ⟨oc_rem_u, od_rem_u, .func (PySem.W.fnOf "rem_u" "rem_u" (defArgs s_rem_u) (defBody s_rem_u) (defScope s_rem_u) .none kV_rem_u dc_rem_u pm_rem_u an_rem_u cd_rem_u ct_rem_u), sl_rem_u⟩)
    (c_rem_u : PySem.W.codeIn K cd_rem_u "rem_u" = true) (k_rem_u : PySem.W.keepIn K (.ref f_rem_u) = true)
    (a_bit_and : PySem.W.nsIn K mainGlobals "bit_and" = some (some (.ref f_bit_and)))
    (a_bit_or : PySem.W.nsIn K mainGlobals "bit_or" = some (some (.ref f_bit_or)))
    (a_bit_xor : PySem.W.nsIn K mainGlobals "bit_xor" = some (some (.ref f_bit_xor)))
    (a_shl : PySem.W.nsIn K mainGlobals "shl" = some (some (.ref f_shl)))
    (a_shr_s : PySem.W.nsIn K mainGlobals "shr_s" = some (some (.ref f_shr_s)))
    (a_shr_u : PySem.W.nsIn K mainGlobals "shr_u" = some (some (.ref f_shr_u)))
    (a_rotl : PySem.W.nsIn K mainGlobals "rotl" = some (some (.ref f_rotl)))
    (a_rotr : PySem.W.nsIn K mainGlobals "rotr" = some (some (.ref f_rotr)))
    (a_eq : PySem.W.nsIn K mainGlobals "eq" = some (some (.ref f_eq)))
    (a_ne : PySem.W.nsIn K mainGlobals "ne" = some (some (.ref f_ne)))
    (a_lt_s : PySem.W.nsIn K mainGlobals "lt_s" = some (some (.ref f_lt_s)))
    (a_gt_s : PySem.W.nsIn K mainGlobals "gt_s" = some (some (.ref f_gt_s)))
    (a_le_s : PySem.W.nsIn K mainGlobals "le_s" = some (some (.ref f_le_s)))
    (a_ge_s : PySem.W.nsIn K mainGlobals "ge_s" = some (some (.ref f_ge_s)))
    (a_lt_u : PySem.W.nsIn K mainGlobals "lt_u" = some (some (.ref f_lt_u)))
    (a_gt_u : PySem.W.nsIn K mainGlobals "gt_u" = some (some (.ref f_gt_u)))
    (a_le_u : PySem.W.nsIn K mainGlobals "le_u" = some (some (.ref f_le_u)))
    (a_ge_u : PySem.W.nsIn K mainGlobals "ge_u" = some (some (.ref f_ge_u)))
    (a_clz : PySem.W.nsIn K mainGlobals "clz" = some (some (.ref f_clz)))
    (a_ctz : PySem.W.nsIn K mainGlobals "ctz" = some (some (.ref f_ctz)))
    (a_popcnt : PySem.W.nsIn K mainGlobals "popcnt" = some (some (.ref f_popcnt)))
    (a_extend8_s : PySem.W.nsIn K mainGlobals "extend8_s" = some (some (.ref f_extend8_s)))
    (a_extend16_s : PySem.W.nsIn K mainGlobals "extend16_s" = some (some (.ref f_extend16_s)))
    (a_extend32_s : PySem.W.nsIn K mainGlobals "extend32_s" = some (some (.ref f_extend32_s)))
    (a_extend_u : PySem.W.nsIn K mainGlobals "extend_u" = some (some (.ref f_extend_u)))
    (a_signature_of : PySem.W.nsIn K mainGlobals "signature_of" = some (some (.ref f_signature_of)))
    (l_signature_of : K.lookup f_signature_of = some ⟨oc_signature_of, od_signature_of, .func (PySem.W.fnOf "signature_of" "signature_of" (defArgs s_signature_of) (defBody s_signature_of) (defScope s_signature_of) .none kV_signature_of dc_signature_of pm_signature_of an_signature_of cd_signature_of ct_signature_of), sl_signature_of⟩)
    (c_signature_of : PySem.W.codeIn K cd_signature_of "signature_of" = true) (k_signature_of : PySem.W.keepIn K (.ref f_signature_of) = true)
    (a_check_operands : PySem.W.nsIn K mainGlobals "check_operands" = some (some (.ref f_check_operands)))
    (l_check_operands : K.lookup f_check_operands = some ⟨oc_check_operands, od_check_operands, .func (PySem.W.fnOf "check_operands" "check_operands" (defArgs s_check_operands) (defBody s_check_operands) (defScope s_check_operands) .none kV_check_operands dc_check_operands pm_check_operands an_check_operands cd_check_operands ct_check_operands), sl_check_operands⟩)
    (c_check_operands : PySem.W.codeIn K cd_check_operands "check_operands" = true) (k_check_operands : PySem.W.keepIn K (.ref f_check_operands) = true)
    (a_calculate : PySem.W.nsIn K mainGlobals "calculate" = some (some (.ref f_calculate)))
    (l_calculate : K.lookup f_calculate = some ⟨oc_calculate, od_calculate, .func (PySem.W.fnOf "calculate" "calculate" (defArgs s_calculate) (defBody s_calculate) (defScope s_calculate) .none kV_calculate dc_calculate pm_calculate an_calculate cd_calculate ct_calculate), sl_calculate⟩)
    (c_calculate : PySem.W.codeIn K cd_calculate "calculate" = true) (k_calculate : PySem.W.keepIn K (.ref f_calculate) = true)
    (a_l_is_integer : PySem.W.nsIn K mainGlobals "_law_is_integer" = some (some (.ref f_l_is_integer)))
    (l_l_is_integer : K.lookup f_l_is_integer = some ⟨oc_l_is_integer, od_l_is_integer, .func (PySem.W.fnOf "_law_is_integer" "_law_is_integer" (defArgs s_l_is_integer) (defBody s_l_is_integer) (defScope s_l_is_integer) .none kV_l_is_integer dc_l_is_integer pm_l_is_integer an_l_is_integer cd_l_is_integer ct_l_is_integer), sl_l_is_integer⟩)
    (c_l_is_integer : PySem.W.codeIn K cd_l_is_integer "_law_is_integer" = true) (k_l_is_integer : PySem.W.keepIn K (.ref f_l_is_integer) = true)
    (a_l_cell : PySem.W.nsIn K mainGlobals "_law_cell" = some (some (.ref f_l_cell)))
    (l_l_cell : K.lookup f_l_cell = some ⟨oc_l_cell, od_l_cell, .func (PySem.W.fnOf "_law_cell" "_law_cell" (defArgs s_l_cell) (defBody s_l_cell) (defScope s_l_cell) .none kV_l_cell dc_l_cell pm_l_cell an_l_cell cd_l_cell ct_l_cell), sl_l_cell⟩)
    (c_l_cell : PySem.W.codeIn K cd_l_cell "_law_cell" = true) (k_l_cell : PySem.W.keepIn K (.ref f_l_cell) = true)
    (a_l_signed : PySem.W.nsIn K mainGlobals "_law_signed" = some (some (.ref f_l_signed)))
    (l_l_signed : K.lookup f_l_signed = some ⟨oc_l_signed, od_l_signed, .func (PySem.W.fnOf "_law_signed" "_law_signed" (defArgs s_l_signed) (defBody s_l_signed) (defScope s_l_signed) .none kV_l_signed dc_l_signed pm_l_signed an_l_signed cd_l_signed ct_l_signed), sl_l_signed⟩)
    (c_l_signed : PySem.W.codeIn K cd_l_signed "_law_signed" = true) (k_l_signed : PySem.W.keepIn K (.ref f_l_signed) = true)
    (a_l_value : PySem.W.nsIn K mainGlobals "_law_value" = some (some (.ref f_l_value)))
    (l_l_value : K.lookup f_l_value = some ⟨oc_l_value, od_l_value, .func (PySem.W.fnOf "_law_value" "_law_value" (defArgs s_l_value) (defBody s_l_value) (defScope s_l_value) .none kV_l_value dc_l_value pm_l_value an_l_value cd_l_value ct_l_value), sl_l_value⟩)
    (c_l_value : PySem.W.codeIn K cd_l_value "_law_value" = true) (k_l_value : PySem.W.keepIn K (.ref f_l_value) = true)
    (a_l_quotient : PySem.W.nsIn K mainGlobals "_law_quotient" = some (some (.ref f_l_quotient)))
    (l_l_quotient : K.lookup f_l_quotient = some ⟨oc_l_quotient, od_l_quotient, .func (PySem.W.fnOf "_law_quotient" "_law_quotient" (defArgs s_l_quotient) (defBody s_l_quotient) (defScope s_l_quotient) .none kV_l_quotient dc_l_quotient pm_l_quotient an_l_quotient cd_l_quotient ct_l_quotient), sl_l_quotient⟩)
    (c_l_quotient : PySem.W.codeIn K cd_l_quotient "_law_quotient" = true) (k_l_quotient : PySem.W.keepIn K (.ref f_l_quotient) = true)
    (a_l_due : PySem.W.nsIn K mainGlobals "_law_due" = some (some (.ref f_l_due)))
    (l_l_due : K.lookup f_l_due = some ⟨oc_l_due, od_l_due, .func (PySem.W.fnOf "_law_due" "_law_due" (defArgs s_l_due) (defBody s_l_due) (defScope s_l_due) .none kV_l_due dc_l_due pm_l_due an_l_due cd_l_due ct_l_due), sl_l_due⟩)
    (c_l_due : PySem.W.codeIn K cd_l_due "_law_due" = true) (k_l_due : PySem.W.keepIn K (.ref f_l_due) = true)
    (a_l_told : PySem.W.nsIn K mainGlobals "_law_told" = some (some (.ref f_l_told)))
    (l_l_told : K.lookup f_l_told = some ⟨oc_l_told, od_l_told, .func (PySem.W.fnOf "_law_told" "_law_told" (defArgs s_l_told) (defBody s_l_told) (defScope s_l_told) .none kV_l_told dc_l_told pm_l_told an_l_told cd_l_told ct_l_told), sl_l_told⟩)
    (c_l_told : PySem.W.codeIn K cd_l_told "_law_told" = true) (k_l_told : PySem.W.keepIn K (.ref f_l_told) = true)
    (a_l_same : PySem.W.nsIn K mainGlobals "_law_same" = some (some (.ref f_l_same)))
    (l_l_same : K.lookup f_l_same = some ⟨oc_l_same, od_l_same, .func (PySem.W.fnOf "_law_same" "_law_same" (defArgs s_l_same) (defBody s_l_same) (defScope s_l_same) .none kV_l_same dc_l_same pm_l_same an_l_same cd_l_same ct_l_same), sl_l_same⟩)
    (c_l_same : PySem.W.codeIn K cd_l_same "_law_same" = true) (k_l_same : PySem.W.keepIn K (.ref f_l_same) = true)
    (a_law : PySem.W.nsIn K mainGlobals "law" = some (some (.ref f_law)))
    (l_law : K.lookup f_law = some ⟨oc_law, od_law, .func (PySem.W.fnOf "law" "law" (defArgs s_law) (defBody s_law) (defScope s_law) .none kV_law dc_law pm_law an_law cd_law ct_law), sl_law⟩)
    (c_law : PySem.W.codeIn K cd_law "law" = true) (k_law : PySem.W.keepIn K (.ref f_law) = true)
    (z_abs : PySem.W.nsIn K mainGlobals "abs" = some none)
    (z_bool : PySem.W.nsIn K mainGlobals "bool" = some none)
    (z_int : PySem.W.nsIn K mainGlobals "int" = some none)
    (z_isinstance : PySem.W.nsIn K mainGlobals "isinstance" = some none)
    (z_len : PySem.W.nsIn K mainGlobals "len" = some none)
    (z_max : PySem.W.nsIn K mainGlobals "max" = some none)
    (z_min : PySem.W.nsIn K mainGlobals "min" = some none)
    (z_range : PySem.W.nsIn K mainGlobals "range" = some none)
    (z_str : PySem.W.nsIn K mainGlobals "str" = some none)
    (z_zip : PySem.W.nsIn K mainGlobals "zip" = some none)
    {a_ARITHMETIC : Addr} {es_ARITHMETIC : Array DictEntry} {n_ARITHMETIC : Nat}
    (m_ARITHMETIC : PySem.W.nsIn K mainGlobals "ARITHMETIC" = some (some (.ref a_ARITHMETIC)))
    (l_ARITHMETIC : K.lookup a_ARITHMETIC = some ⟨.type "dict", none, .dict es_ARITHMETIC n_ARITHMETIC, #[]⟩)
    (en_ARITHMETIC : EntsK w.params [("add", .ref f_add), ("sub", .ref f_sub), ("mul", .ref f_mul), ("div_s", .ref f_div_s), ("div_u", .ref f_div_u), ("rem_s", .ref f_rem_s), ("rem_u", .ref f_rem_u), ("and", .ref f_bit_and), ("or", .ref f_bit_or), ("xor", .ref f_bit_xor), ("shl", .ref f_shl), ("shr_s", .ref f_shr_s), ("shr_u", .ref f_shr_u), ("rotl", .ref f_rotl), ("rotr", .ref f_rotr)] es_ARITHMETIC.toList)
    (lo_ARITHMETIC : (a_ARITHMETIC == sysModules) = false)
    {a_COMPARISONS : Addr} {es_COMPARISONS : Array DictEntry} {n_COMPARISONS : Nat}
    (m_COMPARISONS : PySem.W.nsIn K mainGlobals "COMPARISONS" = some (some (.ref a_COMPARISONS)))
    (l_COMPARISONS : K.lookup a_COMPARISONS = some ⟨.type "dict", none, .dict es_COMPARISONS n_COMPARISONS, #[]⟩)
    (en_COMPARISONS : EntsK w.params [("eq", .ref f_eq), ("ne", .ref f_ne), ("lt_s", .ref f_lt_s), ("lt_u", .ref f_lt_u), ("gt_s", .ref f_gt_s), ("gt_u", .ref f_gt_u), ("le_s", .ref f_le_s), ("le_u", .ref f_le_u), ("ge_s", .ref f_ge_s), ("ge_u", .ref f_ge_u)] es_COMPARISONS.toList)
    (lo_COMPARISONS : (a_COMPARISONS == sysModules) = false)
    {a_CONVERSIONS : Addr} {es_CONVERSIONS : Array DictEntry} {n_CONVERSIONS : Nat}
    (m_CONVERSIONS : PySem.W.nsIn K mainGlobals "CONVERSIONS" = some (some (.ref a_CONVERSIONS)))
    (l_CONVERSIONS : K.lookup a_CONVERSIONS = some ⟨.type "dict", none, .dict es_CONVERSIONS n_CONVERSIONS, #[]⟩)
    (en_CONVERSIONS : EntsK w.params [("i32.wrap_i64", .ref f_extend32_s), ("i64.extend_i32_s", .ref f_extend32_s), ("i64.extend_i32_u", .ref f_extend_u)] es_CONVERSIONS.toList)
    (lo_CONVERSIONS : (a_CONVERSIONS == sysModules) = false)
    {a_INSTRUCTIONS : Addr} {its_INSTRUCTIONS : Array Value} {n_INSTRUCTIONS : Nat} {od_INSTRUCTIONS : Option Addr} {sl_INSTRUCTIONS : Array (Option Value)}
    (m_INSTRUCTIONS : PySem.W.nsIn K mainGlobals "INSTRUCTIONS" = some (some (.ref a_INSTRUCTIONS)))
    (l_INSTRUCTIONS : K.lookup a_INSTRUCTIONS = some ⟨.type "tuple", od_INSTRUCTIONS, .seq its_INSTRUCTIONS n_INSTRUCTIONS, sl_INSTRUCTIONS⟩)
    (vl_INSTRUCTIONS : Vals (kc_INSTRUCTIONS.map V.str) its_INSTRUCTIONS.toList)
    (sz_INSTRUCTIONS : its_INSTRUCTIONS.size ≤ 100000)
    {a_WIDTHS : Addr} {es_WIDTHS : Array DictEntry} {n_WIDTHS : Nat}
    (m_WIDTHS : PySem.W.nsIn K mainGlobals "WIDTHS" = some (some (.ref a_WIDTHS)))
    (l_WIDTHS : K.lookup a_WIDTHS = some ⟨.type "dict", none, .dict es_WIDTHS n_WIDTHS, #[]⟩)
    (en_WIDTHS : EntsK w.params [("i32", .int (32)), ("i64", .int (64))] es_WIDTHS.toList)
    (lo_WIDTHS : (a_WIDTHS == sysModules) = false)
    (ic_Trap : PySem.W.isClsIn K c_Trap = true)
    (sc_Trap_Trap : PySem.W.subIn K (.ref c_Trap) (.ref c_Trap) = some true)
    : ∃ fd : FuncData, (∀ (s : Shared) (v : Value), BindsTo s fd ⟨[v], []⟩ [("_law_script", v)]) ∧ ∀ base : Heap, K.In base → base.Ns mainGlobals mg → FnOk l.prog w K mg base CX0 7 fa fd ["_law_script"] (sp_law K) := by
  have e := hfa.symm.trans (PySem.W.mg_of X G a_law)
  cases e
  have T : Tx w K mg (fun n => match n with | 0 => f_width | 1 => f_unsigned | 2 => f_extend | 3 => f_signed | 4 => f_in_range | 5 => f_add | 6 => f_sub | 7 => f_mul | 8 => f_quotient | 9 => f_div_s | 10 => f_div_u | 11 => f_rem_s | 12 => f_rem_u | 13 => f_bit_and | 14 => f_bit_or | 15 => f_bit_xor | 17 => f_shl | 18 => f_shr_s | 19 => f_shr_u | 20 => f_rotl | 21 => f_rotr | 22 => f_eq | 23 => f_ne | 24 => f_lt_s | 25 => f_gt_s | 26 => f_le_s | 27 => f_ge_s | 28 => f_lt_u | 29 => f_gt_u | 30 => f_le_u | 31 => f_ge_u | 33 => f_clz | 34 => f_ctz | 35 => f_popcnt | 36 => f_extend8_s | 37 => f_extend16_s | 38 => f_extend32_s | 39 => f_extend_u | 40 => f_signature_of | 41 => f_check_operands | 42 => f_calculate | 43 => f_l_is_integer | 44 => f_l_cell | 45 => f_l_signed | 46 => f_l_value | 47 => f_l_quotient | 48 => f_l_due | 49 => f_l_told | 50 => f_l_same | 1000 => c_HostError | 1001 => c_Trap | 2001 => fi_Trap | _ => f_width) := ⟨PySem.W.mg_none_of X G z_abs, PySem.W.mg_none_of X G z_bool, PySem.W.mg_none_of X G z_int, PySem.W.mg_none_of X G z_isinstance, PySem.W.mg_none_of X G z_len, PySem.W.mg_none_of X G z_max, PySem.W.mg_none_of X G z_min, PySem.W.mg_none_of X G z_range, PySem.W.mg_none_of X G z_str, PySem.W.mg_none_of X G z_zip, ⟨_, PySem.W.mg_of X G m_ARITHMETIC, ⟨⟨_, _, l_ARITHMETIC, en_ARITHMETIC⟩, lo_ARITHMETIC⟩⟩, ⟨_, PySem.W.mg_of X G m_COMPARISONS, ⟨⟨_, _, l_COMPARISONS, en_COMPARISONS⟩, lo_COMPARISONS⟩⟩, ⟨_, PySem.W.mg_of X G m_CONVERSIONS, ⟨⟨_, _, l_CONVERSIONS, en_CONVERSIONS⟩, lo_CONVERSIONS⟩⟩, ⟨_, PySem.W.mg_of X G m_INSTRUCTIONS, sqt_k l_INSTRUCTIONS sz_INSTRUCTIONS vl_INSTRUCTIONS⟩, ⟨_, PySem.W.mg_of X G m_WIDTHS, ⟨⟨_, _, l_WIDTHS, en_WIDTHS⟩, lo_WIDTHS⟩⟩, ⟨PySem.W.mg_of X G cg_Trap, ⟨⟨_, _, _, _, _, _, _, _, _, _, _, _, _, _, _, xL_Trap, rfl⟩, sa_Trap, eb_Trap, ty_Trap, kc_Trap⟩, ii_Trap, ti_Trap, nf_Trap, ⟨ga_Trap, gg_Trap, eb_Trap, hd_Trap⟩⟩, PySem.W.mg_of X G cg_Trap, exm_of eb_Trap eb_Trap ic_Trap ty_Trap sc_Trap_Trap⟩
  have F_width := fun_mk (st := s_width) l_width c_width k_width
  have b_width := F_width.binds (ps := ["kind"]) fun _ _ _ _ _ _ us hl => match us, hl with | [_], _ => rfl
  have F_unsigned := fun_mk (st := s_unsigned) l_unsigned c_unsigned k_unsigned
  have b_unsigned := F_unsigned.binds (ps := ["kind", "number"]) fun _ _ _ _ _ _ us hl => match us, hl with | [_, _], _ => rfl
  have F_extend := fun_mk (st := s_extend) l_extend c_extend k_extend
  have b_extend := F_extend.binds (ps := ["number", "bits"]) fun _ _ _ _ _ _ us hl => match us, hl with | [_, _], _ => rfl
  have F_signed := fun_mk (st := s_signed) l_signed c_signed k_signed
  have b_signed := F_signed.binds (ps := ["kind", "number"]) fun _ _ _ _ _ _ us hl => match us, hl with | [_, _], _ => rfl
  have F_in_range := fun_mk (st := s_in_range) l_in_range c_in_range k_in_range
  have b_in_range := F_in_range.binds (ps := ["kind", "number"]) fun _ _ _ _ _ _ us hl => match us, hl with | [_, _], _ => rfl
  have F_add := fun_mk (st := s_add) l_add c_add k_add
  have b_add := F_add.binds (ps := ["kind", "a", "b"]) fun _ _ _ _ _ _ us hl => match us, hl with | [_, _, _], _ => rfl
  have F_sub := fun_mk (st := s_sub) l_sub c_sub k_sub
  have b_sub := F_sub.binds (ps := ["kind", "a", "b"]) fun _ _ _ _ _ _ us hl => match us, hl with | [_, _, _], _ => rfl
  have F_mul := fun_mk (st := s_mul) l_mul c_mul k_mul
  have b_mul := F_mul.binds (ps := ["kind", "a", "b"]) fun _ _ _ _ _ _ us hl => match us, hl with | [_, _, _], _ => rfl
  have F_quotient := fun_mk (st := s_quotient) l_quotient c_quotient k_quotient
  have b_quotient := F_quotient.binds (ps := ["a", "b"]) fun _ _ _ _ _ _ us hl => match us, hl with | [_, _], _ => rfl
  have F_div_s := fun_mk (st := s_div_s) l_div_s c_div_s k_div_s
  have b_div_s := F_div_s.binds (ps := ["kind", "a", "b"]) fun _ _ _ _ _ _ us hl => match us, hl with | [_, _, _], _ => rfl
  have F_div_u := fun_mk (st := s_div_u) l_div_u c_div_u k_div_u
  have b_div_u := F_div_u.binds (ps := ["kind", "a", "b"]) fun _ _ _ _ _ _ us hl => match us, hl with | [_, _, _], _ => rfl
  have F_rem_s := fun_mk (st := s_rem_s) l_rem_s c_rem_s k_rem_s
  have b_rem_s := F_rem_s.binds (ps := ["kind", "a", "b"]) fun _ _ _ _ _ _ us hl => match us, hl with | [_, _, _], _ => rfl
  have F_rem_u := fun_mk (st := s_rem_u) l_rem_u c_rem_u k_rem_u
  have b_rem_u := F_rem_u.binds (ps := ["kind", "a", "b"]) fun _ _ _ _ _ _ us hl => match us, hl with | [_, _, _], _ => rfl
  have F_signature_of := fun_mk (st := s_signature_of) l_signature_of c_signature_of k_signature_of
  have b_signature_of := F_signature_of.binds (ps := ["name"]) fun _ _ _ _ _ _ us hl => match us, hl with | [_], _ => rfl
  have F_check_operands := fun_mk (st := s_check_operands) l_check_operands c_check_operands k_check_operands
  have b_check_operands := F_check_operands.binds (ps := ["params", "operands"]) fun _ _ _ _ _ _ us hl => match us, hl with | [_, _], _ => rfl
  have F_calculate := fun_mk (st := s_calculate) l_calculate c_calculate k_calculate
  have b_calculate := F_calculate.binds (ps := ["name", "operands"]) fun _ _ _ _ _ _ us hl => match us, hl with | [_, _], _ => rfl
  have F_l_is_integer := fun_mk (st := s_l_is_integer) l_l_is_integer c_l_is_integer k_l_is_integer
  have b_l_is_integer := F_l_is_integer.binds (ps := ["_law_actual"]) fun _ _ _ _ _ _ us hl => match us, hl with | [_], _ => rfl
  have F_l_cell := fun_mk (st := s_l_cell) l_l_cell c_l_cell k_l_cell
  have b_l_cell := F_l_cell.binds (ps := ["_law_script", "_law_k"]) fun _ _ _ _ _ _ us hl => match us, hl with | [_, _], _ => rfl
  have F_l_signed := fun_mk (st := s_l_signed) l_l_signed c_l_signed k_l_signed
  have b_l_signed := F_l_signed.binds (ps := ["_law_number", "_law_bits"]) fun _ _ _ _ _ _ us hl => match us, hl with | [_, _], _ => rfl
  have F_l_value := fun_mk (st := s_l_value) l_l_value c_l_value k_l_value
  have b_l_value := F_l_value.binds (ps := ["_law_cell_here", "_law_bits"]) fun _ _ _ _ _ _ us hl => match us, hl with | [_, _], _ => rfl
  have F_l_quotient := fun_mk (st := s_l_quotient) l_l_quotient c_l_quotient k_l_quotient
  have b_l_quotient := F_l_quotient.binds (ps := ["_law_a", "_law_b"]) fun _ _ _ _ _ _ us hl => match us, hl with | [_, _], _ => rfl
  have F_l_due := fun_mk (st := s_l_due) l_l_due c_l_due k_l_due
  have b_l_due := F_l_due.binds (ps := ["_law_word", "_law_bits", "_law_a", "_law_b"]) fun _ _ _ _ _ _ us hl => match us, hl with | [_, _, _, _], _ => rfl
  have F_l_told := fun_mk (st := s_l_told) l_l_told c_l_told k_l_told
  have b_l_told := F_l_told.binds (ps := ["_law_name", "_law_operands"]) fun _ _ _ _ _ _ us hl => match us, hl with | [_, _], _ => rfl
  have F_l_same := fun_mk (st := s_l_same) l_l_same c_l_same k_l_same
  have b_l_same := F_l_same.binds (ps := ["_law_told_here", "_law_due_here"]) fun _ _ _ _ _ _ us hl => match us, hl with | [_, _], _ => rfl
  have F_law := fun_mk (st := s_law) l_law c_law k_law
  have F_init_Trap := fun_mk (st := s_init_Trap) l_init_Trap c_init_Trap k_init_Trap
  have b_init_Trap := F_init_Trap.binds (ps := ["self", "reason"]) fun _ _ _ _ _ _ us hl => match us, hl with | [_, _], _ => rfl
  refine ⟨PySem.W.fnOf "law" "law" (defArgs s_law) (defBody s_law) (defScope s_law) .none kV_law dc_law pm_law an_law cd_law ct_law, fun s v => .of_eq rfl, fun base _ _ => ?_⟩
  have O_init_Trap : InitOk l.prog w K mg base fi_Trap _ ["self", "reason"] (sp_init1 K "reason") := ⟨ok_init_Trap F_init_Trap, b_init_Trap⟩
  have O_width : Df l.prog w K mg base 1 "width" f_width _ ["kind"] (sp_width K) := ⟨ok_width F_width T, PySem.W.mg_of X G a_width, F_width.kp, b_width⟩
  have O_unsigned : Df l.prog w K mg base 2 "unsigned" f_unsigned _ ["kind", "number"] (sp_unsigned K) := ⟨ok_unsigned F_unsigned T O_width, PySem.W.mg_of X G a_unsigned, F_unsigned.kp, b_unsigned⟩
  have O_extend : Df l.prog w K mg base 1 "extend" f_extend _ ["number", "bits"] (sp_extend K) := ⟨ok_extend F_extend T, PySem.W.mg_of X G a_extend, F_extend.kp, b_extend⟩
  have O_signed : Df l.prog w K mg base 2 "signed" f_signed _ ["kind", "number"] (sp_signed K) := ⟨ok_signed F_signed T O_width O_extend, PySem.W.mg_of X G a_signed, F_signed.kp, b_signed⟩
  have O_in_range : Df l.prog w K mg base 3 "in_range" f_in_range _ ["kind", "number"] (sp_in_range K) := ⟨ok_in_range F_in_range T O_signed, PySem.W.mg_of X G a_in_range, F_in_range.kp, b_in_range⟩
  have O_add : DfX l.prog w K mg base 3 "add" f_add _ ["kind", "a", "b"] (sp_add K (fun n => match n with | 0 => f_width | 1 => f_unsigned | 2 => f_extend | 3 => f_signed | 4 => f_in_range | 5 => f_add | 6 => f_sub | 7 => f_mul | 8 => f_quotient | 9 => f_div_s | 10 => f_div_u | 11 => f_rem_s | 12 => f_rem_u | 13 => f_bit_and | 14 => f_bit_or | 15 => f_bit_xor | 17 => f_shl | 18 => f_shr_s | 19 => f_shr_u | 20 => f_rotl | 21 => f_rotr | 22 => f_eq | 23 => f_ne | 24 => f_lt_s | 25 => f_gt_s | 26 => f_le_s | 27 => f_ge_s | 28 => f_lt_u | 29 => f_gt_u | 30 => f_le_u | 31 => f_ge_u | 33 => f_clz | 34 => f_ctz | 35 => f_popcnt | 36 => f_extend8_s | 37 => f_extend16_s | 38 => f_extend32_s | 39 => f_extend_u | 40 => f_signature_of | 41 => f_check_operands | 42 => f_calculate | 43 => f_l_is_integer | 44 => f_l_cell | 45 => f_l_signed | 46 => f_l_value | 47 => f_l_quotient | 48 => f_l_due | 49 => f_l_told | 50 => f_l_same | 1000 => c_HostError | 1001 => c_Trap | 2001 => fi_Trap | _ => f_width)) := ⟨ok_add F_add T O_signed, PySem.W.mg_of X G a_add, F_add.kp, b_add⟩
  have O_sub : DfX l.prog w K mg base 3 "sub" f_sub _ ["kind", "a", "b"] (sp_sub K (fun n => match n with | 0 => f_width | 1 => f_unsigned | 2 => f_extend | 3 => f_signed | 4 => f_in_range | 5 => f_add | 6 => f_sub | 7 => f_mul | 8 => f_quotient | 9 => f_div_s | 10 => f_div_u | 11 => f_rem_s | 12 => f_rem_u | 13 => f_bit_and | 14 => f_bit_or | 15 => f_bit_xor | 17 => f_shl | 18 => f_shr_s | 19 => f_shr_u | 20 => f_rotl | 21 => f_rotr | 22 => f_eq | 23 => f_ne | 24 => f_lt_s | 25 => f_gt_s | 26 => f_le_s | 27 => f_ge_s | 28 => f_lt_u | 29 => f_gt_u | 30 => f_le_u | 31 => f_ge_u | 33 => f_clz | 34 => f_ctz | 35 => f_popcnt | 36 => f_extend8_s | 37 => f_extend16_s | 38 => f_extend32_s | 39 => f_extend_u | 40 => f_signature_of | 41 => f_check_operands | 42 => f_calculate | 43 => f_l_is_integer | 44 => f_l_cell | 45 => f_l_signed | 46 => f_l_value | 47 => f_l_quotient | 48 => f_l_due | 49 => f_l_told | 50 => f_l_same | 1000 => c_HostError | 1001 => c_Trap | 2001 => fi_Trap | _ => f_width)) := ⟨ok_sub F_sub T O_signed, PySem.W.mg_of X G a_sub, F_sub.kp, b_sub⟩
  have O_mul : DfX l.prog w K mg base 3 "mul" f_mul _ ["kind", "a", "b"] (sp_mul K (fun n => match n with | 0 => f_width | 1 => f_unsigned | 2 => f_extend | 3 => f_signed | 4 => f_in_range | 5 => f_add | 6 => f_sub | 7 => f_mul | 8 => f_quotient | 9 => f_div_s | 10 => f_div_u | 11 => f_rem_s | 12 => f_rem_u | 13 => f_bit_and | 14 => f_bit_or | 15 => f_bit_xor | 17 => f_shl | 18 => f_shr_s | 19 => f_shr_u | 20 => f_rotl | 21 => f_rotr | 22 => f_eq | 23 => f_ne | 24 => f_lt_s | 25 => f_gt_s | 26 => f_le_s | 27 => f_ge_s | 28 => f_lt_u | 29 => f_gt_u | 30 => f_le_u | 31 => f_ge_u | 33 => f_clz | 34 => f_ctz | 35 => f_popcnt | 36 => f_extend8_s | 37 => f_extend16_s | 38 => f_extend32_s | 39 => f_extend_u | 40 => f_signature_of | 41 => f_check_operands | 42 => f_calculate | 43 => f_l_is_integer | 44 => f_l_cell | 45 => f_l_signed | 46 => f_l_value | 47 => f_l_quotient | 48 => f_l_due | 49 => f_l_told | 50 => f_l_same | 1000 => c_HostError | 1001 => c_Trap | 2001 => fi_Trap | _ => f_width)) := ⟨ok_mul F_mul T O_signed, PySem.W.mg_of X G a_mul, F_mul.kp, b_mul⟩
  have O_quotient : Df l.prog w K mg base 1 "quotient" f_quotient _ ["a", "b"] (sp_quotient K) := ⟨ok_quotient F_quotient T, PySem.W.mg_of X G a_quotient, F_quotient.kp, b_quotient⟩
  have O_div_s : DfX l.prog w K mg base 4 "div_s" f_div_s _ ["kind", "a", "b"] (sp_div_s K (fun n => match n with | 0 => f_width | 1 => f_unsigned | 2 => f_extend | 3 => f_signed | 4 => f_in_range | 5 => f_add | 6 => f_sub | 7 => f_mul | 8 => f_quotient | 9 => f_div_s | 10 => f_div_u | 11 => f_rem_s | 12 => f_rem_u | 13 => f_bit_and | 14 => f_bit_or | 15 => f_bit_xor | 17 => f_shl | 18 => f_shr_s | 19 => f_shr_u | 20 => f_rotl | 21 => f_rotr | 22 => f_eq | 23 => f_ne | 24 => f_lt_s | 25 => f_gt_s | 26 => f_le_s | 27 => f_ge_s | 28 => f_lt_u | 29 => f_gt_u | 30 => f_le_u | 31 => f_ge_u | 33 => f_clz | 34 => f_ctz | 35 => f_popcnt | 36 => f_extend8_s | 37 => f_extend16_s | 38 => f_extend32_s | 39 => f_extend_u | 40 => f_signature_of | 41 => f_check_operands | 42 => f_calculate | 43 => f_l_is_integer | 44 => f_l_cell | 45 => f_l_signed | 46 => f_l_value | 47 => f_l_quotient | 48 => f_l_due | 49 => f_l_told | 50 => f_l_same | 1000 => c_HostError | 1001 => c_Trap | 2001 => fi_Trap | _ => f_width)) := ⟨ok_div_s F_div_s T O_in_range O_quotient O_init_Trap, PySem.W.mg_of X G a_div_s, F_div_s.kp, b_div_s⟩
  have O_div_u : DfX l.prog w K mg base 3 "div_u" f_div_u _ ["kind", "a", "b"] (sp_div_u K (fun n => match n with | 0 => f_width | 1 => f_unsigned | 2 => f_extend | 3 => f_signed | 4 => f_in_range | 5 => f_add | 6 => f_sub | 7 => f_mul | 8 => f_quotient | 9 => f_div_s | 10 => f_div_u | 11 => f_rem_s | 12 => f_rem_u | 13 => f_bit_and | 14 => f_bit_or | 15 => f_bit_xor | 17 => f_shl | 18 => f_shr_s | 19 => f_shr_u | 20 => f_rotl | 21 => f_rotr | 22 => f_eq | 23 => f_ne | 24 => f_lt_s | 25 => f_gt_s | 26 => f_le_s | 27 => f_ge_s | 28 => f_lt_u | 29 => f_gt_u | 30 => f_le_u | 31 => f_ge_u | 33 => f_clz | 34 => f_ctz | 35 => f_popcnt | 36 => f_extend8_s | 37 => f_extend16_s | 38 => f_extend32_s | 39 => f_extend_u | 40 => f_signature_of | 41 => f_check_operands | 42 => f_calculate | 43 => f_l_is_integer | 44 => f_l_cell | 45 => f_l_signed | 46 => f_l_value | 47 => f_l_quotient | 48 => f_l_due | 49 => f_l_told | 50 => f_l_same | 1000 => c_HostError | 1001 => c_Trap | 2001 => fi_Trap | _ => f_width)) := ⟨ok_div_u F_div_u T O_unsigned O_signed O_init_Trap, PySem.W.mg_of X G a_div_u, F_div_u.kp, b_div_u⟩
  have O_rem_s : DfX l.prog w K mg base 3 "rem_s" f_rem_s _ ["kind", "a", "b"] (sp_rem_s K (fun n => match n with | 0 => f_width | 1 => f_unsigned | 2 => f_extend | 3 => f_signed | 4 => f_in_range | 5 => f_add | 6 => f_sub | 7 => f_mul | 8 => f_quotient | 9 => f_div_s | 10 => f_div_u | 11 => f_rem_s | 12 => f_rem_u | 13 => f_bit_and | 14 => f_bit_or | 15 => f_bit_xor | 17 => f_shl | 18 => f_shr_s | 19 => f_shr_u | 20 => f_rotl | 21 => f_rotr | 22 => f_eq | 23 => f_ne | 24 => f_lt_s | 25 => f_gt_s | 26 => f_le_s | 27 => f_ge_s | 28 => f_lt_u | 29 => f_gt_u | 30 => f_le_u | 31 => f_ge_u | 33 => f_clz | 34 => f_ctz | 35 => f_popcnt | 36 => f_extend8_s | 37 => f_extend16_s | 38 => f_extend32_s | 39 => f_extend_u | 40 => f_signature_of | 41 => f_check_operands | 42 => f_calculate | 43 => f_l_is_integer | 44 => f_l_cell | 45 => f_l_signed | 46 => f_l_value | 47 => f_l_quotient | 48 => f_l_due | 49 => f_l_told | 50 => f_l_same | 1000 => c_HostError | 1001 => c_Trap | 2001 => fi_Trap | _ => f_width)) := ⟨ok_rem_s F_rem_s T O_quotient O_init_Trap, PySem.W.mg_of X G a_rem_s, F_rem_s.kp, b_rem_s⟩
  have O_rem_u : DfX l.prog w K mg base 3 "rem_u" f_rem_u _ ["kind", "a", "b"] (sp_rem_u K (fun n => match n with | 0 => f_width | 1 => f_unsigned | 2 => f_extend | 3 => f_signed | 4 => f_in_range | 5 => f_add | 6 => f_sub | 7 => f_mul | 8 => f_quotient | 9 => f_div_s | 10 => f_div_u | 11 => f_rem_s | 12 => f_rem_u | 13 => f_bit_and | 14 => f_bit_or | 15 => f_bit_xor | 17 => f_shl | 18 => f_shr_s | 19 => f_shr_u | 20 => f_rotl | 21 => f_rotr | 22 => f_eq | 23 => f_ne | 24 => f_lt_s | 25 => f_gt_s | 26 => f_le_s | 27 => f_ge_s | 28 => f_lt_u | 29 => f_gt_u | 30 => f_le_u | 31 => f_ge_u | 33 => f_clz | 34 => f_ctz | 35 => f_popcnt | 36 => f_extend8_s | 37 => f_extend16_s | 38 => f_extend32_s | 39 => f_extend_u | 40 => f_signature_of | 41 => f_check_operands | 42 => f_calculate | 43 => f_l_is_integer | 44 => f_l_cell | 45 => f_l_signed | 46 => f_l_value | 47 => f_l_quotient | 48 => f_l_due | 49 => f_l_told | 50 => f_l_same | 1000 => c_HostError | 1001 => c_Trap | 2001 => fi_Trap | _ => f_width)) := ⟨ok_rem_u F_rem_u T O_unsigned O_signed O_init_Trap, PySem.W.mg_of X G a_rem_u, F_rem_u.kp, b_rem_u⟩
  have O_signature_of : Df l.prog w K mg base 1 "signature_of" f_signature_of _ ["name"] (sp_signature_of K) := ⟨ok_signature_of F_signature_of T, PySem.W.mg_of X G a_signature_of, F_signature_of.kp, b_signature_of⟩
  have O_check_operands : Df l.prog w K mg base 4 "check_operands" f_check_operands _ ["params", "operands"] (sp_check_operands K) := ⟨ok_check_operands F_check_operands T O_in_range, PySem.W.mg_of X G a_check_operands, F_check_operands.kp, b_check_operands⟩
  have O_calculate : DfX l.prog w K mg base 5 "calculate" f_calculate _ ["name", "operands"] (sp_calculate K (fun n => match n with | 0 => f_width | 1 => f_unsigned | 2 => f_extend | 3 => f_signed | 4 => f_in_range | 5 => f_add | 6 => f_sub | 7 => f_mul | 8 => f_quotient | 9 => f_div_s | 10 => f_div_u | 11 => f_rem_s | 12 => f_rem_u | 13 => f_bit_and | 14 => f_bit_or | 15 => f_bit_xor | 17 => f_shl | 18 => f_shr_s | 19 => f_shr_u | 20 => f_rotl | 21 => f_rotr | 22 => f_eq | 23 => f_ne | 24 => f_lt_s | 25 => f_gt_s | 26 => f_le_s | 27 => f_ge_s | 28 => f_lt_u | 29 => f_gt_u | 30 => f_le_u | 31 => f_ge_u | 33 => f_clz | 34 => f_ctz | 35 => f_popcnt | 36 => f_extend8_s | 37 => f_extend16_s | 38 => f_extend32_s | 39 => f_extend_u | 40 => f_signature_of | 41 => f_check_operands | 42 => f_calculate | 43 => f_l_is_integer | 44 => f_l_cell | 45 => f_l_signed | 46 => f_l_value | 47 => f_l_quotient | 48 => f_l_due | 49 => f_l_told | 50 => f_l_same | 1000 => c_HostError | 1001 => c_Trap | 2001 => fi_Trap | _ => f_width)) := ⟨ok_calculate F_calculate T O_add O_sub O_mul O_div_s O_div_u O_rem_s O_rem_u O_signature_of O_check_operands, PySem.W.mg_of X G a_calculate, F_calculate.kp, b_calculate⟩
  have O_l_is_integer : Df l.prog w K mg base 1 "_law_is_integer" f_l_is_integer _ ["_law_actual"] (sp_l_is_integer K) := ⟨ok_l_is_integer F_l_is_integer T, PySem.W.mg_of X G a_l_is_integer, F_l_is_integer.kp, b_l_is_integer⟩
  have O_l_cell : Df l.prog w K mg base 1 "_law_cell" f_l_cell _ ["_law_script", "_law_k"] (sp_l_cell K) := ⟨ok_l_cell F_l_cell T, PySem.W.mg_of X G a_l_cell, F_l_cell.kp, b_l_cell⟩
  have O_l_signed : Df l.prog w K mg base 1 "_law_signed" f_l_signed _ ["_law_number", "_law_bits"] (sp_l_signed K) := ⟨ok_l_signed F_l_signed T, PySem.W.mg_of X G a_l_signed, F_l_signed.kp, b_l_signed⟩
  have O_l_value : Df l.prog w K mg base 2 "_law_value" f_l_value _ ["_law_cell_here", "_law_bits"] (sp_l_value K) := ⟨ok_l_value F_l_value T O_l_signed, PySem.W.mg_of X G a_l_value, F_l_value.kp, b_l_value⟩
  have O_l_quotient : Df l.prog w K mg base 1 "_law_quotient" f_l_quotient _ ["_law_a", "_law_b"] (sp_l_quotient K) := ⟨ok_l_quotient F_l_quotient T, PySem.W.mg_of X G a_l_quotient, F_l_quotient.kp, b_l_quotient⟩
  have O_l_due : Df l.prog w K mg base 2 "_law_due" f_l_due _ ["_law_word", "_law_bits", "_law_a", "_law_b"] (sp_l_due K) := ⟨ok_l_due F_l_due T O_l_signed O_l_quotient, PySem.W.mg_of X G a_l_due, F_l_due.kp, b_l_due⟩
  have O_l_told : Df l.prog w K mg base 6 "_law_told" f_l_told _ ["_law_name", "_law_operands"] (sp_l_told K) := ⟨ok_l_told F_l_told T O_calculate, PySem.W.mg_of X G a_l_told, F_l_told.kp, b_l_told⟩
  have O_l_same : Df l.prog w K mg base 2 "_law_same" f_l_same _ ["_law_told_here", "_law_due_here"] (sp_l_same K) := ⟨ok_l_same F_l_same T O_l_is_integer, PySem.W.mg_of X G a_l_same, F_l_same.kp, b_l_same⟩
  exact ok_law F_law T O_l_cell O_l_value O_l_due O_l_told O_l_same
end Lk04

set_option Elab.async false
set_option linter.all false
set_option maxRecDepth 100000
set_option maxHeartbeats 4000000
open PySem PySem.W PyProof.Rows
local macro_rules | `(tactic| walk_at "keysLit") => `(tactic| (refine ⟨⟨_, _, rfl, rfl⟩, ?_⟩; walk_at "keysLit"))
local macro_rules | `(tactic| walk_at "keysLit") => `(tactic| exact True.intro)
local macro_rules | `(tactic| walk_at "keysLit3") => `(tactic| first | exact True.intro | (refine ⟨⟨_, rfl⟩, rfl, ?_, ?_⟩; (first | exact ⟨_, rfl⟩ | exact rfl); walk_at "keysLit3"))
local macro_rules | `(tactic| walk_at "keysLit4") => `(tactic| first | exact PySem.Paired.nil | (refine PySem.Paired.cons ⟨_, rfl⟩ ?_; walk_at "keysLit4"))
set_option maxRecDepth 100000 in
set_option maxHeartbeats 0 in
theorem PySem.Challenge.cw_wasmhost_k04_arithmetic_holds : PySem.Challenge.rw_wasmhost_k04_arithmetic.Holds := by
  w_on; o_law; k_head; (case hw => w_witness2)
  k_fill
  refine L2.walk_ofK (l := PySem.Challenge.rw_wasmhost_k04_arithmetic) (n := 63) (k := 7) (x := "_law_script") (CX := L2.CX0) (sp := Lk04.sp_law) rfl (by decide) rfl ⟨rfl, by decide, by decide⟩ (fun w h Y => PySem.W.kIn_of Y) ?F (fun K H a ns hl _ hS => Lk04.law_in hl hS) (fun _ _ _ _ h => h)
  case F =>
    intro w mg fa h KX G hmg
    refine' Lk04.all_mk KX G hmg ?cg_HostError ?cg_Trap ?xL_Trap ?sa_Trap ?ga_Trap ?gg_Trap ?nf_Trap ?ii_Trap ?ti_Trap ?kc_Trap ?eb_Trap ?ty_Trap ?hd_Trap ?l_init_Trap ?c_init_Trap ?k_init_Trap ?a_width ?l_width ?c_width ?k_width ?a_unsigned ?l_unsigned ?c_unsigned ?k_unsigned ?a_extend ?l_extend ?c_extend ?k_extend ?a_signed ?l_signed ?c_signed ?k_signed ?a_in_range ?l_in_range ?c_in_range ?k_in_range ?a_add ?l_add ?c_add ?k_add ?a_sub ?l_sub ?c_sub ?k_sub ?a_mul ?l_mul ?c_mul ?k_mul ?a_quotient ?l_quotient ?c_quotient ?k_quotient ?a_div_s ?l_div_s ?c_div_s ?k_div_s ?a_div_u ?l_div_u ?c_div_u ?k_div_u ?a_rem_s ?l_rem_s ?c_rem_s ?k_rem_s ?a_rem_u ?l_rem_u ?c_rem_u ?k_rem_u ?a_bit_and ?a_bit_or ?a_bit_xor ?a_shl ?a_shr_s ?a_shr_u ?a_rotl ?a_rotr ?a_eq ?a_ne ?a_lt_s ?a_gt_s ?a_le_s ?a_ge_s ?a_lt_u ?a_gt_u ?a_le_u ?a_ge_u ?a_clz ?a_ctz ?a_popcnt ?a_extend8_s ?a_extend16_s ?a_extend32_s ?a_extend_u ?a_signature_of ?l_signature_of ?c_signature_of ?k_signature_of ?a_check_operands ?l_check_operands ?c_check_operands ?k_check_operands ?a_calculate ?l_calculate ?c_calculate ?k_calculate ?a_l_is_integer ?l_l_is_integer ?c_l_is_integer ?k_l_is_integer ?a_l_cell ?l_l_cell ?c_l_cell ?k_l_cell ?a_l_signed ?l_l_signed ?c_l_signed ?k_l_signed ?a_l_value ?l_l_value ?c_l_value ?k_l_value ?a_l_quotient ?l_l_quotient ?c_l_quotient ?k_l_quotient ?a_l_due ?l_l_due ?c_l_due ?k_l_due ?a_l_told ?l_l_told ?c_l_told ?k_l_told ?a_l_same ?l_l_same ?c_l_same ?k_l_same ?a_law ?l_law ?c_law ?k_law ?z_abs ?z_bool ?z_int ?z_isinstance ?z_len ?z_max ?z_min ?z_range ?z_str ?z_zip ?m_ARITHMETIC ?l_ARITHMETIC ?en_ARITHMETIC ?lo_ARITHMETIC ?m_COMPARISONS ?l_COMPARISONS ?en_COMPARISONS ?lo_COMPARISONS ?m_CONVERSIONS ?l_CONVERSIONS ?en_CONVERSIONS ?lo_CONVERSIONS ?m_INSTRUCTIONS ?l_INSTRUCTIONS ?vl_INSTRUCTIONS ?sz_INSTRUCTIONS ?m_WIDTHS ?l_WIDTHS ?en_WIDTHS ?lo_WIDTHS ?ic_Trap ?sc_Trap_Trap
    (case cg_HostError => k_is)
    (case cg_Trap => k_is)
    (case xL_Trap => k_is)
    (case sa_Trap => k_is)
    (case ga_Trap => k_is)
    (case gg_Trap => k_is)
    (case nf_Trap => k_is)
    (case ii_Trap => k_is)
    (case ti_Trap => k_is)
    (case kc_Trap => k_is)
    (case eb_Trap => k_is)
    (case ty_Trap => k_is)
    (case hd_Trap => k_is)
    (case l_init_Trap => k_is)
    (case c_init_Trap => k_is)
    (case k_init_Trap => k_is)
    (case a_width => k_is)
    (case l_width => k_is)
    (case c_width => k_is)
    (case k_width => k_is)
    (case a_unsigned => k_is)
    (case l_unsigned => k_is)
    (case c_unsigned => k_is)
    (case k_unsigned => k_is)
    (case a_extend => k_is)
    (case l_extend => k_is)
    (case c_extend => k_is)
    (case k_extend => k_is)
    (case a_signed => k_is)
    (case l_signed => k_is)
    (case c_signed => k_is)
    (case k_signed => k_is)
    (case a_in_range => k_is)
    (case l_in_range => k_is)
    (case c_in_range => k_is)
    (case k_in_range => k_is)
    (case a_add => k_is)
    (case l_add => k_is)
    (case c_add => k_is)
    (case k_add => k_is)
    (case a_sub => k_is)
    (case l_sub => k_is)
    (case c_sub => k_is)
    (case k_sub => k_is)
    (case a_mul => k_is)
    (case l_mul => k_is)
    (case c_mul => k_is)
    (case k_mul => k_is)
    (case a_quotient => k_is)
    (case l_quotient => k_is)
    (case c_quotient => k_is)
    (case k_quotient => k_is)
    (case a_div_s => k_is)
    (case l_div_s => k_is)
    (case c_div_s => k_is)
    (case k_div_s => k_is)
    (case a_div_u => k_is)
    (case l_div_u => k_is)
    (case c_div_u => k_is)
    (case k_div_u => k_is)
    (case a_rem_s => k_is)
    (case l_rem_s => k_is)
    (case c_rem_s => k_is)
    (case k_rem_s => k_is)
    (case a_rem_u => k_is)
    (case l_rem_u => k_is)
    (case c_rem_u => k_is)
    (case k_rem_u => k_is)
    (case a_bit_and => k_is)
    (case a_bit_or => k_is)
    (case a_bit_xor => k_is)
    (case a_shl => k_is)
    (case a_shr_s => k_is)
    (case a_shr_u => k_is)
    (case a_rotl => k_is)
    (case a_rotr => k_is)
    (case a_eq => k_is)
    (case a_ne => k_is)
    (case a_lt_s => k_is)
    (case a_gt_s => k_is)
    (case a_le_s => k_is)
    (case a_ge_s => k_is)
    (case a_lt_u => k_is)
    (case a_gt_u => k_is)
    (case a_le_u => k_is)
    (case a_ge_u => k_is)
    (case a_clz => k_is)
    (case a_ctz => k_is)
    (case a_popcnt => k_is)
    (case a_extend8_s => k_is)
    (case a_extend16_s => k_is)
    (case a_extend32_s => k_is)
    (case a_extend_u => k_is)
    (case a_signature_of => k_is)
    (case l_signature_of => k_is)
    (case c_signature_of => k_is)
    (case k_signature_of => k_is)
    (case a_check_operands => k_is)
    (case l_check_operands => k_is)
    (case c_check_operands => k_is)
    (case k_check_operands => k_is)
    (case a_calculate => k_is)
    (case l_calculate => k_is)
    (case c_calculate => k_is)
    (case k_calculate => k_is)
    (case a_l_is_integer => k_is)
    (case l_l_is_integer => k_is)
    (case c_l_is_integer => k_is)
    (case k_l_is_integer => k_is)
    (case a_l_cell => k_is)
    (case l_l_cell => k_is)
    (case c_l_cell => k_is)
    (case k_l_cell => k_is)
    (case a_l_signed => k_is)
    (case l_l_signed => k_is)
    (case c_l_signed => k_is)
    (case k_l_signed => k_is)
    (case a_l_value => k_is)
    (case l_l_value => k_is)
    (case c_l_value => k_is)
    (case k_l_value => k_is)
    (case a_l_quotient => k_is)
    (case l_l_quotient => k_is)
    (case c_l_quotient => k_is)
    (case k_l_quotient => k_is)
    (case a_l_due => k_is)
    (case l_l_due => k_is)
    (case c_l_due => k_is)
    (case k_l_due => k_is)
    (case a_l_told => k_is)
    (case l_l_told => k_is)
    (case c_l_told => k_is)
    (case k_l_told => k_is)
    (case a_l_same => k_is)
    (case l_l_same => k_is)
    (case c_l_same => k_is)
    (case k_l_same => k_is)
    (case a_law => k_is)
    (case l_law => k_is)
    (case c_law => k_is)
    (case k_law => k_is)
    (case z_abs => k_is)
    (case z_bool => k_is)
    (case z_int => k_is)
    (case z_isinstance => k_is)
    (case z_len => k_is)
    (case z_max => k_is)
    (case z_min => k_is)
    (case z_range => k_is)
    (case z_str => k_is)
    (case z_zip => k_is)
    (case m_ARITHMETIC => k_is)
    (case l_ARITHMETIC => k_is)
    (case en_ARITHMETIC => walk_at "keysLit3")
    (case lo_ARITHMETIC => first | rfl | decide)
    (case m_COMPARISONS => k_is)
    (case l_COMPARISONS => k_is)
    (case en_COMPARISONS => walk_at "keysLit3")
    (case lo_COMPARISONS => first | rfl | decide)
    (case m_CONVERSIONS => k_is)
    (case l_CONVERSIONS => k_is)
    (case en_CONVERSIONS => walk_at "keysLit3")
    (case lo_CONVERSIONS => first | rfl | decide)
    (case m_INSTRUCTIONS => k_is)
    (case l_INSTRUCTIONS => k_is)
    (case vl_INSTRUCTIONS => walk_at "keysLit4")
    (case sz_INSTRUCTIONS => first | rfl | decide)
    (case m_WIDTHS => k_is)
    (case l_WIDTHS => k_is)
    (case en_WIDTHS => walk_at "keysLit3")
    (case lo_WIDTHS => first | rfl | decide)
    (case ic_Trap => k_is)
    (case sc_Trap_Trap => k_is)
