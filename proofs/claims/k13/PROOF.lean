import PyProof.Rows.All
import Wide.All
import OpenK.AllK
import Wide.FinOn
import HandS.ForMost
import HandS.Evl
import HandS.IsInst
import HandS.Flow
import HandS.More
import HandS.Zip
import HandS.CallLocal
import HandS.Style
import HandS.Wide
import HandS.ForExc
import HandS.ExcInit
import HandS.ExcField
import HandS.StrMore
import HandS.WideBits
import HandS.TupAny
import HandS.Walk
import HandS.Rev
import KE.KExcIs
import HandS.Strs
import PyProof.Rows.SortShellAny
import HandS.Codes
import PySem.Challenge.RW_wasmhost_k13_names
set_option Elab.async false
set_option linter.all false
set_option maxRecDepth 100000
set_option maxHeartbeats 4000000
/-! My own layer over HandS.Evl: statements relative to a ground heap, tests as propositions. -/
namespace Wm
open PySem L2 Evl RZ
/-- a call's promise of a new tuple -/
def SpU (sp : Sp) (vs : List V) (H : Hp) (xs : List V) : Prop := ∀ H1, Ex H H1 → ∀ Q : VK, (∀ p H2, H1 p = none → Ex H1 H2 → H2 p = some (.tup xs) → Q (.ref p) H2) → ∀ E : XK, sp vs H1 Q E
/-- a test, told by a proposition -/
def EtP (t : TT) (σ : L2.St) (H : Hp) (p : Prop) : Prop := ∃ b : Bool, (b = true ↔ p) ∧ EvT t σ H b
section
variable {K : PySem.W.Frag} {σ : L2.St} {H H0 H1 H' : Hp} {ta tb tc te tx : TE} {t u : TT} {x y z v : V} {r : R2} {D : Ends} {tu tw tz : TS} {p q : Prop} {g : TG}
theorem EtP.mono (e : Ex H H') (h : EtP t σ H p) : EtP t σ H' p := by
  obtain ⟨b, hb, h⟩ := h
  exact ⟨b, hb, h.mono e⟩
theorem EtP.to (h : EtP t σ H p) (e : p ↔ q) : EtP t σ H q := by
  obtain ⟨b, hb, h⟩ := h
  exact ⟨b, hb.trans e, h⟩
theorem ep_val {b : Bool} (h : Ev te σ H (.bl b)) : EtP (tB te) σ H (b = true) := ⟨b, Iff.rfl, et_B h⟩
theorem ep_test {b : Bool} (h : Ev te σ H (.bl b)) : EtP (tTest te) σ H (b = true) := ⟨b, Iff.rfl, et_test h⟩
theorem ep_dec {p : Prop} [Decidable p] (h : Ev te σ H (.bl (decide p))) : EtP (tTest te) σ H p := ⟨decide p, decide_eq_true_iff, et_test h⟩
theorem ep_ndec {p : Prop} [Decidable p] (h : Ev te σ H (.bl (!decide p))) : EtP (tTest te) σ H (¬ p) := ⟨!decide p, by simp, et_test h⟩
theorem ep_and (h1 : EtP t σ H p) (h2 : p → EtP u σ H q) : EtP (tAnd t u) σ H (p ∧ q) := by
  obtain ⟨a, ha, h1⟩ := h1
  by_cases hp : p
  · obtain ⟨b, hb, h2⟩ := h2 hp
    exact ⟨a && b, by rw [Bool.and_eq_true, ha, hb], et_and h1 fun _ => h2⟩
  · have e : a = false := by
      cases a with
      | true => exact absurd (ha.mp rfl) hp
      | false => rfl
    subst e
    refine ⟨false && false, ⟨fun z => (by cases z), fun z => absurd z.1 hp⟩, et_and h1 fun z => (by cases z)⟩
theorem ep_or (h1 : EtP t σ H p) (h2 : ¬ p → EtP u σ H q) : EtP (tOr t u) σ H (p ∨ q) := by
  obtain ⟨a, ha, h1⟩ := h1
  by_cases hp : p
  · have e : a = true := ha.mpr hp
    subst e
    refine ⟨true || false, ⟨fun _ => Or.inl hp, fun _ => rfl⟩, et_or h1 fun z => (by cases z)⟩
  · obtain ⟨b, hb, h2⟩ := h2 hp
    exact ⟨a || b, by rw [Bool.or_eq_true, ha, hb], et_or h1 fun _ => h2⟩
theorem ep_not (h1 : EtP t σ H p) : EtP (tNot t) σ H (¬ p) := by
  obtain ⟨a, ha, h1⟩ := h1
  refine ⟨!a, ?_, et_not h1⟩
  rw [← ha]
  cases a <;> simp
/-! values -/
theorem rv_eqI {i j : Int} : RV rEq (.int i) (.int j) H (.bl (decide (i = j))) := fun H1 _ Q q => ⟨rfl, by
  have e : decide (V.int i = V.int j) = decide (i = j) := by
    by_cases h : i = j
    · subst h; simp
    · rw [decide_eq_false h, decide_eq_false fun z => h (V.int.inj z)]
  rw [e]
  exact q H1 (Ex.refl H1)⟩
theorem rv_neI {i j : Int} : RV rNe (.int i) (.int j) H (.bl (!decide (i = j))) := fun H1 _ Q q => ⟨rfl, by
  have e : decide (V.int i = V.int j) = decide (i = j) := by
    by_cases h : i = j
    · subst h; simp
    · rw [decide_eq_false h, decide_eq_false fun z => h (V.int.inj z)]
  rw [e]
  exact q H1 (Ex.refl H1)⟩
theorem rv_eqS {i j : Str} : RV rEq (.str i) (.str j) H (.bl (decide (i = j))) := fun H1 _ Q q => ⟨rfl, by
  have e : decide (V.str i = V.str j) = decide (i = j) := by
    by_cases h : i = j
    · subst h; simp
    · rw [decide_eq_false h, decide_eq_false fun z => h (V.str.inj z)]
  rw [e]
  exact q H1 (Ex.refl H1)⟩
theorem rv_neS {i j : Str} : RV rNe (.str i) (.str j) H (.bl (!decide (i = j))) := fun H1 _ Q q => ⟨rfl, by
  have e : decide (V.str i = V.str j) = decide (i = j) := by
    by_cases h : i = j
    · subst h; simp
    · rw [decide_eq_false h, decide_eq_false fun z => h (V.str.inj z)]
  rw [e]
  exact q H1 (Ex.refl H1)⟩
theorem rv_eqB {i j : Bool} : RV rEq (.bl i) (.bl j) H (.bl (decide (i = j))) := fun H1 _ Q q => ⟨rfl, by
  have e : decide (V.bl i = V.bl j) = decide (i = j) := by
    by_cases h : i = j
    · subst h; simp
    · rw [decide_eq_false h, decide_eq_false fun z => h (V.bl.inj z)]
  rw [e]
  exact q H1 (Ex.refl H1)⟩
def rAddS2 : R2 := fun x y H Q => ∃ i j, x = .str i ∧ y = .str j ∧ i.length + j.length ≤ sizeLine ∧ Q (.str (i ++ j)) H
theorem rv_addS {i j : Str} (h : i.length + j.length ≤ 100000) : RV rAddS2 (.str i) (.str j) H (.str (i ++ j)) := fun H1 _ Q q => ⟨i, j, rfl, rfl, sz_of h, q H1 (Ex.refl H1)⟩
theorem flat_strs : ∀ l : List Str, (l.map V.str).all flatV = true
  | [] => rfl
  | _ :: r => by
    show (true && (r.map V.str).all flatV) = true
    rw [flat_strs r]
    rfl
theorem inV_strs (z : Str) : ∀ l : List Str, inV (.str z) (l.map V.str) = decide (z ∈ l)
  | [] => rfl
  | y :: r => by
    have ih := inV_strs z r
    unfold inV at ih ⊢
    rw [List.map_cons, List.any_cons, ih]
    have e : eqV (.str y) (.str z) = decide (y = z) := by
      unfold eqV
      first | rfl | simp
    rw [e]
    by_cases h : y = z
    · subst h; simp
    · have h2 : ¬ z = y := fun q => h q.symm
      simp [h, h2]
theorem rv_inTS {p : Addr} {z : Str} {ns : List Str} (h : SqT K H p (ns.map V.str)) : RV (rIn K false) (.str z) (.ref p) H (.bl (decide (z ∈ ns))) := by
  have q := rv_isT (x := .str z) h rfl (flat_strs ns)
  rw [inV_strs] at q
  exact q
theorem rv_niTS {p : Addr} {z : Str} {ns : List Str} (h : SqT K H p (ns.map V.str)) : RV (rIn K true) (.str z) (.ref p) H (.bl (!decide (z ∈ ns))) := by
  have q := rv_niT (x := .str z) h rfl (flat_strs ns)
  rw [inV_strs] at q
  exact q
theorem rv_inLS {p : Addr} {z : Str} {ns : List Str} (h : SqL K H p (ns.map V.str)) : RV (rIn K false) (.str z) (.ref p) H (.bl (decide (z ∈ ns))) := by
  have q := rv_isL (x := .str z) h rfl (flat_strs ns)
  rw [inV_strs] at q
  exact q
/-- if-expressions, chains -/
theorem ev_ifP {a b : V} (h : EtP t σ H p) (h1 : p → Ev ta σ H a) (h2 : ¬ p → Ev tb σ H b) [Decidable p] : Ev (tIf t ta tb) σ H (if p then a else b) := by
  obtain ⟨c, hc, h⟩ := h
  refine ev_if h (fun e => ?_) (fun e => ?_)
  · rw [if_pos (hc.mp e)]
    exact h1 (hc.mp e)
  · have hp : ¬ p := fun z => by
      have := hc.mpr z
      rw [e] at this
      cases this
    rw [if_neg hp]
    exact h2 hp
theorem ev_chain {r r' : R2} {a b : Bool} (ha : Ev ta σ H x) (hb : Ev tb σ H y) (hr : RV r x y H (.bl a)) (hc : a = true → Ev tc σ H z) (hr' : a = true → RV r' y z H (.bl b)) : Ev (tChain r r' ta tb tc) σ H (.bl (a && b)) := fun H1 e Q q =>
  ha H1 e _ fun H2 e2 => hb H2 (e.trans e2) _ fun H3 e3 => hr H3 ((e.trans e2).trans e3) _ fun H4 e4 => ⟨a, rfl, by
    cases a with
    | true =>
      rw [if_pos rfl]
      exact hc rfl H4 (((e.trans e2).trans e3).trans e4) _ fun H5 e5 => hr' rfl H5 ((((e.trans e2).trans e3).trans e4).trans e5) Q fun H6 e6 => q H6 ((((e2.trans e3).trans e4).trans e5).trans e6)
    | false =>
      rw [if_neg Bool.false_ne_true]
      exact q H4 ((e2.trans e3).trans e4)⟩
theorem ep_chain {r r' : R2} {p q : Prop} [Decidable p] [Decidable q] (ha : Ev ta σ H x) (hb : Ev tb σ H y) (hr : RV r x y H (.bl (decide p))) (hc : p → Ev tc σ H z) (hr' : p → RV r' y z H (.bl (decide q))) : EtP (tTest (tChain r r' ta tb tc)) σ H (p ∧ q) :=
  ⟨decide p && decide q, by simp, et_test (ev_chain ha hb hr (fun e => hc (of_decide_eq_true e)) (fun e => hr' (of_decide_eq_true e)))⟩
/-! built-ins -/
def rInt1 : List V → Hp → VK → Prop := fun xs H Q => (∃ i, xs = [.int i] ∧ Q (.int i) H) ∨ ∃ k, xs = [.bl k] ∧ Q (.int (if k then 1 else 0)) H
theorem ev_int {i : Int} (h : Ev ta σ H (.int i)) : Ev (tCB rInt1 (tCons ta tNil)) σ H (.int i) := fun H1 e Q q => h H1 e _ fun H2 e2 => Or.inl ⟨i, rfl, q H2 e2⟩
theorem ev_intB {b : Bool} (h : Ev ta σ H (.bl b)) : Ev (tCB rInt1 (tCons ta tNil)) σ H (.int (if b then 1 else 0)) := fun H1 e Q q => h H1 e _ fun H2 e2 => Or.inr ⟨b, rfl, q H2 e2⟩
def rStrI : List V → Hp → VK → Prop := fun xs H Q => ∃ i, xs = [.int i] ∧ i.natAbs.log2 < 1920 ∧ Q (.str (toString i)) H
theorem ev_str {i : Int} (h : Ev ta σ H (.int i)) (hz : i.natAbs.log2 < 1920) : Ev (tCB rStrI (tCons ta tNil)) σ H (.str (toString i)) := fun H1 e Q q => h H1 e _ fun H2 e2 => ⟨i, rfl, hz, q H2 e2⟩
def rAbs1 : List V → Hp → VK → Prop := fun xs H Q => ∃ i, xs = [.int i] ∧ Q (.int (if i < 0 then -i else i)) H
theorem ev_abs {i : Int} (h : Ev ta σ H (.int i)) : Ev (tCB rAbs1 (tCons ta tNil)) σ H (.int (if i < 0 then -i else i)) := fun H1 e Q q => h H1 e _ fun H2 e2 => ⟨i, rfl, q H2 e2⟩
def rMin2 : List V → Hp → VK → Prop := fun xs H Q => ∃ i j, xs = [.int i, .int j] ∧ Q (.int (if j < i then j else i)) H
theorem ev_min2 {i j : Int} (ha : Ev ta σ H (.int i)) (hb : Ev tb σ H (.int j)) : Ev (tCB rMin2 (tCons ta (tCons tb tNil))) σ H (.int (if j < i then j else i)) := fun H1 e Q q =>
  ha H1 e _ fun H2 e2 => hb H2 (e.trans e2) _ fun H3 e3 => ⟨i, j, rfl, q H3 (e2.trans e3)⟩
def rLenS1 : List V → Hp → VK → Prop := fun xs H Q => ∃ z, xs = [.str z] ∧ z.length ≤ sizeLine ∧ Q (.int z.length) H
theorem ev_lenS {z : Str} (h : Ev ta σ H (.str z)) (hz : z.length ≤ 100000) : Ev (tCB rLenS1 (tCons ta tNil)) σ H (.int z.length) := fun H1 e Q q => h H1 e _ fun H2 e2 => ⟨z, rfl, sz_of hz, q H2 e2⟩
theorem ev_lenT {p : Addr} {xs : List V} (ha : Ev ta σ H (.ref p)) (h : SqT K H p xs) : Ev (tCB (rLenS K) (tCons ta tNil)) σ H (.int (xs.length : Int)) := fun H1 e Q q =>
  ha H1 e _ fun H2 e2 => ⟨p, xs, rfl, Or.inr (ex_t (e.trans e2) h), q H2 e2⟩
/-- isinstance of a value and a class -/
theorem ev_isi {c : V} {ty u : Value} {b : Bool} (ha : Ev ta σ H x) (hb : Ev tb σ H c) (k : ClsV c u) (ht : ∀ H1, Ex H H1 → TyX K H1 x ty) (hk : PySem.W.kitOne K ty u = some b) : Ev (tCB (rIsi K) (tCons ta (tCons tb tNil))) σ H (.bl b) := fun H1 e Q q =>
  ha H1 e _ fun H2 e2 => hb H2 (e.trans e2) _ fun H3 e3 => ⟨x, c, ty, u, b, rfl, k, ht H3 ((e.trans e2).trans e3), hk, q H3 (e2.trans e3)⟩
theorem ty_int {i : Int} : ∀ H1, Ex H H1 → TyX K H1 (.int i) (.type "int") := fun _ _ => .base (.int i)
theorem ty_bl {b : Bool} : ∀ H1, Ex H H1 → TyX K H1 (.bl b) (.type "bool") := fun _ _ => .base (.bl b)
theorem ty_str {i : Str} : ∀ H1, Ex H H1 → TyX K H1 (.str i) (.type "str") := fun _ _ => .base (.str i)
theorem ty_non : ∀ H1, Ex H H1 → TyX K H1 .non (.type "NoneType") := fun _ _ => .base .non
theorem ev_lenI {p : Addr} {ns : List Int} (ha : Ev ta σ H (.ref p)) (h : SqL K H p (ns.map V.int)) : Ev (tCB (rLenS K) (tCons ta tNil)) σ H (.int (ns.length : Int)) := by
  have q := ev_len ha h
  rw [List.length_map] at q
  exact q
theorem ev_lenTI {p : Addr} {ns : List Int} (ha : Ev ta σ H (.ref p)) (h : SqT K H p (ns.map V.int)) : Ev (tCB (rLenS K) (tCons ta tNil)) σ H (.int (ns.length : Int)) := by
  have q := ev_lenT ha h
  rw [List.length_map] at q
  exact q
/-! lists of ints compared -/
theorem lay_ints : ∀ ns : List Int, PyData.canLayAll0 (ns.map PyData.int) = true
  | [] => rfl
  | n :: r => by
    show (PyData.canLay0 (.int n) && PyData.canLayAll0 (r.map PyData.int)) = true
    rw [lay_ints r]
    rfl
theorem depth_ints : ∀ ns : List Int, PyData.depthAll (ns.map PyData.int) = 0
  | [] => rfl
  | n :: r => by
    show max (PyData.depth (.int n)) (PyData.depthAll (r.map PyData.int)) = 0
    rw [depth_ints r]
    rfl
theorem eqv_ints : ∀ ns ms : List Int, PyData.eqvAll (ns.map PyData.int) (ms.map PyData.int) = decide (ns = ms)
  | [], [] => rfl
  | [], _ :: _ => rfl
  | _ :: _, [] => rfl
  | n :: r, m :: t => by
    show (n == m && PyData.eqvAll (r.map PyData.int) (t.map PyData.int)) = _
    rw [eqv_ints r t]
    by_cases h : n = m
    · subst h; simp
    · simp [h]
theorem shaped_ints (ns : List Int) : SeqAt.shaped (.list (ns.map PyData.int)) = true := by
  unfold SeqAt.shaped
  rw [Bool.and_eq_true]
  refine ⟨lay_ints ns, decide_eq_true ?_⟩
  show PyData.depthAll (ns.map PyData.int) + 1 ≤ 64
  rw [depth_ints]
  decide
theorem dp_ints : ∀ ns : List Int, DpAll K H (ns.map V.int) (ns.map PyData.int)
  | [] => .nil
  | n :: r => .cons (.int n) (dp_ints r)
theorem rv_eqDI {p q : Addr} {ns ms : List Int} (h1 : SqL K H p (ns.map V.int)) (h2 : SqL K H q (ms.map V.int)) : RV (rEqD K) (.ref p) (.ref q) H (.bl (decide (ns = ms))) := fun H1 e Q k =>
  ⟨_, _, .lst (ex_l e h1) (dp_ints ns), .lst (ex_l e h2) (dp_ints ms), shaped_ints ns, shaped_ints ms, by
    show Q (.bl (PyData.eqvAll _ _)) H1
    rw [eqv_ints]
    exact k H1 (Ex.refl H1)⟩
theorem rv_neDI {p q : Addr} {ns ms : List Int} (h1 : SqL K H p (ns.map V.int)) (h2 : SqL K H q (ms.map V.int)) : RV (rNeD K) (.ref p) (.ref q) H (.bl (!decide (ns = ms))) := fun H1 e Q k =>
  ⟨_, _, .lst (ex_l e h1) (dp_ints ns), .lst (ex_l e h2) (dp_ints ms), shaped_ints ns, shaped_ints ms, by
    show Q (.bl (!PyData.eqvAll _ _)) H1
    rw [eqv_ints]
    exact k H1 (Ex.refl H1)⟩
theorem cutV_mid (xs : List V) (a b : Nat) : cutV xs (some (a : Int)) (some (b : Int)) = (xs.drop a).take (b - a) := by
  unfold cutV
  rw [HT.sIx_nat, HT.sIx_nat]
  by_cases h : a ≤ xs.length
  · have e1 : min a xs.length = a := by omega
    rw [e1]
    by_cases g : b ≤ xs.length
    · have e2 : min b xs.length = b := by omega
      rw [e2]
    · have e2 : min b xs.length = xs.length := by omega
      rw [e2, List.take_of_length_le (by rw [List.length_drop]; omega), List.take_of_length_le (by rw [List.length_drop]; omega)]
  · have e1 : min a xs.length = xs.length := by omega
    rw [e1, List.drop_of_length_le (Nat.le_refl _), List.drop_of_length_le (show xs.length ≤ a by omega), List.take_nil, List.take_nil]
/-! a list or a tuple -/
theorem q_mv {P : Hp → Prop} (e : Ex H H') (q : ∀ H1, Ex H H1 → P H1) : ∀ H1, Ex H' H1 → P H1 := fun H1 e1 => q H1 (e.trans e1)
theorem q_mvL {P : Addr → Hp → Prop} {o : HO} (e : Ex H H') (q : ∀ p H1, H p = none → Ex H H1 → H1 p = some o → P p H1) : ∀ p H1, H' p = none → Ex H' H1 → H1 p = some o → P p H1 := fun p H1 hp e1 h1 => q p H1 (fresh_back e hp) (e.trans e1) h1
theorem ty_list {a : Addr} {xs : List V} (h : H a = some (.lst xs)) : ∀ H1, Ex H H1 → TyX K H1 (.ref a) (.type "list") := fun H1 e => .base (.lst (e a _ h))
theorem ty_tup {a : Addr} {xs : List V} (h : H a = some (.tup xs)) : ∀ H1, Ex H H1 → TyX K H1 (.ref a) (.type "tuple") := fun H1 e => .base (.tup (e a _ h))
def SqQ (K : PySem.W.Frag) (H : Hp) (a : Addr) (xs : List V) : Prop := SqL K H a xs ∨ SqT K H a xs
theorem ex_q {a : Addr} {xs : List V} (e : Ex H H') (h : SqQ K H a xs) : SqQ K H' a xs := h.elim (fun z => Or.inl (ex_l e z)) fun z => Or.inr (ex_t e z)
theorem at_ints {ns : List Int} {i : Int} (h0 : 0 ≤ i) (h1 : i < (ns.length : Int)) : atI (ns.map V.int) i = some (.int (ns.getD i.toNat 0)) := by
  obtain ⟨j, rfl⟩ : ∃ j : Nat, i = (j : Int) := ⟨i.toNat, by omega⟩
  have hj : j < ns.length := by omega
  refine atI_nat ?_
  rw [List.getElem?_map, List.getElem?_eq_getElem hj]
  show some (V.int ns[j]) = some (V.int (ns.getD ((j : Int).toNat) 0))
  rw [Int.toNat_natCast, List.getD_eq_getElem?_getD, List.getElem?_eq_getElem hj]
  rfl
theorem rv_ixQI {p : Addr} {ns : List Int} {i : Int} (h : SqQ K H p (ns.map V.int)) (h0 : 0 ≤ i) (h1 : i < (ns.length : Int)) : RV (rIx K) (.ref p) (.int i) H (.int (ns.getD i.toNat 0)) := fun H1 e Q q =>
  h.elim (fun z => Or.inl ⟨p, _, i, _, rfl, rfl, ex_l e z, at_ints h0 h1, q H1 (Ex.refl H1)⟩) fun z => Or.inr (Or.inl ⟨p, _, i, _, rfl, rfl, ex_t e z, at_ints h0 h1, q H1 (Ex.refl H1)⟩)
theorem ev_lenQ {p : Addr} {xs : List V} (ha : Ev ta σ H (.ref p)) (h : SqQ K H p xs) : Ev (tCB (rLenS K) (tCons ta tNil)) σ H (.int (xs.length : Int)) := fun H1 e Q q =>
  ha H1 e _ fun H2 e2 => ⟨p, xs, rfl, h.elim (fun z => Or.inl (ex_l (e.trans e2) z)) fun z => Or.inr (ex_t (e.trans e2) z), q H2 e2⟩
theorem ev_lenQI {p : Addr} {ns : List Int} (ha : Ev ta σ H (.ref p)) (h : SqQ K H p (ns.map V.int)) : Ev (tCB (rLenS K) (tCons ta tNil)) σ H (.int (ns.length : Int)) := by
  have q := ev_lenQ ha h
  rw [List.length_map] at q
  exact q
theorem el_listQ {p : Addr} {xs : List V} (ha : Ev ta σ H (.ref p)) (h : SqQ K H p xs) : EvL (tCB (rListS K) (tCons ta tNil)) σ H xs := fun H1 e Q q =>
  ha H1 e _ fun H2 e2 => ⟨p, xs, rfl, h.elim (fun z => Or.inl (ex_l (e.trans e2) z)) fun z => Or.inr (ex_t (e.trans e2) z), fun l hl => q l _ (fresh_back e2 hl) (e2.trans (Ex.new hl)) upd_same⟩
def rTupS (K : PySem.W.Frag) : List V → Hp → VK → Prop := fun xs H Q => ∃ p ys, xs = [.ref p] ∧ ((SqL K H p ys ∧ ∀ l, H l = none → Q (.ref l) (upd H l (.tup ys))) ∨ (SqT K H p ys ∧ Q (.ref p) H))
theorem eu_tupL {p : Addr} {xs : List V} (ha : Ev ta σ H (.ref p)) (h : SqL K H p xs) : EvU (tCB (rTupS K) (tCons ta tNil)) σ H xs := fun H1 e Q q =>
  ha H1 e _ fun H2 e2 => ⟨p, xs, rfl, Or.inl ⟨ex_l (e.trans e2) h, fun l hl => q l _ (fresh_back e2 hl) (e2.trans (Ex.new hl)) upd_same⟩⟩
theorem eu_tupN {xs : List V} (ha : EvL ta σ H xs) : EvU (tCB (rTupS K) (tCons ta tNil)) σ H xs := fun H1 e Q q =>
  ha H1 e _ fun p H2 _ e2 hp => ⟨p, xs, rfl, Or.inl ⟨sq_of hp, fun l hl => q l _ (fresh_back e2 hl) (e2.trans (Ex.new hl)) upd_same⟩⟩
theorem el_listN {xs : List V} (ha : EvL ta σ H xs) : EvL (tCB (rListS K) (tCons ta tNil)) σ H xs := fun H1 e Q q =>
  ha H1 e _ fun p H2 _ e2 hp => ⟨p, xs, rfl, Or.inl (sq_of hp), fun l hl => q l _ (fresh_back e2 hl) (e2.trans (Ex.new hl)) upd_same⟩
/-- a call whose one argument is a new list, a new tuple -/
theorem ev_call1L {sp : Sp} {xs : List V} {E : XK} (h : EvL ta σ H xs) (hs : ∀ p H1, Ex H H1 → H1 p = some (.lst xs) → SpV sp [.ref p] H1 z) : Ev (tCall sp [] E (tCons ta tNil)) σ H z := fun H1 e Q q =>
  h H1 e _ fun p H2 _ e2 hp => hs p H2 (e.trans e2) hp H2 (Ex.refl H2) Q (fun H3 e3 => q H3 (e2.trans e3)) E
theorem ev_call1U {sp : Sp} {xs : List V} {E : XK} (h : EvU ta σ H xs) (hs : ∀ p H1, Ex H H1 → H1 p = some (.tup xs) → SpV sp [.ref p] H1 z) : Ev (tCall sp [] E (tCons ta tNil)) σ H z := fun H1 e Q q =>
  h H1 e _ fun p H2 _ e2 hp => hs p H2 (e.trans e2) hp H2 (Ex.refl H2) Q (fun H3 e3 => q H3 (e2.trans e3)) E
/-- arguments some of which are new objects -/
def EvAX (ta : TA) (σ : L2.St) (H : Hp) (P : List V → Hp → Prop) : Prop := ∀ H1, Ex H H1 → ∀ Q : List V → Hp → Prop, (∀ vs H2, Ex H1 H2 → P vs H2 → Q vs H2) → ta σ H1 Q
theorem eax_nil : EvAX tNil σ H (fun vs _ => vs = []) := fun H1 _ _ q => q [] H1 (Ex.refl H1) rfl
theorem eax_V {tr : TA} {P : List V → Hp → Prop} (h : Ev ta σ H v) (hr : EvAX tr σ H P) : EvAX (tCons ta tr) σ H (fun vs H => ∃ r, vs = v :: r ∧ P r H) := fun H1 e Q q =>
  h H1 e _ fun H2 e2 => hr H2 (e.trans e2) _ fun vs H3 e3 hp => q _ H3 (e2.trans e3) ⟨vs, rfl, hp⟩
theorem eax_L {tr : TA} {P : List V → Hp → Prop} {xs : List V} (h : EvL ta σ H xs) (hr : EvAX tr σ H P) : EvAX (tCons ta tr) σ H (fun vs H => ∃ p r, vs = .ref p :: r ∧ H p = some (.lst xs) ∧ P r H) := fun H1 e Q q =>
  h H1 e _ fun p H2 _ e2 h2 => hr H2 (e.trans e2) _ fun vs H3 e3 hp => q _ H3 (e2.trans e3) ⟨p, vs, rfl, e3 _ _ h2, hp⟩
theorem eax_U {tr : TA} {P : List V → Hp → Prop} {xs : List V} (h : EvU ta σ H xs) (hr : EvAX tr σ H P) : EvAX (tCons ta tr) σ H (fun vs H => ∃ p r, vs = .ref p :: r ∧ H p = some (.tup xs) ∧ P r H) := fun H1 e Q q =>
  h H1 e _ fun p H2 _ e2 h2 => hr H2 (e.trans e2) _ fun vs H3 e3 hp => q _ H3 (e2.trans e3) ⟨p, vs, rfl, e3 _ _ h2, hp⟩
theorem ev_callX {sp : Sp} {P : List V → Hp → Prop} {E : XK} {tr : TA} (h : EvAX tr σ H P) (hs : ∀ vs H1, Ex H H1 → P vs H1 → SpV sp vs H1 z) : Ev (tCall sp [] E tr) σ H z := fun H1 e Q q =>
  h H1 e _ fun vs H2 e2 hp => by
    rw [List.append_nil]
    exact hs vs H2 (e.trans e2) hp H2 (Ex.refl H2) Q (fun H3 e3 => q H3 (e2.trans e3)) E
theorem el_callX {sp : Sp} {P : List V → Hp → Prop} {E : XK} {tr : TA} {xs : List V} (h : EvAX tr σ H P) (hs : ∀ vs H1, Ex H H1 → P vs H1 → SpL sp vs H1 xs) : EvL (tCall sp [] E tr) σ H xs := fun H1 e Q q =>
  h H1 e _ fun vs H2 e2 hp => by
    rw [List.append_nil]
    exact hs vs H2 (e.trans e2) hp H2 (Ex.refl H2) Q (fun p H3 h3 e3 g => q p H3 (fresh_back e2 h3) (e2.trans e3) g) E
theorem eu_callX {sp : Sp} {P : List V → Hp → Prop} {E : XK} {tr : TA} {xs : List V} (h : EvAX tr σ H P) (hs : ∀ vs H1, Ex H H1 → P vs H1 → SpU sp vs H1 xs) : EvU (tCall sp [] E tr) σ H xs := fun H1 e Q q =>
  h H1 e _ fun vs H2 e2 hp => by
    rw [List.append_nil]
    exact hs vs H2 (e.trans e2) hp H2 (Ex.refl H2) Q (fun p H3 h3 e3 g => q p H3 (fresh_back e2 h3) (e2.trans e3) g) E
/-! new tuples and lists from calls -/
theorem eu_call {sp : Sp} {dvs vs xs : List V} {E : XK} {ta : TA} (h : EvA ta σ H vs) (hs : SpU sp (vs ++ dvs) H xs) : EvU (tCall sp dvs E ta) σ H xs := fun H1 e Q q =>
  h H1 e _ fun H2 e2 => hs H2 (e.trans e2) Q (fun p H3 hp e3 h3 => q p H3 (fresh_back e2 hp) (e2.trans e3) h3) E
/-! ### statements relative to a ground heap H0 -/
theorem r_asg {i : Nat} (e : Ex H0 H1) (h : Ev te σ H0 v) (k : ∀ H2, Ex H0 H2 → Ex H1 H2 → tz D (σ.set i (some v)) H2) : tSeq (tAsg te (gName i)) tz D σ H1 := h H1 e _ fun H2 e2 => k H2 (e.trans e2) e2
/-- the value as a letter -/
theorem r_asgI {i : Nat} {z : Int} (e : Ex H0 H1) (h : Ev te σ H0 (.int z)) (k : ∀ n, n = z → ∀ H2, Ex H0 H2 → Ex H1 H2 → tz D (σ.set i (some (.int n))) H2) : tSeq (tAsg te (gName i)) tz D σ H1 := r_asg e h (k z rfl)
theorem r_asgS {i : Nat} {z : Str} (e : Ex H0 H1) (h : Ev te σ H0 (.str z)) (k : ∀ n, n = z → ∀ H2, Ex H0 H2 → Ex H1 H2 → tz D (σ.set i (some (.str n))) H2) : tSeq (tAsg te (gName i)) tz D σ H1 := r_asg e h (k z rfl)
theorem r_asgB {i : Nat} {z : Bool} (e : Ex H0 H1) (h : Ev te σ H0 (.bl z)) (k : ∀ n, n = z → ∀ H2, Ex H0 H2 → Ex H1 H2 → tz D (σ.set i (some (.bl n))) H2) : tSeq (tAsg te (gName i)) tz D σ H1 := r_asg e h (k z rfl)
/-- a new list, a new tuple: the ground moves on -/
theorem r_asgL {i : Nat} {xs : List V} (e : Ex H0 H1) (h : EvL te σ H0 xs) (k : ∀ p H2, H0 p = none → Ex H0 H2 → Ex H1 H2 → H2 p = some (.lst xs) → tz D (σ.set i (some (.ref p))) H2) : tSeq (tAsg te (gName i)) tz D σ H1 :=
  h H1 e _ fun p H2 hp e2 h2 => k p H2 (fresh_back e hp) (e.trans e2) e2 h2
theorem r_asgU {i : Nat} {xs : List V} (e : Ex H0 H1) (h : EvU te σ H0 xs) (k : ∀ p H2, H0 p = none → Ex H0 H2 → Ex H1 H2 → H2 p = some (.tup xs) → tz D (σ.set i (some (.ref p))) H2) : tSeq (tAsg te (gName i)) tz D σ H1 :=
  h H1 e _ fun p H2 hp e2 h2 => k p H2 (fresh_back e hp) (e.trans e2) e2 h2
theorem r_aug {i : Nat} {f : Int → Int → Int} {a b : Int} (e : Ex H0 H1) (hx : σ[i]? = some (some (.int a))) (h : Ev te σ H0 (.int b)) (k : ∀ H2, Ex H0 H2 → Ex H1 H2 → tz D (σ.set i (some (.int (f a b)))) H2) : tSeq (tAug i te (ipI f)) tz D σ H1 :=
  ⟨.int a, hx, h H1 e _ fun H2 e2 => ⟨a, b, rfl, rfl, k H2 (e.trans e2) e2⟩⟩
theorem r_if (e : Ex H0 H1) (h : EtP t σ H0 p) (h1 : p → ∀ H2, Ex H0 H2 → Ex H1 H2 → tu { D with nx := tz D } σ H2) (h2 : ¬ p → ∀ H2, Ex H0 H2 → Ex H1 H2 → tw { D with nx := tz D } σ H2) : tSeq (tIfS t tu tw) tz D σ H1 := by
  obtain ⟨b, hb, h⟩ := h
  refine h H1 e _ fun H2 e2 => ?_
  cases b with
  | true => exact h1 (hb.mp rfl) H2 (e.trans e2) e2
  | false => exact h2 (fun z => nomatch hb.mpr z) H2 (e.trans e2) e2
/-- an if without else whose way ends -/
theorem r_when (e : Ex H0 H1) (h : EtP t σ H0 p) (h1 : p → ∀ H2, Ex H0 H2 → Ex H1 H2 → tu { D with nx := tz D } σ H2) (h2 : ¬ p → ∀ H2, Ex H0 H2 → Ex H1 H2 → tz D σ H2) : tSeq (tIfS t tu tNext) tz D σ H1 := r_if e h h1 h2
/-- an if both of whose ways go on (its term: pss_cut): J tells the slots and the heap behind it -/
theorem r_ifJ (e : Ex H0 H1) (h : EtP t σ H0 p) (J : L2.St → Hp → Prop) (h1 : p → ∀ H2, Ex H0 H2 → Ex H1 H2 → tu { D with nx := J } σ H2) (h2 : ¬ p → ∀ H2, Ex H0 H2 → Ex H1 H2 → tw { D with nx := J } σ H2) (hd : ∀ σ' H', J σ' H' → tz D σ' H') : tCut (tIfS t tu tw) tz D σ H1 := by
  refine ⟨J, ?_, hd⟩
  obtain ⟨b, hb, h⟩ := h
  refine h H1 e _ fun H2 e2 => ?_
  cases b with
  | true => exact h1 (hb.mp rfl) H2 (e.trans e2) e2
  | false => exact h2 (fun z => nomatch hb.mpr z) H2 (e.trans e2) e2
theorem r_ret (e : Ex H0 H1) (h : Ev te σ H0 v) (k : ∀ H2, Ex H0 H2 → D.rt v H2) : tSeq (tRet te) tz D σ H1 := h H1 e _ fun H2 e2 => k H2 (e.trans e2)
theorem r_retL {xs : List V} (e : Ex H0 H1) (h : EvL te σ H0 xs) (k : ∀ p H2, H0 p = none → Ex H0 H2 → H2 p = some (.lst xs) → D.rt (.ref p) H2) : tSeq (tRet te) tz D σ H1 := h H1 e _ fun p H2 hp e2 h2 => k p H2 (fresh_back e hp) (e.trans e2) h2
theorem r_retU {xs : List V} (e : Ex H0 H1) (h : EvU te σ H0 xs) (k : ∀ p H2, H0 p = none → Ex H0 H2 → H2 p = some (.tup xs) → D.rt (.ref p) H2) : tSeq (tRet te) tz D σ H1 := h H1 e _ fun p H2 hp e2 h2 => k p H2 (fresh_back e hp) (e.trans e2) h2
/-- return of a new tuple some of whose items are new -/
theorem r_retT {ta : TA} {P : List V → Hp → Prop} (e : Ex H0 H1) (h : EvAX ta σ H0 P) (hz : ∀ vs H, P vs H → vs.length ≤ 100000) (k : ∀ vs p H2 H3, P vs H2 → Ex H0 H2 → Ex H2 H3 → H0 p = none → H3 p = some (.tup vs) → D.rt (.ref p) H3) : tSeq (tRet (tTup ta)) tz D σ H1 :=
  h H1 e _ fun vs H2 e2 hp => ⟨sz_of (hz vs H2 hp), fun p hn => k vs p H2 _ hp (e.trans e2) (Ex.new hn) (fresh_back (e.trans e2) hn) upd_same⟩
theorem r_drop (e : Ex H0 H1) (h : Ev te σ H0 v) (k : ∀ H2, Ex H0 H2 → Ex H1 H2 → tz D σ H2) : tSeq (tDrop te) tz D σ H1 := h H1 e _ fun H2 e2 => k H2 (e.trans e2) e2
theorem r_next (h : D.nx σ H) : tNext D σ H := h
theorem r_seq {t1 : TS} (h : t1 { D with nx := tz D } σ H) : tSeq t1 tz D σ H := h
/-- xs.append(e): the list is not in the ground -/
theorem r_app {l : Addr} {xs : List V} (e : Ex H0 H1) (hn : H0 l = none) (hl : H1 l = some (.lst xs)) (ha : Ev ta σ H0 (.ref l)) (h : Ev te σ H0 v) (hz : xs.length < 100000)
    (k : ∀ H2, Ex H0 H2 → H2 l = some (.lst (xs ++ [v])) → (∀ a o, a ≠ l → H1 a = some o → H2 a = some o) → tz D σ H2) : tSeq (tDrop (tBM K "list" rAppend ta (tCons te tNil))) tz D σ H1 := ha H1 e _ fun H2 e1 =>
  ⟨Or.inl ⟨rfl, xs, sq_of (e1 l _ hl)⟩, h H2 (e.trans e1) _ fun H3 e2 => ⟨l, xs, v, rfl, rfl, e2 l _ (e1 l _ hl), sz_lt hz, k _ (Ex.mut ((e.trans e1).trans e2) hn) upd_same fun a o ne ho => by
    rw [upd_ne ne]
    exact e2 a o (e1 a o ho)⟩⟩
theorem r_appM {α : Type} {f : α → V} {l : Addr} {ms : List α} {n : α} (e : Ex H0 H1) (hn : H0 l = none) (hl : H1 l = some (.lst (ms.map f))) (ha : Ev ta σ H0 (.ref l)) (h : Ev te σ H0 (f n)) (hz : ms.length < 100000)
    (k : ∀ H2, Ex H0 H2 → H2 l = some (.lst ((ms ++ [n]).map f)) → (∀ a o, a ≠ l → H1 a = some o → H2 a = some o) → tz D σ H2) : tSeq (tDrop (tBM K "list" rAppend ta (tCons te tNil))) tz D σ H1 :=
  r_app e hn hl ha h (by rw [List.length_map]; exact hz) fun H2 e2 h2 hk => k H2 e2 (by rw [List.map_append]; exact h2) hk
theorem r_appU {l : Addr} {xs ys : List V} (e : Ex H0 H1) (hn : H0 l = none) (hl : H1 l = some (.lst xs)) (ha : Ev ta σ H0 (.ref l)) (h : EvU te σ H0 ys) (hz : xs.length < 100000)
    (k : ∀ p H2, H1 p = none → p ≠ l → Ex H0 H2 → H2 l = some (.lst (xs ++ [.ref p])) → H2 p = some (.tup ys) → (∀ a o, a ≠ l → H1 a = some o → H2 a = some o) → tz D σ H2) : tSeq (tDrop (tBM K "list" rAppend ta (tCons te tNil))) tz D σ H1 := ha H1 e _ fun H2 e1 =>
  ⟨Or.inl ⟨rfl, xs, sq_of (e1 l _ hl)⟩, h H2 (e.trans e1) _ fun p H3 hp e2 h2 => by
    have ne : p ≠ l := fun z => by
      rw [z, e1 l _ hl] at hp
      cases hp
    refine ⟨l, xs, .ref p, rfl, rfl, e2 l _ (e1 l _ hl), sz_lt hz, k p _ (fresh_back e1 hp) ne (Ex.mut ((e.trans e1).trans e2) hn) upd_same (by rw [upd_ne ne]; exact h2) fun a o ne ho => ?_⟩
    rw [upd_ne ne]
    exact e2 a o (e1 a o ho)⟩
/-- a call that hands back a new list of which P holds -/
def EvLE (te : TE) (σ : L2.St) (H : Hp) (P : List V → Prop) : Prop := ∀ H1, Ex H H1 → ∀ Q : VK, (∀ p H2 xs, P xs → H1 p = none → Ex H1 H2 → H2 p = some (.lst xs) → Q (.ref p) H2) → te σ H1 Q
def SpLE (sp : Sp) (vs : List V) (H : Hp) (P : List V → Prop) : Prop := ∀ H1, Ex H H1 → ∀ Q : VK, (∀ p H2 xs, P xs → H1 p = none → Ex H1 H2 → H2 p = some (.lst xs) → Q (.ref p) H2) → ∀ E : XK, sp vs H1 Q E
theorem ele_call {sp : Sp} {dvs vs : List V} {P : List V → Prop} {E : XK} {ta : TA} (h : EvA ta σ H vs) (hs : SpLE sp (vs ++ dvs) H P) : EvLE (tCall sp dvs E ta) σ H P := fun H1 e Q q =>
  h H1 e _ fun H2 e2 => hs H2 (e.trans e2) Q (fun p H3 xs hx hp e3 h3 => q p H3 xs hx (fresh_back e2 hp) (e2.trans e3) h3) E
theorem r_asgLE {i : Nat} {P : List V → Prop} (e : Ex H0 H1) (h : EvLE te σ H0 P) (k : ∀ p H2 xs, P xs → H0 p = none → Ex H0 H2 → Ex H1 H2 → H2 p = some (.lst xs) → tz D (σ.set i (some (.ref p))) H2) : tSeq (tAsg te (gName i)) tz D σ H1 :=
  h H1 e _ fun p H2 xs hx hp e2 h2 => k p H2 xs hx (fresh_back e hp) (e.trans e2) e2 h2
/-- for a, b in zip(t, u) over two tuples -/
theorem r_forZT {a b : Addr} {xs ys : List V} {ta : TA} {j k : Nat} (e : Ex H0 H1) (h : EvA ta σ H0 [.ref a, .ref b]) (hl : xs.length = ys.length) (hx : SqT K H0 a xs) (hy : SqT K H0 b ys) (I : Nat → L2.St → Prop) (h0 : I 0 σ)
    (hs : ∀ (i : Nat) x y σ' H', xs[i]? = some x → ys[i]? = some y → I i σ' → Ex H0 H' → tu { D with nx := fun σ2 H2 => I (i + 1) σ2 ∧ Ex H0 H2, ct := fun σ2 H2 => I (i + 1) σ2 ∧ Ex H0 H2, bk := tz D } ((σ'.set j (some x)).set k (some y)) H')
    (hd : ∀ σ' H', I xs.length σ' → Ex H0 H' → tz D σ' H') : tSeq (tFor (iZipA K ta) (gTup K 2 (gCons (gName j) (gCons (gName k) gNil))) tu) tz D σ H1 :=
  h H1 e _ fun H2 e2 => ⟨a, b, xs, ys, rfl, Or.inr ⟨ex_t (e.trans e2) hx, ex_t (e.trans e2) hy, for_zipT (D := { D with nx := tz D }) hl (fun i σ' H' => I i σ' ∧ Ex H0 H') ⟨h0, e.trans e2⟩ (fun i σ' H' p => ⟨ex_t p.2 hx, ex_t p.2 hy⟩)
    (fun i x y T σ' H' hi hj p hT => ⟨T, [x, y], rfl, st_of upd_same, rfl, x, [y], rfl, y, [], rfl, rfl, hs i x y σ' _ hi hj p.1 (p.2.trans (Ex.new hT))⟩) fun σ' H' p => hd σ' H' p.1 p.2⟩⟩
theorem r_forZTM {α β : Type} {f : α → V} {g : β → V} {a b : Addr} {xs : List α} {ys : List β} {ta : TA} {j k : Nat} (e : Ex H0 H1) (h : EvA ta σ H0 [.ref a, .ref b]) (hl : xs.length = ys.length) (hx : SqT K H0 a (xs.map f)) (hy : SqT K H0 b (ys.map g)) (I : Nat → L2.St → Prop) (h0 : I 0 σ)
    (hs : ∀ (i : Nat) x y σ' H', xs[i]? = some x → ys[i]? = some y → I i σ' → Ex H0 H' → tu { D with nx := fun σ2 H2 => I (i + 1) σ2 ∧ Ex H0 H2, ct := fun σ2 H2 => I (i + 1) σ2 ∧ Ex H0 H2, bk := tz D } ((σ'.set j (some (f x))).set k (some (g y))) H')
    (hd : ∀ σ' H', I xs.length σ' → Ex H0 H' → tz D σ' H') : tSeq (tFor (iZipA K ta) (gTup K 2 (gCons (gName j) (gCons (gName k) gNil))) tu) tz D σ H1 :=
  r_forZT e h (by rw [List.length_map, List.length_map]; exact hl) hx hy I h0 (fun i x y σ' H' hi hj p e => by
    rw [List.getElem?_map] at hi hj
    cases c : xs[i]? with
    | none => rw [c] at hi; cases hi
    | some u =>
      cases d : ys[i]? with
      | none => rw [d] at hj; cases hj
      | some v =>
        rw [c] at hi
        rw [d] at hj
        obtain rfl : f u = x := Option.some.inj hi
        obtain rfl : g v = y := Option.some.inj hj
        exact hs i u v σ' H' c d p e) fun σ' H' p e => hd σ' H' (by rw [List.length_map] at p; exact p) e
/-- xs.pop() as a statement -/
theorem r_pop {l : Addr} {xs : List V} {y : V} (e : Ex H0 H1) (hn : H0 l = none) (hl : H1 l = some (.lst xs)) (ha : Ev ta σ H0 (.ref l)) (hy : xs[xs.length - 1]? = some y)
    (k : ∀ H2, Ex H0 H2 → H2 l = some (.lst xs.dropLast) → (∀ a o, a ≠ l → H1 a = some o → H2 a = some o) → tz D σ H2) : tSeq (tDrop (tBM0 K "list" rPop ta)) tz D σ H1 := ha H1 e _ fun H2 e1 =>
  ⟨Or.inl ⟨rfl, xs, sq_of (e1 l _ hl)⟩, l, xs, y, rfl, rfl, e1 l _ hl, hy, k _ (Ex.mut (e.trans e1) hn) upd_same fun a o ne ho => by
    rw [upd_ne ne]
    exact e1 a o ho⟩
/-- for over range(n), by a word of the slots; the heap only grows -/
theorem r_forR {ta : TA} {j : Nat} {n : Int} (e : Ex H0 H1) (h : EvA ta σ H0 [.int n]) (hn : -100000 ≤ n ∧ n ≤ 100000) (I : Nat → L2.St → Prop) (h0 : I 0 σ)
    (hs : ∀ (i : Nat) σ' H', (i : Int) < n → I i σ' → Ex H0 H' → tu { D with nx := fun σ2 H2 => I (i + 1) σ2 ∧ Ex H0 H2, ct := fun σ2 H2 => I (i + 1) σ2 ∧ Ex H0 H2, bk := tz D } (σ'.set j (some (.int (i : Int)))) H')
    (hd : ∀ σ' H', I n.toNat σ' → Ex H0 H' → tz D σ' H') : tSeq (tFor (iRng1 ta) (gName j) tu) tz D σ H1 :=
  h H1 e _ fun H2 e2 => ⟨n, rfl, by omega, by omega, for_range (lo := 0) (n := n.toNat) (D := { D with nx := tz D }) (fun i σ' H' => I i σ' ∧ Ex H0 H') ⟨h0, e.trans e2⟩ (fun i σ' H' hi p => by
    have e0 : (0 : Int) + (i : Int) = (i : Int) := Int.zero_add _
    show tu { D with nx := fun σ2 H2 => I (i + 1) σ2 ∧ Ex H0 H2, ct := fun σ2 H2 => I (i + 1) σ2 ∧ Ex H0 H2, bk := tz D } (σ'.set j (some (.int ((0 : Int) + (i : Int))))) H'
    rw [e0]
    exact hs i σ' H' (by omega) p.1 p.2) fun σ' H' p => hd σ' H' p.1 p.2⟩
/-- .. by a word of the slots and the heap -/
theorem r_forRH {ta : TA} {j : Nat} {n : Int} (e : Ex H0 H1) (h : EvA ta σ H0 [.int n]) (hn : -100000 ≤ n ∧ n ≤ 100000) (I : Nat → L2.St → Hp → Prop) (h0 : ∀ H2, Ex H1 H2 → I 0 σ H2)
    (hs : ∀ (i : Nat) σ' H', (i : Int) < n → I i σ' H' → tu { D with nx := I (i + 1), ct := I (i + 1), bk := tz D } (σ'.set j (some (.int (i : Int)))) H')
    (hd : ∀ σ' H', I n.toNat σ' H' → tz D σ' H') : tSeq (tFor (iRng1 ta) (gName j) tu) tz D σ H1 :=
  h H1 e _ fun H2 e2 => ⟨n, rfl, by omega, by omega, for_range (lo := 0) (n := n.toNat) (D := { D with nx := tz D }) I (h0 H2 e2) (fun i σ' H' hi p => by
    have e0 : (0 : Int) + (i : Int) = (i : Int) := Int.zero_add _
    show tu { D with nx := I (i + 1), ct := I (i + 1), bk := tz D } (σ'.set j (some (.int ((0 : Int) + (i : Int))))) H'
    rw [e0]
    exact hs i σ' H' (by omega) p) hd⟩
/-- for over a list of ints that stands -/
theorem r_forLI {a : Addr} {ns : List Int} {tl : TE} {j : Nat} (e : Ex H0 H1) (h : Ev tl σ H0 (.ref a)) (hx : SqL K H0 a (ns.map V.int)) (I : Nat → L2.St → Hp → Prop) (hw : ∀ i σ' H', I i σ' H' → Ex H0 H') (h0 : ∀ H2, Ex H1 H2 → I 0 σ H2)
    (hs : ∀ (i : Nat) (n : Int) σ' H', ns[i]? = some n → I i σ' H' → tu { D with nx := I (i + 1), ct := I (i + 1), bk := tz D } (σ'.set j (some (.int n))) H')
    (hd : ∀ σ' H', I ns.length σ' H' → tz D σ' H') : tSeq (tFor (iList K tl) (gName j) tu) tz D σ H1 :=
  h H1 e _ fun H2 e2 => ⟨a, rfl, ⟨_, ex_l (e.trans e2) hx⟩, for_list (D := { D with nx := tz D }) I (h0 H2 e2) (fun i σ' H' _ p => ex_l (hw i σ' H' p) hx) (fun i x σ' H' hi p => by
    rw [List.getElem?_map] at hi
    cases g : ns[i]? with
    | none => rw [g] at hi; cases hi
    | some n =>
      rw [g] at hi
      obtain rfl : V.int n = x := Option.some.inj hi
      exact hs i n σ' H' g p) fun σ' H' p => hd σ' H' (by rw [List.length_map] at p; exact p)⟩
/-- .. of anything -/
theorem r_forLM {α : Type} {f : α → V} {a : Addr} {ns : List α} {tl : TE} {j : Nat} (e : Ex H0 H1) (h : Ev tl σ H0 (.ref a)) (hx : SqL K H0 a (ns.map f)) (I : Nat → L2.St → Hp → Prop) (hw : ∀ i σ' H', I i σ' H' → Ex H0 H') (h0 : ∀ H2, Ex H1 H2 → I 0 σ H2)
    (hs : ∀ (i : Nat) (n : α) σ' H', ns[i]? = some n → I i σ' H' → tu { D with nx := I (i + 1), ct := I (i + 1), bk := tz D } (σ'.set j (some (f n))) H')
    (hd : ∀ σ' H', I ns.length σ' H' → tz D σ' H') : tSeq (tFor (iList K tl) (gName j) tu) tz D σ H1 :=
  h H1 e _ fun H2 e2 => ⟨a, rfl, ⟨_, ex_l (e.trans e2) hx⟩, for_list (D := { D with nx := tz D }) I (h0 H2 e2) (fun i σ' H' _ p => ex_l (hw i σ' H' p) hx) (fun i x σ' H' hi p => by
    rw [List.getElem?_map] at hi
    cases g : ns[i]? with
    | none => rw [g] at hi; cases hi
    | some n =>
      rw [g] at hi
      obtain rfl : f n = x := Option.some.inj hi
      exact hs i n σ' H' g p) fun σ' H' p => hd σ' H' (by rw [List.length_map] at p; exact p)⟩
/-- .. over a displayed or called, new list -/
theorem r_forNM {α : Type} {f : α → V} {ns : List α} {tl : TE} {j : Nat} (e : Ex H0 H1) (h : EvL tl σ H0 (ns.map f)) (I : Hp → Nat → L2.St → Hp → Prop) (hw : ∀ G i σ' H', I G i σ' H' → Ex G H') (h0 : ∀ G, Ex H0 G → Ex H1 G → I G 0 σ G)
    (hs : ∀ G, Ex H0 G → ∀ (i : Nat) (n : α) σ' H', ns[i]? = some n → I G i σ' H' → tu { D with nx := I G (i + 1), ct := I G (i + 1), bk := tz D } (σ'.set j (some (f n))) H')
    (hd : ∀ G, Ex H0 G → ∀ σ' H', I G ns.length σ' H' → tz D σ' H') : tSeq (tFor (iList K tl) (gName j) tu) tz D σ H1 :=
  h H1 e _ fun a G ha e2 h2 => ⟨a, rfl, ⟨_, sq_of h2⟩, for_list (D := { D with nx := tz D }) (I G) (h0 G (e.trans e2) e2) (fun i σ' H' _ p => ex_l (hw G i σ' H' p) (sq_of h2)) (fun i x σ' H' hi p => by
    rw [List.getElem?_map] at hi
    cases g : ns[i]? with
    | none => rw [g] at hi; cases hi
    | some n =>
      rw [g] at hi
      obtain rfl : f n = x := Option.some.inj hi
      exact hs G (e.trans e2) i n σ' H' g p) fun σ' H' p => hd G (e.trans e2) σ' H' (by rw [List.length_map] at p; exact p)⟩
/-- while, by a word of the measure, the slots and the heap -/
theorem r_whileH (e : Ex H0 H1) (W : Nat → L2.St → Hp → Prop) (m0 : Nat) (hw : ∀ m σ' H', W m σ' H' → Ex H0 H') (h0 : W m0 σ H1)
    (hs : ∀ m σ' H', W m σ' H' → ∃ p, EtP t σ' H0 p ∧ (p → ∀ H2, Ex H0 H2 → Ex H' H2 → tu { D with nx := fun σ2 H3 => ∃ m', m' < m ∧ W m' σ2 H3, ct := fun σ2 H3 => ∃ m', m' < m ∧ W m' σ2 H3, bk := tz D } σ' H2) ∧ (¬ p → ∀ H2, Ex H0 H2 → Ex H' H2 → tz D σ' H2)) :
    tSeq (tWhile t tu) tz D σ H1 := by
  refine q_while W m0 h0 ?_
  intro m σ' H' hwm
  have e' := hw m σ' H' hwm
  obtain ⟨p, ⟨b, hb, ht⟩, h1, h2⟩ := hs m σ' H' hwm
  refine ⟨b, ht.mono e', fun eb H2 e2 => ?_, fun eb H2 e2 => ?_⟩
  · exact ⟨_, fun σ2 H3 z => z, h1 (hb.mp eb) H2 (e'.trans e2) e2⟩
  · refine h2 (fun z => ?_) H2 (e'.trans e2) e2
    have := hb.mpr z
    rw [eb] at this
    cases this
/-- for over a list that stands -/
theorem r_forL {a : Addr} {xs : List V} {tl : TE} {j : Nat} (e : Ex H0 H1) (h : Ev tl σ H0 (.ref a)) (hx : SqL K H0 a xs) (I : Nat → L2.St → Prop) (h0 : I 0 σ)
    (hs : ∀ (i : Nat) x σ' H', xs[i]? = some x → I i σ' → Ex H0 H' → tu { D with nx := fun σ2 H2 => I (i + 1) σ2 ∧ Ex H0 H2, ct := fun σ2 H2 => I (i + 1) σ2 ∧ Ex H0 H2, bk := tz D } (σ'.set j (some x)) H')
    (hd : ∀ σ' H', I xs.length σ' → Ex H0 H' → tz D σ' H') : tSeq (tFor (iList K tl) (gName j) tu) tz D σ H1 :=
  h H1 e _ fun H2 e2 => ⟨a, rfl, ⟨xs, ex_l (e.trans e2) hx⟩, for_list (D := { D with nx := tz D }) (fun i σ' H' => I i σ' ∧ Ex H0 H') ⟨h0, e.trans e2⟩ (fun i σ' H' _ p => ex_l p.2 hx) (fun i x σ' H' hi p => hs i x σ' H' hi p.1 p.2) fun σ' H' p => hd σ' H' p.1 p.2⟩
/-- .. over a new list -/
theorem r_forNL {xs : List V} {tl : TE} {j : Nat} (e : Ex H0 H1) (h : EvL tl σ H0 xs) (I : Nat → L2.St → Prop) (h0 : I 0 σ)
    (hs : ∀ G, Ex H0 G → ∀ (i : Nat) x σ' H', xs[i]? = some x → I i σ' → Ex G H' → tu { D with nx := fun σ2 H2 => I (i + 1) σ2 ∧ Ex G H2, ct := fun σ2 H2 => I (i + 1) σ2 ∧ Ex G H2, bk := tz D } (σ'.set j (some x)) H')
    (hd : ∀ G, Ex H0 G → ∀ σ' H', I xs.length σ' → Ex G H' → tz D σ' H') : tSeq (tFor (iList K tl) (gName j) tu) tz D σ H1 :=
  h H1 e _ fun a H2 ha e2 h2 => ⟨a, rfl, ⟨xs, sq_of h2⟩, for_list (D := { D with nx := tz D }) (fun i σ' H' => I i σ' ∧ Ex H2 H') ⟨h0, Ex.refl _⟩ (fun i σ' H' _ p => ex_l p.2 (sq_of h2)) (fun i x σ' H' hi p => hs H2 (e.trans e2) i x σ' H' hi p.1 p.2) fun σ' H' p => hd H2 (e.trans e2) σ' H' p.1 p.2⟩
/-- an int of a list of ints -/
theorem rv_ixI {p : Addr} {ns : List Int} {i : Int} (h : SqL K H p (ns.map V.int)) (h0 : 0 ≤ i) (h1 : i < (ns.length : Int)) : RV (rIxL K) (.ref p) (.int i) H (.int (ns.getD i.toNat 0)) := by
  refine rv_ixL h ?_
  obtain ⟨j, rfl⟩ : ∃ j : Nat, i = (j : Int) := ⟨i.toNat, by omega⟩
  have hj : j < ns.length := by omega
  refine atI_nat ?_
  rw [List.getElem?_map, List.getElem?_eq_getElem hj]
  show some (V.int ns[j]) = some (V.int (ns.getD ((j : Int).toNat) 0))
  rw [Int.toNat_natCast, List.getD_eq_getElem?_getD, List.getElem?_eq_getElem hj]
  rfl
theorem cutV_to (xs : List V) (k : Nat) : cutV xs none (some (k : Int)) = xs.take k := by
  unfold cutV
  rw [HT.sIx_none, HT.sIx_nat, List.drop_zero, Nat.sub_zero]
  by_cases h : k ≤ xs.length
  · rw [Nat.min_eq_left h]
  · rw [Nat.min_eq_right (by omega), List.take_of_length_le (Nat.le_refl _), List.take_of_length_le (by omega)]
theorem cutV_all {xs : List V} (k : Nat) (h : xs.length ≤ k) : cutV xs none (some (k : Int)) = xs := by
  rw [cutV_to, List.take_of_length_le h]
theorem cutV_from (xs : List V) (k : Nat) : cutV xs (some (k : Int)) none = xs.drop k := by
  unfold cutV
  rw [HT.sIx_none, HT.sIx_nat]
  by_cases h : k ≤ xs.length
  · rw [Nat.min_eq_left h, List.take_of_length_le (by rw [List.length_drop]; omega)]
  · rw [Nat.min_eq_right (by omega), List.take_of_length_le (by rw [List.length_drop]; omega), List.drop_of_length_le (Nat.le_refl _), List.drop_of_length_le (by omega)]
theorem rv_kd {w : World} {p : Addr} {z : Str} {v : V} (h : KDct K w p z v) : RV (rIxD K w) (.ref p) (.str z) H v := fun H1 _ Q q => ⟨p, z, v, rfl, rfl, h, q H1 (Ex.refl H1)⟩
theorem rv_isN {x : V} : RV (fun x y H Q => y = .non ∧ Q (.bl (decide (x = .non))) H) x .non H (.bl (decide (x = .non))) := fun H1 _ Q q => ⟨rfl, q H1 (Ex.refl H1)⟩
theorem rv_notN {x : V} : RV (fun x y H Q => y = .non ∧ Q (.bl (!decide (x = .non))) H) x .non H (.bl (!decide (x = .non))) := fun H1 _ Q q => ⟨rfl, q H1 (Ex.refl H1)⟩
theorem ev_slS {tl th : TO} {zs : Str} {lo hi : Option Int} (h : Ev te σ H (.str zs)) (h1 : EvO tl σ H lo) (h2 : EvO th σ H hi) (hz : zs.length ≤ 100000) : Ev (tSl rSlS te tl th) σ H (.str (cutS zs lo hi)) := fun H1 e _ q =>
  h H1 e _ fun H2 e2 => h1 H2 (e.trans e2) _ fun H3 e3 => h2 H3 ((e.trans e2).trans e3) _ fun H4 e4 => ⟨zs, rfl, sz_of hz, q H4 ((e2.trans e3).trans e4)⟩
/-- [f(x) for x in xs] over a list of ints, each an int -/
theorem given_all {n : Nat} {v : Nat → V} : given n (fun _ => true) v = (List.range n).map v := by
  unfold given
  rw [List.filter_eq_self.mpr (fun _ _ => rfl)]
theorem et_yes {σ : L2.St} {H : Hp} : EvT tYes σ H true := fun H1 _ _ q => q H1 (Ex.refl H1)
theorem map_range {α : Type} {ns : List α} {d : α} {f : α → V} : (List.range ns.length).map (fun i => f (ns.getD i d)) = ns.map f := by
  apply List.ext_getElem?
  intro i
  rw [List.getElem?_map, List.getElem?_map]
  by_cases h : i < ns.length
  · rw [List.getElem?_range h, List.getElem?_eq_getElem h]
    show some (f (ns.getD i d)) = some (f ns[i])
    rw [List.getD_eq_getElem?_getD, List.getElem?_eq_getElem h]
    rfl
  · rw [List.getElem?_eq_none (by rw [List.length_range]; omega), List.getElem?_eq_none (by omega)]
    rfl
theorem el_lcI {a : Addr} {ns : List Int} {tl : TE} {j : Nat} {vs : List Nat} (f : Int → V) (h : Ev tl σ H (.ref a)) (hx : SqL K H a (ns.map V.int)) (hz : ns.length ≤ 40000) (hw : ∀ x, wipe ((wipe σ vs).set j (some x)) vs = wipe σ vs)
    (he : ∀ (n : Int), n ∈ ns → Ev te ((wipe σ vs).set j (some (.int n))) H (f n)) : EvL (tLc (iList K tl) (gName j) tYes te vs) σ H (ns.map f) := by
  have q := el_lcL (K := K) (t := tYes) (te := te) (j := j) (vs := vs) (fun _ => true) (fun i => f (ns.getD i 0)) h hx (by rw [List.length_map]; exact hz) hw (fun _ _ _ _ _ => et_yes) (fun i x H1 e hi _ => by
    rw [List.getElem?_map] at hi
    cases g : ns[i]? with
    | none => rw [g] at hi; cases hi
    | some n =>
      rw [g] at hi
      obtain rfl : V.int n = x := Option.some.inj hi
      have d : ns.getD i 0 = n := by rw [List.getD_eq_getElem?_getD, g]; rfl
      rw [d]
      exact (he n (List.mem_of_getElem? g)).mono e)
  rw [given_all, List.length_map, map_range] at q
  exact q
/-- .. over a new list -/
theorem el_lcNI {ns : List Int} {tl : TE} {j : Nat} {vs : List Nat} (f : Int → V) (h : EvL tl σ H (ns.map V.int)) (hz : ns.length ≤ 40000) (hw : ∀ x, wipe ((wipe σ vs).set j (some x)) vs = wipe σ vs)
    (he : ∀ (n : Int), n ∈ ns → Ev te ((wipe σ vs).set j (some (.int n))) H (f n)) : EvL (tLc (iList K tl) (gName j) tYes te vs) σ H (ns.map f) := by
  have q := el_lcNL (K := K) (t := tYes) (te := te) (j := j) (vs := vs) (fun _ => true) (fun i => f (ns.getD i 0)) h (by rw [List.length_map]; exact hz) hw (fun _ _ _ _ _ => et_yes) (fun i x H1 e hi _ => by
    rw [List.getElem?_map] at hi
    cases g : ns[i]? with
    | none => rw [g] at hi; cases hi
    | some n =>
      rw [g] at hi
      obtain rfl : V.int n = x := Option.some.inj hi
      have d : ns.getD i 0 = n := by rw [List.getD_eq_getElem?_getD, g]; rfl
      rw [d]
      exact (he n (List.mem_of_getElem? g)).mono e)
  rw [given_all, List.length_map, map_range] at q
  exact q
/-- [e for k in range(n)] -/
theorem given_list (ns : List Int) (p : Int → Bool) (f : Int → V) : given ns.length (fun i => p (ns.getD i 0)) (fun i => f (ns.getD i 0)) = (ns.filter p).map f := by
  have h : ns = (List.range ns.length).map fun i => ns.getD i 0 := by
    apply List.ext_getElem?
    intro i
    rw [List.getElem?_map]
    by_cases g : i < ns.length
    · rw [List.getElem?_range g, List.getElem?_eq_getElem g]
      show some ns[i] = some (ns.getD i 0)
      rw [List.getD_eq_getElem?_getD, List.getElem?_eq_getElem g]
      rfl
    · rw [List.getElem?_eq_none (show ns.length ≤ i by omega), List.getElem?_eq_none (show (List.range ns.length).length ≤ i by rw [List.length_range]; omega)]
      rfl
  unfold given
  generalize hn : ns.length = n
  rw [hn] at h
  generalize hg : (fun i => ns.getD i 0) = g at h
  have e1 : (fun i => p (ns.getD i 0)) = p ∘ g := by rw [← hg]; rfl
  have e2 : (fun i => f (ns.getD i 0)) = f ∘ g := by rw [← hg]; rfl
  rw [e1, e2, h, List.filter_map, List.map_map]
/-- .. some of them -/
theorem el_lcIF {a : Addr} {ns : List Int} {t : TT} {tl : TE} {j : Nat} {vs : List Nat} (p : Int → Bool) (f : Int → V) (h : Ev tl σ H (.ref a)) (hx : SqL K H a (ns.map V.int)) (hz : ns.length ≤ 40000) (hw : ∀ x, wipe ((wipe σ vs).set j (some x)) vs = wipe σ vs)
    (ht : ∀ (n : Int), n ∈ ns → EvT t ((wipe σ vs).set j (some (.int n))) H (p n)) (he : ∀ (n : Int), n ∈ ns → Ev te ((wipe σ vs).set j (some (.int n))) H (f n)) : EvL (tLc (iList K tl) (gName j) t te vs) σ H ((ns.filter p).map f) := by
  have hi : ∀ (i : Nat) (x : V), (ns.map V.int)[i]? = some x → ∃ n, n ∈ ns ∧ x = .int n ∧ ns.getD i 0 = n := fun i x hi => by
    rw [List.getElem?_map] at hi
    cases g : ns[i]? with
    | none => rw [g] at hi; cases hi
    | some n =>
      rw [g] at hi
      exact ⟨n, List.mem_of_getElem? g, (Option.some.inj hi).symm, by rw [List.getD_eq_getElem?_getD, g]; rfl⟩
  have q := el_lcL (K := K) (t := t) (te := te) (j := j) (vs := vs) (fun i => p (ns.getD i 0)) (fun i => f (ns.getD i 0)) h hx (by rw [List.length_map]; exact hz) hw
    (fun i x H1 e hx => by obtain ⟨n, hm, rfl, d⟩ := hi i x hx; show EvT _ _ _ (p (ns.getD i 0)); rw [d]; exact (ht n hm).mono e)
    (fun i x H1 e hx _ => by obtain ⟨n, hm, rfl, d⟩ := hi i x hx; show Ev _ _ _ (f (ns.getD i 0)); rw [d]; exact (he n hm).mono e)
  rw [List.length_map, given_list] at q
  exact q
theorem ev_sumN {ns : List Int} (h : EvL ta σ H (ns.map V.int)) : Ev (tCB (rSum K) (tCons ta tNil)) σ H (.int ns.sum) := fun H1 e Q q =>
  h H1 e _ fun p H2 _ e2 hp => ⟨p, ns, rfl, sq_of hp, q H2 e2⟩
theorem ev_sumR {n : Nat} {f : Nat → Int} (h : EvL ta σ H ((List.range n).map fun i => V.int (f i))) : Ev (tCB (rSum K) (tCons ta tNil)) σ H (.int ((List.range n).map f).sum) :=
  ev_sumN (by rw [List.map_map]; exact h)
theorem et_p {p : Prop} [Decidable p] (h : EtP t σ H p) : EvT t σ H (decide p) := by
  obtain ⟨b, hb, h⟩ := h
  refine et_is h ?_
  cases b with
  | true => exact (decide_eq_true (hb.mp rfl)).symm
  | false => exact (decide_eq_false fun z => nomatch hb.mpr z).symm
theorem el_revL {p : Addr} {xs : List V} (ha : Ev ta σ H (.ref p)) (h : SqL K H p xs) : EvL (tRevL K ta) σ H xs.reverse := fun H1 e Q q =>
  ha H1 e _ fun H2 e2 => ⟨p, xs, rfl, ex_l (e.trans e2) h, fun l hl => q l _ (fresh_back e2 hl) (e2.trans (Ex.new hl)) upd_same⟩
theorem el_revI {p : Addr} {ns : List Int} (ha : Ev ta σ H (.ref p)) (h : SqL K H p (ns.map V.int)) : EvL (tRevL K ta) σ H (ns.reverse.map V.int) := by
  rw [List.map_reverse]
  exact el_revL ha h
theorem el_lcR {ta : TA} {j : Nat} {vs : List Nat} {n : Int} (v : Nat → V) (h : EvA ta σ H [.int n]) (hn : 0 ≤ n ∧ n ≤ 40000) (hw : ∀ x, wipe ((wipe σ vs).set j (some x)) vs = wipe σ vs)
    (he : ∀ (i : Nat), (i : Int) < n → Ev te ((wipe σ vs).set j (some (.int (i : Int)))) H (v i)) : EvL (tLc (iRng1 ta) (gName j) tYes te vs) σ H ((List.range n.toNat).map v) := by
  have q := el_lcR1 (te := te) (j := j) (vs := vs) (fun _ => true) v h hn hw (t := tYes) (fun _ _ _ _ => et_yes) (fun i H1 e hi _ => (he i hi).mono e)
  rw [given_all] at q
  exact q
/-- an item of a displayed list -/
theorem ev_ixD {ns : List Int} {i : Int} (ha : EvL ta σ H (ns.map V.int)) (hb : Ev tb σ H (.int i)) (h0 : 0 ≤ i) (h1 : i < (ns.length : Int)) : Ev (tOp (rIxL K) ta tb) σ H (.int (ns.getD i.toNat 0)) :=
  ev_opL1 ha (fun _ e => hb.mono e) fun p H1 h _ => rv_ixL (sq_of h) (by
    obtain ⟨j, rfl⟩ : ∃ j : Nat, i = (j : Int) := ⟨i.toNat, by omega⟩
    have hj : j < ns.length := by omega
    refine atI_nat ?_
    rw [List.getElem?_map, List.getElem?_eq_getElem hj, List.getD_eq_getElem?_getD, Int.toNat_natCast, List.getElem?_eq_getElem hj]
    rfl)
theorem at_strs {ns : List Str} {i : Int} (h0 : 0 ≤ i) (h1 : i < (ns.length : Int)) : atI (ns.map V.str) i = some (.str (ns.getD i.toNat "")) := by
  obtain ⟨j, rfl⟩ : ∃ j : Nat, i = (j : Int) := ⟨i.toNat, by omega⟩
  have hj : j < ns.length := by omega
  refine atI_nat ?_
  rw [List.getElem?_map, List.getElem?_eq_getElem hj, List.getD_eq_getElem?_getD, Int.toNat_natCast, List.getElem?_eq_getElem hj]
  rfl
theorem ev_ixDS {ns : List Str} {i : Int} (ha : EvL ta σ H (ns.map V.str)) (hb : Ev tb σ H (.int i)) (h0 : 0 ≤ i) (h1 : i < (ns.length : Int)) : Ev (tOp (rIxL K) ta tb) σ H (.str (ns.getD i.toNat "")) :=
  ev_opL1 ha (fun _ e => hb.mono e) fun p H1 h _ => rv_ixL (sq_of h) (at_strs h0 h1)
theorem rv_ixStr {p : Addr} {ns : List Str} {i : Int} (h : SqL K H p (ns.map V.str)) (h0 : 0 ≤ i) (h1 : i < (ns.length : Int)) : RV (rIxL K) (.ref p) (.int i) H (.str (ns.getD i.toNat "")) := rv_ixL h (at_strs h0 h1)
theorem ev_lenM {α : Type} {f : α → V} {p : Addr} {ns : List α} (ha : Ev ta σ H (.ref p)) (h : SqL K H p (ns.map f)) : Ev (tCB (rLenS K) (tCons ta tNil)) σ H (.int (ns.length : Int)) := by
  have q := ev_len ha h
  rw [List.length_map] at q
  exact q
theorem ev_lenTM {α : Type} {f : α → V} {p : Addr} {ns : List α} (ha : Ev ta σ H (.ref p)) (h : SqT K H p (ns.map f)) : Ev (tCB (rLenS K) (tCons ta tNil)) σ H (.int (ns.length : Int)) := by
  have q := ev_lenT ha h
  rw [List.length_map] at q
  exact q
theorem el_to {xs ys : List V} (h : EvL te σ H xs) (e : xs = ys) : EvL te σ H ys := by rw [← e]; exact h
theorem r_retI {i j : Int} (e : Ex H0 H1) (h : Ev te σ H0 (.int i)) (hi : i = j) (k : ∀ H2, Ex H0 H2 → D.rt (.int j) H2) : tSeq (tRet te) tz D σ H1 := by
  subst hi
  exact h H1 e _ fun H2 e2 => k H2 (e.trans e2)
theorem r_retB {i j : Bool} (e : Ex H0 H1) (h : Ev te σ H0 (.bl i)) (hi : i = j) (k : ∀ H2, Ex H0 H2 → D.rt (.bl j) H2) : tSeq (tRet te) tz D σ H1 := by
  subst hi
  exact h H1 e _ fun H2 e2 => k H2 (e.trans e2)
theorem r_retS {i j : Str} (e : Ex H0 H1) (h : Ev te σ H0 (.str i)) (hi : i = j) (k : ∀ H2, Ex H0 H2 → D.rt (.str j) H2) : tSeq (tRet te) tz D σ H1 := by
  subst hi
  exact h H1 e _ fun H2 e2 => k H2 (e.trans e2)
/-- while; the heap only grows; W: by a measure and the slots -/
theorem r_while (e : Ex H0 H1) (W : Nat → L2.St → Prop) (m0 : Nat) (h0 : W m0 σ)
    (hs : ∀ m σ' H', W m σ' → Ex H0 H' → ∃ p, EtP t σ' H0 p ∧ (p → ∀ H2, Ex H0 H2 → tu { D with nx := fun σ2 H3 => (∃ m', m' < m ∧ W m' σ2) ∧ Ex H0 H3, ct := fun σ2 H3 => (∃ m', m' < m ∧ W m' σ2) ∧ Ex H0 H3, bk := tz D } σ' H2) ∧ (¬ p → ∀ H2, Ex H0 H2 → tz D σ' H2)) :
    tSeq (tWhile t tu) tz D σ H1 := by
  refine q_while (fun m σ' H' => W m σ' ∧ Ex H0 H') m0 ⟨h0, e⟩ ?_
  rintro m σ' H' ⟨hw, e'⟩
  obtain ⟨p, ⟨b, hb, ht⟩, h1, h2⟩ := hs m σ' H' hw e'
  refine ⟨b, ht.mono e', fun eb H2 e2 => ?_, fun eb H2 e2 => ?_⟩
  · exact ⟨_, fun σ2 H3 ⟨⟨m', l, w⟩, e3⟩ => ⟨m', l, w, e3⟩, h1 (hb.mp eb) H2 (e'.trans e2)⟩
  · refine h2 (fun z => ?_) H2 (e'.trans e2)
    have := hb.mpr z
    rw [eb] at this
    cases this
end

/-! ### written dicts with text keys, told by their pairs -/
def EntsK (P : Params) : List (Str × V) → List DictEntry → Prop
  | [], [] => True
  | (k, v) :: r, e :: l => (∃ t, e.key = .str k t) ∧ e.hash = PyData.keyHash P k ∧ RelV v e.val ∧ EntsK P r l
  | _, _ => False
theorem EntsK.lit {P : Params} : ∀ {r : List (Str × V)} {l : List DictEntry}, EntsK P r l → PySem.W.KeysLit P l
  | [], [], _ => True.intro
  | (k, v) :: r, e :: l, h => by
    obtain ⟨⟨t, h1⟩, h2, _, h4⟩ := h
    exact ⟨⟨k, t, h1, h2⟩, EntsK.lit h4⟩
  | [], _ :: _, h => h.elim
  | _ :: _, [], h => h.elim
theorem isStr_str (k z : Str) (t : Tok) : (Value.str k t).isStr z = decide (k = z) := by
  rw [PySem.W.isStr_of]
  by_cases h : k = z
  · subst h
    rw [decide_eq_true rfl]
    exact keyIs_str k t
  · rw [decide_eq_false h]
    cases e : Value.isStrOf z (.str k t) with
    | false => rfl
    | true =>
      obtain ⟨t2, e2⟩ := Value.isStrOf_shape (x := z) (v := .str k t) e
      injection e2 with e3 _
      exact absurd e3 h
theorem EntsK.find {P : Params} (z : Str) : ∀ {r : List (Str × V)} {l : List DictEntry}, EntsK P r l →
    (match l.find? (fun e => e.key.isStr z) with | some e => ∃ v, r.lookup z = some v ∧ RelV v e.val | none => r.lookup z = none ∧ l.any (·.refKey) = false)
  | [], [], _ => ⟨rfl, rfl⟩
  | (k, v) :: r, e :: l, h => by
    obtain ⟨⟨t, h1⟩, _, h3, h4⟩ := h
    have ih := EntsK.find z h4
    have hk : e.key.isStr z = decide (k = z) := by rw [h1]; exact isStr_str k z t
    by_cases hz : k = z
    · subst hz
      have q : (e :: l).find? (fun e => e.key.isStr k) = some e := by
        rw [List.find?_cons, hk, decide_eq_true rfl]
      rw [q]
      refine ⟨v, ?_, h3⟩
      rw [List.lookup_cons, beq_self_eq_true]
    · have q : (e :: l).find? (fun e => e.key.isStr z) = l.find? (fun e => e.key.isStr z) := by
        rw [List.find?_cons, hk, decide_eq_false hz]
      have g : ((k, v) :: r).lookup z = r.lookup z := by
        rw [List.lookup_cons, beq_eq_false_iff_ne.mpr (Ne.symm hz)]
      rw [q, g]
      cases c : l.find? (fun e => e.key.isStr z) with
      | some e2 =>
        rw [c] at ih
        exact ih
      | none =>
        rw [c] at ih
        refine ⟨ih.1, ?_⟩
        rw [List.any_cons, ih.2, Bool.or_false]
        unfold DictEntry.refKey
        rw [h1]
  | [], _ :: _, h => h.elim
  | _ :: _, [], h => h.elim
/-- at d stands a written dict of these pairs -/
structure SD (K : PySem.W.Frag) (w : World) (d : Addr) (kvs : List (Str × V)) : Prop where
  ex : ∃ es n, K.lookup d = some ⟨.type "dict", none, .dict es n, #[]⟩ ∧ EntsK w.params kvs es.toList
  low : (d == sysModules) = false
section
variable {K : PySem.W.Frag} {w : World} {d : Addr} {kvs : List (Str × V)} {H : Hp}
theorem SD.some (D : SD K w d kvs) {z : Str} {v : V} (h : kvs.lookup z = .some v) : KDct K w d z v := by
  obtain ⟨es, n, hl, he⟩ := D.ex
  have f := he.find z
  cases c : es.toList.find? (fun e => e.key.isStr z) with
  | none => rw [c] at f; rw [f.1] at h; cases h
  | some e =>
    rw [c] at f
    obtain ⟨v2, h2, h3⟩ := f
    rw [h] at h2
    cases h2
    refine ⟨es, n, e.val, hl, he.lit, ?_, h3⟩
    unfold PySem.W.nsIn
    rw [hl]
    dsimp only
    rw [c]
theorem SD.ns (D : SD K w d kvs) (z : Str) : ∃ r, PySem.W.nsIn K d z = .some r ∧ r.isSome = (kvs.lookup z).isSome := by
  obtain ⟨es, n, hl, he⟩ := D.ex
  have f := he.find z
  unfold PySem.W.nsIn
  rw [hl]
  dsimp only
  cases c : es.toList.find? (fun e => e.key.isStr z) with
  | none =>
    rw [c] at f
    rw [f.1]
    dsimp only
    rw [f.2]
    exact ⟨none, rfl, rfl⟩
  | some e =>
    rw [c] at f
    obtain ⟨v2, h2, h3⟩ := f
    rw [h2]
    exact ⟨_, rfl, rfl⟩
def rInSD (d : Addr) (kvs : List (Str × V)) (neg : Bool) : R2 := fun x y H Q => ∃ (z : Str), x = .str z ∧ y = .ref d ∧ Q (.bl (if neg then !(kvs.lookup z).isSome else (kvs.lookup z).isSome)) H
theorem op_in_sd {X : Cx} (D : SD X.K X.w d kvs) : OpR X (compareOp .In) (rInSD d kvs false) := by
  intro pins s σ H x y v u Q I rx ry h
  obtain ⟨z, rfl, rfl, q⟩ := h
  obtain ⟨es, n, hl, he⟩ := D.ex
  obtain ⟨r, hr, hs⟩ := D.ns z
  refine op_in_kd ⟨hl, he.lit, D.low⟩ pins s σ H (.str z) (.ref d) v u Q I rx ry ⟨z, r, rfl, rfl, hr, ?_⟩
  rw [hs]
  exact q
theorem op_notIn_sd {X : Cx} (D : SD X.K X.w d kvs) : OpR X (compareOp .NotIn) (rInSD d kvs true) := by
  intro pins s σ H x y v u Q I rx ry h
  obtain ⟨z, rfl, rfl, q⟩ := h
  obtain ⟨es, n, hl, he⟩ := D.ex
  obtain ⟨r, hr, hs⟩ := D.ns z
  refine op_notIn_kd ⟨hl, he.lit, D.low⟩ pins s σ H (.str z) (.ref d) v u Q I rx ry ⟨z, r, rfl, rfl, hr, ?_⟩
  rw [hs]
  exact q
theorem rv_inSD {z : Str} : RV (rInSD d kvs false) (.str z) (.ref d) H (.bl ((kvs.lookup z).isSome)) := fun H1 _ Q q => ⟨z, rfl, rfl, q H1 (Ex.refl H1)⟩
theorem rv_niSD {z : Str} : RV (rInSD d kvs true) (.str z) (.ref d) H (.bl (!(kvs.lookup z).isSome)) := fun H1 _ Q q => ⟨z, rfl, rfl, q H1 (Ex.refl H1)⟩
theorem lookup_keys (z : Str) : ∀ kvs : List (Str × V), (kvs.lookup z).isSome = decide (z ∈ kvs.map (·.1))
  | [] => rfl
  | (k, v) :: r => by
    have ih := lookup_keys z r
    by_cases h : z = k
    · subst h
      rw [List.lookup_cons, beq_self_eq_true]
      simp
    · rw [List.lookup_cons, beq_eq_false_iff_ne.mpr h]
      show (r.lookup z).isSome = _
      rw [ih]
      simp [h]
theorem rv_inSDk {z : Str} {keys : List Str} (hk : kvs.map (·.1) = keys) : RV (rInSD d kvs false) (.str z) (.ref d) H (.bl (decide (z ∈ keys))) := by
  have q := rv_inSD (d := d) (kvs := kvs) (H := H) (z := z)
  rw [lookup_keys, hk] at q
  exact q
theorem rv_niSDk {z : Str} {keys : List Str} (hk : kvs.map (·.1) = keys) : RV (rInSD d kvs true) (.str z) (.ref d) H (.bl (!decide (z ∈ keys))) := by
  have q := rv_niSD (d := d) (kvs := kvs) (H := H) (z := z)
  rw [lookup_keys, hk] at q
  exact q
/-- a written tuple of flat values -/
theorem sqt_k {a : Addr} {od : Option Addr} {its : Array Value} {n : Nat} {sl : Array (Option Value)} {xs : List V} (l : K.lookup a = some ⟨.type "tuple", od, .seq its n, sl⟩) (hz : its.size ≤ 100000) (r : Vals xs its.toList) : ∀ H : Hp, SqT K H a xs :=
  fun _ => Or.inr ⟨_, its, n, l, rfl, rfl, Nat.le_trans hz (by decide), r⟩
end
/-! ### a call of a local name that holds one of several defs -/
def tCallR (i : Nat) (S : Addr → Sp → Prop) (t : TA) : TE := fun σ H Q => ∃ f sp, σ[i]? = some (some (.ref f)) ∧ S f sp ∧ t σ H fun vs H1 => sp vs H1 Q (fun _ _ _ => False)
theorem pe_callR {X : Cx} {k i : Nat} {x : Str} {p pos : Pos} {e : Expr} {es : List Expr} {t : TA} {S : Addr → Sp → Prop} (A : ∀ f sp, S f sp → Held X.prog X.w X.K X.mg X.base k f sp) (hr : Room k X.A) (hN : X.N[i]? = some x) (hv : Vis X.env.scope x) (ha : PA X (e :: es) t)
    (hdb : (x == ("__debug__" : Str)) = false := by decide) (hcd : (x == ("__classdict__" : Str)) = false := by decide)
    (he : starEach (e :: es) X.env = (false, eval e X.env) :: starEach es X.env := by rfl) (hpl : (backTo pos (starEach es X.env)).any (·.1) = false := by rfl) : PE X (.Call (.Name x p) (e :: es) [] pos) (tCallR i S t) := by
  refine ⟨fun pins s σ H Q I h => ?_⟩
  obtain ⟨f, sp, hs, hS, ht⟩ := h
  obtain ⟨fd, ps, F, hk, hb⟩ := (A f sp hS).ex
  refine (pe_callL (i := i) (f := f) (sp := sp) (dvs := []) (E := fun _ _ _ => False) F hr hN hv hk hb .nil (fun _ _ _ _ _ _ _ z => z.elim) ha hdb hcd he hpl).run pins s σ H Q I ⟨hs, ?_⟩
  have e0 : (fun (vs : List V) (H1 : Hp) => sp (vs ++ []) H1 Q (fun _ _ _ => False)) = fun vs H1 => sp vs H1 Q (fun _ _ _ => False) := by
    funext vs H1
    rw [List.append_nil]
  show t σ H (fun vs H1 => sp (vs ++ []) H1 Q (fun _ _ _ => False))
  rw [e0]
  exact ht
theorem ev_callR {i : Nat} {S : Addr → Sp → Prop} {ta : TA} {σ : L2.St} {H : Hp} {f : Addr} {sp : Sp} {vs : List V} {z : V} (hs : σ[i]? = some (some (.ref f))) (hS : S f sp) (h : EvA ta σ H vs) (hp : SpV sp vs H z) : Ev (tCallR i S ta) σ H z := fun H1 e Q q =>
  ⟨f, sp, hs, hS, h H1 e _ fun H2 e2 => hp H2 (e.trans e2) Q (fun H3 e3 => q H3 (e2.trans e3)) _⟩
/-! ### a def that stands, and its calls -/
structure Df (P : Program) (w : World) (K : PySem.W.Frag) (mg : Str → Option Value) (base : Heap) (k : Nat) (x : Str) (a : Addr) (fd : FuncData) (ps : List Str) (sp : Sp) : Prop where
  ok : FnOk P w K mg base CX0 k a fd ps sp
  g : mg x = some (.ref a)
  kp : PySem.W.keepIn K (.ref a) = true
  b : Binds K fd ps []
theorem Df.held {P : Program} {w : World} {K : PySem.W.Frag} {mg : Str → Option Value} {base : Heap} {k : Nat} {x : Str} {a : Addr} {fd : FuncData} {ps : List Str} {sp : Sp} (D : Df P w K mg base k x a fd ps sp) : Held P w K mg base k a sp := ⟨⟨fd, ps, D.ok, D.kp, D.b⟩⟩
theorem Df.heldM {P : Program} {w : World} {K : PySem.W.Frag} {mg : Str → Option Value} {base : Heap} {k m : Nat} {x : Str} {a : Addr} {fd : FuncData} {ps : List Str} {sp : Sp} (D : Df P w K mg base k x a fd ps sp) (h : k ≤ m) : Held P w K mg base m a sp := ⟨⟨fd, ps, D.ok.mono h, D.kp, D.b⟩⟩
section
variable {X : Cx} {k : Nat} {x : Str} {a : Addr} {fd : FuncData} {ps : List Str} {sp : Sp} {e : Expr} {es : List Expr} {t : TA} {p pos : Pos}
theorem cl (O : Df X.prog X.w X.K X.mg X.base k x a fd ps sp) (hr : Room k X.A) (hg : Gl X x) (ha : PA X (e :: es) t) (hdb : (x == ("__debug__" : Str)) = false := by decide)
    (he : starEach (e :: es) X.env = (false, eval e X.env) :: starEach es X.env := by rfl) (hpl : (backTo pos (starEach es X.env)).any (·.1) = false := by rfl) : PE X (.Call (.Name x p) (e :: es) [] pos) (tCall sp [] E0 t) :=
  pe_call O.ok hr hg O.g O.kp O.b .nil pass0 ha hdb he hpl
theorem cl0 (O : Df X.prog X.w X.K X.mg X.base k x a fd ps sp) (hr : Room k X.A) (hg : Gl X x) (hdb : (x == ("__debug__" : Str)) = false := by decide) : PE X (.Call (.Name x p) [] [] pos) (tCall sp [] E0 tNil) :=
  pe_call0 O.ok hr hg O.g O.kp O.b .nil pass0 hdb
end
/-! ### exceptions -/
/-- an exception: the class (its number), its fields -/
structure Exn where
  c : Nat
  fs : Option (List (Str × V))
def Exn.Is (x : Exn) (d : Option Addr) (H : Hp) : Prop := match x.fs with
  | none => d = none
  | some fs => ∃ a, d = some a ∧ H a = some (.xd fs)
/-- what a def that may raise comes to -/
def Outc {α : Type} (ad : Nat → Addr) (H : Hp) (Q : VK) (E : XK) (val : α → V) : Except Exn α → Prop
  | .ok z => ∀ H1, Ex H H1 → Q (val z) H1
  | .error x => ∀ d H1, Ex H H1 → x.Is d H1 → E (.ref (ad x.c)) d H1
theorem Outc.mono {α : Type} {ad : Nat → Addr} {H H' : Hp} {Q : VK} {E : XK} {val : α → V} {r : Except Exn α} (e : Ex H H') (q : Outc ad H Q E val r) : Outc ad H' Q E val r := by
  cases r with
  | ok z => exact fun H1 e1 => q H1 (e.trans e1)
  | error x => exact fun d H1 e1 => q d H1 (e.trans e1)
structure DfX (P : Program) (w : World) (K : PySem.W.Frag) (mg : Str → Option Value) (base : Heap) (k : Nat) (x : Str) (a : Addr) (fd : FuncData) (ps : List Str) (sp : Sp) : Prop where
  ok : FnOk P w K mg base (L2.CX P w) k a fd ps sp
  g : mg x = some (.ref a)
  kp : PySem.W.keepIn K (.ref a) = true
  b : Binds K fd ps []
/-- the class of an exception whose __init__ keeps one field f -/
structure ExK (K : PySem.W.Frag) (mg : Str → Option Value) (x : Str) (C I : Addr) (f : Str) : Prop where
  g : mg x = some (.ref C)
  o : OexC K C
  i : PySem.W.findIn K (.ref C) "__init__" = some (some (.ref I))
  t : PySem.W.typeIn K (.ref I) = some (.type "function")
  n : PySem.W.findIn K (.ref C) f = some none
  xf : XfC K C
def sp_init1 (K : PySem.W.Frag) (f : Str) : Sp := fun vs H Q _ => ∃ (a C : Addr) (y : V), vs = [.ref a, y] ∧ (OexC K C ∧ PySem.W.findIn K (.ref C) f = some none ∧ H a = some (exo a C none)) ∧
  ∀ dx, H dx = none → dx ≠ a → Q .non (upd (upd H dx (exd dx [(f, y)])) a (exo a C (some dx)))
/-- the exception x in the air with the slots σ -/
def EvE (te : TE) (σ : L2.St) (H : Hp) (P : Value → Option Addr → Hp → Prop) (W : WX) : Prop := ∀ H1, Ex H H1 → ∀ Q : VK, (∀ cls d H2, Ex H1 H2 → P cls d H2 → W cls d σ H2) → te σ H1 Q
def SpE (sp : Sp) (vs : List V) (H : Hp) (P : Value → Option Addr → Hp → Prop) : Prop := ∀ H1, Ex H H1 → ∀ (Q : VK) (E : XK), (∀ cls d H2, Ex H1 H2 → P cls d H2 → E cls d H2) → sp vs H1 Q E
def XIs (ad : Nat → Addr) (x : Exn) : Value → Option Addr → Hp → Prop := fun cls d H => cls = .ref (ad x.c) ∧ x.Is d H
section
variable {X : Cx} {K : PySem.W.Frag} {σ : L2.St} {H H0 H1 H' : Hp} {ta tb te : TE} {t : TA} {v z : V} {vs : List V} {D : Ends} {tz : TS} {W : WX} {sp : Sp} {P : Value → Option Addr → Hp → Prop}
theorem ev_callS {E : L2.St → XK} (h : EvA t σ H vs) (hs : SpV sp vs H z) : Ev (tCallS sp E t) σ H z := fun H1 e Q q =>
  h H1 e _ fun H2 e2 => hs H2 (e.trans e2) Q (fun H3 e3 => q H3 (e2.trans e3)) _
theorem ee_callS (h : EvA t σ H vs) (hs : SpE sp vs H P) : EvE (tCallS sp (WE W) t) σ H P W := fun H1 e Q q =>
  h H1 e _ fun H2 e2 => hs H2 (e.trans e2) Q _ fun cls d H3 e3 hp => q cls d H3 (e2.trans e3) hp
theorem ev_callSX {E : L2.St → XK} {R : List V → Hp → Prop} (h : EvAX t σ H R) (hs : ∀ vs H1, Ex H H1 → R vs H1 → SpV sp vs H1 z) : Ev (tCallS sp E t) σ H z := fun H1 e Q q =>
  h H1 e _ fun vs H2 e2 hp => hs vs H2 (e.trans e2) hp H2 (Ex.refl H2) Q (fun H3 e3 => q H3 (e2.trans e3)) _
theorem ee_callSX {R : List V → Hp → Prop} (h : EvAX t σ H R) (hs : ∀ vs H1, Ex H H1 → R vs H1 → SpE sp vs H1 P) : EvE (tCallS sp (WE W) t) σ H P W := fun H1 e Q q =>
  h H1 e _ fun vs H2 e2 hr => hs vs H2 (e.trans e2) hr H2 (Ex.refl H2) Q _ fun cls d H3 e3 hp => q cls d H3 (e2.trans e3) hp
theorem r_retE (e : Ex H0 H1) (h : EvE te σ H0 P W) (k : ∀ cls d H2, Ex H0 H2 → P cls d H2 → W cls d σ H2) : tSeq (tRet te) tz D σ H1 := h H1 e _ fun cls d H2 e2 hp => k cls d H2 (e.trans e2) hp
theorem r_asgE {i : Nat} (e : Ex H0 H1) (h : EvE te σ H0 P W) (k : ∀ cls d H2, Ex H0 H2 → P cls d H2 → W cls d σ H2) : tSeq (tAsg te (gName i)) tz D σ H1 := h H1 e _ fun cls d H2 e2 hp => k cls d H2 (e.trans e2) hp
theorem r_dropE (e : Ex H0 H1) (h : EvE te σ H0 P W) (k : ∀ cls d H2, Ex H0 H2 → P cls d H2 → W cls d σ H2) : tSeq (tDrop te) tz D σ H1 := h H1 e _ fun cls d H2 e2 hp => k cls d H2 (e.trans e2) hp
/-- raise C(y), C with one field -/
theorem r_raise1 {mg : Str → Option Value} {x f : Str} {C I : Addr} {y : V} (e : Ex H0 H1) (T : ExK K mg x C I f) (h : EvA t σ H0 [y]) (k : ∀ d H2, Ex H0 H2 → (∃ a, d = some a ∧ H2 a = some (.xd [(f, y)])) → W (.ref C) d σ H2) :
    tSeq (fun _ σ H => tMkO C (sp_init1 K f) [] t σ H fun cls d H' => W cls d σ H') tz D σ H1 :=
  h H1 e _ fun H2 e2 => ⟨by show 1 ≤ 1000; decide, fun a hn => ⟨a, C, y, rfl, ⟨T.o, T.n, upd_same⟩, fun dx h1 h2 => by
    have hd : H2 dx = none := by
      rw [upd_ne h2] at h1
      exact h1
    refine ⟨rfl, dx, [(f, y)], upd_same, by rw [upd_ne h2]; exact upd_same, hd, k _ _ ?_ ⟨dx, rfl, upd_same⟩⟩
    refine (e.trans e2).trans fun b o hb => ?_
    have nb1 : b ≠ dx := fun z => by rw [z, hd] at hb; cases hb
    have nb2 : b ≠ a := fun z => by rw [z, hn] at hb; cases hb
    rw [upd_ne nb1, del_ne nb2, upd_ne nb2, upd_ne nb1, upd_ne nb2]
    exact hb⟩⟩
theorem clS {k : Nat} {x : Str} {a : Addr} {fd : FuncData} {ps : List Str} {e : Expr} {es : List Expr} {p pos : Pos} {E : L2.St → XK} (O : DfX X.prog X.w X.K X.mg X.base k x a fd ps sp) (hr : Room k X.A) (hg : Gl X x) (hx : ∀ σ, PassesAt (L2.CX X.prog X.w) X σ (E σ)) (ha : PA X (e :: es) t)
    (hdb : (x == ("__debug__" : Str)) = false := by decide) (he : starEach (e :: es) X.env = (false, eval e X.env) :: starEach es X.env := by rfl) (hpl : (backTo pos (starEach es X.env)).any (·.1) = false := by rfl) : PE X (.Call (.Name x p) (e :: es) [] pos) (tCallS sp E t) :=
  pe_callS O.ok hr hg O.g O.kp O.b hx ha hdb he hpl
theorem clL {k : Nat} {x : Str} {a : Addr} {fd : FuncData} {ps : List Str} {e : Expr} {es : List Expr} {p pos : Pos} (O : DfX X.prog X.w X.K X.mg X.base k x a fd ps sp) (hr : Room k X.A) (hg : Gl X x) (ha : PA X (e :: es) t)
    (hdb : (x == ("__debug__" : Str)) = false := by decide) (he : starEach (e :: es) X.env = (false, eval e X.env) :: starEach es X.env := by rfl) (hpl : (backTo pos (starEach es X.env)).any (·.1) = false := by rfl) : PE X (.Call (.Name x p) (e :: es) [] pos) (tCall sp [] E0 t) :=
  pe_call O.ok hr hg O.g O.kp O.b .nil passL ha hdb he hpl
end
/-- a local name that holds one of several defs that may raise -/
structure HeldX (P : Program) (w : World) (K : PySem.W.Frag) (mg : Str → Option Value) (base : Heap) (k : Nat) (a : Addr) (sp : Sp) : Prop where
  ex : ∃ fd ps, FnOk P w K mg base (L2.CX P w) k a fd ps sp ∧ PySem.W.keepIn K (.ref a) = true ∧ Binds K fd ps []
theorem DfX.heldM {P : Program} {w : World} {K : PySem.W.Frag} {mg : Str → Option Value} {base : Heap} {k m : Nat} {x : Str} {a : Addr} {fd : FuncData} {ps : List Str} {sp : Sp} (D : DfX P w K mg base k x a fd ps sp) (h : k ≤ m) : HeldX P w K mg base m a sp := ⟨⟨fd, ps, D.ok.mono h, D.kp, D.b⟩⟩
theorem exm_of {K : PySem.W.Frag} {S B : Addr} {b : Bool} (h1 : PySem.W.subIn K (.ref S) (.type "BaseException") = some true) (h1' : PySem.W.subIn K (.ref B) (.type "BaseException") = some true) (h2 : PySem.W.isClsIn K B = true) (h3 : PySem.W.typeIn K (.ref B) = some (.type "type")) (h4 : PySem.W.subIn K (.ref S) (.ref B) = some b) :
    PySem.W.exmOne K (.ref S) (.ref B) = some b := by
  have e1 : (PySem.W.subIn K (.ref B) (.type "BaseException") == some true) = true := by rw [h1'] <;> rfl
  have e2 : ((PySem.W.clsIn K B).isSome && PySem.W.typeIn K (.ref B) == some (.type "type")) = true := by
    have h2' : (PySem.W.clsIn K B).isSome = true := h2
    rw [h2', h3] <;> rfl
  show (if (PySem.W.subIn K (.ref B) (.type "BaseException") == some true) = true then (if ((PySem.W.clsIn K B).isSome && PySem.W.typeIn K (.ref B) == some (.type "type")) = true then PySem.W.subIn K (.ref S) (.ref B) else none) else none) = some b
  rw [if_pos e1, if_pos e2]
  exact h4
structure InitOk (P : Program) (w : World) (K : PySem.W.Frag) (mg : Str → Option Value) (base : Heap) (a : Addr) (fd : FuncData) (ps : List Str) (sp : Sp) : Prop where
  ok : FnOk P w K mg base CX0 1 a fd ps sp
  b : Binds K fd ps []
def tCallRX (i : Nat) (S : Addr → Sp → Prop) (E : XK) (t : TA) : TE := fun σ H Q => ∃ f sp, σ[i]? = some (some (.ref f)) ∧ S f sp ∧ t σ H fun vs H1 => sp vs H1 Q E
theorem pe_callRX {X : Cx} {k i : Nat} {x : Str} {p pos : Pos} {e : Expr} {es : List Expr} {t : TA} {E : XK} {S : Addr → Sp → Prop} (A : ∀ f sp, S f sp → HeldX X.prog X.w X.K X.mg X.base k f sp) (hr : Room k X.A) (hN : X.N[i]? = some x) (hv : Vis X.env.scope x) (hx : Passes (L2.CX X.prog X.w) X E) (ha : PA X (e :: es) t)
    (hdb : (x == ("__debug__" : Str)) = false := by decide) (hcd : (x == ("__classdict__" : Str)) = false := by decide)
    (he : starEach (e :: es) X.env = (false, eval e X.env) :: starEach es X.env := by rfl) (hpl : (backTo pos (starEach es X.env)).any (·.1) = false := by rfl) : PE X (.Call (.Name x p) (e :: es) [] pos) (tCallRX i S E t) := by
  refine ⟨fun pins s σ H Q I h => ?_⟩
  obtain ⟨f, sp, hs, hS, ht⟩ := h
  obtain ⟨fd, ps, F, hk, hb⟩ := (A f sp hS).ex
  refine (pe_callL (i := i) (f := f) (sp := sp) (dvs := []) (E := E) F hr hN hv hk hb .nil hx ha hdb hcd he hpl).run pins s σ H Q I ⟨hs, ?_⟩
  have e0 : (fun (vs : List V) (H1 : Hp) => sp (vs ++ []) H1 Q E) = fun vs H1 => sp vs H1 Q E := by
    funext vs H1
    rw [List.append_nil]
  show t σ H (fun vs H1 => sp (vs ++ []) H1 Q E)
  rw [e0]
  exact ht
theorem ev_callRX {i : Nat} {S : Addr → Sp → Prop} {E : XK} {ta : TA} {σ : L2.St} {H : Hp} {f : Addr} {sp : Sp} {vs : List V} {z : V} (hs : σ[i]? = some (some (.ref f))) (hS : S f sp) (h : EvA ta σ H vs) (hp : SpV sp vs H z) : Ev (tCallRX i S E ta) σ H z := fun H1 e Q q =>
  ⟨f, sp, hs, hS, h H1 e _ fun H2 e2 => hp H2 (e.trans e2) Q (fun H3 e3 => q H3 (e2.trans e3)) _⟩
theorem ee_callRX {i : Nat} {S : Addr → Sp → Prop} {E : XK} {ta : TA} {σ : L2.St} {H : Hp} {f : Addr} {sp : Sp} {vs : List V} {P : Value → Option Addr → Hp → Prop} (hs : σ[i]? = some (some (.ref f))) (hS : S f sp) (h : EvA ta σ H vs) (hp : SpE sp vs H P) : EvE (tCallRX i S E ta) σ H P (fun cls d _ H => E cls d H) := fun H1 e Q q =>
  ⟨f, sp, hs, hS, h H1 e _ fun H2 e2 => hp H2 (e.trans e2) Q _ fun cls d H3 e3 h3 => q cls d H3 (e2.trans e3) h3⟩
/-- a promise by outcome, taken apart -/
theorem spv_of {α : Type} {ad : Nat → Addr} {sp : Sp} {vs : List V} {H : Hp} {val : α → V} {r : Except Exn α} {z : α} (h : ∀ H1, Ex H H1 → ∀ Q E, Outc ad H1 Q E val r → sp vs H1 Q E) (hr : r = .ok z) : SpV sp vs H (val z) := by
  subst hr
  exact fun H1 e Q q E => h H1 e Q E q
theorem spe_of {α : Type} {ad : Nat → Addr} {sp : Sp} {vs : List V} {H : Hp} {val : α → V} {r : Except Exn α} {x : Exn} (h : ∀ H1, Ex H H1 → ∀ Q E, Outc ad H1 Q E val r → sp vs H1 Q E) (hr : r = .error x) : SpE sp vs H (XIs ad x) := by
  subst hr
  exact fun H1 e Q E q => h H1 e Q E fun d H2 e2 hx => q _ d H2 e2 ⟨rfl, hx⟩
def EvAE (ta : TA) (σ : L2.St) (H : Hp) (P : Value → Option Addr → Hp → Prop) (W : WX) : Prop := ∀ H1, Ex H H1 → ∀ Q : List V → Hp → Prop, (∀ cls d H2, Ex H1 H2 → P cls d H2 → W cls d σ H2) → ta σ H1 Q
theorem eae_0 {te : TE} {tr : TA} {σ : L2.St} {H : Hp} {P : Value → Option Addr → Hp → Prop} {W : WX} (h : EvE te σ H P W) : EvAE (tCons te tr) σ H P W := fun H1 e Q q => h H1 e _ q
theorem eae_1 {te : TE} {tr : TA} {σ : L2.St} {H : Hp} {v : V} {P : Value → Option Addr → Hp → Prop} {W : WX} (h : Ev te σ H v) (hr : EvAE tr σ H P W) : EvAE (tCons te tr) σ H P W := fun H1 e Q q =>
  h H1 e _ fun H2 e2 => hr H2 (e.trans e2) _ fun cls d H3 e3 hp => q cls d H3 (e2.trans e3) hp
theorem ee_tup {ta : TA} {σ : L2.St} {H : Hp} {P : Value → Option Addr → Hp → Prop} {W : WX} (h : EvAE ta σ H P W) : EvE (tTup ta) σ H P W := fun H1 e _ q => h H1 e _ q
theorem ev_xf {te : TE} {σ : L2.St} {H : Hp} {a dd C : Addr} {f : Str} {fs : List (Str × V)} {v : V} (h : Ev te σ H (.ref a)) (hd : H dd = some (.xd fs)) (hl : fs.lookup f = some v) : Ev (tXf a (.ref C) (some dd) C f te) σ H v := fun H1 e Q q =>
  h H1 e _ fun H2 e2 => ⟨rfl, rfl, dd, fs, v, rfl, (e.trans e2) _ _ hd, hl, q H2 e2⟩
theorem lk1 (f : Str) (v : V) : [(f, v)].lookup f = some v := by simp [List.lookup]
def clsBodyW : Stmt → List Stmt
  | .ClassDef _ _ _ body _ _ _ _ _ _ _ => body
  | _ => []
theorem w_div {i j : Int} (h0 : 0 < j) (h1 : j ≤ 2 ^ 64) : CDivW i j := by
  refine ⟨h0, ?_⟩
  have h2 : j.natAbs < 2 ^ 65 := by omega
  have h3 := (Nat.log2_lt (by omega)).mpr h2
  omega
end Wm
set_option Elab.async false
set_option linter.all false
set_option maxRecDepth 100000
set_option maxHeartbeats 4000000
/-! Dm: a program's text as a total Lean function over plain data. No heap here: what a def returns, raises, or (bad) that nothing is said. -/
namespace Dm
open PySem L2
/-- data: scr is a list that is only read, ktp a tuple of the module -/
inductive D where
  | non | bl (b : Bool) | int (i : Int) | str (s : Str) | tup (xs : List D) | lst (xs : List D) | scr (xs : List D) | ktp (xs : List D) | fn (n : Nat) | dct (ks : List Str) (xs : List D) | mref (n : Nat)
instance : Inhabited D := ⟨.non⟩
/-- a cell of the store: what may change -/
inductive Cell where
  | lst (xs : List D) | dct (kvs : List (D × D)) | ins (c : Nat) (fs : List (Str × D))
abbrev Sto := List Cell
inductive Rs (α : Type) where
  | ok (a : α) (s : Sto) | exc (c : Nat) (fs : List (Str × D)) (s : Sto) | bad
/-- what runs on a store -/
def R (α : Type) := Sto → Rs α
namespace R
variable {α β : Type}
def ok (a : α) : R α := fun s => Rs.ok a s
def exc (c : Nat) (fs : List (Str × D)) : R α := fun s => Rs.exc c fs s
def bad : R α := fun _ => Rs.bad
def bind (x : R α) (k : α → R β) : R β := fun s => match x s with
  | .ok a s' => k a s'
  | .exc c fs s' => Rs.exc c fs s'
  | .bad => Rs.bad
end R
instance : Monad R where
  pure := .ok
  bind := R.bind
/-- a slot: nothing known, data, a list of one's own, the exception in the hand -/
inductive Sl where
  | un | val (d : D) | own (xs : List D) | exn (c : Nat) (fs : List (Str × D))
instance : Inhabited Sl := ⟨.un⟩
abbrev Env := List Sl
abbrev SE := Env → R D
abbrev SA := Env → R (List D)
abbrev ST := Env → R Bool
inductive RSr where
  | nx (e : Env) (s : Sto) | rt (v : Sl) (s : Sto) | bk (e : Env) (s : Sto) | ct (e : Env) (s : Sto) | exc (c : Nat) (fs : List (Str × D)) (e : Env) (s : Sto) | bad
def RS := Sto → RSr
namespace RS
def nx (e : Env) : RS := fun s => RSr.nx e s
def rt (v : Sl) : RS := fun s => RSr.rt v s
def bk (e : Env) : RS := fun s => RSr.bk e s
def ct (e : Env) : RS := fun s => RSr.ct e s
def exc (c : Nat) (fs : List (Str × D)) (e : Env) : RS := fun s => RSr.exc c fs e s
def bad : RS := fun _ => RSr.bad
end RS
abbrev SS := Env → RS

/-! data -/
def cutG {α : Type} (xs : List α) (lo hi : Option Int) : List α := (xs.drop (HT.sIx xs.length 0 lo)).take (HT.sIx xs.length xs.length hi - HT.sIx xs.length 0 lo)
mutual
def D.eqv : D → D → Bool
  | .non, .non => true
  | .bl a, .bl b => a == b
  | .bl a, .int j => (if a then 1 else 0) == j
  | .int i, .bl b => i == (if b then 1 else 0)
  | .int i, .int j => i == j
  | .str x, .str y => x == y
  | .lst xs, .lst ys => eqvAll xs ys
  | .lst xs, .scr ys => eqvAll xs ys
  | .scr xs, .lst ys => eqvAll xs ys
  | .scr xs, .scr ys => eqvAll xs ys
  | .tup xs, .tup ys => eqvAll xs ys
  | .ktp xs, .tup ys => eqvAll xs ys
  | .tup xs, .ktp ys => eqvAll xs ys
  | .ktp xs, .ktp ys => eqvAll xs ys
  | _, _ => false
def eqvAll : List D → List D → Bool
  | [], [] => true
  | x :: xs, y :: ys => D.eqv x y && eqvAll xs ys
  | _, _ => false
end
mutual
/-- plain data, at most so deep -/
def D.shp : Nat → D → Bool
  | _, .non | _, .bl _ | _, .int _ => true
  | _, .str x => x.cps.all (· < 0x110000)
  | n + 1, .lst xs | n + 1, .scr xs | n + 1, .tup xs | n + 1, .ktp xs => shpAll n xs
  | _, _ => false
def shpAll : Nat → List D → Bool
  | _, [] => true
  | n, x :: xs => D.shp n x && shpAll n xs
end
def flatD : D → Bool
  | .non | .bl _ | .int _ | .str _ => true
  | _ => false
def lkp : List Str → List D → Str → Option D
  | k :: ks, d :: ds, z => if z = k then some d else lkp ks ds z
  | _, _, _ => none
def seqOf : D → Option (List D)
  | .lst xs | .scr xs | .tup xs | .ktp xs => some xs
  | _ => none

/-! operations -/
abbrev Z : Nat := 100000
def dAdd : D → D → R D
  | .int i, .int j => .ok (.int (i + j))
  | .str a, .str b => if a.length + b.length ≤ Z then .ok (.str (a ++ b)) else .bad
  | .lst a, .lst b => if a.length + b.length ≤ Z then .ok (.lst (a ++ b)) else .bad
  | .tup a, .tup b => if a.length + b.length ≤ Z then .ok (.tup (a ++ b)) else .bad
  | _, _ => .bad
/-- of += -/
def dAddX : D → D → R D
  | .int i, .int j => .ok (.int (i + j))
  | .str a, .str b => if a.length + b.length ≤ Z then .ok (.str (a ++ b)) else .bad
  | _, _ => .bad
def dSub : D → D → R D
  | .int i, .int j => .ok (.int (i - j))
  | _, _ => .bad
instance (i j : Int) : Decidable (CMulW i j) := inferInstanceAs (Decidable (_ < _))
instance (i j : Int) : Decidable (CMul i j) := inferInstanceAs (Decidable (_ ∨ _))
instance (i j : Int) : Decidable (CShl i j) := inferInstanceAs (Decidable (_ ∧ _))
instance (i j : Int) : Decidable (CPow i j) := inferInstanceAs (Decidable (_ ∧ _))
instance (i j : Int) : Decidable (CDivW i j) := inferInstanceAs (Decidable (_ ∧ _))
def dMul : D → D → R D
  | .int i, .int j => if CMulW i j ∨ CMul i j then .ok (.int (i * j)) else .bad
  | .lst xs, .int k => if xs.length * k.toNat ≤ Z ∧ -(2 ^ 63) ≤ k ∧ k < 2 ^ 63 then .ok (.lst (List.replicate k.toNat xs).flatten) else .bad
  | _, _ => .bad
def dDiv : D → D → R D
  | .int i, .int j => if CDivW i j then .ok (.int (i / j)) else .bad
  | _, _ => .bad
def dMod : D → D → R D
  | .int i, .int j => if 0 < j then .ok (.int (i % j)) else .bad
  | _, _ => .bad
def dPow : D → D → R D
  | .int i, .int j => if CPow i j then .ok (.int (i ^ j.toNat)) else .bad
  | _, _ => .bad
def dShl : D → D → R D
  | .int i, .int j => if CShl i j ∨ CPow i j then .ok (.int (i * 2 ^ j.toNat)) else .bad
  | _, _ => .bad
def dShr : D → D → R D
  | .int i, .int j => if 0 ≤ j then .ok (.int (i / 2 ^ j.toNat)) else .bad
  | _, _ => .bad
def dAnd : D → D → R D
  | .int i, .int j => .ok (.int (Builtin.bitAnd i j))
  | _, _ => .bad
def dOr : D → D → R D
  | .int i, .int j => .ok (.int (Builtin.bitOr i j))
  | _, _ => .bad
def dXor : D → D → R D
  | .int i, .int j => .ok (.int (Builtin.bitXor i j))
  | _, _ => .bad
def dNeg : D → R D
  | .int i => .ok (.int (-i))
  | _ => .bad
def dNot : D → R D
  | .bl b => .ok (.bl !b)
  | _ => .bad
def dLt : D → D → R D
  | .int i, .int j => .ok (.bl (decide (i < j)))
  | .str a, .str b => .ok (.bl (decide (a.cps.toList < b.cps.toList)))
  | _, _ => .bad
def dLe : D → D → R D
  | .int i, .int j => .ok (.bl (decide (i ≤ j)))
  | .str a, .str b => .ok (.bl (!decide (b.cps.toList < a.cps.toList)))
  | _, _ => .bad
def dGt : D → D → R D
  | .int i, .int j => .ok (.bl (decide (j < i)))
  | .str a, .str b => .ok (.bl (decide (b.cps.toList < a.cps.toList)))
  | _, _ => .bad
def dGe : D → D → R D
  | .int i, .int j => .ok (.bl (decide (j ≤ i)))
  | .str a, .str b => .ok (.bl (!decide (a.cps.toList < b.cps.toList)))
  | _, _ => .bad
/-- ==: of texts without a look at their signs -/
def dEq : D → D → R D
  | .int i, .int j => .ok (.bl (decide (i = j)))
  | .str a, .str b => .ok (.bl (decide (a = b)))
  | .non, .str _ => .ok (.bl false)
  | .str _, .non => .ok (.bl false)
  | x, y => if x.shp 64 && y.shp 64 then .ok (.bl (x.eqv y)) else .bad
def dNe : D → D → R D := fun x y => (dEq x y).bind dNot
def inD (x : D) (xs : List D) : Bool := xs.any fun y => y.eqv x
def dIn : D → D → R D
  | .str a, .str b => .ok (.bl (!(Builtin.Str.occurrences b a 0 b.length 1).isEmpty))
  | .str a, .dct ks ds => .ok (.bl (lkp ks ds a).isSome)
  | x, y => match seqOf y with
    | some xs => if flatD x && xs.all flatD then .ok (.bl (inD x xs)) else .bad
    | none => .bad
def dNotIn : D → D → R D := fun x y => (dIn x y).bind dNot
def dIsN : D → R D
  | .non => .ok (.bl true)
  | _ => .ok (.bl false)
def dIsNot : D → R D := fun x => (dIsN x).bind dNot
def dIs : D → D → R D
  | x, .non => dIsN x
  | _, _ => .bad
def dIsnt : D → D → R D
  | x, .non => dIsNot x
  | _, _ => .bad
/-! cells of the store: lists -/
def onL {α : Type} (n : Nat) (k : List D → Sto → Rs α) : R α := fun s => match s[n]? with
  | some (.lst xs) => k xs s
  | _ => Rs.bad
def oR {α β : Type} (o : Option α) (k : α → Rs β) : Rs β := match o with
  | some a => k a
  | none => Rs.bad
def cIx (n : Nat) (i : Int) : R D := onL n fun xs s => oR (atI xs i) fun d => Rs.ok d s
def cLen (n : Nat) : R D := onL n fun xs s => Rs.ok (.int xs.length) s
def cNew (c : Cell) : R D := fun s => Rs.ok (.mref s.length) (s ++ [c])
def cPop0 (n : Nat) : R D := onL n fun xs s => oR xs[0]? fun d => Rs.ok d (s.set n (.lst xs.tail))
def cSet (n : Nat) (j : Int) (d : D) : R Unit := onL n fun xs s => oR (ixN xs.length j) fun k => Rs.ok () (s.set n (.lst (xs.set k d)))
def cApp (n : Nat) (d : D) : R Unit := onL n fun xs s => if xs.length < Z then Rs.ok () (s.set n (.lst (xs ++ [d]))) else Rs.bad
def dIx : D → D → R D
  | .str z, .int i => if z.length ≤ Z then (match atI z.cps.toList i with | some c => .ok (.str ⟨#[c]⟩) | none => .bad) else .bad
  | .dct ks ds, .str z => match lkp ks ds z with | some d => .ok d | none => .bad
  | .mref n, .int i => cIx n i
  | .lst xs, .int i | .scr xs, .int i | .tup xs, .int i | .ktp xs, .int i => match atI xs i with | some d => .ok d | none => .bad
  | _, _ => .bad
def dSl : D → Option Int → Option Int → R D
  | .str z, lo, hi => if z.length ≤ Z then .ok (.str (cutS z lo hi)) else .bad
  | .lst xs, lo, hi | .scr xs, lo, hi => .ok (.lst (cutG xs lo hi))
  | .tup xs, lo, hi | .ktp xs, lo, hi => .ok (.tup (cutG xs lo hi))
  | _, _, _ => .bad
def toBl : D → R Bool
  | .bl b => .ok b
  | _ => .bad
def toIn : D → R Int
  | .int i => .ok i
  | _ => .bad
/-! built-ins, by their arguments -/
def fLen : List D → R D
  | [.str z] => if z.length ≤ Z then .ok (.int z.length) else .bad
  | [.lst xs] | [.scr xs] | [.tup xs] | [.ktp xs] => .ok (.int xs.length)
  | [.mref n] => cLen n
  | _ => .bad
def fInt : List D → R D
  | [.int i] => .ok (.int i)
  | [.bl b] => .ok (.int (if b then 1 else 0))
  | _ => .bad
def fStr : List D → R D
  | [.int i] => if i.natAbs.log2 < 1920 then .ok (.str (Str.ofString (toString i))) else .bad
  | _ => .bad
def fAbs : List D → R D
  | [.int i] => .ok (.int (if i < 0 then -i else i))
  | _ => .bad
def fMin2 : List D → R D
  | [.int i, .int j] => .ok (.int (if j < i then j else i))
  | _ => .bad
def fMax2 : List D → R D
  | [.int i, .int j] => .ok (.int (if j > i then j else i))
  | _ => .bad
def fOrd : List D → R D
  | [.str x] => if x.length = 1 then .ok (.int (x.cps.getD 0 0 : Nat)) else .bad
  | _ => .bad
def intsOf : List D → Option (List Int)
  | [] => some []
  | .int i :: r => (intsOf r).map (i :: ·)
  | _ => none
def strsOf : List D → Option (List Str)
  | [] => some []
  | .str i :: r => (strsOf r).map (i :: ·)
  | _ => none
def fSum : List D → R D
  | [.lst xs] | [.scr xs] => match intsOf xs with | some ns => .ok (.int ns.sum) | none => .bad
  | _ => .bad
def fTuple : List D → R D
  | [.lst xs] | [.scr xs] | [.tup xs] => .ok (.tup xs)
  | _ => .bad
/-- list(..): a new list -/
def fList : List D → R (List D)
  | [.lst xs] | [.scr xs] | [.tup xs] => .ok xs
  | _ => .bad
inductive Ty where | int | bool | str | list | tuple | dict
/-- isinstance(x, a built-in type) -/
def isTy : Ty → D → Bool
  | .int, .int _ | .int, .bl _ | .bool, .bl _ | .str, .str _ | .list, .lst _ | .list, .scr _ | .tuple, .tup _ | .tuple, .ktp _ | .dict, .dct _ _ => true
  | _, _ => false
def dIsi (t : Ty) : D → R D
  | .fn _ | .mref _ => .bad
  | x => .ok (.bl (isTy t x))
/-! methods -/
def mFind : D → List D → R D
  | .str a, [.str b] => .ok (.int (Txt.find a b))
  | _, _ => .bad
def mRfind : D → List D → R D
  | .str a, [.str b] => .ok (.int (Txt.rfind a b))
  | _, _ => .bad
def mCount : D → List D → R D
  | .str a, [.str b] => .ok (.int (Txt.count a b))
  | _, _ => .bad
def mLower : D → List D → R D
  | .str a, [] => if a.length ≤ Z then .ok (.str (Txt.lower a)) else .bad
  | _, _ => .bad
def mStarts : D → List D → R D
  | .str a, [.str b] => .ok (.bl (Txt.startswith a b))
  | _, _ => .bad
def mJoin : D → List D → R D
  | .str a, [.lst xs] | .str a, [.scr xs] | .str a, [.tup xs] => match strsOf xs with
    | some ys => if (ys.map (·.length)).sum + ys.length * a.length ≤ 16777216 then .ok (.str (Txt.join a ys)) else .bad
    | none => .bad
  | _, _ => .bad
/-- names.index(z) of a tuple of texts, where it is -/
def mTIndex : D → List D → R D
  | .ktp xs, [.str z] => match strsOf xs with
    | some ys => if z ∈ ys then .ok (.int (ys.idxOf z : Nat)) else .bad
    | none => .bad
  | _, _ => .bad

/-! ### expressions -/
def eC (d : D) : SE := fun _ => .ok d
def eV (i : Nat) : SE := fun env => match env[i]? with
  | some (.val d) => .ok d
  | _ => .bad
/-- len(xs), xs[k] of a list of one's own that still grows -/
def eLenO (i : Nat) : SE := fun env => match env[i]? with
  | some (.own xs) => .ok (.int xs.length)
  | _ => .bad
def eIxO (i : Nat) (b : SE) : SE := fun env => match env[i]? with
  | some (.own xs) => (b env).bind fun k => match k with
    | .int j => match atI xs j with
      | some d => .ok d
      | none => .bad
    | _ => .bad
  | _ => .bad
def eNil : SA := fun _ => .ok []
def eCons (a : SE) (r : SA) : SA := fun env => (a env).bind fun x => (r env).bind fun xs => .ok (x :: xs)
def eU (f : D → R D) (a : SE) : SE := fun env => (a env).bind f
def eB (f : D → D → R D) (a b : SE) : SE := fun env => (a env).bind fun x => (b env).bind fun y => f x y
def eChain (f g : D → D → R D) (a b c : SE) : SE := fun env => (a env).bind fun x => (b env).bind fun y => (f x y).bind fun r => (toBl r).bind fun k => if k = true then (c env).bind fun z => (g y z).bind fun r2 => (toBl r2).bind fun k2 => .ok (.bl k2) else .ok (.bl false)
def eAnd (a b : SE) : SE := fun env => (a env).bind fun x => (toBl x).bind fun k => if k = true then b env else .ok (.bl false)
def eOr (a b : SE) : SE := fun env => (a env).bind fun x => (toBl x).bind fun k => if k = true then .ok (.bl true) else b env
def eTup (a : SA) : SE := fun env => (a env).bind fun xs => if xs.length ≤ Z then .ok (.tup xs) else .bad
def eF (f : List D → R D) (a : SA) : SE := fun env => (a env).bind f
def eM (t : Ty) (f : D → List D → R D) (o : SE) (a : SA) : SE := fun env => (o env).bind fun x => if isTy t x = true then (a env).bind fun xs => f x xs else .bad
/-- the receiver is a tuple of the module: seen ahead of the arguments -/
def eTIx (o : SE) (a : SA) : SE := fun env => (o env).bind fun x => match x with
  | .ktp xs => (a env).bind fun ds => mTIndex (.ktp xs) ds
  | _ => .bad
def eSl (o : SE) (lo hi : Env → R (Option Int)) : SE := fun env => (o env).bind fun x => (lo env).bind fun l => (hi env).bind fun h => dSl x l h
def pN : Env → R (Option Int) := fun _ => .ok none
def pS (a : SE) : Env → R (Option Int) := fun env => (a env).bind fun x => (toIn x).bind fun i => .ok (some i)
/-- a new list as a value -/
def eL (a : SA) : SE := fun env => (a env).bind fun xs => .ok (.lst xs)
/-- tests -/
def tE (a : SE) : ST := fun env => (a env).bind toBl
def tAn (t u : ST) : ST := fun env => (t env).bind fun k => if k = true then u env else .ok false
def tO (t u : ST) : ST := fun env => (t env).bind fun k => if k = true then .ok true else u env
def tN (t : ST) : ST := fun env => (t env).bind fun k => .ok !k
def eIf (t : ST) (a b : SE) : SE := fun env => (t env).bind fun k => if k = true then a env else b env
/-! new lists -/
def lD (a : SA) : SA := fun env => (a env).bind fun xs => if xs.length ≤ Z then .ok xs else .bad
def toL : D → R (List D)
  | .lst xs => .ok xs
  | _ => .bad
/-- a + b, a * k, a[lo:hi] of lists, as new lists -/
def lCat (a b : SE) : SA := fun env => (a env).bind fun x => (b env).bind fun y => match x, y with
  | .lst xs, .lst ys => if xs.length + ys.length ≤ Z then .ok (xs ++ ys) else .bad
  | _, _ => .bad
def lRep (a b : SE) : SA := fun env => (a env).bind fun x => (b env).bind fun y => match x, y with
  | .lst xs, .int k => if xs.length * k.toNat ≤ Z ∧ -(2 ^ 63) ≤ k ∧ k < 2 ^ 63 then .ok (List.replicate k.toNat xs).flatten else .bad
  | _, _ => .bad
def lSl (o : SE) (lo hi : Env → R (Option Int)) : SA := fun env => (o env).bind fun x => (lo env).bind fun l => (hi env).bind fun h => match x with
  | .lst xs => .ok (cutG xs l h)
  | .scr xs => .ok (cutG xs l h)
  | _ => .bad
def lF (f : List D → R (List D)) (a : SA) : SA := fun env => (a env).bind f
def lRev (o : SE) : SA := fun env => (o env).bind fun x => match x with
  | .lst xs => .ok xs.reverse
  | .scr xs => .ok xs.reverse
  | _ => .bad
/-- a new list as a cell -/
def eCell (la : SA) : SE := fun env => (la env).bind fun ds => cNew (.lst ds)
/-- a method of a list that is a cell -/
def isCL : D → R Unit
  | .mref n => onL n fun _ s => Rs.ok () s
  | _ => .bad
def eMM (f : D → List D → R D) (o : SE) (a : SA) : SE := fun env => (o env).bind fun x => (isCL x).bind fun _ => (a env).bind fun xs => f x xs
def mPop0 : D → List D → R D
  | .mref n, [.int i] => if i = 0 then cPop0 n else .bad
  | _, _ => .bad
def mApp : D → List D → R D
  | .mref n, [d] => (cApp n d).bind fun _ => .ok .non
  | _, _ => .bad
def setM : D → D → D → R Unit
  | .mref n, .int j, d => cSet n j d
  | _, _, _ => .bad
/-! what is walked -/
def iD (o : SE) : SA := fun env => (o env).bind fun x => match x with
  | .lst xs => .ok xs
  | .scr xs => .ok xs
  | _ => .bad
def iT (o : SE) : SA := fun env => (o env).bind fun x => match x with
  | .tup xs => .ok xs
  | .ktp xs => .ok xs
  | _ => .bad
def iS (o : SE) : SA := fun env => (o env).bind fun x => match x with
  | .str z => .ok (z.cps.toList.map fun c => .str ⟨#[c]⟩)
  | _ => .bad
def iR1 (a : SA) : SA := fun env => (a env).bind fun x => match x with
  | [.int n] => if n ≤ Z ∧ -Z ≤ n then .ok ((List.range n.toNat).map fun (i : Nat) => .int i) else .bad
  | _ => .bad
def iR2 (a : SA) : SA := fun env => (a env).bind fun x => match x with
  | [.int m, .int n] => if n ≤ Z ∧ -Z ≤ n ∧ m ≤ Z ∧ -Z ≤ m then .ok ((List.range (n - m).toNat).map fun (i : Nat) => .int (m + (i : Int))) else .bad
  | _ => .bad
def zipD : List D → List D → List D
  | x :: xs, y :: ys => .tup [x, y] :: zipD xs ys
  | _, _ => []
def iZT (a : SA) : SA := fun env => (a env).bind fun x => match x with
  | [.tup xs, .tup ys] => .ok (zipD xs ys)
  | _ => .bad
def iZL (a : SA) : SA := fun env => (a env).bind fun x => match x with
  | [.lst xs, .lst ys] => .ok (zipD xs ys)
  | _ => .bad
def enumD : Nat → List D → List D
  | n, x :: xs => .tup [.int n, x] :: enumD (n + 1) xs
  | _, [] => []
def iEn (o : SE) : SA := fun env => (o env).bind fun x => match x with
  | .lst xs => .ok (enumD 0 xs)
  | _ => .bad
/-! ### targets -/
abbrev SG := D → Env → Option Env
def gN (i : Nat) : SG := fun d env => some (env.set i (.val d))
abbrev SGs := List D → Env → Option Env
def gE : SGs := fun ds env => match ds with
  | [] => some env
  | _ => none
def gC (g : SG) (r : SGs) : SGs := fun ds env => match ds with
  | d :: ds => match g d env with
    | some env2 => r ds env2
    | none => none
  | _ => none
def gT (n : Nat) (r : SGs) : SG := fun d env => match d with
  | .tup ds | .ktp ds => if ds.length = n then r ds env else none
  | _ => none
/-! comprehensions -/
def wipeS (env : Env) : List Nat → Env
  | [] => env
  | v :: vs => (wipeS env vs).set v .un
/-- no exception comes -/
def noX {α : Type} (r : R α) : R α := fun s => match r s with
  | .ok a s' => Rs.ok a s'
  | _ => Rs.bad
def lcGo (g : SG) (t : ST) (e : SE) (env : Env) : List D → List D → R (List D)
  | [], acc => .ok acc
  | d :: ds, acc => match g d env with
    | some env2 => (noX (t env2)).bind fun k => if k = true then (noX (e env2)).bind fun x => lcGo g t e env ds (acc ++ [x]) else lcGo g t e env ds acc
    | none => .bad
def lLc (it : SA) (g : SG) (t : ST) (e : SE) (vs : List Nat) : SA := fun env => (it env).bind fun ds => if ds.length ≤ 40000 then lcGo g t e (wipeS env vs) ds [] else .bad
def tY : ST := fun _ => .ok true
/-! ### statements -/
def ofE {α : Type} (r : R α) (env : Env) (k : α → RS) : RS := fun s => match r s with
  | .ok a s' => k a s'
  | .exc c fs s' => RSr.exc c fs env s'
  | .bad => RSr.bad
def sNx : SS := fun env => .nx env
/-- a piece, then the next one -/
def thenR (r : RSr) (p : SS) : RSr := match r with
  | .nx e s => p e s
  | r => r
def thenS (r : RS) (p : SS) : RS := fun s => thenR (r s) p
def sSeq (a b : SS) : SS := fun env => thenS (a env) b
def ofG (r : Option Env) (k : Env → RS) : RS := match r with
  | some e => k e
  | none => .bad
def sG (e : SE) (g : SG) : SS := fun env => ofE (e env) env fun d => ofG (g d env) fun e2 => .nx e2
def sA (i : Nat) (e : SE) : SS := fun env => ofE (e env) env fun d => .nx (env.set i (.val d))
/-- a new list of one's own -/
def sO (i : Nat) (e : SA) : SS := fun env => ofE (e env) env fun ds => .nx (env.set i (.own ds))
def frz (i : Nat) (env : Env) : Env := match env[i]? with
  | some (.own ds) => env.set i (.val (.lst ds))
  | _ => env
def sFrz (i : Nat) (s : SS) : SS := fun env => s (frz i env)
def sApp (i : Nat) (e : SE) : SS := fun env => match env[i]? with
  | some (.own xs) => ofE (e env) env fun d => if xs.length < Z then .nx (env.set i (.own (xs ++ [d]))) else .bad
  | _ => .bad
def sExt (i : Nat) (e : SE) : SS := fun env => match env[i]? with
  | some (.own xs) => ofE (e env) env fun d => match d with
    | .lst ys => if xs.length + ys.length ≤ Z then .nx (env.set i (.own (xs ++ ys))) else .bad
    | _ => .bad
  | _ => .bad
/-- xs.pop() as a statement -/
def sPop (i : Nat) : SS := fun env => match env[i]? with
  | some (.own xs) => if xs = [] then .bad else .nx (env.set i (.own xs.dropLast))
  | _ => .bad
/-- xs[k] = e -/
def sSet (i : Nat) (k e : SE) : SS := fun env => match env[i]? with
  | some (.own xs) => ofE (e env) env fun d => ofE (k env) env fun j => match j with
    | .int j => match ixN xs.length j with
      | some n => .nx (env.set i (.own (xs.set n d)))
      | none => .bad
    | _ => .bad
  | _ => .bad
/-- xs[k] = e of a list that is a cell -/
def sMSet (o k e : SE) : SS := fun env => ofE (e env) env fun d => ofE (o env) env fun x => ofE (k env) env fun j => ofE (setM x j d) env fun _ => .nx env
def sAug (i : Nat) (f : D → D → R D) (e : SE) : SS := fun env => match env[i]? with
  | some (.val x) => ofE (e env) env fun y => ofE (f x y) env fun z => .nx (env.set i (.val z))
  | _ => .bad
def sX (e : SE) : SS := fun env => ofE (e env) env fun _ => .nx env
def sIf (t : ST) (a b : SS) : SS := fun env => ofE (t env) env fun k => if k = true then a env else b env
def sRet (e : SE) : SS := fun env => ofE (e env) env fun d => .rt (.val d)
/-- a new list handed back; a list of one's own handed back -/
def sRetL (e : SA) : SS := fun env => ofE (e env) env fun ds => .rt (.own ds)
def sRetO (i : Nat) : SS := fun env => match env[i]? with
  | some (.own xs) => .rt (.own xs)
  | _ => .bad
def sRetN : SS := fun _ => .rt (.val .non)
def sBr : SS := fun env => .bk env
def sCt : SS := fun env => .ct env
def sNever : SS := fun _ => .bad
/-- what a turn comes to, then the next ones -/
def turnS (r : RSr) (k : Env → RS) : RSr := match r with
  | .nx e s | .ct e s => k e s
  | .bk e s => .nx e s
  | r => r
def thenW (x : RS) (k : Env → RS) : RS := fun s => turnS (x s) k
def forGo (g : SG) (b : SS) : List D → Env → RS
  | [], env => .nx env
  | d :: ds, env => ofG (g d env) fun e2 => thenW (b e2) (forGo g b ds)
def sFor (it : SA) (g : SG) (b : SS) : SS := fun env => ofE (it env) env fun ds => forGo g b ds env
def whGo (t : ST) (b : SS) : Nat → Env → RS
  | 0, _ => .bad
  | n + 1, env => ofE (t env) env fun k => if k = true then thenW (b env) (whGo t b n) else .nx env
/-- while, at most so many turns -/
def sWh (n : Nat) (t : ST) (b : SS) : SS := fun env => whGo t b n env
def sRaise (c : Nat) (nm : List Str) (a : SA) : SS := fun env => ofE (a env) env fun ds => if ds.length = nm.length then .exc c (nm.zip ds) env else .bad
def noExn (env : Env) : Bool := env.all fun s => match s with
  | .exn _ _ => false
  | _ => true
def ifB (b : Bool) (r : RSr) : RSr := if b = true then r else .bad
def tryR (r : RSr) (i : Nat) (cs : Nat → Option Bool) (h : SS) : RSr := match r with
  | .exc c fs e2 s2 => match cs c with
    | some true => ifB (noExn e2) (match h (e2.set i (.exn c fs)) s2 with
      | .nx e3 s3 => ifB (noExn (e3.set i .un)) (.nx (e3.set i .un) s3)
      | .bk e3 s3 => ifB (noExn (e3.set i .un)) (.bk (e3.set i .un) s3)
      | .ct e3 s3 => ifB (noExn (e3.set i .un)) (.ct (e3.set i .un) s3)
      | .rt v s3 => .rt v s3
      | _ => .bad)
    | some false => .exc c fs e2 s2
    | none => .bad
  | r => r
def sTry (b : SS) (i : Nat) (cs : Nat → Option Bool) (h : SS) : SS := fun env s => tryR (b env s) i cs h
/-- e.f of the exception in the hand -/
def eXf (i : Nat) (c : Nat) (f : Str) : SE := fun env => match env[i]? with
  | some (.exn c2 fs) => if c2 = c then (match fs.lookup f with | some d => .ok d | none => .bad) else .bad
  | _ => .bad
/-! ### defs -/
/-- a def of n parameters, with k further names -/
def endD : RSr → Rs D
  | .rt (.val d) s => .ok d s
  | .rt (.own xs) s => .ok (.lst xs) s
  | .nx _ s => .ok .non s
  | .exc c fs _ s => .exc c fs s
  | _ => .bad
/-- the end of a def -/
def endV (r : RS) : R D := fun s => endD (r s)
def defV (n k : Nat) (b : SS) (ds : List D) : R D := if ds.length = n then endV (b (ds.map .val ++ List.replicate k .un)) else .bad
/-- .. that hands back a new list -/
def endDL : RSr → Rs (List D)
  | .rt (.own xs) s => .ok xs s
  | .exc c fs _ s => .exc c fs s
  | _ => .bad
def endL (r : RS) : R (List D) := fun s => endDL (r s)
def defL (n k : Nat) (b : SS) (ds : List D) : R (List D) := if ds.length = n then endL (b (ds.map .val ++ List.replicate k .un)) else .bad
/-- a call of a name that holds a def -/
def eP (tb : Nat → Option (List D → R D)) (i : Nat) (a : SA) : SE := fun env => match env[i]? with
  | some (.val (.fn n)) => match tb n with
    | some m => (a env).bind m
    | none => .bad
  | _ => .bad
end Dm
set_option Elab.async false
set_option linter.all false
set_option maxRecDepth 100000
set_option maxHeartbeats 4000000
/-! Ds: that the text's run follows Dm's function: JE, JT, JA, JS, .. say of a piece of the text that it runs as a function of Dm tells. -/
namespace Dm
open PySem L2 Evl RZ Wm
/-- what is known of the heap: data that stay, the places of the store's cells, the store -/
structure Gd where
  g : Hp
  m : List Addr
  s : Sto
abbrev Gd.put (G : Gd) (s : Sto) : Gd := ⟨G.g, G.m, s⟩
abbrev Gd.upd (G : Gd) (p : Addr) (o : HO) : Gd := ⟨L2.upd G.g p o, G.m, G.s⟩
mutual
/-- v is the datum d in the heap H, cells at M -/
inductive Rp (K : PySem.W.Frag) (w : World) (ad : Nat → Addr) (H : Hp) (M : List Addr) : V → D → Prop
  | non : Rp K w ad H M .non .non
  | bl (b : Bool) : Rp K w ad H M (.bl b) (.bl b)
  | int (i : Int) : Rp K w ad H M (.int i) (.int i)
  | str (x : Str) : Rp K w ad H M (.str x) (.str x)
  | lst {a : Addr} {vs : List V} {ds : List D} : H a = some (.lst vs) → RpL K w ad H M vs ds → Rp K w ad H M (.ref a) (.lst ds)
  | scr {a : Addr} {vs : List V} {ds : List D} : SqL K H a vs → RpL K w ad H M vs ds → Rp K w ad H M (.ref a) (.scr ds)
  | tup {a : Addr} {vs : List V} {ds : List D} : SqT K H a vs → RpL K w ad H M vs ds → Rp K w ad H M (.ref a) (.tup ds)
  | ktp {a : Addr} {vs : List V} {ds : List D} : SqT K H a vs → (∃ o, K.lookup a = some o ∧ o.cls = .type "tuple" ∧ o.dict = none) → RpL K w ad H M vs ds → Rp K w ad H M (.ref a) (.ktp ds)
  | fn (n : Nat) : Rp K w ad H M (.ref (ad n)) (.fn n)
  | dct {a : Addr} {ks : List Str} {vs : List V} {ds : List D} : ks.length = vs.length → SD K w a (ks.zip vs) → RpL K w ad H M vs ds → Rp K w ad H M (.ref a) (.dct ks ds)
  | mref {n : Nat} {a : Addr} : M[n]? = some a → Rp K w ad H M (.ref a) (.mref n)
inductive RpL (K : PySem.W.Frag) (w : World) (ad : Nat → Addr) (H : Hp) (M : List Addr) : List V → List D → Prop
  | nil : RpL K w ad H M [] []
  | cons {v : V} {d : D} {vs : List V} {ds : List D} : Rp K w ad H M v d → RpL K w ad H M vs ds → RpL K w ad H M (v :: vs) (d :: ds)
end
abbrev Rep (K : PySem.W.Frag) (w : World) (ad : Nat → Addr) (G : Gd) (v : V) (d : D) : Prop := Rp K w ad G.g G.m v d
abbrev RepL (K : PySem.W.Frag) (w : World) (ad : Nat → Addr) (G : Gd) (v : List V) (d : List D) : Prop := RpL K w ad G.g G.m v d
/-- more is known -/
structure ExG (G G' : Gd) : Prop where
  g : Ex G.g G'.g
  m : ∀ (n : Nat) (a : Addr), G.m[n]? = some a → G'.m[n]? = some a
  s : G'.s = G.s
theorem ExG.refl (G : Gd) : ExG G G := ⟨Ex.refl _, fun _ _ h => h, rfl⟩
theorem ExG.tr {G G1 G2 : Gd} (a : ExG G G1) (b : ExG G1 G2) : ExG G G2 := ⟨a.g.trans b.g, fun n x h => b.m n x (a.m n x h), b.s.trans a.s⟩
theorem ExG.trans {G G1 G2 : Gd} {t : Sto} (a : ExG G G1) (b : ExG (G1.put t) G2) : ExG (G.put t) G2 := ⟨a.g.trans b.g, fun n x h => b.m n x (a.m n x h), b.s⟩
theorem ExG.put {G G1 : Gd} (a : ExG G G1) (s : Sto) : ExG (G.put s) (G1.put s) := ⟨a.g, a.m, rfl⟩
theorem ExG.new {G : Gd} {p : Addr} {o : HO} (h : G.g p = none) : ExG G (G.upd p o) := ⟨Ex.new h, fun _ _ h => h, rfl⟩
section
variable {K : PySem.W.Frag} {w : World} {ad : Nat → Addr} {G G' G1 G2 G0 : Gd} {H H' H1 H2 H0 : Hp} {M M' : List Addr}
mutual
theorem Rp.mono0 (e : Ex H H') (m : ∀ (n : Nat) (a : Addr), M[n]? = some a → M'[n]? = some a) : ∀ {v : V} {d : D}, Rp K w ad H M v d → Rp K w ad H' M' v d
  | _, _, .non => .non
  | _, _, .bl b => .bl b
  | _, _, .int i => .int i
  | _, _, .str i => .str i
  | _, _, .lst h r => .lst (e _ _ h) (RpL.mono0 e m r)
  | _, _, .scr h r => .scr (ex_l e h) (RpL.mono0 e m r)
  | _, _, .tup h r => .tup (ex_t e h) (RpL.mono0 e m r)
  | _, _, .ktp h k r => .ktp (ex_t e h) k (RpL.mono0 e m r)
  | _, _, .fn n => .fn n
  | _, _, .dct hl h r => .dct hl h (RpL.mono0 e m r)
  | _, _, .mref h => .mref (m _ _ h)
theorem RpL.mono0 (e : Ex H H') (m : ∀ (n : Nat) (a : Addr), M[n]? = some a → M'[n]? = some a) : ∀ {v : List V} {d : List D}, RpL K w ad H M v d → RpL K w ad H' M' v d
  | _, _, .nil => .nil
  | _, _, .cons h r => .cons (Rp.mono0 e m h) (RpL.mono0 e m r)
end
theorem Rp.mono (e : ExG G G') {v : V} {d : D} (r : Rp K w ad G.g G.m v d) : Rp K w ad G'.g G'.m v d := Rp.mono0 e.g e.m r
theorem RpL.mono (e : ExG G G') {v : List V} {d : List D} (r : RpL K w ad G.g G.m v d) : RpL K w ad G'.g G'.m v d := RpL.mono0 e.g e.m r
theorem RpL.length : ∀ {v : List V} {d : List D}, RpL K w ad H M v d → v.length = d.length
  | _, _, .nil => rfl
  | _, _, .cons _ r => congrArg (· + 1) r.length
theorem RpL.append : ∀ {v v2 : List V} {d d2 : List D}, RpL K w ad H M v d → RpL K w ad H M v2 d2 → RpL K w ad H M (v ++ v2) (d ++ d2)
  | _, _, _, _, .nil, h => h
  | _, _, _, _, .cons h r, h2 => .cons h (r.append h2)
theorem RpL.get : ∀ {v : List V} {d : List D} {i : Nat} {x : D}, RpL K w ad H M v d → d[i]? = some x → ∃ u, v[i]? = some u ∧ Rp K w ad H M u x
  | _, _, _, _, .nil, h => by cases h
  | _, _, 0, _, .cons h r, e => by cases e; exact ⟨_, rfl, h⟩
  | _, _, i + 1, _, .cons h r, e => RpL.get (i := i) r e
theorem RpL.getV : ∀ {v : List V} {d : List D} {i : Nat} {u : V}, RpL K w ad H M v d → v[i]? = some u → ∃ x, d[i]? = some x ∧ Rp K w ad H M u x
  | _, _, _, _, .nil, h => by cases h
  | _, _, 0, _, .cons h r, e => by cases e; exact ⟨_, rfl, h⟩
  | _, _, i + 1, _, .cons h r, e => RpL.getV (i := i) r e
theorem RpL.take : ∀ {v : List V} {d : List D} (n : Nat), RpL K w ad H M v d → RpL K w ad H M (v.take n) (d.take n)
  | _, _, 0, _ => by simp only [List.take_zero]; exact .nil
  | _, _, n + 1, .nil => .nil
  | _, _, n + 1, .cons h r => .cons h (r.take n)
theorem RpL.drop : ∀ {v : List V} {d : List D} (n : Nat), RpL K w ad H M v d → RpL K w ad H M (v.drop n) (d.drop n)
  | _, _, 0, h => h
  | _, _, n + 1, .nil => .nil
  | _, _, n + 1, .cons h r => r.drop n
theorem RpL.set {x : V} {y : D} (q : Rp K w ad H M x y) : ∀ {v : List V} {d : List D} (n : Nat), RpL K w ad H M v d → RpL K w ad H M (v.set n x) (d.set n y)
  | _, _, _, .nil => .nil
  | _, _, 0, .cons h r => .cons q r
  | _, _, n + 1, .cons h r => .cons h (r.set q n)
theorem RpL.dropLast : ∀ {v : List V} {d : List D}, RpL K w ad H M v d → RpL K w ad H M v.dropLast d.dropLast
  | _, _, .nil => .nil
  | _, _, .cons h .nil => .nil
  | _, _, .cons h (.cons h2 r) => .cons h (RpL.dropLast (.cons h2 r))
theorem RpL.reverse : ∀ {v : List V} {d : List D}, RpL K w ad H M v d → RpL K w ad H M v.reverse d.reverse
  | _, _, .nil => .nil
  | _, _, .cons h r => by
    rw [List.reverse_cons, List.reverse_cons]
    exact r.reverse.append (.cons h .nil)
theorem RpL.rep {v : List V} {d : List D} (h : RpL K w ad H M v d) : ∀ k : Nat, RpL K w ad H M (List.replicate k v).flatten (List.replicate k d).flatten
  | 0 => .nil
  | k + 1 => by
    rw [List.replicate_succ, List.replicate_succ, List.flatten_cons, List.flatten_cons]
    exact h.append (RpL.rep h k)
theorem RpL.cut {v : List V} {d : List D} (h : RpL K w ad H M v d) (lo hi : Option Int) : RpL K w ad H M (cutV v lo hi) (cutG d lo hi) := by
  unfold cutV cutG
  rw [h.length]
  exact (h.drop _).take _
theorem RpL.ints : ∀ {v : List V} {d : List D} {ns : List Int}, RpL K w ad H M v d → intsOf d = some ns → v = ns.map V.int
  | _, _, _, .nil, e => by cases e; rfl
  | _, _, _, .cons h r, e => by
    cases h with
    | int i =>
      unfold intsOf at e
      cases q : intsOf _ with
      | none => rw [q] at e; cases e
      | some ms =>
        rw [q] at e
        cases e
        rw [RpL.ints r q]
        rfl
    | _ => cases e
theorem RpL.strs : ∀ {v : List V} {d : List D} {ns : List Str}, RpL K w ad H M v d → strsOf d = some ns → v = ns.map V.str
  | _, _, _, .nil, e => by cases e; rfl
  | _, _, _, .cons h r, e => by
    cases h with
    | str i =>
      unfold strsOf at e
      cases q : strsOf _ with
      | none => rw [q] at e; cases e
      | some ms =>
        rw [q] at e
        cases e
        rw [RpL.strs r q]
        rfl
    | _ => cases e
theorem RpL.atI {v : List V} {d : List D} {i : Int} {x : D} (h : RpL K w ad H M v d) (e : L2.atI d i = some x) : ∃ u, L2.atI v i = some u ∧ Rp K w ad H M u x := by
  unfold L2.atI at e ⊢
  rw [h.length]
  cases c : ixN d.length i with
  | none => rw [c] at e; cases e
  | some j =>
    rw [c] at e
    exact h.get e
end
/-- what is the same throughout -/
structure Cc where
  K : PySem.W.Frag
  w : World
  ad : Nat → Addr
/-- what stands at a cell's place -/
def CellAt (C : Cc) (G : Gd) (H : Hp) (a : Addr) : Cell → Prop
  | .lst xs => ∃ vs, H a = some (.lst vs) ∧ RepL C.K C.w C.ad G vs xs
  | .dct _ => False
  | .ins _ _ => False
/-- the ground and the store, in the heap -/
structure SOk (C : Cc) (G : Gd) (H : Hp) : Prop where
  e : Ex G.g H
  len : G.m.length = G.s.length
  nd : G.m.Nodup
  cell : ∀ (n : Nat) (a : Addr) (c : Cell), G.m[n]? = some a → G.s[n]? = some c → G.g a = none ∧ CellAt C G H a c
section
variable {C : Cc} {G G' G1 G2 G0 : Gd} {H H' H1 H2 H0 : Hp}
theorem CellAt.ex {a : Addr} {c : Cell} (h : CellAt C G H a c) : ∃ o, H a = some o := by
  cases c with
  | lst xs => obtain ⟨vs, h, _⟩ := h; exact ⟨_, h⟩
  | dct _ => exact h.elim
  | ins _ _ => exact h.elim
theorem CellAt.mono0 {a : Addr} {c : Cell} (e : Ex G.g G'.g) (m : ∀ (n : Nat) (a : Addr), G.m[n]? = some a → G'.m[n]? = some a) (hh : ∀ o, H a = some o → H' a = some o) (h : CellAt C G H a c) : CellAt C G' H' a c := by
  cases c with
  | lst xs => obtain ⟨vs, h, r⟩ := h; exact ⟨vs, hh _ h, RpL.mono0 e m r⟩
  | dct _ => exact h.elim
  | ins _ _ => exact h.elim
theorem CellAt.mono {a : Addr} {c : Cell} (e : ExG G G') (hh : ∀ o, H a = some o → H' a = some o) (h : CellAt C G H a c) : CellAt C G' H' a c := CellAt.mono0 e.g e.m hh h
theorem SOk.mem (k : SOk C G H) {a : Addr} (h : a ∈ G.m) : G.g a = none ∧ ∃ o, H a = some o := by
  obtain ⟨n, hn⟩ := List.getElem?_of_mem h
  have hl : n < G.s.length := by
    rw [← k.len]
    exact (List.getElem?_eq_some_iff.mp hn).1
  obtain ⟨h1, h2⟩ := k.cell n a _ hn (List.getElem?_eq_getElem hl)
  exact ⟨h1, CellAt.ex h2⟩
theorem SOk.fresh (k : SOk C G H) {a : Addr} (h : H a = none) : a ∉ G.m := fun z => by
  obtain ⟨_, o, q⟩ := k.mem z
  rw [h] at q; cases q
theorem SOk.know (k : SOk C G H) {a : Addr} {o : HO} (h : G.g a = some o) : a ∉ G.m := fun z => by
  rw [(k.mem z).1] at h; cases h
/-! ### steps: the ground G grows, the heap H grows but at the cells, and what H knew beyond the ground stays beyond it -/
structure Step (C : Cc) (G : Gd) (H : Hp) (G' : Gd) (H' : Hp) : Prop where
  g : ExG G G'
  gh : SOk C G' H'
  h : ∀ p o, H p = some o → p ∉ G.m → H' p = some o
  out : ∀ p, G.g p = none → H p ≠ none → G'.g p = none
  om : ∀ p, p ∉ G.m → H p ≠ none → p ∉ G'.m
theorem Step.refl (e : SOk C G H) : Step C G H G H := ⟨ExG.refl G, e, fun _ _ h _ => h, fun _ h _ => h, fun _ h _ => h⟩
theorem Step.trans {t : Sto} (a : Step C G H G1 H1) (b : Step C (G1.put t) H1 G2 H2) : Step C (G.put t) H G2 H2 := by
  have nn : ∀ p, p ∉ G.m → H p ≠ none → H1 p ≠ none := fun p hm h2 z => by
    cases q : H p with
    | none => exact h2 q
    | some o => rw [a.h p o q hm] at z; cases z
  refine ⟨⟨a.g.g.trans b.g.g, fun n x h => b.g.m n x (a.g.m n x h), b.g.s⟩, b.gh, fun p o h hm => b.h p o (a.h p o h hm) (a.om p hm (by rw [h]; exact nofun)), fun p h1 h2 => ?_, fun p hm h2 => b.om p (a.om p hm h2) (nn p hm h2)⟩
  by_cases hm : p ∈ G.m
  · obtain ⟨n, hn⟩ := List.getElem?_of_mem hm
    exact (b.gh.mem (List.mem_of_getElem? (b.g.m n p (a.g.m n p hn)))).1
  · exact b.out p (a.out p h1 h2) (nn p hm h2)
theorem SOk.upd (k : SOk C G H) {p : Addr} {o : HO} (hp : H p = none) : SOk C (G.upd p o) (upd H p o) := by
  have hg : G.g p = none := fresh_back k.e hp
  have hm := k.fresh hp
  refine ⟨fun a u h => ?_, k.len, k.nd, fun n a c h1 h2 => ?_⟩
  · have h : L2.upd G.g p o a = some u := h
    by_cases z : a = p
    · subst z; rw [upd_same] at h ⊢; exact h
    · rw [upd_ne z] at h ⊢; exact k.e a u h
  · have z : a ≠ p := fun z => hm (by rw [← z]; exact List.mem_of_getElem? h1)
    obtain ⟨q1, q2⟩ := k.cell n a c h1 h2
    exact ⟨by (show L2.upd G.g p o a = none); rw [upd_ne z]; exact q1, CellAt.mono (ExG.new hg) (fun o h => by rw [upd_ne z]; exact h) q2⟩
theorem Step.new {p : Addr} {o : HO} (k : SOk C G H) (hp : H p = none) : Step C G H (G.upd p o) (upd H p o) := by
  refine ⟨ExG.new (fresh_back k.e hp), k.upd hp, fun a u h _ => Ex.new hp a u h, fun q h1 h2 => ?_, fun q h1 h2 => h1⟩
  by_cases z : q = p
  · subst z; exact absurd hp h2
  · show L2.upd G.g p o q = none
    rw [upd_ne z]; exact h1
theorem SOk.more (k : SOk C G H) (h : Ex H H') : SOk C G H' := ⟨k.e.trans h, k.len, k.nd, fun n a c h1 h2 => by
  obtain ⟨q1, q2⟩ := k.cell n a c h1 h2
  exact ⟨q1, CellAt.mono (ExG.refl G) (fun o z => h a o z) q2⟩⟩
theorem Step.ofH (e : SOk C G H) (h : Ex H H') : Step C G H G H' := ⟨ExG.refl G, e.more h, fun p o z _ => h p o z, fun _ h _ => h, fun _ h _ => h⟩
theorem Step.ex (s : Step C G H G' H') : Ex G'.g H' := s.gh.e
theorem Step.fresh (s : Step C G H G' H') {q : Addr} (h : H' q = none) : H q = none := by
  cases c : H q with
  | none => rfl
  | some o =>
    by_cases hm : q ∈ G.m
    · obtain ⟨n, hn⟩ := List.getElem?_of_mem hm
      obtain ⟨_, o, z⟩ := s.gh.mem (List.mem_of_getElem? (s.g.m n q hn))
      rw [h] at z; cases z
    · have z := s.h q o c hm
      rw [h] at z; cases z
/-- a list beyond the ground becomes data -/
theorem SOk.take {p : Addr} {o : HO} (k : SOk C G H) (h1 : G.g p = none) (hm : p ∉ G.m) (h2 : H p = some o) : SOk C (G.upd p o) H := by
  refine ⟨fun a u h => ?_, k.len, k.nd, fun n a c q1 q2 => ?_⟩
  · have h : L2.upd G.g p o a = some u := h
    by_cases z : a = p
    · subst z; rw [upd_same] at h; rw [h2]; exact h
    · rw [upd_ne z] at h; exact k.e a u h
  · have z : a ≠ p := fun z => hm (by rw [← z]; exact List.mem_of_getElem? q1)
    obtain ⟨r1, r2⟩ := k.cell n a c q1 q2
    exact ⟨by (show L2.upd G.g p o a = none); rw [upd_ne z]; exact r1, CellAt.mono (ExG.new h1) (fun _ h => h) r2⟩
theorem Step.take {p : Addr} {o : HO} (s : Step C G H G' H') (h1 : G'.g p = none) (hm : p ∉ G'.m) (h2 : H' p = some o) (h3 : H p = none) : Step C G H (G'.upd p o) H' := by
  refine ⟨s.g.tr (ExG.new h1), s.gh.take h1 hm h2, s.h, fun q hq hn => ?_, s.om⟩
  have ne : q ≠ p := fun z => by rw [z] at hn; exact hn h3
  show L2.upd G'.g p o q = none
  rw [upd_ne ne]
  exact s.out q hq hn
end
section
variable {C : Cc} {G G' : Gd} {H H' : Hp}
theorem SOk.at (k : SOk C G H) {n : Nat} {a : Addr} {xs : List D} (hm : G.m[n]? = some a) (hs : G.s[n]? = some (.lst xs)) : G.g a = none ∧ ∃ vs, H a = some (.lst vs) ∧ RepL C.K C.w C.ad G vs xs := k.cell n a _ hm hs
/-- a cell's list is changed -/
theorem Step.cell {n : Nat} {a : Addr} {xs ys : List D} {ws : List V} (k : SOk C G H) (hm : G.m[n]? = some a) (hs : G.s[n]? = some (.lst xs)) (r : RepL C.K C.w C.ad G ws ys) : Step C (G.put (G.s.set n (.lst ys))) H (G.put (G.s.set n (.lst ys))) (L2.upd H a (.lst ws)) := by
  have hg := (k.at hm hs).1
  have hn : n < G.s.length := (List.getElem?_eq_some_iff.mp hs).1
  refine ⟨ExG.refl _, ⟨Ex.mut k.e hg, by rw [List.length_set]; exact k.len, k.nd, fun i b c h1 h2 => ?_⟩, fun p o h hp => ?_, fun _ h _ => h, fun _ h _ => h⟩
  · have h1 : G.m[i]? = some b := h1
    have h2 : (G.s.set n (.lst ys))[i]? = some c := h2
    by_cases e : i = n
    · subst e
      rw [hm] at h1
      cases h1
      rw [List.getElem?_set, if_pos rfl, if_pos hn] at h2
      cases h2
      exact ⟨hg, ws, upd_same, r⟩
    · rw [List.getElem?_set, if_neg fun z => e z.symm] at h2
      obtain ⟨q1, q2⟩ := k.cell i b c h1 h2
      have hb : b ≠ a := fun z => by
        rw [z] at h1
        have hi := (List.getElem?_eq_some_iff.mp h1).1
        have hn2 := (List.getElem?_eq_some_iff.mp hm).1
        exact e ((List.getElem_inj k.nd (h₀ := hi) (h₁ := hn2)).mp ((List.getElem?_eq_some_iff.mp h1).2.trans (List.getElem?_eq_some_iff.mp hm).2.symm))
      exact ⟨q1, CellAt.mono0 (G := G) (G' := G.put (G.s.set n (.lst ys))) (Ex.refl _) (fun _ _ h => h) (fun o h => by rw [upd_ne hb]; exact h) q2⟩
  · have hp2 : p ≠ a := fun z => hp (by rw [z]; exact List.mem_of_getElem? hm)
    rw [upd_ne hp2]
    exact h
/-- a new list becomes a cell -/
theorem Step.publish {p : Addr} {vs : List V} {ds : List D} (s : Step C G H G' H') (h1 : G'.g p = none) (hm : p ∉ G'.m) (h2 : H' p = some (.lst vs)) (h3 : H p = none) (r : RepL C.K C.w C.ad G' vs ds) :
    Step C (G.put (G'.s ++ [.lst ds])) H ⟨G'.g, G'.m ++ [p], G'.s ++ [.lst ds]⟩ H' ∧ (G'.m ++ [p])[G'.s.length]? = some p := by
  have ex : ExG (G'.put (G'.s ++ [.lst ds])) ⟨G'.g, G'.m ++ [p], G'.s ++ [.lst ds]⟩ := ⟨Ex.refl _, fun n a h => by
    have h : G'.m[n]? = some a := h
    show (G'.m ++ [p])[n]? = some a
    rw [List.getElem?_append_left (List.getElem?_eq_some_iff.mp h).1]
    exact h, rfl⟩
  refine ⟨⟨⟨s.g.g, fun n a h => ex.m n a (s.g.m n a h), rfl⟩, ⟨s.gh.e, ?_, ?_, fun n a c q1 q2 => ?_⟩, s.h, s.out, fun q hq hn => ?_⟩, ?_⟩
  · show (G'.m ++ [p]).length = (G'.s ++ [Cell.lst ds]).length
    rw [List.length_append, List.length_append, s.gh.len]
    rfl
  · show (G'.m ++ [p]).Nodup
    rw [List.nodup_append]
    exact ⟨s.gh.nd, by simp, fun a ha b hb => by rw [List.mem_singleton.mp hb]; exact fun z => hm (by rw [← z]; exact ha)⟩
  · have q1 : (G'.m ++ [p])[n]? = some a := q1
    have q2 : (G'.s ++ [Cell.lst ds])[n]? = some c := q2
    rcases Nat.lt_or_ge n G'.s.length with hn | hn
    · rw [List.getElem?_append_left hn] at q2
      rw [List.getElem?_append_left (by rw [s.gh.len]; exact hn)] at q1
      obtain ⟨z1, z2⟩ := s.gh.cell n a c q1 q2
      exact ⟨z1, CellAt.mono0 (G := G') (G' := ⟨G'.g, G'.m ++ [p], G'.s ++ [.lst ds]⟩) ex.g ex.m (fun _ h => h) z2⟩
    · rw [List.getElem?_append_right hn] at q2
      rw [List.getElem?_append_right (by rw [s.gh.len]; exact hn), s.gh.len] at q1
      obtain ⟨k, hk⟩ : ∃ k, n - G'.s.length = k := ⟨_, rfl⟩
      rw [hk] at q1 q2
      cases k with
      | succ k => cases q1
      | zero =>
        cases q1
        cases q2
        exact ⟨h1, vs, h2, RpL.mono ex r⟩
  · intro z
    rcases List.mem_append.mp z with z | z
    · exact s.om q hq hn z
    · rw [List.mem_singleton.mp z] at hn
      exact hn h3
  · rw [← s.gh.len, List.getElem?_append_right (Nat.le_refl _), Nat.sub_self]
    rfl
end
/-- the exception's dict holds these fields -/
def XRep (K : PySem.W.Frag) (w : World) (ad : Nat → Addr) (G : Gd) (fs : List (Str × D)) (dd : Option Addr) : Prop :=
  match fs with
  | [] => dd = none
  | fs => ∃ q vfs, dd = some q ∧ G.g q = some (.xd vfs) ∧ ∀ f d, fs.lookup f = some d → ∃ v, vfs.lookup f = some v ∧ Rep K w ad G v d
theorem XRep.mono {K : PySem.W.Frag} {w : World} {ad : Nat → Addr} {G G' : Gd} {fs : List (Str × D)} {dd : Option Addr} (e : ExG G G') (h : XRep K w ad G fs dd) : XRep K w ad G' fs dd := by
  unfold XRep at h ⊢
  cases fs with
  | nil => exact h
  | cons f fs =>
    obtain ⟨q, vfs, h1, h2, h3⟩ := h
    exact ⟨q, vfs, h1, e.g _ _ h2, fun f d l => by
      obtain ⟨v, a, b⟩ := h3 f d l
      exact ⟨v, a, b.mono e⟩⟩
/-- the exception that a suite holds -/
structure Xo where
  a : Addr
  cls : Value
  d : Option Addr
/-- the slots σ are the environment env -/
structure Fit (C : Cc) (xo : Xo) (G : Gd) (H : Hp) (σ : L2.St) (env : Env) : Prop where
  ok : SOk C G H
  len : σ.length = env.length
  val : ∀ (i : Nat) d, env[i]? = some (.val d) → ∃ v, σ[i]? = some (some v) ∧ Rep C.K C.w C.ad G v d
  own : ∀ (i : Nat) ds, env[i]? = some (.own ds) → ∃ p vs, σ[i]? = some (some (.ref p)) ∧ G.g p = none ∧ H p = some (.lst vs) ∧ RepL C.K C.w C.ad G vs ds
  om : ∀ (i : Nat) ds p, env[i]? = some (.own ds) → σ[i]? = some (some (.ref p)) → p ∉ G.m
  sep : ∀ (i j : Nat) p ds es, env[i]? = some (.own ds) → env[j]? = some (.own es) → σ[i]? = some (some (.ref p)) → σ[j]? = some (some (.ref p)) → i = j
  exn : ∀ (i : Nat) c fs, env[i]? = some (.exn c fs) → σ[i]? = some (some (.ref xo.a)) ∧ xo.cls = .ref (C.ad c) ∧ XRep C.K C.w C.ad G fs xo.d
/-- .. since the def was entered with (G0, H0) -/
structure Fit0 (C : Cc) (xo : Xo) (G0 : Gd) (H0 : Hp) (G : Gd) (H : Hp) (σ : L2.St) (env : Env) : Prop where
  f : Fit C xo G H σ env
  s : Step C (G0.put G.s) H0 G H
  new : ∀ (i : Nat) ds p, env[i]? = some (.own ds) → σ[i]? = some (some (.ref p)) → H0 p = none
section
variable {C : Cc} {xo : Xo} {G G' G0 G1 : Gd} {H H' H0 H1 : Hp} {σ : L2.St} {env : Env} {t : Sto}
theorem Fit.ex (f : Fit C xo G H σ env) : Ex G.g H := f.ok.e
theorem Fit.step (f : Fit C xo G H σ env) (s : Step C (G.put t) H G' H') : Fit C xo G' H' σ env where
  ok := s.gh
  len := f.len
  val := fun i d h => by
    obtain ⟨v, h1, h2⟩ := f.val i d h
    exact ⟨v, h1, Rp.mono s.g h2⟩
  own := fun i ds h => by
    obtain ⟨p, vs, h1, h2, h3, h4⟩ := f.own i ds h
    exact ⟨p, vs, h1, s.out p h2 (by rw [h3]; exact nofun), s.h _ _ h3 (f.om i ds p h h1), RpL.mono s.g h4⟩
  om := fun i ds p h h1 => by
    obtain ⟨q, vs, k1, k2, k3, k4⟩ := f.own i ds h
    rw [h1] at k1
    cases k1
    exact s.om p (f.om i ds p h h1) (by rw [k3]; exact nofun)
  sep := f.sep
  exn := fun i c fs h => by
    obtain ⟨h1, h2, h3⟩ := f.exn i c fs h
    exact ⟨h1, h2, XRep.mono s.g h3⟩
theorem Fit0.step (f : Fit0 C xo G0 H0 G H σ env) (s : Step C (G.put t) H G' H') : Fit0 C xo G0 H0 G' H' σ env := by
  refine ⟨f.f.step s, ?_, f.new⟩
  have e : G'.s = t := s.g.s
  subst e
  exact f.s.trans s
theorem Fit0.ex (f : Fit0 C xo G0 H0 G H σ env) : Ex G.g H := f.f.ok.e
theorem Fit0.ok (f : Fit0 C xo G0 H0 G H σ env) : SOk C G H := f.f.ok
end
/-! ### outcomes -/
/-- a wish about exceptions, with the slots -/
def OutR {α β : Type} (C : Cc) (rep : Gd → Hp → β → α → Prop) (E : XK) (G : Gd) (H : Hp) (Q : β → Hp → Prop) : Rs α → Prop
  | .ok d s => ∀ v G' H', Step C (G.put s) H G' H' → rep G' H' v d → Q v H'
  | .exc c fs s => ∀ dd G' H', Step C (G.put s) H G' H' → XRep C.K C.w C.ad G' fs dd → E (.ref (C.ad c)) dd H'
  | .bad => False
def Out {α β : Type} (C : Cc) (rep : Gd → Hp → β → α → Prop) (E : XK) (G : Gd) (H : Hp) (Q : β → Hp → Prop) (r : R α) : Prop := OutR C rep E G H Q (r G.s)
section
variable {α β γ δ : Type} {C : Cc} {rep : Gd → Hp → β → α → Prop} {rep2 : Gd → Hp → δ → γ → Prop} {E : XK} {G G' : Gd} {H H' : Hp} {Q : β → Hp → Prop} {Q2 : δ → Hp → Prop} {t : Sto}
theorem Out.elim {p : Prop} (h : Out C rep E G H Q R.bad) : p := False.elim h
theorem OutR.step {r : Rs α} (s : Step C (G.put t) H G' H') (h : OutR C rep E G H Q r) : OutR C rep E G' H' Q r := by
  have up : ∀ {u : Sto} {G2 : Gd} {H2 : Hp}, Step C (G'.put u) H' G2 H2 → Step C (G.put u) H G2 H2 := fun s2 => s.trans s2
  cases r with
  | ok d u => exact fun v G2 H2 s2 r2 => h v G2 H2 (up s2) r2
  | exc c fs u => exact fun dd G2 H2 s2 x => h dd G2 H2 (up s2) x
  | bad => exact h
/-- the rest of a run, after a step to the store that it starts with -/
theorem Out.step {r : R α} (s : Step C G H G' H') (h : Out C rep E G H Q r) : Out C rep E G' H' Q r := by
  unfold Out at h ⊢
  rw [s.g.s]
  exact OutR.step (t := G.s) s h
theorem Out.bind {r : R α} {k : α → R γ} (h : Out C rep2 E G H Q2 (r.bind k)) (q : ∀ d v G' H', r G.s = .ok d G'.s → Step C (G.put G'.s) H G' H' → rep G' H' v d → Out C rep2 E G' H' Q2 (k d) → Q v H') : Out C rep E G H Q r := by
  unfold Out R.bind at h
  unfold Out
  cases c : r G.s with
  | ok d t =>
    rw [c] at h
    intro v G' H' s r2
    have e : G'.s = t := s.g.s
    subst e
    exact q d v G' H' c s r2 (OutR.step s h)
  | exc c2 fs t =>
    rw [c] at h
    exact h
  | bad => rw [c] at h; exact h
end
abbrev rV (C : Cc) : Gd → Hp → V → D → Prop := fun G _ v d => Rep C.K C.w C.ad G v d
abbrev rA (C : Cc) : Gd → Hp → List V → List D → Prop := fun G _ v d => RepL C.K C.w C.ad G v d
abbrev rB : Gd → Hp → Bool → Bool → Prop := fun _ _ a b => a = b
abbrev rO : Gd → Hp → Option Int → Option Int → Prop := fun _ _ a b => a = b
/-- a new list, beyond the ground -/
abbrev rN (C : Cc) : Gd → Hp → V → List D → Prop := fun G H v ds => ∃ p vs, v = .ref p ∧ G.g p = none ∧ p ∉ G.m ∧ H p = some (.lst vs) ∧ RepL C.K C.w C.ad G vs ds
/-! ### what terms come to -/
section
variable (C : Cc) (xo : Xo) (W : WX)
def CE (te : TE) (f : SE) : Prop := ∀ σ G H env, Fit C xo G H σ env → ∀ Q, Out C (rV C) (WE W σ) G H Q (f env) → te σ H Q
def CT (te : TT) (f : ST) : Prop := ∀ σ G H env, Fit C xo G H σ env → ∀ Q, Out C rB (WE W σ) G H Q (f env) → te σ H Q
def CA (te : TA) (f : SA) : Prop := ∀ σ G H env, Fit C xo G H σ env → ∀ Q, Out C (rA C) (WE W σ) G H Q (f env) → te σ H Q
def CO (te : TO) (f : Env → R (Option Int)) : Prop := ∀ σ G H env, Fit C xo G H σ env → ∀ Q, Out C rO (WE W σ) G H Q (f env) → te σ H Q
/-- a new list: at p, which neither the ground nor the heap knew -/
def CN (te : TE) (f : SA) : Prop := ∀ σ G H env, Fit C xo G H σ env → ∀ Q, Out C (fun G' H' v ds => rN C G' H' v ds ∧ ∀ p, v = .ref p → H p = none) (WE W σ) G H Q (f env) → te σ H Q
end
end Dm
set_option Elab.async false
set_option linter.all false
set_option maxRecDepth 100000
set_option maxHeartbeats 4000000
namespace Dm
open PySem L2 Evl RZ Wm
def D.toP : D → PyData
  | .non => .none
  | .bl b => .bool b
  | .int i => .int i
  | .str s => .str s
  | .lst xs => .list (go xs)
  | .scr xs => .list (go xs)
  | .tup xs => .tuple (go xs)
  | .ktp xs => .tuple (go xs)
  | .fn _ => .none
  | .dct _ _ => .none
  | .mref _ => .none
where go : List D → List PyData
  | [] => []
  | x :: xs => x.toP :: go xs
section
variable {C : Cc} {xo : Xo} {W : WX} {G G' : Gd} {H H' : Hp} {σ : L2.St} {env : Env} {E : XK}
mutual
theorem Rp.dp {K : PySem.W.Frag} {w : World} {ad : Nat → Addr} {M : List Addr} : ∀ {v : V} {d : D} {n : Nat}, Rp K w ad H M v d → d.shp n = true → Dp K H v d.toP ∧ d.toP.canLay0 = true ∧ d.toP.depth ≤ n
  | _, _, _, .non, _ => ⟨.non, rfl, Nat.zero_le _⟩
  | _, _, _, .bl b, _ => ⟨.bl b, rfl, Nat.zero_le _⟩
  | _, _, _, .int b, _ => ⟨.int b, rfl, Nat.zero_le _⟩
  | _, _, n, .str b, h => ⟨.str b, (by cases n <;> exact h), Nat.zero_le _⟩
  | _, _, 0, .lst _ _, h => by cases h
  | _, _, n + 1, .lst h r, q => by
    have z := RpL.dp r (show shpAll n _ = true from q)
    exact ⟨.lst (sq_of h) z.1, z.2.1, Nat.succ_le_succ z.2.2⟩
  | _, _, 0, .scr _ _, h => by cases h
  | _, _, n + 1, .scr h r, q => by
    have z := RpL.dp r (show shpAll n _ = true from q)
    exact ⟨.lst h z.1, z.2.1, Nat.succ_le_succ z.2.2⟩
  | _, _, 0, .tup _ _, h => by cases h
  | _, _, n + 1, .tup h r, q => by
    have z := RpL.dp r (show shpAll n _ = true from q)
    exact ⟨.tup h z.1, z.2.1, Nat.succ_le_succ z.2.2⟩
  | _, _, 0, .ktp _ _ _, h => by cases h
  | _, _, n + 1, .ktp h _ r, q => by
    have z := RpL.dp r (show shpAll n _ = true from q)
    exact ⟨.tup h z.1, z.2.1, Nat.succ_le_succ z.2.2⟩
  | _, _, 0, .fn _, h => by cases h
  | _, _, _ + 1, .fn _, h => by cases h
  | _, _, 0, .dct _ _ _, h => by cases h
  | _, _, _ + 1, .dct _ _ _, h => by cases h
  | _, _, 0, .mref _, h => by cases h
  | _, _, _ + 1, .mref _, h => by cases h
theorem RpL.dp {K : PySem.W.Frag} {w : World} {ad : Nat → Addr} {M : List Addr} : ∀ {v : List V} {d : List D} {n : Nat}, RpL K w ad H M v d → shpAll n d = true → DpAll K H v (D.toP.go d) ∧ PyData.canLayAll0 (D.toP.go d) = true ∧ PyData.depthAll (D.toP.go d) ≤ n
  | _, _, _, .nil, _ => ⟨.nil, rfl, Nat.zero_le _⟩
  | _, _, n, .cons h r, q => by
    unfold shpAll at q
    rw [Bool.and_eq_true] at q
    have z1 := Rp.dp h q.1
    have z2 := RpL.dp r q.2
    refine ⟨.cons z1.1 z2.1, ?_, ?_⟩
    · show (PyData.canLay0 _ && PyData.canLayAll0 _) = true
      rw [z1.2.1, z2.2.1]
      rfl
    · show max _ _ ≤ n
      exact Nat.max_le.mpr ⟨z1.2.2, z2.2.2⟩
end
theorem Rp.shaped {K : PySem.W.Frag} {w : World} {ad : Nat → Addr} {M : List Addr} {v : V} {d : D} (r : Rp K w ad H M v d) (h : d.shp 64 = true) : Dp K H v d.toP ∧ SeqAt.shaped d.toP = true := by
  have z := r.dp h
  refine ⟨z.1, ?_⟩
  unfold SeqAt.shaped
  rw [z.2.1, decide_eq_true z.2.2]
  rfl
mutual
theorem eqv_toP : ∀ (d e : D) {n m : Nat}, d.shp n = true → e.shp m = true → PyData.eqv d.toP e.toP = d.eqv e
  | .lst xs, e, 0, m, h, _ => by cases h
  | .scr xs, e, 0, m, h, _ => by cases h
  | .ktp xs, e, 0, m, h, _ => by cases h
  | .tup xs, e, 0, m, h, _ => by cases h
  | .fn k, e, 0, m, h, _ => by cases h
  | .fn k, e, n + 1, m, h, _ => by cases h
  | .dct k _, e, 0, m, h, _ => by cases h
  | .dct k _, e, n + 1, m, h, _ => by cases h
  | .mref _, e, 0, m, h, _ => by cases h
  | .mref _, e, n + 1, m, h, _ => by cases h
  | .lst xs, e, n + 1, m, h, h2 => by
    cases m <;> cases e <;> first | (exact absurd (show false = true from h2) Bool.false_ne_true) | (unfold D.toP PyData.eqv D.eqv; first | rfl | exact eqvAll_toP xs _ (show shpAll n _ = true from h) (show shpAll _ _ = true from h2))
  | .scr xs, e, n + 1, m, h, h2 => by
    cases m <;> cases e <;> first | (exact absurd (show false = true from h2) Bool.false_ne_true) | (unfold D.toP PyData.eqv D.eqv; first | rfl | exact eqvAll_toP xs _ (show shpAll n _ = true from h) (show shpAll _ _ = true from h2))
  | .tup xs, e, n + 1, m, h, h2 => by
    cases m <;> cases e <;> first | (exact absurd (show false = true from h2) Bool.false_ne_true) | (unfold D.toP PyData.eqv D.eqv; first | rfl | exact eqvAll_toP xs _ (show shpAll n _ = true from h) (show shpAll _ _ = true from h2))
  | .ktp xs, e, n + 1, m, h, h2 => by
    cases m <;> cases e <;> first | (exact absurd (show false = true from h2) Bool.false_ne_true) | (unfold D.toP PyData.eqv D.eqv; first | rfl | exact eqvAll_toP xs _ (show shpAll n _ = true from h) (show shpAll _ _ = true from h2))
  | .non, e, n, m, _, h2 => by cases m <;> cases e <;> first | (exact absurd (show false = true from h2) Bool.false_ne_true) | (unfold D.toP PyData.eqv D.eqv; rfl)
  | .bl b, e, n, m, _, h2 => by cases m <;> cases e <;> first | (exact absurd (show false = true from h2) Bool.false_ne_true) | (unfold D.toP PyData.eqv D.eqv; rfl)
  | .int b, e, n, m, _, h2 => by cases m <;> cases e <;> first | (exact absurd (show false = true from h2) Bool.false_ne_true) | (unfold D.toP PyData.eqv D.eqv; rfl)
  | .str b, e, n, m, _, h2 => by cases m <;> cases e <;> first | (exact absurd (show false = true from h2) Bool.false_ne_true) | (unfold D.toP PyData.eqv D.eqv; rfl)
theorem eqvAll_toP : ∀ (d e : List D) {n m : Nat}, shpAll n d = true → shpAll m e = true → PyData.eqvAll (D.toP.go d) (D.toP.go e) = eqvAll d e
  | [], [], _, _, _, _ => by unfold D.toP.go PyData.eqvAll eqvAll; rfl
  | [], _ :: _, _, _, _, _ => by unfold D.toP.go PyData.eqvAll eqvAll; rfl
  | _ :: _, [], _, _, _, _ => by unfold D.toP.go PyData.eqvAll eqvAll; rfl
  | x :: xs, y :: ys, n, m, h, h2 => by
    unfold shpAll at h h2
    rw [Bool.and_eq_true] at h h2
    unfold D.toP.go PyData.eqvAll eqvAll
    rw [eqv_toP x y h.1 h2.1, eqvAll_toP xs ys h.2 h2.2]
end
/-! ### a two-place operation on data -/
def OpD (C : Cc) (r : R2) (op : D → D → R D) : Prop := ∀ G H x y dx dy, SOk C G H → Rep C.K C.w C.ad G x dx → Rep C.K C.w C.ad G y dy → ∀ E Q, Out C (rV C) E G H Q (op dx dy) → r x y H Q
theorem ce_B {r : R2} {op : D → D → R D} {ta tb : TE} {fa fb : SE} (h : OpD C r op) (ha : CE C xo W ta fa) (hb : CE C xo W tb fb) : CE C xo W (tOp r ta tb) (eB op fa fb) := fun σ G H env f Q o =>
  ha σ G H env f _ (Out.bind o fun d v G1 H1 _ s1 r1 o1 => hb σ G1 H1 env (f.step s1) _ (Out.bind o1 fun d2 v2 G2 H2 _ s2 r2 o2 => h G2 H2 v v2 d d2 s2.gh (r1.mono s2.g) r2 _ _ o2))
theorem ce_c {v : V} {d : D} (h : ∀ G, Rep C.K C.w C.ad G v d) : CE C xo W (tC v) (eC d) := fun σ G H env f Q o => o v G H (Step.refl f.ok) (h G)
theorem ce_var {i : Nat} : CE C xo W (tVar i) (eV i) := fun σ G H env f Q o => by
  unfold eV at o
  cases c : env[i]? with
  | none => rw [c] at o; exact o.elim
  | some s =>
    cases s with
    | val d =>
      rw [c] at o
      obtain ⟨v, h1, h2⟩ := f.val i d c
      exact ⟨v, h1, o v G H (Step.refl f.ok) h2⟩
    | un => rw [c] at o; exact o.elim
    | own _ => rw [c] at o; exact o.elim
    | exn _ _ => rw [c] at o; exact o.elim
/-- an int rule -/
theorem od_I0 {g : Int → Int → V} {op : D → D → R D} (h : ∀ x y E G H Q, Out C (rV C) E G H Q (op x y) → ∃ i j d, x = .int i ∧ y = .int j ∧ op x y = .ok d ∧ ∀ G, Rep C.K C.w C.ad G (g i j) d) : OpD C (rI0 g) op := by
  intro G H x y dx dy e rx ry E Q o
  obtain ⟨i, j, d, rfl, rfl, h1, h2⟩ := h dx dy E G H Q o
  cases rx
  cases ry
  rw [h1] at o
  exact ⟨i, j, rfl, rfl, o _ G H (Step.refl e) (h2 G)⟩
def rAdd (K : PySem.W.Frag) : R2 := fun x y H Q => rI0 (fun i j => .int (i + j)) x y H Q ∨ ((fun (x y : V) H Q => ∃ i j, x = .str i ∧ y = .str j ∧ i.length + j.length ≤ sizeLine ∧ Q (V.str (i ++ j)) H) : R2) x y H Q ∨ rCat x y H Q ∨ rCatA K x y H Q
theorem or_add {X : Cx} : OpR X (binaryOp .Add) (rAdd X.K) := op_add.or (op_add_str.or (op_cat.or op_catA))
theorem od_add : OpD C (rAdd C.K) dAdd := by
  intro G H x y dx dy e rx ry E Q o
  cases rx with
  | int i => cases ry with
    | int j => exact Or.inl ⟨i, j, rfl, rfl, o _ G H (Step.refl e) (.int _)⟩
    | _ => exact False.elim o
  | str a => cases ry with
    | str b =>
      have o2 : Out C (rV C) E G H Q (if a.length + b.length ≤ Z then .ok (.str (a ++ b)) else .bad) := o
      by_cases hz : a.length + b.length ≤ Z
      · rw [if_pos hz] at o2
        exact Or.inr (Or.inl ⟨a, b, rfl, rfl, sz_of hz, o2 _ G H (Step.refl e) (.str _)⟩)
      · rw [if_neg hz] at o2; exact o2.elim
    | _ => exact False.elim o
  | @lst a vs ds h1 r1 => cases ry with
    | @lst b ws es h2 r2 =>
      have o2 : Out C (rV C) E G H Q (if ds.length + es.length ≤ Z then .ok (.lst (ds ++ es)) else .bad) := o
      by_cases hz : ds.length + es.length ≤ Z
      · rw [if_pos hz] at o2
        refine Or.inr (Or.inr (Or.inl ⟨a, b, vs, ws, rfl, rfl, e.e _ _ h1, e.e _ _ h2, sz_of (by rw [r1.length, r2.length]; exact hz), fun p hp => ?_⟩))
        exact o2 _ _ _ (Step.new e hp) (.lst upd_same ((r1.append r2).mono (ExG.new (fresh_back e.e hp))))
      · rw [if_neg hz] at o2; exact o2.elim
    | _ => exact False.elim o
  | @tup a vs ds h1 r1 => cases ry with
    | @tup b ws es h2 r2 =>
      have o2 : Out C (rV C) E G H Q (if ds.length + es.length ≤ Z then .ok (.tup (ds ++ es)) else .bad) := o
      by_cases hz : ds.length + es.length ≤ Z
      · rw [if_pos hz] at o2
        refine Or.inr (Or.inr (Or.inr ⟨a, b, vs, ws, rfl, rfl, ex_t e.e h1, ex_t e.e h2, sz_of (by rw [r1.length, r2.length]; exact hz), fun z => ?_, fun _ z => ?_, fun _ _ p hp => ?_⟩))
        · subst z
          cases r1
          exact o2 _ G H (Step.refl e) (.tup h2 r2)
        · subst z
          cases r2
          rw [List.append_nil] at o2
          exact o2 _ G H (Step.refl e) (.tup h1 r1)
        · exact o2 _ _ _ (Step.new e hp) (.tup (st_of upd_same) ((r1.append r2).mono (ExG.new (fresh_back e.e hp))))
      · rw [if_neg hz] at o2; exact o2.elim
    | _ => exact False.elim o
  | _ => exact False.elim o
local macro_rules | `(tactic| walk_at "intop") => `(tactic| (
  intro G H x y dx dy e rx ry E Q o
  cases rx with
  | int i => cases ry with
    | int j => exact ⟨i, j, rfl, rfl, o _ G H (Step.refl e) (.int _)⟩
    | _ => exact False.elim o
  | _ => exact False.elim o))
theorem od_sub : OpD C (rI0 fun i j => .int (i - j)) dSub := by walk_at "intop"
theorem od_and : OpD C (rI0 fun i j => .int (Builtin.bitAnd i j)) dAnd := by walk_at "intop"
theorem od_or : OpD C (rI0 fun i j => .int (Builtin.bitOr i j)) dOr := by walk_at "intop"
theorem od_xor : OpD C (rI0 fun i j => .int (Builtin.bitXor i j)) dXor := by walk_at "intop"
theorem out_if {p : Prop} [Decidable p] {α β : Type} {rep : Gd → Hp → β → α → Prop} {Q : β → Hp → Prop} {r : R α} (o : Out C rep E G H Q (if p then r else .bad)) : p ∧ Out C rep E G H Q r := by
  by_cases h : p
  · rw [if_pos h] at o; exact ⟨h, o⟩
  · rw [if_neg h] at o; exact o.elim
theorem out_ifE {p : Prop} [Decidable p] {d : D} {Q : VK} (o : Out C (rV C) E G H Q (if p then .ok d else .bad)) : p ∧ ∀ v G' H', Step C G H G' H' → Rep C.K C.w C.ad G' v d → Q v H' := by
  by_cases h : p
  · rw [if_pos h] at o; exact ⟨h, o⟩
  · rw [if_neg h] at o; exact o.elim
local macro_rules | `(tactic| walk_at "intopD") => `(tactic| (
  intro G H x y dx dy e rx ry E Q o
  cases rx with
  | int i => cases ry with
    | int j =>
      obtain ⟨hc, o⟩ := out_ifE o
      exact ⟨i, j, rfl, rfl, hc, o _ G H (Step.refl e) (.int _)⟩
    | _ => exact False.elim o
  | _ => exact False.elim o))
theorem od_div : OpD C (rI CDivW fun i j => .int (i / j)) dDiv := by walk_at "intopD"
theorem od_mod : OpD C (rI (fun _ j => 0 < j) fun i j => .int (i % j)) dMod := by walk_at "intopD"
theorem od_pow : OpD C (rI CPow fun i j => .int (i ^ j.toNat)) dPow := by walk_at "intopD"
theorem od_shr : OpD C (rI (fun _ j => 0 ≤ j) fun i j => .int (i / 2 ^ j.toNat)) dShr := by walk_at "intopD"
def rShl : R2 := fun x y H Q => rI CShl (fun i j => .int (i * 2 ^ j.toNat)) x y H Q ∨ rI CPow (fun i j => .int (i * 2 ^ j.toNat)) x y H Q
theorem or_shl {X : Cx} : OpR X (binaryOp .LShift) rShl := op_shlW.or op_shl
theorem od_shl : OpD C rShl dShl := by
  intro G H x y dx dy e rx ry E Q o
  cases rx with
  | int i => cases ry with
    | int j =>
      obtain ⟨hc, o⟩ := out_ifE o
      exact hc.elim (fun hc => Or.inl ⟨i, j, rfl, rfl, hc, o _ G H (Step.refl e) (.int _)⟩) fun hc => Or.inr ⟨i, j, rfl, rfl, hc, o _ G H (Step.refl e) (.int _)⟩
    | _ => exact False.elim o
  | _ => exact False.elim o
def rMul : R2 := fun x y H Q => rI CMulW (fun i j => .int (i * j)) x y H Q ∨ rI CMul (fun i j => .int (i * j)) x y H Q ∨ rRep x y H Q
theorem or_mul {X : Cx} : OpR X (binaryOp .Mult) rMul := op_mulW.or (op_mul.or op_rep)
theorem od_mul : OpD C rMul dMul := by
  intro G H x y dx dy e rx ry E Q o
  cases rx with
  | int i => cases ry with
    | int j =>
      obtain ⟨hc, o⟩ := out_ifE o
      exact hc.elim (fun hc => Or.inl ⟨i, j, rfl, rfl, hc, o _ G H (Step.refl e) (.int _)⟩) fun hc => Or.inr (Or.inl ⟨i, j, rfl, rfl, hc, o _ G H (Step.refl e) (.int _)⟩)
    | _ => exact False.elim o
  | @lst a vs ds h1 r1 => cases ry with
    | int k =>
      obtain ⟨hc, o⟩ := out_ifE o
      refine Or.inr (Or.inr ⟨a, k, vs, rfl, rfl, e.e _ _ h1, hc.2.1, hc.2.2, sz_of (by rw [r1.length]; exact hc.1), fun p hp => ?_⟩)
      exact o _ _ _ (Step.new e hp) (.lst upd_same ((r1.rep _).mono (ExG.new (fresh_back e.e hp))))
    | _ => exact False.elim o
  | _ => exact False.elim o
/-! comparisons -/
def rLt : R2 := fun x y H Q => rI0 (fun i j => .bl (decide (i < j))) x y H Q ∨ ((fun (x y : V) H Q => ∃ i j, x = .str i ∧ y = .str j ∧ Q (V.bl (decide (i.cps.toList < j.cps.toList))) H) : R2) x y H Q
def rLe : R2 := fun x y H Q => rI0 (fun i j => .bl (decide (i ≤ j))) x y H Q ∨ ((fun (x y : V) H Q => ∃ i j, x = .str i ∧ y = .str j ∧ Q (V.bl (!decide (j.cps.toList < i.cps.toList))) H) : R2) x y H Q
def rGt : R2 := fun x y H Q => rI0 (fun i j => .bl (decide (j < i))) x y H Q ∨ ((fun (x y : V) H Q => ∃ i j, x = .str i ∧ y = .str j ∧ Q (V.bl (decide (j.cps.toList < i.cps.toList))) H) : R2) x y H Q
def rGe : R2 := fun x y H Q => rI0 (fun i j => .bl (decide (j ≤ i))) x y H Q ∨ ((fun (x y : V) H Q => ∃ i j, x = .str i ∧ y = .str j ∧ Q (V.bl (!decide (i.cps.toList < j.cps.toList))) H) : R2) x y H Q
theorem or_lt {X : Cx} : OpR X (compareOp .Lt) rLt := op_lt.or op_lt_str
theorem or_le {X : Cx} : OpR X (compareOp .LtE) rLe := op_le.or op_le_str
theorem or_gt {X : Cx} : OpR X (compareOp .Gt) rGt := op_gt.or op_gt_str
theorem or_ge {X : Cx} : OpR X (compareOp .GtE) rGe := op_ge.or op_ge_str
local macro_rules | `(tactic| walk_at "cmpop") => `(tactic| (
  intro G H x y dx dy e rx ry E Q o
  cases rx with
  | int i => cases ry with
    | int j => exact Or.inl ⟨i, j, rfl, rfl, o _ G H (Step.refl e) (.bl _)⟩
    | _ => exact False.elim o
  | str i => cases ry with
    | str j => exact Or.inr ⟨i, j, rfl, rfl, o _ G H (Step.refl e) (.bl _)⟩
    | _ => exact False.elim o
  | _ => exact False.elim o))
theorem od_lt : OpD C rLt dLt := by walk_at "cmpop"
theorem od_le : OpD C rLe dLe := by walk_at "cmpop"
theorem od_gt : OpD C rGt dGt := by walk_at "cmpop"
theorem od_ge : OpD C rGe dGe := by walk_at "cmpop"
end
end Dm
set_option Elab.async false
set_option linter.all false
set_option maxRecDepth 100000
set_option maxHeartbeats 4000000
namespace Dm
open PySem L2 Evl RZ Wm
section
variable {C : Cc} {xo : Xo} {W : WX} {G G' : Gd} {H H' : Hp} {σ : L2.St} {env : Env} {E : XK}
/-! == -/
def rEqX (K : PySem.W.Frag) : R2 := fun x y H Q => rEq x y H Q ∨ rEqD K x y H Q
def rNeX (K : PySem.W.Frag) : R2 := fun x y H Q => rNe x y H Q ∨ rNeD K x y H Q
theorem or_eq {X : Cx} (hu : X.A.units + 64 < cLine) : OpR X (compareOp .Eq) (rEqX X.K) := op_eq.or (op_eqD hu)
theorem or_ne {X : Cx} (hu : X.A.units + 64 < cLine) : OpR X (compareOp .NotEq) (rNeX X.K) := op_ne.or (op_neD hu)
theorem dEq_ok {x y : D} {E : XK} {Q : VK} (o : Out C (rV C) E G H Q (dEq x y)) : (∃ i j, x = .int i ∧ y = .int j) ∨ (∃ a b, x = .str a ∧ y = .str b) ∨ (∃ b, x = .non ∧ y = .str b) ∨ (∃ b, x = .str b ∧ y = .non) ∨ (dEq x y = .ok (.bl (x.eqv y)) ∧ x.shp 64 = true ∧ y.shp 64 = true) := by
  unfold dEq at o ⊢
  split at o
  · exact Or.inl ⟨_, _, rfl, rfl⟩
  · exact Or.inr (Or.inl ⟨_, _, rfl, rfl⟩)
  · exact Or.inr (Or.inr (Or.inl ⟨_, rfl, rfl⟩))
  · exact Or.inr (Or.inr (Or.inr (Or.inl ⟨_, rfl, rfl⟩)))
  · obtain ⟨h, _⟩ := out_ifE o
    have h2 := h
    rw [Bool.and_eq_true] at h
    exact Or.inr (Or.inr (Or.inr (Or.inr ⟨if_pos h2, h.1, h.2⟩)))
theorem dec_V {i j : Int} : decide (V.int i = V.int j) = decide (i = j) := by
  by_cases h : i = j
  · subst h; simp
  · rw [decide_eq_false h, decide_eq_false fun z => h (V.int.inj z)]
theorem dec_S {i j : Str} : decide (V.str i = V.str j) = decide (i = j) := by
  by_cases h : i = j
  · subst h; simp
  · rw [decide_eq_false h, decide_eq_false fun z => h (V.str.inj z)]
theorem od_eq : OpD C (rEqX C.K) dEq := by
  intro G H x y dx dy e rx ry E Q o
  rcases dEq_ok o with ⟨i, j, rfl, rfl⟩ | ⟨i, j, rfl, rfl⟩ | ⟨j, rfl, rfl⟩ | ⟨j, rfl, rfl⟩ | ⟨h, h1, h2⟩
  · cases rx; cases ry
    refine Or.inl ⟨rfl, ?_⟩
    rw [dec_V]
    exact o _ G H (Step.refl e) (.bl _)
  · cases rx; cases ry
    refine Or.inl ⟨rfl, ?_⟩
    rw [dec_S]
    exact o _ G H (Step.refl e) (.bl _)
  · cases rx; cases ry
    exact Or.inl ⟨rfl, o _ G H (Step.refl e) (.bl _)⟩
  · cases rx; cases ry
    exact Or.inl ⟨rfl, o _ G H (Step.refl e) (.bl _)⟩
  · rw [h] at o
    have a1 := (Rp.mono0 e.e (fun _ _ h => h) rx).shaped h1
    have a2 := (Rp.mono0 e.e (fun _ _ h => h) ry).shaped h2
    refine Or.inr ⟨_, _, a1.1, a2.1, a1.2, a2.2, ?_⟩
    rw [eqv_toP dx dy h1 h2]
    exact o _ G H (Step.refl e) (.bl _)
theorem od_ne : OpD C (rNeX C.K) dNe := by
  intro G H x y dx dy e rx ry E Q o
  have o1 : Out C (rV C) E G H (fun v H' => ∀ b, v = .bl b → ∀ G', Step C G H G' H' → Q (.bl !b) H') (dEq dx dy) := Out.bind o fun d v G' H' _ s r o2 b hb G2 s2 => by
    subst hb
    cases r
    exact o2 _ G' H' (Step.refl s.gh) (.bl _)
  rcases dEq_ok o1 with ⟨i, j, rfl, rfl⟩ | ⟨i, j, rfl, rfl⟩ | ⟨j, rfl, rfl⟩ | ⟨j, rfl, rfl⟩ | ⟨h, h1, h2⟩
  · cases rx; cases ry
    refine Or.inl ⟨rfl, ?_⟩
    rw [dec_V]
    exact o1 _ G H (Step.refl e) (.bl _) _ rfl G (Step.refl e)
  · cases rx; cases ry
    refine Or.inl ⟨rfl, ?_⟩
    rw [dec_S]
    exact o1 _ G H (Step.refl e) (.bl _) _ rfl G (Step.refl e)
  · cases rx; cases ry
    exact Or.inl ⟨rfl, o1 _ G H (Step.refl e) (.bl _) _ rfl G (Step.refl e)⟩
  · cases rx; cases ry
    exact Or.inl ⟨rfl, o1 _ G H (Step.refl e) (.bl _) _ rfl G (Step.refl e)⟩
  · rw [h] at o1
    have a1 := (Rp.mono0 e.e (fun _ _ h => h) rx).shaped h1
    have a2 := (Rp.mono0 e.e (fun _ _ h => h) ry).shaped h2
    refine Or.inr ⟨_, _, a1.1, a2.1, a1.2, a2.2, ?_⟩
    rw [eqv_toP dx dy h1 h2]
    exact o1 _ G H (Step.refl e) (.bl _) _ rfl G (Step.refl e)
/-! in -/
theorem flat_V {v : V} {d : D} (r : Rep C.K C.w C.ad G v d) (h : flatD d = true) : flatV v = true := by
  cases r <;> first | rfl | cases h
theorem eqV_D {v u : V} {d e : D} (r : Rep C.K C.w C.ad G v d) (r2 : Rep C.K C.w C.ad G u e) (h : flatD d = true) (h2 : flatD e = true) : eqV v u = d.eqv e := by
  cases r <;> (try cases h) <;> cases r2 <;> (try cases h2) <;> unfold eqV D.eqv <;> rfl
theorem flat_all : ∀ {vs : List V} {ds : List D}, RepL C.K C.w C.ad G vs ds → ds.all flatD = true → vs.all flatV = true
  | _, _, .nil, _ => rfl
  | _, _, .cons h r, q => by
    rw [List.all_cons, Bool.and_eq_true] at q ⊢
    exact ⟨flat_V h q.1, flat_all r q.2⟩
theorem inV_D {v : V} {d : D} (hv : Rep C.K C.w C.ad G v d) (hd : flatD d = true) : ∀ {vs : List V} {ds : List D}, RepL C.K C.w C.ad G vs ds → ds.all flatD = true → inV v vs = inD d ds
  | _, _, .nil, _ => rfl
  | _, _, .cons h r, q => by
    rw [List.all_cons, Bool.and_eq_true] at q
    unfold inV inD
    rw [List.any_cons, List.any_cons, eqV_D h hv q.1 hd]
    congr 1
    exact inV_D hv hd r q.2
def rInS (neg : Bool) : R2 := fun x y H Q => ∃ i j, x = .str i ∧ y = .str j ∧ Q (.bl (if neg then !(!(Builtin.Str.occurrences j i 0 j.length 1).isEmpty) else !(Builtin.Str.occurrences j i 0 j.length 1).isEmpty)) H
def rInDc (K : PySem.W.Frag) (w : World) (neg : Bool) : R2 := fun x y H Q => ∃ d kvs, SD K w d kvs ∧ rInSD d kvs neg x y H Q
def rInX (K : PySem.W.Frag) (w : World) (neg : Bool) : R2 := fun x y H Q => rInS neg x y H Q ∨ rInDc K w neg x y H Q ∨ rIn K neg x y H Q
theorem or_in {X : Cx} : OpR X (compareOp .In) (rInX X.K X.w false) :=
  OpR.or (r := rInS false) op_in_str (OpR.or (r := rInDc X.K X.w false) (fun pins s σ H x y v u Q I rx ry h => by
    obtain ⟨d, kvs, h1, h2⟩ := h
    exact op_in_sd h1 pins s σ H x y v u Q I rx ry h2) op_in_seq)
theorem or_notIn {X : Cx} : OpR X (compareOp .NotIn) (rInX X.K X.w true) :=
  OpR.or (r := rInS true) op_notin_str (OpR.or (r := rInDc X.K X.w true) (fun pins s σ H x y v u Q I rx ry h => by
    obtain ⟨d, kvs, h1, h2⟩ := h
    exact op_notIn_sd h1 pins s σ H x y v u Q I rx ry h2) op_notIn_seq)
theorem lkp_zip : ∀ {ks : List Str} {vs : List V} {ds : List D} {z : Str}, ks.length = vs.length → RepL C.K C.w C.ad G vs ds → (match lkp ks ds z with
  | some d => ∃ v, (ks.zip vs).lookup z = some v ∧ Rep C.K C.w C.ad G v d
  | none => (ks.zip vs).lookup z = none) := by
  intro ks
  induction ks with
  | nil => intro vs ds z _ r; unfold lkp; rfl
  | cons k ks ih =>
    intro vs ds z h r
    cases r with
    | nil => cases h
    | @cons v d vs ds hv r =>
      unfold lkp
      by_cases hz : z = k
      · subst hz
        rw [if_pos rfl]
        refine ⟨v, ?_, hv⟩
        rw [List.zip_cons_cons, List.lookup_cons, beq_self_eq_true]
      · rw [if_neg hz]
        have ih := ih (z := z) (Nat.succ.inj h) r
        rw [List.zip_cons_cons, List.lookup_cons, beq_eq_false_iff_ne.mpr hz]
        exact ih
theorem dIn_ok {x y : D} {E : XK} {Q : VK} (o : Out C (rV C) E G H Q (dIn x y)) : (∃ a b, x = .str a ∧ y = .str b) ∨ (∃ a ks ds, x = .str a ∧ y = .dct ks ds) ∨ (∃ xs, seqOf y = some xs ∧ dIn x y = .ok (.bl (inD x xs)) ∧ flatD x = true ∧ xs.all flatD = true) := by
  unfold dIn at o ⊢
  split at o
  · exact Or.inl ⟨_, _, rfl, rfl⟩
  · exact Or.inr (Or.inl ⟨_, _, _, rfl, rfl⟩)
  · cases c : seqOf y with
    | none => rw [c] at o; exact o.elim
    | some xs =>
      rw [c] at o
      dsimp only at o
      obtain ⟨h, _⟩ := out_ifE o
      have h2 := h
      rw [Bool.and_eq_true] at h
      refine Or.inr (Or.inr ⟨xs, rfl, ?_, h.1, h.2⟩)
      dsimp only
      rw [if_pos h2]
theorem in_run {neg : Bool} {x y : V} {dx dy : D} {E : XK} {Q Q2 : VK} (e : SOk C G H) (rx : Rep C.K C.w C.ad G x dx) (ry : Rep C.K C.w C.ad G y dy) (o : Out C (rV C) E G H Q (dIn dx dy)) (q : ∀ b, Q (.bl b) H → Q2 (.bl (if neg then !b else b)) H) : rInX C.K C.w neg x y H Q2 := by
  rcases dIn_ok o with ⟨i, j, rfl, rfl⟩ | ⟨a, ks, ds, rfl, rfl⟩ | ⟨xs, h, h1, h2, h3⟩
  · cases rx; cases ry
    refine Or.inl ⟨i, j, rfl, rfl, ?_⟩
    exact q _ (o _ G H (Step.refl e) (.bl _))
  · cases rx
    cases ry with
    | dct hl hs r =>
      refine Or.inr (Or.inl ⟨_, _, hs, a, rfl, rfl, ?_⟩)
      have z := lkp_zip (z := a) hl r
      have o2 : Out C (rV C) E G H Q (.ok (.bl (lkp ks ds a).isSome)) := o
      cases c : lkp ks ds a with
      | none =>
        rw [c] at z o2
        dsimp only at z
        rw [z]
        exact q _ (o2 _ G H (Step.refl e) (.bl _))
      | some d =>
        rw [c] at z o2
        obtain ⟨v, z, _⟩ := z
        rw [z]
        exact q _ (o2 _ G H (Step.refl e) (.bl _))
  · rw [h1] at o
    have fin : ∀ {vs : List V}, RepL C.K C.w C.ad G vs xs → Q2 (.bl (if neg then !inV x vs else inV x vs)) H := fun {vs} r => by
      rw [inV_D rx h2 r h3]
      exact q _ (o _ G H (Step.refl e) (.bl _))
    cases ry with
    | lst hl r => cases h; exact Or.inr (Or.inr ⟨_, _, rfl, Or.inl (sq_of (e.e _ _ hl)), flat_V rx h2, flat_all r h3, fin r⟩)
    | scr hl r => cases h; exact Or.inr (Or.inr ⟨_, _, rfl, Or.inl (ex_l e.e hl), flat_V rx h2, flat_all r h3, fin r⟩)
    | tup hl r => cases h; exact Or.inr (Or.inr ⟨_, _, rfl, Or.inr (ex_t e.e hl), flat_V rx h2, flat_all r h3, fin r⟩)
    | ktp hl _ r => cases h; exact Or.inr (Or.inr ⟨_, _, rfl, Or.inr (ex_t e.e hl), flat_V rx h2, flat_all r h3, fin r⟩)
    | _ => cases h
theorem od_in : OpD C (rInX C.K C.w false) dIn := fun G H x y dx dy e rx ry E Q o => in_run e rx ry o fun b h => h
theorem od_notIn : OpD C (rInX C.K C.w true) dNotIn := fun G H x y dx dy e rx ry E Q o =>
  in_run (Q := fun v H' => ∀ b, v = .bl b → ∀ G', Step C G H G' H' → Q (.bl !b) H') e rx ry (Out.bind o fun d v G' H' _ s r o2 b hb G2 s2 => by
    subst hb
    cases r
    exact o2 _ G' H' (Step.refl s.gh) (.bl _)) fun b h => h b rfl G (Step.refl e)
/-! is None -/
theorem od_is : OpD C (fun x y H Q => y = .non ∧ Q (.bl (decide (x = .non))) H) dIs := by
  intro G H x y dx dy e rx ry E Q o
  cases ry with
  | non => cases rx <;> exact ⟨rfl, o _ G H (Step.refl e) (.bl _)⟩
  | _ => cases rx <;> exact False.elim o
theorem od_isnt : OpD C (fun x y H Q => y = .non ∧ Q (.bl (!decide (x = .non))) H) dIsnt := by
  intro G H x y dx dy e rx ry E Q o
  cases ry with
  | non => cases rx <;> exact ⟨rfl, o _ G H (Step.refl e) (.bl _)⟩
  | _ => cases rx <;> exact False.elim o
/-! x[i] -/
def rIxX (K : PySem.W.Frag) (w : World) : R2 := fun x y H Q => rIx K x y H Q ∨ rIxD K w x y H Q
theorem ix_all {X : Cx} : IxR X (rIxX X.K X.w) := ix_seq.or ix_kdict
/-- what a cell's list gives -/
theorem onL_out {α β : Type} {rep : Gd → Hp → β → α → Prop} {n : Nat} {k : List D → Sto → Rs α} {Q : β → Hp → Prop} (o : Out C rep E G H Q (onL n k)) : ∃ xs, G.s[n]? = some (.lst xs) ∧ OutR C rep E G H Q (k xs G.s) := by
  unfold Out onL at o
  cases c : G.s[n]? with
  | none => rw [c] at o; exact False.elim o
  | some z =>
    cases z with
    | lst xs => rw [c] at o; exact ⟨xs, rfl, o⟩
    | dct _ => rw [c] at o; exact False.elim o
    | ins _ _ => rw [c] at o; exact False.elim o
theorem od_ix : OpD C (rIxX C.K C.w) dIx := by
  intro G H x y dx dy e rx ry E Q o
  cases rx with
  | @mref n a hm => cases ry with
    | int i =>
      obtain ⟨xs, hs, o⟩ := onL_out o
      obtain ⟨_, vs, hH, r⟩ := e.at hm hs
      unfold oR at o
      cases c : L2.atI xs i with
      | none => rw [c] at o; exact False.elim o
      | some d =>
        rw [c] at o
        obtain ⟨u, hu, ru⟩ := r.atI c
        exact Or.inl (Or.inl ⟨a, vs, i, u, rfl, rfl, sq_of hH, hu, o _ G H (Step.refl e) ru⟩)
    | _ => exact False.elim o
  | str z => cases ry with
    | int i =>
      have o2 : Out C (rV C) E G H Q (if z.length ≤ Z then (match L2.atI z.cps.toList i with | some c => .ok (.str ⟨#[c]⟩) | none => .bad) else .bad) := o
      obtain ⟨hz, o2⟩ := out_if o2
      cases c : L2.atI z.cps.toList i with
      | none => rw [c] at o2; exact o2.elim
      | some k =>
        rw [c] at o2
        exact Or.inl (Or.inr (Or.inr ⟨z, i, k, rfl, rfl, sz_of hz, c, o2 _ G H (Step.refl e) (.str _)⟩))
    | _ => exact False.elim o
  | @lst a vs ds h r => cases ry with
    | int i =>
      have o2 : Out C (rV C) E G H Q (match L2.atI ds i with | some d => .ok d | none => .bad) := o
      cases c : L2.atI ds i with
      | none => rw [c] at o2; exact o2.elim
      | some d =>
        rw [c] at o2
        obtain ⟨u, hu, ru⟩ := r.atI c
        exact Or.inl (Or.inl ⟨a, vs, i, u, rfl, rfl, sq_of (e.e _ _ h), hu, o2 _ G H (Step.refl e) ru⟩)
    | _ => exact False.elim o
  | @scr a vs ds h r => cases ry with
    | int i =>
      have o2 : Out C (rV C) E G H Q (match L2.atI ds i with | some d => .ok d | none => .bad) := o
      cases c : L2.atI ds i with
      | none => rw [c] at o2; exact o2.elim
      | some d =>
        rw [c] at o2
        obtain ⟨u, hu, ru⟩ := r.atI c
        exact Or.inl (Or.inl ⟨a, vs, i, u, rfl, rfl, ex_l e.e h, hu, o2 _ G H (Step.refl e) ru⟩)
    | _ => exact False.elim o
  | @tup a vs ds h r => cases ry with
    | int i =>
      have o2 : Out C (rV C) E G H Q (match L2.atI ds i with | some d => .ok d | none => .bad) := o
      cases c : L2.atI ds i with
      | none => rw [c] at o2; exact o2.elim
      | some d =>
        rw [c] at o2
        obtain ⟨u, hu, ru⟩ := r.atI c
        exact Or.inl (Or.inr (Or.inl ⟨a, vs, i, u, rfl, rfl, ex_t e.e h, hu, o2 _ G H (Step.refl e) ru⟩))
    | _ => exact False.elim o
  | @ktp a vs ds h _ r => cases ry with
    | int i =>
      have o2 : Out C (rV C) E G H Q (match L2.atI ds i with | some d => .ok d | none => .bad) := o
      cases c : L2.atI ds i with
      | none => rw [c] at o2; exact o2.elim
      | some d =>
        rw [c] at o2
        obtain ⟨u, hu, ru⟩ := r.atI c
        exact Or.inl (Or.inr (Or.inl ⟨a, vs, i, u, rfl, rfl, ex_t e.e h, hu, o2 _ G H (Step.refl e) ru⟩))
    | _ => exact False.elim o
  | @dct a ks vs ds hl hs r => cases ry with
    | str z =>
      have o2 : Out C (rV C) E G H Q (match lkp ks ds z with | some d => .ok d | none => .bad) := o
      have l := lkp_zip (z := z) hl r
      cases c : lkp ks ds z with
      | none => rw [c] at o2; exact o2.elim
      | some d =>
        rw [c] at o2 l
        obtain ⟨v, l, rv⟩ := l
        exact Or.inr ⟨a, z, v, rfl, rfl, hs.some l, o2 _ G H (Step.refl e) rv⟩
    | _ => exact False.elim o
  | _ => cases ry <;> exact False.elim o
/-! slices -/
theorem co_none : CO C xo W tNoPart pN := fun σ G H env f Q o => o none G H (Step.refl f.ok) rfl
theorem co_some {te : TE} {f : SE} (h : CE C xo W te f) : CO C xo W (tPart te) (pS f) := fun σ G H env ft Q o =>
  h σ G H env ft _ (Out.bind o fun d v G1 H1 _ s r o1 => by
    cases r with
    | int i => exact ⟨i, rfl, o1 (some i) G1 H1 (Step.refl s.gh) rfl⟩
    | _ => exact False.elim o1)
def rSlX2 (K : PySem.W.Frag) : V → Option Int → Option Int → Hp → VK → Prop := fun x lo hi H Q => rSlS x lo hi H Q ∨ rSlL K x lo hi H Q ∨ rSlA K x lo hi H Q
theorem sl_all {X : Cx} : SlR X (rSlX2 X.K) := sl_str.or (sl_list.or sl_tupA)
theorem ce_sl {te : TE} {tl th : TO} {f : SE} {lo hi : Env → R (Option Int)} (h : CE C xo W te f) (h1 : CO C xo W tl lo) (h2 : CO C xo W th hi) : CE C xo W (tSl (rSlX2 C.K) te tl th) (eSl f lo hi) := fun σ G H env ft Q o =>
  h σ G H env ft _ (Out.bind o fun d v G1 H1 _ s1 r1 o1 => h1 σ G1 H1 env (ft.step s1) _ (Out.bind o1 fun l l' G2 H2 _ s2 r2 o2 => h2 σ G2 H2 env ((ft.step s1).step s2) _ (Out.bind o2 fun u u' G3 H3 _ s3 r3 o3 => by
    subst r2 r3
    have r := r1.mono (s2.g.trans s3.g)
    have e := s3.gh
    cases r with
    | str z =>
      have o4 : Out C (rV C) _ G3 H3 Q (if z.length ≤ Z then .ok (.str (cutS z l' u')) else .bad) := o3
      obtain ⟨hz, o4⟩ := out_ifE o4
      exact Or.inl ⟨z, rfl, sz_of hz, o4 _ G3 H3 (Step.refl e) (.str _)⟩
    | @lst a vs ds h r =>
      exact Or.inr (Or.inl ⟨a, vs, rfl, sq_of (e.e _ _ h), fun p hp => o3 _ _ _ (Step.new e hp) (.lst upd_same ((r.cut l' u').mono (ExG.new (fresh_back e.e hp))))⟩)
    | @scr a vs ds h r =>
      exact Or.inr (Or.inl ⟨a, vs, rfl, ex_l e.e h, fun p hp => o3 _ _ _ (Step.new e hp) (.lst upd_same ((r.cut l' u').mono (ExG.new (fresh_back e.e hp))))⟩)
    | @tup a vs ds h r =>
      refine Or.inr (Or.inr ⟨a, vs, rfl, ex_t e.e h, fun z => ?_, fun _ p hp => o3 _ _ _ (Step.new e hp) (.tup (st_of upd_same) ((r.cut l' u').mono (ExG.new (fresh_back e.e hp))))⟩)
      have q : cutG ds l' u' = ds := by
        unfold cutG
        rw [← r.length, z.1, z.2, List.drop_zero, Nat.sub_zero, r.length, List.take_length]
      have o4 : Out C (rV C) _ G3 H3 Q (.ok (.tup (cutG ds l' u'))) := o3
      rw [q] at o4
      exact o4 _ G3 H3 (Step.refl e) (.tup h r)
    | @ktp a vs ds h kk r =>
      refine Or.inr (Or.inr ⟨a, vs, rfl, ex_t e.e h, fun z => ?_, fun _ p hp => o3 _ _ _ (Step.new e hp) (.tup (st_of upd_same) ((r.cut l' u').mono (ExG.new (fresh_back e.e hp))))⟩)
      have q : cutG ds l' u' = ds := by
        unfold cutG
        rw [← r.length, z.1, z.2, List.drop_zero, Nat.sub_zero, r.length, List.take_length]
      have o4 : Out C (rV C) _ G3 H3 Q (.ok (.tup (cutG ds l' u'))) := o3
      rw [q] at o4
      exact o4 _ G3 H3 (Step.refl e) (.tup h r)
    | _ => exact False.elim o3)))
end
end Dm
set_option Elab.async false
set_option linter.all false
set_option maxRecDepth 100000
set_option maxHeartbeats 4000000
namespace Dm
open PySem L2 Evl RZ Wm
section
variable {C : Cc} {xo : Xo} {W : WX} {G G' : Gd} {H H' : Hp} {σ : L2.St} {env : Env} {E : XK}
/-! arguments -/
theorem ca_nil : CA C xo W tNil eNil := fun σ G H env f Q o => o [] G H (Step.refl f.ok) .nil
theorem ca_cons {te : TE} {tr : TA} {a : SE} {r : SA} (ha : CE C xo W te a) (hr : CA C xo W tr r) : CA C xo W (tCons te tr) (eCons a r) := fun σ G H env f Q o =>
  ha σ G H env f _ (Out.bind o fun d v G1 H1 _ s1 r1 o1 => hr σ G1 H1 env (f.step s1) _ (Out.bind o1 fun ds vs G2 H2 _ s2 r2 o2 => o2 (v :: vs) G2 H2 (Step.refl s2.gh) (.cons (r1.mono s2.g) r2)))
theorem ce_tup {ta : TA} {a : SA} (h : CA C xo W ta a) : CE C xo W (tTup ta) (eTup a) := fun σ G H env f Q o =>
  h σ G H env f _ (Out.bind o fun ds vs G1 H1 _ s1 r1 o1 => by
    obtain ⟨hz, o1⟩ := out_ifE o1
    exact ⟨sz_of (by rw [r1.length]; exact hz), fun p hp => o1 _ _ _ (Step.new s1.gh hp) (.tup (st_of upd_same) (r1.mono (ExG.new (fresh_back s1.gh.e hp))))⟩)
/-! tests -/
theorem ct_test {te : TE} {f : SE} (h : CE C xo W te f) : CT C xo W (tTest te) (tE f) := fun σ G H env ft Q o =>
  h σ G H env ft _ (Out.bind o fun d v G1 H1 _ s r o1 => by
    cases r with
    | bl b => exact ⟨b, rfl, o1 b G1 H1 (Step.refl s.gh) rfl⟩
    | _ => exact False.elim o1)
theorem ct_B {te : TE} {f : SE} (h : CE C xo W te f) : CT C xo W (tB te) (tE f) := ct_test h
theorem ct_and {t u : TT} {f g : ST} (h : CT C xo W t f) (h2 : CT C xo W u g) : CT C xo W (tAnd t u) (tAn f g) := fun σ G H env ft Q o =>
  h σ G H env ft _ (Out.bind o fun d v G1 H1 _ s r o1 => by
    subst r
    cases v with
    | true => exact h2 σ G1 H1 env (ft.step s) Q o1
    | false => exact o1 false G1 H1 (Step.refl s.gh) rfl)
theorem ct_or {t u : TT} {f g : ST} (h : CT C xo W t f) (h2 : CT C xo W u g) : CT C xo W (tOr t u) (tO f g) := fun σ G H env ft Q o =>
  h σ G H env ft _ (Out.bind o fun d v G1 H1 _ s r o1 => by
    subst r
    cases v with
    | false => exact h2 σ G1 H1 env (ft.step s) Q o1
    | true => exact o1 true G1 H1 (Step.refl s.gh) rfl)
theorem ct_not {t : TT} {f : ST} (h : CT C xo W t f) : CT C xo W (tNot t) (tN f) := fun σ G H env ft Q o =>
  h σ G H env ft _ (Out.bind o fun d v G1 H1 _ s r o1 => by
    subst r
    exact o1 (!v) G1 H1 (Step.refl s.gh) rfl)
theorem ct_yes : CT C xo W tYes tY := fun σ G H env ft Q o => o true G H (Step.refl ft.ok) rfl
theorem ce_and {ta tb : TE} {f g : SE} (h : CE C xo W ta f) (h2 : CE C xo W tb g) : CE C xo W (tAndV ta tb) (eAnd f g) := fun σ G H env ft Q o =>
  h σ G H env ft _ (Out.bind o fun d v G1 H1 _ s r o1 => by
    cases r with
    | bl b =>
      cases b with
      | true => exact ⟨true, rfl, h2 σ G1 H1 env (ft.step s) Q o1⟩
      | false => exact ⟨false, rfl, o1 _ G1 H1 (Step.refl s.gh) (.bl _)⟩
    | _ => exact False.elim o1)
theorem ce_or {ta tb : TE} {f g : SE} (h : CE C xo W ta f) (h2 : CE C xo W tb g) : CE C xo W (tOrV ta tb) (eOr f g) := fun σ G H env ft Q o =>
  h σ G H env ft _ (Out.bind o fun d v G1 H1 _ s r o1 => by
    cases r with
    | bl b =>
      cases b with
      | false => exact ⟨false, rfl, h2 σ G1 H1 env (ft.step s) Q o1⟩
      | true => exact ⟨true, rfl, o1 _ G1 H1 (Step.refl s.gh) (.bl _)⟩
    | _ => exact False.elim o1)
theorem ce_not {ta : TE} {f : SE} (h : CE C xo W ta f) : CE C xo W (tNotV ta) (eU dNot f) := fun σ G H env ft Q o =>
  h σ G H env ft _ (Out.bind o fun d v G1 H1 _ s r o1 => by
    cases r with
    | bl b => exact ⟨b, rfl, o1 _ G1 H1 (Step.refl s.gh) (.bl _)⟩
    | _ => exact False.elim o1)
theorem ce_neg {ta : TE} {f : SE} (h : CE C xo W ta f) : CE C xo W (tUn (rU fun i => .int (-i)) ta) (eU dNeg f) := fun σ G H env ft Q o =>
  h σ G H env ft _ (Out.bind o fun d v G1 H1 _ s r o1 => by
    cases r with
    | int b => exact ⟨b, rfl, o1 _ G1 H1 (Step.refl s.gh) (.int _)⟩
    | _ => exact False.elim o1)
theorem ce_if {t : TT} {ta tb : TE} {c : ST} {f g : SE} (h : CT C xo W t c) (h1 : CE C xo W ta f) (h2 : CE C xo W tb g) : CE C xo W (tIf t ta tb) (eIf c f g) := fun σ G H env ft Q o =>
  h σ G H env ft _ (Out.bind o fun d v G1 H1 _ s r o1 => by
    subst r
    cases v with
    | true => exact h1 σ G1 H1 env (ft.step s) Q o1
    | false => exact h2 σ G1 H1 env (ft.step s) Q o1)
theorem ce_chain {r r' : R2} {op op' : D → D → R D} {ta tb tc : TE} {fa fb fc : SE} (h : OpD C r op) (h' : OpD C r' op') (ha : CE C xo W ta fa) (hb : CE C xo W tb fb) (hc : CE C xo W tc fc) : CE C xo W (tChain r r' ta tb tc) (eChain op op' fa fb fc) := fun σ G H env f Q o =>
  ha σ G H env f _ (Out.bind o fun d v G1 H1 _ s1 r1 o1 => hb σ G1 H1 env (f.step s1) _ (Out.bind o1 fun d2 v2 G2 H2 _ s2 r2 o2 => h G2 H2 v v2 d d2 s2.gh (r1.mono s2.g) r2 (WE W σ) _ (Out.bind o2 fun d3 v3 G3 H3 _ s3 r3 o3 => by
    cases r3 with
    | bl b =>
      refine ⟨b, rfl, ?_⟩
      cases b with
      | false => exact o3 _ G3 H3 (Step.refl s3.gh) (.bl _)
      | true =>
        have f3 := ((f.step s1).step s2).step s3
        refine hc σ G3 H3 env f3 _ (Out.bind (show Out C (rV C) (WE W σ) G3 H3 Q ((fc env).bind fun z => (op' d2 z).bind fun r2 => (toBl r2).bind fun k2 => R.ok (D.bl k2)) from o3) fun d4 v4 G4 H4 _ s4 r4 o4 => h' G4 H4 v2 v4 d2 d4 s4.gh (r2.mono (s3.g.trans s4.g)) r4 (WE W σ) _ (Out.bind o4 fun d5 v5 G5 H5 _ s5 r5 o5 => ?_))
        cases r5 with
        | bl b2 => exact o5 _ G5 H5 (Step.refl s5.gh) (.bl _)
        | _ => exact False.elim o5
    | _ => exact False.elim o3)))
/-! built-ins -/
def CallD (C : Cc) (r : List V → Hp → VK → Prop) (f : List D → R D) : Prop := ∀ G H vs ds, SOk C G H → RepL C.K C.w C.ad G vs ds → ∀ E Q, Out C (rV C) E G H Q (f ds) → r vs H Q
theorem ce_F {r : List V → Hp → VK → Prop} {f : List D → R D} {ta : TA} {a : SA} (h : CallD C r f) (ha : CA C xo W ta a) : CE C xo W (tCB r ta) (eF f a) := fun σ G H env ft Q o =>
  ha σ G H env ft _ (Out.bind o fun ds vs G1 H1 _ s1 r1 o1 => h G1 H1 vs ds s1.gh r1 _ _ o1)
theorem CallRor {X : Cx} {f : Value} {r r' : List V → Hp → VK → Prop} (h : CallR X f r) (h' : CallR X f r') : CallR X f (fun xs H Q => r xs H Q ∨ r' xs H Q) := by
  intro pins s σ H xs us Q I rx q
  rcases q with q | q
  · exact h pins s σ H xs us Q I rx q
  · exact h' pins s σ H xs us Q I rx q
def rLenX (K : PySem.W.Frag) : List V → Hp → VK → Prop := fun xs H Q => rLenS1 xs H Q ∨ rLenS K xs H Q
theorem cr_len {X : Cx} : CallR X (.builtin "len") (rLenX X.K) := CallRor (r := rLenS1) call_len_str (r' := rLenS X.K) call_len_seq
theorem cd_len : CallD C (rLenX C.K) fLen := by
  intro G H vs ds e r E Q o
  cases r with
  | nil => exact False.elim o
  | cons h r =>
    cases r with
    | cons h2 r => cases h <;> exact False.elim o
    | nil =>
      cases h with
      | str z =>
        obtain ⟨hz, o⟩ := out_ifE (d := .int z.length) o
        exact Or.inl ⟨z, rfl, sz_of hz, o _ G H (Step.refl e) (.int _)⟩
      | @mref n a hm =>
        obtain ⟨xs, hs, o⟩ := onL_out o
        obtain ⟨_, vs, hH, r⟩ := e.at hm hs
        refine Or.inr ⟨a, vs, rfl, Or.inl (sq_of hH), ?_⟩
        rw [r.length]
        exact o _ G H (Step.refl e) (.int _)
      | @lst a vs ds h r =>
        refine Or.inr ⟨a, vs, rfl, Or.inl (sq_of (e.e _ _ h)), ?_⟩
        rw [r.length]
        exact o _ G H (Step.refl e) (.int _)
      | @scr a vs ds h r =>
        refine Or.inr ⟨a, vs, rfl, Or.inl (ex_l e.e h), ?_⟩
        rw [r.length]
        exact o _ G H (Step.refl e) (.int _)
      | @tup a vs ds h r =>
        refine Or.inr ⟨a, vs, rfl, Or.inr (ex_t e.e h), ?_⟩
        rw [r.length]
        exact o _ G H (Step.refl e) (.int _)
      | @ktp a vs ds h _ r =>
        refine Or.inr ⟨a, vs, rfl, Or.inr (ex_t e.e h), ?_⟩
        rw [r.length]
        exact o _ G H (Step.refl e) (.int _)
      | _ => exact False.elim o
theorem cd_int : CallD C rInt1 fInt := by
  intro G H vs ds e r E Q o
  cases r with
  | nil => exact False.elim o
  | cons h r =>
    cases r with
    | cons h2 r => cases h <;> exact False.elim o
    | nil =>
      cases h with
      | int i => exact Or.inl ⟨i, rfl, o _ G H (Step.refl e) (.int _)⟩
      | bl i => exact Or.inr ⟨i, rfl, o _ G H (Step.refl e) (.int _)⟩
      | _ => exact False.elim o
theorem cd_str : CallD C rStrI fStr := by
  intro G H vs ds e r E Q o
  cases r with
  | nil => exact False.elim o
  | cons h r =>
    cases r with
    | cons h2 r => cases h <;> exact False.elim o
    | nil =>
      cases h with
      | int i =>
        obtain ⟨hz, o⟩ := out_ifE (p := i.natAbs.log2 < 1920) o
        exact ⟨i, rfl, hz, o _ G H (Step.refl e) (.str _)⟩
      | _ => exact False.elim o
theorem cd_abs : CallD C rAbs1 fAbs := by
  intro G H vs ds e r E Q o
  cases r with
  | nil => exact False.elim o
  | cons h r =>
    cases r with
    | cons h2 r => cases h <;> exact False.elim o
    | nil =>
      cases h with
      | int i => exact ⟨i, rfl, o _ G H (Step.refl e) (.int _)⟩
      | _ => exact False.elim o
theorem cd_min2 : CallD C rMin2 fMin2 := by
  intro G H vs ds e r E Q o
  cases r with
  | nil => exact False.elim o
  | cons h r =>
    cases r with
    | nil => cases h <;> exact False.elim o
    | cons h2 r =>
      cases r with
      | cons _ _ => cases h <;> cases h2 <;> exact False.elim o
      | nil =>
        cases h with
        | int i => cases h2 with
          | int j => exact ⟨i, j, rfl, o _ G H (Step.refl e) (.int _)⟩
          | _ => exact False.elim o
        | _ => cases h2 <;> exact False.elim o
theorem cd_max2 : CallD C rMax2 fMax2 := by
  intro G H vs ds e r E Q o
  cases r with
  | nil => exact False.elim o
  | cons h r =>
    cases r with
    | nil => cases h <;> exact False.elim o
    | cons h2 r =>
      cases r with
      | cons _ _ => cases h <;> cases h2 <;> exact False.elim o
      | nil =>
        cases h with
        | int i => cases h2 with
          | int j => exact ⟨i, j, rfl, o _ G H (Step.refl e) (.int _)⟩
          | _ => exact False.elim o
        | _ => cases h2 <;> exact False.elim o
theorem cd_ord : CallD C (fun xs H Q => ∃ x, xs = [.str x] ∧ x.length = 1 ∧ Q (.int (x.cps.getD 0 0 : Nat)) H) fOrd := by
  intro G H vs ds e r E Q o
  cases r with
  | nil => exact False.elim o
  | cons h r =>
    cases r with
    | cons h2 r => cases h <;> exact False.elim o
    | nil =>
      cases h with
      | str x =>
        obtain ⟨hz, o⟩ := out_ifE (p := x.length = 1) o
        exact ⟨x, rfl, hz, o _ G H (Step.refl e) (.int _)⟩
      | _ => exact False.elim o
theorem cd_sum : CallD C (rSum C.K) fSum := by
  intro G H vs ds e r E Q o
  cases r with
  | nil => exact False.elim o
  | cons h r =>
    cases r with
    | cons h2 r => cases h <;> exact False.elim o
    | nil =>
      cases h with
      | @lst a vs ds h r =>
        have o2 : Out C (rV C) E G H Q (match intsOf ds with | some ns => .ok (.int ns.sum) | none => .bad) := o
        cases c : intsOf ds with
        | none => rw [c] at o2; exact o2.elim
        | some ns =>
          rw [c] at o2
          have z := r.ints c
          subst z
          exact ⟨a, ns, rfl, sq_of (e.e _ _ h), o2 _ G H (Step.refl e) (.int _)⟩
      | @scr a vs ds h r =>
        have o2 : Out C (rV C) E G H Q (match intsOf ds with | some ns => .ok (.int ns.sum) | none => .bad) := o
        cases c : intsOf ds with
        | none => rw [c] at o2; exact o2.elim
        | some ns =>
          rw [c] at o2
          have z := r.ints c
          subst z
          exact ⟨a, ns, rfl, ex_l e.e h, o2 _ G H (Step.refl e) (.int _)⟩
      | _ => exact False.elim o
theorem cd_tuple : CallD C (rTupS C.K) fTuple := by
  intro G H vs ds e r E Q o
  cases r with
  | nil => exact False.elim o
  | cons h r =>
    cases r with
    | cons h2 r => cases h <;> exact False.elim o
    | nil =>
      cases h with
      | @lst a vs ds h r => exact ⟨a, vs, rfl, Or.inl ⟨sq_of (e.e _ _ h), fun p hp => o _ _ _ (Step.new e hp) (.tup (st_of upd_same) (r.mono (ExG.new (fresh_back e.e hp))))⟩⟩
      | @scr a vs ds h r => exact ⟨a, vs, rfl, Or.inl ⟨ex_l e.e h, fun p hp => o _ _ _ (Step.new e hp) (.tup (st_of upd_same) (r.mono (ExG.new (fresh_back e.e hp))))⟩⟩
      | @tup a vs ds h r => exact ⟨a, vs, rfl, Or.inr ⟨ex_t e.e h, o _ G H (Step.refl e) (.tup h r)⟩⟩
      | _ => exact False.elim o
/-! isinstance -/
def tyN : Ty → String
  | .int => "int" | .bool => "bool" | .str => "str" | .list => "list" | .tuple => "tuple" | .dict => "dict"
theorem ty_rd {K : PySem.W.Frag} {a : Addr} {vs : List V} (h : SqL K H a vs) : TyX K H (.ref a) (.type "list") := by
  rcases h with (h | ⟨o, h⟩) | ⟨o, its, n, h1, h2, _⟩
  · exact .base (.lst h)
  · exact .base (.frz h)
  · exact .kList h1 h2
theorem ty_rt {K : PySem.W.Frag} {a : Addr} {vs : List V} (h : SqT K H a vs) : TyX K H (.ref a) (.type "tuple") := by
  rcases h with (h | ⟨o, h⟩) | ⟨o, its, n, h1, h2, _⟩
  · exact .base (.tup h)
  · exact .fTuple h
  · exact .kTuple h1 h2
theorem ce_isi {ta : TE} {a : SE} (t : Ty) (ha : CE C xo W ta a) : CE C xo W (tCB (rIsi C.K) (tCons ta (tCons (tC (.ty (tyN t))) tNil))) (eU (dIsi t) a) := fun σ G H env ft Q o =>
  ha σ G H env ft _ (Out.bind o fun d v G1 H1 _ s r o1 => by
    have e := s.gh
    cases r with
    | non => exact ⟨_, _, _, _, isTy t .non, rfl, .ty _, .base .non, kit_ty (by cases t <;> first | (show kitB _ _ = some true; decide +kernel) | (show kitB _ _ = some false; decide +kernel)), o1 _ G1 H1 (Step.refl e) (.bl _)⟩
    | bl b => exact ⟨_, _, _, _, isTy t (.bl b), rfl, .ty _, .base (.bl b), kit_ty (by cases t <;> first | (show kitB _ _ = some true; decide +kernel) | (show kitB _ _ = some false; decide +kernel)), o1 _ G1 H1 (Step.refl e) (.bl _)⟩
    | int b => exact ⟨_, _, _, _, isTy t (.int b), rfl, .ty _, .base (.int b), kit_ty (by cases t <;> first | (show kitB _ _ = some true; decide +kernel) | (show kitB _ _ = some false; decide +kernel)), o1 _ G1 H1 (Step.refl e) (.bl _)⟩
    | str b => exact ⟨_, _, _, _, isTy t (.str b), rfl, .ty _, .base (.str b), kit_ty (by cases t <;> first | (show kitB _ _ = some true; decide +kernel) | (show kitB _ _ = some false; decide +kernel)), o1 _ G1 H1 (Step.refl e) (.bl _)⟩
    | @lst a vs ds h r => exact ⟨_, _, _, _, isTy t (.lst ds), rfl, .ty _, .base (.lst (e.e _ _ h)), kit_ty (by cases t <;> first | (show kitB _ _ = some true; decide +kernel) | (show kitB _ _ = some false; decide +kernel)), o1 _ G1 H1 (Step.refl e) (.bl _)⟩
    | @scr a vs ds h r => exact ⟨_, _, _, _, isTy t (.scr ds), rfl, .ty _, ty_rd (ex_l e.e h), kit_ty (by cases t <;> first | (show kitB _ _ = some true; decide +kernel) | (show kitB _ _ = some false; decide +kernel)), o1 _ G1 H1 (Step.refl e) (.bl _)⟩
    | @tup a vs ds h r => exact ⟨_, _, _, _, isTy t (.tup ds), rfl, .ty _, ty_rt (ex_t e.e h), kit_ty (by cases t <;> first | (show kitB _ _ = some true; decide +kernel) | (show kitB _ _ = some false; decide +kernel)), o1 _ G1 H1 (Step.refl e) (.bl _)⟩
    | @ktp a vs ds h _ r => exact ⟨_, _, _, _, isTy t (.ktp ds), rfl, .ty _, ty_rt (ex_t e.e h), kit_ty (by cases t <;> first | (show kitB _ _ = some true; decide +kernel) | (show kitB _ _ = some false; decide +kernel)), o1 _ G1 H1 (Step.refl e) (.bl _)⟩
    | fn n => exact False.elim o1
    | mref h => exact False.elim o1
    | @dct a ks vs ds hl hs r =>
      obtain ⟨es, n, hk, _⟩ := hs.ex
      exact ⟨_, _, _, _, isTy t (.dct ks ds), rfl, .ty _, .kDict hk rfl, kit_ty (by cases t <;> first | (show kitB _ _ = some true; decide +kernel) | (show kitB _ _ = some false; decide +kernel)), o1 _ G1 H1 (Step.refl e) (.bl _)⟩)
/-! new lists -/
theorem cn_lst {ta : TA} {a : SA} (h : CA C xo W ta a) : CN C xo W (tLst ta) (lD a) := fun σ G H env f Q o =>
  h σ G H env f _ (Out.bind o fun ds vs G1 H1 _ s1 r1 o1 => by
    obtain ⟨hz, o1⟩ := out_if o1
    exact ⟨sz_of (by rw [r1.length]; exact hz), fun p hp => o1 _ G1 _ (Step.ofH s1.gh (Ex.new hp)) ⟨⟨p, vs, rfl, fresh_back s1.gh.e hp, s1.gh.fresh hp, upd_same, r1⟩, fun q hq => by cases hq; exact s1.fresh hp⟩⟩)
theorem cn_list {ta : TA} {a : SA} (h : CA C xo W ta a) : CN C xo W (tCB (rListS C.K) ta) (lF fList a) := fun σ G H env f Q o =>
  h σ G H env f _ (Out.bind o fun ds vs G1 H1 _ s1 r1 o1 => by
    have e := s1.gh
    cases r1 with
    | nil => exact False.elim o1
    | cons h r =>
      cases r with
      | cons h2 r => cases h <;> exact False.elim o1
      | nil =>
        cases h with
        | @lst a vs ds h r => exact ⟨a, vs, rfl, Or.inl (sq_of (e.e _ _ h)), fun p hp => o1 _ G1 _ (Step.ofH e (Ex.new hp)) ⟨⟨p, vs, rfl, fresh_back e.e hp, e.fresh hp, upd_same, r⟩, fun q hq => by cases hq; exact s1.fresh hp⟩⟩
        | @scr a vs ds h r => exact ⟨a, vs, rfl, Or.inl (ex_l e.e h), fun p hp => o1 _ G1 _ (Step.ofH e (Ex.new hp)) ⟨⟨p, vs, rfl, fresh_back e.e hp, e.fresh hp, upd_same, r⟩, fun q hq => by cases hq; exact s1.fresh hp⟩⟩
        | @tup a vs ds h r => exact ⟨a, vs, rfl, Or.inr (ex_t e.e h), fun p hp => o1 _ G1 _ (Step.ofH e (Ex.new hp)) ⟨⟨p, vs, rfl, fresh_back e.e hp, e.fresh hp, upd_same, r⟩, fun q hq => by cases hq; exact s1.fresh hp⟩⟩
        | _ => exact False.elim o1)
theorem cn_cat {ta tb : TE} {a b : SE} (ha : CE C xo W ta a) (hb : CE C xo W tb b) : CN C xo W (tOp rCat ta tb) (lCat a b) := fun σ G H env f Q o =>
  ha σ G H env f _ (Out.bind o fun d v G1 H1 _ s1 r1 o1 => hb σ G1 H1 env (f.step s1) _ (Out.bind o1 fun d2 v2 G2 H2 _ s2 r2 o2 => by
    have r3 := r1.mono s2.g
    have e := s2.gh
    cases r3 with
    | @lst a vs ds h r4 => cases r2 with
      | @lst b ws es h2 r2 =>
        obtain ⟨hz, o2⟩ := out_if (p := ds.length + es.length ≤ Z) o2
        exact ⟨a, b, vs, ws, rfl, rfl, e.e _ _ h, e.e _ _ h2, sz_of (by rw [r4.length, r2.length]; exact hz), fun p hp => o2 _ G2 _ (Step.ofH e (Ex.new hp)) ⟨⟨p, _, rfl, fresh_back e.e hp, e.fresh hp, upd_same, r4.append r2⟩, fun q hq => by cases hq; exact (s1.trans s2).fresh hp⟩⟩
      | _ => exact False.elim o2
    | _ => cases r2 <;> exact False.elim o2))
theorem cn_rep {ta tb : TE} {a b : SE} (ha : CE C xo W ta a) (hb : CE C xo W tb b) : CN C xo W (tOp rRep ta tb) (lRep a b) := fun σ G H env f Q o =>
  ha σ G H env f _ (Out.bind o fun d v G1 H1 _ s1 r1 o1 => hb σ G1 H1 env (f.step s1) _ (Out.bind o1 fun d2 v2 G2 H2 _ s2 r2 o2 => by
    have r3 := r1.mono s2.g
    have e := s2.gh
    cases r3 with
    | @lst a vs ds h r4 => cases r2 with
      | int k =>
        obtain ⟨hz, o2⟩ := out_if (p := ds.length * k.toNat ≤ Z ∧ -(2 ^ 63) ≤ k ∧ k < 2 ^ 63) o2
        exact ⟨a, k, vs, rfl, rfl, e.e _ _ h, hz.2.1, hz.2.2, sz_of (by rw [r4.length]; exact hz.1), fun p hp => o2 _ G2 _ (Step.ofH e (Ex.new hp)) ⟨⟨p, _, rfl, fresh_back e.e hp, e.fresh hp, upd_same, r4.rep _⟩, fun q hq => by cases hq; exact (s1.trans s2).fresh hp⟩⟩
      | _ => exact False.elim o2
    | _ => cases r2 <;> exact False.elim o2))
theorem cn_sl {te : TE} {tl th : TO} {f : SE} {lo hi : Env → R (Option Int)} (h : CE C xo W te f) (h1 : CO C xo W tl lo) (h2 : CO C xo W th hi) : CN C xo W (tSl (rSlL C.K) te tl th) (lSl f lo hi) := fun σ G H env ft Q o =>
  h σ G H env ft _ (Out.bind o fun d v G1 H1 _ s1 r1 o1 => h1 σ G1 H1 env (ft.step s1) _ (Out.bind o1 fun l l' G2 H2 _ s2 r2 o2 => h2 σ G2 H2 env ((ft.step s1).step s2) _ (Out.bind o2 fun u u' G3 H3 _ s3 r3 o3 => by
    subst r2 r3
    have r := r1.mono (s2.g.trans s3.g)
    have e := s3.gh
    have hh := (s1.trans s2).trans s3
    cases r with
    | @lst a vs ds h r => exact ⟨a, vs, rfl, sq_of (e.e _ _ h), fun p hp => o3 _ G3 _ (Step.ofH e (Ex.new hp)) ⟨⟨p, _, rfl, fresh_back e.e hp, e.fresh hp, upd_same, r.cut _ _⟩, fun q hq => by cases hq; exact hh.fresh hp⟩⟩
    | @scr a vs ds h r => exact ⟨a, vs, rfl, ex_l e.e h, fun p hp => o3 _ G3 _ (Step.ofH e (Ex.new hp)) ⟨⟨p, _, rfl, fresh_back e.e hp, e.fresh hp, upd_same, r.cut _ _⟩, fun q hq => by cases hq; exact hh.fresh hp⟩⟩
    | _ => exact False.elim o3)))
theorem cn_rev {te : TE} {f : SE} (h : CE C xo W te f) : CN C xo W (tRevL C.K te) (lRev f) := fun σ G H env ft Q o =>
  h σ G H env ft _ (Out.bind o fun d v G1 H1 _ s r o1 => by
    have e := s.gh
    cases r with
    | @lst a vs ds h r => exact ⟨a, vs, rfl, sq_of (e.e _ _ h), fun p hp => o1 _ G1 _ (Step.ofH e (Ex.new hp)) ⟨⟨p, _, rfl, fresh_back e.e hp, e.fresh hp, upd_same, r.reverse⟩, fun q hq => by cases hq; exact s.fresh hp⟩⟩
    | @scr a vs ds h r => exact ⟨a, vs, rfl, ex_l e.e h, fun p hp => o1 _ G1 _ (Step.ofH e (Ex.new hp)) ⟨⟨p, _, rfl, fresh_back e.e hp, e.fresh hp, upd_same, r.reverse⟩, fun q hq => by cases hq; exact s.fresh hp⟩⟩
    | _ => exact False.elim o1)
/-- a new list is a value -/
theorem ce_L {te : TE} {f : SA} (h : CN C xo W te f) : CE C xo W te (eL f) := fun σ G H env ft Q o => by
  refine h σ G H env ft Q ?_
  unfold eL Out R.bind at o
  unfold Out
  cases c : f env G.s with
  | bad => rw [c] at o; exact o
  | exc k fs t => rw [c] at o; exact o
  | ok ds t =>
    rw [c] at o
    intro v G' H' s q
    obtain ⟨⟨p, vs, rfl, h1, hm, h2, h3⟩, h4⟩ := q
    exact o (.ref p) _ H' (s.take h1 hm h2 (h4 p rfl)) (.lst upd_same (h3.mono (ExG.new h1)))
end
end Dm
set_option Elab.async false
set_option linter.all false
set_option maxRecDepth 100000
set_option maxHeartbeats 4000000
namespace Dm
open PySem L2 Evl RZ Wm
section
variable {C : Cc} {xo : Xo} {W : WX} {G G' : Gd} {H H' : Hp} {σ : L2.St} {env : Env} {E : XK}
/-! methods -/
theorem ty_V {K : PySem.W.Frag} {w : World} {ad : Nat → Addr} {M : List Addr} {v : V} {d : D} {t : Ty} (r : Rp K w ad H M v d) (h : isTy t d = true) (ht : t = .str ∨ t = .list ∨ (t = .tuple ∧ ∃ xs, d = .ktp xs)) : tyV K (tyN t) v H := by
  rcases ht with rfl | rfl | ⟨rfl, xs, rfl⟩
  · cases r <;> first | rfl | cases h
  · cases r with
    | lst h1 _ => exact Or.inl ⟨rfl, _, sq_of h1⟩
    | scr h1 _ => exact Or.inl ⟨rfl, _, h1⟩
    | _ => cases h
  · cases r with
    | ktp _ k _ => exact Or.inr (Or.inl ⟨rfl, k⟩)
def MetD (C : Cc) (r : V → List V → Hp → VK → Prop) (f : D → List D → R D) : Prop := ∀ G H x vs dx ds, SOk C G H → Rep C.K C.w C.ad G x dx → RepL C.K C.w C.ad G vs ds → ∀ E Q, Out C (rV C) E G H Q (f dx ds) → r x vs H Q
theorem ce_M {r : V → List V → Hp → VK → Prop} {f : D → List D → R D} {t : Ty} {to : TE} {ta : TA} {o : SE} {a : SA} (h : MetD C r f) (ht : t = .str ∨ t = .list) (ho : CE C xo W to o) (ha : CA C xo W ta a) : CE C xo W (tBM C.K (tyN t) r to ta) (eM t f o a) := fun σ G H env ft Q q =>
  ho σ G H env ft _ (Out.bind q fun d v G1 H1 _ s1 r1 o1 => by
    obtain ⟨hz, o1⟩ := out_if o1
    exact ⟨ty_V (Rp.mono0 s1.gh.e (fun _ _ h => h) r1) hz (ht.imp id Or.inl), ha σ G1 H1 env (ft.step s1) _ (Out.bind o1 fun ds vs G2 H2 _ s2 r2 o2 => h G2 H2 v vs d ds s2.gh (r1.mono s2.g) r2 _ _ o2)⟩)
theorem ce_M0 {r : V → List V → Hp → VK → Prop} {f : D → List D → R D} {t : Ty} {to : TE} {o : SE} (h : MetD C r f) (ht : t = .str ∨ t = .list) (ho : CE C xo W to o) : CE C xo W (tBM0 C.K (tyN t) r to) (eM t f o eNil) := fun σ G H env ft Q q =>
  ho σ G H env ft _ (Out.bind q fun d v G1 H1 _ s1 r1 o1 => by
    obtain ⟨hz, o1⟩ := out_if o1
    exact ⟨ty_V (Rp.mono0 s1.gh.e (fun _ _ h => h) r1) hz (ht.imp id Or.inl), h G1 H1 v [] d [] s1.gh r1 .nil (WE W σ) _ o1⟩)
local macro_rules | `(tactic| walk_at "strmet") => `(tactic| (
  intro G H x vs dx ds e rx r E Q o
  cases rx with
  | str a =>
    cases r with
    | nil => exact False.elim o
    | cons h r =>
      cases r with
      | cons h2 r => cases h <;> exact False.elim o
      | nil =>
        cases h with
        | str b => exact ⟨a, b, rfl, rfl, o _ G H (Step.refl e) (by constructor)⟩
        | _ => exact False.elim o
  | _ => exact False.elim o))
theorem md_find : MetD C (fun x xs H Q => ∃ a b, x = .str a ∧ xs = [.str b] ∧ Q (.int (Txt.find a b)) H) mFind := by walk_at "strmet"
theorem md_rfind : MetD C (fun x xs H Q => ∃ a b, x = .str a ∧ xs = [.str b] ∧ Q (.int (Txt.rfind a b)) H) mRfind := by walk_at "strmet"
theorem md_count : MetD C (fun x xs H Q => ∃ a b, x = .str a ∧ xs = [.str b] ∧ Q (.int (Txt.count a b)) H) mCount := by walk_at "strmet"
theorem md_starts : MetD C (fun x xs H Q => ∃ a b, x = .str a ∧ xs = [.str b] ∧ Q (.bl (Txt.startswith a b)) H) mStarts := by walk_at "strmet"
theorem md_lower : MetD C (fun x xs H Q => ∃ a, x = .str a ∧ xs = [] ∧ a.length ≤ 5592405 ∧ Q (.str (Txt.lower a)) H) mLower := by
  intro G H x vs dx ds e rx r E Q o
  cases rx with
  | str a =>
    cases r with
    | nil =>
      obtain ⟨hz, o⟩ := out_ifE (p := a.length ≤ Z) o
      exact ⟨a, rfl, rfl, Nat.le_trans hz (by decide), o _ G H (Step.refl e) (.str _)⟩
    | cons h r => exact False.elim o
  | _ => exact False.elim o
def rJoin (K : PySem.W.Frag) : V → List V → Hp → VK → Prop := fun x xs H Q => ∃ a p, ∃ ys : List Str, x = .str a ∧ xs = [.ref p] ∧ (SqL K H p (ys.map V.str) ∨ SqT K H p (ys.map V.str)) ∧
    (ys.map (·.length)).sum + ys.length * a.length ≤ 16777216 ∧ Q (.str (Txt.join a ys)) H
theorem md_join : MetD C (rJoin C.K) mJoin := by
  intro G H x vs dx ds e rx r E Q o
  cases rx with
  | str a =>
    cases r with
    | nil => exact False.elim o
    | cons h r =>
      cases r with
      | cons h2 r => cases h <;> exact False.elim o
      | nil =>
        have fin : ∀ {p : Addr} {vs : List V} {xs : List D}, (SqL C.K H p vs ∨ SqT C.K H p vs) → RepL C.K C.w C.ad G vs xs → Out C (rV C) E G H Q (match strsOf xs with
            | some ys => if (ys.map (·.length)).sum + ys.length * a.length ≤ 16777216 then .ok (.str (Txt.join a ys)) else .bad
            | none => .bad) → rJoin C.K (.str a) [.ref p] H Q := fun {p vs xs} hs r o2 => by
          cases c : strsOf xs with
          | none => rw [c] at o2; exact o2.elim
          | some ys =>
            rw [c] at o2
            have z := r.strs c
            subst z
            obtain ⟨hz, o2⟩ := out_ifE (p := (ys.map (·.length)).sum + ys.length * a.length ≤ 16777216) o2
            exact ⟨a, p, ys, rfl, rfl, hs, hz, o2 _ G H (Step.refl e) (.str _)⟩
        cases h with
        | lst h1 r1 => exact fin (Or.inl (sq_of (e.e _ _ h1))) r1 o
        | scr h1 r1 => exact fin (Or.inl (ex_l e.e h1)) r1 o
        | tup h1 r1 => exact fin (Or.inr (ex_t e.e h1)) r1 o
        | _ => exact False.elim o
  | _ => exact False.elim o
/-- names.index(z), names a tuple of the module -/
def rTIx (K : PySem.W.Frag) : V → List V → Hp → VK → Prop := fun x xs H Q => ∃ p, ∃ ys : List Str, ∃ z j, x = .ref p ∧ xs = [.str z] ∧ SqT K H p (ys.map V.str) ∧ ys[j]? = some z ∧ (∀ m, m < j → ys[m]? ≠ some z) ∧ Q (.int (j : Nat)) H
theorem idx_at : ∀ {ys : List Str} {z : Str}, z ∈ ys → ys[ys.idxOf z]? = some z ∧ ∀ m, m < ys.idxOf z → ys[m]? ≠ some z := by
  intro ys z h
  have hl := List.idxOf_lt_length_of_mem h
  refine ⟨?_, fun m hm q => ?_⟩
  · rw [List.getElem?_eq_getElem hl]
    exact congrArg some (List.getElem_idxOf hl)
  · have hm2 : m < ys.length := Nat.lt_trans hm hl
    rw [List.getElem?_eq_getElem hm2] at q
    have e := Option.some.inj q
    have := List.not_of_lt_findIdx (p := (· == z)) (xs := ys) hm
    rw [e, beq_self_eq_true] at this
    cases this
theorem ce_tix {to : TE} {ta : TA} {o : SE} {a : SA} (ho : CE C xo W to o) (ha : CA C xo W ta a) : CE C xo W (tBM C.K "tuple" (rTIx C.K) to ta) (eTIx o a) := fun σ G H env ft Q q =>
  ho σ G H env ft _ (Out.bind q fun d v G1 H1 _ s1 r1 o1 => by
    cases r1 with
    | @ktp p vs xs h1 k r1 =>
      refine ⟨Or.inr (Or.inl ⟨rfl, k⟩), ha σ G1 H1 env (ft.step s1) _ (Out.bind o1 fun ds ws G2 H2 _ s2 r2 o2 => ?_)⟩
      cases r2 with
      | nil => exact False.elim o2
      | cons h r =>
        cases r with
        | cons _ _ => cases h <;> exact False.elim o2
        | nil =>
          cases h with
          | str z =>
            have o3 : Out C (rV C) (WE W σ) G2 H2 Q (match strsOf xs with
              | some ys => if z ∈ ys then .ok (.int (ys.idxOf z : Nat)) else .bad
              | none => .bad) := o2
            cases c : strsOf xs with
            | none => rw [c] at o3; exact o3.elim
            | some ys =>
              rw [c] at o3
              obtain ⟨hz, o3⟩ := out_ifE (p := z ∈ ys) o3
              have q := r1.strs c
              subst q
              have i := idx_at hz
              exact ⟨p, ys, z, _, rfl, rfl, ex_t (s2.g.g.trans s2.gh.e) h1, i.1, i.2, o3 _ G2 H2 (Step.refl s2.gh) (.int _)⟩
          | _ => exact False.elim o2
    | _ => exact False.elim o1)
/-! calls of defs -/
def SpD (C : Cc) (m : List D → R D) : Sp := fun vs H Q E => ∃ G ds, SOk C G H ∧ RepL C.K C.w C.ad G vs ds ∧ Out C (rV C) E G H Q (m ds)
abbrev rF (C : Cc) (H : Hp) : Gd → Hp → V → List D → Prop := fun G' H' v ds => rN C G' H' v ds ∧ ∀ p, v = .ref p → H p = none
def SpL (C : Cc) (m : List D → R (List D)) : Sp := fun vs H Q E => ∃ G ds, SOk C G H ∧ RepL C.K C.w C.ad G vs ds ∧ Out C (rF C H) E G H Q (m ds)
theorem ce_call {m : List D → R D} {t : TA} {a : SA} (ha : CA C xo W t a) : CE C xo W (tCallS (SpD C m) (WE W) t) (eF m a) := fun σ G H env ft Q o =>
  ha σ G H env ft _ (Out.bind o fun ds vs G1 H1 _ s r o1 => ⟨G1, ds, s.gh, r, o1⟩)
theorem cn_call {m : List D → R (List D)} {t : TA} {a : SA} (ha : CA C xo W t a) : CN C xo W (tCallS (SpL C m) (WE W) t) (lF m a) := fun σ G H env ft Q o =>
  ha σ G H env ft _ (Out.bind o fun ds vs G1 H1 _ s r o1 => ⟨G1, ds, s.gh, r, by
    unfold Out at o1 ⊢
    cases c : m ds G1.s with
    | bad => rw [c] at o1; exact o1
    | exc k fs t => rw [c] at o1; exact o1
    | ok xs t =>
      rw [c] at o1
      intro v G2 H2 s2 q
      exact o1 v G2 H2 s2 ⟨q.1, fun p hp => s.fresh (q.2 p hp)⟩⟩)
theorem ce_call0 {m : List D → R D} : CE C xo W (tCall (SpD C m) [] E0 tNil) (fun _ => noX (m [])) := fun σ G H env ft Q o => ⟨G, [], ft.ok, .nil, by
  unfold Out noX at o
  unfold Out
  dsimp only at o
  cases c : m [] G.s with
  | bad => rw [c] at o; exact o
  | exc k fs t => rw [c] at o; exact False.elim o
  | ok xs t => rw [c] at o; exact fun v G2 H2 s2 q => o v G2 H2 s2 q⟩
theorem cn_call0 {m : List D → R (List D)} : CN C xo W (tCall (SpL C m) [] E0 tNil) (fun _ => noX (m [])) := fun σ G H env ft Q o => ⟨G, [], ft.ok, .nil, by
  unfold Out noX at o
  unfold Out
  dsimp only at o
  cases c : m [] G.s with
  | bad => rw [c] at o; exact o
  | exc k fs t => rw [c] at o; exact False.elim o
  | ok xs t => rw [c] at o; exact fun v G2 H2 s2 q => o v G2 H2 s2 q⟩
/-- a call of a local name that holds a def; what is raised goes by the def's own wish -/
def tCallRS (i : Nat) (S : Addr → Sp → Prop) (E : L2.St → XK) (t : TA) : TE := fun σ H Q => ∃ f sp, σ[i]? = some (some (.ref f)) ∧ S f sp ∧ t σ H fun vs H1 => sp vs H1 Q (E σ)
def STb (C : Cc) (tb : Nat → Option (List D → R D)) : Addr → Sp → Prop := fun f sp => ∃ n m, f = C.ad n ∧ tb n = some m ∧ sp = SpD C m
theorem ce_P {tb : Nat → Option (List D → R D)} {i : Nat} {t : TA} {a : SA} (ha : CA C xo W t a) : CE C xo W (tCallRS i (STb C tb) (WE W) t) (eP tb i a) := fun σ G H env ft Q o => by
  unfold eP at o
  cases c : env[i]? with
  | none => rw [c] at o; exact o.elim
  | some s =>
    rw [c] at o
    cases s with
    | val d =>
      cases d with
      | fn n =>
        dsimp only at o
        cases c2 : tb n with
        | none => rw [c2] at o; exact o.elim
        | some m =>
          rw [c2] at o
          obtain ⟨v, h1, h2⟩ := ft.val i _ c
          cases h2
          exact ⟨_, _, h1, ⟨n, m, rfl, c2, rfl⟩, ha σ G H env ft _ (Out.bind o fun ds vs G1 H1 _ s r o1 => ⟨G1, ds, s.gh, r, o1⟩)⟩
      | _ => exact o.elim
    | _ => exact o.elim
/-! ### what is walked -/
def Srv (C : Cc) (J : It) (G : Gd) (ds : List D) : Prop := ∃ (GP : Hp → Prop) (Y : Nat → Hp → V → Hp → Prop), Walk J ds.length GP Y ∧ (∀ H, Ex G.g H → GP H) ∧
  ∀ (i : Nat) H x H' G1, i < ds.length → ExG (G.put G1.s) G1 → SOk C G1 H → Y i H x H' → ∃ G' d, ds[i]? = some d ∧ Step C G1 H G' H' ∧ Rep C.K C.w C.ad G' x d
def CI (C : Cc) (xo : Xo) (W : WX) (wi : TI) (f : SA) : Prop := ∀ σ G H env, Fit C xo G H σ env → ∀ R : It → Hp → Prop, Out C (fun G' _ J ds => Srv C J G' ds) (WE W σ) G H R (f env) → wi σ H R
theorem srv_at {J : It} {vs : List V} {ds : List D} {GP : Hp → Prop} (w : Walk J vs.length GP (YAt vs)) (r : RepL C.K C.w C.ad G vs ds) (hg : ∀ H, Ex G.g H → GP H) : Srv C J G ds :=
  ⟨GP, YAt vs, by rw [← r.length]; exact w, hg, fun i H x H' G1 hi e1 e2 y => by
    obtain ⟨rfl, h⟩ := y
    obtain ⟨d, h1, h2⟩ := r.getV h
    exact ⟨G1, d, h1, Step.refl e2, h2.mono e1⟩⟩
theorem ci_list {te : TE} {f : SE} (h : CE C xo W te f) : CI C xo W (iList C.K te) (iD f) := fun σ G H env ft R o =>
  h σ G H env ft _ (Out.bind o fun d v G1 H1 _ s r o1 => by
    cases r with
    | @lst a vs ds h1 r => exact ⟨a, rfl, ⟨vs, sq_of (s.gh.e _ _ h1)⟩, o1 _ G1 H1 (Step.refl s.gh) (srv_at walk_list r fun H e => sq_of (e _ _ h1))⟩
    | @scr a vs ds h1 r => exact ⟨a, rfl, ⟨vs, ex_l s.gh.e h1⟩, o1 _ G1 H1 (Step.refl s.gh) (srv_at walk_list r fun H e => ex_l e h1)⟩
    | _ => exact False.elim o1)
theorem ci_tup {te : TE} {f : SE} (h : CE C xo W te f) : CI C xo W (iTup C.K te) (iT f) := fun σ G H env ft R o =>
  h σ G H env ft _ (Out.bind o fun d v G1 H1 _ s r o1 => by
    cases r with
    | @tup a vs ds h1 r => exact ⟨a, rfl, ⟨vs, ex_t s.gh.e h1⟩, o1 _ G1 H1 (Step.refl s.gh) (srv_at walk_tup r fun H e => ex_t e h1)⟩
    | @ktp a vs ds h1 _ r => exact ⟨a, rfl, ⟨vs, ex_t s.gh.e h1⟩, o1 _ G1 H1 (Step.refl s.gh) (srv_at walk_tup r fun H e => ex_t e h1)⟩
    | _ => exact False.elim o1)
theorem ci_str {te : TE} {f : SE} (h : CE C xo W te f) : CI C xo W (iStr te) (iS f) := fun σ G H env ft R o =>
  h σ G H env ft _ (Out.bind o fun d v G1 H1 _ s r o1 => by
    cases r with
    | str z =>
      refine ⟨z, rfl, o1 _ G1 H1 (Step.refl s.gh) ⟨_, _, by rw [List.length_map, Array.length_toList]; exact walk_str, fun _ _ => True.intro, fun i H x H' G1 hi e1 e2 y => ?_⟩⟩
      obtain ⟨rfl, c, h1, rfl⟩ := y
      refine ⟨G1, _, ?_, Step.refl e2, .str _⟩
      rw [List.getElem?_map, Array.getElem?_toList, h1]
      rfl
    | _ => exact False.elim o1)
theorem ci_r1 {ta : TA} {a : SA} (h : CA C xo W ta a) : CI C xo W (iRng1 ta) (iR1 a) := fun σ G H env ft R o =>
  h σ G H env ft _ (Out.bind o fun ds vs G1 H1 _ s r o1 => by
    cases r with
    | nil => exact False.elim o1
    | cons h r =>
      cases r with
      | cons _ _ => cases h <;> exact False.elim o1
      | nil =>
        cases h with
        | int n =>
          obtain ⟨hz, o1⟩ := out_if (p := n ≤ Z ∧ -Z ≤ n) o1
          have hz1 : n ≤ 100000 := hz.1
          have hz2 : -100000 ≤ n := hz.2
          refine ⟨n, rfl, by omega, by omega, o1 _ G1 H1 (Step.refl s.gh) ⟨_, _, by rw [List.length_map, List.length_range]; exact walk_range, fun _ _ => True.intro, fun i H x H' G1 hi e1 e2 y => ?_⟩⟩
          obtain ⟨rfl, rfl⟩ := y
          rw [List.length_map, List.length_range] at hi
          refine ⟨G1, _, ?_, Step.refl e2, .int _⟩
          rw [List.getElem?_map, List.getElem?_range hi, Int.zero_add]
          rfl
        | _ => exact False.elim o1)
theorem ci_r2 {ta : TA} {a : SA} (h : CA C xo W ta a) : CI C xo W (iRng2 ta) (iR2 a) := fun σ G H env ft R o =>
  h σ G H env ft _ (Out.bind o fun ds vs G1 H1 _ s r o1 => by
    cases r with
    | nil => exact False.elim o1
    | cons h r =>
      cases r with
      | nil => cases h <;> exact False.elim o1
      | cons h2 r =>
        cases r with
        | cons _ _ => cases h <;> cases h2 <;> exact False.elim o1
        | nil =>
          cases h with
          | int m => cases h2 with
            | int n =>
              obtain ⟨hz, o1⟩ := out_if (p := n ≤ Z ∧ -Z ≤ n ∧ m ≤ Z ∧ -Z ≤ m) o1
              have hz1 : n ≤ 100000 := hz.1
              have hz2 : -100000 ≤ n := hz.2.1
              have hz3 : m ≤ 100000 := hz.2.2.1
              have hz4 : -100000 ≤ m := hz.2.2.2
              refine ⟨m, n, rfl, by omega, o1 _ G1 H1 (Step.refl s.gh) ⟨_, _, by rw [List.length_map, List.length_range]; exact walk_range, fun _ _ => True.intro, fun i H x H' G1 hi e1 e2 y => ?_⟩⟩
              obtain ⟨rfl, rfl⟩ := y
              rw [List.length_map, List.length_range] at hi
              refine ⟨G1, _, ?_, Step.refl e2, .int _⟩
              rw [List.getElem?_map, List.getElem?_range hi]
              rfl
            | _ => exact False.elim o1
          | _ => cases h2 <;> exact False.elim o1)
theorem zipD_at : ∀ {xs ys : List D} {i : Nat} {x y : D}, xs[i]? = some x → ys[i]? = some y → (zipD xs ys)[i]? = some (.tup [x, y])
  | [], _, _, _, _, h, _ => by cases h
  | _ :: _, [], _, _, _, _, h => by cases h
  | x :: xs, y :: ys, 0, _, _, h, h2 => by cases h; cases h2; rfl
  | x :: xs, y :: ys, i + 1, _, _, h, h2 => zipD_at (xs := xs) (ys := ys) (i := i) h h2
theorem zipD_length : ∀ {xs ys : List D}, (zipD xs ys).length = min xs.length ys.length
  | [], ys => by unfold zipD; simp
  | _ :: _, [] => by unfold zipD; simp
  | x :: xs, y :: ys => by
    unfold zipD
    rw [List.length_cons, zipD_length, List.length_cons, List.length_cons]
    omega
/-- a new pair of what stands -/
theorem pair_step {T : Addr} {x y : V} {d e : D} {G1 : Gd} (ex : SOk C G1 H) (hT : H T = none) (rx : Rep C.K C.w C.ad G1 x d) (ry : Rep C.K C.w C.ad G1 y e) : ∃ G', Step C G1 H G' (upd H T (.tup [x, y])) ∧ Rep C.K C.w C.ad G' (.ref T) (.tup [d, e]) := by
  have hn := fresh_back ex.e hT
  exact ⟨_, Step.new ex hT, .tup (st_of upd_same) (.cons (rx.mono (ExG.new hn)) (.cons (ry.mono (ExG.new hn)) .nil))⟩
theorem srv_pair {J : It} {vs ws : List V} {ds es : List D} {n : Nat} {GP : Hp → Prop} (w : Walk J n GP (YPair (fun i => vs[i]?) (fun i => ws[i]?))) (hn : n = min vs.length ws.length) (r : RepL C.K C.w C.ad G vs ds) (r2 : RepL C.K C.w C.ad G ws es) (hg : ∀ H, Ex G.g H → GP H) : Srv C J G (zipD ds es) :=
  ⟨GP, _, by rw [zipD_length, ← r.length, ← r2.length, ← hn]; exact w, hg, fun i H x H' G1 hi e1 e2 y => by
    obtain ⟨T, a, b, rfl, hT, rfl, h1, h2⟩ := y
    obtain ⟨d, q1, q2⟩ := r.getV h1
    obtain ⟨e, q3, q4⟩ := r2.getV h2
    obtain ⟨G', s, rr⟩ := pair_step e2 hT (q2.mono e1) (q4.mono e1)
    exact ⟨G', _, zipD_at q1 q3, s, rr⟩⟩
theorem ci_zipL {ta : TA} {a : SA} (h : CA C xo W ta a) : CI C xo W (iZip C.K ta) (iZL a) := fun σ G H env ft R o =>
  h σ G H env ft _ (Out.bind o fun ds vs G1 H1 _ s r o1 => by
    cases r with
    | nil => exact False.elim o1
    | cons h r =>
      cases r with
      | nil => cases h <;> exact False.elim o1
      | cons h2 r =>
        cases r with
        | cons _ _ => cases h <;> cases h2 <;> exact False.elim o1
        | nil =>
          cases h with
          | @lst a vs ds h1 r1 => cases h2 with
            | @lst b ws es h2 r2 =>
              exact ⟨a, b, vs, ws, rfl, sq_of (s.gh.e _ _ h1), sq_of (s.gh.e _ _ h2), o1 _ G1 H1 (Step.refl s.gh) (srv_pair (walk_zip rfl) rfl r1 r2 fun H e => ⟨sq_of (e _ _ h1), sq_of (e _ _ h2)⟩)⟩
            | _ => exact False.elim o1
          | _ => cases h2 <;> exact False.elim o1)
theorem walk_zipT {K : PySem.W.Frag} {a b : Addr} {xs ys : List V} {n : Nat} (hn : n = min xs.length ys.length) : Walk (ItzT K a b) n (fun H => SqT K H a xs ∧ SqT K H b ys) (YPair (fun i => xs[i]?) (fun i => ys[i]?)) := by
  subst hn
  refine ⟨fun i _ hi q => ?_, fun _ q => ⟨xs, ys, q.1, q.2, by omega⟩, fun i H v H' _ q y => ?_⟩
  · have h1 : i < xs.length := by omega
    have h2 : i < ys.length := by omega
    exact ⟨xs, ys, xs[i], ys[i], q.1, q.2, by simp [h1], by simp [h2]⟩
  · obtain ⟨T, x, z, h1, h2, h3, h4, h5⟩ := y
    exact ⟨T, x, z, h1, h2, h3, h4 xs q.1, h5 ys q.2⟩
theorem ci_zipT {ta : TA} {a : SA} (h : CA C xo W ta a) : CI C xo W (iZipA C.K ta) (iZT a) := fun σ G H env ft R o =>
  h σ G H env ft _ (Out.bind o fun ds vs G1 H1 _ s r o1 => by
    cases r with
    | nil => exact False.elim o1
    | cons h r =>
      cases r with
      | nil => cases h <;> exact False.elim o1
      | cons h2 r =>
        cases r with
        | cons _ _ => cases h <;> cases h2 <;> exact False.elim o1
        | nil =>
          cases h with
          | @tup a vs ds h1 r1 => cases h2 with
            | @tup b ws es h2 r2 =>
              exact ⟨a, b, vs, ws, rfl, Or.inr ⟨ex_t s.gh.e h1, ex_t s.gh.e h2, o1 _ G1 H1 (Step.refl s.gh) (srv_pair (walk_zipT rfl) rfl r1 r2 fun H e => ⟨ex_t e h1, ex_t e h2⟩)⟩⟩
            | _ => exact False.elim o1
          | _ => cases h2 <;> exact False.elim o1)
theorem enumD_at : ∀ {xs : List D} {i n : Nat} {x : D}, xs[i]? = some x → (enumD n xs)[i]? = some (.tup [.int ((n + i : Nat) : Int), x])
  | [], _, _, _, h => by cases h
  | x :: xs, 0, _, _, h => by cases h; rfl
  | x :: xs, i + 1, n, _, h => by
    have q := enumD_at (xs := xs) (i := i) (n := n + 1) h
    rw [show n + (i + 1) = n + 1 + i by omega]
    exact q
theorem enumD_length : ∀ {xs : List D} {n : Nat}, (enumD n xs).length = xs.length
  | [], _ => rfl
  | _ :: xs, n => congrArg (· + 1) (enumD_length (xs := xs) (n := n + 1))
theorem ci_enum {te : TE} {f : SE} (h : CE C xo W te f) : CI C xo W (iEnum C.K (tCons te tNil)) (iEn f) := fun σ G H env ft R o =>
  h σ G H env ft _ (Out.bind o fun d v G1 H1 _ s r o1 => by
    cases r with
    | @lst a vs ds h1 r =>
      refine ⟨a, vs, rfl, sq_of (s.gh.e _ _ h1), o1 _ G1 H1 (Step.refl s.gh) ⟨_, _, by rw [enumD_length, ← r.length]; exact walk_enum, fun H e => sq_of (e _ _ h1), fun i H x H' G1 hi e1 e2 y => ?_⟩⟩
      obtain ⟨T, p, q, rfl, hT, rfl, h1, h2⟩ := y
      obtain rfl : V.int (i : Nat) = p := Option.some.inj h1
      obtain ⟨d, q1, q2⟩ := r.getV h2
      obtain ⟨G', s, rr⟩ := pair_step (x := .int (i : Nat)) e2 hT (.int _) (q2.mono e1)
      refine ⟨G', _, enumD_at (n := 0) q1, s, ?_⟩
      rw [Nat.zero_add]
      exact rr
    | _ => exact False.elim o1)
end
end Dm
set_option Elab.async false
set_option linter.all false
set_option maxRecDepth 100000
set_option maxHeartbeats 4000000
namespace Dm
open PySem L2 Evl RZ Wm
section
variable {C : Cc} {xo : Xo} {W : WX} {G G' G0 : Gd} {H H' H0 : Hp} {σ : L2.St} {env : Env} {E : XK}
/-! ### environments that change -/
theorem get_set {α : Type} {l : List α} {i j : Nat} {a b : α} (h : (l.set j a)[i]? = some b) : (i = j ∧ j < l.length ∧ b = a) ∨ (i ≠ j ∧ l[i]? = some b) := by
  rw [List.getElem?_set] at h
  by_cases e : j = i
  · rw [if_pos e] at h
    split at h
    · cases h; exact Or.inl ⟨e.symm, by omega, rfl⟩
    · cases h
  · rw [if_neg e] at h
    exact Or.inr ⟨fun z => e z.symm, h⟩
theorem set_at {α : Type} {l : List α} {j : Nat} {a : α} (h : j < l.length) : (l.set j a)[j]? = some a := by rw [List.getElem?_set, if_pos rfl, if_pos h]
theorem set_off {α : Type} {l : List α} {i j : Nat} {a : α} (h : i ≠ j) : (l.set j a)[i]? = l[i]? := by rw [List.getElem?_set, if_neg fun z => h z.symm]
/-- slot j gets what says nothing of other slots -/
theorem Fit0.put {j : Nat} {s : Sl} {o : Option V} (f : Fit0 C xo G0 H0 G H σ env)
    (hv : ∀ d, s = .val d → ∃ v, o = some v ∧ Rep C.K C.w C.ad G v d) (ho : ∀ ds, s ≠ .own ds) (hx : ∀ c fs, s = .exn c fs → o = some (.ref xo.a) ∧ xo.cls = .ref (C.ad c) ∧ XRep C.K C.w C.ad G fs xo.d) : Fit0 C xo G0 H0 G H (σ.set j o) (env.set j s) where
  s := f.s
  f := {
    ok := f.f.ok
    len := by rw [List.length_set, List.length_set]; exact f.f.len
    val := fun i d h => by
      rcases get_set h with ⟨rfl, hl, rfl⟩ | ⟨hn, h⟩
      · obtain ⟨v, rfl, r⟩ := hv _ rfl
        exact ⟨v, set_at (by rw [f.f.len]; exact hl), r⟩
      · rw [set_off hn]
        exact f.f.val i d h
    own := fun i ds h => by
      rcases get_set h with ⟨rfl, hl, rfl⟩ | ⟨hn, h⟩
      · exact absurd rfl (ho ds)
      · rw [set_off hn]
        exact f.f.own i ds h
    om := fun i ds p h => by
      rcases get_set h with ⟨_, _, rfl⟩ | ⟨hn, h⟩
      · exact absurd rfl (ho ds)
      · rw [set_off hn]
        exact f.f.om i ds p h
    sep := fun i k p ds es h1 h2 => by
      rcases get_set h1 with ⟨_, _, rfl⟩ | ⟨hn, h1⟩
      · exact absurd rfl (ho ds)
      rcases get_set h2 with ⟨_, _, rfl⟩ | ⟨hn2, h2⟩
      · exact absurd rfl (ho es)
      rw [set_off hn, set_off hn2]
      exact f.f.sep i k p ds es h1 h2
    exn := fun i c fs h => by
      rcases get_set h with ⟨rfl, hl, rfl⟩ | ⟨hn, h⟩
      · obtain ⟨rfl, h1, h2⟩ := hx c fs rfl
        exact ⟨set_at (by rw [f.f.len]; exact hl), h1, h2⟩
      · rw [set_off hn]
        exact f.f.exn i c fs h }
  new := fun i ds p h => by
    rcases get_set h with ⟨_, _, rfl⟩ | ⟨hn, h⟩
    · exact absurd rfl (ho ds)
    · rw [set_off hn]
      exact f.new i ds p h
theorem Fit0.setV {j : Nat} {v : V} {d : D} (f : Fit0 C xo G0 H0 G H σ env) (r : Rep C.K C.w C.ad G v d) : Fit0 C xo G0 H0 G H (σ.set j (some v)) (env.set j (.val d)) :=
  f.put (fun e h => by cases h; exact ⟨v, rfl, r⟩) (fun _ => nofun) (fun _ _ => nofun)
theorem Fit0.setU {j : Nat} {o : Option V} (f : Fit0 C xo G0 H0 G H σ env) : Fit0 C xo G0 H0 G H (σ.set j o) (env.set j .un) :=
  f.put (fun _ => nofun) (fun _ => nofun) (fun _ _ => nofun)
/-- a list of one's own comes into slot j: new, or the one that was there, changed -/
theorem Fit0.setO {j : Nat} {p : Addr} {vs : List V} {ds : List D} (f : Fit0 C xo G0 H0 G H σ env) (hG : G.g p = none) (hm : p ∉ G.m) (h0 : H0 p = none) (hH : H p = some (.lst vs)) (r : RepL C.K C.w C.ad G vs ds)
    (hs : ∀ (i : Nat) es, i ≠ j → env[i]? = some (.own es) → σ[i]? ≠ some (some (.ref p))) : Fit0 C xo G0 H0 G H (σ.set j (some (.ref p))) (env.set j (.own ds)) where
  s := f.s
  f := {
    ok := f.f.ok
    len := by rw [List.length_set, List.length_set]; exact f.f.len
    val := fun i d h => by
      rcases get_set h with ⟨_, _, e⟩ | ⟨hn, h⟩
      · cases e
      · rw [set_off hn]
        exact f.f.val i d h
    own := fun i es h => by
      rcases get_set h with ⟨rfl, hl, e⟩ | ⟨hn, h⟩
      · cases e
        exact ⟨p, vs, set_at (by rw [f.f.len]; exact hl), hG, hH, r⟩
      · rw [set_off hn]
        exact f.f.own i es h
    om := fun i es q h => by
      rcases get_set h with ⟨rfl, hl, e⟩ | ⟨hn, h⟩
      · rw [set_at (by rw [f.f.len]; exact hl)]
        intro z
        cases z
        exact hm
      · rw [set_off hn]
        exact f.f.om i es q h
    sep := fun i k q es us h1 h2 => by
      rcases get_set h1 with ⟨hi, hl, e⟩ | ⟨hn, g1⟩
      · rcases get_set h2 with ⟨hk, _, e2⟩ | ⟨hn2, g2⟩
        · exact fun _ _ => hi.trans hk.symm
        · rw [hi, set_at (by rw [f.f.len]; exact hl), set_off hn2]
          intro a b
          cases a
          exact absurd b (hs k us hn2 g2)
      · rcases get_set h2 with ⟨hk, hl2, e2⟩ | ⟨hn2, g2⟩
        · rw [set_off hn, hk, set_at (by rw [f.f.len]; exact hl2)]
          intro a b
          cases b
          exact absurd a (hs i es hn g1)
        · rw [set_off hn, set_off hn2]
          exact f.f.sep i k q es us g1 g2
    exn := fun i c fs h => by
      rcases get_set h with ⟨_, _, e⟩ | ⟨hn, h⟩
      · cases e
      · rw [set_off hn]
        exact f.f.exn i c fs h }
  new := fun i es q h => by
    rcases get_set h with ⟨rfl, hl, e⟩ | ⟨hn, h⟩
    · rw [set_at (by rw [f.f.len]; exact hl)]
      intro z
      cases z
      exact h0
    · rw [set_off hn]
      exact f.new i es q h
theorem SOk.mut {p : Addr} {o : HO} (k : SOk C G H) (hG : G.g p = none) (hm : p ∉ G.m) : SOk C G (L2.upd H p o) := ⟨Ex.mut k.e hG, k.len, k.nd, fun n a c h1 h2 => by
  obtain ⟨q1, q2⟩ := k.cell n a c h1 h2
  have z : a ≠ p := fun z => hm (by rw [← z]; exact List.mem_of_getElem? h1)
  exact ⟨q1, CellAt.mono (ExG.refl G) (fun o h => by rw [upd_ne z]; exact h) q2⟩⟩
/-- the list of slot j is changed where it stands -/
theorem Fit0.chg {j : Nat} {p : Addr} {vs ws : List V} {ds es : List D} (f : Fit0 C xo G0 H0 G H σ env) (hj : env[j]? = some (.own ds)) (hp : σ[j]? = some (some (.ref p))) (hG : G.g p = none) (r : RepL C.K C.w C.ad G ws es) :
    Fit0 C xo G0 H0 G (upd H p (.lst ws)) σ (env.set j (.own es)) where
  s := ⟨f.s.g, f.f.ok.mut hG (f.f.om j ds p hj hp), fun q o h hm => by
    have z : q ≠ p := fun z => by rw [z, f.new j ds p hj hp] at h; cases h
    rw [upd_ne z]
    exact f.s.h q o h hm, f.s.out, f.s.om⟩
  f := {
    ok := f.f.ok.mut hG (f.f.om j ds p hj hp)
    len := by rw [List.length_set]; exact f.f.len
    val := fun i d h => by
      rcases get_set h with ⟨_, _, e⟩ | ⟨hn, h⟩
      · cases e
      · exact f.f.val i d h
    own := fun i us h => by
      rcases get_set h with ⟨rfl, hl, e⟩ | ⟨hn, h⟩
      · cases e
        exact ⟨p, ws, hp, hG, upd_same, r⟩
      · obtain ⟨q, zs, h1, h2, h3, h4⟩ := f.f.own i us h
        refine ⟨q, zs, h1, h2, ?_, h4⟩
        rw [upd_ne fun z => hn (f.f.sep i j p us ds h hj (by rw [h1, z]) hp)]
        exact h3
    om := fun i us q h => by
      rcases get_set h with ⟨rfl, hl, e⟩ | ⟨hn, h⟩
      · exact f.f.om i ds q hj
      · exact f.f.om i us q h
    sep := fun i k q us xs h1 h2 => by
      rcases get_set h1 with ⟨hi, hl, e⟩ | ⟨hn, g1⟩
      · rcases get_set h2 with ⟨hk, _, e2⟩ | ⟨hn2, g2⟩
        · exact fun _ _ => hi.trans hk.symm
        · rw [hi]
          exact f.f.sep j k q _ _ hj g2
      · rcases get_set h2 with ⟨hk, _, e2⟩ | ⟨hn2, g2⟩
        · rw [hk]
          exact f.f.sep i j q _ _ g1 hj
        · exact f.f.sep i k q _ _ g1 g2
    exn := fun i c fs h => by
      rcases get_set h with ⟨_, _, e⟩ | ⟨hn, h⟩
      · cases e
      · exact f.f.exn i c fs h }
  new := fun i us q h => by
    rcases get_set h with ⟨rfl, hl, e⟩ | ⟨hn, h⟩
    · exact f.new i ds q hj
    · exact f.new i us q h
/-- the list of slot j becomes data -/
theorem Fit0.frz {j : Nat} (f : Fit0 C xo G0 H0 G H σ env) : ∃ G', ExG G G' ∧ Fit0 C xo G0 H0 G' H σ (Dm.frz j env) := by
  unfold Dm.frz
  cases c : env[j]? with
  | none => exact ⟨G, ExG.refl G, f⟩
  | some s =>
    cases s with
    | own ds =>
      obtain ⟨p, vs, h1, h2, h3, h4⟩ := f.f.own j ds c
      have hm := f.f.om j ds p c h1
      have e1 : ExG G (G.upd p (.lst vs)) := ExG.new h2
      have s1 : Step C (G0.put G.s) H0 (G.upd p (.lst vs)) H := f.s.take h2 hm h3 (f.new j ds p c h1)
      refine ⟨_, e1, ?_⟩
      refine ⟨⟨f.f.ok.take h2 hm h3, by rw [List.length_set]; exact f.f.len, fun i d h => ?_, fun i es h => ?_, fun i es q h => ?_, fun i k q es us k1 k2 => ?_, fun i c2 fs h => ?_⟩, s1, fun i es q h => ?_⟩
      · rcases get_set h with ⟨rfl, hl, e⟩ | ⟨hn, h⟩
        · cases e
          exact ⟨.ref p, h1, .lst upd_same (h4.mono e1)⟩
        · obtain ⟨v, a, b⟩ := f.f.val i d h
          exact ⟨v, a, b.mono e1⟩
      · rcases get_set h with ⟨rfl, hl, e⟩ | ⟨hn, h⟩
        · cases e
        · obtain ⟨q, ws, k1, k2, k3, k4⟩ := f.f.own i es h
          refine ⟨q, ws, k1, ?_, k3, k4.mono e1⟩
          show L2.upd G.g p _ q = none
          rw [upd_ne fun z => hn (f.f.sep i j p es ds h c (by rw [k1, z]) h1)]
          exact k2
      · rcases get_set h with ⟨rfl, hl, e⟩ | ⟨hn, h⟩
        · cases e
        · exact f.f.om i es q h
      · rcases get_set k1 with ⟨_, _, e⟩ | ⟨hn, k1⟩
        · cases e
        rcases get_set k2 with ⟨_, _, e⟩ | ⟨hn2, k2⟩
        · cases e
        exact f.f.sep i k q es us k1 k2
      · rcases get_set h with ⟨_, _, e⟩ | ⟨hn, h⟩
        · cases e
        · obtain ⟨a, b, d⟩ := f.f.exn i c2 fs h
          exact ⟨a, b, d.mono e1⟩
      · rcases get_set h with ⟨_, _, e⟩ | ⟨hn, h⟩
        · cases e
        · exact f.new i es q h
    | un => exact ⟨G, ExG.refl G, f⟩
    | val _ => exact ⟨G, ExG.refl G, f⟩
    | exn _ _ => exact ⟨G, ExG.refl G, f⟩
/-- nothing is asked of the ground ahead -/
theorem Fit.zero (f : Fit C xo G H σ env) : Fit0 C xo ⟨fun _ => none, G.m, G.s⟩ (fun _ => none) G H σ env := ⟨f, ⟨⟨fun _ _ h => (by cases h), fun _ _ h => h, rfl⟩, f.ok, fun _ _ h => (by cases h), fun _ _ h => absurd rfl h, fun _ h _ => h⟩, fun _ _ _ _ _ => rfl⟩
/-! ### targets -/
def CG (C : Cc) (xo : Xo) (g : TG) (js : List Nat) (f : SG) : Prop := ∀ G0 H0 σ G H env, Fit0 C xo G0 H0 G H σ env → ∀ v d env2, Rep C.K C.w C.ad G v d → f d env = some env2 → ∀ Q : L2.St → Hp → Prop,
  (∀ σ', σ'.length = σ.length → (∀ i, i ∉ js → σ'[i]? = σ[i]?) → Fit0 C xo G0 H0 G H σ' env2 → Q σ' H) → g v σ H Q
def CGs (C : Cc) (xo : Xo) (g : TGs) (js : List Nat) (f : SGs) : Prop := ∀ G0 H0 σ G H env, Fit0 C xo G0 H0 G H σ env → ∀ vs ds env2, RepL C.K C.w C.ad G vs ds → f ds env = some env2 → ∀ Q : L2.St → Hp → Prop,
  (∀ σ', σ'.length = σ.length → (∀ i, i ∉ js → σ'[i]? = σ[i]?) → Fit0 C xo G0 H0 G H σ' env2 → Q σ' H) → g vs σ H Q
theorem cg_name {i : Nat} : CG C xo (gName i) [i] (gN i) := fun G0 H0 σ G H env f v d env2 r h Q q => by
  cases h
  exact q _ (List.length_set ..) (fun k hk => set_off fun z => hk (by rw [z]; exact List.mem_singleton.mpr rfl)) (f.setV r)
theorem cgs_nil : CGs C xo gNil [] gE := fun G0 H0 σ G H env f vs ds env2 r h Q q => by
  cases r with
  | nil => cases h; exact ⟨rfl, q σ rfl (fun _ _ => rfl) f⟩
  | cons _ _ => cases h
theorem cgs_cons {g : TG} {gs : TGs} {js ks : List Nat} {f : SG} {fs : SGs} (h1 : CG C xo g js f) (h2 : CGs C xo gs ks fs) : CGs C xo (gCons g gs) (js ++ ks) (gC f fs) := fun G0 H0 σ G H env ft vs ds env2 r h Q q => by
  cases r with
  | nil => cases h
  | @cons v d vs ds hv r =>
    unfold gC at h
    dsimp only at h
    cases c : f d env with
    | none => rw [c] at h; cases h
    | some env1 =>
      rw [c] at h
      refine ⟨v, vs, rfl, h1 G0 H0 σ G H env ft v d env1 hv c _ fun σ1 l1 k1 f1 => ?_⟩
      exact h2 G0 H0 σ1 G H env1 f1 vs ds env2 r h Q fun σ2 l2 k2 f2 => q σ2 (l2.trans l1) (fun i hi => (k2 i fun z => hi (List.mem_append_right _ z)).trans (k1 i fun z => hi (List.mem_append_left _ z))) f2
theorem cg_tup {gs : TGs} {js : List Nat} {fs : SGs} {n : Nat} (h : CGs C xo gs js fs) : CG C xo (gTup C.K n gs) js (gT n fs) := fun G0 H0 σ G H env ft v d env2 r q Q k => by
  have fin : ∀ {a : Addr} {vs : List V} {ds : List D}, SqT C.K G.g a vs → RepL C.K C.w C.ad G vs ds → (if ds.length = n then fs ds env else none) = some env2 → gTup C.K n gs (.ref a) σ H Q := fun {a vs ds} hs r q => by
    by_cases hn : ds.length = n
    · rw [if_pos hn] at q
      exact ⟨a, vs, rfl, ex_t ft.f.ok.e hs, r.length.trans hn, h G0 H0 σ G H env ft vs ds env2 r q Q k⟩
    · rw [if_neg hn] at q; cases q
  cases r with
  | tup hs r => exact fin hs r q
  | ktp hs _ r => exact fin hs r q
  | _ => cases q
/-! ### statements -/
def OutT (C : Cc) (xo : Xo) (W : WX) (G0 : Gd) (H0 : Hp) (G : Gd) (D : Ends) : RSr → Prop
  | .nx env t => ∀ σ G' H', ExG (G.put t) G' → Fit0 C xo G0 H0 G' H' σ env → D.nx σ H'
  | .rt (.val d) t => ∀ v G' H', Step C (G0.put t) H0 G' H' → Rep C.K C.w C.ad G' v d → D.rt v H'
  | .rt (.own ds) t => ∀ v G' H', Step C (G0.put t) H0 G' H' → rF C H0 G' H' v ds → D.rt v H'
  | .rt _ _ => False
  | .bk env t => ∀ σ G' H', ExG (G.put t) G' → Fit0 C xo G0 H0 G' H' σ env → D.bk σ H'
  | .ct env t => ∀ σ G' H', ExG (G.put t) G' → Fit0 C xo G0 H0 G' H' σ env → D.ct σ H'
  | .exc c fs env t => ∀ dd σ G' H', ExG (G.put t) G' → Fit0 C xo G0 H0 G' H' σ env → XRep C.K C.w C.ad G' fs dd → W (.ref (C.ad c)) dd σ H'
  | .bad => False
def OutS (C : Cc) (xo : Xo) (W : WX) (G0 : Gd) (H0 : Hp) (G : Gd) (D : Ends) (r : RS) : Prop := OutT C xo W G0 H0 G D (r G.s)
theorem OutS.elim {D : Ends} {p : Prop} (h : OutS C xo W G0 H0 G D RS.bad) : p := False.elim h
theorem OutT.mono {D : Ends} {r : RSr} {t : Sto} (e : ExG (G.put t) G') (h : OutT C xo W G0 H0 G D r) : OutT C xo W G0 H0 G' D r := by
  have up : ∀ {u : Sto} {G2 : Gd}, ExG (G'.put u) G2 → ExG (G.put u) G2 := fun e2 => ExG.trans (G := G.put t) e e2
  cases r with
  | nx env u => exact fun σ G2 H2 e2 => h σ G2 H2 (up e2)
  | rt s u => cases s <;> exact h
  | bk env u => exact fun σ G2 H2 e2 => h σ G2 H2 (up e2)
  | ct env u => exact fun σ G2 H2 e2 => h σ G2 H2 (up e2)
  | exc c fs env u => exact fun dd σ G2 H2 e2 => h dd σ G2 H2 (up e2)
  | bad => exact h
theorem OutS.mono {D : Ends} {r : RS} (e : ExG G G') (h : OutS C xo W G0 H0 G D r) : OutS C xo W G0 H0 G' D r := by
  unfold OutS at h ⊢
  rw [e.s]
  exact OutT.mono (t := G.s) e h
def CS (C : Cc) (xo : Xo) (W : WX) (t : TS) (s : SS) : Prop := ∀ G0 H0 σ G H env, Fit0 C xo G0 H0 G H σ env → ∀ D, OutS C xo W G0 H0 G D (s env) → t D σ H
theorem ofE_out {α β : Type} {rep : Gd → Hp → β → α → Prop} {r : R α} {k : α → RS} {D : Ends} {Q : β → Hp → Prop} (f : Fit0 C xo G0 H0 G H σ env) (o : OutS C xo W G0 H0 G D (ofE r env k))
    (q : ∀ d v G' H', Step C (G.put G'.s) H G' H' → rep G' H' v d → Fit0 C xo G0 H0 G' H' σ env → OutS C xo W G0 H0 G' D (k d) → Q v H') : Out C rep (WE W σ) G H Q r := by
  unfold OutS ofE at o
  unfold Out
  cases c : r G.s with
  | ok d t =>
    rw [c] at o
    intro v G' H' s r2
    have e : G'.s = t := s.g.s
    subst e
    exact q d v G' H' s r2 (f.step s) (OutT.mono s.g o)
  | exc c2 fs t => rw [c] at o; exact fun dd G' H' s x => o dd σ G' H' s.g (f.step s) x
  | bad => rw [c] at o; exact o
theorem cs_nx : CS C xo W tNext sNx := fun G0 H0 σ G H env f D o => o σ G H (ExG.refl G) f
theorem cs_seq {t u : TS} {a b : SS} (h1 : CS C xo W t a) (h2 : CS C xo W u b) : CS C xo W (tSeq t u) (sSeq a b) := fun G0 H0 σ G H env f D o => by
  refine h1 G0 H0 σ G H env f _ ?_
  unfold OutS sSeq thenS thenR at o
  unfold OutS
  cases c : a env G.s with
  | nx env2 t =>
    rw [c] at o
    exact fun σ' G' H' e f' => h2 G0 H0 σ' G' H' env2 f' D (OutS.mono (G := G.put t) e o)
  | rt s t => rw [c] at o; cases s <;> exact o
  | bk env t => rw [c] at o; exact o
  | ct env t => rw [c] at o; exact o
  | exc k fs env t => rw [c] at o; exact o
  | bad => rw [c] at o; exact o
theorem cs_frz {t : TS} {s : SS} (i : Nat) (h : CS C xo W t s) : CS C xo W t (sFrz i s) := fun G0 H0 σ G H env f D o => by
  obtain ⟨G', e, f'⟩ := f.frz (j := i)
  exact h G0 H0 σ G' H _ f' D (OutS.mono e o)
theorem cs_g {te : TE} {g : TG} {js : List Nat} {a : SE} {gs : SG} (h : CE C xo W te a) (hg : CG C xo g js gs) : CS C xo W (tAsg te g) (sG a gs) := fun G0 H0 σ G H env f D o =>
  h σ G H env f.f _ (ofE_out f o fun d v G1 H1 s r f1 o1 => by
    unfold ofG at o1
    cases c : gs d env with
    | none => rw [c] at o1; exact o1.elim
    | some env2 =>
      rw [c] at o1
      exact hg G0 H0 σ G1 H1 env f1 v d env2 r c _ fun σ2 _ _ f2 => o1 σ2 G1 H1 (ExG.refl _) f2)
theorem cs_a {te : TE} {i : Nat} {a : SE} (h : CE C xo W te a) : CS C xo W (tAsg te (gName i)) (sA i a) := fun G0 H0 σ G H env f D o =>
  h σ G H env f.f _ (ofE_out f o fun d v G1 H1 s r f1 o1 => o1 _ G1 H1 (ExG.refl _) (f1.setV r))
theorem cs_o {te : TE} {i : Nat} {a : SA} (h : CN C xo W te a) : CS C xo W (tAsg te (gName i)) (sO i a) := fun G0 H0 σ G H env f D o =>
  h σ G H env f.f _ (ofE_out f o fun ds v G1 H1 s r f1 o1 => by
    obtain ⟨⟨p, vs, rfl, h1, hm, h2, h3⟩, h4⟩ := r
    refine o1 _ G1 H1 (ExG.refl _) (f1.setO h1 hm (f.s.fresh (h4 p rfl)) h2 h3 fun k es hk hke hs => ?_)
    obtain ⟨q, ws, k1, k2, k3, _⟩ := f.f.own k es hke
    rw [hs] at k1
    cases k1
    rw [h4 p rfl] at k3
    cases k3)
theorem cs_app {ta te : TE} {i : Nat} {a : SE} (hv : ta = tVar i) (h : CE C xo W te a) : CS C xo W (tDrop (tBM C.K "list" rAppend ta (tCons te tNil))) (sApp i a) := fun G0 H0 σ G H env f D o => by
  subst hv
  unfold sApp at o
  cases c : env[i]? with
  | none => rw [c] at o; exact o.elim
  | some s =>
    rw [c] at o
    cases s with
    | own xs =>
      obtain ⟨p, vs, h1, h2, h3, h4⟩ := f.f.own i xs c
      have hm := f.f.om i xs p c h1
      refine ⟨.ref p, h1, Or.inl ⟨rfl, vs, sq_of h3⟩, h σ G H env f.f _ (ofE_out f o fun d v G1 H1 s1 r f1 o1 => ?_)⟩
      by_cases hz : xs.length < Z
      · rw [if_pos hz] at o1
        exact ⟨p, vs, v, rfl, rfl, s1.h _ _ h3 hm, sz_lt (by rw [h4.length]; exact hz), o1 σ G1 _ (ExG.refl _) (f1.chg (vs := vs) c h1 (s1.out p h2 (by rw [h3]; exact nofun)) ((h4.mono s1.g).append (.cons r .nil)))⟩
      · rw [if_neg hz] at o1; exact o1.elim
    | un => exact o.elim
    | val _ => exact o.elim
    | exn _ _ => exact o.elim
theorem cs_ext {ta te : TE} {i : Nat} {a : SE} (hv : ta = tVar i) (h : CE C xo W te a) : CS C xo W (tDrop (tBM C.K "list" rExtend ta (tCons te tNil))) (sExt i a) := fun G0 H0 σ G H env f D o => by
  subst hv
  unfold sExt at o
  cases c : env[i]? with
  | none => rw [c] at o; exact o.elim
  | some s =>
    rw [c] at o
    cases s with
    | own xs =>
      obtain ⟨p, vs, h1, h2, h3, h4⟩ := f.f.own i xs c
      have hm := f.f.om i xs p c h1
      refine ⟨.ref p, h1, Or.inl ⟨rfl, vs, sq_of h3⟩, h σ G H env f.f _ (ofE_out f o fun d v G1 H1 s1 r f1 o1 => ?_)⟩
      cases r with
      | @lst b ws es hb r =>
        dsimp only at o1
        by_cases hz : xs.length + es.length ≤ Z
        · rw [if_pos hz] at o1
          exact ⟨p, b, vs, ws, rfl, rfl, s1.h _ _ h3 hm, s1.gh.e _ _ hb, sz_of (by rw [h4.length, r.length]; exact hz), o1 σ G1 _ (ExG.refl _) (f1.chg (vs := vs) c h1 (s1.out p h2 (by rw [h3]; exact nofun)) ((h4.mono s1.g).append r))⟩
        · rw [if_neg hz] at o1; exact o1.elim
      | _ => exact o1.elim
    | un => exact o.elim
    | val _ => exact o.elim
    | exn _ _ => exact o.elim
theorem cs_pop {ta : TE} {i : Nat} (hv : ta = tVar i) : CS C xo W (tDrop (tBM0 C.K "list" rPop ta)) (sPop i) := fun G0 H0 σ G H env f D o => by
  subst hv
  unfold sPop at o
  cases c : env[i]? with
  | none => rw [c] at o; exact o.elim
  | some s =>
    rw [c] at o
    cases s with
    | own xs =>
      obtain ⟨p, vs, h1, h2, h3, h4⟩ := f.f.own i xs c
      have hm := f.f.om i xs p c h1
      dsimp only at o
      by_cases hz : xs = []
      · rw [if_pos hz] at o; exact o.elim
      · rw [if_neg hz] at o
        have hl : 0 < xs.length := List.length_pos_iff.mpr hz
        obtain ⟨u, hu, _⟩ := h4.get (i := vs.length - 1) (List.getElem?_eq_getElem (by rw [h4.length]; omega))
        exact ⟨.ref p, h1, Or.inl ⟨rfl, vs, sq_of h3⟩, p, vs, u, rfl, rfl, h3, hu, o σ G _ (ExG.refl _) (f.chg (vs := vs) c h1 h2 h4.dropLast)⟩
    | un => exact o.elim
    | val _ => exact o.elim
    | exn _ _ => exact o.elim
theorem cs_set {to ti te : TE} {i : Nat} {k a : SE} (hv : to = tVar i) (hk : CE C xo W ti k) (h : CE C xo W te a) : CS C xo W (tAsg te (gSub to ti rSetL)) (sSet i k a) := fun G0 H0 σ G H env f D o => by
  subst hv
  unfold sSet at o
  cases c : env[i]? with
  | none => rw [c] at o; exact o.elim
  | some s =>
    rw [c] at o
    cases s with
    | own xs =>
      obtain ⟨p, vs, h1, h2, h3, h4⟩ := f.f.own i xs c
      have hm := f.f.om i xs p c h1
      refine h σ G H env f.f _ (ofE_out f o fun d v G1 H1 s1 r f1 o1 => ⟨.ref p, h1, hk σ G1 H1 env f1.f _ (ofE_out f1 o1 fun j u G2 H2 s2 r2 f2 o2 => ?_)⟩)
      cases r2 with
      | int j =>
        dsimp only at o2
        cases cn : ixN xs.length j with
        | none => rw [cn] at o2; exact o2.elim
        | some n =>
          rw [cn] at o2
          have hp1 := s1.out p h2 (by rw [h3]; exact nofun)
          have hp3 := s1.h _ _ h3 hm
          refine ⟨p, vs, j, n, rfl, rfl, s2.h _ _ hp3 (s1.om p hm (by rw [h3]; exact nofun)), by rw [h4.length]; exact cn, ?_⟩
          exact o2 σ G2 _ (ExG.refl _) (f2.chg (vs := vs) c h1 (s2.out p hp1 (by rw [hp3]; exact nofun)) ((h4.mono (s1.g.trans s2.g)).set (r.mono s2.g) n))
      | _ => exact o2.elim
    | un => exact o.elim
    | val _ => exact o.elim
    | exn _ _ => exact o.elim
theorem cs_aug {te : TE} {i : Nat} {r : R2} {op : D → D → R D} {a : SE} (ho : OpD C r op) (h : CE C xo W te a) : CS C xo W (tAug i te r) (sAug i op a) := fun G0 H0 σ G H env f D o => by
  unfold sAug at o
  cases c : env[i]? with
  | none => rw [c] at o; exact o.elim
  | some s =>
    rw [c] at o
    cases s with
    | val x =>
      obtain ⟨u, h1, h2⟩ := f.f.val i x c
      exact ⟨u, h1, h σ G H env f.f _ (ofE_out f o fun d v G1 H1 s1 r f1 o1 => ho G1 H1 u v x d s1.gh (h2.mono s1.g) r (WE W σ) _ (ofE_out f1 o1 fun z w G2 H2 s2 r2 f2 o2 => o2 _ G2 H2 (ExG.refl _) (f2.setV r2)))⟩
    | un => exact o.elim
    | own _ => exact o.elim
    | exn _ _ => exact o.elim
theorem cs_x {te : TE} {a : SE} (h : CE C xo W te a) : CS C xo W (tDrop te) (sX a) := fun G0 H0 σ G H env f D o =>
  h σ G H env f.f _ (ofE_out f o fun d v G1 H1 s r f1 o1 => o1 σ G1 H1 (ExG.refl _) f1)
theorem cs_if {c : TT} {t u : TS} {k : ST} {a b : SS} (h : CT C xo W c k) (h1 : CS C xo W t a) (h2 : CS C xo W u b) : CS C xo W (tIfS c t u) (sIf k a b) := fun G0 H0 σ G H env f D o =>
  h σ G H env f.f _ (ofE_out f o fun d v G1 H1 s r f1 o1 => by
    subst r
    cases v with
    | true => exact h1 G0 H0 σ G1 H1 env f1 D o1
    | false => exact h2 G0 H0 σ G1 H1 env f1 D o1)
theorem cs_ret {te : TE} {a : SE} (h : CE C xo W te a) : CS C xo W (tRet te) (sRet a) := fun G0 H0 σ G H env f D o =>
  h σ G H env f.f _ (ofE_out f o fun d v G1 H1 s r f1 o1 => o1 v G1 H1 f1.s r)
theorem cs_retL {te : TE} {a : SA} (h : CN C xo W te a) : CS C xo W (tRet te) (sRetL a) := fun G0 H0 σ G H env f D o =>
  h σ G H env f.f _ (ofE_out f o fun d v G1 H1 s r f1 o1 => o1 v G1 H1 f1.s ⟨r.1, fun p hp => f.s.fresh (r.2 p hp)⟩)
theorem cs_retO {te : TE} {i : Nat} (hv : te = tVar i) : CS C xo W (tRet te) (sRetO i) := fun G0 H0 σ G H env f D o => by
  subst hv
  unfold sRetO at o
  cases c : env[i]? with
  | none => rw [c] at o; exact o.elim
  | some s =>
    rw [c] at o
    cases s with
    | own xs =>
      obtain ⟨p, vs, h1, h2, h3, h4⟩ := f.f.own i xs c
      have hm := f.f.om i xs p c h1
      exact ⟨.ref p, h1, o (.ref p) G H f.s ⟨⟨p, vs, rfl, h2, f.f.om i xs p c h1, h3, h4⟩, fun q hq => by cases hq; exact f.new i xs p c h1⟩⟩
    | un => exact o.elim
    | val _ => exact o.elim
    | exn _ _ => exact o.elim
theorem cs_retN : CS C xo W tRetN sRetN := fun G0 H0 σ G H env f D o => o .non G H f.s .non
theorem cs_br : CS C xo W tBreak sBr := fun G0 H0 σ G H env f D o => o σ G H (ExG.refl G) f
theorem cs_ct : CS C xo W tCont sCt := fun G0 H0 σ G H env f D o => o σ G H (ExG.refl G) f
theorem cs_never : CS C xo W tNever sNever := fun G0 H0 σ G H env f D o => o
theorem thenW_out {b : RS} {k : Env → RS} {D : Ends} {N : L2.St → Hp → Prop} (o : OutS C xo W G0 H0 G D (thenW b k)) (q : ∀ e3 σ' G' H', ExG (G.put G'.s) G' → Fit0 C xo G0 H0 G' H' σ' e3 → OutS C xo W G0 H0 G' D (k e3) → N σ' H') :
    OutS C xo W G0 H0 G { D with nx := N, ct := N, bk := D.nx } b := by
  unfold OutS thenW turnS at o
  unfold OutS
  cases c2 : b G.s with
  | nx e3 t =>
    rw [c2] at o
    intro σ' G' H' e f'
    have z : G'.s = t := e.s
    subst z
    exact q e3 σ' G' H' e f' (OutT.mono e o)
  | ct e3 t =>
    rw [c2] at o
    intro σ' G' H' e f'
    have z : G'.s = t := e.s
    subst z
    exact q e3 σ' G' H' e f' (OutT.mono e o)
  | bk e3 t => rw [c2] at o; exact o
  | rt s t => rw [c2] at o; cases s <;> exact o
  | exc q fs e3 t => rw [c2] at o; exact o
  | bad => rw [c2] at o; exact o
theorem cs_wh {c : TT} {t : TS} {k : ST} {b : SS} (n : Nat) (h : CT C xo W c k) (h1 : CS C xo W t b) : CS C xo W (tWhile c t) (sWh n k b) := fun G0 H0 σ G H env f D o => by
  refine ⟨fun m σ H => ∃ env G, Fit0 C xo G0 H0 G H σ env ∧ OutS C xo W G0 H0 G D (whGo k b m env), ⟨n, env, G, f, o⟩, ?_⟩
  rintro m σ H ⟨env, G, f, o⟩
  cases m with
  | zero => exact o.elim
  | succ m =>
    refine h σ G H env f.f _ (ofE_out f o fun d v G1 H1 s r f1 o1 => ?_)
    subst r
    cases v with
    | false => exact o1 σ G1 H1 (ExG.refl _) f1
    | true =>
      rw [if_pos rfl] at o1 ⊢
      refine ⟨fun σ H => ∃ env G, Fit0 C xo G0 H0 G H σ env ∧ OutS C xo W G0 H0 G D (whGo k b m env), fun σ' H' q => ⟨m, Nat.lt_succ_self m, q⟩, ?_⟩
      exact h1 G0 H0 σ G1 H1 env f1 _ (thenW_out o1 fun e3 σ' G' H' e f' o2 => ⟨e3, G', f', o2⟩)
theorem cs_for {wi : TI} {g : TG} {js : List Nat} {t : TS} {it : SA} {gs : SG} {b : SS} (hi : CI C xo W wi it) (hg : CG C xo g js gs) (h1 : CS C xo W t b) : CS C xo W (tFor wi g t) (sFor it gs b) := fun G0 H0 σ G H env f D o =>
  hi σ G H env f.f _ (ofE_out f o fun ds J G1 H1 s r f1 o1 => by
    obtain ⟨GP, Y, w, hgp, hy⟩ := r
    refine for_it w (fun i σ H => ∃ env G, ExG (G1.put G.s) G ∧ Fit0 C xo G0 H0 G H σ env ∧ OutS C xo W G0 H0 G D (forGo gs b (ds.drop i) env)) ⟨env, G1, ExG.refl _, f1, o1⟩ ?_ ?_ ?_
    · rintro i σ H _ ⟨env, G, e, f, _⟩
      exact hgp H (e.g.trans f.ex)
    · rintro i x σ H H' hlt ⟨env, G, e, f, o⟩ y
      obtain ⟨G', d, hd, s2, rd⟩ := hy i H x H' G hlt e f.ok y
      have hdr : ds.drop i = d :: ds.drop (i + 1) := by
        rw [List.getElem?_eq_getElem hlt] at hd
        rw [List.drop_eq_getElem_cons hlt, Option.some.inj hd]
      rw [hdr] at o
      have o := OutS.mono s2.g o
      have f := f.step s2
      unfold forGo ofG at o
      cases c : gs d env with
      | none => rw [c] at o; exact o.elim
      | some env2 =>
        rw [c] at o
        refine hg G0 H0 σ G' H' env f x d env2 rd c _ fun σ2 _ _ f2 => h1 G0 H0 σ2 G' H' env2 f2 _ ?_
        exact thenW_out o fun e3 σ3 G3 H3 e3' f3 o3 => ⟨e3, G3, (e.trans s2.g).trans e3', f3, o3⟩
    · rintro σ H ⟨env, G, e, f, o⟩
      rw [List.drop_length] at o
      exact o σ G H (ExG.refl _) f)
end
end Dm
set_option Elab.async false
set_option linter.all false
set_option maxRecDepth 100000
set_option maxHeartbeats 4000000
namespace Dm
open PySem L2 Evl RZ Wm
abbrev W0 : WX := fun _ _ _ _ => False
section
variable {C : Cc} {xo : Xo} {W : WX} {G G' G0 : Gd} {H H' H0 : Hp} {σ : L2.St} {env : Env} {E : XK}
/-! comprehensions -/
theorem wipe_get (σ : L2.St) : ∀ (vs : List Nat) (i : Nat), (wipe σ vs)[i]? = if i ∈ vs ∧ i < σ.length then some none else σ[i]?
  | [], i => by
    unfold wipe
    rw [if_neg fun z => by cases z.1]
  | v :: vs, i => by
    unfold wipe
    have hl : (wipe σ vs).length = σ.length := wipe_length σ vs
    rw [List.getElem?_set, wipe_get σ vs i, hl]
    by_cases h : v = i
    · subst h
      rw [if_pos rfl]
      by_cases hi : v < σ.length
      · rw [if_pos hi, if_pos ⟨List.mem_cons_self, hi⟩]
      · rw [if_neg hi, if_neg fun z => hi z.2, List.getElem?_eq_none (Nat.le_of_not_lt hi)]
    · rw [if_neg h]
      by_cases hi : i ∈ vs ∧ i < σ.length
      · rw [if_pos hi, if_pos ⟨List.mem_cons_of_mem _ hi.1, hi.2⟩]
      · rw [if_neg hi, if_neg fun z => hi ⟨(List.mem_cons.mp z.1).resolve_left fun q => h q.symm, z.2⟩]
theorem Fit.wipe (f : Fit C xo G H σ env) : ∀ vs, Fit C xo G H (wipe σ vs) (wipeS env vs)
  | [] => f
  | v :: vs => ((Fit.wipe f vs).zero.setU (j := v) (o := none)).f
theorem wipe_same {σ2 : L2.St} {vs js : List Nat} (hl : σ2.length = (wipe σ vs).length) (hk : ∀ i, i ∉ js → σ2[i]? = (wipe σ vs)[i]?) (hj : ∀ i, i ∈ js → i ∈ vs) : wipe σ2 vs = wipe σ vs := by
  apply List.ext_getElem?
  intro i
  have hl2 : σ2.length = σ.length := hl.trans (wipe_length σ vs)
  rw [wipe_get, wipe_get, hl2]
  by_cases h : i ∈ vs ∧ i < σ.length
  · rw [if_pos h, if_pos h]
  · rw [if_neg h, if_neg h]
    by_cases hi : i ∈ js
    · have hge : σ.length ≤ i := Nat.le_of_not_lt fun z => h ⟨hj i hi, z⟩
      rw [List.getElem?_eq_none (by omega), List.getElem?_eq_none hge]
    · rw [hk i hi, wipe_get, if_neg h]
theorem noX_ok {α β γ δ : Type} {rep : Gd → Hp → β → α → Prop} {rep2 : Gd → Hp → δ → γ → Prop} {r : R α} {k : α → R γ} {Q : β → Hp → Prop} {Q2 : δ → Hp → Prop} {E2 : XK} {Gb : Gd} {Hb : Hp} (hs : Gb.s = G.s) (h : Out C rep2 E2 Gb Hb Q2 ((noX r).bind k))
    (q : ∀ d v G' H', Step C (G.put G'.s) H G' H' → rep G' H' v d → Out C rep2 E2 (Gb.put G'.s) Hb Q2 (k d) → Q v H') : Out C rep E G H Q r := by
  unfold Out R.bind noX at h
  unfold Out
  rw [hs] at h
  cases c : r G.s with
  | ok d t =>
    rw [c] at h
    intro v G' H' s r2
    have e : G'.s = t := s.g.s
    subst e
    exact q d v G' H' s r2 h
  | exc c2 fs t => rw [c] at h; exact False.elim h
  | bad => rw [c] at h; exact h
theorem Out.base {α β : Type} {rep : Gd → Hp → β → α → Prop} {r : R α} {Q : β → Hp → Prop} {t : Sto} (e : ExG (G.put t) G') (k : ∀ p, G.g p = none → H p ≠ none → G'.g p = none) (km : ∀ p, p ∉ G.m → H p ≠ none → p ∉ G'.m) (h : Out C rep E (G.put t) H Q r) : Out C rep E G' H Q r := by
  have z : ∀ {u : Sto} {G2 H2}, Step C (G'.put u) H G2 H2 → Step C (G.put u) H G2 H2 := fun {u G2 H2} s => ⟨ExG.trans (G := G.put t) e s.g, s.gh, fun p o h hm => s.h p o h (km p hm (by rw [h]; exact nofun)), fun p h1 h2 => s.out p (k p h1 h2) h2, fun p h1 h2 => s.om p (km p h1 h2) h2⟩
  unfold Out at h ⊢
  have h : OutR C rep E (G.put t) H Q (r t) := h
  rw [show G'.s = t from e.s]
  cases c : r t with
  | ok d t => rw [c] at h; exact fun v G2 H2 s r2 => h v G2 H2 (z s) r2
  | exc c2 fs t => rw [c] at h; exact fun dd G2 H2 s x => h dd G2 H2 (z s) x
  | bad => rw [c] at h; exact h
theorem Step.up {G1 Ga Gc : Gd} {H1 Ha Hc : Hp} {t u : Sto} (a : Step C (G1.put t) H1 Ga Ha) (b : Step C (Ga.put u) Ha Gc Hc) : (∀ p, Ga.g p = none → H1 p ≠ none → Gc.g p = none) ∧ ∀ p, p ∉ Ga.m → H1 p ≠ none → p ∉ Gc.m := by
  have nn : ∀ p, p ∉ G1.m → H1 p ≠ none → Ha p ≠ none := fun p hm h2 z => by
    cases q : H1 p with
    | none => exact h2 q
    | some o => rw [a.h p o q hm] at z; cases z
  have up : ∀ p, p ∈ G1.m → p ∈ Ga.m := fun p h => by
    obtain ⟨n, hn⟩ := List.getElem?_of_mem h
    exact List.mem_of_getElem? (a.g.m n p hn)
  refine ⟨fun p h1 h2 => ?_, fun p h1 h2 => b.om p h1 (nn p (fun z => h1 (up p z)) h2)⟩
  by_cases hm : p ∈ G1.m
  · obtain ⟨n, hn⟩ := List.getElem?_of_mem (up p hm)
    exact (b.gh.mem (List.mem_of_getElem? (b.g.m n p hn))).1
  · exact b.out p h1 (nn p hm h2)
theorem SOk.back {a : Addr} {o : HO} (k : SOk C G (L2.upd H a o)) (h : H a = none) (hm : a ∉ G.m) (hg : G.g a = none) : SOk C G H := ⟨fun b u z => by
    have q := k.e b u z
    by_cases e : b = a
    · rw [e, hg] at z; cases z
    · rw [L2.upd_ne e] at q; exact q, k.len, k.nd, fun n b c h1 h2 => by
    obtain ⟨q1, q2⟩ := k.cell n b c h1 h2
    have e : b ≠ a := fun e => hm (by rw [← e]; exact List.mem_of_getElem? h1)
    exact ⟨q1, CellAt.mono (ExG.refl G) (fun o z => by rw [L2.upd_ne e] at z; exact z) q2⟩⟩
theorem cn_lc {wi : TI} {g : TG} {js vs : List Nat} {tt : TT} {te : TE} {it : SA} {gs : SG} {t : ST} {e : SE} (hi : CI C xo W wi it) (hg : CG C xo g js gs) (hj : ∀ i, i ∈ js → i ∈ vs) (ht : CT C xo W0 tt t) (he : CE C xo W0 te e) :
    CN C xo W (tLc wi g tt te vs) (lLc it gs t e vs) := fun σ G H env f Q o =>
  hi σ G H env f _ (Out.bind o fun ds J G1 H1 _ s r o1 => by
    obtain ⟨hz, o1⟩ := out_if o1
    obtain ⟨GP, Y, w, hgp, hy⟩ := r
    intro Dl hDl
    have f1 := (f.step s).wipe vs
    have hDH := s.fresh hDl
    refine lc_it w (fun i H2 => ∃ G ws acc, ExG (G1.put G.s) G ∧ Step C (G1.put G.s) H1 G H2 ∧ G.g Dl = none ∧ Dl ∉ G.m ∧ H2 Dl = some (.lst ws) ∧ ws.length ≤ i ∧ RepL C.K C.w C.ad G ws acc ∧
      Out C (rF C H) (WE W σ) G H1 Q (lcGo gs t e (wipeS env vs) (ds.drop i) acc)) ?_ ?_ ?_ ?_
    · exact ⟨G1, [], [], ExG.refl _, Step.ofH s.gh (Ex.new hDl), fresh_back s.gh.e hDl, s.gh.fresh hDl, upd_same, Nat.le_refl _, .nil, o1⟩
    · rintro i H _ ⟨G, ws, acc, e1, s1, _⟩
      exact hgp H (e1.g.trans s1.gh.e)
    · rintro i x H2 H' hlt ⟨G, ws, acc, e1, s1, hG, hm, hH, hw, rl, o⟩ y
      obtain ⟨G', d, hd, s2, rd⟩ := hy i H2 x H' G hlt e1 s1.gh y
      have hdr : ds.drop i = d :: ds.drop (i + 1) := by
        rw [List.getElem?_eq_getElem hlt] at hd
        rw [List.drop_eq_getElem_cons hlt, Option.some.inj hd]
      rw [hdr] at o
      have u2 := s1.up s2
      have o := Out.base s2.g u2.1 u2.2 o
      have es : G'.s = G.s := s2.g.s
      have s12 : Step C (G1.put G'.s) H1 G' H' := by rw [es]; exact s1.trans s2
      have f2 := f1.step s12
      unfold lcGo at o
      cases c : gs d (wipeS env vs) with
      | none => rw [c] at o; exact o.elim
      | some env2 =>
        rw [c] at o
        dsimp only at o
        refine hg _ _ _ G' H' _ f2.zero x d env2 rd c _ fun σ2 l2 k2 f3 => ⟨wipe_same l2 k2 hj, ?_⟩
        have hG2 := s2.out Dl hG (by rw [hH]; exact nofun)
        have hm2 := s2.om Dl hm (by rw [hH]; exact nofun)
        have hH2 := s2.h _ _ hH hm
        refine ht σ2 G' H' env2 f3.f _ (noX_ok rfl o fun k v G3 H3 s3 r3 o3 => ?_)
        subst r3
        have u3 := s12.up s3
        have o3 := Out.base s3.g u3.1 u3.2 o3
        have s13 := s12.trans s3
        have hG3 := s3.out Dl hG2 (by rw [hH2]; exact nofun)
        have hm3 := s3.om Dl hm2 (by rw [hH2]; exact nofun)
        have hH3 := s3.h _ _ hH2 hm2
        have e3 : ExG (G1.put G3.s) G3 := (ExG.trans (G := G1.put G'.s) s12.g s3.g)
        cases v with
        | false => exact ⟨G3, ws, acc, e3, s13, hG3, hm3, hH3, Nat.le_succ_of_le hw, (rl.mono s2.g).mono s3.g, o3⟩
        | true =>
          rw [if_pos rfl]
          refine he σ2 G3 H3 env2 (f3.f.step s3) _ (noX_ok rfl o3 fun z u G4 H4 s4 r4 o4 => ?_)
          have u4 := s13.up s4
          have o4 := Out.base s4.g u4.1 u4.2 o4
          have hG4 := s4.out Dl hG3 (by rw [hH3]; exact nofun)
          have hm4 := s4.om Dl hm3 (by rw [hH3]; exact nofun)
          have hH4 := s4.h _ _ hH3 hm3
          have s5 := s13.trans s4
          exact ⟨ws, hH4, sz_lt (by omega), G4, ws ++ [u], acc ++ [z], ExG.trans (G := G1.put G3.s) e3 s4.g, ⟨s5.g, s5.gh.mut hG4 hm4, fun p o h hp => by
            have z : p ≠ Dl := fun z => by rw [z, hDl] at h; cases h
            rw [upd_ne z]
            exact s5.h p o h hp, s5.out, s5.om⟩, hG4, hm4, upd_same, by rw [List.length_append]; exact Nat.succ_le_succ hw, (((rl.mono s2.g).mono s3.g).mono s4.g).append (.cons r4 .nil), o4⟩
    · rintro H2 ⟨G, ws, acc, e1, s1, hG, hm, hH, hw, rl, o⟩
      rw [List.drop_length] at o
      have up : ∀ p, p ∈ G1.m → p ∈ G.m := fun p h => by
        obtain ⟨n, hn⟩ := List.getElem?_of_mem h
        exact List.mem_of_getElem? (e1.m n p hn)
      exact o (.ref Dl) G H2 ⟨ExG.refl _, s1.gh, fun p o h hp => s1.h p o h fun z => hp (up p z), fun p h1 _ => h1, fun p h1 _ => h1⟩ ⟨⟨Dl, ws, rfl, hG, hm, hH, rl⟩, fun p hp => by cases hp; exact hDH⟩)
end
end Dm
set_option Elab.async false
set_option linter.all false
set_option maxRecDepth 100000
set_option maxHeartbeats 4000000
namespace Dm
open PySem L2 Evl RZ Wm
section
variable {C : Cc} {xo : Xo} {W : WX} {G G' G0 : Gd} {H H' H0 : Hp} {σ : L2.St} {env : Env} {E : XK}
/-! ### try .. except X as n -/
theorem noExn_at {env : Env} (h : noExn env = true) (i : Nat) (c : Nat) (fs : List (Str × D)) : env[i]? ≠ some (.exn c fs) := fun q => by
  have m := List.mem_of_getElem? q
  have := List.all_eq_true.mp h _ m
  cases this
theorem Fit0.oth {xo2 : Xo} (f : Fit0 C xo G0 H0 G H σ env) (h : noExn env = true) : Fit0 C xo2 G0 H0 G H σ env :=
  ⟨⟨f.f.ok, f.f.len, f.f.val, f.f.own, f.f.om, f.f.sep, fun i c fs q => absurd q (noExn_at h i c fs)⟩, f.s, f.new⟩
theorem ifB_out {b : Bool} {r : RSr} {D : Ends} (o : OutT C xo W G0 H0 G D (ifB b r)) : b = true ∧ OutT C xo W G0 H0 G D r := by
  unfold ifB at o
  by_cases h : b = true
  · rw [if_pos h] at o; exact ⟨h, o⟩
  · rw [if_neg h] at o; exact False.elim o
theorem cs_try {tb : WX → TS} {ts : Addr → Value → Option Addr → TS} {hc : Value} {i : Nat} {cs : Nat → Option Bool} {b h : SS} (hx : ∀ c k, cs c = some k → PySem.W.exmOne C.K (.ref (C.ad c)) hc = some k) (hb : ∀ W2, CS C xo W2 (tb W2) b)
    (hs : ∀ a cls d, CS C ⟨a, cls, d⟩ W0 (ts a cls d) h) : CS C xo W (fun D σ H => tb (wAs C.K hc i ts W D) D σ H) (sTry b i cs h) := fun G0 H0 σ G H env f D o => by
  refine hb (wAs C.K hc i ts W D) G0 H0 σ G H env f D ?_
  unfold OutS sTry tryR at o
  unfold OutS
  cases c : b env G.s with
  | nx e2 t => rw [c] at o; exact o
  | rt s t => rw [c] at o; cases s <;> exact o
  | bk e2 t => rw [c] at o; exact o
  | ct e2 t => rw [c] at o; exact o
  | bad => rw [c] at o; exact o
  | exc k fs e2 t =>
    rw [c] at o
    dsimp only at o
    intro dd σ' G' H' e f' x
    cases ck : cs k with
    | none => rw [ck] at o; exact False.elim o
    | some kk =>
      rw [ck] at o
      refine ⟨kk, hx k kk ck, fun hk a ha => ?_, fun hk => ?_⟩
      · subst hk
        dsimp only at o
        obtain ⟨hn, o⟩ := ifB_out o
        have f2 := (f'.oth (xo2 := ⟨a, .ref (C.ad k), dd⟩) hn).put (j := i) (s := .exn k fs) (o := some (.ref a)) (fun _ => nofun) (fun _ => nofun) (fun c2 fs2 q => by cases q; exact ⟨rfl, rfl, x⟩)
        refine hs a _ dd G0 H0 _ G' H' _ f2 _ ?_
        unfold OutS
        have et : G'.s = t := e.s
        rw [et]
        cases c2 : h (e2.set i (.exn k fs)) t with
        | nx e3 u =>
          rw [c2] at o
          obtain ⟨hn3, o⟩ := ifB_out o
          exact fun σ3 G3 H3 ee f3 => o _ G3 H3 (ExG.trans (G := G.put t) e ee) ((f3.setU (j := i) (o := none)).oth hn3)
        | bk e3 u =>
          rw [c2] at o
          obtain ⟨hn3, o⟩ := ifB_out o
          exact fun σ3 G3 H3 ee f3 => o _ G3 H3 (ExG.trans (G := G.put t) e ee) ((f3.setU (j := i) (o := none)).oth hn3)
        | ct e3 u =>
          rw [c2] at o
          obtain ⟨hn3, o⟩ := ifB_out o
          exact fun σ3 G3 H3 ee f3 => o _ G3 H3 (ExG.trans (G := G.put t) e ee) ((f3.setU (j := i) (o := none)).oth hn3)
        | rt s u => rw [c2] at o; cases s <;> exact o
        | exc _ _ _ _ => rw [c2] at o; exact False.elim o
        | bad => rw [c2] at o; exact False.elim o
      · subst hk
        exact o dd σ' G' H' e f' x
/-- e.f in the suite -/
theorem ce_xf {i c : Nat} {f : Str} : CE C xo W (tXf xo.a xo.cls xo.d (C.ad c) f (tVar i)) (eXf i c f) := fun σ G H env ft Q o => by
  unfold eXf at o
  cases c1 : env[i]? with
  | none => rw [c1] at o; exact o.elim
  | some s =>
    rw [c1] at o
    cases s with
    | exn c2 fs =>
      obtain ⟨h1, h2, h3⟩ := ft.exn i c2 fs c1
      dsimp only at o
      by_cases hc : c2 = c
      · rw [if_pos hc] at o
        subst hc
        cases hl : fs.lookup f with
        | none => rw [hl] at o; exact o.elim
        | some d =>
          rw [hl] at o
          cases fs with
          | nil => cases hl
          | cons p fs =>
            obtain ⟨q, vfs, k1, k2, k3⟩ := h3
            obtain ⟨v, l, r⟩ := k3 f d hl
            exact ⟨_, h1, rfl, h2, q, vfs, v, k1, ft.ok.e _ _ k2, l, o v G H (Step.refl ft.ok) r⟩
      · rw [if_neg hc] at o; exact o.elim
    | un => exact o.elim
    | val _ => exact o.elim
    | own _ => exact o.elim
/-! ### raise C(e, ..), C's __init__ keeping its arguments as fields -/
def sp_initN (K : PySem.W.Frag) (nm : List Str) : Sp := fun vs H Q _ => ∃ (a C : Addr) (ys : List V), vs = .ref a :: ys ∧ ys.length = nm.length ∧ (OexC K C ∧ (∀ f, f ∈ nm → PySem.W.findIn K (.ref C) f = some none) ∧ H a = some (exo a C none)) ∧
  ∀ dx, H dx = none → dx ≠ a → Q .non (upd (upd H dx (exd dx (nm.zip ys).reverse)) a (exo a C (some dx)))
theorem lk_rev {ys : List V} : ∀ {nm : List Str} {ds : List D}, nm.length ≤ 3 → nm.Nodup → ys.length = nm.length → RepL C.K C.w C.ad G ys ds → ∀ f d, (nm.zip ds).lookup f = some d → ∃ v, (nm.zip ys).reverse.lookup f = some v ∧ Rep C.K C.w C.ad G v d := by
  intro nm ds h3 hn hl r f d h
  match nm, ys, ds, hl, r, h with
  | [], [], [], _, .nil, h => cases h
  | [a], [x], [u], _, .cons r1 .nil, h =>
    simp only [List.zip_cons_cons, List.zip_nil_left, List.reverse_cons, List.reverse_nil, List.nil_append, List.lookup_cons] at h ⊢
    split at h
    · cases h; exact ⟨x, rfl, r1⟩
    · cases h
  | [a, b], [x, y], [u, w], _, .cons r1 (.cons r2 .nil), h =>
    have hab : a ≠ b := fun z => by simp [z] at hn
    simp only [List.zip_cons_cons, List.zip_nil_left, List.reverse_cons, List.reverse_nil, List.nil_append, List.cons_append, List.lookup_cons] at h ⊢
    by_cases q1 : f = a
    · subst q1
      rw [beq_self_eq_true] at h ⊢
      cases h
      rw [beq_eq_false_iff_ne.mpr hab]
      exact ⟨x, rfl, r1⟩
    · rw [beq_eq_false_iff_ne.mpr q1] at h ⊢
      dsimp only at h ⊢
      by_cases q2 : f = b
      · subst q2
        rw [beq_self_eq_true] at h ⊢
        cases h
        exact ⟨y, rfl, r2⟩
      · rw [beq_eq_false_iff_ne.mpr q2] at h
        cases h
  | [a, b, c], [x, y, z], [u, w, t], _, .cons r1 (.cons r2 (.cons r3 .nil)), h =>
    have hab : a ≠ b := fun z => by simp [z] at hn
    have hac : a ≠ c := fun z => by simp [z] at hn
    have hbc : b ≠ c := fun z => by simp [z] at hn
    simp only [List.zip_cons_cons, List.zip_nil_left, List.reverse_cons, List.reverse_nil, List.nil_append, List.cons_append, List.lookup_cons] at h ⊢
    by_cases q1 : f = a
    · subst q1
      rw [beq_self_eq_true] at h ⊢
      cases h
      rw [beq_eq_false_iff_ne.mpr hab, beq_eq_false_iff_ne.mpr hac]
      exact ⟨x, rfl, r1⟩
    · rw [beq_eq_false_iff_ne.mpr q1] at h ⊢
      dsimp only at h ⊢
      by_cases q2 : f = b
      · subst q2
        rw [beq_self_eq_true] at h ⊢
        cases h
        rw [beq_eq_false_iff_ne.mpr hbc]
        exact ⟨y, rfl, r2⟩
      · rw [beq_eq_false_iff_ne.mpr q2] at h ⊢
        dsimp only at h ⊢
        by_cases q3 : f = c
        · subst q3
          rw [beq_self_eq_true] at h ⊢
          cases h
          exact ⟨z, rfl, r3⟩
        · rw [beq_eq_false_iff_ne.mpr q3] at h
          cases h
  | _ :: _ :: _ :: _ :: _, _, _, _, _, _ => exact absurd h3 (by simp)
theorem cs_raise {ta : TA} {a : SA} {c : Nat} {nm : List Str} (T : OexC C.K (C.ad c)) (hf : ∀ f, f ∈ nm → PySem.W.findIn C.K (.ref (C.ad c)) f = some none) (h3 : nm.length ≤ 3) (h1 : nm ≠ []) (hn : nm.Nodup) (h : CA C xo W ta a) :
    CS C xo W (fun _ σ H => tMkO (C.ad c) (sp_initN C.K nm) [] ta σ H fun cls d H' => W cls d σ H') (sRaise c nm a) := fun G0 H0 σ G H env f D o =>
  h σ G H env f.f _ (ofE_out f o fun ds vs G1 H1 s r f1 o1 => by
    by_cases hl : ds.length = nm.length
    · rw [if_pos hl] at o1
      have hlv : vs.length = nm.length := r.length.trans hl
      refine ⟨by omega, fun e he => ?_⟩
      rw [List.append_nil]
      refine ⟨e, C.ad c, vs, rfl, hlv, ⟨T, hf, upd_same⟩, fun dx k1 k2 => ?_⟩
      have hd : H1 dx = none := by
        rw [upd_ne k2] at k1
        exact k1
      refine ⟨rfl, dx, _, upd_same, by rw [upd_ne k2]; exact upd_same, hd, ?_⟩
      have eh : Ex H1 (upd (del (upd (upd (upd H1 e (exo e (C.ad c) none)) dx (exd dx (nm.zip vs).reverse)) e (exo e (C.ad c) (some dx))) e) dx (.xd (nm.zip vs).reverse)) := fun b o hb => by
        have nb1 : b ≠ dx := fun z => by rw [z, hd] at hb; cases hb
        have nb2 : b ≠ e := fun z => by rw [z, he] at hb; cases hb
        rw [upd_ne nb1, del_ne nb2, upd_ne nb2, upd_ne nb1, upd_ne nb2]
        exact hb
      have hg : G1.g dx = none := fresh_back s.gh.e hd
      have hm : dx ∉ G1.m := s.gh.fresh hd
      have st : Step C G1 H1 (G1.upd dx (.xd (nm.zip vs).reverse)) (upd (del (upd (upd (upd H1 e (exo e (C.ad c) none)) dx (exd dx (nm.zip vs).reverse)) e (exo e (C.ad c) (some dx))) e) dx (.xd (nm.zip vs).reverse)) :=
        (Step.ofH s.gh eh).take hg hm upd_same hd
      refine o1 (some dx) σ _ _ st.g (f1.step st) ?_
      unfold XRep
      have r2 := r.mono (ExG.new (o := .xd (nm.zip vs).reverse) hg)
      cases hz : nm.zip ds with
      | nil =>
        cases nm with
        | nil => exact absurd rfl h1
        | cons _ _ =>
          cases ds with
          | nil => cases hl
          | cons _ _ => cases hz
      | cons p ps =>
        dsimp only
        rw [← hz]
        exact ⟨dx, _, rfl, upd_same, lk_rev h3 hn hlv r2⟩
    · rw [if_neg hl] at o1; exact o1.elim)
end
/-! ### a def -/
section
variable {P : Program} {w : World} {K : PySem.W.Frag} {mg : Str → Option Value} {base : Heap} {ad : Nat → Addr}
theorem start_fit {C : Cc} {xo : Xo} {G : Gd} {H : Hp} {N : List Str} {vs : List V} {ds : List D} {n k : Nat} (e : SOk C G H) (r : RepL C.K C.w C.ad G vs ds) (hd : ds.length = n) (hN : N.length = n + k) :
    Fit0 C xo G H G H (L2.start N vs) (ds.map .val ++ List.replicate k .un) := by
  have hl : vs.length = n := r.length.trans hd
  have er : List.replicate (N.length - vs.length) (none : Option V) = List.replicate k none := by rw [show N.length - vs.length = k by omega]
  have low : ∀ (i : Nat) s, (ds.map Sl.val ++ List.replicate k Sl.un)[i]? = some s → (∃ d, s = .val d ∧ ds[i]? = some d) ∨ s = .un := fun i s h => by
    rcases Nat.lt_or_ge i (ds.map Sl.val).length with hi | hi
    · rw [List.getElem?_append_left hi, List.getElem?_map] at h
      cases q : ds[i]? with
      | none => rw [q] at h; cases h
      | some d => rw [q] at h; cases h; exact Or.inl ⟨d, rfl, rfl⟩
    · rw [List.getElem?_append_right hi] at h
      exact Or.inr (List.eq_of_mem_replicate (List.mem_of_getElem? h))
  refine ⟨⟨e, ?_, fun i d h => ?_, fun i ds h => ?_, fun i ds p h => ?_, fun i j p es us h1 h2 => ?_, fun i c fs h => ?_⟩, Step.refl e, fun i es p h => ?_⟩
  · unfold L2.start
    rw [er]
    simp [hl, hd]
  · rcases low i _ h with ⟨d', q, hd'⟩ | q
    · cases q
      obtain ⟨u, hu, ru⟩ := r.get hd'
      refine ⟨u, ?_, ru⟩
      unfold L2.start
      have hi := (List.getElem?_eq_some_iff.mp hu).1
      rw [List.getElem?_append_left (by rw [List.length_map]; exact hi), List.getElem?_map, hu]
      rfl
    · cases q
  · rcases low i _ h with ⟨_, q, _⟩ | q <;> cases q
  · rcases low i _ h with ⟨_, q, _⟩ | q <;> cases q
  · rcases low i _ h1 with ⟨_, q, _⟩ | q <;> cases q
  · rcases low i _ h with ⟨_, q, _⟩ | q <;> cases q
  · rcases low i _ h with ⟨_, q, _⟩ | q <;> cases q
abbrev WF (E : XK) : WX := fun cls d _ H => E cls d H
theorem ok_defV {x qual : Str} {st : Stmt} {f : Addr} {fd : FuncData} {N ps : List Str} {l n k : Nat} {b : SS} (F : Fun K x qual st f fd) (S : FnScope N ps (defScope st)) (hn : ps.length = n) (hN : N.length = n + k)
    (h : ∀ (cdv : Value) (A : Around) (outer : List PySem.Env) (s : Shared) (H : Hp) (E : XK), Room l (A.deeper (PyProof.Rows.envOfC qual (defScope st) s.heap.objs.size f cdv)) →
      ∃ t, PSs (cxOf (L2.CX P w) P w K mg base N qual (defScope st) f cdv A outer s H E) (defBody st) t ∧ ∀ xo, CS ⟨K, w, ad⟩ xo (WF E) t b) : FnOk P w K mg base (L2.CX P w) (l + 1) f fd ps (SpD ⟨K, w, ad⟩ (defV n k b)) := by
  refine F.okX S (fun vs H Q E h => ?_) (fun cdv A outer s H vs Q E hr hs => ?_)
  · obtain ⟨G, ds, e, r, o⟩ := h
    rw [hn, r.length]
    exact (out_if o).1
  · obtain ⟨t, ht, hc⟩ := h cdv A outer s H E hr
    obtain ⟨G, ds, e, r, o⟩ := hs
    obtain ⟨hd, o⟩ := out_if o
    have f0 := start_fit (xo := ⟨0, .none, none⟩) (C := ⟨K, w, ad⟩) e r hd hN
    refine ⟨t, ht, hc ⟨0, .none, none⟩ G H _ G H _ f0 _ ?_⟩
    unfold OutS
    have o : OutR ⟨K, w, ad⟩ (rV ⟨K, w, ad⟩) E G H Q (endD (b (ds.map .val ++ List.replicate k .un) G.s)) := o
    unfold endD at o
    cases c : b (ds.map .val ++ List.replicate k .un) G.s with
    | rt s t =>
      rw [c] at o
      cases s with
      | val d => exact o
      | own xs =>
        intro v G' H' st q
        obtain ⟨⟨p, vs, rfl, h1, hm, h2, h3⟩, h4⟩ := q
        exact o (.ref p) _ H' (st.take h1 hm h2 (h4 p rfl)) (.lst upd_same (h3.mono (ExG.new h1)))
      | un => exact False.elim o
      | exn _ _ => exact False.elim o
    | nx e2 t =>
      rw [c] at o
      intro σ G' H' e f'
      have z : G'.s = t := e.s
      subst z
      exact o .non G' H' f'.s .non
    | exc q fs e2 t =>
      rw [c] at o
      intro dd σ G' H' e f' x
      have z : G'.s = t := e.s
      subst z
      exact o dd G' H' f'.s x
    | bk e2 t => rw [c] at o; exact False.elim o
    | ct e2 t => rw [c] at o; exact False.elim o
    | bad => rw [c] at o; exact False.elim o
theorem ok_defL {x qual : Str} {st : Stmt} {f : Addr} {fd : FuncData} {N ps : List Str} {l n k : Nat} {b : SS} (F : Fun K x qual st f fd) (S : FnScope N ps (defScope st)) (hn : ps.length = n) (hN : N.length = n + k)
    (h : ∀ (cdv : Value) (A : Around) (outer : List PySem.Env) (s : Shared) (H : Hp) (E : XK), Room l (A.deeper (PyProof.Rows.envOfC qual (defScope st) s.heap.objs.size f cdv)) →
      ∃ t, PSs (cxOf (L2.CX P w) P w K mg base N qual (defScope st) f cdv A outer s H E) (defBody st) t ∧ ∀ xo, CS ⟨K, w, ad⟩ xo (WF E) t b) : FnOk P w K mg base (L2.CX P w) (l + 1) f fd ps (SpL ⟨K, w, ad⟩ (defL n k b)) := by
  refine F.okX S (fun vs H Q E h => ?_) (fun cdv A outer s H vs Q E hr hs => ?_)
  · obtain ⟨G, ds, e, r, o⟩ := h
    rw [hn, r.length]
    exact (out_if o).1
  · obtain ⟨t, ht, hc⟩ := h cdv A outer s H E hr
    obtain ⟨G, ds, e, r, o⟩ := hs
    obtain ⟨hd, o⟩ := out_if o
    have f0 := start_fit (xo := ⟨0, .none, none⟩) (C := ⟨K, w, ad⟩) e r hd hN
    refine ⟨t, ht, hc ⟨0, .none, none⟩ G H _ G H _ f0 _ ?_⟩
    unfold OutS
    have o : OutR ⟨K, w, ad⟩ (rF ⟨K, w, ad⟩ H) E G H Q (endDL (b (ds.map .val ++ List.replicate k .un) G.s)) := o
    unfold endDL at o
    cases c : b (ds.map .val ++ List.replicate k .un) G.s with
    | rt s t =>
      rw [c] at o
      cases s with
      | own xs => exact o
      | val d => exact False.elim o
      | un => exact False.elim o
      | exn _ _ => exact False.elim o
    | exc q fs e2 t =>
      rw [c] at o
      intro dd σ G' H' e f' x
      have z : G'.s = t := e.s
      subst z
      exact o dd G' H' f'.s x
    | nx e2 t => rw [c] at o; exact False.elim o
    | bk e2 t => rw [c] at o; exact False.elim o
    | ct e2 t => rw [c] at o; exact False.elim o
    | bad => rw [c] at o; exact False.elim o
/-! ### the law -/
def sp_law (K : PySem.W.Frag) : Sp := fun vs H Q _ => ∃ (a : Addr) (ns : List Int), vs = [.ref a] ∧ (SqL K H a (ns.map V.int) ∧ ns.length ≤ 63) ∧ ∀ H1, Q (.bl true) H1
theorem law_in {K : PySem.W.Frag} {H : Hp} {a : Addr} {ns : List Int} (hl : ns.length ≤ 63) (hS : SqL K H a (ns.map V.int)) : sp_law K [.ref a] H (fun v _ => v = .bl true) (fun _ _ _ => False) := ⟨a, ns, rfl, ⟨hS, hl⟩, fun _ => rfl⟩
theorem rep_ints {C : Cc} {G : Gd} : ∀ ns : List Int, RepL C.K C.w C.ad G (ns.map V.int) (ns.map D.int)
  | [] => .nil
  | n :: ns => .cons (.int n) (rep_ints ns)
/-- the ground at the law's start: nothing known beyond the heap, no cells -/
abbrev G00 (H : Hp) : Gd := ⟨H, [], []⟩
theorem ok00 {C : Cc} (H : Hp) : SOk C (G00 H) H := ⟨Ex.refl H, rfl, List.nodup_nil, fun n a c h => by cases h⟩
/-- what a law comes to: True, whatever the store is in the end -/
def TrueAt (r : Rs D) : Prop := ∃ s, r = .ok (.bl true) s
theorem ok_law {x qual : Str} {st : Stmt} {f : Addr} {fd : FuncData} {N ps : List Str} {l k : Nat} {b : SS} (F : Fun K x qual st f fd) (S : FnScope N ps (defScope st)) (hn : ps.length = 1) (hN : N.length = 1 + k)
    (hm : ∀ ns : List Int, ns.length ≤ 63 → TrueAt (defV 1 k b [.scr (ns.map .int)] []))
    (h : ∀ (cdv : Value) (A : Around) (outer : List PySem.Env) (s : Shared) (H : Hp) (E : XK), Room l (A.deeper (PyProof.Rows.envOfC qual (defScope st) s.heap.objs.size f cdv)) →
      ∃ t, PSs (cxOf CX0 P w K mg base N qual (defScope st) f cdv A outer s H E).nox (defBody st) t ∧ ∀ xo, CS ⟨K, w, ad⟩ xo W0 t b) : FnOk P w K mg base CX0 (l + 1) f fd ps (sp_law K) := by
  refine F.ok S (fun vs H Q E h => ?_) (fun cdv A outer s H vs Q E hr hs => ?_)
  · obtain ⟨a, ns, rfl, _⟩ := h
    exact hn.symm
  · obtain ⟨t, ht, hc⟩ := h cdv A outer s H E hr
    obtain ⟨a, ns, rfl, ⟨hS, hl⟩, q⟩ := hs
    have e : SOk ⟨K, w, ad⟩ (G00 H) H := ok00 H
    obtain ⟨u, m⟩ := hm ns hl
    have r : RepL K w ad (G00 H) [.ref a] [.scr (ns.map D.int)] := .cons (.scr hS (rep_ints (C := ⟨K, w, ad⟩) ns)) .nil
    have f0 := start_fit (xo := ⟨0, .none, none⟩) (C := ⟨K, w, ad⟩) (n := 1) e r rfl hN
    refine ⟨t, ht, hc ⟨0, .none, none⟩ (G00 H) H _ (G00 H) H _ f0 _ ?_⟩
    have m : endD (b ([D.scr (ns.map .int)].map .val ++ List.replicate k .un) []) = .ok (.bl true) u := m
    unfold endD at m
    unfold OutS
    show OutT _ _ _ _ _ _ _ (b ([D.scr (ns.map .int)].map .val ++ List.replicate k .un) [])
    cases c : b ([D.scr (ns.map .int)].map .val ++ List.replicate k .un) [] with
    | rt s u =>
      rw [c] at m
      cases s with
      | val d =>
        cases m
        intro v G' H' st r
        cases r
        exact q H'
      | own xs => cases m
      | un => cases m
      | exn _ _ => cases m
    | nx e2 u => rw [c] at m; cases m
    | exc _ _ _ _ => rw [c] at m; cases m
    | bk _ _ => rw [c] at m; cases m
    | ct _ _ => rw [c] at m; cases m
    | bad => rw [c] at m; cases m
end
end Dm
set_option Elab.async false
set_option linter.all false
set_option maxRecDepth 100000
set_option maxHeartbeats 4000000
namespace Dm
open PySem L2 Evl RZ Wm
section
variable {C : Cc} {xo : Xo} {W : WX} {G G' G0 : Gd} {H H' H0 : Hp} {σ : L2.St} {env : Env} {E : XK}
/-! a list of one's own, looked at while it grows -/
theorem ce_lenO {i : Nat} : CE C xo W (tCB (rLenX C.K) (tCons (tVar i) tNil)) (eLenO i) := fun σ G H env ft Q o => by
  unfold eLenO at o
  cases c : env[i]? with
  | none => rw [c] at o; exact o.elim
  | some s =>
    rw [c] at o
    cases s with
    | own xs =>
      obtain ⟨p, vs, h1, h2, h3, h4⟩ := ft.own i xs c
      refine ⟨.ref p, h1, Or.inr ⟨p, vs, rfl, Or.inl (sq_of h3), ?_⟩⟩
      rw [h4.length]
      exact o _ G H (Step.refl ft.ok) (.int _)
    | un => exact o.elim
    | val _ => exact o.elim
    | exn _ _ => exact o.elim
theorem ce_ixO {i : Nat} {tb : TE} {b : SE} (h : CE C xo W tb b) : CE C xo W (tOp (rIxX C.K C.w) (tVar i) tb) (eIxO i b) := fun σ G H env ft Q o => by
  unfold eIxO at o
  cases c : env[i]? with
  | none => rw [c] at o; exact o.elim
  | some s =>
    rw [c] at o
    cases s with
    | own xs =>
      obtain ⟨p, vs, h1, h2, h3, h4⟩ := ft.own i xs c
      refine ⟨.ref p, h1, h σ G H env ft _ (Out.bind o fun d v G1 H1 _ s1 r1 o1 => ?_)⟩
      cases r1 with
      | int k =>
        dsimp only at o1
        cases ck : L2.atI xs k with
        | none => rw [ck] at o1; exact o1.elim
        | some d =>
          rw [ck] at o1
          obtain ⟨u, hu, ru⟩ := h4.atI ck
          exact Or.inl (Or.inl ⟨p, vs, k, u, rfl, rfl, sq_of (s1.h _ _ h3 (ft.om i xs p c h1)), hu, o1 _ G1 H1 (Step.refl s1.gh) (ru.mono s1.g)⟩)
      | _ => exact o1.elim
    | un => exact o.elim
    | val _ => exact o.elim
    | exn _ _ => exact o.elim
end
/-! x += e -/
theorem pip_of {X : Cx} {op : Operator} {r : R2} (ho : OpR X (inplaceOp op) r) : PIp X op r := fun pins s σ H x y v u Q I rx ry h => augR ho I rx ry h
def rAddX : R2 := fun x y H Q => rI0 (fun i j => .int (i + j)) x y H Q ∨ ((fun (x y : V) H Q => ∃ i j, x = .str i ∧ y = .str j ∧ i.length + j.length ≤ sizeLine ∧ Q (V.str (i ++ j)) H) : R2) x y H Q
theorem ip_addX {X : Cx} : PIp X .Add rAddX := pip_of (iop_add.or iop_add_str)
theorem od_addX {C : Cc} : OpD C rAddX dAddX := by
  intro G H x y dx dy e rx ry E Q o
  cases rx with
  | int i => cases ry with
    | int j => exact Or.inl ⟨i, j, rfl, rfl, o _ G H (Step.refl e) (.int _)⟩
    | _ => exact False.elim o
  | str a => cases ry with
    | str b =>
      obtain ⟨hz, o⟩ := out_ifE (p := a.length + b.length ≤ Z) o
      exact Or.inr ⟨a, b, rfl, rfl, sz_of hz, o _ G H (Step.refl e) (.str _)⟩
    | _ => exact False.elim o
  | _ => exact False.elim o
theorem ip_subX {X : Cx} : PIp X .Sub (rI0 fun i j => .int (i - j)) := pip_of iop_sub
/-! exceptions with fields -/
structure ExN (K : PySem.W.Frag) (mg : Str → Option Value) (x : Str) (C I : Addr) (nm : List Str) : Prop where
  g : mg x = some (.ref C)
  o : OexC K C
  i : PySem.W.findIn K (.ref C) "__init__" = some (some (.ref I))
  t : PySem.W.typeIn K (.ref I) = some (.type "function")
  n : ∀ f, f ∈ nm → PySem.W.findIn K (.ref C) f = some none
  xf : XfC K C
structure InitN (P : Program) (w : World) (K : PySem.W.Frag) (mg : Str → Option Value) (base : Heap) (a : Addr) (fd : FuncData) (ps nm : List Str) : Prop where
  ok : FnOk P w K mg base CX0 1 a fd ps (sp_initN K nm)
  b : Binds K fd ps []
theorem initN_len {K : PySem.W.Frag} {nm : List Str} {vs : List V} {H : Hp} {Q : VK} {E : XK} (h : sp_initN K nm vs H Q E) : vs.length = nm.length + 1 := by
  obtain ⟨a, C, ys, rfl, h2, _⟩ := h
  rw [List.length_cons, h2]
theorem init1 {K : PySem.W.Frag} {f : Str} {vs : List V} {H : Hp} {Q : VK} {E : XK} (h : sp_initN K [f] vs H Q E) : tSeq (tOst K f (tVar 0) (tVar 1)) tNext { nx := fun _ H' => Q .non H', rt := Q } (L2.start ["self", f] vs) H := by
  obtain ⟨a, C, ys, rfl, hl, ⟨T, hf, ha⟩, q⟩ := h
  match ys, hl with
  | [y], _ => exact ⟨_, rfl, _, rfl, a, C, rfl, T, hf f (List.mem_singleton.mpr rfl), Or.inl ⟨ha, fun dx h1 h2 => q dx h1 h2⟩⟩
theorem upd_swap {H : Hp} {a b : Addr} {o u : HO} (h : a ≠ b) : upd (upd H a o) b u = upd (upd H b u) a o := by
  funext c
  unfold upd
  by_cases h1 : c = b
  · subst h1
    rw [if_pos rfl, if_neg (Ne.symm h), if_pos rfl]
  · rw [if_neg h1]
    by_cases h2 : c = a
    · subst h2
      rw [if_pos rfl, if_pos rfl]
    · rw [if_neg h2, if_neg h2, if_neg h1]
theorem ost_fold {H : Hp} {a dx C : Addr} {f1 f2 : List (Str × V)} (h : dx ≠ a) : upd (upd (upd H dx (exd dx f1)) a (exo a C (some dx))) dx (exd dx f2) = upd (upd H dx (exd dx f2)) a (exo a C (some dx)) := by
  rw [upd_swap h, upd_upd, ← upd_swap h]
theorem init2 {K : PySem.W.Frag} {f g : Str} {vs : List V} {H : Hp} {Q : VK} {E : XK} (h : sp_initN K [f, g] vs H Q E) : tSeq (tOst K f (tVar 0) (tVar 1)) (tSeq (tOst K g (tVar 0) (tVar 2)) tNext) { nx := fun _ H' => Q .non H', rt := Q } (L2.start ["self", f, g] vs) H := by
  obtain ⟨a, C, ys, rfl, hl, ⟨T, hf, ha⟩, q⟩ := h
  match ys, hl with
  | [y, z], _ =>
    refine ⟨_, rfl, _, rfl, a, C, rfl, T, hf f List.mem_cons_self, Or.inl ⟨ha, fun dx h1 h2 => ?_⟩⟩
    refine ⟨_, rfl, _, rfl, a, C, rfl, T, hf g (List.mem_cons_of_mem _ List.mem_cons_self), Or.inr ⟨dx, [(f, y)], upd_same, by rw [upd_ne h2]; exact upd_same, Nat.le_of_ble_eq_true rfl, ?_⟩⟩
    rw [ost_fold h2]
    exact q dx h1 h2
theorem init3 {K : PySem.W.Frag} {f g k : Str} {vs : List V} {H : Hp} {Q : VK} {E : XK} (h : sp_initN K [f, g, k] vs H Q E) :
    tSeq (tOst K f (tVar 0) (tVar 1)) (tSeq (tOst K g (tVar 0) (tVar 2)) (tSeq (tOst K k (tVar 0) (tVar 3)) tNext)) { nx := fun _ H' => Q .non H', rt := Q } (L2.start ["self", f, g, k] vs) H := by
  obtain ⟨a, C, ys, rfl, hl, ⟨T, hf, ha⟩, q⟩ := h
  match ys, hl with
  | [y, z, u], _ =>
    refine ⟨_, rfl, _, rfl, a, C, rfl, T, hf f List.mem_cons_self, Or.inl ⟨ha, fun dx h1 h2 => ?_⟩⟩
    refine ⟨_, rfl, _, rfl, a, C, rfl, T, hf g (List.mem_cons_of_mem _ List.mem_cons_self), Or.inr ⟨dx, [(f, y)], upd_same, by rw [upd_ne h2]; exact upd_same, Nat.le_of_ble_eq_true rfl, ?_⟩⟩
    rw [ost_fold h2]
    refine ⟨_, rfl, _, rfl, a, C, rfl, T, hf k (List.mem_cons_of_mem _ (List.mem_cons_of_mem _ List.mem_cons_self)), Or.inr ⟨dx, [(g, z), (f, y)], upd_same, by rw [upd_ne h2]; exact upd_same, Nat.le_of_ble_eq_true rfl, ?_⟩⟩
    rw [ost_fold h2]
    exact q dx h1 h2
/-! constants of the module, seen in its objects -/
def allP {α β : Type} (f : α → β → Bool) : List α → List β → Bool
  | [], [] => true
  | u :: us, d :: ds => f u d && allP f us ds
  | _, _ => false
def isDv (K : PySem.W.Frag) (fns : List (Nat × Addr)) (f : List Value → List D → Bool) : Value → D → Bool
  | .none, .non => true
  | .bool a, .bl b => a == b
  | .int i _, .int j => decide (i = j)
  | .str i _, .str j => decide (i = j)
  | .ref a, .fn k => match fns.lookup k with
    | some b => Nat.beq a b
    | none => false
  | .ref a, .tup ds => match K.lookup a with
    | some ⟨.type c, _, .seq its _, _⟩ => c == "tuple" && Nat.ble its.size 100000 && f its.toList ds
    | _ => false
  | .ref a, .ktp ds => match K.lookup a with
    | some ⟨.type c, none, .seq its _, _⟩ => c == "tuple" && Nat.ble its.size 100000 && f its.toList ds
    | _ => false
  | .ref a, .scr ds => match K.lookup a with
    | some ⟨.type c, none, .seq its _, _⟩ => c == "list" && Nat.ble its.size 100000 && f its.toList ds
    | _ => false
  | _, _ => false
def isD (K : PySem.W.Frag) (fns : List (Nat × Addr)) : Nat → Value → D → Bool
  | 0 => fun _ _ => false
  | n + 1 => isDv K fns (allP (isD K fns n))
section
variable {K : PySem.W.Frag} {w : World} {ad : Nat → Addr} {fns : List (Nat × Addr)}
theorem allP_ok {f : Value → D → Bool} (h : ∀ u d, f u d = true → ∃ v, RelV v u ∧ ∀ G, Rep K w ad G v d) : ∀ (us : List Value) (ds : List D), allP f us ds = true → ∃ vs, Vals vs us ∧ ∀ G, RepL K w ad G vs ds
  | [], [], _ => ⟨[], .nil, fun _ => .nil⟩
  | u :: us, d :: ds, q => by
    unfold allP at q
    rw [Bool.and_eq_true] at q
    obtain ⟨v, r1, q1⟩ := h u d q.1
    obtain ⟨vs, r2, q2⟩ := allP_ok h us ds q.2
    exact ⟨v :: vs, .cons r1 r2, fun G => .cons (q1 G) (q2 G)⟩
  | [], _ :: _, q => by unfold allP at q; cases q
  | _ :: _, [], q => by unfold allP at q; cases q
theorem isDv_ok (hf : ∀ k b, fns.lookup k = some b → ad k = b) {f : List Value → List D → Bool} (hl : ∀ us ds, f us ds = true → ∃ vs, Vals vs us ∧ ∀ G, RepL K w ad G vs ds) : ∀ (u : Value) (d : D), isDv K fns f u d = true → ∃ v, RelV v u ∧ ∀ G, Rep K w ad G v d := by
  intro u d h
  unfold isDv at h
  split at h
  · exact ⟨.non, rfl, fun _ => .non⟩
  · rename_i a b
    obtain rfl : a = b := beq_iff_eq.mp h
    exact ⟨.bl a, rfl, fun _ => .bl a⟩
  · rename_i i _ j
    obtain rfl : i = j := of_decide_eq_true h
    exact ⟨.int i, ⟨_, rfl⟩, fun _ => .int i⟩
  · rename_i i _ j
    obtain rfl : i = j := of_decide_eq_true h
    exact ⟨.str i, ⟨_, rfl⟩, fun _ => .str i⟩
  · rename_i a k
    split at h
    · rename_i b hb
      have e : a = b := Nat.eq_of_beq_eq_true h
      subst e
      rw [← hf k a hb]
      exact ⟨.ref (ad k), rfl, fun _ => .fn k⟩
    · cases h
  · rename_i a ds
    split at h
    · rename_i c dd its z sl hk
      simp only [Bool.and_eq_true] at h
      obtain ⟨⟨h1, h2⟩, h3⟩ := h
      have e : c = "tuple" := eq_of_beq h1
      subst e
      obtain ⟨vs, r, q⟩ := hl its.toList ds h3
      exact ⟨.ref a, rfl, fun G => .tup (Or.inr ⟨_, its, z, hk, rfl, rfl, Nat.le_trans (Nat.le_of_ble_eq_true h2) (by decide), r⟩) (q G)⟩
    · cases h
  · rename_i a ds
    split at h
    · rename_i c its z sl hk
      simp only [Bool.and_eq_true] at h
      obtain ⟨⟨h1, h2⟩, h3⟩ := h
      have e : c = "tuple" := eq_of_beq h1
      subst e
      obtain ⟨vs, r, q⟩ := hl its.toList ds h3
      exact ⟨.ref a, rfl, fun G => .ktp (Or.inr ⟨_, its, z, hk, rfl, rfl, Nat.le_trans (Nat.le_of_ble_eq_true h2) (by decide), r⟩) ⟨_, hk, rfl, rfl⟩ (q G)⟩
    · cases h
  · rename_i a ds
    split at h
    · rename_i c its z sl hk
      simp only [Bool.and_eq_true] at h
      obtain ⟨⟨h1, h2⟩, h3⟩ := h
      have e : c = "list" := eq_of_beq h1
      subst e
      obtain ⟨vs, r, q⟩ := hl its.toList ds h3
      exact ⟨.ref a, rfl, fun G => .scr (Or.inr ⟨_, its, z, hk, rfl, rfl, rfl, Nat.le_trans (Nat.le_of_ble_eq_true h2) (by decide), r⟩) (q G)⟩
    · cases h
  · cases h
theorem isD_ok (hf : ∀ k b, fns.lookup k = some b → ad k = b) : ∀ (n : Nat) (u : Value) (d : D), isD K fns n u d = true → ∃ v, RelV v u ∧ ∀ G, Rep K w ad G v d
  | 0, _, _, h => by cases h
  | n + 1, u, d, h => isDv_ok hf (allP_ok (isD_ok hf n)) u d h
theorem isD_rep {mg : Str → Option Value} {x : Str} {n : Nat} {u : Value} {d : D} (hf : ∀ k b, fns.lookup k = some b → ad k = b) (hm : mg x = some u) (h : isD K fns n u d = true) : ∃ v u, mg x = some u ∧ RelV v u ∧ ∀ G, Rep K w ad G v d := by
  obtain ⟨v, r, q⟩ := isD_ok (w := w) hf n u d h
  exact ⟨v, u, hm, r, q⟩
/-- a written dict with text keys -/
theorem dct_rep {mg : Str → Option Value} {x : Str} {a : Addr} {es : Array DictEntry} {n : Nat} {ks : List Str} {vs : List V} {ds : List D} (hm : mg x = some (.ref a)) (hk : K.lookup a = some ⟨.type "dict", none, .dict es n, #[]⟩) (he : EntsK w.params (ks.zip vs) es.toList) (hl : (a == sysModules) = false)
    (hz : ks.length = vs.length) (r : ∀ G, RepL K w ad G vs ds) : ∃ v u, mg x = some u ∧ RelV v u ∧ ∀ G, Rep K w ad G v (.dct ks ds) :=
  ⟨.ref a, .ref a, hm, rfl, fun G => .dct hz ⟨⟨es, n, hk, he⟩, hl⟩ (r G)⟩
end
end Dm
set_option Elab.async false
set_option linter.all false
set_option maxRecDepth 100000
set_option maxHeartbeats 4000000
namespace Dm
open PySem L2 Evl RZ Wm
/-! exceptions without fields -/
structure Ex0 (K : PySem.W.Frag) (mg : Str → Option Value) (x : Str) (C : Addr) : Prop where
  g : mg x = some (.ref C)
  q : ∃ B newId initId bmB, ExcBaseFacts B newId initId bmB ∧ PySem.W.excIn K C bmB newId = true
  k : PySem.W.keepIn K (.ref C) = true
  s : PySem.W.subIn K (.ref C) (.type "BaseException") = some true
  t : PySem.W.typeIn K (.ref C) = some (.type "type")
theorem pmk_ex0 {X : Cx} {C : Addr} {x : Str} {p pos : Pos} (T : Ex0 X.K X.mg x C) (hg : Gl X x) (hdb : (x == ("__debug__" : Str)) = false := by decide) : PMk X (.Call (.Name x p) [] [] pos) (fun _ H Q => Q (.ref C) none H) := by
  intro pins s σ H Q I h
  obtain ⟨B, newId, initId, bmB, F, q⟩ := T.q
  have r : Raises X (.ref C) := fun M h XX => ⟨PySem.W.looks_subIn XX T.s, PySem.W.looks_typeIn XX T.t⟩
  refine wpAny_Call_Name_kw (ld_glob I hg T.g ?_ hdb)
  refine PySem.W.callWith_K0 I.kIn T.k ?_
  show wpAny _ _ (call (.ref C) []) _ _ _
  obtain ⟨bm, N, nm, qn, bs, hdct, sn, sub, ab, col, dd, k0, k1, k2, k3, k5, mN, hC, hN, hni, TT⟩ := exc_obj I.kIn q
  refine wpAny_call_exc_subT F TT hC hN hni (fun h' e hm => ?_) (by show 0 ≤ sizeLine; rw [sizeLine_eq]; omega)
  exact mk_of I hm r h (I.hok.gone hm.new)
section
variable {C : Cc} {xo : Xo} {W : WX} {G G' G0 : Gd} {H H' H0 : Hp} {σ : L2.St} {env : Env} {E : XK}
theorem cs_raise0 {c : Nat} : CS C xo W (fun _ σ H => W (.ref (C.ad c)) none σ H) (sRaise c [] eNil) := fun G0 H0 σ G H env f D o => by
  have o1 : OutS C xo W G0 H0 G D (.exc c [] env) := o
  exact o1 none σ G H (ExG.refl G) f rfl
end
theorem passN {X : Cx} : Passes (L2.CX X.prog X.w) X E0 := fun _ _ _ _ _ _ _ h => by
  obtain ⟨_, _, _, _, _, _, _, _, _, _, _, _, h⟩ := h
  exact h.elim
theorem cl0X {X : Cx} {k : Nat} {x : Str} {a : Addr} {fd : FuncData} {ps : List Str} {sp : Sp} {p pos : Pos} (O : DfX X.prog X.w X.K X.mg X.base k x a fd ps sp) (hr : Room k X.A) (hg : Gl X x) (hdb : (x == ("__debug__" : Str)) = false := by decide) : PE X (.Call (.Name x p) [] [] pos) (tCall sp [] E0 tNil) :=
  pe_call0 O.ok hr hg O.g O.kp O.b .nil passN hdb
theorem rep_fn {K : PySem.W.Frag} {w : World} {ad : Nat → Addr} {H : Gd} (n : Nat) {f : Addr} (h : ad n = f) : Rep K w ad H (.ref f) (.fn n) := by
  subst h
  exact .fn n
/-! a call of a local name -/
theorem pe_callRS {X : Cx} {k i : Nat} {x : Str} {p pos : Pos} {e : Expr} {es : List Expr} {t : TA} {E : L2.St → XK} {S : Addr → Sp → Prop} (A : ∀ f sp, S f sp → HeldX X.prog X.w X.K X.mg X.base k f sp) (hr : Room k X.A) (hN : X.N[i]? = some x) (hv : Vis X.env.scope x) (hx : ∀ σ, PassesAt (L2.CX X.prog X.w) X σ (E σ)) (ha : PA X (e :: es) t)
    (hdb : (x == ("__debug__" : Str)) = false := by decide) (hcd : (x == ("__classdict__" : Str)) = false := by decide)
    (he : starEach (e :: es) X.env = (false, eval e X.env) :: starEach es X.env := by rfl) (hpl : (backTo pos (starEach es X.env)).any (·.1) = false := by rfl) : PE X (.Call (.Name x p) (e :: es) [] pos) (tCallRS i S E t) := by
  refine ⟨fun pins s σ H Q I h => ?_⟩
  obtain ⟨f, sp, hs, hS, ht⟩ := h
  obtain ⟨fd, ps, F, hk, hb⟩ := (A f sp hS).ex
  refine wpAny_Call_Name_kw (thn ((pe_var (pos := p) hN hv hdb hcd).run pins s σ H (fun v H1 => v = .ref f ∧ H1 = H) I ⟨.ref f, hs, rfl, rfl⟩) fun u s1 ⟨v, H1, I1, r1, q1⟩ => ?_)
  obtain ⟨rfl, rfl⟩ := q1
  cases r1
  refine PySem.W.callWith_K (h₀ := X.base) I.ok.mod.kin hk (thn (ha.run pos pins s1 σ _ _ I1 ht) fun us s2 ⟨vs, H2, I2, r, q⟩ => ⟨I2.kIn, ?_⟩) he hpl
  exact run_fnS F hr hb (hx σ) I2 r q
/-! isinstance of the exception in the hand -/
structure IsC (K : PySem.W.Frag) (D : Addr) : Prop where
  hg : PySem.W.findIn K (.ref D) "__getattribute__" = some (some (.builtin "BaseException.__getattribute__"))
  hk : PySem.W.findIn K (.ref D) "__getattr__" = some none
  hs : PySem.W.subIn K (.ref D) (.type "BaseException") = some true
  hc : (PySem.W.clsIn K D).isSome = true
  ha : PySem.W.findIn K (.ref D) "__class__" = some (some (.builtin "object.__class__"))
  hn : PySem.W.specialIn K (.builtin "object.__class__") "__get__" = some (some (.builtin "getset_descriptor.__get__"))
  ht : PySem.W.takesIn K (.builtin "object.__class__") = some true
  hm : PySem.W.mroIn K D (.type "object") = some true
theorem clsSome {K : PySem.W.Frag} {D : Addr} (h : PySem.W.hasDictIn K D = true) : (PySem.W.clsIn K D).isSome = true := by
  obtain ⟨cd, hc, _⟩ := PySem.W.any_some h
  rw [hc]
  rfl
/-- isinstance(e, c), e the exception that the suite holds, c a class of the text or a built-in one -/
def rIsX (K : PySem.W.Frag) (cls : Value) (d : Option Addr) (a : Addr) : List V → Hp → VK → Prop := fun xs H Q => ∃ (D : Addr) (c : V) (cv : Value) (b : Bool), cls = .ref D ∧ IsC K D ∧ xs = [.ref a, c] ∧ ClsV c cv ∧ PySem.W.kitOne K (.ref D) cv = some b ∧ (d = none ∨ ∃ q fs, d = some q ∧ H q = some (.xd fs)) ∧ Q (.bl b) H
theorem call_isX {X : Cx} {a : Addr} {cls : Value} {d : Option Addr} {oe : Obj} {pn : List (Addr × Obj)} (hz : Zc cls d oe) (hf : ∃ vs, oe.data = .fields vs) : CallR (X.suite a ((a, oe) :: pn)) (.builtin "isinstance") (rIsX X.K cls d a) := by
  intro pins s σ H xs us Q I r h
  obtain ⟨D, c, cv, b, rfl, CC, rfl, k, e, hd, q⟩ := h
  obtain ⟨u1, u2, rfl, r1, r2⟩ := vals2 r
  cases r1
  have ec := k.eq r2
  subst ec
  obtain ⟨hget, _⟩ := I.pin (a, oe) (List.mem_append.mpr (.inl List.mem_cons_self))
  obtain ⟨vs, hv⟩ := hf
  obtain ⟨od, J⟩ : ∃ od, PySem.W.InstAt s.heap a oe D od := by
    obtain ⟨oc, odd, oda, osl⟩ := oe
    obtain ⟨h1, h2⟩ := hz
    dsimp only at h1 h2 hv
    subst h1 h2 hv
    rcases hd with rfl | ⟨p, fs, rfl, hp⟩
    · exact ⟨none, hget, rfl, rfl, trivial⟩
    · obtain ⟨o, ho⟩ := objOk_get (I.hok p _ hp)
      exact ⟨some o, hget, rfl, rfl, ho⟩
  exact PySem.W.kia_one (PySem.W.kitx_exc CC.hc CC.hg CC.hk CC.hs CC.ha CC.hn CC.ht CC.hm) I.kIn J e (fun z => nomatch z) fun tk => ⟨.bl b, H, I.kept (t' := tk) fun _ _ z => z, rfl, q⟩
/-- isinstance(e, ..): what the table says of e's class -/
def eIsx (i : Nat) (tab : Nat → Option Bool) : SE := fun env => match env[i]? with
  | some (.exn c _) => match tab c with
    | some b => .ok (.bl b)
    | none => .bad
  | _ => .bad
section
variable {C : Cc} {xo : Xo} {W : WX} {G G' G0 : Gd} {H H' H0 : Hp} {σ : L2.St} {env : Env} {E : XK}
theorem ce_isx {i : Nat} {tab : Nat → Option Bool} {c : V} {cv : Value} (k : ClsV c cv) (ht : ∀ m b, tab m = some b → IsC C.K (C.ad m) ∧ PySem.W.kitOne C.K (.ref (C.ad m)) cv = some b) :
    CE C xo W (tCB (rIsX C.K xo.cls xo.d xo.a) (tCons (tVar i) (tCons (tC c) tNil))) (eIsx i tab) := fun σ G H env ft Q o => by
  unfold eIsx at o
  cases c1 : env[i]? with
  | none => rw [c1] at o; exact o.elim
  | some s =>
    rw [c1] at o
    cases s with
    | exn c2 fs =>
      obtain ⟨h1, h2, h3⟩ := ft.exn i c2 fs c1
      dsimp only at o
      cases hb : tab c2 with
      | none => rw [hb] at o; exact o.elim
      | some b =>
        rw [hb] at o
        obtain ⟨t1, t2⟩ := ht c2 b hb
        refine ⟨_, h1, ?_⟩
        refine ⟨_, c, cv, b, h2, t1, rfl, k, t2, ?_, o _ G H (Step.refl ft.ok) (.bl _)⟩
        cases fs with
        | nil => exact Or.inl h3
        | cons f fs =>
          obtain ⟨q, vfs, k1, k2, _⟩ := h3
          exact Or.inr ⟨q, vfs, k1, ft.ex _ _ k2⟩
    | un => exact o.elim
    | val _ => exact o.elim
    | own _ => exact o.elim
end
/-! int(a text of digits) -/
def fIntS : List D → R D
  | [.str a] => match PySem.intText? a with
    | some n => if a.length ≤ 640 then .ok (.int n) else .bad
    | none => .bad
  | _ => .bad
def rIntS : List V → Hp → VK → Prop := fun xs H Q => ∃ a n, xs = [.str a] ∧ PySem.intText? a = some n ∧ a.length ≤ 640 ∧ Q (.int n) H
theorem call_intS {X : Cx} : CallR X (.type "int") rIntS := call_int_str
section
variable {C : Cc}
theorem cd_intS : CallD C rIntS fIntS := by
  intro G H vs ds e r E Q o
  cases r with
  | nil => exact False.elim o
  | cons h r =>
    cases r with
    | cons _ _ => cases h <;> exact False.elim o
    | nil =>
      cases h with
      | str a =>
        have o2 : Out C (rV C) E G H Q (match PySem.intText? a with
          | some n => if a.length ≤ 640 then .ok (.int n) else .bad
          | none => .bad) := o
        cases c : PySem.intText? a with
        | none => rw [c] at o2; exact o2.elim
        | some n =>
          rw [c] at o2
          obtain ⟨hz, o2⟩ := out_ifE o2
          exact ⟨a, n, rfl, c, hz, o2 _ G H (Step.refl e) (.int _)⟩
      | _ => exact False.elim o
end
/-! xs.index(y) of a list of flat data, where it is -/
def idxD (y : D) : List D → Option Nat
  | [] => none
  | x :: xs => if x.eqv y = true then some 0 else (idxD y xs).map (· + 1)
def lIdx (xs : List D) : List D → R D
  | [y] => if flatD y = true ∧ xs.all flatD = true then (match idxD y xs with | some j => .ok (.int (j : Nat)) | none => .bad) else .bad
  | _ => .bad
def mLIndex : D → List D → R D
  | .lst xs, ds | .scr xs, ds => lIdx xs ds
  | _, _ => .bad
section
variable {C : Cc} {xo : Xo} {W : WX} {G G' G0 : Gd} {H H' H0 : Hp} {σ : L2.St} {env : Env} {E : XK}
theorem idx_V {y : D} {u : V} (hy : Rep C.K C.w C.ad G u y) (fy : flatD y = true) : ∀ {vs : List V} {xs : List D} {j : Nat}, RepL C.K C.w C.ad G vs xs → xs.all flatD = true → idxD y xs = some j → ∃ z, vs[j]? = some z ∧ eqV z u = true ∧ ∀ m z', m < j → vs[m]? = some z' → eqV z' u = false
  | _, _, _, .nil, _, h => by cases h
  | _, _, j, .cons (v := v) (d := d) hv r, q, h => by
    rw [List.all_cons, Bool.and_eq_true] at q
    unfold idxD at h
    have e := eqV_D hv hy q.1 fy
    by_cases c : d.eqv y = true
    · rw [if_pos c] at h
      cases h
      exact ⟨v, rfl, by rw [e]; exact c, fun m z' hm => absurd hm (Nat.not_lt_zero m)⟩
    · rw [if_neg c] at h
      cases c2 : idxD y _ with
      | none => rw [c2] at h; cases h
      | some i =>
        rw [c2] at h
        cases h
        obtain ⟨z, h1, h2, h3⟩ := idx_V hy fy r q.2 c2
        refine ⟨z, h1, h2, fun m z' hm hz => ?_⟩
        cases m with
        | zero =>
          cases hz
          rw [e]
          exact Bool.eq_false_iff.mpr c
        | succ m => exact h3 m z' (Nat.lt_of_succ_lt_succ hm) hz
theorem md_lindex : MetD C (rIndex C.K) mLIndex := by
  intro G H x vs dx ds e rx r E Q o
  have fin : ∀ {p : Addr} {ws : List V} {xs : List D}, SqL C.K H p ws → RepL C.K C.w C.ad G ws xs → Out C (rV C) E G H Q (lIdx xs ds) → rIndex C.K (.ref p) vs H Q := fun {p ws xs} hs rr o2 => by
    cases r with
    | nil => exact False.elim o2
    | cons h r =>
      cases r with
      | cons _ _ => exact False.elim o2
      | nil =>
        unfold lIdx at o2
        obtain ⟨hz, o2⟩ := out_if o2
        cases c : idxD _ xs with
        | none => rw [c] at o2; exact o2.elim
        | some j =>
          rw [c] at o2
          obtain ⟨z, h1, h2, h3⟩ := idx_V h hz.1 rr hz.2 c
          exact ⟨p, ws, _, j, z, rfl, rfl, hs, flat_V h hz.1, flat_all rr hz.2, h1, h2, h3, o2 _ G H (Step.refl e) (.int _)⟩
  cases rx with
  | lst h r1 => exact fin (sq_of (e.e _ _ h)) r1 o
  | scr h r1 => exact fin (ex_l e.e h) r1 o
  | _ => exact False.elim o
end
/-! sorted(texts) -/
def leS (a b : Str) : Bool := decide (a.cps.toList ≤ b.cps.toList)
theorem leS_trans (a b c : Str) (h1 : leS a b = true) (h2 : leS b c = true) : leS a c = true := decide_eq_true (List.le_trans (of_decide_eq_true h1) (of_decide_eq_true h2))
theorem leS_total (a b : Str) : (leS a b || leS b a) = true := by
  rcases List.le_total a.cps.toList b.cps.toList with h | h
  · rw [show leS a b = true from decide_eq_true h] <;> rfl
  · rw [show leS b a = true from decide_eq_true h, Bool.or_true]
theorem leS_anti {a b : Str} (h1 : leS a b = true) (h2 : leS b a = true) : a = b := by
  have h := List.le_antisymm (of_decide_eq_true h1) (of_decide_eq_true h2)
  have h := Array.toList_inj.mp h
  cases a
  cases b
  exact congrArg Str.mk h
def srt (zs : List Str) : List Str := zs.mergeSort leS
theorem rising_le : ∀ (l : List Str) (p : Str), PyProof.Rows.risingS p l = true → (p :: l).Pairwise fun a b => leS a b = true
  | [], p, _ => List.pairwise_singleton _ _
  | x :: r, p, h => by
    have h' : (!PySem.Spec.ltCps x.cps.toList p.cps.toList && PyProof.Rows.risingS x r) = true := h
    rw [Bool.and_eq_true] at h'
    have ih := rising_le r x h'.2
    have hx : leS p x = true := by
      have q := h'.1
      rw [PyProof.Rows.ltCps_eq] at q
      refine decide_eq_true ?_
      rw [Bool.not_eq_eq_eq_not, Bool.not_true, decide_eq_false_iff_not] at q
      exact List.not_lt.mp q
    refine List.pairwise_cons.mpr ⟨fun y hy => ?_, ih⟩
    rcases List.mem_cons.mp hy with rfl | hy
    · exact hx
    · exact leS_trans _ _ _ hx ((List.pairwise_cons.mp ih).1 y hy)
theorem sorted_le {l : List Str} (h : PyProof.Rows.sortedS l = true) : l.Pairwise fun a b => leS a b = true := by
  cases l with
  | nil => exact List.Pairwise.nil
  | cons x r => exact rising_le r x h
theorem srt_of {ys zs : List Str} (hp : ys.Perm zs) (h : PyProof.Rows.sortedS ys = true) : ys = srt zs :=
  List.Perm.eq_of_pairwise (fun a b _ _ h1 h2 => leS_anti h1 h2) (sorted_le h) (List.pairwise_mergeSort leS_trans leS_total zs) (hp.trans (List.mergeSort_perm zs leS).symm)
/-- two rows of the same texts, sorted -/
theorem srt_perm {ys zs : List Str} (hp : ys.Perm zs) : srt ys = srt zs :=
  List.Perm.eq_of_pairwise (fun a b _ _ h1 h2 => leS_anti h1 h2) (List.pairwise_mergeSort leS_trans leS_total ys) (List.pairwise_mergeSort leS_trans leS_total zs) ((List.mergeSort_perm ys leS).trans (hp.trans (List.mergeSort_perm zs leS).symm))
def lSort : List D → R (List D)
  | [.lst xs] | [.scr xs] => match strsOf xs with
    | some zs => .ok ((srt zs).map .str)
    | none => .bad
  | _ => .bad
def rSortedSA (K : PySem.W.Frag) : List V → Hp → VK → Prop := fun vs H Q => ∃ (a : Addr) (xs : List Str), vs = [V.ref a] ∧ SqL K H a (xs.map V.str) ∧ ∀ p : Addr, H p = none → Q (.ref p) (upd H p (.lst ((srt xs).map V.str)))
theorem cr_sortedSA {X : Cx} : CallR X (.builtin "sorted") (rSortedSA X.K) := by
  intro pins s σ H vs us Q I r h
  obtain ⟨a, xs, rfl, hs, q⟩ := h
  obtain ⟨its, rv, hl, hz⟩ := I.list hs
  rw [Vals.ref1 r]
  have hlen0 := rv.length
  refine PyProof.Rows.sorted_strsAny hl.isList rv.strs (by rw [← hlen0]; exact hz) fun out ys h1 h2 h3 => ?_
  obtain ⟨ep, he'⟩ := PyProof.Rows.sortedAll_at s.heap its out
  rw [List.length_map] at hz
  have hlen : (ys.map V.str).length ≤ sizeLine := by rw [List.length_map, h2.length_eq]; exact hz
  have e := srt_of h2 h3
  refine ⟨.ref _, upd H (s.heap.objs.size + 1) (.lst (ys.map V.str)), I.laid (t' := s.toks) (fun _ _ => PyProof.Rows.sortedAll_old) (Nat.le_succ _) ⟨hlen, out.toList, ep, vals_of_strs h1, he'⟩, rfl, ?_⟩
  rw [e]
  exact q _ (I.hok.fresh (Nat.le_succ _))
theorem rep_strs {K : PySem.W.Frag} {w : World} {ad : Nat → Addr} {H : Gd} : ∀ zs : List Str, RepL K w ad H (zs.map V.str) (zs.map D.str)
  | [] => .nil
  | z :: zs => .cons (.str z) (rep_strs zs)
section
variable {C : Cc} {xo : Xo} {W : WX}
theorem cn_sort {ta : TA} {a : SA} (h : CA C xo W ta a) : CN C xo W (tCB (rSortedSA C.K) ta) (lF lSort a) := fun σ G H env f Q o =>
  h σ G H env f _ (Out.bind o fun ds vs G1 H1 _ s1 r1 o1 => by
    have e := s1.gh
    have fin : ∀ {p : Addr} {ws : List V} {xs : List D}, SqL C.K H1 p ws → RepL C.K C.w C.ad G1 ws xs → Out C (fun G' H' v ds => rN C G' H' v ds ∧ ∀ p, v = .ref p → H p = none) (WE W σ) G1 H1 Q (match strsOf xs with
        | some zs => .ok ((srt zs).map .str)
        | none => .bad) → rSortedSA C.K [.ref p] H1 Q := fun {p ws xs} hs r o2 => by
      cases c : strsOf xs with
      | none => rw [c] at o2; exact o2.elim
      | some zs =>
        rw [c] at o2
        have z := r.strs c
        subst z
        exact ⟨p, zs, rfl, hs, fun q hq => o2 _ G1 _ (Step.ofH e (Ex.new hq)) ⟨⟨q, _, rfl, fresh_back e.e hq, e.fresh hq, upd_same, rep_strs _⟩, fun q2 hq2 => by cases hq2; exact s1.fresh hq⟩⟩
    cases r1 with
    | nil => exact False.elim o1
    | cons h r =>
      cases r with
      | cons h2 r => cases h <;> exact False.elim o1
      | nil =>
        cases h with
        | lst h r => exact fin (sq_of (e.e _ _ h)) r o1
        | scr h r => exact fin (ex_l e.e h) r o1
        | _ => exact False.elim o1)
end
section
variable {P : Program} {w : World} {K : PySem.W.Frag} {mg : Str → Option Value} {base : Heap} {ad : Nat → Addr}
/-- of a def that calls itself: no turn left, nothing said -/
theorem ok_bad {x qual : Str} {st : Stmt} {f : Addr} {fd : FuncData} {N ps : List Str} {l : Nat} (F : Fun K x qual st f fd) (S : FnScope N ps (defScope st)) : FnOk P w K mg base (L2.CX P w) (l + 1) f fd ps (SpD ⟨K, w, ad⟩ fun _ => .bad) := by
  refine F.okX S (fun vs H Q E h => ?_) (fun cdv A outer s H vs Q E hr hs => ?_)
  · obtain ⟨G, ds, e, r, o⟩ := h
    exact o.elim
  · obtain ⟨G, ds, e, r, o⟩ := hs
    exact o.elim
end
end Dm
set_option Elab.async false
set_option linter.all false
set_option maxRecDepth 100000
set_option maxHeartbeats 4000000
namespace Dm
open PySem L2 Evl RZ Wm
/-! a name that holds a list or a tuple, walked -/
def itLT : D → R (List D)
  | .lst xs | .scr xs | .tup xs | .ktp xs => .ok xs
  | _ => .bad
def iLT (o : SE) : SA := fun env => (o env).bind itLT
def wLT (K : PySem.W.Frag) (tl : TE) : TI := fun σ H R => tl σ H fun x H1 => ∃ a, x = .ref a ∧ ((∃ xs, SqL K H1 a xs) ∧ R (Itl K a) H1 ∨ (∃ xs, SqT K H1 a xs) ∧ R (Itt K a) H1)
theorem pi_lt {X : Cx} {tg l : Expr} {i : Nat} (hl : PE X l (tVar i)) : PI X tg l (wLT X.K (tVar i)) := by
  refine ⟨fun pins s σ H R I h => ?_⟩
  obtain ⟨v, hv, a, e, q⟩ := h
  rcases q with q | q
  · exact (pi_list hl).run pins s σ H R I ⟨v, hv, a, e, q.1, q.2⟩
  · exact (pi_tup hl).run pins s σ H R I ⟨v, hv, a, e, q.1, q.2⟩
theorem ci_lt {C : Cc} {xo : Xo} {W : WX} {te : TE} {f : SE} (h : CE C xo W te f) : CI C xo W (wLT C.K te) (iLT f) := fun σ G H env ft R o =>
  h σ G H env ft _ (Out.bind o fun d v G1 H1 _ s r o1 => by
    cases r with
    | @lst a vs ds h1 r => exact ⟨a, rfl, Or.inl ⟨⟨vs, sq_of (s.gh.e _ _ h1)⟩, o1 _ G1 H1 (Step.refl s.gh) (srv_at walk_list r fun H e => sq_of (e _ _ h1))⟩⟩
    | @scr a vs ds h1 r => exact ⟨a, rfl, Or.inl ⟨⟨vs, ex_l s.gh.e h1⟩, o1 _ G1 H1 (Step.refl s.gh) (srv_at walk_list r fun H e => ex_l e h1)⟩⟩
    | @tup a vs ds h1 r => exact ⟨a, rfl, Or.inr ⟨⟨vs, ex_t s.gh.e h1⟩, o1 _ G1 H1 (Step.refl s.gh) (srv_at walk_tup r fun H e => ex_t e h1)⟩⟩
    | @ktp a vs ds h1 _ r => exact ⟨a, rfl, Or.inr ⟨⟨vs, ex_t s.gh.e h1⟩, o1 _ G1 H1 (Step.refl s.gh) (srv_at walk_tup r fun H e => ex_t e h1)⟩⟩
    | _ => exact False.elim o1)
end Dm
set_option Elab.async false
set_option linter.all false
set_option maxRecDepth 100000
set_option maxHeartbeats 4000000
namespace Dm
open PySem L2 Evl RZ Wm
section
variable {C : Cc} {xo : Xo} {W : WX} {G G' G0 : Gd} {H H' H0 : Hp} {σ : L2.St} {env : Env} {E : XK}
/-! cells of the store -/
theorem ce_cell {te : TE} {la : SA} (h : CN C xo W te la) : CE C xo W te (eCell la) := fun σ G H env ft Q o => by
  refine h σ G H env ft Q ?_
  unfold eCell Out R.bind at o
  unfold Out
  cases c : la env G.s with
  | bad => rw [c] at o; exact o
  | exc k fs t => rw [c] at o; exact o
  | ok ds t =>
    rw [c] at o
    intro v G' H' s q
    obtain ⟨⟨p, vs, rfl, h1, hm, h2, h3⟩, h4⟩ := q
    have e : G'.s = t := s.g.s
    subst e
    obtain ⟨st, hn⟩ := s.publish h1 hm h2 (h4 p rfl) h3
    exact o (.ref p) _ H' st (.mref hn)
theorem onL_bind {β γ δ : Type} {rep : Gd → Hp → δ → γ → Prop} {n : Nat} {K : Unit → R γ} {Q : δ → Hp → Prop} (o : Out C rep E G H Q ((onL n fun _ s => Rs.ok () s).bind K)) : ∃ xs, G.s[n]? = some (.lst xs) ∧ Out C rep E G H Q (K ()) := by
  unfold Out R.bind onL at o
  cases c : G.s[n]? with
  | none => rw [c] at o; exact False.elim o
  | some z =>
    cases z with
    | lst xs => rw [c] at o; exact ⟨xs, rfl, o⟩
    | dct _ => rw [c] at o; exact False.elim o
    | ins _ _ => rw [c] at o; exact False.elim o
theorem ce_MM {r : V → List V → Hp → VK → Prop} {f : D → List D → R D} {to : TE} {ta : TA} {o : SE} {a : SA} (h : MetD C r f) (ho : CE C xo W to o) (ha : CA C xo W ta a) : CE C xo W (tBM C.K "list" r to ta) (eMM f o a) := fun σ G H env ft Q q =>
  ho σ G H env ft _ (Out.bind q fun d v G1 H1 _ s1 r1 o1 => by
    cases r1 with
    | @mref n a hm =>
      obtain ⟨xs, hs, o2⟩ := onL_bind (β := Unit) o1
      obtain ⟨_, vs, hH, r⟩ := s1.gh.at hm hs
      exact ⟨Or.inl ⟨rfl, vs, sq_of hH⟩, ha σ G1 H1 env (ft.step s1) _ (Out.bind o2 fun ds vs G2 H2 _ s2 r2 o3 => h G2 H2 _ vs _ ds s2.gh (Rp.mono s2.g (.mref hm)) r2 _ _ o3)⟩
    | _ => exact False.elim o1)
theorem md_pop0 : MetD C rPopAt mPop0 := by
  intro G H x vs dx ds e rx r E Q o
  cases rx with
  | @mref n a hm =>
    cases r with
    | nil => exact False.elim o
    | cons h r =>
      cases r with
      | cons _ _ => cases h <;> exact False.elim o
      | nil =>
        cases h with
        | int i =>
          obtain ⟨hi, o⟩ := out_if (p := i = 0) o
          subst hi
          obtain ⟨xs, hs, o⟩ := onL_out o
          obtain ⟨_, ws, hH, rl⟩ := e.at hm hs
          unfold oR at o
          cases c : xs[0]? with
          | none => rw [c] at o; exact False.elim o
          | some d =>
            rw [c] at o
            obtain ⟨u, hu, ru⟩ := rl.get c
            have hl : 0 < ws.length := (List.getElem?_eq_some_iff.mp hu).1
            have rt : RepL C.K C.w C.ad G (ws.eraseIdx 0) xs.tail := by
              have := rl.drop 1
              rw [List.drop_one, List.drop_one] at this
              have e2 : ws.eraseIdx 0 = ws.tail := by cases ws <;> rfl
              rw [e2]
              exact this
            refine ⟨a, ws, 0, 0, u, rfl, rfl, hH, by decide, by decide, ?_, hu, o u _ _ (Step.cell e hm hs rt) ru⟩
            show seqIndex? 0 ws.length = some 0
            unfold seqIndex?
            simp [hl]
        | _ => exact False.elim o
  | _ => exact False.elim o
theorem md_mapp : MetD C rAppend mApp := by
  intro G H x vs dx ds e rx r E Q o
  cases rx with
  | @mref n a hm =>
    cases r with
    | nil => exact False.elim o
    | @cons v d vs ds h r =>
      cases r with
      | cons _ _ => exact False.elim o
      | nil =>
        have o : Out C (rV C) E G H Q ((cApp n d).bind fun _ => .ok .non) := o
        unfold Out R.bind cApp onL at o
        cases c : G.s[n]? with
        | none => rw [c] at o; exact False.elim o
        | some z =>
          cases z with
          | lst xs =>
            rw [c] at o
            dsimp only at o
            obtain ⟨_, ws, hH, rl⟩ := e.at hm c
            by_cases hz : xs.length < Z
            · rw [if_pos hz] at o
              exact ⟨a, ws, v, rfl, rfl, hH, sz_lt (by rw [rl.length]; exact hz), o .non _ _ (Step.cell e hm c (rl.append (.cons h .nil))) .non⟩
            · rw [if_neg hz] at o; exact False.elim o
          | dct _ => rw [c] at o; exact False.elim o
          | ins _ _ => rw [c] at o; exact False.elim o
  | _ => exact False.elim o
theorem cs_mset {to ti te : TE} {b k a : SE} (ho : CE C xo W to b) (hk : CE C xo W ti k) (h : CE C xo W te a) : CS C xo W (tAsg te (gSub to ti rSetL)) (sMSet b k a) := fun G0 H0 σ G H env f D o =>
  h σ G H env f.f _ (ofE_out f o fun d v G1 H1 s1 r f1 o1 => ho σ G1 H1 env f1.f _ (ofE_out f1 o1 fun x u G2 H2 s2 r2 f2 o2 => hk σ G2 H2 env f2.f _ (ofE_out f2 o2 fun j w G3 H3 s3 r3 f3 o3 => by
    have rx := Rp.mono s3.g r2
    have rv := Rp.mono s3.g (Rp.mono s2.g r)
    cases rx with
    | @mref n p hm => cases r3 with
      | int j =>
        have e : setM (.mref n) (.int j) d = cSet n j d := rfl
        rw [e] at o3
        unfold OutS ofE at o3
        unfold cSet onL at o3
        cases c : G3.s[n]? with
        | none => rw [c] at o3; exact False.elim o3
        | some z =>
          cases z with
          | lst xs =>
            rw [c] at o3
            dsimp only at o3
            unfold oR at o3
            obtain ⟨hg, ws, hH, rl⟩ := f3.f.ok.at hm c
            cases cn : ixN xs.length j with
            | none => rw [cn] at o3; exact False.elim o3
            | some q =>
              rw [cn] at o3
              have st := Step.cell f3.f.ok hm c (rl.set rv q)
              exact ⟨p, ws, j, q, rfl, rfl, hH, by rw [rl.length]; exact cn, o3 σ _ _ (ExG.refl _) (f3.step st)⟩
          | dct _ => rw [c] at o3; exact False.elim o3
          | ins _ _ => rw [c] at o3; exact False.elim o3
      | _ => exact False.elim o3
    | _ => cases r3 <;> exact False.elim o3)))
end
end Dm
set_option Elab.async false
set_option linter.all false
set_option maxRecDepth 100000
set_option maxHeartbeats 4000000
/-! Dp: facts for reasoning over Dm's functions. -/
namespace Dm
open PySem L2
/-- a walk whose turns all go on -/
theorem forGo_nx {g : SG} {b : SS} (I : Nat → Env → Prop) : ∀ (ds : List D) (k : Nat) (env : Env), I k env →
    (∀ i d env, ds[i]? = some d → I (k + i) env → ∃ e2 e3, g d env = some e2 ∧ (b e2 = .nx e3 ∨ b e2 = .ct e3) ∧ I (k + i + 1) e3) → ∃ e, forGo g b ds env = .nx e ∧ I (k + ds.length) e
  | [], k, env, h, _ => ⟨env, rfl, h⟩
  | d :: ds, k, env, h, hs => by
    obtain ⟨e2, e3, h1, h2, h3⟩ := hs 0 d env rfl h
    obtain ⟨e, q1, q2⟩ := forGo_nx I ds (k + 1) e3 h3 fun i d env hi hI => by
      have := hs (i + 1) d env hi (by rw [show k + (i + 1) = k + 1 + i by omega]; exact hI)
      rw [show k + (i + 1) = k + 1 + i by omega] at this
      exact this
    refine ⟨e, ?_, by rw [List.length_cons, show k + (ds.length + 1) = k + 1 + ds.length by omega]; exact q2⟩
    unfold forGo ofG
    rw [h1]
    dsimp only
    rcases h2 with h2 | h2 <;> rw [h2] <;> exact q1
/-- .. or hand something back -/
theorem forGo_or {g : SG} {b : SS} (I : Nat → Env → Prop) (P : Sl → Prop) : ∀ (ds : List D) (k : Nat) (env : Env), I k env →
    (∀ i d env, ds[i]? = some d → I (k + i) env → ∃ e2, g d env = some e2 ∧ ((∃ e3, (b e2 = .nx e3 ∨ b e2 = .ct e3) ∧ I (k + i + 1) e3) ∨ ∃ v, b e2 = .rt v ∧ P v)) → (∃ e, forGo g b ds env = .nx e ∧ I (k + ds.length) e) ∨ ∃ v, forGo g b ds env = .rt v ∧ P v
  | [], k, env, h, _ => Or.inl ⟨env, rfl, h⟩
  | d :: ds, k, env, h, hs => by
    obtain ⟨e2, h1, h2⟩ := hs 0 d env rfl h
    have e : forGo g b (d :: ds) env = thenW (b e2) (forGo g b ds) := by
      conv => lhs; unfold forGo ofG
      rw [h1] <;> rfl
    rcases h2 with ⟨e3, h2, h3⟩ | ⟨v, h2, h3⟩
    · have q := forGo_or I P ds (k + 1) e3 h3 fun i d env hi hI => by
        have := hs (i + 1) d env hi (by rw [show k + (i + 1) = k + 1 + i by omega]; exact hI)
        rw [show k + (i + 1) = k + 1 + i by omega] at this
        exact this
      have e4 : forGo g b (d :: ds) env = forGo g b ds e3 := by
        rw [e]
        rcases h2 with h2 | h2 <;> rw [h2] <;> rfl
      rw [e4, List.length_cons, show k + (ds.length + 1) = k + 1 + ds.length by omega]
      exact q
    · exact Or.inr ⟨v, by rw [e, h2] <;> rfl, h3⟩
theorem ixN_ok {n : Nat} {i : Int} (h0 : 0 ≤ i) (h1 : i < n) : ixN n i = some i.toNat := by
  unfold ixN
  rw [if_pos h0, if_pos h1]
theorem range_at {n i : Nat} {d : D} (h : ((List.range n).map fun (i : Nat) => D.int i)[i]? = some d) : i < n ∧ d = .int i := by
  rw [List.getElem?_map] at h
  by_cases hi : i < n
  · rw [List.getElem?_range hi] at h
    exact ⟨hi, (Option.some.inj h).symm⟩
  · rw [List.getElem?_eq_none (by rw [List.length_range]; omega)] at h
    cases h
theorem forGo_cons {g : SG} {b : SS} {d : D} {ds : List D} {env e2 : Env} (h : g d env = some e2) : forGo g b (d :: ds) env = thenW (b e2) (forGo g b ds) := by
  conv => lhs; unfold forGo ofG
  rw [h] <;> rfl
theorem whGo_succ {t : ST} {b : SS} {n : Nat} {env : Env} {k : Bool} (h : t env = .ok k) : whGo t b (n + 1) env = if k = true then thenW (b env) (whGo t b n) else .nx env := by
  conv => lhs; unfold whGo ofE
  rw [h] <;> rfl
theorem whGo_exc {t : ST} {b : SS} {n : Nat} {env : Env} {c : Nat} {fs : List (Str × D)} (h : t env = .exc c fs) : whGo t b (n + 1) env = .exc c fs env := by
  conv => lhs; unfold whGo ofE
  rw [h] <;> rfl
theorem thenW_nx {e : Env} {k : Env → RS} : thenW (.nx e) k = k e := (rfl)
theorem thenW_ct {e : Env} {k : Env → RS} : thenW (.ct e) k = k e := (rfl)
theorem thenW_bk {e : Env} {k : Env → RS} : thenW (.bk e) k = .nx e := (rfl)
theorem thenW_rt {v : Sl} {k : Env → RS} : thenW (.rt v) k = .rt v := (rfl)
theorem thenW_exc {c : Nat} {fs : List (Str × D)} {e : Env} {k : Env → RS} : thenW (.exc c fs e) k = .exc c fs e := (rfl)
/-! ### one step at a time (for simp only: EV) -/
section
variable {α β : Type} {r r' : R α} {k : α → R β} {env e2 : Env} {kS : α → RS} {i j n : Nat} {d x y : D} {xs ys : List D} {a b c : SE} {la lb : SA} {t u : ST} {p q s : SS} {f : D → D → R D} {g : SG}
theorem bind_cg (h : r = r') : r.bind k = r'.bind k := by rw [h]
theorem ofE_cg (h : r = r') : ofE r env kS = ofE r' env kS := by rw [h]
theorem bind_ok {a : α} : (R.ok a).bind k = k a := (rfl)
theorem bind_exc {c : Nat} {fs : List (Str × D)} : (R.exc c fs : R α).bind k = .exc c fs := (rfl)
theorem bind_bad : (R.bad : R α).bind k = .bad := (rfl)
theorem ofE_ok {a : α} : ofE (.ok a) env kS = kS a := (rfl)
theorem ofE_exc {c : Nat} {fs : List (Str × D)} : ofE (.exc c fs : R α) env kS = .exc c fs env := (rfl)
/-- what a slot gives -/
def vOf : Option Sl → R D
  | some (.val d) => .ok d
  | _ => .bad
theorem vOf_v : vOf (some (.val d)) = .ok d := (rfl)
theorem ap_C : eC d env = .ok d := (rfl)
theorem ap_V : eV i env = vOf env[i]? := (rfl)
theorem ap_nil : eNil env = .ok [] := (rfl)
theorem ap_cons : eCons a la env = (a env).bind fun x => (la env).bind fun xs => .ok (x :: xs) := (rfl)
theorem ap_U {f : D → R D} : eU f a env = (a env).bind f := (rfl)
theorem ap_B : eB f a b env = (a env).bind fun x => (b env).bind fun y => f x y := (rfl)
theorem ap_chain {f g : D → D → R D} : eChain f g a b c env = (a env).bind fun x => (b env).bind fun y => (f x y).bind fun r => (toBl r).bind fun k => if k = true then (c env).bind fun z => (g y z).bind fun r2 => (toBl r2).bind fun k2 => .ok (.bl k2) else .ok (.bl false) := (rfl)
theorem ap_and : eAnd a b env = (a env).bind fun x => (toBl x).bind fun k => if k = true then b env else .ok (.bl false) := (rfl)
theorem ap_or : eOr a b env = (a env).bind fun x => (toBl x).bind fun k => if k = true then .ok (.bl true) else b env := (rfl)
theorem ap_tup : eTup la env = (la env).bind fun xs => if xs.length ≤ 100000 then .ok (.tup xs) else .bad := (rfl)
theorem ap_F {f : List D → R D} : eF f la env = (la env).bind f := (rfl)
theorem ap_M {t : Ty} {f : D → List D → R D} : eM t f a la env = (a env).bind fun x => if isTy t x = true then (la env).bind fun xs => f x xs else .bad := (rfl)
theorem ap_sl {lo hi : Env → R (Option Int)} : eSl a lo hi env = (a env).bind fun x => (lo env).bind fun l => (hi env).bind fun h => dSl x l h := (rfl)
theorem ap_pN : pN env = .ok none := (rfl)
theorem ap_pS : pS a env = (a env).bind fun x => (toIn x).bind fun i => .ok (some i) := (rfl)
theorem ap_L : eL la env = (la env).bind fun xs => .ok (.lst xs) := (rfl)
theorem ap_tE : tE a env = (a env).bind toBl := (rfl)
theorem ap_tAn : tAn t u env = (t env).bind fun k => if k = true then u env else .ok false := (rfl)
theorem ap_tO : tO t u env = (t env).bind fun k => if k = true then .ok true else u env := (rfl)
theorem ap_tN : tN t env = (t env).bind fun k => .ok !k := (rfl)
theorem ap_tY : tY env = .ok true := (rfl)
theorem ap_if : eIf t a b env = (t env).bind fun k => if k = true then a env else b env := (rfl)
theorem ap_lD : lD la env = (la env).bind fun xs => if xs.length ≤ 100000 then .ok xs else .bad := (rfl)
theorem ap_lF {f : List D → R (List D)} : lF f la env = (la env).bind f := (rfl)
def catL : D → D → R (List D)
  | .lst xs, .lst ys => if xs.length + ys.length ≤ 100000 then .ok (xs ++ ys) else .bad
  | _, _ => .bad
theorem ap_lCat : lCat a b env = (a env).bind fun x => (b env).bind fun y => catL x y := (rfl)
theorem catL_ok : catL (.lst xs) (.lst ys) = if xs.length + ys.length ≤ 100000 then .ok (xs ++ ys) else .bad := (rfl)
def repL : D → D → R (List D)
  | .lst xs, .int k => if xs.length * k.toNat ≤ 100000 ∧ -(2 ^ 63) ≤ k ∧ k < 2 ^ 63 then .ok (List.replicate k.toNat xs).flatten else .bad
  | _, _ => .bad
theorem ap_lRep : lRep a b env = (a env).bind fun x => (b env).bind fun y => repL x y := (rfl)
theorem repL_ok {k : Int} : repL (.lst xs) (.int k) = if xs.length * k.toNat ≤ 100000 ∧ -(2 ^ 63) ≤ k ∧ k < 2 ^ 63 then .ok (List.replicate k.toNat xs).flatten else .bad := (rfl)
def slL : D → Option Int → Option Int → R (List D)
  | .lst xs, l, h => .ok (cutG xs l h)
  | .scr xs, l, h => .ok (cutG xs l h)
  | _, _, _ => .bad
theorem ap_lSl {lo hi : Env → R (Option Int)} : lSl a lo hi env = (a env).bind fun x => (lo env).bind fun l => (hi env).bind fun h => slL x l h := by
  unfold lSl slL
  congr 1
  funext x
  congr 1
  funext l
  congr 1
  funext h
  cases x <;> rfl
theorem slL_lst {l h : Option Int} : slL (.lst xs) l h = .ok (cutG xs l h) := (rfl)
theorem slL_scr {l h : Option Int} : slL (.scr xs) l h = .ok (cutG xs l h) := (rfl)
def itL : D → R (List D)
  | .lst xs => .ok xs
  | .scr xs => .ok xs
  | _ => .bad
theorem ap_iD : iD a env = (a env).bind itL := (rfl)
theorem itL_lst : itL (.lst xs) = .ok xs := (rfl)
theorem itL_scr : itL (.scr xs) = .ok xs := (rfl)
def itT : D → R (List D)
  | .tup xs => .ok xs
  | .ktp xs => .ok xs
  | _ => .bad
theorem ap_iT : iT a env = (a env).bind itT := (rfl)
theorem itT_tup : itT (.tup xs) = .ok xs := (rfl)
theorem itT_ktp : itT (.ktp xs) = .ok xs := (rfl)
def itS : D → R (List D)
  | .str z => .ok (z.cps.toList.map fun c => .str ⟨#[c]⟩)
  | _ => .bad
theorem ap_iS : iS a env = (a env).bind itS := (rfl)
theorem itS_str {z : Str} : itS (.str z) = .ok (z.cps.toList.map fun c => .str ⟨#[c]⟩) := (rfl)
def itR1 : List D → R (List D)
  | [.int n] => if n ≤ Z ∧ -Z ≤ n then .ok ((List.range n.toNat).map fun (i : Nat) => .int i) else .bad
  | _ => .bad
theorem ap_iR1 : iR1 la env = (la env).bind itR1 := (rfl)
theorem itR1_ok {n : Int} : itR1 [.int n] = if n ≤ 100000 ∧ -100000 ≤ n then .ok ((List.range n.toNat).map fun (i : Nat) => .int i) else .bad := (rfl)
/-! operations on data in the hand -/
theorem add_i {i j : Int} : dAdd (.int i) (.int j) = .ok (.int (i + j)) := (rfl)
theorem add_s {a b : Str} : dAdd (.str a) (.str b) = if a.length + b.length ≤ 100000 then .ok (.str (a ++ b)) else .bad := (rfl)
theorem add_l : dAdd (.lst xs) (.lst ys) = if xs.length + ys.length ≤ 100000 then .ok (.lst (xs ++ ys)) else .bad := (rfl)
theorem addX_i {i j : Int} : dAddX (.int i) (.int j) = .ok (.int (i + j)) := (rfl)
theorem addX_s {a b : Str} : dAddX (.str a) (.str b) = if a.length + b.length ≤ 100000 then .ok (.str (a ++ b)) else .bad := (rfl)
theorem sub_i {i j : Int} : dSub (.int i) (.int j) = .ok (.int (i - j)) := (rfl)
theorem mul_i {i j : Int} : dMul (.int i) (.int j) = if CMulW i j ∨ CMul i j then .ok (.int (i * j)) else .bad := (rfl)
theorem div_i {i j : Int} : dDiv (.int i) (.int j) = if CDivW i j then .ok (.int (i / j)) else .bad := (rfl)
theorem mod_i {i j : Int} : dMod (.int i) (.int j) = if 0 < j then .ok (.int (i % j)) else .bad := (rfl)
theorem pow_i {i j : Int} : dPow (.int i) (.int j) = if CPow i j then .ok (.int (i ^ j.toNat)) else .bad := (rfl)
theorem shl_i {i j : Int} : dShl (.int i) (.int j) = if CShl i j ∨ CPow i j then .ok (.int (i * 2 ^ j.toNat)) else .bad := (rfl)
theorem shr_i {i j : Int} : dShr (.int i) (.int j) = if 0 ≤ j then .ok (.int (i / 2 ^ j.toNat)) else .bad := (rfl)
theorem and_i {i j : Int} : dAnd (.int i) (.int j) = .ok (.int (Builtin.bitAnd i j)) := (rfl)
theorem or_i {i j : Int} : dOr (.int i) (.int j) = .ok (.int (Builtin.bitOr i j)) := (rfl)
theorem xor_i {i j : Int} : dXor (.int i) (.int j) = .ok (.int (Builtin.bitXor i j)) := (rfl)
theorem neg_i {i : Int} : dNeg (.int i) = .ok (.int (-i)) := (rfl)
theorem not_b {b : Bool} : dNot (.bl b) = .ok (.bl !b) := (rfl)
theorem lt_i {i j : Int} : dLt (.int i) (.int j) = .ok (.bl (decide (i < j))) := (rfl)
theorem le_i {i j : Int} : dLe (.int i) (.int j) = .ok (.bl (decide (i ≤ j))) := (rfl)
theorem gt_i {i j : Int} : dGt (.int i) (.int j) = .ok (.bl (decide (j < i))) := (rfl)
theorem ge_i {i j : Int} : dGe (.int i) (.int j) = .ok (.bl (decide (j ≤ i))) := (rfl)
theorem eq_i {i j : Int} : dEq (.int i) (.int j) = .ok (.bl (decide (i = j))) := (rfl)
theorem eq_s {i j : Str} : dEq (.str i) (.str j) = .ok (.bl (decide (i = j))) := (rfl)
theorem ne_i {i j : Int} : dNe (.int i) (.int j) = .ok (.bl !(decide (i = j))) := (rfl)
theorem ne_s {i j : Str} : dNe (.str i) (.str j) = .ok (.bl !(decide (i = j))) := (rfl)
theorem ne_of {b : Bool} (h : dEq x y = .ok (.bl b)) : dNe x y = .ok (.bl !b) := by
  unfold dNe
  rw [h]
  rfl
theorem is_non : dIs .non .non = .ok (.bl true) := (rfl)
theorem is_int {i : Int} : dIs (.int i) .non = .ok (.bl false) := (rfl)
theorem is_str {i : Str} : dIs (.str i) .non = .ok (.bl false) := (rfl)
theorem is_tup : dIs (.tup xs) .non = .ok (.bl false) := (rfl)
theorem is_lst : dIs (.lst xs) .non = .ok (.bl false) := (rfl)
theorem isnt_non : dIsnt .non .non = .ok (.bl false) := (rfl)
theorem isnt_int {i : Int} : dIsnt (.int i) .non = .ok (.bl true) := (rfl)
theorem isnt_str {i : Str} : dIsnt (.str i) .non = .ok (.bl true) := (rfl)
theorem isnt_tup : dIsnt (.tup xs) .non = .ok (.bl true) := (rfl)
theorem toBl_b {b : Bool} : toBl (.bl b) = .ok b := (rfl)
theorem toIn_i {i : Int} : toIn (.int i) = .ok i := (rfl)
/-- an item -/
def ixS (z : Str) (i : Int) : R D := match atI z.cps.toList i with | some c => .ok (.str ⟨#[c]⟩) | none => .bad
def ixL (xs : List D) (i : Int) : R D := match atI xs i with | some d => .ok d | none => .bad
theorem ix_s {z : Str} {i : Int} : dIx (.str z) (.int i) = if z.length ≤ 100000 then ixS z i else .bad := (rfl)
theorem ix_l {i : Int} : dIx (.lst xs) (.int i) = ixL xs i := (rfl)
theorem ix_r {i : Int} : dIx (.scr xs) (.int i) = ixL xs i := (rfl)
theorem ix_t {i : Int} : dIx (.tup xs) (.int i) = ixL xs i := (rfl)
theorem ix_k {i : Int} : dIx (.ktp xs) (.int i) = ixL xs i := (rfl)
theorem sl_s {z : Str} {lo hi : Option Int} : dSl (.str z) lo hi = if z.length ≤ 100000 then .ok (.str (cutS z lo hi)) else .bad := (rfl)
theorem sl_l {lo hi : Option Int} : dSl (.lst xs) lo hi = .ok (.lst (cutG xs lo hi)) := (rfl)
theorem sl_r {lo hi : Option Int} : dSl (.scr xs) lo hi = .ok (.lst (cutG xs lo hi)) := (rfl)
theorem sl_t {lo hi : Option Int} : dSl (.tup xs) lo hi = .ok (.tup (cutG xs lo hi)) := (rfl)
theorem len_s {z : Str} : fLen [.str z] = if z.length ≤ 100000 then .ok (.int z.length) else .bad := (rfl)
theorem len_l : fLen [.lst xs] = .ok (.int xs.length) := (rfl)
theorem len_r : fLen [.scr xs] = .ok (.int xs.length) := (rfl)
theorem len_t : fLen [.tup xs] = .ok (.int xs.length) := (rfl)
theorem len_k : fLen [.ktp xs] = .ok (.int xs.length) := (rfl)
theorem int_i {i : Int} : fInt [.int i] = .ok (.int i) := (rfl)
theorem int_b {b : Bool} : fInt [.bl b] = .ok (.int (if b then 1 else 0)) := (rfl)
theorem abs_i {i : Int} : fAbs [.int i] = .ok (.int (if i < 0 then -i else i)) := (rfl)
theorem min_i {i j : Int} : fMin2 [.int i, .int j] = .ok (.int (if j < i then j else i)) := (rfl)
theorem max_i {i j : Int} : fMax2 [.int i, .int j] = .ok (.int (if j > i then j else i)) := (rfl)
theorem tup_l : fTuple [.lst xs] = .ok (.tup xs) := (rfl)
theorem tup_t : fTuple [.tup xs] = .ok (.tup xs) := (rfl)
theorem list_l : fList [.lst xs] = .ok xs := (rfl)
theorem list_r : fList [.scr xs] = .ok xs := (rfl)
theorem list_t : fList [.tup xs] = .ok xs := (rfl)
theorem isi_i {t : Ty} {i : Int} : dIsi t (.int i) = .ok (.bl (isTy t (.int i))) := (rfl)
theorem isi_b {t : Ty} {i : Bool} : dIsi t (.bl i) = .ok (.bl (isTy t (.bl i))) := (rfl)
theorem isi_s {t : Ty} {i : Str} : dIsi t (.str i) = .ok (.bl (isTy t (.str i))) := (rfl)
theorem isi_l {t : Ty} : dIsi t (.lst xs) = .ok (.bl (isTy t (.lst xs))) := (rfl)
theorem isi_t {t : Ty} : dIsi t (.tup xs) = .ok (.bl (isTy t (.tup xs))) := (rfl)
theorem isi_n {t : Ty} : dIsi t .non = .ok (.bl (isTy t .non)) := (rfl)
theorem ty_ii {i : Int} : isTy .int (.int i) = true := (rfl)
theorem ty_bi {i : Int} : isTy .bool (.int i) = false := (rfl)
theorem ty_ss {i : Str} : isTy .str (.str i) = true := (rfl)
theorem ty_ll : isTy .list (.lst xs) = true := (rfl)
theorem ty_tt : isTy .tuple (.tup xs) = true := (rfl)
theorem ty_tl : isTy .tuple (.lst xs) = false := (rfl)
theorem ty_lt : isTy .list (.tup xs) = false := (rfl)
theorem ty_tn : isTy .tuple .non = false := (rfl)
theorem find_s {z w : Str} : mFind (.str z) [.str w] = .ok (.int (Txt.find z w)) := (rfl)
theorem lower_s {z : Str} : mLower (.str z) [] = if z.length ≤ 100000 then .ok (.str (Txt.lower z)) else .bad := (rfl)
/-! statements, with what follows -/
theorem thenS_nx : thenS (.nx env) p = p env := (rfl)
theorem thenS_rt {v : Sl} : thenS (.rt v) p = .rt v := (rfl)
theorem thenS_bk : thenS (.bk env) p = .bk env := (rfl)
theorem thenS_ct : thenS (.ct env) p = .ct env := (rfl)
theorem thenS_bad : thenS .bad p = .bad := (rfl)
theorem thenS_exc {c : Nat} {fs : List (Str × D)} : thenS (.exc c fs env) p = .exc c fs env := (rfl)
theorem thenS_cg {r r' : RS} (h : r = r') : thenS r p = thenS r' p := by rw [h]
theorem thenS_thenS {r : RS} : thenS (thenS r p) q = thenS r (fun e => thenS (p e) q) := by
  funext s
  unfold thenS thenR
  cases r s <;> rfl
theorem thenS_ofE {r : R α} {k : α → RS} : thenS (ofE r env k) p = ofE r env fun d => thenS (k d) p := by
  funext s
  unfold thenS thenR ofE
  cases r s <;> rfl
theorem thenS_if {c : Prop} [Decidable c] {r r' : RS} : thenS (if c then r else r') p = if c then thenS r p else thenS r' p := by split <;> rfl
theorem sq_nx : sSeq sNx p env = p env := (rfl)
theorem sq_sq : sSeq (sSeq p q) s env = sSeq p (sSeq q s) env := thenS_thenS
theorem sq_a : sSeq (sA i a) p env = ofE (a env) env fun d => p (env.set i (.val d)) := thenS_ofE
theorem sq_o : sSeq (sO i la) p env = ofE (la env) env fun d => p (env.set i (.own d)) := thenS_ofE
theorem sq_x : sSeq (sX a) p env = ofE (a env) env fun _ => p env := thenS_ofE
theorem sq_if : sSeq (sIf t p q) s env = ofE (t env) env fun k => if k = true then sSeq p s env else sSeq q s env := by
  unfold sSeq sIf
  rw [thenS_ofE]
  congr 1
  funext k
  exact thenS_if
theorem sq_ret : sSeq (sRet a) p env = ofE (a env) env fun d => .rt (.val d) := thenS_ofE
theorem sq_retL : sSeq (sRetL la) p env = ofE (la env) env fun d => .rt (.own d) := thenS_ofE
/-- what slot i owns -/
def oOf : Option Sl → (List D → RS) → RS
  | some (.own ds), k => k ds
  | _, _ => .bad
theorem oOf_o {k : List D → RS} : oOf (some (.own xs)) k = k xs := (rfl)
theorem sq_retO : sSeq (sRetO i) p env = oOf env[i]? fun xs => .rt (.own xs) := by
  unfold sSeq sRetO oOf
  cases env[i]? with
  | none => rfl
  | some s => cases s <;> rfl
theorem sq_app : sSeq (sApp i a) p env = oOf env[i]? fun xs => ofE (a env) env fun d => if xs.length < 100000 then p (env.set i (.own (xs ++ [d]))) else .bad := by
  unfold sSeq sApp oOf
  cases env[i]? with
  | none => rfl
  | some s =>
    cases s with
    | own xs =>
      dsimp only
      rw [thenS_ofE]
      congr 1
      funext d
      exact thenS_if
    | _ => rfl
/-- data that is a list -/
def lstK : D → (List D → RS) → RS
  | .lst ys, k => k ys
  | _, _ => .bad
theorem lstK_l {k : List D → RS} : lstK (.lst xs) k = k xs := (rfl)
theorem sq_ext : sSeq (sExt i a) p env = oOf env[i]? fun xs => ofE (a env) env fun d => lstK d fun ys => if xs.length + ys.length ≤ 100000 then p (env.set i (.own (xs ++ ys))) else .bad := by
  unfold sSeq sExt oOf
  cases env[i]? with
  | none => rfl
  | some s =>
    cases s with
    | own xs =>
      dsimp only
      rw [thenS_ofE]
      congr 1
      funext d
      cases d with
      | lst ys => exact thenS_if
      | _ => rfl
    | _ => rfl
theorem sq_aug : sSeq (sAug i f a) p env = ofE (vOf env[i]?) env fun x => ofE (a env) env fun y => ofE (f x y) env fun z => p (env.set i (.val z)) := by
  unfold sSeq sAug vOf
  cases env[i]? with
  | none => rfl
  | some s =>
    cases s with
    | val x =>
      dsimp only
      rw [thenS_ofE, ofE_ok]
      congr 1
      funext d
      exact thenS_ofE
    | _ => rfl
theorem sq_g : sSeq (sG a g) p env = ofE (a env) env fun d => ofG (g d env) p := by
  unfold sSeq sG
  rw [thenS_ofE]
  congr 1
  funext d
  unfold ofG
  cases g d env <;> rfl
theorem sq_frz : sSeq (sFrz i p) q env = sSeq p q (frz i env) := (rfl)
theorem sq_br : sSeq sBr p env = .bk env := (rfl)
theorem sq_ct : sSeq sCt p env = .ct env := (rfl)
theorem sq_raise {c : Nat} {nm : List Str} : sSeq (sRaise c nm la) p env = ofE (la env) env fun ds => if ds.length = nm.length then .exc c (nm.zip ds) env else .bad := by
  unfold sSeq sRaise
  rw [thenS_ofE]
  congr 1
  funext d
  exact thenS_if
theorem ofG_some {k : Env → RS} : ofG (some env) k = k env := (rfl)
theorem nx_ap : sNx env = .nx env := (rfl)
theorem sq_for : sSeq (sFor la g q) p env = ofE (la env) env fun ds => thenS (forGo g q ds env) p := thenS_ofE
theorem sq_wh : sSeq (sWh n t q) p env = thenS (whGo t q n env) p := (rfl)
theorem defV_ap {n k : Nat} {ds : List D} (h : ds.length = n) : defV n k p ds = endV (p (ds.map .val ++ List.replicate k .un)) := by
  unfold defV
  rw [if_pos h]
theorem defL_ap {n k : Nat} {ds : List D} (h : ds.length = n) : defL n k p ds = endL (p (ds.map .val ++ List.replicate k .un)) := by
  unfold defL
  rw [if_pos h]
theorem endV_v : endV (.rt (.val d)) = .ok d := (rfl)
theorem endV_o : endV (.rt (.own xs)) = .ok (.lst xs) := (rfl)
theorem endV_n : endV (.nx env) = .ok .non := (rfl)
theorem endV_x {c : Nat} {fs : List (Str × D)} : endV (.exc c fs env) = .exc c fs := (rfl)
theorem endL_o : endL (.rt (.own xs)) = .ok xs := (rfl)
theorem endL_x {c : Nat} {fs : List (Str × D)} : endL (.exc c fs env) = .exc c fs := (rfl)
theorem frz_at {i : Nat} {ds : List D} (h : env[i]? = some (.own ds)) : frz i env = env.set i (.val (.lst ds)) := by
  unfold frz
  rw [h]
theorem gN_ap : gN i d env = some (env.set i (.val d)) := (rfl)
end
theorem len_cps_ (a : Str) : a.length = a.cps.toList.length := by rw [Array.length_toList]; rfl
theorem ixL_ints {ns : List Int} {i : Int} (h0 : 0 ≤ i) (h1 : i < ns.length) : ixL (ns.map .int) i = .ok (.int (ns.getD i.toNat 0)) := by
  unfold ixL atI
  rw [List.length_map, ixN_ok h0 h1, Option.bind_some, List.getElem?_map, List.getD_eq_getElem?_getD, List.getElem?_eq_getElem (show i.toNat < ns.length by omega)]
  rfl
theorem ixS_ok {z : Str} {i : Int} (h0 : 0 ≤ i) (h1 : i < z.length) : ∃ c, c ∈ z.cps.toList ∧ ixS z i = .ok (.str ⟨#[c]⟩) := by
  have hl := len_cps_ z
  unfold ixS atI
  rw [← hl, ixN_ok h0 h1, Option.bind_some]
  have hi : i.toNat < z.cps.toList.length := by omega
  rw [List.getElem?_eq_getElem hi]
  exact ⟨_, List.getElem_mem hi, rfl⟩
theorem cps_app (a b : Str) : (a ++ b).cps.toList = a.cps.toList ++ b.cps.toList := by
  show (a.cps ++ b.cps).toList = _
  rw [Array.toList_append]
theorem len_app (a b : Str) : (a ++ b).length = a.length + b.length := by
  show (a.cps ++ b.cps).size = _
  rw [Array.size_append]
  rfl
theorem len_cps (a : Str) : a.length = a.cps.toList.length := by rw [Array.length_toList]; rfl
theorem cps_cut (z : Str) (lo hi : Option Int) : (cutS z lo hi).cps.toList = cutG z.cps.toList lo hi := by
  unfold cutS cutG
  rw [← len_cps]
theorem cut_mem {α : Type} {xs : List α} {lo hi : Option Int} {x : α} (h : x ∈ cutG xs lo hi) : x ∈ xs := List.mem_of_mem_drop (List.mem_of_mem_take h)
theorem cut_len {α : Type} (xs : List α) (lo hi : Option Int) : (cutG xs lo hi).length ≤ xs.length := by
  unfold cutG
  rw [List.length_take, List.length_drop]
  omega
theorem atI_mem {α : Type} {xs : List α} {i : Int} {x : α} (h : atI xs i = some x) : x ∈ xs := by
  unfold atI at h
  cases c : ixN xs.length i with
  | none => rw [c] at h; cases h
  | some j => rw [c] at h; exact List.mem_of_getElem? h
theorem atI_ok {α : Type} {xs : List α} {i : Int} (h0 : 0 ≤ i) (h1 : i < xs.length) : atI xs i = some (xs[i.toNat]'(by omega)) := by
  unfold atI ixN
  rw [if_pos h0, if_pos h1]
  exact List.getElem?_eq_getElem (by omega)
end Dm
set_option Elab.async false
set_option linter.all false
set_option maxRecDepth 100000
set_option maxHeartbeats 4000000
/-! Dq: more facts for reasoning over Dm's functions. -/
namespace Dm
open PySem L2
theorem frz_zero {ds : List D} {r : Env} : frz 0 (.own ds :: r) = .val (.lst ds) :: r := (rfl)
theorem frz_succ {i : Nat} {s : Sl} {r : Env} : frz (i + 1) (s :: r) = s :: frz i r := by
  unfold frz
  rw [List.getElem?_cons_succ]
  cases c : r[i]? with
  | none => rfl
  | some q => cases q <;> rfl
theorem cast_0 : ((0 : Nat) : Int) = 0 := (rfl)
theorem cast_1 : ((1 : Nat) : Int) = 1 := (rfl)
theorem cast_2 : ((2 : Nat) : Int) = 2 := (rfl)
theorem cast_3 : ((3 : Nat) : Int) = 3 := (rfl)
theorem cast_4 : ((4 : Nat) : Int) = 4 := (rfl)
theorem cast_5 : ((5 : Nat) : Int) = 5 := (rfl)
theorem cast_6 : ((6 : Nat) : Int) = 6 := (rfl)
theorem cast_7 : ((7 : Nat) : Int) = 7 := (rfl)
theorem cast_8 : ((8 : Nat) : Int) = 8 := (rfl)
theorem cast_9 : ((9 : Nat) : Int) = 9 := (rfl)
theorem frz_zeroV {d : D} {r : Dm.Env} : frz 0 (.val d :: r) = .val d :: r := (rfl)
def oOfR {α : Type} : Option Sl → (List D → R α) → R α
  | some (.own xs), k => k xs
  | _, _ => .bad
theorem oOfR_o {α : Type} {xs : List D} {k : List D → R α} : oOfR (some (.own xs)) k = k xs := (rfl)
def ixO (xs : List D) : D → R D
  | .int j => match atI xs j with
    | some d => .ok d
    | none => .bad
  | _ => .bad
theorem ap_lenO {i : Nat} {env : Dm.Env} : eLenO i env = oOfR env[i]? fun xs => .ok (.int xs.length) := by
  unfold eLenO oOfR
  cases env[i]? with
  | none => rfl
  | some s => cases s <;> rfl
theorem ap_ixO {i : Nat} {b : SE} {env : Dm.Env} : eIxO i b env = oOfR env[i]? fun xs => (b env).bind (ixO xs) := by
  unfold eIxO oOfR
  cases env[i]? with
  | none => rfl
  | some s =>
    cases s with
    | own xs =>
      dsimp only
      congr 1
    | _ => rfl
theorem ixO_ok {xs : List D} {j : Int} {d : D} (h : atI xs j = some d) : ixO xs (.int j) = .ok d := by unfold ixO; dsimp only; rw [h]
theorem ixL_ok {xs : List D} {j : Int} {d : D} (h : atI xs j = some d) : ixL xs j = .ok d := by unfold ixL; rw [h]
theorem atI_last (xs : List D) (d : D) : atI (xs ++ [d]) (-1) = some d := by
  unfold atI ixN
  rw [if_neg (by decide), if_pos (by rw [List.length_append, List.length_singleton]; omega), Option.bind_some]
  rw [show ((-1 : Int) + ((xs ++ [d]).length : Nat)).toNat = xs.length by rw [List.length_append, List.length_singleton]; omega]
  simp
theorem atI_nat {xs : List D} {k : Nat} {d : D} (h : xs[k]? = some d) : atI xs (k : Int) = some d := by
  have hl : k < xs.length := by
    rcases Nat.lt_or_ge k xs.length with h2 | h2
    · exact h2
    · rw [List.getElem?_eq_none h2] at h; cases h
  unfold atI
  rw [ixN_ok (by omega) (by omega), Option.bind_some, Int.toNat_natCast, h]
/-- texts as data -/
abbrev dS (zs : List Str) : List D := zs.map .str
theorem flat_strs (zs : List Str) : (dS zs).all flatD = true := by
  rw [List.all_eq_true]
  intro x hx
  obtain ⟨z, _, rfl⟩ := List.mem_map.mp hx
  rfl
theorem inD_strs {z : Str} : ∀ zs : List Str, inD (.str z) (dS zs) = decide (z ∈ zs)
  | [] => rfl
  | y :: zs => by
    have ih := inD_strs (z := z) zs
    unfold inD at ih ⊢
    rw [dS, List.map_cons, List.any_cons, ih]
    unfold D.eqv
    by_cases h : y = z
    · subst h
      simp
    · by_cases h2 : z ∈ zs
      · simp [h2]
      · simp [h, h2, Ne.symm h]
theorem in_strs {z : Str} {zs : List Str} : dIn (.str z) (.lst (dS zs)) = .ok (.bl (decide (z ∈ zs))) := by
  have q : dIn (.str z) (.lst (dS zs)) = if flatD (.str z) && (dS zs).all flatD then .ok (.bl (inD (.str z) (dS zs))) else .bad := (rfl)
  rw [q, flat_strs, inD_strs] <;> rfl
theorem in_strsK {z : Str} {zs : List Str} : dIn (.str z) (.ktp (dS zs)) = .ok (.bl (decide (z ∈ zs))) := by
  have q : dIn (.str z) (.ktp (dS zs)) = if flatD (.str z) && (dS zs).all flatD then .ok (.bl (inD (.str z) (dS zs))) else .bad := (rfl)
  rw [q, flat_strs, inD_strs] <;> rfl
theorem in_strsT {z : Str} {zs : List Str} : dIn (.str z) (.tup (dS zs)) = .ok (.bl (decide (z ∈ zs))) := by
  have q : dIn (.str z) (.tup (dS zs)) = if flatD (.str z) && (dS zs).all flatD then .ok (.bl (inD (.str z) (dS zs))) else .bad := (rfl)
  rw [q, flat_strs, inD_strs] <;> rfl
theorem notIn_of {x y : D} {b : Bool} (h : dIn x y = .ok (.bl b)) : dNotIn x y = .ok (.bl !b) := by unfold dNotIn; rw [h]; rfl
def tOf (r : Option (List D → R D)) (k : (List D → R D) → R D) : R D := match r with
  | some m => k m
  | none => .bad
def pOf (tb : Nat → Option (List D → R D)) (s : Option Sl) (k : (List D → R D) → R D) : R D := match s with
  | some (.val (.fn n)) => tOf (tb n) k
  | _ => .bad
theorem tOf_some {m : List D → R D} {k : (List D → R D) → R D} : tOf (some m) k = k m := (rfl)
theorem pOf_fn {tb : Nat → Option (List D → R D)} {n : Nat} {k : (List D → R D) → R D} : pOf tb (some (.val (.fn n))) k = tOf (tb n) k := (rfl)
theorem ap_P {tb : Nat → Option (List D → R D)} {i : Nat} {la : SA} {env : Dm.Env} : eP tb i la env = pOf tb env[i]? fun m => (la env).bind m := by
  unfold eP pOf tOf
  cases env[i]? with
  | none => rfl
  | some s =>
    cases s with
    | val d => cases d <;> rfl
    | _ => rfl
def itZT : List D → R (List D)
  | [.tup xs, .tup ys] => .ok (zipD xs ys)
  | _ => .bad
theorem ap_iZT {la : SA} {env : Dm.Env} : iZT la env = (la env).bind itZT := by
  unfold iZT
  congr 1
theorem itZT_ok {xs ys : List D} : itZT [.tup xs, .tup ys] = .ok (zipD xs ys) := (rfl)
theorem zipD_cons {x y : D} {xs ys : List D} : zipD (x :: xs) (y :: ys) = .tup [x, y] :: zipD xs ys := (rfl)
theorem zipD_nil {ys : List D} : zipD [] ys = [] := by unfold zipD; rfl
theorem forGo_nil {g : SG} {b : SS} {env : Dm.Env} : forGo g b [] env = .nx env := (rfl)
theorem str_i {i : Int} : fStr [.int i] = if i.natAbs.log2 < 1920 then .ok (.str (Str.ofString (toString i))) else .bad := (rfl)
/-- a number, where P -/
def OkP (P : Int → Prop) (r : R D) : Prop := ∃ i, r = .ok (.int i) ∧ P i
theorem ok_inj {α : Type} {a b : α} (h : (R.ok a : R α) = R.ok b) : a = b := by
  have q : (Rs.ok a [] : Rs α) = Rs.ok b [] := congrFun h []
  injection q
theorem okP {P : Int → Prop} {i : Int} : OkP P (.ok (.int i)) = P i := propext ⟨fun ⟨j, h, p⟩ => by
  have q := ok_inj h
  injection q with q
  rw [q]; exact p, fun p => ⟨i, rfl, p⟩⟩
theorem OkP.ex {P : Int → Prop} {r : R D} (h : OkP P r) : ∃ i, r = .ok (.int i) ∧ P i := h
theorem gT_tup {n : Nat} {r : SGs} {ds : List D} {env : Env} : gT n r (.tup ds) env = if ds.length = n then r ds env else none := (rfl)
theorem gT_ktp {n : Nat} {r : SGs} {ds : List D} {env : Env} : gT n r (.ktp ds) env = if ds.length = n then r ds env else none := (rfl)
theorem gC_ap {i : Nat} {r : SGs} {d : D} {ds : List D} {env : Env} : gC (gN i) r (d :: ds) env = r ds (env.set i (.val d)) := (rfl)
theorem gE_nil {env : Env} : gE [] env = some env := (rfl)
theorem ixL_get {ns : List Int} {p : Nat} {x : Int} (h : ns[p]? = some x) : ixL (ns.map .int) p = .ok (.int x) := by
  have hl : p < ns.length := by
    rcases Nat.lt_or_ge p ns.length with h2 | h2
    · exact h2
    · rw [List.getElem?_eq_none h2] at h; cases h
  unfold ixL atI
  rw [List.length_map, ixN_ok (by omega) (by omega), Option.bind_some, Int.toNat_natCast, List.getElem?_map, h]
  rfl
theorem ipow_le {b k : Nat} (h : b ≤ k) : (2 : Int) ^ b ≤ 2 ^ k := by
  have q := Nat.pow_le_pow_right (show 0 < 2 by decide) h
  exact_mod_cast q
/-- a list of numbers as data -/
abbrev dI (ns : List Int) : List D := ns.map .int
theorem eqv_ints : ∀ ns ms : List Int, eqvAll (dI ns) (dI ms) = decide (ns = ms)
  | [], [] => rfl
  | [], _ :: _ => rfl
  | _ :: _, [] => rfl
  | n :: ns, m :: ms => by
    rw [dI, dI, List.map_cons, List.map_cons]
    unfold eqvAll
    rw [eqv_ints ns ms]
    unfold D.eqv
    by_cases h : n = m
    · subst h
      by_cases h2 : ns = ms <;> simp [h2]
    · simp [h]
theorem shp_ints (n : Nat) : ∀ ns : List Int, shpAll n (dI ns) = true
  | [] => rfl
  | m :: ns => by
    rw [dI, List.map_cons]
    unfold shpAll
    rw [shp_ints n ns]
    cases n <;> rfl
theorem eq_ints {ns ms : List Int} : dEq (.lst (dI ns)) (.lst (dI ms)) = .ok (.bl (decide (ns = ms))) := by
  unfold dEq
  dsimp only
  have e : ∀ xs : List Int, (D.lst (dI xs)).shp 64 = true := fun xs => shp_ints 63 xs
  rw [e, e, if_pos (show (true && true) = true from rfl)]
  unfold D.eqv
  rw [eqv_ints]
theorem ne_ints {ns ms : List Int} : dNe (.lst (dI ns)) (.lst (dI ms)) = .ok (.bl (!decide (ns = ms))) := ne_of eq_ints
theorem lcGo_map {g : SG} {e : SE} {env : Env} (f : D → D) : ∀ (ds acc : List D), (∀ d, d ∈ ds → ∃ env2, g d env = some env2 ∧ e env2 = .ok (f d)) → lcGo g tY e env ds acc = .ok (acc ++ ds.map f)
  | [], acc, _ => by unfold lcGo; rw [List.map_nil, List.append_nil]
  | d :: ds, acc, h => by
    obtain ⟨e2, h1, h2⟩ := h d List.mem_cons_self
    unfold lcGo
    rw [h1]
    dsimp only
    have z : noX (tY e2) = .ok true := (rfl)
    have z2 : noX (e e2) = .ok (f d) := by rw [h2]; rfl
    rw [z, bind_ok, if_pos rfl, z2, bind_ok, lcGo_map f ds _ fun d hd => h d (List.mem_cons_of_mem _ hd), List.append_assoc]
    rfl
/-- a comprehension without a test -/
theorem lc_map {it : SA} {g : SG} {e : SE} {vs : List Nat} {env : Env} {ds : List D} (f : D → D) (hi : it env = .ok ds) (hl : ds.length ≤ 40000) (h : ∀ d, d ∈ ds → ∃ env2, g d (wipeS env vs) = some env2 ∧ e env2 = .ok (f d)) : lLc it g tY e vs env = .ok (ds.map f) := by
  unfold lLc
  rw [hi, bind_ok, if_pos hl, lcGo_map f ds [] h, List.nil_append]
theorem wipe1_len (env : Dm.Env) (j : Nat) : (wipeS env [j]).length = env.length := by unfold wipeS wipeS; rw [List.length_set]
/-- [int(x) for x in xs] of numbers -/
theorem lc_ints {it : SA} {env : Dm.Env} {ns : List Int} {j : Nat} (h : it env = .ok (dI ns)) (hl : ns.length ≤ 40000) (hj : j < env.length) : lLc it (gN j) tY (eF fInt (eCons (eV j) eNil)) [j] env = .ok (dI ns) := by
  have e : (dI ns).map id = dI ns := List.map_id _
  rw [← e]
  refine lc_map id h (by rw [List.length_map]; exact hl) fun d hd => ⟨_, gN_ap, ?_⟩
  obtain ⟨n, _, rfl⟩ := List.mem_map.mp hd
  have q : ((wipeS env [j]).set j (.val (.int n)))[j]? = some (.val (.int n)) := by
    rw [List.getElem?_set, if_pos rfl, if_pos (by rw [wipe1_len]; exact hj)]
  unfold eF eCons eNil eV
  rw [q]
  rfl
mutual
theorem eqv_self : ∀ (d : D) (n : Nat), d.shp n = true → d.eqv d = true
  | .non, _, _ => rfl
  | .bl b, _, _ => by unfold D.eqv; exact beq_self_eq_true b
  | .int i, _, _ => by unfold D.eqv; exact beq_self_eq_true i
  | .str i, _, _ => by unfold D.eqv; exact beq_self_eq_true i
  | .lst xs, 0, h => by cases h
  | .lst xs, n + 1, h => by unfold D.eqv; exact eqvAll_self xs n h
  | .scr xs, 0, h => by cases h
  | .scr xs, n + 1, h => by unfold D.eqv; exact eqvAll_self xs n h
  | .tup xs, 0, h => by cases h
  | .tup xs, n + 1, h => by unfold D.eqv; exact eqvAll_self xs n h
  | .ktp xs, 0, h => by cases h
  | .ktp xs, n + 1, h => by unfold D.eqv; exact eqvAll_self xs n h
  | .fn _, 0, h => by cases h
  | .fn _, _ + 1, h => by cases h
  | .dct _ _, 0, h => by cases h
  | .dct _ _, _ + 1, h => by cases h
  | .mref _, 0, h => by cases h
  | .mref _, _ + 1, h => by cases h
theorem eqvAll_self : ∀ (ds : List D) (n : Nat), shpAll n ds = true → eqvAll ds ds = true
  | [], _, _ => rfl
  | d :: ds, n, h => by
    unfold shpAll at h
    rw [Bool.and_eq_true] at h
    unfold eqvAll
    rw [eqv_self d n h.1, eqvAll_self ds n h.2] <;> rfl
end
theorem dEq_self {x : D} (h : x.shp 64 = true) : dEq x x = .ok (.bl true) := by
  have z : (x.shp 64 && x.shp 64) = true := by rw [h] <;> rfl
  cases x with
  | int i => unfold dEq; simp
  | str i => unfold dEq; simp
  | non => unfold dEq; dsimp only; rw [if_pos z, eqv_self _ 64 h]
  | bl b => unfold dEq; dsimp only; rw [if_pos z, eqv_self _ 64 h]
  | lst b => unfold dEq; dsimp only; rw [if_pos z, eqv_self _ 64 h]
  | scr b => unfold dEq; dsimp only; rw [if_pos z, eqv_self _ 64 h]
  | tup b => unfold dEq; dsimp only; rw [if_pos z, eqv_self _ 64 h]
  | ktp b => unfold dEq; dsimp only; rw [if_pos z, eqv_self _ 64 h]
  | fn n => cases h
  | dct a b => cases h
  | mref a => cases h
theorem dNe_self {x : D} (h : x.shp 64 = true) : dNe x x = .ok (.bl false) := ne_of (dEq_self h)
theorem sq_rt {a b : SS} {env : Dm.Env} {v : Sl} (h : a env = .rt v) : sSeq a b env = .rt v := by unfold sSeq; rw [h] <;> rfl
theorem sq_ofnx {a b : SS} {env e : Dm.Env} (h : a env = .nx e) : sSeq a b env = b e := by unfold sSeq; rw [h] <;> rfl
theorem sq_exc {a b : SS} {env e : Dm.Env} {c : Nat} {fs : List (Str × D)} (h : a env = .exc c fs e) : sSeq a b env = .exc c fs e := by unfold sSeq; rw [h] <;> rfl
theorem try_at {b h : SS} {i : Nat} {cs : Nat → Option Bool} {env : Dm.Env} {s : Sto} : sTry b i cs h env s = tryR (b env s) i cs h := (rfl)
theorem try_rt {b h : SS} {i : Nat} {cs : Nat → Option Bool} {env : Dm.Env} {v : Sl} (q : b env = .rt v) : sTry b i cs h env = .rt v := by
  funext s
  rw [try_at, q] <;> rfl
theorem try_nx {b h : SS} {i : Nat} {cs : Nat → Option Bool} {env e : Dm.Env} (q : b env = .nx e) : sTry b i cs h env = .nx e := by
  funext s
  rw [try_at, q] <;> rfl
theorem try_exc_rt {b h : SS} {i c : Nat} {fs : List (Str × D)} {cs : Nat → Option Bool} {env e2 : Dm.Env} {v : Sl} (q : b env = .exc c fs e2) (hc : cs c = some true) (hn : noExn e2 = true) (hh : h (e2.set i (.exn c fs)) = .rt v) : sTry b i cs h env = .rt v := by
  funext s
  rw [try_at, q]
  unfold RS.exc tryR
  dsimp only
  rw [hc]
  dsimp only
  rw [hn, hh]
  rfl
theorem try_exc_nx {b h : SS} {i c : Nat} {fs : List (Str × D)} {cs : Nat → Option Bool} {env e2 e3 : Dm.Env} (q : b env = .exc c fs e2) (hc : cs c = some true) (hn : noExn e2 = true) (hh : h (e2.set i (.exn c fs)) = .nx e3) (h3 : noExn (e3.set i .un) = true) : sTry b i cs h env = .nx (e3.set i .un) := by
  funext s
  rw [try_at, q]
  unfold RS.exc tryR
  dsimp only
  rw [hc]
  dsimp only
  rw [hn, hh]
  show ifB true (ifB (noExn (e3.set i .un)) _) = _
  rw [h3]
  rfl
theorem ty_bs {i : Str} : isTy .bool (.str i) = false := (rfl)
theorem ty_is {i : Str} : isTy .int (.str i) = false := (rfl)
/-- the run goes on, where P -/
def NxP (P : Dm.Env → Prop) (r : RS) : Prop := ∃ e, (r = .nx e ∨ r = .ct e) ∧ P e
theorem nx_inj {a b : Dm.Env} (h : RS.nx a = RS.nx b) : a = b := by
  have q : (RSr.nx a []) = RSr.nx b [] := congrFun h []
  injection q
theorem ct_inj {a b : Dm.Env} (h : RS.ct a = RS.ct b) : a = b := by
  have q : (RSr.ct a []) = RSr.ct b [] := congrFun h []
  injection q
theorem nx_ct {a b : Dm.Env} (h : RS.nx a = RS.ct b) : False := by
  have q : (RSr.nx a []) = RSr.ct b [] := congrFun h []
  cases q
theorem nxP_nx {P : Dm.Env → Prop} {e : Dm.Env} : NxP P (.nx e) = P e := propext ⟨fun ⟨j, h, p⟩ => by
  rcases h with h | h
  · rw [nx_inj h]; exact p
  · exact (nx_ct h).elim, fun p => ⟨e, Or.inl rfl, p⟩⟩
theorem nxP_ct {P : Dm.Env → Prop} {e : Dm.Env} : NxP P (.ct e) = P e := propext ⟨fun ⟨j, h, p⟩ => by
  rcases h with h | h
  · exact (nx_ct h.symm).elim
  · rw [ct_inj h]; exact p, fun p => ⟨e, Or.inr rfl, p⟩⟩
theorem NxP.ex {P : Dm.Env → Prop} {r : RS} (h : NxP P r) : ∃ e, (r = .nx e ∨ r = .ct e) ∧ P e := h
/-- a walk of a row of numbers: every turn goes on, and keeps P -/
theorem forGo_P {i : Nat} {b : SS} {P : Dm.Env → Prop} : ∀ (ds : List D) (env : Dm.Env), P env → (∀ d env, d ∈ ds → P env → NxP P (b (env.set i (.val d)))) → ∃ e, forGo (gN i) b ds env = .nx e ∧ P e
  | [], env, h, _ => ⟨env, rfl, h⟩
  | d :: ds, env, h, hs => by
    obtain ⟨e, h1, h2⟩ := (hs d env List.mem_cons_self h).ex
    obtain ⟨e2, q1, q2⟩ := forGo_P ds e h2 fun d env hd => hs d env (List.mem_cons_of_mem _ hd)
    refine ⟨e2, ?_, q2⟩
    rw [forGo_cons gN_ap]
    rcases h1 with h1 | h1 <;> rw [h1] <;> exact q1
/-- .. with a count -/
theorem forGo_PN {i : Nat} {b : SS} (P : Nat → Dm.Env → Prop) : ∀ (ds : List D) (k : Nat) (env : Dm.Env), P k env → (∀ n d env, d ∈ ds → k ≤ n → n < k + ds.length → P n env → NxP (P (n + 1)) (b (env.set i (.val d)))) → ∃ e, forGo (gN i) b ds env = .nx e ∧ P (k + ds.length) e
  | [], k, env, h, _ => ⟨env, rfl, h⟩
  | d :: ds, k, env, h, hs => by
    obtain ⟨e, h1, h2⟩ := (hs k d env List.mem_cons_self (Nat.le_refl k) (by rw [List.length_cons]; omega) h).ex
    obtain ⟨e2, q1, q2⟩ := forGo_PN P ds (k + 1) e h2 fun n d env hd hn hm => hs n d env (List.mem_cons_of_mem _ hd) (by omega) (by rw [List.length_cons]; omega)
    refine ⟨e2, ?_, by rw [List.length_cons, show k + (ds.length + 1) = k + 1 + ds.length by omega]; exact q2⟩
    rw [forGo_cons gN_ap]
    rcases h1 with h1 | h1 <;> rw [h1] <;> exact q1
theorem mem_range {n : Nat} {d : D} (h : d ∈ (List.range n).map fun (i : Nat) => D.int i) : ∃ i : Nat, i < n ∧ d = .int i := by
  obtain ⟨i, h1, rfl⟩ := List.mem_map.mp h
  exact ⟨i, List.mem_range.mp h1, rfl⟩
/-- a walk of range(n) -/
theorem forGo_range {i : Nat} {b : SS} (P : Nat → Dm.Env → Prop) (n : Nat) (env : Dm.Env) (h : P 0 env) (hs : ∀ k env, k < n → P k env → NxP (P (k + 1)) (b (env.set i (.val (.int (k : Int)))))) : ∃ e, forGo (gN i) b ((List.range n).map fun (i : Nat) => D.int i) env = .nx e ∧ P n e := by
  obtain ⟨e, q1, q2⟩ := forGo_nx (g := gN i) (b := b) P ((List.range n).map fun (i : Nat) => D.int i) 0 env h fun k d env hk hI => by
    obtain ⟨hlt, rfl⟩ := range_at hk
    rw [Nat.zero_add] at hI
    obtain ⟨e3, h3, h4⟩ := (hs k env hlt hI).ex
    exact ⟨_, e3, gN_ap, h3, by rw [Nat.zero_add]; exact h4⟩
  rw [Nat.zero_add, List.length_map, List.length_range] at q2
  exact ⟨e, q1, q2⟩
theorem ne_self {ns : List Int} : dNe (.lst (dI ns)) (.lst (dI ns)) = .ok (.bl false) := by rw [ne_ints, decide_eq_true rfl] <;> rfl
theorem cutG_to {α : Type} (xs : List α) (n : Nat) : cutG xs none (some (n : Int)) = xs.take n := by
  unfold cutG
  rw [HT.sIx_none, HT.sIx_nat, List.drop_zero, Nat.sub_zero, List.take_eq_take_iff]
  omega
theorem map_take {α β : Type} (f : α → β) (xs : List α) (n : Nat) : (xs.map f).take n = (xs.take n).map f := by rw [List.map_take]
/-- an item assigned -/
def setX (xs : List D) (d : D) (k : List D → RS) : D → RS
  | .int j => match ixN xs.length j with
    | some n => k (xs.set n d)
    | none => .bad
  | _ => .bad
def oOfS : Option Sl → (List D → RS) → RS
  | some (.own xs), k => k xs
  | _, _ => .bad
theorem oOfS_o {xs : List D} {k : List D → RS} : oOfS (some (.own xs)) k = k xs := (rfl)
theorem sq_set {i : Nat} {k e : SE} {q : SS} {env : Dm.Env} : sSeq (sSet i k e) q env = oOfS env[i]? fun xs => ofE (e env) env fun d => ofE (k env) env fun j => setX xs d (fun ys => q (env.set i (.own ys))) j := by
  unfold sSeq sSet oOfS
  cases env[i]? with
  | none => rfl
  | some s =>
    cases s with
    | own xs =>
      dsimp only
      rw [thenS_ofE]
      congr 1
      funext d
      rw [thenS_ofE]
      congr 1
      funext j
      unfold setX
      cases j with
      | int j =>
        dsimp only
        cases ixN xs.length j <;> rfl
      | _ => rfl
    | _ => rfl
theorem setX_ok {xs : List D} {d : D} {k : List D → RS} {j : Int} (h0 : 0 ≤ j) (h1 : j < xs.length) : setX xs d k (.int j) = k (xs.set j.toNat d) := by
  unfold setX
  dsimp only
  rw [ixN_ok h0 h1]
theorem set_ints {ns : List Int} {p : Nat} {x : Int} : (dI ns).set p (.int x) = dI (ns.set p x) := by rw [dI, dI, List.map_set]
end Dm
set_option Elab.async false
set_option linter.all false
set_option maxRecDepth 100000
set_option maxHeartbeats 4000000
/-! Dx: texts by their codes. -/
namespace Dm
open PySem L2
/-- the text of these codes -/
def tx (cs : List Nat) : Str := ⟨cs.toArray⟩
theorem tx_cps (cs : List Nat) : (tx cs).cps.toList = cs := rfl
theorem tx_of (z : Str) : tx z.cps.toList = z := by cases z; rfl
theorem tx_inj {a b : List Nat} : tx a = tx b ↔ a = b := ⟨fun h => congrArg (fun z : Str => z.cps.toList) h, fun h => by rw [h]⟩
theorem tx_len {a : List Nat} : (tx a).length = a.length := by simp [tx, Str.length]
theorem tx_cat {a b : List Nat} : tx a ++ tx b = tx (a ++ b) := SX.S_cat a b
theorem tx_cut {a : List Nat} {lo hi : Option Int} : cutS (tx a) lo hi = tx (cutG a lo hi) := by
  rw [← tx_of (cutS (tx a) lo hi), cps_cut, tx_cps]
theorem tx_ix {a : List Nat} {i : Int} {c : Nat} (h0 : 0 ≤ i) (h : a[i.toNat]? = some c) : ixS (tx a) i = .ok (.str (tx [c])) := by
  have hl : i.toNat < a.length := by
    rcases Nat.lt_or_ge i.toNat a.length with h2 | h2
    · exact h2
    · rw [List.getElem?_eq_none h2] at h; cases h
  have z : atI (tx a).cps.toList i = some c := by
    rw [tx_cps]
    unfold atI
    rw [ixN_ok h0 (by omega), Option.bind_some, h]
  unfold ixS
  rw [z]
  rfl
theorem tx_in {a : List Nat} {c : Nat} : dIn (.str (tx [c])) (.str (tx a)) = .ok (.bl (decide (c ∈ a))) := by
  have q : dIn (.str (tx [c])) (.str (tx a)) = .ok (.bl (!(Builtin.Str.occurrences (tx a) (tx [c]) 0 (tx a).length 1).isEmpty)) := rfl
  rw [q]
  congr 2
  exact SX.in_one a c
theorem tx_notIn {a : List Nat} {c : Nat} : dNotIn (.str (tx [c])) (.str (tx a)) = .ok (.bl !(decide (c ∈ a))) := notIn_of tx_in
theorem tx_ord {c : Nat} : fOrd [.str (tx [c])] = .ok (.int c) := rfl
theorem cnt_none {c : Nat} : ∀ {a : List Nat}, c ∉ a → PyProof.Rows.cnt c a = 0
  | [], _ => rfl
  | n :: r, h => by
    rw [PyProof.Rows.cnt_cons, if_neg fun z => h (by rw [z]; exact List.mem_cons_self), cnt_none fun z => h (List.mem_cons_of_mem _ z)]
    rfl
theorem tx_count {a : List Nat} {c : Nat} : Txt.count (tx a) (tx [c]) = PyProof.Rows.cnt c a := PyProof.Rows.count_cnt (tx a) c
theorem tx_count0 {a : List Nat} {c : Nat} (h : c ∉ a) : Txt.count (tx a) (tx [c]) = 0 := by rw [tx_count, cnt_none h]
theorem at_one {a : List Nat} {c i : Nat} : PySem.StrLaws.At (tx a) (tx [c]) (tx a).length i ↔ a[i]? = some c := by
  have e := TL.at_iff (x := tx a) (y := tx [c]) (show [c] ≠ [] from List.cons_ne_nil _ _) i
  rw [e]
  show (List.take [c].length (a.drop i) == [c]) = true ↔ _
  rw [beq_iff_eq]
  constructor
  · intro h
    have q : (List.take 1 (a.drop i))[0]? = some c := by rw [show List.take 1 (a.drop i) = [c] from h]; rfl
    rw [List.getElem?_take, if_pos (by decide), List.getElem?_drop] at q
    exact q
  · intro h
    have hl : i < a.length := by
      rcases Nat.lt_or_ge i a.length with h2 | h2
      · exact h2
      · rw [List.getElem?_eq_none h2] at h; cases h
    rw [List.getElem?_eq_getElem hl] at h
    rw [List.drop_eq_getElem_cons hl, Option.some.inj h]
    rfl
theorem tx_rfind0 {a : List Nat} {c : Nat} (h : c ∉ a) : Txt.rfind (tx a) (tx [c]) = -1 := by
  unfold Txt.rfind
  rcases PySem.StrLaws.last_spec (tx a) (tx [c]) with ⟨e, _⟩ | ⟨i, e, h1, _⟩
  · rw [e]
  · exact absurd (List.mem_of_getElem? (at_one.mp h1)) h
theorem tx_rfind {a b : List Nat} {c : Nat} (h : c ∉ b) : Txt.rfind (tx (a ++ c :: b)) (tx [c]) = (a.length : Int) := by
  have q : (a ++ c :: b)[a.length]? = some c := by rw [List.getElem?_append_right (Nat.le_refl _), Nat.sub_self]; rfl
  unfold Txt.rfind
  rcases PySem.StrLaws.last_spec (tx (a ++ c :: b)) (tx [c]) with ⟨e, h1⟩ | ⟨i, e, h1, h2⟩
  · exact absurd (at_one.mpr q) (h1 a.length)
  · rw [e]
    dsimp only
    rcases Nat.lt_trichotomy i a.length with z | z | z
    · exact absurd (at_one.mpr q) (h2 _ z)
    · rw [z]
    · have q2 := at_one.mp h1
      rw [List.getElem?_append_right (by omega)] at q2
      obtain ⟨j, hj⟩ : ∃ j, i - a.length = j + 1 := ⟨i - a.length - 1, by omega⟩
      rw [hj, List.getElem?_cons_succ] at q2
      exact absurd (List.mem_of_getElem? q2) h
theorem joinL_nil : ∀ ys : List (List Nat), TL.joinL [] ys = ys.flatten
  | [] => rfl
  | [x] => by simp [TL.joinL]
  | x :: y :: r => by
    show x ++ ([] ++ TL.joinL [] (y :: r)) = _
    rw [joinL_nil (y :: r), List.nil_append] <;> rfl
theorem tx_join (ys : List (List Nat)) : Txt.join (tx []) (ys.map tx) = tx ys.flatten := by
  rw [← joinL_nil]
  exact SX.join_S [] ys
theorem strsOf_dS : ∀ zs : List Str, strsOf (dS zs) = some zs
  | [] => rfl
  | z :: zs => by
    rw [dS, List.map_cons]
    unfold strsOf
    rw [strsOf_dS zs]
    rfl
theorem flat_len : ∀ ys : List (List Nat), ((ys.map tx).map (·.length)).sum = ys.flatten.length
  | [] => rfl
  | y :: ys => by
    rw [List.map_cons, List.map_cons, List.sum_cons, flat_len ys, List.flatten_cons, List.length_append, tx_len]
theorem join_ok {ys : List (List Nat)} (h : ys.flatten.length ≤ 16777216) : mJoin (.str (tx [])) [.lst (dS (ys.map tx))] = .ok (.str (tx ys.flatten)) := by
  have q : mJoin (.str (tx [])) [.lst (dS (ys.map tx))] = match strsOf (dS (ys.map tx)) with
    | some ys => if (ys.map (·.length)).sum + ys.length * (tx []).length ≤ 16777216 then .ok (.str (Txt.join (tx []) ys)) else .bad
    | none => .bad := rfl
  rw [q, strsOf_dS]
  dsimp only
  rw [flat_len, tx_len, List.length_nil, Nat.mul_zero, Nat.add_zero, if_pos h, tx_join]
theorem cut_ft {α : Type} (xs : List α) (n m : Nat) : cutG xs (some (n : Int)) (some (m : Int)) = (xs.drop n).take (m - n) := by
  unfold cutG
  rw [HT.sIx_nat, HT.sIx_nat]
  rcases Nat.le_total xs.length n with h | h
  · rw [List.drop_eq_nil_of_le (by omega), List.drop_eq_nil_of_le h, List.take_nil, List.take_nil]
  · rw [Nat.min_eq_left h, List.take_eq_take_iff, List.length_drop]
    omega
theorem cut_f {α : Type} (xs : List α) (n : Nat) : cutG xs (some (n : Int)) none = xs.drop n := by
  unfold cutG
  rw [HT.sIx_nat, HT.sIx_none]
  rcases Nat.le_total xs.length n with h | h
  · rw [List.drop_eq_nil_of_le (by omega), List.drop_eq_nil_of_le h, List.take_nil]
  · rw [Nat.min_eq_left h, List.take_of_length_le]
    rw [List.length_drop]
    exact Nat.le_refl _
theorem lower_tx {a : List Nat} (h : a.all (· < 128) = true) : Txt.lower (tx a) = tx (a.map PyProof.Rows.lo1) := SX.lower_S h
end Dm
set_option Elab.async false
set_option linter.all false
set_option maxRecDepth 100000
set_option maxHeartbeats 4000000
/-! Dy: runs on a store: At r s P: from the store s, r hands back a and leaves the store s2, where P a s2. -/
namespace Dm
open PySem L2
def At {α : Type} (r : R α) (s : Sto) (P : α → Sto → Prop) : Prop := ∃ a s2, r s = .ok a s2 ∧ P a s2
/-- .. of a piece of a def: it goes on, where N, or hands something back, where T -/
def AtS (r : RS) (s : Sto) (N : Dm.Env → Sto → Prop) (T : Sl → Sto → Prop) : Prop := (∃ e s2, r s = .nx e s2 ∧ N e s2) ∨ ∃ v s2, r s = .rt v s2 ∧ T v s2
/-- what a def hands back -/
def EndP (P : D → Sto → Prop) (v : Sl) (s : Sto) : Prop := match v with
  | .val d => P d s
  | .own xs => P (.lst xs) s
  | _ => False
section
variable {α β : Type} {r : R α} {k : α → R β} {a : α} {s : Sto} {P Q : α → Sto → Prop} {P2 : β → Sto → Prop} {N N2 : Dm.Env → Sto → Prop} {T T2 : Sl → Sto → Prop} {env e : Dm.Env} {d : D} {xs : List D} {PD : D → Sto → Prop}
theorem At.mono (h : At r s P) (q : ∀ a s2, P a s2 → Q a s2) : At r s Q := by
  obtain ⟨a, s2, h1, h2⟩ := h
  exact ⟨a, s2, h1, q a s2 h2⟩
theorem AtS.mono {r : RS} (h : AtS r s N T) (q : ∀ e s2, N e s2 → N2 e s2) (q2 : ∀ v s2, T v s2 → T2 v s2) : AtS r s N2 T2 := by
  rcases h with ⟨a, s2, h1, h2⟩ | ⟨a, s2, h1, h2⟩
  · exact Or.inl ⟨a, s2, h1, q a s2 h2⟩
  · exact Or.inr ⟨a, s2, h1, q2 a s2 h2⟩
theorem at_ok : At (.ok a) s P = P a s := by
  refine propext ⟨fun h => ?_, fun p => ⟨a, s, rfl, p⟩⟩
  obtain ⟨b, s2, h, p⟩ := h
  injection h with h1 h2
  subst h1 h2
  exact p
theorem at_bad : At (.bad : R α) s P = False := by
  refine propext ⟨fun h => ?_, False.elim⟩
  obtain ⟨b, s2, h, p⟩ := h
  cases h
theorem at_exc {c : Nat} {fs : List (Str × D)} : At (.exc c fs : R α) s P = False := by
  refine propext ⟨fun h => ?_, False.elim⟩
  obtain ⟨b, s2, h, p⟩ := h
  cases h
theorem at_bind : At (r.bind k) s P2 = At r s fun a s2 => At (k a) s2 P2 := by
  refine propext ⟨fun h => ?_, fun h => ?_⟩
  · obtain ⟨b, s2, h, p⟩ := h
    unfold R.bind at h
    cases c : r s with
    | ok a s1 => rw [c] at h; exact ⟨a, s1, c, b, s2, h, p⟩
    | exc _ _ _ => rw [c] at h; cases h
    | bad => rw [c] at h; cases h
  · obtain ⟨a, s1, h1, b, s2, h2, p⟩ := h
    exact ⟨b, s2, by unfold R.bind; rw [h1]; exact h2, p⟩
theorem at_ite {c : Prop} [Decidable c] {r2 : R α} : At (if c then r else r2) s P = if c then At r s P else At r2 s P := by split <;> rfl
theorem atS_nx : AtS (.nx e) s N T = N e s := by
  refine propext ⟨fun h => ?_, fun p => Or.inl ⟨e, s, rfl, p⟩⟩
  rcases h with ⟨b, s2, h, p⟩ | ⟨b, s2, h, p⟩
  · injection h with h1 h2
    subst h1 h2
    exact p
  · cases h
theorem atS_rt {v : Sl} : AtS (.rt v) s N T = T v s := by
  refine propext ⟨fun h => ?_, fun p => Or.inr ⟨v, s, rfl, p⟩⟩
  rcases h with ⟨b, s2, h, p⟩ | ⟨b, s2, h, p⟩
  · cases h
  · injection h with h1 h2
    subst h1 h2
    exact p
theorem atS_bad : AtS .bad s N T = False := by
  refine propext ⟨fun h => ?_, False.elim⟩
  rcases h with ⟨b, s2, h, p⟩ | ⟨b, s2, h, p⟩ <;> cases h
theorem atS_ite {c : Prop} [Decidable c] {r r2 : RS} : AtS (if c then r else r2) s N T = if c then AtS r s N T else AtS r2 s N T := by split <;> rfl
theorem atS_ofE {kS : α → RS} : AtS (ofE r env kS) s N T = At r s fun a s2 => AtS (kS a) s2 N T := by
  refine propext ⟨fun h => ?_, fun h => ?_⟩
  · unfold AtS ofE at h
    cases c : r s with
    | ok a s1 =>
      rw [c] at h
      exact ⟨a, s1, c, h⟩
    | exc _ _ _ => rw [c] at h; rcases h with ⟨_, _, h, _⟩ | ⟨_, _, h, _⟩ <;> cases h
    | bad => rw [c] at h; rcases h with ⟨_, _, h, _⟩ | ⟨_, _, h, _⟩ <;> cases h
  · obtain ⟨a, s1, h1, h⟩ := h
    unfold AtS ofE
    rw [h1]
    exact h
theorem atS_then {r : RS} {p : SS} : AtS (thenS r p) s N T = AtS r s (fun e s2 => AtS (p e) s2 N T) T := by
  refine propext ⟨fun h => ?_, fun h => ?_⟩
  · unfold AtS thenS thenR at h
    cases c : r s with
    | nx e s1 => rw [c] at h; exact Or.inl ⟨e, s1, c, h⟩
    | rt v s1 =>
      rw [c] at h
      rcases h with ⟨_, _, h, _⟩ | ⟨_, _, h, q⟩
      · cases h
      · injection h with h1 h2
        subst h1 h2
        exact Or.inr ⟨_, _, c, q⟩
    | bk _ _ => rw [c] at h; rcases h with ⟨_, _, h, _⟩ | ⟨_, _, h, _⟩ <;> cases h
    | ct _ _ => rw [c] at h; rcases h with ⟨_, _, h, _⟩ | ⟨_, _, h, _⟩ <;> cases h
    | exc _ _ _ _ => rw [c] at h; rcases h with ⟨_, _, h, _⟩ | ⟨_, _, h, _⟩ <;> cases h
    | bad => rw [c] at h; rcases h with ⟨_, _, h, _⟩ | ⟨_, _, h, _⟩ <;> cases h
  · rcases h with ⟨e, s1, h1, h⟩ | ⟨v, s1, h1, h⟩
    · unfold AtS thenS thenR
      rw [h1]
      exact h
    · exact Or.inr ⟨v, s1, by unfold thenS thenR; rw [h1], h⟩
theorem at_endV {r : RS} : At (endV r) s PD = AtS r s (fun _ s2 => PD .non s2) (EndP PD) := by
  refine propext ⟨fun h => ?_, fun h => ?_⟩
  · obtain ⟨b, s2, h, p⟩ := h
    unfold endV endD at h
    cases c : r s with
    | nx e s1 =>
      rw [c] at h
      injection h with h1 h2
      subst h1 h2
      exact Or.inl ⟨e, _, c, p⟩
    | rt v s1 =>
      rw [c] at h
      cases v with
      | val d =>
        injection h with h1 h2
        subst h1 h2
        exact Or.inr ⟨_, _, c, p⟩
      | own xs =>
        injection h with h1 h2
        subst h1 h2
        exact Or.inr ⟨_, _, c, p⟩
      | un => cases h
      | exn _ _ => cases h
    | bk _ _ => rw [c] at h; cases h
    | ct _ _ => rw [c] at h; cases h
    | exc _ _ _ _ => rw [c] at h; cases h
    | bad => rw [c] at h; cases h
  · rcases h with ⟨e, s1, h1, h⟩ | ⟨v, s1, h1, h⟩
    · exact ⟨.non, s1, by unfold endV endD; rw [h1], h⟩
    · cases v with
      | val d => exact ⟨d, s1, by unfold endV endD; rw [h1], h⟩
      | own xs => exact ⟨.lst xs, s1, by unfold endV endD; rw [h1], h⟩
      | un => exact h.elim
      | exn _ _ => exact h.elim
theorem endP_v : EndP PD (.val d) s = PD d s := (rfl)
theorem endP_o : EndP PD (.own xs) s = PD (.lst xs) s := (rfl)
/-! cells -/
theorem ix_m {n : Nat} {i : Int} : dIx (.mref n) (.int i) = cIx n i := (rfl)
theorem len_m {n : Nat} : fLen [.mref n] = cLen n := (rfl)
theorem ap_MM {f : D → List D → R D} {o : SE} {la : SA} : eMM f o la env = (o env).bind fun x => (isCL x).bind fun _ => (la env).bind fun xs => f x xs := (rfl)
theorem isCL_m {n : Nat} : isCL (.mref n) = onL n fun _ s => Rs.ok () s := (rfl)
theorem pop0_m {n : Nat} {i : Int} : mPop0 (.mref n) [.int i] = if i = 0 then cPop0 n else .bad := (rfl)
theorem mapp_m {n : Nat} : mApp (.mref n) [d] = (cApp n d).bind fun _ => .ok .non := (rfl)
theorem ap_cell {la : SA} : eCell la env = (la env).bind fun ds => cNew (.lst ds) := (rfl)
theorem sq_mset {o k b : SE} {p : SS} : sSeq (sMSet o k b) p env = ofE (b env) env fun d => ofE (o env) env fun x => ofE (k env) env fun j => ofE (setM x j d) env fun _ => p env := by
  unfold sSeq sMSet
  rw [thenS_ofE]
  congr 1
  funext d
  rw [thenS_ofE]
  congr 1
  funext x
  rw [thenS_ofE]
  congr 1
  funext j
  rw [thenS_ofE]
  rfl
theorem setM_m {n : Nat} {j : Int} : setM (.mref n) (.int j) d = cSet n j d := (rfl)
theorem at_onL {n : Nat} {k : List D → Sto → Rs α} (h : s[n]? = some (.lst xs)) : At (onL n k) s P = ∃ a s2, k xs s = .ok a s2 ∧ P a s2 := by
  unfold At onL
  rw [h]
theorem at_cIx {n : Nat} {i : Int} (h : s[n]? = some (.lst xs)) (h2 : atI xs i = some d) : At (cIx n i) s PD = PD d s := by
  unfold cIx
  rw [at_onL h, h2]
  exact at_ok (s := s) (a := d)
theorem at_cLen {n : Nat} (h : s[n]? = some (.lst xs)) : At (cLen n) s PD = PD (.int xs.length) s := by
  unfold cLen
  rw [at_onL h]
  exact at_ok
theorem at_isCL {n : Nat} {PU : Unit → Sto → Prop} (h : s[n]? = some (.lst xs)) : At (onL n fun _ s => Rs.ok () s) s PU = PU () s := by
  rw [at_onL h]
  exact at_ok
theorem at_pop0 {n : Nat} (h : s[n]? = some (.lst (d :: xs))) : At (cPop0 n) s PD = PD d (s.set n (.lst xs)) := by
  unfold cPop0
  rw [at_onL h]
  exact at_ok (s := s.set n (.lst xs)) (a := d)
theorem at_cSet {n : Nat} {j : Int} {m : Nat} {PU : Unit → Sto → Prop} (h : s[n]? = some (.lst xs)) (h2 : ixN xs.length j = some m) : At (cSet n j d) s PU = PU () (s.set n (.lst (xs.set m d))) := by
  unfold cSet
  rw [at_onL h, h2]
  exact at_ok (s := s.set n (.lst (xs.set m d))) (a := ())
theorem at_cNew {c : Cell} : At (cNew c) s PD = PD (.mref s.length) (s ++ [c]) := at_ok (s := s ++ [c]) (a := D.mref s.length)
/-- a loop -/
theorem atS_for {g : SG} {b : SS} (I : Nat → Dm.Env → Sto → Prop) : ∀ (ds : List D) (k : Nat) (env : Dm.Env) (s : Sto), I k env s →
    (∀ i d env s, ds[i]? = some d → I (k + i) env s → ∃ e2, g d env = some e2 ∧ AtS (b e2) s (I (k + i + 1)) T) → AtS (forGo g b ds env) s (I (k + ds.length)) T
  | [], k, env, s, h, _ => by
    show AtS (.nx env) s _ _
    rw [atS_nx]
    exact h
  | d :: ds, k, env, s, h, hs => by
    obtain ⟨e2, h1, h2⟩ := hs 0 d env s rfl h
    have ih := fun e s h => atS_for I ds (k + 1) e s h fun i d env s hi hI => by
      have := hs (i + 1) d env s hi (by rw [show k + (i + 1) = k + 1 + i by omega]; exact hI)
      rw [show k + (i + 1) = k + 1 + i by omega] at this
      exact this
    rw [List.length_cons, show k + (ds.length + 1) = k + 1 + ds.length by omega, forGo_cons h1]
    rcases h2 with ⟨e, s2, q, hI⟩ | ⟨v, s2, q, hT⟩
    · rcases ih e s2 hI with ⟨e3, s3, q3, h3⟩ | ⟨v, s3, q3, h3⟩
      · exact Or.inl ⟨e3, s3, by unfold thenW turnS; rw [q]; exact q3, h3⟩
      · exact Or.inr ⟨v, s3, by unfold thenW turnS; rw [q]; exact q3, h3⟩
    · exact Or.inr ⟨v, s2, by unfold thenW turnS; rw [q], hT⟩
/-- .. over range(n) -/
theorem atS_range {i : Nat} {b : SS} (I : Nat → Dm.Env → Sto → Prop) (n : Nat) (env : Dm.Env) (s : Sto) (h : I 0 env s) (hs : ∀ k env s, k < n → I k env s → AtS (b (env.set i (.val (.int (k : Int))))) s (I (k + 1)) T) : AtS (forGo (gN i) b ((List.range n).map fun (i : Nat) => D.int i) env) s (I n) T := by
  have q := atS_for (T := T) (g := gN i) (b := b) I ((List.range n).map fun (i : Nat) => D.int i) 0 env s h fun k d env s hk hI => by
    obtain ⟨hlt, rfl⟩ := range_at hk
    rw [Nat.zero_add] at hI ⊢
    exact ⟨_, gN_ap, hs k env s hlt hI⟩
  rw [Nat.zero_add, List.length_map, List.length_range] at q
  exact q
theorem lcGo_at {g : SG} {e : SE} {env : Dm.Env} {I : Sto → Prop} {Qd : D → Prop} : ∀ (ds acc : List D) (s : Sto), I s → (∀ x ∈ acc, Qd x) → (∀ d s, d ∈ ds → I s → ∃ e2, g d env = some e2 ∧ At (e e2) s fun x s2 => Qd x ∧ I s2) →
    At (lcGo g tY e env ds acc) s fun xs s2 => xs.length = acc.length + ds.length ∧ (∀ x ∈ xs, Qd x) ∧ I s2
  | [], acc, s, h, ha, _ => ⟨acc, s, rfl, rfl, ha, h⟩
  | d :: ds, acc, s, h, ha, hs => by
    obtain ⟨e2, h1, x, s2, h2, h3, h4⟩ := hs d s List.mem_cons_self h
    obtain ⟨xs, s3, q1, q2, q3, q4⟩ := lcGo_at ds (acc ++ [x]) s2 h4 (fun y hy => by
      rcases List.mem_append.mp hy with hy | hy
      · exact ha y hy
      · rw [List.mem_singleton.mp hy]; exact h3) fun d s hd => hs d s (List.mem_cons_of_mem _ hd)
    refine ⟨xs, s3, ?_, by rw [q2]; simp; omega, q3, q4⟩
    unfold lcGo
    rw [h1]
    show R.bind (noX (tY e2)) _ s = _
    have z2 : noX (e e2) s = .ok x s2 := by unfold noX; rw [h2]
    show (R.bind (noX (e e2)) fun x => lcGo g tY e env ds (acc ++ [x])) s = _
    unfold R.bind
    rw [z2]
    exact q1
/-- a comprehension without a test -/
theorem lc_at {it : SA} {g : SG} {e : SE} {vs : List Nat} {env : Dm.Env} {I : Sto → Prop} {Qd : D → Prop} {ds : List D} (hi : it env = .ok ds) (hl : ds.length ≤ 40000) (h : I s) (hs : ∀ d s, d ∈ ds → I s → ∃ e2, g d (wipeS env vs) = some e2 ∧ At (e e2) s fun x s2 => Qd x ∧ I s2) :
    At (lLc it g tY e vs env) s fun xs s2 => xs.length = ds.length ∧ (∀ x ∈ xs, Qd x) ∧ I s2 := by
  unfold lLc
  rw [hi, bind_ok, if_pos hl]
  have q := lcGo_at ds [] s h (fun x hx => by cases hx) hs
  rw [List.length_nil, Nat.zero_add] at q
  exact q
end
theorem trueAt {r : R D} {s : Sto} (h : At r s fun d _ => d = .bl true) : TrueAt (r s) := by
  obtain ⟨d, s2, h1, rfl⟩ := h
  exact ⟨s2, h1⟩
end Dm
set_option Elab.async false
set_option linter.all false
set_option maxRecDepth 100000
set_option maxHeartbeats 4000000

namespace Lk13
open PySem L2 Dm
def d_CHARACTERS : D := .tup [.str " !\"#$", .str "&'()*+,-./0123456789:;<=>?\x40ABCDEFGHIJKLMNOPQRSTUVWXYZ[\\]^_`abcdefghijklmnopqrstuvwxyz{|}~"]
def d_MOST_CHARACTERS : D := .int (60)
def x_HostError : Nat → Option Bool := fun n => match n with
  | 1001 => some true
  | _ => none
def y_DecodeError : Nat → Option Bool := fun n => match n with
  | 1001 => some true
  | _ => none
def b_write_unsigned_1 : SS :=
  (sSeq (sApp 1 (eB dAdd (eC (.int 128)) (eB dAnd (eV 0) (eC (.int 127)))))
  (sSeq (sA 0 (eB dShr (eV 0) (eC (.int 7))))
  sNx))
def b_write_unsigned : SS :=
  (sSeq (sO 1 (lD eNil))
  (sSeq (sWh 100000 (tE (eB dGe (eV 0) (eC (.int 128)))) b_write_unsigned_1)
  (sSeq (sApp 1 (eV 0))
  (sSeq (sFrz 1 (sRet (eV 1)))
  sNx))))
def m_write_unsigned : List D → R D := defV 1 1 b_write_unsigned
theorem e_write_unsigned (x0 : D) : m_write_unsigned [x0] = endV (b_write_unsigned [.val x0, .un]) := defV_ap rfl
def b_byte_at : SS :=
  (sSeq (sIf (tE (eB dGe (eV 1) (eV 2))) (sSeq (sRaise 1001 ["reason", "place"] (eCons (eC (.str "unexpected end")) (eCons (eV 2) eNil)))
  sNx) sNx)
  (sSeq (sRet (eB dIx (eV 0) (eV 1)))
  sNx))
def m_byte_at : List D → R D := defV 3 0 b_byte_at
theorem e_byte_at (x0 x1 x2 : D) : m_byte_at [x0, x1, x2] = endV (b_byte_at [.val x0, .val x1, .val x2]) := defV_ap rfl
def b_read_groups_1 : SS :=
  (sSeq (sIf (tE (eB dLe (eV 3) (eC (.int 7)))) (sSeq (sRaise 1001 ["reason", "place"] (eCons (eC (.str "number too long")) (eCons (eV 1) eNil)))
  sNx) sNx)
  (sSeq (sAug 4 dAddX (eB dShl (eB dSub (eB dIx (eV 0) (eV 1)) (eC (.int 128))) (eV 5)))
  (sSeq (sAug 5 dAddX (eC (.int 7)))
  (sSeq (sAug 3 dSub (eC (.int 7)))
  (sSeq (sAug 1 dAddX (eC (.int 1)))
  sNx)))))
def b_read_groups : SS :=
  (sSeq (sA 4 (eC (.int 0)))
  (sSeq (sA 5 (eC (.int 0)))
  (sSeq (sWh 100000 (tE (eB dGe (eF m_byte_at (eCons (eV 0) (eCons (eV 1) (eCons (eV 2) eNil)))) (eC (.int 128)))) b_read_groups_1)
  (sSeq (sRet (eTup (eCons (eV 4) (eCons (eV 5) (eCons (eV 3) (eCons (eV 1) eNil))))))
  sNx))))
def m_read_groups : List D → R D := defV 4 2 b_read_groups
theorem e_read_groups (x0 x1 x2 x3 : D) : m_read_groups [x0, x1, x2, x3] = endV (b_read_groups [.val x0, .val x1, .val x2, .val x3, .un, .un]) := defV_ap rfl
def b_read_unsigned : SS :=
  (sSeq (sG (eF m_read_groups (eCons (eV 0) (eCons (eV 1) (eCons (eV 2) (eCons (eV 3) eNil))))) (gT 4 (gC (gN 4) (gC (gN 5) (gC (gN 6) (gC (gN 1) gE))))))
  (sSeq (sA 7 (eB dIx (eV 0) (eV 1)))
  (sSeq (sIf (tAn (tE (eB dLt (eV 6) (eC (.int 7)))) (tE (eB dGe (eV 7) (eB dShl (eC (.int 1)) (eV 6))))) (sSeq (sRaise 1001 ["reason", "place"] (eCons (eC (.str "number too large")) (eCons (eV 1) eNil)))
  sNx) sNx)
  (sSeq (sRet (eTup (eCons (eB dAdd (eV 4) (eB dShl (eV 7) (eV 5))) (eCons (eB dAdd (eV 1) (eC (.int 1))) eNil))))
  sNx))))
def m_read_unsigned : List D → R D := defV 4 4 b_read_unsigned
theorem e_read_unsigned (x0 x1 x2 x3 : D) : m_read_unsigned [x0, x1, x2, x3] = endV (b_read_unsigned [.val x0, .val x1, .val x2, .val x3, .un, .un, .un, .un]) := defV_ap rfl
def b_read_index : SS :=
  (sSeq (sRet (eF m_read_unsigned (eCons (eV 0) (eCons (eV 1) (eCons (eV 2) (eCons (eC (.int 32)) eNil))))))
  sNx)
def m_read_index : List D → R D := defV 3 0 b_read_index
theorem e_read_index (x0 x1 x2 : D) : m_read_index [x0, x1, x2] = endV (b_read_index [.val x0, .val x1, .val x2]) := defV_ap rfl
def b_character : SS :=
  (sSeq (sIf (tE (eChain dLe dLt (eC (.int 32)) (eV 0) (eC (.int 37)))) (sSeq (sRet (eB dIx (eB dIx (eC d_CHARACTERS) (eC (.int 0))) (eB dSub (eV 0) (eC (.int 32)))))
  sNx) sNx)
  (sSeq (sIf (tE (eChain dLt dLt (eC (.int 37)) (eV 0) (eC (.int 127)))) (sSeq (sRet (eB dIx (eB dIx (eC d_CHARACTERS) (eC (.int 1))) (eB dSub (eV 0) (eC (.int 38)))))
  sNx) sNx)
  (sSeq (sRet (eC .non))
  sNx)))
def m_character : List D → R D := defV 1 0 b_character
theorem e_character (x0 : D) : m_character [x0] = endV (b_character [.val x0]) := defV_ap rfl
def b_read_character : SS :=
  (sSeq (sA 3 (eF m_character (eCons (eF m_byte_at (eCons (eV 0) (eCons (eV 1) (eCons (eV 2) eNil)))) eNil)))
  (sSeq (sIf (tE (eB dIs (eV 3) (eC .non))) (sSeq (sRaise 1001 ["reason", "place"] (eCons (eC (.str "invalid name character")) (eCons (eV 1) eNil)))
  sNx) sNx)
  (sSeq (sRet (eTup (eCons (eV 3) (eCons (eB dAdd (eV 1) (eC (.int 1))) eNil))))
  sNx)))
def m_read_character : List D → R D := defV 3 1 b_read_character
theorem e_read_character (x0 x1 x2 : D) : m_read_character [x0, x1, x2] = endV (b_read_character [.val x0, .val x1, .val x2, .un]) := defV_ap rfl
def tb_ITEMS : Nat → Option (List D → R D) := fun n => match n with
  | 7 => some m_read_character
  | _ => none
def b_read_items_1 : SS :=
  (sSeq (sG (eP tb_ITEMS 4 (eCons (eV 0) (eCons (eV 1) (eCons (eV 2) eNil)))) (gT 2 (gC (gN 7) (gC (gN 1) gE))))
  (sSeq (sApp 5 (eV 7))
  sNx))
def b_read_items : SS :=
  (sSeq (sO 5 (lD eNil))
  (sSeq (sFor (iR1 (eCons (eV 3) eNil)) (gN 6) b_read_items_1)
  (sSeq (sFrz 5 (sRet (eTup (eCons (eF fTuple (eCons (eV 5) eNil)) (eCons (eV 1) eNil)))))
  sNx)))
def m_read_items : List D → R D := defV 5 3 b_read_items
theorem e_read_items (x0 x1 x2 x3 x4 : D) : m_read_items [x0, x1, x2, x3, x4] = endV (b_read_items [.val x0, .val x1, .val x2, .val x3, .val x4, .un, .un, .un]) := defV_ap rfl
def b_read_name : SS :=
  (sSeq (sG (eF m_read_index (eCons (eV 0) (eCons (eV 1) (eCons (eV 2) eNil)))) (gT 2 (gC (gN 3) (gC (gN 1) gE))))
  (sSeq (sIf (tE (eB dGt (eV 3) (eC d_MOST_CHARACTERS))) (sSeq (sRaise 1001 ["reason", "place"] (eCons (eC (.str "name too long")) (eCons (eV 1) eNil)))
  sNx) sNx)
  (sSeq (sG (eF m_read_items (eCons (eV 0) (eCons (eV 1) (eCons (eV 2) (eCons (eV 3) (eCons (eC (.fn 7)) eNil)))))) (gT 2 (gC (gN 4) (gC (gN 1) gE))))
  (sSeq (sRet (eTup (eCons (eM .str mJoin (eC (.str "")) (eCons (eV 4) eNil)) (eCons (eV 1) eNil))))
  sNx))))
def m_read_name : List D → R D := defV 3 2 b_read_name
theorem e_read_name (x0 x1 x2 : D) : m_read_name [x0, x1, x2] = endV (b_read_name [.val x0, .val x1, .val x2, .un, .un]) := defV_ap rfl
def b_write_sized : SS :=
  (sSeq (sRet (eB dAdd (eF m_write_unsigned (eCons (eF fLen (eCons (eV 0) eNil)) eNil)) (eV 0)))
  sNx)
def m_write_sized : List D → R D := defV 1 0 b_write_sized
theorem e_write_sized (x0 : D) : m_write_sized [x0] = endV (b_write_sized [.val x0]) := defV_ap rfl
def b_write_name : SS :=
  (sSeq (sRet (eF m_write_sized (eCons (eL (lLc (iS (eV 0)) (gN 1) tY (eF fOrd (eCons (eV 1) eNil)) [1])) eNil)))
  sNx)
def m_write_name : List D → R D := defV 1 1 b_write_name
theorem e_write_name (x0 : D) : m_write_name [x0] = endV (b_write_name [.val x0, .un]) := defV_ap rfl
def b_l_mixed_1 : SS :=
  (sSeq (sA 1 (eB dMod (eF fInt (eCons (eB dAdd (eB dAdd (eB dMul (eV 1) (eC (.int 48271))) (eC (.int 12820163))) (eB dMul (eC (.int 7)) (eV 3))) eNil)) (eC (.int 1000000007))))
  (sSeq (sA 2 (eB dAdd (eB dMul (eV 2) (eC (.int 1000000007))) (eV 1)))
  sNx))
def b_l_mixed : SS :=
  (sSeq (sA 1 (eB dMod (eF fInt (eCons (eV 0) eNil)) (eC (.int 1000000007))))
  (sSeq (sA 2 (eC (.int 0)))
  (sSeq (sFor (iR1 (eCons (eC (.int 6)) eNil)) (gN 3) b_l_mixed_1)
  (sSeq (sRet (eV 2))
  sNx))))
def m_l_mixed : List D → R D := defV 1 3 b_l_mixed
theorem e_l_mixed (x0 : D) : m_l_mixed [x0] = endV (b_l_mixed [.val x0, .un, .un, .un]) := defV_ap rfl
def b_l_take : SS :=
  (sSeq (sIf (tAn (tE (eB dLt (eB dIx (eV 0) (eC (.int 1))) (eV 1))) (tE (eB dGt (eF fLen (eCons (eB dIx (eV 0) (eC (.int 0))) eNil)) (eC (.int 0))))) (sSeq (sA 2 (eF fAbs (eCons (eF fInt (eCons (eMM mPop0 (eB dIx (eV 0) (eC (.int 0))) (eCons (eC (.int 0)) eNil)) eNil)) eNil)))
  (sSeq (sIf (tE (eB dLt (eV 2) (eB dPow (eC (.int 10)) (eC (.int 18))))) (sSeq (sA 2 (eF m_l_mixed (eCons (eV 2) eNil)))
  sNx) sNx)
  (sSeq (sMSet (eV 0) (eC (.int 1)) (eV 2))
  sNx))) sNx)
  (sSeq (sA 3 (eB dMod (eF fInt (eCons (eB dIx (eV 0) (eC (.int 1))) eNil)) (eV 1)))
  (sSeq (sMSet (eV 0) (eC (.int 1)) (eB dDiv (eB dIx (eV 0) (eC (.int 1))) (eV 1)))
  (sSeq (sRet (eV 3))
  sNx))))
def m_l_take : List D → R D := defV 2 2 b_l_take
theorem e_l_take (x0 x1 : D) : m_l_take [x0, x1] = endV (b_l_take [.val x0, .val x1, .un, .un]) := defV_ap rfl
def b_l_char : SS :=
  (sSeq (sA 1 (eC (.str " !\"#$&'()*+,-./0123456789:;<=>?\x40ABCDEFGHIJKLMNOPQRSTUVWXYZ[\\]^_`")))
  (sSeq (sA 1 (eB dAdd (eV 1) (eC (.str "abcdefghijklmnopqrstuvwxyz{|}~"))))
  (sSeq (sRet (eB dIx (eV 1) (eV 0)))
  sNx)))
def m_l_char : List D → R D := defV 1 1 b_l_char
theorem e_l_char (x0 : D) : m_l_char [x0] = endV (b_l_char [.val x0, .un]) := defV_ap rfl
def b_l_name : SS :=
  (sSeq (sA 1 (eF m_l_take (eCons (eV 0) (eCons (eC (.int 4)) eNil))))
  (sSeq (sIf (tE (eB dEq (eF m_l_take (eCons (eV 0) (eCons (eC (.int 8)) eNil))) (eC (.int 1)))) (sSeq (sA 1 (eF m_l_take (eCons (eV 0) (eCons (eC (.int 61)) eNil))))
  sNx) sNx)
  (sSeq (sRet (eM .str mJoin (eC (.str "")) (eCons (eL (lLc (iR1 (eCons (eV 1) eNil)) (gN 2) tY (eF m_l_char (eCons (eF m_l_take (eCons (eV 0) (eCons (eC (.int 94)) eNil))) eNil)) [2])) eNil)))
  sNx)))
def m_l_name : List D → R D := defV 1 2 b_l_name
theorem e_l_name (x0 : D) : m_l_name [x0] = endV (b_l_name [.val x0, .un, .un]) := defV_ap rfl
def b_l_is_bytes_1 : SS :=
  (sSeq (sIf (tO (tN (tE (eU (dIsi .int) (eV 1)))) (tO (tE (eU (dIsi .bool) (eV 1))) (tO (tE (eB dLt (eV 1) (eC (.int 0)))) (tE (eB dGt (eV 1) (eC (.int 255))))))) (sSeq (sRet (eC (.bl false)))
  sNx) sNx)
  sNx)
def b_l_is_bytes : SS :=
  (sSeq (sIf (tN (tE (eU (dIsi .list) (eV 0)))) (sSeq (sRet (eC (.bl false)))
  sNx) sNx)
  (sSeq (sFor (iD (eV 0)) (gN 1) b_l_is_bytes_1)
  (sSeq (sRet (eC (.bl true)))
  sNx)))
def m_l_is_bytes : List D → R D := defV 1 1 b_l_is_bytes
theorem e_l_is_bytes (x0 : D) : m_l_is_bytes [x0] = endV (b_l_is_bytes [.val x0, .un]) := defV_ap rfl
def b_l_due_1 : SS :=
  (sSeq (sIf (tE (eB dGe (eB dAdd (eV 4) (eV 6)) (eV 2))) (sSeq (sRet (eTup (eCons (eC (.str "unexpected end")) (eCons (eV 2) eNil))))
  sNx) sNx)
  (sSeq (sA 7 (eB dIx (eV 0) (eB dAdd (eV 4) (eV 6))))
  (sSeq (sIf (tO (tE (eB dLt (eV 7) (eC (.int 32)))) (tO (tE (eB dGt (eV 7) (eC (.int 126)))) (tE (eB dEq (eV 7) (eC (.int 37)))))) (sSeq (sRet (eTup (eCons (eC (.str "invalid name character")) (eCons (eB dAdd (eV 4) (eV 6)) eNil))))
  sNx) sNx)
  (sSeq (sA 5 (eB dAdd (eV 5) (eF m_l_char (eCons (eB dSub (eB dSub (eV 7) (eC (.int 32))) (eF fInt (eCons (eB dGt (eV 7) (eC (.int 37))) eNil))) eNil))))
  sNx))))
def b_l_due : SS :=
  (sSeq (sIf (tE (eB dGe (eV 1) (eV 2))) (sSeq (sRet (eTup (eCons (eC (.str "unexpected end")) (eCons (eV 2) eNil))))
  sNx) sNx)
  (sSeq (sA 3 (eB dIx (eV 0) (eV 1)))
  (sSeq (sA 4 (eB dAdd (eV 1) (eC (.int 1))))
  (sSeq (sIf (tE (eB dGt (eV 3) (eC (.int 127)))) (sSeq (sIf (tE (eB dGe (eV 4) (eV 2))) (sSeq (sRet (eTup (eCons (eC (.str "unexpected end")) (eCons (eV 2) eNil))))
  sNx) sNx)
  (sSeq (sIf (tE (eB dGt (eB dIx (eV 0) (eV 4)) (eC (.int 127)))) (sSeq (sRet (eC .non))
  sNx) sNx)
  (sSeq (sA 3 (eB dAdd (eB dSub (eV 3) (eC (.int 128))) (eB dMul (eC (.int 128)) (eB dIx (eV 0) (eV 4)))))
  (sSeq (sA 4 (eB dAdd (eV 4) (eC (.int 1))))
  sNx)))) sNx)
  (sSeq (sIf (tE (eB dGt (eV 3) (eC (.int 60)))) (sSeq (sRet (eTup (eCons (eC (.str "name too long")) (eCons (eV 4) eNil))))
  sNx) sNx)
  (sSeq (sA 5 (eC (.str "")))
  (sSeq (sFor (iR1 (eCons (eV 3) eNil)) (gN 6) b_l_due_1)
  (sSeq (sRet (eTup (eCons (eV 5) (eCons (eB dAdd (eV 4) (eV 3)) eNil))))
  sNx))))))))
def m_l_due : List D → R D := defV 3 5 b_l_due
theorem e_l_due (x0 x1 x2 : D) : m_l_due [x0, x1, x2] = endV (b_l_due [.val x0, .val x1, .val x2, .un, .un, .un, .un, .un]) := defV_ap rfl
def b_l_told : SS :=
  (sSeq (sTry (sSeq (sRet (eF m_read_name (eCons (eV 0) (eCons (eV 1) (eCons (eV 2) eNil)))))
  sNx) 3 x_HostError (sSeq (sIf (tE (eIsx 3 y_DecodeError)) (sSeq (sRet (eTup (eCons (eXf 3 1001 "reason") (eCons (eXf 3 1001 "place") eNil))))
  sNx) sNx)
  (sSeq (sRet (eC .non))
  sNx)))
  sNx)
def m_l_told : List D → R D := defV 3 1 b_l_told
theorem e_l_told (x0 x1 x2 : D) : m_l_told [x0, x1, x2] = endV (b_l_told [.val x0, .val x1, .val x2, .un]) := defV_ap rfl
def b_l_right : SS :=
  (sSeq (sA 3 (eF m_l_due (eCons (eV 0) (eCons (eV 1) (eCons (eV 2) eNil)))))
  (sSeq (sIf (tE (eB dIs (eV 3) (eC .non))) (sSeq (sRet (eC (.bl true)))
  sNx) sNx)
  (sSeq (sA 4 (eL (lF fList (eCons (eV 0) eNil))))
  (sSeq (sA 5 (eF m_l_told (eCons (eV 4) (eCons (eV 1) (eCons (eV 2) eNil)))))
  (sSeq (sIf (tO (tN (tE (eU (dIsi .tuple) (eV 5)))) (tO (tE (eB dNe (eF fLen (eCons (eV 5) eNil)) (eC (.int 2)))) (tE (eB dNe (eV 4) (eV 0))))) (sSeq (sRet (eC (.bl false)))
  sNx) sNx)
  (sSeq (sIf (tO (tN (tE (eU (dIsi .str) (eB dIx (eV 5) (eC (.int 0)))))) (tO (tN (tE (eU (dIsi .int) (eB dIx (eV 5) (eC (.int 1)))))) (tE (eU (dIsi .bool) (eB dIx (eV 5) (eC (.int 1))))))) (sSeq (sRet (eC (.bl false)))
  sNx) sNx)
  (sSeq (sRet (eB dEq (eV 5) (eV 3)))
  sNx)))))))
def m_l_right : List D → R D := defV 3 3 b_l_right
theorem e_l_right (x0 x1 x2 : D) : m_l_right [x0, x1, x2] = endV (b_l_right [.val x0, .val x1, .val x2, .un, .un, .un]) := defV_ap rfl
def b_law_1 : SS :=
  (sSeq (sA 4 (eF m_l_name (eCons (eV 1) eNil)))
  (sSeq (sA 5 (eF m_write_name (eCons (eV 4) eNil)))
  (sSeq (sIf (tO (tN (tE (eF m_l_is_bytes (eCons (eV 5) eNil)))) (tE (eB dNe (eV 5) (eB dAdd (eL (lD (eCons (eF fLen (eCons (eV 4) eNil)) eNil))) (eL (lLc (iS (eV 4)) (gN 6) tY (eF fOrd (eCons (eV 6) eNil)) [6])))))) (sSeq (sRet (eC (.bl false)))
  sNx) sNx)
  (sSeq (sA 7 (eSl (eL (lD (eCons (eC (.int 97)) (eCons (eC (.int 0)) eNil)))) pN (pS (eF m_l_take (eCons (eV 1) (eCons (eC (.int 3)) eNil))))))
  (sSeq (sA 8 (eB dAdd (eB dAdd (eV 7) (eV 5)) (eSl (eL (lD (eCons (eC (.int 65)) (eCons (eC (.int 0)) (eCons (eC (.int 66)) eNil))))) pN (pS (eF m_l_take (eCons (eV 1) (eCons (eC (.int 4)) eNil)))))))
  (sSeq (sA 9 (eF fLen (eCons (eV 7) eNil)))
  (sSeq (sIf (tO (tN (tE (eF m_l_right (eCons (eV 8) (eCons (eV 9) (eCons (eF fLen (eCons (eV 8) eNil)) eNil)))))) (tN (tE (eF m_l_right (eCons (eV 8) (eCons (eV 9) (eCons (eB dAdd (eV 9) (eF fLen (eCons (eV 5) eNil))) eNil))))))) (sSeq (sRet (eC (.bl false)))
  sNx) sNx)
  (sSeq (sIf (tN (tE (eF m_l_right (eCons (eV 8) (eCons (eV 9) (eCons (eB dAdd (eV 9) (eF m_l_take (eCons (eV 1) (eCons (eB dAdd (eF fLen (eCons (eV 5) eNil)) (eC (.int 1))) eNil)))) eNil)))))) (sSeq (sRet (eC (.bl false)))
  sNx) sNx)
  (sSeq (sO 10 (lF fList (eCons (eV 8) eNil)))
  (sSeq (sSet 10 (eV 9) (eB dIx (eL (lD (eCons (eF m_l_take (eCons (eV 1) (eCons (eC (.int 61)) eNil))) (eCons (eB dAdd (eC (.int 58)) (eF m_l_take (eCons (eV 1) (eCons (eC (.int 6)) eNil)))) (eCons (eF m_l_take (eCons (eV 1) (eCons (eC (.int 256)) eNil))) eNil))))) (eF m_l_take (eCons (eV 1) (eCons (eC (.int 3)) eNil)))))
  (sSeq (sFrz 10 (sIf (tN (tE (eF m_l_right (eCons (eV 10) (eCons (eV 9) (eCons (eF fLen (eCons (eV 10) eNil)) eNil)))))) (sSeq (sRet (eC (.bl false)))
  sNx) sNx))
  (sSeq (sO 10 (lF fList (eCons (eV 8) eNil)))
  (sSeq (sIf (tE (eB dGt (eF fLen (eCons (eV 4) eNil)) (eC (.int 0)))) (sSeq (sSet 10 (eB dAdd (eB dAdd (eV 9) (eC (.int 1))) (eF m_l_take (eCons (eV 1) (eCons (eF fLen (eCons (eV 4) eNil)) eNil)))) (eF m_l_take (eCons (eV 1) (eCons (eC (.int 256)) eNil))))
  sNx) sNx)
  (sSeq (sFrz 10 (sIf (tN (tE (eF m_l_right (eCons (eV 10) (eCons (eV 9) (eCons (eF fLen (eCons (eV 10) eNil)) eNil)))))) (sSeq (sRet (eC (.bl false)))
  sNx) sNx))
  sNx))))))))))))))
def b_law : SS :=
  (sSeq (sA 1 (eCell (lD (eCons (eCell (lLc (iD (eSl (eV 0) pN (pS (eC (.int 63))))) (gN 2) tY (eF fInt (eCons (eV 2) eNil)) [2])) (eCons (eC (.int 0)) eNil)))))
  (sSeq (sFor (iR1 (eCons (eC (.int 4)) eNil)) (gN 3) b_law_1)
  (sSeq (sRet (eC (.bl true)))
  sNx)))
def m_law : List D → R D := defV 1 10 b_law
theorem e_law (x0 : D) : m_law [x0] = endV (b_law [.val x0, .un, .un, .un, .un, .un, .un, .un, .un, .un, .un]) := defV_ap rfl
end Lk13
set_option Elab.async false
set_option linter.all false
set_option maxRecDepth 100000
set_option maxHeartbeats 4000000
namespace Lk13
open PySem L2 Dm
/-! the tape -/
theorem mixed_ok (c : Int) : ∃ i : Int, m_l_mixed [.int c] = .ok (.int i) := by
  obtain ⟨e, q, a, b, x, rfl⟩ := forGo_range (i := 3) (b := b_l_mixed_1) (fun _ env => ∃ (a b : Int) (x : Sl), env = [.val (.int c), .val (.int a), .val (.int b), x]) 6 [.val (.int c), .val (.int (c % 1000000007)), .val (.int 0), .un] ⟨_, _, _, rfl⟩ fun k env hk hI => by
    obtain ⟨a, b, x, rfl⟩ := hI
    have m1 : ∀ x : Int, (CMulW x 48271 ∨ CMul x 48271) = True := fun x => eq_true (Or.inr (Or.inr ⟨by decide, by decide⟩))
    have m2 : ∀ x : Int, (CMulW x 1000000007 ∨ CMul x 1000000007) = True := fun x => eq_true (Or.inr (Or.inr ⟨by decide, by decide⟩))
    have m3 : ∀ x : Int, (CMulW 7 x ∨ CMul 7 x) = True := fun x => eq_true (Or.inr (Or.inl ⟨by decide, by decide⟩))
    unfold b_l_mixed_1
    simp only [bind_ok, bind_exc, bind_bad, ofE_ok, ofE_exc, vOf_v, ap_C, ap_V, ap_nil, ap_cons, ap_U, ap_B, ap_chain, ap_and, ap_or, ap_tup, ap_F, ap_M, ap_sl, ap_pN, ap_pS, ap_L, ap_tE, ap_tAn, ap_tO, ap_tN, ap_tY, ap_if, ap_lD, ap_lF, ap_lCat, catL_ok, ap_lRep, repL_ok, ap_lSl, slL_lst, slL_scr, ap_iD, itL_lst, itL_scr, ap_iT, itT_tup, itT_ktp, ap_iS, itS_str, ap_iR1, itR1_ok, add_i, add_s, add_l, addX_i, addX_s, sub_i, mul_i, div_i, mod_i, pow_i, shl_i, shr_i, and_i, or_i, xor_i, neg_i, not_b, lt_i, le_i, gt_i, ge_i, eq_i, eq_s, ne_i, ne_s, is_non, is_int, is_str, is_tup, is_lst, isnt_non, isnt_int, isnt_str, isnt_tup, toBl_b, toIn_i, ix_s, ix_l, ix_r, ix_t, ix_k, sl_s, sl_l, sl_r, sl_t, len_s, len_l, len_r, len_t, len_k, int_i, int_b, abs_i, min_i, max_i, tup_l, tup_t, list_l, list_r, list_t, isi_i, isi_b, isi_s, isi_l, isi_t, isi_n, ty_ii, ty_bi, ty_ss, ty_ll, ty_tt, ty_tl, ty_lt, ty_tn, find_s, lower_s, sq_nx, sq_sq, sq_a, sq_o, sq_x, sq_if, sq_ret, sq_retL, oOf_o, sq_retO, sq_app, lstK_l, sq_ext, sq_aug, sq_g, sq_frz, sq_br, sq_ct, sq_raise, ofG_some, nx_ap, thenS_nx, thenS_rt, thenS_exc, sq_for, sq_wh, endV_v, endV_o, endV_n, endV_x, endL_o, endL_x, gN_ap, List.getElem?_cons_zero, List.getElem?_cons_succ, List.set_cons_zero, List.set_cons_succ, List.length_cons, List.length_nil, decide_eq_true_eq, Bool.not_eq_true, reduceIte, Bool.false_eq_true, decide_true, decide_false, Nat.reduceAdd, Nat.reduceLeDiff, Nat.reduceLT, Bool.not_true, Bool.not_false, List.nil_append, List.cons_append, List.map_cons, List.map_nil, List.replicate_succ, List.replicate_zero, Bool.not_eq_eq_eq_not, decide_eq_false_iff_not, and_self, and_true, true_and, and_false, false_and, or_true, true_or, or_false, false_or, or_self, Int.reduceLE, Int.reduceLT, Int.reduceNeg, Int.reduceAdd, Int.reduceSub, Int.reduceMul, Int.reduceDiv, Int.reduceMod, Int.reduceEq, Int.reduceToNat, Nat.reduceEqDiff, frz_zero, frz_succ, gT_tup, gT_ktp, gC_ap, gE_nil, cast_0, cast_1, cast_2, cast_3, cast_4, cast_5, cast_6, cast_7, cast_8, cast_9, ty_bs, ty_is, frz_zeroV, oOfR_o, ap_lenO, ap_ixO, tOf_some, pOf_fn, ap_P, ap_iZT, itZT_ok, zipD_cons, zipD_nil, str_i, sq_set, oOfS_o, set_ints, thenW_nx, thenW_ct, thenW_bk, thenW_rt, thenW_exc, at_ok, at_bad, at_exc, at_bind, at_ite, atS_nx, atS_rt, atS_ite, atS_ofE, atS_then, at_endV, endP_v, endP_o, ix_m, len_m, ap_MM, isCL_m, pop0_m, mapp_m, ap_cell, sq_mset, setM_m, nxP_nx, m1, m2, m3]
    exact ⟨_, _, _, rfl⟩
  exact ⟨b, by rw [e_l_mixed]; unfold b_l_mixed; simp only [bind_ok, bind_exc, bind_bad, ofE_ok, ofE_exc, vOf_v, ap_C, ap_V, ap_nil, ap_cons, ap_U, ap_B, ap_chain, ap_and, ap_or, ap_tup, ap_F, ap_M, ap_sl, ap_pN, ap_pS, ap_L, ap_tE, ap_tAn, ap_tO, ap_tN, ap_tY, ap_if, ap_lD, ap_lF, ap_lCat, catL_ok, ap_lRep, repL_ok, ap_lSl, slL_lst, slL_scr, ap_iD, itL_lst, itL_scr, ap_iT, itT_tup, itT_ktp, ap_iS, itS_str, ap_iR1, itR1_ok, add_i, add_s, add_l, addX_i, addX_s, sub_i, mul_i, div_i, mod_i, pow_i, shl_i, shr_i, and_i, or_i, xor_i, neg_i, not_b, lt_i, le_i, gt_i, ge_i, eq_i, eq_s, ne_i, ne_s, is_non, is_int, is_str, is_tup, is_lst, isnt_non, isnt_int, isnt_str, isnt_tup, toBl_b, toIn_i, ix_s, ix_l, ix_r, ix_t, ix_k, sl_s, sl_l, sl_r, sl_t, len_s, len_l, len_r, len_t, len_k, int_i, int_b, abs_i, min_i, max_i, tup_l, tup_t, list_l, list_r, list_t, isi_i, isi_b, isi_s, isi_l, isi_t, isi_n, ty_ii, ty_bi, ty_ss, ty_ll, ty_tt, ty_tl, ty_lt, ty_tn, find_s, lower_s, sq_nx, sq_sq, sq_a, sq_o, sq_x, sq_if, sq_ret, sq_retL, oOf_o, sq_retO, sq_app, lstK_l, sq_ext, sq_aug, sq_g, sq_frz, sq_br, sq_ct, sq_raise, ofG_some, nx_ap, thenS_nx, thenS_rt, thenS_exc, sq_for, sq_wh, endV_v, endV_o, endV_n, endV_x, endL_o, endL_x, gN_ap, List.getElem?_cons_zero, List.getElem?_cons_succ, List.set_cons_zero, List.set_cons_succ, List.length_cons, List.length_nil, decide_eq_true_eq, Bool.not_eq_true, reduceIte, Bool.false_eq_true, decide_true, decide_false, Nat.reduceAdd, Nat.reduceLeDiff, Nat.reduceLT, Bool.not_true, Bool.not_false, List.nil_append, List.cons_append, List.map_cons, List.map_nil, List.replicate_succ, List.replicate_zero, Bool.not_eq_eq_eq_not, decide_eq_false_iff_not, and_self, and_true, true_and, and_false, false_and, or_true, true_or, or_false, false_or, or_self, Int.reduceLE, Int.reduceLT, Int.reduceNeg, Int.reduceAdd, Int.reduceSub, Int.reduceMul, Int.reduceDiv, Int.reduceMod, Int.reduceEq, Int.reduceToNat, Nat.reduceEqDiff, frz_zero, frz_succ, gT_tup, gT_ktp, gC_ap, gE_nil, cast_0, cast_1, cast_2, cast_3, cast_4, cast_5, cast_6, cast_7, cast_8, cast_9, ty_bs, ty_is, frz_zeroV, oOfR_o, ap_lenO, ap_ixO, tOf_some, pOf_fn, ap_P, ap_iZT, itZT_ok, zipD_cons, zipD_nil, str_i, sq_set, oOfS_o, set_ints, thenW_nx, thenW_ct, thenW_bk, thenW_rt, thenW_exc, at_ok, at_bad, at_exc, at_bind, at_ite, atS_nx, atS_rt, atS_ite, atS_ofE, atS_then, at_endV, endP_v, endP_o, ix_m, len_m, ap_MM, isCL_m, pop0_m, mapp_m, ap_cell, sq_mset, setM_m, q]⟩
/-- the tape's store: its numbers, and the number in hand -/
def Tp (s : Sto) : Prop := ∃ (ns : List Int) (x : Int), s = [.lst (dI ns), .lst [.mref 0, .int x]]
section
variable {xs : List D} {d e : D} {PD : D → Sto → Prop} {PU : Unit → Sto → Prop}
theorem tp_1 : At (cIx 1 1) [.lst xs, .lst [.mref 0, d]] PD = PD d [.lst xs, .lst [.mref 0, d]] := at_cIx rfl rfl
theorem tp_0 : At (cIx 1 0) [.lst xs, .lst [.mref 0, d]] PD = PD (.mref 0) [.lst xs, .lst [.mref 0, d]] := at_cIx rfl rfl
theorem tp_len : At (cLen 0) [.lst xs, .lst [.mref 0, d]] PD = PD (.int xs.length) [.lst xs, .lst [.mref 0, d]] := at_cLen rfl
theorem tp_set : At (cSet 1 1 e) [.lst xs, .lst [.mref 0, d]] PU = PU () [.lst xs, .lst [.mref 0, e]] := by
  rw [at_cSet (m := 1) (xs := [.mref 0, d]) rfl rfl]
  rfl
theorem tp_cl : At (onL 0 fun _ s => Rs.ok () s) [.lst xs, .lst [.mref 0, d]] PU = PU () [.lst xs, .lst [.mref 0, d]] := at_isCL rfl
theorem tp_pop : At (cPop0 0) [.lst (e :: xs), .lst [.mref 0, d]] PD = PD e [.lst xs, .lst [.mref 0, d]] := at_pop0 rfl
end
theorem take_ok {m : Int} (h0 : 0 < m) (h1 : m ≤ 100000) {s : Sto} (hs : Tp s) : At (m_l_take [.mref 1, .int m]) s fun d s2 => ∃ n : Int, d = .int n ∧ 0 ≤ n ∧ n < m ∧ Tp s2 := by
  obtain ⟨ns, x, rfl⟩ := hs
  have cd : ∀ x : Int, CDivW x m := fun x => ⟨h0, by
    have : m.natAbs.log2 < 64 := by
      rw [Nat.log2_lt (by omega)]
      omega
    omega⟩
  have cp : CPow 10 18 := ⟨by decide, by decide, by decide⟩
  have fin : ∀ x ns, ∃ n : Int, D.int (x % m) = .int n ∧ 0 ≤ n ∧ n < m ∧ Tp [.lst (dI ns), .lst [.mref 0, .int (x / m)]] := fun x ns => ⟨_, rfl, Int.emod_nonneg _ (by omega), Int.emod_lt_of_pos _ h0, ns, _, rfl⟩
  rw [e_l_take]
  unfold b_l_take
  by_cases c : x < m
  · cases ns with
    | nil =>
      simp only [bind_ok, bind_exc, bind_bad, ofE_ok, ofE_exc, vOf_v, ap_C, ap_V, ap_nil, ap_cons, ap_U, ap_B, ap_chain, ap_and, ap_or, ap_tup, ap_F, ap_M, ap_sl, ap_pN, ap_pS, ap_L, ap_tE, ap_tAn, ap_tO, ap_tN, ap_tY, ap_if, ap_lD, ap_lF, ap_lCat, catL_ok, ap_lRep, repL_ok, ap_lSl, slL_lst, slL_scr, ap_iD, itL_lst, itL_scr, ap_iT, itT_tup, itT_ktp, ap_iS, itS_str, ap_iR1, itR1_ok, add_i, add_s, add_l, addX_i, addX_s, sub_i, mul_i, div_i, mod_i, pow_i, shl_i, shr_i, and_i, or_i, xor_i, neg_i, not_b, lt_i, le_i, gt_i, ge_i, eq_i, eq_s, ne_i, ne_s, is_non, is_int, is_str, is_tup, is_lst, isnt_non, isnt_int, isnt_str, isnt_tup, toBl_b, toIn_i, ix_s, ix_l, ix_r, ix_t, ix_k, sl_s, sl_l, sl_r, sl_t, len_s, len_l, len_r, len_t, len_k, int_i, int_b, abs_i, min_i, max_i, tup_l, tup_t, list_l, list_r, list_t, isi_i, isi_b, isi_s, isi_l, isi_t, isi_n, ty_ii, ty_bi, ty_ss, ty_ll, ty_tt, ty_tl, ty_lt, ty_tn, find_s, lower_s, sq_nx, sq_sq, sq_a, sq_o, sq_x, sq_if, sq_ret, sq_retL, oOf_o, sq_retO, sq_app, lstK_l, sq_ext, sq_aug, sq_g, sq_frz, sq_br, sq_ct, sq_raise, ofG_some, nx_ap, thenS_nx, thenS_rt, thenS_exc, sq_for, sq_wh, endV_v, endV_o, endV_n, endV_x, endL_o, endL_x, gN_ap, List.getElem?_cons_zero, List.getElem?_cons_succ, List.set_cons_zero, List.set_cons_succ, List.length_cons, List.length_nil, decide_eq_true_eq, Bool.not_eq_true, reduceIte, Bool.false_eq_true, decide_true, decide_false, Nat.reduceAdd, Nat.reduceLeDiff, Nat.reduceLT, Bool.not_true, Bool.not_false, List.nil_append, List.cons_append, List.map_cons, List.map_nil, List.replicate_succ, List.replicate_zero, Bool.not_eq_eq_eq_not, decide_eq_false_iff_not, and_self, and_true, true_and, and_false, false_and, or_true, true_or, or_false, false_or, or_self, Int.reduceLE, Int.reduceLT, Int.reduceNeg, Int.reduceAdd, Int.reduceSub, Int.reduceMul, Int.reduceDiv, Int.reduceMod, Int.reduceEq, Int.reduceToNat, Nat.reduceEqDiff, frz_zero, frz_succ, gT_tup, gT_ktp, gC_ap, gE_nil, cast_0, cast_1, cast_2, cast_3, cast_4, cast_5, cast_6, cast_7, cast_8, cast_9, ty_bs, ty_is, frz_zeroV, oOfR_o, ap_lenO, ap_ixO, tOf_some, pOf_fn, ap_P, ap_iZT, itZT_ok, zipD_cons, zipD_nil, str_i, sq_set, oOfS_o, set_ints, thenW_nx, thenW_ct, thenW_bk, thenW_rt, thenW_exc, at_ok, at_bad, at_exc, at_bind, at_ite, atS_nx, atS_rt, atS_ite, atS_ofE, atS_then, at_endV, endP_v, endP_o, ix_m, len_m, ap_MM, isCL_m, pop0_m, mapp_m, ap_cell, sq_mset, setM_m, tp_1, tp_0, tp_len, tp_set, tp_cl, tp_pop, h0, cd, c]
      exact fin x []
    | cons n ns =>
      have hl : (0 : Int) < ((ns.length + 1 : Nat) : Int) := by omega
      obtain ⟨i, hi⟩ := mixed_ok (if n < 0 then -n else n)
      by_cases c2 : (if n < 0 then -n else n) < 10 ^ 18
      · simp only [bind_ok, bind_exc, bind_bad, ofE_ok, ofE_exc, vOf_v, ap_C, ap_V, ap_nil, ap_cons, ap_U, ap_B, ap_chain, ap_and, ap_or, ap_tup, ap_F, ap_M, ap_sl, ap_pN, ap_pS, ap_L, ap_tE, ap_tAn, ap_tO, ap_tN, ap_tY, ap_if, ap_lD, ap_lF, ap_lCat, catL_ok, ap_lRep, repL_ok, ap_lSl, slL_lst, slL_scr, ap_iD, itL_lst, itL_scr, ap_iT, itT_tup, itT_ktp, ap_iS, itS_str, ap_iR1, itR1_ok, add_i, add_s, add_l, addX_i, addX_s, sub_i, mul_i, div_i, mod_i, pow_i, shl_i, shr_i, and_i, or_i, xor_i, neg_i, not_b, lt_i, le_i, gt_i, ge_i, eq_i, eq_s, ne_i, ne_s, is_non, is_int, is_str, is_tup, is_lst, isnt_non, isnt_int, isnt_str, isnt_tup, toBl_b, toIn_i, ix_s, ix_l, ix_r, ix_t, ix_k, sl_s, sl_l, sl_r, sl_t, len_s, len_l, len_r, len_t, len_k, int_i, int_b, abs_i, min_i, max_i, tup_l, tup_t, list_l, list_r, list_t, isi_i, isi_b, isi_s, isi_l, isi_t, isi_n, ty_ii, ty_bi, ty_ss, ty_ll, ty_tt, ty_tl, ty_lt, ty_tn, find_s, lower_s, sq_nx, sq_sq, sq_a, sq_o, sq_x, sq_if, sq_ret, sq_retL, oOf_o, sq_retO, sq_app, lstK_l, sq_ext, sq_aug, sq_g, sq_frz, sq_br, sq_ct, sq_raise, ofG_some, nx_ap, thenS_nx, thenS_rt, thenS_exc, sq_for, sq_wh, endV_v, endV_o, endV_n, endV_x, endL_o, endL_x, gN_ap, List.getElem?_cons_zero, List.getElem?_cons_succ, List.set_cons_zero, List.set_cons_succ, List.length_cons, List.length_nil, decide_eq_true_eq, Bool.not_eq_true, reduceIte, Bool.false_eq_true, decide_true, decide_false, Nat.reduceAdd, Nat.reduceLeDiff, Nat.reduceLT, Bool.not_true, Bool.not_false, List.nil_append, List.cons_append, List.map_cons, List.map_nil, List.replicate_succ, List.replicate_zero, Bool.not_eq_eq_eq_not, decide_eq_false_iff_not, and_self, and_true, true_and, and_false, false_and, or_true, true_or, or_false, false_or, or_self, Int.reduceLE, Int.reduceLT, Int.reduceNeg, Int.reduceAdd, Int.reduceSub, Int.reduceMul, Int.reduceDiv, Int.reduceMod, Int.reduceEq, Int.reduceToNat, Nat.reduceEqDiff, frz_zero, frz_succ, gT_tup, gT_ktp, gC_ap, gE_nil, cast_0, cast_1, cast_2, cast_3, cast_4, cast_5, cast_6, cast_7, cast_8, cast_9, ty_bs, ty_is, frz_zeroV, oOfR_o, ap_lenO, ap_ixO, tOf_some, pOf_fn, ap_P, ap_iZT, itZT_ok, zipD_cons, zipD_nil, str_i, sq_set, oOfS_o, set_ints, thenW_nx, thenW_ct, thenW_bk, thenW_rt, thenW_exc, at_ok, at_bad, at_exc, at_bind, at_ite, atS_nx, atS_rt, atS_ite, atS_ofE, atS_then, at_endV, endP_v, endP_o, ix_m, len_m, ap_MM, isCL_m, pop0_m, mapp_m, ap_cell, sq_mset, setM_m, tp_1, tp_0, tp_len, tp_set, tp_cl, tp_pop, h0, cd, c, cp, eq_true c2, hi, List.length_map, hl]
        exact fin i ns
      · simp only [bind_ok, bind_exc, bind_bad, ofE_ok, ofE_exc, vOf_v, ap_C, ap_V, ap_nil, ap_cons, ap_U, ap_B, ap_chain, ap_and, ap_or, ap_tup, ap_F, ap_M, ap_sl, ap_pN, ap_pS, ap_L, ap_tE, ap_tAn, ap_tO, ap_tN, ap_tY, ap_if, ap_lD, ap_lF, ap_lCat, catL_ok, ap_lRep, repL_ok, ap_lSl, slL_lst, slL_scr, ap_iD, itL_lst, itL_scr, ap_iT, itT_tup, itT_ktp, ap_iS, itS_str, ap_iR1, itR1_ok, add_i, add_s, add_l, addX_i, addX_s, sub_i, mul_i, div_i, mod_i, pow_i, shl_i, shr_i, and_i, or_i, xor_i, neg_i, not_b, lt_i, le_i, gt_i, ge_i, eq_i, eq_s, ne_i, ne_s, is_non, is_int, is_str, is_tup, is_lst, isnt_non, isnt_int, isnt_str, isnt_tup, toBl_b, toIn_i, ix_s, ix_l, ix_r, ix_t, ix_k, sl_s, sl_l, sl_r, sl_t, len_s, len_l, len_r, len_t, len_k, int_i, int_b, abs_i, min_i, max_i, tup_l, tup_t, list_l, list_r, list_t, isi_i, isi_b, isi_s, isi_l, isi_t, isi_n, ty_ii, ty_bi, ty_ss, ty_ll, ty_tt, ty_tl, ty_lt, ty_tn, find_s, lower_s, sq_nx, sq_sq, sq_a, sq_o, sq_x, sq_if, sq_ret, sq_retL, oOf_o, sq_retO, sq_app, lstK_l, sq_ext, sq_aug, sq_g, sq_frz, sq_br, sq_ct, sq_raise, ofG_some, nx_ap, thenS_nx, thenS_rt, thenS_exc, sq_for, sq_wh, endV_v, endV_o, endV_n, endV_x, endL_o, endL_x, gN_ap, List.getElem?_cons_zero, List.getElem?_cons_succ, List.set_cons_zero, List.set_cons_succ, List.length_cons, List.length_nil, decide_eq_true_eq, Bool.not_eq_true, reduceIte, Bool.false_eq_true, decide_true, decide_false, Nat.reduceAdd, Nat.reduceLeDiff, Nat.reduceLT, Bool.not_true, Bool.not_false, List.nil_append, List.cons_append, List.map_cons, List.map_nil, List.replicate_succ, List.replicate_zero, Bool.not_eq_eq_eq_not, decide_eq_false_iff_not, and_self, and_true, true_and, and_false, false_and, or_true, true_or, or_false, false_or, or_self, Int.reduceLE, Int.reduceLT, Int.reduceNeg, Int.reduceAdd, Int.reduceSub, Int.reduceMul, Int.reduceDiv, Int.reduceMod, Int.reduceEq, Int.reduceToNat, Nat.reduceEqDiff, frz_zero, frz_succ, gT_tup, gT_ktp, gC_ap, gE_nil, cast_0, cast_1, cast_2, cast_3, cast_4, cast_5, cast_6, cast_7, cast_8, cast_9, ty_bs, ty_is, frz_zeroV, oOfR_o, ap_lenO, ap_ixO, tOf_some, pOf_fn, ap_P, ap_iZT, itZT_ok, zipD_cons, zipD_nil, str_i, sq_set, oOfS_o, set_ints, thenW_nx, thenW_ct, thenW_bk, thenW_rt, thenW_exc, at_ok, at_bad, at_exc, at_bind, at_ite, atS_nx, atS_rt, atS_ite, atS_ofE, atS_then, at_endV, endP_v, endP_o, ix_m, len_m, ap_MM, isCL_m, pop0_m, mapp_m, ap_cell, sq_mset, setM_m, tp_1, tp_0, tp_len, tp_set, tp_cl, tp_pop, h0, cd, c, cp, eq_false c2, List.length_map, hl]
        exact fin (if n < 0 then -n else n) ns
  · simp only [bind_ok, bind_exc, bind_bad, ofE_ok, ofE_exc, vOf_v, ap_C, ap_V, ap_nil, ap_cons, ap_U, ap_B, ap_chain, ap_and, ap_or, ap_tup, ap_F, ap_M, ap_sl, ap_pN, ap_pS, ap_L, ap_tE, ap_tAn, ap_tO, ap_tN, ap_tY, ap_if, ap_lD, ap_lF, ap_lCat, catL_ok, ap_lRep, repL_ok, ap_lSl, slL_lst, slL_scr, ap_iD, itL_lst, itL_scr, ap_iT, itT_tup, itT_ktp, ap_iS, itS_str, ap_iR1, itR1_ok, add_i, add_s, add_l, addX_i, addX_s, sub_i, mul_i, div_i, mod_i, pow_i, shl_i, shr_i, and_i, or_i, xor_i, neg_i, not_b, lt_i, le_i, gt_i, ge_i, eq_i, eq_s, ne_i, ne_s, is_non, is_int, is_str, is_tup, is_lst, isnt_non, isnt_int, isnt_str, isnt_tup, toBl_b, toIn_i, ix_s, ix_l, ix_r, ix_t, ix_k, sl_s, sl_l, sl_r, sl_t, len_s, len_l, len_r, len_t, len_k, int_i, int_b, abs_i, min_i, max_i, tup_l, tup_t, list_l, list_r, list_t, isi_i, isi_b, isi_s, isi_l, isi_t, isi_n, ty_ii, ty_bi, ty_ss, ty_ll, ty_tt, ty_tl, ty_lt, ty_tn, find_s, lower_s, sq_nx, sq_sq, sq_a, sq_o, sq_x, sq_if, sq_ret, sq_retL, oOf_o, sq_retO, sq_app, lstK_l, sq_ext, sq_aug, sq_g, sq_frz, sq_br, sq_ct, sq_raise, ofG_some, nx_ap, thenS_nx, thenS_rt, thenS_exc, sq_for, sq_wh, endV_v, endV_o, endV_n, endV_x, endL_o, endL_x, gN_ap, List.getElem?_cons_zero, List.getElem?_cons_succ, List.set_cons_zero, List.set_cons_succ, List.length_cons, List.length_nil, decide_eq_true_eq, Bool.not_eq_true, reduceIte, Bool.false_eq_true, decide_true, decide_false, Nat.reduceAdd, Nat.reduceLeDiff, Nat.reduceLT, Bool.not_true, Bool.not_false, List.nil_append, List.cons_append, List.map_cons, List.map_nil, List.replicate_succ, List.replicate_zero, Bool.not_eq_eq_eq_not, decide_eq_false_iff_not, and_self, and_true, true_and, and_false, false_and, or_true, true_or, or_false, false_or, or_self, Int.reduceLE, Int.reduceLT, Int.reduceNeg, Int.reduceAdd, Int.reduceSub, Int.reduceMul, Int.reduceDiv, Int.reduceMod, Int.reduceEq, Int.reduceToNat, Nat.reduceEqDiff, frz_zero, frz_succ, gT_tup, gT_ktp, gC_ap, gE_nil, cast_0, cast_1, cast_2, cast_3, cast_4, cast_5, cast_6, cast_7, cast_8, cast_9, ty_bs, ty_is, frz_zeroV, oOfR_o, ap_lenO, ap_ixO, tOf_some, pOf_fn, ap_P, ap_iZT, itZT_ok, zipD_cons, zipD_nil, str_i, sq_set, oOfS_o, set_ints, thenW_nx, thenW_ct, thenW_bk, thenW_rt, thenW_exc, at_ok, at_bad, at_exc, at_bind, at_ite, atS_nx, atS_rt, atS_ite, atS_ofE, atS_then, at_endV, endP_v, endP_o, ix_m, len_m, ap_MM, isCL_m, pop0_m, mapp_m, ap_cell, sq_mset, setM_m, tp_1, tp_0, tp_len, tp_set, tp_cl, tp_pop, h0, cd, c]
    exact fin x ns
/-! small facts -/
def okc (c : Int) : Prop := 32 ≤ c ∧ c ≤ 126 ∧ c ≠ 37
instance (c : Int) : Decidable (okc c) := inferInstanceAs (Decidable (_ ∧ _))
def isStr (r : R D) (cs : List Nat) : Bool := match r [] with
  | .ok (.str z) [] => decide (z = tx cs)
  | _ => false
def By (F : List Int) : Prop := ∀ b ∈ F, 0 ≤ b ∧ b < 256
def ch (k : Nat) : Nat := if k < 5 then 32 + k else 33 + k
def chars : List Nat := (List.range 94).map ch
theorem ch1 : (Str.ofString " !\"#$&'()*+,-./0123456789:;<=>?\x40ABCDEFGHIJKLMNOPQRSTUVWXYZ[\\]^_`") ++ (Str.ofString "abcdefghijklmnopqrstuvwxyz{|}~") = tx chars := by decide +kernel
theorem ch2 : (Str.ofString " !\"#$&'()*+,-./0123456789:;<=>?\x40ABCDEFGHIJKLMNOPQRSTUVWXYZ[\\]^_`").length + (Str.ofString "abcdefghijklmnopqrstuvwxyz{|}~").length ≤ 100000 := by decide +kernel
theorem ch3 : (Str.ofString " !\"#$") = tx (chars.take 5) := by decide +kernel
theorem ch4 : (Str.ofString "&'()*+,-./0123456789:;<=>?\x40ABCDEFGHIJKLMNOPQRSTUVWXYZ[\\]^_`abcdefghijklmnopqrstuvwxyz{|}~") = tx (chars.drop 5) := by decide +kernel
theorem chars_at {k : Nat} (h : k < 94) : chars[k]? = some (ch k) := by unfold chars; rw [List.getElem?_map, List.getElem?_range h] <;> rfl
theorem l_char_ok {k : Nat} (h : k < 94) : m_l_char [.int (k : Int)] = .ok (.str (tx [ch k])) := by
  have q := tx_ix (a := chars) (i := (k : Int)) (c := ch k) (by omega) (by rw [Int.toNat_natCast]; exact chars_at h)
  rw [e_l_char]
  unfold b_l_char
  simp only [bind_ok, bind_exc, bind_bad, ofE_ok, ofE_exc, vOf_v, ap_C, ap_V, ap_nil, ap_cons, ap_U, ap_B, ap_chain, ap_and, ap_or, ap_tup, ap_F, ap_M, ap_sl, ap_pN, ap_pS, ap_L, ap_tE, ap_tAn, ap_tO, ap_tN, ap_tY, ap_if, ap_lD, ap_lF, ap_lCat, catL_ok, ap_lRep, repL_ok, ap_lSl, slL_lst, slL_scr, ap_iD, itL_lst, itL_scr, ap_iT, itT_tup, itT_ktp, ap_iS, itS_str, ap_iR1, itR1_ok, add_i, add_s, add_l, addX_i, addX_s, sub_i, mul_i, div_i, mod_i, pow_i, shl_i, shr_i, and_i, or_i, xor_i, neg_i, not_b, lt_i, le_i, gt_i, ge_i, eq_i, eq_s, ne_i, ne_s, is_non, is_int, is_str, is_tup, is_lst, isnt_non, isnt_int, isnt_str, isnt_tup, toBl_b, toIn_i, ix_s, ix_l, ix_r, ix_t, ix_k, sl_s, sl_l, sl_r, sl_t, len_s, len_l, len_r, len_t, len_k, int_i, int_b, abs_i, min_i, max_i, tup_l, tup_t, list_l, list_r, list_t, isi_i, isi_b, isi_s, isi_l, isi_t, isi_n, ty_ii, ty_bi, ty_ss, ty_ll, ty_tt, ty_tl, ty_lt, ty_tn, find_s, lower_s, sq_nx, sq_sq, sq_a, sq_o, sq_x, sq_if, sq_ret, sq_retL, oOf_o, sq_retO, sq_app, lstK_l, sq_ext, sq_aug, sq_g, sq_frz, sq_br, sq_ct, sq_raise, ofG_some, nx_ap, thenS_nx, thenS_rt, thenS_exc, sq_for, sq_wh, endV_v, endV_o, endV_n, endV_x, endL_o, endL_x, gN_ap, List.getElem?_cons_zero, List.getElem?_cons_succ, List.set_cons_zero, List.set_cons_succ, List.length_cons, List.length_nil, decide_eq_true_eq, Bool.not_eq_true, reduceIte, Bool.false_eq_true, decide_true, decide_false, Nat.reduceAdd, Nat.reduceLeDiff, Nat.reduceLT, Bool.not_true, Bool.not_false, List.nil_append, List.cons_append, List.map_cons, List.map_nil, List.replicate_succ, List.replicate_zero, Bool.not_eq_eq_eq_not, decide_eq_false_iff_not, and_self, and_true, true_and, and_false, false_and, or_true, true_or, or_false, false_or, or_self, Int.reduceLE, Int.reduceLT, Int.reduceNeg, Int.reduceAdd, Int.reduceSub, Int.reduceMul, Int.reduceDiv, Int.reduceMod, Int.reduceEq, Int.reduceToNat, Nat.reduceEqDiff, frz_zero, frz_succ, gT_tup, gT_ktp, gC_ap, gE_nil, cast_0, cast_1, cast_2, cast_3, cast_4, cast_5, cast_6, cast_7, cast_8, cast_9, ty_bs, ty_is, frz_zeroV, oOfR_o, ap_lenO, ap_ixO, tOf_some, pOf_fn, ap_P, ap_iZT, itZT_ok, zipD_cons, zipD_nil, str_i, sq_set, oOfS_o, set_ints, thenW_nx, thenW_ct, thenW_bk, thenW_rt, thenW_exc, at_ok, at_bad, at_exc, at_bind, at_ite, atS_nx, atS_rt, atS_ite, atS_ofE, atS_then, at_endV, endP_v, endP_o, ix_m, len_m, ap_MM, isCL_m, pop0_m, mapp_m, ap_cell, sq_mset, setM_m, ch1, ch2, tx_len, show chars.length ≤ 100000 from by decide, q]
theorem ch_ok {k : Nat} (h : k < 94) : okc (ch k : Nat) := by unfold okc ch; split <;> omega
/-- the place of a sign among the signs -/
theorem l_char_at {c : Int} (h : okc c) : m_l_char [.int (c - 32 - if 37 < c then 1 else 0)] = .ok (.str (tx [c.toNat])) := by
  unfold okc at h
  obtain ⟨k, hk⟩ : ∃ k : Nat, c - 32 - (if 37 < c then 1 else 0) = k := ⟨(c - 32 - if 37 < c then 1 else 0).toNat, by split <;> omega⟩
  have hl : k < 94 := by split at hk <;> omega
  have hc : ch k = c.toNat := by unfold ch; split at hk <;> split <;> omega
  rw [hk, l_char_ok hl, hc]
theorem character_ok (c : Int) : m_character [.int c] = .ok (if okc c then .str (tx [c.toNat]) else .non) := by
  rw [e_character]
  unfold b_character
  rw [show d_CHARACTERS = .tup [.str " !\"#$", .str "&'()*+,-./0123456789:;<=>?\x40ABCDEFGHIJKLMNOPQRSTUVWXYZ[\\]^_`abcdefghijklmnopqrstuvwxyz{|}~"] from rfl]
  have i0 : ∀ a b : D, ixL [a, b] 0 = .ok a := fun _ _ => rfl
  have i1 : ∀ a b : D, ixL [a, b] 1 = .ok b := fun _ _ => rfl
  by_cases h1 : 32 ≤ c ∧ c < 37
  · have hk : (chars.take 5)[(c - 32).toNat]? = some c.toNat := by
      rw [List.getElem?_take, if_pos (by omega), chars_at (by omega)]
      unfold ch
      rw [if_pos (by omega)]
      congr 1
      omega
    have q := tx_ix (a := chars.take 5) (i := c - 32) (by omega) hk
    rw [if_pos (show okc c by unfold okc; omega)]
    simp only [bind_ok, bind_exc, bind_bad, ofE_ok, ofE_exc, vOf_v, ap_C, ap_V, ap_nil, ap_cons, ap_U, ap_B, ap_chain, ap_and, ap_or, ap_tup, ap_F, ap_M, ap_sl, ap_pN, ap_pS, ap_L, ap_tE, ap_tAn, ap_tO, ap_tN, ap_tY, ap_if, ap_lD, ap_lF, ap_lCat, catL_ok, ap_lRep, repL_ok, ap_lSl, slL_lst, slL_scr, ap_iD, itL_lst, itL_scr, ap_iT, itT_tup, itT_ktp, ap_iS, itS_str, ap_iR1, itR1_ok, add_i, add_s, add_l, addX_i, addX_s, sub_i, mul_i, div_i, mod_i, pow_i, shl_i, shr_i, and_i, or_i, xor_i, neg_i, not_b, lt_i, le_i, gt_i, ge_i, eq_i, eq_s, ne_i, ne_s, is_non, is_int, is_str, is_tup, is_lst, isnt_non, isnt_int, isnt_str, isnt_tup, toBl_b, toIn_i, ix_s, ix_l, ix_r, ix_t, ix_k, sl_s, sl_l, sl_r, sl_t, len_s, len_l, len_r, len_t, len_k, int_i, int_b, abs_i, min_i, max_i, tup_l, tup_t, list_l, list_r, list_t, isi_i, isi_b, isi_s, isi_l, isi_t, isi_n, ty_ii, ty_bi, ty_ss, ty_ll, ty_tt, ty_tl, ty_lt, ty_tn, find_s, lower_s, sq_nx, sq_sq, sq_a, sq_o, sq_x, sq_if, sq_ret, sq_retL, oOf_o, sq_retO, sq_app, lstK_l, sq_ext, sq_aug, sq_g, sq_frz, sq_br, sq_ct, sq_raise, ofG_some, nx_ap, thenS_nx, thenS_rt, thenS_exc, sq_for, sq_wh, endV_v, endV_o, endV_n, endV_x, endL_o, endL_x, gN_ap, List.getElem?_cons_zero, List.getElem?_cons_succ, List.set_cons_zero, List.set_cons_succ, List.length_cons, List.length_nil, decide_eq_true_eq, Bool.not_eq_true, reduceIte, Bool.false_eq_true, decide_true, decide_false, Nat.reduceAdd, Nat.reduceLeDiff, Nat.reduceLT, Bool.not_true, Bool.not_false, List.nil_append, List.cons_append, List.map_cons, List.map_nil, List.replicate_succ, List.replicate_zero, Bool.not_eq_eq_eq_not, decide_eq_false_iff_not, and_self, and_true, true_and, and_false, false_and, or_true, true_or, or_false, false_or, or_self, Int.reduceLE, Int.reduceLT, Int.reduceNeg, Int.reduceAdd, Int.reduceSub, Int.reduceMul, Int.reduceDiv, Int.reduceMod, Int.reduceEq, Int.reduceToNat, Nat.reduceEqDiff, frz_zero, frz_succ, gT_tup, gT_ktp, gC_ap, gE_nil, cast_0, cast_1, cast_2, cast_3, cast_4, cast_5, cast_6, cast_7, cast_8, cast_9, ty_bs, ty_is, frz_zeroV, oOfR_o, ap_lenO, ap_ixO, tOf_some, pOf_fn, ap_P, ap_iZT, itZT_ok, zipD_cons, zipD_nil, str_i, sq_set, oOfS_o, set_ints, thenW_nx, thenW_ct, thenW_bk, thenW_rt, thenW_exc, at_ok, at_bad, at_exc, at_bind, at_ite, atS_nx, atS_rt, atS_ite, atS_ofE, atS_then, at_endV, endP_v, endP_o, ix_m, len_m, ap_MM, isCL_m, pop0_m, mapp_m, ap_cell, sq_mset, setM_m, eq_true h1.1, eq_true h1.2, i0, ch3, tx_len, show (chars.take 5).length ≤ 100000 from by decide, q]
  · by_cases h2 : 37 < c ∧ c < 127
    · have hk : (chars.drop 5)[(c - 38).toNat]? = some c.toNat := by
        rw [List.getElem?_drop, chars_at (by omega)]
        unfold ch
        rw [if_neg (by omega)]
        congr 1
        omega
      have q := tx_ix (a := chars.drop 5) (i := c - 38) (by omega) hk
      rw [if_pos (show okc c by unfold okc; omega)]
      by_cases h3 : 32 ≤ c
      · simp only [bind_ok, bind_exc, bind_bad, ofE_ok, ofE_exc, vOf_v, ap_C, ap_V, ap_nil, ap_cons, ap_U, ap_B, ap_chain, ap_and, ap_or, ap_tup, ap_F, ap_M, ap_sl, ap_pN, ap_pS, ap_L, ap_tE, ap_tAn, ap_tO, ap_tN, ap_tY, ap_if, ap_lD, ap_lF, ap_lCat, catL_ok, ap_lRep, repL_ok, ap_lSl, slL_lst, slL_scr, ap_iD, itL_lst, itL_scr, ap_iT, itT_tup, itT_ktp, ap_iS, itS_str, ap_iR1, itR1_ok, add_i, add_s, add_l, addX_i, addX_s, sub_i, mul_i, div_i, mod_i, pow_i, shl_i, shr_i, and_i, or_i, xor_i, neg_i, not_b, lt_i, le_i, gt_i, ge_i, eq_i, eq_s, ne_i, ne_s, is_non, is_int, is_str, is_tup, is_lst, isnt_non, isnt_int, isnt_str, isnt_tup, toBl_b, toIn_i, ix_s, ix_l, ix_r, ix_t, ix_k, sl_s, sl_l, sl_r, sl_t, len_s, len_l, len_r, len_t, len_k, int_i, int_b, abs_i, min_i, max_i, tup_l, tup_t, list_l, list_r, list_t, isi_i, isi_b, isi_s, isi_l, isi_t, isi_n, ty_ii, ty_bi, ty_ss, ty_ll, ty_tt, ty_tl, ty_lt, ty_tn, find_s, lower_s, sq_nx, sq_sq, sq_a, sq_o, sq_x, sq_if, sq_ret, sq_retL, oOf_o, sq_retO, sq_app, lstK_l, sq_ext, sq_aug, sq_g, sq_frz, sq_br, sq_ct, sq_raise, ofG_some, nx_ap, thenS_nx, thenS_rt, thenS_exc, sq_for, sq_wh, endV_v, endV_o, endV_n, endV_x, endL_o, endL_x, gN_ap, List.getElem?_cons_zero, List.getElem?_cons_succ, List.set_cons_zero, List.set_cons_succ, List.length_cons, List.length_nil, decide_eq_true_eq, Bool.not_eq_true, reduceIte, Bool.false_eq_true, decide_true, decide_false, Nat.reduceAdd, Nat.reduceLeDiff, Nat.reduceLT, Bool.not_true, Bool.not_false, List.nil_append, List.cons_append, List.map_cons, List.map_nil, List.replicate_succ, List.replicate_zero, Bool.not_eq_eq_eq_not, decide_eq_false_iff_not, and_self, and_true, true_and, and_false, false_and, or_true, true_or, or_false, false_or, or_self, Int.reduceLE, Int.reduceLT, Int.reduceNeg, Int.reduceAdd, Int.reduceSub, Int.reduceMul, Int.reduceDiv, Int.reduceMod, Int.reduceEq, Int.reduceToNat, Nat.reduceEqDiff, frz_zero, frz_succ, gT_tup, gT_ktp, gC_ap, gE_nil, cast_0, cast_1, cast_2, cast_3, cast_4, cast_5, cast_6, cast_7, cast_8, cast_9, ty_bs, ty_is, frz_zeroV, oOfR_o, ap_lenO, ap_ixO, tOf_some, pOf_fn, ap_P, ap_iZT, itZT_ok, zipD_cons, zipD_nil, str_i, sq_set, oOfS_o, set_ints, thenW_nx, thenW_ct, thenW_bk, thenW_rt, thenW_exc, at_ok, at_bad, at_exc, at_bind, at_ite, atS_nx, atS_rt, atS_ite, atS_ofE, atS_then, at_endV, endP_v, endP_o, ix_m, len_m, ap_MM, isCL_m, pop0_m, mapp_m, ap_cell, sq_mset, setM_m, eq_true h3, eq_false (show ¬ c < 37 by omega), eq_true h2.1, eq_true h2.2, i1, ch4, tx_len, show (chars.drop 5).length ≤ 100000 from by decide, q]
      · omega
    · rw [if_neg (show ¬ okc c by unfold okc; omega)]
      by_cases h3 : 32 ≤ c
      · by_cases h4 : 37 < c
        · simp only [bind_ok, bind_exc, bind_bad, ofE_ok, ofE_exc, vOf_v, ap_C, ap_V, ap_nil, ap_cons, ap_U, ap_B, ap_chain, ap_and, ap_or, ap_tup, ap_F, ap_M, ap_sl, ap_pN, ap_pS, ap_L, ap_tE, ap_tAn, ap_tO, ap_tN, ap_tY, ap_if, ap_lD, ap_lF, ap_lCat, catL_ok, ap_lRep, repL_ok, ap_lSl, slL_lst, slL_scr, ap_iD, itL_lst, itL_scr, ap_iT, itT_tup, itT_ktp, ap_iS, itS_str, ap_iR1, itR1_ok, add_i, add_s, add_l, addX_i, addX_s, sub_i, mul_i, div_i, mod_i, pow_i, shl_i, shr_i, and_i, or_i, xor_i, neg_i, not_b, lt_i, le_i, gt_i, ge_i, eq_i, eq_s, ne_i, ne_s, is_non, is_int, is_str, is_tup, is_lst, isnt_non, isnt_int, isnt_str, isnt_tup, toBl_b, toIn_i, ix_s, ix_l, ix_r, ix_t, ix_k, sl_s, sl_l, sl_r, sl_t, len_s, len_l, len_r, len_t, len_k, int_i, int_b, abs_i, min_i, max_i, tup_l, tup_t, list_l, list_r, list_t, isi_i, isi_b, isi_s, isi_l, isi_t, isi_n, ty_ii, ty_bi, ty_ss, ty_ll, ty_tt, ty_tl, ty_lt, ty_tn, find_s, lower_s, sq_nx, sq_sq, sq_a, sq_o, sq_x, sq_if, sq_ret, sq_retL, oOf_o, sq_retO, sq_app, lstK_l, sq_ext, sq_aug, sq_g, sq_frz, sq_br, sq_ct, sq_raise, ofG_some, nx_ap, thenS_nx, thenS_rt, thenS_exc, sq_for, sq_wh, endV_v, endV_o, endV_n, endV_x, endL_o, endL_x, gN_ap, List.getElem?_cons_zero, List.getElem?_cons_succ, List.set_cons_zero, List.set_cons_succ, List.length_cons, List.length_nil, decide_eq_true_eq, Bool.not_eq_true, reduceIte, Bool.false_eq_true, decide_true, decide_false, Nat.reduceAdd, Nat.reduceLeDiff, Nat.reduceLT, Bool.not_true, Bool.not_false, List.nil_append, List.cons_append, List.map_cons, List.map_nil, List.replicate_succ, List.replicate_zero, Bool.not_eq_eq_eq_not, decide_eq_false_iff_not, and_self, and_true, true_and, and_false, false_and, or_true, true_or, or_false, false_or, or_self, Int.reduceLE, Int.reduceLT, Int.reduceNeg, Int.reduceAdd, Int.reduceSub, Int.reduceMul, Int.reduceDiv, Int.reduceMod, Int.reduceEq, Int.reduceToNat, Nat.reduceEqDiff, frz_zero, frz_succ, gT_tup, gT_ktp, gC_ap, gE_nil, cast_0, cast_1, cast_2, cast_3, cast_4, cast_5, cast_6, cast_7, cast_8, cast_9, ty_bs, ty_is, frz_zeroV, oOfR_o, ap_lenO, ap_ixO, tOf_some, pOf_fn, ap_P, ap_iZT, itZT_ok, zipD_cons, zipD_nil, str_i, sq_set, oOfS_o, set_ints, thenW_nx, thenW_ct, thenW_bk, thenW_rt, thenW_exc, at_ok, at_bad, at_exc, at_bind, at_ite, atS_nx, atS_rt, atS_ite, atS_ofE, atS_then, at_endV, endP_v, endP_o, ix_m, len_m, ap_MM, isCL_m, pop0_m, mapp_m, ap_cell, sq_mset, setM_m, eq_true h3, eq_false (show ¬ c < 37 by omega), eq_true h4, eq_false (show ¬ c < 127 by omega)]
        · simp only [bind_ok, bind_exc, bind_bad, ofE_ok, ofE_exc, vOf_v, ap_C, ap_V, ap_nil, ap_cons, ap_U, ap_B, ap_chain, ap_and, ap_or, ap_tup, ap_F, ap_M, ap_sl, ap_pN, ap_pS, ap_L, ap_tE, ap_tAn, ap_tO, ap_tN, ap_tY, ap_if, ap_lD, ap_lF, ap_lCat, catL_ok, ap_lRep, repL_ok, ap_lSl, slL_lst, slL_scr, ap_iD, itL_lst, itL_scr, ap_iT, itT_tup, itT_ktp, ap_iS, itS_str, ap_iR1, itR1_ok, add_i, add_s, add_l, addX_i, addX_s, sub_i, mul_i, div_i, mod_i, pow_i, shl_i, shr_i, and_i, or_i, xor_i, neg_i, not_b, lt_i, le_i, gt_i, ge_i, eq_i, eq_s, ne_i, ne_s, is_non, is_int, is_str, is_tup, is_lst, isnt_non, isnt_int, isnt_str, isnt_tup, toBl_b, toIn_i, ix_s, ix_l, ix_r, ix_t, ix_k, sl_s, sl_l, sl_r, sl_t, len_s, len_l, len_r, len_t, len_k, int_i, int_b, abs_i, min_i, max_i, tup_l, tup_t, list_l, list_r, list_t, isi_i, isi_b, isi_s, isi_l, isi_t, isi_n, ty_ii, ty_bi, ty_ss, ty_ll, ty_tt, ty_tl, ty_lt, ty_tn, find_s, lower_s, sq_nx, sq_sq, sq_a, sq_o, sq_x, sq_if, sq_ret, sq_retL, oOf_o, sq_retO, sq_app, lstK_l, sq_ext, sq_aug, sq_g, sq_frz, sq_br, sq_ct, sq_raise, ofG_some, nx_ap, thenS_nx, thenS_rt, thenS_exc, sq_for, sq_wh, endV_v, endV_o, endV_n, endV_x, endL_o, endL_x, gN_ap, List.getElem?_cons_zero, List.getElem?_cons_succ, List.set_cons_zero, List.set_cons_succ, List.length_cons, List.length_nil, decide_eq_true_eq, Bool.not_eq_true, reduceIte, Bool.false_eq_true, decide_true, decide_false, Nat.reduceAdd, Nat.reduceLeDiff, Nat.reduceLT, Bool.not_true, Bool.not_false, List.nil_append, List.cons_append, List.map_cons, List.map_nil, List.replicate_succ, List.replicate_zero, Bool.not_eq_eq_eq_not, decide_eq_false_iff_not, and_self, and_true, true_and, and_false, false_and, or_true, true_or, or_false, false_or, or_self, Int.reduceLE, Int.reduceLT, Int.reduceNeg, Int.reduceAdd, Int.reduceSub, Int.reduceMul, Int.reduceDiv, Int.reduceMod, Int.reduceEq, Int.reduceToNat, Nat.reduceEqDiff, frz_zero, frz_succ, gT_tup, gT_ktp, gC_ap, gE_nil, cast_0, cast_1, cast_2, cast_3, cast_4, cast_5, cast_6, cast_7, cast_8, cast_9, ty_bs, ty_is, frz_zeroV, oOfR_o, ap_lenO, ap_ixO, tOf_some, pOf_fn, ap_P, ap_iZT, itZT_ok, zipD_cons, zipD_nil, str_i, sq_set, oOfS_o, set_ints, thenW_nx, thenW_ct, thenW_bk, thenW_rt, thenW_exc, at_ok, at_bad, at_exc, at_bind, at_ite, atS_nx, atS_rt, atS_ite, atS_ofE, atS_then, at_endV, endP_v, endP_o, ix_m, len_m, ap_MM, isCL_m, pop0_m, mapp_m, ap_cell, sq_mset, setM_m, eq_true h3, eq_false (show ¬ c < 37 by omega), eq_false h4]
      · simp only [bind_ok, bind_exc, bind_bad, ofE_ok, ofE_exc, vOf_v, ap_C, ap_V, ap_nil, ap_cons, ap_U, ap_B, ap_chain, ap_and, ap_or, ap_tup, ap_F, ap_M, ap_sl, ap_pN, ap_pS, ap_L, ap_tE, ap_tAn, ap_tO, ap_tN, ap_tY, ap_if, ap_lD, ap_lF, ap_lCat, catL_ok, ap_lRep, repL_ok, ap_lSl, slL_lst, slL_scr, ap_iD, itL_lst, itL_scr, ap_iT, itT_tup, itT_ktp, ap_iS, itS_str, ap_iR1, itR1_ok, add_i, add_s, add_l, addX_i, addX_s, sub_i, mul_i, div_i, mod_i, pow_i, shl_i, shr_i, and_i, or_i, xor_i, neg_i, not_b, lt_i, le_i, gt_i, ge_i, eq_i, eq_s, ne_i, ne_s, is_non, is_int, is_str, is_tup, is_lst, isnt_non, isnt_int, isnt_str, isnt_tup, toBl_b, toIn_i, ix_s, ix_l, ix_r, ix_t, ix_k, sl_s, sl_l, sl_r, sl_t, len_s, len_l, len_r, len_t, len_k, int_i, int_b, abs_i, min_i, max_i, tup_l, tup_t, list_l, list_r, list_t, isi_i, isi_b, isi_s, isi_l, isi_t, isi_n, ty_ii, ty_bi, ty_ss, ty_ll, ty_tt, ty_tl, ty_lt, ty_tn, find_s, lower_s, sq_nx, sq_sq, sq_a, sq_o, sq_x, sq_if, sq_ret, sq_retL, oOf_o, sq_retO, sq_app, lstK_l, sq_ext, sq_aug, sq_g, sq_frz, sq_br, sq_ct, sq_raise, ofG_some, nx_ap, thenS_nx, thenS_rt, thenS_exc, sq_for, sq_wh, endV_v, endV_o, endV_n, endV_x, endL_o, endL_x, gN_ap, List.getElem?_cons_zero, List.getElem?_cons_succ, List.set_cons_zero, List.set_cons_succ, List.length_cons, List.length_nil, decide_eq_true_eq, Bool.not_eq_true, reduceIte, Bool.false_eq_true, decide_true, decide_false, Nat.reduceAdd, Nat.reduceLeDiff, Nat.reduceLT, Bool.not_true, Bool.not_false, List.nil_append, List.cons_append, List.map_cons, List.map_nil, List.replicate_succ, List.replicate_zero, Bool.not_eq_eq_eq_not, decide_eq_false_iff_not, and_self, and_true, true_and, and_false, false_and, or_true, true_or, or_false, false_or, or_self, Int.reduceLE, Int.reduceLT, Int.reduceNeg, Int.reduceAdd, Int.reduceSub, Int.reduceMul, Int.reduceDiv, Int.reduceMod, Int.reduceEq, Int.reduceToNat, Nat.reduceEqDiff, frz_zero, frz_succ, gT_tup, gT_ktp, gC_ap, gE_nil, cast_0, cast_1, cast_2, cast_3, cast_4, cast_5, cast_6, cast_7, cast_8, cast_9, ty_bs, ty_is, frz_zeroV, oOfR_o, ap_lenO, ap_ixO, tOf_some, pOf_fn, ap_P, ap_iZT, itZT_ok, zipD_cons, zipD_nil, str_i, sq_set, oOfS_o, set_ints, thenW_nx, thenW_ct, thenW_bk, thenW_rt, thenW_exc, at_ok, at_bad, at_exc, at_bind, at_ite, atS_nx, atS_rt, atS_ite, atS_ofE, atS_then, at_endV, endP_v, endP_o, ix_m, len_m, ap_MM, isCL_m, pop0_m, mapp_m, ap_cell, sq_mset, setM_m, eq_false h3, eq_false (show ¬ 37 < c by omega)]
/-! reading -/
theorem byte_ok {F : List Int} {i e : Nat} {c : Int} (h : F[i]? = some c) (he : i < e) : m_byte_at [.lst (dI F), .int (i : Int), .int (e : Int)] = .ok (.int c) := by
  rw [e_byte_at]
  unfold b_byte_at
  simp only [bind_ok, bind_exc, bind_bad, ofE_ok, ofE_exc, vOf_v, ap_C, ap_V, ap_nil, ap_cons, ap_U, ap_B, ap_chain, ap_and, ap_or, ap_tup, ap_F, ap_M, ap_sl, ap_pN, ap_pS, ap_L, ap_tE, ap_tAn, ap_tO, ap_tN, ap_tY, ap_if, ap_lD, ap_lF, ap_lCat, catL_ok, ap_lRep, repL_ok, ap_lSl, slL_lst, slL_scr, ap_iD, itL_lst, itL_scr, ap_iT, itT_tup, itT_ktp, ap_iS, itS_str, ap_iR1, itR1_ok, add_i, add_s, add_l, addX_i, addX_s, sub_i, mul_i, div_i, mod_i, pow_i, shl_i, shr_i, and_i, or_i, xor_i, neg_i, not_b, lt_i, le_i, gt_i, ge_i, eq_i, eq_s, ne_i, ne_s, is_non, is_int, is_str, is_tup, is_lst, isnt_non, isnt_int, isnt_str, isnt_tup, toBl_b, toIn_i, ix_s, ix_l, ix_r, ix_t, ix_k, sl_s, sl_l, sl_r, sl_t, len_s, len_l, len_r, len_t, len_k, int_i, int_b, abs_i, min_i, max_i, tup_l, tup_t, list_l, list_r, list_t, isi_i, isi_b, isi_s, isi_l, isi_t, isi_n, ty_ii, ty_bi, ty_ss, ty_ll, ty_tt, ty_tl, ty_lt, ty_tn, find_s, lower_s, sq_nx, sq_sq, sq_a, sq_o, sq_x, sq_if, sq_ret, sq_retL, oOf_o, sq_retO, sq_app, lstK_l, sq_ext, sq_aug, sq_g, sq_frz, sq_br, sq_ct, sq_raise, ofG_some, nx_ap, thenS_nx, thenS_rt, thenS_exc, sq_for, sq_wh, endV_v, endV_o, endV_n, endV_x, endL_o, endL_x, gN_ap, List.getElem?_cons_zero, List.getElem?_cons_succ, List.set_cons_zero, List.set_cons_succ, List.length_cons, List.length_nil, decide_eq_true_eq, Bool.not_eq_true, reduceIte, Bool.false_eq_true, decide_true, decide_false, Nat.reduceAdd, Nat.reduceLeDiff, Nat.reduceLT, Bool.not_true, Bool.not_false, List.nil_append, List.cons_append, List.map_cons, List.map_nil, List.replicate_succ, List.replicate_zero, Bool.not_eq_eq_eq_not, decide_eq_false_iff_not, and_self, and_true, true_and, and_false, false_and, or_true, true_or, or_false, false_or, or_self, Int.reduceLE, Int.reduceLT, Int.reduceNeg, Int.reduceAdd, Int.reduceSub, Int.reduceMul, Int.reduceDiv, Int.reduceMod, Int.reduceEq, Int.reduceToNat, Nat.reduceEqDiff, frz_zero, frz_succ, gT_tup, gT_ktp, gC_ap, gE_nil, cast_0, cast_1, cast_2, cast_3, cast_4, cast_5, cast_6, cast_7, cast_8, cast_9, ty_bs, ty_is, frz_zeroV, oOfR_o, ap_lenO, ap_ixO, tOf_some, pOf_fn, ap_P, ap_iZT, itZT_ok, zipD_cons, zipD_nil, str_i, sq_set, oOfS_o, set_ints, thenW_nx, thenW_ct, thenW_bk, thenW_rt, thenW_exc, at_ok, at_bad, at_exc, at_bind, at_ite, atS_nx, atS_rt, atS_ite, atS_ofE, atS_then, at_endV, endP_v, endP_o, ix_m, len_m, ap_MM, isCL_m, pop0_m, mapp_m, ap_cell, sq_mset, setM_m, show ¬ (e : Int) ≤ (i : Int) by omega, ixL_get h]
abbrev X (w : Str) (p : Int) : List (Str × D) := [("reason", .str w), ("place", .int p)]
theorem byte_end {F : List Int} {i e : Nat} (he : e ≤ i) : m_byte_at [.lst (dI F), .int (i : Int), .int (e : Int)] = .exc 1001 (X "unexpected end" e) := by
  rw [e_byte_at]
  unfold b_byte_at
  simp only [bind_ok, bind_exc, bind_bad, ofE_ok, ofE_exc, vOf_v, ap_C, ap_V, ap_nil, ap_cons, ap_U, ap_B, ap_chain, ap_and, ap_or, ap_tup, ap_F, ap_M, ap_sl, ap_pN, ap_pS, ap_L, ap_tE, ap_tAn, ap_tO, ap_tN, ap_tY, ap_if, ap_lD, ap_lF, ap_lCat, catL_ok, ap_lRep, repL_ok, ap_lSl, slL_lst, slL_scr, ap_iD, itL_lst, itL_scr, ap_iT, itT_tup, itT_ktp, ap_iS, itS_str, ap_iR1, itR1_ok, add_i, add_s, add_l, addX_i, addX_s, sub_i, mul_i, div_i, mod_i, pow_i, shl_i, shr_i, and_i, or_i, xor_i, neg_i, not_b, lt_i, le_i, gt_i, ge_i, eq_i, eq_s, ne_i, ne_s, is_non, is_int, is_str, is_tup, is_lst, isnt_non, isnt_int, isnt_str, isnt_tup, toBl_b, toIn_i, ix_s, ix_l, ix_r, ix_t, ix_k, sl_s, sl_l, sl_r, sl_t, len_s, len_l, len_r, len_t, len_k, int_i, int_b, abs_i, min_i, max_i, tup_l, tup_t, list_l, list_r, list_t, isi_i, isi_b, isi_s, isi_l, isi_t, isi_n, ty_ii, ty_bi, ty_ss, ty_ll, ty_tt, ty_tl, ty_lt, ty_tn, find_s, lower_s, sq_nx, sq_sq, sq_a, sq_o, sq_x, sq_if, sq_ret, sq_retL, oOf_o, sq_retO, sq_app, lstK_l, sq_ext, sq_aug, sq_g, sq_frz, sq_br, sq_ct, sq_raise, ofG_some, nx_ap, thenS_nx, thenS_rt, thenS_exc, sq_for, sq_wh, endV_v, endV_o, endV_n, endV_x, endL_o, endL_x, gN_ap, List.getElem?_cons_zero, List.getElem?_cons_succ, List.set_cons_zero, List.set_cons_succ, List.length_cons, List.length_nil, decide_eq_true_eq, Bool.not_eq_true, reduceIte, Bool.false_eq_true, decide_true, decide_false, Nat.reduceAdd, Nat.reduceLeDiff, Nat.reduceLT, Bool.not_true, Bool.not_false, List.nil_append, List.cons_append, List.map_cons, List.map_nil, List.replicate_succ, List.replicate_zero, Bool.not_eq_eq_eq_not, decide_eq_false_iff_not, and_self, and_true, true_and, and_false, false_and, or_true, true_or, or_false, false_or, or_self, Int.reduceLE, Int.reduceLT, Int.reduceNeg, Int.reduceAdd, Int.reduceSub, Int.reduceMul, Int.reduceDiv, Int.reduceMod, Int.reduceEq, Int.reduceToNat, Nat.reduceEqDiff, frz_zero, frz_succ, gT_tup, gT_ktp, gC_ap, gE_nil, cast_0, cast_1, cast_2, cast_3, cast_4, cast_5, cast_6, cast_7, cast_8, cast_9, ty_bs, ty_is, frz_zeroV, oOfR_o, ap_lenO, ap_ixO, tOf_some, pOf_fn, ap_P, ap_iZT, itZT_ok, zipD_cons, zipD_nil, str_i, sq_set, oOfS_o, set_ints, thenW_nx, thenW_ct, thenW_bk, thenW_rt, thenW_exc, at_ok, at_bad, at_exc, at_bind, at_ite, atS_nx, atS_rt, atS_ite, atS_ofE, atS_then, at_endV, endP_v, endP_o, ix_m, len_m, ap_MM, isCL_m, pop0_m, mapp_m, ap_cell, sq_mset, setM_m, show (e : Int) ≤ (i : Int) by omega]
  rfl
abbrev tg : ST := tE (eB dGe (eF m_byte_at (eCons (eV 0) (eCons (eV 1) (eCons (eV 2) eNil)))) (eC (.int 128)))
theorem idx_end {F : List Int} {p e : Nat} (h : e ≤ p) : m_read_index [.lst (dI F), .int (p : Int), .int (e : Int)] = .exc 1001 (X "unexpected end" e) := by
  have t : ∀ x4 x5 : Sl, tg [.val (.lst (dI F)), .val (.int (p : Int)), .val (.int (e : Int)), .val (.int 32), x4, x5] = .exc 1001 (X "unexpected end" e) := fun x4 x5 => by
    simp only [bind_ok, bind_exc, bind_bad, ofE_ok, ofE_exc, vOf_v, ap_C, ap_V, ap_nil, ap_cons, ap_U, ap_B, ap_chain, ap_and, ap_or, ap_tup, ap_F, ap_M, ap_sl, ap_pN, ap_pS, ap_L, ap_tE, ap_tAn, ap_tO, ap_tN, ap_tY, ap_if, ap_lD, ap_lF, ap_lCat, catL_ok, ap_lRep, repL_ok, ap_lSl, slL_lst, slL_scr, ap_iD, itL_lst, itL_scr, ap_iT, itT_tup, itT_ktp, ap_iS, itS_str, ap_iR1, itR1_ok, add_i, add_s, add_l, addX_i, addX_s, sub_i, mul_i, div_i, mod_i, pow_i, shl_i, shr_i, and_i, or_i, xor_i, neg_i, not_b, lt_i, le_i, gt_i, ge_i, eq_i, eq_s, ne_i, ne_s, is_non, is_int, is_str, is_tup, is_lst, isnt_non, isnt_int, isnt_str, isnt_tup, toBl_b, toIn_i, ix_s, ix_l, ix_r, ix_t, ix_k, sl_s, sl_l, sl_r, sl_t, len_s, len_l, len_r, len_t, len_k, int_i, int_b, abs_i, min_i, max_i, tup_l, tup_t, list_l, list_r, list_t, isi_i, isi_b, isi_s, isi_l, isi_t, isi_n, ty_ii, ty_bi, ty_ss, ty_ll, ty_tt, ty_tl, ty_lt, ty_tn, find_s, lower_s, sq_nx, sq_sq, sq_a, sq_o, sq_x, sq_if, sq_ret, sq_retL, oOf_o, sq_retO, sq_app, lstK_l, sq_ext, sq_aug, sq_g, sq_frz, sq_br, sq_ct, sq_raise, ofG_some, nx_ap, thenS_nx, thenS_rt, thenS_exc, sq_for, sq_wh, endV_v, endV_o, endV_n, endV_x, endL_o, endL_x, gN_ap, List.getElem?_cons_zero, List.getElem?_cons_succ, List.set_cons_zero, List.set_cons_succ, List.length_cons, List.length_nil, decide_eq_true_eq, Bool.not_eq_true, reduceIte, Bool.false_eq_true, decide_true, decide_false, Nat.reduceAdd, Nat.reduceLeDiff, Nat.reduceLT, Bool.not_true, Bool.not_false, List.nil_append, List.cons_append, List.map_cons, List.map_nil, List.replicate_succ, List.replicate_zero, Bool.not_eq_eq_eq_not, decide_eq_false_iff_not, and_self, and_true, true_and, and_false, false_and, or_true, true_or, or_false, false_or, or_self, Int.reduceLE, Int.reduceLT, Int.reduceNeg, Int.reduceAdd, Int.reduceSub, Int.reduceMul, Int.reduceDiv, Int.reduceMod, Int.reduceEq, Int.reduceToNat, Nat.reduceEqDiff, frz_zero, frz_succ, gT_tup, gT_ktp, gC_ap, gE_nil, cast_0, cast_1, cast_2, cast_3, cast_4, cast_5, cast_6, cast_7, cast_8, cast_9, ty_bs, ty_is, frz_zeroV, oOfR_o, ap_lenO, ap_ixO, tOf_some, pOf_fn, ap_P, ap_iZT, itZT_ok, zipD_cons, zipD_nil, str_i, sq_set, oOfS_o, set_ints, thenW_nx, thenW_ct, thenW_bk, thenW_rt, thenW_exc, at_ok, at_bad, at_exc, at_bind, at_ite, atS_nx, atS_rt, atS_ite, atS_ofE, atS_then, at_endV, endP_v, endP_o, ix_m, len_m, ap_MM, isCL_m, pop0_m, mapp_m, ap_cell, sq_mset, setM_m, byte_end (F := F) h]
  have w : ∀ x4 x5 : Sl, whGo tg b_read_groups_1 100000 [.val (.lst (dI F)), .val (.int (p : Int)), .val (.int (e : Int)), .val (.int 32), x4, x5] = .exc 1001 (X "unexpected end" e) [.val (.lst (dI F)), .val (.int (p : Int)), .val (.int (e : Int)), .val (.int 32), x4, x5] := fun x4 x5 => by
    rw [show (100000 : Nat) = 99999 + 1 from rfl, whGo_exc (t _ _)]
  have g : m_read_groups [.lst (dI F), .int (p : Int), .int (e : Int), .int 32] = .exc 1001 (X "unexpected end" e) := by
    rw [e_read_groups]
    unfold b_read_groups
    simp only [bind_ok, bind_exc, bind_bad, ofE_ok, ofE_exc, vOf_v, ap_C, ap_V, ap_nil, ap_cons, ap_U, ap_B, ap_chain, ap_and, ap_or, ap_tup, ap_F, ap_M, ap_sl, ap_pN, ap_pS, ap_L, ap_tE, ap_tAn, ap_tO, ap_tN, ap_tY, ap_if, ap_lD, ap_lF, ap_lCat, catL_ok, ap_lRep, repL_ok, ap_lSl, slL_lst, slL_scr, ap_iD, itL_lst, itL_scr, ap_iT, itT_tup, itT_ktp, ap_iS, itS_str, ap_iR1, itR1_ok, add_i, add_s, add_l, addX_i, addX_s, sub_i, mul_i, div_i, mod_i, pow_i, shl_i, shr_i, and_i, or_i, xor_i, neg_i, not_b, lt_i, le_i, gt_i, ge_i, eq_i, eq_s, ne_i, ne_s, is_non, is_int, is_str, is_tup, is_lst, isnt_non, isnt_int, isnt_str, isnt_tup, toBl_b, toIn_i, ix_s, ix_l, ix_r, ix_t, ix_k, sl_s, sl_l, sl_r, sl_t, len_s, len_l, len_r, len_t, len_k, int_i, int_b, abs_i, min_i, max_i, tup_l, tup_t, list_l, list_r, list_t, isi_i, isi_b, isi_s, isi_l, isi_t, isi_n, ty_ii, ty_bi, ty_ss, ty_ll, ty_tt, ty_tl, ty_lt, ty_tn, find_s, lower_s, sq_nx, sq_sq, sq_a, sq_o, sq_x, sq_if, sq_ret, sq_retL, oOf_o, sq_retO, sq_app, lstK_l, sq_ext, sq_aug, sq_g, sq_frz, sq_br, sq_ct, sq_raise, ofG_some, nx_ap, thenS_nx, thenS_rt, thenS_exc, sq_for, sq_wh, endV_v, endV_o, endV_n, endV_x, endL_o, endL_x, gN_ap, List.getElem?_cons_zero, List.getElem?_cons_succ, List.set_cons_zero, List.set_cons_succ, List.length_cons, List.length_nil, decide_eq_true_eq, Bool.not_eq_true, reduceIte, Bool.false_eq_true, decide_true, decide_false, Nat.reduceAdd, Nat.reduceLeDiff, Nat.reduceLT, Bool.not_true, Bool.not_false, List.nil_append, List.cons_append, List.map_cons, List.map_nil, List.replicate_succ, List.replicate_zero, Bool.not_eq_eq_eq_not, decide_eq_false_iff_not, and_self, and_true, true_and, and_false, false_and, or_true, true_or, or_false, false_or, or_self, Int.reduceLE, Int.reduceLT, Int.reduceNeg, Int.reduceAdd, Int.reduceSub, Int.reduceMul, Int.reduceDiv, Int.reduceMod, Int.reduceEq, Int.reduceToNat, Nat.reduceEqDiff, frz_zero, frz_succ, gT_tup, gT_ktp, gC_ap, gE_nil, cast_0, cast_1, cast_2, cast_3, cast_4, cast_5, cast_6, cast_7, cast_8, cast_9, ty_bs, ty_is, frz_zeroV, oOfR_o, ap_lenO, ap_ixO, tOf_some, pOf_fn, ap_P, ap_iZT, itZT_ok, zipD_cons, zipD_nil, str_i, sq_set, oOfS_o, set_ints, thenW_nx, thenW_ct, thenW_bk, thenW_rt, thenW_exc, at_ok, at_bad, at_exc, at_bind, at_ite, atS_nx, atS_rt, atS_ite, atS_ofE, atS_then, at_endV, endP_v, endP_o, ix_m, len_m, ap_MM, isCL_m, pop0_m, mapp_m, ap_cell, sq_mset, setM_m, w]
  rw [e_read_index]
  unfold b_read_index
  simp only [bind_ok, bind_exc, bind_bad, ofE_ok, ofE_exc, vOf_v, ap_C, ap_V, ap_nil, ap_cons, ap_U, ap_B, ap_chain, ap_and, ap_or, ap_tup, ap_F, ap_M, ap_sl, ap_pN, ap_pS, ap_L, ap_tE, ap_tAn, ap_tO, ap_tN, ap_tY, ap_if, ap_lD, ap_lF, ap_lCat, catL_ok, ap_lRep, repL_ok, ap_lSl, slL_lst, slL_scr, ap_iD, itL_lst, itL_scr, ap_iT, itT_tup, itT_ktp, ap_iS, itS_str, ap_iR1, itR1_ok, add_i, add_s, add_l, addX_i, addX_s, sub_i, mul_i, div_i, mod_i, pow_i, shl_i, shr_i, and_i, or_i, xor_i, neg_i, not_b, lt_i, le_i, gt_i, ge_i, eq_i, eq_s, ne_i, ne_s, is_non, is_int, is_str, is_tup, is_lst, isnt_non, isnt_int, isnt_str, isnt_tup, toBl_b, toIn_i, ix_s, ix_l, ix_r, ix_t, ix_k, sl_s, sl_l, sl_r, sl_t, len_s, len_l, len_r, len_t, len_k, int_i, int_b, abs_i, min_i, max_i, tup_l, tup_t, list_l, list_r, list_t, isi_i, isi_b, isi_s, isi_l, isi_t, isi_n, ty_ii, ty_bi, ty_ss, ty_ll, ty_tt, ty_tl, ty_lt, ty_tn, find_s, lower_s, sq_nx, sq_sq, sq_a, sq_o, sq_x, sq_if, sq_ret, sq_retL, oOf_o, sq_retO, sq_app, lstK_l, sq_ext, sq_aug, sq_g, sq_frz, sq_br, sq_ct, sq_raise, ofG_some, nx_ap, thenS_nx, thenS_rt, thenS_exc, sq_for, sq_wh, endV_v, endV_o, endV_n, endV_x, endL_o, endL_x, gN_ap, List.getElem?_cons_zero, List.getElem?_cons_succ, List.set_cons_zero, List.set_cons_succ, List.length_cons, List.length_nil, decide_eq_true_eq, Bool.not_eq_true, reduceIte, Bool.false_eq_true, decide_true, decide_false, Nat.reduceAdd, Nat.reduceLeDiff, Nat.reduceLT, Bool.not_true, Bool.not_false, List.nil_append, List.cons_append, List.map_cons, List.map_nil, List.replicate_succ, List.replicate_zero, Bool.not_eq_eq_eq_not, decide_eq_false_iff_not, and_self, and_true, true_and, and_false, false_and, or_true, true_or, or_false, false_or, or_self, Int.reduceLE, Int.reduceLT, Int.reduceNeg, Int.reduceAdd, Int.reduceSub, Int.reduceMul, Int.reduceDiv, Int.reduceMod, Int.reduceEq, Int.reduceToNat, Nat.reduceEqDiff, frz_zero, frz_succ, gT_tup, gT_ktp, gC_ap, gE_nil, cast_0, cast_1, cast_2, cast_3, cast_4, cast_5, cast_6, cast_7, cast_8, cast_9, ty_bs, ty_is, frz_zeroV, oOfR_o, ap_lenO, ap_ixO, tOf_some, pOf_fn, ap_P, ap_iZT, itZT_ok, zipD_cons, zipD_nil, str_i, sq_set, oOfS_o, set_ints, thenW_nx, thenW_ct, thenW_bk, thenW_rt, thenW_exc, at_ok, at_bad, at_exc, at_bind, at_ite, atS_nx, atS_rt, atS_ite, atS_ofE, atS_then, at_endV, endP_v, endP_o, ix_m, len_m, ap_MM, isCL_m, pop0_m, mapp_m, ap_cell, sq_mset, setM_m, show m_read_unsigned [.lst (dI F), .int (p : Int), .int (e : Int), .int 32] = .exc 1001 (X "unexpected end" e) by rw [e_read_unsigned]; unfold b_read_unsigned; simp only [bind_ok, bind_exc, bind_bad, ofE_ok, ofE_exc, vOf_v, ap_C, ap_V, ap_nil, ap_cons, ap_U, ap_B, ap_chain, ap_and, ap_or, ap_tup, ap_F, ap_M, ap_sl, ap_pN, ap_pS, ap_L, ap_tE, ap_tAn, ap_tO, ap_tN, ap_tY, ap_if, ap_lD, ap_lF, ap_lCat, catL_ok, ap_lRep, repL_ok, ap_lSl, slL_lst, slL_scr, ap_iD, itL_lst, itL_scr, ap_iT, itT_tup, itT_ktp, ap_iS, itS_str, ap_iR1, itR1_ok, add_i, add_s, add_l, addX_i, addX_s, sub_i, mul_i, div_i, mod_i, pow_i, shl_i, shr_i, and_i, or_i, xor_i, neg_i, not_b, lt_i, le_i, gt_i, ge_i, eq_i, eq_s, ne_i, ne_s, is_non, is_int, is_str, is_tup, is_lst, isnt_non, isnt_int, isnt_str, isnt_tup, toBl_b, toIn_i, ix_s, ix_l, ix_r, ix_t, ix_k, sl_s, sl_l, sl_r, sl_t, len_s, len_l, len_r, len_t, len_k, int_i, int_b, abs_i, min_i, max_i, tup_l, tup_t, list_l, list_r, list_t, isi_i, isi_b, isi_s, isi_l, isi_t, isi_n, ty_ii, ty_bi, ty_ss, ty_ll, ty_tt, ty_tl, ty_lt, ty_tn, find_s, lower_s, sq_nx, sq_sq, sq_a, sq_o, sq_x, sq_if, sq_ret, sq_retL, oOf_o, sq_retO, sq_app, lstK_l, sq_ext, sq_aug, sq_g, sq_frz, sq_br, sq_ct, sq_raise, ofG_some, nx_ap, thenS_nx, thenS_rt, thenS_exc, sq_for, sq_wh, endV_v, endV_o, endV_n, endV_x, endL_o, endL_x, gN_ap, List.getElem?_cons_zero, List.getElem?_cons_succ, List.set_cons_zero, List.set_cons_succ, List.length_cons, List.length_nil, decide_eq_true_eq, Bool.not_eq_true, reduceIte, Bool.false_eq_true, decide_true, decide_false, Nat.reduceAdd, Nat.reduceLeDiff, Nat.reduceLT, Bool.not_true, Bool.not_false, List.nil_append, List.cons_append, List.map_cons, List.map_nil, List.replicate_succ, List.replicate_zero, Bool.not_eq_eq_eq_not, decide_eq_false_iff_not, and_self, and_true, true_and, and_false, false_and, or_true, true_or, or_false, false_or, or_self, Int.reduceLE, Int.reduceLT, Int.reduceNeg, Int.reduceAdd, Int.reduceSub, Int.reduceMul, Int.reduceDiv, Int.reduceMod, Int.reduceEq, Int.reduceToNat, Nat.reduceEqDiff, frz_zero, frz_succ, gT_tup, gT_ktp, gC_ap, gE_nil, cast_0, cast_1, cast_2, cast_3, cast_4, cast_5, cast_6, cast_7, cast_8, cast_9, ty_bs, ty_is, frz_zeroV, oOfR_o, ap_lenO, ap_ixO, tOf_some, pOf_fn, ap_P, ap_iZT, itZT_ok, zipD_cons, zipD_nil, str_i, sq_set, oOfS_o, set_ints, thenW_nx, thenW_ct, thenW_bk, thenW_rt, thenW_exc, at_ok, at_bad, at_exc, at_bind, at_ite, atS_nx, atS_rt, atS_ite, atS_ofE, atS_then, at_endV, endP_v, endP_o, ix_m, len_m, ap_MM, isCL_m, pop0_m, mapp_m, ap_cell, sq_mset, setM_m, g]]
theorem idx_1 {F : List Int} {p e : Nat} {c : Int} (h : F[p]? = some c) (he : p < e) (hc : 0 ≤ c) (h1 : c < 128) : m_read_index [.lst (dI F), .int (p : Int), .int (e : Int)] = .ok (.tup [.int c, .int (p + 1 : Nat)]) := by
  have t : ∀ x4 x5 : Sl, tg [.val (.lst (dI F)), .val (.int (p : Int)), .val (.int (e : Int)), .val (.int 32), x4, x5] = .ok false := fun x4 x5 => by
    simp only [bind_ok, bind_exc, bind_bad, ofE_ok, ofE_exc, vOf_v, ap_C, ap_V, ap_nil, ap_cons, ap_U, ap_B, ap_chain, ap_and, ap_or, ap_tup, ap_F, ap_M, ap_sl, ap_pN, ap_pS, ap_L, ap_tE, ap_tAn, ap_tO, ap_tN, ap_tY, ap_if, ap_lD, ap_lF, ap_lCat, catL_ok, ap_lRep, repL_ok, ap_lSl, slL_lst, slL_scr, ap_iD, itL_lst, itL_scr, ap_iT, itT_tup, itT_ktp, ap_iS, itS_str, ap_iR1, itR1_ok, add_i, add_s, add_l, addX_i, addX_s, sub_i, mul_i, div_i, mod_i, pow_i, shl_i, shr_i, and_i, or_i, xor_i, neg_i, not_b, lt_i, le_i, gt_i, ge_i, eq_i, eq_s, ne_i, ne_s, is_non, is_int, is_str, is_tup, is_lst, isnt_non, isnt_int, isnt_str, isnt_tup, toBl_b, toIn_i, ix_s, ix_l, ix_r, ix_t, ix_k, sl_s, sl_l, sl_r, sl_t, len_s, len_l, len_r, len_t, len_k, int_i, int_b, abs_i, min_i, max_i, tup_l, tup_t, list_l, list_r, list_t, isi_i, isi_b, isi_s, isi_l, isi_t, isi_n, ty_ii, ty_bi, ty_ss, ty_ll, ty_tt, ty_tl, ty_lt, ty_tn, find_s, lower_s, sq_nx, sq_sq, sq_a, sq_o, sq_x, sq_if, sq_ret, sq_retL, oOf_o, sq_retO, sq_app, lstK_l, sq_ext, sq_aug, sq_g, sq_frz, sq_br, sq_ct, sq_raise, ofG_some, nx_ap, thenS_nx, thenS_rt, thenS_exc, sq_for, sq_wh, endV_v, endV_o, endV_n, endV_x, endL_o, endL_x, gN_ap, List.getElem?_cons_zero, List.getElem?_cons_succ, List.set_cons_zero, List.set_cons_succ, List.length_cons, List.length_nil, decide_eq_true_eq, Bool.not_eq_true, reduceIte, Bool.false_eq_true, decide_true, decide_false, Nat.reduceAdd, Nat.reduceLeDiff, Nat.reduceLT, Bool.not_true, Bool.not_false, List.nil_append, List.cons_append, List.map_cons, List.map_nil, List.replicate_succ, List.replicate_zero, Bool.not_eq_eq_eq_not, decide_eq_false_iff_not, and_self, and_true, true_and, and_false, false_and, or_true, true_or, or_false, false_or, or_self, Int.reduceLE, Int.reduceLT, Int.reduceNeg, Int.reduceAdd, Int.reduceSub, Int.reduceMul, Int.reduceDiv, Int.reduceMod, Int.reduceEq, Int.reduceToNat, Nat.reduceEqDiff, frz_zero, frz_succ, gT_tup, gT_ktp, gC_ap, gE_nil, cast_0, cast_1, cast_2, cast_3, cast_4, cast_5, cast_6, cast_7, cast_8, cast_9, ty_bs, ty_is, frz_zeroV, oOfR_o, ap_lenO, ap_ixO, tOf_some, pOf_fn, ap_P, ap_iZT, itZT_ok, zipD_cons, zipD_nil, str_i, sq_set, oOfS_o, set_ints, thenW_nx, thenW_ct, thenW_bk, thenW_rt, thenW_exc, at_ok, at_bad, at_exc, at_bind, at_ite, atS_nx, atS_rt, atS_ite, atS_ofE, atS_then, at_endV, endP_v, endP_o, ix_m, len_m, ap_MM, isCL_m, pop0_m, mapp_m, ap_cell, sq_mset, setM_m, byte_ok h he, show ¬ 128 ≤ c by omega]
  have g : m_read_groups [.lst (dI F), .int (p : Int), .int (e : Int), .int 32] = .ok (.tup [.int 0, .int 0, .int 32, .int (p : Int)]) := by
    rw [e_read_groups]
    unfold b_read_groups
    simp only [bind_ok, bind_exc, bind_bad, ofE_ok, ofE_exc, vOf_v, ap_C, ap_V, ap_nil, ap_cons, ap_U, ap_B, ap_chain, ap_and, ap_or, ap_tup, ap_F, ap_M, ap_sl, ap_pN, ap_pS, ap_L, ap_tE, ap_tAn, ap_tO, ap_tN, ap_tY, ap_if, ap_lD, ap_lF, ap_lCat, catL_ok, ap_lRep, repL_ok, ap_lSl, slL_lst, slL_scr, ap_iD, itL_lst, itL_scr, ap_iT, itT_tup, itT_ktp, ap_iS, itS_str, ap_iR1, itR1_ok, add_i, add_s, add_l, addX_i, addX_s, sub_i, mul_i, div_i, mod_i, pow_i, shl_i, shr_i, and_i, or_i, xor_i, neg_i, not_b, lt_i, le_i, gt_i, ge_i, eq_i, eq_s, ne_i, ne_s, is_non, is_int, is_str, is_tup, is_lst, isnt_non, isnt_int, isnt_str, isnt_tup, toBl_b, toIn_i, ix_s, ix_l, ix_r, ix_t, ix_k, sl_s, sl_l, sl_r, sl_t, len_s, len_l, len_r, len_t, len_k, int_i, int_b, abs_i, min_i, max_i, tup_l, tup_t, list_l, list_r, list_t, isi_i, isi_b, isi_s, isi_l, isi_t, isi_n, ty_ii, ty_bi, ty_ss, ty_ll, ty_tt, ty_tl, ty_lt, ty_tn, find_s, lower_s, sq_nx, sq_sq, sq_a, sq_o, sq_x, sq_if, sq_ret, sq_retL, oOf_o, sq_retO, sq_app, lstK_l, sq_ext, sq_aug, sq_g, sq_frz, sq_br, sq_ct, sq_raise, ofG_some, nx_ap, thenS_nx, thenS_rt, thenS_exc, sq_for, sq_wh, endV_v, endV_o, endV_n, endV_x, endL_o, endL_x, gN_ap, List.getElem?_cons_zero, List.getElem?_cons_succ, List.set_cons_zero, List.set_cons_succ, List.length_cons, List.length_nil, decide_eq_true_eq, Bool.not_eq_true, reduceIte, Bool.false_eq_true, decide_true, decide_false, Nat.reduceAdd, Nat.reduceLeDiff, Nat.reduceLT, Bool.not_true, Bool.not_false, List.nil_append, List.cons_append, List.map_cons, List.map_nil, List.replicate_succ, List.replicate_zero, Bool.not_eq_eq_eq_not, decide_eq_false_iff_not, and_self, and_true, true_and, and_false, false_and, or_true, true_or, or_false, false_or, or_self, Int.reduceLE, Int.reduceLT, Int.reduceNeg, Int.reduceAdd, Int.reduceSub, Int.reduceMul, Int.reduceDiv, Int.reduceMod, Int.reduceEq, Int.reduceToNat, Nat.reduceEqDiff, frz_zero, frz_succ, gT_tup, gT_ktp, gC_ap, gE_nil, cast_0, cast_1, cast_2, cast_3, cast_4, cast_5, cast_6, cast_7, cast_8, cast_9, ty_bs, ty_is, frz_zeroV, oOfR_o, ap_lenO, ap_ixO, tOf_some, pOf_fn, ap_P, ap_iZT, itZT_ok, zipD_cons, zipD_nil, str_i, sq_set, oOfS_o, set_ints, thenW_nx, thenW_ct, thenW_bk, thenW_rt, thenW_exc, at_ok, at_bad, at_exc, at_bind, at_ite, atS_nx, atS_rt, atS_ite, atS_ofE, atS_then, at_endV, endP_v, endP_o, ix_m, len_m, ap_MM, isCL_m, pop0_m, mapp_m, ap_cell, sq_mset, setM_m, show (100000 : Nat) = 99999 + 1 from rfl, whGo_succ (t _ _)]
  have cp : CPow c 0 := ⟨by decide, by decide, by omega⟩
  rw [e_read_index]
  unfold b_read_index
  simp only [bind_ok, bind_exc, bind_bad, ofE_ok, ofE_exc, vOf_v, ap_C, ap_V, ap_nil, ap_cons, ap_U, ap_B, ap_chain, ap_and, ap_or, ap_tup, ap_F, ap_M, ap_sl, ap_pN, ap_pS, ap_L, ap_tE, ap_tAn, ap_tO, ap_tN, ap_tY, ap_if, ap_lD, ap_lF, ap_lCat, catL_ok, ap_lRep, repL_ok, ap_lSl, slL_lst, slL_scr, ap_iD, itL_lst, itL_scr, ap_iT, itT_tup, itT_ktp, ap_iS, itS_str, ap_iR1, itR1_ok, add_i, add_s, add_l, addX_i, addX_s, sub_i, mul_i, div_i, mod_i, pow_i, shl_i, shr_i, and_i, or_i, xor_i, neg_i, not_b, lt_i, le_i, gt_i, ge_i, eq_i, eq_s, ne_i, ne_s, is_non, is_int, is_str, is_tup, is_lst, isnt_non, isnt_int, isnt_str, isnt_tup, toBl_b, toIn_i, ix_s, ix_l, ix_r, ix_t, ix_k, sl_s, sl_l, sl_r, sl_t, len_s, len_l, len_r, len_t, len_k, int_i, int_b, abs_i, min_i, max_i, tup_l, tup_t, list_l, list_r, list_t, isi_i, isi_b, isi_s, isi_l, isi_t, isi_n, ty_ii, ty_bi, ty_ss, ty_ll, ty_tt, ty_tl, ty_lt, ty_tn, find_s, lower_s, sq_nx, sq_sq, sq_a, sq_o, sq_x, sq_if, sq_ret, sq_retL, oOf_o, sq_retO, sq_app, lstK_l, sq_ext, sq_aug, sq_g, sq_frz, sq_br, sq_ct, sq_raise, ofG_some, nx_ap, thenS_nx, thenS_rt, thenS_exc, sq_for, sq_wh, endV_v, endV_o, endV_n, endV_x, endL_o, endL_x, gN_ap, List.getElem?_cons_zero, List.getElem?_cons_succ, List.set_cons_zero, List.set_cons_succ, List.length_cons, List.length_nil, decide_eq_true_eq, Bool.not_eq_true, reduceIte, Bool.false_eq_true, decide_true, decide_false, Nat.reduceAdd, Nat.reduceLeDiff, Nat.reduceLT, Bool.not_true, Bool.not_false, List.nil_append, List.cons_append, List.map_cons, List.map_nil, List.replicate_succ, List.replicate_zero, Bool.not_eq_eq_eq_not, decide_eq_false_iff_not, and_self, and_true, true_and, and_false, false_and, or_true, true_or, or_false, false_or, or_self, Int.reduceLE, Int.reduceLT, Int.reduceNeg, Int.reduceAdd, Int.reduceSub, Int.reduceMul, Int.reduceDiv, Int.reduceMod, Int.reduceEq, Int.reduceToNat, Nat.reduceEqDiff, frz_zero, frz_succ, gT_tup, gT_ktp, gC_ap, gE_nil, cast_0, cast_1, cast_2, cast_3, cast_4, cast_5, cast_6, cast_7, cast_8, cast_9, ty_bs, ty_is, frz_zeroV, oOfR_o, ap_lenO, ap_ixO, tOf_some, pOf_fn, ap_P, ap_iZT, itZT_ok, zipD_cons, zipD_nil, str_i, sq_set, oOfS_o, set_ints, thenW_nx, thenW_ct, thenW_bk, thenW_rt, thenW_exc, at_ok, at_bad, at_exc, at_bind, at_ite, atS_nx, atS_rt, atS_ite, atS_ofE, atS_then, at_endV, endP_v, endP_o, ix_m, len_m, ap_MM, isCL_m, pop0_m, mapp_m, ap_cell, sq_mset, setM_m, show m_read_unsigned [.lst (dI F), .int (p : Int), .int (e : Int), .int 32] = .ok (.tup [.int c, .int (p + 1 : Nat)]) by rw [e_read_unsigned]; unfold b_read_unsigned; simp only [bind_ok, bind_exc, bind_bad, ofE_ok, ofE_exc, vOf_v, ap_C, ap_V, ap_nil, ap_cons, ap_U, ap_B, ap_chain, ap_and, ap_or, ap_tup, ap_F, ap_M, ap_sl, ap_pN, ap_pS, ap_L, ap_tE, ap_tAn, ap_tO, ap_tN, ap_tY, ap_if, ap_lD, ap_lF, ap_lCat, catL_ok, ap_lRep, repL_ok, ap_lSl, slL_lst, slL_scr, ap_iD, itL_lst, itL_scr, ap_iT, itT_tup, itT_ktp, ap_iS, itS_str, ap_iR1, itR1_ok, add_i, add_s, add_l, addX_i, addX_s, sub_i, mul_i, div_i, mod_i, pow_i, shl_i, shr_i, and_i, or_i, xor_i, neg_i, not_b, lt_i, le_i, gt_i, ge_i, eq_i, eq_s, ne_i, ne_s, is_non, is_int, is_str, is_tup, is_lst, isnt_non, isnt_int, isnt_str, isnt_tup, toBl_b, toIn_i, ix_s, ix_l, ix_r, ix_t, ix_k, sl_s, sl_l, sl_r, sl_t, len_s, len_l, len_r, len_t, len_k, int_i, int_b, abs_i, min_i, max_i, tup_l, tup_t, list_l, list_r, list_t, isi_i, isi_b, isi_s, isi_l, isi_t, isi_n, ty_ii, ty_bi, ty_ss, ty_ll, ty_tt, ty_tl, ty_lt, ty_tn, find_s, lower_s, sq_nx, sq_sq, sq_a, sq_o, sq_x, sq_if, sq_ret, sq_retL, oOf_o, sq_retO, sq_app, lstK_l, sq_ext, sq_aug, sq_g, sq_frz, sq_br, sq_ct, sq_raise, ofG_some, nx_ap, thenS_nx, thenS_rt, thenS_exc, sq_for, sq_wh, endV_v, endV_o, endV_n, endV_x, endL_o, endL_x, gN_ap, List.getElem?_cons_zero, List.getElem?_cons_succ, List.set_cons_zero, List.set_cons_succ, List.length_cons, List.length_nil, decide_eq_true_eq, Bool.not_eq_true, reduceIte, Bool.false_eq_true, decide_true, decide_false, Nat.reduceAdd, Nat.reduceLeDiff, Nat.reduceLT, Bool.not_true, Bool.not_false, List.nil_append, List.cons_append, List.map_cons, List.map_nil, List.replicate_succ, List.replicate_zero, Bool.not_eq_eq_eq_not, decide_eq_false_iff_not, and_self, and_true, true_and, and_false, false_and, or_true, true_or, or_false, false_or, or_self, Int.reduceLE, Int.reduceLT, Int.reduceNeg, Int.reduceAdd, Int.reduceSub, Int.reduceMul, Int.reduceDiv, Int.reduceMod, Int.reduceEq, Int.reduceToNat, Nat.reduceEqDiff, frz_zero, frz_succ, gT_tup, gT_ktp, gC_ap, gE_nil, cast_0, cast_1, cast_2, cast_3, cast_4, cast_5, cast_6, cast_7, cast_8, cast_9, ty_bs, ty_is, frz_zeroV, oOfR_o, ap_lenO, ap_ixO, tOf_some, pOf_fn, ap_P, ap_iZT, itZT_ok, zipD_cons, zipD_nil, str_i, sq_set, oOfS_o, set_ints, thenW_nx, thenW_ct, thenW_bk, thenW_rt, thenW_exc, at_ok, at_bad, at_exc, at_bind, at_ite, atS_nx, atS_rt, atS_ite, atS_ofE, atS_then, at_endV, endP_v, endP_o, ix_m, len_m, ap_MM, isCL_m, pop0_m, mapp_m, ap_cell, sq_mset, setM_m, g, ixL_get h, cp, Int.toNat_zero, Int.pow_zero, Int.mul_one, Int.zero_add]; rfl]
theorem grp_step {F : List Int} {p e : Nat} {c : Int} (h : F[p]? = some c) (he : p < e) (h1 : 128 ≤ c) (h2 : c < 256) : b_read_groups_1 [.val (.lst (dI F)), .val (.int (p : Int)), .val (.int (e : Int)), .val (.int 32), .val (.int 0), .val (.int 0)] = .nx [.val (.lst (dI F)), .val (.int (p + 1 : Nat)), .val (.int (e : Int)), .val (.int 25), .val (.int (c - 128)), .val (.int 7)] := by
  have cp : CPow (c - 128) 0 := ⟨by decide, by decide, by omega⟩
  unfold b_read_groups_1
  simp only [bind_ok, bind_exc, bind_bad, ofE_ok, ofE_exc, vOf_v, ap_C, ap_V, ap_nil, ap_cons, ap_U, ap_B, ap_chain, ap_and, ap_or, ap_tup, ap_F, ap_M, ap_sl, ap_pN, ap_pS, ap_L, ap_tE, ap_tAn, ap_tO, ap_tN, ap_tY, ap_if, ap_lD, ap_lF, ap_lCat, catL_ok, ap_lRep, repL_ok, ap_lSl, slL_lst, slL_scr, ap_iD, itL_lst, itL_scr, ap_iT, itT_tup, itT_ktp, ap_iS, itS_str, ap_iR1, itR1_ok, add_i, add_s, add_l, addX_i, addX_s, sub_i, mul_i, div_i, mod_i, pow_i, shl_i, shr_i, and_i, or_i, xor_i, neg_i, not_b, lt_i, le_i, gt_i, ge_i, eq_i, eq_s, ne_i, ne_s, is_non, is_int, is_str, is_tup, is_lst, isnt_non, isnt_int, isnt_str, isnt_tup, toBl_b, toIn_i, ix_s, ix_l, ix_r, ix_t, ix_k, sl_s, sl_l, sl_r, sl_t, len_s, len_l, len_r, len_t, len_k, int_i, int_b, abs_i, min_i, max_i, tup_l, tup_t, list_l, list_r, list_t, isi_i, isi_b, isi_s, isi_l, isi_t, isi_n, ty_ii, ty_bi, ty_ss, ty_ll, ty_tt, ty_tl, ty_lt, ty_tn, find_s, lower_s, sq_nx, sq_sq, sq_a, sq_o, sq_x, sq_if, sq_ret, sq_retL, oOf_o, sq_retO, sq_app, lstK_l, sq_ext, sq_aug, sq_g, sq_frz, sq_br, sq_ct, sq_raise, ofG_some, nx_ap, thenS_nx, thenS_rt, thenS_exc, sq_for, sq_wh, endV_v, endV_o, endV_n, endV_x, endL_o, endL_x, gN_ap, List.getElem?_cons_zero, List.getElem?_cons_succ, List.set_cons_zero, List.set_cons_succ, List.length_cons, List.length_nil, decide_eq_true_eq, Bool.not_eq_true, reduceIte, Bool.false_eq_true, decide_true, decide_false, Nat.reduceAdd, Nat.reduceLeDiff, Nat.reduceLT, Bool.not_true, Bool.not_false, List.nil_append, List.cons_append, List.map_cons, List.map_nil, List.replicate_succ, List.replicate_zero, Bool.not_eq_eq_eq_not, decide_eq_false_iff_not, and_self, and_true, true_and, and_false, false_and, or_true, true_or, or_false, false_or, or_self, Int.reduceLE, Int.reduceLT, Int.reduceNeg, Int.reduceAdd, Int.reduceSub, Int.reduceMul, Int.reduceDiv, Int.reduceMod, Int.reduceEq, Int.reduceToNat, Nat.reduceEqDiff, frz_zero, frz_succ, gT_tup, gT_ktp, gC_ap, gE_nil, cast_0, cast_1, cast_2, cast_3, cast_4, cast_5, cast_6, cast_7, cast_8, cast_9, ty_bs, ty_is, frz_zeroV, oOfR_o, ap_lenO, ap_ixO, tOf_some, pOf_fn, ap_P, ap_iZT, itZT_ok, zipD_cons, zipD_nil, str_i, sq_set, oOfS_o, set_ints, thenW_nx, thenW_ct, thenW_bk, thenW_rt, thenW_exc, at_ok, at_bad, at_exc, at_bind, at_ite, atS_nx, atS_rt, atS_ite, atS_ofE, atS_then, at_endV, endP_v, endP_o, ix_m, len_m, ap_MM, isCL_m, pop0_m, mapp_m, ap_cell, sq_mset, setM_m, ixL_get h, cp, Int.toNat_zero, Int.pow_zero, Int.mul_one, Int.zero_add]
  rfl
theorem tg_true {F : List Int} {p e : Nat} {c : Int} (h : F[p]? = some c) (he : p < e) (h1 : 128 ≤ c) (x3 x4 x5 : Sl) : tg [.val (.lst (dI F)), .val (.int (p : Int)), .val (.int (e : Int)), x3, x4, x5] = .ok true := by
  simp only [bind_ok, bind_exc, bind_bad, ofE_ok, ofE_exc, vOf_v, ap_C, ap_V, ap_nil, ap_cons, ap_U, ap_B, ap_chain, ap_and, ap_or, ap_tup, ap_F, ap_M, ap_sl, ap_pN, ap_pS, ap_L, ap_tE, ap_tAn, ap_tO, ap_tN, ap_tY, ap_if, ap_lD, ap_lF, ap_lCat, catL_ok, ap_lRep, repL_ok, ap_lSl, slL_lst, slL_scr, ap_iD, itL_lst, itL_scr, ap_iT, itT_tup, itT_ktp, ap_iS, itS_str, ap_iR1, itR1_ok, add_i, add_s, add_l, addX_i, addX_s, sub_i, mul_i, div_i, mod_i, pow_i, shl_i, shr_i, and_i, or_i, xor_i, neg_i, not_b, lt_i, le_i, gt_i, ge_i, eq_i, eq_s, ne_i, ne_s, is_non, is_int, is_str, is_tup, is_lst, isnt_non, isnt_int, isnt_str, isnt_tup, toBl_b, toIn_i, ix_s, ix_l, ix_r, ix_t, ix_k, sl_s, sl_l, sl_r, sl_t, len_s, len_l, len_r, len_t, len_k, int_i, int_b, abs_i, min_i, max_i, tup_l, tup_t, list_l, list_r, list_t, isi_i, isi_b, isi_s, isi_l, isi_t, isi_n, ty_ii, ty_bi, ty_ss, ty_ll, ty_tt, ty_tl, ty_lt, ty_tn, find_s, lower_s, sq_nx, sq_sq, sq_a, sq_o, sq_x, sq_if, sq_ret, sq_retL, oOf_o, sq_retO, sq_app, lstK_l, sq_ext, sq_aug, sq_g, sq_frz, sq_br, sq_ct, sq_raise, ofG_some, nx_ap, thenS_nx, thenS_rt, thenS_exc, sq_for, sq_wh, endV_v, endV_o, endV_n, endV_x, endL_o, endL_x, gN_ap, List.getElem?_cons_zero, List.getElem?_cons_succ, List.set_cons_zero, List.set_cons_succ, List.length_cons, List.length_nil, decide_eq_true_eq, Bool.not_eq_true, reduceIte, Bool.false_eq_true, decide_true, decide_false, Nat.reduceAdd, Nat.reduceLeDiff, Nat.reduceLT, Bool.not_true, Bool.not_false, List.nil_append, List.cons_append, List.map_cons, List.map_nil, List.replicate_succ, List.replicate_zero, Bool.not_eq_eq_eq_not, decide_eq_false_iff_not, and_self, and_true, true_and, and_false, false_and, or_true, true_or, or_false, false_or, or_self, Int.reduceLE, Int.reduceLT, Int.reduceNeg, Int.reduceAdd, Int.reduceSub, Int.reduceMul, Int.reduceDiv, Int.reduceMod, Int.reduceEq, Int.reduceToNat, Nat.reduceEqDiff, frz_zero, frz_succ, gT_tup, gT_ktp, gC_ap, gE_nil, cast_0, cast_1, cast_2, cast_3, cast_4, cast_5, cast_6, cast_7, cast_8, cast_9, ty_bs, ty_is, frz_zeroV, oOfR_o, ap_lenO, ap_ixO, tOf_some, pOf_fn, ap_P, ap_iZT, itZT_ok, zipD_cons, zipD_nil, str_i, sq_set, oOfS_o, set_ints, thenW_nx, thenW_ct, thenW_bk, thenW_rt, thenW_exc, at_ok, at_bad, at_exc, at_bind, at_ite, atS_nx, atS_rt, atS_ite, atS_ofE, atS_then, at_endV, endP_v, endP_o, ix_m, len_m, ap_MM, isCL_m, pop0_m, mapp_m, ap_cell, sq_mset, setM_m, byte_ok h he, h1]
theorem tg_false {F : List Int} {p e : Nat} {c : Int} (h : F[p]? = some c) (he : p < e) (h1 : c < 128) (x3 x4 x5 : Sl) : tg [.val (.lst (dI F)), .val (.int (p : Int)), .val (.int (e : Int)), x3, x4, x5] = .ok false := by
  simp only [bind_ok, bind_exc, bind_bad, ofE_ok, ofE_exc, vOf_v, ap_C, ap_V, ap_nil, ap_cons, ap_U, ap_B, ap_chain, ap_and, ap_or, ap_tup, ap_F, ap_M, ap_sl, ap_pN, ap_pS, ap_L, ap_tE, ap_tAn, ap_tO, ap_tN, ap_tY, ap_if, ap_lD, ap_lF, ap_lCat, catL_ok, ap_lRep, repL_ok, ap_lSl, slL_lst, slL_scr, ap_iD, itL_lst, itL_scr, ap_iT, itT_tup, itT_ktp, ap_iS, itS_str, ap_iR1, itR1_ok, add_i, add_s, add_l, addX_i, addX_s, sub_i, mul_i, div_i, mod_i, pow_i, shl_i, shr_i, and_i, or_i, xor_i, neg_i, not_b, lt_i, le_i, gt_i, ge_i, eq_i, eq_s, ne_i, ne_s, is_non, is_int, is_str, is_tup, is_lst, isnt_non, isnt_int, isnt_str, isnt_tup, toBl_b, toIn_i, ix_s, ix_l, ix_r, ix_t, ix_k, sl_s, sl_l, sl_r, sl_t, len_s, len_l, len_r, len_t, len_k, int_i, int_b, abs_i, min_i, max_i, tup_l, tup_t, list_l, list_r, list_t, isi_i, isi_b, isi_s, isi_l, isi_t, isi_n, ty_ii, ty_bi, ty_ss, ty_ll, ty_tt, ty_tl, ty_lt, ty_tn, find_s, lower_s, sq_nx, sq_sq, sq_a, sq_o, sq_x, sq_if, sq_ret, sq_retL, oOf_o, sq_retO, sq_app, lstK_l, sq_ext, sq_aug, sq_g, sq_frz, sq_br, sq_ct, sq_raise, ofG_some, nx_ap, thenS_nx, thenS_rt, thenS_exc, sq_for, sq_wh, endV_v, endV_o, endV_n, endV_x, endL_o, endL_x, gN_ap, List.getElem?_cons_zero, List.getElem?_cons_succ, List.set_cons_zero, List.set_cons_succ, List.length_cons, List.length_nil, decide_eq_true_eq, Bool.not_eq_true, reduceIte, Bool.false_eq_true, decide_true, decide_false, Nat.reduceAdd, Nat.reduceLeDiff, Nat.reduceLT, Bool.not_true, Bool.not_false, List.nil_append, List.cons_append, List.map_cons, List.map_nil, List.replicate_succ, List.replicate_zero, Bool.not_eq_eq_eq_not, decide_eq_false_iff_not, and_self, and_true, true_and, and_false, false_and, or_true, true_or, or_false, false_or, or_self, Int.reduceLE, Int.reduceLT, Int.reduceNeg, Int.reduceAdd, Int.reduceSub, Int.reduceMul, Int.reduceDiv, Int.reduceMod, Int.reduceEq, Int.reduceToNat, Nat.reduceEqDiff, frz_zero, frz_succ, gT_tup, gT_ktp, gC_ap, gE_nil, cast_0, cast_1, cast_2, cast_3, cast_4, cast_5, cast_6, cast_7, cast_8, cast_9, ty_bs, ty_is, frz_zeroV, oOfR_o, ap_lenO, ap_ixO, tOf_some, pOf_fn, ap_P, ap_iZT, itZT_ok, zipD_cons, zipD_nil, str_i, sq_set, oOfS_o, set_ints, thenW_nx, thenW_ct, thenW_bk, thenW_rt, thenW_exc, at_ok, at_bad, at_exc, at_bind, at_ite, atS_nx, atS_rt, atS_ite, atS_ofE, atS_then, at_endV, endP_v, endP_o, ix_m, len_m, ap_MM, isCL_m, pop0_m, mapp_m, ap_cell, sq_mset, setM_m, byte_ok h he, show ¬ 128 ≤ c by omega]
theorem idx_2end {F : List Int} {p e : Nat} {c : Int} (h : F[p]? = some c) (he : p < e) (h1 : 128 ≤ c) (h2 : c < 256) (h3 : e ≤ p + 1) : m_read_index [.lst (dI F), .int (p : Int), .int (e : Int)] = .exc 1001 (X "unexpected end" e) := by
  have t2 : ∀ x3 x4 x5 : Sl, tg [.val (.lst (dI F)), .val (.int (p + 1 : Nat)), .val (.int (e : Int)), x3, x4, x5] = .exc 1001 (X "unexpected end" e) := fun x3 x4 x5 => by
    simp only [bind_ok, bind_exc, bind_bad, ofE_ok, ofE_exc, vOf_v, ap_C, ap_V, ap_nil, ap_cons, ap_U, ap_B, ap_chain, ap_and, ap_or, ap_tup, ap_F, ap_M, ap_sl, ap_pN, ap_pS, ap_L, ap_tE, ap_tAn, ap_tO, ap_tN, ap_tY, ap_if, ap_lD, ap_lF, ap_lCat, catL_ok, ap_lRep, repL_ok, ap_lSl, slL_lst, slL_scr, ap_iD, itL_lst, itL_scr, ap_iT, itT_tup, itT_ktp, ap_iS, itS_str, ap_iR1, itR1_ok, add_i, add_s, add_l, addX_i, addX_s, sub_i, mul_i, div_i, mod_i, pow_i, shl_i, shr_i, and_i, or_i, xor_i, neg_i, not_b, lt_i, le_i, gt_i, ge_i, eq_i, eq_s, ne_i, ne_s, is_non, is_int, is_str, is_tup, is_lst, isnt_non, isnt_int, isnt_str, isnt_tup, toBl_b, toIn_i, ix_s, ix_l, ix_r, ix_t, ix_k, sl_s, sl_l, sl_r, sl_t, len_s, len_l, len_r, len_t, len_k, int_i, int_b, abs_i, min_i, max_i, tup_l, tup_t, list_l, list_r, list_t, isi_i, isi_b, isi_s, isi_l, isi_t, isi_n, ty_ii, ty_bi, ty_ss, ty_ll, ty_tt, ty_tl, ty_lt, ty_tn, find_s, lower_s, sq_nx, sq_sq, sq_a, sq_o, sq_x, sq_if, sq_ret, sq_retL, oOf_o, sq_retO, sq_app, lstK_l, sq_ext, sq_aug, sq_g, sq_frz, sq_br, sq_ct, sq_raise, ofG_some, nx_ap, thenS_nx, thenS_rt, thenS_exc, sq_for, sq_wh, endV_v, endV_o, endV_n, endV_x, endL_o, endL_x, gN_ap, List.getElem?_cons_zero, List.getElem?_cons_succ, List.set_cons_zero, List.set_cons_succ, List.length_cons, List.length_nil, decide_eq_true_eq, Bool.not_eq_true, reduceIte, Bool.false_eq_true, decide_true, decide_false, Nat.reduceAdd, Nat.reduceLeDiff, Nat.reduceLT, Bool.not_true, Bool.not_false, List.nil_append, List.cons_append, List.map_cons, List.map_nil, List.replicate_succ, List.replicate_zero, Bool.not_eq_eq_eq_not, decide_eq_false_iff_not, and_self, and_true, true_and, and_false, false_and, or_true, true_or, or_false, false_or, or_self, Int.reduceLE, Int.reduceLT, Int.reduceNeg, Int.reduceAdd, Int.reduceSub, Int.reduceMul, Int.reduceDiv, Int.reduceMod, Int.reduceEq, Int.reduceToNat, Nat.reduceEqDiff, frz_zero, frz_succ, gT_tup, gT_ktp, gC_ap, gE_nil, cast_0, cast_1, cast_2, cast_3, cast_4, cast_5, cast_6, cast_7, cast_8, cast_9, ty_bs, ty_is, frz_zeroV, oOfR_o, ap_lenO, ap_ixO, tOf_some, pOf_fn, ap_P, ap_iZT, itZT_ok, zipD_cons, zipD_nil, str_i, sq_set, oOfS_o, set_ints, thenW_nx, thenW_ct, thenW_bk, thenW_rt, thenW_exc, at_ok, at_bad, at_exc, at_bind, at_ite, atS_nx, atS_rt, atS_ite, atS_ofE, atS_then, at_endV, endP_v, endP_o, ix_m, len_m, ap_MM, isCL_m, pop0_m, mapp_m, ap_cell, sq_mset, setM_m, byte_end (F := F) h3]
  have w : whGo tg b_read_groups_1 100000 [.val (.lst (dI F)), .val (.int (p : Int)), .val (.int (e : Int)), .val (.int 32), .val (.int 0), .val (.int 0)] = .exc 1001 (X "unexpected end" e) [.val (.lst (dI F)), .val (.int (p + 1 : Nat)), .val (.int (e : Int)), .val (.int 25), .val (.int (c - 128)), .val (.int 7)] :=
    (whGo_succ (n := 99999) (tg_true h he h1 _ _ _)).trans (by rw [if_pos rfl, grp_step h he h1 h2, thenW_nx]; exact whGo_exc (n := 99998) (t2 _ _ _))
  have g : m_read_groups [.lst (dI F), .int (p : Int), .int (e : Int), .int 32] = .exc 1001 (X "unexpected end" e) := by
    rw [e_read_groups]
    unfold b_read_groups
    simp only [bind_ok, bind_exc, bind_bad, ofE_ok, ofE_exc, vOf_v, ap_C, ap_V, ap_nil, ap_cons, ap_U, ap_B, ap_chain, ap_and, ap_or, ap_tup, ap_F, ap_M, ap_sl, ap_pN, ap_pS, ap_L, ap_tE, ap_tAn, ap_tO, ap_tN, ap_tY, ap_if, ap_lD, ap_lF, ap_lCat, catL_ok, ap_lRep, repL_ok, ap_lSl, slL_lst, slL_scr, ap_iD, itL_lst, itL_scr, ap_iT, itT_tup, itT_ktp, ap_iS, itS_str, ap_iR1, itR1_ok, add_i, add_s, add_l, addX_i, addX_s, sub_i, mul_i, div_i, mod_i, pow_i, shl_i, shr_i, and_i, or_i, xor_i, neg_i, not_b, lt_i, le_i, gt_i, ge_i, eq_i, eq_s, ne_i, ne_s, is_non, is_int, is_str, is_tup, is_lst, isnt_non, isnt_int, isnt_str, isnt_tup, toBl_b, toIn_i, ix_s, ix_l, ix_r, ix_t, ix_k, sl_s, sl_l, sl_r, sl_t, len_s, len_l, len_r, len_t, len_k, int_i, int_b, abs_i, min_i, max_i, tup_l, tup_t, list_l, list_r, list_t, isi_i, isi_b, isi_s, isi_l, isi_t, isi_n, ty_ii, ty_bi, ty_ss, ty_ll, ty_tt, ty_tl, ty_lt, ty_tn, find_s, lower_s, sq_nx, sq_sq, sq_a, sq_o, sq_x, sq_if, sq_ret, sq_retL, oOf_o, sq_retO, sq_app, lstK_l, sq_ext, sq_aug, sq_g, sq_frz, sq_br, sq_ct, sq_raise, ofG_some, nx_ap, thenS_nx, thenS_rt, thenS_exc, sq_for, sq_wh, endV_v, endV_o, endV_n, endV_x, endL_o, endL_x, gN_ap, List.getElem?_cons_zero, List.getElem?_cons_succ, List.set_cons_zero, List.set_cons_succ, List.length_cons, List.length_nil, decide_eq_true_eq, Bool.not_eq_true, reduceIte, Bool.false_eq_true, decide_true, decide_false, Nat.reduceAdd, Nat.reduceLeDiff, Nat.reduceLT, Bool.not_true, Bool.not_false, List.nil_append, List.cons_append, List.map_cons, List.map_nil, List.replicate_succ, List.replicate_zero, Bool.not_eq_eq_eq_not, decide_eq_false_iff_not, and_self, and_true, true_and, and_false, false_and, or_true, true_or, or_false, false_or, or_self, Int.reduceLE, Int.reduceLT, Int.reduceNeg, Int.reduceAdd, Int.reduceSub, Int.reduceMul, Int.reduceDiv, Int.reduceMod, Int.reduceEq, Int.reduceToNat, Nat.reduceEqDiff, frz_zero, frz_succ, gT_tup, gT_ktp, gC_ap, gE_nil, cast_0, cast_1, cast_2, cast_3, cast_4, cast_5, cast_6, cast_7, cast_8, cast_9, ty_bs, ty_is, frz_zeroV, oOfR_o, ap_lenO, ap_ixO, tOf_some, pOf_fn, ap_P, ap_iZT, itZT_ok, zipD_cons, zipD_nil, str_i, sq_set, oOfS_o, set_ints, thenW_nx, thenW_ct, thenW_bk, thenW_rt, thenW_exc, at_ok, at_bad, at_exc, at_bind, at_ite, atS_nx, atS_rt, atS_ite, atS_ofE, atS_then, at_endV, endP_v, endP_o, ix_m, len_m, ap_MM, isCL_m, pop0_m, mapp_m, ap_cell, sq_mset, setM_m, w]
  rw [e_read_index]
  unfold b_read_index
  simp only [bind_ok, bind_exc, bind_bad, ofE_ok, ofE_exc, vOf_v, ap_C, ap_V, ap_nil, ap_cons, ap_U, ap_B, ap_chain, ap_and, ap_or, ap_tup, ap_F, ap_M, ap_sl, ap_pN, ap_pS, ap_L, ap_tE, ap_tAn, ap_tO, ap_tN, ap_tY, ap_if, ap_lD, ap_lF, ap_lCat, catL_ok, ap_lRep, repL_ok, ap_lSl, slL_lst, slL_scr, ap_iD, itL_lst, itL_scr, ap_iT, itT_tup, itT_ktp, ap_iS, itS_str, ap_iR1, itR1_ok, add_i, add_s, add_l, addX_i, addX_s, sub_i, mul_i, div_i, mod_i, pow_i, shl_i, shr_i, and_i, or_i, xor_i, neg_i, not_b, lt_i, le_i, gt_i, ge_i, eq_i, eq_s, ne_i, ne_s, is_non, is_int, is_str, is_tup, is_lst, isnt_non, isnt_int, isnt_str, isnt_tup, toBl_b, toIn_i, ix_s, ix_l, ix_r, ix_t, ix_k, sl_s, sl_l, sl_r, sl_t, len_s, len_l, len_r, len_t, len_k, int_i, int_b, abs_i, min_i, max_i, tup_l, tup_t, list_l, list_r, list_t, isi_i, isi_b, isi_s, isi_l, isi_t, isi_n, ty_ii, ty_bi, ty_ss, ty_ll, ty_tt, ty_tl, ty_lt, ty_tn, find_s, lower_s, sq_nx, sq_sq, sq_a, sq_o, sq_x, sq_if, sq_ret, sq_retL, oOf_o, sq_retO, sq_app, lstK_l, sq_ext, sq_aug, sq_g, sq_frz, sq_br, sq_ct, sq_raise, ofG_some, nx_ap, thenS_nx, thenS_rt, thenS_exc, sq_for, sq_wh, endV_v, endV_o, endV_n, endV_x, endL_o, endL_x, gN_ap, List.getElem?_cons_zero, List.getElem?_cons_succ, List.set_cons_zero, List.set_cons_succ, List.length_cons, List.length_nil, decide_eq_true_eq, Bool.not_eq_true, reduceIte, Bool.false_eq_true, decide_true, decide_false, Nat.reduceAdd, Nat.reduceLeDiff, Nat.reduceLT, Bool.not_true, Bool.not_false, List.nil_append, List.cons_append, List.map_cons, List.map_nil, List.replicate_succ, List.replicate_zero, Bool.not_eq_eq_eq_not, decide_eq_false_iff_not, and_self, and_true, true_and, and_false, false_and, or_true, true_or, or_false, false_or, or_self, Int.reduceLE, Int.reduceLT, Int.reduceNeg, Int.reduceAdd, Int.reduceSub, Int.reduceMul, Int.reduceDiv, Int.reduceMod, Int.reduceEq, Int.reduceToNat, Nat.reduceEqDiff, frz_zero, frz_succ, gT_tup, gT_ktp, gC_ap, gE_nil, cast_0, cast_1, cast_2, cast_3, cast_4, cast_5, cast_6, cast_7, cast_8, cast_9, ty_bs, ty_is, frz_zeroV, oOfR_o, ap_lenO, ap_ixO, tOf_some, pOf_fn, ap_P, ap_iZT, itZT_ok, zipD_cons, zipD_nil, str_i, sq_set, oOfS_o, set_ints, thenW_nx, thenW_ct, thenW_bk, thenW_rt, thenW_exc, at_ok, at_bad, at_exc, at_bind, at_ite, atS_nx, atS_rt, atS_ite, atS_ofE, atS_then, at_endV, endP_v, endP_o, ix_m, len_m, ap_MM, isCL_m, pop0_m, mapp_m, ap_cell, sq_mset, setM_m, show m_read_unsigned [.lst (dI F), .int (p : Int), .int (e : Int), .int 32] = .exc 1001 (X "unexpected end" e) by rw [e_read_unsigned]; unfold b_read_unsigned; simp only [bind_ok, bind_exc, bind_bad, ofE_ok, ofE_exc, vOf_v, ap_C, ap_V, ap_nil, ap_cons, ap_U, ap_B, ap_chain, ap_and, ap_or, ap_tup, ap_F, ap_M, ap_sl, ap_pN, ap_pS, ap_L, ap_tE, ap_tAn, ap_tO, ap_tN, ap_tY, ap_if, ap_lD, ap_lF, ap_lCat, catL_ok, ap_lRep, repL_ok, ap_lSl, slL_lst, slL_scr, ap_iD, itL_lst, itL_scr, ap_iT, itT_tup, itT_ktp, ap_iS, itS_str, ap_iR1, itR1_ok, add_i, add_s, add_l, addX_i, addX_s, sub_i, mul_i, div_i, mod_i, pow_i, shl_i, shr_i, and_i, or_i, xor_i, neg_i, not_b, lt_i, le_i, gt_i, ge_i, eq_i, eq_s, ne_i, ne_s, is_non, is_int, is_str, is_tup, is_lst, isnt_non, isnt_int, isnt_str, isnt_tup, toBl_b, toIn_i, ix_s, ix_l, ix_r, ix_t, ix_k, sl_s, sl_l, sl_r, sl_t, len_s, len_l, len_r, len_t, len_k, int_i, int_b, abs_i, min_i, max_i, tup_l, tup_t, list_l, list_r, list_t, isi_i, isi_b, isi_s, isi_l, isi_t, isi_n, ty_ii, ty_bi, ty_ss, ty_ll, ty_tt, ty_tl, ty_lt, ty_tn, find_s, lower_s, sq_nx, sq_sq, sq_a, sq_o, sq_x, sq_if, sq_ret, sq_retL, oOf_o, sq_retO, sq_app, lstK_l, sq_ext, sq_aug, sq_g, sq_frz, sq_br, sq_ct, sq_raise, ofG_some, nx_ap, thenS_nx, thenS_rt, thenS_exc, sq_for, sq_wh, endV_v, endV_o, endV_n, endV_x, endL_o, endL_x, gN_ap, List.getElem?_cons_zero, List.getElem?_cons_succ, List.set_cons_zero, List.set_cons_succ, List.length_cons, List.length_nil, decide_eq_true_eq, Bool.not_eq_true, reduceIte, Bool.false_eq_true, decide_true, decide_false, Nat.reduceAdd, Nat.reduceLeDiff, Nat.reduceLT, Bool.not_true, Bool.not_false, List.nil_append, List.cons_append, List.map_cons, List.map_nil, List.replicate_succ, List.replicate_zero, Bool.not_eq_eq_eq_not, decide_eq_false_iff_not, and_self, and_true, true_and, and_false, false_and, or_true, true_or, or_false, false_or, or_self, Int.reduceLE, Int.reduceLT, Int.reduceNeg, Int.reduceAdd, Int.reduceSub, Int.reduceMul, Int.reduceDiv, Int.reduceMod, Int.reduceEq, Int.reduceToNat, Nat.reduceEqDiff, frz_zero, frz_succ, gT_tup, gT_ktp, gC_ap, gE_nil, cast_0, cast_1, cast_2, cast_3, cast_4, cast_5, cast_6, cast_7, cast_8, cast_9, ty_bs, ty_is, frz_zeroV, oOfR_o, ap_lenO, ap_ixO, tOf_some, pOf_fn, ap_P, ap_iZT, itZT_ok, zipD_cons, zipD_nil, str_i, sq_set, oOfS_o, set_ints, thenW_nx, thenW_ct, thenW_bk, thenW_rt, thenW_exc, at_ok, at_bad, at_exc, at_bind, at_ite, atS_nx, atS_rt, atS_ite, atS_ofE, atS_then, at_endV, endP_v, endP_o, ix_m, len_m, ap_MM, isCL_m, pop0_m, mapp_m, ap_cell, sq_mset, setM_m, g]]
theorem idx_2 {F : List Int} {p e : Nat} {c d : Int} (h : F[p]? = some c) (hd : F[p + 1]? = some d) (he : p + 1 < e) (h1 : 128 ≤ c) (h2 : c < 256) (h3 : 0 ≤ d) (h4 : d < 128) : m_read_index [.lst (dI F), .int (p : Int), .int (e : Int)] = .ok (.tup [.int (c - 128 + 128 * d), .int (p + 2 : Nat)]) := by
  have w : whGo tg b_read_groups_1 100000 [.val (.lst (dI F)), .val (.int (p : Int)), .val (.int (e : Int)), .val (.int 32), .val (.int 0), .val (.int 0)] = .nx [.val (.lst (dI F)), .val (.int (p + 1 : Nat)), .val (.int (e : Int)), .val (.int 25), .val (.int (c - 128)), .val (.int 7)] :=
    (whGo_succ (n := 99999) (tg_true h (by omega) h1 _ _ _)).trans (by rw [if_pos rfl, grp_step h (by omega) h1 h2, thenW_nx]; exact (whGo_succ (n := 99998) (tg_false hd he h4 _ _ _)).trans (if_neg Bool.false_ne_true))
  have g : m_read_groups [.lst (dI F), .int (p : Int), .int (e : Int), .int 32] = .ok (.tup [.int (c - 128), .int 7, .int 25, .int (p + 1 : Nat)]) := by
    rw [e_read_groups]
    unfold b_read_groups
    simp only [bind_ok, bind_exc, bind_bad, ofE_ok, ofE_exc, vOf_v, ap_C, ap_V, ap_nil, ap_cons, ap_U, ap_B, ap_chain, ap_and, ap_or, ap_tup, ap_F, ap_M, ap_sl, ap_pN, ap_pS, ap_L, ap_tE, ap_tAn, ap_tO, ap_tN, ap_tY, ap_if, ap_lD, ap_lF, ap_lCat, catL_ok, ap_lRep, repL_ok, ap_lSl, slL_lst, slL_scr, ap_iD, itL_lst, itL_scr, ap_iT, itT_tup, itT_ktp, ap_iS, itS_str, ap_iR1, itR1_ok, add_i, add_s, add_l, addX_i, addX_s, sub_i, mul_i, div_i, mod_i, pow_i, shl_i, shr_i, and_i, or_i, xor_i, neg_i, not_b, lt_i, le_i, gt_i, ge_i, eq_i, eq_s, ne_i, ne_s, is_non, is_int, is_str, is_tup, is_lst, isnt_non, isnt_int, isnt_str, isnt_tup, toBl_b, toIn_i, ix_s, ix_l, ix_r, ix_t, ix_k, sl_s, sl_l, sl_r, sl_t, len_s, len_l, len_r, len_t, len_k, int_i, int_b, abs_i, min_i, max_i, tup_l, tup_t, list_l, list_r, list_t, isi_i, isi_b, isi_s, isi_l, isi_t, isi_n, ty_ii, ty_bi, ty_ss, ty_ll, ty_tt, ty_tl, ty_lt, ty_tn, find_s, lower_s, sq_nx, sq_sq, sq_a, sq_o, sq_x, sq_if, sq_ret, sq_retL, oOf_o, sq_retO, sq_app, lstK_l, sq_ext, sq_aug, sq_g, sq_frz, sq_br, sq_ct, sq_raise, ofG_some, nx_ap, thenS_nx, thenS_rt, thenS_exc, sq_for, sq_wh, endV_v, endV_o, endV_n, endV_x, endL_o, endL_x, gN_ap, List.getElem?_cons_zero, List.getElem?_cons_succ, List.set_cons_zero, List.set_cons_succ, List.length_cons, List.length_nil, decide_eq_true_eq, Bool.not_eq_true, reduceIte, Bool.false_eq_true, decide_true, decide_false, Nat.reduceAdd, Nat.reduceLeDiff, Nat.reduceLT, Bool.not_true, Bool.not_false, List.nil_append, List.cons_append, List.map_cons, List.map_nil, List.replicate_succ, List.replicate_zero, Bool.not_eq_eq_eq_not, decide_eq_false_iff_not, and_self, and_true, true_and, and_false, false_and, or_true, true_or, or_false, false_or, or_self, Int.reduceLE, Int.reduceLT, Int.reduceNeg, Int.reduceAdd, Int.reduceSub, Int.reduceMul, Int.reduceDiv, Int.reduceMod, Int.reduceEq, Int.reduceToNat, Nat.reduceEqDiff, frz_zero, frz_succ, gT_tup, gT_ktp, gC_ap, gE_nil, cast_0, cast_1, cast_2, cast_3, cast_4, cast_5, cast_6, cast_7, cast_8, cast_9, ty_bs, ty_is, frz_zeroV, oOfR_o, ap_lenO, ap_ixO, tOf_some, pOf_fn, ap_P, ap_iZT, itZT_ok, zipD_cons, zipD_nil, str_i, sq_set, oOfS_o, set_ints, thenW_nx, thenW_ct, thenW_bk, thenW_rt, thenW_exc, at_ok, at_bad, at_exc, at_bind, at_ite, atS_nx, atS_rt, atS_ite, atS_ofE, atS_then, at_endV, endP_v, endP_o, ix_m, len_m, ap_MM, isCL_m, pop0_m, mapp_m, ap_cell, sq_mset, setM_m, w]
  have cp : CPow d 7 := ⟨by decide, by decide, by omega⟩
  have e7 : d * 2 ^ (7 : Int).toNat = 128 * d := by rw [show (7 : Int).toNat = 7 from rfl]; omega
  have ru : ∀ p1 : Nat, p1 = p + 1 → m_read_unsigned [.lst (dI F), .int (p : Int), .int (e : Int), .int 32] = .ok (.tup [.int (c - 128 + 128 * d), .int (p1 + 1 : Nat)]) := fun p1 hp => by
    rw [← hp] at g hd
    rw [e_read_unsigned]
    unfold b_read_unsigned
    simp only [bind_ok, bind_exc, bind_bad, ofE_ok, ofE_exc, vOf_v, ap_C, ap_V, ap_nil, ap_cons, ap_U, ap_B, ap_chain, ap_and, ap_or, ap_tup, ap_F, ap_M, ap_sl, ap_pN, ap_pS, ap_L, ap_tE, ap_tAn, ap_tO, ap_tN, ap_tY, ap_if, ap_lD, ap_lF, ap_lCat, catL_ok, ap_lRep, repL_ok, ap_lSl, slL_lst, slL_scr, ap_iD, itL_lst, itL_scr, ap_iT, itT_tup, itT_ktp, ap_iS, itS_str, ap_iR1, itR1_ok, add_i, add_s, add_l, addX_i, addX_s, sub_i, mul_i, div_i, mod_i, pow_i, shl_i, shr_i, and_i, or_i, xor_i, neg_i, not_b, lt_i, le_i, gt_i, ge_i, eq_i, eq_s, ne_i, ne_s, is_non, is_int, is_str, is_tup, is_lst, isnt_non, isnt_int, isnt_str, isnt_tup, toBl_b, toIn_i, ix_s, ix_l, ix_r, ix_t, ix_k, sl_s, sl_l, sl_r, sl_t, len_s, len_l, len_r, len_t, len_k, int_i, int_b, abs_i, min_i, max_i, tup_l, tup_t, list_l, list_r, list_t, isi_i, isi_b, isi_s, isi_l, isi_t, isi_n, ty_ii, ty_bi, ty_ss, ty_ll, ty_tt, ty_tl, ty_lt, ty_tn, find_s, lower_s, sq_nx, sq_sq, sq_a, sq_o, sq_x, sq_if, sq_ret, sq_retL, oOf_o, sq_retO, sq_app, lstK_l, sq_ext, sq_aug, sq_g, sq_frz, sq_br, sq_ct, sq_raise, ofG_some, nx_ap, thenS_nx, thenS_rt, thenS_exc, sq_for, sq_wh, endV_v, endV_o, endV_n, endV_x, endL_o, endL_x, gN_ap, List.getElem?_cons_zero, List.getElem?_cons_succ, List.set_cons_zero, List.set_cons_succ, List.length_cons, List.length_nil, decide_eq_true_eq, Bool.not_eq_true, reduceIte, Bool.false_eq_true, decide_true, decide_false, Nat.reduceAdd, Nat.reduceLeDiff, Nat.reduceLT, Bool.not_true, Bool.not_false, List.nil_append, List.cons_append, List.map_cons, List.map_nil, List.replicate_succ, List.replicate_zero, Bool.not_eq_eq_eq_not, decide_eq_false_iff_not, and_self, and_true, true_and, and_false, false_and, or_true, true_or, or_false, false_or, or_self, Int.reduceLE, Int.reduceLT, Int.reduceNeg, Int.reduceAdd, Int.reduceSub, Int.reduceMul, Int.reduceDiv, Int.reduceMod, Int.reduceEq, Int.reduceToNat, Nat.reduceEqDiff, frz_zero, frz_succ, gT_tup, gT_ktp, gC_ap, gE_nil, cast_0, cast_1, cast_2, cast_3, cast_4, cast_5, cast_6, cast_7, cast_8, cast_9, ty_bs, ty_is, frz_zeroV, oOfR_o, ap_lenO, ap_ixO, tOf_some, pOf_fn, ap_P, ap_iZT, itZT_ok, zipD_cons, zipD_nil, str_i, sq_set, oOfS_o, set_ints, thenW_nx, thenW_ct, thenW_bk, thenW_rt, thenW_exc, at_ok, at_bad, at_exc, at_bind, at_ite, atS_nx, atS_rt, atS_ite, atS_ofE, atS_then, at_endV, endP_v, endP_o, ix_m, len_m, ap_MM, isCL_m, pop0_m, mapp_m, ap_cell, sq_mset, setM_m, g, ixL_get hd, cp, show d * 2 ^ 7 = 128 * d by omega]
    rfl
  have ru := ru (p + 1) rfl
  rw [e_read_index]
  unfold b_read_index
  simp only [bind_ok, bind_exc, bind_bad, ofE_ok, ofE_exc, vOf_v, ap_C, ap_V, ap_nil, ap_cons, ap_U, ap_B, ap_chain, ap_and, ap_or, ap_tup, ap_F, ap_M, ap_sl, ap_pN, ap_pS, ap_L, ap_tE, ap_tAn, ap_tO, ap_tN, ap_tY, ap_if, ap_lD, ap_lF, ap_lCat, catL_ok, ap_lRep, repL_ok, ap_lSl, slL_lst, slL_scr, ap_iD, itL_lst, itL_scr, ap_iT, itT_tup, itT_ktp, ap_iS, itS_str, ap_iR1, itR1_ok, add_i, add_s, add_l, addX_i, addX_s, sub_i, mul_i, div_i, mod_i, pow_i, shl_i, shr_i, and_i, or_i, xor_i, neg_i, not_b, lt_i, le_i, gt_i, ge_i, eq_i, eq_s, ne_i, ne_s, is_non, is_int, is_str, is_tup, is_lst, isnt_non, isnt_int, isnt_str, isnt_tup, toBl_b, toIn_i, ix_s, ix_l, ix_r, ix_t, ix_k, sl_s, sl_l, sl_r, sl_t, len_s, len_l, len_r, len_t, len_k, int_i, int_b, abs_i, min_i, max_i, tup_l, tup_t, list_l, list_r, list_t, isi_i, isi_b, isi_s, isi_l, isi_t, isi_n, ty_ii, ty_bi, ty_ss, ty_ll, ty_tt, ty_tl, ty_lt, ty_tn, find_s, lower_s, sq_nx, sq_sq, sq_a, sq_o, sq_x, sq_if, sq_ret, sq_retL, oOf_o, sq_retO, sq_app, lstK_l, sq_ext, sq_aug, sq_g, sq_frz, sq_br, sq_ct, sq_raise, ofG_some, nx_ap, thenS_nx, thenS_rt, thenS_exc, sq_for, sq_wh, endV_v, endV_o, endV_n, endV_x, endL_o, endL_x, gN_ap, List.getElem?_cons_zero, List.getElem?_cons_succ, List.set_cons_zero, List.set_cons_succ, List.length_cons, List.length_nil, decide_eq_true_eq, Bool.not_eq_true, reduceIte, Bool.false_eq_true, decide_true, decide_false, Nat.reduceAdd, Nat.reduceLeDiff, Nat.reduceLT, Bool.not_true, Bool.not_false, List.nil_append, List.cons_append, List.map_cons, List.map_nil, List.replicate_succ, List.replicate_zero, Bool.not_eq_eq_eq_not, decide_eq_false_iff_not, and_self, and_true, true_and, and_false, false_and, or_true, true_or, or_false, false_or, or_self, Int.reduceLE, Int.reduceLT, Int.reduceNeg, Int.reduceAdd, Int.reduceSub, Int.reduceMul, Int.reduceDiv, Int.reduceMod, Int.reduceEq, Int.reduceToNat, Nat.reduceEqDiff, frz_zero, frz_succ, gT_tup, gT_ktp, gC_ap, gE_nil, cast_0, cast_1, cast_2, cast_3, cast_4, cast_5, cast_6, cast_7, cast_8, cast_9, ty_bs, ty_is, frz_zeroV, oOfR_o, ap_lenO, ap_ixO, tOf_some, pOf_fn, ap_P, ap_iZT, itZT_ok, zipD_cons, zipD_nil, str_i, sq_set, oOfS_o, set_ints, thenW_nx, thenW_ct, thenW_bk, thenW_rt, thenW_exc, at_ok, at_bad, at_exc, at_bind, at_ite, atS_nx, atS_rt, atS_ite, atS_ofE, atS_then, at_endV, endP_v, endP_o, ix_m, len_m, ap_MM, isCL_m, pop0_m, mapp_m, ap_cell, sq_mset, setM_m, ru]
/-! the signs of a name -/
def scan (F : List Int) (e : Nat) : Nat → Nat → List Nat → Except (Str × Int) (List Nat)
  | 0, _, acc => .ok acc
  | n + 1, q, acc => if e ≤ q then .error ("unexpected end", (e : Int)) else if okc (F.getD q 0) then scan F e n (q + 1) (acc ++ [(F.getD q 0).toNat]) else .error ("invalid name character", (q : Int))
theorem get_of {F : List Int} {q : Nat} (h : q < F.length) : F[q]? = some (F.getD q 0) := by
  rw [List.getD_eq_getElem?_getD, List.getElem?_eq_getElem h]
  rfl
theorem rc_end {F : List Int} {q e : Nat} (h : e ≤ q) : m_read_character [.lst (dI F), .int (q : Int), .int (e : Int)] = .exc 1001 (X "unexpected end" e) := by
  rw [e_read_character]
  unfold b_read_character
  simp only [bind_ok, bind_exc, bind_bad, ofE_ok, ofE_exc, vOf_v, ap_C, ap_V, ap_nil, ap_cons, ap_U, ap_B, ap_chain, ap_and, ap_or, ap_tup, ap_F, ap_M, ap_sl, ap_pN, ap_pS, ap_L, ap_tE, ap_tAn, ap_tO, ap_tN, ap_tY, ap_if, ap_lD, ap_lF, ap_lCat, catL_ok, ap_lRep, repL_ok, ap_lSl, slL_lst, slL_scr, ap_iD, itL_lst, itL_scr, ap_iT, itT_tup, itT_ktp, ap_iS, itS_str, ap_iR1, itR1_ok, add_i, add_s, add_l, addX_i, addX_s, sub_i, mul_i, div_i, mod_i, pow_i, shl_i, shr_i, and_i, or_i, xor_i, neg_i, not_b, lt_i, le_i, gt_i, ge_i, eq_i, eq_s, ne_i, ne_s, is_non, is_int, is_str, is_tup, is_lst, isnt_non, isnt_int, isnt_str, isnt_tup, toBl_b, toIn_i, ix_s, ix_l, ix_r, ix_t, ix_k, sl_s, sl_l, sl_r, sl_t, len_s, len_l, len_r, len_t, len_k, int_i, int_b, abs_i, min_i, max_i, tup_l, tup_t, list_l, list_r, list_t, isi_i, isi_b, isi_s, isi_l, isi_t, isi_n, ty_ii, ty_bi, ty_ss, ty_ll, ty_tt, ty_tl, ty_lt, ty_tn, find_s, lower_s, sq_nx, sq_sq, sq_a, sq_o, sq_x, sq_if, sq_ret, sq_retL, oOf_o, sq_retO, sq_app, lstK_l, sq_ext, sq_aug, sq_g, sq_frz, sq_br, sq_ct, sq_raise, ofG_some, nx_ap, thenS_nx, thenS_rt, thenS_exc, sq_for, sq_wh, endV_v, endV_o, endV_n, endV_x, endL_o, endL_x, gN_ap, List.getElem?_cons_zero, List.getElem?_cons_succ, List.set_cons_zero, List.set_cons_succ, List.length_cons, List.length_nil, decide_eq_true_eq, Bool.not_eq_true, reduceIte, Bool.false_eq_true, decide_true, decide_false, Nat.reduceAdd, Nat.reduceLeDiff, Nat.reduceLT, Bool.not_true, Bool.not_false, List.nil_append, List.cons_append, List.map_cons, List.map_nil, List.replicate_succ, List.replicate_zero, Bool.not_eq_eq_eq_not, decide_eq_false_iff_not, and_self, and_true, true_and, and_false, false_and, or_true, true_or, or_false, false_or, or_self, Int.reduceLE, Int.reduceLT, Int.reduceNeg, Int.reduceAdd, Int.reduceSub, Int.reduceMul, Int.reduceDiv, Int.reduceMod, Int.reduceEq, Int.reduceToNat, Nat.reduceEqDiff, frz_zero, frz_succ, gT_tup, gT_ktp, gC_ap, gE_nil, cast_0, cast_1, cast_2, cast_3, cast_4, cast_5, cast_6, cast_7, cast_8, cast_9, ty_bs, ty_is, frz_zeroV, oOfR_o, ap_lenO, ap_ixO, tOf_some, pOf_fn, ap_P, ap_iZT, itZT_ok, zipD_cons, zipD_nil, str_i, sq_set, oOfS_o, set_ints, thenW_nx, thenW_ct, thenW_bk, thenW_rt, thenW_exc, at_ok, at_bad, at_exc, at_bind, at_ite, atS_nx, atS_rt, atS_ite, atS_ofE, atS_then, at_endV, endP_v, endP_o, ix_m, len_m, ap_MM, isCL_m, pop0_m, mapp_m, ap_cell, sq_mset, setM_m, byte_end (F := F) h]
theorem rc_ok {F : List Int} {q e : Nat} {c : Int} (h : F[q]? = some c) (he : q < e) (hc : okc c) : m_read_character [.lst (dI F), .int (q : Int), .int (e : Int)] = .ok (.tup [.str (tx [c.toNat]), .int (q + 1 : Nat)]) := by
  rw [e_read_character]
  unfold b_read_character
  simp only [bind_ok, bind_exc, bind_bad, ofE_ok, ofE_exc, vOf_v, ap_C, ap_V, ap_nil, ap_cons, ap_U, ap_B, ap_chain, ap_and, ap_or, ap_tup, ap_F, ap_M, ap_sl, ap_pN, ap_pS, ap_L, ap_tE, ap_tAn, ap_tO, ap_tN, ap_tY, ap_if, ap_lD, ap_lF, ap_lCat, catL_ok, ap_lRep, repL_ok, ap_lSl, slL_lst, slL_scr, ap_iD, itL_lst, itL_scr, ap_iT, itT_tup, itT_ktp, ap_iS, itS_str, ap_iR1, itR1_ok, add_i, add_s, add_l, addX_i, addX_s, sub_i, mul_i, div_i, mod_i, pow_i, shl_i, shr_i, and_i, or_i, xor_i, neg_i, not_b, lt_i, le_i, gt_i, ge_i, eq_i, eq_s, ne_i, ne_s, is_non, is_int, is_str, is_tup, is_lst, isnt_non, isnt_int, isnt_str, isnt_tup, toBl_b, toIn_i, ix_s, ix_l, ix_r, ix_t, ix_k, sl_s, sl_l, sl_r, sl_t, len_s, len_l, len_r, len_t, len_k, int_i, int_b, abs_i, min_i, max_i, tup_l, tup_t, list_l, list_r, list_t, isi_i, isi_b, isi_s, isi_l, isi_t, isi_n, ty_ii, ty_bi, ty_ss, ty_ll, ty_tt, ty_tl, ty_lt, ty_tn, find_s, lower_s, sq_nx, sq_sq, sq_a, sq_o, sq_x, sq_if, sq_ret, sq_retL, oOf_o, sq_retO, sq_app, lstK_l, sq_ext, sq_aug, sq_g, sq_frz, sq_br, sq_ct, sq_raise, ofG_some, nx_ap, thenS_nx, thenS_rt, thenS_exc, sq_for, sq_wh, endV_v, endV_o, endV_n, endV_x, endL_o, endL_x, gN_ap, List.getElem?_cons_zero, List.getElem?_cons_succ, List.set_cons_zero, List.set_cons_succ, List.length_cons, List.length_nil, decide_eq_true_eq, Bool.not_eq_true, reduceIte, Bool.false_eq_true, decide_true, decide_false, Nat.reduceAdd, Nat.reduceLeDiff, Nat.reduceLT, Bool.not_true, Bool.not_false, List.nil_append, List.cons_append, List.map_cons, List.map_nil, List.replicate_succ, List.replicate_zero, Bool.not_eq_eq_eq_not, decide_eq_false_iff_not, and_self, and_true, true_and, and_false, false_and, or_true, true_or, or_false, false_or, or_self, Int.reduceLE, Int.reduceLT, Int.reduceNeg, Int.reduceAdd, Int.reduceSub, Int.reduceMul, Int.reduceDiv, Int.reduceMod, Int.reduceEq, Int.reduceToNat, Nat.reduceEqDiff, frz_zero, frz_succ, gT_tup, gT_ktp, gC_ap, gE_nil, cast_0, cast_1, cast_2, cast_3, cast_4, cast_5, cast_6, cast_7, cast_8, cast_9, ty_bs, ty_is, frz_zeroV, oOfR_o, ap_lenO, ap_ixO, tOf_some, pOf_fn, ap_P, ap_iZT, itZT_ok, zipD_cons, zipD_nil, str_i, sq_set, oOfS_o, set_ints, thenW_nx, thenW_ct, thenW_bk, thenW_rt, thenW_exc, at_ok, at_bad, at_exc, at_bind, at_ite, atS_nx, atS_rt, atS_ite, atS_ofE, atS_then, at_endV, endP_v, endP_o, ix_m, len_m, ap_MM, isCL_m, pop0_m, mapp_m, ap_cell, sq_mset, setM_m, byte_ok h he, character_ok, if_pos hc, show dIs (.str (tx [c.toNat])) .non = .ok (.bl false) from rfl]
  rfl
theorem rc_bad {F : List Int} {q e : Nat} {c : Int} (h : F[q]? = some c) (he : q < e) (hc : ¬ okc c) : m_read_character [.lst (dI F), .int (q : Int), .int (e : Int)] = .exc 1001 (X "invalid name character" q) := by
  rw [e_read_character]
  unfold b_read_character
  simp only [bind_ok, bind_exc, bind_bad, ofE_ok, ofE_exc, vOf_v, ap_C, ap_V, ap_nil, ap_cons, ap_U, ap_B, ap_chain, ap_and, ap_or, ap_tup, ap_F, ap_M, ap_sl, ap_pN, ap_pS, ap_L, ap_tE, ap_tAn, ap_tO, ap_tN, ap_tY, ap_if, ap_lD, ap_lF, ap_lCat, catL_ok, ap_lRep, repL_ok, ap_lSl, slL_lst, slL_scr, ap_iD, itL_lst, itL_scr, ap_iT, itT_tup, itT_ktp, ap_iS, itS_str, ap_iR1, itR1_ok, add_i, add_s, add_l, addX_i, addX_s, sub_i, mul_i, div_i, mod_i, pow_i, shl_i, shr_i, and_i, or_i, xor_i, neg_i, not_b, lt_i, le_i, gt_i, ge_i, eq_i, eq_s, ne_i, ne_s, is_non, is_int, is_str, is_tup, is_lst, isnt_non, isnt_int, isnt_str, isnt_tup, toBl_b, toIn_i, ix_s, ix_l, ix_r, ix_t, ix_k, sl_s, sl_l, sl_r, sl_t, len_s, len_l, len_r, len_t, len_k, int_i, int_b, abs_i, min_i, max_i, tup_l, tup_t, list_l, list_r, list_t, isi_i, isi_b, isi_s, isi_l, isi_t, isi_n, ty_ii, ty_bi, ty_ss, ty_ll, ty_tt, ty_tl, ty_lt, ty_tn, find_s, lower_s, sq_nx, sq_sq, sq_a, sq_o, sq_x, sq_if, sq_ret, sq_retL, oOf_o, sq_retO, sq_app, lstK_l, sq_ext, sq_aug, sq_g, sq_frz, sq_br, sq_ct, sq_raise, ofG_some, nx_ap, thenS_nx, thenS_rt, thenS_exc, sq_for, sq_wh, endV_v, endV_o, endV_n, endV_x, endL_o, endL_x, gN_ap, List.getElem?_cons_zero, List.getElem?_cons_succ, List.set_cons_zero, List.set_cons_succ, List.length_cons, List.length_nil, decide_eq_true_eq, Bool.not_eq_true, reduceIte, Bool.false_eq_true, decide_true, decide_false, Nat.reduceAdd, Nat.reduceLeDiff, Nat.reduceLT, Bool.not_true, Bool.not_false, List.nil_append, List.cons_append, List.map_cons, List.map_nil, List.replicate_succ, List.replicate_zero, Bool.not_eq_eq_eq_not, decide_eq_false_iff_not, and_self, and_true, true_and, and_false, false_and, or_true, true_or, or_false, false_or, or_self, Int.reduceLE, Int.reduceLT, Int.reduceNeg, Int.reduceAdd, Int.reduceSub, Int.reduceMul, Int.reduceDiv, Int.reduceMod, Int.reduceEq, Int.reduceToNat, Nat.reduceEqDiff, frz_zero, frz_succ, gT_tup, gT_ktp, gC_ap, gE_nil, cast_0, cast_1, cast_2, cast_3, cast_4, cast_5, cast_6, cast_7, cast_8, cast_9, ty_bs, ty_is, frz_zeroV, oOfR_o, ap_lenO, ap_ixO, tOf_some, pOf_fn, ap_P, ap_iZT, itZT_ok, zipD_cons, zipD_nil, str_i, sq_set, oOfS_o, set_ints, thenW_nx, thenW_ct, thenW_bk, thenW_rt, thenW_exc, at_ok, at_bad, at_exc, at_bind, at_ite, atS_nx, atS_rt, atS_ite, atS_ofE, atS_then, at_endV, endP_v, endP_o, ix_m, len_m, ap_MM, isCL_m, pop0_m, mapp_m, ap_cell, sq_mset, setM_m, byte_ok h he, character_ok, if_neg hc]
  rfl
abbrev sg (cs : List Nat) : List D := dS (cs.map fun c => tx [c])
theorem sg_app (cs : List Nat) (c : Nat) : sg cs ++ [.str (tx [c])] = sg (cs ++ [c]) := by rw [sg, sg, dS, dS, List.map_append, List.map_append] <;> rfl
theorem items_scan {F : List Int} {e : Nat} (hF : e ≤ F.length) (cnt : Sl) : ∀ (ds : List D) (q : Nat) (acc : List Nat) (s6 s7 : Sl), acc.length + ds.length ≤ 1000 →
    (∃ r t6 t7, scan F e ds.length q acc = .ok r ∧ forGo (gN 6) b_read_items_1 ds [.val (.lst (dI F)), .val (.int (q : Int)), .val (.int (e : Int)), cnt, .val (.fn 7), .own (sg acc), s6, s7] = .nx [.val (.lst (dI F)), .val (.int (q + ds.length : Nat)), .val (.int (e : Int)), cnt, .val (.fn 7), .own (sg r), t6, t7]) ∨
    ∃ w p env, scan F e ds.length q acc = .error (w, p) ∧ forGo (gN 6) b_read_items_1 ds [.val (.lst (dI F)), .val (.int (q : Int)), .val (.int (e : Int)), cnt, .val (.fn 7), .own (sg acc), s6, s7] = .exc 1001 (X w p) env
  | [], q, acc, s6, s7, _ => Or.inl ⟨acc, s6, s7, rfl, rfl⟩
  | d :: ds, q, acc, s6, s7, hl => by
    rw [List.length_cons] at hl
    have tb : tb_ITEMS 7 = some m_read_character := rfl
    rw [forGo_cons gN_ap, List.length_cons]
    unfold scan
    by_cases h : e ≤ q
    · rw [if_pos h]
      refine Or.inr ⟨_, _, [.val (.lst (dI F)), .val (.int (q : Int)), .val (.int (e : Int)), cnt, .val (.fn 7), .own (sg acc), .val d, s7], rfl, ?_⟩
      have e1 : b_read_items_1 [.val (.lst (dI F)), .val (.int (q : Int)), .val (.int (e : Int)), cnt, .val (.fn 7), .own (sg acc), .val d, s7] = .exc 1001 (X "unexpected end" e) [.val (.lst (dI F)), .val (.int (q : Int)), .val (.int (e : Int)), cnt, .val (.fn 7), .own (sg acc), .val d, s7] := by
        unfold b_read_items_1
        simp only [bind_ok, bind_exc, bind_bad, ofE_ok, ofE_exc, vOf_v, ap_C, ap_V, ap_nil, ap_cons, ap_U, ap_B, ap_chain, ap_and, ap_or, ap_tup, ap_F, ap_M, ap_sl, ap_pN, ap_pS, ap_L, ap_tE, ap_tAn, ap_tO, ap_tN, ap_tY, ap_if, ap_lD, ap_lF, ap_lCat, catL_ok, ap_lRep, repL_ok, ap_lSl, slL_lst, slL_scr, ap_iD, itL_lst, itL_scr, ap_iT, itT_tup, itT_ktp, ap_iS, itS_str, ap_iR1, itR1_ok, add_i, add_s, add_l, addX_i, addX_s, sub_i, mul_i, div_i, mod_i, pow_i, shl_i, shr_i, and_i, or_i, xor_i, neg_i, not_b, lt_i, le_i, gt_i, ge_i, eq_i, eq_s, ne_i, ne_s, is_non, is_int, is_str, is_tup, is_lst, isnt_non, isnt_int, isnt_str, isnt_tup, toBl_b, toIn_i, ix_s, ix_l, ix_r, ix_t, ix_k, sl_s, sl_l, sl_r, sl_t, len_s, len_l, len_r, len_t, len_k, int_i, int_b, abs_i, min_i, max_i, tup_l, tup_t, list_l, list_r, list_t, isi_i, isi_b, isi_s, isi_l, isi_t, isi_n, ty_ii, ty_bi, ty_ss, ty_ll, ty_tt, ty_tl, ty_lt, ty_tn, find_s, lower_s, sq_nx, sq_sq, sq_a, sq_o, sq_x, sq_if, sq_ret, sq_retL, oOf_o, sq_retO, sq_app, lstK_l, sq_ext, sq_aug, sq_g, sq_frz, sq_br, sq_ct, sq_raise, ofG_some, nx_ap, thenS_nx, thenS_rt, thenS_exc, sq_for, sq_wh, endV_v, endV_o, endV_n, endV_x, endL_o, endL_x, gN_ap, List.getElem?_cons_zero, List.getElem?_cons_succ, List.set_cons_zero, List.set_cons_succ, List.length_cons, List.length_nil, decide_eq_true_eq, Bool.not_eq_true, reduceIte, Bool.false_eq_true, decide_true, decide_false, Nat.reduceAdd, Nat.reduceLeDiff, Nat.reduceLT, Bool.not_true, Bool.not_false, List.nil_append, List.cons_append, List.map_cons, List.map_nil, List.replicate_succ, List.replicate_zero, Bool.not_eq_eq_eq_not, decide_eq_false_iff_not, and_self, and_true, true_and, and_false, false_and, or_true, true_or, or_false, false_or, or_self, Int.reduceLE, Int.reduceLT, Int.reduceNeg, Int.reduceAdd, Int.reduceSub, Int.reduceMul, Int.reduceDiv, Int.reduceMod, Int.reduceEq, Int.reduceToNat, Nat.reduceEqDiff, frz_zero, frz_succ, gT_tup, gT_ktp, gC_ap, gE_nil, cast_0, cast_1, cast_2, cast_3, cast_4, cast_5, cast_6, cast_7, cast_8, cast_9, ty_bs, ty_is, frz_zeroV, oOfR_o, ap_lenO, ap_ixO, tOf_some, pOf_fn, ap_P, ap_iZT, itZT_ok, zipD_cons, zipD_nil, str_i, sq_set, oOfS_o, set_ints, thenW_nx, thenW_ct, thenW_bk, thenW_rt, thenW_exc, at_ok, at_bad, at_exc, at_bind, at_ite, atS_nx, atS_rt, atS_ite, atS_ofE, atS_then, at_endV, endP_v, endP_o, ix_m, len_m, ap_MM, isCL_m, pop0_m, mapp_m, ap_cell, sq_mset, setM_m, tb, rc_end (F := F) h]
      simp only [bind_ok, bind_exc, bind_bad, ofE_ok, ofE_exc, vOf_v, ap_C, ap_V, ap_nil, ap_cons, ap_U, ap_B, ap_chain, ap_and, ap_or, ap_tup, ap_F, ap_M, ap_sl, ap_pN, ap_pS, ap_L, ap_tE, ap_tAn, ap_tO, ap_tN, ap_tY, ap_if, ap_lD, ap_lF, ap_lCat, catL_ok, ap_lRep, repL_ok, ap_lSl, slL_lst, slL_scr, ap_iD, itL_lst, itL_scr, ap_iT, itT_tup, itT_ktp, ap_iS, itS_str, ap_iR1, itR1_ok, add_i, add_s, add_l, addX_i, addX_s, sub_i, mul_i, div_i, mod_i, pow_i, shl_i, shr_i, and_i, or_i, xor_i, neg_i, not_b, lt_i, le_i, gt_i, ge_i, eq_i, eq_s, ne_i, ne_s, is_non, is_int, is_str, is_tup, is_lst, isnt_non, isnt_int, isnt_str, isnt_tup, toBl_b, toIn_i, ix_s, ix_l, ix_r, ix_t, ix_k, sl_s, sl_l, sl_r, sl_t, len_s, len_l, len_r, len_t, len_k, int_i, int_b, abs_i, min_i, max_i, tup_l, tup_t, list_l, list_r, list_t, isi_i, isi_b, isi_s, isi_l, isi_t, isi_n, ty_ii, ty_bi, ty_ss, ty_ll, ty_tt, ty_tl, ty_lt, ty_tn, find_s, lower_s, sq_nx, sq_sq, sq_a, sq_o, sq_x, sq_if, sq_ret, sq_retL, oOf_o, sq_retO, sq_app, lstK_l, sq_ext, sq_aug, sq_g, sq_frz, sq_br, sq_ct, sq_raise, ofG_some, nx_ap, thenS_nx, thenS_rt, thenS_exc, sq_for, sq_wh, endV_v, endV_o, endV_n, endV_x, endL_o, endL_x, gN_ap, List.getElem?_cons_zero, List.getElem?_cons_succ, List.set_cons_zero, List.set_cons_succ, List.length_cons, List.length_nil, decide_eq_true_eq, Bool.not_eq_true, reduceIte, Bool.false_eq_true, decide_true, decide_false, Nat.reduceAdd, Nat.reduceLeDiff, Nat.reduceLT, Bool.not_true, Bool.not_false, List.nil_append, List.cons_append, List.map_cons, List.map_nil, List.replicate_succ, List.replicate_zero, Bool.not_eq_eq_eq_not, decide_eq_false_iff_not, and_self, and_true, true_and, and_false, false_and, or_true, true_or, or_false, false_or, or_self, Int.reduceLE, Int.reduceLT, Int.reduceNeg, Int.reduceAdd, Int.reduceSub, Int.reduceMul, Int.reduceDiv, Int.reduceMod, Int.reduceEq, Int.reduceToNat, Nat.reduceEqDiff, frz_zero, frz_succ, gT_tup, gT_ktp, gC_ap, gE_nil, cast_0, cast_1, cast_2, cast_3, cast_4, cast_5, cast_6, cast_7, cast_8, cast_9, ty_bs, ty_is, frz_zeroV, oOfR_o, ap_lenO, ap_ixO, tOf_some, pOf_fn, ap_P, ap_iZT, itZT_ok, zipD_cons, zipD_nil, str_i, sq_set, oOfS_o, set_ints, thenW_nx, thenW_ct, thenW_bk, thenW_rt, thenW_exc, at_ok, at_bad, at_exc, at_bind, at_ite, atS_nx, atS_rt, atS_ite, atS_ofE, atS_then, at_endV, endP_v, endP_o, ix_m, len_m, ap_MM, isCL_m, pop0_m, mapp_m, ap_cell, sq_mset, setM_m, e1]
    · rw [if_neg h]
      have hq := get_of (F := F) (q := q) (by omega)
      by_cases hc : okc (F.getD q 0)
      · rw [if_pos hc]
        have e1 : b_read_items_1 [.val (.lst (dI F)), .val (.int (q : Int)), .val (.int (e : Int)), cnt, .val (.fn 7), .own (sg acc), .val d, s7] = .nx [.val (.lst (dI F)), .val (.int (q + 1 : Nat)), .val (.int (e : Int)), cnt, .val (.fn 7), .own (sg (acc ++ [(F.getD q 0).toNat])), .val d, .val (.str (tx [(F.getD q 0).toNat]))] := by
          unfold b_read_items_1
          simp only [bind_ok, bind_exc, bind_bad, ofE_ok, ofE_exc, vOf_v, ap_C, ap_V, ap_nil, ap_cons, ap_U, ap_B, ap_chain, ap_and, ap_or, ap_tup, ap_F, ap_M, ap_sl, ap_pN, ap_pS, ap_L, ap_tE, ap_tAn, ap_tO, ap_tN, ap_tY, ap_if, ap_lD, ap_lF, ap_lCat, catL_ok, ap_lRep, repL_ok, ap_lSl, slL_lst, slL_scr, ap_iD, itL_lst, itL_scr, ap_iT, itT_tup, itT_ktp, ap_iS, itS_str, ap_iR1, itR1_ok, add_i, add_s, add_l, addX_i, addX_s, sub_i, mul_i, div_i, mod_i, pow_i, shl_i, shr_i, and_i, or_i, xor_i, neg_i, not_b, lt_i, le_i, gt_i, ge_i, eq_i, eq_s, ne_i, ne_s, is_non, is_int, is_str, is_tup, is_lst, isnt_non, isnt_int, isnt_str, isnt_tup, toBl_b, toIn_i, ix_s, ix_l, ix_r, ix_t, ix_k, sl_s, sl_l, sl_r, sl_t, len_s, len_l, len_r, len_t, len_k, int_i, int_b, abs_i, min_i, max_i, tup_l, tup_t, list_l, list_r, list_t, isi_i, isi_b, isi_s, isi_l, isi_t, isi_n, ty_ii, ty_bi, ty_ss, ty_ll, ty_tt, ty_tl, ty_lt, ty_tn, find_s, lower_s, sq_nx, sq_sq, sq_a, sq_o, sq_x, sq_if, sq_ret, sq_retL, oOf_o, sq_retO, sq_app, lstK_l, sq_ext, sq_aug, sq_g, sq_frz, sq_br, sq_ct, sq_raise, ofG_some, nx_ap, thenS_nx, thenS_rt, thenS_exc, sq_for, sq_wh, endV_v, endV_o, endV_n, endV_x, endL_o, endL_x, gN_ap, List.getElem?_cons_zero, List.getElem?_cons_succ, List.set_cons_zero, List.set_cons_succ, List.length_cons, List.length_nil, decide_eq_true_eq, Bool.not_eq_true, reduceIte, Bool.false_eq_true, decide_true, decide_false, Nat.reduceAdd, Nat.reduceLeDiff, Nat.reduceLT, Bool.not_true, Bool.not_false, List.nil_append, List.cons_append, List.map_cons, List.map_nil, List.replicate_succ, List.replicate_zero, Bool.not_eq_eq_eq_not, decide_eq_false_iff_not, and_self, and_true, true_and, and_false, false_and, or_true, true_or, or_false, false_or, or_self, Int.reduceLE, Int.reduceLT, Int.reduceNeg, Int.reduceAdd, Int.reduceSub, Int.reduceMul, Int.reduceDiv, Int.reduceMod, Int.reduceEq, Int.reduceToNat, Nat.reduceEqDiff, frz_zero, frz_succ, gT_tup, gT_ktp, gC_ap, gE_nil, cast_0, cast_1, cast_2, cast_3, cast_4, cast_5, cast_6, cast_7, cast_8, cast_9, ty_bs, ty_is, frz_zeroV, oOfR_o, ap_lenO, ap_ixO, tOf_some, pOf_fn, ap_P, ap_iZT, itZT_ok, zipD_cons, zipD_nil, str_i, sq_set, oOfS_o, set_ints, thenW_nx, thenW_ct, thenW_bk, thenW_rt, thenW_exc, at_ok, at_bad, at_exc, at_bind, at_ite, atS_nx, atS_rt, atS_ite, atS_ofE, atS_then, at_endV, endP_v, endP_o, ix_m, len_m, ap_MM, isCL_m, pop0_m, mapp_m, ap_cell, sq_mset, setM_m, tb, rc_ok (F := F) (e := e) hq (Nat.lt_of_not_le h) hc, List.length_map, show acc.length < 100000 by omega, sg_app]
        simp only [bind_ok, bind_exc, bind_bad, ofE_ok, ofE_exc, vOf_v, ap_C, ap_V, ap_nil, ap_cons, ap_U, ap_B, ap_chain, ap_and, ap_or, ap_tup, ap_F, ap_M, ap_sl, ap_pN, ap_pS, ap_L, ap_tE, ap_tAn, ap_tO, ap_tN, ap_tY, ap_if, ap_lD, ap_lF, ap_lCat, catL_ok, ap_lRep, repL_ok, ap_lSl, slL_lst, slL_scr, ap_iD, itL_lst, itL_scr, ap_iT, itT_tup, itT_ktp, ap_iS, itS_str, ap_iR1, itR1_ok, add_i, add_s, add_l, addX_i, addX_s, sub_i, mul_i, div_i, mod_i, pow_i, shl_i, shr_i, and_i, or_i, xor_i, neg_i, not_b, lt_i, le_i, gt_i, ge_i, eq_i, eq_s, ne_i, ne_s, is_non, is_int, is_str, is_tup, is_lst, isnt_non, isnt_int, isnt_str, isnt_tup, toBl_b, toIn_i, ix_s, ix_l, ix_r, ix_t, ix_k, sl_s, sl_l, sl_r, sl_t, len_s, len_l, len_r, len_t, len_k, int_i, int_b, abs_i, min_i, max_i, tup_l, tup_t, list_l, list_r, list_t, isi_i, isi_b, isi_s, isi_l, isi_t, isi_n, ty_ii, ty_bi, ty_ss, ty_ll, ty_tt, ty_tl, ty_lt, ty_tn, find_s, lower_s, sq_nx, sq_sq, sq_a, sq_o, sq_x, sq_if, sq_ret, sq_retL, oOf_o, sq_retO, sq_app, lstK_l, sq_ext, sq_aug, sq_g, sq_frz, sq_br, sq_ct, sq_raise, ofG_some, nx_ap, thenS_nx, thenS_rt, thenS_exc, sq_for, sq_wh, endV_v, endV_o, endV_n, endV_x, endL_o, endL_x, gN_ap, List.getElem?_cons_zero, List.getElem?_cons_succ, List.set_cons_zero, List.set_cons_succ, List.length_cons, List.length_nil, decide_eq_true_eq, Bool.not_eq_true, reduceIte, Bool.false_eq_true, decide_true, decide_false, Nat.reduceAdd, Nat.reduceLeDiff, Nat.reduceLT, Bool.not_true, Bool.not_false, List.nil_append, List.cons_append, List.map_cons, List.map_nil, List.replicate_succ, List.replicate_zero, Bool.not_eq_eq_eq_not, decide_eq_false_iff_not, and_self, and_true, true_and, and_false, false_and, or_true, true_or, or_false, false_or, or_self, Int.reduceLE, Int.reduceLT, Int.reduceNeg, Int.reduceAdd, Int.reduceSub, Int.reduceMul, Int.reduceDiv, Int.reduceMod, Int.reduceEq, Int.reduceToNat, Nat.reduceEqDiff, frz_zero, frz_succ, gT_tup, gT_ktp, gC_ap, gE_nil, cast_0, cast_1, cast_2, cast_3, cast_4, cast_5, cast_6, cast_7, cast_8, cast_9, ty_bs, ty_is, frz_zeroV, oOfR_o, ap_lenO, ap_ixO, tOf_some, pOf_fn, ap_P, ap_iZT, itZT_ok, zipD_cons, zipD_nil, str_i, sq_set, oOfS_o, set_ints, thenW_nx, thenW_ct, thenW_bk, thenW_rt, thenW_exc, at_ok, at_bad, at_exc, at_bind, at_ite, atS_nx, atS_rt, atS_ite, atS_ofE, atS_then, at_endV, endP_v, endP_o, ix_m, len_m, ap_MM, isCL_m, pop0_m, mapp_m, ap_cell, sq_mset, setM_m, e1]
        have ih := items_scan hF cnt ds (q + 1) (acc ++ [(F.getD q 0).toNat]) (.val d) (.val (.str (tx [(F.getD q 0).toNat]))) (by rw [List.length_append, List.length_singleton]; omega)
        rw [show q + (ds.length + 1) = q + 1 + ds.length by omega]
        exact ih
      · rw [if_neg hc]
        refine Or.inr ⟨_, _, [.val (.lst (dI F)), .val (.int (q : Int)), .val (.int (e : Int)), cnt, .val (.fn 7), .own (sg acc), .val d, s7], rfl, ?_⟩
        have e1 : b_read_items_1 [.val (.lst (dI F)), .val (.int (q : Int)), .val (.int (e : Int)), cnt, .val (.fn 7), .own (sg acc), .val d, s7] = .exc 1001 (X "invalid name character" q) [.val (.lst (dI F)), .val (.int (q : Int)), .val (.int (e : Int)), cnt, .val (.fn 7), .own (sg acc), .val d, s7] := by
          unfold b_read_items_1
          simp only [bind_ok, bind_exc, bind_bad, ofE_ok, ofE_exc, vOf_v, ap_C, ap_V, ap_nil, ap_cons, ap_U, ap_B, ap_chain, ap_and, ap_or, ap_tup, ap_F, ap_M, ap_sl, ap_pN, ap_pS, ap_L, ap_tE, ap_tAn, ap_tO, ap_tN, ap_tY, ap_if, ap_lD, ap_lF, ap_lCat, catL_ok, ap_lRep, repL_ok, ap_lSl, slL_lst, slL_scr, ap_iD, itL_lst, itL_scr, ap_iT, itT_tup, itT_ktp, ap_iS, itS_str, ap_iR1, itR1_ok, add_i, add_s, add_l, addX_i, addX_s, sub_i, mul_i, div_i, mod_i, pow_i, shl_i, shr_i, and_i, or_i, xor_i, neg_i, not_b, lt_i, le_i, gt_i, ge_i, eq_i, eq_s, ne_i, ne_s, is_non, is_int, is_str, is_tup, is_lst, isnt_non, isnt_int, isnt_str, isnt_tup, toBl_b, toIn_i, ix_s, ix_l, ix_r, ix_t, ix_k, sl_s, sl_l, sl_r, sl_t, len_s, len_l, len_r, len_t, len_k, int_i, int_b, abs_i, min_i, max_i, tup_l, tup_t, list_l, list_r, list_t, isi_i, isi_b, isi_s, isi_l, isi_t, isi_n, ty_ii, ty_bi, ty_ss, ty_ll, ty_tt, ty_tl, ty_lt, ty_tn, find_s, lower_s, sq_nx, sq_sq, sq_a, sq_o, sq_x, sq_if, sq_ret, sq_retL, oOf_o, sq_retO, sq_app, lstK_l, sq_ext, sq_aug, sq_g, sq_frz, sq_br, sq_ct, sq_raise, ofG_some, nx_ap, thenS_nx, thenS_rt, thenS_exc, sq_for, sq_wh, endV_v, endV_o, endV_n, endV_x, endL_o, endL_x, gN_ap, List.getElem?_cons_zero, List.getElem?_cons_succ, List.set_cons_zero, List.set_cons_succ, List.length_cons, List.length_nil, decide_eq_true_eq, Bool.not_eq_true, reduceIte, Bool.false_eq_true, decide_true, decide_false, Nat.reduceAdd, Nat.reduceLeDiff, Nat.reduceLT, Bool.not_true, Bool.not_false, List.nil_append, List.cons_append, List.map_cons, List.map_nil, List.replicate_succ, List.replicate_zero, Bool.not_eq_eq_eq_not, decide_eq_false_iff_not, and_self, and_true, true_and, and_false, false_and, or_true, true_or, or_false, false_or, or_self, Int.reduceLE, Int.reduceLT, Int.reduceNeg, Int.reduceAdd, Int.reduceSub, Int.reduceMul, Int.reduceDiv, Int.reduceMod, Int.reduceEq, Int.reduceToNat, Nat.reduceEqDiff, frz_zero, frz_succ, gT_tup, gT_ktp, gC_ap, gE_nil, cast_0, cast_1, cast_2, cast_3, cast_4, cast_5, cast_6, cast_7, cast_8, cast_9, ty_bs, ty_is, frz_zeroV, oOfR_o, ap_lenO, ap_ixO, tOf_some, pOf_fn, ap_P, ap_iZT, itZT_ok, zipD_cons, zipD_nil, str_i, sq_set, oOfS_o, set_ints, thenW_nx, thenW_ct, thenW_bk, thenW_rt, thenW_exc, at_ok, at_bad, at_exc, at_bind, at_ite, atS_nx, atS_rt, atS_ite, atS_ofE, atS_then, at_endV, endP_v, endP_o, ix_m, len_m, ap_MM, isCL_m, pop0_m, mapp_m, ap_cell, sq_mset, setM_m, tb, rc_bad (F := F) (e := e) hq (Nat.lt_of_not_le h) hc]
        simp only [bind_ok, bind_exc, bind_bad, ofE_ok, ofE_exc, vOf_v, ap_C, ap_V, ap_nil, ap_cons, ap_U, ap_B, ap_chain, ap_and, ap_or, ap_tup, ap_F, ap_M, ap_sl, ap_pN, ap_pS, ap_L, ap_tE, ap_tAn, ap_tO, ap_tN, ap_tY, ap_if, ap_lD, ap_lF, ap_lCat, catL_ok, ap_lRep, repL_ok, ap_lSl, slL_lst, slL_scr, ap_iD, itL_lst, itL_scr, ap_iT, itT_tup, itT_ktp, ap_iS, itS_str, ap_iR1, itR1_ok, add_i, add_s, add_l, addX_i, addX_s, sub_i, mul_i, div_i, mod_i, pow_i, shl_i, shr_i, and_i, or_i, xor_i, neg_i, not_b, lt_i, le_i, gt_i, ge_i, eq_i, eq_s, ne_i, ne_s, is_non, is_int, is_str, is_tup, is_lst, isnt_non, isnt_int, isnt_str, isnt_tup, toBl_b, toIn_i, ix_s, ix_l, ix_r, ix_t, ix_k, sl_s, sl_l, sl_r, sl_t, len_s, len_l, len_r, len_t, len_k, int_i, int_b, abs_i, min_i, max_i, tup_l, tup_t, list_l, list_r, list_t, isi_i, isi_b, isi_s, isi_l, isi_t, isi_n, ty_ii, ty_bi, ty_ss, ty_ll, ty_tt, ty_tl, ty_lt, ty_tn, find_s, lower_s, sq_nx, sq_sq, sq_a, sq_o, sq_x, sq_if, sq_ret, sq_retL, oOf_o, sq_retO, sq_app, lstK_l, sq_ext, sq_aug, sq_g, sq_frz, sq_br, sq_ct, sq_raise, ofG_some, nx_ap, thenS_nx, thenS_rt, thenS_exc, sq_for, sq_wh, endV_v, endV_o, endV_n, endV_x, endL_o, endL_x, gN_ap, List.getElem?_cons_zero, List.getElem?_cons_succ, List.set_cons_zero, List.set_cons_succ, List.length_cons, List.length_nil, decide_eq_true_eq, Bool.not_eq_true, reduceIte, Bool.false_eq_true, decide_true, decide_false, Nat.reduceAdd, Nat.reduceLeDiff, Nat.reduceLT, Bool.not_true, Bool.not_false, List.nil_append, List.cons_append, List.map_cons, List.map_nil, List.replicate_succ, List.replicate_zero, Bool.not_eq_eq_eq_not, decide_eq_false_iff_not, and_self, and_true, true_and, and_false, false_and, or_true, true_or, or_false, false_or, or_self, Int.reduceLE, Int.reduceLT, Int.reduceNeg, Int.reduceAdd, Int.reduceSub, Int.reduceMul, Int.reduceDiv, Int.reduceMod, Int.reduceEq, Int.reduceToNat, Nat.reduceEqDiff, frz_zero, frz_succ, gT_tup, gT_ktp, gC_ap, gE_nil, cast_0, cast_1, cast_2, cast_3, cast_4, cast_5, cast_6, cast_7, cast_8, cast_9, ty_bs, ty_is, frz_zeroV, oOfR_o, ap_lenO, ap_ixO, tOf_some, pOf_fn, ap_P, ap_iZT, itZT_ok, zipD_cons, zipD_nil, str_i, sq_set, oOfS_o, set_ints, thenW_nx, thenW_ct, thenW_bk, thenW_rt, thenW_exc, at_ok, at_bad, at_exc, at_bind, at_ite, atS_nx, atS_rt, atS_ite, atS_ofE, atS_then, at_endV, endP_v, endP_o, ix_m, len_m, ap_MM, isCL_m, pop0_m, mapp_m, ap_cell, sq_mset, setM_m, e1]
/-! what is told -/
def name (F : List Int) (e c q : Nat) : Except (Str × Int) (List Nat) := if 60 < c then .error ("name too long", (q : Int)) else scan F e c q []
theorem scan_rng {F : List Int} {e : Nat} : ∀ (n q : Nat) (acc r : List Nat), scan F e n q acc = .ok r → (∀ c ∈ acc, c < 128) → (∀ c ∈ r, c < 128) ∧ r.length = acc.length + n
  | 0, q, acc, r, h, ha => by
    unfold scan at h
    cases h
    exact ⟨ha, rfl⟩
  | n + 1, q, acc, r, h, ha => by
    unfold scan at h
    by_cases h1 : e ≤ q
    · rw [if_pos h1] at h; cases h
    · rw [if_neg h1] at h
      by_cases hc : okc (F.getD q 0)
      · rw [if_pos hc] at h
        obtain ⟨h2, h3⟩ := scan_rng n (q + 1) _ r h fun c hc2 => by
          rcases List.mem_append.mp hc2 with z | z
          · exact ha c z
          · rw [List.mem_singleton.mp z]
            unfold okc at hc
            omega
        exact ⟨h2, by rw [h3, List.length_append, List.length_singleton]; omega⟩
      · rw [if_neg hc] at h; cases h
theorem e_tx : (Str.ofString "") = tx [] := by decide +kernel
theorem sg_join {r : List Nat} (h : r.length ≤ 1000) : mJoin (.str (tx [])) [.tup (sg r)] = .ok (.str (tx r)) := by
  have q : mJoin (.str (tx [])) [.tup (sg r)] = mJoin (.str (tx [])) [.lst (sg r)] := rfl
  have e : sg r = dS ((r.map fun c => [c]).map tx) := by rw [sg, List.map_map]; rfl
  have f : (r.map fun c => [c]).flatten = r := by
    induction r with
    | nil => rfl
    | cons c r ih =>
      rw [List.map_cons, List.flatten_cons, ih (by rw [List.length_cons] at h; omega)]
      · rfl
      · rfl
      · rw [sg, List.map_map]; rfl
  rw [q, e, join_ok (by rw [f]; omega), f]
theorem name_of {F : List Int} {p e c q : Nat} (hF : e ≤ F.length) (h : m_read_index [.lst (dI F), .int (p : Int), .int (e : Int)] = .ok (.tup [.int (c : Int), .int (q : Int)])) :
    m_read_name [.lst (dI F), .int (p : Int), .int (e : Int)] = match name F e c q with
      | .ok r => .ok (.tup [.str (tx r), .int (q + c : Nat)])
      | .error (w, z) => .exc 1001 (X w z) := by
  unfold name
  by_cases h6 : 60 < c
  · rw [if_pos h6]
    rw [e_read_name]
    unfold b_read_name
    simp only [bind_ok, bind_exc, bind_bad, ofE_ok, ofE_exc, vOf_v, ap_C, ap_V, ap_nil, ap_cons, ap_U, ap_B, ap_chain, ap_and, ap_or, ap_tup, ap_F, ap_M, ap_sl, ap_pN, ap_pS, ap_L, ap_tE, ap_tAn, ap_tO, ap_tN, ap_tY, ap_if, ap_lD, ap_lF, ap_lCat, catL_ok, ap_lRep, repL_ok, ap_lSl, slL_lst, slL_scr, ap_iD, itL_lst, itL_scr, ap_iT, itT_tup, itT_ktp, ap_iS, itS_str, ap_iR1, itR1_ok, add_i, add_s, add_l, addX_i, addX_s, sub_i, mul_i, div_i, mod_i, pow_i, shl_i, shr_i, and_i, or_i, xor_i, neg_i, not_b, lt_i, le_i, gt_i, ge_i, eq_i, eq_s, ne_i, ne_s, is_non, is_int, is_str, is_tup, is_lst, isnt_non, isnt_int, isnt_str, isnt_tup, toBl_b, toIn_i, ix_s, ix_l, ix_r, ix_t, ix_k, sl_s, sl_l, sl_r, sl_t, len_s, len_l, len_r, len_t, len_k, int_i, int_b, abs_i, min_i, max_i, tup_l, tup_t, list_l, list_r, list_t, isi_i, isi_b, isi_s, isi_l, isi_t, isi_n, ty_ii, ty_bi, ty_ss, ty_ll, ty_tt, ty_tl, ty_lt, ty_tn, find_s, lower_s, sq_nx, sq_sq, sq_a, sq_o, sq_x, sq_if, sq_ret, sq_retL, oOf_o, sq_retO, sq_app, lstK_l, sq_ext, sq_aug, sq_g, sq_frz, sq_br, sq_ct, sq_raise, ofG_some, nx_ap, thenS_nx, thenS_rt, thenS_exc, sq_for, sq_wh, endV_v, endV_o, endV_n, endV_x, endL_o, endL_x, gN_ap, List.getElem?_cons_zero, List.getElem?_cons_succ, List.set_cons_zero, List.set_cons_succ, List.length_cons, List.length_nil, decide_eq_true_eq, Bool.not_eq_true, reduceIte, Bool.false_eq_true, decide_true, decide_false, Nat.reduceAdd, Nat.reduceLeDiff, Nat.reduceLT, Bool.not_true, Bool.not_false, List.nil_append, List.cons_append, List.map_cons, List.map_nil, List.replicate_succ, List.replicate_zero, Bool.not_eq_eq_eq_not, decide_eq_false_iff_not, and_self, and_true, true_and, and_false, false_and, or_true, true_or, or_false, false_or, or_self, Int.reduceLE, Int.reduceLT, Int.reduceNeg, Int.reduceAdd, Int.reduceSub, Int.reduceMul, Int.reduceDiv, Int.reduceMod, Int.reduceEq, Int.reduceToNat, Nat.reduceEqDiff, frz_zero, frz_succ, gT_tup, gT_ktp, gC_ap, gE_nil, cast_0, cast_1, cast_2, cast_3, cast_4, cast_5, cast_6, cast_7, cast_8, cast_9, ty_bs, ty_is, frz_zeroV, oOfR_o, ap_lenO, ap_ixO, tOf_some, pOf_fn, ap_P, ap_iZT, itZT_ok, zipD_cons, zipD_nil, str_i, sq_set, oOfS_o, set_ints, thenW_nx, thenW_ct, thenW_bk, thenW_rt, thenW_exc, at_ok, at_bad, at_exc, at_bind, at_ite, atS_nx, atS_rt, atS_ite, atS_ofE, atS_then, at_endV, endP_v, endP_o, ix_m, len_m, ap_MM, isCL_m, pop0_m, mapp_m, ap_cell, sq_mset, setM_m, h, show d_MOST_CHARACTERS = .int 60 from rfl, show (60 : Int) < (c : Int) by omega]
    rfl
  · rw [if_neg h6]
    have hr : m_read_items [.lst (dI F), .int (q : Int), .int (e : Int), .int (c : Int), .fn 7] = match scan F e c q [] with
        | .ok r => .ok (.tup [.tup (sg r), .int (q + c : Nat)])
        | .error (w, z) => .exc 1001 (X w z) := by
      have l : ((List.range c).map fun (i : Nat) => D.int i).length = c := by rw [List.length_map, List.length_range]
      rcases items_scan hF (.val (.int (c : Int))) ((List.range c).map fun (i : Nat) => D.int i) q [] .un .un (by rw [l]; simp; omega) with ⟨r, t6, t7, h1, h2⟩ | ⟨w, z, env, h1, h2⟩
      · rw [l] at h1 h2
        rw [h1, e_read_items]
        unfold b_read_items
        simp only [bind_ok, bind_exc, bind_bad, ofE_ok, ofE_exc, vOf_v, ap_C, ap_V, ap_nil, ap_cons, ap_U, ap_B, ap_chain, ap_and, ap_or, ap_tup, ap_F, ap_M, ap_sl, ap_pN, ap_pS, ap_L, ap_tE, ap_tAn, ap_tO, ap_tN, ap_tY, ap_if, ap_lD, ap_lF, ap_lCat, catL_ok, ap_lRep, repL_ok, ap_lSl, slL_lst, slL_scr, ap_iD, itL_lst, itL_scr, ap_iT, itT_tup, itT_ktp, ap_iS, itS_str, ap_iR1, itR1_ok, add_i, add_s, add_l, addX_i, addX_s, sub_i, mul_i, div_i, mod_i, pow_i, shl_i, shr_i, and_i, or_i, xor_i, neg_i, not_b, lt_i, le_i, gt_i, ge_i, eq_i, eq_s, ne_i, ne_s, is_non, is_int, is_str, is_tup, is_lst, isnt_non, isnt_int, isnt_str, isnt_tup, toBl_b, toIn_i, ix_s, ix_l, ix_r, ix_t, ix_k, sl_s, sl_l, sl_r, sl_t, len_s, len_l, len_r, len_t, len_k, int_i, int_b, abs_i, min_i, max_i, tup_l, tup_t, list_l, list_r, list_t, isi_i, isi_b, isi_s, isi_l, isi_t, isi_n, ty_ii, ty_bi, ty_ss, ty_ll, ty_tt, ty_tl, ty_lt, ty_tn, find_s, lower_s, sq_nx, sq_sq, sq_a, sq_o, sq_x, sq_if, sq_ret, sq_retL, oOf_o, sq_retO, sq_app, lstK_l, sq_ext, sq_aug, sq_g, sq_frz, sq_br, sq_ct, sq_raise, ofG_some, nx_ap, thenS_nx, thenS_rt, thenS_exc, sq_for, sq_wh, endV_v, endV_o, endV_n, endV_x, endL_o, endL_x, gN_ap, List.getElem?_cons_zero, List.getElem?_cons_succ, List.set_cons_zero, List.set_cons_succ, List.length_cons, List.length_nil, decide_eq_true_eq, Bool.not_eq_true, reduceIte, Bool.false_eq_true, decide_true, decide_false, Nat.reduceAdd, Nat.reduceLeDiff, Nat.reduceLT, Bool.not_true, Bool.not_false, List.nil_append, List.cons_append, List.map_cons, List.map_nil, List.replicate_succ, List.replicate_zero, Bool.not_eq_eq_eq_not, decide_eq_false_iff_not, and_self, and_true, true_and, and_false, false_and, or_true, true_or, or_false, false_or, or_self, Int.reduceLE, Int.reduceLT, Int.reduceNeg, Int.reduceAdd, Int.reduceSub, Int.reduceMul, Int.reduceDiv, Int.reduceMod, Int.reduceEq, Int.reduceToNat, Nat.reduceEqDiff, frz_zero, frz_succ, gT_tup, gT_ktp, gC_ap, gE_nil, cast_0, cast_1, cast_2, cast_3, cast_4, cast_5, cast_6, cast_7, cast_8, cast_9, ty_bs, ty_is, frz_zeroV, oOfR_o, ap_lenO, ap_ixO, tOf_some, pOf_fn, ap_P, ap_iZT, itZT_ok, zipD_cons, zipD_nil, str_i, sq_set, oOfS_o, set_ints, thenW_nx, thenW_ct, thenW_bk, thenW_rt, thenW_exc, at_ok, at_bad, at_exc, at_bind, at_ite, atS_nx, atS_rt, atS_ite, atS_ofE, atS_then, at_endV, endP_v, endP_o, ix_m, len_m, ap_MM, isCL_m, pop0_m, mapp_m, ap_cell, sq_mset, setM_m, show (c : Int) ≤ 100000 by omega, show (-100000 : Int) ≤ (c : Int) by omega, Int.toNat_natCast]
        rw [show forGo (gN 6) b_read_items_1 ((List.range c).map fun (i : Nat) => D.int i) [.val (.lst (dI F)), .val (.int (q : Int)), .val (.int (e : Int)), .val (.int (c : Int)), .val (.fn 7), .own [], .un, .un] = _ from h2]
        simp only [bind_ok, bind_exc, bind_bad, ofE_ok, ofE_exc, vOf_v, ap_C, ap_V, ap_nil, ap_cons, ap_U, ap_B, ap_chain, ap_and, ap_or, ap_tup, ap_F, ap_M, ap_sl, ap_pN, ap_pS, ap_L, ap_tE, ap_tAn, ap_tO, ap_tN, ap_tY, ap_if, ap_lD, ap_lF, ap_lCat, catL_ok, ap_lRep, repL_ok, ap_lSl, slL_lst, slL_scr, ap_iD, itL_lst, itL_scr, ap_iT, itT_tup, itT_ktp, ap_iS, itS_str, ap_iR1, itR1_ok, add_i, add_s, add_l, addX_i, addX_s, sub_i, mul_i, div_i, mod_i, pow_i, shl_i, shr_i, and_i, or_i, xor_i, neg_i, not_b, lt_i, le_i, gt_i, ge_i, eq_i, eq_s, ne_i, ne_s, is_non, is_int, is_str, is_tup, is_lst, isnt_non, isnt_int, isnt_str, isnt_tup, toBl_b, toIn_i, ix_s, ix_l, ix_r, ix_t, ix_k, sl_s, sl_l, sl_r, sl_t, len_s, len_l, len_r, len_t, len_k, int_i, int_b, abs_i, min_i, max_i, tup_l, tup_t, list_l, list_r, list_t, isi_i, isi_b, isi_s, isi_l, isi_t, isi_n, ty_ii, ty_bi, ty_ss, ty_ll, ty_tt, ty_tl, ty_lt, ty_tn, find_s, lower_s, sq_nx, sq_sq, sq_a, sq_o, sq_x, sq_if, sq_ret, sq_retL, oOf_o, sq_retO, sq_app, lstK_l, sq_ext, sq_aug, sq_g, sq_frz, sq_br, sq_ct, sq_raise, ofG_some, nx_ap, thenS_nx, thenS_rt, thenS_exc, sq_for, sq_wh, endV_v, endV_o, endV_n, endV_x, endL_o, endL_x, gN_ap, List.getElem?_cons_zero, List.getElem?_cons_succ, List.set_cons_zero, List.set_cons_succ, List.length_cons, List.length_nil, decide_eq_true_eq, Bool.not_eq_true, reduceIte, Bool.false_eq_true, decide_true, decide_false, Nat.reduceAdd, Nat.reduceLeDiff, Nat.reduceLT, Bool.not_true, Bool.not_false, List.nil_append, List.cons_append, List.map_cons, List.map_nil, List.replicate_succ, List.replicate_zero, Bool.not_eq_eq_eq_not, decide_eq_false_iff_not, and_self, and_true, true_and, and_false, false_and, or_true, true_or, or_false, false_or, or_self, Int.reduceLE, Int.reduceLT, Int.reduceNeg, Int.reduceAdd, Int.reduceSub, Int.reduceMul, Int.reduceDiv, Int.reduceMod, Int.reduceEq, Int.reduceToNat, Nat.reduceEqDiff, frz_zero, frz_succ, gT_tup, gT_ktp, gC_ap, gE_nil, cast_0, cast_1, cast_2, cast_3, cast_4, cast_5, cast_6, cast_7, cast_8, cast_9, ty_bs, ty_is, frz_zeroV, oOfR_o, ap_lenO, ap_ixO, tOf_some, pOf_fn, ap_P, ap_iZT, itZT_ok, zipD_cons, zipD_nil, str_i, sq_set, oOfS_o, set_ints, thenW_nx, thenW_ct, thenW_bk, thenW_rt, thenW_exc, at_ok, at_bad, at_exc, at_bind, at_ite, atS_nx, atS_rt, atS_ite, atS_ofE, atS_then, at_endV, endP_v, endP_o, ix_m, len_m, ap_MM, isCL_m, pop0_m, mapp_m, ap_cell, sq_mset, setM_m]
      · rw [l] at h1
        rw [h1, e_read_items]
        unfold b_read_items
        simp only [bind_ok, bind_exc, bind_bad, ofE_ok, ofE_exc, vOf_v, ap_C, ap_V, ap_nil, ap_cons, ap_U, ap_B, ap_chain, ap_and, ap_or, ap_tup, ap_F, ap_M, ap_sl, ap_pN, ap_pS, ap_L, ap_tE, ap_tAn, ap_tO, ap_tN, ap_tY, ap_if, ap_lD, ap_lF, ap_lCat, catL_ok, ap_lRep, repL_ok, ap_lSl, slL_lst, slL_scr, ap_iD, itL_lst, itL_scr, ap_iT, itT_tup, itT_ktp, ap_iS, itS_str, ap_iR1, itR1_ok, add_i, add_s, add_l, addX_i, addX_s, sub_i, mul_i, div_i, mod_i, pow_i, shl_i, shr_i, and_i, or_i, xor_i, neg_i, not_b, lt_i, le_i, gt_i, ge_i, eq_i, eq_s, ne_i, ne_s, is_non, is_int, is_str, is_tup, is_lst, isnt_non, isnt_int, isnt_str, isnt_tup, toBl_b, toIn_i, ix_s, ix_l, ix_r, ix_t, ix_k, sl_s, sl_l, sl_r, sl_t, len_s, len_l, len_r, len_t, len_k, int_i, int_b, abs_i, min_i, max_i, tup_l, tup_t, list_l, list_r, list_t, isi_i, isi_b, isi_s, isi_l, isi_t, isi_n, ty_ii, ty_bi, ty_ss, ty_ll, ty_tt, ty_tl, ty_lt, ty_tn, find_s, lower_s, sq_nx, sq_sq, sq_a, sq_o, sq_x, sq_if, sq_ret, sq_retL, oOf_o, sq_retO, sq_app, lstK_l, sq_ext, sq_aug, sq_g, sq_frz, sq_br, sq_ct, sq_raise, ofG_some, nx_ap, thenS_nx, thenS_rt, thenS_exc, sq_for, sq_wh, endV_v, endV_o, endV_n, endV_x, endL_o, endL_x, gN_ap, List.getElem?_cons_zero, List.getElem?_cons_succ, List.set_cons_zero, List.set_cons_succ, List.length_cons, List.length_nil, decide_eq_true_eq, Bool.not_eq_true, reduceIte, Bool.false_eq_true, decide_true, decide_false, Nat.reduceAdd, Nat.reduceLeDiff, Nat.reduceLT, Bool.not_true, Bool.not_false, List.nil_append, List.cons_append, List.map_cons, List.map_nil, List.replicate_succ, List.replicate_zero, Bool.not_eq_eq_eq_not, decide_eq_false_iff_not, and_self, and_true, true_and, and_false, false_and, or_true, true_or, or_false, false_or, or_self, Int.reduceLE, Int.reduceLT, Int.reduceNeg, Int.reduceAdd, Int.reduceSub, Int.reduceMul, Int.reduceDiv, Int.reduceMod, Int.reduceEq, Int.reduceToNat, Nat.reduceEqDiff, frz_zero, frz_succ, gT_tup, gT_ktp, gC_ap, gE_nil, cast_0, cast_1, cast_2, cast_3, cast_4, cast_5, cast_6, cast_7, cast_8, cast_9, ty_bs, ty_is, frz_zeroV, oOfR_o, ap_lenO, ap_ixO, tOf_some, pOf_fn, ap_P, ap_iZT, itZT_ok, zipD_cons, zipD_nil, str_i, sq_set, oOfS_o, set_ints, thenW_nx, thenW_ct, thenW_bk, thenW_rt, thenW_exc, at_ok, at_bad, at_exc, at_bind, at_ite, atS_nx, atS_rt, atS_ite, atS_ofE, atS_then, at_endV, endP_v, endP_o, ix_m, len_m, ap_MM, isCL_m, pop0_m, mapp_m, ap_cell, sq_mset, setM_m, show (c : Int) ≤ 100000 by omega, show (-100000 : Int) ≤ (c : Int) by omega, Int.toNat_natCast]
        rw [show forGo (gN 6) b_read_items_1 ((List.range c).map fun (i : Nat) => D.int i) [.val (.lst (dI F)), .val (.int (q : Int)), .val (.int (e : Int)), .val (.int (c : Int)), .val (.fn 7), .own [], .un, .un] = _ from h2]
        simp only [bind_ok, bind_exc, bind_bad, ofE_ok, ofE_exc, vOf_v, ap_C, ap_V, ap_nil, ap_cons, ap_U, ap_B, ap_chain, ap_and, ap_or, ap_tup, ap_F, ap_M, ap_sl, ap_pN, ap_pS, ap_L, ap_tE, ap_tAn, ap_tO, ap_tN, ap_tY, ap_if, ap_lD, ap_lF, ap_lCat, catL_ok, ap_lRep, repL_ok, ap_lSl, slL_lst, slL_scr, ap_iD, itL_lst, itL_scr, ap_iT, itT_tup, itT_ktp, ap_iS, itS_str, ap_iR1, itR1_ok, add_i, add_s, add_l, addX_i, addX_s, sub_i, mul_i, div_i, mod_i, pow_i, shl_i, shr_i, and_i, or_i, xor_i, neg_i, not_b, lt_i, le_i, gt_i, ge_i, eq_i, eq_s, ne_i, ne_s, is_non, is_int, is_str, is_tup, is_lst, isnt_non, isnt_int, isnt_str, isnt_tup, toBl_b, toIn_i, ix_s, ix_l, ix_r, ix_t, ix_k, sl_s, sl_l, sl_r, sl_t, len_s, len_l, len_r, len_t, len_k, int_i, int_b, abs_i, min_i, max_i, tup_l, tup_t, list_l, list_r, list_t, isi_i, isi_b, isi_s, isi_l, isi_t, isi_n, ty_ii, ty_bi, ty_ss, ty_ll, ty_tt, ty_tl, ty_lt, ty_tn, find_s, lower_s, sq_nx, sq_sq, sq_a, sq_o, sq_x, sq_if, sq_ret, sq_retL, oOf_o, sq_retO, sq_app, lstK_l, sq_ext, sq_aug, sq_g, sq_frz, sq_br, sq_ct, sq_raise, ofG_some, nx_ap, thenS_nx, thenS_rt, thenS_exc, sq_for, sq_wh, endV_v, endV_o, endV_n, endV_x, endL_o, endL_x, gN_ap, List.getElem?_cons_zero, List.getElem?_cons_succ, List.set_cons_zero, List.set_cons_succ, List.length_cons, List.length_nil, decide_eq_true_eq, Bool.not_eq_true, reduceIte, Bool.false_eq_true, decide_true, decide_false, Nat.reduceAdd, Nat.reduceLeDiff, Nat.reduceLT, Bool.not_true, Bool.not_false, List.nil_append, List.cons_append, List.map_cons, List.map_nil, List.replicate_succ, List.replicate_zero, Bool.not_eq_eq_eq_not, decide_eq_false_iff_not, and_self, and_true, true_and, and_false, false_and, or_true, true_or, or_false, false_or, or_self, Int.reduceLE, Int.reduceLT, Int.reduceNeg, Int.reduceAdd, Int.reduceSub, Int.reduceMul, Int.reduceDiv, Int.reduceMod, Int.reduceEq, Int.reduceToNat, Nat.reduceEqDiff, frz_zero, frz_succ, gT_tup, gT_ktp, gC_ap, gE_nil, cast_0, cast_1, cast_2, cast_3, cast_4, cast_5, cast_6, cast_7, cast_8, cast_9, ty_bs, ty_is, frz_zeroV, oOfR_o, ap_lenO, ap_ixO, tOf_some, pOf_fn, ap_P, ap_iZT, itZT_ok, zipD_cons, zipD_nil, str_i, sq_set, oOfS_o, set_ints, thenW_nx, thenW_ct, thenW_bk, thenW_rt, thenW_exc, at_ok, at_bad, at_exc, at_bind, at_ite, atS_nx, atS_rt, atS_ite, atS_ofE, atS_then, at_endV, endP_v, endP_o, ix_m, len_m, ap_MM, isCL_m, pop0_m, mapp_m, ap_cell, sq_mset, setM_m]
    rw [e_read_name]
    unfold b_read_name
    cases hs : scan F e c q [] with
    | ok r =>
      rw [hs] at hr
      have hl := (scan_rng c q [] r hs (fun c h => by cases h)).2
      simp only [bind_ok, bind_exc, bind_bad, ofE_ok, ofE_exc, vOf_v, ap_C, ap_V, ap_nil, ap_cons, ap_U, ap_B, ap_chain, ap_and, ap_or, ap_tup, ap_F, ap_M, ap_sl, ap_pN, ap_pS, ap_L, ap_tE, ap_tAn, ap_tO, ap_tN, ap_tY, ap_if, ap_lD, ap_lF, ap_lCat, catL_ok, ap_lRep, repL_ok, ap_lSl, slL_lst, slL_scr, ap_iD, itL_lst, itL_scr, ap_iT, itT_tup, itT_ktp, ap_iS, itS_str, ap_iR1, itR1_ok, add_i, add_s, add_l, addX_i, addX_s, sub_i, mul_i, div_i, mod_i, pow_i, shl_i, shr_i, and_i, or_i, xor_i, neg_i, not_b, lt_i, le_i, gt_i, ge_i, eq_i, eq_s, ne_i, ne_s, is_non, is_int, is_str, is_tup, is_lst, isnt_non, isnt_int, isnt_str, isnt_tup, toBl_b, toIn_i, ix_s, ix_l, ix_r, ix_t, ix_k, sl_s, sl_l, sl_r, sl_t, len_s, len_l, len_r, len_t, len_k, int_i, int_b, abs_i, min_i, max_i, tup_l, tup_t, list_l, list_r, list_t, isi_i, isi_b, isi_s, isi_l, isi_t, isi_n, ty_ii, ty_bi, ty_ss, ty_ll, ty_tt, ty_tl, ty_lt, ty_tn, find_s, lower_s, sq_nx, sq_sq, sq_a, sq_o, sq_x, sq_if, sq_ret, sq_retL, oOf_o, sq_retO, sq_app, lstK_l, sq_ext, sq_aug, sq_g, sq_frz, sq_br, sq_ct, sq_raise, ofG_some, nx_ap, thenS_nx, thenS_rt, thenS_exc, sq_for, sq_wh, endV_v, endV_o, endV_n, endV_x, endL_o, endL_x, gN_ap, List.getElem?_cons_zero, List.getElem?_cons_succ, List.set_cons_zero, List.set_cons_succ, List.length_cons, List.length_nil, decide_eq_true_eq, Bool.not_eq_true, reduceIte, Bool.false_eq_true, decide_true, decide_false, Nat.reduceAdd, Nat.reduceLeDiff, Nat.reduceLT, Bool.not_true, Bool.not_false, List.nil_append, List.cons_append, List.map_cons, List.map_nil, List.replicate_succ, List.replicate_zero, Bool.not_eq_eq_eq_not, decide_eq_false_iff_not, and_self, and_true, true_and, and_false, false_and, or_true, true_or, or_false, false_or, or_self, Int.reduceLE, Int.reduceLT, Int.reduceNeg, Int.reduceAdd, Int.reduceSub, Int.reduceMul, Int.reduceDiv, Int.reduceMod, Int.reduceEq, Int.reduceToNat, Nat.reduceEqDiff, frz_zero, frz_succ, gT_tup, gT_ktp, gC_ap, gE_nil, cast_0, cast_1, cast_2, cast_3, cast_4, cast_5, cast_6, cast_7, cast_8, cast_9, ty_bs, ty_is, frz_zeroV, oOfR_o, ap_lenO, ap_ixO, tOf_some, pOf_fn, ap_P, ap_iZT, itZT_ok, zipD_cons, zipD_nil, str_i, sq_set, oOfS_o, set_ints, thenW_nx, thenW_ct, thenW_bk, thenW_rt, thenW_exc, at_ok, at_bad, at_exc, at_bind, at_ite, atS_nx, atS_rt, atS_ite, atS_ofE, atS_then, at_endV, endP_v, endP_o, ix_m, len_m, ap_MM, isCL_m, pop0_m, mapp_m, ap_cell, sq_mset, setM_m, h, show d_MOST_CHARACTERS = .int 60 from rfl, show ¬ (60 : Int) < (c : Int) by omega, hr, e_tx, show isTy .str (.str (tx [])) = true from rfl, sg_join (r := r) (by rw [hl]; simp; omega)]
    | error x =>
      obtain ⟨w, z⟩ := x
      rw [hs] at hr
      simp only [bind_ok, bind_exc, bind_bad, ofE_ok, ofE_exc, vOf_v, ap_C, ap_V, ap_nil, ap_cons, ap_U, ap_B, ap_chain, ap_and, ap_or, ap_tup, ap_F, ap_M, ap_sl, ap_pN, ap_pS, ap_L, ap_tE, ap_tAn, ap_tO, ap_tN, ap_tY, ap_if, ap_lD, ap_lF, ap_lCat, catL_ok, ap_lRep, repL_ok, ap_lSl, slL_lst, slL_scr, ap_iD, itL_lst, itL_scr, ap_iT, itT_tup, itT_ktp, ap_iS, itS_str, ap_iR1, itR1_ok, add_i, add_s, add_l, addX_i, addX_s, sub_i, mul_i, div_i, mod_i, pow_i, shl_i, shr_i, and_i, or_i, xor_i, neg_i, not_b, lt_i, le_i, gt_i, ge_i, eq_i, eq_s, ne_i, ne_s, is_non, is_int, is_str, is_tup, is_lst, isnt_non, isnt_int, isnt_str, isnt_tup, toBl_b, toIn_i, ix_s, ix_l, ix_r, ix_t, ix_k, sl_s, sl_l, sl_r, sl_t, len_s, len_l, len_r, len_t, len_k, int_i, int_b, abs_i, min_i, max_i, tup_l, tup_t, list_l, list_r, list_t, isi_i, isi_b, isi_s, isi_l, isi_t, isi_n, ty_ii, ty_bi, ty_ss, ty_ll, ty_tt, ty_tl, ty_lt, ty_tn, find_s, lower_s, sq_nx, sq_sq, sq_a, sq_o, sq_x, sq_if, sq_ret, sq_retL, oOf_o, sq_retO, sq_app, lstK_l, sq_ext, sq_aug, sq_g, sq_frz, sq_br, sq_ct, sq_raise, ofG_some, nx_ap, thenS_nx, thenS_rt, thenS_exc, sq_for, sq_wh, endV_v, endV_o, endV_n, endV_x, endL_o, endL_x, gN_ap, List.getElem?_cons_zero, List.getElem?_cons_succ, List.set_cons_zero, List.set_cons_succ, List.length_cons, List.length_nil, decide_eq_true_eq, Bool.not_eq_true, reduceIte, Bool.false_eq_true, decide_true, decide_false, Nat.reduceAdd, Nat.reduceLeDiff, Nat.reduceLT, Bool.not_true, Bool.not_false, List.nil_append, List.cons_append, List.map_cons, List.map_nil, List.replicate_succ, List.replicate_zero, Bool.not_eq_eq_eq_not, decide_eq_false_iff_not, and_self, and_true, true_and, and_false, false_and, or_true, true_or, or_false, false_or, or_self, Int.reduceLE, Int.reduceLT, Int.reduceNeg, Int.reduceAdd, Int.reduceSub, Int.reduceMul, Int.reduceDiv, Int.reduceMod, Int.reduceEq, Int.reduceToNat, Nat.reduceEqDiff, frz_zero, frz_succ, gT_tup, gT_ktp, gC_ap, gE_nil, cast_0, cast_1, cast_2, cast_3, cast_4, cast_5, cast_6, cast_7, cast_8, cast_9, ty_bs, ty_is, frz_zeroV, oOfR_o, ap_lenO, ap_ixO, tOf_some, pOf_fn, ap_P, ap_iZT, itZT_ok, zipD_cons, zipD_nil, str_i, sq_set, oOfS_o, set_ints, thenW_nx, thenW_ct, thenW_bk, thenW_rt, thenW_exc, at_ok, at_bad, at_exc, at_bind, at_ite, atS_nx, atS_rt, atS_ite, atS_ofE, atS_then, at_endV, endP_v, endP_o, ix_m, len_m, ap_MM, isCL_m, pop0_m, mapp_m, ap_cell, sq_mset, setM_m, h, show d_MOST_CHARACTERS = .int 60 from rfl, show ¬ (60 : Int) < (c : Int) by omega, hr]
/-! what is due -/
theorem due_scan {F : List Int} {e : Nat} (hF : e ≤ F.length) (x1 x3 : Sl) (q : Nat) : ∀ (n k : Nat) (acc : List Nat) (s6 s7 : Sl), acc.length + n ≤ 1000 →
    (∃ r t6 t7, scan F e n (q + k) acc = .ok r ∧ forGo (gN 6) b_l_due_1 ((List.range' k n).map fun (i : Nat) => D.int i) [.val (.lst (dI F)), x1, .val (.int (e : Int)), x3, .val (.int (q : Int)), .val (.str (tx acc)), s6, s7] = .nx [.val (.lst (dI F)), x1, .val (.int (e : Int)), x3, .val (.int (q : Int)), .val (.str (tx r)), t6, t7]) ∨
    ∃ w p, scan F e n (q + k) acc = .error (w, p) ∧ forGo (gN 6) b_l_due_1 ((List.range' k n).map fun (i : Nat) => D.int i) [.val (.lst (dI F)), x1, .val (.int (e : Int)), x3, .val (.int (q : Int)), .val (.str (tx acc)), s6, s7] = .rt (.val (.tup [.str w, .int p]))
  | 0, k, acc, s6, s7, _ => Or.inl ⟨acc, s6, s7, rfl, rfl⟩
  | n + 1, k, acc, s6, s7, hl => by
    rw [List.range'_succ, List.map_cons, forGo_cons gN_ap]
    unfold scan
    have ck : (q : Int) + (k : Int) = ((q + k : Nat) : Int) := rfl
    by_cases h : e ≤ q + k
    · rw [if_pos h]
      refine Or.inr ⟨_, _, rfl, ?_⟩
      have e1 : b_l_due_1 [.val (.lst (dI F)), x1, .val (.int (e : Int)), x3, .val (.int (q : Int)), .val (.str (tx acc)), .val (.int (k : Int)), s7] = .rt (.val (.tup [.str "unexpected end", .int (e : Int)])) := by
        unfold b_l_due_1
        simp only [bind_ok, bind_exc, bind_bad, ofE_ok, ofE_exc, vOf_v, ap_C, ap_V, ap_nil, ap_cons, ap_U, ap_B, ap_chain, ap_and, ap_or, ap_tup, ap_F, ap_M, ap_sl, ap_pN, ap_pS, ap_L, ap_tE, ap_tAn, ap_tO, ap_tN, ap_tY, ap_if, ap_lD, ap_lF, ap_lCat, catL_ok, ap_lRep, repL_ok, ap_lSl, slL_lst, slL_scr, ap_iD, itL_lst, itL_scr, ap_iT, itT_tup, itT_ktp, ap_iS, itS_str, ap_iR1, itR1_ok, add_i, add_s, add_l, addX_i, addX_s, sub_i, mul_i, div_i, mod_i, pow_i, shl_i, shr_i, and_i, or_i, xor_i, neg_i, not_b, lt_i, le_i, gt_i, ge_i, eq_i, eq_s, ne_i, ne_s, is_non, is_int, is_str, is_tup, is_lst, isnt_non, isnt_int, isnt_str, isnt_tup, toBl_b, toIn_i, ix_s, ix_l, ix_r, ix_t, ix_k, sl_s, sl_l, sl_r, sl_t, len_s, len_l, len_r, len_t, len_k, int_i, int_b, abs_i, min_i, max_i, tup_l, tup_t, list_l, list_r, list_t, isi_i, isi_b, isi_s, isi_l, isi_t, isi_n, ty_ii, ty_bi, ty_ss, ty_ll, ty_tt, ty_tl, ty_lt, ty_tn, find_s, lower_s, sq_nx, sq_sq, sq_a, sq_o, sq_x, sq_if, sq_ret, sq_retL, oOf_o, sq_retO, sq_app, lstK_l, sq_ext, sq_aug, sq_g, sq_frz, sq_br, sq_ct, sq_raise, ofG_some, nx_ap, thenS_nx, thenS_rt, thenS_exc, sq_for, sq_wh, endV_v, endV_o, endV_n, endV_x, endL_o, endL_x, gN_ap, List.getElem?_cons_zero, List.getElem?_cons_succ, List.set_cons_zero, List.set_cons_succ, List.length_cons, List.length_nil, decide_eq_true_eq, Bool.not_eq_true, reduceIte, Bool.false_eq_true, decide_true, decide_false, Nat.reduceAdd, Nat.reduceLeDiff, Nat.reduceLT, Bool.not_true, Bool.not_false, List.nil_append, List.cons_append, List.map_cons, List.map_nil, List.replicate_succ, List.replicate_zero, Bool.not_eq_eq_eq_not, decide_eq_false_iff_not, and_self, and_true, true_and, and_false, false_and, or_true, true_or, or_false, false_or, or_self, Int.reduceLE, Int.reduceLT, Int.reduceNeg, Int.reduceAdd, Int.reduceSub, Int.reduceMul, Int.reduceDiv, Int.reduceMod, Int.reduceEq, Int.reduceToNat, Nat.reduceEqDiff, frz_zero, frz_succ, gT_tup, gT_ktp, gC_ap, gE_nil, cast_0, cast_1, cast_2, cast_3, cast_4, cast_5, cast_6, cast_7, cast_8, cast_9, ty_bs, ty_is, frz_zeroV, oOfR_o, ap_lenO, ap_ixO, tOf_some, pOf_fn, ap_P, ap_iZT, itZT_ok, zipD_cons, zipD_nil, str_i, sq_set, oOfS_o, set_ints, thenW_nx, thenW_ct, thenW_bk, thenW_rt, thenW_exc, at_ok, at_bad, at_exc, at_bind, at_ite, atS_nx, atS_rt, atS_ite, atS_ofE, atS_then, at_endV, endP_v, endP_o, ix_m, len_m, ap_MM, isCL_m, pop0_m, mapp_m, ap_cell, sq_mset, setM_m, show (e : Int) ≤ (q : Int) + (k : Int) by omega]
      simp only [bind_ok, bind_exc, bind_bad, ofE_ok, ofE_exc, vOf_v, ap_C, ap_V, ap_nil, ap_cons, ap_U, ap_B, ap_chain, ap_and, ap_or, ap_tup, ap_F, ap_M, ap_sl, ap_pN, ap_pS, ap_L, ap_tE, ap_tAn, ap_tO, ap_tN, ap_tY, ap_if, ap_lD, ap_lF, ap_lCat, catL_ok, ap_lRep, repL_ok, ap_lSl, slL_lst, slL_scr, ap_iD, itL_lst, itL_scr, ap_iT, itT_tup, itT_ktp, ap_iS, itS_str, ap_iR1, itR1_ok, add_i, add_s, add_l, addX_i, addX_s, sub_i, mul_i, div_i, mod_i, pow_i, shl_i, shr_i, and_i, or_i, xor_i, neg_i, not_b, lt_i, le_i, gt_i, ge_i, eq_i, eq_s, ne_i, ne_s, is_non, is_int, is_str, is_tup, is_lst, isnt_non, isnt_int, isnt_str, isnt_tup, toBl_b, toIn_i, ix_s, ix_l, ix_r, ix_t, ix_k, sl_s, sl_l, sl_r, sl_t, len_s, len_l, len_r, len_t, len_k, int_i, int_b, abs_i, min_i, max_i, tup_l, tup_t, list_l, list_r, list_t, isi_i, isi_b, isi_s, isi_l, isi_t, isi_n, ty_ii, ty_bi, ty_ss, ty_ll, ty_tt, ty_tl, ty_lt, ty_tn, find_s, lower_s, sq_nx, sq_sq, sq_a, sq_o, sq_x, sq_if, sq_ret, sq_retL, oOf_o, sq_retO, sq_app, lstK_l, sq_ext, sq_aug, sq_g, sq_frz, sq_br, sq_ct, sq_raise, ofG_some, nx_ap, thenS_nx, thenS_rt, thenS_exc, sq_for, sq_wh, endV_v, endV_o, endV_n, endV_x, endL_o, endL_x, gN_ap, List.getElem?_cons_zero, List.getElem?_cons_succ, List.set_cons_zero, List.set_cons_succ, List.length_cons, List.length_nil, decide_eq_true_eq, Bool.not_eq_true, reduceIte, Bool.false_eq_true, decide_true, decide_false, Nat.reduceAdd, Nat.reduceLeDiff, Nat.reduceLT, Bool.not_true, Bool.not_false, List.nil_append, List.cons_append, List.map_cons, List.map_nil, List.replicate_succ, List.replicate_zero, Bool.not_eq_eq_eq_not, decide_eq_false_iff_not, and_self, and_true, true_and, and_false, false_and, or_true, true_or, or_false, false_or, or_self, Int.reduceLE, Int.reduceLT, Int.reduceNeg, Int.reduceAdd, Int.reduceSub, Int.reduceMul, Int.reduceDiv, Int.reduceMod, Int.reduceEq, Int.reduceToNat, Nat.reduceEqDiff, frz_zero, frz_succ, gT_tup, gT_ktp, gC_ap, gE_nil, cast_0, cast_1, cast_2, cast_3, cast_4, cast_5, cast_6, cast_7, cast_8, cast_9, ty_bs, ty_is, frz_zeroV, oOfR_o, ap_lenO, ap_ixO, tOf_some, pOf_fn, ap_P, ap_iZT, itZT_ok, zipD_cons, zipD_nil, str_i, sq_set, oOfS_o, set_ints, thenW_nx, thenW_ct, thenW_bk, thenW_rt, thenW_exc, at_ok, at_bad, at_exc, at_bind, at_ite, atS_nx, atS_rt, atS_ite, atS_ofE, atS_then, at_endV, endP_v, endP_o, ix_m, len_m, ap_MM, isCL_m, pop0_m, mapp_m, ap_cell, sq_mset, setM_m, e1]
    · rw [if_neg h]
      have hq := get_of (F := F) (q := q + k) (by omega)
      have ix : ixL (dI F) (((q + k : Nat) : Int)) = .ok (.int (F.getD (q + k) 0)) := ixL_get hq
      by_cases hc : okc (F.getD (q + k) 0)
      · rw [if_pos hc]
        have hl2 : acc.length + 1 ≤ 100000 := by omega
        have e1 : b_l_due_1 [.val (.lst (dI F)), x1, .val (.int (e : Int)), x3, .val (.int (q : Int)), .val (.str (tx acc)), .val (.int (k : Int)), s7] = .nx [.val (.lst (dI F)), x1, .val (.int (e : Int)), x3, .val (.int (q : Int)), .val (.str (tx (acc ++ [(F.getD (q + k) 0).toNat]))), .val (.int (k : Int)), .val (.int (F.getD (q + k) 0))] := by
          have lc := l_char_at hc
          unfold okc at hc
          unfold b_l_due_1
          simp only [bind_ok, bind_exc, bind_bad, ofE_ok, ofE_exc, vOf_v, ap_C, ap_V, ap_nil, ap_cons, ap_U, ap_B, ap_chain, ap_and, ap_or, ap_tup, ap_F, ap_M, ap_sl, ap_pN, ap_pS, ap_L, ap_tE, ap_tAn, ap_tO, ap_tN, ap_tY, ap_if, ap_lD, ap_lF, ap_lCat, catL_ok, ap_lRep, repL_ok, ap_lSl, slL_lst, slL_scr, ap_iD, itL_lst, itL_scr, ap_iT, itT_tup, itT_ktp, ap_iS, itS_str, ap_iR1, itR1_ok, add_i, add_s, add_l, addX_i, addX_s, sub_i, mul_i, div_i, mod_i, pow_i, shl_i, shr_i, and_i, or_i, xor_i, neg_i, not_b, lt_i, le_i, gt_i, ge_i, eq_i, eq_s, ne_i, ne_s, is_non, is_int, is_str, is_tup, is_lst, isnt_non, isnt_int, isnt_str, isnt_tup, toBl_b, toIn_i, ix_s, ix_l, ix_r, ix_t, ix_k, sl_s, sl_l, sl_r, sl_t, len_s, len_l, len_r, len_t, len_k, int_i, int_b, abs_i, min_i, max_i, tup_l, tup_t, list_l, list_r, list_t, isi_i, isi_b, isi_s, isi_l, isi_t, isi_n, ty_ii, ty_bi, ty_ss, ty_ll, ty_tt, ty_tl, ty_lt, ty_tn, find_s, lower_s, sq_nx, sq_sq, sq_a, sq_o, sq_x, sq_if, sq_ret, sq_retL, oOf_o, sq_retO, sq_app, lstK_l, sq_ext, sq_aug, sq_g, sq_frz, sq_br, sq_ct, sq_raise, ofG_some, nx_ap, thenS_nx, thenS_rt, thenS_exc, sq_for, sq_wh, endV_v, endV_o, endV_n, endV_x, endL_o, endL_x, gN_ap, List.getElem?_cons_zero, List.getElem?_cons_succ, List.set_cons_zero, List.set_cons_succ, List.length_cons, List.length_nil, decide_eq_true_eq, Bool.not_eq_true, reduceIte, Bool.false_eq_true, decide_true, decide_false, Nat.reduceAdd, Nat.reduceLeDiff, Nat.reduceLT, Bool.not_true, Bool.not_false, List.nil_append, List.cons_append, List.map_cons, List.map_nil, List.replicate_succ, List.replicate_zero, Bool.not_eq_eq_eq_not, decide_eq_false_iff_not, and_self, and_true, true_and, and_false, false_and, or_true, true_or, or_false, false_or, or_self, Int.reduceLE, Int.reduceLT, Int.reduceNeg, Int.reduceAdd, Int.reduceSub, Int.reduceMul, Int.reduceDiv, Int.reduceMod, Int.reduceEq, Int.reduceToNat, Nat.reduceEqDiff, frz_zero, frz_succ, gT_tup, gT_ktp, gC_ap, gE_nil, cast_0, cast_1, cast_2, cast_3, cast_4, cast_5, cast_6, cast_7, cast_8, cast_9, ty_bs, ty_is, frz_zeroV, oOfR_o, ap_lenO, ap_ixO, tOf_some, pOf_fn, ap_P, ap_iZT, itZT_ok, zipD_cons, zipD_nil, str_i, sq_set, oOfS_o, set_ints, thenW_nx, thenW_ct, thenW_bk, thenW_rt, thenW_exc, at_ok, at_bad, at_exc, at_bind, at_ite, atS_nx, atS_rt, atS_ite, atS_ofE, atS_then, at_endV, endP_v, endP_o, ix_m, len_m, ap_MM, isCL_m, pop0_m, mapp_m, ap_cell, sq_mset, setM_m, ck, show ¬ (e : Int) ≤ ((q + k : Nat) : Int) by omega, ix, eq_false (show ¬ F.getD (q + k) 0 < 32 by omega), eq_false (show ¬ 126 < F.getD (q + k) 0 by omega), eq_false hc.2.2, lc, tx_len, tx_cat, hl2]
        simp only [bind_ok, bind_exc, bind_bad, ofE_ok, ofE_exc, vOf_v, ap_C, ap_V, ap_nil, ap_cons, ap_U, ap_B, ap_chain, ap_and, ap_or, ap_tup, ap_F, ap_M, ap_sl, ap_pN, ap_pS, ap_L, ap_tE, ap_tAn, ap_tO, ap_tN, ap_tY, ap_if, ap_lD, ap_lF, ap_lCat, catL_ok, ap_lRep, repL_ok, ap_lSl, slL_lst, slL_scr, ap_iD, itL_lst, itL_scr, ap_iT, itT_tup, itT_ktp, ap_iS, itS_str, ap_iR1, itR1_ok, add_i, add_s, add_l, addX_i, addX_s, sub_i, mul_i, div_i, mod_i, pow_i, shl_i, shr_i, and_i, or_i, xor_i, neg_i, not_b, lt_i, le_i, gt_i, ge_i, eq_i, eq_s, ne_i, ne_s, is_non, is_int, is_str, is_tup, is_lst, isnt_non, isnt_int, isnt_str, isnt_tup, toBl_b, toIn_i, ix_s, ix_l, ix_r, ix_t, ix_k, sl_s, sl_l, sl_r, sl_t, len_s, len_l, len_r, len_t, len_k, int_i, int_b, abs_i, min_i, max_i, tup_l, tup_t, list_l, list_r, list_t, isi_i, isi_b, isi_s, isi_l, isi_t, isi_n, ty_ii, ty_bi, ty_ss, ty_ll, ty_tt, ty_tl, ty_lt, ty_tn, find_s, lower_s, sq_nx, sq_sq, sq_a, sq_o, sq_x, sq_if, sq_ret, sq_retL, oOf_o, sq_retO, sq_app, lstK_l, sq_ext, sq_aug, sq_g, sq_frz, sq_br, sq_ct, sq_raise, ofG_some, nx_ap, thenS_nx, thenS_rt, thenS_exc, sq_for, sq_wh, endV_v, endV_o, endV_n, endV_x, endL_o, endL_x, gN_ap, List.getElem?_cons_zero, List.getElem?_cons_succ, List.set_cons_zero, List.set_cons_succ, List.length_cons, List.length_nil, decide_eq_true_eq, Bool.not_eq_true, reduceIte, Bool.false_eq_true, decide_true, decide_false, Nat.reduceAdd, Nat.reduceLeDiff, Nat.reduceLT, Bool.not_true, Bool.not_false, List.nil_append, List.cons_append, List.map_cons, List.map_nil, List.replicate_succ, List.replicate_zero, Bool.not_eq_eq_eq_not, decide_eq_false_iff_not, and_self, and_true, true_and, and_false, false_and, or_true, true_or, or_false, false_or, or_self, Int.reduceLE, Int.reduceLT, Int.reduceNeg, Int.reduceAdd, Int.reduceSub, Int.reduceMul, Int.reduceDiv, Int.reduceMod, Int.reduceEq, Int.reduceToNat, Nat.reduceEqDiff, frz_zero, frz_succ, gT_tup, gT_ktp, gC_ap, gE_nil, cast_0, cast_1, cast_2, cast_3, cast_4, cast_5, cast_6, cast_7, cast_8, cast_9, ty_bs, ty_is, frz_zeroV, oOfR_o, ap_lenO, ap_ixO, tOf_some, pOf_fn, ap_P, ap_iZT, itZT_ok, zipD_cons, zipD_nil, str_i, sq_set, oOfS_o, set_ints, thenW_nx, thenW_ct, thenW_bk, thenW_rt, thenW_exc, at_ok, at_bad, at_exc, at_bind, at_ite, atS_nx, atS_rt, atS_ite, atS_ofE, atS_then, at_endV, endP_v, endP_o, ix_m, len_m, ap_MM, isCL_m, pop0_m, mapp_m, ap_cell, sq_mset, setM_m, e1]
        have ih := due_scan hF x1 x3 q n (k + 1) (acc ++ [(F.getD (q + k) 0).toNat]) (.val (.int (k : Int))) (.val (.int (F.getD (q + k) 0))) (by rw [List.length_append, List.length_singleton]; omega)
        rw [← Nat.add_assoc] at ih
        exact ih
      · rw [if_neg hc]
        refine Or.inr ⟨_, _, rfl, ?_⟩
        have e1 : b_l_due_1 [.val (.lst (dI F)), x1, .val (.int (e : Int)), x3, .val (.int (q : Int)), .val (.str (tx acc)), .val (.int (k : Int)), s7] = .rt (.val (.tup [.str "invalid name character", .int ((q + k : Nat) : Int)])) := by
          unfold b_l_due_1
          unfold okc at hc
          by_cases a1 : F.getD (q + k) 0 < 32
          · simp only [bind_ok, bind_exc, bind_bad, ofE_ok, ofE_exc, vOf_v, ap_C, ap_V, ap_nil, ap_cons, ap_U, ap_B, ap_chain, ap_and, ap_or, ap_tup, ap_F, ap_M, ap_sl, ap_pN, ap_pS, ap_L, ap_tE, ap_tAn, ap_tO, ap_tN, ap_tY, ap_if, ap_lD, ap_lF, ap_lCat, catL_ok, ap_lRep, repL_ok, ap_lSl, slL_lst, slL_scr, ap_iD, itL_lst, itL_scr, ap_iT, itT_tup, itT_ktp, ap_iS, itS_str, ap_iR1, itR1_ok, add_i, add_s, add_l, addX_i, addX_s, sub_i, mul_i, div_i, mod_i, pow_i, shl_i, shr_i, and_i, or_i, xor_i, neg_i, not_b, lt_i, le_i, gt_i, ge_i, eq_i, eq_s, ne_i, ne_s, is_non, is_int, is_str, is_tup, is_lst, isnt_non, isnt_int, isnt_str, isnt_tup, toBl_b, toIn_i, ix_s, ix_l, ix_r, ix_t, ix_k, sl_s, sl_l, sl_r, sl_t, len_s, len_l, len_r, len_t, len_k, int_i, int_b, abs_i, min_i, max_i, tup_l, tup_t, list_l, list_r, list_t, isi_i, isi_b, isi_s, isi_l, isi_t, isi_n, ty_ii, ty_bi, ty_ss, ty_ll, ty_tt, ty_tl, ty_lt, ty_tn, find_s, lower_s, sq_nx, sq_sq, sq_a, sq_o, sq_x, sq_if, sq_ret, sq_retL, oOf_o, sq_retO, sq_app, lstK_l, sq_ext, sq_aug, sq_g, sq_frz, sq_br, sq_ct, sq_raise, ofG_some, nx_ap, thenS_nx, thenS_rt, thenS_exc, sq_for, sq_wh, endV_v, endV_o, endV_n, endV_x, endL_o, endL_x, gN_ap, List.getElem?_cons_zero, List.getElem?_cons_succ, List.set_cons_zero, List.set_cons_succ, List.length_cons, List.length_nil, decide_eq_true_eq, Bool.not_eq_true, reduceIte, Bool.false_eq_true, decide_true, decide_false, Nat.reduceAdd, Nat.reduceLeDiff, Nat.reduceLT, Bool.not_true, Bool.not_false, List.nil_append, List.cons_append, List.map_cons, List.map_nil, List.replicate_succ, List.replicate_zero, Bool.not_eq_eq_eq_not, decide_eq_false_iff_not, and_self, and_true, true_and, and_false, false_and, or_true, true_or, or_false, false_or, or_self, Int.reduceLE, Int.reduceLT, Int.reduceNeg, Int.reduceAdd, Int.reduceSub, Int.reduceMul, Int.reduceDiv, Int.reduceMod, Int.reduceEq, Int.reduceToNat, Nat.reduceEqDiff, frz_zero, frz_succ, gT_tup, gT_ktp, gC_ap, gE_nil, cast_0, cast_1, cast_2, cast_3, cast_4, cast_5, cast_6, cast_7, cast_8, cast_9, ty_bs, ty_is, frz_zeroV, oOfR_o, ap_lenO, ap_ixO, tOf_some, pOf_fn, ap_P, ap_iZT, itZT_ok, zipD_cons, zipD_nil, str_i, sq_set, oOfS_o, set_ints, thenW_nx, thenW_ct, thenW_bk, thenW_rt, thenW_exc, at_ok, at_bad, at_exc, at_bind, at_ite, atS_nx, atS_rt, atS_ite, atS_ofE, atS_then, at_endV, endP_v, endP_o, ix_m, len_m, ap_MM, isCL_m, pop0_m, mapp_m, ap_cell, sq_mset, setM_m, ck, show ¬ (e : Int) ≤ ((q + k : Nat) : Int) by omega, ix, eq_true a1]
          · by_cases a2 : 126 < F.getD (q + k) 0
            · simp only [bind_ok, bind_exc, bind_bad, ofE_ok, ofE_exc, vOf_v, ap_C, ap_V, ap_nil, ap_cons, ap_U, ap_B, ap_chain, ap_and, ap_or, ap_tup, ap_F, ap_M, ap_sl, ap_pN, ap_pS, ap_L, ap_tE, ap_tAn, ap_tO, ap_tN, ap_tY, ap_if, ap_lD, ap_lF, ap_lCat, catL_ok, ap_lRep, repL_ok, ap_lSl, slL_lst, slL_scr, ap_iD, itL_lst, itL_scr, ap_iT, itT_tup, itT_ktp, ap_iS, itS_str, ap_iR1, itR1_ok, add_i, add_s, add_l, addX_i, addX_s, sub_i, mul_i, div_i, mod_i, pow_i, shl_i, shr_i, and_i, or_i, xor_i, neg_i, not_b, lt_i, le_i, gt_i, ge_i, eq_i, eq_s, ne_i, ne_s, is_non, is_int, is_str, is_tup, is_lst, isnt_non, isnt_int, isnt_str, isnt_tup, toBl_b, toIn_i, ix_s, ix_l, ix_r, ix_t, ix_k, sl_s, sl_l, sl_r, sl_t, len_s, len_l, len_r, len_t, len_k, int_i, int_b, abs_i, min_i, max_i, tup_l, tup_t, list_l, list_r, list_t, isi_i, isi_b, isi_s, isi_l, isi_t, isi_n, ty_ii, ty_bi, ty_ss, ty_ll, ty_tt, ty_tl, ty_lt, ty_tn, find_s, lower_s, sq_nx, sq_sq, sq_a, sq_o, sq_x, sq_if, sq_ret, sq_retL, oOf_o, sq_retO, sq_app, lstK_l, sq_ext, sq_aug, sq_g, sq_frz, sq_br, sq_ct, sq_raise, ofG_some, nx_ap, thenS_nx, thenS_rt, thenS_exc, sq_for, sq_wh, endV_v, endV_o, endV_n, endV_x, endL_o, endL_x, gN_ap, List.getElem?_cons_zero, List.getElem?_cons_succ, List.set_cons_zero, List.set_cons_succ, List.length_cons, List.length_nil, decide_eq_true_eq, Bool.not_eq_true, reduceIte, Bool.false_eq_true, decide_true, decide_false, Nat.reduceAdd, Nat.reduceLeDiff, Nat.reduceLT, Bool.not_true, Bool.not_false, List.nil_append, List.cons_append, List.map_cons, List.map_nil, List.replicate_succ, List.replicate_zero, Bool.not_eq_eq_eq_not, decide_eq_false_iff_not, and_self, and_true, true_and, and_false, false_and, or_true, true_or, or_false, false_or, or_self, Int.reduceLE, Int.reduceLT, Int.reduceNeg, Int.reduceAdd, Int.reduceSub, Int.reduceMul, Int.reduceDiv, Int.reduceMod, Int.reduceEq, Int.reduceToNat, Nat.reduceEqDiff, frz_zero, frz_succ, gT_tup, gT_ktp, gC_ap, gE_nil, cast_0, cast_1, cast_2, cast_3, cast_4, cast_5, cast_6, cast_7, cast_8, cast_9, ty_bs, ty_is, frz_zeroV, oOfR_o, ap_lenO, ap_ixO, tOf_some, pOf_fn, ap_P, ap_iZT, itZT_ok, zipD_cons, zipD_nil, str_i, sq_set, oOfS_o, set_ints, thenW_nx, thenW_ct, thenW_bk, thenW_rt, thenW_exc, at_ok, at_bad, at_exc, at_bind, at_ite, atS_nx, atS_rt, atS_ite, atS_ofE, atS_then, at_endV, endP_v, endP_o, ix_m, len_m, ap_MM, isCL_m, pop0_m, mapp_m, ap_cell, sq_mset, setM_m, ck, show ¬ (e : Int) ≤ ((q + k : Nat) : Int) by omega, ix, eq_false a1, eq_true a2]
            · simp only [bind_ok, bind_exc, bind_bad, ofE_ok, ofE_exc, vOf_v, ap_C, ap_V, ap_nil, ap_cons, ap_U, ap_B, ap_chain, ap_and, ap_or, ap_tup, ap_F, ap_M, ap_sl, ap_pN, ap_pS, ap_L, ap_tE, ap_tAn, ap_tO, ap_tN, ap_tY, ap_if, ap_lD, ap_lF, ap_lCat, catL_ok, ap_lRep, repL_ok, ap_lSl, slL_lst, slL_scr, ap_iD, itL_lst, itL_scr, ap_iT, itT_tup, itT_ktp, ap_iS, itS_str, ap_iR1, itR1_ok, add_i, add_s, add_l, addX_i, addX_s, sub_i, mul_i, div_i, mod_i, pow_i, shl_i, shr_i, and_i, or_i, xor_i, neg_i, not_b, lt_i, le_i, gt_i, ge_i, eq_i, eq_s, ne_i, ne_s, is_non, is_int, is_str, is_tup, is_lst, isnt_non, isnt_int, isnt_str, isnt_tup, toBl_b, toIn_i, ix_s, ix_l, ix_r, ix_t, ix_k, sl_s, sl_l, sl_r, sl_t, len_s, len_l, len_r, len_t, len_k, int_i, int_b, abs_i, min_i, max_i, tup_l, tup_t, list_l, list_r, list_t, isi_i, isi_b, isi_s, isi_l, isi_t, isi_n, ty_ii, ty_bi, ty_ss, ty_ll, ty_tt, ty_tl, ty_lt, ty_tn, find_s, lower_s, sq_nx, sq_sq, sq_a, sq_o, sq_x, sq_if, sq_ret, sq_retL, oOf_o, sq_retO, sq_app, lstK_l, sq_ext, sq_aug, sq_g, sq_frz, sq_br, sq_ct, sq_raise, ofG_some, nx_ap, thenS_nx, thenS_rt, thenS_exc, sq_for, sq_wh, endV_v, endV_o, endV_n, endV_x, endL_o, endL_x, gN_ap, List.getElem?_cons_zero, List.getElem?_cons_succ, List.set_cons_zero, List.set_cons_succ, List.length_cons, List.length_nil, decide_eq_true_eq, Bool.not_eq_true, reduceIte, Bool.false_eq_true, decide_true, decide_false, Nat.reduceAdd, Nat.reduceLeDiff, Nat.reduceLT, Bool.not_true, Bool.not_false, List.nil_append, List.cons_append, List.map_cons, List.map_nil, List.replicate_succ, List.replicate_zero, Bool.not_eq_eq_eq_not, decide_eq_false_iff_not, and_self, and_true, true_and, and_false, false_and, or_true, true_or, or_false, false_or, or_self, Int.reduceLE, Int.reduceLT, Int.reduceNeg, Int.reduceAdd, Int.reduceSub, Int.reduceMul, Int.reduceDiv, Int.reduceMod, Int.reduceEq, Int.reduceToNat, Nat.reduceEqDiff, frz_zero, frz_succ, gT_tup, gT_ktp, gC_ap, gE_nil, cast_0, cast_1, cast_2, cast_3, cast_4, cast_5, cast_6, cast_7, cast_8, cast_9, ty_bs, ty_is, frz_zeroV, oOfR_o, ap_lenO, ap_ixO, tOf_some, pOf_fn, ap_P, ap_iZT, itZT_ok, zipD_cons, zipD_nil, str_i, sq_set, oOfS_o, set_ints, thenW_nx, thenW_ct, thenW_bk, thenW_rt, thenW_exc, at_ok, at_bad, at_exc, at_bind, at_ite, atS_nx, atS_rt, atS_ite, atS_ofE, atS_then, at_endV, endP_v, endP_o, ix_m, len_m, ap_MM, isCL_m, pop0_m, mapp_m, ap_cell, sq_mset, setM_m, ck, show ¬ (e : Int) ≤ ((q + k : Nat) : Int) by omega, ix, eq_false a1, eq_false a2, eq_true (show F.getD (q + k) 0 = 37 by omega)]
        simp only [bind_ok, bind_exc, bind_bad, ofE_ok, ofE_exc, vOf_v, ap_C, ap_V, ap_nil, ap_cons, ap_U, ap_B, ap_chain, ap_and, ap_or, ap_tup, ap_F, ap_M, ap_sl, ap_pN, ap_pS, ap_L, ap_tE, ap_tAn, ap_tO, ap_tN, ap_tY, ap_if, ap_lD, ap_lF, ap_lCat, catL_ok, ap_lRep, repL_ok, ap_lSl, slL_lst, slL_scr, ap_iD, itL_lst, itL_scr, ap_iT, itT_tup, itT_ktp, ap_iS, itS_str, ap_iR1, itR1_ok, add_i, add_s, add_l, addX_i, addX_s, sub_i, mul_i, div_i, mod_i, pow_i, shl_i, shr_i, and_i, or_i, xor_i, neg_i, not_b, lt_i, le_i, gt_i, ge_i, eq_i, eq_s, ne_i, ne_s, is_non, is_int, is_str, is_tup, is_lst, isnt_non, isnt_int, isnt_str, isnt_tup, toBl_b, toIn_i, ix_s, ix_l, ix_r, ix_t, ix_k, sl_s, sl_l, sl_r, sl_t, len_s, len_l, len_r, len_t, len_k, int_i, int_b, abs_i, min_i, max_i, tup_l, tup_t, list_l, list_r, list_t, isi_i, isi_b, isi_s, isi_l, isi_t, isi_n, ty_ii, ty_bi, ty_ss, ty_ll, ty_tt, ty_tl, ty_lt, ty_tn, find_s, lower_s, sq_nx, sq_sq, sq_a, sq_o, sq_x, sq_if, sq_ret, sq_retL, oOf_o, sq_retO, sq_app, lstK_l, sq_ext, sq_aug, sq_g, sq_frz, sq_br, sq_ct, sq_raise, ofG_some, nx_ap, thenS_nx, thenS_rt, thenS_exc, sq_for, sq_wh, endV_v, endV_o, endV_n, endV_x, endL_o, endL_x, gN_ap, List.getElem?_cons_zero, List.getElem?_cons_succ, List.set_cons_zero, List.set_cons_succ, List.length_cons, List.length_nil, decide_eq_true_eq, Bool.not_eq_true, reduceIte, Bool.false_eq_true, decide_true, decide_false, Nat.reduceAdd, Nat.reduceLeDiff, Nat.reduceLT, Bool.not_true, Bool.not_false, List.nil_append, List.cons_append, List.map_cons, List.map_nil, List.replicate_succ, List.replicate_zero, Bool.not_eq_eq_eq_not, decide_eq_false_iff_not, and_self, and_true, true_and, and_false, false_and, or_true, true_or, or_false, false_or, or_self, Int.reduceLE, Int.reduceLT, Int.reduceNeg, Int.reduceAdd, Int.reduceSub, Int.reduceMul, Int.reduceDiv, Int.reduceMod, Int.reduceEq, Int.reduceToNat, Nat.reduceEqDiff, frz_zero, frz_succ, gT_tup, gT_ktp, gC_ap, gE_nil, cast_0, cast_1, cast_2, cast_3, cast_4, cast_5, cast_6, cast_7, cast_8, cast_9, ty_bs, ty_is, frz_zeroV, oOfR_o, ap_lenO, ap_ixO, tOf_some, pOf_fn, ap_P, ap_iZT, itZT_ok, zipD_cons, zipD_nil, str_i, sq_set, oOfS_o, set_ints, thenW_nx, thenW_ct, thenW_bk, thenW_rt, thenW_exc, at_ok, at_bad, at_exc, at_bind, at_ite, atS_nx, atS_rt, atS_ite, atS_ofE, atS_then, at_endV, endP_v, endP_o, ix_m, len_m, ap_MM, isCL_m, pop0_m, mapp_m, ap_cell, sq_mset, setM_m, e1]
/-- the end of what is due, from the count on -/
theorem due_tail {F : List Int} {e c q : Nat} (hF : e ≤ F.length) (x1 x5 x6 x7 : Sl) : endV ((sSeq (sIf (tE (eB dGt (eV 3) (eC (.int 60)))) (sSeq (sRet (eTup (eCons (eC (.str "name too long")) (eCons (eV 4) eNil))))
  sNx) sNx)
  (sSeq (sA 5 (eC (.str "")))
  (sSeq (sFor (iR1 (eCons (eV 3) eNil)) (gN 6) b_l_due_1)
  (sSeq (sRet (eTup (eCons (eV 5) (eCons (eB dAdd (eV 4) (eV 3)) eNil))))
  sNx)))) [.val (.lst (dI F)), x1, .val (.int (e : Int)), .val (.int (c : Int)), .val (.int (q : Int)), x5, x6, x7]) = match name F e c q with
      | .ok r => .ok (.tup [.str (tx r), .int (q + c : Nat)])
      | .error (w, z) => .ok (.tup [.str w, .int z]) := by
  unfold name
  by_cases h6 : 60 < c
  · rw [if_pos h6]
    simp only [bind_ok, bind_exc, bind_bad, ofE_ok, ofE_exc, vOf_v, ap_C, ap_V, ap_nil, ap_cons, ap_U, ap_B, ap_chain, ap_and, ap_or, ap_tup, ap_F, ap_M, ap_sl, ap_pN, ap_pS, ap_L, ap_tE, ap_tAn, ap_tO, ap_tN, ap_tY, ap_if, ap_lD, ap_lF, ap_lCat, catL_ok, ap_lRep, repL_ok, ap_lSl, slL_lst, slL_scr, ap_iD, itL_lst, itL_scr, ap_iT, itT_tup, itT_ktp, ap_iS, itS_str, ap_iR1, itR1_ok, add_i, add_s, add_l, addX_i, addX_s, sub_i, mul_i, div_i, mod_i, pow_i, shl_i, shr_i, and_i, or_i, xor_i, neg_i, not_b, lt_i, le_i, gt_i, ge_i, eq_i, eq_s, ne_i, ne_s, is_non, is_int, is_str, is_tup, is_lst, isnt_non, isnt_int, isnt_str, isnt_tup, toBl_b, toIn_i, ix_s, ix_l, ix_r, ix_t, ix_k, sl_s, sl_l, sl_r, sl_t, len_s, len_l, len_r, len_t, len_k, int_i, int_b, abs_i, min_i, max_i, tup_l, tup_t, list_l, list_r, list_t, isi_i, isi_b, isi_s, isi_l, isi_t, isi_n, ty_ii, ty_bi, ty_ss, ty_ll, ty_tt, ty_tl, ty_lt, ty_tn, find_s, lower_s, sq_nx, sq_sq, sq_a, sq_o, sq_x, sq_if, sq_ret, sq_retL, oOf_o, sq_retO, sq_app, lstK_l, sq_ext, sq_aug, sq_g, sq_frz, sq_br, sq_ct, sq_raise, ofG_some, nx_ap, thenS_nx, thenS_rt, thenS_exc, sq_for, sq_wh, endV_v, endV_o, endV_n, endV_x, endL_o, endL_x, gN_ap, List.getElem?_cons_zero, List.getElem?_cons_succ, List.set_cons_zero, List.set_cons_succ, List.length_cons, List.length_nil, decide_eq_true_eq, Bool.not_eq_true, reduceIte, Bool.false_eq_true, decide_true, decide_false, Nat.reduceAdd, Nat.reduceLeDiff, Nat.reduceLT, Bool.not_true, Bool.not_false, List.nil_append, List.cons_append, List.map_cons, List.map_nil, List.replicate_succ, List.replicate_zero, Bool.not_eq_eq_eq_not, decide_eq_false_iff_not, and_self, and_true, true_and, and_false, false_and, or_true, true_or, or_false, false_or, or_self, Int.reduceLE, Int.reduceLT, Int.reduceNeg, Int.reduceAdd, Int.reduceSub, Int.reduceMul, Int.reduceDiv, Int.reduceMod, Int.reduceEq, Int.reduceToNat, Nat.reduceEqDiff, frz_zero, frz_succ, gT_tup, gT_ktp, gC_ap, gE_nil, cast_0, cast_1, cast_2, cast_3, cast_4, cast_5, cast_6, cast_7, cast_8, cast_9, ty_bs, ty_is, frz_zeroV, oOfR_o, ap_lenO, ap_ixO, tOf_some, pOf_fn, ap_P, ap_iZT, itZT_ok, zipD_cons, zipD_nil, str_i, sq_set, oOfS_o, set_ints, thenW_nx, thenW_ct, thenW_bk, thenW_rt, thenW_exc, at_ok, at_bad, at_exc, at_bind, at_ite, atS_nx, atS_rt, atS_ite, atS_ofE, atS_then, at_endV, endP_v, endP_o, ix_m, len_m, ap_MM, isCL_m, pop0_m, mapp_m, ap_cell, sq_mset, setM_m, show (60 : Int) < (c : Int) by omega]
  · rw [if_neg h6]
    rcases due_scan hF x1 (.val (.int (c : Int))) q c 0 [] x6 x7 (by simp; omega) with ⟨r, t6, t7, h1, h2⟩ | ⟨w, z, h1, h2⟩
    · rw [Nat.add_zero] at h1
      rw [← List.range_eq_range'] at h2
      rw [h1]
      simp only [bind_ok, bind_exc, bind_bad, ofE_ok, ofE_exc, vOf_v, ap_C, ap_V, ap_nil, ap_cons, ap_U, ap_B, ap_chain, ap_and, ap_or, ap_tup, ap_F, ap_M, ap_sl, ap_pN, ap_pS, ap_L, ap_tE, ap_tAn, ap_tO, ap_tN, ap_tY, ap_if, ap_lD, ap_lF, ap_lCat, catL_ok, ap_lRep, repL_ok, ap_lSl, slL_lst, slL_scr, ap_iD, itL_lst, itL_scr, ap_iT, itT_tup, itT_ktp, ap_iS, itS_str, ap_iR1, itR1_ok, add_i, add_s, add_l, addX_i, addX_s, sub_i, mul_i, div_i, mod_i, pow_i, shl_i, shr_i, and_i, or_i, xor_i, neg_i, not_b, lt_i, le_i, gt_i, ge_i, eq_i, eq_s, ne_i, ne_s, is_non, is_int, is_str, is_tup, is_lst, isnt_non, isnt_int, isnt_str, isnt_tup, toBl_b, toIn_i, ix_s, ix_l, ix_r, ix_t, ix_k, sl_s, sl_l, sl_r, sl_t, len_s, len_l, len_r, len_t, len_k, int_i, int_b, abs_i, min_i, max_i, tup_l, tup_t, list_l, list_r, list_t, isi_i, isi_b, isi_s, isi_l, isi_t, isi_n, ty_ii, ty_bi, ty_ss, ty_ll, ty_tt, ty_tl, ty_lt, ty_tn, find_s, lower_s, sq_nx, sq_sq, sq_a, sq_o, sq_x, sq_if, sq_ret, sq_retL, oOf_o, sq_retO, sq_app, lstK_l, sq_ext, sq_aug, sq_g, sq_frz, sq_br, sq_ct, sq_raise, ofG_some, nx_ap, thenS_nx, thenS_rt, thenS_exc, sq_for, sq_wh, endV_v, endV_o, endV_n, endV_x, endL_o, endL_x, gN_ap, List.getElem?_cons_zero, List.getElem?_cons_succ, List.set_cons_zero, List.set_cons_succ, List.length_cons, List.length_nil, decide_eq_true_eq, Bool.not_eq_true, reduceIte, Bool.false_eq_true, decide_true, decide_false, Nat.reduceAdd, Nat.reduceLeDiff, Nat.reduceLT, Bool.not_true, Bool.not_false, List.nil_append, List.cons_append, List.map_cons, List.map_nil, List.replicate_succ, List.replicate_zero, Bool.not_eq_eq_eq_not, decide_eq_false_iff_not, and_self, and_true, true_and, and_false, false_and, or_true, true_or, or_false, false_or, or_self, Int.reduceLE, Int.reduceLT, Int.reduceNeg, Int.reduceAdd, Int.reduceSub, Int.reduceMul, Int.reduceDiv, Int.reduceMod, Int.reduceEq, Int.reduceToNat, Nat.reduceEqDiff, frz_zero, frz_succ, gT_tup, gT_ktp, gC_ap, gE_nil, cast_0, cast_1, cast_2, cast_3, cast_4, cast_5, cast_6, cast_7, cast_8, cast_9, ty_bs, ty_is, frz_zeroV, oOfR_o, ap_lenO, ap_ixO, tOf_some, pOf_fn, ap_P, ap_iZT, itZT_ok, zipD_cons, zipD_nil, str_i, sq_set, oOfS_o, set_ints, thenW_nx, thenW_ct, thenW_bk, thenW_rt, thenW_exc, at_ok, at_bad, at_exc, at_bind, at_ite, atS_nx, atS_rt, atS_ite, atS_ofE, atS_then, at_endV, endP_v, endP_o, ix_m, len_m, ap_MM, isCL_m, pop0_m, mapp_m, ap_cell, sq_mset, setM_m, show ¬ (60 : Int) < (c : Int) by omega, e_tx, show (c : Int) ≤ 100000 by omega, show (-100000 : Int) ≤ (c : Int) by omega, Int.toNat_natCast, h2]
      rfl
    · rw [Nat.add_zero] at h1
      rw [← List.range_eq_range'] at h2
      rw [h1]
      simp only [bind_ok, bind_exc, bind_bad, ofE_ok, ofE_exc, vOf_v, ap_C, ap_V, ap_nil, ap_cons, ap_U, ap_B, ap_chain, ap_and, ap_or, ap_tup, ap_F, ap_M, ap_sl, ap_pN, ap_pS, ap_L, ap_tE, ap_tAn, ap_tO, ap_tN, ap_tY, ap_if, ap_lD, ap_lF, ap_lCat, catL_ok, ap_lRep, repL_ok, ap_lSl, slL_lst, slL_scr, ap_iD, itL_lst, itL_scr, ap_iT, itT_tup, itT_ktp, ap_iS, itS_str, ap_iR1, itR1_ok, add_i, add_s, add_l, addX_i, addX_s, sub_i, mul_i, div_i, mod_i, pow_i, shl_i, shr_i, and_i, or_i, xor_i, neg_i, not_b, lt_i, le_i, gt_i, ge_i, eq_i, eq_s, ne_i, ne_s, is_non, is_int, is_str, is_tup, is_lst, isnt_non, isnt_int, isnt_str, isnt_tup, toBl_b, toIn_i, ix_s, ix_l, ix_r, ix_t, ix_k, sl_s, sl_l, sl_r, sl_t, len_s, len_l, len_r, len_t, len_k, int_i, int_b, abs_i, min_i, max_i, tup_l, tup_t, list_l, list_r, list_t, isi_i, isi_b, isi_s, isi_l, isi_t, isi_n, ty_ii, ty_bi, ty_ss, ty_ll, ty_tt, ty_tl, ty_lt, ty_tn, find_s, lower_s, sq_nx, sq_sq, sq_a, sq_o, sq_x, sq_if, sq_ret, sq_retL, oOf_o, sq_retO, sq_app, lstK_l, sq_ext, sq_aug, sq_g, sq_frz, sq_br, sq_ct, sq_raise, ofG_some, nx_ap, thenS_nx, thenS_rt, thenS_exc, sq_for, sq_wh, endV_v, endV_o, endV_n, endV_x, endL_o, endL_x, gN_ap, List.getElem?_cons_zero, List.getElem?_cons_succ, List.set_cons_zero, List.set_cons_succ, List.length_cons, List.length_nil, decide_eq_true_eq, Bool.not_eq_true, reduceIte, Bool.false_eq_true, decide_true, decide_false, Nat.reduceAdd, Nat.reduceLeDiff, Nat.reduceLT, Bool.not_true, Bool.not_false, List.nil_append, List.cons_append, List.map_cons, List.map_nil, List.replicate_succ, List.replicate_zero, Bool.not_eq_eq_eq_not, decide_eq_false_iff_not, and_self, and_true, true_and, and_false, false_and, or_true, true_or, or_false, false_or, or_self, Int.reduceLE, Int.reduceLT, Int.reduceNeg, Int.reduceAdd, Int.reduceSub, Int.reduceMul, Int.reduceDiv, Int.reduceMod, Int.reduceEq, Int.reduceToNat, Nat.reduceEqDiff, frz_zero, frz_succ, gT_tup, gT_ktp, gC_ap, gE_nil, cast_0, cast_1, cast_2, cast_3, cast_4, cast_5, cast_6, cast_7, cast_8, cast_9, ty_bs, ty_is, frz_zeroV, oOfR_o, ap_lenO, ap_ixO, tOf_some, pOf_fn, ap_P, ap_iZT, itZT_ok, zipD_cons, zipD_nil, str_i, sq_set, oOfS_o, set_ints, thenW_nx, thenW_ct, thenW_bk, thenW_rt, thenW_exc, at_ok, at_bad, at_exc, at_bind, at_ite, atS_nx, atS_rt, atS_ite, atS_ofE, atS_then, at_endV, endP_v, endP_o, ix_m, len_m, ap_MM, isCL_m, pop0_m, mapp_m, ap_cell, sq_mset, setM_m, show ¬ (60 : Int) < (c : Int) by omega, e_tx, show (c : Int) ≤ 100000 by omega, show (-100000 : Int) ≤ (c : Int) by omega, Int.toNat_natCast, h2]
/-! both agree -/
def Agree (F : List Int) (p e : Nat) : Prop := m_l_due [.lst (dI F), .int (p : Int), .int (e : Int)] = .ok .non ∨
  (∃ r z, (∀ c ∈ r, c < 128) ∧ m_l_due [.lst (dI F), .int (p : Int), .int (e : Int)] = .ok (.tup [.str (tx r), .int z]) ∧ m_read_name [.lst (dI F), .int (p : Int), .int (e : Int)] = .ok (.tup [.str (tx r), .int z])) ∨
  ∃ (w : Str) (z : Int), (w = "unexpected end" ∨ w = "name too long" ∨ w = "invalid name character") ∧ m_l_due [.lst (dI F), .int (p : Int), .int (e : Int)] = .ok (.tup [.str w, .int z]) ∧ m_read_name [.lst (dI F), .int (p : Int), .int (e : Int)] = .exc 1001 (X w z)
theorem scan_word {F : List Int} {e : Nat} : ∀ (n q : Nat) (acc : List Nat) (w : Str) (z : Int), scan F e n q acc = .error (w, z) → w = "unexpected end" ∨ w = "invalid name character"
  | 0, q, acc, w, z, h => by unfold scan at h; cases h
  | n + 1, q, acc, w, z, h => by
    unfold scan at h
    by_cases h1 : e ≤ q
    · rw [if_pos h1] at h; cases h; exact Or.inl rfl
    · rw [if_neg h1] at h
      by_cases hc : okc (F.getD q 0)
      · rw [if_pos hc] at h; exact scan_word n _ _ w z h
      · rw [if_neg hc] at h; cases h; exact Or.inr rfl
theorem agree_of {F : List Int} {p e c q : Nat} (hF : e ≤ F.length) (hi : m_read_index [.lst (dI F), .int (p : Int), .int (e : Int)] = .ok (.tup [.int (c : Int), .int (q : Int)]))
    (hd : m_l_due [.lst (dI F), .int (p : Int), .int (e : Int)] = match name F e c q with
      | .ok r => .ok (.tup [.str (tx r), .int (q + c : Nat)])
      | .error (w, z) => .ok (.tup [.str w, .int z])) : Agree F p e := by
  have hn := name_of hF hi
  unfold Agree
  cases h : name F e c q with
  | ok r =>
    rw [h] at hn hd
    refine Or.inr (Or.inl ⟨r, _, ?_, hd, hn⟩)
    unfold name at h
    by_cases h6 : 60 < c
    · rw [if_pos h6] at h; cases h
    · rw [if_neg h6] at h
      exact (scan_rng c q [] r h fun c h => by cases h).1
  | error x =>
    obtain ⟨w, z⟩ := x
    rw [h] at hn hd
    refine Or.inr (Or.inr ⟨w, z, ?_, hd, hn⟩)
    unfold name at h
    by_cases h6 : 60 < c
    · rw [if_pos h6] at h; cases h; exact Or.inr (Or.inl rfl)
    · rw [if_neg h6] at h
      rcases scan_word c q [] w z h with h | h
      · exact Or.inl h
      · exact Or.inr (Or.inr h)
theorem agree {F : List Int} (hb : By F) {p e : Nat} (hF : e ≤ F.length) : Agree F p e := by
  by_cases h1 : e ≤ p
  · refine Or.inr (Or.inr ⟨"unexpected end", e, Or.inl rfl, ?_, ?_⟩)
    · rw [e_l_due]
      unfold b_l_due
      simp only [bind_ok, bind_exc, bind_bad, ofE_ok, ofE_exc, vOf_v, ap_C, ap_V, ap_nil, ap_cons, ap_U, ap_B, ap_chain, ap_and, ap_or, ap_tup, ap_F, ap_M, ap_sl, ap_pN, ap_pS, ap_L, ap_tE, ap_tAn, ap_tO, ap_tN, ap_tY, ap_if, ap_lD, ap_lF, ap_lCat, catL_ok, ap_lRep, repL_ok, ap_lSl, slL_lst, slL_scr, ap_iD, itL_lst, itL_scr, ap_iT, itT_tup, itT_ktp, ap_iS, itS_str, ap_iR1, itR1_ok, add_i, add_s, add_l, addX_i, addX_s, sub_i, mul_i, div_i, mod_i, pow_i, shl_i, shr_i, and_i, or_i, xor_i, neg_i, not_b, lt_i, le_i, gt_i, ge_i, eq_i, eq_s, ne_i, ne_s, is_non, is_int, is_str, is_tup, is_lst, isnt_non, isnt_int, isnt_str, isnt_tup, toBl_b, toIn_i, ix_s, ix_l, ix_r, ix_t, ix_k, sl_s, sl_l, sl_r, sl_t, len_s, len_l, len_r, len_t, len_k, int_i, int_b, abs_i, min_i, max_i, tup_l, tup_t, list_l, list_r, list_t, isi_i, isi_b, isi_s, isi_l, isi_t, isi_n, ty_ii, ty_bi, ty_ss, ty_ll, ty_tt, ty_tl, ty_lt, ty_tn, find_s, lower_s, sq_nx, sq_sq, sq_a, sq_o, sq_x, sq_if, sq_ret, sq_retL, oOf_o, sq_retO, sq_app, lstK_l, sq_ext, sq_aug, sq_g, sq_frz, sq_br, sq_ct, sq_raise, ofG_some, nx_ap, thenS_nx, thenS_rt, thenS_exc, sq_for, sq_wh, endV_v, endV_o, endV_n, endV_x, endL_o, endL_x, gN_ap, List.getElem?_cons_zero, List.getElem?_cons_succ, List.set_cons_zero, List.set_cons_succ, List.length_cons, List.length_nil, decide_eq_true_eq, Bool.not_eq_true, reduceIte, Bool.false_eq_true, decide_true, decide_false, Nat.reduceAdd, Nat.reduceLeDiff, Nat.reduceLT, Bool.not_true, Bool.not_false, List.nil_append, List.cons_append, List.map_cons, List.map_nil, List.replicate_succ, List.replicate_zero, Bool.not_eq_eq_eq_not, decide_eq_false_iff_not, and_self, and_true, true_and, and_false, false_and, or_true, true_or, or_false, false_or, or_self, Int.reduceLE, Int.reduceLT, Int.reduceNeg, Int.reduceAdd, Int.reduceSub, Int.reduceMul, Int.reduceDiv, Int.reduceMod, Int.reduceEq, Int.reduceToNat, Nat.reduceEqDiff, frz_zero, frz_succ, gT_tup, gT_ktp, gC_ap, gE_nil, cast_0, cast_1, cast_2, cast_3, cast_4, cast_5, cast_6, cast_7, cast_8, cast_9, ty_bs, ty_is, frz_zeroV, oOfR_o, ap_lenO, ap_ixO, tOf_some, pOf_fn, ap_P, ap_iZT, itZT_ok, zipD_cons, zipD_nil, str_i, sq_set, oOfS_o, set_ints, thenW_nx, thenW_ct, thenW_bk, thenW_rt, thenW_exc, at_ok, at_bad, at_exc, at_bind, at_ite, atS_nx, atS_rt, atS_ite, atS_ofE, atS_then, at_endV, endP_v, endP_o, ix_m, len_m, ap_MM, isCL_m, pop0_m, mapp_m, ap_cell, sq_mset, setM_m, show (e : Int) ≤ (p : Int) by omega]
    · rw [e_read_name]
      unfold b_read_name
      simp only [bind_ok, bind_exc, bind_bad, ofE_ok, ofE_exc, vOf_v, ap_C, ap_V, ap_nil, ap_cons, ap_U, ap_B, ap_chain, ap_and, ap_or, ap_tup, ap_F, ap_M, ap_sl, ap_pN, ap_pS, ap_L, ap_tE, ap_tAn, ap_tO, ap_tN, ap_tY, ap_if, ap_lD, ap_lF, ap_lCat, catL_ok, ap_lRep, repL_ok, ap_lSl, slL_lst, slL_scr, ap_iD, itL_lst, itL_scr, ap_iT, itT_tup, itT_ktp, ap_iS, itS_str, ap_iR1, itR1_ok, add_i, add_s, add_l, addX_i, addX_s, sub_i, mul_i, div_i, mod_i, pow_i, shl_i, shr_i, and_i, or_i, xor_i, neg_i, not_b, lt_i, le_i, gt_i, ge_i, eq_i, eq_s, ne_i, ne_s, is_non, is_int, is_str, is_tup, is_lst, isnt_non, isnt_int, isnt_str, isnt_tup, toBl_b, toIn_i, ix_s, ix_l, ix_r, ix_t, ix_k, sl_s, sl_l, sl_r, sl_t, len_s, len_l, len_r, len_t, len_k, int_i, int_b, abs_i, min_i, max_i, tup_l, tup_t, list_l, list_r, list_t, isi_i, isi_b, isi_s, isi_l, isi_t, isi_n, ty_ii, ty_bi, ty_ss, ty_ll, ty_tt, ty_tl, ty_lt, ty_tn, find_s, lower_s, sq_nx, sq_sq, sq_a, sq_o, sq_x, sq_if, sq_ret, sq_retL, oOf_o, sq_retO, sq_app, lstK_l, sq_ext, sq_aug, sq_g, sq_frz, sq_br, sq_ct, sq_raise, ofG_some, nx_ap, thenS_nx, thenS_rt, thenS_exc, sq_for, sq_wh, endV_v, endV_o, endV_n, endV_x, endL_o, endL_x, gN_ap, List.getElem?_cons_zero, List.getElem?_cons_succ, List.set_cons_zero, List.set_cons_succ, List.length_cons, List.length_nil, decide_eq_true_eq, Bool.not_eq_true, reduceIte, Bool.false_eq_true, decide_true, decide_false, Nat.reduceAdd, Nat.reduceLeDiff, Nat.reduceLT, Bool.not_true, Bool.not_false, List.nil_append, List.cons_append, List.map_cons, List.map_nil, List.replicate_succ, List.replicate_zero, Bool.not_eq_eq_eq_not, decide_eq_false_iff_not, and_self, and_true, true_and, and_false, false_and, or_true, true_or, or_false, false_or, or_self, Int.reduceLE, Int.reduceLT, Int.reduceNeg, Int.reduceAdd, Int.reduceSub, Int.reduceMul, Int.reduceDiv, Int.reduceMod, Int.reduceEq, Int.reduceToNat, Nat.reduceEqDiff, frz_zero, frz_succ, gT_tup, gT_ktp, gC_ap, gE_nil, cast_0, cast_1, cast_2, cast_3, cast_4, cast_5, cast_6, cast_7, cast_8, cast_9, ty_bs, ty_is, frz_zeroV, oOfR_o, ap_lenO, ap_ixO, tOf_some, pOf_fn, ap_P, ap_iZT, itZT_ok, zipD_cons, zipD_nil, str_i, sq_set, oOfS_o, set_ints, thenW_nx, thenW_ct, thenW_bk, thenW_rt, thenW_exc, at_ok, at_bad, at_exc, at_bind, at_ite, atS_nx, atS_rt, atS_ite, atS_ofE, atS_then, at_endV, endP_v, endP_o, ix_m, len_m, ap_MM, isCL_m, pop0_m, mapp_m, ap_cell, sq_mset, setM_m, idx_end (F := F) h1]
  · have hp := get_of (F := F) (q := p) (by omega)
    have hr := hb _ (List.mem_of_getElem? hp)
    obtain ⟨c, hc⟩ : ∃ c : Nat, F.getD p 0 = c := ⟨(F.getD p 0).toNat, by omega⟩
    rw [hc] at hp hr
    have ix := ixL_get hp
    have c1 : (p : Int) + 1 = ((p + 1 : Nat) : Int) := rfl
    have ne : ¬ (e : Int) ≤ (p : Int) := by omega
    by_cases h2 : c < 128
    · refine agree_of (c := c) (q := p + 1) hF (idx_1 hp (by omega) (by omega) (by omega)) ?_
      rw [← due_tail (c := c) (q := p + 1) hF (.val (.int (p : Int))) .un .un .un, e_l_due]
      unfold b_l_due
      rw [sq_if]
      simp only [bind_ok, bind_exc, bind_bad, ofE_ok, ofE_exc, vOf_v, ap_C, ap_V, ap_nil, ap_cons, ap_U, ap_B, ap_chain, ap_and, ap_or, ap_tup, ap_F, ap_M, ap_sl, ap_pN, ap_pS, ap_L, ap_tE, ap_tAn, ap_tO, ap_tN, ap_tY, ap_if, ap_lD, ap_lF, ap_lCat, catL_ok, ap_lRep, repL_ok, ap_lSl, slL_lst, slL_scr, ap_iD, itL_lst, itL_scr, ap_iT, itT_tup, itT_ktp, ap_iS, itS_str, ap_iR1, itR1_ok, add_i, add_s, add_l, addX_i, addX_s, sub_i, mul_i, div_i, mod_i, pow_i, shl_i, shr_i, and_i, or_i, xor_i, neg_i, not_b, lt_i, le_i, gt_i, ge_i, eq_i, eq_s, ne_i, ne_s, is_non, is_int, is_str, is_tup, is_lst, isnt_non, isnt_int, isnt_str, isnt_tup, toBl_b, toIn_i, ix_s, ix_l, ix_r, ix_t, ix_k, sl_s, sl_l, sl_r, sl_t, len_s, len_l, len_r, len_t, len_k, int_i, int_b, abs_i, min_i, max_i, tup_l, tup_t, list_l, list_r, list_t, isi_i, isi_b, isi_s, isi_l, isi_t, isi_n, ty_ii, ty_bi, ty_ss, ty_ll, ty_tt, ty_tl, ty_lt, ty_tn, find_s, lower_s, sq_nx, sq_sq, sq_a, sq_o, sq_x, sq_if, sq_ret, sq_retL, oOf_o, sq_retO, sq_app, lstK_l, sq_ext, sq_aug, sq_g, sq_frz, sq_br, sq_ct, sq_raise, ofG_some, nx_ap, thenS_nx, thenS_rt, thenS_exc, sq_for, sq_wh, endV_v, endV_o, endV_n, endV_x, endL_o, endL_x, gN_ap, List.getElem?_cons_zero, List.getElem?_cons_succ, List.set_cons_zero, List.set_cons_succ, List.length_cons, List.length_nil, decide_eq_true_eq, Bool.not_eq_true, reduceIte, Bool.false_eq_true, decide_true, decide_false, Nat.reduceAdd, Nat.reduceLeDiff, Nat.reduceLT, Bool.not_true, Bool.not_false, List.nil_append, List.cons_append, List.map_cons, List.map_nil, List.replicate_succ, List.replicate_zero, Bool.not_eq_eq_eq_not, decide_eq_false_iff_not, and_self, and_true, true_and, and_false, false_and, or_true, true_or, or_false, false_or, or_self, Int.reduceLE, Int.reduceLT, Int.reduceNeg, Int.reduceAdd, Int.reduceSub, Int.reduceMul, Int.reduceDiv, Int.reduceMod, Int.reduceEq, Int.reduceToNat, Nat.reduceEqDiff, frz_zero, frz_succ, gT_tup, gT_ktp, gC_ap, gE_nil, cast_0, cast_1, cast_2, cast_3, cast_4, cast_5, cast_6, cast_7, cast_8, cast_9, ty_bs, ty_is, frz_zeroV, oOfR_o, ap_lenO, ap_ixO, tOf_some, pOf_fn, ap_P, ap_iZT, itZT_ok, zipD_cons, zipD_nil, str_i, sq_set, oOfS_o, set_ints, thenW_nx, thenW_ct, thenW_bk, thenW_rt, thenW_exc, at_ok, at_bad, at_exc, at_bind, at_ite, atS_nx, atS_rt, atS_ite, atS_ofE, atS_then, at_endV, endP_v, endP_o, ix_m, len_m, ap_MM, isCL_m, pop0_m, mapp_m, ap_cell, sq_mset, setM_m, - sq_if, - sq_a, ne]
      rw [sq_a]
      simp only [bind_ok, bind_exc, bind_bad, ofE_ok, ofE_exc, vOf_v, ap_C, ap_V, ap_nil, ap_cons, ap_U, ap_B, ap_chain, ap_and, ap_or, ap_tup, ap_F, ap_M, ap_sl, ap_pN, ap_pS, ap_L, ap_tE, ap_tAn, ap_tO, ap_tN, ap_tY, ap_if, ap_lD, ap_lF, ap_lCat, catL_ok, ap_lRep, repL_ok, ap_lSl, slL_lst, slL_scr, ap_iD, itL_lst, itL_scr, ap_iT, itT_tup, itT_ktp, ap_iS, itS_str, ap_iR1, itR1_ok, add_i, add_s, add_l, addX_i, addX_s, sub_i, mul_i, div_i, mod_i, pow_i, shl_i, shr_i, and_i, or_i, xor_i, neg_i, not_b, lt_i, le_i, gt_i, ge_i, eq_i, eq_s, ne_i, ne_s, is_non, is_int, is_str, is_tup, is_lst, isnt_non, isnt_int, isnt_str, isnt_tup, toBl_b, toIn_i, ix_s, ix_l, ix_r, ix_t, ix_k, sl_s, sl_l, sl_r, sl_t, len_s, len_l, len_r, len_t, len_k, int_i, int_b, abs_i, min_i, max_i, tup_l, tup_t, list_l, list_r, list_t, isi_i, isi_b, isi_s, isi_l, isi_t, isi_n, ty_ii, ty_bi, ty_ss, ty_ll, ty_tt, ty_tl, ty_lt, ty_tn, find_s, lower_s, sq_nx, sq_sq, sq_a, sq_o, sq_x, sq_if, sq_ret, sq_retL, oOf_o, sq_retO, sq_app, lstK_l, sq_ext, sq_aug, sq_g, sq_frz, sq_br, sq_ct, sq_raise, ofG_some, nx_ap, thenS_nx, thenS_rt, thenS_exc, sq_for, sq_wh, endV_v, endV_o, endV_n, endV_x, endL_o, endL_x, gN_ap, List.getElem?_cons_zero, List.getElem?_cons_succ, List.set_cons_zero, List.set_cons_succ, List.length_cons, List.length_nil, decide_eq_true_eq, Bool.not_eq_true, reduceIte, Bool.false_eq_true, decide_true, decide_false, Nat.reduceAdd, Nat.reduceLeDiff, Nat.reduceLT, Bool.not_true, Bool.not_false, List.nil_append, List.cons_append, List.map_cons, List.map_nil, List.replicate_succ, List.replicate_zero, Bool.not_eq_eq_eq_not, decide_eq_false_iff_not, and_self, and_true, true_and, and_false, false_and, or_true, true_or, or_false, false_or, or_self, Int.reduceLE, Int.reduceLT, Int.reduceNeg, Int.reduceAdd, Int.reduceSub, Int.reduceMul, Int.reduceDiv, Int.reduceMod, Int.reduceEq, Int.reduceToNat, Nat.reduceEqDiff, frz_zero, frz_succ, gT_tup, gT_ktp, gC_ap, gE_nil, cast_0, cast_1, cast_2, cast_3, cast_4, cast_5, cast_6, cast_7, cast_8, cast_9, ty_bs, ty_is, frz_zeroV, oOfR_o, ap_lenO, ap_ixO, tOf_some, pOf_fn, ap_P, ap_iZT, itZT_ok, zipD_cons, zipD_nil, str_i, sq_set, oOfS_o, set_ints, thenW_nx, thenW_ct, thenW_bk, thenW_rt, thenW_exc, at_ok, at_bad, at_exc, at_bind, at_ite, atS_nx, atS_rt, atS_ite, atS_ofE, atS_then, at_endV, endP_v, endP_o, ix_m, len_m, ap_MM, isCL_m, pop0_m, mapp_m, ap_cell, sq_mset, setM_m, - sq_if, - sq_a, ix]
      rw [sq_a]
      simp only [bind_ok, bind_exc, bind_bad, ofE_ok, ofE_exc, vOf_v, ap_C, ap_V, ap_nil, ap_cons, ap_U, ap_B, ap_chain, ap_and, ap_or, ap_tup, ap_F, ap_M, ap_sl, ap_pN, ap_pS, ap_L, ap_tE, ap_tAn, ap_tO, ap_tN, ap_tY, ap_if, ap_lD, ap_lF, ap_lCat, catL_ok, ap_lRep, repL_ok, ap_lSl, slL_lst, slL_scr, ap_iD, itL_lst, itL_scr, ap_iT, itT_tup, itT_ktp, ap_iS, itS_str, ap_iR1, itR1_ok, add_i, add_s, add_l, addX_i, addX_s, sub_i, mul_i, div_i, mod_i, pow_i, shl_i, shr_i, and_i, or_i, xor_i, neg_i, not_b, lt_i, le_i, gt_i, ge_i, eq_i, eq_s, ne_i, ne_s, is_non, is_int, is_str, is_tup, is_lst, isnt_non, isnt_int, isnt_str, isnt_tup, toBl_b, toIn_i, ix_s, ix_l, ix_r, ix_t, ix_k, sl_s, sl_l, sl_r, sl_t, len_s, len_l, len_r, len_t, len_k, int_i, int_b, abs_i, min_i, max_i, tup_l, tup_t, list_l, list_r, list_t, isi_i, isi_b, isi_s, isi_l, isi_t, isi_n, ty_ii, ty_bi, ty_ss, ty_ll, ty_tt, ty_tl, ty_lt, ty_tn, find_s, lower_s, sq_nx, sq_sq, sq_a, sq_o, sq_x, sq_if, sq_ret, sq_retL, oOf_o, sq_retO, sq_app, lstK_l, sq_ext, sq_aug, sq_g, sq_frz, sq_br, sq_ct, sq_raise, ofG_some, nx_ap, thenS_nx, thenS_rt, thenS_exc, sq_for, sq_wh, endV_v, endV_o, endV_n, endV_x, endL_o, endL_x, gN_ap, List.getElem?_cons_zero, List.getElem?_cons_succ, List.set_cons_zero, List.set_cons_succ, List.length_cons, List.length_nil, decide_eq_true_eq, Bool.not_eq_true, reduceIte, Bool.false_eq_true, decide_true, decide_false, Nat.reduceAdd, Nat.reduceLeDiff, Nat.reduceLT, Bool.not_true, Bool.not_false, List.nil_append, List.cons_append, List.map_cons, List.map_nil, List.replicate_succ, List.replicate_zero, Bool.not_eq_eq_eq_not, decide_eq_false_iff_not, and_self, and_true, true_and, and_false, false_and, or_true, true_or, or_false, false_or, or_self, Int.reduceLE, Int.reduceLT, Int.reduceNeg, Int.reduceAdd, Int.reduceSub, Int.reduceMul, Int.reduceDiv, Int.reduceMod, Int.reduceEq, Int.reduceToNat, Nat.reduceEqDiff, frz_zero, frz_succ, gT_tup, gT_ktp, gC_ap, gE_nil, cast_0, cast_1, cast_2, cast_3, cast_4, cast_5, cast_6, cast_7, cast_8, cast_9, ty_bs, ty_is, frz_zeroV, oOfR_o, ap_lenO, ap_ixO, tOf_some, pOf_fn, ap_P, ap_iZT, itZT_ok, zipD_cons, zipD_nil, str_i, sq_set, oOfS_o, set_ints, thenW_nx, thenW_ct, thenW_bk, thenW_rt, thenW_exc, at_ok, at_bad, at_exc, at_bind, at_ite, atS_nx, atS_rt, atS_ite, atS_ofE, atS_then, at_endV, endP_v, endP_o, ix_m, len_m, ap_MM, isCL_m, pop0_m, mapp_m, ap_cell, sq_mset, setM_m, - sq_if, - sq_a, c1]
      rw [sq_if]
      simp only [bind_ok, bind_exc, bind_bad, ofE_ok, ofE_exc, vOf_v, ap_C, ap_V, ap_nil, ap_cons, ap_U, ap_B, ap_chain, ap_and, ap_or, ap_tup, ap_F, ap_M, ap_sl, ap_pN, ap_pS, ap_L, ap_tE, ap_tAn, ap_tO, ap_tN, ap_tY, ap_if, ap_lD, ap_lF, ap_lCat, catL_ok, ap_lRep, repL_ok, ap_lSl, slL_lst, slL_scr, ap_iD, itL_lst, itL_scr, ap_iT, itT_tup, itT_ktp, ap_iS, itS_str, ap_iR1, itR1_ok, add_i, add_s, add_l, addX_i, addX_s, sub_i, mul_i, div_i, mod_i, pow_i, shl_i, shr_i, and_i, or_i, xor_i, neg_i, not_b, lt_i, le_i, gt_i, ge_i, eq_i, eq_s, ne_i, ne_s, is_non, is_int, is_str, is_tup, is_lst, isnt_non, isnt_int, isnt_str, isnt_tup, toBl_b, toIn_i, ix_s, ix_l, ix_r, ix_t, ix_k, sl_s, sl_l, sl_r, sl_t, len_s, len_l, len_r, len_t, len_k, int_i, int_b, abs_i, min_i, max_i, tup_l, tup_t, list_l, list_r, list_t, isi_i, isi_b, isi_s, isi_l, isi_t, isi_n, ty_ii, ty_bi, ty_ss, ty_ll, ty_tt, ty_tl, ty_lt, ty_tn, find_s, lower_s, sq_nx, sq_sq, sq_a, sq_o, sq_x, sq_if, sq_ret, sq_retL, oOf_o, sq_retO, sq_app, lstK_l, sq_ext, sq_aug, sq_g, sq_frz, sq_br, sq_ct, sq_raise, ofG_some, nx_ap, thenS_nx, thenS_rt, thenS_exc, sq_for, sq_wh, endV_v, endV_o, endV_n, endV_x, endL_o, endL_x, gN_ap, List.getElem?_cons_zero, List.getElem?_cons_succ, List.set_cons_zero, List.set_cons_succ, List.length_cons, List.length_nil, decide_eq_true_eq, Bool.not_eq_true, reduceIte, Bool.false_eq_true, decide_true, decide_false, Nat.reduceAdd, Nat.reduceLeDiff, Nat.reduceLT, Bool.not_true, Bool.not_false, List.nil_append, List.cons_append, List.map_cons, List.map_nil, List.replicate_succ, List.replicate_zero, Bool.not_eq_eq_eq_not, decide_eq_false_iff_not, and_self, and_true, true_and, and_false, false_and, or_true, true_or, or_false, false_or, or_self, Int.reduceLE, Int.reduceLT, Int.reduceNeg, Int.reduceAdd, Int.reduceSub, Int.reduceMul, Int.reduceDiv, Int.reduceMod, Int.reduceEq, Int.reduceToNat, Nat.reduceEqDiff, frz_zero, frz_succ, gT_tup, gT_ktp, gC_ap, gE_nil, cast_0, cast_1, cast_2, cast_3, cast_4, cast_5, cast_6, cast_7, cast_8, cast_9, ty_bs, ty_is, frz_zeroV, oOfR_o, ap_lenO, ap_ixO, tOf_some, pOf_fn, ap_P, ap_iZT, itZT_ok, zipD_cons, zipD_nil, str_i, sq_set, oOfS_o, set_ints, thenW_nx, thenW_ct, thenW_bk, thenW_rt, thenW_exc, at_ok, at_bad, at_exc, at_bind, at_ite, atS_nx, atS_rt, atS_ite, atS_ofE, atS_then, at_endV, endP_v, endP_o, ix_m, len_m, ap_MM, isCL_m, pop0_m, mapp_m, ap_cell, sq_mset, setM_m, - sq_if, - sq_a, show ¬ (127 : Int) < (c : Int) by omega]
    · by_cases h3 : e ≤ p + 1
      · refine Or.inr (Or.inr ⟨"unexpected end", e, Or.inl rfl, ?_, ?_⟩)
        · rw [e_l_due]
          unfold b_l_due
          simp only [bind_ok, bind_exc, bind_bad, ofE_ok, ofE_exc, vOf_v, ap_C, ap_V, ap_nil, ap_cons, ap_U, ap_B, ap_chain, ap_and, ap_or, ap_tup, ap_F, ap_M, ap_sl, ap_pN, ap_pS, ap_L, ap_tE, ap_tAn, ap_tO, ap_tN, ap_tY, ap_if, ap_lD, ap_lF, ap_lCat, catL_ok, ap_lRep, repL_ok, ap_lSl, slL_lst, slL_scr, ap_iD, itL_lst, itL_scr, ap_iT, itT_tup, itT_ktp, ap_iS, itS_str, ap_iR1, itR1_ok, add_i, add_s, add_l, addX_i, addX_s, sub_i, mul_i, div_i, mod_i, pow_i, shl_i, shr_i, and_i, or_i, xor_i, neg_i, not_b, lt_i, le_i, gt_i, ge_i, eq_i, eq_s, ne_i, ne_s, is_non, is_int, is_str, is_tup, is_lst, isnt_non, isnt_int, isnt_str, isnt_tup, toBl_b, toIn_i, ix_s, ix_l, ix_r, ix_t, ix_k, sl_s, sl_l, sl_r, sl_t, len_s, len_l, len_r, len_t, len_k, int_i, int_b, abs_i, min_i, max_i, tup_l, tup_t, list_l, list_r, list_t, isi_i, isi_b, isi_s, isi_l, isi_t, isi_n, ty_ii, ty_bi, ty_ss, ty_ll, ty_tt, ty_tl, ty_lt, ty_tn, find_s, lower_s, sq_nx, sq_sq, sq_a, sq_o, sq_x, sq_if, sq_ret, sq_retL, oOf_o, sq_retO, sq_app, lstK_l, sq_ext, sq_aug, sq_g, sq_frz, sq_br, sq_ct, sq_raise, ofG_some, nx_ap, thenS_nx, thenS_rt, thenS_exc, sq_for, sq_wh, endV_v, endV_o, endV_n, endV_x, endL_o, endL_x, gN_ap, List.getElem?_cons_zero, List.getElem?_cons_succ, List.set_cons_zero, List.set_cons_succ, List.length_cons, List.length_nil, decide_eq_true_eq, Bool.not_eq_true, reduceIte, Bool.false_eq_true, decide_true, decide_false, Nat.reduceAdd, Nat.reduceLeDiff, Nat.reduceLT, Bool.not_true, Bool.not_false, List.nil_append, List.cons_append, List.map_cons, List.map_nil, List.replicate_succ, List.replicate_zero, Bool.not_eq_eq_eq_not, decide_eq_false_iff_not, and_self, and_true, true_and, and_false, false_and, or_true, true_or, or_false, false_or, or_self, Int.reduceLE, Int.reduceLT, Int.reduceNeg, Int.reduceAdd, Int.reduceSub, Int.reduceMul, Int.reduceDiv, Int.reduceMod, Int.reduceEq, Int.reduceToNat, Nat.reduceEqDiff, frz_zero, frz_succ, gT_tup, gT_ktp, gC_ap, gE_nil, cast_0, cast_1, cast_2, cast_3, cast_4, cast_5, cast_6, cast_7, cast_8, cast_9, ty_bs, ty_is, frz_zeroV, oOfR_o, ap_lenO, ap_ixO, tOf_some, pOf_fn, ap_P, ap_iZT, itZT_ok, zipD_cons, zipD_nil, str_i, sq_set, oOfS_o, set_ints, thenW_nx, thenW_ct, thenW_bk, thenW_rt, thenW_exc, at_ok, at_bad, at_exc, at_bind, at_ite, atS_nx, atS_rt, atS_ite, atS_ofE, atS_then, at_endV, endP_v, endP_o, ix_m, len_m, ap_MM, isCL_m, pop0_m, mapp_m, ap_cell, sq_mset, setM_m, ne, ix, c1, show (127 : Int) < (c : Int) by omega, show (e : Int) ≤ ((p + 1 : Nat) : Int) by omega]
        · rw [e_read_name]
          unfold b_read_name
          simp only [bind_ok, bind_exc, bind_bad, ofE_ok, ofE_exc, vOf_v, ap_C, ap_V, ap_nil, ap_cons, ap_U, ap_B, ap_chain, ap_and, ap_or, ap_tup, ap_F, ap_M, ap_sl, ap_pN, ap_pS, ap_L, ap_tE, ap_tAn, ap_tO, ap_tN, ap_tY, ap_if, ap_lD, ap_lF, ap_lCat, catL_ok, ap_lRep, repL_ok, ap_lSl, slL_lst, slL_scr, ap_iD, itL_lst, itL_scr, ap_iT, itT_tup, itT_ktp, ap_iS, itS_str, ap_iR1, itR1_ok, add_i, add_s, add_l, addX_i, addX_s, sub_i, mul_i, div_i, mod_i, pow_i, shl_i, shr_i, and_i, or_i, xor_i, neg_i, not_b, lt_i, le_i, gt_i, ge_i, eq_i, eq_s, ne_i, ne_s, is_non, is_int, is_str, is_tup, is_lst, isnt_non, isnt_int, isnt_str, isnt_tup, toBl_b, toIn_i, ix_s, ix_l, ix_r, ix_t, ix_k, sl_s, sl_l, sl_r, sl_t, len_s, len_l, len_r, len_t, len_k, int_i, int_b, abs_i, min_i, max_i, tup_l, tup_t, list_l, list_r, list_t, isi_i, isi_b, isi_s, isi_l, isi_t, isi_n, ty_ii, ty_bi, ty_ss, ty_ll, ty_tt, ty_tl, ty_lt, ty_tn, find_s, lower_s, sq_nx, sq_sq, sq_a, sq_o, sq_x, sq_if, sq_ret, sq_retL, oOf_o, sq_retO, sq_app, lstK_l, sq_ext, sq_aug, sq_g, sq_frz, sq_br, sq_ct, sq_raise, ofG_some, nx_ap, thenS_nx, thenS_rt, thenS_exc, sq_for, sq_wh, endV_v, endV_o, endV_n, endV_x, endL_o, endL_x, gN_ap, List.getElem?_cons_zero, List.getElem?_cons_succ, List.set_cons_zero, List.set_cons_succ, List.length_cons, List.length_nil, decide_eq_true_eq, Bool.not_eq_true, reduceIte, Bool.false_eq_true, decide_true, decide_false, Nat.reduceAdd, Nat.reduceLeDiff, Nat.reduceLT, Bool.not_true, Bool.not_false, List.nil_append, List.cons_append, List.map_cons, List.map_nil, List.replicate_succ, List.replicate_zero, Bool.not_eq_eq_eq_not, decide_eq_false_iff_not, and_self, and_true, true_and, and_false, false_and, or_true, true_or, or_false, false_or, or_self, Int.reduceLE, Int.reduceLT, Int.reduceNeg, Int.reduceAdd, Int.reduceSub, Int.reduceMul, Int.reduceDiv, Int.reduceMod, Int.reduceEq, Int.reduceToNat, Nat.reduceEqDiff, frz_zero, frz_succ, gT_tup, gT_ktp, gC_ap, gE_nil, cast_0, cast_1, cast_2, cast_3, cast_4, cast_5, cast_6, cast_7, cast_8, cast_9, ty_bs, ty_is, frz_zeroV, oOfR_o, ap_lenO, ap_ixO, tOf_some, pOf_fn, ap_P, ap_iZT, itZT_ok, zipD_cons, zipD_nil, str_i, sq_set, oOfS_o, set_ints, thenW_nx, thenW_ct, thenW_bk, thenW_rt, thenW_exc, at_ok, at_bad, at_exc, at_bind, at_ite, atS_nx, atS_rt, atS_ite, atS_ofE, atS_then, at_endV, endP_v, endP_o, ix_m, len_m, ap_MM, isCL_m, pop0_m, mapp_m, ap_cell, sq_mset, setM_m, idx_2end (F := F) hp (by omega) (by omega) (by omega) h3]
      · have hp2 := get_of (F := F) (q := p + 1) (by omega)
        have hr2 := hb _ (List.mem_of_getElem? hp2)
        obtain ⟨d, hd⟩ : ∃ d : Nat, F.getD (p + 1) 0 = d := ⟨(F.getD (p + 1) 0).toNat, by omega⟩
        rw [hd] at hp2 hr2
        have ix2 := ixL_get hp2
        have ne2 : ¬ (e : Int) ≤ ((p + 1 : Nat) : Int) := by omega
        have c2 : ((p + 1 : Nat) : Int) + 1 = ((p + 2 : Nat) : Int) := rfl
        by_cases h4 : d < 128
        · have e2 : (c : Int) - 128 + 128 * (d : Int) = ((c - 128 + 128 * d : Nat) : Int) := by omega
          have hi := idx_2 hp hp2 (show p + 1 < e by omega) (by omega) (by omega) (by omega) (by omega)
          rw [e2] at hi
          refine agree_of (c := c - 128 + 128 * d) (q := p + 2) hF hi ?_
          have m1 : CMulW 128 (d : Int) ∨ CMul 128 (d : Int) := Or.inr (Or.inl ⟨by decide, by decide⟩)
          rw [← due_tail (c := c - 128 + 128 * d) (q := p + 2) hF (.val (.int (p : Int))) .un .un .un, e_l_due]
          unfold b_l_due
          rw [sq_if]
          simp only [bind_ok, bind_exc, bind_bad, ofE_ok, ofE_exc, vOf_v, ap_C, ap_V, ap_nil, ap_cons, ap_U, ap_B, ap_chain, ap_and, ap_or, ap_tup, ap_F, ap_M, ap_sl, ap_pN, ap_pS, ap_L, ap_tE, ap_tAn, ap_tO, ap_tN, ap_tY, ap_if, ap_lD, ap_lF, ap_lCat, catL_ok, ap_lRep, repL_ok, ap_lSl, slL_lst, slL_scr, ap_iD, itL_lst, itL_scr, ap_iT, itT_tup, itT_ktp, ap_iS, itS_str, ap_iR1, itR1_ok, add_i, add_s, add_l, addX_i, addX_s, sub_i, mul_i, div_i, mod_i, pow_i, shl_i, shr_i, and_i, or_i, xor_i, neg_i, not_b, lt_i, le_i, gt_i, ge_i, eq_i, eq_s, ne_i, ne_s, is_non, is_int, is_str, is_tup, is_lst, isnt_non, isnt_int, isnt_str, isnt_tup, toBl_b, toIn_i, ix_s, ix_l, ix_r, ix_t, ix_k, sl_s, sl_l, sl_r, sl_t, len_s, len_l, len_r, len_t, len_k, int_i, int_b, abs_i, min_i, max_i, tup_l, tup_t, list_l, list_r, list_t, isi_i, isi_b, isi_s, isi_l, isi_t, isi_n, ty_ii, ty_bi, ty_ss, ty_ll, ty_tt, ty_tl, ty_lt, ty_tn, find_s, lower_s, sq_nx, sq_sq, sq_a, sq_o, sq_x, sq_if, sq_ret, sq_retL, oOf_o, sq_retO, sq_app, lstK_l, sq_ext, sq_aug, sq_g, sq_frz, sq_br, sq_ct, sq_raise, ofG_some, nx_ap, thenS_nx, thenS_rt, thenS_exc, sq_for, sq_wh, endV_v, endV_o, endV_n, endV_x, endL_o, endL_x, gN_ap, List.getElem?_cons_zero, List.getElem?_cons_succ, List.set_cons_zero, List.set_cons_succ, List.length_cons, List.length_nil, decide_eq_true_eq, Bool.not_eq_true, reduceIte, Bool.false_eq_true, decide_true, decide_false, Nat.reduceAdd, Nat.reduceLeDiff, Nat.reduceLT, Bool.not_true, Bool.not_false, List.nil_append, List.cons_append, List.map_cons, List.map_nil, List.replicate_succ, List.replicate_zero, Bool.not_eq_eq_eq_not, decide_eq_false_iff_not, and_self, and_true, true_and, and_false, false_and, or_true, true_or, or_false, false_or, or_self, Int.reduceLE, Int.reduceLT, Int.reduceNeg, Int.reduceAdd, Int.reduceSub, Int.reduceMul, Int.reduceDiv, Int.reduceMod, Int.reduceEq, Int.reduceToNat, Nat.reduceEqDiff, frz_zero, frz_succ, gT_tup, gT_ktp, gC_ap, gE_nil, cast_0, cast_1, cast_2, cast_3, cast_4, cast_5, cast_6, cast_7, cast_8, cast_9, ty_bs, ty_is, frz_zeroV, oOfR_o, ap_lenO, ap_ixO, tOf_some, pOf_fn, ap_P, ap_iZT, itZT_ok, zipD_cons, zipD_nil, str_i, sq_set, oOfS_o, set_ints, thenW_nx, thenW_ct, thenW_bk, thenW_rt, thenW_exc, at_ok, at_bad, at_exc, at_bind, at_ite, atS_nx, atS_rt, atS_ite, atS_ofE, atS_then, at_endV, endP_v, endP_o, ix_m, len_m, ap_MM, isCL_m, pop0_m, mapp_m, ap_cell, sq_mset, setM_m, - sq_if, - sq_a, ne]
          rw [sq_a]
          simp only [bind_ok, bind_exc, bind_bad, ofE_ok, ofE_exc, vOf_v, ap_C, ap_V, ap_nil, ap_cons, ap_U, ap_B, ap_chain, ap_and, ap_or, ap_tup, ap_F, ap_M, ap_sl, ap_pN, ap_pS, ap_L, ap_tE, ap_tAn, ap_tO, ap_tN, ap_tY, ap_if, ap_lD, ap_lF, ap_lCat, catL_ok, ap_lRep, repL_ok, ap_lSl, slL_lst, slL_scr, ap_iD, itL_lst, itL_scr, ap_iT, itT_tup, itT_ktp, ap_iS, itS_str, ap_iR1, itR1_ok, add_i, add_s, add_l, addX_i, addX_s, sub_i, mul_i, div_i, mod_i, pow_i, shl_i, shr_i, and_i, or_i, xor_i, neg_i, not_b, lt_i, le_i, gt_i, ge_i, eq_i, eq_s, ne_i, ne_s, is_non, is_int, is_str, is_tup, is_lst, isnt_non, isnt_int, isnt_str, isnt_tup, toBl_b, toIn_i, ix_s, ix_l, ix_r, ix_t, ix_k, sl_s, sl_l, sl_r, sl_t, len_s, len_l, len_r, len_t, len_k, int_i, int_b, abs_i, min_i, max_i, tup_l, tup_t, list_l, list_r, list_t, isi_i, isi_b, isi_s, isi_l, isi_t, isi_n, ty_ii, ty_bi, ty_ss, ty_ll, ty_tt, ty_tl, ty_lt, ty_tn, find_s, lower_s, sq_nx, sq_sq, sq_a, sq_o, sq_x, sq_if, sq_ret, sq_retL, oOf_o, sq_retO, sq_app, lstK_l, sq_ext, sq_aug, sq_g, sq_frz, sq_br, sq_ct, sq_raise, ofG_some, nx_ap, thenS_nx, thenS_rt, thenS_exc, sq_for, sq_wh, endV_v, endV_o, endV_n, endV_x, endL_o, endL_x, gN_ap, List.getElem?_cons_zero, List.getElem?_cons_succ, List.set_cons_zero, List.set_cons_succ, List.length_cons, List.length_nil, decide_eq_true_eq, Bool.not_eq_true, reduceIte, Bool.false_eq_true, decide_true, decide_false, Nat.reduceAdd, Nat.reduceLeDiff, Nat.reduceLT, Bool.not_true, Bool.not_false, List.nil_append, List.cons_append, List.map_cons, List.map_nil, List.replicate_succ, List.replicate_zero, Bool.not_eq_eq_eq_not, decide_eq_false_iff_not, and_self, and_true, true_and, and_false, false_and, or_true, true_or, or_false, false_or, or_self, Int.reduceLE, Int.reduceLT, Int.reduceNeg, Int.reduceAdd, Int.reduceSub, Int.reduceMul, Int.reduceDiv, Int.reduceMod, Int.reduceEq, Int.reduceToNat, Nat.reduceEqDiff, frz_zero, frz_succ, gT_tup, gT_ktp, gC_ap, gE_nil, cast_0, cast_1, cast_2, cast_3, cast_4, cast_5, cast_6, cast_7, cast_8, cast_9, ty_bs, ty_is, frz_zeroV, oOfR_o, ap_lenO, ap_ixO, tOf_some, pOf_fn, ap_P, ap_iZT, itZT_ok, zipD_cons, zipD_nil, str_i, sq_set, oOfS_o, set_ints, thenW_nx, thenW_ct, thenW_bk, thenW_rt, thenW_exc, at_ok, at_bad, at_exc, at_bind, at_ite, atS_nx, atS_rt, atS_ite, atS_ofE, atS_then, at_endV, endP_v, endP_o, ix_m, len_m, ap_MM, isCL_m, pop0_m, mapp_m, ap_cell, sq_mset, setM_m, - sq_if, - sq_a, ix]
          rw [sq_a]
          simp only [bind_ok, bind_exc, bind_bad, ofE_ok, ofE_exc, vOf_v, ap_C, ap_V, ap_nil, ap_cons, ap_U, ap_B, ap_chain, ap_and, ap_or, ap_tup, ap_F, ap_M, ap_sl, ap_pN, ap_pS, ap_L, ap_tE, ap_tAn, ap_tO, ap_tN, ap_tY, ap_if, ap_lD, ap_lF, ap_lCat, catL_ok, ap_lRep, repL_ok, ap_lSl, slL_lst, slL_scr, ap_iD, itL_lst, itL_scr, ap_iT, itT_tup, itT_ktp, ap_iS, itS_str, ap_iR1, itR1_ok, add_i, add_s, add_l, addX_i, addX_s, sub_i, mul_i, div_i, mod_i, pow_i, shl_i, shr_i, and_i, or_i, xor_i, neg_i, not_b, lt_i, le_i, gt_i, ge_i, eq_i, eq_s, ne_i, ne_s, is_non, is_int, is_str, is_tup, is_lst, isnt_non, isnt_int, isnt_str, isnt_tup, toBl_b, toIn_i, ix_s, ix_l, ix_r, ix_t, ix_k, sl_s, sl_l, sl_r, sl_t, len_s, len_l, len_r, len_t, len_k, int_i, int_b, abs_i, min_i, max_i, tup_l, tup_t, list_l, list_r, list_t, isi_i, isi_b, isi_s, isi_l, isi_t, isi_n, ty_ii, ty_bi, ty_ss, ty_ll, ty_tt, ty_tl, ty_lt, ty_tn, find_s, lower_s, sq_nx, sq_sq, sq_a, sq_o, sq_x, sq_if, sq_ret, sq_retL, oOf_o, sq_retO, sq_app, lstK_l, sq_ext, sq_aug, sq_g, sq_frz, sq_br, sq_ct, sq_raise, ofG_some, nx_ap, thenS_nx, thenS_rt, thenS_exc, sq_for, sq_wh, endV_v, endV_o, endV_n, endV_x, endL_o, endL_x, gN_ap, List.getElem?_cons_zero, List.getElem?_cons_succ, List.set_cons_zero, List.set_cons_succ, List.length_cons, List.length_nil, decide_eq_true_eq, Bool.not_eq_true, reduceIte, Bool.false_eq_true, decide_true, decide_false, Nat.reduceAdd, Nat.reduceLeDiff, Nat.reduceLT, Bool.not_true, Bool.not_false, List.nil_append, List.cons_append, List.map_cons, List.map_nil, List.replicate_succ, List.replicate_zero, Bool.not_eq_eq_eq_not, decide_eq_false_iff_not, and_self, and_true, true_and, and_false, false_and, or_true, true_or, or_false, false_or, or_self, Int.reduceLE, Int.reduceLT, Int.reduceNeg, Int.reduceAdd, Int.reduceSub, Int.reduceMul, Int.reduceDiv, Int.reduceMod, Int.reduceEq, Int.reduceToNat, Nat.reduceEqDiff, frz_zero, frz_succ, gT_tup, gT_ktp, gC_ap, gE_nil, cast_0, cast_1, cast_2, cast_3, cast_4, cast_5, cast_6, cast_7, cast_8, cast_9, ty_bs, ty_is, frz_zeroV, oOfR_o, ap_lenO, ap_ixO, tOf_some, pOf_fn, ap_P, ap_iZT, itZT_ok, zipD_cons, zipD_nil, str_i, sq_set, oOfS_o, set_ints, thenW_nx, thenW_ct, thenW_bk, thenW_rt, thenW_exc, at_ok, at_bad, at_exc, at_bind, at_ite, atS_nx, atS_rt, atS_ite, atS_ofE, atS_then, at_endV, endP_v, endP_o, ix_m, len_m, ap_MM, isCL_m, pop0_m, mapp_m, ap_cell, sq_mset, setM_m, - sq_if, - sq_a, c1]
          rw [sq_if]
          simp only [bind_ok, bind_exc, bind_bad, ofE_ok, ofE_exc, vOf_v, ap_C, ap_V, ap_nil, ap_cons, ap_U, ap_B, ap_chain, ap_and, ap_or, ap_tup, ap_F, ap_M, ap_sl, ap_pN, ap_pS, ap_L, ap_tE, ap_tAn, ap_tO, ap_tN, ap_tY, ap_if, ap_lD, ap_lF, ap_lCat, catL_ok, ap_lRep, repL_ok, ap_lSl, slL_lst, slL_scr, ap_iD, itL_lst, itL_scr, ap_iT, itT_tup, itT_ktp, ap_iS, itS_str, ap_iR1, itR1_ok, add_i, add_s, add_l, addX_i, addX_s, sub_i, mul_i, div_i, mod_i, pow_i, shl_i, shr_i, and_i, or_i, xor_i, neg_i, not_b, lt_i, le_i, gt_i, ge_i, eq_i, eq_s, ne_i, ne_s, is_non, is_int, is_str, is_tup, is_lst, isnt_non, isnt_int, isnt_str, isnt_tup, toBl_b, toIn_i, ix_s, ix_l, ix_r, ix_t, ix_k, sl_s, sl_l, sl_r, sl_t, len_s, len_l, len_r, len_t, len_k, int_i, int_b, abs_i, min_i, max_i, tup_l, tup_t, list_l, list_r, list_t, isi_i, isi_b, isi_s, isi_l, isi_t, isi_n, ty_ii, ty_bi, ty_ss, ty_ll, ty_tt, ty_tl, ty_lt, ty_tn, find_s, lower_s, sq_nx, sq_sq, sq_a, sq_o, sq_x, sq_if, sq_ret, sq_retL, oOf_o, sq_retO, sq_app, lstK_l, sq_ext, sq_aug, sq_g, sq_frz, sq_br, sq_ct, sq_raise, ofG_some, nx_ap, thenS_nx, thenS_rt, thenS_exc, sq_for, sq_wh, endV_v, endV_o, endV_n, endV_x, endL_o, endL_x, gN_ap, List.getElem?_cons_zero, List.getElem?_cons_succ, List.set_cons_zero, List.set_cons_succ, List.length_cons, List.length_nil, decide_eq_true_eq, Bool.not_eq_true, reduceIte, Bool.false_eq_true, decide_true, decide_false, Nat.reduceAdd, Nat.reduceLeDiff, Nat.reduceLT, Bool.not_true, Bool.not_false, List.nil_append, List.cons_append, List.map_cons, List.map_nil, List.replicate_succ, List.replicate_zero, Bool.not_eq_eq_eq_not, decide_eq_false_iff_not, and_self, and_true, true_and, and_false, false_and, or_true, true_or, or_false, false_or, or_self, Int.reduceLE, Int.reduceLT, Int.reduceNeg, Int.reduceAdd, Int.reduceSub, Int.reduceMul, Int.reduceDiv, Int.reduceMod, Int.reduceEq, Int.reduceToNat, Nat.reduceEqDiff, frz_zero, frz_succ, gT_tup, gT_ktp, gC_ap, gE_nil, cast_0, cast_1, cast_2, cast_3, cast_4, cast_5, cast_6, cast_7, cast_8, cast_9, ty_bs, ty_is, frz_zeroV, oOfR_o, ap_lenO, ap_ixO, tOf_some, pOf_fn, ap_P, ap_iZT, itZT_ok, zipD_cons, zipD_nil, str_i, sq_set, oOfS_o, set_ints, thenW_nx, thenW_ct, thenW_bk, thenW_rt, thenW_exc, at_ok, at_bad, at_exc, at_bind, at_ite, atS_nx, atS_rt, atS_ite, atS_ofE, atS_then, at_endV, endP_v, endP_o, ix_m, len_m, ap_MM, isCL_m, pop0_m, mapp_m, ap_cell, sq_mset, setM_m, - sq_if, - sq_a, show (127 : Int) < (c : Int) by omega]
          rw [sq_if]
          simp only [bind_ok, bind_exc, bind_bad, ofE_ok, ofE_exc, vOf_v, ap_C, ap_V, ap_nil, ap_cons, ap_U, ap_B, ap_chain, ap_and, ap_or, ap_tup, ap_F, ap_M, ap_sl, ap_pN, ap_pS, ap_L, ap_tE, ap_tAn, ap_tO, ap_tN, ap_tY, ap_if, ap_lD, ap_lF, ap_lCat, catL_ok, ap_lRep, repL_ok, ap_lSl, slL_lst, slL_scr, ap_iD, itL_lst, itL_scr, ap_iT, itT_tup, itT_ktp, ap_iS, itS_str, ap_iR1, itR1_ok, add_i, add_s, add_l, addX_i, addX_s, sub_i, mul_i, div_i, mod_i, pow_i, shl_i, shr_i, and_i, or_i, xor_i, neg_i, not_b, lt_i, le_i, gt_i, ge_i, eq_i, eq_s, ne_i, ne_s, is_non, is_int, is_str, is_tup, is_lst, isnt_non, isnt_int, isnt_str, isnt_tup, toBl_b, toIn_i, ix_s, ix_l, ix_r, ix_t, ix_k, sl_s, sl_l, sl_r, sl_t, len_s, len_l, len_r, len_t, len_k, int_i, int_b, abs_i, min_i, max_i, tup_l, tup_t, list_l, list_r, list_t, isi_i, isi_b, isi_s, isi_l, isi_t, isi_n, ty_ii, ty_bi, ty_ss, ty_ll, ty_tt, ty_tl, ty_lt, ty_tn, find_s, lower_s, sq_nx, sq_sq, sq_a, sq_o, sq_x, sq_if, sq_ret, sq_retL, oOf_o, sq_retO, sq_app, lstK_l, sq_ext, sq_aug, sq_g, sq_frz, sq_br, sq_ct, sq_raise, ofG_some, nx_ap, thenS_nx, thenS_rt, thenS_exc, sq_for, sq_wh, endV_v, endV_o, endV_n, endV_x, endL_o, endL_x, gN_ap, List.getElem?_cons_zero, List.getElem?_cons_succ, List.set_cons_zero, List.set_cons_succ, List.length_cons, List.length_nil, decide_eq_true_eq, Bool.not_eq_true, reduceIte, Bool.false_eq_true, decide_true, decide_false, Nat.reduceAdd, Nat.reduceLeDiff, Nat.reduceLT, Bool.not_true, Bool.not_false, List.nil_append, List.cons_append, List.map_cons, List.map_nil, List.replicate_succ, List.replicate_zero, Bool.not_eq_eq_eq_not, decide_eq_false_iff_not, and_self, and_true, true_and, and_false, false_and, or_true, true_or, or_false, false_or, or_self, Int.reduceLE, Int.reduceLT, Int.reduceNeg, Int.reduceAdd, Int.reduceSub, Int.reduceMul, Int.reduceDiv, Int.reduceMod, Int.reduceEq, Int.reduceToNat, Nat.reduceEqDiff, frz_zero, frz_succ, gT_tup, gT_ktp, gC_ap, gE_nil, cast_0, cast_1, cast_2, cast_3, cast_4, cast_5, cast_6, cast_7, cast_8, cast_9, ty_bs, ty_is, frz_zeroV, oOfR_o, ap_lenO, ap_ixO, tOf_some, pOf_fn, ap_P, ap_iZT, itZT_ok, zipD_cons, zipD_nil, str_i, sq_set, oOfS_o, set_ints, thenW_nx, thenW_ct, thenW_bk, thenW_rt, thenW_exc, at_ok, at_bad, at_exc, at_bind, at_ite, atS_nx, atS_rt, atS_ite, atS_ofE, atS_then, at_endV, endP_v, endP_o, ix_m, len_m, ap_MM, isCL_m, pop0_m, mapp_m, ap_cell, sq_mset, setM_m, - sq_if, - sq_a, ne2]
          rw [sq_if]
          simp only [bind_ok, bind_exc, bind_bad, ofE_ok, ofE_exc, vOf_v, ap_C, ap_V, ap_nil, ap_cons, ap_U, ap_B, ap_chain, ap_and, ap_or, ap_tup, ap_F, ap_M, ap_sl, ap_pN, ap_pS, ap_L, ap_tE, ap_tAn, ap_tO, ap_tN, ap_tY, ap_if, ap_lD, ap_lF, ap_lCat, catL_ok, ap_lRep, repL_ok, ap_lSl, slL_lst, slL_scr, ap_iD, itL_lst, itL_scr, ap_iT, itT_tup, itT_ktp, ap_iS, itS_str, ap_iR1, itR1_ok, add_i, add_s, add_l, addX_i, addX_s, sub_i, mul_i, div_i, mod_i, pow_i, shl_i, shr_i, and_i, or_i, xor_i, neg_i, not_b, lt_i, le_i, gt_i, ge_i, eq_i, eq_s, ne_i, ne_s, is_non, is_int, is_str, is_tup, is_lst, isnt_non, isnt_int, isnt_str, isnt_tup, toBl_b, toIn_i, ix_s, ix_l, ix_r, ix_t, ix_k, sl_s, sl_l, sl_r, sl_t, len_s, len_l, len_r, len_t, len_k, int_i, int_b, abs_i, min_i, max_i, tup_l, tup_t, list_l, list_r, list_t, isi_i, isi_b, isi_s, isi_l, isi_t, isi_n, ty_ii, ty_bi, ty_ss, ty_ll, ty_tt, ty_tl, ty_lt, ty_tn, find_s, lower_s, sq_nx, sq_sq, sq_a, sq_o, sq_x, sq_if, sq_ret, sq_retL, oOf_o, sq_retO, sq_app, lstK_l, sq_ext, sq_aug, sq_g, sq_frz, sq_br, sq_ct, sq_raise, ofG_some, nx_ap, thenS_nx, thenS_rt, thenS_exc, sq_for, sq_wh, endV_v, endV_o, endV_n, endV_x, endL_o, endL_x, gN_ap, List.getElem?_cons_zero, List.getElem?_cons_succ, List.set_cons_zero, List.set_cons_succ, List.length_cons, List.length_nil, decide_eq_true_eq, Bool.not_eq_true, reduceIte, Bool.false_eq_true, decide_true, decide_false, Nat.reduceAdd, Nat.reduceLeDiff, Nat.reduceLT, Bool.not_true, Bool.not_false, List.nil_append, List.cons_append, List.map_cons, List.map_nil, List.replicate_succ, List.replicate_zero, Bool.not_eq_eq_eq_not, decide_eq_false_iff_not, and_self, and_true, true_and, and_false, false_and, or_true, true_or, or_false, false_or, or_self, Int.reduceLE, Int.reduceLT, Int.reduceNeg, Int.reduceAdd, Int.reduceSub, Int.reduceMul, Int.reduceDiv, Int.reduceMod, Int.reduceEq, Int.reduceToNat, Nat.reduceEqDiff, frz_zero, frz_succ, gT_tup, gT_ktp, gC_ap, gE_nil, cast_0, cast_1, cast_2, cast_3, cast_4, cast_5, cast_6, cast_7, cast_8, cast_9, ty_bs, ty_is, frz_zeroV, oOfR_o, ap_lenO, ap_ixO, tOf_some, pOf_fn, ap_P, ap_iZT, itZT_ok, zipD_cons, zipD_nil, str_i, sq_set, oOfS_o, set_ints, thenW_nx, thenW_ct, thenW_bk, thenW_rt, thenW_exc, at_ok, at_bad, at_exc, at_bind, at_ite, atS_nx, atS_rt, atS_ite, atS_ofE, atS_then, at_endV, endP_v, endP_o, ix_m, len_m, ap_MM, isCL_m, pop0_m, mapp_m, ap_cell, sq_mset, setM_m, - sq_if, - sq_a, ix2, show ¬ (127 : Int) < (d : Int) by omega]
          rw [sq_a]
          simp only [bind_ok, bind_exc, bind_bad, ofE_ok, ofE_exc, vOf_v, ap_C, ap_V, ap_nil, ap_cons, ap_U, ap_B, ap_chain, ap_and, ap_or, ap_tup, ap_F, ap_M, ap_sl, ap_pN, ap_pS, ap_L, ap_tE, ap_tAn, ap_tO, ap_tN, ap_tY, ap_if, ap_lD, ap_lF, ap_lCat, catL_ok, ap_lRep, repL_ok, ap_lSl, slL_lst, slL_scr, ap_iD, itL_lst, itL_scr, ap_iT, itT_tup, itT_ktp, ap_iS, itS_str, ap_iR1, itR1_ok, add_i, add_s, add_l, addX_i, addX_s, sub_i, mul_i, div_i, mod_i, pow_i, shl_i, shr_i, and_i, or_i, xor_i, neg_i, not_b, lt_i, le_i, gt_i, ge_i, eq_i, eq_s, ne_i, ne_s, is_non, is_int, is_str, is_tup, is_lst, isnt_non, isnt_int, isnt_str, isnt_tup, toBl_b, toIn_i, ix_s, ix_l, ix_r, ix_t, ix_k, sl_s, sl_l, sl_r, sl_t, len_s, len_l, len_r, len_t, len_k, int_i, int_b, abs_i, min_i, max_i, tup_l, tup_t, list_l, list_r, list_t, isi_i, isi_b, isi_s, isi_l, isi_t, isi_n, ty_ii, ty_bi, ty_ss, ty_ll, ty_tt, ty_tl, ty_lt, ty_tn, find_s, lower_s, sq_nx, sq_sq, sq_a, sq_o, sq_x, sq_if, sq_ret, sq_retL, oOf_o, sq_retO, sq_app, lstK_l, sq_ext, sq_aug, sq_g, sq_frz, sq_br, sq_ct, sq_raise, ofG_some, nx_ap, thenS_nx, thenS_rt, thenS_exc, sq_for, sq_wh, endV_v, endV_o, endV_n, endV_x, endL_o, endL_x, gN_ap, List.getElem?_cons_zero, List.getElem?_cons_succ, List.set_cons_zero, List.set_cons_succ, List.length_cons, List.length_nil, decide_eq_true_eq, Bool.not_eq_true, reduceIte, Bool.false_eq_true, decide_true, decide_false, Nat.reduceAdd, Nat.reduceLeDiff, Nat.reduceLT, Bool.not_true, Bool.not_false, List.nil_append, List.cons_append, List.map_cons, List.map_nil, List.replicate_succ, List.replicate_zero, Bool.not_eq_eq_eq_not, decide_eq_false_iff_not, and_self, and_true, true_and, and_false, false_and, or_true, true_or, or_false, false_or, or_self, Int.reduceLE, Int.reduceLT, Int.reduceNeg, Int.reduceAdd, Int.reduceSub, Int.reduceMul, Int.reduceDiv, Int.reduceMod, Int.reduceEq, Int.reduceToNat, Nat.reduceEqDiff, frz_zero, frz_succ, gT_tup, gT_ktp, gC_ap, gE_nil, cast_0, cast_1, cast_2, cast_3, cast_4, cast_5, cast_6, cast_7, cast_8, cast_9, ty_bs, ty_is, frz_zeroV, oOfR_o, ap_lenO, ap_ixO, tOf_some, pOf_fn, ap_P, ap_iZT, itZT_ok, zipD_cons, zipD_nil, str_i, sq_set, oOfS_o, set_ints, thenW_nx, thenW_ct, thenW_bk, thenW_rt, thenW_exc, at_ok, at_bad, at_exc, at_bind, at_ite, atS_nx, atS_rt, atS_ite, atS_ofE, atS_then, at_endV, endP_v, endP_o, ix_m, len_m, ap_MM, isCL_m, pop0_m, mapp_m, ap_cell, sq_mset, setM_m, - sq_if, - sq_a, ix2, m1, e2]
          rw [sq_a]
          simp only [bind_ok, bind_exc, bind_bad, ofE_ok, ofE_exc, vOf_v, ap_C, ap_V, ap_nil, ap_cons, ap_U, ap_B, ap_chain, ap_and, ap_or, ap_tup, ap_F, ap_M, ap_sl, ap_pN, ap_pS, ap_L, ap_tE, ap_tAn, ap_tO, ap_tN, ap_tY, ap_if, ap_lD, ap_lF, ap_lCat, catL_ok, ap_lRep, repL_ok, ap_lSl, slL_lst, slL_scr, ap_iD, itL_lst, itL_scr, ap_iT, itT_tup, itT_ktp, ap_iS, itS_str, ap_iR1, itR1_ok, add_i, add_s, add_l, addX_i, addX_s, sub_i, mul_i, div_i, mod_i, pow_i, shl_i, shr_i, and_i, or_i, xor_i, neg_i, not_b, lt_i, le_i, gt_i, ge_i, eq_i, eq_s, ne_i, ne_s, is_non, is_int, is_str, is_tup, is_lst, isnt_non, isnt_int, isnt_str, isnt_tup, toBl_b, toIn_i, ix_s, ix_l, ix_r, ix_t, ix_k, sl_s, sl_l, sl_r, sl_t, len_s, len_l, len_r, len_t, len_k, int_i, int_b, abs_i, min_i, max_i, tup_l, tup_t, list_l, list_r, list_t, isi_i, isi_b, isi_s, isi_l, isi_t, isi_n, ty_ii, ty_bi, ty_ss, ty_ll, ty_tt, ty_tl, ty_lt, ty_tn, find_s, lower_s, sq_nx, sq_sq, sq_a, sq_o, sq_x, sq_if, sq_ret, sq_retL, oOf_o, sq_retO, sq_app, lstK_l, sq_ext, sq_aug, sq_g, sq_frz, sq_br, sq_ct, sq_raise, ofG_some, nx_ap, thenS_nx, thenS_rt, thenS_exc, sq_for, sq_wh, endV_v, endV_o, endV_n, endV_x, endL_o, endL_x, gN_ap, List.getElem?_cons_zero, List.getElem?_cons_succ, List.set_cons_zero, List.set_cons_succ, List.length_cons, List.length_nil, decide_eq_true_eq, Bool.not_eq_true, reduceIte, Bool.false_eq_true, decide_true, decide_false, Nat.reduceAdd, Nat.reduceLeDiff, Nat.reduceLT, Bool.not_true, Bool.not_false, List.nil_append, List.cons_append, List.map_cons, List.map_nil, List.replicate_succ, List.replicate_zero, Bool.not_eq_eq_eq_not, decide_eq_false_iff_not, and_self, and_true, true_and, and_false, false_and, or_true, true_or, or_false, false_or, or_self, Int.reduceLE, Int.reduceLT, Int.reduceNeg, Int.reduceAdd, Int.reduceSub, Int.reduceMul, Int.reduceDiv, Int.reduceMod, Int.reduceEq, Int.reduceToNat, Nat.reduceEqDiff, frz_zero, frz_succ, gT_tup, gT_ktp, gC_ap, gE_nil, cast_0, cast_1, cast_2, cast_3, cast_4, cast_5, cast_6, cast_7, cast_8, cast_9, ty_bs, ty_is, frz_zeroV, oOfR_o, ap_lenO, ap_ixO, tOf_some, pOf_fn, ap_P, ap_iZT, itZT_ok, zipD_cons, zipD_nil, str_i, sq_set, oOfS_o, set_ints, thenW_nx, thenW_ct, thenW_bk, thenW_rt, thenW_exc, at_ok, at_bad, at_exc, at_bind, at_ite, atS_nx, atS_rt, atS_ite, atS_ofE, atS_then, at_endV, endP_v, endP_o, ix_m, len_m, ap_MM, isCL_m, pop0_m, mapp_m, ap_cell, sq_mset, setM_m, - sq_if, - sq_a, c2]
        · left
          rw [e_l_due]
          unfold b_l_due
          simp only [bind_ok, bind_exc, bind_bad, ofE_ok, ofE_exc, vOf_v, ap_C, ap_V, ap_nil, ap_cons, ap_U, ap_B, ap_chain, ap_and, ap_or, ap_tup, ap_F, ap_M, ap_sl, ap_pN, ap_pS, ap_L, ap_tE, ap_tAn, ap_tO, ap_tN, ap_tY, ap_if, ap_lD, ap_lF, ap_lCat, catL_ok, ap_lRep, repL_ok, ap_lSl, slL_lst, slL_scr, ap_iD, itL_lst, itL_scr, ap_iT, itT_tup, itT_ktp, ap_iS, itS_str, ap_iR1, itR1_ok, add_i, add_s, add_l, addX_i, addX_s, sub_i, mul_i, div_i, mod_i, pow_i, shl_i, shr_i, and_i, or_i, xor_i, neg_i, not_b, lt_i, le_i, gt_i, ge_i, eq_i, eq_s, ne_i, ne_s, is_non, is_int, is_str, is_tup, is_lst, isnt_non, isnt_int, isnt_str, isnt_tup, toBl_b, toIn_i, ix_s, ix_l, ix_r, ix_t, ix_k, sl_s, sl_l, sl_r, sl_t, len_s, len_l, len_r, len_t, len_k, int_i, int_b, abs_i, min_i, max_i, tup_l, tup_t, list_l, list_r, list_t, isi_i, isi_b, isi_s, isi_l, isi_t, isi_n, ty_ii, ty_bi, ty_ss, ty_ll, ty_tt, ty_tl, ty_lt, ty_tn, find_s, lower_s, sq_nx, sq_sq, sq_a, sq_o, sq_x, sq_if, sq_ret, sq_retL, oOf_o, sq_retO, sq_app, lstK_l, sq_ext, sq_aug, sq_g, sq_frz, sq_br, sq_ct, sq_raise, ofG_some, nx_ap, thenS_nx, thenS_rt, thenS_exc, sq_for, sq_wh, endV_v, endV_o, endV_n, endV_x, endL_o, endL_x, gN_ap, List.getElem?_cons_zero, List.getElem?_cons_succ, List.set_cons_zero, List.set_cons_succ, List.length_cons, List.length_nil, decide_eq_true_eq, Bool.not_eq_true, reduceIte, Bool.false_eq_true, decide_true, decide_false, Nat.reduceAdd, Nat.reduceLeDiff, Nat.reduceLT, Bool.not_true, Bool.not_false, List.nil_append, List.cons_append, List.map_cons, List.map_nil, List.replicate_succ, List.replicate_zero, Bool.not_eq_eq_eq_not, decide_eq_false_iff_not, and_self, and_true, true_and, and_false, false_and, or_true, true_or, or_false, false_or, or_self, Int.reduceLE, Int.reduceLT, Int.reduceNeg, Int.reduceAdd, Int.reduceSub, Int.reduceMul, Int.reduceDiv, Int.reduceMod, Int.reduceEq, Int.reduceToNat, Nat.reduceEqDiff, frz_zero, frz_succ, gT_tup, gT_ktp, gC_ap, gE_nil, cast_0, cast_1, cast_2, cast_3, cast_4, cast_5, cast_6, cast_7, cast_8, cast_9, ty_bs, ty_is, frz_zeroV, oOfR_o, ap_lenO, ap_ixO, tOf_some, pOf_fn, ap_P, ap_iZT, itZT_ok, zipD_cons, zipD_nil, str_i, sq_set, oOfS_o, set_ints, thenW_nx, thenW_ct, thenW_bk, thenW_rt, thenW_exc, at_ok, at_bad, at_exc, at_bind, at_ite, atS_nx, atS_rt, atS_ite, atS_ofE, atS_then, at_endV, endP_v, endP_o, ix_m, len_m, ap_MM, isCL_m, pop0_m, mapp_m, ap_cell, sq_mset, setM_m, ne, ix, c1, show (127 : Int) < (c : Int) by omega, ne2, ix2, show (127 : Int) < (d : Int) by omega]
/-! right -/
theorem told_ok {F : List Int} {p e : Nat} {d : D} (h : m_read_name [.lst (dI F), .int (p : Int), .int (e : Int)] = .ok d) : m_l_told [.lst (dI F), .int (p : Int), .int (e : Int)] = .ok d := by
  rw [e_l_told]
  unfold b_l_told
  refine (congrArg endV (sq_rt (v := .val d) (try_rt (v := .val d) ?_))).trans rfl
  simp only [bind_ok, bind_exc, bind_bad, ofE_ok, ofE_exc, vOf_v, ap_C, ap_V, ap_nil, ap_cons, ap_U, ap_B, ap_chain, ap_and, ap_or, ap_tup, ap_F, ap_M, ap_sl, ap_pN, ap_pS, ap_L, ap_tE, ap_tAn, ap_tO, ap_tN, ap_tY, ap_if, ap_lD, ap_lF, ap_lCat, catL_ok, ap_lRep, repL_ok, ap_lSl, slL_lst, slL_scr, ap_iD, itL_lst, itL_scr, ap_iT, itT_tup, itT_ktp, ap_iS, itS_str, ap_iR1, itR1_ok, add_i, add_s, add_l, addX_i, addX_s, sub_i, mul_i, div_i, mod_i, pow_i, shl_i, shr_i, and_i, or_i, xor_i, neg_i, not_b, lt_i, le_i, gt_i, ge_i, eq_i, eq_s, ne_i, ne_s, is_non, is_int, is_str, is_tup, is_lst, isnt_non, isnt_int, isnt_str, isnt_tup, toBl_b, toIn_i, ix_s, ix_l, ix_r, ix_t, ix_k, sl_s, sl_l, sl_r, sl_t, len_s, len_l, len_r, len_t, len_k, int_i, int_b, abs_i, min_i, max_i, tup_l, tup_t, list_l, list_r, list_t, isi_i, isi_b, isi_s, isi_l, isi_t, isi_n, ty_ii, ty_bi, ty_ss, ty_ll, ty_tt, ty_tl, ty_lt, ty_tn, find_s, lower_s, sq_nx, sq_sq, sq_a, sq_o, sq_x, sq_if, sq_ret, sq_retL, oOf_o, sq_retO, sq_app, lstK_l, sq_ext, sq_aug, sq_g, sq_frz, sq_br, sq_ct, sq_raise, ofG_some, nx_ap, thenS_nx, thenS_rt, thenS_exc, sq_for, sq_wh, endV_v, endV_o, endV_n, endV_x, endL_o, endL_x, gN_ap, List.getElem?_cons_zero, List.getElem?_cons_succ, List.set_cons_zero, List.set_cons_succ, List.length_cons, List.length_nil, decide_eq_true_eq, Bool.not_eq_true, reduceIte, Bool.false_eq_true, decide_true, decide_false, Nat.reduceAdd, Nat.reduceLeDiff, Nat.reduceLT, Bool.not_true, Bool.not_false, List.nil_append, List.cons_append, List.map_cons, List.map_nil, List.replicate_succ, List.replicate_zero, Bool.not_eq_eq_eq_not, decide_eq_false_iff_not, and_self, and_true, true_and, and_false, false_and, or_true, true_or, or_false, false_or, or_self, Int.reduceLE, Int.reduceLT, Int.reduceNeg, Int.reduceAdd, Int.reduceSub, Int.reduceMul, Int.reduceDiv, Int.reduceMod, Int.reduceEq, Int.reduceToNat, Nat.reduceEqDiff, frz_zero, frz_succ, gT_tup, gT_ktp, gC_ap, gE_nil, cast_0, cast_1, cast_2, cast_3, cast_4, cast_5, cast_6, cast_7, cast_8, cast_9, ty_bs, ty_is, frz_zeroV, oOfR_o, ap_lenO, ap_ixO, tOf_some, pOf_fn, ap_P, ap_iZT, itZT_ok, zipD_cons, zipD_nil, str_i, sq_set, oOfS_o, set_ints, thenW_nx, thenW_ct, thenW_bk, thenW_rt, thenW_exc, at_ok, at_bad, at_exc, at_bind, at_ite, atS_nx, atS_rt, atS_ite, atS_ofE, atS_then, at_endV, endP_v, endP_o, ix_m, len_m, ap_MM, isCL_m, pop0_m, mapp_m, ap_cell, sq_mset, setM_m, h]
theorem told_exc {F : List Int} {p e : Nat} {w : Str} {z : Int} (h : m_read_name [.lst (dI F), .int (p : Int), .int (e : Int)] = .exc 1001 (X w z)) : m_l_told [.lst (dI F), .int (p : Int), .int (e : Int)] = .ok (.tup [.str w, .int z]) := by
  have x1 : eXf 3 1001 "reason" [.val (.lst (dI F)), .val (.int (p : Int)), .val (.int (e : Int)), .exn 1001 (X w z)] = .ok (.str w) := rfl
  have x2 : eXf 3 1001 "place" [.val (.lst (dI F)), .val (.int (p : Int)), .val (.int (e : Int)), .exn 1001 (X w z)] = .ok (.int z) := rfl
  have i1 : eIsx 3 y_DecodeError [.val (.lst (dI F)), .val (.int (p : Int)), .val (.int (e : Int)), .exn 1001 (X w z)] = .ok (.bl true) := rfl
  rw [e_l_told]
  unfold b_l_told
  refine (congrArg endV (sq_rt (v := .val (.tup [.str w, .int z])) (try_exc_rt (c := 1001) (fs := X w z) (e2 := [.val (.lst (dI F)), .val (.int (p : Int)), .val (.int (e : Int)), .un]) ?_ rfl rfl ?_))).trans rfl
  · simp only [bind_ok, bind_exc, bind_bad, ofE_ok, ofE_exc, vOf_v, ap_C, ap_V, ap_nil, ap_cons, ap_U, ap_B, ap_chain, ap_and, ap_or, ap_tup, ap_F, ap_M, ap_sl, ap_pN, ap_pS, ap_L, ap_tE, ap_tAn, ap_tO, ap_tN, ap_tY, ap_if, ap_lD, ap_lF, ap_lCat, catL_ok, ap_lRep, repL_ok, ap_lSl, slL_lst, slL_scr, ap_iD, itL_lst, itL_scr, ap_iT, itT_tup, itT_ktp, ap_iS, itS_str, ap_iR1, itR1_ok, add_i, add_s, add_l, addX_i, addX_s, sub_i, mul_i, div_i, mod_i, pow_i, shl_i, shr_i, and_i, or_i, xor_i, neg_i, not_b, lt_i, le_i, gt_i, ge_i, eq_i, eq_s, ne_i, ne_s, is_non, is_int, is_str, is_tup, is_lst, isnt_non, isnt_int, isnt_str, isnt_tup, toBl_b, toIn_i, ix_s, ix_l, ix_r, ix_t, ix_k, sl_s, sl_l, sl_r, sl_t, len_s, len_l, len_r, len_t, len_k, int_i, int_b, abs_i, min_i, max_i, tup_l, tup_t, list_l, list_r, list_t, isi_i, isi_b, isi_s, isi_l, isi_t, isi_n, ty_ii, ty_bi, ty_ss, ty_ll, ty_tt, ty_tl, ty_lt, ty_tn, find_s, lower_s, sq_nx, sq_sq, sq_a, sq_o, sq_x, sq_if, sq_ret, sq_retL, oOf_o, sq_retO, sq_app, lstK_l, sq_ext, sq_aug, sq_g, sq_frz, sq_br, sq_ct, sq_raise, ofG_some, nx_ap, thenS_nx, thenS_rt, thenS_exc, sq_for, sq_wh, endV_v, endV_o, endV_n, endV_x, endL_o, endL_x, gN_ap, List.getElem?_cons_zero, List.getElem?_cons_succ, List.set_cons_zero, List.set_cons_succ, List.length_cons, List.length_nil, decide_eq_true_eq, Bool.not_eq_true, reduceIte, Bool.false_eq_true, decide_true, decide_false, Nat.reduceAdd, Nat.reduceLeDiff, Nat.reduceLT, Bool.not_true, Bool.not_false, List.nil_append, List.cons_append, List.map_cons, List.map_nil, List.replicate_succ, List.replicate_zero, Bool.not_eq_eq_eq_not, decide_eq_false_iff_not, and_self, and_true, true_and, and_false, false_and, or_true, true_or, or_false, false_or, or_self, Int.reduceLE, Int.reduceLT, Int.reduceNeg, Int.reduceAdd, Int.reduceSub, Int.reduceMul, Int.reduceDiv, Int.reduceMod, Int.reduceEq, Int.reduceToNat, Nat.reduceEqDiff, frz_zero, frz_succ, gT_tup, gT_ktp, gC_ap, gE_nil, cast_0, cast_1, cast_2, cast_3, cast_4, cast_5, cast_6, cast_7, cast_8, cast_9, ty_bs, ty_is, frz_zeroV, oOfR_o, ap_lenO, ap_ixO, tOf_some, pOf_fn, ap_P, ap_iZT, itZT_ok, zipD_cons, zipD_nil, str_i, sq_set, oOfS_o, set_ints, thenW_nx, thenW_ct, thenW_bk, thenW_rt, thenW_exc, at_ok, at_bad, at_exc, at_bind, at_ite, atS_nx, atS_rt, atS_ite, atS_ofE, atS_then, at_endV, endP_v, endP_o, ix_m, len_m, ap_MM, isCL_m, pop0_m, mapp_m, ap_cell, sq_mset, setM_m, h]
  · simp only [bind_ok, bind_exc, bind_bad, ofE_ok, ofE_exc, vOf_v, ap_C, ap_V, ap_nil, ap_cons, ap_U, ap_B, ap_chain, ap_and, ap_or, ap_tup, ap_F, ap_M, ap_sl, ap_pN, ap_pS, ap_L, ap_tE, ap_tAn, ap_tO, ap_tN, ap_tY, ap_if, ap_lD, ap_lF, ap_lCat, catL_ok, ap_lRep, repL_ok, ap_lSl, slL_lst, slL_scr, ap_iD, itL_lst, itL_scr, ap_iT, itT_tup, itT_ktp, ap_iS, itS_str, ap_iR1, itR1_ok, add_i, add_s, add_l, addX_i, addX_s, sub_i, mul_i, div_i, mod_i, pow_i, shl_i, shr_i, and_i, or_i, xor_i, neg_i, not_b, lt_i, le_i, gt_i, ge_i, eq_i, eq_s, ne_i, ne_s, is_non, is_int, is_str, is_tup, is_lst, isnt_non, isnt_int, isnt_str, isnt_tup, toBl_b, toIn_i, ix_s, ix_l, ix_r, ix_t, ix_k, sl_s, sl_l, sl_r, sl_t, len_s, len_l, len_r, len_t, len_k, int_i, int_b, abs_i, min_i, max_i, tup_l, tup_t, list_l, list_r, list_t, isi_i, isi_b, isi_s, isi_l, isi_t, isi_n, ty_ii, ty_bi, ty_ss, ty_ll, ty_tt, ty_tl, ty_lt, ty_tn, find_s, lower_s, sq_nx, sq_sq, sq_a, sq_o, sq_x, sq_if, sq_ret, sq_retL, oOf_o, sq_retO, sq_app, lstK_l, sq_ext, sq_aug, sq_g, sq_frz, sq_br, sq_ct, sq_raise, ofG_some, nx_ap, thenS_nx, thenS_rt, thenS_exc, sq_for, sq_wh, endV_v, endV_o, endV_n, endV_x, endL_o, endL_x, gN_ap, List.getElem?_cons_zero, List.getElem?_cons_succ, List.set_cons_zero, List.set_cons_succ, List.length_cons, List.length_nil, decide_eq_true_eq, Bool.not_eq_true, reduceIte, Bool.false_eq_true, decide_true, decide_false, Nat.reduceAdd, Nat.reduceLeDiff, Nat.reduceLT, Bool.not_true, Bool.not_false, List.nil_append, List.cons_append, List.map_cons, List.map_nil, List.replicate_succ, List.replicate_zero, Bool.not_eq_eq_eq_not, decide_eq_false_iff_not, and_self, and_true, true_and, and_false, false_and, or_true, true_or, or_false, false_or, or_self, Int.reduceLE, Int.reduceLT, Int.reduceNeg, Int.reduceAdd, Int.reduceSub, Int.reduceMul, Int.reduceDiv, Int.reduceMod, Int.reduceEq, Int.reduceToNat, Nat.reduceEqDiff, frz_zero, frz_succ, gT_tup, gT_ktp, gC_ap, gE_nil, cast_0, cast_1, cast_2, cast_3, cast_4, cast_5, cast_6, cast_7, cast_8, cast_9, ty_bs, ty_is, frz_zeroV, oOfR_o, ap_lenO, ap_ixO, tOf_some, pOf_fn, ap_P, ap_iZT, itZT_ok, zipD_cons, zipD_nil, str_i, sq_set, oOfS_o, set_ints, thenW_nx, thenW_ct, thenW_bk, thenW_rt, thenW_exc, at_ok, at_bad, at_exc, at_bind, at_ite, atS_nx, atS_rt, atS_ite, atS_ofE, atS_then, at_endV, endP_v, endP_o, ix_m, len_m, ap_MM, isCL_m, pop0_m, mapp_m, ap_cell, sq_mset, setM_m, x1, x2, i1]
theorem pair_eq {w : Str} {z : Int} (h : w.cps.all (· < 0x110000) = true) : dEq (.tup [.str w, .int z]) (.tup [.str w, .int z]) = .ok (.bl true) := by
  refine dEq_self ?_
  show (w.cps.all (· < 0x110000) && (true && true)) = true
  rw [h]
  rfl
theorem right_ok {F : List Int} (hb : By F) {p e : Nat} (hF : e ≤ F.length) : m_l_right [.lst (dI F), .int (p : Int), .int (e : Int)] = .ok (.bl true) := by
  have i0 : ∀ a b : D, ixL [a, b] 0 = .ok a := fun _ _ => rfl
  have i1 : ∀ a b : D, ixL [a, b] 1 = .ok b := fun _ _ => rfl
  have t1 : ∀ a b : D, isTy .tuple (.tup [a, b]) = true := fun _ _ => rfl
  have t2 : ∀ a : Str, isTy .str (.str a) = true := fun _ => rfl
  have t3 : ∀ a : Int, isTy .int (.int a) = true := fun _ => rfl
  have t4 : ∀ a : Int, isTy .bool (.int a) = false := fun _ => rfl
  have fin : ∀ (w : Str) (z : Int), w.cps.all (· < 0x110000) = true → m_l_due [.lst (dI F), .int (p : Int), .int (e : Int)] = .ok (.tup [.str w, .int z]) → m_l_told [.lst (dI F), .int (p : Int), .int (e : Int)] = .ok (.tup [.str w, .int z]) → m_l_right [.lst (dI F), .int (p : Int), .int (e : Int)] = .ok (.bl true) := fun w z hw h1 h2 => by
    rw [e_l_right]
    unfold b_l_right
    simp only [bind_ok, bind_exc, bind_bad, ofE_ok, ofE_exc, vOf_v, ap_C, ap_V, ap_nil, ap_cons, ap_U, ap_B, ap_chain, ap_and, ap_or, ap_tup, ap_F, ap_M, ap_sl, ap_pN, ap_pS, ap_L, ap_tE, ap_tAn, ap_tO, ap_tN, ap_tY, ap_if, ap_lD, ap_lF, ap_lCat, catL_ok, ap_lRep, repL_ok, ap_lSl, slL_lst, slL_scr, ap_iD, itL_lst, itL_scr, ap_iT, itT_tup, itT_ktp, ap_iS, itS_str, ap_iR1, itR1_ok, add_i, add_s, add_l, addX_i, addX_s, sub_i, mul_i, div_i, mod_i, pow_i, shl_i, shr_i, and_i, or_i, xor_i, neg_i, not_b, lt_i, le_i, gt_i, ge_i, eq_i, eq_s, ne_i, ne_s, is_non, is_int, is_str, is_tup, is_lst, isnt_non, isnt_int, isnt_str, isnt_tup, toBl_b, toIn_i, ix_s, ix_l, ix_r, ix_t, ix_k, sl_s, sl_l, sl_r, sl_t, len_s, len_l, len_r, len_t, len_k, int_i, int_b, abs_i, min_i, max_i, tup_l, tup_t, list_l, list_r, list_t, isi_i, isi_b, isi_s, isi_l, isi_t, isi_n, ty_ii, ty_bi, ty_ss, ty_ll, ty_tt, ty_tl, ty_lt, ty_tn, find_s, lower_s, sq_nx, sq_sq, sq_a, sq_o, sq_x, sq_if, sq_ret, sq_retL, oOf_o, sq_retO, sq_app, lstK_l, sq_ext, sq_aug, sq_g, sq_frz, sq_br, sq_ct, sq_raise, ofG_some, nx_ap, thenS_nx, thenS_rt, thenS_exc, sq_for, sq_wh, endV_v, endV_o, endV_n, endV_x, endL_o, endL_x, gN_ap, List.getElem?_cons_zero, List.getElem?_cons_succ, List.set_cons_zero, List.set_cons_succ, List.length_cons, List.length_nil, decide_eq_true_eq, Bool.not_eq_true, reduceIte, Bool.false_eq_true, decide_true, decide_false, Nat.reduceAdd, Nat.reduceLeDiff, Nat.reduceLT, Bool.not_true, Bool.not_false, List.nil_append, List.cons_append, List.map_cons, List.map_nil, List.replicate_succ, List.replicate_zero, Bool.not_eq_eq_eq_not, decide_eq_false_iff_not, and_self, and_true, true_and, and_false, false_and, or_true, true_or, or_false, false_or, or_self, Int.reduceLE, Int.reduceLT, Int.reduceNeg, Int.reduceAdd, Int.reduceSub, Int.reduceMul, Int.reduceDiv, Int.reduceMod, Int.reduceEq, Int.reduceToNat, Nat.reduceEqDiff, frz_zero, frz_succ, gT_tup, gT_ktp, gC_ap, gE_nil, cast_0, cast_1, cast_2, cast_3, cast_4, cast_5, cast_6, cast_7, cast_8, cast_9, ty_bs, ty_is, frz_zeroV, oOfR_o, ap_lenO, ap_ixO, tOf_some, pOf_fn, ap_P, ap_iZT, itZT_ok, zipD_cons, zipD_nil, str_i, sq_set, oOfS_o, set_ints, thenW_nx, thenW_ct, thenW_bk, thenW_rt, thenW_exc, at_ok, at_bad, at_exc, at_bind, at_ite, atS_nx, atS_rt, atS_ite, atS_ofE, atS_then, at_endV, endP_v, endP_o, ix_m, len_m, ap_MM, isCL_m, pop0_m, mapp_m, ap_cell, sq_mset, setM_m, h1, h2, show dIs (.tup [.str w, .int z]) .non = .ok (.bl false) from rfl, i0, i1, t1, t2, t3, t4, ne_self, pair_eq hw]
  rcases agree hb (p := p) hF with h | ⟨r, z, hr, h1, h2⟩ | ⟨w, z, hw, h1, h2⟩
  · rw [e_l_right]
    unfold b_l_right
    simp only [bind_ok, bind_exc, bind_bad, ofE_ok, ofE_exc, vOf_v, ap_C, ap_V, ap_nil, ap_cons, ap_U, ap_B, ap_chain, ap_and, ap_or, ap_tup, ap_F, ap_M, ap_sl, ap_pN, ap_pS, ap_L, ap_tE, ap_tAn, ap_tO, ap_tN, ap_tY, ap_if, ap_lD, ap_lF, ap_lCat, catL_ok, ap_lRep, repL_ok, ap_lSl, slL_lst, slL_scr, ap_iD, itL_lst, itL_scr, ap_iT, itT_tup, itT_ktp, ap_iS, itS_str, ap_iR1, itR1_ok, add_i, add_s, add_l, addX_i, addX_s, sub_i, mul_i, div_i, mod_i, pow_i, shl_i, shr_i, and_i, or_i, xor_i, neg_i, not_b, lt_i, le_i, gt_i, ge_i, eq_i, eq_s, ne_i, ne_s, is_non, is_int, is_str, is_tup, is_lst, isnt_non, isnt_int, isnt_str, isnt_tup, toBl_b, toIn_i, ix_s, ix_l, ix_r, ix_t, ix_k, sl_s, sl_l, sl_r, sl_t, len_s, len_l, len_r, len_t, len_k, int_i, int_b, abs_i, min_i, max_i, tup_l, tup_t, list_l, list_r, list_t, isi_i, isi_b, isi_s, isi_l, isi_t, isi_n, ty_ii, ty_bi, ty_ss, ty_ll, ty_tt, ty_tl, ty_lt, ty_tn, find_s, lower_s, sq_nx, sq_sq, sq_a, sq_o, sq_x, sq_if, sq_ret, sq_retL, oOf_o, sq_retO, sq_app, lstK_l, sq_ext, sq_aug, sq_g, sq_frz, sq_br, sq_ct, sq_raise, ofG_some, nx_ap, thenS_nx, thenS_rt, thenS_exc, sq_for, sq_wh, endV_v, endV_o, endV_n, endV_x, endL_o, endL_x, gN_ap, List.getElem?_cons_zero, List.getElem?_cons_succ, List.set_cons_zero, List.set_cons_succ, List.length_cons, List.length_nil, decide_eq_true_eq, Bool.not_eq_true, reduceIte, Bool.false_eq_true, decide_true, decide_false, Nat.reduceAdd, Nat.reduceLeDiff, Nat.reduceLT, Bool.not_true, Bool.not_false, List.nil_append, List.cons_append, List.map_cons, List.map_nil, List.replicate_succ, List.replicate_zero, Bool.not_eq_eq_eq_not, decide_eq_false_iff_not, and_self, and_true, true_and, and_false, false_and, or_true, true_or, or_false, false_or, or_self, Int.reduceLE, Int.reduceLT, Int.reduceNeg, Int.reduceAdd, Int.reduceSub, Int.reduceMul, Int.reduceDiv, Int.reduceMod, Int.reduceEq, Int.reduceToNat, Nat.reduceEqDiff, frz_zero, frz_succ, gT_tup, gT_ktp, gC_ap, gE_nil, cast_0, cast_1, cast_2, cast_3, cast_4, cast_5, cast_6, cast_7, cast_8, cast_9, ty_bs, ty_is, frz_zeroV, oOfR_o, ap_lenO, ap_ixO, tOf_some, pOf_fn, ap_P, ap_iZT, itZT_ok, zipD_cons, zipD_nil, str_i, sq_set, oOfS_o, set_ints, thenW_nx, thenW_ct, thenW_bk, thenW_rt, thenW_exc, at_ok, at_bad, at_exc, at_bind, at_ite, atS_nx, atS_rt, atS_ite, atS_ofE, atS_then, at_endV, endP_v, endP_o, ix_m, len_m, ap_MM, isCL_m, pop0_m, mapp_m, ap_cell, sq_mset, setM_m, h]
  · refine fin _ _ ?_ h1 (told_ok h2)
    rw [Array.all_eq_true_iff_forall_mem]
    intro c hc
    have := hr c (by simpa [tx] using hc)
    simp
    omega
  · refine fin _ _ ?_ h1 (told_exc h2)
    rcases hw with rfl | rfl | rfl <;> decide +kernel
/-! names -/
theorem singles : ∀ xs : List D, (∀ x ∈ xs, ∃ c : Nat, x = .str (tx [c]) ∧ okc (c : Int)) → ∃ cs : List Nat, xs = sg cs ∧ cs.length = xs.length ∧ ∀ c ∈ cs, okc (c : Int)
  | [], _ => ⟨[], rfl, rfl, fun c h => by cases h⟩
  | x :: xs, h => by
    obtain ⟨c, rfl, hc⟩ := h x List.mem_cons_self
    obtain ⟨cs, rfl, h2, h3⟩ := singles xs fun y hy => h y (List.mem_cons_of_mem _ hy)
    refine ⟨c :: cs, rfl, by rw [List.length_cons, List.length_cons, h2], fun b hb => ?_⟩
    rcases List.mem_cons.mp hb with rfl | hb
    · exact hc
    · exact h3 b hb
theorem name_ok {s : Sto} (hs : Tp s) : At (m_l_name [.mref 1]) s fun d s2 => (∃ cs : List Nat, d = .str (tx cs) ∧ cs.length ≤ 60 ∧ ∀ c ∈ cs, okc (c : Int)) ∧ Tp s2 := by
  have lc : ∀ (n : Int) (s : Sto), 0 ≤ n → n ≤ 60 → Tp s → At (lLc (iR1 (eCons (eV 1) eNil)) (gN 2) tY (eF m_l_char (eCons (eF m_l_take (eCons (eV 0) (eCons (eC (.int 94)) eNil))) eNil)) [2] [.val (.mref 1), .val (.int n), .un]) s fun xs s2 => ∃ cs : List Nat, xs = sg cs ∧ cs.length ≤ 60 ∧ (∀ c ∈ cs, okc (c : Int)) ∧ Tp s2 := fun n s h0 h1 hs => by
    refine (lc_at (ds := (List.range n.toNat).map fun (i : Nat) => D.int i) (I := Tp) (Qd := fun x => ∃ c : Nat, x = .str (tx [c]) ∧ okc (c : Int)) (by simp only [bind_ok, bind_exc, bind_bad, ofE_ok, ofE_exc, vOf_v, ap_C, ap_V, ap_nil, ap_cons, ap_U, ap_B, ap_chain, ap_and, ap_or, ap_tup, ap_F, ap_M, ap_sl, ap_pN, ap_pS, ap_L, ap_tE, ap_tAn, ap_tO, ap_tN, ap_tY, ap_if, ap_lD, ap_lF, ap_lCat, catL_ok, ap_lRep, repL_ok, ap_lSl, slL_lst, slL_scr, ap_iD, itL_lst, itL_scr, ap_iT, itT_tup, itT_ktp, ap_iS, itS_str, ap_iR1, itR1_ok, add_i, add_s, add_l, addX_i, addX_s, sub_i, mul_i, div_i, mod_i, pow_i, shl_i, shr_i, and_i, or_i, xor_i, neg_i, not_b, lt_i, le_i, gt_i, ge_i, eq_i, eq_s, ne_i, ne_s, is_non, is_int, is_str, is_tup, is_lst, isnt_non, isnt_int, isnt_str, isnt_tup, toBl_b, toIn_i, ix_s, ix_l, ix_r, ix_t, ix_k, sl_s, sl_l, sl_r, sl_t, len_s, len_l, len_r, len_t, len_k, int_i, int_b, abs_i, min_i, max_i, tup_l, tup_t, list_l, list_r, list_t, isi_i, isi_b, isi_s, isi_l, isi_t, isi_n, ty_ii, ty_bi, ty_ss, ty_ll, ty_tt, ty_tl, ty_lt, ty_tn, find_s, lower_s, sq_nx, sq_sq, sq_a, sq_o, sq_x, sq_if, sq_ret, sq_retL, oOf_o, sq_retO, sq_app, lstK_l, sq_ext, sq_aug, sq_g, sq_frz, sq_br, sq_ct, sq_raise, ofG_some, nx_ap, thenS_nx, thenS_rt, thenS_exc, sq_for, sq_wh, endV_v, endV_o, endV_n, endV_x, endL_o, endL_x, gN_ap, List.getElem?_cons_zero, List.getElem?_cons_succ, List.set_cons_zero, List.set_cons_succ, List.length_cons, List.length_nil, decide_eq_true_eq, Bool.not_eq_true, reduceIte, Bool.false_eq_true, decide_true, decide_false, Nat.reduceAdd, Nat.reduceLeDiff, Nat.reduceLT, Bool.not_true, Bool.not_false, List.nil_append, List.cons_append, List.map_cons, List.map_nil, List.replicate_succ, List.replicate_zero, Bool.not_eq_eq_eq_not, decide_eq_false_iff_not, and_self, and_true, true_and, and_false, false_and, or_true, true_or, or_false, false_or, or_self, Int.reduceLE, Int.reduceLT, Int.reduceNeg, Int.reduceAdd, Int.reduceSub, Int.reduceMul, Int.reduceDiv, Int.reduceMod, Int.reduceEq, Int.reduceToNat, Nat.reduceEqDiff, frz_zero, frz_succ, gT_tup, gT_ktp, gC_ap, gE_nil, cast_0, cast_1, cast_2, cast_3, cast_4, cast_5, cast_6, cast_7, cast_8, cast_9, ty_bs, ty_is, frz_zeroV, oOfR_o, ap_lenO, ap_ixO, tOf_some, pOf_fn, ap_P, ap_iZT, itZT_ok, zipD_cons, zipD_nil, str_i, sq_set, oOfS_o, set_ints, thenW_nx, thenW_ct, thenW_bk, thenW_rt, thenW_exc, at_ok, at_bad, at_exc, at_bind, at_ite, atS_nx, atS_rt, atS_ite, atS_ofE, atS_then, at_endV, endP_v, endP_o, ix_m, len_m, ap_MM, isCL_m, pop0_m, mapp_m, ap_cell, sq_mset, setM_m, show n ≤ 100000 by omega, show (-100000 : Int) ≤ n by omega]) (by rw [List.length_map, List.length_range]; omega) hs fun d s hd hs => ?_).mono fun xs s2 h => ?_
    · obtain ⟨j, hj, rfl⟩ := mem_range hd
      refine ⟨_, gN_ap, ?_⟩
      rw [show (wipeS [.val (.mref 1), .val (.int n), .un] [2]).set 2 (.val (.int (j : Int))) = [.val (.mref 1), .val (.int n), .val (.int (j : Int))] from rfl]
      simp only [bind_ok, bind_exc, bind_bad, ofE_ok, ofE_exc, vOf_v, ap_C, ap_V, ap_nil, ap_cons, ap_U, ap_B, ap_chain, ap_and, ap_or, ap_tup, ap_F, ap_M, ap_sl, ap_pN, ap_pS, ap_L, ap_tE, ap_tAn, ap_tO, ap_tN, ap_tY, ap_if, ap_lD, ap_lF, ap_lCat, catL_ok, ap_lRep, repL_ok, ap_lSl, slL_lst, slL_scr, ap_iD, itL_lst, itL_scr, ap_iT, itT_tup, itT_ktp, ap_iS, itS_str, ap_iR1, itR1_ok, add_i, add_s, add_l, addX_i, addX_s, sub_i, mul_i, div_i, mod_i, pow_i, shl_i, shr_i, and_i, or_i, xor_i, neg_i, not_b, lt_i, le_i, gt_i, ge_i, eq_i, eq_s, ne_i, ne_s, is_non, is_int, is_str, is_tup, is_lst, isnt_non, isnt_int, isnt_str, isnt_tup, toBl_b, toIn_i, ix_s, ix_l, ix_r, ix_t, ix_k, sl_s, sl_l, sl_r, sl_t, len_s, len_l, len_r, len_t, len_k, int_i, int_b, abs_i, min_i, max_i, tup_l, tup_t, list_l, list_r, list_t, isi_i, isi_b, isi_s, isi_l, isi_t, isi_n, ty_ii, ty_bi, ty_ss, ty_ll, ty_tt, ty_tl, ty_lt, ty_tn, find_s, lower_s, sq_nx, sq_sq, sq_a, sq_o, sq_x, sq_if, sq_ret, sq_retL, oOf_o, sq_retO, sq_app, lstK_l, sq_ext, sq_aug, sq_g, sq_frz, sq_br, sq_ct, sq_raise, ofG_some, nx_ap, thenS_nx, thenS_rt, thenS_exc, sq_for, sq_wh, endV_v, endV_o, endV_n, endV_x, endL_o, endL_x, gN_ap, List.getElem?_cons_zero, List.getElem?_cons_succ, List.set_cons_zero, List.set_cons_succ, List.length_cons, List.length_nil, decide_eq_true_eq, Bool.not_eq_true, reduceIte, Bool.false_eq_true, decide_true, decide_false, Nat.reduceAdd, Nat.reduceLeDiff, Nat.reduceLT, Bool.not_true, Bool.not_false, List.nil_append, List.cons_append, List.map_cons, List.map_nil, List.replicate_succ, List.replicate_zero, Bool.not_eq_eq_eq_not, decide_eq_false_iff_not, and_self, and_true, true_and, and_false, false_and, or_true, true_or, or_false, false_or, or_self, Int.reduceLE, Int.reduceLT, Int.reduceNeg, Int.reduceAdd, Int.reduceSub, Int.reduceMul, Int.reduceDiv, Int.reduceMod, Int.reduceEq, Int.reduceToNat, Nat.reduceEqDiff, frz_zero, frz_succ, gT_tup, gT_ktp, gC_ap, gE_nil, cast_0, cast_1, cast_2, cast_3, cast_4, cast_5, cast_6, cast_7, cast_8, cast_9, ty_bs, ty_is, frz_zeroV, oOfR_o, ap_lenO, ap_ixO, tOf_some, pOf_fn, ap_P, ap_iZT, itZT_ok, zipD_cons, zipD_nil, str_i, sq_set, oOfS_o, set_ints, thenW_nx, thenW_ct, thenW_bk, thenW_rt, thenW_exc, at_ok, at_bad, at_exc, at_bind, at_ite, atS_nx, atS_rt, atS_ite, atS_ofE, atS_then, at_endV, endP_v, endP_o, ix_m, len_m, ap_MM, isCL_m, pop0_m, mapp_m, ap_cell, sq_mset, setM_m]
      refine (take_ok (by decide) (by decide) hs).mono ?_
      rintro _ s2 ⟨k, rfl, k0, k1, hs2⟩
      obtain ⟨m, rfl⟩ : ∃ m : Nat, k = m := ⟨k.toNat, by omega⟩
      simp only [bind_ok, bind_exc, bind_bad, ofE_ok, ofE_exc, vOf_v, ap_C, ap_V, ap_nil, ap_cons, ap_U, ap_B, ap_chain, ap_and, ap_or, ap_tup, ap_F, ap_M, ap_sl, ap_pN, ap_pS, ap_L, ap_tE, ap_tAn, ap_tO, ap_tN, ap_tY, ap_if, ap_lD, ap_lF, ap_lCat, catL_ok, ap_lRep, repL_ok, ap_lSl, slL_lst, slL_scr, ap_iD, itL_lst, itL_scr, ap_iT, itT_tup, itT_ktp, ap_iS, itS_str, ap_iR1, itR1_ok, add_i, add_s, add_l, addX_i, addX_s, sub_i, mul_i, div_i, mod_i, pow_i, shl_i, shr_i, and_i, or_i, xor_i, neg_i, not_b, lt_i, le_i, gt_i, ge_i, eq_i, eq_s, ne_i, ne_s, is_non, is_int, is_str, is_tup, is_lst, isnt_non, isnt_int, isnt_str, isnt_tup, toBl_b, toIn_i, ix_s, ix_l, ix_r, ix_t, ix_k, sl_s, sl_l, sl_r, sl_t, len_s, len_l, len_r, len_t, len_k, int_i, int_b, abs_i, min_i, max_i, tup_l, tup_t, list_l, list_r, list_t, isi_i, isi_b, isi_s, isi_l, isi_t, isi_n, ty_ii, ty_bi, ty_ss, ty_ll, ty_tt, ty_tl, ty_lt, ty_tn, find_s, lower_s, sq_nx, sq_sq, sq_a, sq_o, sq_x, sq_if, sq_ret, sq_retL, oOf_o, sq_retO, sq_app, lstK_l, sq_ext, sq_aug, sq_g, sq_frz, sq_br, sq_ct, sq_raise, ofG_some, nx_ap, thenS_nx, thenS_rt, thenS_exc, sq_for, sq_wh, endV_v, endV_o, endV_n, endV_x, endL_o, endL_x, gN_ap, List.getElem?_cons_zero, List.getElem?_cons_succ, List.set_cons_zero, List.set_cons_succ, List.length_cons, List.length_nil, decide_eq_true_eq, Bool.not_eq_true, reduceIte, Bool.false_eq_true, decide_true, decide_false, Nat.reduceAdd, Nat.reduceLeDiff, Nat.reduceLT, Bool.not_true, Bool.not_false, List.nil_append, List.cons_append, List.map_cons, List.map_nil, List.replicate_succ, List.replicate_zero, Bool.not_eq_eq_eq_not, decide_eq_false_iff_not, and_self, and_true, true_and, and_false, false_and, or_true, true_or, or_false, false_or, or_self, Int.reduceLE, Int.reduceLT, Int.reduceNeg, Int.reduceAdd, Int.reduceSub, Int.reduceMul, Int.reduceDiv, Int.reduceMod, Int.reduceEq, Int.reduceToNat, Nat.reduceEqDiff, frz_zero, frz_succ, gT_tup, gT_ktp, gC_ap, gE_nil, cast_0, cast_1, cast_2, cast_3, cast_4, cast_5, cast_6, cast_7, cast_8, cast_9, ty_bs, ty_is, frz_zeroV, oOfR_o, ap_lenO, ap_ixO, tOf_some, pOf_fn, ap_P, ap_iZT, itZT_ok, zipD_cons, zipD_nil, str_i, sq_set, oOfS_o, set_ints, thenW_nx, thenW_ct, thenW_bk, thenW_rt, thenW_exc, at_ok, at_bad, at_exc, at_bind, at_ite, atS_nx, atS_rt, atS_ite, atS_ofE, atS_then, at_endV, endP_v, endP_o, ix_m, len_m, ap_MM, isCL_m, pop0_m, mapp_m, ap_cell, sq_mset, setM_m, l_char_ok (k := m) (by omega)]
      exact ⟨⟨_, rfl, ch_ok (by omega)⟩, hs2⟩
    · obtain ⟨h1, h2, h3⟩ := h
      obtain ⟨cs, rfl, h4, h5⟩ := singles xs h2
      simp only [List.length_map, List.length_range] at h1
      exact ⟨cs, rfl, by omega, h5, h3⟩
  have fin : ∀ (n : Int) (s : Sto), 0 ≤ n → n ≤ 60 → Tp s → At (lLc (iR1 (eCons (eV 1) eNil)) (gN 2) tY (eF m_l_char (eCons (eF m_l_take (eCons (eV 0) (eCons (eC (.int 94)) eNil))) eNil)) [2] [.val (.mref 1), .val (.int n), .un]) s fun xs s2 => At (mJoin (.str (tx [])) [.lst xs]) s2 fun d s2 => (∃ cs : List Nat, d = .str (tx cs) ∧ cs.length ≤ 60 ∧ ∀ c ∈ cs, okc (c : Int)) ∧ Tp s2 := fun n s h0 h1 hs => (lc n s h0 h1 hs).mono fun xs s2 ⟨cs, h1, h2, h3, h4⟩ => by
    subst h1
    have j : mJoin (.str (tx [])) [.lst (sg cs)] = .ok (.str (tx cs)) := sg_join (by omega)
    rw [j, at_ok]
    exact ⟨⟨cs, rfl, h2, h3⟩, h4⟩
  rw [e_l_name]
  unfold b_l_name
  simp only [bind_ok, bind_exc, bind_bad, ofE_ok, ofE_exc, vOf_v, ap_C, ap_V, ap_nil, ap_cons, ap_U, ap_B, ap_chain, ap_and, ap_or, ap_tup, ap_F, ap_M, ap_sl, ap_pN, ap_pS, ap_L, ap_tE, ap_tAn, ap_tO, ap_tN, ap_tY, ap_if, ap_lD, ap_lF, ap_lCat, catL_ok, ap_lRep, repL_ok, ap_lSl, slL_lst, slL_scr, ap_iD, itL_lst, itL_scr, ap_iT, itT_tup, itT_ktp, ap_iS, itS_str, ap_iR1, itR1_ok, add_i, add_s, add_l, addX_i, addX_s, sub_i, mul_i, div_i, mod_i, pow_i, shl_i, shr_i, and_i, or_i, xor_i, neg_i, not_b, lt_i, le_i, gt_i, ge_i, eq_i, eq_s, ne_i, ne_s, is_non, is_int, is_str, is_tup, is_lst, isnt_non, isnt_int, isnt_str, isnt_tup, toBl_b, toIn_i, ix_s, ix_l, ix_r, ix_t, ix_k, sl_s, sl_l, sl_r, sl_t, len_s, len_l, len_r, len_t, len_k, int_i, int_b, abs_i, min_i, max_i, tup_l, tup_t, list_l, list_r, list_t, isi_i, isi_b, isi_s, isi_l, isi_t, isi_n, ty_ii, ty_bi, ty_ss, ty_ll, ty_tt, ty_tl, ty_lt, ty_tn, find_s, lower_s, sq_nx, sq_sq, sq_a, sq_o, sq_x, sq_if, sq_ret, sq_retL, oOf_o, sq_retO, sq_app, lstK_l, sq_ext, sq_aug, sq_g, sq_frz, sq_br, sq_ct, sq_raise, ofG_some, nx_ap, thenS_nx, thenS_rt, thenS_exc, sq_for, sq_wh, endV_v, endV_o, endV_n, endV_x, endL_o, endL_x, gN_ap, List.getElem?_cons_zero, List.getElem?_cons_succ, List.set_cons_zero, List.set_cons_succ, List.length_cons, List.length_nil, decide_eq_true_eq, Bool.not_eq_true, reduceIte, Bool.false_eq_true, decide_true, decide_false, Nat.reduceAdd, Nat.reduceLeDiff, Nat.reduceLT, Bool.not_true, Bool.not_false, List.nil_append, List.cons_append, List.map_cons, List.map_nil, List.replicate_succ, List.replicate_zero, Bool.not_eq_eq_eq_not, decide_eq_false_iff_not, and_self, and_true, true_and, and_false, false_and, or_true, true_or, or_false, false_or, or_self, Int.reduceLE, Int.reduceLT, Int.reduceNeg, Int.reduceAdd, Int.reduceSub, Int.reduceMul, Int.reduceDiv, Int.reduceMod, Int.reduceEq, Int.reduceToNat, Nat.reduceEqDiff, frz_zero, frz_succ, gT_tup, gT_ktp, gC_ap, gE_nil, cast_0, cast_1, cast_2, cast_3, cast_4, cast_5, cast_6, cast_7, cast_8, cast_9, ty_bs, ty_is, frz_zeroV, oOfR_o, ap_lenO, ap_ixO, tOf_some, pOf_fn, ap_P, ap_iZT, itZT_ok, zipD_cons, zipD_nil, str_i, sq_set, oOfS_o, set_ints, thenW_nx, thenW_ct, thenW_bk, thenW_rt, thenW_exc, at_ok, at_bad, at_exc, at_bind, at_ite, atS_nx, atS_rt, atS_ite, atS_ofE, atS_then, at_endV, endP_v, endP_o, ix_m, len_m, ap_MM, isCL_m, pop0_m, mapp_m, ap_cell, sq_mset, setM_m]
  refine (take_ok (by decide) (by decide) hs).mono ?_
  rintro _ s2 ⟨n, rfl, n0, n1, hs2⟩
  refine (take_ok (by decide) (by decide) hs2).mono ?_
  rintro _ s3 ⟨k, rfl, k0, k1, hs3⟩
  by_cases hk : k = 1
  · simp only [bind_ok, bind_exc, bind_bad, ofE_ok, ofE_exc, vOf_v, ap_C, ap_V, ap_nil, ap_cons, ap_U, ap_B, ap_chain, ap_and, ap_or, ap_tup, ap_F, ap_M, ap_sl, ap_pN, ap_pS, ap_L, ap_tE, ap_tAn, ap_tO, ap_tN, ap_tY, ap_if, ap_lD, ap_lF, ap_lCat, catL_ok, ap_lRep, repL_ok, ap_lSl, slL_lst, slL_scr, ap_iD, itL_lst, itL_scr, ap_iT, itT_tup, itT_ktp, ap_iS, itS_str, ap_iR1, itR1_ok, add_i, add_s, add_l, addX_i, addX_s, sub_i, mul_i, div_i, mod_i, pow_i, shl_i, shr_i, and_i, or_i, xor_i, neg_i, not_b, lt_i, le_i, gt_i, ge_i, eq_i, eq_s, ne_i, ne_s, is_non, is_int, is_str, is_tup, is_lst, isnt_non, isnt_int, isnt_str, isnt_tup, toBl_b, toIn_i, ix_s, ix_l, ix_r, ix_t, ix_k, sl_s, sl_l, sl_r, sl_t, len_s, len_l, len_r, len_t, len_k, int_i, int_b, abs_i, min_i, max_i, tup_l, tup_t, list_l, list_r, list_t, isi_i, isi_b, isi_s, isi_l, isi_t, isi_n, ty_ii, ty_bi, ty_ss, ty_ll, ty_tt, ty_tl, ty_lt, ty_tn, find_s, lower_s, sq_nx, sq_sq, sq_a, sq_o, sq_x, sq_if, sq_ret, sq_retL, oOf_o, sq_retO, sq_app, lstK_l, sq_ext, sq_aug, sq_g, sq_frz, sq_br, sq_ct, sq_raise, ofG_some, nx_ap, thenS_nx, thenS_rt, thenS_exc, sq_for, sq_wh, endV_v, endV_o, endV_n, endV_x, endL_o, endL_x, gN_ap, List.getElem?_cons_zero, List.getElem?_cons_succ, List.set_cons_zero, List.set_cons_succ, List.length_cons, List.length_nil, decide_eq_true_eq, Bool.not_eq_true, reduceIte, Bool.false_eq_true, decide_true, decide_false, Nat.reduceAdd, Nat.reduceLeDiff, Nat.reduceLT, Bool.not_true, Bool.not_false, List.nil_append, List.cons_append, List.map_cons, List.map_nil, List.replicate_succ, List.replicate_zero, Bool.not_eq_eq_eq_not, decide_eq_false_iff_not, and_self, and_true, true_and, and_false, false_and, or_true, true_or, or_false, false_or, or_self, Int.reduceLE, Int.reduceLT, Int.reduceNeg, Int.reduceAdd, Int.reduceSub, Int.reduceMul, Int.reduceDiv, Int.reduceMod, Int.reduceEq, Int.reduceToNat, Nat.reduceEqDiff, frz_zero, frz_succ, gT_tup, gT_ktp, gC_ap, gE_nil, cast_0, cast_1, cast_2, cast_3, cast_4, cast_5, cast_6, cast_7, cast_8, cast_9, ty_bs, ty_is, frz_zeroV, oOfR_o, ap_lenO, ap_ixO, tOf_some, pOf_fn, ap_P, ap_iZT, itZT_ok, zipD_cons, zipD_nil, str_i, sq_set, oOfS_o, set_ints, thenW_nx, thenW_ct, thenW_bk, thenW_rt, thenW_exc, at_ok, at_bad, at_exc, at_bind, at_ite, atS_nx, atS_rt, atS_ite, atS_ofE, atS_then, at_endV, endP_v, endP_o, ix_m, len_m, ap_MM, isCL_m, pop0_m, mapp_m, ap_cell, sq_mset, setM_m, eq_true hk]
    refine (take_ok (by decide) (by decide) hs3).mono ?_
    rintro _ s4 ⟨k, rfl, k0, k1, hs4⟩
    simp only [bind_ok, bind_exc, bind_bad, ofE_ok, ofE_exc, vOf_v, ap_C, ap_V, ap_nil, ap_cons, ap_U, ap_B, ap_chain, ap_and, ap_or, ap_tup, ap_F, ap_M, ap_sl, ap_pN, ap_pS, ap_L, ap_tE, ap_tAn, ap_tO, ap_tN, ap_tY, ap_if, ap_lD, ap_lF, ap_lCat, catL_ok, ap_lRep, repL_ok, ap_lSl, slL_lst, slL_scr, ap_iD, itL_lst, itL_scr, ap_iT, itT_tup, itT_ktp, ap_iS, itS_str, ap_iR1, itR1_ok, add_i, add_s, add_l, addX_i, addX_s, sub_i, mul_i, div_i, mod_i, pow_i, shl_i, shr_i, and_i, or_i, xor_i, neg_i, not_b, lt_i, le_i, gt_i, ge_i, eq_i, eq_s, ne_i, ne_s, is_non, is_int, is_str, is_tup, is_lst, isnt_non, isnt_int, isnt_str, isnt_tup, toBl_b, toIn_i, ix_s, ix_l, ix_r, ix_t, ix_k, sl_s, sl_l, sl_r, sl_t, len_s, len_l, len_r, len_t, len_k, int_i, int_b, abs_i, min_i, max_i, tup_l, tup_t, list_l, list_r, list_t, isi_i, isi_b, isi_s, isi_l, isi_t, isi_n, ty_ii, ty_bi, ty_ss, ty_ll, ty_tt, ty_tl, ty_lt, ty_tn, find_s, lower_s, sq_nx, sq_sq, sq_a, sq_o, sq_x, sq_if, sq_ret, sq_retL, oOf_o, sq_retO, sq_app, lstK_l, sq_ext, sq_aug, sq_g, sq_frz, sq_br, sq_ct, sq_raise, ofG_some, nx_ap, thenS_nx, thenS_rt, thenS_exc, sq_for, sq_wh, endV_v, endV_o, endV_n, endV_x, endL_o, endL_x, gN_ap, List.getElem?_cons_zero, List.getElem?_cons_succ, List.set_cons_zero, List.set_cons_succ, List.length_cons, List.length_nil, decide_eq_true_eq, Bool.not_eq_true, reduceIte, Bool.false_eq_true, decide_true, decide_false, Nat.reduceAdd, Nat.reduceLeDiff, Nat.reduceLT, Bool.not_true, Bool.not_false, List.nil_append, List.cons_append, List.map_cons, List.map_nil, List.replicate_succ, List.replicate_zero, Bool.not_eq_eq_eq_not, decide_eq_false_iff_not, and_self, and_true, true_and, and_false, false_and, or_true, true_or, or_false, false_or, or_self, Int.reduceLE, Int.reduceLT, Int.reduceNeg, Int.reduceAdd, Int.reduceSub, Int.reduceMul, Int.reduceDiv, Int.reduceMod, Int.reduceEq, Int.reduceToNat, Nat.reduceEqDiff, frz_zero, frz_succ, gT_tup, gT_ktp, gC_ap, gE_nil, cast_0, cast_1, cast_2, cast_3, cast_4, cast_5, cast_6, cast_7, cast_8, cast_9, ty_bs, ty_is, frz_zeroV, oOfR_o, ap_lenO, ap_ixO, tOf_some, pOf_fn, ap_P, ap_iZT, itZT_ok, zipD_cons, zipD_nil, str_i, sq_set, oOfS_o, set_ints, thenW_nx, thenW_ct, thenW_bk, thenW_rt, thenW_exc, at_ok, at_bad, at_exc, at_bind, at_ite, atS_nx, atS_rt, atS_ite, atS_ofE, atS_then, at_endV, endP_v, endP_o, ix_m, len_m, ap_MM, isCL_m, pop0_m, mapp_m, ap_cell, sq_mset, setM_m, e_tx, show isTy .str (.str (tx [])) = true from rfl]
    exact fin k s4 k0 (by omega) hs4
  · simp only [bind_ok, bind_exc, bind_bad, ofE_ok, ofE_exc, vOf_v, ap_C, ap_V, ap_nil, ap_cons, ap_U, ap_B, ap_chain, ap_and, ap_or, ap_tup, ap_F, ap_M, ap_sl, ap_pN, ap_pS, ap_L, ap_tE, ap_tAn, ap_tO, ap_tN, ap_tY, ap_if, ap_lD, ap_lF, ap_lCat, catL_ok, ap_lRep, repL_ok, ap_lSl, slL_lst, slL_scr, ap_iD, itL_lst, itL_scr, ap_iT, itT_tup, itT_ktp, ap_iS, itS_str, ap_iR1, itR1_ok, add_i, add_s, add_l, addX_i, addX_s, sub_i, mul_i, div_i, mod_i, pow_i, shl_i, shr_i, and_i, or_i, xor_i, neg_i, not_b, lt_i, le_i, gt_i, ge_i, eq_i, eq_s, ne_i, ne_s, is_non, is_int, is_str, is_tup, is_lst, isnt_non, isnt_int, isnt_str, isnt_tup, toBl_b, toIn_i, ix_s, ix_l, ix_r, ix_t, ix_k, sl_s, sl_l, sl_r, sl_t, len_s, len_l, len_r, len_t, len_k, int_i, int_b, abs_i, min_i, max_i, tup_l, tup_t, list_l, list_r, list_t, isi_i, isi_b, isi_s, isi_l, isi_t, isi_n, ty_ii, ty_bi, ty_ss, ty_ll, ty_tt, ty_tl, ty_lt, ty_tn, find_s, lower_s, sq_nx, sq_sq, sq_a, sq_o, sq_x, sq_if, sq_ret, sq_retL, oOf_o, sq_retO, sq_app, lstK_l, sq_ext, sq_aug, sq_g, sq_frz, sq_br, sq_ct, sq_raise, ofG_some, nx_ap, thenS_nx, thenS_rt, thenS_exc, sq_for, sq_wh, endV_v, endV_o, endV_n, endV_x, endL_o, endL_x, gN_ap, List.getElem?_cons_zero, List.getElem?_cons_succ, List.set_cons_zero, List.set_cons_succ, List.length_cons, List.length_nil, decide_eq_true_eq, Bool.not_eq_true, reduceIte, Bool.false_eq_true, decide_true, decide_false, Nat.reduceAdd, Nat.reduceLeDiff, Nat.reduceLT, Bool.not_true, Bool.not_false, List.nil_append, List.cons_append, List.map_cons, List.map_nil, List.replicate_succ, List.replicate_zero, Bool.not_eq_eq_eq_not, decide_eq_false_iff_not, and_self, and_true, true_and, and_false, false_and, or_true, true_or, or_false, false_or, or_self, Int.reduceLE, Int.reduceLT, Int.reduceNeg, Int.reduceAdd, Int.reduceSub, Int.reduceMul, Int.reduceDiv, Int.reduceMod, Int.reduceEq, Int.reduceToNat, Nat.reduceEqDiff, frz_zero, frz_succ, gT_tup, gT_ktp, gC_ap, gE_nil, cast_0, cast_1, cast_2, cast_3, cast_4, cast_5, cast_6, cast_7, cast_8, cast_9, ty_bs, ty_is, frz_zeroV, oOfR_o, ap_lenO, ap_ixO, tOf_some, pOf_fn, ap_P, ap_iZT, itZT_ok, zipD_cons, zipD_nil, str_i, sq_set, oOfS_o, set_ints, thenW_nx, thenW_ct, thenW_bk, thenW_rt, thenW_exc, at_ok, at_bad, at_exc, at_bind, at_ite, atS_nx, atS_rt, atS_ite, atS_ofE, atS_then, at_endV, endP_v, endP_o, ix_m, len_m, ap_MM, isCL_m, pop0_m, mapp_m, ap_cell, sq_mset, setM_m, eq_false hk, e_tx, show isTy .str (.str (tx [])) = true from rfl]
    exact fin n s3 n0 (by omega) hs3
/-! bytes -/
theorem is_bytes_ok {F : List Int} (h : By F) : m_l_is_bytes [.lst (dI F)] = .ok (.bl true) := by
  obtain ⟨e, q, x, rfl⟩ := forGo_P (i := 1) (b := b_l_is_bytes_1) (P := fun env => ∃ x : Sl, env = [.val (.lst (dI F)), x]) (dI F) [.val (.lst (dI F)), .un] ⟨_, rfl⟩ fun d env hd hI => by
    obtain ⟨x, rfl⟩ := hI
    obtain ⟨b, hb, rfl⟩ := List.mem_map.mp hd
    have := h b hb
    unfold b_l_is_bytes_1
    simp only [bind_ok, bind_exc, bind_bad, ofE_ok, ofE_exc, vOf_v, ap_C, ap_V, ap_nil, ap_cons, ap_U, ap_B, ap_chain, ap_and, ap_or, ap_tup, ap_F, ap_M, ap_sl, ap_pN, ap_pS, ap_L, ap_tE, ap_tAn, ap_tO, ap_tN, ap_tY, ap_if, ap_lD, ap_lF, ap_lCat, catL_ok, ap_lRep, repL_ok, ap_lSl, slL_lst, slL_scr, ap_iD, itL_lst, itL_scr, ap_iT, itT_tup, itT_ktp, ap_iS, itS_str, ap_iR1, itR1_ok, add_i, add_s, add_l, addX_i, addX_s, sub_i, mul_i, div_i, mod_i, pow_i, shl_i, shr_i, and_i, or_i, xor_i, neg_i, not_b, lt_i, le_i, gt_i, ge_i, eq_i, eq_s, ne_i, ne_s, is_non, is_int, is_str, is_tup, is_lst, isnt_non, isnt_int, isnt_str, isnt_tup, toBl_b, toIn_i, ix_s, ix_l, ix_r, ix_t, ix_k, sl_s, sl_l, sl_r, sl_t, len_s, len_l, len_r, len_t, len_k, int_i, int_b, abs_i, min_i, max_i, tup_l, tup_t, list_l, list_r, list_t, isi_i, isi_b, isi_s, isi_l, isi_t, isi_n, ty_ii, ty_bi, ty_ss, ty_ll, ty_tt, ty_tl, ty_lt, ty_tn, find_s, lower_s, sq_nx, sq_sq, sq_a, sq_o, sq_x, sq_if, sq_ret, sq_retL, oOf_o, sq_retO, sq_app, lstK_l, sq_ext, sq_aug, sq_g, sq_frz, sq_br, sq_ct, sq_raise, ofG_some, nx_ap, thenS_nx, thenS_rt, thenS_exc, sq_for, sq_wh, endV_v, endV_o, endV_n, endV_x, endL_o, endL_x, gN_ap, List.getElem?_cons_zero, List.getElem?_cons_succ, List.set_cons_zero, List.set_cons_succ, List.length_cons, List.length_nil, decide_eq_true_eq, Bool.not_eq_true, reduceIte, Bool.false_eq_true, decide_true, decide_false, Nat.reduceAdd, Nat.reduceLeDiff, Nat.reduceLT, Bool.not_true, Bool.not_false, List.nil_append, List.cons_append, List.map_cons, List.map_nil, List.replicate_succ, List.replicate_zero, Bool.not_eq_eq_eq_not, decide_eq_false_iff_not, and_self, and_true, true_and, and_false, false_and, or_true, true_or, or_false, false_or, or_self, Int.reduceLE, Int.reduceLT, Int.reduceNeg, Int.reduceAdd, Int.reduceSub, Int.reduceMul, Int.reduceDiv, Int.reduceMod, Int.reduceEq, Int.reduceToNat, Nat.reduceEqDiff, frz_zero, frz_succ, gT_tup, gT_ktp, gC_ap, gE_nil, cast_0, cast_1, cast_2, cast_3, cast_4, cast_5, cast_6, cast_7, cast_8, cast_9, ty_bs, ty_is, frz_zeroV, oOfR_o, ap_lenO, ap_ixO, tOf_some, pOf_fn, ap_P, ap_iZT, itZT_ok, zipD_cons, zipD_nil, str_i, sq_set, oOfS_o, set_ints, thenW_nx, thenW_ct, thenW_bk, thenW_rt, thenW_exc, at_ok, at_bad, at_exc, at_bind, at_ite, atS_nx, atS_rt, atS_ite, atS_ofE, atS_then, at_endV, endP_v, endP_o, ix_m, len_m, ap_MM, isCL_m, pop0_m, mapp_m, ap_cell, sq_mset, setM_m, nxP_nx, show isTy .int (.int b) = true from rfl, show isTy .bool (.int b) = false from rfl, show ¬ b < 0 by omega, show ¬ 255 < b by omega]
    exact ⟨_, rfl⟩
  rw [e_l_is_bytes]
  unfold b_l_is_bytes
  simp only [bind_ok, bind_exc, bind_bad, ofE_ok, ofE_exc, vOf_v, ap_C, ap_V, ap_nil, ap_cons, ap_U, ap_B, ap_chain, ap_and, ap_or, ap_tup, ap_F, ap_M, ap_sl, ap_pN, ap_pS, ap_L, ap_tE, ap_tAn, ap_tO, ap_tN, ap_tY, ap_if, ap_lD, ap_lF, ap_lCat, catL_ok, ap_lRep, repL_ok, ap_lSl, slL_lst, slL_scr, ap_iD, itL_lst, itL_scr, ap_iT, itT_tup, itT_ktp, ap_iS, itS_str, ap_iR1, itR1_ok, add_i, add_s, add_l, addX_i, addX_s, sub_i, mul_i, div_i, mod_i, pow_i, shl_i, shr_i, and_i, or_i, xor_i, neg_i, not_b, lt_i, le_i, gt_i, ge_i, eq_i, eq_s, ne_i, ne_s, is_non, is_int, is_str, is_tup, is_lst, isnt_non, isnt_int, isnt_str, isnt_tup, toBl_b, toIn_i, ix_s, ix_l, ix_r, ix_t, ix_k, sl_s, sl_l, sl_r, sl_t, len_s, len_l, len_r, len_t, len_k, int_i, int_b, abs_i, min_i, max_i, tup_l, tup_t, list_l, list_r, list_t, isi_i, isi_b, isi_s, isi_l, isi_t, isi_n, ty_ii, ty_bi, ty_ss, ty_ll, ty_tt, ty_tl, ty_lt, ty_tn, find_s, lower_s, sq_nx, sq_sq, sq_a, sq_o, sq_x, sq_if, sq_ret, sq_retL, oOf_o, sq_retO, sq_app, lstK_l, sq_ext, sq_aug, sq_g, sq_frz, sq_br, sq_ct, sq_raise, ofG_some, nx_ap, thenS_nx, thenS_rt, thenS_exc, sq_for, sq_wh, endV_v, endV_o, endV_n, endV_x, endL_o, endL_x, gN_ap, List.getElem?_cons_zero, List.getElem?_cons_succ, List.set_cons_zero, List.set_cons_succ, List.length_cons, List.length_nil, decide_eq_true_eq, Bool.not_eq_true, reduceIte, Bool.false_eq_true, decide_true, decide_false, Nat.reduceAdd, Nat.reduceLeDiff, Nat.reduceLT, Bool.not_true, Bool.not_false, List.nil_append, List.cons_append, List.map_cons, List.map_nil, List.replicate_succ, List.replicate_zero, Bool.not_eq_eq_eq_not, decide_eq_false_iff_not, and_self, and_true, true_and, and_false, false_and, or_true, true_or, or_false, false_or, or_self, Int.reduceLE, Int.reduceLT, Int.reduceNeg, Int.reduceAdd, Int.reduceSub, Int.reduceMul, Int.reduceDiv, Int.reduceMod, Int.reduceEq, Int.reduceToNat, Nat.reduceEqDiff, frz_zero, frz_succ, gT_tup, gT_ktp, gC_ap, gE_nil, cast_0, cast_1, cast_2, cast_3, cast_4, cast_5, cast_6, cast_7, cast_8, cast_9, ty_bs, ty_is, frz_zeroV, oOfR_o, ap_lenO, ap_ixO, tOf_some, pOf_fn, ap_P, ap_iZT, itZT_ok, zipD_cons, zipD_nil, str_i, sq_set, oOfS_o, set_ints, thenW_nx, thenW_ct, thenW_bk, thenW_rt, thenW_exc, at_ok, at_bad, at_exc, at_bind, at_ite, atS_nx, atS_rt, atS_ite, atS_ofE, atS_then, at_endV, endP_v, endP_o, ix_m, len_m, ap_MM, isCL_m, pop0_m, mapp_m, ap_cell, sq_mset, setM_m, show isTy .list (.lst (dI F)) = true from rfl, q]
abbrev cI (cs : List Nat) : List Int := cs.map fun (c : Nat) => (c : Int)
theorem ords {it : SA} {env : Dm.Env} {cs : List Nat} {j : Nat} (h : it env = .ok (sg cs)) (hl : cs.length ≤ 40000) (hj : j < env.length) : lLc it (gN j) tY (eF fOrd (eCons (eV j) eNil)) [j] env = .ok (dI (cI cs)) := by
  have e : dI (cI cs) = (sg cs).map fun d => match d with
      | .str z => .int (z.cps.getD 0 0 : Nat)
      | _ => .non := by
    rw [dI, cI, sg, dS, List.map_map, List.map_map, List.map_map]
    rfl
  rw [e]
  refine lc_map _ h (by rw [List.length_map, List.length_map]; exact hl) fun d hd => ⟨_, gN_ap, ?_⟩
  obtain ⟨z, hz, rfl⟩ := List.mem_map.mp hd
  obtain ⟨c, _, rfl⟩ := List.mem_map.mp hz
  have q : ((wipeS env [j]).set j (.val (.str (tx [c]))))[j]? = some (.val (.str (tx [c]))) := by
    rw [List.getElem?_set, if_pos rfl, if_pos (by rw [wipe1_len]; exact hj)]
  unfold eF eCons eNil eV
  rw [q]
  rfl
theorem write_ok {cs : List Nat} (h : cs.length ≤ 60) : m_write_name [.str (tx cs)] = .ok (.lst (dI ((cs.length : Int) :: cI cs))) := by
  have q : lLc (iS (eV 0)) (gN 1) tY (eF fOrd (eCons (eV 1) eNil)) [1] [.val (.str (tx cs)), .un] = .ok (dI (cI cs)) := ords (by simp only [bind_ok, bind_exc, bind_bad, ofE_ok, ofE_exc, vOf_v, ap_C, ap_V, ap_nil, ap_cons, ap_U, ap_B, ap_chain, ap_and, ap_or, ap_tup, ap_F, ap_M, ap_sl, ap_pN, ap_pS, ap_L, ap_tE, ap_tAn, ap_tO, ap_tN, ap_tY, ap_if, ap_lD, ap_lF, ap_lCat, catL_ok, ap_lRep, repL_ok, ap_lSl, slL_lst, slL_scr, ap_iD, itL_lst, itL_scr, ap_iT, itT_tup, itT_ktp, ap_iS, itS_str, ap_iR1, itR1_ok, add_i, add_s, add_l, addX_i, addX_s, sub_i, mul_i, div_i, mod_i, pow_i, shl_i, shr_i, and_i, or_i, xor_i, neg_i, not_b, lt_i, le_i, gt_i, ge_i, eq_i, eq_s, ne_i, ne_s, is_non, is_int, is_str, is_tup, is_lst, isnt_non, isnt_int, isnt_str, isnt_tup, toBl_b, toIn_i, ix_s, ix_l, ix_r, ix_t, ix_k, sl_s, sl_l, sl_r, sl_t, len_s, len_l, len_r, len_t, len_k, int_i, int_b, abs_i, min_i, max_i, tup_l, tup_t, list_l, list_r, list_t, isi_i, isi_b, isi_s, isi_l, isi_t, isi_n, ty_ii, ty_bi, ty_ss, ty_ll, ty_tt, ty_tl, ty_lt, ty_tn, find_s, lower_s, sq_nx, sq_sq, sq_a, sq_o, sq_x, sq_if, sq_ret, sq_retL, oOf_o, sq_retO, sq_app, lstK_l, sq_ext, sq_aug, sq_g, sq_frz, sq_br, sq_ct, sq_raise, ofG_some, nx_ap, thenS_nx, thenS_rt, thenS_exc, sq_for, sq_wh, endV_v, endV_o, endV_n, endV_x, endL_o, endL_x, gN_ap, List.getElem?_cons_zero, List.getElem?_cons_succ, List.set_cons_zero, List.set_cons_succ, List.length_cons, List.length_nil, decide_eq_true_eq, Bool.not_eq_true, reduceIte, Bool.false_eq_true, decide_true, decide_false, Nat.reduceAdd, Nat.reduceLeDiff, Nat.reduceLT, Bool.not_true, Bool.not_false, List.nil_append, List.cons_append, List.map_cons, List.map_nil, List.replicate_succ, List.replicate_zero, Bool.not_eq_eq_eq_not, decide_eq_false_iff_not, and_self, and_true, true_and, and_false, false_and, or_true, true_or, or_false, false_or, or_self, Int.reduceLE, Int.reduceLT, Int.reduceNeg, Int.reduceAdd, Int.reduceSub, Int.reduceMul, Int.reduceDiv, Int.reduceMod, Int.reduceEq, Int.reduceToNat, Nat.reduceEqDiff, frz_zero, frz_succ, gT_tup, gT_ktp, gC_ap, gE_nil, cast_0, cast_1, cast_2, cast_3, cast_4, cast_5, cast_6, cast_7, cast_8, cast_9, ty_bs, ty_is, frz_zeroV, oOfR_o, ap_lenO, ap_ixO, tOf_some, pOf_fn, ap_P, ap_iZT, itZT_ok, zipD_cons, zipD_nil, str_i, sq_set, oOfS_o, set_ints, thenW_nx, thenW_ct, thenW_bk, thenW_rt, thenW_exc, at_ok, at_bad, at_exc, at_bind, at_ite, atS_nx, atS_rt, atS_ite, atS_ofE, atS_then, at_endV, endP_v, endP_o, ix_m, len_m, ap_MM, isCL_m, pop0_m, mapp_m, ap_cell, sq_mset, setM_m]; rw [tx_cps, sg, dS, List.map_map]; rfl) (by omega) (by show 1 < 2; decide)
  have t : (tE (eB dGe (eV 0) (eC (.int 128)))) [.val (.int (cs.length : Int)), .own []] = .ok false := by
    simp only [bind_ok, bind_exc, bind_bad, ofE_ok, ofE_exc, vOf_v, ap_C, ap_V, ap_nil, ap_cons, ap_U, ap_B, ap_chain, ap_and, ap_or, ap_tup, ap_F, ap_M, ap_sl, ap_pN, ap_pS, ap_L, ap_tE, ap_tAn, ap_tO, ap_tN, ap_tY, ap_if, ap_lD, ap_lF, ap_lCat, catL_ok, ap_lRep, repL_ok, ap_lSl, slL_lst, slL_scr, ap_iD, itL_lst, itL_scr, ap_iT, itT_tup, itT_ktp, ap_iS, itS_str, ap_iR1, itR1_ok, add_i, add_s, add_l, addX_i, addX_s, sub_i, mul_i, div_i, mod_i, pow_i, shl_i, shr_i, and_i, or_i, xor_i, neg_i, not_b, lt_i, le_i, gt_i, ge_i, eq_i, eq_s, ne_i, ne_s, is_non, is_int, is_str, is_tup, is_lst, isnt_non, isnt_int, isnt_str, isnt_tup, toBl_b, toIn_i, ix_s, ix_l, ix_r, ix_t, ix_k, sl_s, sl_l, sl_r, sl_t, len_s, len_l, len_r, len_t, len_k, int_i, int_b, abs_i, min_i, max_i, tup_l, tup_t, list_l, list_r, list_t, isi_i, isi_b, isi_s, isi_l, isi_t, isi_n, ty_ii, ty_bi, ty_ss, ty_ll, ty_tt, ty_tl, ty_lt, ty_tn, find_s, lower_s, sq_nx, sq_sq, sq_a, sq_o, sq_x, sq_if, sq_ret, sq_retL, oOf_o, sq_retO, sq_app, lstK_l, sq_ext, sq_aug, sq_g, sq_frz, sq_br, sq_ct, sq_raise, ofG_some, nx_ap, thenS_nx, thenS_rt, thenS_exc, sq_for, sq_wh, endV_v, endV_o, endV_n, endV_x, endL_o, endL_x, gN_ap, List.getElem?_cons_zero, List.getElem?_cons_succ, List.set_cons_zero, List.set_cons_succ, List.length_cons, List.length_nil, decide_eq_true_eq, Bool.not_eq_true, reduceIte, Bool.false_eq_true, decide_true, decide_false, Nat.reduceAdd, Nat.reduceLeDiff, Nat.reduceLT, Bool.not_true, Bool.not_false, List.nil_append, List.cons_append, List.map_cons, List.map_nil, List.replicate_succ, List.replicate_zero, Bool.not_eq_eq_eq_not, decide_eq_false_iff_not, and_self, and_true, true_and, and_false, false_and, or_true, true_or, or_false, false_or, or_self, Int.reduceLE, Int.reduceLT, Int.reduceNeg, Int.reduceAdd, Int.reduceSub, Int.reduceMul, Int.reduceDiv, Int.reduceMod, Int.reduceEq, Int.reduceToNat, Nat.reduceEqDiff, frz_zero, frz_succ, gT_tup, gT_ktp, gC_ap, gE_nil, cast_0, cast_1, cast_2, cast_3, cast_4, cast_5, cast_6, cast_7, cast_8, cast_9, ty_bs, ty_is, frz_zeroV, oOfR_o, ap_lenO, ap_ixO, tOf_some, pOf_fn, ap_P, ap_iZT, itZT_ok, zipD_cons, zipD_nil, str_i, sq_set, oOfS_o, set_ints, thenW_nx, thenW_ct, thenW_bk, thenW_rt, thenW_exc, at_ok, at_bad, at_exc, at_bind, at_ite, atS_nx, atS_rt, atS_ite, atS_ofE, atS_then, at_endV, endP_v, endP_o, ix_m, len_m, ap_MM, isCL_m, pop0_m, mapp_m, ap_cell, sq_mset, setM_m, show ¬ (128 : Int) ≤ (cs.length : Int) by omega]
  have w : m_write_unsigned [.int (cs.length : Int)] = .ok (.lst [.int (cs.length : Int)]) := by
    have w1 := whGo_succ (n := 99999) (b := b_write_unsigned_1) t
    rw [if_neg Bool.false_ne_true] at w1
    rw [e_write_unsigned]
    unfold b_write_unsigned
    simp only [bind_ok, bind_exc, bind_bad, ofE_ok, ofE_exc, vOf_v, ap_C, ap_V, ap_nil, ap_cons, ap_U, ap_B, ap_chain, ap_and, ap_or, ap_tup, ap_F, ap_M, ap_sl, ap_pN, ap_pS, ap_L, ap_tE, ap_tAn, ap_tO, ap_tN, ap_tY, ap_if, ap_lD, ap_lF, ap_lCat, catL_ok, ap_lRep, repL_ok, ap_lSl, slL_lst, slL_scr, ap_iD, itL_lst, itL_scr, ap_iT, itT_tup, itT_ktp, ap_iS, itS_str, ap_iR1, itR1_ok, add_i, add_s, add_l, addX_i, addX_s, sub_i, mul_i, div_i, mod_i, pow_i, shl_i, shr_i, and_i, or_i, xor_i, neg_i, not_b, lt_i, le_i, gt_i, ge_i, eq_i, eq_s, ne_i, ne_s, is_non, is_int, is_str, is_tup, is_lst, isnt_non, isnt_int, isnt_str, isnt_tup, toBl_b, toIn_i, ix_s, ix_l, ix_r, ix_t, ix_k, sl_s, sl_l, sl_r, sl_t, len_s, len_l, len_r, len_t, len_k, int_i, int_b, abs_i, min_i, max_i, tup_l, tup_t, list_l, list_r, list_t, isi_i, isi_b, isi_s, isi_l, isi_t, isi_n, ty_ii, ty_bi, ty_ss, ty_ll, ty_tt, ty_tl, ty_lt, ty_tn, find_s, lower_s, sq_nx, sq_sq, sq_a, sq_o, sq_x, sq_if, sq_ret, sq_retL, oOf_o, sq_retO, sq_app, lstK_l, sq_ext, sq_aug, sq_g, sq_frz, sq_br, sq_ct, sq_raise, ofG_some, nx_ap, thenS_nx, thenS_rt, thenS_exc, sq_for, sq_wh, endV_v, endV_o, endV_n, endV_x, endL_o, endL_x, gN_ap, List.getElem?_cons_zero, List.getElem?_cons_succ, List.set_cons_zero, List.set_cons_succ, List.length_cons, List.length_nil, decide_eq_true_eq, Bool.not_eq_true, reduceIte, Bool.false_eq_true, decide_true, decide_false, Nat.reduceAdd, Nat.reduceLeDiff, Nat.reduceLT, Bool.not_true, Bool.not_false, List.nil_append, List.cons_append, List.map_cons, List.map_nil, List.replicate_succ, List.replicate_zero, Bool.not_eq_eq_eq_not, decide_eq_false_iff_not, and_self, and_true, true_and, and_false, false_and, or_true, true_or, or_false, false_or, or_self, Int.reduceLE, Int.reduceLT, Int.reduceNeg, Int.reduceAdd, Int.reduceSub, Int.reduceMul, Int.reduceDiv, Int.reduceMod, Int.reduceEq, Int.reduceToNat, Nat.reduceEqDiff, frz_zero, frz_succ, gT_tup, gT_ktp, gC_ap, gE_nil, cast_0, cast_1, cast_2, cast_3, cast_4, cast_5, cast_6, cast_7, cast_8, cast_9, ty_bs, ty_is, frz_zeroV, oOfR_o, ap_lenO, ap_ixO, tOf_some, pOf_fn, ap_P, ap_iZT, itZT_ok, zipD_cons, zipD_nil, str_i, sq_set, oOfS_o, set_ints, thenW_nx, thenW_ct, thenW_bk, thenW_rt, thenW_exc, at_ok, at_bad, at_exc, at_bind, at_ite, atS_nx, atS_rt, atS_ite, atS_ofE, atS_then, at_endV, endP_v, endP_o, ix_m, len_m, ap_MM, isCL_m, pop0_m, mapp_m, ap_cell, sq_mset, setM_m, w1]
  have z : m_write_sized [.lst (dI (cI cs))] = .ok (.lst (dI ((cs.length : Int) :: cI cs))) := by
    rw [e_write_sized]
    unfold b_write_sized
    simp only [bind_ok, bind_exc, bind_bad, ofE_ok, ofE_exc, vOf_v, ap_C, ap_V, ap_nil, ap_cons, ap_U, ap_B, ap_chain, ap_and, ap_or, ap_tup, ap_F, ap_M, ap_sl, ap_pN, ap_pS, ap_L, ap_tE, ap_tAn, ap_tO, ap_tN, ap_tY, ap_if, ap_lD, ap_lF, ap_lCat, catL_ok, ap_lRep, repL_ok, ap_lSl, slL_lst, slL_scr, ap_iD, itL_lst, itL_scr, ap_iT, itT_tup, itT_ktp, ap_iS, itS_str, ap_iR1, itR1_ok, add_i, add_s, add_l, addX_i, addX_s, sub_i, mul_i, div_i, mod_i, pow_i, shl_i, shr_i, and_i, or_i, xor_i, neg_i, not_b, lt_i, le_i, gt_i, ge_i, eq_i, eq_s, ne_i, ne_s, is_non, is_int, is_str, is_tup, is_lst, isnt_non, isnt_int, isnt_str, isnt_tup, toBl_b, toIn_i, ix_s, ix_l, ix_r, ix_t, ix_k, sl_s, sl_l, sl_r, sl_t, len_s, len_l, len_r, len_t, len_k, int_i, int_b, abs_i, min_i, max_i, tup_l, tup_t, list_l, list_r, list_t, isi_i, isi_b, isi_s, isi_l, isi_t, isi_n, ty_ii, ty_bi, ty_ss, ty_ll, ty_tt, ty_tl, ty_lt, ty_tn, find_s, lower_s, sq_nx, sq_sq, sq_a, sq_o, sq_x, sq_if, sq_ret, sq_retL, oOf_o, sq_retO, sq_app, lstK_l, sq_ext, sq_aug, sq_g, sq_frz, sq_br, sq_ct, sq_raise, ofG_some, nx_ap, thenS_nx, thenS_rt, thenS_exc, sq_for, sq_wh, endV_v, endV_o, endV_n, endV_x, endL_o, endL_x, gN_ap, List.getElem?_cons_zero, List.getElem?_cons_succ, List.set_cons_zero, List.set_cons_succ, List.length_cons, List.length_nil, decide_eq_true_eq, Bool.not_eq_true, reduceIte, Bool.false_eq_true, decide_true, decide_false, Nat.reduceAdd, Nat.reduceLeDiff, Nat.reduceLT, Bool.not_true, Bool.not_false, List.nil_append, List.cons_append, List.map_cons, List.map_nil, List.replicate_succ, List.replicate_zero, Bool.not_eq_eq_eq_not, decide_eq_false_iff_not, and_self, and_true, true_and, and_false, false_and, or_true, true_or, or_false, false_or, or_self, Int.reduceLE, Int.reduceLT, Int.reduceNeg, Int.reduceAdd, Int.reduceSub, Int.reduceMul, Int.reduceDiv, Int.reduceMod, Int.reduceEq, Int.reduceToNat, Nat.reduceEqDiff, frz_zero, frz_succ, gT_tup, gT_ktp, gC_ap, gE_nil, cast_0, cast_1, cast_2, cast_3, cast_4, cast_5, cast_6, cast_7, cast_8, cast_9, ty_bs, ty_is, frz_zeroV, oOfR_o, ap_lenO, ap_ixO, tOf_some, pOf_fn, ap_P, ap_iZT, itZT_ok, zipD_cons, zipD_nil, str_i, sq_set, oOfS_o, set_ints, thenW_nx, thenW_ct, thenW_bk, thenW_rt, thenW_exc, at_ok, at_bad, at_exc, at_bind, at_ite, atS_nx, atS_rt, atS_ite, atS_ofE, atS_then, at_endV, endP_v, endP_o, ix_m, len_m, ap_MM, isCL_m, pop0_m, mapp_m, ap_cell, sq_mset, setM_m, List.length_map, w, show cs.length + 1 ≤ 100000 by omega, show cs.length ≤ 99999 by omega, show 1 + cs.length ≤ 100000 by omega]
  rw [e_write_name]
  unfold b_write_name
  simp only [bind_ok, bind_exc, bind_bad, ofE_ok, ofE_exc, vOf_v, ap_C, ap_V, ap_nil, ap_cons, ap_U, ap_B, ap_chain, ap_and, ap_or, ap_tup, ap_F, ap_M, ap_sl, ap_pN, ap_pS, ap_L, ap_tE, ap_tAn, ap_tO, ap_tN, ap_tY, ap_if, ap_lD, ap_lF, ap_lCat, catL_ok, ap_lRep, repL_ok, ap_lSl, slL_lst, slL_scr, ap_iD, itL_lst, itL_scr, ap_iT, itT_tup, itT_ktp, ap_iS, itS_str, ap_iR1, itR1_ok, add_i, add_s, add_l, addX_i, addX_s, sub_i, mul_i, div_i, mod_i, pow_i, shl_i, shr_i, and_i, or_i, xor_i, neg_i, not_b, lt_i, le_i, gt_i, ge_i, eq_i, eq_s, ne_i, ne_s, is_non, is_int, is_str, is_tup, is_lst, isnt_non, isnt_int, isnt_str, isnt_tup, toBl_b, toIn_i, ix_s, ix_l, ix_r, ix_t, ix_k, sl_s, sl_l, sl_r, sl_t, len_s, len_l, len_r, len_t, len_k, int_i, int_b, abs_i, min_i, max_i, tup_l, tup_t, list_l, list_r, list_t, isi_i, isi_b, isi_s, isi_l, isi_t, isi_n, ty_ii, ty_bi, ty_ss, ty_ll, ty_tt, ty_tl, ty_lt, ty_tn, find_s, lower_s, sq_nx, sq_sq, sq_a, sq_o, sq_x, sq_if, sq_ret, sq_retL, oOf_o, sq_retO, sq_app, lstK_l, sq_ext, sq_aug, sq_g, sq_frz, sq_br, sq_ct, sq_raise, ofG_some, nx_ap, thenS_nx, thenS_rt, thenS_exc, sq_for, sq_wh, endV_v, endV_o, endV_n, endV_x, endL_o, endL_x, gN_ap, List.getElem?_cons_zero, List.getElem?_cons_succ, List.set_cons_zero, List.set_cons_succ, List.length_cons, List.length_nil, decide_eq_true_eq, Bool.not_eq_true, reduceIte, Bool.false_eq_true, decide_true, decide_false, Nat.reduceAdd, Nat.reduceLeDiff, Nat.reduceLT, Bool.not_true, Bool.not_false, List.nil_append, List.cons_append, List.map_cons, List.map_nil, List.replicate_succ, List.replicate_zero, Bool.not_eq_eq_eq_not, decide_eq_false_iff_not, and_self, and_true, true_and, and_false, false_and, or_true, true_or, or_false, false_or, or_self, Int.reduceLE, Int.reduceLT, Int.reduceNeg, Int.reduceAdd, Int.reduceSub, Int.reduceMul, Int.reduceDiv, Int.reduceMod, Int.reduceEq, Int.reduceToNat, Nat.reduceEqDiff, frz_zero, frz_succ, gT_tup, gT_ktp, gC_ap, gE_nil, cast_0, cast_1, cast_2, cast_3, cast_4, cast_5, cast_6, cast_7, cast_8, cast_9, ty_bs, ty_is, frz_zeroV, oOfR_o, ap_lenO, ap_ixO, tOf_some, pOf_fn, ap_P, ap_iZT, itZT_ok, zipD_cons, zipD_nil, str_i, sq_set, oOfS_o, set_ints, thenW_nx, thenW_ct, thenW_bk, thenW_rt, thenW_exc, at_ok, at_bad, at_exc, at_bind, at_ite, atS_nx, atS_rt, atS_ite, atS_ofE, atS_then, at_endV, endP_v, endP_o, ix_m, len_m, ap_MM, isCL_m, pop0_m, mapp_m, ap_cell, sq_mset, setM_m, q, z]
theorem by_app {F G : List Int} (h : By F) (h2 : By G) : By (F ++ G) := fun b hb => (List.mem_append.mp hb).elim (h b) (h2 b)
theorem by_set {F : List Int} (h : By F) {v : Int} (h0 : 0 ≤ v) (h1 : v < 256) (j : Nat) : By (F.set j v) := fun b hb => by
  rcases List.mem_or_eq_of_mem_set hb with hb | rfl
  · exact h b hb
  · exact ⟨h0, h1⟩
theorem by_take {F : List Int} (h : By F) (n : Nat) : By (F.take n) := fun b hb => h b (List.mem_of_mem_take hb)
/-! the law -/
abbrev I13 (sc : D) : Nat → Dm.Env → Sto → Prop := fun _ env s => (∃ x2 x3 x4 x5 x6 x7 x8 x9 xa : Sl, env = [.val sc, .val (.mref 1), x2, x3, x4, x5, x6, x7, x8, x9, xa]) ∧ Tp s
theorem cut2 {a b : Int} {n : Int} (h0 : 0 ≤ n) : cutG [D.int a, D.int b] none (some n) = dI ([a, b].take n.toNat) := by
  rw [show n = ((n.toNat : Nat) : Int) by omega, cutG_to, Int.toNat_natCast, dI, List.map_take]
  rfl
theorem cut3 {a b c : Int} {n : Int} (h0 : 0 ≤ n) : cutG [D.int a, D.int b, D.int c] none (some n) = dI ([a, b, c].take n.toNat) := by
  rw [show n = ((n.toNat : Nat) : Int) by omega, cutG_to, Int.toNat_natCast, dI, List.map_take]
  rfl
theorem dI_app (F G : List Int) : dI F ++ dI G = dI (F ++ G) := by rw [dI, dI, dI, List.map_append]
theorem body13 {sc : D} {k : Int} {s : Sto} (hs : Tp s) (x2 x4 x5 x6 x7 x8 x9 xa : Sl) : AtS (b_law_1 [.val sc, .val (.mref 1), x2, .val (.int k), x4, x5, x6, x7, x8, x9, xa]) s (I13 sc 0) fun _ _ => False := by
  unfold b_law_1
  rw [sq_a, atS_ofE]
  simp only [bind_ok, bind_exc, bind_bad, ofE_ok, ofE_exc, vOf_v, ap_C, ap_V, ap_nil, ap_cons, ap_U, ap_B, ap_chain, ap_and, ap_or, ap_tup, ap_F, ap_M, ap_sl, ap_pN, ap_pS, ap_L, ap_tE, ap_tAn, ap_tO, ap_tN, ap_tY, ap_if, ap_lD, ap_lF, ap_lCat, catL_ok, ap_lRep, repL_ok, ap_lSl, slL_lst, slL_scr, ap_iD, itL_lst, itL_scr, ap_iT, itT_tup, itT_ktp, ap_iS, itS_str, ap_iR1, itR1_ok, add_i, add_s, add_l, addX_i, addX_s, sub_i, mul_i, div_i, mod_i, pow_i, shl_i, shr_i, and_i, or_i, xor_i, neg_i, not_b, lt_i, le_i, gt_i, ge_i, eq_i, eq_s, ne_i, ne_s, is_non, is_int, is_str, is_tup, is_lst, isnt_non, isnt_int, isnt_str, isnt_tup, toBl_b, toIn_i, ix_s, ix_l, ix_r, ix_t, ix_k, sl_s, sl_l, sl_r, sl_t, len_s, len_l, len_r, len_t, len_k, int_i, int_b, abs_i, min_i, max_i, tup_l, tup_t, list_l, list_r, list_t, isi_i, isi_b, isi_s, isi_l, isi_t, isi_n, ty_ii, ty_bi, ty_ss, ty_ll, ty_tt, ty_tl, ty_lt, ty_tn, find_s, lower_s, sq_nx, sq_sq, sq_a, sq_o, sq_x, sq_if, sq_ret, sq_retL, oOf_o, sq_retO, sq_app, lstK_l, sq_ext, sq_aug, sq_g, sq_frz, sq_br, sq_ct, sq_raise, ofG_some, nx_ap, thenS_nx, thenS_rt, thenS_exc, sq_for, sq_wh, endV_v, endV_o, endV_n, endV_x, endL_o, endL_x, gN_ap, List.getElem?_cons_zero, List.getElem?_cons_succ, List.set_cons_zero, List.set_cons_succ, List.length_cons, List.length_nil, decide_eq_true_eq, Bool.not_eq_true, reduceIte, Bool.false_eq_true, decide_true, decide_false, Nat.reduceAdd, Nat.reduceLeDiff, Nat.reduceLT, Bool.not_true, Bool.not_false, List.nil_append, List.cons_append, List.map_cons, List.map_nil, List.replicate_succ, List.replicate_zero, Bool.not_eq_eq_eq_not, decide_eq_false_iff_not, and_self, and_true, true_and, and_false, false_and, or_true, true_or, or_false, false_or, or_self, Int.reduceLE, Int.reduceLT, Int.reduceNeg, Int.reduceAdd, Int.reduceSub, Int.reduceMul, Int.reduceDiv, Int.reduceMod, Int.reduceEq, Int.reduceToNat, Nat.reduceEqDiff, frz_zero, frz_succ, gT_tup, gT_ktp, gC_ap, gE_nil, cast_0, cast_1, cast_2, cast_3, cast_4, cast_5, cast_6, cast_7, cast_8, cast_9, ty_bs, ty_is, frz_zeroV, oOfR_o, ap_lenO, ap_ixO, tOf_some, pOf_fn, ap_P, ap_iZT, itZT_ok, zipD_cons, zipD_nil, str_i, sq_set, oOfS_o, set_ints, thenW_nx, thenW_ct, thenW_bk, thenW_rt, thenW_exc, at_ok, at_bad, at_exc, at_bind, at_ite, atS_nx, atS_rt, atS_ite, atS_ofE, atS_then, at_endV, endP_v, endP_o, ix_m, len_m, ap_MM, isCL_m, pop0_m, mapp_m, ap_cell, sq_mset, setM_m, - sq_a, - sq_if]
  refine (name_ok hs).mono ?_
  rintro _ s1 ⟨⟨cs, rfl, hl, hc⟩, hs1⟩
  have hcI : By (cI cs) := fun b hb => by
    obtain ⟨c, h1, rfl⟩ := List.mem_map.mp hb
    have := hc c h1
    unfold okc at this
    omega
  have hD : By ((cs.length : Int) :: cI cs) := fun b hb => by
    rcases List.mem_cons.mp hb with rfl | hb
    · omega
    · exact hcI b hb
  have hDl : ((cs.length : Int) :: cI cs).length = cs.length + 1 := by rw [List.length_cons, List.length_map]
  have w := write_ok hl
  have ib := is_bytes_ok hD
  have od : ∀ x5 x6 x7 x8 x9 xa : Sl, lLc (iS (eV 4)) (gN 6) tY (eF fOrd (eCons (eV 6) eNil)) [6] [.val sc, .val (.mref 1), x2, .val (.int k), .val (.str (tx cs)), x5, x6, x7, x8, x9, xa] = .ok (dI (cI cs)) := fun x5 x6 x7 x8 x9 xa => ords (by simp only [bind_ok, bind_exc, bind_bad, ofE_ok, ofE_exc, vOf_v, ap_C, ap_V, ap_nil, ap_cons, ap_U, ap_B, ap_chain, ap_and, ap_or, ap_tup, ap_F, ap_M, ap_sl, ap_pN, ap_pS, ap_L, ap_tE, ap_tAn, ap_tO, ap_tN, ap_tY, ap_if, ap_lD, ap_lF, ap_lCat, catL_ok, ap_lRep, repL_ok, ap_lSl, slL_lst, slL_scr, ap_iD, itL_lst, itL_scr, ap_iT, itT_tup, itT_ktp, ap_iS, itS_str, ap_iR1, itR1_ok, add_i, add_s, add_l, addX_i, addX_s, sub_i, mul_i, div_i, mod_i, pow_i, shl_i, shr_i, and_i, or_i, xor_i, neg_i, not_b, lt_i, le_i, gt_i, ge_i, eq_i, eq_s, ne_i, ne_s, is_non, is_int, is_str, is_tup, is_lst, isnt_non, isnt_int, isnt_str, isnt_tup, toBl_b, toIn_i, ix_s, ix_l, ix_r, ix_t, ix_k, sl_s, sl_l, sl_r, sl_t, len_s, len_l, len_r, len_t, len_k, int_i, int_b, abs_i, min_i, max_i, tup_l, tup_t, list_l, list_r, list_t, isi_i, isi_b, isi_s, isi_l, isi_t, isi_n, ty_ii, ty_bi, ty_ss, ty_ll, ty_tt, ty_tl, ty_lt, ty_tn, find_s, lower_s, sq_nx, sq_sq, sq_a, sq_o, sq_x, sq_if, sq_ret, sq_retL, oOf_o, sq_retO, sq_app, lstK_l, sq_ext, sq_aug, sq_g, sq_frz, sq_br, sq_ct, sq_raise, ofG_some, nx_ap, thenS_nx, thenS_rt, thenS_exc, sq_for, sq_wh, endV_v, endV_o, endV_n, endV_x, endL_o, endL_x, gN_ap, List.getElem?_cons_zero, List.getElem?_cons_succ, List.set_cons_zero, List.set_cons_succ, List.length_cons, List.length_nil, decide_eq_true_eq, Bool.not_eq_true, reduceIte, Bool.false_eq_true, decide_true, decide_false, Nat.reduceAdd, Nat.reduceLeDiff, Nat.reduceLT, Bool.not_true, Bool.not_false, List.nil_append, List.cons_append, List.map_cons, List.map_nil, List.replicate_succ, List.replicate_zero, Bool.not_eq_eq_eq_not, decide_eq_false_iff_not, and_self, and_true, true_and, and_false, false_and, or_true, true_or, or_false, false_or, or_self, Int.reduceLE, Int.reduceLT, Int.reduceNeg, Int.reduceAdd, Int.reduceSub, Int.reduceMul, Int.reduceDiv, Int.reduceMod, Int.reduceEq, Int.reduceToNat, Nat.reduceEqDiff, frz_zero, frz_succ, gT_tup, gT_ktp, gC_ap, gE_nil, cast_0, cast_1, cast_2, cast_3, cast_4, cast_5, cast_6, cast_7, cast_8, cast_9, ty_bs, ty_is, frz_zeroV, oOfR_o, ap_lenO, ap_ixO, tOf_some, pOf_fn, ap_P, ap_iZT, itZT_ok, zipD_cons, zipD_nil, str_i, sq_set, oOfS_o, set_ints, thenW_nx, thenW_ct, thenW_bk, thenW_rt, thenW_exc, at_ok, at_bad, at_exc, at_bind, at_ite, atS_nx, atS_rt, atS_ite, atS_ofE, atS_then, at_endV, endP_v, endP_o, ix_m, len_m, ap_MM, isCL_m, pop0_m, mapp_m, ap_cell, sq_mset, setM_m]; rw [tx_cps, sg, dS, List.map_map]; rfl) (by omega) (by show 6 < 11; decide)
  have hne : dNe (.lst (dI ((cs.length : Int) :: cI cs))) (.lst (D.int (cs.length : Int) :: dI (cI cs))) = .ok (.bl false) := ne_self (ns := (cs.length : Int) :: cI cs)
  generalize (cs.length : Int) :: cI cs = Dt at *
  have dl : Dt.length = cs.length + 1 := hDl
  rw [sq_a, atS_ofE]
  simp only [bind_ok, bind_exc, bind_bad, ofE_ok, ofE_exc, vOf_v, ap_C, ap_V, ap_nil, ap_cons, ap_U, ap_B, ap_chain, ap_and, ap_or, ap_tup, ap_F, ap_M, ap_sl, ap_pN, ap_pS, ap_L, ap_tE, ap_tAn, ap_tO, ap_tN, ap_tY, ap_if, ap_lD, ap_lF, ap_lCat, catL_ok, ap_lRep, repL_ok, ap_lSl, slL_lst, slL_scr, ap_iD, itL_lst, itL_scr, ap_iT, itT_tup, itT_ktp, ap_iS, itS_str, ap_iR1, itR1_ok, add_i, add_s, add_l, addX_i, addX_s, sub_i, mul_i, div_i, mod_i, pow_i, shl_i, shr_i, and_i, or_i, xor_i, neg_i, not_b, lt_i, le_i, gt_i, ge_i, eq_i, eq_s, ne_i, ne_s, is_non, is_int, is_str, is_tup, is_lst, isnt_non, isnt_int, isnt_str, isnt_tup, toBl_b, toIn_i, ix_s, ix_l, ix_r, ix_t, ix_k, sl_s, sl_l, sl_r, sl_t, len_s, len_l, len_r, len_t, len_k, int_i, int_b, abs_i, min_i, max_i, tup_l, tup_t, list_l, list_r, list_t, isi_i, isi_b, isi_s, isi_l, isi_t, isi_n, ty_ii, ty_bi, ty_ss, ty_ll, ty_tt, ty_tl, ty_lt, ty_tn, find_s, lower_s, sq_nx, sq_sq, sq_a, sq_o, sq_x, sq_if, sq_ret, sq_retL, oOf_o, sq_retO, sq_app, lstK_l, sq_ext, sq_aug, sq_g, sq_frz, sq_br, sq_ct, sq_raise, ofG_some, nx_ap, thenS_nx, thenS_rt, thenS_exc, sq_for, sq_wh, endV_v, endV_o, endV_n, endV_x, endL_o, endL_x, gN_ap, List.getElem?_cons_zero, List.getElem?_cons_succ, List.set_cons_zero, List.set_cons_succ, List.length_cons, List.length_nil, decide_eq_true_eq, Bool.not_eq_true, reduceIte, Bool.false_eq_true, decide_true, decide_false, Nat.reduceAdd, Nat.reduceLeDiff, Nat.reduceLT, Bool.not_true, Bool.not_false, List.nil_append, List.cons_append, List.map_cons, List.map_nil, List.replicate_succ, List.replicate_zero, Bool.not_eq_eq_eq_not, decide_eq_false_iff_not, and_self, and_true, true_and, and_false, false_and, or_true, true_or, or_false, false_or, or_self, Int.reduceLE, Int.reduceLT, Int.reduceNeg, Int.reduceAdd, Int.reduceSub, Int.reduceMul, Int.reduceDiv, Int.reduceMod, Int.reduceEq, Int.reduceToNat, Nat.reduceEqDiff, frz_zero, frz_succ, gT_tup, gT_ktp, gC_ap, gE_nil, cast_0, cast_1, cast_2, cast_3, cast_4, cast_5, cast_6, cast_7, cast_8, cast_9, ty_bs, ty_is, frz_zeroV, oOfR_o, ap_lenO, ap_ixO, tOf_some, pOf_fn, ap_P, ap_iZT, itZT_ok, zipD_cons, zipD_nil, str_i, sq_set, oOfS_o, set_ints, thenW_nx, thenW_ct, thenW_bk, thenW_rt, thenW_exc, at_ok, at_bad, at_exc, at_bind, at_ite, atS_nx, atS_rt, atS_ite, atS_ofE, atS_then, at_endV, endP_v, endP_o, ix_m, len_m, ap_MM, isCL_m, pop0_m, mapp_m, ap_cell, sq_mset, setM_m, - sq_a, - sq_if, w]
  rw [sq_if]
  simp only [bind_ok, bind_exc, bind_bad, ofE_ok, ofE_exc, vOf_v, ap_C, ap_V, ap_nil, ap_cons, ap_U, ap_B, ap_chain, ap_and, ap_or, ap_tup, ap_F, ap_M, ap_sl, ap_pN, ap_pS, ap_L, ap_tE, ap_tAn, ap_tO, ap_tN, ap_tY, ap_if, ap_lD, ap_lF, ap_lCat, catL_ok, ap_lRep, repL_ok, ap_lSl, slL_lst, slL_scr, ap_iD, itL_lst, itL_scr, ap_iT, itT_tup, itT_ktp, ap_iS, itS_str, ap_iR1, itR1_ok, add_i, add_s, add_l, addX_i, addX_s, sub_i, mul_i, div_i, mod_i, pow_i, shl_i, shr_i, and_i, or_i, xor_i, neg_i, not_b, lt_i, le_i, gt_i, ge_i, eq_i, eq_s, ne_i, ne_s, is_non, is_int, is_str, is_tup, is_lst, isnt_non, isnt_int, isnt_str, isnt_tup, toBl_b, toIn_i, ix_s, ix_l, ix_r, ix_t, ix_k, sl_s, sl_l, sl_r, sl_t, len_s, len_l, len_r, len_t, len_k, int_i, int_b, abs_i, min_i, max_i, tup_l, tup_t, list_l, list_r, list_t, isi_i, isi_b, isi_s, isi_l, isi_t, isi_n, ty_ii, ty_bi, ty_ss, ty_ll, ty_tt, ty_tl, ty_lt, ty_tn, find_s, lower_s, sq_nx, sq_sq, sq_a, sq_o, sq_x, sq_if, sq_ret, sq_retL, oOf_o, sq_retO, sq_app, lstK_l, sq_ext, sq_aug, sq_g, sq_frz, sq_br, sq_ct, sq_raise, ofG_some, nx_ap, thenS_nx, thenS_rt, thenS_exc, sq_for, sq_wh, endV_v, endV_o, endV_n, endV_x, endL_o, endL_x, gN_ap, List.getElem?_cons_zero, List.getElem?_cons_succ, List.set_cons_zero, List.set_cons_succ, List.length_cons, List.length_nil, decide_eq_true_eq, Bool.not_eq_true, reduceIte, Bool.false_eq_true, decide_true, decide_false, Nat.reduceAdd, Nat.reduceLeDiff, Nat.reduceLT, Bool.not_true, Bool.not_false, List.nil_append, List.cons_append, List.map_cons, List.map_nil, List.replicate_succ, List.replicate_zero, Bool.not_eq_eq_eq_not, decide_eq_false_iff_not, and_self, and_true, true_and, and_false, false_and, or_true, true_or, or_false, false_or, or_self, Int.reduceLE, Int.reduceLT, Int.reduceNeg, Int.reduceAdd, Int.reduceSub, Int.reduceMul, Int.reduceDiv, Int.reduceMod, Int.reduceEq, Int.reduceToNat, Nat.reduceEqDiff, frz_zero, frz_succ, gT_tup, gT_ktp, gC_ap, gE_nil, cast_0, cast_1, cast_2, cast_3, cast_4, cast_5, cast_6, cast_7, cast_8, cast_9, ty_bs, ty_is, frz_zeroV, oOfR_o, ap_lenO, ap_ixO, tOf_some, pOf_fn, ap_P, ap_iZT, itZT_ok, zipD_cons, zipD_nil, str_i, sq_set, oOfS_o, set_ints, thenW_nx, thenW_ct, thenW_bk, thenW_rt, thenW_exc, at_ok, at_bad, at_exc, at_bind, at_ite, atS_nx, atS_rt, atS_ite, atS_ofE, atS_then, at_endV, endP_v, endP_o, ix_m, len_m, ap_MM, isCL_m, pop0_m, mapp_m, ap_cell, sq_mset, setM_m, - sq_a, - sq_if, w, ib, od, hne, tx_len, List.length_map, show cs.length ≤ 100000 by omega, show cs.length + 1 ≤ 100000 by omega, show 1 + cs.length ≤ 100000 by omega, show cs.length ≤ 99999 by omega]
  rw [sq_a, atS_ofE]
  simp only [bind_ok, bind_exc, bind_bad, ofE_ok, ofE_exc, vOf_v, ap_C, ap_V, ap_nil, ap_cons, ap_U, ap_B, ap_chain, ap_and, ap_or, ap_tup, ap_F, ap_M, ap_sl, ap_pN, ap_pS, ap_L, ap_tE, ap_tAn, ap_tO, ap_tN, ap_tY, ap_if, ap_lD, ap_lF, ap_lCat, catL_ok, ap_lRep, repL_ok, ap_lSl, slL_lst, slL_scr, ap_iD, itL_lst, itL_scr, ap_iT, itT_tup, itT_ktp, ap_iS, itS_str, ap_iR1, itR1_ok, add_i, add_s, add_l, addX_i, addX_s, sub_i, mul_i, div_i, mod_i, pow_i, shl_i, shr_i, and_i, or_i, xor_i, neg_i, not_b, lt_i, le_i, gt_i, ge_i, eq_i, eq_s, ne_i, ne_s, is_non, is_int, is_str, is_tup, is_lst, isnt_non, isnt_int, isnt_str, isnt_tup, toBl_b, toIn_i, ix_s, ix_l, ix_r, ix_t, ix_k, sl_s, sl_l, sl_r, sl_t, len_s, len_l, len_r, len_t, len_k, int_i, int_b, abs_i, min_i, max_i, tup_l, tup_t, list_l, list_r, list_t, isi_i, isi_b, isi_s, isi_l, isi_t, isi_n, ty_ii, ty_bi, ty_ss, ty_ll, ty_tt, ty_tl, ty_lt, ty_tn, find_s, lower_s, sq_nx, sq_sq, sq_a, sq_o, sq_x, sq_if, sq_ret, sq_retL, oOf_o, sq_retO, sq_app, lstK_l, sq_ext, sq_aug, sq_g, sq_frz, sq_br, sq_ct, sq_raise, ofG_some, nx_ap, thenS_nx, thenS_rt, thenS_exc, sq_for, sq_wh, endV_v, endV_o, endV_n, endV_x, endL_o, endL_x, gN_ap, List.getElem?_cons_zero, List.getElem?_cons_succ, List.set_cons_zero, List.set_cons_succ, List.length_cons, List.length_nil, decide_eq_true_eq, Bool.not_eq_true, reduceIte, Bool.false_eq_true, decide_true, decide_false, Nat.reduceAdd, Nat.reduceLeDiff, Nat.reduceLT, Bool.not_true, Bool.not_false, List.nil_append, List.cons_append, List.map_cons, List.map_nil, List.replicate_succ, List.replicate_zero, Bool.not_eq_eq_eq_not, decide_eq_false_iff_not, and_self, and_true, true_and, and_false, false_and, or_true, true_or, or_false, false_or, or_self, Int.reduceLE, Int.reduceLT, Int.reduceNeg, Int.reduceAdd, Int.reduceSub, Int.reduceMul, Int.reduceDiv, Int.reduceMod, Int.reduceEq, Int.reduceToNat, Nat.reduceEqDiff, frz_zero, frz_succ, gT_tup, gT_ktp, gC_ap, gE_nil, cast_0, cast_1, cast_2, cast_3, cast_4, cast_5, cast_6, cast_7, cast_8, cast_9, ty_bs, ty_is, frz_zeroV, oOfR_o, ap_lenO, ap_ixO, tOf_some, pOf_fn, ap_P, ap_iZT, itZT_ok, zipD_cons, zipD_nil, str_i, sq_set, oOfS_o, set_ints, thenW_nx, thenW_ct, thenW_bk, thenW_rt, thenW_exc, at_ok, at_bad, at_exc, at_bind, at_ite, atS_nx, atS_rt, atS_ite, atS_ofE, atS_then, at_endV, endP_v, endP_o, ix_m, len_m, ap_MM, isCL_m, pop0_m, mapp_m, ap_cell, sq_mset, setM_m, - sq_a, - sq_if]
  refine (take_ok (by decide) (by decide) hs1).mono ?_
  rintro _ s2 ⟨n1, rfl, n10, n11, hs2⟩
  obtain ⟨B, hB⟩ : ∃ B, B = ([97, 0] : List Int).take n1.toNat := ⟨_, rfl⟩
  have cB : cutG [D.int 97, D.int 0] none (some n1) = dI B := by rw [hB]; exact cut2 n10
  have bB : By B := by rw [hB]; exact by_take (fun b hb => by simp at hb; omega) _
  have lB : B.length ≤ 2 := by rw [hB, List.length_take]; simp; omega
  simp only [bind_ok, bind_exc, bind_bad, ofE_ok, ofE_exc, vOf_v, ap_C, ap_V, ap_nil, ap_cons, ap_U, ap_B, ap_chain, ap_and, ap_or, ap_tup, ap_F, ap_M, ap_sl, ap_pN, ap_pS, ap_L, ap_tE, ap_tAn, ap_tO, ap_tN, ap_tY, ap_if, ap_lD, ap_lF, ap_lCat, catL_ok, ap_lRep, repL_ok, ap_lSl, slL_lst, slL_scr, ap_iD, itL_lst, itL_scr, ap_iT, itT_tup, itT_ktp, ap_iS, itS_str, ap_iR1, itR1_ok, add_i, add_s, add_l, addX_i, addX_s, sub_i, mul_i, div_i, mod_i, pow_i, shl_i, shr_i, and_i, or_i, xor_i, neg_i, not_b, lt_i, le_i, gt_i, ge_i, eq_i, eq_s, ne_i, ne_s, is_non, is_int, is_str, is_tup, is_lst, isnt_non, isnt_int, isnt_str, isnt_tup, toBl_b, toIn_i, ix_s, ix_l, ix_r, ix_t, ix_k, sl_s, sl_l, sl_r, sl_t, len_s, len_l, len_r, len_t, len_k, int_i, int_b, abs_i, min_i, max_i, tup_l, tup_t, list_l, list_r, list_t, isi_i, isi_b, isi_s, isi_l, isi_t, isi_n, ty_ii, ty_bi, ty_ss, ty_ll, ty_tt, ty_tl, ty_lt, ty_tn, find_s, lower_s, sq_nx, sq_sq, sq_a, sq_o, sq_x, sq_if, sq_ret, sq_retL, oOf_o, sq_retO, sq_app, lstK_l, sq_ext, sq_aug, sq_g, sq_frz, sq_br, sq_ct, sq_raise, ofG_some, nx_ap, thenS_nx, thenS_rt, thenS_exc, sq_for, sq_wh, endV_v, endV_o, endV_n, endV_x, endL_o, endL_x, gN_ap, List.getElem?_cons_zero, List.getElem?_cons_succ, List.set_cons_zero, List.set_cons_succ, List.length_cons, List.length_nil, decide_eq_true_eq, Bool.not_eq_true, reduceIte, Bool.false_eq_true, decide_true, decide_false, Nat.reduceAdd, Nat.reduceLeDiff, Nat.reduceLT, Bool.not_true, Bool.not_false, List.nil_append, List.cons_append, List.map_cons, List.map_nil, List.replicate_succ, List.replicate_zero, Bool.not_eq_eq_eq_not, decide_eq_false_iff_not, and_self, and_true, true_and, and_false, false_and, or_true, true_or, or_false, false_or, or_self, Int.reduceLE, Int.reduceLT, Int.reduceNeg, Int.reduceAdd, Int.reduceSub, Int.reduceMul, Int.reduceDiv, Int.reduceMod, Int.reduceEq, Int.reduceToNat, Nat.reduceEqDiff, frz_zero, frz_succ, gT_tup, gT_ktp, gC_ap, gE_nil, cast_0, cast_1, cast_2, cast_3, cast_4, cast_5, cast_6, cast_7, cast_8, cast_9, ty_bs, ty_is, frz_zeroV, oOfR_o, ap_lenO, ap_ixO, tOf_some, pOf_fn, ap_P, ap_iZT, itZT_ok, zipD_cons, zipD_nil, str_i, sq_set, oOfS_o, set_ints, thenW_nx, thenW_ct, thenW_bk, thenW_rt, thenW_exc, at_ok, at_bad, at_exc, at_bind, at_ite, atS_nx, atS_rt, atS_ite, atS_ofE, atS_then, at_endV, endP_v, endP_o, ix_m, len_m, ap_MM, isCL_m, pop0_m, mapp_m, ap_cell, sq_mset, setM_m, - sq_a, - sq_if, cB]
  rw [sq_a, atS_ofE]
  simp only [bind_ok, bind_exc, bind_bad, ofE_ok, ofE_exc, vOf_v, ap_C, ap_V, ap_nil, ap_cons, ap_U, ap_B, ap_chain, ap_and, ap_or, ap_tup, ap_F, ap_M, ap_sl, ap_pN, ap_pS, ap_L, ap_tE, ap_tAn, ap_tO, ap_tN, ap_tY, ap_if, ap_lD, ap_lF, ap_lCat, catL_ok, ap_lRep, repL_ok, ap_lSl, slL_lst, slL_scr, ap_iD, itL_lst, itL_scr, ap_iT, itT_tup, itT_ktp, ap_iS, itS_str, ap_iR1, itR1_ok, add_i, add_s, add_l, addX_i, addX_s, sub_i, mul_i, div_i, mod_i, pow_i, shl_i, shr_i, and_i, or_i, xor_i, neg_i, not_b, lt_i, le_i, gt_i, ge_i, eq_i, eq_s, ne_i, ne_s, is_non, is_int, is_str, is_tup, is_lst, isnt_non, isnt_int, isnt_str, isnt_tup, toBl_b, toIn_i, ix_s, ix_l, ix_r, ix_t, ix_k, sl_s, sl_l, sl_r, sl_t, len_s, len_l, len_r, len_t, len_k, int_i, int_b, abs_i, min_i, max_i, tup_l, tup_t, list_l, list_r, list_t, isi_i, isi_b, isi_s, isi_l, isi_t, isi_n, ty_ii, ty_bi, ty_ss, ty_ll, ty_tt, ty_tl, ty_lt, ty_tn, find_s, lower_s, sq_nx, sq_sq, sq_a, sq_o, sq_x, sq_if, sq_ret, sq_retL, oOf_o, sq_retO, sq_app, lstK_l, sq_ext, sq_aug, sq_g, sq_frz, sq_br, sq_ct, sq_raise, ofG_some, nx_ap, thenS_nx, thenS_rt, thenS_exc, sq_for, sq_wh, endV_v, endV_o, endV_n, endV_x, endL_o, endL_x, gN_ap, List.getElem?_cons_zero, List.getElem?_cons_succ, List.set_cons_zero, List.set_cons_succ, List.length_cons, List.length_nil, decide_eq_true_eq, Bool.not_eq_true, reduceIte, Bool.false_eq_true, decide_true, decide_false, Nat.reduceAdd, Nat.reduceLeDiff, Nat.reduceLT, Bool.not_true, Bool.not_false, List.nil_append, List.cons_append, List.map_cons, List.map_nil, List.replicate_succ, List.replicate_zero, Bool.not_eq_eq_eq_not, decide_eq_false_iff_not, and_self, and_true, true_and, and_false, false_and, or_true, true_or, or_false, false_or, or_self, Int.reduceLE, Int.reduceLT, Int.reduceNeg, Int.reduceAdd, Int.reduceSub, Int.reduceMul, Int.reduceDiv, Int.reduceMod, Int.reduceEq, Int.reduceToNat, Nat.reduceEqDiff, frz_zero, frz_succ, gT_tup, gT_ktp, gC_ap, gE_nil, cast_0, cast_1, cast_2, cast_3, cast_4, cast_5, cast_6, cast_7, cast_8, cast_9, ty_bs, ty_is, frz_zeroV, oOfR_o, ap_lenO, ap_ixO, tOf_some, pOf_fn, ap_P, ap_iZT, itZT_ok, zipD_cons, zipD_nil, str_i, sq_set, oOfS_o, set_ints, thenW_nx, thenW_ct, thenW_bk, thenW_rt, thenW_exc, at_ok, at_bad, at_exc, at_bind, at_ite, atS_nx, atS_rt, atS_ite, atS_ofE, atS_then, at_endV, endP_v, endP_o, ix_m, len_m, ap_MM, isCL_m, pop0_m, mapp_m, ap_cell, sq_mset, setM_m, - sq_a, - sq_if, List.length_map, show B.length + Dt.length ≤ 100000 by omega, dI_app]
  refine (take_ok (by decide) (by decide) hs2).mono ?_
  rintro _ s3 ⟨n2, rfl, n20, n21, hs3⟩
  obtain ⟨A, hA⟩ : ∃ A, A = ([65, 0, 66] : List Int).take n2.toNat := ⟨_, rfl⟩
  have cA : cutG [D.int 65, D.int 0, D.int 66] none (some n2) = dI A := by rw [hA]; exact cut3 n20
  have bA : By A := by rw [hA]; exact by_take (fun b hb => by simp at hb; omega) _
  have lA : A.length ≤ 3 := by rw [hA, List.length_take]; simp; omega
  simp only [bind_ok, bind_exc, bind_bad, ofE_ok, ofE_exc, vOf_v, ap_C, ap_V, ap_nil, ap_cons, ap_U, ap_B, ap_chain, ap_and, ap_or, ap_tup, ap_F, ap_M, ap_sl, ap_pN, ap_pS, ap_L, ap_tE, ap_tAn, ap_tO, ap_tN, ap_tY, ap_if, ap_lD, ap_lF, ap_lCat, catL_ok, ap_lRep, repL_ok, ap_lSl, slL_lst, slL_scr, ap_iD, itL_lst, itL_scr, ap_iT, itT_tup, itT_ktp, ap_iS, itS_str, ap_iR1, itR1_ok, add_i, add_s, add_l, addX_i, addX_s, sub_i, mul_i, div_i, mod_i, pow_i, shl_i, shr_i, and_i, or_i, xor_i, neg_i, not_b, lt_i, le_i, gt_i, ge_i, eq_i, eq_s, ne_i, ne_s, is_non, is_int, is_str, is_tup, is_lst, isnt_non, isnt_int, isnt_str, isnt_tup, toBl_b, toIn_i, ix_s, ix_l, ix_r, ix_t, ix_k, sl_s, sl_l, sl_r, sl_t, len_s, len_l, len_r, len_t, len_k, int_i, int_b, abs_i, min_i, max_i, tup_l, tup_t, list_l, list_r, list_t, isi_i, isi_b, isi_s, isi_l, isi_t, isi_n, ty_ii, ty_bi, ty_ss, ty_ll, ty_tt, ty_tl, ty_lt, ty_tn, find_s, lower_s, sq_nx, sq_sq, sq_a, sq_o, sq_x, sq_if, sq_ret, sq_retL, oOf_o, sq_retO, sq_app, lstK_l, sq_ext, sq_aug, sq_g, sq_frz, sq_br, sq_ct, sq_raise, ofG_some, nx_ap, thenS_nx, thenS_rt, thenS_exc, sq_for, sq_wh, endV_v, endV_o, endV_n, endV_x, endL_o, endL_x, gN_ap, List.getElem?_cons_zero, List.getElem?_cons_succ, List.set_cons_zero, List.set_cons_succ, List.length_cons, List.length_nil, decide_eq_true_eq, Bool.not_eq_true, reduceIte, Bool.false_eq_true, decide_true, decide_false, Nat.reduceAdd, Nat.reduceLeDiff, Nat.reduceLT, Bool.not_true, Bool.not_false, List.nil_append, List.cons_append, List.map_cons, List.map_nil, List.replicate_succ, List.replicate_zero, Bool.not_eq_eq_eq_not, decide_eq_false_iff_not, and_self, and_true, true_and, and_false, false_and, or_true, true_or, or_false, false_or, or_self, Int.reduceLE, Int.reduceLT, Int.reduceNeg, Int.reduceAdd, Int.reduceSub, Int.reduceMul, Int.reduceDiv, Int.reduceMod, Int.reduceEq, Int.reduceToNat, Nat.reduceEqDiff, frz_zero, frz_succ, gT_tup, gT_ktp, gC_ap, gE_nil, cast_0, cast_1, cast_2, cast_3, cast_4, cast_5, cast_6, cast_7, cast_8, cast_9, ty_bs, ty_is, frz_zeroV, oOfR_o, ap_lenO, ap_ixO, tOf_some, pOf_fn, ap_P, ap_iZT, itZT_ok, zipD_cons, zipD_nil, str_i, sq_set, oOfS_o, set_ints, thenW_nx, thenW_ct, thenW_bk, thenW_rt, thenW_exc, at_ok, at_bad, at_exc, at_bind, at_ite, atS_nx, atS_rt, atS_ite, atS_ofE, atS_then, at_endV, endP_v, endP_o, ix_m, len_m, ap_MM, isCL_m, pop0_m, mapp_m, ap_cell, sq_mset, setM_m, - sq_a, - sq_if, cA, dI_app, List.length_map, List.length_append, show B.length + Dt.length + A.length ≤ 100000 by omega]
  obtain ⟨F, hF⟩ : ∃ F, F = B ++ Dt ++ A := ⟨_, rfl⟩
  have lF : F.length = B.length + Dt.length + A.length := by rw [hF, List.length_append, List.length_append]
  have bF : By F := by rw [hF]; exact by_app (by_app bB hD) bA
  rw [← hF]
  rw [sq_a, atS_ofE]
  simp only [bind_ok, bind_exc, bind_bad, ofE_ok, ofE_exc, vOf_v, ap_C, ap_V, ap_nil, ap_cons, ap_U, ap_B, ap_chain, ap_and, ap_or, ap_tup, ap_F, ap_M, ap_sl, ap_pN, ap_pS, ap_L, ap_tE, ap_tAn, ap_tO, ap_tN, ap_tY, ap_if, ap_lD, ap_lF, ap_lCat, catL_ok, ap_lRep, repL_ok, ap_lSl, slL_lst, slL_scr, ap_iD, itL_lst, itL_scr, ap_iT, itT_tup, itT_ktp, ap_iS, itS_str, ap_iR1, itR1_ok, add_i, add_s, add_l, addX_i, addX_s, sub_i, mul_i, div_i, mod_i, pow_i, shl_i, shr_i, and_i, or_i, xor_i, neg_i, not_b, lt_i, le_i, gt_i, ge_i, eq_i, eq_s, ne_i, ne_s, is_non, is_int, is_str, is_tup, is_lst, isnt_non, isnt_int, isnt_str, isnt_tup, toBl_b, toIn_i, ix_s, ix_l, ix_r, ix_t, ix_k, sl_s, sl_l, sl_r, sl_t, len_s, len_l, len_r, len_t, len_k, int_i, int_b, abs_i, min_i, max_i, tup_l, tup_t, list_l, list_r, list_t, isi_i, isi_b, isi_s, isi_l, isi_t, isi_n, ty_ii, ty_bi, ty_ss, ty_ll, ty_tt, ty_tl, ty_lt, ty_tn, find_s, lower_s, sq_nx, sq_sq, sq_a, sq_o, sq_x, sq_if, sq_ret, sq_retL, oOf_o, sq_retO, sq_app, lstK_l, sq_ext, sq_aug, sq_g, sq_frz, sq_br, sq_ct, sq_raise, ofG_some, nx_ap, thenS_nx, thenS_rt, thenS_exc, sq_for, sq_wh, endV_v, endV_o, endV_n, endV_x, endL_o, endL_x, gN_ap, List.getElem?_cons_zero, List.getElem?_cons_succ, List.set_cons_zero, List.set_cons_succ, List.length_cons, List.length_nil, decide_eq_true_eq, Bool.not_eq_true, reduceIte, Bool.false_eq_true, decide_true, decide_false, Nat.reduceAdd, Nat.reduceLeDiff, Nat.reduceLT, Bool.not_true, Bool.not_false, List.nil_append, List.cons_append, List.map_cons, List.map_nil, List.replicate_succ, List.replicate_zero, Bool.not_eq_eq_eq_not, decide_eq_false_iff_not, and_self, and_true, true_and, and_false, false_and, or_true, true_or, or_false, false_or, or_self, Int.reduceLE, Int.reduceLT, Int.reduceNeg, Int.reduceAdd, Int.reduceSub, Int.reduceMul, Int.reduceDiv, Int.reduceMod, Int.reduceEq, Int.reduceToNat, Nat.reduceEqDiff, frz_zero, frz_succ, gT_tup, gT_ktp, gC_ap, gE_nil, cast_0, cast_1, cast_2, cast_3, cast_4, cast_5, cast_6, cast_7, cast_8, cast_9, ty_bs, ty_is, frz_zeroV, oOfR_o, ap_lenO, ap_ixO, tOf_some, pOf_fn, ap_P, ap_iZT, itZT_ok, zipD_cons, zipD_nil, str_i, sq_set, oOfS_o, set_ints, thenW_nx, thenW_ct, thenW_bk, thenW_rt, thenW_exc, at_ok, at_bad, at_exc, at_bind, at_ite, atS_nx, atS_rt, atS_ite, atS_ofE, atS_then, at_endV, endP_v, endP_o, ix_m, len_m, ap_MM, isCL_m, pop0_m, mapp_m, ap_cell, sq_mset, setM_m, - sq_a, - sq_if, List.length_map]
  have r1 := right_ok bF (p := B.length) (e := F.length) (Nat.le_refl _)
  have r2 := right_ok bF (p := B.length) (e := B.length + Dt.length) (by omega)
  rw [sq_if]
  simp only [bind_ok, bind_exc, bind_bad, ofE_ok, ofE_exc, vOf_v, ap_C, ap_V, ap_nil, ap_cons, ap_U, ap_B, ap_chain, ap_and, ap_or, ap_tup, ap_F, ap_M, ap_sl, ap_pN, ap_pS, ap_L, ap_tE, ap_tAn, ap_tO, ap_tN, ap_tY, ap_if, ap_lD, ap_lF, ap_lCat, catL_ok, ap_lRep, repL_ok, ap_lSl, slL_lst, slL_scr, ap_iD, itL_lst, itL_scr, ap_iT, itT_tup, itT_ktp, ap_iS, itS_str, ap_iR1, itR1_ok, add_i, add_s, add_l, addX_i, addX_s, sub_i, mul_i, div_i, mod_i, pow_i, shl_i, shr_i, and_i, or_i, xor_i, neg_i, not_b, lt_i, le_i, gt_i, ge_i, eq_i, eq_s, ne_i, ne_s, is_non, is_int, is_str, is_tup, is_lst, isnt_non, isnt_int, isnt_str, isnt_tup, toBl_b, toIn_i, ix_s, ix_l, ix_r, ix_t, ix_k, sl_s, sl_l, sl_r, sl_t, len_s, len_l, len_r, len_t, len_k, int_i, int_b, abs_i, min_i, max_i, tup_l, tup_t, list_l, list_r, list_t, isi_i, isi_b, isi_s, isi_l, isi_t, isi_n, ty_ii, ty_bi, ty_ss, ty_ll, ty_tt, ty_tl, ty_lt, ty_tn, find_s, lower_s, sq_nx, sq_sq, sq_a, sq_o, sq_x, sq_if, sq_ret, sq_retL, oOf_o, sq_retO, sq_app, lstK_l, sq_ext, sq_aug, sq_g, sq_frz, sq_br, sq_ct, sq_raise, ofG_some, nx_ap, thenS_nx, thenS_rt, thenS_exc, sq_for, sq_wh, endV_v, endV_o, endV_n, endV_x, endL_o, endL_x, gN_ap, List.getElem?_cons_zero, List.getElem?_cons_succ, List.set_cons_zero, List.set_cons_succ, List.length_cons, List.length_nil, decide_eq_true_eq, Bool.not_eq_true, reduceIte, Bool.false_eq_true, decide_true, decide_false, Nat.reduceAdd, Nat.reduceLeDiff, Nat.reduceLT, Bool.not_true, Bool.not_false, List.nil_append, List.cons_append, List.map_cons, List.map_nil, List.replicate_succ, List.replicate_zero, Bool.not_eq_eq_eq_not, decide_eq_false_iff_not, and_self, and_true, true_and, and_false, false_and, or_true, true_or, or_false, false_or, or_self, Int.reduceLE, Int.reduceLT, Int.reduceNeg, Int.reduceAdd, Int.reduceSub, Int.reduceMul, Int.reduceDiv, Int.reduceMod, Int.reduceEq, Int.reduceToNat, Nat.reduceEqDiff, frz_zero, frz_succ, gT_tup, gT_ktp, gC_ap, gE_nil, cast_0, cast_1, cast_2, cast_3, cast_4, cast_5, cast_6, cast_7, cast_8, cast_9, ty_bs, ty_is, frz_zeroV, oOfR_o, ap_lenO, ap_ixO, tOf_some, pOf_fn, ap_P, ap_iZT, itZT_ok, zipD_cons, zipD_nil, str_i, sq_set, oOfS_o, set_ints, thenW_nx, thenW_ct, thenW_bk, thenW_rt, thenW_exc, at_ok, at_bad, at_exc, at_bind, at_ite, atS_nx, atS_rt, atS_ite, atS_ofE, atS_then, at_endV, endP_v, endP_o, ix_m, len_m, ap_MM, isCL_m, pop0_m, mapp_m, ap_cell, sq_mset, setM_m, - sq_a, - sq_if, List.length_map, r1, show (B.length : Int) + (Dt.length : Int) = ((B.length + Dt.length : Nat) : Int) from rfl, r2]
  rw [sq_if]
  simp only [bind_ok, bind_exc, bind_bad, ofE_ok, ofE_exc, vOf_v, ap_C, ap_V, ap_nil, ap_cons, ap_U, ap_B, ap_chain, ap_and, ap_or, ap_tup, ap_F, ap_M, ap_sl, ap_pN, ap_pS, ap_L, ap_tE, ap_tAn, ap_tO, ap_tN, ap_tY, ap_if, ap_lD, ap_lF, ap_lCat, catL_ok, ap_lRep, repL_ok, ap_lSl, slL_lst, slL_scr, ap_iD, itL_lst, itL_scr, ap_iT, itT_tup, itT_ktp, ap_iS, itS_str, ap_iR1, itR1_ok, add_i, add_s, add_l, addX_i, addX_s, sub_i, mul_i, div_i, mod_i, pow_i, shl_i, shr_i, and_i, or_i, xor_i, neg_i, not_b, lt_i, le_i, gt_i, ge_i, eq_i, eq_s, ne_i, ne_s, is_non, is_int, is_str, is_tup, is_lst, isnt_non, isnt_int, isnt_str, isnt_tup, toBl_b, toIn_i, ix_s, ix_l, ix_r, ix_t, ix_k, sl_s, sl_l, sl_r, sl_t, len_s, len_l, len_r, len_t, len_k, int_i, int_b, abs_i, min_i, max_i, tup_l, tup_t, list_l, list_r, list_t, isi_i, isi_b, isi_s, isi_l, isi_t, isi_n, ty_ii, ty_bi, ty_ss, ty_ll, ty_tt, ty_tl, ty_lt, ty_tn, find_s, lower_s, sq_nx, sq_sq, sq_a, sq_o, sq_x, sq_if, sq_ret, sq_retL, oOf_o, sq_retO, sq_app, lstK_l, sq_ext, sq_aug, sq_g, sq_frz, sq_br, sq_ct, sq_raise, ofG_some, nx_ap, thenS_nx, thenS_rt, thenS_exc, sq_for, sq_wh, endV_v, endV_o, endV_n, endV_x, endL_o, endL_x, gN_ap, List.getElem?_cons_zero, List.getElem?_cons_succ, List.set_cons_zero, List.set_cons_succ, List.length_cons, List.length_nil, decide_eq_true_eq, Bool.not_eq_true, reduceIte, Bool.false_eq_true, decide_true, decide_false, Nat.reduceAdd, Nat.reduceLeDiff, Nat.reduceLT, Bool.not_true, Bool.not_false, List.nil_append, List.cons_append, List.map_cons, List.map_nil, List.replicate_succ, List.replicate_zero, Bool.not_eq_eq_eq_not, decide_eq_false_iff_not, and_self, and_true, true_and, and_false, false_and, or_true, true_or, or_false, false_or, or_self, Int.reduceLE, Int.reduceLT, Int.reduceNeg, Int.reduceAdd, Int.reduceSub, Int.reduceMul, Int.reduceDiv, Int.reduceMod, Int.reduceEq, Int.reduceToNat, Nat.reduceEqDiff, frz_zero, frz_succ, gT_tup, gT_ktp, gC_ap, gE_nil, cast_0, cast_1, cast_2, cast_3, cast_4, cast_5, cast_6, cast_7, cast_8, cast_9, ty_bs, ty_is, frz_zeroV, oOfR_o, ap_lenO, ap_ixO, tOf_some, pOf_fn, ap_P, ap_iZT, itZT_ok, zipD_cons, zipD_nil, str_i, sq_set, oOfS_o, set_ints, thenW_nx, thenW_ct, thenW_bk, thenW_rt, thenW_exc, at_ok, at_bad, at_exc, at_bind, at_ite, atS_nx, atS_rt, atS_ite, atS_ofE, atS_then, at_endV, endP_v, endP_o, ix_m, len_m, ap_MM, isCL_m, pop0_m, mapp_m, ap_cell, sq_mset, setM_m, - sq_a, - sq_if, List.length_map]
  refine (take_ok (m := (Dt.length : Int) + 1) (by omega) (by omega) hs3).mono ?_
  rintro _ s4 ⟨n3, rfl, n30, n31, hs4⟩
  have r3 := right_ok bF (p := B.length) (e := B.length + n3.toNat) (by omega)
  rw [show ((B.length + n3.toNat : Nat) : Int) = (B.length : Int) + n3 by omega] at r3
  have tf : (true = false) = False := eq_false (by decide)
  simp only [bind_ok, bind_exc, bind_bad, ofE_ok, ofE_exc, vOf_v, ap_C, ap_V, ap_nil, ap_cons, ap_U, ap_B, ap_chain, ap_and, ap_or, ap_tup, ap_F, ap_M, ap_sl, ap_pN, ap_pS, ap_L, ap_tE, ap_tAn, ap_tO, ap_tN, ap_tY, ap_if, ap_lD, ap_lF, ap_lCat, catL_ok, ap_lRep, repL_ok, ap_lSl, slL_lst, slL_scr, ap_iD, itL_lst, itL_scr, ap_iT, itT_tup, itT_ktp, ap_iS, itS_str, ap_iR1, itR1_ok, add_i, add_s, add_l, addX_i, addX_s, sub_i, mul_i, div_i, mod_i, pow_i, shl_i, shr_i, and_i, or_i, xor_i, neg_i, not_b, lt_i, le_i, gt_i, ge_i, eq_i, eq_s, ne_i, ne_s, is_non, is_int, is_str, is_tup, is_lst, isnt_non, isnt_int, isnt_str, isnt_tup, toBl_b, toIn_i, ix_s, ix_l, ix_r, ix_t, ix_k, sl_s, sl_l, sl_r, sl_t, len_s, len_l, len_r, len_t, len_k, int_i, int_b, abs_i, min_i, max_i, tup_l, tup_t, list_l, list_r, list_t, isi_i, isi_b, isi_s, isi_l, isi_t, isi_n, ty_ii, ty_bi, ty_ss, ty_ll, ty_tt, ty_tl, ty_lt, ty_tn, find_s, lower_s, sq_nx, sq_sq, sq_a, sq_o, sq_x, sq_if, sq_ret, sq_retL, oOf_o, sq_retO, sq_app, lstK_l, sq_ext, sq_aug, sq_g, sq_frz, sq_br, sq_ct, sq_raise, ofG_some, nx_ap, thenS_nx, thenS_rt, thenS_exc, sq_for, sq_wh, endV_v, endV_o, endV_n, endV_x, endL_o, endL_x, gN_ap, List.getElem?_cons_zero, List.getElem?_cons_succ, List.set_cons_zero, List.set_cons_succ, List.length_cons, List.length_nil, decide_eq_true_eq, Bool.not_eq_true, reduceIte, Bool.false_eq_true, decide_true, decide_false, Nat.reduceAdd, Nat.reduceLeDiff, Nat.reduceLT, Bool.not_true, Bool.not_false, List.nil_append, List.cons_append, List.map_cons, List.map_nil, List.replicate_succ, List.replicate_zero, Bool.not_eq_eq_eq_not, decide_eq_false_iff_not, and_self, and_true, true_and, and_false, false_and, or_true, true_or, or_false, false_or, or_self, Int.reduceLE, Int.reduceLT, Int.reduceNeg, Int.reduceAdd, Int.reduceSub, Int.reduceMul, Int.reduceDiv, Int.reduceMod, Int.reduceEq, Int.reduceToNat, Nat.reduceEqDiff, frz_zero, frz_succ, gT_tup, gT_ktp, gC_ap, gE_nil, cast_0, cast_1, cast_2, cast_3, cast_4, cast_5, cast_6, cast_7, cast_8, cast_9, ty_bs, ty_is, frz_zeroV, oOfR_o, ap_lenO, ap_ixO, tOf_some, pOf_fn, ap_P, ap_iZT, itZT_ok, zipD_cons, zipD_nil, str_i, sq_set, oOfS_o, set_ints, thenW_nx, thenW_ct, thenW_bk, thenW_rt, thenW_exc, at_ok, at_bad, at_exc, at_bind, at_ite, atS_nx, atS_rt, atS_ite, atS_ofE, atS_then, at_endV, endP_v, endP_o, ix_m, len_m, ap_MM, isCL_m, pop0_m, mapp_m, ap_cell, sq_mset, setM_m, - sq_a, - sq_if, - sq_o, r3, tf]
  refine (take_ok (by decide) (by decide) hs4).mono ?_
  rintro _ s5 ⟨v1, rfl, v10, v11, hs5⟩
  refine (take_ok (by decide) (by decide) hs5).mono ?_
  rintro _ s6 ⟨v2, rfl, v20, v21, hs6⟩
  simp only [bind_ok, bind_exc, bind_bad, ofE_ok, ofE_exc, vOf_v, ap_C, ap_V, ap_nil, ap_cons, ap_U, ap_B, ap_chain, ap_and, ap_or, ap_tup, ap_F, ap_M, ap_sl, ap_pN, ap_pS, ap_L, ap_tE, ap_tAn, ap_tO, ap_tN, ap_tY, ap_if, ap_lD, ap_lF, ap_lCat, catL_ok, ap_lRep, repL_ok, ap_lSl, slL_lst, slL_scr, ap_iD, itL_lst, itL_scr, ap_iT, itT_tup, itT_ktp, ap_iS, itS_str, ap_iR1, itR1_ok, add_i, add_s, add_l, addX_i, addX_s, sub_i, mul_i, div_i, mod_i, pow_i, shl_i, shr_i, and_i, or_i, xor_i, neg_i, not_b, lt_i, le_i, gt_i, ge_i, eq_i, eq_s, ne_i, ne_s, is_non, is_int, is_str, is_tup, is_lst, isnt_non, isnt_int, isnt_str, isnt_tup, toBl_b, toIn_i, ix_s, ix_l, ix_r, ix_t, ix_k, sl_s, sl_l, sl_r, sl_t, len_s, len_l, len_r, len_t, len_k, int_i, int_b, abs_i, min_i, max_i, tup_l, tup_t, list_l, list_r, list_t, isi_i, isi_b, isi_s, isi_l, isi_t, isi_n, ty_ii, ty_bi, ty_ss, ty_ll, ty_tt, ty_tl, ty_lt, ty_tn, find_s, lower_s, sq_nx, sq_sq, sq_a, sq_o, sq_x, sq_if, sq_ret, sq_retL, oOf_o, sq_retO, sq_app, lstK_l, sq_ext, sq_aug, sq_g, sq_frz, sq_br, sq_ct, sq_raise, ofG_some, nx_ap, thenS_nx, thenS_rt, thenS_exc, sq_for, sq_wh, endV_v, endV_o, endV_n, endV_x, endL_o, endL_x, gN_ap, List.getElem?_cons_zero, List.getElem?_cons_succ, List.set_cons_zero, List.set_cons_succ, List.length_cons, List.length_nil, decide_eq_true_eq, Bool.not_eq_true, reduceIte, Bool.false_eq_true, decide_true, decide_false, Nat.reduceAdd, Nat.reduceLeDiff, Nat.reduceLT, Bool.not_true, Bool.not_false, List.nil_append, List.cons_append, List.map_cons, List.map_nil, List.replicate_succ, List.replicate_zero, Bool.not_eq_eq_eq_not, decide_eq_false_iff_not, and_self, and_true, true_and, and_false, false_and, or_true, true_or, or_false, false_or, or_self, Int.reduceLE, Int.reduceLT, Int.reduceNeg, Int.reduceAdd, Int.reduceSub, Int.reduceMul, Int.reduceDiv, Int.reduceMod, Int.reduceEq, Int.reduceToNat, Nat.reduceEqDiff, frz_zero, frz_succ, gT_tup, gT_ktp, gC_ap, gE_nil, cast_0, cast_1, cast_2, cast_3, cast_4, cast_5, cast_6, cast_7, cast_8, cast_9, ty_bs, ty_is, frz_zeroV, oOfR_o, ap_lenO, ap_ixO, tOf_some, pOf_fn, ap_P, ap_iZT, itZT_ok, zipD_cons, zipD_nil, str_i, sq_set, oOfS_o, set_ints, thenW_nx, thenW_ct, thenW_bk, thenW_rt, thenW_exc, at_ok, at_bad, at_exc, at_bind, at_ite, atS_nx, atS_rt, atS_ite, atS_ofE, atS_then, at_endV, endP_v, endP_o, ix_m, len_m, ap_MM, isCL_m, pop0_m, mapp_m, ap_cell, sq_mset, setM_m, - sq_a, - sq_if, - sq_o]
  refine (take_ok (by decide) (by decide) hs6).mono ?_
  rintro _ s7 ⟨v3, rfl, v30, v31, hs7⟩
  refine (take_ok (by decide) (by decide) hs7).mono ?_
  rintro _ s8 ⟨n4, rfl, n40, n41, hs8⟩
  obtain ⟨v, hv, v0, v1⟩ : ∃ v : Int, ixL [.int v1, .int (58 + v2), .int v3] n4 = .ok (.int v) ∧ 0 ≤ v ∧ v < 256 := by
    have : n4 = 0 ∨ n4 = 1 ∨ n4 = 2 := by omega
    rcases this with rfl | rfl | rfl <;> exact ⟨_, rfl, by omega, by omega⟩
  have st : ∀ {d : D} {k : List D → RS}, setX (dI F) d k (.int (B.length : Int)) = k ((dI F).set B.length d) := setX_ok (by omega) (by rw [List.length_map]; omega)
  have r4 := right_ok (by_set bF v0 v1 B.length) (p := B.length) (e := (F.set B.length v).length) (Nat.le_refl _)
  simp only [bind_ok, bind_exc, bind_bad, ofE_ok, ofE_exc, vOf_v, ap_C, ap_V, ap_nil, ap_cons, ap_U, ap_B, ap_chain, ap_and, ap_or, ap_tup, ap_F, ap_M, ap_sl, ap_pN, ap_pS, ap_L, ap_tE, ap_tAn, ap_tO, ap_tN, ap_tY, ap_if, ap_lD, ap_lF, ap_lCat, catL_ok, ap_lRep, repL_ok, ap_lSl, slL_lst, slL_scr, ap_iD, itL_lst, itL_scr, ap_iT, itT_tup, itT_ktp, ap_iS, itS_str, ap_iR1, itR1_ok, add_i, add_s, add_l, addX_i, addX_s, sub_i, mul_i, div_i, mod_i, pow_i, shl_i, shr_i, and_i, or_i, xor_i, neg_i, not_b, lt_i, le_i, gt_i, ge_i, eq_i, eq_s, ne_i, ne_s, is_non, is_int, is_str, is_tup, is_lst, isnt_non, isnt_int, isnt_str, isnt_tup, toBl_b, toIn_i, ix_s, ix_l, ix_r, ix_t, ix_k, sl_s, sl_l, sl_r, sl_t, len_s, len_l, len_r, len_t, len_k, int_i, int_b, abs_i, min_i, max_i, tup_l, tup_t, list_l, list_r, list_t, isi_i, isi_b, isi_s, isi_l, isi_t, isi_n, ty_ii, ty_bi, ty_ss, ty_ll, ty_tt, ty_tl, ty_lt, ty_tn, find_s, lower_s, sq_nx, sq_sq, sq_a, sq_o, sq_x, sq_if, sq_ret, sq_retL, oOf_o, sq_retO, sq_app, lstK_l, sq_ext, sq_aug, sq_g, sq_frz, sq_br, sq_ct, sq_raise, ofG_some, nx_ap, thenS_nx, thenS_rt, thenS_exc, sq_for, sq_wh, endV_v, endV_o, endV_n, endV_x, endL_o, endL_x, gN_ap, List.getElem?_cons_zero, List.getElem?_cons_succ, List.set_cons_zero, List.set_cons_succ, List.length_cons, List.length_nil, decide_eq_true_eq, Bool.not_eq_true, reduceIte, Bool.false_eq_true, decide_true, decide_false, Nat.reduceAdd, Nat.reduceLeDiff, Nat.reduceLT, Bool.not_true, Bool.not_false, List.nil_append, List.cons_append, List.map_cons, List.map_nil, List.replicate_succ, List.replicate_zero, Bool.not_eq_eq_eq_not, decide_eq_false_iff_not, and_self, and_true, true_and, and_false, false_and, or_true, true_or, or_false, false_or, or_self, Int.reduceLE, Int.reduceLT, Int.reduceNeg, Int.reduceAdd, Int.reduceSub, Int.reduceMul, Int.reduceDiv, Int.reduceMod, Int.reduceEq, Int.reduceToNat, Nat.reduceEqDiff, frz_zero, frz_succ, gT_tup, gT_ktp, gC_ap, gE_nil, cast_0, cast_1, cast_2, cast_3, cast_4, cast_5, cast_6, cast_7, cast_8, cast_9, ty_bs, ty_is, frz_zeroV, oOfR_o, ap_lenO, ap_ixO, tOf_some, pOf_fn, ap_P, ap_iZT, itZT_ok, zipD_cons, zipD_nil, str_i, sq_set, oOfS_o, set_ints, thenW_nx, thenW_ct, thenW_bk, thenW_rt, thenW_exc, at_ok, at_bad, at_exc, at_bind, at_ite, atS_nx, atS_rt, atS_ite, atS_ofE, atS_then, at_endV, endP_v, endP_o, ix_m, len_m, ap_MM, isCL_m, pop0_m, mapp_m, ap_cell, sq_mset, setM_m, - sq_a, - sq_if, - sq_o, hv, st]
  rw [sq_if]
  simp only [bind_ok, bind_exc, bind_bad, ofE_ok, ofE_exc, vOf_v, ap_C, ap_V, ap_nil, ap_cons, ap_U, ap_B, ap_chain, ap_and, ap_or, ap_tup, ap_F, ap_M, ap_sl, ap_pN, ap_pS, ap_L, ap_tE, ap_tAn, ap_tO, ap_tN, ap_tY, ap_if, ap_lD, ap_lF, ap_lCat, catL_ok, ap_lRep, repL_ok, ap_lSl, slL_lst, slL_scr, ap_iD, itL_lst, itL_scr, ap_iT, itT_tup, itT_ktp, ap_iS, itS_str, ap_iR1, itR1_ok, add_i, add_s, add_l, addX_i, addX_s, sub_i, mul_i, div_i, mod_i, pow_i, shl_i, shr_i, and_i, or_i, xor_i, neg_i, not_b, lt_i, le_i, gt_i, ge_i, eq_i, eq_s, ne_i, ne_s, is_non, is_int, is_str, is_tup, is_lst, isnt_non, isnt_int, isnt_str, isnt_tup, toBl_b, toIn_i, ix_s, ix_l, ix_r, ix_t, ix_k, sl_s, sl_l, sl_r, sl_t, len_s, len_l, len_r, len_t, len_k, int_i, int_b, abs_i, min_i, max_i, tup_l, tup_t, list_l, list_r, list_t, isi_i, isi_b, isi_s, isi_l, isi_t, isi_n, ty_ii, ty_bi, ty_ss, ty_ll, ty_tt, ty_tl, ty_lt, ty_tn, find_s, lower_s, sq_nx, sq_sq, sq_a, sq_o, sq_x, sq_if, sq_ret, sq_retL, oOf_o, sq_retO, sq_app, lstK_l, sq_ext, sq_aug, sq_g, sq_frz, sq_br, sq_ct, sq_raise, ofG_some, nx_ap, thenS_nx, thenS_rt, thenS_exc, sq_for, sq_wh, endV_v, endV_o, endV_n, endV_x, endL_o, endL_x, gN_ap, List.getElem?_cons_zero, List.getElem?_cons_succ, List.set_cons_zero, List.set_cons_succ, List.length_cons, List.length_nil, decide_eq_true_eq, Bool.not_eq_true, reduceIte, Bool.false_eq_true, decide_true, decide_false, Nat.reduceAdd, Nat.reduceLeDiff, Nat.reduceLT, Bool.not_true, Bool.not_false, List.nil_append, List.cons_append, List.map_cons, List.map_nil, List.replicate_succ, List.replicate_zero, Bool.not_eq_eq_eq_not, decide_eq_false_iff_not, and_self, and_true, true_and, and_false, false_and, or_true, true_or, or_false, false_or, or_self, Int.reduceLE, Int.reduceLT, Int.reduceNeg, Int.reduceAdd, Int.reduceSub, Int.reduceMul, Int.reduceDiv, Int.reduceMod, Int.reduceEq, Int.reduceToNat, Nat.reduceEqDiff, frz_zero, frz_succ, gT_tup, gT_ktp, gC_ap, gE_nil, cast_0, cast_1, cast_2, cast_3, cast_4, cast_5, cast_6, cast_7, cast_8, cast_9, ty_bs, ty_is, frz_zeroV, oOfR_o, ap_lenO, ap_ixO, tOf_some, pOf_fn, ap_P, ap_iZT, itZT_ok, zipD_cons, zipD_nil, str_i, sq_set, oOfS_o, set_ints, thenW_nx, thenW_ct, thenW_bk, thenW_rt, thenW_exc, at_ok, at_bad, at_exc, at_bind, at_ite, atS_nx, atS_rt, atS_ite, atS_ofE, atS_then, at_endV, endP_v, endP_o, ix_m, len_m, ap_MM, isCL_m, pop0_m, mapp_m, ap_cell, sq_mset, setM_m, - sq_a, - sq_if, - sq_o, List.length_map, r4, tf]
  rw [sq_o, atS_ofE]
  simp only [bind_ok, bind_exc, bind_bad, ofE_ok, ofE_exc, vOf_v, ap_C, ap_V, ap_nil, ap_cons, ap_U, ap_B, ap_chain, ap_and, ap_or, ap_tup, ap_F, ap_M, ap_sl, ap_pN, ap_pS, ap_L, ap_tE, ap_tAn, ap_tO, ap_tN, ap_tY, ap_if, ap_lD, ap_lF, ap_lCat, catL_ok, ap_lRep, repL_ok, ap_lSl, slL_lst, slL_scr, ap_iD, itL_lst, itL_scr, ap_iT, itT_tup, itT_ktp, ap_iS, itS_str, ap_iR1, itR1_ok, add_i, add_s, add_l, addX_i, addX_s, sub_i, mul_i, div_i, mod_i, pow_i, shl_i, shr_i, and_i, or_i, xor_i, neg_i, not_b, lt_i, le_i, gt_i, ge_i, eq_i, eq_s, ne_i, ne_s, is_non, is_int, is_str, is_tup, is_lst, isnt_non, isnt_int, isnt_str, isnt_tup, toBl_b, toIn_i, ix_s, ix_l, ix_r, ix_t, ix_k, sl_s, sl_l, sl_r, sl_t, len_s, len_l, len_r, len_t, len_k, int_i, int_b, abs_i, min_i, max_i, tup_l, tup_t, list_l, list_r, list_t, isi_i, isi_b, isi_s, isi_l, isi_t, isi_n, ty_ii, ty_bi, ty_ss, ty_ll, ty_tt, ty_tl, ty_lt, ty_tn, find_s, lower_s, sq_nx, sq_sq, sq_a, sq_o, sq_x, sq_if, sq_ret, sq_retL, oOf_o, sq_retO, sq_app, lstK_l, sq_ext, sq_aug, sq_g, sq_frz, sq_br, sq_ct, sq_raise, ofG_some, nx_ap, thenS_nx, thenS_rt, thenS_exc, sq_for, sq_wh, endV_v, endV_o, endV_n, endV_x, endL_o, endL_x, gN_ap, List.getElem?_cons_zero, List.getElem?_cons_succ, List.set_cons_zero, List.set_cons_succ, List.length_cons, List.length_nil, decide_eq_true_eq, Bool.not_eq_true, reduceIte, Bool.false_eq_true, decide_true, decide_false, Nat.reduceAdd, Nat.reduceLeDiff, Nat.reduceLT, Bool.not_true, Bool.not_false, List.nil_append, List.cons_append, List.map_cons, List.map_nil, List.replicate_succ, List.replicate_zero, Bool.not_eq_eq_eq_not, decide_eq_false_iff_not, and_self, and_true, true_and, and_false, false_and, or_true, true_or, or_false, false_or, or_self, Int.reduceLE, Int.reduceLT, Int.reduceNeg, Int.reduceAdd, Int.reduceSub, Int.reduceMul, Int.reduceDiv, Int.reduceMod, Int.reduceEq, Int.reduceToNat, Nat.reduceEqDiff, frz_zero, frz_succ, gT_tup, gT_ktp, gC_ap, gE_nil, cast_0, cast_1, cast_2, cast_3, cast_4, cast_5, cast_6, cast_7, cast_8, cast_9, ty_bs, ty_is, frz_zeroV, oOfR_o, ap_lenO, ap_ixO, tOf_some, pOf_fn, ap_P, ap_iZT, itZT_ok, zipD_cons, zipD_nil, str_i, sq_set, oOfS_o, set_ints, thenW_nx, thenW_ct, thenW_bk, thenW_rt, thenW_exc, at_ok, at_bad, at_exc, at_bind, at_ite, atS_nx, atS_rt, atS_ite, atS_ofE, atS_then, at_endV, endP_v, endP_o, ix_m, len_m, ap_MM, isCL_m, pop0_m, mapp_m, ap_cell, sq_mset, setM_m, - sq_a, - sq_if, - sq_o]
  rw [sq_if]
  by_cases hz : (0 : Int) < (cs.length : Int)
  · simp only [bind_ok, bind_exc, bind_bad, ofE_ok, ofE_exc, vOf_v, ap_C, ap_V, ap_nil, ap_cons, ap_U, ap_B, ap_chain, ap_and, ap_or, ap_tup, ap_F, ap_M, ap_sl, ap_pN, ap_pS, ap_L, ap_tE, ap_tAn, ap_tO, ap_tN, ap_tY, ap_if, ap_lD, ap_lF, ap_lCat, catL_ok, ap_lRep, repL_ok, ap_lSl, slL_lst, slL_scr, ap_iD, itL_lst, itL_scr, ap_iT, itT_tup, itT_ktp, ap_iS, itS_str, ap_iR1, itR1_ok, add_i, add_s, add_l, addX_i, addX_s, sub_i, mul_i, div_i, mod_i, pow_i, shl_i, shr_i, and_i, or_i, xor_i, neg_i, not_b, lt_i, le_i, gt_i, ge_i, eq_i, eq_s, ne_i, ne_s, is_non, is_int, is_str, is_tup, is_lst, isnt_non, isnt_int, isnt_str, isnt_tup, toBl_b, toIn_i, ix_s, ix_l, ix_r, ix_t, ix_k, sl_s, sl_l, sl_r, sl_t, len_s, len_l, len_r, len_t, len_k, int_i, int_b, abs_i, min_i, max_i, tup_l, tup_t, list_l, list_r, list_t, isi_i, isi_b, isi_s, isi_l, isi_t, isi_n, ty_ii, ty_bi, ty_ss, ty_ll, ty_tt, ty_tl, ty_lt, ty_tn, find_s, lower_s, sq_nx, sq_sq, sq_a, sq_o, sq_x, sq_if, sq_ret, sq_retL, oOf_o, sq_retO, sq_app, lstK_l, sq_ext, sq_aug, sq_g, sq_frz, sq_br, sq_ct, sq_raise, ofG_some, nx_ap, thenS_nx, thenS_rt, thenS_exc, sq_for, sq_wh, endV_v, endV_o, endV_n, endV_x, endL_o, endL_x, gN_ap, List.getElem?_cons_zero, List.getElem?_cons_succ, List.set_cons_zero, List.set_cons_succ, List.length_cons, List.length_nil, decide_eq_true_eq, Bool.not_eq_true, reduceIte, Bool.false_eq_true, decide_true, decide_false, Nat.reduceAdd, Nat.reduceLeDiff, Nat.reduceLT, Bool.not_true, Bool.not_false, List.nil_append, List.cons_append, List.map_cons, List.map_nil, List.replicate_succ, List.replicate_zero, Bool.not_eq_eq_eq_not, decide_eq_false_iff_not, and_self, and_true, true_and, and_false, false_and, or_true, true_or, or_false, false_or, or_self, Int.reduceLE, Int.reduceLT, Int.reduceNeg, Int.reduceAdd, Int.reduceSub, Int.reduceMul, Int.reduceDiv, Int.reduceMod, Int.reduceEq, Int.reduceToNat, Nat.reduceEqDiff, frz_zero, frz_succ, gT_tup, gT_ktp, gC_ap, gE_nil, cast_0, cast_1, cast_2, cast_3, cast_4, cast_5, cast_6, cast_7, cast_8, cast_9, ty_bs, ty_is, frz_zeroV, oOfR_o, ap_lenO, ap_ixO, tOf_some, pOf_fn, ap_P, ap_iZT, itZT_ok, zipD_cons, zipD_nil, str_i, sq_set, oOfS_o, set_ints, thenW_nx, thenW_ct, thenW_bk, thenW_rt, thenW_exc, at_ok, at_bad, at_exc, at_bind, at_ite, atS_nx, atS_rt, atS_ite, atS_ofE, atS_then, at_endV, endP_v, endP_o, ix_m, len_m, ap_MM, isCL_m, pop0_m, mapp_m, ap_cell, sq_mset, setM_m, - sq_if, tx_len, show cs.length ≤ 100000 by omega, eq_true hz]
    refine (take_ok (by decide) (by decide) hs8).mono ?_
    rintro _ s9 ⟨u, rfl, u0, u1, hs9⟩
    refine (take_ok hz (by omega) hs9).mono ?_
    rintro _ sa ⟨t, rfl, t0, t1, hsa⟩
    have st2 : ∀ {d : D} {k : List D → RS}, setX (dI F) d k (.int ((B.length : Int) + 1 + t)) = k ((dI F).set ((B.length : Int) + 1 + t).toNat d) := setX_ok (by omega) (by rw [List.length_map]; omega)
    have r5 := right_ok (by_set bF u0 u1 ((B.length : Int) + 1 + t).toNat) (p := B.length) (e := (F.set ((B.length : Int) + 1 + t).toNat u).length) (Nat.le_refl _)
    simp only [bind_ok, bind_exc, bind_bad, ofE_ok, ofE_exc, vOf_v, ap_C, ap_V, ap_nil, ap_cons, ap_U, ap_B, ap_chain, ap_and, ap_or, ap_tup, ap_F, ap_M, ap_sl, ap_pN, ap_pS, ap_L, ap_tE, ap_tAn, ap_tO, ap_tN, ap_tY, ap_if, ap_lD, ap_lF, ap_lCat, catL_ok, ap_lRep, repL_ok, ap_lSl, slL_lst, slL_scr, ap_iD, itL_lst, itL_scr, ap_iT, itT_tup, itT_ktp, ap_iS, itS_str, ap_iR1, itR1_ok, add_i, add_s, add_l, addX_i, addX_s, sub_i, mul_i, div_i, mod_i, pow_i, shl_i, shr_i, and_i, or_i, xor_i, neg_i, not_b, lt_i, le_i, gt_i, ge_i, eq_i, eq_s, ne_i, ne_s, is_non, is_int, is_str, is_tup, is_lst, isnt_non, isnt_int, isnt_str, isnt_tup, toBl_b, toIn_i, ix_s, ix_l, ix_r, ix_t, ix_k, sl_s, sl_l, sl_r, sl_t, len_s, len_l, len_r, len_t, len_k, int_i, int_b, abs_i, min_i, max_i, tup_l, tup_t, list_l, list_r, list_t, isi_i, isi_b, isi_s, isi_l, isi_t, isi_n, ty_ii, ty_bi, ty_ss, ty_ll, ty_tt, ty_tl, ty_lt, ty_tn, find_s, lower_s, sq_nx, sq_sq, sq_a, sq_o, sq_x, sq_if, sq_ret, sq_retL, oOf_o, sq_retO, sq_app, lstK_l, sq_ext, sq_aug, sq_g, sq_frz, sq_br, sq_ct, sq_raise, ofG_some, nx_ap, thenS_nx, thenS_rt, thenS_exc, sq_for, sq_wh, endV_v, endV_o, endV_n, endV_x, endL_o, endL_x, gN_ap, List.getElem?_cons_zero, List.getElem?_cons_succ, List.set_cons_zero, List.set_cons_succ, List.length_cons, List.length_nil, decide_eq_true_eq, Bool.not_eq_true, reduceIte, Bool.false_eq_true, decide_true, decide_false, Nat.reduceAdd, Nat.reduceLeDiff, Nat.reduceLT, Bool.not_true, Bool.not_false, List.nil_append, List.cons_append, List.map_cons, List.map_nil, List.replicate_succ, List.replicate_zero, Bool.not_eq_eq_eq_not, decide_eq_false_iff_not, and_self, and_true, true_and, and_false, false_and, or_true, true_or, or_false, false_or, or_self, Int.reduceLE, Int.reduceLT, Int.reduceNeg, Int.reduceAdd, Int.reduceSub, Int.reduceMul, Int.reduceDiv, Int.reduceMod, Int.reduceEq, Int.reduceToNat, Nat.reduceEqDiff, frz_zero, frz_succ, gT_tup, gT_ktp, gC_ap, gE_nil, cast_0, cast_1, cast_2, cast_3, cast_4, cast_5, cast_6, cast_7, cast_8, cast_9, ty_bs, ty_is, frz_zeroV, oOfR_o, ap_lenO, ap_ixO, tOf_some, pOf_fn, ap_P, ap_iZT, itZT_ok, zipD_cons, zipD_nil, str_i, sq_set, oOfS_o, set_ints, thenW_nx, thenW_ct, thenW_bk, thenW_rt, thenW_exc, at_ok, at_bad, at_exc, at_bind, at_ite, atS_nx, atS_rt, atS_ite, atS_ofE, atS_then, at_endV, endP_v, endP_o, ix_m, len_m, ap_MM, isCL_m, pop0_m, mapp_m, ap_cell, sq_mset, setM_m, - sq_if, st2]
    rw [sq_if]
    simp only [bind_ok, bind_exc, bind_bad, ofE_ok, ofE_exc, vOf_v, ap_C, ap_V, ap_nil, ap_cons, ap_U, ap_B, ap_chain, ap_and, ap_or, ap_tup, ap_F, ap_M, ap_sl, ap_pN, ap_pS, ap_L, ap_tE, ap_tAn, ap_tO, ap_tN, ap_tY, ap_if, ap_lD, ap_lF, ap_lCat, catL_ok, ap_lRep, repL_ok, ap_lSl, slL_lst, slL_scr, ap_iD, itL_lst, itL_scr, ap_iT, itT_tup, itT_ktp, ap_iS, itS_str, ap_iR1, itR1_ok, add_i, add_s, add_l, addX_i, addX_s, sub_i, mul_i, div_i, mod_i, pow_i, shl_i, shr_i, and_i, or_i, xor_i, neg_i, not_b, lt_i, le_i, gt_i, ge_i, eq_i, eq_s, ne_i, ne_s, is_non, is_int, is_str, is_tup, is_lst, isnt_non, isnt_int, isnt_str, isnt_tup, toBl_b, toIn_i, ix_s, ix_l, ix_r, ix_t, ix_k, sl_s, sl_l, sl_r, sl_t, len_s, len_l, len_r, len_t, len_k, int_i, int_b, abs_i, min_i, max_i, tup_l, tup_t, list_l, list_r, list_t, isi_i, isi_b, isi_s, isi_l, isi_t, isi_n, ty_ii, ty_bi, ty_ss, ty_ll, ty_tt, ty_tl, ty_lt, ty_tn, find_s, lower_s, sq_nx, sq_sq, sq_a, sq_o, sq_x, sq_if, sq_ret, sq_retL, oOf_o, sq_retO, sq_app, lstK_l, sq_ext, sq_aug, sq_g, sq_frz, sq_br, sq_ct, sq_raise, ofG_some, nx_ap, thenS_nx, thenS_rt, thenS_exc, sq_for, sq_wh, endV_v, endV_o, endV_n, endV_x, endL_o, endL_x, gN_ap, List.getElem?_cons_zero, List.getElem?_cons_succ, List.set_cons_zero, List.set_cons_succ, List.length_cons, List.length_nil, decide_eq_true_eq, Bool.not_eq_true, reduceIte, Bool.false_eq_true, decide_true, decide_false, Nat.reduceAdd, Nat.reduceLeDiff, Nat.reduceLT, Bool.not_true, Bool.not_false, List.nil_append, List.cons_append, List.map_cons, List.map_nil, List.replicate_succ, List.replicate_zero, Bool.not_eq_eq_eq_not, decide_eq_false_iff_not, and_self, and_true, true_and, and_false, false_and, or_true, true_or, or_false, false_or, or_self, Int.reduceLE, Int.reduceLT, Int.reduceNeg, Int.reduceAdd, Int.reduceSub, Int.reduceMul, Int.reduceDiv, Int.reduceMod, Int.reduceEq, Int.reduceToNat, Nat.reduceEqDiff, frz_zero, frz_succ, gT_tup, gT_ktp, gC_ap, gE_nil, cast_0, cast_1, cast_2, cast_3, cast_4, cast_5, cast_6, cast_7, cast_8, cast_9, ty_bs, ty_is, frz_zeroV, oOfR_o, ap_lenO, ap_ixO, tOf_some, pOf_fn, ap_P, ap_iZT, itZT_ok, zipD_cons, zipD_nil, str_i, sq_set, oOfS_o, set_ints, thenW_nx, thenW_ct, thenW_bk, thenW_rt, thenW_exc, at_ok, at_bad, at_exc, at_bind, at_ite, atS_nx, atS_rt, atS_ite, atS_ofE, atS_then, at_endV, endP_v, endP_o, ix_m, len_m, ap_MM, isCL_m, pop0_m, mapp_m, ap_cell, sq_mset, setM_m, List.length_map, r5, tf]
    exact ⟨⟨_, _, _, _, _, _, _, _, _, rfl⟩, hsa⟩
  · simp only [bind_ok, bind_exc, bind_bad, ofE_ok, ofE_exc, vOf_v, ap_C, ap_V, ap_nil, ap_cons, ap_U, ap_B, ap_chain, ap_and, ap_or, ap_tup, ap_F, ap_M, ap_sl, ap_pN, ap_pS, ap_L, ap_tE, ap_tAn, ap_tO, ap_tN, ap_tY, ap_if, ap_lD, ap_lF, ap_lCat, catL_ok, ap_lRep, repL_ok, ap_lSl, slL_lst, slL_scr, ap_iD, itL_lst, itL_scr, ap_iT, itT_tup, itT_ktp, ap_iS, itS_str, ap_iR1, itR1_ok, add_i, add_s, add_l, addX_i, addX_s, sub_i, mul_i, div_i, mod_i, pow_i, shl_i, shr_i, and_i, or_i, xor_i, neg_i, not_b, lt_i, le_i, gt_i, ge_i, eq_i, eq_s, ne_i, ne_s, is_non, is_int, is_str, is_tup, is_lst, isnt_non, isnt_int, isnt_str, isnt_tup, toBl_b, toIn_i, ix_s, ix_l, ix_r, ix_t, ix_k, sl_s, sl_l, sl_r, sl_t, len_s, len_l, len_r, len_t, len_k, int_i, int_b, abs_i, min_i, max_i, tup_l, tup_t, list_l, list_r, list_t, isi_i, isi_b, isi_s, isi_l, isi_t, isi_n, ty_ii, ty_bi, ty_ss, ty_ll, ty_tt, ty_tl, ty_lt, ty_tn, find_s, lower_s, sq_nx, sq_sq, sq_a, sq_o, sq_x, sq_if, sq_ret, sq_retL, oOf_o, sq_retO, sq_app, lstK_l, sq_ext, sq_aug, sq_g, sq_frz, sq_br, sq_ct, sq_raise, ofG_some, nx_ap, thenS_nx, thenS_rt, thenS_exc, sq_for, sq_wh, endV_v, endV_o, endV_n, endV_x, endL_o, endL_x, gN_ap, List.getElem?_cons_zero, List.getElem?_cons_succ, List.set_cons_zero, List.set_cons_succ, List.length_cons, List.length_nil, decide_eq_true_eq, Bool.not_eq_true, reduceIte, Bool.false_eq_true, decide_true, decide_false, Nat.reduceAdd, Nat.reduceLeDiff, Nat.reduceLT, Bool.not_true, Bool.not_false, List.nil_append, List.cons_append, List.map_cons, List.map_nil, List.replicate_succ, List.replicate_zero, Bool.not_eq_eq_eq_not, decide_eq_false_iff_not, and_self, and_true, true_and, and_false, false_and, or_true, true_or, or_false, false_or, or_self, Int.reduceLE, Int.reduceLT, Int.reduceNeg, Int.reduceAdd, Int.reduceSub, Int.reduceMul, Int.reduceDiv, Int.reduceMod, Int.reduceEq, Int.reduceToNat, Nat.reduceEqDiff, frz_zero, frz_succ, gT_tup, gT_ktp, gC_ap, gE_nil, cast_0, cast_1, cast_2, cast_3, cast_4, cast_5, cast_6, cast_7, cast_8, cast_9, ty_bs, ty_is, frz_zeroV, oOfR_o, ap_lenO, ap_ixO, tOf_some, pOf_fn, ap_P, ap_iZT, itZT_ok, zipD_cons, zipD_nil, str_i, sq_set, oOfS_o, set_ints, thenW_nx, thenW_ct, thenW_bk, thenW_rt, thenW_exc, at_ok, at_bad, at_exc, at_bind, at_ite, atS_nx, atS_rt, atS_ite, atS_ofE, atS_then, at_endV, endP_v, endP_o, ix_m, len_m, ap_MM, isCL_m, pop0_m, mapp_m, ap_cell, sq_mset, setM_m, - sq_if, tx_len, show cs.length ≤ 100000 by omega, eq_false hz]
    rw [sq_if]
    simp only [bind_ok, bind_exc, bind_bad, ofE_ok, ofE_exc, vOf_v, ap_C, ap_V, ap_nil, ap_cons, ap_U, ap_B, ap_chain, ap_and, ap_or, ap_tup, ap_F, ap_M, ap_sl, ap_pN, ap_pS, ap_L, ap_tE, ap_tAn, ap_tO, ap_tN, ap_tY, ap_if, ap_lD, ap_lF, ap_lCat, catL_ok, ap_lRep, repL_ok, ap_lSl, slL_lst, slL_scr, ap_iD, itL_lst, itL_scr, ap_iT, itT_tup, itT_ktp, ap_iS, itS_str, ap_iR1, itR1_ok, add_i, add_s, add_l, addX_i, addX_s, sub_i, mul_i, div_i, mod_i, pow_i, shl_i, shr_i, and_i, or_i, xor_i, neg_i, not_b, lt_i, le_i, gt_i, ge_i, eq_i, eq_s, ne_i, ne_s, is_non, is_int, is_str, is_tup, is_lst, isnt_non, isnt_int, isnt_str, isnt_tup, toBl_b, toIn_i, ix_s, ix_l, ix_r, ix_t, ix_k, sl_s, sl_l, sl_r, sl_t, len_s, len_l, len_r, len_t, len_k, int_i, int_b, abs_i, min_i, max_i, tup_l, tup_t, list_l, list_r, list_t, isi_i, isi_b, isi_s, isi_l, isi_t, isi_n, ty_ii, ty_bi, ty_ss, ty_ll, ty_tt, ty_tl, ty_lt, ty_tn, find_s, lower_s, sq_nx, sq_sq, sq_a, sq_o, sq_x, sq_if, sq_ret, sq_retL, oOf_o, sq_retO, sq_app, lstK_l, sq_ext, sq_aug, sq_g, sq_frz, sq_br, sq_ct, sq_raise, ofG_some, nx_ap, thenS_nx, thenS_rt, thenS_exc, sq_for, sq_wh, endV_v, endV_o, endV_n, endV_x, endL_o, endL_x, gN_ap, List.getElem?_cons_zero, List.getElem?_cons_succ, List.set_cons_zero, List.set_cons_succ, List.length_cons, List.length_nil, decide_eq_true_eq, Bool.not_eq_true, reduceIte, Bool.false_eq_true, decide_true, decide_false, Nat.reduceAdd, Nat.reduceLeDiff, Nat.reduceLT, Bool.not_true, Bool.not_false, List.nil_append, List.cons_append, List.map_cons, List.map_nil, List.replicate_succ, List.replicate_zero, Bool.not_eq_eq_eq_not, decide_eq_false_iff_not, and_self, and_true, true_and, and_false, false_and, or_true, true_or, or_false, false_or, or_self, Int.reduceLE, Int.reduceLT, Int.reduceNeg, Int.reduceAdd, Int.reduceSub, Int.reduceMul, Int.reduceDiv, Int.reduceMod, Int.reduceEq, Int.reduceToNat, Nat.reduceEqDiff, frz_zero, frz_succ, gT_tup, gT_ktp, gC_ap, gE_nil, cast_0, cast_1, cast_2, cast_3, cast_4, cast_5, cast_6, cast_7, cast_8, cast_9, ty_bs, ty_is, frz_zeroV, oOfR_o, ap_lenO, ap_ixO, tOf_some, pOf_fn, ap_P, ap_iZT, itZT_ok, zipD_cons, zipD_nil, str_i, sq_set, oOfS_o, set_ints, thenW_nx, thenW_ct, thenW_bk, thenW_rt, thenW_exc, at_ok, at_bad, at_exc, at_bind, at_ite, atS_nx, atS_rt, atS_ite, atS_ofE, atS_then, at_endV, endP_v, endP_o, ix_m, len_m, ap_MM, isCL_m, pop0_m, mapp_m, ap_cell, sq_mset, setM_m, List.length_map, r1, tf]
    exact ⟨⟨_, _, _, _, _, _, _, _, _, rfl⟩, hs8⟩
theorem law_true : ∀ ns : List Int, ns.length ≤ 63 → TrueAt (defV 1 10 b_law [.scr (ns.map .int)] []) := by
  intro ns hl
  refine trueAt ?_
  rw [defV_ap (n := 1) (show [D.scr (ns.map D.int)].length = 1 from rfl)]
  rw [show ([D.scr (ns.map D.int)].map Sl.val ++ List.replicate 10 Sl.un) = [.val (.scr (dI ns)), .un, .un, .un, .un, .un, .un, .un, .un, .un, .un] from rfl]
  have c63 : cutG (dI ns) none (some 63) = dI ns := by
    rw [show (63 : Int) = ((63 : Nat) : Int) from rfl, cutG_to, List.take_of_length_le (by rw [List.length_map]; exact hl)]
  have q : lLc (iD (eSl (eV 0) pN (pS (eC (.int 63))))) (gN 2) tY (eF fInt (eCons (eV 2) eNil)) [2] [.val (.scr (dI ns)), .un, .un, .un, .un, .un, .un, .un, .un, .un, .un] = .ok (dI ns) := lc_ints (by simp only [bind_ok, bind_exc, bind_bad, ofE_ok, ofE_exc, vOf_v, ap_C, ap_V, ap_nil, ap_cons, ap_U, ap_B, ap_chain, ap_and, ap_or, ap_tup, ap_F, ap_M, ap_sl, ap_pN, ap_pS, ap_L, ap_tE, ap_tAn, ap_tO, ap_tN, ap_tY, ap_if, ap_lD, ap_lF, ap_lCat, catL_ok, ap_lRep, repL_ok, ap_lSl, slL_lst, slL_scr, ap_iD, itL_lst, itL_scr, ap_iT, itT_tup, itT_ktp, ap_iS, itS_str, ap_iR1, itR1_ok, add_i, add_s, add_l, addX_i, addX_s, sub_i, mul_i, div_i, mod_i, pow_i, shl_i, shr_i, and_i, or_i, xor_i, neg_i, not_b, lt_i, le_i, gt_i, ge_i, eq_i, eq_s, ne_i, ne_s, is_non, is_int, is_str, is_tup, is_lst, isnt_non, isnt_int, isnt_str, isnt_tup, toBl_b, toIn_i, ix_s, ix_l, ix_r, ix_t, ix_k, sl_s, sl_l, sl_r, sl_t, len_s, len_l, len_r, len_t, len_k, int_i, int_b, abs_i, min_i, max_i, tup_l, tup_t, list_l, list_r, list_t, isi_i, isi_b, isi_s, isi_l, isi_t, isi_n, ty_ii, ty_bi, ty_ss, ty_ll, ty_tt, ty_tl, ty_lt, ty_tn, find_s, lower_s, sq_nx, sq_sq, sq_a, sq_o, sq_x, sq_if, sq_ret, sq_retL, oOf_o, sq_retO, sq_app, lstK_l, sq_ext, sq_aug, sq_g, sq_frz, sq_br, sq_ct, sq_raise, ofG_some, nx_ap, thenS_nx, thenS_rt, thenS_exc, sq_for, sq_wh, endV_v, endV_o, endV_n, endV_x, endL_o, endL_x, gN_ap, List.getElem?_cons_zero, List.getElem?_cons_succ, List.set_cons_zero, List.set_cons_succ, List.length_cons, List.length_nil, decide_eq_true_eq, Bool.not_eq_true, reduceIte, Bool.false_eq_true, decide_true, decide_false, Nat.reduceAdd, Nat.reduceLeDiff, Nat.reduceLT, Bool.not_true, Bool.not_false, List.nil_append, List.cons_append, List.map_cons, List.map_nil, List.replicate_succ, List.replicate_zero, Bool.not_eq_eq_eq_not, decide_eq_false_iff_not, and_self, and_true, true_and, and_false, false_and, or_true, true_or, or_false, false_or, or_self, Int.reduceLE, Int.reduceLT, Int.reduceNeg, Int.reduceAdd, Int.reduceSub, Int.reduceMul, Int.reduceDiv, Int.reduceMod, Int.reduceEq, Int.reduceToNat, Nat.reduceEqDiff, frz_zero, frz_succ, gT_tup, gT_ktp, gC_ap, gE_nil, cast_0, cast_1, cast_2, cast_3, cast_4, cast_5, cast_6, cast_7, cast_8, cast_9, ty_bs, ty_is, frz_zeroV, oOfR_o, ap_lenO, ap_ixO, tOf_some, pOf_fn, ap_P, ap_iZT, itZT_ok, zipD_cons, zipD_nil, str_i, sq_set, oOfS_o, set_ints, thenW_nx, thenW_ct, thenW_bk, thenW_rt, thenW_exc, at_ok, at_bad, at_exc, at_bind, at_ite, atS_nx, atS_rt, atS_ite, atS_ofE, atS_then, at_endV, endP_v, endP_o, ix_m, len_m, ap_MM, isCL_m, pop0_m, mapp_m, ap_cell, sq_mset, setM_m, c63]) (by omega) (by show 2 < 11; decide)
  unfold b_law
  simp only [bind_ok, bind_exc, bind_bad, ofE_ok, ofE_exc, vOf_v, ap_C, ap_V, ap_nil, ap_cons, ap_U, ap_B, ap_chain, ap_and, ap_or, ap_tup, ap_F, ap_M, ap_sl, ap_pN, ap_pS, ap_L, ap_tE, ap_tAn, ap_tO, ap_tN, ap_tY, ap_if, ap_lD, ap_lF, ap_lCat, catL_ok, ap_lRep, repL_ok, ap_lSl, slL_lst, slL_scr, ap_iD, itL_lst, itL_scr, ap_iT, itT_tup, itT_ktp, ap_iS, itS_str, ap_iR1, itR1_ok, add_i, add_s, add_l, addX_i, addX_s, sub_i, mul_i, div_i, mod_i, pow_i, shl_i, shr_i, and_i, or_i, xor_i, neg_i, not_b, lt_i, le_i, gt_i, ge_i, eq_i, eq_s, ne_i, ne_s, is_non, is_int, is_str, is_tup, is_lst, isnt_non, isnt_int, isnt_str, isnt_tup, toBl_b, toIn_i, ix_s, ix_l, ix_r, ix_t, ix_k, sl_s, sl_l, sl_r, sl_t, len_s, len_l, len_r, len_t, len_k, int_i, int_b, abs_i, min_i, max_i, tup_l, tup_t, list_l, list_r, list_t, isi_i, isi_b, isi_s, isi_l, isi_t, isi_n, ty_ii, ty_bi, ty_ss, ty_ll, ty_tt, ty_tl, ty_lt, ty_tn, find_s, lower_s, sq_nx, sq_sq, sq_a, sq_o, sq_x, sq_if, sq_ret, sq_retL, oOf_o, sq_retO, sq_app, lstK_l, sq_ext, sq_aug, sq_g, sq_frz, sq_br, sq_ct, sq_raise, ofG_some, nx_ap, thenS_nx, thenS_rt, thenS_exc, sq_for, sq_wh, endV_v, endV_o, endV_n, endV_x, endL_o, endL_x, gN_ap, List.getElem?_cons_zero, List.getElem?_cons_succ, List.set_cons_zero, List.set_cons_succ, List.length_cons, List.length_nil, decide_eq_true_eq, Bool.not_eq_true, reduceIte, Bool.false_eq_true, decide_true, decide_false, Nat.reduceAdd, Nat.reduceLeDiff, Nat.reduceLT, Bool.not_true, Bool.not_false, List.nil_append, List.cons_append, List.map_cons, List.map_nil, List.replicate_succ, List.replicate_zero, Bool.not_eq_eq_eq_not, decide_eq_false_iff_not, and_self, and_true, true_and, and_false, false_and, or_true, true_or, or_false, false_or, or_self, Int.reduceLE, Int.reduceLT, Int.reduceNeg, Int.reduceAdd, Int.reduceSub, Int.reduceMul, Int.reduceDiv, Int.reduceMod, Int.reduceEq, Int.reduceToNat, Nat.reduceEqDiff, frz_zero, frz_succ, gT_tup, gT_ktp, gC_ap, gE_nil, cast_0, cast_1, cast_2, cast_3, cast_4, cast_5, cast_6, cast_7, cast_8, cast_9, ty_bs, ty_is, frz_zeroV, oOfR_o, ap_lenO, ap_ixO, tOf_some, pOf_fn, ap_P, ap_iZT, itZT_ok, zipD_cons, zipD_nil, str_i, sq_set, oOfS_o, set_ints, thenW_nx, thenW_ct, thenW_bk, thenW_rt, thenW_exc, at_ok, at_bad, at_exc, at_bind, at_ite, atS_nx, atS_rt, atS_ite, atS_ofE, atS_then, at_endV, endP_v, endP_o, ix_m, len_m, ap_MM, isCL_m, pop0_m, mapp_m, ap_cell, sq_mset, setM_m, q, at_cNew]
  refine (atS_range (I := fun n => I13 (.scr (dI ns)) 0) (T := fun _ _ => False) 4 _ _ ⟨⟨_, _, _, _, _, _, _, _, _, rfl⟩, ns, 0, rfl⟩ fun k env s hk hI => ?_).mono ?_ fun v s h => h.elim
  · obtain ⟨⟨x2, x3, x4, x5, x6, x7, x8, x9, xa, rfl⟩, hs⟩ := hI
    exact body13 hs x2 x4 x5 x6 x7 x8 x9 xa
  · rintro e s2 ⟨⟨x2, x3, x4, x5, x6, x7, x8, x9, xa, rfl⟩, hs⟩
    simp only [bind_ok, bind_exc, bind_bad, ofE_ok, ofE_exc, vOf_v, ap_C, ap_V, ap_nil, ap_cons, ap_U, ap_B, ap_chain, ap_and, ap_or, ap_tup, ap_F, ap_M, ap_sl, ap_pN, ap_pS, ap_L, ap_tE, ap_tAn, ap_tO, ap_tN, ap_tY, ap_if, ap_lD, ap_lF, ap_lCat, catL_ok, ap_lRep, repL_ok, ap_lSl, slL_lst, slL_scr, ap_iD, itL_lst, itL_scr, ap_iT, itT_tup, itT_ktp, ap_iS, itS_str, ap_iR1, itR1_ok, add_i, add_s, add_l, addX_i, addX_s, sub_i, mul_i, div_i, mod_i, pow_i, shl_i, shr_i, and_i, or_i, xor_i, neg_i, not_b, lt_i, le_i, gt_i, ge_i, eq_i, eq_s, ne_i, ne_s, is_non, is_int, is_str, is_tup, is_lst, isnt_non, isnt_int, isnt_str, isnt_tup, toBl_b, toIn_i, ix_s, ix_l, ix_r, ix_t, ix_k, sl_s, sl_l, sl_r, sl_t, len_s, len_l, len_r, len_t, len_k, int_i, int_b, abs_i, min_i, max_i, tup_l, tup_t, list_l, list_r, list_t, isi_i, isi_b, isi_s, isi_l, isi_t, isi_n, ty_ii, ty_bi, ty_ss, ty_ll, ty_tt, ty_tl, ty_lt, ty_tn, find_s, lower_s, sq_nx, sq_sq, sq_a, sq_o, sq_x, sq_if, sq_ret, sq_retL, oOf_o, sq_retO, sq_app, lstK_l, sq_ext, sq_aug, sq_g, sq_frz, sq_br, sq_ct, sq_raise, ofG_some, nx_ap, thenS_nx, thenS_rt, thenS_exc, sq_for, sq_wh, endV_v, endV_o, endV_n, endV_x, endL_o, endL_x, gN_ap, List.getElem?_cons_zero, List.getElem?_cons_succ, List.set_cons_zero, List.set_cons_succ, List.length_cons, List.length_nil, decide_eq_true_eq, Bool.not_eq_true, reduceIte, Bool.false_eq_true, decide_true, decide_false, Nat.reduceAdd, Nat.reduceLeDiff, Nat.reduceLT, Bool.not_true, Bool.not_false, List.nil_append, List.cons_append, List.map_cons, List.map_nil, List.replicate_succ, List.replicate_zero, Bool.not_eq_eq_eq_not, decide_eq_false_iff_not, and_self, and_true, true_and, and_false, false_and, or_true, true_or, or_false, false_or, or_self, Int.reduceLE, Int.reduceLT, Int.reduceNeg, Int.reduceAdd, Int.reduceSub, Int.reduceMul, Int.reduceDiv, Int.reduceMod, Int.reduceEq, Int.reduceToNat, Nat.reduceEqDiff, frz_zero, frz_succ, gT_tup, gT_ktp, gC_ap, gE_nil, cast_0, cast_1, cast_2, cast_3, cast_4, cast_5, cast_6, cast_7, cast_8, cast_9, ty_bs, ty_is, frz_zeroV, oOfR_o, ap_lenO, ap_ixO, tOf_some, pOf_fn, ap_P, ap_iZT, itZT_ok, zipD_cons, zipD_nil, str_i, sq_set, oOfS_o, set_ints, thenW_nx, thenW_ct, thenW_bk, thenW_rt, thenW_exc, at_ok, at_bad, at_exc, at_bind, at_ite, atS_nx, atS_rt, atS_ite, atS_ofE, atS_then, at_endV, endP_v, endP_o, ix_m, len_m, ap_MM, isCL_m, pop0_m, mapp_m, ap_cell, sq_mset, setM_m]
end Lk13
set_option Elab.async false
set_option linter.all false
set_option maxRecDepth 100000
set_option maxHeartbeats 4000000

open PySem
namespace Lk13
open PySem L2 Evl RZ Wm Dm
def topS (i : Nat) : Stmt := PySem.Challenge.pw_wasmhost_k13_names.main.body.getD i (.Pass ⟨0, 0, 0, 0⟩)
abbrev s_write_unsigned : Stmt := topS 4
abbrev s_byte_at : Stmt := topS 5
abbrev s_read_groups : Stmt := topS 6
abbrev s_read_unsigned : Stmt := topS 7
abbrev s_read_index : Stmt := topS 8
abbrev s_character : Stmt := topS 11
abbrev s_read_character : Stmt := topS 15
abbrev s_read_items : Stmt := topS 14
abbrev s_read_name : Stmt := topS 16
abbrev s_write_sized : Stmt := topS 18
abbrev s_write_name : Stmt := topS 19
abbrev s_l_mixed : Stmt := topS 21
abbrev s_l_take : Stmt := topS 22
abbrev s_l_char : Stmt := topS 23
abbrev s_l_name : Stmt := topS 24
abbrev s_l_is_bytes : Stmt := topS 25
abbrev s_l_due : Stmt := topS 26
abbrev s_l_told : Stmt := topS 27
abbrev s_l_right : Stmt := topS 28
abbrev s_law : Stmt := topS 29
structure Tx (w : World) (K : PySem.W.Frag) (mg : Str → Option Value) (ad : Nat → Addr) : Prop where
  b_abs : mg "abs" = none
  b_bool : mg "bool" = none
  b_int : mg "int" = none
  b_isinstance : mg "isinstance" = none
  b_len : mg "len" = none
  b_list : mg "list" = none
  b_ord : mg "ord" = none
  b_range : mg "range" = none
  b_str : mg "str" = none
  b_tuple : mg "tuple" = none
  g_CHARACTERS : ∃ v u, mg "CHARACTERS" = some u ∧ RelV v u ∧ ∀ G, Rep K w ad G v d_CHARACTERS
  g_MOST_CHARACTERS : ∃ v u, mg "MOST_CHARACTERS" = some u ∧ RelV v u ∧ ∀ G, Rep K w ad G v d_MOST_CHARACTERS
  n_HostError : mg "HostError" = some (.ref (ad 1000))
  e_DecodeError : ExN K mg "DecodeError" (ad 1001) (ad 2001) ["reason", "place"]
  n_DecodeError : mg "DecodeError" = some (.ref (ad 1001))
  x_DecodeError_HostError : PySem.W.exmOne K (.ref (ad 1001)) (.ref (ad 1000)) = some true
  i_DecodeError : IsC K (ad 1001)
  y_DecodeError_DecodeError : PySem.W.kitOne K (.ref (ad 1001)) (.ref (ad 1001)) = some true
section
variable {P : Program} {w : World} {K : PySem.W.Frag} {mg : Str → Option Value} {base : Heap} {ad : Nat → Addr}
theorem hx_HostError (T : Tx w K mg ad) : ∀ c k, x_HostError c = some k → PySem.W.exmOne K (.ref (ad c)) (.ref (ad 1000)) = some k := by
  intro c k h
  unfold x_HostError at h
  split at h
  · cases h; exact T.x_DecodeError_HostError
  · cases h
theorem hy_DecodeError (T : Tx w K mg ad) : ∀ m b, y_DecodeError m = some b → IsC K (ad m) ∧ PySem.W.kitOne K (.ref (ad m)) (.ref (ad 1001)) = some b := by
  intro m b h
  unfold y_DecodeError at h
  split at h
  · cases h; exact ⟨T.i_DecodeError, T.y_DecodeError_DecodeError⟩
  · cases h
abbrev s_init_DecodeError : Stmt := (clsBodyW (topS 2)).getD 0 (.Pass ⟨0, 0, 0, 0⟩)
theorem sc_init_DecodeError : FnScope ["self", "reason", "place"] ["self", "reason", "place"] (defScope s_init_DecodeError) := ⟨rfl, rfl, rfl, by decide +kernel, rfl, by decide +kernel, by decide +kernel⟩
theorem ok_init_DecodeError {f : Addr} {fd : FuncData} (F : Fun K "__init__" "DecodeError.__init__" s_init_DecodeError f fd) : FnOk P w K mg base CX0 1 f fd ["self", "reason", "place"] (sp_initN K ["reason", "place"]) := by
  refine F.ok sc_init_DecodeError (fun vs H Q E h => initN_len h) (fun cdv A outer s H vs Q E hr h => ?_)
  exact ⟨_, (pss_cons (ps_ost (pv 0) (pv 1)) (pss_cons (ps_ost (pv 0) (pv 2)) pss_nil)), init2 h⟩
theorem sc_write_unsigned : FnScope ["number", "data"] ["number"] (defScope s_write_unsigned) := ⟨rfl, rfl, rfl, by decide +kernel, rfl, by decide +kernel, by decide +kernel⟩
theorem ok_write_unsigned {f : Addr} {fd : FuncData} (F : Fun K "write_unsigned" "write_unsigned" s_write_unsigned f fd) (T : Tx w K mg ad) : FnOk P w K mg base (L2.CX P w) 1 f fd ["number"] (SpD ⟨K, w, ad⟩ m_write_unsigned) := by
  refine ok_defV (l := 0) (n := 1) (k := 1) (b := b_write_unsigned) F sc_write_unsigned rfl rfl (fun cdv A outer s H E hr => ⟨_, (pss_cons (ps_set (i := 1) sc_write_unsigned.nd rfl (Or.inl rfl) (pe_lst pa_nil)) (pss_cons (ps_while (passes_of rfl) (pt_cmpR or_ge (pv 0) pe_int (nomark _)) (pss_cons (ps_expr (pe_bm PySem.F.plainAttrs_list PySem.F.slot_list_append PySem.F.type_list_append mt_append (pv 1) (pa_cons (pe_op (r := Dm.rAdd K) or_add pe_int (pe_op op_and (pv 0) pe_int)) pa_nil))) (pss_cons (ps_set (i := 0) sc_write_unsigned.nd rfl (Or.inl rfl) (pe_op op_shr (pv 0) pe_int)) pss_nil))) (pss_cons (ps_expr (pe_bm PySem.F.plainAttrs_list PySem.F.slot_list_append PySem.F.type_list_append mt_append (pv 1) (pa_cons (pv 0) pa_nil))) (pss_cons (ps_ret (pv 1)) pss_nil)))), fun xo => ?_⟩)
  exact (cs_seq (cs_o (cn_lst ca_nil)) (cs_seq (cs_wh 100000 (ct_test (ce_B od_ge ce_var (ce_c fun _ => .int _))) (cs_seq (cs_app rfl (ce_B od_add (ce_c fun _ => .int _) (ce_B od_and ce_var (ce_c fun _ => .int _)))) (cs_seq (cs_a (ce_B od_shr ce_var (ce_c fun _ => .int _))) cs_nx))) (cs_seq (cs_app rfl ce_var) (cs_seq (cs_frz 1 (cs_ret ce_var)) cs_nx))))
theorem sc_byte_at : FnScope ["data", "place", "end"] ["data", "place", "end"] (defScope s_byte_at) := ⟨rfl, rfl, rfl, by decide +kernel, rfl, by decide +kernel, by decide +kernel⟩
theorem ok_byte_at {f : Addr} {fd : FuncData} {di_DecodeError : FuncData} (F : Fun K "byte_at" "byte_at" s_byte_at f fd) (T : Tx w K mg ad) (O_init_DecodeError : InitN P w K mg base (ad 2001) di_DecodeError ["self", "reason", "place"] ["reason", "place"]) : FnOk P w K mg base (L2.CX P w) 3 f fd ["data", "place", "end"] (SpD ⟨K, w, ad⟩ m_byte_at) := by
  refine ok_defV (l := 2) (n := 3) (k := 0) (b := b_byte_at) F sc_byte_at rfl rfl (fun cdv A outer s H E hr => ⟨_, (pss_cons (ps_if (pt_cmpR or_ge (pv 1) (pv 2) (nomark _)) (pss_cons (ps_raise rfl (takes_of rfl rfl rfl rfl) (pmk_oex T.e_DecodeError.o T.e_DecodeError.i T.e_DecodeError.t O_init_DecodeError.ok (hr.mono (by decide)) O_init_DecodeError.b .nil pass0 rfl T.e_DecodeError.g (pa_cons pe_str (pa_cons (pv 2) pa_nil)))) pss_nil) pss_nil) (pss_cons (ps_ret (pe_ix (r := rIxX K w) ix_all (pv 0) (pv 1) (fun _ _ => rfl))) pss_nil)), fun xo => ?_⟩)
  exact (cs_seq (cs_if (ct_test (ce_B od_ge ce_var ce_var)) (cs_seq (cs_raise T.e_DecodeError.o T.e_DecodeError.n (by decide) (by decide) (by decide +kernel) (ca_cons (ce_c fun _ => .str _) (ca_cons ce_var ca_nil))) cs_nx) cs_nx) (cs_seq (cs_ret (ce_B od_ix ce_var ce_var)) cs_nx))
theorem sc_read_groups : FnScope ["data", "place", "end", "bits", "number", "shift"] ["data", "place", "end", "bits"] (defScope s_read_groups) := ⟨rfl, rfl, rfl, by decide +kernel, rfl, by decide +kernel, by decide +kernel⟩
theorem ok_read_groups {f : Addr} {fd : FuncData} {d_byte_at : FuncData} {di_DecodeError : FuncData} (F : Fun K "read_groups" "read_groups" s_read_groups f fd) (T : Tx w K mg ad) (O_byte_at : DfX P w K mg base 3 "byte_at" (ad 1) d_byte_at ["data", "place", "end"] (SpD ⟨K, w, ad⟩ m_byte_at)) (O_init_DecodeError : InitN P w K mg base (ad 2001) di_DecodeError ["self", "reason", "place"] ["reason", "place"]) : FnOk P w K mg base (L2.CX P w) 4 f fd ["data", "place", "end", "bits"] (SpD ⟨K, w, ad⟩ m_read_groups) := by
  refine ok_defV (l := 3) (n := 4) (k := 2) (b := b_read_groups) F sc_read_groups rfl rfl (fun cdv A outer s H E hr => ⟨_, (pss_cons (ps_set (i := 4) sc_read_groups.nd rfl (Or.inl rfl) pe_int) (pss_cons (ps_set (i := 5) sc_read_groups.nd rfl (Or.inl rfl) pe_int) (pss_cons (ps_while (passes_of rfl) (pt_cmpR or_ge (clS O_byte_at (hr.mono (by decide)) rfl (fun σ => passAt (takes_of rfl rfl rfl rfl) σ) (pa_cons (pv 0) (pa_cons (pv 1) (pa_cons (pv 2) pa_nil)))) pe_int (nomark _)) (pss_cons (ps_if (pt_cmpR or_le (pv 3) pe_int (nomark _)) (pss_cons (ps_raise rfl (takes_of rfl rfl rfl rfl) (pmk_oex T.e_DecodeError.o T.e_DecodeError.i T.e_DecodeError.t O_init_DecodeError.ok (hr.mono (by decide)) O_init_DecodeError.b .nil pass0 rfl T.e_DecodeError.g (pa_cons pe_str (pa_cons (pv 1) pa_nil)))) pss_nil) pss_nil) (pss_cons (ps_aug (i := 4) sc_read_groups.nd rfl (Or.inl rfl) (pe_op or_shl (pe_op op_sub (pe_ix (r := rIxX K w) ix_all (pv 0) (pv 1) (fun _ _ => rfl)) pe_int) (pv 5)) ip_addX) (pss_cons (ps_aug (i := 5) sc_read_groups.nd rfl (Or.inl rfl) pe_int ip_addX) (pss_cons (ps_aug (i := 3) sc_read_groups.nd rfl (Or.inl rfl) pe_int ip_subX) (pss_cons (ps_aug (i := 1) sc_read_groups.nd rfl (Or.inl rfl) pe_int ip_addX) pss_nil)))))) (pss_cons (ps_ret (pe_tup (pa_cons (pv 4) (pa_cons (pv 5) (pa_cons (pv 3) (pa_cons (pv 1) pa_nil)))))) pss_nil)))), fun xo => ?_⟩)
  exact (cs_seq (cs_a (ce_c fun _ => .int _)) (cs_seq (cs_a (ce_c fun _ => .int _)) (cs_seq (cs_wh 100000 (ct_test (ce_B od_ge (ce_call (ca_cons ce_var (ca_cons ce_var (ca_cons ce_var ca_nil)))) (ce_c fun _ => .int _))) (cs_seq (cs_if (ct_test (ce_B od_le ce_var (ce_c fun _ => .int _))) (cs_seq (cs_raise T.e_DecodeError.o T.e_DecodeError.n (by decide) (by decide) (by decide +kernel) (ca_cons (ce_c fun _ => .str _) (ca_cons ce_var ca_nil))) cs_nx) cs_nx) (cs_seq (cs_aug od_addX (ce_B od_shl (ce_B od_sub (ce_B od_ix ce_var ce_var) (ce_c fun _ => .int _)) ce_var)) (cs_seq (cs_aug od_addX (ce_c fun _ => .int _)) (cs_seq (cs_aug od_sub (ce_c fun _ => .int _)) (cs_seq (cs_aug od_addX (ce_c fun _ => .int _)) cs_nx)))))) (cs_seq (cs_ret (ce_tup (ca_cons ce_var (ca_cons ce_var (ca_cons ce_var (ca_cons ce_var ca_nil)))))) cs_nx))))
theorem sc_read_unsigned : FnScope ["data", "place", "end", "bits", "number", "shift", "left", "group"] ["data", "place", "end", "bits"] (defScope s_read_unsigned) := ⟨rfl, rfl, rfl, by decide +kernel, rfl, by decide +kernel, by decide +kernel⟩
theorem ok_read_unsigned {f : Addr} {fd : FuncData} {d_read_groups : FuncData} {di_DecodeError : FuncData} (F : Fun K "read_unsigned" "read_unsigned" s_read_unsigned f fd) (T : Tx w K mg ad) (O_read_groups : DfX P w K mg base 4 "read_groups" (ad 2) d_read_groups ["data", "place", "end", "bits"] (SpD ⟨K, w, ad⟩ m_read_groups)) (O_init_DecodeError : InitN P w K mg base (ad 2001) di_DecodeError ["self", "reason", "place"] ["reason", "place"]) : FnOk P w K mg base (L2.CX P w) 5 f fd ["data", "place", "end", "bits"] (SpD ⟨K, w, ad⟩ m_read_unsigned) := by
  refine ok_defV (l := 4) (n := 4) (k := 4) (b := b_read_unsigned) F sc_read_unsigned rfl rfl (fun cdv A outer s H E hr => ⟨_, (pss_cons (ps_asg (clS O_read_groups (hr.mono (by decide)) rfl (fun σ => passAt (takes_of rfl rfl rfl rfl) σ) (pa_cons (pv 0) (pa_cons (pv 1) (pa_cons (pv 2) (pa_cons (pv 3) pa_nil))))) (pg_tup rfl (pgs_cons (pg_name (i := 4) sc_read_unsigned.nd rfl (Or.inl rfl)) (pgs_cons (pg_name (i := 5) sc_read_unsigned.nd rfl (Or.inl rfl)) (pgs_cons (pg_name (i := 6) sc_read_unsigned.nd rfl (Or.inl rfl)) (pgs_cons (pg_name (i := 1) sc_read_unsigned.nd rfl (Or.inl rfl)) pgs_nil)))))) (pss_cons (ps_set (i := 7) sc_read_unsigned.nd rfl (Or.inl rfl) (pe_ix (r := rIxX K w) ix_all (pv 0) (pv 1) (fun _ _ => rfl))) (pss_cons (ps_if (PW.pt (pw_and (pt_cmpR or_lt (pv 6) pe_int (nomark _)) (pw_and1 (pt_cmpR or_ge (pv 7) (pe_op or_shl pe_int (pv 6)) (nomark _))))) (pss_cons (ps_raise rfl (takes_of rfl rfl rfl rfl) (pmk_oex T.e_DecodeError.o T.e_DecodeError.i T.e_DecodeError.t O_init_DecodeError.ok (hr.mono (by decide)) O_init_DecodeError.b .nil pass0 rfl T.e_DecodeError.g (pa_cons pe_str (pa_cons (pv 1) pa_nil)))) pss_nil) pss_nil) (pss_cons (ps_ret (pe_tup (pa_cons (pe_op (r := Dm.rAdd K) or_add (pv 4) (pe_op or_shl (pv 7) (pv 5))) (pa_cons (pe_op (r := Dm.rAdd K) or_add (pv 1) pe_int) pa_nil)))) pss_nil)))), fun xo => ?_⟩)
  exact (cs_seq (cs_g (ce_call (ca_cons ce_var (ca_cons ce_var (ca_cons ce_var (ca_cons ce_var ca_nil))))) (cg_tup (cgs_cons cg_name (cgs_cons cg_name (cgs_cons cg_name (cgs_cons cg_name cgs_nil)))))) (cs_seq (cs_a (ce_B od_ix ce_var ce_var)) (cs_seq (cs_if (ct_and (ct_test (ce_B od_lt ce_var (ce_c fun _ => .int _))) (ct_test (ce_B od_ge ce_var (ce_B od_shl (ce_c fun _ => .int _) ce_var)))) (cs_seq (cs_raise T.e_DecodeError.o T.e_DecodeError.n (by decide) (by decide) (by decide +kernel) (ca_cons (ce_c fun _ => .str _) (ca_cons ce_var ca_nil))) cs_nx) cs_nx) (cs_seq (cs_ret (ce_tup (ca_cons (ce_B od_add ce_var (ce_B od_shl ce_var ce_var)) (ca_cons (ce_B od_add ce_var (ce_c fun _ => .int _)) ca_nil)))) cs_nx))))
theorem sc_read_index : FnScope ["data", "place", "end"] ["data", "place", "end"] (defScope s_read_index) := ⟨rfl, rfl, rfl, by decide +kernel, rfl, by decide +kernel, by decide +kernel⟩
theorem ok_read_index {f : Addr} {fd : FuncData} {d_read_unsigned : FuncData} (F : Fun K "read_index" "read_index" s_read_index f fd) (T : Tx w K mg ad) (O_read_unsigned : DfX P w K mg base 5 "read_unsigned" (ad 3) d_read_unsigned ["data", "place", "end", "bits"] (SpD ⟨K, w, ad⟩ m_read_unsigned)) : FnOk P w K mg base (L2.CX P w) 6 f fd ["data", "place", "end"] (SpD ⟨K, w, ad⟩ m_read_index) := by
  refine ok_defV (l := 5) (n := 3) (k := 0) (b := b_read_index) F sc_read_index rfl rfl (fun cdv A outer s H E hr => ⟨_, (pss_cons (ps_ret (clS O_read_unsigned (hr.mono (by decide)) rfl (fun σ => passAt (takes_of rfl rfl rfl rfl) σ) (pa_cons (pv 0) (pa_cons (pv 1) (pa_cons (pv 2) (pa_cons pe_int pa_nil)))))) pss_nil), fun xo => ?_⟩)
  exact (cs_seq (cs_ret (ce_call (ca_cons ce_var (ca_cons ce_var (ca_cons ce_var (ca_cons (ce_c fun _ => .int _) ca_nil)))))) cs_nx)
theorem sc_character : FnScope ["code"] ["code"] (defScope s_character) := ⟨rfl, rfl, rfl, by decide +kernel, rfl, by decide +kernel, by decide +kernel⟩
theorem ok_character {f : Addr} {fd : FuncData} (F : Fun K "character" "character" s_character f fd) (T : Tx w K mg ad) : FnOk P w K mg base (L2.CX P w) 1 f fd ["code"] (SpD ⟨K, w, ad⟩ m_character) := by
  obtain ⟨v_CHARACTERS, u_CHARACTERS, g_CHARACTERS, r_CHARACTERS, k_CHARACTERS⟩ := T.g_CHARACTERS
  refine ok_defV (l := 0) (n := 1) (k := 0) (b := b_character) F sc_character rfl rfl (fun cdv A outer s H E hr => ⟨_, (pss_cons (ps_if (pt_chain or_le or_lt pe_int (pv 0) pe_int) (pss_cons (ps_ret (pe_ix (r := rIxX K w) ix_all (pe_ix (r := rIxX K w) ix_all (pe_glob rfl g_CHARACTERS r_CHARACTERS) pe_int (fun _ _ => rfl)) (pe_op op_sub (pv 0) pe_int) (fun _ _ => rfl))) pss_nil) pss_nil) (pss_cons (ps_if (pt_chain or_lt or_lt pe_int (pv 0) pe_int) (pss_cons (ps_ret (pe_ix (r := rIxX K w) ix_all (pe_ix (r := rIxX K w) ix_all (pe_glob rfl g_CHARACTERS r_CHARACTERS) pe_int (fun _ _ => rfl)) (pe_op op_sub (pv 0) pe_int) (fun _ _ => rfl))) pss_nil) pss_nil) (pss_cons (ps_ret pe_non) pss_nil))), fun xo => ?_⟩)
  exact (cs_seq (cs_if (ct_test (ce_chain od_le od_lt (ce_c fun _ => .int _) ce_var (ce_c fun _ => .int _))) (cs_seq (cs_ret (ce_B od_ix (ce_B od_ix (ce_c k_CHARACTERS) (ce_c fun _ => .int _)) (ce_B od_sub ce_var (ce_c fun _ => .int _)))) cs_nx) cs_nx) (cs_seq (cs_if (ct_test (ce_chain od_lt od_lt (ce_c fun _ => .int _) ce_var (ce_c fun _ => .int _))) (cs_seq (cs_ret (ce_B od_ix (ce_B od_ix (ce_c k_CHARACTERS) (ce_c fun _ => .int _)) (ce_B od_sub ce_var (ce_c fun _ => .int _)))) cs_nx) cs_nx) (cs_seq (cs_ret (ce_c fun _ => .non)) cs_nx)))
theorem sc_read_character : FnScope ["data", "place", "end", "found"] ["data", "place", "end"] (defScope s_read_character) := ⟨rfl, rfl, rfl, by decide +kernel, rfl, by decide +kernel, by decide +kernel⟩
theorem ok_read_character {f : Addr} {fd : FuncData} {d_byte_at : FuncData} {d_character : FuncData} {di_DecodeError : FuncData} (F : Fun K "read_character" "read_character" s_read_character f fd) (T : Tx w K mg ad) (O_byte_at : DfX P w K mg base 3 "byte_at" (ad 1) d_byte_at ["data", "place", "end"] (SpD ⟨K, w, ad⟩ m_byte_at)) (O_character : DfX P w K mg base 1 "character" (ad 5) d_character ["code"] (SpD ⟨K, w, ad⟩ m_character)) (O_init_DecodeError : InitN P w K mg base (ad 2001) di_DecodeError ["self", "reason", "place"] ["reason", "place"]) : FnOk P w K mg base (L2.CX P w) 4 f fd ["data", "place", "end"] (SpD ⟨K, w, ad⟩ m_read_character) := by
  refine ok_defV (l := 3) (n := 3) (k := 1) (b := b_read_character) F sc_read_character rfl rfl (fun cdv A outer s H E hr => ⟨_, (pss_cons (ps_set (i := 3) sc_read_character.nd rfl (Or.inl rfl) (clS O_character (hr.mono (by decide)) rfl (fun σ => passAt (takes_of rfl rfl rfl rfl) σ) (pa_cons (clS O_byte_at (hr.mono (by decide)) rfl (fun σ => passAt (takes_of rfl rfl rfl rfl) σ) (pa_cons (pv 0) (pa_cons (pv 1) (pa_cons (pv 2) pa_nil)))) pa_nil))) (pss_cons (ps_if (pt_cmpR op_isN (pv 3) pe_non (nomark _)) (pss_cons (ps_raise rfl (takes_of rfl rfl rfl rfl) (pmk_oex T.e_DecodeError.o T.e_DecodeError.i T.e_DecodeError.t O_init_DecodeError.ok (hr.mono (by decide)) O_init_DecodeError.b .nil pass0 rfl T.e_DecodeError.g (pa_cons pe_str (pa_cons (pv 1) pa_nil)))) pss_nil) pss_nil) (pss_cons (ps_ret (pe_tup (pa_cons (pv 3) (pa_cons (pe_op (r := Dm.rAdd K) or_add (pv 1) pe_int) pa_nil)))) pss_nil))), fun xo => ?_⟩)
  exact (cs_seq (cs_a (ce_call (ca_cons (ce_call (ca_cons ce_var (ca_cons ce_var (ca_cons ce_var ca_nil)))) ca_nil))) (cs_seq (cs_if (ct_test (ce_B od_is ce_var (ce_c fun _ => .non))) (cs_seq (cs_raise T.e_DecodeError.o T.e_DecodeError.n (by decide) (by decide) (by decide +kernel) (ca_cons (ce_c fun _ => .str _) (ca_cons ce_var ca_nil))) cs_nx) cs_nx) (cs_seq (cs_ret (ce_tup (ca_cons ce_var (ca_cons (ce_B od_add ce_var (ce_c fun _ => .int _)) ca_nil)))) cs_nx)))
theorem sc_read_items : FnScope ["data", "place", "end", "count", "read_item", "items", "_", "item"] ["data", "place", "end", "count", "read_item"] (defScope s_read_items) := ⟨rfl, rfl, rfl, by decide +kernel, rfl, by decide +kernel, by decide +kernel⟩
theorem ok_read_items {f : Addr} {fd : FuncData} {d_read_character : FuncData} (F : Fun K "read_items" "read_items" s_read_items f fd) (T : Tx w K mg ad) (O_read_character : DfX P w K mg base 4 "read_character" (ad 7) d_read_character ["data", "place", "end"] (SpD ⟨K, w, ad⟩ m_read_character)) : FnOk P w K mg base (L2.CX P w) 5 f fd ["data", "place", "end", "count", "read_item"] (SpD ⟨K, w, ad⟩ m_read_items) := by
  have A_ITEMS : ∀ f sp, STb ⟨K, w, ad⟩ tb_ITEMS f sp → HeldX P w K mg base 4 f sp := by
    rintro f sp ⟨n, m, rfl, h, rfl⟩
    unfold tb_ITEMS at h
    split at h
    · cases h; exact O_read_character.heldM (by decide)
    · cases h
  refine ok_defV (l := 4) (n := 5) (k := 3) (b := b_read_items) F sc_read_items rfl rfl (fun cdv A outer s H E hr => ⟨_, (pss_cons (ps_set (i := 5) sc_read_items.nd rfl (Or.inl rfl) (pe_lst pa_nil)) (pss_cons (ps_for (passes_of rfl) rfl (pi_range1 (by rfl) T.b_range (pa_cons (pv 3) pa_nil)) (pg_name (i := 6) sc_read_items.nd rfl (Or.inl rfl)) (pss_cons (ps_asg (pe_callRS (i := 4) (k := 4) (S := STb ⟨K, w, ad⟩ tb_ITEMS) A_ITEMS (hr.mono (by decide)) rfl (Or.inl rfl) (fun σ => passAt (takes_of rfl rfl rfl rfl) σ) (pa_cons (pv 0) (pa_cons (pv 1) (pa_cons (pv 2) pa_nil)))) (pg_tup rfl (pgs_cons (pg_name (i := 7) sc_read_items.nd rfl (Or.inl rfl)) (pgs_cons (pg_name (i := 1) sc_read_items.nd rfl (Or.inl rfl)) pgs_nil)))) (pss_cons (ps_expr (pe_bm PySem.F.plainAttrs_list PySem.F.slot_list_append PySem.F.type_list_append mt_append (pv 5) (pa_cons (pv 7) pa_nil))) pss_nil))) (pss_cons (ps_ret (pe_tup (pa_cons (pe_callTy (r := rTupS K) call_tuple_of (by rfl) T.b_tuple (by decide +kernel) (pa_cons (pv 5) pa_nil)) (pa_cons (pv 1) pa_nil)))) pss_nil))), fun xo => ?_⟩)
  exact (cs_seq (cs_o (cn_lst ca_nil)) (cs_seq (cs_for (ci_r1 (ca_cons ce_var ca_nil)) cg_name (cs_seq (cs_g (ce_P (ca_cons ce_var (ca_cons ce_var (ca_cons ce_var ca_nil)))) (cg_tup (cgs_cons cg_name (cgs_cons cg_name cgs_nil)))) (cs_seq (cs_app rfl ce_var) cs_nx))) (cs_seq (cs_frz 5 (cs_ret (ce_tup (ca_cons (ce_F cd_tuple (ca_cons ce_var ca_nil)) (ca_cons ce_var ca_nil))))) cs_nx)))
theorem sc_read_name : FnScope ["data", "place", "end", "count", "chars"] ["data", "place", "end"] (defScope s_read_name) := ⟨rfl, rfl, rfl, by decide +kernel, rfl, by decide +kernel, by decide +kernel⟩
theorem ok_read_name {f : Addr} {fd : FuncData} {d_read_index : FuncData} {d_read_items : FuncData} {d_read_character : FuncData} {di_DecodeError : FuncData} (F : Fun K "read_name" "read_name" s_read_name f fd) (T : Tx w K mg ad) (O_read_index : DfX P w K mg base 6 "read_index" (ad 4) d_read_index ["data", "place", "end"] (SpD ⟨K, w, ad⟩ m_read_index)) (O_read_items : DfX P w K mg base 5 "read_items" (ad 6) d_read_items ["data", "place", "end", "count", "read_item"] (SpD ⟨K, w, ad⟩ m_read_items)) (O_read_character : DfX P w K mg base 4 "read_character" (ad 7) d_read_character ["data", "place", "end"] (SpD ⟨K, w, ad⟩ m_read_character)) (O_init_DecodeError : InitN P w K mg base (ad 2001) di_DecodeError ["self", "reason", "place"] ["reason", "place"]) : FnOk P w K mg base (L2.CX P w) 7 f fd ["data", "place", "end"] (SpD ⟨K, w, ad⟩ m_read_name) := by
  obtain ⟨v_MOST_CHARACTERS, u_MOST_CHARACTERS, g_MOST_CHARACTERS, r_MOST_CHARACTERS, k_MOST_CHARACTERS⟩ := T.g_MOST_CHARACTERS
  refine ok_defV (l := 6) (n := 3) (k := 2) (b := b_read_name) F sc_read_name rfl rfl (fun cdv A outer s H E hr => ⟨_, (pss_cons (ps_asg (clS O_read_index (hr.mono (by decide)) rfl (fun σ => passAt (takes_of rfl rfl rfl rfl) σ) (pa_cons (pv 0) (pa_cons (pv 1) (pa_cons (pv 2) pa_nil)))) (pg_tup rfl (pgs_cons (pg_name (i := 3) sc_read_name.nd rfl (Or.inl rfl)) (pgs_cons (pg_name (i := 1) sc_read_name.nd rfl (Or.inl rfl)) pgs_nil)))) (pss_cons (ps_if (pt_cmpR or_gt (pv 3) (pe_glob rfl g_MOST_CHARACTERS r_MOST_CHARACTERS) (nomark _)) (pss_cons (ps_raise rfl (takes_of rfl rfl rfl rfl) (pmk_oex T.e_DecodeError.o T.e_DecodeError.i T.e_DecodeError.t O_init_DecodeError.ok (hr.mono (by decide)) O_init_DecodeError.b .nil pass0 rfl T.e_DecodeError.g (pa_cons pe_str (pa_cons (pv 1) pa_nil)))) pss_nil) pss_nil) (pss_cons (ps_asg (clS O_read_items (hr.mono (by decide)) rfl (fun σ => passAt (takes_of rfl rfl rfl rfl) σ) (pa_cons (pv 0) (pa_cons (pv 1) (pa_cons (pv 2) (pa_cons (pv 3) (pa_cons (pe_glob (v := .ref _) rfl O_read_character.g rfl) pa_nil)))))) (pg_tup rfl (pgs_cons (pg_name (i := 4) sc_read_name.nd rfl (Or.inl rfl)) (pgs_cons (pg_name (i := 1) sc_read_name.nd rfl (Or.inl rfl)) pgs_nil)))) (pss_cons (ps_ret (pe_tup (pa_cons (pe_bm (r := rJoin K) PySem.F.plainAttrs_str PySem.F.slot_str_join PySem.F.type_str_join mt_join pe_str (pa_cons (pv 4) pa_nil)) (pa_cons (pv 1) pa_nil)))) pss_nil)))), fun xo => ?_⟩)
  exact (cs_seq (cs_g (ce_call (ca_cons ce_var (ca_cons ce_var (ca_cons ce_var ca_nil)))) (cg_tup (cgs_cons cg_name (cgs_cons cg_name cgs_nil)))) (cs_seq (cs_if (ct_test (ce_B od_gt ce_var (ce_c k_MOST_CHARACTERS))) (cs_seq (cs_raise T.e_DecodeError.o T.e_DecodeError.n (by decide) (by decide) (by decide +kernel) (ca_cons (ce_c fun _ => .str _) (ca_cons ce_var ca_nil))) cs_nx) cs_nx) (cs_seq (cs_g (ce_call (ca_cons ce_var (ca_cons ce_var (ca_cons ce_var (ca_cons ce_var (ca_cons (ce_c fun _ => .fn 7) ca_nil)))))) (cg_tup (cgs_cons cg_name (cgs_cons cg_name cgs_nil)))) (cs_seq (cs_ret (ce_tup (ca_cons (ce_M (t := .str) md_join (Or.inl rfl) (ce_c fun _ => .str _) (ca_cons ce_var ca_nil)) (ca_cons ce_var ca_nil)))) cs_nx))))
theorem sc_write_sized : FnScope ["content"] ["content"] (defScope s_write_sized) := ⟨rfl, rfl, rfl, by decide +kernel, rfl, by decide +kernel, by decide +kernel⟩
theorem ok_write_sized {f : Addr} {fd : FuncData} {d_write_unsigned : FuncData} (F : Fun K "write_sized" "write_sized" s_write_sized f fd) (T : Tx w K mg ad) (O_write_unsigned : DfX P w K mg base 1 "write_unsigned" (ad 0) d_write_unsigned ["number"] (SpD ⟨K, w, ad⟩ m_write_unsigned)) : FnOk P w K mg base (L2.CX P w) 2 f fd ["content"] (SpD ⟨K, w, ad⟩ m_write_sized) := by
  refine ok_defV (l := 1) (n := 1) (k := 0) (b := b_write_sized) F sc_write_sized rfl rfl (fun cdv A outer s H E hr => ⟨_, (pss_cons (ps_ret (pe_op (r := Dm.rAdd K) or_add (clS O_write_unsigned (hr.mono (by decide)) rfl (fun σ => passAt (takes_of rfl rfl rfl rfl) σ) (pa_cons (pe_callB (r := rLenX K) cr_len (by rfl) T.b_len (by decide +kernel) (pa_cons (pv 0) pa_nil)) pa_nil)) (pv 0))) pss_nil), fun xo => ?_⟩)
  exact (cs_seq (cs_ret (ce_B od_add (ce_call (ca_cons (ce_F cd_len (ca_cons ce_var ca_nil)) ca_nil)) ce_var)) cs_nx)
theorem sc_write_name : FnScope ["name", "char"] ["name"] (defScope s_write_name) := ⟨rfl, rfl, rfl, by decide +kernel, rfl, by decide +kernel, by decide +kernel⟩
theorem ok_write_name {f : Addr} {fd : FuncData} {d_write_sized : FuncData} (F : Fun K "write_name" "write_name" s_write_name f fd) (T : Tx w K mg ad) (O_write_sized : DfX P w K mg base 2 "write_sized" (ad 9) d_write_sized ["content"] (SpD ⟨K, w, ad⟩ m_write_sized)) : FnOk P w K mg base (L2.CX P w) 3 f fd ["name"] (SpD ⟨K, w, ad⟩ m_write_name) := by
  refine ok_defV (l := 2) (n := 1) (k := 1) (b := b_write_name) F sc_write_name rfl rfl (fun cdv A outer s H E hr => ⟨_, (pss_cons (ps_ret (clS O_write_sized (hr.mono (by decide)) rfl (fun σ => passAt (takes_of rfl rfl rfl rfl) σ) (pa_cons (pe_lc (own := [("char", 1)]) (tt := tYes) rfl sc_write_name.nd (pi_str (pv 0)) (blkOk_by (N := ["name", "char"]) (sc := defScope s_write_name) (by decide +kernel)) (fun _ _ _ _ _ => (pg_name (i := 1) sc_write_name.nd rfl (Or.inl rfl))) (fun _ _ _ _ _ => pts_nil) (fun _ _ _ _ _ => (pe_callB call_ord (by rfl) T.b_ord (by decide +kernel) (pa_cons (pv 1) pa_nil)))) pa_nil))) pss_nil), fun xo => ?_⟩)
  exact (cs_seq (cs_ret (ce_call (ca_cons (ce_L (cn_lc (ci_str ce_var) cg_name (by decide) ct_yes (ce_F cd_ord (ca_cons ce_var ca_nil)))) ca_nil))) cs_nx)
theorem sc_l_mixed : FnScope ["_law_cell", "_law_seed", "_law_number", "_law_k"] ["_law_cell"] (defScope s_l_mixed) := ⟨rfl, rfl, rfl, by decide +kernel, rfl, by decide +kernel, by decide +kernel⟩
theorem ok_l_mixed {f : Addr} {fd : FuncData} (F : Fun K "_law_mixed" "_law_mixed" s_l_mixed f fd) (T : Tx w K mg ad) : FnOk P w K mg base (L2.CX P w) 1 f fd ["_law_cell"] (SpD ⟨K, w, ad⟩ m_l_mixed) := by
  refine ok_defV (l := 0) (n := 1) (k := 3) (b := b_l_mixed) F sc_l_mixed rfl rfl (fun cdv A outer s H E hr => ⟨_, (pss_cons (ps_set (i := 1) sc_l_mixed.nd rfl (Or.inl rfl) (pe_op op_mod (pe_callTy (r := rInt1) call_int1 (by rfl) T.b_int (by decide +kernel) (pa_cons (pv 0) pa_nil)) pe_int)) (pss_cons (ps_set (i := 2) sc_l_mixed.nd rfl (Or.inl rfl) pe_int) (pss_cons (ps_for (passes_of rfl) rfl (pi_range1 (by rfl) T.b_range (pa_cons pe_int pa_nil)) (pg_name (i := 3) sc_l_mixed.nd rfl (Or.inl rfl)) (pss_cons (ps_set (i := 1) sc_l_mixed.nd rfl (Or.inl rfl) (pe_op op_mod (pe_callTy (r := rInt1) call_int1 (by rfl) T.b_int (by decide +kernel) (pa_cons (pe_op (r := Dm.rAdd K) or_add (pe_op (r := Dm.rAdd K) or_add (pe_op or_mul (pv 1) pe_int) pe_int) (pe_op or_mul pe_int (pv 3))) pa_nil)) pe_int)) (pss_cons (ps_set (i := 2) sc_l_mixed.nd rfl (Or.inl rfl) (pe_op (r := Dm.rAdd K) or_add (pe_op or_mul (pv 2) pe_int) (pv 1))) pss_nil))) (pss_cons (ps_ret (pv 2)) pss_nil)))), fun xo => ?_⟩)
  exact (cs_seq (cs_a (ce_B od_mod (ce_F cd_int (ca_cons ce_var ca_nil)) (ce_c fun _ => .int _))) (cs_seq (cs_a (ce_c fun _ => .int _)) (cs_seq (cs_for (ci_r1 (ca_cons (ce_c fun _ => .int _) ca_nil)) cg_name (cs_seq (cs_a (ce_B od_mod (ce_F cd_int (ca_cons (ce_B od_add (ce_B od_add (ce_B od_mul ce_var (ce_c fun _ => .int _)) (ce_c fun _ => .int _)) (ce_B od_mul (ce_c fun _ => .int _) ce_var)) ca_nil)) (ce_c fun _ => .int _))) (cs_seq (cs_a (ce_B od_add (ce_B od_mul ce_var (ce_c fun _ => .int _)) ce_var)) cs_nx))) (cs_seq (cs_ret ce_var) cs_nx))))
theorem sc_l_take : FnScope ["_law_state", "_law_limit", "_law_cell", "_law_digit"] ["_law_state", "_law_limit"] (defScope s_l_take) := ⟨rfl, rfl, rfl, by decide +kernel, rfl, by decide +kernel, by decide +kernel⟩
theorem ok_l_take {f : Addr} {fd : FuncData} {d_l_mixed : FuncData} (F : Fun K "_law_take" "_law_take" s_l_take f fd) (T : Tx w K mg ad) (O_l_mixed : DfX P w K mg base 1 "_law_mixed" (ad 11) d_l_mixed ["_law_cell"] (SpD ⟨K, w, ad⟩ m_l_mixed)) : FnOk P w K mg base (L2.CX P w) 2 f fd ["_law_state", "_law_limit"] (SpD ⟨K, w, ad⟩ m_l_take) := by
  refine ok_defV (l := 1) (n := 2) (k := 2) (b := b_l_take) F sc_l_take rfl rfl (fun cdv A outer s H E hr => ⟨_, (pss_cons (ps_if (PW.pt (pw_and (pt_cmpR or_lt (pe_ix (r := rIxX K w) ix_all (pv 0) pe_int (fun _ _ => rfl)) (pv 1) (nomark _)) (pw_and1 (pt_cmpR or_gt (pe_callB (r := rLenX K) cr_len (by rfl) T.b_len (by decide +kernel) (pa_cons (pe_ix (r := rIxX K w) ix_all (pv 0) pe_int (fun _ _ => rfl)) pa_nil)) pe_int (nomark _))))) (pss_cons (ps_set (i := 2) sc_l_take.nd rfl (Or.inl rfl) (pe_callB (r := rAbs1) call_abs (by rfl) T.b_abs (by decide +kernel) (pa_cons (pe_callTy (r := rInt1) call_int1 (by rfl) T.b_int (by decide +kernel) (pa_cons (pe_bm (r := rPopAt) PySem.F.plainAttrs_list PySem.F.slot_list_pop PySem.F.type_list_pop mt_popAt (pe_ix (r := rIxX K w) ix_all (pv 0) pe_int (fun _ _ => rfl)) (pa_cons pe_int pa_nil)) pa_nil)) pa_nil))) (pss_cons (ps_if (pt_cmpR or_lt (pv 2) (pe_op op_pow pe_int pe_int) (nomark _)) (pss_cons (ps_set (i := 2) sc_l_take.nd rfl (Or.inl rfl) (clS O_l_mixed (hr.mono (by decide)) rfl (fun σ => passAt (takes_of rfl rfl rfl rfl) σ) (pa_cons (pv 2) pa_nil))) pss_nil) pss_nil) (pss_cons (ps_asg (pv 2) (pg_sub (pv 0) pe_int set_list)) pss_nil))) pss_nil) (pss_cons (ps_set (i := 3) sc_l_take.nd rfl (Or.inl rfl) (pe_op op_mod (pe_callTy (r := rInt1) call_int1 (by rfl) T.b_int (by decide +kernel) (pa_cons (pe_ix (r := rIxX K w) ix_all (pv 0) pe_int (fun _ _ => rfl)) pa_nil)) (pv 1))) (pss_cons (ps_asg (pe_op op_fdivW (pe_ix (r := rIxX K w) ix_all (pv 0) pe_int (fun _ _ => rfl)) (pv 1)) (pg_sub (pv 0) pe_int set_list)) (pss_cons (ps_ret (pv 3)) pss_nil)))), fun xo => ?_⟩)
  exact (cs_seq (cs_if (ct_and (ct_test (ce_B od_lt (ce_B od_ix ce_var (ce_c fun _ => .int _)) ce_var)) (ct_test (ce_B od_gt (ce_F cd_len (ca_cons (ce_B od_ix ce_var (ce_c fun _ => .int _)) ca_nil)) (ce_c fun _ => .int _)))) (cs_seq (cs_a (ce_F cd_abs (ca_cons (ce_F cd_int (ca_cons (ce_MM md_pop0 (ce_B od_ix ce_var (ce_c fun _ => .int _)) (ca_cons (ce_c fun _ => .int _) ca_nil)) ca_nil)) ca_nil))) (cs_seq (cs_if (ct_test (ce_B od_lt ce_var (ce_B od_pow (ce_c fun _ => .int _) (ce_c fun _ => .int _)))) (cs_seq (cs_a (ce_call (ca_cons ce_var ca_nil))) cs_nx) cs_nx) (cs_seq (cs_mset ce_var (ce_c fun _ => .int _) ce_var) cs_nx))) cs_nx) (cs_seq (cs_a (ce_B od_mod (ce_F cd_int (ca_cons (ce_B od_ix ce_var (ce_c fun _ => .int _)) ca_nil)) ce_var)) (cs_seq (cs_mset ce_var (ce_c fun _ => .int _) (ce_B od_div (ce_B od_ix ce_var (ce_c fun _ => .int _)) ce_var)) (cs_seq (cs_ret ce_var) cs_nx))))
theorem sc_l_char : FnScope ["_law_number", "_law_chars"] ["_law_number"] (defScope s_l_char) := ⟨rfl, rfl, rfl, by decide +kernel, rfl, by decide +kernel, by decide +kernel⟩
theorem ok_l_char {f : Addr} {fd : FuncData} (F : Fun K "_law_char" "_law_char" s_l_char f fd) (T : Tx w K mg ad) : FnOk P w K mg base (L2.CX P w) 1 f fd ["_law_number"] (SpD ⟨K, w, ad⟩ m_l_char) := by
  refine ok_defV (l := 0) (n := 1) (k := 1) (b := b_l_char) F sc_l_char rfl rfl (fun cdv A outer s H E hr => ⟨_, (pss_cons (ps_set (i := 1) sc_l_char.nd rfl (Or.inl rfl) pe_str) (pss_cons (ps_set (i := 1) sc_l_char.nd rfl (Or.inl rfl) (pe_op (r := Dm.rAdd K) or_add (pv 1) pe_str)) (pss_cons (ps_ret (pe_ix (r := rIxX K w) ix_all (pv 1) (pv 0) (fun _ _ => rfl))) pss_nil))), fun xo => ?_⟩)
  exact (cs_seq (cs_a (ce_c fun _ => .str _)) (cs_seq (cs_a (ce_B od_add ce_var (ce_c fun _ => .str _))) (cs_seq (cs_ret (ce_B od_ix ce_var ce_var)) cs_nx)))
theorem sc_l_name : FnScope ["_law_state", "_law_size", "_law_k"] ["_law_state"] (defScope s_l_name) := ⟨rfl, rfl, rfl, by decide +kernel, rfl, by decide +kernel, by decide +kernel⟩
theorem ok_l_name {f : Addr} {fd : FuncData} {d_l_take : FuncData} {d_l_char : FuncData} (F : Fun K "_law_name" "_law_name" s_l_name f fd) (T : Tx w K mg ad) (O_l_take : DfX P w K mg base 2 "_law_take" (ad 12) d_l_take ["_law_state", "_law_limit"] (SpD ⟨K, w, ad⟩ m_l_take)) (O_l_char : DfX P w K mg base 1 "_law_char" (ad 13) d_l_char ["_law_number"] (SpD ⟨K, w, ad⟩ m_l_char)) : FnOk P w K mg base (L2.CX P w) 3 f fd ["_law_state"] (SpD ⟨K, w, ad⟩ m_l_name) := by
  refine ok_defV (l := 2) (n := 1) (k := 2) (b := b_l_name) F sc_l_name rfl rfl (fun cdv A outer s H E hr => ⟨_, (pss_cons (ps_set (i := 1) sc_l_name.nd rfl (Or.inl rfl) (clS O_l_take (hr.mono (by decide)) rfl (fun σ => passAt (takes_of rfl rfl rfl rfl) σ) (pa_cons (pv 0) (pa_cons pe_int pa_nil)))) (pss_cons (ps_if (pt_cmpR (r := rEqX K) (or_eq hr.units) (clS O_l_take (hr.mono (by decide)) rfl (fun σ => passAt (takes_of rfl rfl rfl rfl) σ) (pa_cons (pv 0) (pa_cons pe_int pa_nil))) pe_int (nomark _)) (pss_cons (ps_set (i := 1) sc_l_name.nd rfl (Or.inl rfl) (clS O_l_take (hr.mono (by decide)) rfl (fun σ => passAt (takes_of rfl rfl rfl rfl) σ) (pa_cons (pv 0) (pa_cons pe_int pa_nil)))) pss_nil) pss_nil) (pss_cons (ps_ret (pe_bm (r := rJoin K) PySem.F.plainAttrs_str PySem.F.slot_str_join PySem.F.type_str_join mt_join pe_str (pa_cons (pe_lc (own := [("_law_k", 2)]) (tt := tYes) rfl sc_l_name.nd (pi_range1 (by rfl) T.b_range (pa_cons (pv 1) pa_nil)) (blkOk_by (N := ["_law_state", "_law_size", "_law_k"]) (sc := defScope s_l_name) (by decide +kernel)) (fun _ _ _ _ _ => (pg_name (i := 2) sc_l_name.nd rfl (Or.inl rfl))) (fun _ _ _ _ _ => pts_nil) (fun _ _ _ _ _ => (clS O_l_char (hr.mono (by decide)) rfl (fun σ => passAt takes0 σ) (pa_cons (clS O_l_take (hr.mono (by decide)) rfl (fun σ => passAt takes0 σ) (pa_cons (pv 0) (pa_cons pe_int pa_nil))) pa_nil)))) pa_nil))) pss_nil))), fun xo => ?_⟩)
  exact (cs_seq (cs_a (ce_call (ca_cons ce_var (ca_cons (ce_c fun _ => .int _) ca_nil)))) (cs_seq (cs_if (ct_test (ce_B od_eq (ce_call (ca_cons ce_var (ca_cons (ce_c fun _ => .int _) ca_nil))) (ce_c fun _ => .int _))) (cs_seq (cs_a (ce_call (ca_cons ce_var (ca_cons (ce_c fun _ => .int _) ca_nil)))) cs_nx) cs_nx) (cs_seq (cs_ret (ce_M (t := .str) md_join (Or.inl rfl) (ce_c fun _ => .str _) (ca_cons (ce_L (cn_lc (ci_r1 (ca_cons ce_var ca_nil)) cg_name (by decide) ct_yes (ce_call (ca_cons (ce_call (ca_cons ce_var (ca_cons (ce_c fun _ => .int _) ca_nil))) ca_nil)))) ca_nil))) cs_nx)))
theorem sc_l_is_bytes : FnScope ["_law_data", "_law_byte"] ["_law_data"] (defScope s_l_is_bytes) := ⟨rfl, rfl, rfl, by decide +kernel, rfl, by decide +kernel, by decide +kernel⟩
theorem ok_l_is_bytes {f : Addr} {fd : FuncData} (F : Fun K "_law_is_bytes" "_law_is_bytes" s_l_is_bytes f fd) (T : Tx w K mg ad) : FnOk P w K mg base (L2.CX P w) 1 f fd ["_law_data"] (SpD ⟨K, w, ad⟩ m_l_is_bytes) := by
  refine ok_defV (l := 0) (n := 1) (k := 1) (b := b_l_is_bytes) F sc_l_is_bytes rfl rfl (fun cdv A outer s H E hr => ⟨_, (pss_cons (ps_if (pt_not (pt_val (pe_callB (r := rIsi K) call_isi (by rfl) T.b_isinstance (by decide +kernel) (pa_cons (pv 0) (pa_cons (pe_bltn (v := .ty "list") (by rfl) T.b_list (by decide +kernel) rfl) pa_nil))))) (pss_cons (ps_ret pe_bl) pss_nil) pss_nil) (pss_cons (ps_for (passes_of rfl) rfl (pi_list (pv 0)) (pg_name (i := 1) sc_l_is_bytes.nd rfl (Or.inl rfl)) (pss_cons (ps_if (PW.pt (pw_or (pt_not (pt_val (pe_callB (r := rIsi K) call_isi (by rfl) T.b_isinstance (by decide +kernel) (pa_cons (pv 1) (pa_cons (pe_bltn (v := .ty "int") (by rfl) T.b_int (by decide +kernel) rfl) pa_nil))))) (pw_or (pt_val (pe_callB (r := rIsi K) call_isi (by rfl) T.b_isinstance (by decide +kernel) (pa_cons (pv 1) (pa_cons (pe_bltn (v := .ty "bool") (by rfl) T.b_bool (by decide +kernel) rfl) pa_nil)))) (pw_or (pt_cmpR or_lt (pv 1) pe_int (nomark _)) (pw_or1 (pt_cmpR or_gt (pv 1) pe_int (nomark _))))))) (pss_cons (ps_ret pe_bl) pss_nil) pss_nil) pss_nil)) (pss_cons (ps_ret pe_bl) pss_nil))), fun xo => ?_⟩)
  exact (cs_seq (cs_if (ct_not (ct_B (ce_isi .list ce_var))) (cs_seq (cs_ret (ce_c fun _ => .bl _)) cs_nx) cs_nx) (cs_seq (cs_for (ci_list ce_var) cg_name (cs_seq (cs_if (ct_or (ct_not (ct_B (ce_isi .int ce_var))) (ct_or (ct_B (ce_isi .bool ce_var)) (ct_or (ct_test (ce_B od_lt ce_var (ce_c fun _ => .int _))) (ct_test (ce_B od_gt ce_var (ce_c fun _ => .int _)))))) (cs_seq (cs_ret (ce_c fun _ => .bl _)) cs_nx) cs_nx) cs_nx)) (cs_seq (cs_ret (ce_c fun _ => .bl _)) cs_nx)))
theorem sc_l_due : FnScope ["_law_data", "_law_place", "_law_end", "_law_count", "_law_after", "_law_name_here", "_law_k", "_law_code"] ["_law_data", "_law_place", "_law_end"] (defScope s_l_due) := ⟨rfl, rfl, rfl, by decide +kernel, rfl, by decide +kernel, by decide +kernel⟩
theorem ok_l_due {f : Addr} {fd : FuncData} {d_l_char : FuncData} (F : Fun K "_law_due" "_law_due" s_l_due f fd) (T : Tx w K mg ad) (O_l_char : DfX P w K mg base 1 "_law_char" (ad 13) d_l_char ["_law_number"] (SpD ⟨K, w, ad⟩ m_l_char)) : FnOk P w K mg base (L2.CX P w) 2 f fd ["_law_data", "_law_place", "_law_end"] (SpD ⟨K, w, ad⟩ m_l_due) := by
  refine ok_defV (l := 1) (n := 3) (k := 5) (b := b_l_due) F sc_l_due rfl rfl (fun cdv A outer s H E hr => ⟨_, (pss_cons (ps_if (pt_cmpR or_ge (pv 1) (pv 2) (nomark _)) (pss_cons (ps_ret (pe_tup (pa_cons pe_str (pa_cons (pv 2) pa_nil)))) pss_nil) pss_nil) (pss_cons (ps_set (i := 3) sc_l_due.nd rfl (Or.inl rfl) (pe_ix (r := rIxX K w) ix_all (pv 0) (pv 1) (fun _ _ => rfl))) (pss_cons (ps_set (i := 4) sc_l_due.nd rfl (Or.inl rfl) (pe_op (r := Dm.rAdd K) or_add (pv 1) pe_int)) (pss_cons (ps_if (pt_cmpR or_gt (pv 3) pe_int (nomark _)) (pss_cons (ps_if (pt_cmpR or_ge (pv 4) (pv 2) (nomark _)) (pss_cons (ps_ret (pe_tup (pa_cons pe_str (pa_cons (pv 2) pa_nil)))) pss_nil) pss_nil) (pss_cons (ps_if (pt_cmpR or_gt (pe_ix (r := rIxX K w) ix_all (pv 0) (pv 4) (fun _ _ => rfl)) pe_int (nomark _)) (pss_cons (ps_ret pe_non) pss_nil) pss_nil) (pss_cons (ps_set (i := 3) sc_l_due.nd rfl (Or.inl rfl) (pe_op (r := Dm.rAdd K) or_add (pe_op op_sub (pv 3) pe_int) (pe_op or_mul pe_int (pe_ix (r := rIxX K w) ix_all (pv 0) (pv 4) (fun _ _ => rfl))))) (pss_cons (ps_set (i := 4) sc_l_due.nd rfl (Or.inl rfl) (pe_op (r := Dm.rAdd K) or_add (pv 4) pe_int)) pss_nil)))) pss_nil) (pss_cons (ps_if (pt_cmpR or_gt (pv 3) pe_int (nomark _)) (pss_cons (ps_ret (pe_tup (pa_cons pe_str (pa_cons (pv 4) pa_nil)))) pss_nil) pss_nil) (pss_cons (ps_set (i := 5) sc_l_due.nd rfl (Or.inl rfl) pe_str) (pss_cons (ps_for (passes_of rfl) rfl (pi_range1 (by rfl) T.b_range (pa_cons (pv 3) pa_nil)) (pg_name (i := 6) sc_l_due.nd rfl (Or.inl rfl)) (pss_cons (ps_if (pt_cmpR or_ge (pe_op (r := Dm.rAdd K) or_add (pv 4) (pv 6)) (pv 2) (nomark _)) (pss_cons (ps_ret (pe_tup (pa_cons pe_str (pa_cons (pv 2) pa_nil)))) pss_nil) pss_nil) (pss_cons (ps_set (i := 7) sc_l_due.nd rfl (Or.inl rfl) (pe_ix (r := rIxX K w) ix_all (pv 0) (pe_op (r := Dm.rAdd K) or_add (pv 4) (pv 6)) (fun _ _ => rfl))) (pss_cons (ps_if (PW.pt (pw_or (pt_cmpR or_lt (pv 7) pe_int (nomark _)) (pw_or (pt_cmpR or_gt (pv 7) pe_int (nomark _)) (pw_or1 (pt_cmpR (r := rEqX K) (or_eq hr.units) (pv 7) pe_int (nomark _)))))) (pss_cons (ps_ret (pe_tup (pa_cons pe_str (pa_cons (pe_op (r := Dm.rAdd K) or_add (pv 4) (pv 6)) pa_nil)))) pss_nil) pss_nil) (pss_cons (ps_set (i := 5) sc_l_due.nd rfl (Or.inl rfl) (pe_op (r := Dm.rAdd K) or_add (pv 5) (clS O_l_char (hr.mono (by decide)) rfl (fun σ => passAt (takes_of rfl rfl rfl rfl) σ) (pa_cons (pe_op op_sub (pe_op op_sub (pv 7) pe_int) (pe_callTy (r := rInt1) call_int1 (by rfl) T.b_int (by decide +kernel) (pa_cons (pe_cmpR or_gt (pv 7) pe_int (nomark _)) pa_nil))) pa_nil)))) pss_nil))))) (pss_cons (ps_ret (pe_tup (pa_cons (pv 5) (pa_cons (pe_op (r := Dm.rAdd K) or_add (pv 4) (pv 3)) pa_nil)))) pss_nil)))))))), fun xo => ?_⟩)
  exact (cs_seq (cs_if (ct_test (ce_B od_ge ce_var ce_var)) (cs_seq (cs_ret (ce_tup (ca_cons (ce_c fun _ => .str _) (ca_cons ce_var ca_nil)))) cs_nx) cs_nx) (cs_seq (cs_a (ce_B od_ix ce_var ce_var)) (cs_seq (cs_a (ce_B od_add ce_var (ce_c fun _ => .int _))) (cs_seq (cs_if (ct_test (ce_B od_gt ce_var (ce_c fun _ => .int _))) (cs_seq (cs_if (ct_test (ce_B od_ge ce_var ce_var)) (cs_seq (cs_ret (ce_tup (ca_cons (ce_c fun _ => .str _) (ca_cons ce_var ca_nil)))) cs_nx) cs_nx) (cs_seq (cs_if (ct_test (ce_B od_gt (ce_B od_ix ce_var ce_var) (ce_c fun _ => .int _))) (cs_seq (cs_ret (ce_c fun _ => .non)) cs_nx) cs_nx) (cs_seq (cs_a (ce_B od_add (ce_B od_sub ce_var (ce_c fun _ => .int _)) (ce_B od_mul (ce_c fun _ => .int _) (ce_B od_ix ce_var ce_var)))) (cs_seq (cs_a (ce_B od_add ce_var (ce_c fun _ => .int _))) cs_nx)))) cs_nx) (cs_seq (cs_if (ct_test (ce_B od_gt ce_var (ce_c fun _ => .int _))) (cs_seq (cs_ret (ce_tup (ca_cons (ce_c fun _ => .str _) (ca_cons ce_var ca_nil)))) cs_nx) cs_nx) (cs_seq (cs_a (ce_c fun _ => .str _)) (cs_seq (cs_for (ci_r1 (ca_cons ce_var ca_nil)) cg_name (cs_seq (cs_if (ct_test (ce_B od_ge (ce_B od_add ce_var ce_var) ce_var)) (cs_seq (cs_ret (ce_tup (ca_cons (ce_c fun _ => .str _) (ca_cons ce_var ca_nil)))) cs_nx) cs_nx) (cs_seq (cs_a (ce_B od_ix ce_var (ce_B od_add ce_var ce_var))) (cs_seq (cs_if (ct_or (ct_test (ce_B od_lt ce_var (ce_c fun _ => .int _))) (ct_or (ct_test (ce_B od_gt ce_var (ce_c fun _ => .int _))) (ct_test (ce_B od_eq ce_var (ce_c fun _ => .int _))))) (cs_seq (cs_ret (ce_tup (ca_cons (ce_c fun _ => .str _) (ca_cons (ce_B od_add ce_var ce_var) ca_nil)))) cs_nx) cs_nx) (cs_seq (cs_a (ce_B od_add ce_var (ce_call (ca_cons (ce_B od_sub (ce_B od_sub ce_var (ce_c fun _ => .int _)) (ce_F cd_int (ca_cons (ce_B od_gt ce_var (ce_c fun _ => .int _)) ca_nil))) ca_nil)))) cs_nx))))) (cs_seq (cs_ret (ce_tup (ca_cons ce_var (ca_cons (ce_B od_add ce_var ce_var) ca_nil)))) cs_nx))))))))
theorem sc_l_told : FnScope ["_law_data", "_law_place", "_law_end", "e"] ["_law_data", "_law_place", "_law_end"] (defScope s_l_told) := ⟨rfl, rfl, rfl, by decide +kernel, rfl, by decide +kernel, by decide +kernel⟩
theorem ok_l_told {f : Addr} {fd : FuncData} {d_read_name : FuncData} (F : Fun K "_law_told" "_law_told" s_l_told f fd) (T : Tx w K mg ad) (O_read_name : DfX P w K mg base 7 "read_name" (ad 8) d_read_name ["data", "place", "end"] (SpD ⟨K, w, ad⟩ m_read_name)) : FnOk P w K mg base (L2.CX P w) 8 f fd ["_law_data", "_law_place", "_law_end"] (SpD ⟨K, w, ad⟩ m_l_told) := by
  refine ok_defV (l := 7) (n := 3) (k := 1) (b := b_l_told) F sc_l_told rfl rfl (fun cdv A outer s H E hr => ⟨_, (pss_cons (ps_try_as (i := 3) (c := .ref (ad 1000)) (Wout := (WF E)) rfl rfl sc_l_told.nd rfl rfl ⟨rfl, by decide, Or.inl T.n_HostError⟩ (takes_of rfl rfl rfl rfl) (fun W pn xe tk po => (pss_cons (ps_ret (clS O_read_name (hr.mono (by decide)) rfl (fun σ => passAt tk σ) (pa_cons (pv 0) (pa_cons (pv 1) (pa_cons (pv 2) pa_nil))))) pss_nil)) (fun a oe cls d pn hz hf => (pss_cons (ps_if (pt_val (pe_callB (call_isX hz hf) (by rfl) T.b_isinstance (by decide +kernel) (pa_cons (pv 3) (pa_cons (pe_glob (v := .ref _) rfl T.n_DecodeError rfl) pa_nil)))) (pss_cons (ps_ret (pe_tup (pa_cons (pe_xf T.e_DecodeError.xf (T.e_DecodeError.n _ (by simp)) hz hf (pv 3)) (pa_cons (pe_xf T.e_DecodeError.xf (T.e_DecodeError.n _ (by simp)) hz hf (pv 3)) pa_nil)))) pss_nil) pss_nil) (pss_cons (ps_ret pe_non) pss_nil)))) pss_nil), fun xo => ?_⟩)
  exact (cs_seq (cs_try (hx_HostError T) (fun W2 => (cs_seq (cs_ret (ce_call (ca_cons ce_var (ca_cons ce_var (ca_cons ce_var ca_nil))))) cs_nx)) (fun a cls d => (cs_seq (cs_if (ct_B (ce_isx (.own _) (hy_DecodeError T))) (cs_seq (cs_ret (ce_tup (ca_cons ce_xf (ca_cons ce_xf ca_nil)))) cs_nx) cs_nx) (cs_seq (cs_ret (ce_c fun _ => .non)) cs_nx)))) cs_nx)
theorem sc_l_right : FnScope ["_law_data", "_law_place", "_law_end", "_law_due_here", "_law_passed", "_law_told_here"] ["_law_data", "_law_place", "_law_end"] (defScope s_l_right) := ⟨rfl, rfl, rfl, by decide +kernel, rfl, by decide +kernel, by decide +kernel⟩
theorem ok_l_right {f : Addr} {fd : FuncData} {d_l_due : FuncData} {d_l_told : FuncData} (F : Fun K "_law_right" "_law_right" s_l_right f fd) (T : Tx w K mg ad) (O_l_due : DfX P w K mg base 2 "_law_due" (ad 16) d_l_due ["_law_data", "_law_place", "_law_end"] (SpD ⟨K, w, ad⟩ m_l_due)) (O_l_told : DfX P w K mg base 8 "_law_told" (ad 17) d_l_told ["_law_data", "_law_place", "_law_end"] (SpD ⟨K, w, ad⟩ m_l_told)) : FnOk P w K mg base (L2.CX P w) 9 f fd ["_law_data", "_law_place", "_law_end"] (SpD ⟨K, w, ad⟩ m_l_right) := by
  refine ok_defV (l := 8) (n := 3) (k := 3) (b := b_l_right) F sc_l_right rfl rfl (fun cdv A outer s H E hr => ⟨_, (pss_cons (ps_set (i := 3) sc_l_right.nd rfl (Or.inl rfl) (clS O_l_due (hr.mono (by decide)) rfl (fun σ => passAt (takes_of rfl rfl rfl rfl) σ) (pa_cons (pv 0) (pa_cons (pv 1) (pa_cons (pv 2) pa_nil))))) (pss_cons (ps_if (pt_cmpR op_isN (pv 3) pe_non (nomark _)) (pss_cons (ps_ret pe_bl) pss_nil) pss_nil) (pss_cons (ps_set (i := 4) sc_l_right.nd rfl (Or.inl rfl) (pe_callTy (r := rListS K) call_list_of (by rfl) T.b_list (by decide +kernel) (pa_cons (pv 0) pa_nil))) (pss_cons (ps_set (i := 5) sc_l_right.nd rfl (Or.inl rfl) (clS O_l_told (hr.mono (by decide)) rfl (fun σ => passAt (takes_of rfl rfl rfl rfl) σ) (pa_cons (pv 4) (pa_cons (pv 1) (pa_cons (pv 2) pa_nil))))) (pss_cons (ps_if (PW.pt (pw_or (pt_not (pt_val (pe_callB (r := rIsi K) call_isi (by rfl) T.b_isinstance (by decide +kernel) (pa_cons (pv 5) (pa_cons (pe_bltn (v := .ty "tuple") (by rfl) T.b_tuple (by decide +kernel) rfl) pa_nil))))) (pw_or (pt_cmpR (r := rNeX K) (or_ne hr.units) (pe_callB (r := rLenX K) cr_len (by rfl) T.b_len (by decide +kernel) (pa_cons (pv 5) pa_nil)) pe_int (nomark _)) (pw_or1 (pt_cmpR (r := rNeX K) (or_ne hr.units) (pv 4) (pv 0) (nomark _)))))) (pss_cons (ps_ret pe_bl) pss_nil) pss_nil) (pss_cons (ps_if (PW.pt (pw_or (pt_not (pt_val (pe_callB (r := rIsi K) call_isi (by rfl) T.b_isinstance (by decide +kernel) (pa_cons (pe_ix (r := rIxX K w) ix_all (pv 5) pe_int (fun _ _ => rfl)) (pa_cons (pe_bltn (v := .ty "str") (by rfl) T.b_str (by decide +kernel) rfl) pa_nil))))) (pw_or (pt_not (pt_val (pe_callB (r := rIsi K) call_isi (by rfl) T.b_isinstance (by decide +kernel) (pa_cons (pe_ix (r := rIxX K w) ix_all (pv 5) pe_int (fun _ _ => rfl)) (pa_cons (pe_bltn (v := .ty "int") (by rfl) T.b_int (by decide +kernel) rfl) pa_nil))))) (pw_or1 (pt_val (pe_callB (r := rIsi K) call_isi (by rfl) T.b_isinstance (by decide +kernel) (pa_cons (pe_ix (r := rIxX K w) ix_all (pv 5) pe_int (fun _ _ => rfl)) (pa_cons (pe_bltn (v := .ty "bool") (by rfl) T.b_bool (by decide +kernel) rfl) pa_nil)))))))) (pss_cons (ps_ret pe_bl) pss_nil) pss_nil) (pss_cons (ps_ret (pe_cmpR (r := rEqX K) (or_eq hr.units) (pv 5) (pv 3) (nomark _))) pss_nil))))))), fun xo => ?_⟩)
  exact (cs_seq (cs_a (ce_call (ca_cons ce_var (ca_cons ce_var (ca_cons ce_var ca_nil))))) (cs_seq (cs_if (ct_test (ce_B od_is ce_var (ce_c fun _ => .non))) (cs_seq (cs_ret (ce_c fun _ => .bl _)) cs_nx) cs_nx) (cs_seq (cs_a (ce_L (cn_list (ca_cons ce_var ca_nil)))) (cs_seq (cs_a (ce_call (ca_cons ce_var (ca_cons ce_var (ca_cons ce_var ca_nil))))) (cs_seq (cs_if (ct_or (ct_not (ct_B (ce_isi .tuple ce_var))) (ct_or (ct_test (ce_B od_ne (ce_F cd_len (ca_cons ce_var ca_nil)) (ce_c fun _ => .int _))) (ct_test (ce_B od_ne ce_var ce_var)))) (cs_seq (cs_ret (ce_c fun _ => .bl _)) cs_nx) cs_nx) (cs_seq (cs_if (ct_or (ct_not (ct_B (ce_isi .str (ce_B od_ix ce_var (ce_c fun _ => .int _))))) (ct_or (ct_not (ct_B (ce_isi .int (ce_B od_ix ce_var (ce_c fun _ => .int _))))) (ct_B (ce_isi .bool (ce_B od_ix ce_var (ce_c fun _ => .int _)))))) (cs_seq (cs_ret (ce_c fun _ => .bl _)) cs_nx) cs_nx) (cs_seq (cs_ret (ce_B od_eq ce_var ce_var)) cs_nx)))))))
theorem sc_law : FnScope ["_law_script", "_law_state", "_law_cell", "_law_k", "_law_name_here", "_law_data", "_law_char_here", "_law_before", "_law_file", "_law_place", "_law_changed"] ["_law_script"] (defScope s_law) := ⟨rfl, rfl, rfl, by decide +kernel, rfl, by decide +kernel, by decide +kernel⟩
theorem ok_law {f : Addr} {fd : FuncData} {d_write_name : FuncData} {d_l_take : FuncData} {d_l_name : FuncData} {d_l_is_bytes : FuncData} {d_l_right : FuncData} (F : Fun K "law" "law" s_law f fd) (T : Tx w K mg ad) (O_write_name : DfX P w K mg base 3 "write_name" (ad 10) d_write_name ["name"] (SpD ⟨K, w, ad⟩ m_write_name)) (O_l_take : DfX P w K mg base 2 "_law_take" (ad 12) d_l_take ["_law_state", "_law_limit"] (SpD ⟨K, w, ad⟩ m_l_take)) (O_l_name : DfX P w K mg base 3 "_law_name" (ad 14) d_l_name ["_law_state"] (SpD ⟨K, w, ad⟩ m_l_name)) (O_l_is_bytes : DfX P w K mg base 1 "_law_is_bytes" (ad 15) d_l_is_bytes ["_law_data"] (SpD ⟨K, w, ad⟩ m_l_is_bytes)) (O_l_right : DfX P w K mg base 9 "_law_right" (ad 18) d_l_right ["_law_data", "_law_place", "_law_end"] (SpD ⟨K, w, ad⟩ m_l_right)) : FnOk P w K mg base CX0 10 f fd ["_law_script"] (Dm.sp_law K) := by
  refine Dm.ok_law (l := 9) (k := 10) (b := b_law) (ad := ad) F sc_law rfl rfl law_true (fun cdv A outer s H E hr => ⟨_, (pss_cons (ps_set (i := 1) sc_law.nd rfl (Or.inl rfl) (pe_lst (pa_cons (pe_lc (own := [("_law_cell", 2)]) (tt := tYes) rfl sc_law.nd (pi_list (pe_slice (r := rSlX2 K) sl_all (pv 0) po_none (po_some pe_int))) (blkOk_by (N := ["_law_script", "_law_state", "_law_cell", "_law_k", "_law_name_here", "_law_data", "_law_char_here", "_law_before", "_law_file", "_law_place", "_law_changed"]) (sc := defScope s_law) (by decide +kernel)) (fun _ _ _ _ _ => (pg_name (i := 2) sc_law.nd rfl (Or.inl rfl))) (fun _ _ _ _ _ => pts_nil) (fun _ _ _ _ _ => (pe_callTy (r := rInt1) call_int1 (by rfl) T.b_int (by decide +kernel) (pa_cons (pv 2) pa_nil)))) (pa_cons pe_int pa_nil)))) (pss_cons (ps_for PassesOwn.never rfl (pi_range1 (by rfl) T.b_range (pa_cons pe_int pa_nil)) (pg_name (i := 3) sc_law.nd rfl (Or.inl rfl)) (pss_cons (ps_set (i := 4) sc_law.nd rfl (Or.inl rfl) (clS O_l_name (hr.mono (by decide)) rfl (fun σ => passAt takes0 σ) (pa_cons (pv 1) pa_nil))) (pss_cons (ps_set (i := 5) sc_law.nd rfl (Or.inl rfl) (clS O_write_name (hr.mono (by decide)) rfl (fun σ => passAt takes0 σ) (pa_cons (pv 4) pa_nil))) (pss_cons (ps_if (PW.pt (pw_or (pt_not (pt_val (clS O_l_is_bytes (hr.mono (by decide)) rfl (fun σ => passAt takes0 σ) (pa_cons (pv 5) pa_nil)))) (pw_or1 (pt_cmpR (r := rNeX K) (or_ne hr.units) (pv 5) (pe_op (r := Dm.rAdd K) or_add (pe_lst (pa_cons (pe_callB (r := rLenX K) cr_len (by rfl) T.b_len (by decide +kernel) (pa_cons (pv 4) pa_nil)) pa_nil)) (pe_lc (own := [("_law_char_here", 6)]) (tt := tYes) rfl sc_law.nd (pi_str (pv 4)) (blkOk_by (N := ["_law_script", "_law_state", "_law_cell", "_law_k", "_law_name_here", "_law_data", "_law_char_here", "_law_before", "_law_file", "_law_place", "_law_changed"]) (sc := defScope s_law) (by decide +kernel)) (fun _ _ _ _ _ => (pg_name (i := 6) sc_law.nd rfl (Or.inl rfl))) (fun _ _ _ _ _ => pts_nil) (fun _ _ _ _ _ => (pe_callB call_ord (by rfl) T.b_ord (by decide +kernel) (pa_cons (pv 6) pa_nil))))) (nomark _))))) (pss_cons (ps_ret pe_bl) pss_nil) pss_nil) (pss_cons (ps_set (i := 7) sc_law.nd rfl (Or.inl rfl) (pe_slice (r := rSlX2 K) sl_all (pe_lst (pa_cons pe_int (pa_cons pe_int pa_nil))) po_none (po_some (clS O_l_take (hr.mono (by decide)) rfl (fun σ => passAt takes0 σ) (pa_cons (pv 1) (pa_cons pe_int pa_nil)))))) (pss_cons (ps_set (i := 8) sc_law.nd rfl (Or.inl rfl) (pe_op (r := Dm.rAdd K) or_add (pe_op (r := Dm.rAdd K) or_add (pv 7) (pv 5)) (pe_slice (r := rSlX2 K) sl_all (pe_lst (pa_cons pe_int (pa_cons pe_int (pa_cons pe_int pa_nil)))) po_none (po_some (clS O_l_take (hr.mono (by decide)) rfl (fun σ => passAt takes0 σ) (pa_cons (pv 1) (pa_cons pe_int pa_nil))))))) (pss_cons (ps_set (i := 9) sc_law.nd rfl (Or.inl rfl) (pe_callB (r := rLenX K) cr_len (by rfl) T.b_len (by decide +kernel) (pa_cons (pv 7) pa_nil))) (pss_cons (ps_if (PW.pt (pw_or (pt_not (pt_val (clS O_l_right (hr.mono (by decide)) rfl (fun σ => passAt takes0 σ) (pa_cons (pv 8) (pa_cons (pv 9) (pa_cons (pe_callB (r := rLenX K) cr_len (by rfl) T.b_len (by decide +kernel) (pa_cons (pv 8) pa_nil)) pa_nil)))))) (pw_or1 (pt_not (pt_val (clS O_l_right (hr.mono (by decide)) rfl (fun σ => passAt takes0 σ) (pa_cons (pv 8) (pa_cons (pv 9) (pa_cons (pe_op (r := Dm.rAdd K) or_add (pv 9) (pe_callB (r := rLenX K) cr_len (by rfl) T.b_len (by decide +kernel) (pa_cons (pv 5) pa_nil))) pa_nil))))))))) (pss_cons (ps_ret pe_bl) pss_nil) pss_nil) (pss_cons (ps_if (pt_not (pt_val (clS O_l_right (hr.mono (by decide)) rfl (fun σ => passAt takes0 σ) (pa_cons (pv 8) (pa_cons (pv 9) (pa_cons (pe_op (r := Dm.rAdd K) or_add (pv 9) (clS O_l_take (hr.mono (by decide)) rfl (fun σ => passAt takes0 σ) (pa_cons (pv 1) (pa_cons (pe_op (r := Dm.rAdd K) or_add (pe_callB (r := rLenX K) cr_len (by rfl) T.b_len (by decide +kernel) (pa_cons (pv 5) pa_nil)) pe_int) pa_nil)))) pa_nil)))))) (pss_cons (ps_ret pe_bl) pss_nil) pss_nil) (pss_cons (ps_set (i := 10) sc_law.nd rfl (Or.inl rfl) (pe_callTy (r := rListS K) call_list_of (by rfl) T.b_list (by decide +kernel) (pa_cons (pv 8) pa_nil))) (pss_cons (ps_asg (pe_ix (r := rIxX K w) ix_all (pe_lst (pa_cons (clS O_l_take (hr.mono (by decide)) rfl (fun σ => passAt takes0 σ) (pa_cons (pv 1) (pa_cons pe_int pa_nil))) (pa_cons (pe_op (r := Dm.rAdd K) or_add pe_int (clS O_l_take (hr.mono (by decide)) rfl (fun σ => passAt takes0 σ) (pa_cons (pv 1) (pa_cons pe_int pa_nil)))) (pa_cons (clS O_l_take (hr.mono (by decide)) rfl (fun σ => passAt takes0 σ) (pa_cons (pv 1) (pa_cons pe_int pa_nil))) pa_nil)))) (clS O_l_take (hr.mono (by decide)) rfl (fun σ => passAt takes0 σ) (pa_cons (pv 1) (pa_cons pe_int pa_nil))) (fun _ _ => rfl)) (pg_sub (pv 10) (pv 9) set_list)) (pss_cons (ps_if (pt_not (pt_val (clS O_l_right (hr.mono (by decide)) rfl (fun σ => passAt takes0 σ) (pa_cons (pv 10) (pa_cons (pv 9) (pa_cons (pe_callB (r := rLenX K) cr_len (by rfl) T.b_len (by decide +kernel) (pa_cons (pv 10) pa_nil)) pa_nil)))))) (pss_cons (ps_ret pe_bl) pss_nil) pss_nil) (pss_cons (ps_set (i := 10) sc_law.nd rfl (Or.inl rfl) (pe_callTy (r := rListS K) call_list_of (by rfl) T.b_list (by decide +kernel) (pa_cons (pv 8) pa_nil))) (pss_cons (ps_if (pt_cmpR or_gt (pe_callB (r := rLenX K) cr_len (by rfl) T.b_len (by decide +kernel) (pa_cons (pv 4) pa_nil)) pe_int (nomark _)) (pss_cons (ps_asg (clS O_l_take (hr.mono (by decide)) rfl (fun σ => passAt takes0 σ) (pa_cons (pv 1) (pa_cons pe_int pa_nil))) (pg_sub (pv 10) (pe_op (r := Dm.rAdd K) or_add (pe_op (r := Dm.rAdd K) or_add (pv 9) pe_int) (clS O_l_take (hr.mono (by decide)) rfl (fun σ => passAt takes0 σ) (pa_cons (pv 1) (pa_cons (pe_callB (r := rLenX K) cr_len (by rfl) T.b_len (by decide +kernel) (pa_cons (pv 4) pa_nil)) pa_nil)))) set_list)) pss_nil) pss_nil) (pss_cons (ps_if (pt_not (pt_val (clS O_l_right (hr.mono (by decide)) rfl (fun σ => passAt takes0 σ) (pa_cons (pv 10) (pa_cons (pv 9) (pa_cons (pe_callB (r := rLenX K) cr_len (by rfl) T.b_len (by decide +kernel) (pa_cons (pv 10) pa_nil)) pa_nil)))))) (pss_cons (ps_ret pe_bl) pss_nil) pss_nil) pss_nil))))))))))))))) (pss_cons (ps_ret pe_bl) pss_nil))), fun xo => ?_⟩)
  exact (cs_seq (cs_a (ce_cell (cn_lst (ca_cons (ce_cell (cn_lc (ci_list (ce_sl ce_var co_none (co_some (ce_c fun _ => .int _)))) cg_name (by decide) ct_yes (ce_F cd_int (ca_cons ce_var ca_nil)))) (ca_cons (ce_c fun _ => .int _) ca_nil))))) (cs_seq (cs_for (ci_r1 (ca_cons (ce_c fun _ => .int _) ca_nil)) cg_name (cs_seq (cs_a (ce_call (ca_cons ce_var ca_nil))) (cs_seq (cs_a (ce_call (ca_cons ce_var ca_nil))) (cs_seq (cs_if (ct_or (ct_not (ct_B (ce_call (ca_cons ce_var ca_nil)))) (ct_test (ce_B od_ne ce_var (ce_B od_add (ce_L (cn_lst (ca_cons (ce_F cd_len (ca_cons ce_var ca_nil)) ca_nil))) (ce_L (cn_lc (ci_str ce_var) cg_name (by decide) ct_yes (ce_F cd_ord (ca_cons ce_var ca_nil)))))))) (cs_seq (cs_ret (ce_c fun _ => .bl _)) cs_nx) cs_nx) (cs_seq (cs_a (ce_sl (ce_L (cn_lst (ca_cons (ce_c fun _ => .int _) (ca_cons (ce_c fun _ => .int _) ca_nil)))) co_none (co_some (ce_call (ca_cons ce_var (ca_cons (ce_c fun _ => .int _) ca_nil)))))) (cs_seq (cs_a (ce_B od_add (ce_B od_add ce_var ce_var) (ce_sl (ce_L (cn_lst (ca_cons (ce_c fun _ => .int _) (ca_cons (ce_c fun _ => .int _) (ca_cons (ce_c fun _ => .int _) ca_nil))))) co_none (co_some (ce_call (ca_cons ce_var (ca_cons (ce_c fun _ => .int _) ca_nil))))))) (cs_seq (cs_a (ce_F cd_len (ca_cons ce_var ca_nil))) (cs_seq (cs_if (ct_or (ct_not (ct_B (ce_call (ca_cons ce_var (ca_cons ce_var (ca_cons (ce_F cd_len (ca_cons ce_var ca_nil)) ca_nil)))))) (ct_not (ct_B (ce_call (ca_cons ce_var (ca_cons ce_var (ca_cons (ce_B od_add ce_var (ce_F cd_len (ca_cons ce_var ca_nil))) ca_nil))))))) (cs_seq (cs_ret (ce_c fun _ => .bl _)) cs_nx) cs_nx) (cs_seq (cs_if (ct_not (ct_B (ce_call (ca_cons ce_var (ca_cons ce_var (ca_cons (ce_B od_add ce_var (ce_call (ca_cons ce_var (ca_cons (ce_B od_add (ce_F cd_len (ca_cons ce_var ca_nil)) (ce_c fun _ => .int _)) ca_nil)))) ca_nil)))))) (cs_seq (cs_ret (ce_c fun _ => .bl _)) cs_nx) cs_nx) (cs_seq (cs_o (cn_list (ca_cons ce_var ca_nil))) (cs_seq (cs_set rfl ce_var (ce_B od_ix (ce_L (cn_lst (ca_cons (ce_call (ca_cons ce_var (ca_cons (ce_c fun _ => .int _) ca_nil))) (ca_cons (ce_B od_add (ce_c fun _ => .int _) (ce_call (ca_cons ce_var (ca_cons (ce_c fun _ => .int _) ca_nil)))) (ca_cons (ce_call (ca_cons ce_var (ca_cons (ce_c fun _ => .int _) ca_nil))) ca_nil))))) (ce_call (ca_cons ce_var (ca_cons (ce_c fun _ => .int _) ca_nil))))) (cs_seq (cs_frz 10 (cs_if (ct_not (ct_B (ce_call (ca_cons ce_var (ca_cons ce_var (ca_cons (ce_F cd_len (ca_cons ce_var ca_nil)) ca_nil)))))) (cs_seq (cs_ret (ce_c fun _ => .bl _)) cs_nx) cs_nx)) (cs_seq (cs_o (cn_list (ca_cons ce_var ca_nil))) (cs_seq (cs_if (ct_test (ce_B od_gt (ce_F cd_len (ca_cons ce_var ca_nil)) (ce_c fun _ => .int _))) (cs_seq (cs_set rfl (ce_B od_add (ce_B od_add ce_var (ce_c fun _ => .int _)) (ce_call (ca_cons ce_var (ca_cons (ce_F cd_len (ca_cons ce_var ca_nil)) ca_nil)))) (ce_call (ca_cons ce_var (ca_cons (ce_c fun _ => .int _) ca_nil)))) cs_nx) cs_nx) (cs_seq (cs_frz 10 (cs_if (ct_not (ct_B (ce_call (ca_cons ce_var (ca_cons ce_var (ca_cons (ce_F cd_len (ca_cons ce_var ca_nil)) ca_nil)))))) (cs_seq (cs_ret (ce_c fun _ => .bl _)) cs_nx) cs_nx)) cs_nx))))))))))))))) (cs_seq (cs_ret (ce_c fun _ => .bl _)) cs_nx)))
end
theorem all_mk {l : PySem.W.OpenLaw} {w : World} {K : PySem.W.Frag} {h : Heap} {mg : Str → Option Value} {fa : Addr} {f_write_unsigned f_byte_at f_read_groups f_read_unsigned f_read_index f_character f_read_items f_read_character f_read_name f_write_sized f_write_name f_l_mixed f_l_take f_l_char f_l_name f_l_is_bytes f_l_due f_l_told f_l_right f_law c_HostError c_DecodeError fi_DecodeError : Addr} (X : K.In h) (G : h.Ns mainGlobals mg) (hfa : mg "law" = some (.ref fa))
    {od_write_unsigned an_write_unsigned od_byte_at an_byte_at od_read_groups an_read_groups od_read_unsigned an_read_unsigned od_read_index an_read_index od_character an_character od_read_items an_read_items od_read_character an_read_character od_read_name an_read_name od_write_sized an_write_sized od_write_name an_write_name od_l_mixed an_l_mixed od_l_take an_l_take od_l_char an_l_char od_l_name an_l_name od_l_is_bytes an_l_is_bytes od_l_due an_l_due od_l_told an_l_told od_l_right an_l_right od_law an_law od_init_DecodeError an_init_DecodeError : Option Addr} {sl_write_unsigned sl_byte_at sl_read_groups sl_read_unsigned sl_read_index sl_character sl_read_items sl_read_character sl_read_name sl_write_sized sl_write_name sl_l_mixed sl_l_take sl_l_char sl_l_name sl_l_is_bytes sl_l_due sl_l_told sl_l_right sl_law sl_init_DecodeError : Array (Option Value)}
    {oc_write_unsigned kV_write_unsigned dc_write_unsigned pm_write_unsigned cd_write_unsigned ct_write_unsigned oc_byte_at kV_byte_at dc_byte_at pm_byte_at cd_byte_at ct_byte_at oc_read_groups kV_read_groups dc_read_groups pm_read_groups cd_read_groups ct_read_groups oc_read_unsigned kV_read_unsigned dc_read_unsigned pm_read_unsigned cd_read_unsigned ct_read_unsigned oc_read_index kV_read_index dc_read_index pm_read_index cd_read_index ct_read_index oc_character kV_character dc_character pm_character cd_character ct_character oc_read_items kV_read_items dc_read_items pm_read_items cd_read_items ct_read_items oc_read_character kV_read_character dc_read_character pm_read_character cd_read_character ct_read_character oc_read_name kV_read_name dc_read_name pm_read_name cd_read_name ct_read_name oc_write_sized kV_write_sized dc_write_sized pm_write_sized cd_write_sized ct_write_sized oc_write_name kV_write_name dc_write_name pm_write_name cd_write_name ct_write_name oc_l_mixed kV_l_mixed dc_l_mixed pm_l_mixed cd_l_mixed ct_l_mixed oc_l_take kV_l_take dc_l_take pm_l_take cd_l_take ct_l_take oc_l_char kV_l_char dc_l_char pm_l_char cd_l_char ct_l_char oc_l_name kV_l_name dc_l_name pm_l_name cd_l_name ct_l_name oc_l_is_bytes kV_l_is_bytes dc_l_is_bytes pm_l_is_bytes cd_l_is_bytes ct_l_is_bytes oc_l_due kV_l_due dc_l_due pm_l_due cd_l_due ct_l_due oc_l_told kV_l_told dc_l_told pm_l_told cd_l_told ct_l_told oc_l_right kV_l_right dc_l_right pm_l_right cd_l_right ct_l_right oc_law kV_law dc_law pm_law cd_law ct_law oc_init_DecodeError kV_init_DecodeError dc_init_DecodeError pm_init_DecodeError cd_init_DecodeError ct_init_DecodeError : Value}
    (a_write_unsigned : PySem.W.nsIn K mainGlobals "write_unsigned" = some (some (.ref f_write_unsigned)))
    (l_write_unsigned : K.lookup f_write_unsigned = some ⟨oc_write_unsigned, od_write_unsigned, .func (PySem.W.fnOf "write_unsigned" "write_unsigned" (defArgs s_write_unsigned) (defBody s_write_unsigned) (defScope s_write_unsigned) .none kV_write_unsigned dc_write_unsigned pm_write_unsigned an_write_unsigned cd_write_unsigned ct_write_unsigned), sl_write_unsigned⟩)
    (c_write_unsigned : PySem.W.codeIn K cd_write_unsigned "write_unsigned" = true)
    (k_write_unsigned : PySem.W.keepIn K (.ref f_write_unsigned) = true)
    (a_byte_at : PySem.W.nsIn K mainGlobals "byte_at" = some (some (.ref f_byte_at)))
    (l_byte_at : K.lookup f_byte_at = some ⟨oc_byte_at, od_byte_at, .func (PySem.W.fnOf "byte_at" "byte_at" (defArgs s_byte_at) (defBody s_byte_at) (defScope s_byte_at) .none kV_byte_at dc_byte_at pm_byte_at an_byte_at cd_byte_at ct_byte_at), sl_byte_at⟩)
    (c_byte_at : PySem.W.codeIn K cd_byte_at "byte_at" = true)
    (k_byte_at : PySem.W.keepIn K (.ref f_byte_at) = true)
    (a_read_groups : PySem.W.nsIn K mainGlobals "read_groups" = some (some (.ref f_read_groups)))
    (l_read_groups : K.lookup f_read_groups = some ⟨oc_read_groups, od_read_groups, .func (PySem.W.fnOf "read_groups" "read_groups" (defArgs s_read_groups) (defBody s_read_groups) (defScope s_read_groups) .none kV_read_groups dc_read_groups pm_read_groups an_read_groups cd_read_groups ct_read_groups), sl_read_groups⟩)
    (c_read_groups : PySem.W.codeIn K cd_read_groups "read_groups" = true)
    (k_read_groups : PySem.W.keepIn K (.ref f_read_groups) = true)
    (a_read_unsigned : PySem.W.nsIn K mainGlobals "read_unsigned" = some (some (.ref f_read_unsigned)))
    (l_read_unsigned : K.lookup f_read_unsigned = some ⟨oc_read_unsigned, od_read_unsigned, .func (PySem.W.fnOf "read_unsigned" "read_unsigned" (defArgs s_read_unsigned) (defBody s_read_unsigned) (defScope s_read_unsigned) .none kV_read_unsigned dc_read_unsigned pm_read_unsigned an_read_unsigned cd_read_unsigned ct_read_unsigned), sl_read_unsigned⟩)
    (c_read_unsigned : PySem.W.codeIn K cd_read_unsigned "read_unsigned" = true)
    (k_read_unsigned : PySem.W.keepIn K (.ref f_read_unsigned) = true)
    (a_read_index : PySem.W.nsIn K mainGlobals "read_index" = some (some (.ref f_read_index)))
    (l_read_index : K.lookup f_read_index = some ⟨oc_read_index, od_read_index, .func (PySem.W.fnOf "read_index" "read_index" (defArgs s_read_index) (defBody s_read_index) (defScope s_read_index) .none kV_read_index dc_read_index pm_read_index an_read_index cd_read_index ct_read_index), sl_read_index⟩)
    (c_read_index : PySem.W.codeIn K cd_read_index "read_index" = true)
    (k_read_index : PySem.W.keepIn K (.ref f_read_index) = true)
    (a_character : PySem.W.nsIn K mainGlobals "character" = some (some (.ref f_character)))
    (l_character : K.lookup f_character = some ⟨oc_character, od_character, .func (PySem.W.fnOf "character" "character" (defArgs s_character) (defBody s_character) (defScope s_character) .none kV_character dc_character pm_character an_character cd_character ct_character), sl_character⟩)
    (c_character : PySem.W.codeIn K cd_character "character" = true)
    (k_character : PySem.W.keepIn K (.ref f_character) = true)
    (a_read_items : PySem.W.nsIn K mainGlobals "read_items" = some (some (.ref f_read_items)))
    (l_read_items : K.lookup f_read_items = some ⟨oc_read_items, od_read_items, .func (PySem.W.fnOf "read_items" "read_items" (defArgs s_read_items) (defBody s_read_items) (defScope s_read_items) .none kV_read_items dc_read_items pm_read_items an_read_items cd_read_items ct_read_items), sl_read_items⟩)
    (c_read_items : PySem.W.codeIn K cd_read_items "read_items" = true)
    (k_read_items : PySem.W.keepIn K (.ref f_read_items) = true)
    (a_read_character : PySem.W.nsIn K mainGlobals "read_character" = some (some (.ref f_read_character)))
    (l_read_character : K.lookup f_read_character = some ⟨oc_read_character, od_read_character, .func (PySem.W.fnOf "read_character" "read_character" (defArgs s_read_character) (defBody s_read_character) (defScope s_read_character) .none kV_read_character dc_read_character pm_read_character an_read_character cd_read_character ct_read_character), sl_read_character⟩)
    (c_read_character : PySem.W.codeIn K cd_read_character "read_character" = true)
    (k_read_character : PySem.W.keepIn K (.ref f_read_character) = true)
    (a_read_name : PySem.W.nsIn K mainGlobals "read_name" = some (some (.ref f_read_name)))
    (l_read_name : K.lookup f_read_name = some ⟨oc_read_name, od_read_name, .func (PySem.W.fnOf "read_name" "read_name" (defArgs s_read_name) (defBody s_read_name) (defScope s_read_name) .none kV_read_name dc_read_name pm_read_name an_read_name cd_read_name ct_read_name), sl_read_name⟩)
    (c_read_name : PySem.W.codeIn K cd_read_name "read_name" = true)
    (k_read_name : PySem.W.keepIn K (.ref f_read_name) = true)
    (a_write_sized : PySem.W.nsIn K mainGlobals "write_sized" = some (some (.ref f_write_sized)))
    (l_write_sized : K.lookup f_write_sized = some ⟨oc_write_sized, od_write_sized, .func (PySem.W.fnOf "write_sized" "write_sized" (defArgs s_write_sized) (defBody s_write_sized) (defScope s_write_sized) .none kV_write_sized dc_write_sized pm_write_sized an_write_sized cd_write_sized ct_write_sized), sl_write_sized⟩)
    (c_write_sized : PySem.W.codeIn K cd_write_sized "write_sized" = true)
    (k_write_sized : PySem.W.keepIn K (.ref f_write_sized) = true)
    (a_write_name : PySem.W.nsIn K mainGlobals "write_name" = some (some (.ref f_write_name)))
    (l_write_name : K.lookup f_write_name = some ⟨oc_write_name, od_write_name, .func (PySem.W.fnOf "write_name" "write_name" (defArgs s_write_name) (defBody s_write_name) (defScope s_write_name) .none kV_write_name dc_write_name pm_write_name an_write_name cd_write_name ct_write_name), sl_write_name⟩)
    (c_write_name : PySem.W.codeIn K cd_write_name "write_name" = true)
    (k_write_name : PySem.W.keepIn K (.ref f_write_name) = true)
    (a_l_mixed : PySem.W.nsIn K mainGlobals "_law_mixed" = some (some (.ref f_l_mixed)))
    (l_l_mixed : K.lookup f_l_mixed = some ⟨oc_l_mixed, od_l_mixed, .func (PySem.W.fnOf "_law_mixed" "_law_mixed" (defArgs s_l_mixed) (defBody s_l_mixed) (defScope s_l_mixed) .none kV_l_mixed dc_l_mixed pm_l_mixed an_l_mixed cd_l_mixed ct_l_mixed), sl_l_mixed⟩)
    (c_l_mixed : PySem.W.codeIn K cd_l_mixed "_law_mixed" = true)
    (k_l_mixed : PySem.W.keepIn K (.ref f_l_mixed) = true)
    (a_l_take : PySem.W.nsIn K mainGlobals "_law_take" = some (some (.ref f_l_take)))
    (l_l_take : K.lookup f_l_take = some ⟨oc_l_take, od_l_take, .func (PySem.W.fnOf "_law_take" "_law_take" (defArgs s_l_take) (defBody s_l_take) (defScope s_l_take) .none kV_l_take dc_l_take pm_l_take an_l_take cd_l_take ct_l_take), sl_l_take⟩)
    (c_l_take : PySem.W.codeIn K cd_l_take "_law_take" = true)
    (k_l_take : PySem.W.keepIn K (.ref f_l_take) = true)
    (a_l_char : PySem.W.nsIn K mainGlobals "_law_char" = some (some (.ref f_l_char)))
    (l_l_char : K.lookup f_l_char = some ⟨oc_l_char, od_l_char, .func (PySem.W.fnOf "_law_char" "_law_char" (defArgs s_l_char) (defBody s_l_char) (defScope s_l_char) .none kV_l_char dc_l_char pm_l_char an_l_char cd_l_char ct_l_char), sl_l_char⟩)
    (c_l_char : PySem.W.codeIn K cd_l_char "_law_char" = true)
    (k_l_char : PySem.W.keepIn K (.ref f_l_char) = true)
    (a_l_name : PySem.W.nsIn K mainGlobals "_law_name" = some (some (.ref f_l_name)))
    (l_l_name : K.lookup f_l_name = some ⟨oc_l_name, od_l_name, .func (PySem.W.fnOf "_law_name" "_law_name" (defArgs s_l_name) (defBody s_l_name) (defScope s_l_name) .none kV_l_name dc_l_name pm_l_name an_l_name cd_l_name ct_l_name), sl_l_name⟩)
    (c_l_name : PySem.W.codeIn K cd_l_name "_law_name" = true)
    (k_l_name : PySem.W.keepIn K (.ref f_l_name) = true)
    (a_l_is_bytes : PySem.W.nsIn K mainGlobals "_law_is_bytes" = some (some (.ref f_l_is_bytes)))
    (l_l_is_bytes : K.lookup f_l_is_bytes = some ⟨oc_l_is_bytes, od_l_is_bytes, .func (PySem.W.fnOf "_law_is_bytes" "_law_is_bytes" (defArgs s_l_is_bytes) (defBody s_l_is_bytes) (defScope s_l_is_bytes) .none kV_l_is_bytes dc_l_is_bytes pm_l_is_bytes an_l_is_bytes cd_l_is_bytes ct_l_is_bytes), sl_l_is_bytes⟩)
    (c_l_is_bytes : PySem.W.codeIn K cd_l_is_bytes "_law_is_bytes" = true)
    (k_l_is_bytes : PySem.W.keepIn K (.ref f_l_is_bytes) = true)
    (a_l_due : PySem.W.nsIn K mainGlobals "_law_due" = some (some (.ref f_l_due)))
    (l_l_due : K.lookup f_l_due = some ⟨oc_l_due, od_l_due, .func (PySem.W.fnOf "_law_due" "_law_due" (defArgs s_l_due) (defBody s_l_due) (defScope s_l_due) .none kV_l_due dc_l_due pm_l_due an_l_due cd_l_due ct_l_due), sl_l_due⟩)
    (c_l_due : PySem.W.codeIn K cd_l_due "_law_due" = true)
    (k_l_due : PySem.W.keepIn K (.ref f_l_due) = true)
    (a_l_told : PySem.W.nsIn K mainGlobals "_law_told" = some (some (.ref f_l_told)))
    (l_l_told : K.lookup f_l_told = some ⟨oc_l_told, od_l_told, .func (PySem.W.fnOf "_law_told" "_law_told" (defArgs s_l_told) (defBody s_l_told) (defScope s_l_told) .none kV_l_told dc_l_told pm_l_told an_l_told cd_l_told ct_l_told), sl_l_told⟩)
    (c_l_told : PySem.W.codeIn K cd_l_told "_law_told" = true)
    (k_l_told : PySem.W.keepIn K (.ref f_l_told) = true)
    (a_l_right : PySem.W.nsIn K mainGlobals "_law_right" = some (some (.ref f_l_right)))
    (l_l_right : K.lookup f_l_right = some ⟨oc_l_right, od_l_right, .func (PySem.W.fnOf "_law_right" "_law_right" (defArgs s_l_right) (defBody s_l_right) (defScope s_l_right) .none kV_l_right dc_l_right pm_l_right an_l_right cd_l_right ct_l_right), sl_l_right⟩)
    (c_l_right : PySem.W.codeIn K cd_l_right "_law_right" = true)
    (k_l_right : PySem.W.keepIn K (.ref f_l_right) = true)
    (a_law : PySem.W.nsIn K mainGlobals "law" = some (some (.ref f_law)))
    (l_law : K.lookup f_law = some ⟨oc_law, od_law, .func (PySem.W.fnOf "law" "law" (defArgs s_law) (defBody s_law) (defScope s_law) .none kV_law dc_law pm_law an_law cd_law ct_law), sl_law⟩)
    (c_law : PySem.W.codeIn K cd_law "law" = true)
    (k_law : PySem.W.keepIn K (.ref f_law) = true)
    (z_abs : PySem.W.nsIn K mainGlobals "abs" = some none)
    (z_bool : PySem.W.nsIn K mainGlobals "bool" = some none)
    (z_int : PySem.W.nsIn K mainGlobals "int" = some none)
    (z_isinstance : PySem.W.nsIn K mainGlobals "isinstance" = some none)
    (z_len : PySem.W.nsIn K mainGlobals "len" = some none)
    (z_list : PySem.W.nsIn K mainGlobals "list" = some none)
    (z_ord : PySem.W.nsIn K mainGlobals "ord" = some none)
    (z_range : PySem.W.nsIn K mainGlobals "range" = some none)
    (z_str : PySem.W.nsIn K mainGlobals "str" = some none)
    (z_tuple : PySem.W.nsIn K mainGlobals "tuple" = some none)
    {a_CHARACTERS : Addr}
    (v_CHARACTERS : PySem.W.nsIn K mainGlobals "CHARACTERS" = some (some (.ref a_CHARACTERS)))
    (kd_CHARACTERS : isD K [] 6 (.ref a_CHARACTERS) d_CHARACTERS = true)
    {t_MOST_CHARACTERS : Tok}
    (v_MOST_CHARACTERS : PySem.W.nsIn K mainGlobals "MOST_CHARACTERS" = some (some (.int (60) t_MOST_CHARACTERS)))
    (cg_HostError : PySem.W.nsIn K mainGlobals "HostError" = some (some (.ref c_HostError)))
    (cg_DecodeError : PySem.W.nsIn K mainGlobals "DecodeError" = some (some (.ref c_DecodeError)))
    (kc_DecodeError : PySem.W.keepIn K (.ref c_DecodeError) = true)
    (eb_DecodeError : PySem.W.subIn K (.ref c_DecodeError) (.type "BaseException") = some true)
    (ty_DecodeError : PySem.W.typeIn K (.ref c_DecodeError) = some (.type "type"))
    (ga_DecodeError : PySem.W.findIn K (.ref c_DecodeError) "__getattribute__" = some (some (.builtin "BaseException.__getattribute__")))
    (gg_DecodeError : PySem.W.findIn K (.ref c_DecodeError) "__getattr__" = some none)
    {nm_DecodeError q_DecodeError : Str} {N_DecodeError : Addr} {bs_DecodeError : List Value} {sn_DecodeError : List Str} {sub_DecodeError : List Value} {ab_DecodeError : Bool} {col_DecodeError : Option Bool} {dd_DecodeError : Option Addr} {m0_DecodeError m1_DecodeError m2_DecodeError m3_DecodeError m5_DecodeError : Option Value}
    (xL_DecodeError : K.lookup c_DecodeError = some (excClassObj nm_DecodeError q_DecodeError c_DecodeError N_DecodeError bs_DecodeError [.ref c_HostError, .type "ValueError", .type "Exception", .type "BaseException", .type "object"] true sn_DecodeError sub_DecodeError ab_DecodeError col_DecodeError dd_DecodeError m0_DecodeError m1_DecodeError m2_DecodeError m3_DecodeError m5_DecodeError "ValueError.__new__"))
    (sa_DecodeError : PySem.W.findIn K (.ref c_DecodeError) "__setattr__" = some (some (.builtin "object.__setattr__")))
    (nf0_DecodeError : PySem.W.findIn K (.ref c_DecodeError) "reason" = some none)
    (nf1_DecodeError : PySem.W.findIn K (.ref c_DecodeError) "place" = some none)
    (ii_DecodeError : PySem.W.findIn K (.ref c_DecodeError) "__init__" = some (some (.ref fi_DecodeError)))
    (ti_DecodeError : PySem.W.typeIn K (.ref fi_DecodeError) = some (.type "function"))
    (hd_DecodeError : PySem.W.hasDictIn K c_DecodeError = true)
    (l_init_DecodeError : K.lookup fi_DecodeError = some ⟨oc_init_DecodeError, od_init_DecodeError, .func (PySem.W.fnOf "__init__" "DecodeError.__init__" (defArgs s_init_DecodeError) (defBody s_init_DecodeError) (defScope s_init_DecodeError) .none kV_init_DecodeError dc_init_DecodeError pm_init_DecodeError an_init_DecodeError cd_init_DecodeError ct_init_DecodeError), sl_init_DecodeError⟩)
    (c_init_DecodeError : PySem.W.codeIn K cd_init_DecodeError "DecodeError.__init__" = true)
    (k_init_DecodeError : PySem.W.keepIn K (.ref fi_DecodeError) = true)
    (eb_HostError : PySem.W.subIn K (.ref c_HostError) (.type "BaseException") = some true)
    (ty_HostError : PySem.W.typeIn K (.ref c_HostError) = some (.type "type"))
    (ic_HostError : PySem.W.isClsIn K c_HostError = true)
    (sc_DecodeError_HostError : PySem.W.subIn K (.ref c_DecodeError) (.ref c_HostError) = some true)
    (on : PySem.W.specialIn K (.builtin "object.__class__") "__get__" = some (some (.builtin "getset_descriptor.__get__")))
    (ot : PySem.W.takesIn K (.builtin "object.__class__") = some true)
    (ha_DecodeError : PySem.W.findIn K (.ref c_DecodeError) "__class__" = some (some (.builtin "object.__class__")))
    (hm_DecodeError : PySem.W.mroIn K c_DecodeError (.type "object") = some true)
    (yk_DecodeError_DecodeError : PySem.W.kitOne K (.ref c_DecodeError) (.ref c_DecodeError) = some true)
    : ∃ fd : FuncData, (∀ (s : Shared) (v : Value), BindsTo s fd ⟨[v], []⟩ [("_law_script", v)]) ∧ ∀ base : Heap, K.In base → base.Ns mainGlobals mg → FnOk l.prog w K mg base CX0 10 fa fd ["_law_script"] (Dm.sp_law K) := by
  have e := hfa.symm.trans (PySem.W.mg_of X G a_law)
  cases e
  have T : Tx w K mg (fun n => match n with | 0 => f_write_unsigned | 1 => f_byte_at | 2 => f_read_groups | 3 => f_read_unsigned | 4 => f_read_index | 5 => f_character | 6 => f_read_items | 7 => f_read_character | 8 => f_read_name | 9 => f_write_sized | 10 => f_write_name | 11 => f_l_mixed | 12 => f_l_take | 13 => f_l_char | 14 => f_l_name | 15 => f_l_is_bytes | 16 => f_l_due | 17 => f_l_told | 18 => f_l_right | 1000 => c_HostError | 1001 => c_DecodeError | 2001 => fi_DecodeError | _ => 0) := ⟨PySem.W.mg_none_of X G z_abs,
    PySem.W.mg_none_of X G z_bool,
    PySem.W.mg_none_of X G z_int,
    PySem.W.mg_none_of X G z_isinstance,
    PySem.W.mg_none_of X G z_len,
    PySem.W.mg_none_of X G z_list,
    PySem.W.mg_none_of X G z_ord,
    PySem.W.mg_none_of X G z_range,
    PySem.W.mg_none_of X G z_str,
    PySem.W.mg_none_of X G z_tuple,
    isD_rep (ad := (fun n => match n with | 0 => f_write_unsigned | 1 => f_byte_at | 2 => f_read_groups | 3 => f_read_unsigned | 4 => f_read_index | 5 => f_character | 6 => f_read_items | 7 => f_read_character | 8 => f_read_name | 9 => f_write_sized | 10 => f_write_name | 11 => f_l_mixed | 12 => f_l_take | 13 => f_l_char | 14 => f_l_name | 15 => f_l_is_bytes | 16 => f_l_due | 17 => f_l_told | 18 => f_l_right | 1000 => c_HostError | 1001 => c_DecodeError | 2001 => fi_DecodeError | _ => 0)) (by intro k b hb; cases hb) (PySem.W.mg_of X G v_CHARACTERS) kd_CHARACTERS,
    ⟨.int (60), _, PySem.W.mg_of X G v_MOST_CHARACTERS, ⟨_, rfl⟩, fun _ => .int _⟩,
    PySem.W.mg_of X G cg_HostError,
    ⟨PySem.W.mg_of X G cg_DecodeError, ⟨⟨_, _, _, _, _, _, _, _, _, _, _, _, _, _, _, xL_DecodeError, rfl⟩, sa_DecodeError, eb_DecodeError, ty_DecodeError, kc_DecodeError⟩, ii_DecodeError, ti_DecodeError, (by intro f hf; simp only [List.mem_cons, List.not_mem_nil, or_false] at hf; rcases hf with rfl | rfl; exact nf0_DecodeError; exact nf1_DecodeError), ⟨ga_DecodeError, gg_DecodeError, eb_DecodeError, hd_DecodeError⟩⟩,
    PySem.W.mg_of X G cg_DecodeError,
    exm_of eb_DecodeError eb_HostError ic_HostError ty_HostError sc_DecodeError_HostError,
    ⟨ga_DecodeError, gg_DecodeError, eb_DecodeError, clsSome hd_DecodeError, ha_DecodeError, on, ot, hm_DecodeError⟩,
    yk_DecodeError_DecodeError⟩
  have F_write_unsigned := fun_mk (st := s_write_unsigned) l_write_unsigned c_write_unsigned k_write_unsigned
  have b_write_unsigned := F_write_unsigned.binds (ps := ["number"]) fun _ _ _ _ _ _ us hl => match us, hl with | [_], _ => rfl
  have F_byte_at := fun_mk (st := s_byte_at) l_byte_at c_byte_at k_byte_at
  have b_byte_at := F_byte_at.binds (ps := ["data", "place", "end"]) fun _ _ _ _ _ _ us hl => match us, hl with | [_, _, _], _ => rfl
  have F_read_groups := fun_mk (st := s_read_groups) l_read_groups c_read_groups k_read_groups
  have b_read_groups := F_read_groups.binds (ps := ["data", "place", "end", "bits"]) fun _ _ _ _ _ _ us hl => match us, hl with | [_, _, _, _], _ => rfl
  have F_read_unsigned := fun_mk (st := s_read_unsigned) l_read_unsigned c_read_unsigned k_read_unsigned
  have b_read_unsigned := F_read_unsigned.binds (ps := ["data", "place", "end", "bits"]) fun _ _ _ _ _ _ us hl => match us, hl with | [_, _, _, _], _ => rfl
  have F_read_index := fun_mk (st := s_read_index) l_read_index c_read_index k_read_index
  have b_read_index := F_read_index.binds (ps := ["data", "place", "end"]) fun _ _ _ _ _ _ us hl => match us, hl with | [_, _, _], _ => rfl
  have F_character := fun_mk (st := s_character) l_character c_character k_character
  have b_character := F_character.binds (ps := ["code"]) fun _ _ _ _ _ _ us hl => match us, hl with | [_], _ => rfl
  have F_read_items := fun_mk (st := s_read_items) l_read_items c_read_items k_read_items
  have b_read_items := F_read_items.binds (ps := ["data", "place", "end", "count", "read_item"]) fun _ _ _ _ _ _ us hl => match us, hl with | [_, _, _, _, _], _ => rfl
  have F_read_character := fun_mk (st := s_read_character) l_read_character c_read_character k_read_character
  have b_read_character := F_read_character.binds (ps := ["data", "place", "end"]) fun _ _ _ _ _ _ us hl => match us, hl with | [_, _, _], _ => rfl
  have F_read_name := fun_mk (st := s_read_name) l_read_name c_read_name k_read_name
  have b_read_name := F_read_name.binds (ps := ["data", "place", "end"]) fun _ _ _ _ _ _ us hl => match us, hl with | [_, _, _], _ => rfl
  have F_write_sized := fun_mk (st := s_write_sized) l_write_sized c_write_sized k_write_sized
  have b_write_sized := F_write_sized.binds (ps := ["content"]) fun _ _ _ _ _ _ us hl => match us, hl with | [_], _ => rfl
  have F_write_name := fun_mk (st := s_write_name) l_write_name c_write_name k_write_name
  have b_write_name := F_write_name.binds (ps := ["name"]) fun _ _ _ _ _ _ us hl => match us, hl with | [_], _ => rfl
  have F_l_mixed := fun_mk (st := s_l_mixed) l_l_mixed c_l_mixed k_l_mixed
  have b_l_mixed := F_l_mixed.binds (ps := ["_law_cell"]) fun _ _ _ _ _ _ us hl => match us, hl with | [_], _ => rfl
  have F_l_take := fun_mk (st := s_l_take) l_l_take c_l_take k_l_take
  have b_l_take := F_l_take.binds (ps := ["_law_state", "_law_limit"]) fun _ _ _ _ _ _ us hl => match us, hl with | [_, _], _ => rfl
  have F_l_char := fun_mk (st := s_l_char) l_l_char c_l_char k_l_char
  have b_l_char := F_l_char.binds (ps := ["_law_number"]) fun _ _ _ _ _ _ us hl => match us, hl with | [_], _ => rfl
  have F_l_name := fun_mk (st := s_l_name) l_l_name c_l_name k_l_name
  have b_l_name := F_l_name.binds (ps := ["_law_state"]) fun _ _ _ _ _ _ us hl => match us, hl with | [_], _ => rfl
  have F_l_is_bytes := fun_mk (st := s_l_is_bytes) l_l_is_bytes c_l_is_bytes k_l_is_bytes
  have b_l_is_bytes := F_l_is_bytes.binds (ps := ["_law_data"]) fun _ _ _ _ _ _ us hl => match us, hl with | [_], _ => rfl
  have F_l_due := fun_mk (st := s_l_due) l_l_due c_l_due k_l_due
  have b_l_due := F_l_due.binds (ps := ["_law_data", "_law_place", "_law_end"]) fun _ _ _ _ _ _ us hl => match us, hl with | [_, _, _], _ => rfl
  have F_l_told := fun_mk (st := s_l_told) l_l_told c_l_told k_l_told
  have b_l_told := F_l_told.binds (ps := ["_law_data", "_law_place", "_law_end"]) fun _ _ _ _ _ _ us hl => match us, hl with | [_, _, _], _ => rfl
  have F_l_right := fun_mk (st := s_l_right) l_l_right c_l_right k_l_right
  have b_l_right := F_l_right.binds (ps := ["_law_data", "_law_place", "_law_end"]) fun _ _ _ _ _ _ us hl => match us, hl with | [_, _, _], _ => rfl
  have F_law := fun_mk (st := s_law) l_law c_law k_law
  have F_init_DecodeError := fun_mk (st := s_init_DecodeError) l_init_DecodeError c_init_DecodeError k_init_DecodeError
  have b_init_DecodeError := F_init_DecodeError.binds (ps := ["self", "reason", "place"]) fun _ _ _ _ _ _ us hl => match us, hl with | [_, _, _], _ => rfl
  refine ⟨PySem.W.fnOf "law" "law" (defArgs s_law) (defBody s_law) (defScope s_law) .none kV_law dc_law pm_law an_law cd_law ct_law, fun s v => .of_eq rfl, fun base _ _ => ?_⟩
  have O_init_DecodeError : InitN l.prog w K mg base fi_DecodeError _ ["self", "reason", "place"] ["reason", "place"] := ⟨ok_init_DecodeError F_init_DecodeError, b_init_DecodeError⟩
  have O_write_unsigned : DfX l.prog w K mg base 1 "write_unsigned" f_write_unsigned _ ["number"] (SpD ⟨K, w, (fun n => match n with | 0 => f_write_unsigned | 1 => f_byte_at | 2 => f_read_groups | 3 => f_read_unsigned | 4 => f_read_index | 5 => f_character | 6 => f_read_items | 7 => f_read_character | 8 => f_read_name | 9 => f_write_sized | 10 => f_write_name | 11 => f_l_mixed | 12 => f_l_take | 13 => f_l_char | 14 => f_l_name | 15 => f_l_is_bytes | 16 => f_l_due | 17 => f_l_told | 18 => f_l_right | 1000 => c_HostError | 1001 => c_DecodeError | 2001 => fi_DecodeError | _ => 0)⟩ m_write_unsigned) := ⟨ok_write_unsigned (ad := (fun n => match n with | 0 => f_write_unsigned | 1 => f_byte_at | 2 => f_read_groups | 3 => f_read_unsigned | 4 => f_read_index | 5 => f_character | 6 => f_read_items | 7 => f_read_character | 8 => f_read_name | 9 => f_write_sized | 10 => f_write_name | 11 => f_l_mixed | 12 => f_l_take | 13 => f_l_char | 14 => f_l_name | 15 => f_l_is_bytes | 16 => f_l_due | 17 => f_l_told | 18 => f_l_right | 1000 => c_HostError | 1001 => c_DecodeError | 2001 => fi_DecodeError | _ => 0)) F_write_unsigned T, PySem.W.mg_of X G a_write_unsigned, F_write_unsigned.kp, b_write_unsigned⟩
  have O_byte_at : DfX l.prog w K mg base 3 "byte_at" f_byte_at _ ["data", "place", "end"] (SpD ⟨K, w, (fun n => match n with | 0 => f_write_unsigned | 1 => f_byte_at | 2 => f_read_groups | 3 => f_read_unsigned | 4 => f_read_index | 5 => f_character | 6 => f_read_items | 7 => f_read_character | 8 => f_read_name | 9 => f_write_sized | 10 => f_write_name | 11 => f_l_mixed | 12 => f_l_take | 13 => f_l_char | 14 => f_l_name | 15 => f_l_is_bytes | 16 => f_l_due | 17 => f_l_told | 18 => f_l_right | 1000 => c_HostError | 1001 => c_DecodeError | 2001 => fi_DecodeError | _ => 0)⟩ m_byte_at) := ⟨ok_byte_at (ad := (fun n => match n with | 0 => f_write_unsigned | 1 => f_byte_at | 2 => f_read_groups | 3 => f_read_unsigned | 4 => f_read_index | 5 => f_character | 6 => f_read_items | 7 => f_read_character | 8 => f_read_name | 9 => f_write_sized | 10 => f_write_name | 11 => f_l_mixed | 12 => f_l_take | 13 => f_l_char | 14 => f_l_name | 15 => f_l_is_bytes | 16 => f_l_due | 17 => f_l_told | 18 => f_l_right | 1000 => c_HostError | 1001 => c_DecodeError | 2001 => fi_DecodeError | _ => 0)) F_byte_at T O_init_DecodeError, PySem.W.mg_of X G a_byte_at, F_byte_at.kp, b_byte_at⟩
  have O_read_groups : DfX l.prog w K mg base 4 "read_groups" f_read_groups _ ["data", "place", "end", "bits"] (SpD ⟨K, w, (fun n => match n with | 0 => f_write_unsigned | 1 => f_byte_at | 2 => f_read_groups | 3 => f_read_unsigned | 4 => f_read_index | 5 => f_character | 6 => f_read_items | 7 => f_read_character | 8 => f_read_name | 9 => f_write_sized | 10 => f_write_name | 11 => f_l_mixed | 12 => f_l_take | 13 => f_l_char | 14 => f_l_name | 15 => f_l_is_bytes | 16 => f_l_due | 17 => f_l_told | 18 => f_l_right | 1000 => c_HostError | 1001 => c_DecodeError | 2001 => fi_DecodeError | _ => 0)⟩ m_read_groups) := ⟨ok_read_groups (ad := (fun n => match n with | 0 => f_write_unsigned | 1 => f_byte_at | 2 => f_read_groups | 3 => f_read_unsigned | 4 => f_read_index | 5 => f_character | 6 => f_read_items | 7 => f_read_character | 8 => f_read_name | 9 => f_write_sized | 10 => f_write_name | 11 => f_l_mixed | 12 => f_l_take | 13 => f_l_char | 14 => f_l_name | 15 => f_l_is_bytes | 16 => f_l_due | 17 => f_l_told | 18 => f_l_right | 1000 => c_HostError | 1001 => c_DecodeError | 2001 => fi_DecodeError | _ => 0)) F_read_groups T O_byte_at O_init_DecodeError, PySem.W.mg_of X G a_read_groups, F_read_groups.kp, b_read_groups⟩
  have O_read_unsigned : DfX l.prog w K mg base 5 "read_unsigned" f_read_unsigned _ ["data", "place", "end", "bits"] (SpD ⟨K, w, (fun n => match n with | 0 => f_write_unsigned | 1 => f_byte_at | 2 => f_read_groups | 3 => f_read_unsigned | 4 => f_read_index | 5 => f_character | 6 => f_read_items | 7 => f_read_character | 8 => f_read_name | 9 => f_write_sized | 10 => f_write_name | 11 => f_l_mixed | 12 => f_l_take | 13 => f_l_char | 14 => f_l_name | 15 => f_l_is_bytes | 16 => f_l_due | 17 => f_l_told | 18 => f_l_right | 1000 => c_HostError | 1001 => c_DecodeError | 2001 => fi_DecodeError | _ => 0)⟩ m_read_unsigned) := ⟨ok_read_unsigned (ad := (fun n => match n with | 0 => f_write_unsigned | 1 => f_byte_at | 2 => f_read_groups | 3 => f_read_unsigned | 4 => f_read_index | 5 => f_character | 6 => f_read_items | 7 => f_read_character | 8 => f_read_name | 9 => f_write_sized | 10 => f_write_name | 11 => f_l_mixed | 12 => f_l_take | 13 => f_l_char | 14 => f_l_name | 15 => f_l_is_bytes | 16 => f_l_due | 17 => f_l_told | 18 => f_l_right | 1000 => c_HostError | 1001 => c_DecodeError | 2001 => fi_DecodeError | _ => 0)) F_read_unsigned T O_read_groups O_init_DecodeError, PySem.W.mg_of X G a_read_unsigned, F_read_unsigned.kp, b_read_unsigned⟩
  have O_read_index : DfX l.prog w K mg base 6 "read_index" f_read_index _ ["data", "place", "end"] (SpD ⟨K, w, (fun n => match n with | 0 => f_write_unsigned | 1 => f_byte_at | 2 => f_read_groups | 3 => f_read_unsigned | 4 => f_read_index | 5 => f_character | 6 => f_read_items | 7 => f_read_character | 8 => f_read_name | 9 => f_write_sized | 10 => f_write_name | 11 => f_l_mixed | 12 => f_l_take | 13 => f_l_char | 14 => f_l_name | 15 => f_l_is_bytes | 16 => f_l_due | 17 => f_l_told | 18 => f_l_right | 1000 => c_HostError | 1001 => c_DecodeError | 2001 => fi_DecodeError | _ => 0)⟩ m_read_index) := ⟨ok_read_index (ad := (fun n => match n with | 0 => f_write_unsigned | 1 => f_byte_at | 2 => f_read_groups | 3 => f_read_unsigned | 4 => f_read_index | 5 => f_character | 6 => f_read_items | 7 => f_read_character | 8 => f_read_name | 9 => f_write_sized | 10 => f_write_name | 11 => f_l_mixed | 12 => f_l_take | 13 => f_l_char | 14 => f_l_name | 15 => f_l_is_bytes | 16 => f_l_due | 17 => f_l_told | 18 => f_l_right | 1000 => c_HostError | 1001 => c_DecodeError | 2001 => fi_DecodeError | _ => 0)) F_read_index T O_read_unsigned, PySem.W.mg_of X G a_read_index, F_read_index.kp, b_read_index⟩
  have O_character : DfX l.prog w K mg base 1 "character" f_character _ ["code"] (SpD ⟨K, w, (fun n => match n with | 0 => f_write_unsigned | 1 => f_byte_at | 2 => f_read_groups | 3 => f_read_unsigned | 4 => f_read_index | 5 => f_character | 6 => f_read_items | 7 => f_read_character | 8 => f_read_name | 9 => f_write_sized | 10 => f_write_name | 11 => f_l_mixed | 12 => f_l_take | 13 => f_l_char | 14 => f_l_name | 15 => f_l_is_bytes | 16 => f_l_due | 17 => f_l_told | 18 => f_l_right | 1000 => c_HostError | 1001 => c_DecodeError | 2001 => fi_DecodeError | _ => 0)⟩ m_character) := ⟨ok_character (ad := (fun n => match n with | 0 => f_write_unsigned | 1 => f_byte_at | 2 => f_read_groups | 3 => f_read_unsigned | 4 => f_read_index | 5 => f_character | 6 => f_read_items | 7 => f_read_character | 8 => f_read_name | 9 => f_write_sized | 10 => f_write_name | 11 => f_l_mixed | 12 => f_l_take | 13 => f_l_char | 14 => f_l_name | 15 => f_l_is_bytes | 16 => f_l_due | 17 => f_l_told | 18 => f_l_right | 1000 => c_HostError | 1001 => c_DecodeError | 2001 => fi_DecodeError | _ => 0)) F_character T, PySem.W.mg_of X G a_character, F_character.kp, b_character⟩
  have O_read_character : DfX l.prog w K mg base 4 "read_character" f_read_character _ ["data", "place", "end"] (SpD ⟨K, w, (fun n => match n with | 0 => f_write_unsigned | 1 => f_byte_at | 2 => f_read_groups | 3 => f_read_unsigned | 4 => f_read_index | 5 => f_character | 6 => f_read_items | 7 => f_read_character | 8 => f_read_name | 9 => f_write_sized | 10 => f_write_name | 11 => f_l_mixed | 12 => f_l_take | 13 => f_l_char | 14 => f_l_name | 15 => f_l_is_bytes | 16 => f_l_due | 17 => f_l_told | 18 => f_l_right | 1000 => c_HostError | 1001 => c_DecodeError | 2001 => fi_DecodeError | _ => 0)⟩ m_read_character) := ⟨ok_read_character (ad := (fun n => match n with | 0 => f_write_unsigned | 1 => f_byte_at | 2 => f_read_groups | 3 => f_read_unsigned | 4 => f_read_index | 5 => f_character | 6 => f_read_items | 7 => f_read_character | 8 => f_read_name | 9 => f_write_sized | 10 => f_write_name | 11 => f_l_mixed | 12 => f_l_take | 13 => f_l_char | 14 => f_l_name | 15 => f_l_is_bytes | 16 => f_l_due | 17 => f_l_told | 18 => f_l_right | 1000 => c_HostError | 1001 => c_DecodeError | 2001 => fi_DecodeError | _ => 0)) F_read_character T O_byte_at O_character O_init_DecodeError, PySem.W.mg_of X G a_read_character, F_read_character.kp, b_read_character⟩
  have O_read_items : DfX l.prog w K mg base 5 "read_items" f_read_items _ ["data", "place", "end", "count", "read_item"] (SpD ⟨K, w, (fun n => match n with | 0 => f_write_unsigned | 1 => f_byte_at | 2 => f_read_groups | 3 => f_read_unsigned | 4 => f_read_index | 5 => f_character | 6 => f_read_items | 7 => f_read_character | 8 => f_read_name | 9 => f_write_sized | 10 => f_write_name | 11 => f_l_mixed | 12 => f_l_take | 13 => f_l_char | 14 => f_l_name | 15 => f_l_is_bytes | 16 => f_l_due | 17 => f_l_told | 18 => f_l_right | 1000 => c_HostError | 1001 => c_DecodeError | 2001 => fi_DecodeError | _ => 0)⟩ m_read_items) := ⟨ok_read_items (ad := (fun n => match n with | 0 => f_write_unsigned | 1 => f_byte_at | 2 => f_read_groups | 3 => f_read_unsigned | 4 => f_read_index | 5 => f_character | 6 => f_read_items | 7 => f_read_character | 8 => f_read_name | 9 => f_write_sized | 10 => f_write_name | 11 => f_l_mixed | 12 => f_l_take | 13 => f_l_char | 14 => f_l_name | 15 => f_l_is_bytes | 16 => f_l_due | 17 => f_l_told | 18 => f_l_right | 1000 => c_HostError | 1001 => c_DecodeError | 2001 => fi_DecodeError | _ => 0)) F_read_items T O_read_character, PySem.W.mg_of X G a_read_items, F_read_items.kp, b_read_items⟩
  have O_read_name : DfX l.prog w K mg base 7 "read_name" f_read_name _ ["data", "place", "end"] (SpD ⟨K, w, (fun n => match n with | 0 => f_write_unsigned | 1 => f_byte_at | 2 => f_read_groups | 3 => f_read_unsigned | 4 => f_read_index | 5 => f_character | 6 => f_read_items | 7 => f_read_character | 8 => f_read_name | 9 => f_write_sized | 10 => f_write_name | 11 => f_l_mixed | 12 => f_l_take | 13 => f_l_char | 14 => f_l_name | 15 => f_l_is_bytes | 16 => f_l_due | 17 => f_l_told | 18 => f_l_right | 1000 => c_HostError | 1001 => c_DecodeError | 2001 => fi_DecodeError | _ => 0)⟩ m_read_name) := ⟨ok_read_name (ad := (fun n => match n with | 0 => f_write_unsigned | 1 => f_byte_at | 2 => f_read_groups | 3 => f_read_unsigned | 4 => f_read_index | 5 => f_character | 6 => f_read_items | 7 => f_read_character | 8 => f_read_name | 9 => f_write_sized | 10 => f_write_name | 11 => f_l_mixed | 12 => f_l_take | 13 => f_l_char | 14 => f_l_name | 15 => f_l_is_bytes | 16 => f_l_due | 17 => f_l_told | 18 => f_l_right | 1000 => c_HostError | 1001 => c_DecodeError | 2001 => fi_DecodeError | _ => 0)) F_read_name T O_read_index O_read_items O_read_character O_init_DecodeError, PySem.W.mg_of X G a_read_name, F_read_name.kp, b_read_name⟩
  have O_write_sized : DfX l.prog w K mg base 2 "write_sized" f_write_sized _ ["content"] (SpD ⟨K, w, (fun n => match n with | 0 => f_write_unsigned | 1 => f_byte_at | 2 => f_read_groups | 3 => f_read_unsigned | 4 => f_read_index | 5 => f_character | 6 => f_read_items | 7 => f_read_character | 8 => f_read_name | 9 => f_write_sized | 10 => f_write_name | 11 => f_l_mixed | 12 => f_l_take | 13 => f_l_char | 14 => f_l_name | 15 => f_l_is_bytes | 16 => f_l_due | 17 => f_l_told | 18 => f_l_right | 1000 => c_HostError | 1001 => c_DecodeError | 2001 => fi_DecodeError | _ => 0)⟩ m_write_sized) := ⟨ok_write_sized (ad := (fun n => match n with | 0 => f_write_unsigned | 1 => f_byte_at | 2 => f_read_groups | 3 => f_read_unsigned | 4 => f_read_index | 5 => f_character | 6 => f_read_items | 7 => f_read_character | 8 => f_read_name | 9 => f_write_sized | 10 => f_write_name | 11 => f_l_mixed | 12 => f_l_take | 13 => f_l_char | 14 => f_l_name | 15 => f_l_is_bytes | 16 => f_l_due | 17 => f_l_told | 18 => f_l_right | 1000 => c_HostError | 1001 => c_DecodeError | 2001 => fi_DecodeError | _ => 0)) F_write_sized T O_write_unsigned, PySem.W.mg_of X G a_write_sized, F_write_sized.kp, b_write_sized⟩
  have O_write_name : DfX l.prog w K mg base 3 "write_name" f_write_name _ ["name"] (SpD ⟨K, w, (fun n => match n with | 0 => f_write_unsigned | 1 => f_byte_at | 2 => f_read_groups | 3 => f_read_unsigned | 4 => f_read_index | 5 => f_character | 6 => f_read_items | 7 => f_read_character | 8 => f_read_name | 9 => f_write_sized | 10 => f_write_name | 11 => f_l_mixed | 12 => f_l_take | 13 => f_l_char | 14 => f_l_name | 15 => f_l_is_bytes | 16 => f_l_due | 17 => f_l_told | 18 => f_l_right | 1000 => c_HostError | 1001 => c_DecodeError | 2001 => fi_DecodeError | _ => 0)⟩ m_write_name) := ⟨ok_write_name (ad := (fun n => match n with | 0 => f_write_unsigned | 1 => f_byte_at | 2 => f_read_groups | 3 => f_read_unsigned | 4 => f_read_index | 5 => f_character | 6 => f_read_items | 7 => f_read_character | 8 => f_read_name | 9 => f_write_sized | 10 => f_write_name | 11 => f_l_mixed | 12 => f_l_take | 13 => f_l_char | 14 => f_l_name | 15 => f_l_is_bytes | 16 => f_l_due | 17 => f_l_told | 18 => f_l_right | 1000 => c_HostError | 1001 => c_DecodeError | 2001 => fi_DecodeError | _ => 0)) F_write_name T O_write_sized, PySem.W.mg_of X G a_write_name, F_write_name.kp, b_write_name⟩
  have O_l_mixed : DfX l.prog w K mg base 1 "_law_mixed" f_l_mixed _ ["_law_cell"] (SpD ⟨K, w, (fun n => match n with | 0 => f_write_unsigned | 1 => f_byte_at | 2 => f_read_groups | 3 => f_read_unsigned | 4 => f_read_index | 5 => f_character | 6 => f_read_items | 7 => f_read_character | 8 => f_read_name | 9 => f_write_sized | 10 => f_write_name | 11 => f_l_mixed | 12 => f_l_take | 13 => f_l_char | 14 => f_l_name | 15 => f_l_is_bytes | 16 => f_l_due | 17 => f_l_told | 18 => f_l_right | 1000 => c_HostError | 1001 => c_DecodeError | 2001 => fi_DecodeError | _ => 0)⟩ m_l_mixed) := ⟨ok_l_mixed (ad := (fun n => match n with | 0 => f_write_unsigned | 1 => f_byte_at | 2 => f_read_groups | 3 => f_read_unsigned | 4 => f_read_index | 5 => f_character | 6 => f_read_items | 7 => f_read_character | 8 => f_read_name | 9 => f_write_sized | 10 => f_write_name | 11 => f_l_mixed | 12 => f_l_take | 13 => f_l_char | 14 => f_l_name | 15 => f_l_is_bytes | 16 => f_l_due | 17 => f_l_told | 18 => f_l_right | 1000 => c_HostError | 1001 => c_DecodeError | 2001 => fi_DecodeError | _ => 0)) F_l_mixed T, PySem.W.mg_of X G a_l_mixed, F_l_mixed.kp, b_l_mixed⟩
  have O_l_take : DfX l.prog w K mg base 2 "_law_take" f_l_take _ ["_law_state", "_law_limit"] (SpD ⟨K, w, (fun n => match n with | 0 => f_write_unsigned | 1 => f_byte_at | 2 => f_read_groups | 3 => f_read_unsigned | 4 => f_read_index | 5 => f_character | 6 => f_read_items | 7 => f_read_character | 8 => f_read_name | 9 => f_write_sized | 10 => f_write_name | 11 => f_l_mixed | 12 => f_l_take | 13 => f_l_char | 14 => f_l_name | 15 => f_l_is_bytes | 16 => f_l_due | 17 => f_l_told | 18 => f_l_right | 1000 => c_HostError | 1001 => c_DecodeError | 2001 => fi_DecodeError | _ => 0)⟩ m_l_take) := ⟨ok_l_take (ad := (fun n => match n with | 0 => f_write_unsigned | 1 => f_byte_at | 2 => f_read_groups | 3 => f_read_unsigned | 4 => f_read_index | 5 => f_character | 6 => f_read_items | 7 => f_read_character | 8 => f_read_name | 9 => f_write_sized | 10 => f_write_name | 11 => f_l_mixed | 12 => f_l_take | 13 => f_l_char | 14 => f_l_name | 15 => f_l_is_bytes | 16 => f_l_due | 17 => f_l_told | 18 => f_l_right | 1000 => c_HostError | 1001 => c_DecodeError | 2001 => fi_DecodeError | _ => 0)) F_l_take T O_l_mixed, PySem.W.mg_of X G a_l_take, F_l_take.kp, b_l_take⟩
  have O_l_char : DfX l.prog w K mg base 1 "_law_char" f_l_char _ ["_law_number"] (SpD ⟨K, w, (fun n => match n with | 0 => f_write_unsigned | 1 => f_byte_at | 2 => f_read_groups | 3 => f_read_unsigned | 4 => f_read_index | 5 => f_character | 6 => f_read_items | 7 => f_read_character | 8 => f_read_name | 9 => f_write_sized | 10 => f_write_name | 11 => f_l_mixed | 12 => f_l_take | 13 => f_l_char | 14 => f_l_name | 15 => f_l_is_bytes | 16 => f_l_due | 17 => f_l_told | 18 => f_l_right | 1000 => c_HostError | 1001 => c_DecodeError | 2001 => fi_DecodeError | _ => 0)⟩ m_l_char) := ⟨ok_l_char (ad := (fun n => match n with | 0 => f_write_unsigned | 1 => f_byte_at | 2 => f_read_groups | 3 => f_read_unsigned | 4 => f_read_index | 5 => f_character | 6 => f_read_items | 7 => f_read_character | 8 => f_read_name | 9 => f_write_sized | 10 => f_write_name | 11 => f_l_mixed | 12 => f_l_take | 13 => f_l_char | 14 => f_l_name | 15 => f_l_is_bytes | 16 => f_l_due | 17 => f_l_told | 18 => f_l_right | 1000 => c_HostError | 1001 => c_DecodeError | 2001 => fi_DecodeError | _ => 0)) F_l_char T, PySem.W.mg_of X G a_l_char, F_l_char.kp, b_l_char⟩
  have O_l_name : DfX l.prog w K mg base 3 "_law_name" f_l_name _ ["_law_state"] (SpD ⟨K, w, (fun n => match n with | 0 => f_write_unsigned | 1 => f_byte_at | 2 => f_read_groups | 3 => f_read_unsigned | 4 => f_read_index | 5 => f_character | 6 => f_read_items | 7 => f_read_character | 8 => f_read_name | 9 => f_write_sized | 10 => f_write_name | 11 => f_l_mixed | 12 => f_l_take | 13 => f_l_char | 14 => f_l_name | 15 => f_l_is_bytes | 16 => f_l_due | 17 => f_l_told | 18 => f_l_right | 1000 => c_HostError | 1001 => c_DecodeError | 2001 => fi_DecodeError | _ => 0)⟩ m_l_name) := ⟨ok_l_name (ad := (fun n => match n with | 0 => f_write_unsigned | 1 => f_byte_at | 2 => f_read_groups | 3 => f_read_unsigned | 4 => f_read_index | 5 => f_character | 6 => f_read_items | 7 => f_read_character | 8 => f_read_name | 9 => f_write_sized | 10 => f_write_name | 11 => f_l_mixed | 12 => f_l_take | 13 => f_l_char | 14 => f_l_name | 15 => f_l_is_bytes | 16 => f_l_due | 17 => f_l_told | 18 => f_l_right | 1000 => c_HostError | 1001 => c_DecodeError | 2001 => fi_DecodeError | _ => 0)) F_l_name T O_l_take O_l_char, PySem.W.mg_of X G a_l_name, F_l_name.kp, b_l_name⟩
  have O_l_is_bytes : DfX l.prog w K mg base 1 "_law_is_bytes" f_l_is_bytes _ ["_law_data"] (SpD ⟨K, w, (fun n => match n with | 0 => f_write_unsigned | 1 => f_byte_at | 2 => f_read_groups | 3 => f_read_unsigned | 4 => f_read_index | 5 => f_character | 6 => f_read_items | 7 => f_read_character | 8 => f_read_name | 9 => f_write_sized | 10 => f_write_name | 11 => f_l_mixed | 12 => f_l_take | 13 => f_l_char | 14 => f_l_name | 15 => f_l_is_bytes | 16 => f_l_due | 17 => f_l_told | 18 => f_l_right | 1000 => c_HostError | 1001 => c_DecodeError | 2001 => fi_DecodeError | _ => 0)⟩ m_l_is_bytes) := ⟨ok_l_is_bytes (ad := (fun n => match n with | 0 => f_write_unsigned | 1 => f_byte_at | 2 => f_read_groups | 3 => f_read_unsigned | 4 => f_read_index | 5 => f_character | 6 => f_read_items | 7 => f_read_character | 8 => f_read_name | 9 => f_write_sized | 10 => f_write_name | 11 => f_l_mixed | 12 => f_l_take | 13 => f_l_char | 14 => f_l_name | 15 => f_l_is_bytes | 16 => f_l_due | 17 => f_l_told | 18 => f_l_right | 1000 => c_HostError | 1001 => c_DecodeError | 2001 => fi_DecodeError | _ => 0)) F_l_is_bytes T, PySem.W.mg_of X G a_l_is_bytes, F_l_is_bytes.kp, b_l_is_bytes⟩
  have O_l_due : DfX l.prog w K mg base 2 "_law_due" f_l_due _ ["_law_data", "_law_place", "_law_end"] (SpD ⟨K, w, (fun n => match n with | 0 => f_write_unsigned | 1 => f_byte_at | 2 => f_read_groups | 3 => f_read_unsigned | 4 => f_read_index | 5 => f_character | 6 => f_read_items | 7 => f_read_character | 8 => f_read_name | 9 => f_write_sized | 10 => f_write_name | 11 => f_l_mixed | 12 => f_l_take | 13 => f_l_char | 14 => f_l_name | 15 => f_l_is_bytes | 16 => f_l_due | 17 => f_l_told | 18 => f_l_right | 1000 => c_HostError | 1001 => c_DecodeError | 2001 => fi_DecodeError | _ => 0)⟩ m_l_due) := ⟨ok_l_due (ad := (fun n => match n with | 0 => f_write_unsigned | 1 => f_byte_at | 2 => f_read_groups | 3 => f_read_unsigned | 4 => f_read_index | 5 => f_character | 6 => f_read_items | 7 => f_read_character | 8 => f_read_name | 9 => f_write_sized | 10 => f_write_name | 11 => f_l_mixed | 12 => f_l_take | 13 => f_l_char | 14 => f_l_name | 15 => f_l_is_bytes | 16 => f_l_due | 17 => f_l_told | 18 => f_l_right | 1000 => c_HostError | 1001 => c_DecodeError | 2001 => fi_DecodeError | _ => 0)) F_l_due T O_l_char, PySem.W.mg_of X G a_l_due, F_l_due.kp, b_l_due⟩
  have O_l_told : DfX l.prog w K mg base 8 "_law_told" f_l_told _ ["_law_data", "_law_place", "_law_end"] (SpD ⟨K, w, (fun n => match n with | 0 => f_write_unsigned | 1 => f_byte_at | 2 => f_read_groups | 3 => f_read_unsigned | 4 => f_read_index | 5 => f_character | 6 => f_read_items | 7 => f_read_character | 8 => f_read_name | 9 => f_write_sized | 10 => f_write_name | 11 => f_l_mixed | 12 => f_l_take | 13 => f_l_char | 14 => f_l_name | 15 => f_l_is_bytes | 16 => f_l_due | 17 => f_l_told | 18 => f_l_right | 1000 => c_HostError | 1001 => c_DecodeError | 2001 => fi_DecodeError | _ => 0)⟩ m_l_told) := ⟨ok_l_told (ad := (fun n => match n with | 0 => f_write_unsigned | 1 => f_byte_at | 2 => f_read_groups | 3 => f_read_unsigned | 4 => f_read_index | 5 => f_character | 6 => f_read_items | 7 => f_read_character | 8 => f_read_name | 9 => f_write_sized | 10 => f_write_name | 11 => f_l_mixed | 12 => f_l_take | 13 => f_l_char | 14 => f_l_name | 15 => f_l_is_bytes | 16 => f_l_due | 17 => f_l_told | 18 => f_l_right | 1000 => c_HostError | 1001 => c_DecodeError | 2001 => fi_DecodeError | _ => 0)) F_l_told T O_read_name, PySem.W.mg_of X G a_l_told, F_l_told.kp, b_l_told⟩
  have O_l_right : DfX l.prog w K mg base 9 "_law_right" f_l_right _ ["_law_data", "_law_place", "_law_end"] (SpD ⟨K, w, (fun n => match n with | 0 => f_write_unsigned | 1 => f_byte_at | 2 => f_read_groups | 3 => f_read_unsigned | 4 => f_read_index | 5 => f_character | 6 => f_read_items | 7 => f_read_character | 8 => f_read_name | 9 => f_write_sized | 10 => f_write_name | 11 => f_l_mixed | 12 => f_l_take | 13 => f_l_char | 14 => f_l_name | 15 => f_l_is_bytes | 16 => f_l_due | 17 => f_l_told | 18 => f_l_right | 1000 => c_HostError | 1001 => c_DecodeError | 2001 => fi_DecodeError | _ => 0)⟩ m_l_right) := ⟨ok_l_right (ad := (fun n => match n with | 0 => f_write_unsigned | 1 => f_byte_at | 2 => f_read_groups | 3 => f_read_unsigned | 4 => f_read_index | 5 => f_character | 6 => f_read_items | 7 => f_read_character | 8 => f_read_name | 9 => f_write_sized | 10 => f_write_name | 11 => f_l_mixed | 12 => f_l_take | 13 => f_l_char | 14 => f_l_name | 15 => f_l_is_bytes | 16 => f_l_due | 17 => f_l_told | 18 => f_l_right | 1000 => c_HostError | 1001 => c_DecodeError | 2001 => fi_DecodeError | _ => 0)) F_l_right T O_l_due O_l_told, PySem.W.mg_of X G a_l_right, F_l_right.kp, b_l_right⟩
  exact Lk13.ok_law (ad := (fun n => match n with | 0 => f_write_unsigned | 1 => f_byte_at | 2 => f_read_groups | 3 => f_read_unsigned | 4 => f_read_index | 5 => f_character | 6 => f_read_items | 7 => f_read_character | 8 => f_read_name | 9 => f_write_sized | 10 => f_write_name | 11 => f_l_mixed | 12 => f_l_take | 13 => f_l_char | 14 => f_l_name | 15 => f_l_is_bytes | 16 => f_l_due | 17 => f_l_told | 18 => f_l_right | 1000 => c_HostError | 1001 => c_DecodeError | 2001 => fi_DecodeError | _ => 0)) F_law T O_write_name O_l_take O_l_name O_l_is_bytes O_l_right
end Lk13
set_option Elab.async false
set_option linter.all false
set_option maxRecDepth 100000
set_option maxHeartbeats 4000000

open PySem PySem.W PyProof.Rows
local macro_rules | `(tactic| walk_at "keysLit3") => `(tactic| first | exact True.intro | (refine ⟨⟨_, rfl⟩, rfl, ?_, ?_⟩; (first | exact ⟨_, rfl⟩ | exact rfl); walk_at "keysLit3"))
set_option maxRecDepth 100000 in
set_option maxHeartbeats 0 in
theorem PySem.Challenge.cw_wasmhost_k13_names_holds : PySem.Challenge.rw_wasmhost_k13_names.Holds := by
  w_on; o_law; k_head; (case hw => w_witness2)
  k_fill
  refine L2.walk_ofK (l := PySem.Challenge.rw_wasmhost_k13_names) (n := 63) (k := 10) (x := "_law_script") (CX := L2.CX0) (sp := Dm.sp_law) rfl (by decide) rfl ⟨rfl, by decide, by decide⟩ (fun w h Y => PySem.W.kIn_of Y) ?F (fun K H a ns hl _ hS => Dm.law_in hl hS) (fun _ _ _ _ h => h)
  case F =>
    intro w mg fa h KX G hmg
    refine' Lk13.all_mk KX G hmg ?a_write_unsigned ?l_write_unsigned ?c_write_unsigned ?k_write_unsigned ?a_byte_at ?l_byte_at ?c_byte_at ?k_byte_at ?a_read_groups ?l_read_groups ?c_read_groups ?k_read_groups ?a_read_unsigned ?l_read_unsigned ?c_read_unsigned ?k_read_unsigned ?a_read_index ?l_read_index ?c_read_index ?k_read_index ?a_character ?l_character ?c_character ?k_character ?a_read_items ?l_read_items ?c_read_items ?k_read_items ?a_read_character ?l_read_character ?c_read_character ?k_read_character ?a_read_name ?l_read_name ?c_read_name ?k_read_name ?a_write_sized ?l_write_sized ?c_write_sized ?k_write_sized ?a_write_name ?l_write_name ?c_write_name ?k_write_name ?a_l_mixed ?l_l_mixed ?c_l_mixed ?k_l_mixed ?a_l_take ?l_l_take ?c_l_take ?k_l_take ?a_l_char ?l_l_char ?c_l_char ?k_l_char ?a_l_name ?l_l_name ?c_l_name ?k_l_name ?a_l_is_bytes ?l_l_is_bytes ?c_l_is_bytes ?k_l_is_bytes ?a_l_due ?l_l_due ?c_l_due ?k_l_due ?a_l_told ?l_l_told ?c_l_told ?k_l_told ?a_l_right ?l_l_right ?c_l_right ?k_l_right ?a_law ?l_law ?c_law ?k_law ?z_abs ?z_bool ?z_int ?z_isinstance ?z_len ?z_list ?z_ord ?z_range ?z_str ?z_tuple ?v_CHARACTERS ?kd_CHARACTERS ?v_MOST_CHARACTERS ?cg_HostError ?cg_DecodeError ?kc_DecodeError ?eb_DecodeError ?ty_DecodeError ?ga_DecodeError ?gg_DecodeError ?xL_DecodeError ?sa_DecodeError ?nf0_DecodeError ?nf1_DecodeError ?ii_DecodeError ?ti_DecodeError ?hd_DecodeError ?l_init_DecodeError ?c_init_DecodeError ?k_init_DecodeError ?eb_HostError ?ty_HostError ?ic_HostError ?sc_DecodeError_HostError ?on ?ot ?ha_DecodeError ?hm_DecodeError ?yk_DecodeError_DecodeError
    (case a_write_unsigned => k_is)
    (case l_write_unsigned => k_is)
    (case c_write_unsigned => k_is)
    (case k_write_unsigned => k_is)
    (case a_byte_at => k_is)
    (case l_byte_at => k_is)
    (case c_byte_at => k_is)
    (case k_byte_at => k_is)
    (case a_read_groups => k_is)
    (case l_read_groups => k_is)
    (case c_read_groups => k_is)
    (case k_read_groups => k_is)
    (case a_read_unsigned => k_is)
    (case l_read_unsigned => k_is)
    (case c_read_unsigned => k_is)
    (case k_read_unsigned => k_is)
    (case a_read_index => k_is)
    (case l_read_index => k_is)
    (case c_read_index => k_is)
    (case k_read_index => k_is)
    (case a_character => k_is)
    (case l_character => k_is)
    (case c_character => k_is)
    (case k_character => k_is)
    (case a_read_items => k_is)
    (case l_read_items => k_is)
    (case c_read_items => k_is)
    (case k_read_items => k_is)
    (case a_read_character => k_is)
    (case l_read_character => k_is)
    (case c_read_character => k_is)
    (case k_read_character => k_is)
    (case a_read_name => k_is)
    (case l_read_name => k_is)
    (case c_read_name => k_is)
    (case k_read_name => k_is)
    (case a_write_sized => k_is)
    (case l_write_sized => k_is)
    (case c_write_sized => k_is)
    (case k_write_sized => k_is)
    (case a_write_name => k_is)
    (case l_write_name => k_is)
    (case c_write_name => k_is)
    (case k_write_name => k_is)
    (case a_l_mixed => k_is)
    (case l_l_mixed => k_is)
    (case c_l_mixed => k_is)
    (case k_l_mixed => k_is)
    (case a_l_take => k_is)
    (case l_l_take => k_is)
    (case c_l_take => k_is)
    (case k_l_take => k_is)
    (case a_l_char => k_is)
    (case l_l_char => k_is)
    (case c_l_char => k_is)
    (case k_l_char => k_is)
    (case a_l_name => k_is)
    (case l_l_name => k_is)
    (case c_l_name => k_is)
    (case k_l_name => k_is)
    (case a_l_is_bytes => k_is)
    (case l_l_is_bytes => k_is)
    (case c_l_is_bytes => k_is)
    (case k_l_is_bytes => k_is)
    (case a_l_due => k_is)
    (case l_l_due => k_is)
    (case c_l_due => k_is)
    (case k_l_due => k_is)
    (case a_l_told => k_is)
    (case l_l_told => k_is)
    (case c_l_told => k_is)
    (case k_l_told => k_is)
    (case a_l_right => k_is)
    (case l_l_right => k_is)
    (case c_l_right => k_is)
    (case k_l_right => k_is)
    (case a_law => k_is)
    (case l_law => k_is)
    (case c_law => k_is)
    (case k_law => k_is)
    (case z_abs => k_is)
    (case z_bool => k_is)
    (case z_int => k_is)
    (case z_isinstance => k_is)
    (case z_len => k_is)
    (case z_list => k_is)
    (case z_ord => k_is)
    (case z_range => k_is)
    (case z_str => k_is)
    (case z_tuple => k_is)
    (case v_CHARACTERS => k_is)
    (case kd_CHARACTERS => first | rfl | decide +kernel)
    (case v_MOST_CHARACTERS => k_is)
    (case cg_HostError => k_is)
    (case cg_DecodeError => k_is)
    (case kc_DecodeError => k_is)
    (case eb_DecodeError => k_is)
    (case ty_DecodeError => k_is)
    (case ga_DecodeError => k_is)
    (case gg_DecodeError => k_is)
    (case xL_DecodeError => k_is)
    (case sa_DecodeError => k_is)
    (case nf0_DecodeError => k_is)
    (case nf1_DecodeError => k_is)
    (case ii_DecodeError => k_is)
    (case ti_DecodeError => k_is)
    (case hd_DecodeError => k_is)
    (case l_init_DecodeError => k_is)
    (case c_init_DecodeError => k_is)
    (case k_init_DecodeError => k_is)
    (case eb_HostError => k_is)
    (case ty_HostError => k_is)
    (case ic_HostError => k_is)
    (case sc_DecodeError_HostError => k_is)
    (case on => k_is)
    (case ot => k_is)
    (case ha_DecodeError => k_is)
    (case hm_DecodeError => k_is)
    (case yk_DecodeError_DecodeError => kit_is)
