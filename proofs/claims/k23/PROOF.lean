import PyProof.Rows.All
import Wide.All
import OpenK.AllK
import Wide.FinOn
import HandS.ForMost
import HandS.Evl
import HandS.IsInst
import HandS.Flow
import HandS.More
import HandS.Zip
import HandS.CallLocal
import HandS.Style
import HandS.Wide
import HandS.ForExc
import HandS.ExcInit
import HandS.ExcField
import HandS.StrMore
import HandS.WideBits
import HandS.TupAny
import HandS.Walk
import HandS.Rev
import KE.KExcIs
import HandS.Strs
import PyProof.Rows.SortShellAny
import HandS.Codes
import PySem.Challenge.RW_wasmhost_k23_strings_come_back
set_option Elab.async false
set_option linter.all false
set_option maxRecDepth 100000
set_option maxHeartbeats 4000000
/-! My own layer over HandS.Evl: statements relative to a ground heap, tests as propositions. -/
namespace Wm
open PySem L2 Evl RZ
/-- a call's promise of a new tuple -/
def SpU (sp : Sp) (vs : List V) (H : Hp) (xs : List V) : Prop := ∀ H1, Ex H H1 → ∀ Q : VK, (∀ p H2, H1 p = none → Ex H1 H2 → H2 p = some (.tup xs) → Q (.ref p) H2) → ∀ E : XK, sp vs H1 Q E
/-- a test, told by a proposition -/
def EtP (t : TT) (σ : L2.St) (H : Hp) (p : Prop) : Prop := ∃ b : Bool, (b = true ↔ p) ∧ EvT t σ H b
section
variable {K : PySem.W.Frag} {σ : L2.St} {H H0 H1 H' : Hp} {ta tb tc te tx : TE} {t u : TT} {x y z v : V} {r : R2} {D : Ends} {tu tw tz : TS} {p q : Prop} {g : TG}
theorem EtP.mono (e : Ex H H') (h : EtP t σ H p) : EtP t σ H' p := by
  obtain ⟨b, hb, h⟩ := h
  exact ⟨b, hb, h.mono e⟩
theorem EtP.to (h : EtP t σ H p) (e : p ↔ q) : EtP t σ H q := by
  obtain ⟨b, hb, h⟩ := h
  exact ⟨b, hb.trans e, h⟩
theorem ep_val {b : Bool} (h : Ev te σ H (.bl b)) : EtP (tB te) σ H (b = true) := ⟨b, Iff.rfl, et_B h⟩
theorem ep_test {b : Bool} (h : Ev te σ H (.bl b)) : EtP (tTest te) σ H (b = true) := ⟨b, Iff.rfl, et_test h⟩
theorem ep_dec {p : Prop} [Decidable p] (h : Ev te σ H (.bl (decide p))) : EtP (tTest te) σ H p := ⟨decide p, decide_eq_true_iff, et_test h⟩
theorem ep_ndec {p : Prop} [Decidable p] (h : Ev te σ H (.bl (!decide p))) : EtP (tTest te) σ H (¬ p) := ⟨!decide p, by simp, et_test h⟩
theorem ep_and (h1 : EtP t σ H p) (h2 : p → EtP u σ H q) : EtP (tAnd t u) σ H (p ∧ q) := by
  obtain ⟨a, ha, h1⟩ := h1
  by_cases hp : p
  · obtain ⟨b, hb, h2⟩ := h2 hp
    exact ⟨a && b, by rw [Bool.and_eq_true, ha, hb], et_and h1 fun _ => h2⟩
  · have e : a = false := by
      cases a with
      | true => exact absurd (ha.mp rfl) hp
      | false => rfl
    subst e
    refine ⟨false && false, ⟨fun z => (by cases z), fun z => absurd z.1 hp⟩, et_and h1 fun z => (by cases z)⟩
theorem ep_or (h1 : EtP t σ H p) (h2 : ¬ p → EtP u σ H q) : EtP (tOr t u) σ H (p ∨ q) := by
  obtain ⟨a, ha, h1⟩ := h1
  by_cases hp : p
  · have e : a = true := ha.mpr hp
    subst e
    refine ⟨true || false, ⟨fun _ => Or.inl hp, fun _ => rfl⟩, et_or h1 fun z => (by cases z)⟩
  · obtain ⟨b, hb, h2⟩ := h2 hp
    exact ⟨a || b, by rw [Bool.or_eq_true, ha, hb], et_or h1 fun _ => h2⟩
theorem ep_not (h1 : EtP t σ H p) : EtP (tNot t) σ H (¬ p) := by
  obtain ⟨a, ha, h1⟩ := h1
  refine ⟨!a, ?_, et_not h1⟩
  rw [← ha]
  cases a <;> simp
/-! values -/
theorem rv_eqI {i j : Int} : RV rEq (.int i) (.int j) H (.bl (decide (i = j))) := fun H1 _ Q q => ⟨rfl, by
  have e : decide (V.int i = V.int j) = decide (i = j) := by
    by_cases h : i = j
    · subst h; simp
    · rw [decide_eq_false h, decide_eq_false fun z => h (V.int.inj z)]
  rw [e]
  exact q H1 (Ex.refl H1)⟩
theorem rv_neI {i j : Int} : RV rNe (.int i) (.int j) H (.bl (!decide (i = j))) := fun H1 _ Q q => ⟨rfl, by
  have e : decide (V.int i = V.int j) = decide (i = j) := by
    by_cases h : i = j
    · subst h; simp
    · rw [decide_eq_false h, decide_eq_false fun z => h (V.int.inj z)]
  rw [e]
  exact q H1 (Ex.refl H1)⟩
theorem rv_eqS {i j : Str} : RV rEq (.str i) (.str j) H (.bl (decide (i = j))) := fun H1 _ Q q => ⟨rfl, by
  have e : decide (V.str i = V.str j) = decide (i = j) := by
    by_cases h : i = j
    · subst h; simp
    · rw [decide_eq_false h, decide_eq_false fun z => h (V.str.inj z)]
  rw [e]
  exact q H1 (Ex.refl H1)⟩
theorem rv_neS {i j : Str} : RV rNe (.str i) (.str j) H (.bl (!decide (i = j))) := fun H1 _ Q q => ⟨rfl, by
  have e : decide (V.str i = V.str j) = decide (i = j) := by
    by_cases h : i = j
    · subst h; simp
    · rw [decide_eq_false h, decide_eq_false fun z => h (V.str.inj z)]
  rw [e]
  exact q H1 (Ex.refl H1)⟩
theorem rv_eqB {i j : Bool} : RV rEq (.bl i) (.bl j) H (.bl (decide (i = j))) := fun H1 _ Q q => ⟨rfl, by
  have e : decide (V.bl i = V.bl j) = decide (i = j) := by
    by_cases h : i = j
    · subst h; simp
    · rw [decide_eq_false h, decide_eq_false fun z => h (V.bl.inj z)]
  rw [e]
  exact q H1 (Ex.refl H1)⟩
def rAddS2 : R2 := fun x y H Q => ∃ i j, x = .str i ∧ y = .str j ∧ i.length + j.length ≤ sizeLine ∧ Q (.str (i ++ j)) H
theorem rv_addS {i j : Str} (h : i.length + j.length ≤ 100000) : RV rAddS2 (.str i) (.str j) H (.str (i ++ j)) := fun H1 _ Q q => ⟨i, j, rfl, rfl, sz_of h, q H1 (Ex.refl H1)⟩
theorem flat_strs : ∀ l : List Str, (l.map V.str).all flatV = true
  | [] => rfl
  | _ :: r => by
    show (true && (r.map V.str).all flatV) = true
    rw [flat_strs r]
    rfl
theorem inV_strs (z : Str) : ∀ l : List Str, inV (.str z) (l.map V.str) = decide (z ∈ l)
  | [] => rfl
  | y :: r => by
    have ih := inV_strs z r
    unfold inV at ih ⊢
    rw [List.map_cons, List.any_cons, ih]
    have e : eqV (.str y) (.str z) = decide (y = z) := by
      unfold eqV
      first | rfl | simp
    rw [e]
    by_cases h : y = z
    · subst h; simp
    · have h2 : ¬ z = y := fun q => h q.symm
      simp [h, h2]
theorem rv_inTS {p : Addr} {z : Str} {ns : List Str} (h : SqT K H p (ns.map V.str)) : RV (rIn K false) (.str z) (.ref p) H (.bl (decide (z ∈ ns))) := by
  have q := rv_isT (x := .str z) h rfl (flat_strs ns)
  rw [inV_strs] at q
  exact q
theorem rv_niTS {p : Addr} {z : Str} {ns : List Str} (h : SqT K H p (ns.map V.str)) : RV (rIn K true) (.str z) (.ref p) H (.bl (!decide (z ∈ ns))) := by
  have q := rv_niT (x := .str z) h rfl (flat_strs ns)
  rw [inV_strs] at q
  exact q
theorem rv_inLS {p : Addr} {z : Str} {ns : List Str} (h : SqL K H p (ns.map V.str)) : RV (rIn K false) (.str z) (.ref p) H (.bl (decide (z ∈ ns))) := by
  have q := rv_isL (x := .str z) h rfl (flat_strs ns)
  rw [inV_strs] at q
  exact q
/-- if-expressions, chains -/
theorem ev_ifP {a b : V} (h : EtP t σ H p) (h1 : p → Ev ta σ H a) (h2 : ¬ p → Ev tb σ H b) [Decidable p] : Ev (tIf t ta tb) σ H (if p then a else b) := by
  obtain ⟨c, hc, h⟩ := h
  refine ev_if h (fun e => ?_) (fun e => ?_)
  · rw [if_pos (hc.mp e)]
    exact h1 (hc.mp e)
  · have hp : ¬ p := fun z => by
      have := hc.mpr z
      rw [e] at this
      cases this
    rw [if_neg hp]
    exact h2 hp
theorem ev_chain {r r' : R2} {a b : Bool} (ha : Ev ta σ H x) (hb : Ev tb σ H y) (hr : RV r x y H (.bl a)) (hc : a = true → Ev tc σ H z) (hr' : a = true → RV r' y z H (.bl b)) : Ev (tChain r r' ta tb tc) σ H (.bl (a && b)) := fun H1 e Q q =>
  ha H1 e _ fun H2 e2 => hb H2 (e.trans e2) _ fun H3 e3 => hr H3 ((e.trans e2).trans e3) _ fun H4 e4 => ⟨a, rfl, by
    cases a with
    | true =>
      rw [if_pos rfl]
      exact hc rfl H4 (((e.trans e2).trans e3).trans e4) _ fun H5 e5 => hr' rfl H5 ((((e.trans e2).trans e3).trans e4).trans e5) Q fun H6 e6 => q H6 ((((e2.trans e3).trans e4).trans e5).trans e6)
    | false =>
      rw [if_neg Bool.false_ne_true]
      exact q H4 ((e2.trans e3).trans e4)⟩
theorem ep_chain {r r' : R2} {p q : Prop} [Decidable p] [Decidable q] (ha : Ev ta σ H x) (hb : Ev tb σ H y) (hr : RV r x y H (.bl (decide p))) (hc : p → Ev tc σ H z) (hr' : p → RV r' y z H (.bl (decide q))) : EtP (tTest (tChain r r' ta tb tc)) σ H (p ∧ q) :=
  ⟨decide p && decide q, by simp, et_test (ev_chain ha hb hr (fun e => hc (of_decide_eq_true e)) (fun e => hr' (of_decide_eq_true e)))⟩
/-! built-ins -/
def rInt1 : List V → Hp → VK → Prop := fun xs H Q => (∃ i, xs = [.int i] ∧ Q (.int i) H) ∨ ∃ k, xs = [.bl k] ∧ Q (.int (if k then 1 else 0)) H
theorem ev_int {i : Int} (h : Ev ta σ H (.int i)) : Ev (tCB rInt1 (tCons ta tNil)) σ H (.int i) := fun H1 e Q q => h H1 e _ fun H2 e2 => Or.inl ⟨i, rfl, q H2 e2⟩
theorem ev_intB {b : Bool} (h : Ev ta σ H (.bl b)) : Ev (tCB rInt1 (tCons ta tNil)) σ H (.int (if b then 1 else 0)) := fun H1 e Q q => h H1 e _ fun H2 e2 => Or.inr ⟨b, rfl, q H2 e2⟩
def rStrI : List V → Hp → VK → Prop := fun xs H Q => ∃ i, xs = [.int i] ∧ i.natAbs.log2 < 1920 ∧ Q (.str (toString i)) H
theorem ev_str {i : Int} (h : Ev ta σ H (.int i)) (hz : i.natAbs.log2 < 1920) : Ev (tCB rStrI (tCons ta tNil)) σ H (.str (toString i)) := fun H1 e Q q => h H1 e _ fun H2 e2 => ⟨i, rfl, hz, q H2 e2⟩
def rAbs1 : List V → Hp → VK → Prop := fun xs H Q => ∃ i, xs = [.int i] ∧ Q (.int (if i < 0 then -i else i)) H
theorem ev_abs {i : Int} (h : Ev ta σ H (.int i)) : Ev (tCB rAbs1 (tCons ta tNil)) σ H (.int (if i < 0 then -i else i)) := fun H1 e Q q => h H1 e _ fun H2 e2 => ⟨i, rfl, q H2 e2⟩
def rMin2 : List V → Hp → VK → Prop := fun xs H Q => ∃ i j, xs = [.int i, .int j] ∧ Q (.int (if j < i then j else i)) H
theorem ev_min2 {i j : Int} (ha : Ev ta σ H (.int i)) (hb : Ev tb σ H (.int j)) : Ev (tCB rMin2 (tCons ta (tCons tb tNil))) σ H (.int (if j < i then j else i)) := fun H1 e Q q =>
  ha H1 e _ fun H2 e2 => hb H2 (e.trans e2) _ fun H3 e3 => ⟨i, j, rfl, q H3 (e2.trans e3)⟩
def rLenS1 : List V → Hp → VK → Prop := fun xs H Q => ∃ z, xs = [.str z] ∧ z.length ≤ sizeLine ∧ Q (.int z.length) H
theorem ev_lenS {z : Str} (h : Ev ta σ H (.str z)) (hz : z.length ≤ 100000) : Ev (tCB rLenS1 (tCons ta tNil)) σ H (.int z.length) := fun H1 e Q q => h H1 e _ fun H2 e2 => ⟨z, rfl, sz_of hz, q H2 e2⟩
theorem ev_lenT {p : Addr} {xs : List V} (ha : Ev ta σ H (.ref p)) (h : SqT K H p xs) : Ev (tCB (rLenS K) (tCons ta tNil)) σ H (.int (xs.length : Int)) := fun H1 e Q q =>
  ha H1 e _ fun H2 e2 => ⟨p, xs, rfl, Or.inr (ex_t (e.trans e2) h), q H2 e2⟩
/-- isinstance of a value and a class -/
theorem ev_isi {c : V} {ty u : Value} {b : Bool} (ha : Ev ta σ H x) (hb : Ev tb σ H c) (k : ClsV c u) (ht : ∀ H1, Ex H H1 → TyX K H1 x ty) (hk : PySem.W.kitOne K ty u = some b) : Ev (tCB (rIsi K) (tCons ta (tCons tb tNil))) σ H (.bl b) := fun H1 e Q q =>
  ha H1 e _ fun H2 e2 => hb H2 (e.trans e2) _ fun H3 e3 => ⟨x, c, ty, u, b, rfl, k, ht H3 ((e.trans e2).trans e3), hk, q H3 (e2.trans e3)⟩
theorem ty_int {i : Int} : ∀ H1, Ex H H1 → TyX K H1 (.int i) (.type "int") := fun _ _ => .base (.int i)
theorem ty_bl {b : Bool} : ∀ H1, Ex H H1 → TyX K H1 (.bl b) (.type "bool") := fun _ _ => .base (.bl b)
theorem ty_str {i : Str} : ∀ H1, Ex H H1 → TyX K H1 (.str i) (.type "str") := fun _ _ => .base (.str i)
theorem ty_non : ∀ H1, Ex H H1 → TyX K H1 .non (.type "NoneType") := fun _ _ => .base .non
theorem ev_lenI {p : Addr} {ns : List Int} (ha : Ev ta σ H (.ref p)) (h : SqL K H p (ns.map V.int)) : Ev (tCB (rLenS K) (tCons ta tNil)) σ H (.int (ns.length : Int)) := by
  have q := ev_len ha h
  rw [List.length_map] at q
  exact q
theorem ev_lenTI {p : Addr} {ns : List Int} (ha : Ev ta σ H (.ref p)) (h : SqT K H p (ns.map V.int)) : Ev (tCB (rLenS K) (tCons ta tNil)) σ H (.int (ns.length : Int)) := by
  have q := ev_lenT ha h
  rw [List.length_map] at q
  exact q
/-! lists of ints compared -/
theorem lay_ints : ∀ ns : List Int, PyData.canLayAll0 (ns.map PyData.int) = true
  | [] => rfl
  | n :: r => by
    show (PyData.canLay0 (.int n) && PyData.canLayAll0 (r.map PyData.int)) = true
    rw [lay_ints r]
    rfl
theorem depth_ints : ∀ ns : List Int, PyData.depthAll (ns.map PyData.int) = 0
  | [] => rfl
  | n :: r => by
    show max (PyData.depth (.int n)) (PyData.depthAll (r.map PyData.int)) = 0
    rw [depth_ints r]
    rfl
theorem eqv_ints : ∀ ns ms : List Int, PyData.eqvAll (ns.map PyData.int) (ms.map PyData.int) = decide (ns = ms)
  | [], [] => rfl
  | [], _ :: _ => rfl
  | _ :: _, [] => rfl
  | n :: r, m :: t => by
    show (n == m && PyData.eqvAll (r.map PyData.int) (t.map PyData.int)) = _
    rw [eqv_ints r t]
    by_cases h : n = m
    · subst h; simp
    · simp [h]
theorem shaped_ints (ns : List Int) : SeqAt.shaped (.list (ns.map PyData.int)) = true := by
  unfold SeqAt.shaped
  rw [Bool.and_eq_true]
  refine ⟨lay_ints ns, decide_eq_true ?_⟩
  show PyData.depthAll (ns.map PyData.int) + 1 ≤ 64
  rw [depth_ints]
  decide
theorem dp_ints : ∀ ns : List Int, DpAll K H (ns.map V.int) (ns.map PyData.int)
  | [] => .nil
  | n :: r => .cons (.int n) (dp_ints r)
theorem rv_eqDI {p q : Addr} {ns ms : List Int} (h1 : SqL K H p (ns.map V.int)) (h2 : SqL K H q (ms.map V.int)) : RV (rEqD K) (.ref p) (.ref q) H (.bl (decide (ns = ms))) := fun H1 e Q k =>
  ⟨_, _, .lst (ex_l e h1) (dp_ints ns), .lst (ex_l e h2) (dp_ints ms), shaped_ints ns, shaped_ints ms, by
    show Q (.bl (PyData.eqvAll _ _)) H1
    rw [eqv_ints]
    exact k H1 (Ex.refl H1)⟩
theorem rv_neDI {p q : Addr} {ns ms : List Int} (h1 : SqL K H p (ns.map V.int)) (h2 : SqL K H q (ms.map V.int)) : RV (rNeD K) (.ref p) (.ref q) H (.bl (!decide (ns = ms))) := fun H1 e Q k =>
  ⟨_, _, .lst (ex_l e h1) (dp_ints ns), .lst (ex_l e h2) (dp_ints ms), shaped_ints ns, shaped_ints ms, by
    show Q (.bl (!PyData.eqvAll _ _)) H1
    rw [eqv_ints]
    exact k H1 (Ex.refl H1)⟩
theorem cutV_mid (xs : List V) (a b : Nat) : cutV xs (some (a : Int)) (some (b : Int)) = (xs.drop a).take (b - a) := by
  unfold cutV
  rw [HT.sIx_nat, HT.sIx_nat]
  by_cases h : a ≤ xs.length
  · have e1 : min a xs.length = a := by omega
    rw [e1]
    by_cases g : b ≤ xs.length
    · have e2 : min b xs.length = b := by omega
      rw [e2]
    · have e2 : min b xs.length = xs.length := by omega
      rw [e2, List.take_of_length_le (by rw [List.length_drop]; omega), List.take_of_length_le (by rw [List.length_drop]; omega)]
  · have e1 : min a xs.length = xs.length := by omega
    rw [e1, List.drop_of_length_le (Nat.le_refl _), List.drop_of_length_le (show xs.length ≤ a by omega), List.take_nil, List.take_nil]
/-! a list or a tuple -/
theorem q_mv {P : Hp → Prop} (e : Ex H H') (q : ∀ H1, Ex H H1 → P H1) : ∀ H1, Ex H' H1 → P H1 := fun H1 e1 => q H1 (e.trans e1)
theorem q_mvL {P : Addr → Hp → Prop} {o : HO} (e : Ex H H') (q : ∀ p H1, H p = none → Ex H H1 → H1 p = some o → P p H1) : ∀ p H1, H' p = none → Ex H' H1 → H1 p = some o → P p H1 := fun p H1 hp e1 h1 => q p H1 (fresh_back e hp) (e.trans e1) h1
theorem ty_list {a : Addr} {xs : List V} (h : H a = some (.lst xs)) : ∀ H1, Ex H H1 → TyX K H1 (.ref a) (.type "list") := fun H1 e => .base (.lst (e a _ h))
theorem ty_tup {a : Addr} {xs : List V} (h : H a = some (.tup xs)) : ∀ H1, Ex H H1 → TyX K H1 (.ref a) (.type "tuple") := fun H1 e => .base (.tup (e a _ h))
def SqQ (K : PySem.W.Frag) (H : Hp) (a : Addr) (xs : List V) : Prop := SqL K H a xs ∨ SqT K H a xs
theorem ex_q {a : Addr} {xs : List V} (e : Ex H H') (h : SqQ K H a xs) : SqQ K H' a xs := h.elim (fun z => Or.inl (ex_l e z)) fun z => Or.inr (ex_t e z)
theorem at_ints {ns : List Int} {i : Int} (h0 : 0 ≤ i) (h1 : i < (ns.length : Int)) : atI (ns.map V.int) i = some (.int (ns.getD i.toNat 0)) := by
  obtain ⟨j, rfl⟩ : ∃ j : Nat, i = (j : Int) := ⟨i.toNat, by omega⟩
  have hj : j < ns.length := by omega
  refine atI_nat ?_
  rw [List.getElem?_map, List.getElem?_eq_getElem hj]
  show some (V.int ns[j]) = some (V.int (ns.getD ((j : Int).toNat) 0))
  rw [Int.toNat_natCast, List.getD_eq_getElem?_getD, List.getElem?_eq_getElem hj]
  rfl
theorem rv_ixQI {p : Addr} {ns : List Int} {i : Int} (h : SqQ K H p (ns.map V.int)) (h0 : 0 ≤ i) (h1 : i < (ns.length : Int)) : RV (rIx K) (.ref p) (.int i) H (.int (ns.getD i.toNat 0)) := fun H1 e Q q =>
  h.elim (fun z => Or.inl ⟨p, _, i, _, rfl, rfl, ex_l e z, at_ints h0 h1, q H1 (Ex.refl H1)⟩) fun z => Or.inr (Or.inl ⟨p, _, i, _, rfl, rfl, ex_t e z, at_ints h0 h1, q H1 (Ex.refl H1)⟩)
theorem ev_lenQ {p : Addr} {xs : List V} (ha : Ev ta σ H (.ref p)) (h : SqQ K H p xs) : Ev (tCB (rLenS K) (tCons ta tNil)) σ H (.int (xs.length : Int)) := fun H1 e Q q =>
  ha H1 e _ fun H2 e2 => ⟨p, xs, rfl, h.elim (fun z => Or.inl (ex_l (e.trans e2) z)) fun z => Or.inr (ex_t (e.trans e2) z), q H2 e2⟩
theorem ev_lenQI {p : Addr} {ns : List Int} (ha : Ev ta σ H (.ref p)) (h : SqQ K H p (ns.map V.int)) : Ev (tCB (rLenS K) (tCons ta tNil)) σ H (.int (ns.length : Int)) := by
  have q := ev_lenQ ha h
  rw [List.length_map] at q
  exact q
theorem el_listQ {p : Addr} {xs : List V} (ha : Ev ta σ H (.ref p)) (h : SqQ K H p xs) : EvL (tCB (rListS K) (tCons ta tNil)) σ H xs := fun H1 e Q q =>
  ha H1 e _ fun H2 e2 => ⟨p, xs, rfl, h.elim (fun z => Or.inl (ex_l (e.trans e2) z)) fun z => Or.inr (ex_t (e.trans e2) z), fun l hl => q l _ (fresh_back e2 hl) (e2.trans (Ex.new hl)) upd_same⟩
def rTupS (K : PySem.W.Frag) : List V → Hp → VK → Prop := fun xs H Q => ∃ p ys, xs = [.ref p] ∧ ((SqL K H p ys ∧ ∀ l, H l = none → Q (.ref l) (upd H l (.tup ys))) ∨ (SqT K H p ys ∧ Q (.ref p) H))
theorem eu_tupL {p : Addr} {xs : List V} (ha : Ev ta σ H (.ref p)) (h : SqL K H p xs) : EvU (tCB (rTupS K) (tCons ta tNil)) σ H xs := fun H1 e Q q =>
  ha H1 e _ fun H2 e2 => ⟨p, xs, rfl, Or.inl ⟨ex_l (e.trans e2) h, fun l hl => q l _ (fresh_back e2 hl) (e2.trans (Ex.new hl)) upd_same⟩⟩
theorem eu_tupN {xs : List V} (ha : EvL ta σ H xs) : EvU (tCB (rTupS K) (tCons ta tNil)) σ H xs := fun H1 e Q q =>
  ha H1 e _ fun p H2 _ e2 hp => ⟨p, xs, rfl, Or.inl ⟨sq_of hp, fun l hl => q l _ (fresh_back e2 hl) (e2.trans (Ex.new hl)) upd_same⟩⟩
theorem el_listN {xs : List V} (ha : EvL ta σ H xs) : EvL (tCB (rListS K) (tCons ta tNil)) σ H xs := fun H1 e Q q =>
  ha H1 e _ fun p H2 _ e2 hp => ⟨p, xs, rfl, Or.inl (sq_of hp), fun l hl => q l _ (fresh_back e2 hl) (e2.trans (Ex.new hl)) upd_same⟩
/-- a call whose one argument is a new list, a new tuple -/
theorem ev_call1L {sp : Sp} {xs : List V} {E : XK} (h : EvL ta σ H xs) (hs : ∀ p H1, Ex H H1 → H1 p = some (.lst xs) → SpV sp [.ref p] H1 z) : Ev (tCall sp [] E (tCons ta tNil)) σ H z := fun H1 e Q q =>
  h H1 e _ fun p H2 _ e2 hp => hs p H2 (e.trans e2) hp H2 (Ex.refl H2) Q (fun H3 e3 => q H3 (e2.trans e3)) E
theorem ev_call1U {sp : Sp} {xs : List V} {E : XK} (h : EvU ta σ H xs) (hs : ∀ p H1, Ex H H1 → H1 p = some (.tup xs) → SpV sp [.ref p] H1 z) : Ev (tCall sp [] E (tCons ta tNil)) σ H z := fun H1 e Q q =>
  h H1 e _ fun p H2 _ e2 hp => hs p H2 (e.trans e2) hp H2 (Ex.refl H2) Q (fun H3 e3 => q H3 (e2.trans e3)) E
/-- arguments some of which are new objects -/
def EvAX (ta : TA) (σ : L2.St) (H : Hp) (P : List V → Hp → Prop) : Prop := ∀ H1, Ex H H1 → ∀ Q : List V → Hp → Prop, (∀ vs H2, Ex H1 H2 → P vs H2 → Q vs H2) → ta σ H1 Q
theorem eax_nil : EvAX tNil σ H (fun vs _ => vs = []) := fun H1 _ _ q => q [] H1 (Ex.refl H1) rfl
theorem eax_V {tr : TA} {P : List V → Hp → Prop} (h : Ev ta σ H v) (hr : EvAX tr σ H P) : EvAX (tCons ta tr) σ H (fun vs H => ∃ r, vs = v :: r ∧ P r H) := fun H1 e Q q =>
  h H1 e _ fun H2 e2 => hr H2 (e.trans e2) _ fun vs H3 e3 hp => q _ H3 (e2.trans e3) ⟨vs, rfl, hp⟩
theorem eax_L {tr : TA} {P : List V → Hp → Prop} {xs : List V} (h : EvL ta σ H xs) (hr : EvAX tr σ H P) : EvAX (tCons ta tr) σ H (fun vs H => ∃ p r, vs = .ref p :: r ∧ H p = some (.lst xs) ∧ P r H) := fun H1 e Q q =>
  h H1 e _ fun p H2 _ e2 h2 => hr H2 (e.trans e2) _ fun vs H3 e3 hp => q _ H3 (e2.trans e3) ⟨p, vs, rfl, e3 _ _ h2, hp⟩
theorem eax_U {tr : TA} {P : List V → Hp → Prop} {xs : List V} (h : EvU ta σ H xs) (hr : EvAX tr σ H P) : EvAX (tCons ta tr) σ H (fun vs H => ∃ p r, vs = .ref p :: r ∧ H p = some (.tup xs) ∧ P r H) := fun H1 e Q q =>
  h H1 e _ fun p H2 _ e2 h2 => hr H2 (e.trans e2) _ fun vs H3 e3 hp => q _ H3 (e2.trans e3) ⟨p, vs, rfl, e3 _ _ h2, hp⟩
theorem ev_callX {sp : Sp} {P : List V → Hp → Prop} {E : XK} {tr : TA} (h : EvAX tr σ H P) (hs : ∀ vs H1, Ex H H1 → P vs H1 → SpV sp vs H1 z) : Ev (tCall sp [] E tr) σ H z := fun H1 e Q q =>
  h H1 e _ fun vs H2 e2 hp => by
    rw [List.append_nil]
    exact hs vs H2 (e.trans e2) hp H2 (Ex.refl H2) Q (fun H3 e3 => q H3 (e2.trans e3)) E
theorem el_callX {sp : Sp} {P : List V → Hp → Prop} {E : XK} {tr : TA} {xs : List V} (h : EvAX tr σ H P) (hs : ∀ vs H1, Ex H H1 → P vs H1 → SpL sp vs H1 xs) : EvL (tCall sp [] E tr) σ H xs := fun H1 e Q q =>
  h H1 e _ fun vs H2 e2 hp => by
    rw [List.append_nil]
    exact hs vs H2 (e.trans e2) hp H2 (Ex.refl H2) Q (fun p H3 h3 e3 g => q p H3 (fresh_back e2 h3) (e2.trans e3) g) E
theorem eu_callX {sp : Sp} {P : List V → Hp → Prop} {E : XK} {tr : TA} {xs : List V} (h : EvAX tr σ H P) (hs : ∀ vs H1, Ex H H1 → P vs H1 → SpU sp vs H1 xs) : EvU (tCall sp [] E tr) σ H xs := fun H1 e Q q =>
  h H1 e _ fun vs H2 e2 hp => by
    rw [List.append_nil]
    exact hs vs H2 (e.trans e2) hp H2 (Ex.refl H2) Q (fun p H3 h3 e3 g => q p H3 (fresh_back e2 h3) (e2.trans e3) g) E
/-! new tuples and lists from calls -/
theorem eu_call {sp : Sp} {dvs vs xs : List V} {E : XK} {ta : TA} (h : EvA ta σ H vs) (hs : SpU sp (vs ++ dvs) H xs) : EvU (tCall sp dvs E ta) σ H xs := fun H1 e Q q =>
  h H1 e _ fun H2 e2 => hs H2 (e.trans e2) Q (fun p H3 hp e3 h3 => q p H3 (fresh_back e2 hp) (e2.trans e3) h3) E
/-! ### statements relative to a ground heap H0 -/
theorem r_asg {i : Nat} (e : Ex H0 H1) (h : Ev te σ H0 v) (k : ∀ H2, Ex H0 H2 → Ex H1 H2 → tz D (σ.set i (some v)) H2) : tSeq (tAsg te (gName i)) tz D σ H1 := h H1 e _ fun H2 e2 => k H2 (e.trans e2) e2
/-- the value as a letter -/
theorem r_asgI {i : Nat} {z : Int} (e : Ex H0 H1) (h : Ev te σ H0 (.int z)) (k : ∀ n, n = z → ∀ H2, Ex H0 H2 → Ex H1 H2 → tz D (σ.set i (some (.int n))) H2) : tSeq (tAsg te (gName i)) tz D σ H1 := r_asg e h (k z rfl)
theorem r_asgS {i : Nat} {z : Str} (e : Ex H0 H1) (h : Ev te σ H0 (.str z)) (k : ∀ n, n = z → ∀ H2, Ex H0 H2 → Ex H1 H2 → tz D (σ.set i (some (.str n))) H2) : tSeq (tAsg te (gName i)) tz D σ H1 := r_asg e h (k z rfl)
theorem r_asgB {i : Nat} {z : Bool} (e : Ex H0 H1) (h : Ev te σ H0 (.bl z)) (k : ∀ n, n = z → ∀ H2, Ex H0 H2 → Ex H1 H2 → tz D (σ.set i (some (.bl n))) H2) : tSeq (tAsg te (gName i)) tz D σ H1 := r_asg e h (k z rfl)
/-- a new list, a new tuple: the ground moves on -/
theorem r_asgL {i : Nat} {xs : List V} (e : Ex H0 H1) (h : EvL te σ H0 xs) (k : ∀ p H2, H0 p = none → Ex H0 H2 → Ex H1 H2 → H2 p = some (.lst xs) → tz D (σ.set i (some (.ref p))) H2) : tSeq (tAsg te (gName i)) tz D σ H1 :=
  h H1 e _ fun p H2 hp e2 h2 => k p H2 (fresh_back e hp) (e.trans e2) e2 h2
theorem r_asgU {i : Nat} {xs : List V} (e : Ex H0 H1) (h : EvU te σ H0 xs) (k : ∀ p H2, H0 p = none → Ex H0 H2 → Ex H1 H2 → H2 p = some (.tup xs) → tz D (σ.set i (some (.ref p))) H2) : tSeq (tAsg te (gName i)) tz D σ H1 :=
  h H1 e _ fun p H2 hp e2 h2 => k p H2 (fresh_back e hp) (e.trans e2) e2 h2
theorem r_aug {i : Nat} {f : Int → Int → Int} {a b : Int} (e : Ex H0 H1) (hx : σ[i]? = some (some (.int a))) (h : Ev te σ H0 (.int b)) (k : ∀ H2, Ex H0 H2 → Ex H1 H2 → tz D (σ.set i (some (.int (f a b)))) H2) : tSeq (tAug i te (ipI f)) tz D σ H1 :=
  ⟨.int a, hx, h H1 e _ fun H2 e2 => ⟨a, b, rfl, rfl, k H2 (e.trans e2) e2⟩⟩
theorem r_if (e : Ex H0 H1) (h : EtP t σ H0 p) (h1 : p → ∀ H2, Ex H0 H2 → Ex H1 H2 → tu { D with nx := tz D } σ H2) (h2 : ¬ p → ∀ H2, Ex H0 H2 → Ex H1 H2 → tw { D with nx := tz D } σ H2) : tSeq (tIfS t tu tw) tz D σ H1 := by
  obtain ⟨b, hb, h⟩ := h
  refine h H1 e _ fun H2 e2 => ?_
  cases b with
  | true => exact h1 (hb.mp rfl) H2 (e.trans e2) e2
  | false => exact h2 (fun z => nomatch hb.mpr z) H2 (e.trans e2) e2
/-- an if without else whose way ends -/
theorem r_when (e : Ex H0 H1) (h : EtP t σ H0 p) (h1 : p → ∀ H2, Ex H0 H2 → Ex H1 H2 → tu { D with nx := tz D } σ H2) (h2 : ¬ p → ∀ H2, Ex H0 H2 → Ex H1 H2 → tz D σ H2) : tSeq (tIfS t tu tNext) tz D σ H1 := r_if e h h1 h2
/-- an if both of whose ways go on (its term: pss_cut): J tells the slots and the heap behind it -/
theorem r_ifJ (e : Ex H0 H1) (h : EtP t σ H0 p) (J : L2.St → Hp → Prop) (h1 : p → ∀ H2, Ex H0 H2 → Ex H1 H2 → tu { D with nx := J } σ H2) (h2 : ¬ p → ∀ H2, Ex H0 H2 → Ex H1 H2 → tw { D with nx := J } σ H2) (hd : ∀ σ' H', J σ' H' → tz D σ' H') : tCut (tIfS t tu tw) tz D σ H1 := by
  refine ⟨J, ?_, hd⟩
  obtain ⟨b, hb, h⟩ := h
  refine h H1 e _ fun H2 e2 => ?_
  cases b with
  | true => exact h1 (hb.mp rfl) H2 (e.trans e2) e2
  | false => exact h2 (fun z => nomatch hb.mpr z) H2 (e.trans e2) e2
theorem r_ret (e : Ex H0 H1) (h : Ev te σ H0 v) (k : ∀ H2, Ex H0 H2 → D.rt v H2) : tSeq (tRet te) tz D σ H1 := h H1 e _ fun H2 e2 => k H2 (e.trans e2)
theorem r_retL {xs : List V} (e : Ex H0 H1) (h : EvL te σ H0 xs) (k : ∀ p H2, H0 p = none → Ex H0 H2 → H2 p = some (.lst xs) → D.rt (.ref p) H2) : tSeq (tRet te) tz D σ H1 := h H1 e _ fun p H2 hp e2 h2 => k p H2 (fresh_back e hp) (e.trans e2) h2
theorem r_retU {xs : List V} (e : Ex H0 H1) (h : EvU te σ H0 xs) (k : ∀ p H2, H0 p = none → Ex H0 H2 → H2 p = some (.tup xs) → D.rt (.ref p) H2) : tSeq (tRet te) tz D σ H1 := h H1 e _ fun p H2 hp e2 h2 => k p H2 (fresh_back e hp) (e.trans e2) h2
/-- return of a new tuple some of whose items are new -/
theorem r_retT {ta : TA} {P : List V → Hp → Prop} (e : Ex H0 H1) (h : EvAX ta σ H0 P) (hz : ∀ vs H, P vs H → vs.length ≤ 100000) (k : ∀ vs p H2 H3, P vs H2 → Ex H0 H2 → Ex H2 H3 → H0 p = none → H3 p = some (.tup vs) → D.rt (.ref p) H3) : tSeq (tRet (tTup ta)) tz D σ H1 :=
  h H1 e _ fun vs H2 e2 hp => ⟨sz_of (hz vs H2 hp), fun p hn => k vs p H2 _ hp (e.trans e2) (Ex.new hn) (fresh_back (e.trans e2) hn) upd_same⟩
theorem r_drop (e : Ex H0 H1) (h : Ev te σ H0 v) (k : ∀ H2, Ex H0 H2 → Ex H1 H2 → tz D σ H2) : tSeq (tDrop te) tz D σ H1 := h H1 e _ fun H2 e2 => k H2 (e.trans e2) e2
theorem r_next (h : D.nx σ H) : tNext D σ H := h
theorem r_seq {t1 : TS} (h : t1 { D with nx := tz D } σ H) : tSeq t1 tz D σ H := h
/-- xs.append(e): the list is not in the ground -/
theorem r_app {l : Addr} {xs : List V} (e : Ex H0 H1) (hn : H0 l = none) (hl : H1 l = some (.lst xs)) (ha : Ev ta σ H0 (.ref l)) (h : Ev te σ H0 v) (hz : xs.length < 100000)
    (k : ∀ H2, Ex H0 H2 → H2 l = some (.lst (xs ++ [v])) → (∀ a o, a ≠ l → H1 a = some o → H2 a = some o) → tz D σ H2) : tSeq (tDrop (tBM K "list" rAppend ta (tCons te tNil))) tz D σ H1 := ha H1 e _ fun H2 e1 =>
  ⟨Or.inl ⟨rfl, xs, sq_of (e1 l _ hl)⟩, h H2 (e.trans e1) _ fun H3 e2 => ⟨l, xs, v, rfl, rfl, e2 l _ (e1 l _ hl), sz_lt hz, k _ (Ex.mut ((e.trans e1).trans e2) hn) upd_same fun a o ne ho => by
    rw [upd_ne ne]
    exact e2 a o (e1 a o ho)⟩⟩
theorem r_appM {α : Type} {f : α → V} {l : Addr} {ms : List α} {n : α} (e : Ex H0 H1) (hn : H0 l = none) (hl : H1 l = some (.lst (ms.map f))) (ha : Ev ta σ H0 (.ref l)) (h : Ev te σ H0 (f n)) (hz : ms.length < 100000)
    (k : ∀ H2, Ex H0 H2 → H2 l = some (.lst ((ms ++ [n]).map f)) → (∀ a o, a ≠ l → H1 a = some o → H2 a = some o) → tz D σ H2) : tSeq (tDrop (tBM K "list" rAppend ta (tCons te tNil))) tz D σ H1 :=
  r_app e hn hl ha h (by rw [List.length_map]; exact hz) fun H2 e2 h2 hk => k H2 e2 (by rw [List.map_append]; exact h2) hk
theorem r_appU {l : Addr} {xs ys : List V} (e : Ex H0 H1) (hn : H0 l = none) (hl : H1 l = some (.lst xs)) (ha : Ev ta σ H0 (.ref l)) (h : EvU te σ H0 ys) (hz : xs.length < 100000)
    (k : ∀ p H2, H1 p = none → p ≠ l → Ex H0 H2 → H2 l = some (.lst (xs ++ [.ref p])) → H2 p = some (.tup ys) → (∀ a o, a ≠ l → H1 a = some o → H2 a = some o) → tz D σ H2) : tSeq (tDrop (tBM K "list" rAppend ta (tCons te tNil))) tz D σ H1 := ha H1 e _ fun H2 e1 =>
  ⟨Or.inl ⟨rfl, xs, sq_of (e1 l _ hl)⟩, h H2 (e.trans e1) _ fun p H3 hp e2 h2 => by
    have ne : p ≠ l := fun z => by
      rw [z, e1 l _ hl] at hp
      cases hp
    refine ⟨l, xs, .ref p, rfl, rfl, e2 l _ (e1 l _ hl), sz_lt hz, k p _ (fresh_back e1 hp) ne (Ex.mut ((e.trans e1).trans e2) hn) upd_same (by rw [upd_ne ne]; exact h2) fun a o ne ho => ?_⟩
    rw [upd_ne ne]
    exact e2 a o (e1 a o ho)⟩
/-- a call that hands back a new list of which P holds -/
def EvLE (te : TE) (σ : L2.St) (H : Hp) (P : List V → Prop) : Prop := ∀ H1, Ex H H1 → ∀ Q : VK, (∀ p H2 xs, P xs → H1 p = none → Ex H1 H2 → H2 p = some (.lst xs) → Q (.ref p) H2) → te σ H1 Q
def SpLE (sp : Sp) (vs : List V) (H : Hp) (P : List V → Prop) : Prop := ∀ H1, Ex H H1 → ∀ Q : VK, (∀ p H2 xs, P xs → H1 p = none → Ex H1 H2 → H2 p = some (.lst xs) → Q (.ref p) H2) → ∀ E : XK, sp vs H1 Q E
theorem ele_call {sp : Sp} {dvs vs : List V} {P : List V → Prop} {E : XK} {ta : TA} (h : EvA ta σ H vs) (hs : SpLE sp (vs ++ dvs) H P) : EvLE (tCall sp dvs E ta) σ H P := fun H1 e Q q =>
  h H1 e _ fun H2 e2 => hs H2 (e.trans e2) Q (fun p H3 xs hx hp e3 h3 => q p H3 xs hx (fresh_back e2 hp) (e2.trans e3) h3) E
theorem r_asgLE {i : Nat} {P : List V → Prop} (e : Ex H0 H1) (h : EvLE te σ H0 P) (k : ∀ p H2 xs, P xs → H0 p = none → Ex H0 H2 → Ex H1 H2 → H2 p = some (.lst xs) → tz D (σ.set i (some (.ref p))) H2) : tSeq (tAsg te (gName i)) tz D σ H1 :=
  h H1 e _ fun p H2 xs hx hp e2 h2 => k p H2 xs hx (fresh_back e hp) (e.trans e2) e2 h2
/-- for a, b in zip(t, u) over two tuples -/
theorem r_forZT {a b : Addr} {xs ys : List V} {ta : TA} {j k : Nat} (e : Ex H0 H1) (h : EvA ta σ H0 [.ref a, .ref b]) (hl : xs.length = ys.length) (hx : SqT K H0 a xs) (hy : SqT K H0 b ys) (I : Nat → L2.St → Prop) (h0 : I 0 σ)
    (hs : ∀ (i : Nat) x y σ' H', xs[i]? = some x → ys[i]? = some y → I i σ' → Ex H0 H' → tu { D with nx := fun σ2 H2 => I (i + 1) σ2 ∧ Ex H0 H2, ct := fun σ2 H2 => I (i + 1) σ2 ∧ Ex H0 H2, bk := tz D } ((σ'.set j (some x)).set k (some y)) H')
    (hd : ∀ σ' H', I xs.length σ' → Ex H0 H' → tz D σ' H') : tSeq (tFor (iZipA K ta) (gTup K 2 (gCons (gName j) (gCons (gName k) gNil))) tu) tz D σ H1 :=
  h H1 e _ fun H2 e2 => ⟨a, b, xs, ys, rfl, Or.inr ⟨ex_t (e.trans e2) hx, ex_t (e.trans e2) hy, for_zipT (D := { D with nx := tz D }) hl (fun i σ' H' => I i σ' ∧ Ex H0 H') ⟨h0, e.trans e2⟩ (fun i σ' H' p => ⟨ex_t p.2 hx, ex_t p.2 hy⟩)
    (fun i x y T σ' H' hi hj p hT => ⟨T, [x, y], rfl, st_of upd_same, rfl, x, [y], rfl, y, [], rfl, rfl, hs i x y σ' _ hi hj p.1 (p.2.trans (Ex.new hT))⟩) fun σ' H' p => hd σ' H' p.1 p.2⟩⟩
theorem r_forZTM {α β : Type} {f : α → V} {g : β → V} {a b : Addr} {xs : List α} {ys : List β} {ta : TA} {j k : Nat} (e : Ex H0 H1) (h : EvA ta σ H0 [.ref a, .ref b]) (hl : xs.length = ys.length) (hx : SqT K H0 a (xs.map f)) (hy : SqT K H0 b (ys.map g)) (I : Nat → L2.St → Prop) (h0 : I 0 σ)
    (hs : ∀ (i : Nat) x y σ' H', xs[i]? = some x → ys[i]? = some y → I i σ' → Ex H0 H' → tu { D with nx := fun σ2 H2 => I (i + 1) σ2 ∧ Ex H0 H2, ct := fun σ2 H2 => I (i + 1) σ2 ∧ Ex H0 H2, bk := tz D } ((σ'.set j (some (f x))).set k (some (g y))) H')
    (hd : ∀ σ' H', I xs.length σ' → Ex H0 H' → tz D σ' H') : tSeq (tFor (iZipA K ta) (gTup K 2 (gCons (gName j) (gCons (gName k) gNil))) tu) tz D σ H1 :=
  r_forZT e h (by rw [List.length_map, List.length_map]; exact hl) hx hy I h0 (fun i x y σ' H' hi hj p e => by
    rw [List.getElem?_map] at hi hj
    cases c : xs[i]? with
    | none => rw [c] at hi; cases hi
    | some u =>
      cases d : ys[i]? with
      | none => rw [d] at hj; cases hj
      | some v =>
        rw [c] at hi
        rw [d] at hj
        obtain rfl : f u = x := Option.some.inj hi
        obtain rfl : g v = y := Option.some.inj hj
        exact hs i u v σ' H' c d p e) fun σ' H' p e => hd σ' H' (by rw [List.length_map] at p; exact p) e
/-- xs.pop() as a statement -/
theorem r_pop {l : Addr} {xs : List V} {y : V} (e : Ex H0 H1) (hn : H0 l = none) (hl : H1 l = some (.lst xs)) (ha : Ev ta σ H0 (.ref l)) (hy : xs[xs.length - 1]? = some y)
    (k : ∀ H2, Ex H0 H2 → H2 l = some (.lst xs.dropLast) → (∀ a o, a ≠ l → H1 a = some o → H2 a = some o) → tz D σ H2) : tSeq (tDrop (tBM0 K "list" rPop ta)) tz D σ H1 := ha H1 e _ fun H2 e1 =>
  ⟨Or.inl ⟨rfl, xs, sq_of (e1 l _ hl)⟩, l, xs, y, rfl, rfl, e1 l _ hl, hy, k _ (Ex.mut (e.trans e1) hn) upd_same fun a o ne ho => by
    rw [upd_ne ne]
    exact e1 a o ho⟩
/-- for over range(n), by a word of the slots; the heap only grows -/
theorem r_forR {ta : TA} {j : Nat} {n : Int} (e : Ex H0 H1) (h : EvA ta σ H0 [.int n]) (hn : -100000 ≤ n ∧ n ≤ 100000) (I : Nat → L2.St → Prop) (h0 : I 0 σ)
    (hs : ∀ (i : Nat) σ' H', (i : Int) < n → I i σ' → Ex H0 H' → tu { D with nx := fun σ2 H2 => I (i + 1) σ2 ∧ Ex H0 H2, ct := fun σ2 H2 => I (i + 1) σ2 ∧ Ex H0 H2, bk := tz D } (σ'.set j (some (.int (i : Int)))) H')
    (hd : ∀ σ' H', I n.toNat σ' → Ex H0 H' → tz D σ' H') : tSeq (tFor (iRng1 ta) (gName j) tu) tz D σ H1 :=
  h H1 e _ fun H2 e2 => ⟨n, rfl, by omega, by omega, for_range (lo := 0) (n := n.toNat) (D := { D with nx := tz D }) (fun i σ' H' => I i σ' ∧ Ex H0 H') ⟨h0, e.trans e2⟩ (fun i σ' H' hi p => by
    have e0 : (0 : Int) + (i : Int) = (i : Int) := Int.zero_add _
    show tu { D with nx := fun σ2 H2 => I (i + 1) σ2 ∧ Ex H0 H2, ct := fun σ2 H2 => I (i + 1) σ2 ∧ Ex H0 H2, bk := tz D } (σ'.set j (some (.int ((0 : Int) + (i : Int))))) H'
    rw [e0]
    exact hs i σ' H' (by omega) p.1 p.2) fun σ' H' p => hd σ' H' p.1 p.2⟩
/-- .. by a word of the slots and the heap -/
theorem r_forRH {ta : TA} {j : Nat} {n : Int} (e : Ex H0 H1) (h : EvA ta σ H0 [.int n]) (hn : -100000 ≤ n ∧ n ≤ 100000) (I : Nat → L2.St → Hp → Prop) (h0 : ∀ H2, Ex H1 H2 → I 0 σ H2)
    (hs : ∀ (i : Nat) σ' H', (i : Int) < n → I i σ' H' → tu { D with nx := I (i + 1), ct := I (i + 1), bk := tz D } (σ'.set j (some (.int (i : Int)))) H')
    (hd : ∀ σ' H', I n.toNat σ' H' → tz D σ' H') : tSeq (tFor (iRng1 ta) (gName j) tu) tz D σ H1 :=
  h H1 e _ fun H2 e2 => ⟨n, rfl, by omega, by omega, for_range (lo := 0) (n := n.toNat) (D := { D with nx := tz D }) I (h0 H2 e2) (fun i σ' H' hi p => by
    have e0 : (0 : Int) + (i : Int) = (i : Int) := Int.zero_add _
    show tu { D with nx := I (i + 1), ct := I (i + 1), bk := tz D } (σ'.set j (some (.int ((0 : Int) + (i : Int))))) H'
    rw [e0]
    exact hs i σ' H' (by omega) p) hd⟩
/-- for over a list of ints that stands -/
theorem r_forLI {a : Addr} {ns : List Int} {tl : TE} {j : Nat} (e : Ex H0 H1) (h : Ev tl σ H0 (.ref a)) (hx : SqL K H0 a (ns.map V.int)) (I : Nat → L2.St → Hp → Prop) (hw : ∀ i σ' H', I i σ' H' → Ex H0 H') (h0 : ∀ H2, Ex H1 H2 → I 0 σ H2)
    (hs : ∀ (i : Nat) (n : Int) σ' H', ns[i]? = some n → I i σ' H' → tu { D with nx := I (i + 1), ct := I (i + 1), bk := tz D } (σ'.set j (some (.int n))) H')
    (hd : ∀ σ' H', I ns.length σ' H' → tz D σ' H') : tSeq (tFor (iList K tl) (gName j) tu) tz D σ H1 :=
  h H1 e _ fun H2 e2 => ⟨a, rfl, ⟨_, ex_l (e.trans e2) hx⟩, for_list (D := { D with nx := tz D }) I (h0 H2 e2) (fun i σ' H' _ p => ex_l (hw i σ' H' p) hx) (fun i x σ' H' hi p => by
    rw [List.getElem?_map] at hi
    cases g : ns[i]? with
    | none => rw [g] at hi; cases hi
    | some n =>
      rw [g] at hi
      obtain rfl : V.int n = x := Option.some.inj hi
      exact hs i n σ' H' g p) fun σ' H' p => hd σ' H' (by rw [List.length_map] at p; exact p)⟩
/-- .. of anything -/
theorem r_forLM {α : Type} {f : α → V} {a : Addr} {ns : List α} {tl : TE} {j : Nat} (e : Ex H0 H1) (h : Ev tl σ H0 (.ref a)) (hx : SqL K H0 a (ns.map f)) (I : Nat → L2.St → Hp → Prop) (hw : ∀ i σ' H', I i σ' H' → Ex H0 H') (h0 : ∀ H2, Ex H1 H2 → I 0 σ H2)
    (hs : ∀ (i : Nat) (n : α) σ' H', ns[i]? = some n → I i σ' H' → tu { D with nx := I (i + 1), ct := I (i + 1), bk := tz D } (σ'.set j (some (f n))) H')
    (hd : ∀ σ' H', I ns.length σ' H' → tz D σ' H') : tSeq (tFor (iList K tl) (gName j) tu) tz D σ H1 :=
  h H1 e _ fun H2 e2 => ⟨a, rfl, ⟨_, ex_l (e.trans e2) hx⟩, for_list (D := { D with nx := tz D }) I (h0 H2 e2) (fun i σ' H' _ p => ex_l (hw i σ' H' p) hx) (fun i x σ' H' hi p => by
    rw [List.getElem?_map] at hi
    cases g : ns[i]? with
    | none => rw [g] at hi; cases hi
    | some n =>
      rw [g] at hi
      obtain rfl : f n = x := Option.some.inj hi
      exact hs i n σ' H' g p) fun σ' H' p => hd σ' H' (by rw [List.length_map] at p; exact p)⟩
/-- .. over a displayed or called, new list -/
theorem r_forNM {α : Type} {f : α → V} {ns : List α} {tl : TE} {j : Nat} (e : Ex H0 H1) (h : EvL tl σ H0 (ns.map f)) (I : Hp → Nat → L2.St → Hp → Prop) (hw : ∀ G i σ' H', I G i σ' H' → Ex G H') (h0 : ∀ G, Ex H0 G → Ex H1 G → I G 0 σ G)
    (hs : ∀ G, Ex H0 G → ∀ (i : Nat) (n : α) σ' H', ns[i]? = some n → I G i σ' H' → tu { D with nx := I G (i + 1), ct := I G (i + 1), bk := tz D } (σ'.set j (some (f n))) H')
    (hd : ∀ G, Ex H0 G → ∀ σ' H', I G ns.length σ' H' → tz D σ' H') : tSeq (tFor (iList K tl) (gName j) tu) tz D σ H1 :=
  h H1 e _ fun a G ha e2 h2 => ⟨a, rfl, ⟨_, sq_of h2⟩, for_list (D := { D with nx := tz D }) (I G) (h0 G (e.trans e2) e2) (fun i σ' H' _ p => ex_l (hw G i σ' H' p) (sq_of h2)) (fun i x σ' H' hi p => by
    rw [List.getElem?_map] at hi
    cases g : ns[i]? with
    | none => rw [g] at hi; cases hi
    | some n =>
      rw [g] at hi
      obtain rfl : f n = x := Option.some.inj hi
      exact hs G (e.trans e2) i n σ' H' g p) fun σ' H' p => hd G (e.trans e2) σ' H' (by rw [List.length_map] at p; exact p)⟩
/-- while, by a word of the measure, the slots and the heap -/
theorem r_whileH (e : Ex H0 H1) (W : Nat → L2.St → Hp → Prop) (m0 : Nat) (hw : ∀ m σ' H', W m σ' H' → Ex H0 H') (h0 : W m0 σ H1)
    (hs : ∀ m σ' H', W m σ' H' → ∃ p, EtP t σ' H0 p ∧ (p → ∀ H2, Ex H0 H2 → Ex H' H2 → tu { D with nx := fun σ2 H3 => ∃ m', m' < m ∧ W m' σ2 H3, ct := fun σ2 H3 => ∃ m', m' < m ∧ W m' σ2 H3, bk := tz D } σ' H2) ∧ (¬ p → ∀ H2, Ex H0 H2 → Ex H' H2 → tz D σ' H2)) :
    tSeq (tWhile t tu) tz D σ H1 := by
  refine q_while W m0 h0 ?_
  intro m σ' H' hwm
  have e' := hw m σ' H' hwm
  obtain ⟨p, ⟨b, hb, ht⟩, h1, h2⟩ := hs m σ' H' hwm
  refine ⟨b, ht.mono e', fun eb H2 e2 => ?_, fun eb H2 e2 => ?_⟩
  · exact ⟨_, fun σ2 H3 z => z, h1 (hb.mp eb) H2 (e'.trans e2) e2⟩
  · refine h2 (fun z => ?_) H2 (e'.trans e2) e2
    have := hb.mpr z
    rw [eb] at this
    cases this
/-- for over a list that stands -/
theorem r_forL {a : Addr} {xs : List V} {tl : TE} {j : Nat} (e : Ex H0 H1) (h : Ev tl σ H0 (.ref a)) (hx : SqL K H0 a xs) (I : Nat → L2.St → Prop) (h0 : I 0 σ)
    (hs : ∀ (i : Nat) x σ' H', xs[i]? = some x → I i σ' → Ex H0 H' → tu { D with nx := fun σ2 H2 => I (i + 1) σ2 ∧ Ex H0 H2, ct := fun σ2 H2 => I (i + 1) σ2 ∧ Ex H0 H2, bk := tz D } (σ'.set j (some x)) H')
    (hd : ∀ σ' H', I xs.length σ' → Ex H0 H' → tz D σ' H') : tSeq (tFor (iList K tl) (gName j) tu) tz D σ H1 :=
  h H1 e _ fun H2 e2 => ⟨a, rfl, ⟨xs, ex_l (e.trans e2) hx⟩, for_list (D := { D with nx := tz D }) (fun i σ' H' => I i σ' ∧ Ex H0 H') ⟨h0, e.trans e2⟩ (fun i σ' H' _ p => ex_l p.2 hx) (fun i x σ' H' hi p => hs i x σ' H' hi p.1 p.2) fun σ' H' p => hd σ' H' p.1 p.2⟩
/-- .. over a new list -/
theorem r_forNL {xs : List V} {tl : TE} {j : Nat} (e : Ex H0 H1) (h : EvL tl σ H0 xs) (I : Nat → L2.St → Prop) (h0 : I 0 σ)
    (hs : ∀ G, Ex H0 G → ∀ (i : Nat) x σ' H', xs[i]? = some x → I i σ' → Ex G H' → tu { D with nx := fun σ2 H2 => I (i + 1) σ2 ∧ Ex G H2, ct := fun σ2 H2 => I (i + 1) σ2 ∧ Ex G H2, bk := tz D } (σ'.set j (some x)) H')
    (hd : ∀ G, Ex H0 G → ∀ σ' H', I xs.length σ' → Ex G H' → tz D σ' H') : tSeq (tFor (iList K tl) (gName j) tu) tz D σ H1 :=
  h H1 e _ fun a H2 ha e2 h2 => ⟨a, rfl, ⟨xs, sq_of h2⟩, for_list (D := { D with nx := tz D }) (fun i σ' H' => I i σ' ∧ Ex H2 H') ⟨h0, Ex.refl _⟩ (fun i σ' H' _ p => ex_l p.2 (sq_of h2)) (fun i x σ' H' hi p => hs H2 (e.trans e2) i x σ' H' hi p.1 p.2) fun σ' H' p => hd H2 (e.trans e2) σ' H' p.1 p.2⟩
/-- an int of a list of ints -/
theorem rv_ixI {p : Addr} {ns : List Int} {i : Int} (h : SqL K H p (ns.map V.int)) (h0 : 0 ≤ i) (h1 : i < (ns.length : Int)) : RV (rIxL K) (.ref p) (.int i) H (.int (ns.getD i.toNat 0)) := by
  refine rv_ixL h ?_
  obtain ⟨j, rfl⟩ : ∃ j : Nat, i = (j : Int) := ⟨i.toNat, by omega⟩
  have hj : j < ns.length := by omega
  refine atI_nat ?_
  rw [List.getElem?_map, List.getElem?_eq_getElem hj]
  show some (V.int ns[j]) = some (V.int (ns.getD ((j : Int).toNat) 0))
  rw [Int.toNat_natCast, List.getD_eq_getElem?_getD, List.getElem?_eq_getElem hj]
  rfl
theorem cutV_to (xs : List V) (k : Nat) : cutV xs none (some (k : Int)) = xs.take k := by
  unfold cutV
  rw [HT.sIx_none, HT.sIx_nat, List.drop_zero, Nat.sub_zero]
  by_cases h : k ≤ xs.length
  · rw [Nat.min_eq_left h]
  · rw [Nat.min_eq_right (by omega), List.take_of_length_le (Nat.le_refl _), List.take_of_length_le (by omega)]
theorem cutV_all {xs : List V} (k : Nat) (h : xs.length ≤ k) : cutV xs none (some (k : Int)) = xs := by
  rw [cutV_to, List.take_of_length_le h]
theorem cutV_from (xs : List V) (k : Nat) : cutV xs (some (k : Int)) none = xs.drop k := by
  unfold cutV
  rw [HT.sIx_none, HT.sIx_nat]
  by_cases h : k ≤ xs.length
  · rw [Nat.min_eq_left h, List.take_of_length_le (by rw [List.length_drop]; omega)]
  · rw [Nat.min_eq_right (by omega), List.take_of_length_le (by rw [List.length_drop]; omega), List.drop_of_length_le (Nat.le_refl _), List.drop_of_length_le (by omega)]
theorem rv_kd {w : World} {p : Addr} {z : Str} {v : V} (h : KDct K w p z v) : RV (rIxD K w) (.ref p) (.str z) H v := fun H1 _ Q q => ⟨p, z, v, rfl, rfl, h, q H1 (Ex.refl H1)⟩
theorem rv_isN {x : V} : RV (fun x y H Q => y = .non ∧ Q (.bl (decide (x = .non))) H) x .non H (.bl (decide (x = .non))) := fun H1 _ Q q => ⟨rfl, q H1 (Ex.refl H1)⟩
theorem rv_notN {x : V} : RV (fun x y H Q => y = .non ∧ Q (.bl (!decide (x = .non))) H) x .non H (.bl (!decide (x = .non))) := fun H1 _ Q q => ⟨rfl, q H1 (Ex.refl H1)⟩
theorem ev_slS {tl th : TO} {zs : Str} {lo hi : Option Int} (h : Ev te σ H (.str zs)) (h1 : EvO tl σ H lo) (h2 : EvO th σ H hi) (hz : zs.length ≤ 100000) : Ev (tSl rSlS te tl th) σ H (.str (cutS zs lo hi)) := fun H1 e _ q =>
  h H1 e _ fun H2 e2 => h1 H2 (e.trans e2) _ fun H3 e3 => h2 H3 ((e.trans e2).trans e3) _ fun H4 e4 => ⟨zs, rfl, sz_of hz, q H4 ((e2.trans e3).trans e4)⟩
/-- [f(x) for x in xs] over a list of ints, each an int -/
theorem given_all {n : Nat} {v : Nat → V} : given n (fun _ => true) v = (List.range n).map v := by
  unfold given
  rw [List.filter_eq_self.mpr (fun _ _ => rfl)]
theorem et_yes {σ : L2.St} {H : Hp} : EvT tYes σ H true := fun H1 _ _ q => q H1 (Ex.refl H1)
theorem map_range {α : Type} {ns : List α} {d : α} {f : α → V} : (List.range ns.length).map (fun i => f (ns.getD i d)) = ns.map f := by
  apply List.ext_getElem?
  intro i
  rw [List.getElem?_map, List.getElem?_map]
  by_cases h : i < ns.length
  · rw [List.getElem?_range h, List.getElem?_eq_getElem h]
    show some (f (ns.getD i d)) = some (f ns[i])
    rw [List.getD_eq_getElem?_getD, List.getElem?_eq_getElem h]
    rfl
  · rw [List.getElem?_eq_none (by rw [List.length_range]; omega), List.getElem?_eq_none (by omega)]
    rfl
theorem el_lcI {a : Addr} {ns : List Int} {tl : TE} {j : Nat} {vs : List Nat} (f : Int → V) (h : Ev tl σ H (.ref a)) (hx : SqL K H a (ns.map V.int)) (hz : ns.length ≤ 40000) (hw : ∀ x, wipe ((wipe σ vs).set j (some x)) vs = wipe σ vs)
    (he : ∀ (n : Int), n ∈ ns → Ev te ((wipe σ vs).set j (some (.int n))) H (f n)) : EvL (tLc (iList K tl) (gName j) tYes te vs) σ H (ns.map f) := by
  have q := el_lcL (K := K) (t := tYes) (te := te) (j := j) (vs := vs) (fun _ => true) (fun i => f (ns.getD i 0)) h hx (by rw [List.length_map]; exact hz) hw (fun _ _ _ _ _ => et_yes) (fun i x H1 e hi _ => by
    rw [List.getElem?_map] at hi
    cases g : ns[i]? with
    | none => rw [g] at hi; cases hi
    | some n =>
      rw [g] at hi
      obtain rfl : V.int n = x := Option.some.inj hi
      have d : ns.getD i 0 = n := by rw [List.getD_eq_getElem?_getD, g]; rfl
      rw [d]
      exact (he n (List.mem_of_getElem? g)).mono e)
  rw [given_all, List.length_map, map_range] at q
  exact q
/-- .. over a new list -/
theorem el_lcNI {ns : List Int} {tl : TE} {j : Nat} {vs : List Nat} (f : Int → V) (h : EvL tl σ H (ns.map V.int)) (hz : ns.length ≤ 40000) (hw : ∀ x, wipe ((wipe σ vs).set j (some x)) vs = wipe σ vs)
    (he : ∀ (n : Int), n ∈ ns → Ev te ((wipe σ vs).set j (some (.int n))) H (f n)) : EvL (tLc (iList K tl) (gName j) tYes te vs) σ H (ns.map f) := by
  have q := el_lcNL (K := K) (t := tYes) (te := te) (j := j) (vs := vs) (fun _ => true) (fun i => f (ns.getD i 0)) h (by rw [List.length_map]; exact hz) hw (fun _ _ _ _ _ => et_yes) (fun i x H1 e hi _ => by
    rw [List.getElem?_map] at hi
    cases g : ns[i]? with
    | none => rw [g] at hi; cases hi
    | some n =>
      rw [g] at hi
      obtain rfl : V.int n = x := Option.some.inj hi
      have d : ns.getD i 0 = n := by rw [List.getD_eq_getElem?_getD, g]; rfl
      rw [d]
      exact (he n (List.mem_of_getElem? g)).mono e)
  rw [given_all, List.length_map, map_range] at q
  exact q
/-- [e for k in range(n)] -/
theorem given_list (ns : List Int) (p : Int → Bool) (f : Int → V) : given ns.length (fun i => p (ns.getD i 0)) (fun i => f (ns.getD i 0)) = (ns.filter p).map f := by
  have h : ns = (List.range ns.length).map fun i => ns.getD i 0 := by
    apply List.ext_getElem?
    intro i
    rw [List.getElem?_map]
    by_cases g : i < ns.length
    · rw [List.getElem?_range g, List.getElem?_eq_getElem g]
      show some ns[i] = some (ns.getD i 0)
      rw [List.getD_eq_getElem?_getD, List.getElem?_eq_getElem g]
      rfl
    · rw [List.getElem?_eq_none (show ns.length ≤ i by omega), List.getElem?_eq_none (show (List.range ns.length).length ≤ i by rw [List.length_range]; omega)]
      rfl
  unfold given
  generalize hn : ns.length = n
  rw [hn] at h
  generalize hg : (fun i => ns.getD i 0) = g at h
  have e1 : (fun i => p (ns.getD i 0)) = p ∘ g := by rw [← hg]; rfl
  have e2 : (fun i => f (ns.getD i 0)) = f ∘ g := by rw [← hg]; rfl
  rw [e1, e2, h, List.filter_map, List.map_map]
/-- .. some of them -/
theorem el_lcIF {a : Addr} {ns : List Int} {t : TT} {tl : TE} {j : Nat} {vs : List Nat} (p : Int → Bool) (f : Int → V) (h : Ev tl σ H (.ref a)) (hx : SqL K H a (ns.map V.int)) (hz : ns.length ≤ 40000) (hw : ∀ x, wipe ((wipe σ vs).set j (some x)) vs = wipe σ vs)
    (ht : ∀ (n : Int), n ∈ ns → EvT t ((wipe σ vs).set j (some (.int n))) H (p n)) (he : ∀ (n : Int), n ∈ ns → Ev te ((wipe σ vs).set j (some (.int n))) H (f n)) : EvL (tLc (iList K tl) (gName j) t te vs) σ H ((ns.filter p).map f) := by
  have hi : ∀ (i : Nat) (x : V), (ns.map V.int)[i]? = some x → ∃ n, n ∈ ns ∧ x = .int n ∧ ns.getD i 0 = n := fun i x hi => by
    rw [List.getElem?_map] at hi
    cases g : ns[i]? with
    | none => rw [g] at hi; cases hi
    | some n =>
      rw [g] at hi
      exact ⟨n, List.mem_of_getElem? g, (Option.some.inj hi).symm, by rw [List.getD_eq_getElem?_getD, g]; rfl⟩
  have q := el_lcL (K := K) (t := t) (te := te) (j := j) (vs := vs) (fun i => p (ns.getD i 0)) (fun i => f (ns.getD i 0)) h hx (by rw [List.length_map]; exact hz) hw
    (fun i x H1 e hx => by obtain ⟨n, hm, rfl, d⟩ := hi i x hx; show EvT _ _ _ (p (ns.getD i 0)); rw [d]; exact (ht n hm).mono e)
    (fun i x H1 e hx _ => by obtain ⟨n, hm, rfl, d⟩ := hi i x hx; show Ev _ _ _ (f (ns.getD i 0)); rw [d]; exact (he n hm).mono e)
  rw [List.length_map, given_list] at q
  exact q
theorem ev_sumN {ns : List Int} (h : EvL ta σ H (ns.map V.int)) : Ev (tCB (rSum K) (tCons ta tNil)) σ H (.int ns.sum) := fun H1 e Q q =>
  h H1 e _ fun p H2 _ e2 hp => ⟨p, ns, rfl, sq_of hp, q H2 e2⟩
theorem ev_sumR {n : Nat} {f : Nat → Int} (h : EvL ta σ H ((List.range n).map fun i => V.int (f i))) : Ev (tCB (rSum K) (tCons ta tNil)) σ H (.int ((List.range n).map f).sum) :=
  ev_sumN (by rw [List.map_map]; exact h)
theorem et_p {p : Prop} [Decidable p] (h : EtP t σ H p) : EvT t σ H (decide p) := by
  obtain ⟨b, hb, h⟩ := h
  refine et_is h ?_
  cases b with
  | true => exact (decide_eq_true (hb.mp rfl)).symm
  | false => exact (decide_eq_false fun z => nomatch hb.mpr z).symm
theorem el_revL {p : Addr} {xs : List V} (ha : Ev ta σ H (.ref p)) (h : SqL K H p xs) : EvL (tRevL K ta) σ H xs.reverse := fun H1 e Q q =>
  ha H1 e _ fun H2 e2 => ⟨p, xs, rfl, ex_l (e.trans e2) h, fun l hl => q l _ (fresh_back e2 hl) (e2.trans (Ex.new hl)) upd_same⟩
theorem el_revI {p : Addr} {ns : List Int} (ha : Ev ta σ H (.ref p)) (h : SqL K H p (ns.map V.int)) : EvL (tRevL K ta) σ H (ns.reverse.map V.int) := by
  rw [List.map_reverse]
  exact el_revL ha h
theorem el_lcR {ta : TA} {j : Nat} {vs : List Nat} {n : Int} (v : Nat → V) (h : EvA ta σ H [.int n]) (hn : 0 ≤ n ∧ n ≤ 40000) (hw : ∀ x, wipe ((wipe σ vs).set j (some x)) vs = wipe σ vs)
    (he : ∀ (i : Nat), (i : Int) < n → Ev te ((wipe σ vs).set j (some (.int (i : Int)))) H (v i)) : EvL (tLc (iRng1 ta) (gName j) tYes te vs) σ H ((List.range n.toNat).map v) := by
  have q := el_lcR1 (te := te) (j := j) (vs := vs) (fun _ => true) v h hn hw (t := tYes) (fun _ _ _ _ => et_yes) (fun i H1 e hi _ => (he i hi).mono e)
  rw [given_all] at q
  exact q
/-- an item of a displayed list -/
theorem ev_ixD {ns : List Int} {i : Int} (ha : EvL ta σ H (ns.map V.int)) (hb : Ev tb σ H (.int i)) (h0 : 0 ≤ i) (h1 : i < (ns.length : Int)) : Ev (tOp (rIxL K) ta tb) σ H (.int (ns.getD i.toNat 0)) :=
  ev_opL1 ha (fun _ e => hb.mono e) fun p H1 h _ => rv_ixL (sq_of h) (by
    obtain ⟨j, rfl⟩ : ∃ j : Nat, i = (j : Int) := ⟨i.toNat, by omega⟩
    have hj : j < ns.length := by omega
    refine atI_nat ?_
    rw [List.getElem?_map, List.getElem?_eq_getElem hj, List.getD_eq_getElem?_getD, Int.toNat_natCast, List.getElem?_eq_getElem hj]
    rfl)
theorem at_strs {ns : List Str} {i : Int} (h0 : 0 ≤ i) (h1 : i < (ns.length : Int)) : atI (ns.map V.str) i = some (.str (ns.getD i.toNat "")) := by
  obtain ⟨j, rfl⟩ : ∃ j : Nat, i = (j : Int) := ⟨i.toNat, by omega⟩
  have hj : j < ns.length := by omega
  refine atI_nat ?_
  rw [List.getElem?_map, List.getElem?_eq_getElem hj, List.getD_eq_getElem?_getD, Int.toNat_natCast, List.getElem?_eq_getElem hj]
  rfl
theorem ev_ixDS {ns : List Str} {i : Int} (ha : EvL ta σ H (ns.map V.str)) (hb : Ev tb σ H (.int i)) (h0 : 0 ≤ i) (h1 : i < (ns.length : Int)) : Ev (tOp (rIxL K) ta tb) σ H (.str (ns.getD i.toNat "")) :=
  ev_opL1 ha (fun _ e => hb.mono e) fun p H1 h _ => rv_ixL (sq_of h) (at_strs h0 h1)
theorem rv_ixStr {p : Addr} {ns : List Str} {i : Int} (h : SqL K H p (ns.map V.str)) (h0 : 0 ≤ i) (h1 : i < (ns.length : Int)) : RV (rIxL K) (.ref p) (.int i) H (.str (ns.getD i.toNat "")) := rv_ixL h (at_strs h0 h1)
theorem ev_lenM {α : Type} {f : α → V} {p : Addr} {ns : List α} (ha : Ev ta σ H (.ref p)) (h : SqL K H p (ns.map f)) : Ev (tCB (rLenS K) (tCons ta tNil)) σ H (.int (ns.length : Int)) := by
  have q := ev_len ha h
  rw [List.length_map] at q
  exact q
theorem ev_lenTM {α : Type} {f : α → V} {p : Addr} {ns : List α} (ha : Ev ta σ H (.ref p)) (h : SqT K H p (ns.map f)) : Ev (tCB (rLenS K) (tCons ta tNil)) σ H (.int (ns.length : Int)) := by
  have q := ev_lenT ha h
  rw [List.length_map] at q
  exact q
theorem el_to {xs ys : List V} (h : EvL te σ H xs) (e : xs = ys) : EvL te σ H ys := by rw [← e]; exact h
theorem r_retI {i j : Int} (e : Ex H0 H1) (h : Ev te σ H0 (.int i)) (hi : i = j) (k : ∀ H2, Ex H0 H2 → D.rt (.int j) H2) : tSeq (tRet te) tz D σ H1 := by
  subst hi
  exact h H1 e _ fun H2 e2 => k H2 (e.trans e2)
theorem r_retB {i j : Bool} (e : Ex H0 H1) (h : Ev te σ H0 (.bl i)) (hi : i = j) (k : ∀ H2, Ex H0 H2 → D.rt (.bl j) H2) : tSeq (tRet te) tz D σ H1 := by
  subst hi
  exact h H1 e _ fun H2 e2 => k H2 (e.trans e2)
theorem r_retS {i j : Str} (e : Ex H0 H1) (h : Ev te σ H0 (.str i)) (hi : i = j) (k : ∀ H2, Ex H0 H2 → D.rt (.str j) H2) : tSeq (tRet te) tz D σ H1 := by
  subst hi
  exact h H1 e _ fun H2 e2 => k H2 (e.trans e2)
/-- while; the heap only grows; W: by a measure and the slots -/
theorem r_while (e : Ex H0 H1) (W : Nat → L2.St → Prop) (m0 : Nat) (h0 : W m0 σ)
    (hs : ∀ m σ' H', W m σ' → Ex H0 H' → ∃ p, EtP t σ' H0 p ∧ (p → ∀ H2, Ex H0 H2 → tu { D with nx := fun σ2 H3 => (∃ m', m' < m ∧ W m' σ2) ∧ Ex H0 H3, ct := fun σ2 H3 => (∃ m', m' < m ∧ W m' σ2) ∧ Ex H0 H3, bk := tz D } σ' H2) ∧ (¬ p → ∀ H2, Ex H0 H2 → tz D σ' H2)) :
    tSeq (tWhile t tu) tz D σ H1 := by
  refine q_while (fun m σ' H' => W m σ' ∧ Ex H0 H') m0 ⟨h0, e⟩ ?_
  rintro m σ' H' ⟨hw, e'⟩
  obtain ⟨p, ⟨b, hb, ht⟩, h1, h2⟩ := hs m σ' H' hw e'
  refine ⟨b, ht.mono e', fun eb H2 e2 => ?_, fun eb H2 e2 => ?_⟩
  · exact ⟨_, fun σ2 H3 ⟨⟨m', l, w⟩, e3⟩ => ⟨m', l, w, e3⟩, h1 (hb.mp eb) H2 (e'.trans e2)⟩
  · refine h2 (fun z => ?_) H2 (e'.trans e2)
    have := hb.mpr z
    rw [eb] at this
    cases this
end

/-! ### written dicts with text keys, told by their pairs -/
def EntsK (P : Params) : List (Str × V) → List DictEntry → Prop
  | [], [] => True
  | (k, v) :: r, e :: l => (∃ t, e.key = .str k t) ∧ e.hash = PyData.keyHash P k ∧ RelV v e.val ∧ EntsK P r l
  | _, _ => False
theorem EntsK.lit {P : Params} : ∀ {r : List (Str × V)} {l : List DictEntry}, EntsK P r l → PySem.W.KeysLit P l
  | [], [], _ => True.intro
  | (k, v) :: r, e :: l, h => by
    obtain ⟨⟨t, h1⟩, h2, _, h4⟩ := h
    exact ⟨⟨k, t, h1, h2⟩, EntsK.lit h4⟩
  | [], _ :: _, h => h.elim
  | _ :: _, [], h => h.elim
theorem isStr_str (k z : Str) (t : Tok) : (Value.str k t).isStr z = decide (k = z) := by
  rw [PySem.W.isStr_of]
  by_cases h : k = z
  · subst h
    rw [decide_eq_true rfl]
    exact keyIs_str k t
  · rw [decide_eq_false h]
    cases e : Value.isStrOf z (.str k t) with
    | false => rfl
    | true =>
      obtain ⟨t2, e2⟩ := Value.isStrOf_shape (x := z) (v := .str k t) e
      injection e2 with e3 _
      exact absurd e3 h
theorem EntsK.find {P : Params} (z : Str) : ∀ {r : List (Str × V)} {l : List DictEntry}, EntsK P r l →
    (match l.find? (fun e => e.key.isStr z) with | some e => ∃ v, r.lookup z = some v ∧ RelV v e.val | none => r.lookup z = none ∧ l.any (·.refKey) = false)
  | [], [], _ => ⟨rfl, rfl⟩
  | (k, v) :: r, e :: l, h => by
    obtain ⟨⟨t, h1⟩, _, h3, h4⟩ := h
    have ih := EntsK.find z h4
    have hk : e.key.isStr z = decide (k = z) := by rw [h1]; exact isStr_str k z t
    by_cases hz : k = z
    · subst hz
      have q : (e :: l).find? (fun e => e.key.isStr k) = some e := by
        rw [List.find?_cons, hk, decide_eq_true rfl]
      rw [q]
      refine ⟨v, ?_, h3⟩
      rw [List.lookup_cons, beq_self_eq_true]
    · have q : (e :: l).find? (fun e => e.key.isStr z) = l.find? (fun e => e.key.isStr z) := by
        rw [List.find?_cons, hk, decide_eq_false hz]
      have g : ((k, v) :: r).lookup z = r.lookup z := by
        rw [List.lookup_cons, beq_eq_false_iff_ne.mpr (Ne.symm hz)]
      rw [q, g]
      cases c : l.find? (fun e => e.key.isStr z) with
      | some e2 =>
        rw [c] at ih
        exact ih
      | none =>
        rw [c] at ih
        refine ⟨ih.1, ?_⟩
        rw [List.any_cons, ih.2, Bool.or_false]
        unfold DictEntry.refKey
        rw [h1]
  | [], _ :: _, h => h.elim
  | _ :: _, [], h => h.elim
/-- at d stands a written dict of these pairs -/
structure SD (K : PySem.W.Frag) (w : World) (d : Addr) (kvs : List (Str × V)) : Prop where
  ex : ∃ es n, K.lookup d = some ⟨.type "dict", none, .dict es n, #[]⟩ ∧ EntsK w.params kvs es.toList
  low : (d == sysModules) = false
section
variable {K : PySem.W.Frag} {w : World} {d : Addr} {kvs : List (Str × V)} {H : Hp}
theorem SD.some (D : SD K w d kvs) {z : Str} {v : V} (h : kvs.lookup z = .some v) : KDct K w d z v := by
  obtain ⟨es, n, hl, he⟩ := D.ex
  have f := he.find z
  cases c : es.toList.find? (fun e => e.key.isStr z) with
  | none => rw [c] at f; rw [f.1] at h; cases h
  | some e =>
    rw [c] at f
    obtain ⟨v2, h2, h3⟩ := f
    rw [h] at h2
    cases h2
    refine ⟨es, n, e.val, hl, he.lit, ?_, h3⟩
    unfold PySem.W.nsIn
    rw [hl]
    dsimp only
    rw [c]
theorem SD.ns (D : SD K w d kvs) (z : Str) : ∃ r, PySem.W.nsIn K d z = .some r ∧ r.isSome = (kvs.lookup z).isSome := by
  obtain ⟨es, n, hl, he⟩ := D.ex
  have f := he.find z
  unfold PySem.W.nsIn
  rw [hl]
  dsimp only
  cases c : es.toList.find? (fun e => e.key.isStr z) with
  | none =>
    rw [c] at f
    rw [f.1]
    dsimp only
    rw [f.2]
    exact ⟨none, rfl, rfl⟩
  | some e =>
    rw [c] at f
    obtain ⟨v2, h2, h3⟩ := f
    rw [h2]
    exact ⟨_, rfl, rfl⟩
def rInSD (d : Addr) (kvs : List (Str × V)) (neg : Bool) : R2 := fun x y H Q => ∃ (z : Str), x = .str z ∧ y = .ref d ∧ Q (.bl (if neg then !(kvs.lookup z).isSome else (kvs.lookup z).isSome)) H
theorem op_in_sd {X : Cx} (D : SD X.K X.w d kvs) : OpR X (compareOp .In) (rInSD d kvs false) := by
  intro pins s σ H x y v u Q I rx ry h
  obtain ⟨z, rfl, rfl, q⟩ := h
  obtain ⟨es, n, hl, he⟩ := D.ex
  obtain ⟨r, hr, hs⟩ := D.ns z
  refine op_in_kd ⟨hl, he.lit, D.low⟩ pins s σ H (.str z) (.ref d) v u Q I rx ry ⟨z, r, rfl, rfl, hr, ?_⟩
  rw [hs]
  exact q
theorem op_notIn_sd {X : Cx} (D : SD X.K X.w d kvs) : OpR X (compareOp .NotIn) (rInSD d kvs true) := by
  intro pins s σ H x y v u Q I rx ry h
  obtain ⟨z, rfl, rfl, q⟩ := h
  obtain ⟨es, n, hl, he⟩ := D.ex
  obtain ⟨r, hr, hs⟩ := D.ns z
  refine op_notIn_kd ⟨hl, he.lit, D.low⟩ pins s σ H (.str z) (.ref d) v u Q I rx ry ⟨z, r, rfl, rfl, hr, ?_⟩
  rw [hs]
  exact q
theorem rv_inSD {z : Str} : RV (rInSD d kvs false) (.str z) (.ref d) H (.bl ((kvs.lookup z).isSome)) := fun H1 _ Q q => ⟨z, rfl, rfl, q H1 (Ex.refl H1)⟩
theorem rv_niSD {z : Str} : RV (rInSD d kvs true) (.str z) (.ref d) H (.bl (!(kvs.lookup z).isSome)) := fun H1 _ Q q => ⟨z, rfl, rfl, q H1 (Ex.refl H1)⟩
theorem lookup_keys (z : Str) : ∀ kvs : List (Str × V), (kvs.lookup z).isSome = decide (z ∈ kvs.map (·.1))
  | [] => rfl
  | (k, v) :: r => by
    have ih := lookup_keys z r
    by_cases h : z = k
    · subst h
      rw [List.lookup_cons, beq_self_eq_true]
      simp
    · rw [List.lookup_cons, beq_eq_false_iff_ne.mpr h]
      show (r.lookup z).isSome = _
      rw [ih]
      simp [h]
theorem rv_inSDk {z : Str} {keys : List Str} (hk : kvs.map (·.1) = keys) : RV (rInSD d kvs false) (.str z) (.ref d) H (.bl (decide (z ∈ keys))) := by
  have q := rv_inSD (d := d) (kvs := kvs) (H := H) (z := z)
  rw [lookup_keys, hk] at q
  exact q
theorem rv_niSDk {z : Str} {keys : List Str} (hk : kvs.map (·.1) = keys) : RV (rInSD d kvs true) (.str z) (.ref d) H (.bl (!decide (z ∈ keys))) := by
  have q := rv_niSD (d := d) (kvs := kvs) (H := H) (z := z)
  rw [lookup_keys, hk] at q
  exact q
/-- a written tuple of flat values -/
theorem sqt_k {a : Addr} {od : Option Addr} {its : Array Value} {n : Nat} {sl : Array (Option Value)} {xs : List V} (l : K.lookup a = some ⟨.type "tuple", od, .seq its n, sl⟩) (hz : its.size ≤ 100000) (r : Vals xs its.toList) : ∀ H : Hp, SqT K H a xs :=
  fun _ => Or.inr ⟨_, its, n, l, rfl, rfl, Nat.le_trans hz (by decide), r⟩
end
/-! ### a call of a local name that holds one of several defs -/
def tCallR (i : Nat) (S : Addr → Sp → Prop) (t : TA) : TE := fun σ H Q => ∃ f sp, σ[i]? = some (some (.ref f)) ∧ S f sp ∧ t σ H fun vs H1 => sp vs H1 Q (fun _ _ _ => False)
theorem pe_callR {X : Cx} {k i : Nat} {x : Str} {p pos : Pos} {e : Expr} {es : List Expr} {t : TA} {S : Addr → Sp → Prop} (A : ∀ f sp, S f sp → Held X.prog X.w X.K X.mg X.base k f sp) (hr : Room k X.A) (hN : X.N[i]? = some x) (hv : Vis X.env.scope x) (ha : PA X (e :: es) t)
    (hdb : (x == ("__debug__" : Str)) = false := by decide) (hcd : (x == ("__classdict__" : Str)) = false := by decide)
    (he : starEach (e :: es) X.env = (false, eval e X.env) :: starEach es X.env := by rfl) (hpl : (backTo pos (starEach es X.env)).any (·.1) = false := by rfl) : PE X (.Call (.Name x p) (e :: es) [] pos) (tCallR i S t) := by
  refine ⟨fun pins s σ H Q I h => ?_⟩
  obtain ⟨f, sp, hs, hS, ht⟩ := h
  obtain ⟨fd, ps, F, hk, hb⟩ := (A f sp hS).ex
  refine (pe_callL (i := i) (f := f) (sp := sp) (dvs := []) (E := fun _ _ _ => False) F hr hN hv hk hb .nil (fun _ _ _ _ _ _ _ z => z.elim) ha hdb hcd he hpl).run pins s σ H Q I ⟨hs, ?_⟩
  have e0 : (fun (vs : List V) (H1 : Hp) => sp (vs ++ []) H1 Q (fun _ _ _ => False)) = fun vs H1 => sp vs H1 Q (fun _ _ _ => False) := by
    funext vs H1
    rw [List.append_nil]
  show t σ H (fun vs H1 => sp (vs ++ []) H1 Q (fun _ _ _ => False))
  rw [e0]
  exact ht
theorem ev_callR {i : Nat} {S : Addr → Sp → Prop} {ta : TA} {σ : L2.St} {H : Hp} {f : Addr} {sp : Sp} {vs : List V} {z : V} (hs : σ[i]? = some (some (.ref f))) (hS : S f sp) (h : EvA ta σ H vs) (hp : SpV sp vs H z) : Ev (tCallR i S ta) σ H z := fun H1 e Q q =>
  ⟨f, sp, hs, hS, h H1 e _ fun H2 e2 => hp H2 (e.trans e2) Q (fun H3 e3 => q H3 (e2.trans e3)) _⟩
/-! ### a def that stands, and its calls -/
structure Df (P : Program) (w : World) (K : PySem.W.Frag) (mg : Str → Option Value) (base : Heap) (k : Nat) (x : Str) (a : Addr) (fd : FuncData) (ps : List Str) (sp : Sp) : Prop where
  ok : FnOk P w K mg base CX0 k a fd ps sp
  g : mg x = some (.ref a)
  kp : PySem.W.keepIn K (.ref a) = true
  b : Binds K fd ps []
theorem Df.held {P : Program} {w : World} {K : PySem.W.Frag} {mg : Str → Option Value} {base : Heap} {k : Nat} {x : Str} {a : Addr} {fd : FuncData} {ps : List Str} {sp : Sp} (D : Df P w K mg base k x a fd ps sp) : Held P w K mg base k a sp := ⟨⟨fd, ps, D.ok, D.kp, D.b⟩⟩
theorem Df.heldM {P : Program} {w : World} {K : PySem.W.Frag} {mg : Str → Option Value} {base : Heap} {k m : Nat} {x : Str} {a : Addr} {fd : FuncData} {ps : List Str} {sp : Sp} (D : Df P w K mg base k x a fd ps sp) (h : k ≤ m) : Held P w K mg base m a sp := ⟨⟨fd, ps, D.ok.mono h, D.kp, D.b⟩⟩
section
variable {X : Cx} {k : Nat} {x : Str} {a : Addr} {fd : FuncData} {ps : List Str} {sp : Sp} {e : Expr} {es : List Expr} {t : TA} {p pos : Pos}
theorem cl (O : Df X.prog X.w X.K X.mg X.base k x a fd ps sp) (hr : Room k X.A) (hg : Gl X x) (ha : PA X (e :: es) t) (hdb : (x == ("__debug__" : Str)) = false := by decide)
    (he : starEach (e :: es) X.env = (false, eval e X.env) :: starEach es X.env := by rfl) (hpl : (backTo pos (starEach es X.env)).any (·.1) = false := by rfl) : PE X (.Call (.Name x p) (e :: es) [] pos) (tCall sp [] E0 t) :=
  pe_call O.ok hr hg O.g O.kp O.b .nil pass0 ha hdb he hpl
theorem cl0 (O : Df X.prog X.w X.K X.mg X.base k x a fd ps sp) (hr : Room k X.A) (hg : Gl X x) (hdb : (x == ("__debug__" : Str)) = false := by decide) : PE X (.Call (.Name x p) [] [] pos) (tCall sp [] E0 tNil) :=
  pe_call0 O.ok hr hg O.g O.kp O.b .nil pass0 hdb
end
/-! ### exceptions -/
/-- an exception: the class (its number), its fields -/
structure Exn where
  c : Nat
  fs : Option (List (Str × V))
def Exn.Is (x : Exn) (d : Option Addr) (H : Hp) : Prop := match x.fs with
  | none => d = none
  | some fs => ∃ a, d = some a ∧ H a = some (.xd fs)
/-- what a def that may raise comes to -/
def Outc {α : Type} (ad : Nat → Addr) (H : Hp) (Q : VK) (E : XK) (val : α → V) : Except Exn α → Prop
  | .ok z => ∀ H1, Ex H H1 → Q (val z) H1
  | .error x => ∀ d H1, Ex H H1 → x.Is d H1 → E (.ref (ad x.c)) d H1
theorem Outc.mono {α : Type} {ad : Nat → Addr} {H H' : Hp} {Q : VK} {E : XK} {val : α → V} {r : Except Exn α} (e : Ex H H') (q : Outc ad H Q E val r) : Outc ad H' Q E val r := by
  cases r with
  | ok z => exact fun H1 e1 => q H1 (e.trans e1)
  | error x => exact fun d H1 e1 => q d H1 (e.trans e1)
structure DfX (P : Program) (w : World) (K : PySem.W.Frag) (mg : Str → Option Value) (base : Heap) (k : Nat) (x : Str) (a : Addr) (fd : FuncData) (ps : List Str) (sp : Sp) : Prop where
  ok : FnOk P w K mg base (L2.CX P w) k a fd ps sp
  g : mg x = some (.ref a)
  kp : PySem.W.keepIn K (.ref a) = true
  b : Binds K fd ps []
/-- the class of an exception whose __init__ keeps one field f -/
structure ExK (K : PySem.W.Frag) (mg : Str → Option Value) (x : Str) (C I : Addr) (f : Str) : Prop where
  g : mg x = some (.ref C)
  o : OexC K C
  i : PySem.W.findIn K (.ref C) "__init__" = some (some (.ref I))
  t : PySem.W.typeIn K (.ref I) = some (.type "function")
  n : PySem.W.findIn K (.ref C) f = some none
  xf : XfC K C
def sp_init1 (K : PySem.W.Frag) (f : Str) : Sp := fun vs H Q _ => ∃ (a C : Addr) (y : V), vs = [.ref a, y] ∧ (OexC K C ∧ PySem.W.findIn K (.ref C) f = some none ∧ H a = some (exo a C none)) ∧
  ∀ dx, H dx = none → dx ≠ a → Q .non (upd (upd H dx (exd dx [(f, y)])) a (exo a C (some dx)))
/-- the exception x in the air with the slots σ -/
def EvE (te : TE) (σ : L2.St) (H : Hp) (P : Value → Option Addr → Hp → Prop) (W : WX) : Prop := ∀ H1, Ex H H1 → ∀ Q : VK, (∀ cls d H2, Ex H1 H2 → P cls d H2 → W cls d σ H2) → te σ H1 Q
def SpE (sp : Sp) (vs : List V) (H : Hp) (P : Value → Option Addr → Hp → Prop) : Prop := ∀ H1, Ex H H1 → ∀ (Q : VK) (E : XK), (∀ cls d H2, Ex H1 H2 → P cls d H2 → E cls d H2) → sp vs H1 Q E
def XIs (ad : Nat → Addr) (x : Exn) : Value → Option Addr → Hp → Prop := fun cls d H => cls = .ref (ad x.c) ∧ x.Is d H
section
variable {X : Cx} {K : PySem.W.Frag} {σ : L2.St} {H H0 H1 H' : Hp} {ta tb te : TE} {t : TA} {v z : V} {vs : List V} {D : Ends} {tz : TS} {W : WX} {sp : Sp} {P : Value → Option Addr → Hp → Prop}
theorem ev_callS {E : L2.St → XK} (h : EvA t σ H vs) (hs : SpV sp vs H z) : Ev (tCallS sp E t) σ H z := fun H1 e Q q =>
  h H1 e _ fun H2 e2 => hs H2 (e.trans e2) Q (fun H3 e3 => q H3 (e2.trans e3)) _
theorem ee_callS (h : EvA t σ H vs) (hs : SpE sp vs H P) : EvE (tCallS sp (WE W) t) σ H P W := fun H1 e Q q =>
  h H1 e _ fun H2 e2 => hs H2 (e.trans e2) Q _ fun cls d H3 e3 hp => q cls d H3 (e2.trans e3) hp
theorem ev_callSX {E : L2.St → XK} {R : List V → Hp → Prop} (h : EvAX t σ H R) (hs : ∀ vs H1, Ex H H1 → R vs H1 → SpV sp vs H1 z) : Ev (tCallS sp E t) σ H z := fun H1 e Q q =>
  h H1 e _ fun vs H2 e2 hp => hs vs H2 (e.trans e2) hp H2 (Ex.refl H2) Q (fun H3 e3 => q H3 (e2.trans e3)) _
theorem ee_callSX {R : List V → Hp → Prop} (h : EvAX t σ H R) (hs : ∀ vs H1, Ex H H1 → R vs H1 → SpE sp vs H1 P) : EvE (tCallS sp (WE W) t) σ H P W := fun H1 e Q q =>
  h H1 e _ fun vs H2 e2 hr => hs vs H2 (e.trans e2) hr H2 (Ex.refl H2) Q _ fun cls d H3 e3 hp => q cls d H3 (e2.trans e3) hp
theorem r_retE (e : Ex H0 H1) (h : EvE te σ H0 P W) (k : ∀ cls d H2, Ex H0 H2 → P cls d H2 → W cls d σ H2) : tSeq (tRet te) tz D σ H1 := h H1 e _ fun cls d H2 e2 hp => k cls d H2 (e.trans e2) hp
theorem r_asgE {i : Nat} (e : Ex H0 H1) (h : EvE te σ H0 P W) (k : ∀ cls d H2, Ex H0 H2 → P cls d H2 → W cls d σ H2) : tSeq (tAsg te (gName i)) tz D σ H1 := h H1 e _ fun cls d H2 e2 hp => k cls d H2 (e.trans e2) hp
theorem r_dropE (e : Ex H0 H1) (h : EvE te σ H0 P W) (k : ∀ cls d H2, Ex H0 H2 → P cls d H2 → W cls d σ H2) : tSeq (tDrop te) tz D σ H1 := h H1 e _ fun cls d H2 e2 hp => k cls d H2 (e.trans e2) hp
/-- raise C(y), C with one field -/
theorem r_raise1 {mg : Str → Option Value} {x f : Str} {C I : Addr} {y : V} (e : Ex H0 H1) (T : ExK K mg x C I f) (h : EvA t σ H0 [y]) (k : ∀ d H2, Ex H0 H2 → (∃ a, d = some a ∧ H2 a = some (.xd [(f, y)])) → W (.ref C) d σ H2) :
    tSeq (fun _ σ H => tMkO C (sp_init1 K f) [] t σ H fun cls d H' => W cls d σ H') tz D σ H1 :=
  h H1 e _ fun H2 e2 => ⟨by show 1 ≤ 1000; decide, fun a hn => ⟨a, C, y, rfl, ⟨T.o, T.n, upd_same⟩, fun dx h1 h2 => by
    have hd : H2 dx = none := by
      rw [upd_ne h2] at h1
      exact h1
    refine ⟨rfl, dx, [(f, y)], upd_same, by rw [upd_ne h2]; exact upd_same, hd, k _ _ ?_ ⟨dx, rfl, upd_same⟩⟩
    refine (e.trans e2).trans fun b o hb => ?_
    have nb1 : b ≠ dx := fun z => by rw [z, hd] at hb; cases hb
    have nb2 : b ≠ a := fun z => by rw [z, hn] at hb; cases hb
    rw [upd_ne nb1, del_ne nb2, upd_ne nb2, upd_ne nb1, upd_ne nb2]
    exact hb⟩⟩
theorem clS {k : Nat} {x : Str} {a : Addr} {fd : FuncData} {ps : List Str} {e : Expr} {es : List Expr} {p pos : Pos} {E : L2.St → XK} (O : DfX X.prog X.w X.K X.mg X.base k x a fd ps sp) (hr : Room k X.A) (hg : Gl X x) (hx : ∀ σ, PassesAt (L2.CX X.prog X.w) X σ (E σ)) (ha : PA X (e :: es) t)
    (hdb : (x == ("__debug__" : Str)) = false := by decide) (he : starEach (e :: es) X.env = (false, eval e X.env) :: starEach es X.env := by rfl) (hpl : (backTo pos (starEach es X.env)).any (·.1) = false := by rfl) : PE X (.Call (.Name x p) (e :: es) [] pos) (tCallS sp E t) :=
  pe_callS O.ok hr hg O.g O.kp O.b hx ha hdb he hpl
theorem clL {k : Nat} {x : Str} {a : Addr} {fd : FuncData} {ps : List Str} {e : Expr} {es : List Expr} {p pos : Pos} (O : DfX X.prog X.w X.K X.mg X.base k x a fd ps sp) (hr : Room k X.A) (hg : Gl X x) (ha : PA X (e :: es) t)
    (hdb : (x == ("__debug__" : Str)) = false := by decide) (he : starEach (e :: es) X.env = (false, eval e X.env) :: starEach es X.env := by rfl) (hpl : (backTo pos (starEach es X.env)).any (·.1) = false := by rfl) : PE X (.Call (.Name x p) (e :: es) [] pos) (tCall sp [] E0 t) :=
  pe_call O.ok hr hg O.g O.kp O.b .nil passL ha hdb he hpl
end
/-- a local name that holds one of several defs that may raise -/
structure HeldX (P : Program) (w : World) (K : PySem.W.Frag) (mg : Str → Option Value) (base : Heap) (k : Nat) (a : Addr) (sp : Sp) : Prop where
  ex : ∃ fd ps, FnOk P w K mg base (L2.CX P w) k a fd ps sp ∧ PySem.W.keepIn K (.ref a) = true ∧ Binds K fd ps []
theorem DfX.heldM {P : Program} {w : World} {K : PySem.W.Frag} {mg : Str → Option Value} {base : Heap} {k m : Nat} {x : Str} {a : Addr} {fd : FuncData} {ps : List Str} {sp : Sp} (D : DfX P w K mg base k x a fd ps sp) (h : k ≤ m) : HeldX P w K mg base m a sp := ⟨⟨fd, ps, D.ok.mono h, D.kp, D.b⟩⟩
theorem exm_of {K : PySem.W.Frag} {S B : Addr} {b : Bool} (h1 : PySem.W.subIn K (.ref S) (.type "BaseException") = some true) (h1' : PySem.W.subIn K (.ref B) (.type "BaseException") = some true) (h2 : PySem.W.isClsIn K B = true) (h3 : PySem.W.typeIn K (.ref B) = some (.type "type")) (h4 : PySem.W.subIn K (.ref S) (.ref B) = some b) :
    PySem.W.exmOne K (.ref S) (.ref B) = some b := by
  have e1 : (PySem.W.subIn K (.ref B) (.type "BaseException") == some true) = true := by rw [h1'] <;> rfl
  have e2 : ((PySem.W.clsIn K B).isSome && PySem.W.typeIn K (.ref B) == some (.type "type")) = true := by
    have h2' : (PySem.W.clsIn K B).isSome = true := h2
    rw [h2', h3] <;> rfl
  show (if (PySem.W.subIn K (.ref B) (.type "BaseException") == some true) = true then (if ((PySem.W.clsIn K B).isSome && PySem.W.typeIn K (.ref B) == some (.type "type")) = true then PySem.W.subIn K (.ref S) (.ref B) else none) else none) = some b
  rw [if_pos e1, if_pos e2]
  exact h4
structure InitOk (P : Program) (w : World) (K : PySem.W.Frag) (mg : Str → Option Value) (base : Heap) (a : Addr) (fd : FuncData) (ps : List Str) (sp : Sp) : Prop where
  ok : FnOk P w K mg base CX0 1 a fd ps sp
  b : Binds K fd ps []
def tCallRX (i : Nat) (S : Addr → Sp → Prop) (E : XK) (t : TA) : TE := fun σ H Q => ∃ f sp, σ[i]? = some (some (.ref f)) ∧ S f sp ∧ t σ H fun vs H1 => sp vs H1 Q E
theorem pe_callRX {X : Cx} {k i : Nat} {x : Str} {p pos : Pos} {e : Expr} {es : List Expr} {t : TA} {E : XK} {S : Addr → Sp → Prop} (A : ∀ f sp, S f sp → HeldX X.prog X.w X.K X.mg X.base k f sp) (hr : Room k X.A) (hN : X.N[i]? = some x) (hv : Vis X.env.scope x) (hx : Passes (L2.CX X.prog X.w) X E) (ha : PA X (e :: es) t)
    (hdb : (x == ("__debug__" : Str)) = false := by decide) (hcd : (x == ("__classdict__" : Str)) = false := by decide)
    (he : starEach (e :: es) X.env = (false, eval e X.env) :: starEach es X.env := by rfl) (hpl : (backTo pos (starEach es X.env)).any (·.1) = false := by rfl) : PE X (.Call (.Name x p) (e :: es) [] pos) (tCallRX i S E t) := by
  refine ⟨fun pins s σ H Q I h => ?_⟩
  obtain ⟨f, sp, hs, hS, ht⟩ := h
  obtain ⟨fd, ps, F, hk, hb⟩ := (A f sp hS).ex
  refine (pe_callL (i := i) (f := f) (sp := sp) (dvs := []) (E := E) F hr hN hv hk hb .nil hx ha hdb hcd he hpl).run pins s σ H Q I ⟨hs, ?_⟩
  have e0 : (fun (vs : List V) (H1 : Hp) => sp (vs ++ []) H1 Q E) = fun vs H1 => sp vs H1 Q E := by
    funext vs H1
    rw [List.append_nil]
  show t σ H (fun vs H1 => sp (vs ++ []) H1 Q E)
  rw [e0]
  exact ht
theorem ev_callRX {i : Nat} {S : Addr → Sp → Prop} {E : XK} {ta : TA} {σ : L2.St} {H : Hp} {f : Addr} {sp : Sp} {vs : List V} {z : V} (hs : σ[i]? = some (some (.ref f))) (hS : S f sp) (h : EvA ta σ H vs) (hp : SpV sp vs H z) : Ev (tCallRX i S E ta) σ H z := fun H1 e Q q =>
  ⟨f, sp, hs, hS, h H1 e _ fun H2 e2 => hp H2 (e.trans e2) Q (fun H3 e3 => q H3 (e2.trans e3)) _⟩
theorem ee_callRX {i : Nat} {S : Addr → Sp → Prop} {E : XK} {ta : TA} {σ : L2.St} {H : Hp} {f : Addr} {sp : Sp} {vs : List V} {P : Value → Option Addr → Hp → Prop} (hs : σ[i]? = some (some (.ref f))) (hS : S f sp) (h : EvA ta σ H vs) (hp : SpE sp vs H P) : EvE (tCallRX i S E ta) σ H P (fun cls d _ H => E cls d H) := fun H1 e Q q =>
  ⟨f, sp, hs, hS, h H1 e _ fun H2 e2 => hp H2 (e.trans e2) Q _ fun cls d H3 e3 h3 => q cls d H3 (e2.trans e3) h3⟩
/-- a promise by outcome, taken apart -/
theorem spv_of {α : Type} {ad : Nat → Addr} {sp : Sp} {vs : List V} {H : Hp} {val : α → V} {r : Except Exn α} {z : α} (h : ∀ H1, Ex H H1 → ∀ Q E, Outc ad H1 Q E val r → sp vs H1 Q E) (hr : r = .ok z) : SpV sp vs H (val z) := by
  subst hr
  exact fun H1 e Q q E => h H1 e Q E q
theorem spe_of {α : Type} {ad : Nat → Addr} {sp : Sp} {vs : List V} {H : Hp} {val : α → V} {r : Except Exn α} {x : Exn} (h : ∀ H1, Ex H H1 → ∀ Q E, Outc ad H1 Q E val r → sp vs H1 Q E) (hr : r = .error x) : SpE sp vs H (XIs ad x) := by
  subst hr
  exact fun H1 e Q E q => h H1 e Q E fun d H2 e2 hx => q _ d H2 e2 ⟨rfl, hx⟩
def EvAE (ta : TA) (σ : L2.St) (H : Hp) (P : Value → Option Addr → Hp → Prop) (W : WX) : Prop := ∀ H1, Ex H H1 → ∀ Q : List V → Hp → Prop, (∀ cls d H2, Ex H1 H2 → P cls d H2 → W cls d σ H2) → ta σ H1 Q
theorem eae_0 {te : TE} {tr : TA} {σ : L2.St} {H : Hp} {P : Value → Option Addr → Hp → Prop} {W : WX} (h : EvE te σ H P W) : EvAE (tCons te tr) σ H P W := fun H1 e Q q => h H1 e _ q
theorem eae_1 {te : TE} {tr : TA} {σ : L2.St} {H : Hp} {v : V} {P : Value → Option Addr → Hp → Prop} {W : WX} (h : Ev te σ H v) (hr : EvAE tr σ H P W) : EvAE (tCons te tr) σ H P W := fun H1 e Q q =>
  h H1 e _ fun H2 e2 => hr H2 (e.trans e2) _ fun cls d H3 e3 hp => q cls d H3 (e2.trans e3) hp
theorem ee_tup {ta : TA} {σ : L2.St} {H : Hp} {P : Value → Option Addr → Hp → Prop} {W : WX} (h : EvAE ta σ H P W) : EvE (tTup ta) σ H P W := fun H1 e _ q => h H1 e _ q
theorem ev_xf {te : TE} {σ : L2.St} {H : Hp} {a dd C : Addr} {f : Str} {fs : List (Str × V)} {v : V} (h : Ev te σ H (.ref a)) (hd : H dd = some (.xd fs)) (hl : fs.lookup f = some v) : Ev (tXf a (.ref C) (some dd) C f te) σ H v := fun H1 e Q q =>
  h H1 e _ fun H2 e2 => ⟨rfl, rfl, dd, fs, v, rfl, (e.trans e2) _ _ hd, hl, q H2 e2⟩
theorem lk1 (f : Str) (v : V) : [(f, v)].lookup f = some v := by simp [List.lookup]
def clsBodyW : Stmt → List Stmt
  | .ClassDef _ _ _ body _ _ _ _ _ _ _ => body
  | _ => []
theorem w_div {i j : Int} (h0 : 0 < j) (h1 : j ≤ 2 ^ 64) : CDivW i j := by
  refine ⟨h0, ?_⟩
  have h2 : j.natAbs < 2 ^ 65 := by omega
  have h3 := (Nat.log2_lt (by omega)).mpr h2
  omega
end Wm
set_option Elab.async false
set_option linter.all false
set_option maxRecDepth 100000
set_option maxHeartbeats 4000000
/-! Dm: a program's text as a total Lean function over plain data. No heap here: what a def returns, raises, or (bad) that nothing is said. -/
namespace Dm
open PySem L2
/-- data: scr is a list that is only read, ktp a tuple of the module -/
inductive D where
  | non | bl (b : Bool) | int (i : Int) | str (s : Str) | tup (xs : List D) | lst (xs : List D) | scr (xs : List D) | ktp (xs : List D) | fn (n : Nat) | dct (ks : List Str) (xs : List D)
instance : Inhabited D := ⟨.non⟩
inductive R (α : Type) where
  | ok (a : α) | exc (c : Nat) (fs : List (Str × D)) | bad
def R.bind {α β : Type} : R α → (α → R β) → R β
  | .ok a, k => k a
  | .exc c fs, _ => .exc c fs
  | .bad, _ => .bad
instance : Monad R where
  pure := .ok
  bind := R.bind
/-- a slot: nothing known, data, a list of one's own, the exception in the hand -/
inductive Sl where
  | un | val (d : D) | own (xs : List D) | exn (c : Nat) (fs : List (Str × D))
instance : Inhabited Sl := ⟨.un⟩
abbrev Env := List Sl
abbrev SE := Env → R D
abbrev SA := Env → R (List D)
abbrev ST := Env → R Bool
inductive RS where
  | nx (e : Env) | rt (v : Sl) | bk (e : Env) | ct (e : Env) | exc (c : Nat) (fs : List (Str × D)) (e : Env) | bad
abbrev SS := Env → RS

/-! data -/
def cutG {α : Type} (xs : List α) (lo hi : Option Int) : List α := (xs.drop (HT.sIx xs.length 0 lo)).take (HT.sIx xs.length xs.length hi - HT.sIx xs.length 0 lo)
mutual
def D.eqv : D → D → Bool
  | .non, .non => true
  | .bl a, .bl b => a == b
  | .bl a, .int j => (if a then 1 else 0) == j
  | .int i, .bl b => i == (if b then 1 else 0)
  | .int i, .int j => i == j
  | .str x, .str y => x == y
  | .lst xs, .lst ys => eqvAll xs ys
  | .lst xs, .scr ys => eqvAll xs ys
  | .scr xs, .lst ys => eqvAll xs ys
  | .scr xs, .scr ys => eqvAll xs ys
  | .tup xs, .tup ys => eqvAll xs ys
  | .ktp xs, .tup ys => eqvAll xs ys
  | .tup xs, .ktp ys => eqvAll xs ys
  | .ktp xs, .ktp ys => eqvAll xs ys
  | _, _ => false
def eqvAll : List D → List D → Bool
  | [], [] => true
  | x :: xs, y :: ys => D.eqv x y && eqvAll xs ys
  | _, _ => false
end
mutual
/-- plain data, at most so deep -/
def D.shp : Nat → D → Bool
  | _, .non | _, .bl _ | _, .int _ => true
  | _, .str x => x.cps.all (· < 0x110000)
  | n + 1, .lst xs | n + 1, .scr xs | n + 1, .tup xs | n + 1, .ktp xs => shpAll n xs
  | _, _ => false
def shpAll : Nat → List D → Bool
  | _, [] => true
  | n, x :: xs => D.shp n x && shpAll n xs
end
def flatD : D → Bool
  | .non | .bl _ | .int _ | .str _ => true
  | _ => false
def lkp : List Str → List D → Str → Option D
  | k :: ks, d :: ds, z => if z = k then some d else lkp ks ds z
  | _, _, _ => none
def seqOf : D → Option (List D)
  | .lst xs | .scr xs | .tup xs | .ktp xs => some xs
  | _ => none

/-! operations -/
abbrev Z : Nat := 100000
def dAdd : D → D → R D
  | .int i, .int j => .ok (.int (i + j))
  | .str a, .str b => if a.length + b.length ≤ Z then .ok (.str (a ++ b)) else .bad
  | .lst a, .lst b => if a.length + b.length ≤ Z then .ok (.lst (a ++ b)) else .bad
  | .tup a, .tup b => if a.length + b.length ≤ Z then .ok (.tup (a ++ b)) else .bad
  | _, _ => .bad
/-- of += -/
def dAddX : D → D → R D
  | .int i, .int j => .ok (.int (i + j))
  | .str a, .str b => if a.length + b.length ≤ Z then .ok (.str (a ++ b)) else .bad
  | _, _ => .bad
def dSub : D → D → R D
  | .int i, .int j => .ok (.int (i - j))
  | _, _ => .bad
instance (i j : Int) : Decidable (CMulW i j) := inferInstanceAs (Decidable (_ < _))
instance (i j : Int) : Decidable (CMul i j) := inferInstanceAs (Decidable (_ ∨ _))
instance (i j : Int) : Decidable (CShl i j) := inferInstanceAs (Decidable (_ ∧ _))
instance (i j : Int) : Decidable (CPow i j) := inferInstanceAs (Decidable (_ ∧ _))
instance (i j : Int) : Decidable (CDivW i j) := inferInstanceAs (Decidable (_ ∧ _))
def dMul : D → D → R D
  | .int i, .int j => if CMulW i j ∨ CMul i j then .ok (.int (i * j)) else .bad
  | .lst xs, .int k => if xs.length * k.toNat ≤ Z ∧ -(2 ^ 63) ≤ k ∧ k < 2 ^ 63 then .ok (.lst (List.replicate k.toNat xs).flatten) else .bad
  | _, _ => .bad
def dDiv : D → D → R D
  | .int i, .int j => if CDivW i j then .ok (.int (i / j)) else .bad
  | _, _ => .bad
def dMod : D → D → R D
  | .int i, .int j => if 0 < j then .ok (.int (i % j)) else .bad
  | _, _ => .bad
def dPow : D → D → R D
  | .int i, .int j => if CPow i j then .ok (.int (i ^ j.toNat)) else .bad
  | _, _ => .bad
def dShl : D → D → R D
  | .int i, .int j => if CShl i j ∨ CPow i j then .ok (.int (i * 2 ^ j.toNat)) else .bad
  | _, _ => .bad
def dShr : D → D → R D
  | .int i, .int j => if 0 ≤ j then .ok (.int (i / 2 ^ j.toNat)) else .bad
  | _, _ => .bad
def dAnd : D → D → R D
  | .int i, .int j => .ok (.int (Builtin.bitAnd i j))
  | _, _ => .bad
def dOr : D → D → R D
  | .int i, .int j => .ok (.int (Builtin.bitOr i j))
  | _, _ => .bad
def dXor : D → D → R D
  | .int i, .int j => .ok (.int (Builtin.bitXor i j))
  | _, _ => .bad
def dNeg : D → R D
  | .int i => .ok (.int (-i))
  | _ => .bad
def dNot : D → R D
  | .bl b => .ok (.bl !b)
  | _ => .bad
def dLt : D → D → R D
  | .int i, .int j => .ok (.bl (decide (i < j)))
  | .str a, .str b => .ok (.bl (decide (a.cps.toList < b.cps.toList)))
  | _, _ => .bad
def dLe : D → D → R D
  | .int i, .int j => .ok (.bl (decide (i ≤ j)))
  | .str a, .str b => .ok (.bl (!decide (b.cps.toList < a.cps.toList)))
  | _, _ => .bad
def dGt : D → D → R D
  | .int i, .int j => .ok (.bl (decide (j < i)))
  | .str a, .str b => .ok (.bl (decide (b.cps.toList < a.cps.toList)))
  | _, _ => .bad
def dGe : D → D → R D
  | .int i, .int j => .ok (.bl (decide (j ≤ i)))
  | .str a, .str b => .ok (.bl (!decide (a.cps.toList < b.cps.toList)))
  | _, _ => .bad
/-- ==: of texts without a look at their signs -/
def dEq : D → D → R D
  | .int i, .int j => .ok (.bl (decide (i = j)))
  | .str a, .str b => .ok (.bl (decide (a = b)))
  | .non, .str _ => .ok (.bl false)
  | .str _, .non => .ok (.bl false)
  | x, y => if x.shp 64 && y.shp 64 then .ok (.bl (x.eqv y)) else .bad
def dNe : D → D → R D := fun x y => (dEq x y).bind dNot
def inD (x : D) (xs : List D) : Bool := xs.any fun y => y.eqv x
def dIn : D → D → R D
  | .str a, .str b => .ok (.bl (!(Builtin.Str.occurrences b a 0 b.length 1).isEmpty))
  | .str a, .dct ks ds => .ok (.bl (lkp ks ds a).isSome)
  | x, y => match seqOf y with
    | some xs => if flatD x && xs.all flatD then .ok (.bl (inD x xs)) else .bad
    | none => .bad
def dNotIn : D → D → R D := fun x y => (dIn x y).bind dNot
def dIsN : D → R D
  | .non => .ok (.bl true)
  | _ => .ok (.bl false)
def dIsNot : D → R D := fun x => (dIsN x).bind dNot
def dIs : D → D → R D
  | x, .non => dIsN x
  | _, _ => .bad
def dIsnt : D → D → R D
  | x, .non => dIsNot x
  | _, _ => .bad
def dIx : D → D → R D
  | .str z, .int i => if z.length ≤ Z then (match atI z.cps.toList i with | some c => .ok (.str ⟨#[c]⟩) | none => .bad) else .bad
  | .dct ks ds, .str z => match lkp ks ds z with | some d => .ok d | none => .bad
  | .lst xs, .int i | .scr xs, .int i | .tup xs, .int i | .ktp xs, .int i => match atI xs i with | some d => .ok d | none => .bad
  | _, _ => .bad
def dSl : D → Option Int → Option Int → R D
  | .str z, lo, hi => if z.length ≤ Z then .ok (.str (cutS z lo hi)) else .bad
  | .lst xs, lo, hi | .scr xs, lo, hi => .ok (.lst (cutG xs lo hi))
  | .tup xs, lo, hi | .ktp xs, lo, hi => .ok (.tup (cutG xs lo hi))
  | _, _, _ => .bad
def toBl : D → R Bool
  | .bl b => .ok b
  | _ => .bad
def toIn : D → R Int
  | .int i => .ok i
  | _ => .bad
/-! built-ins, by their arguments -/
def fLen : List D → R D
  | [.str z] => if z.length ≤ Z then .ok (.int z.length) else .bad
  | [.lst xs] | [.scr xs] | [.tup xs] | [.ktp xs] => .ok (.int xs.length)
  | _ => .bad
def fInt : List D → R D
  | [.int i] => .ok (.int i)
  | [.bl b] => .ok (.int (if b then 1 else 0))
  | _ => .bad
def fStr : List D → R D
  | [.int i] => if i.natAbs.log2 < 1920 then .ok (.str (Str.ofString (toString i))) else .bad
  | _ => .bad
def fAbs : List D → R D
  | [.int i] => .ok (.int (if i < 0 then -i else i))
  | _ => .bad
def fMin2 : List D → R D
  | [.int i, .int j] => .ok (.int (if j < i then j else i))
  | _ => .bad
def fMax2 : List D → R D
  | [.int i, .int j] => .ok (.int (if j > i then j else i))
  | _ => .bad
def fOrd : List D → R D
  | [.str x] => if x.length = 1 then .ok (.int (x.cps.getD 0 0 : Nat)) else .bad
  | _ => .bad
def intsOf : List D → Option (List Int)
  | [] => some []
  | .int i :: r => (intsOf r).map (i :: ·)
  | _ => none
def strsOf : List D → Option (List Str)
  | [] => some []
  | .str i :: r => (strsOf r).map (i :: ·)
  | _ => none
def fSum : List D → R D
  | [.lst xs] | [.scr xs] => match intsOf xs with | some ns => .ok (.int ns.sum) | none => .bad
  | _ => .bad
def fTuple : List D → R D
  | [.lst xs] | [.scr xs] | [.tup xs] => .ok (.tup xs)
  | _ => .bad
/-- list(..): a new list -/
def fList : List D → R (List D)
  | [.lst xs] | [.scr xs] | [.tup xs] => .ok xs
  | _ => .bad
inductive Ty where | int | bool | str | list | tuple | dict
/-- isinstance(x, a built-in type) -/
def isTy : Ty → D → Bool
  | .int, .int _ | .int, .bl _ | .bool, .bl _ | .str, .str _ | .list, .lst _ | .list, .scr _ | .tuple, .tup _ | .tuple, .ktp _ | .dict, .dct _ _ => true
  | _, _ => false
def dIsi (t : Ty) : D → R D
  | .fn _ => .bad
  | x => .ok (.bl (isTy t x))
/-! methods -/
def mFind : D → List D → R D
  | .str a, [.str b] => .ok (.int (Txt.find a b))
  | _, _ => .bad
def mRfind : D → List D → R D
  | .str a, [.str b] => .ok (.int (Txt.rfind a b))
  | _, _ => .bad
def mCount : D → List D → R D
  | .str a, [.str b] => .ok (.int (Txt.count a b))
  | _, _ => .bad
def mLower : D → List D → R D
  | .str a, [] => if a.length ≤ Z then .ok (.str (Txt.lower a)) else .bad
  | _, _ => .bad
def mStarts : D → List D → R D
  | .str a, [.str b] => .ok (.bl (Txt.startswith a b))
  | _, _ => .bad
def mJoin : D → List D → R D
  | .str a, [.lst xs] | .str a, [.scr xs] | .str a, [.tup xs] => match strsOf xs with
    | some ys => if (ys.map (·.length)).sum + ys.length * a.length ≤ 16777216 then .ok (.str (Txt.join a ys)) else .bad
    | none => .bad
  | _, _ => .bad
/-- names.index(z) of a tuple of texts, where it is -/
def mTIndex : D → List D → R D
  | .ktp xs, [.str z] => match strsOf xs with
    | some ys => if z ∈ ys then .ok (.int (ys.idxOf z : Nat)) else .bad
    | none => .bad
  | _, _ => .bad

/-! ### expressions -/
def eC (d : D) : SE := fun _ => .ok d
def eV (i : Nat) : SE := fun env => match env[i]? with
  | some (.val d) => .ok d
  | _ => .bad
/-- len(xs), xs[k] of a list of one's own that still grows -/
def eLenO (i : Nat) : SE := fun env => match env[i]? with
  | some (.own xs) => .ok (.int xs.length)
  | _ => .bad
def eIxO (i : Nat) (b : SE) : SE := fun env => match env[i]? with
  | some (.own xs) => (b env).bind fun k => match k with
    | .int j => match atI xs j with
      | some d => .ok d
      | none => .bad
    | _ => .bad
  | _ => .bad
def eNil : SA := fun _ => .ok []
def eCons (a : SE) (r : SA) : SA := fun env => (a env).bind fun x => (r env).bind fun xs => .ok (x :: xs)
def eU (f : D → R D) (a : SE) : SE := fun env => (a env).bind f
def eB (f : D → D → R D) (a b : SE) : SE := fun env => (a env).bind fun x => (b env).bind fun y => f x y
def eChain (f g : D → D → R D) (a b c : SE) : SE := fun env => (a env).bind fun x => (b env).bind fun y => (f x y).bind fun r => (toBl r).bind fun k => if k = true then (c env).bind fun z => (g y z).bind fun r2 => (toBl r2).bind fun k2 => .ok (.bl k2) else .ok (.bl false)
def eAnd (a b : SE) : SE := fun env => (a env).bind fun x => (toBl x).bind fun k => if k = true then b env else .ok (.bl false)
def eOr (a b : SE) : SE := fun env => (a env).bind fun x => (toBl x).bind fun k => if k = true then .ok (.bl true) else b env
def eTup (a : SA) : SE := fun env => (a env).bind fun xs => if xs.length ≤ Z then .ok (.tup xs) else .bad
def eF (f : List D → R D) (a : SA) : SE := fun env => (a env).bind f
def eM (t : Ty) (f : D → List D → R D) (o : SE) (a : SA) : SE := fun env => (o env).bind fun x => if isTy t x = true then (a env).bind fun xs => f x xs else .bad
/-- the receiver is a tuple of the module: seen ahead of the arguments -/
def eTIx (o : SE) (a : SA) : SE := fun env => (o env).bind fun x => match x with
  | .ktp xs => (a env).bind fun ds => mTIndex (.ktp xs) ds
  | _ => .bad
def eSl (o : SE) (lo hi : Env → R (Option Int)) : SE := fun env => (o env).bind fun x => (lo env).bind fun l => (hi env).bind fun h => dSl x l h
def pN : Env → R (Option Int) := fun _ => .ok none
def pS (a : SE) : Env → R (Option Int) := fun env => (a env).bind fun x => (toIn x).bind fun i => .ok (some i)
/-- a new list as a value -/
def eL (a : SA) : SE := fun env => (a env).bind fun xs => .ok (.lst xs)
/-- tests -/
def tE (a : SE) : ST := fun env => (a env).bind toBl
def tAn (t u : ST) : ST := fun env => (t env).bind fun k => if k = true then u env else .ok false
def tO (t u : ST) : ST := fun env => (t env).bind fun k => if k = true then .ok true else u env
def tN (t : ST) : ST := fun env => (t env).bind fun k => .ok !k
def eIf (t : ST) (a b : SE) : SE := fun env => (t env).bind fun k => if k = true then a env else b env
/-! new lists -/
def lD (a : SA) : SA := fun env => (a env).bind fun xs => if xs.length ≤ Z then .ok xs else .bad
def toL : D → R (List D)
  | .lst xs => .ok xs
  | _ => .bad
/-- a + b, a * k, a[lo:hi] of lists, as new lists -/
def lCat (a b : SE) : SA := fun env => (a env).bind fun x => (b env).bind fun y => match x, y with
  | .lst xs, .lst ys => if xs.length + ys.length ≤ Z then .ok (xs ++ ys) else .bad
  | _, _ => .bad
def lRep (a b : SE) : SA := fun env => (a env).bind fun x => (b env).bind fun y => match x, y with
  | .lst xs, .int k => if xs.length * k.toNat ≤ Z ∧ -(2 ^ 63) ≤ k ∧ k < 2 ^ 63 then .ok (List.replicate k.toNat xs).flatten else .bad
  | _, _ => .bad
def lSl (o : SE) (lo hi : Env → R (Option Int)) : SA := fun env => (o env).bind fun x => (lo env).bind fun l => (hi env).bind fun h => match x with
  | .lst xs => .ok (cutG xs l h)
  | .scr xs => .ok (cutG xs l h)
  | _ => .bad
def lF (f : List D → R (List D)) (a : SA) : SA := fun env => (a env).bind f
def lRev (o : SE) : SA := fun env => (o env).bind fun x => match x with
  | .lst xs => .ok xs.reverse
  | .scr xs => .ok xs.reverse
  | _ => .bad
/-! what is walked -/
def iD (o : SE) : SA := fun env => (o env).bind fun x => match x with
  | .lst xs => .ok xs
  | .scr xs => .ok xs
  | _ => .bad
def iT (o : SE) : SA := fun env => (o env).bind fun x => match x with
  | .tup xs => .ok xs
  | .ktp xs => .ok xs
  | _ => .bad
def iS (o : SE) : SA := fun env => (o env).bind fun x => match x with
  | .str z => .ok (z.cps.toList.map fun c => .str ⟨#[c]⟩)
  | _ => .bad
def iR1 (a : SA) : SA := fun env => (a env).bind fun x => match x with
  | [.int n] => if n ≤ Z ∧ -Z ≤ n then .ok ((List.range n.toNat).map fun (i : Nat) => .int i) else .bad
  | _ => .bad
def iR2 (a : SA) : SA := fun env => (a env).bind fun x => match x with
  | [.int m, .int n] => if n ≤ Z ∧ -Z ≤ n ∧ m ≤ Z ∧ -Z ≤ m then .ok ((List.range (n - m).toNat).map fun (i : Nat) => .int (m + (i : Int))) else .bad
  | _ => .bad
def zipD : List D → List D → List D
  | x :: xs, y :: ys => .tup [x, y] :: zipD xs ys
  | _, _ => []
def iZT (a : SA) : SA := fun env => (a env).bind fun x => match x with
  | [.tup xs, .tup ys] => .ok (zipD xs ys)
  | _ => .bad
def iZL (a : SA) : SA := fun env => (a env).bind fun x => match x with
  | [.lst xs, .lst ys] => .ok (zipD xs ys)
  | _ => .bad
def enumD : Nat → List D → List D
  | n, x :: xs => .tup [.int n, x] :: enumD (n + 1) xs
  | _, [] => []
def iEn (o : SE) : SA := fun env => (o env).bind fun x => match x with
  | .lst xs => .ok (enumD 0 xs)
  | _ => .bad
/-! ### targets -/
abbrev SG := D → Env → Option Env
def gN (i : Nat) : SG := fun d env => some (env.set i (.val d))
abbrev SGs := List D → Env → Option Env
def gE : SGs := fun ds env => match ds with
  | [] => some env
  | _ => none
def gC (g : SG) (r : SGs) : SGs := fun ds env => match ds with
  | d :: ds => match g d env with
    | some env2 => r ds env2
    | none => none
  | _ => none
def gT (n : Nat) (r : SGs) : SG := fun d env => match d with
  | .tup ds | .ktp ds => if ds.length = n then r ds env else none
  | _ => none
/-! comprehensions -/
def wipeS (env : Env) : List Nat → Env
  | [] => env
  | v :: vs => (wipeS env vs).set v .un
/-- no exception comes -/
def noX {α : Type} : R α → R α
  | .ok a => .ok a
  | _ => .bad
def lcGo (g : SG) (t : ST) (e : SE) (env : Env) : List D → List D → R (List D)
  | [], acc => .ok acc
  | d :: ds, acc => match g d env with
    | some env2 => (noX (t env2)).bind fun k => if k = true then (noX (e env2)).bind fun x => lcGo g t e env ds (acc ++ [x]) else lcGo g t e env ds acc
    | none => .bad
def lLc (it : SA) (g : SG) (t : ST) (e : SE) (vs : List Nat) : SA := fun env => (it env).bind fun ds => if ds.length ≤ 40000 then lcGo g t e (wipeS env vs) ds [] else .bad
def tY : ST := fun _ => .ok true
/-! ### statements -/
def ofE {α : Type} (r : R α) (env : Env) (k : α → RS) : RS := match r with
  | .ok a => k a
  | .exc c fs => .exc c fs env
  | .bad => .bad
def sNx : SS := fun env => .nx env
def sSeq (a b : SS) : SS := fun env => match a env with
  | .nx e => b e
  | r => r
def ofG (r : Option Env) (k : Env → RS) : RS := match r with
  | some e => k e
  | none => .bad
def sG (e : SE) (g : SG) : SS := fun env => ofE (e env) env fun d => ofG (g d env) fun e2 => .nx e2
def sA (i : Nat) (e : SE) : SS := fun env => ofE (e env) env fun d => .nx (env.set i (.val d))
/-- a new list of one's own -/
def sO (i : Nat) (e : SA) : SS := fun env => ofE (e env) env fun ds => .nx (env.set i (.own ds))
def frz (i : Nat) (env : Env) : Env := match env[i]? with
  | some (.own ds) => env.set i (.val (.lst ds))
  | _ => env
def sFrz (i : Nat) (s : SS) : SS := fun env => s (frz i env)
def sApp (i : Nat) (e : SE) : SS := fun env => match env[i]? with
  | some (.own xs) => ofE (e env) env fun d => if xs.length < Z then .nx (env.set i (.own (xs ++ [d]))) else .bad
  | _ => .bad
def sExt (i : Nat) (e : SE) : SS := fun env => match env[i]? with
  | some (.own xs) => ofE (e env) env fun d => match d with
    | .lst ys => if xs.length + ys.length ≤ Z then .nx (env.set i (.own (xs ++ ys))) else .bad
    | _ => .bad
  | _ => .bad
/-- xs.pop() as a statement -/
def sPop (i : Nat) : SS := fun env => match env[i]? with
  | some (.own xs) => if xs = [] then .bad else .nx (env.set i (.own xs.dropLast))
  | _ => .bad
/-- xs[k] = e -/
def sSet (i : Nat) (k e : SE) : SS := fun env => match env[i]? with
  | some (.own xs) => ofE (e env) env fun d => ofE (k env) env fun j => match j with
    | .int j => match ixN xs.length j with
      | some n => .nx (env.set i (.own (xs.set n d)))
      | none => .bad
    | _ => .bad
  | _ => .bad
def sAug (i : Nat) (f : D → D → R D) (e : SE) : SS := fun env => match env[i]? with
  | some (.val x) => ofE (e env) env fun y => ofE (f x y) env fun z => .nx (env.set i (.val z))
  | _ => .bad
def sX (e : SE) : SS := fun env => ofE (e env) env fun _ => .nx env
def sIf (t : ST) (a b : SS) : SS := fun env => ofE (t env) env fun k => if k = true then a env else b env
def sRet (e : SE) : SS := fun env => ofE (e env) env fun d => .rt (.val d)
/-- a new list handed back; a list of one's own handed back -/
def sRetL (e : SA) : SS := fun env => ofE (e env) env fun ds => .rt (.own ds)
def sRetO (i : Nat) : SS := fun env => match env[i]? with
  | some (.own xs) => .rt (.own xs)
  | _ => .bad
def sRetN : SS := fun _ => .rt (.val .non)
def sBr : SS := fun env => .bk env
def sCt : SS := fun env => .ct env
def sNever : SS := fun _ => .bad
def forGo (g : SG) (b : SS) : List D → Env → RS
  | [], env => .nx env
  | d :: ds, env => ofG (g d env) fun e2 => match b e2 with
    | .nx e3 | .ct e3 => forGo g b ds e3
    | .bk e3 => .nx e3
    | r => r
def sFor (it : SA) (g : SG) (b : SS) : SS := fun env => ofE (it env) env fun ds => forGo g b ds env
def whGo (t : ST) (b : SS) : Nat → Env → RS
  | 0, _ => .bad
  | n + 1, env => ofE (t env) env fun k => if k = true then (match b env with
    | .nx e3 | .ct e3 => whGo t b n e3
    | .bk e3 => .nx e3
    | r => r) else .nx env
/-- while, at most so many turns -/
def sWh (n : Nat) (t : ST) (b : SS) : SS := fun env => whGo t b n env
def sRaise (c : Nat) (nm : List Str) (a : SA) : SS := fun env => ofE (a env) env fun ds => if ds.length = nm.length then .exc c (nm.zip ds) env else .bad
def noExn (env : Env) : Bool := env.all fun s => match s with
  | .exn _ _ => false
  | _ => true
def ifB (b : Bool) (r : RS) : RS := if b = true then r else .bad
def sTry (b : SS) (i : Nat) (cs : Nat → Option Bool) (h : SS) : SS := fun env => match b env with
  | .exc c fs e2 => match cs c with
    | some true => ifB (noExn e2) (match h (e2.set i (.exn c fs)) with
      | .nx e3 => ifB (noExn (e3.set i .un)) (.nx (e3.set i .un))
      | .bk e3 => ifB (noExn (e3.set i .un)) (.bk (e3.set i .un))
      | .ct e3 => ifB (noExn (e3.set i .un)) (.ct (e3.set i .un))
      | .rt v => .rt v
      | _ => .bad)
    | some false => .exc c fs e2
    | none => .bad
  | r => r
/-- e.f of the exception in the hand -/
def eXf (i : Nat) (c : Nat) (f : Str) : SE := fun env => match env[i]? with
  | some (.exn c2 fs) => if c2 = c then (match fs.lookup f with | some d => .ok d | none => .bad) else .bad
  | _ => .bad
/-! ### defs -/
/-- a def of n parameters, with k further names -/
def defV (n k : Nat) (b : SS) (ds : List D) : R D := if ds.length = n then (match b (ds.map .val ++ List.replicate k .un) with
  | .rt (.val d) => .ok d
  | .rt (.own xs) => .ok (.lst xs)
  | .nx _ => .ok .non
  | .exc c fs _ => .exc c fs
  | _ => .bad) else .bad
/-- .. that hands back a new list -/
def defL (n k : Nat) (b : SS) (ds : List D) : R (List D) := if ds.length = n then (match b (ds.map .val ++ List.replicate k .un) with
  | .rt (.own xs) => .ok xs
  | .exc c fs _ => .exc c fs
  | _ => .bad) else .bad
/-- a call of a name that holds a def -/
def eP (tb : Nat → Option (List D → R D)) (i : Nat) (a : SA) : SE := fun env => match env[i]? with
  | some (.val (.fn n)) => match tb n with
    | some m => (a env).bind m
    | none => .bad
  | _ => .bad
end Dm
set_option Elab.async false
set_option linter.all false
set_option maxRecDepth 100000
set_option maxHeartbeats 4000000
/-! Ds: that the text's run follows Dm's function: JE, JT, JA, JS, .. say of a piece of the text that it runs as a function of Dm tells. -/
namespace Dm
open PySem L2 Evl RZ Wm
mutual
/-- v is the datum d in the heap H -/
inductive Rep (K : PySem.W.Frag) (w : World) (ad : Nat → Addr) (H : Hp) : V → D → Prop
  | non : Rep K w ad H .non .non
  | bl (b : Bool) : Rep K w ad H (.bl b) (.bl b)
  | int (i : Int) : Rep K w ad H (.int i) (.int i)
  | str (x : Str) : Rep K w ad H (.str x) (.str x)
  | lst {a : Addr} {vs : List V} {ds : List D} : H a = some (.lst vs) → RepL K w ad H vs ds → Rep K w ad H (.ref a) (.lst ds)
  | scr {a : Addr} {vs : List V} {ds : List D} : SqL K H a vs → RepL K w ad H vs ds → Rep K w ad H (.ref a) (.scr ds)
  | tup {a : Addr} {vs : List V} {ds : List D} : SqT K H a vs → RepL K w ad H vs ds → Rep K w ad H (.ref a) (.tup ds)
  | ktp {a : Addr} {vs : List V} {ds : List D} : SqT K H a vs → (∃ o, K.lookup a = some o ∧ o.cls = .type "tuple" ∧ o.dict = none) → RepL K w ad H vs ds → Rep K w ad H (.ref a) (.ktp ds)
  | fn (n : Nat) : Rep K w ad H (.ref (ad n)) (.fn n)
  | dct {a : Addr} {ks : List Str} {vs : List V} {ds : List D} : ks.length = vs.length → SD K w a (ks.zip vs) → RepL K w ad H vs ds → Rep K w ad H (.ref a) (.dct ks ds)
inductive RepL (K : PySem.W.Frag) (w : World) (ad : Nat → Addr) (H : Hp) : List V → List D → Prop
  | nil : RepL K w ad H [] []
  | cons {v : V} {d : D} {vs : List V} {ds : List D} : Rep K w ad H v d → RepL K w ad H vs ds → RepL K w ad H (v :: vs) (d :: ds)
end
section
variable {K : PySem.W.Frag} {w : World} {ad : Nat → Addr} {G G' G1 G2 H H' H1 H2 H0 G0 : Hp}
mutual
theorem Rep.mono (e : Ex H H') : ∀ {v : V} {d : D}, Rep K w ad H v d → Rep K w ad H' v d
  | _, _, .non => .non
  | _, _, .bl b => .bl b
  | _, _, .int i => .int i
  | _, _, .str i => .str i
  | _, _, .lst h r => .lst (e _ _ h) (RepL.mono e r)
  | _, _, .scr h r => .scr (ex_l e h) (RepL.mono e r)
  | _, _, .tup h r => .tup (ex_t e h) (RepL.mono e r)
  | _, _, .ktp h k r => .ktp (ex_t e h) k (RepL.mono e r)
  | _, _, .fn n => .fn n
  | _, _, .dct hl h r => .dct hl h (RepL.mono e r)
theorem RepL.mono (e : Ex H H') : ∀ {v : List V} {d : List D}, RepL K w ad H v d → RepL K w ad H' v d
  | _, _, .nil => .nil
  | _, _, .cons h r => .cons (Rep.mono e h) (RepL.mono e r)
end
theorem RepL.length : ∀ {v : List V} {d : List D}, RepL K w ad H v d → v.length = d.length
  | _, _, .nil => rfl
  | _, _, .cons _ r => congrArg (· + 1) r.length
theorem RepL.append : ∀ {v v2 : List V} {d d2 : List D}, RepL K w ad H v d → RepL K w ad H v2 d2 → RepL K w ad H (v ++ v2) (d ++ d2)
  | _, _, _, _, .nil, h => h
  | _, _, _, _, .cons h r, h2 => .cons h (r.append h2)
theorem RepL.get : ∀ {v : List V} {d : List D} {i : Nat} {x : D}, RepL K w ad H v d → d[i]? = some x → ∃ u, v[i]? = some u ∧ Rep K w ad H u x
  | _, _, _, _, .nil, h => by cases h
  | _, _, 0, _, .cons h r, e => by cases e; exact ⟨_, rfl, h⟩
  | _, _, i + 1, _, .cons h r, e => RepL.get (i := i) r e
theorem RepL.getV : ∀ {v : List V} {d : List D} {i : Nat} {u : V}, RepL K w ad H v d → v[i]? = some u → ∃ x, d[i]? = some x ∧ Rep K w ad H u x
  | _, _, _, _, .nil, h => by cases h
  | _, _, 0, _, .cons h r, e => by cases e; exact ⟨_, rfl, h⟩
  | _, _, i + 1, _, .cons h r, e => RepL.getV (i := i) r e
theorem RepL.take : ∀ {v : List V} {d : List D} (n : Nat), RepL K w ad H v d → RepL K w ad H (v.take n) (d.take n)
  | _, _, 0, _ => by simp only [List.take_zero]; exact .nil
  | _, _, n + 1, .nil => .nil
  | _, _, n + 1, .cons h r => .cons h (r.take n)
theorem RepL.drop : ∀ {v : List V} {d : List D} (n : Nat), RepL K w ad H v d → RepL K w ad H (v.drop n) (d.drop n)
  | _, _, 0, h => h
  | _, _, n + 1, .nil => .nil
  | _, _, n + 1, .cons h r => r.drop n
theorem RepL.set {x : V} {y : D} (q : Rep K w ad H x y) : ∀ {v : List V} {d : List D} (n : Nat), RepL K w ad H v d → RepL K w ad H (v.set n x) (d.set n y)
  | _, _, _, .nil => .nil
  | _, _, 0, .cons h r => .cons q r
  | _, _, n + 1, .cons h r => .cons h (r.set q n)
theorem RepL.dropLast : ∀ {v : List V} {d : List D}, RepL K w ad H v d → RepL K w ad H v.dropLast d.dropLast
  | _, _, .nil => .nil
  | _, _, .cons h .nil => .nil
  | _, _, .cons h (.cons h2 r) => .cons h (RepL.dropLast (.cons h2 r))
theorem RepL.reverse : ∀ {v : List V} {d : List D}, RepL K w ad H v d → RepL K w ad H v.reverse d.reverse
  | _, _, .nil => .nil
  | _, _, .cons h r => by
    rw [List.reverse_cons, List.reverse_cons]
    exact r.reverse.append (.cons h .nil)
theorem RepL.rep {v : List V} {d : List D} (h : RepL K w ad H v d) : ∀ k : Nat, RepL K w ad H (List.replicate k v).flatten (List.replicate k d).flatten
  | 0 => .nil
  | k + 1 => by
    rw [List.replicate_succ, List.replicate_succ, List.flatten_cons, List.flatten_cons]
    exact h.append (RepL.rep h k)
theorem RepL.cut {v : List V} {d : List D} (h : RepL K w ad H v d) (lo hi : Option Int) : RepL K w ad H (cutV v lo hi) (cutG d lo hi) := by
  unfold cutV cutG
  rw [h.length]
  exact (h.drop _).take _
theorem RepL.ints : ∀ {v : List V} {d : List D} {ns : List Int}, RepL K w ad H v d → intsOf d = some ns → v = ns.map V.int
  | _, _, _, .nil, e => by cases e; rfl
  | _, _, _, .cons h r, e => by
    cases h with
    | int i =>
      unfold intsOf at e
      cases q : intsOf _ with
      | none => rw [q] at e; cases e
      | some ms =>
        rw [q] at e
        cases e
        rw [RepL.ints r q]
        rfl
    | _ => cases e
theorem RepL.strs : ∀ {v : List V} {d : List D} {ns : List Str}, RepL K w ad H v d → strsOf d = some ns → v = ns.map V.str
  | _, _, _, .nil, e => by cases e; rfl
  | _, _, _, .cons h r, e => by
    cases h with
    | str i =>
      unfold strsOf at e
      cases q : strsOf _ with
      | none => rw [q] at e; cases e
      | some ms =>
        rw [q] at e
        cases e
        rw [RepL.strs r q]
        rfl
    | _ => cases e
theorem RepL.atI {v : List V} {d : List D} {i : Int} {x : D} (h : RepL K w ad H v d) (e : L2.atI d i = some x) : ∃ u, L2.atI v i = some u ∧ Rep K w ad H u x := by
  unfold L2.atI at e ⊢
  rw [h.length]
  cases c : ixN d.length i with
  | none => rw [c] at e; cases e
  | some j =>
    rw [c] at e
    exact h.get e
/-! ### steps: the ground G grows, the heap H grows, and what H knew beyond the ground stays beyond it -/
structure Step (G H G' H' : Hp) : Prop where
  g : Ex G G'
  gh : Ex G' H'
  h : Ex H H'
  out : ∀ p, G p = none → H p ≠ none → G' p = none
theorem Step.refl (e : Ex G H) : Step G H G H := ⟨Ex.refl G, e, Ex.refl H, fun _ h _ => h⟩
theorem Step.trans (a : Step G H G1 H1) (b : Step G1 H1 G2 H2) : Step G H G2 H2 := ⟨a.g.trans b.g, b.gh, a.h.trans b.h, fun p h1 h2 => b.out p (a.out p h1 h2) fun z => by
  cases q : H p with
  | none => exact h2 q
  | some o => rw [a.h p o q] at z; cases z⟩
theorem Step.new {p : Addr} {o : HO} (e : Ex G H) (hp : H p = none) : Step G H (upd G p o) (upd H p o) := by
  have hg : G p = none := fresh_back e hp
  refine ⟨Ex.new hg, fun a u h => ?_, Ex.new hp, fun q h1 h2 => ?_⟩
  · by_cases z : a = p
    · subst z; rw [upd_same] at h ⊢; exact h
    · rw [upd_ne z] at h ⊢; exact e a u h
  · by_cases z : q = p
    · subst z; exact absurd hp h2
    · rw [upd_ne z]; exact h1
theorem Step.ofH (e : Ex G H) (h : Ex H H') : Step G H G H' := ⟨Ex.refl G, e.trans h, h, fun _ h _ => h⟩
end
/-- the exception's dict holds these fields -/
def XRep (K : PySem.W.Frag) (w : World) (ad : Nat → Addr) (H : Hp) (fs : List (Str × D)) (dd : Option Addr) : Prop :=
  match fs with
  | [] => dd = none
  | fs => ∃ q vfs, dd = some q ∧ H q = some (.xd vfs) ∧ ∀ f d, fs.lookup f = some d → ∃ v, vfs.lookup f = some v ∧ Rep K w ad H v d
theorem XRep.mono {K : PySem.W.Frag} {w : World} {ad : Nat → Addr} {H H' : Hp} {fs : List (Str × D)} {dd : Option Addr} (e : Ex H H') (h : XRep K w ad H fs dd) : XRep K w ad H' fs dd := by
  unfold XRep at h ⊢
  cases fs with
  | nil => exact h
  | cons f fs =>
    obtain ⟨q, vfs, h1, h2, h3⟩ := h
    exact ⟨q, vfs, h1, e _ _ h2, fun f d l => by
      obtain ⟨v, a, b⟩ := h3 f d l
      exact ⟨v, a, b.mono e⟩⟩
/-- the exception that a suite holds -/
structure Xo where
  a : Addr
  cls : Value
  d : Option Addr
/-- what is the same throughout -/
structure Cc where
  K : PySem.W.Frag
  w : World
  ad : Nat → Addr
/-- the slots σ are the environment env -/
structure Fit (C : Cc) (xo : Xo) (G H : Hp) (σ : L2.St) (env : Env) : Prop where
  ex : Ex G H
  len : σ.length = env.length
  val : ∀ (i : Nat) d, env[i]? = some (.val d) → ∃ v, σ[i]? = some (some v) ∧ Rep C.K C.w C.ad G v d
  own : ∀ (i : Nat) ds, env[i]? = some (.own ds) → ∃ p vs, σ[i]? = some (some (.ref p)) ∧ G p = none ∧ H p = some (.lst vs) ∧ RepL C.K C.w C.ad G vs ds
  sep : ∀ (i j : Nat) p ds es, env[i]? = some (.own ds) → env[j]? = some (.own es) → σ[i]? = some (some (.ref p)) → σ[j]? = some (some (.ref p)) → i = j
  exn : ∀ (i : Nat) c fs, env[i]? = some (.exn c fs) → σ[i]? = some (some (.ref xo.a)) ∧ xo.cls = .ref (C.ad c) ∧ XRep C.K C.w C.ad G fs xo.d
/-- .. since the def was entered with (G0, H0) -/
structure Fit0 (C : Cc) (xo : Xo) (G0 H0 G H : Hp) (σ : L2.St) (env : Env) : Prop where
  f : Fit C xo G H σ env
  s : Step G0 H0 G H
  new : ∀ (i : Nat) ds p, env[i]? = some (.own ds) → σ[i]? = some (some (.ref p)) → H0 p = none
section
variable {C : Cc} {xo : Xo} {G H G' H' G0 H0 G1 H1 : Hp} {σ : L2.St} {env : Env}
theorem Fit.step (f : Fit C xo G H σ env) (s : Step G H G' H') : Fit C xo G' H' σ env where
  ex := s.gh
  len := f.len
  val := fun i d h => by
    obtain ⟨v, h1, h2⟩ := f.val i d h
    exact ⟨v, h1, h2.mono s.g⟩
  own := fun i ds h => by
    obtain ⟨p, vs, h1, h2, h3, h4⟩ := f.own i ds h
    exact ⟨p, vs, h1, s.out p h2 (by rw [h3]; exact nofun), s.h _ _ h3, h4.mono s.g⟩
  sep := f.sep
  exn := fun i c fs h => by
    obtain ⟨h1, h2, h3⟩ := f.exn i c fs h
    exact ⟨h1, h2, h3.mono s.g⟩
theorem Fit0.step (f : Fit0 C xo G0 H0 G H σ env) (s : Step G H G' H') : Fit0 C xo G0 H0 G' H' σ env := ⟨f.f.step s, f.s.trans s, f.new⟩
theorem Fit0.ex (f : Fit0 C xo G0 H0 G H σ env) : Ex G H := f.f.ex
end
/-! ### outcomes -/
/-- a wish about exceptions, with the slots -/
def Out {α β : Type} (C : Cc) (rep : Hp → Hp → β → α → Prop) (E : XK) (G H : Hp) (Q : β → Hp → Prop) : R α → Prop
  | .ok d => ∀ v G' H', Step G H G' H' → rep G' H' v d → Q v H'
  | .exc c fs => ∀ dd G' H', Step G H G' H' → XRep C.K C.w C.ad G' fs dd → E (.ref (C.ad c)) dd H'
  | .bad => False
section
variable {α β γ δ : Type} {C : Cc} {rep : Hp → Hp → β → α → Prop} {rep2 : Hp → Hp → δ → γ → Prop} {E : XK} {G H G' H' : Hp} {Q : β → Hp → Prop} {Q2 : δ → Hp → Prop}
theorem Out.step {r : R α} (s : Step G H G' H') (h : Out C rep E G H Q r) : Out C rep E G' H' Q r := by
  cases r with
  | ok d => exact fun v G2 H2 s2 r2 => h v G2 H2 (s.trans s2) r2
  | exc c fs => exact fun dd G2 H2 s2 x => h dd G2 H2 (s.trans s2) x
  | bad => exact h
theorem Out.bind {r : R α} {k : α → R γ} (h : Out C rep2 E G H Q2 (r.bind k)) (q : ∀ d v G' H', r = .ok d → Step G H G' H' → rep G' H' v d → Out C rep2 E G' H' Q2 (k d) → Q v H') : Out C rep E G H Q r := by
  cases r with
  | ok d => exact fun v G' H' s r2 => q d v G' H' rfl s r2 (Out.step s h)
  | exc c fs => exact h
  | bad => exact h
end
abbrev rV (C : Cc) : Hp → Hp → V → D → Prop := fun G _ v d => Rep C.K C.w C.ad G v d
abbrev rA (C : Cc) : Hp → Hp → List V → List D → Prop := fun G _ v d => RepL C.K C.w C.ad G v d
abbrev rB : Hp → Hp → Bool → Bool → Prop := fun _ _ a b => a = b
abbrev rO : Hp → Hp → Option Int → Option Int → Prop := fun _ _ a b => a = b
/-- a new list, beyond the ground -/
abbrev rN (C : Cc) : Hp → Hp → V → List D → Prop := fun G H v ds => ∃ p vs, v = .ref p ∧ G p = none ∧ H p = some (.lst vs) ∧ RepL C.K C.w C.ad G vs ds
/-! ### what terms come to -/
section
variable (C : Cc) (xo : Xo) (W : WX)
def CE (te : TE) (f : SE) : Prop := ∀ σ G H env, Fit C xo G H σ env → ∀ Q, Out C (rV C) (WE W σ) G H Q (f env) → te σ H Q
def CT (te : TT) (f : ST) : Prop := ∀ σ G H env, Fit C xo G H σ env → ∀ Q, Out C rB (WE W σ) G H Q (f env) → te σ H Q
def CA (te : TA) (f : SA) : Prop := ∀ σ G H env, Fit C xo G H σ env → ∀ Q, Out C (rA C) (WE W σ) G H Q (f env) → te σ H Q
def CO (te : TO) (f : Env → R (Option Int)) : Prop := ∀ σ G H env, Fit C xo G H σ env → ∀ Q, Out C rO (WE W σ) G H Q (f env) → te σ H Q
/-- a new list: at p, which neither the ground nor the heap knew -/
def CN (te : TE) (f : SA) : Prop := ∀ σ G H env, Fit C xo G H σ env → ∀ Q, Out C (fun G' H' v ds => rN C G' H' v ds ∧ ∀ p, v = .ref p → H p = none) (WE W σ) G H Q (f env) → te σ H Q
end
end Dm
set_option Elab.async false
set_option linter.all false
set_option maxRecDepth 100000
set_option maxHeartbeats 4000000
namespace Dm
open PySem L2 Evl RZ Wm
def D.toP : D → PyData
  | .non => .none
  | .bl b => .bool b
  | .int i => .int i
  | .str s => .str s
  | .lst xs => .list (go xs)
  | .scr xs => .list (go xs)
  | .tup xs => .tuple (go xs)
  | .ktp xs => .tuple (go xs)
  | .fn _ => .none
  | .dct _ _ => .none
where go : List D → List PyData
  | [] => []
  | x :: xs => x.toP :: go xs
section
variable {C : Cc} {xo : Xo} {W : WX} {G H G' H' : Hp} {σ : L2.St} {env : Env} {E : XK}
mutual
theorem Rep.dp {K : PySem.W.Frag} {w : World} {ad : Nat → Addr} : ∀ {v : V} {d : D} {n : Nat}, Rep K w ad H v d → d.shp n = true → Dp K H v d.toP ∧ d.toP.canLay0 = true ∧ d.toP.depth ≤ n
  | _, _, _, .non, _ => ⟨.non, rfl, Nat.zero_le _⟩
  | _, _, _, .bl b, _ => ⟨.bl b, rfl, Nat.zero_le _⟩
  | _, _, _, .int b, _ => ⟨.int b, rfl, Nat.zero_le _⟩
  | _, _, n, .str b, h => ⟨.str b, (by cases n <;> exact h), Nat.zero_le _⟩
  | _, _, 0, .lst _ _, h => by cases h
  | _, _, n + 1, .lst h r, q => by
    have z := RepL.dp r (show shpAll n _ = true from q)
    exact ⟨.lst (sq_of h) z.1, z.2.1, Nat.succ_le_succ z.2.2⟩
  | _, _, 0, .scr _ _, h => by cases h
  | _, _, n + 1, .scr h r, q => by
    have z := RepL.dp r (show shpAll n _ = true from q)
    exact ⟨.lst h z.1, z.2.1, Nat.succ_le_succ z.2.2⟩
  | _, _, 0, .tup _ _, h => by cases h
  | _, _, n + 1, .tup h r, q => by
    have z := RepL.dp r (show shpAll n _ = true from q)
    exact ⟨.tup h z.1, z.2.1, Nat.succ_le_succ z.2.2⟩
  | _, _, 0, .ktp _ _ _, h => by cases h
  | _, _, n + 1, .ktp h _ r, q => by
    have z := RepL.dp r (show shpAll n _ = true from q)
    exact ⟨.tup h z.1, z.2.1, Nat.succ_le_succ z.2.2⟩
  | _, _, 0, .fn _, h => by cases h
  | _, _, _ + 1, .fn _, h => by cases h
  | _, _, 0, .dct _ _ _, h => by cases h
  | _, _, _ + 1, .dct _ _ _, h => by cases h
theorem RepL.dp {K : PySem.W.Frag} {w : World} {ad : Nat → Addr} : ∀ {v : List V} {d : List D} {n : Nat}, RepL K w ad H v d → shpAll n d = true → DpAll K H v (D.toP.go d) ∧ PyData.canLayAll0 (D.toP.go d) = true ∧ PyData.depthAll (D.toP.go d) ≤ n
  | _, _, _, .nil, _ => ⟨.nil, rfl, Nat.zero_le _⟩
  | _, _, n, .cons h r, q => by
    unfold shpAll at q
    rw [Bool.and_eq_true] at q
    have z1 := Rep.dp h q.1
    have z2 := RepL.dp r q.2
    refine ⟨.cons z1.1 z2.1, ?_, ?_⟩
    · show (PyData.canLay0 _ && PyData.canLayAll0 _) = true
      rw [z1.2.1, z2.2.1]
      rfl
    · show max _ _ ≤ n
      exact Nat.max_le.mpr ⟨z1.2.2, z2.2.2⟩
end
theorem Rep.shaped {K : PySem.W.Frag} {w : World} {ad : Nat → Addr} {v : V} {d : D} (r : Rep K w ad H v d) (h : d.shp 64 = true) : Dp K H v d.toP ∧ SeqAt.shaped d.toP = true := by
  have z := r.dp h
  refine ⟨z.1, ?_⟩
  unfold SeqAt.shaped
  rw [z.2.1, decide_eq_true z.2.2]
  rfl
mutual
theorem eqv_toP : ∀ (d e : D) {n m : Nat}, d.shp n = true → e.shp m = true → PyData.eqv d.toP e.toP = d.eqv e
  | .lst xs, e, 0, m, h, _ => by cases h
  | .scr xs, e, 0, m, h, _ => by cases h
  | .ktp xs, e, 0, m, h, _ => by cases h
  | .tup xs, e, 0, m, h, _ => by cases h
  | .fn k, e, 0, m, h, _ => by cases h
  | .fn k, e, n + 1, m, h, _ => by cases h
  | .dct k _, e, 0, m, h, _ => by cases h
  | .dct k _, e, n + 1, m, h, _ => by cases h
  | .lst xs, e, n + 1, m, h, h2 => by
    cases m <;> cases e <;> first | (exact absurd (show false = true from h2) Bool.false_ne_true) | (unfold D.toP PyData.eqv D.eqv; first | rfl | exact eqvAll_toP xs _ (show shpAll n _ = true from h) (show shpAll _ _ = true from h2))
  | .scr xs, e, n + 1, m, h, h2 => by
    cases m <;> cases e <;> first | (exact absurd (show false = true from h2) Bool.false_ne_true) | (unfold D.toP PyData.eqv D.eqv; first | rfl | exact eqvAll_toP xs _ (show shpAll n _ = true from h) (show shpAll _ _ = true from h2))
  | .tup xs, e, n + 1, m, h, h2 => by
    cases m <;> cases e <;> first | (exact absurd (show false = true from h2) Bool.false_ne_true) | (unfold D.toP PyData.eqv D.eqv; first | rfl | exact eqvAll_toP xs _ (show shpAll n _ = true from h) (show shpAll _ _ = true from h2))
  | .ktp xs, e, n + 1, m, h, h2 => by
    cases m <;> cases e <;> first | (exact absurd (show false = true from h2) Bool.false_ne_true) | (unfold D.toP PyData.eqv D.eqv; first | rfl | exact eqvAll_toP xs _ (show shpAll n _ = true from h) (show shpAll _ _ = true from h2))
  | .non, e, n, m, _, h2 => by cases m <;> cases e <;> first | (exact absurd (show false = true from h2) Bool.false_ne_true) | (unfold D.toP PyData.eqv D.eqv; rfl)
  | .bl b, e, n, m, _, h2 => by cases m <;> cases e <;> first | (exact absurd (show false = true from h2) Bool.false_ne_true) | (unfold D.toP PyData.eqv D.eqv; rfl)
  | .int b, e, n, m, _, h2 => by cases m <;> cases e <;> first | (exact absurd (show false = true from h2) Bool.false_ne_true) | (unfold D.toP PyData.eqv D.eqv; rfl)
  | .str b, e, n, m, _, h2 => by cases m <;> cases e <;> first | (exact absurd (show false = true from h2) Bool.false_ne_true) | (unfold D.toP PyData.eqv D.eqv; rfl)
theorem eqvAll_toP : ∀ (d e : List D) {n m : Nat}, shpAll n d = true → shpAll m e = true → PyData.eqvAll (D.toP.go d) (D.toP.go e) = eqvAll d e
  | [], [], _, _, _, _ => by unfold D.toP.go PyData.eqvAll eqvAll; rfl
  | [], _ :: _, _, _, _, _ => by unfold D.toP.go PyData.eqvAll eqvAll; rfl
  | _ :: _, [], _, _, _, _ => by unfold D.toP.go PyData.eqvAll eqvAll; rfl
  | x :: xs, y :: ys, n, m, h, h2 => by
    unfold shpAll at h h2
    rw [Bool.and_eq_true] at h h2
    unfold D.toP.go PyData.eqvAll eqvAll
    rw [eqv_toP x y h.1 h2.1, eqvAll_toP xs ys h.2 h2.2]
end
/-! ### a two-place operation on data -/
def OpD (C : Cc) (r : R2) (op : D → D → R D) : Prop := ∀ G H x y dx dy, Ex G H → Rep C.K C.w C.ad G x dx → Rep C.K C.w C.ad G y dy → ∀ E Q, Out C (rV C) E G H Q (op dx dy) → r x y H Q
theorem ce_B {r : R2} {op : D → D → R D} {ta tb : TE} {fa fb : SE} (h : OpD C r op) (ha : CE C xo W ta fa) (hb : CE C xo W tb fb) : CE C xo W (tOp r ta tb) (eB op fa fb) := fun σ G H env f Q o =>
  ha σ G H env f _ (Out.bind o fun d v G1 H1 _ s1 r1 o1 => hb σ G1 H1 env (f.step s1) _ (Out.bind o1 fun d2 v2 G2 H2 _ s2 r2 o2 => h G2 H2 v v2 d d2 s2.gh (r1.mono s2.g) r2 _ _ o2))
theorem ce_c {v : V} {d : D} (h : ∀ G, Rep C.K C.w C.ad G v d) : CE C xo W (tC v) (eC d) := fun σ G H env f Q o => o v G H (Step.refl f.ex) (h G)
theorem ce_var {i : Nat} : CE C xo W (tVar i) (eV i) := fun σ G H env f Q o => by
  unfold eV at o
  cases c : env[i]? with
  | none => rw [c] at o; exact o.elim
  | some s =>
    cases s with
    | val d =>
      rw [c] at o
      obtain ⟨v, h1, h2⟩ := f.val i d c
      exact ⟨v, h1, o v G H (Step.refl f.ex) h2⟩
    | un => rw [c] at o; exact o.elim
    | own _ => rw [c] at o; exact o.elim
    | exn _ _ => rw [c] at o; exact o.elim
/-- an int rule -/
theorem od_I0 {g : Int → Int → V} {op : D → D → R D} (h : ∀ x y E G H Q, Out C (rV C) E G H Q (op x y) → ∃ i j d, x = .int i ∧ y = .int j ∧ op x y = .ok d ∧ ∀ G, Rep C.K C.w C.ad G (g i j) d) : OpD C (rI0 g) op := by
  intro G H x y dx dy e rx ry E Q o
  obtain ⟨i, j, d, rfl, rfl, h1, h2⟩ := h dx dy E G H Q o
  cases rx
  cases ry
  rw [h1] at o
  exact ⟨i, j, rfl, rfl, o _ G H (Step.refl e) (h2 G)⟩
def rAdd (K : PySem.W.Frag) : R2 := fun x y H Q => rI0 (fun i j => .int (i + j)) x y H Q ∨ ((fun (x y : V) H Q => ∃ i j, x = .str i ∧ y = .str j ∧ i.length + j.length ≤ sizeLine ∧ Q (V.str (i ++ j)) H) : R2) x y H Q ∨ rCat x y H Q ∨ rCatA K x y H Q
theorem or_add {X : Cx} : OpR X (binaryOp .Add) (rAdd X.K) := op_add.or (op_add_str.or (op_cat.or op_catA))
theorem od_add : OpD C (rAdd C.K) dAdd := by
  intro G H x y dx dy e rx ry E Q o
  cases rx with
  | int i => cases ry with
    | int j => exact Or.inl ⟨i, j, rfl, rfl, o _ G H (Step.refl e) (.int _)⟩
    | _ => exact False.elim o
  | str a => cases ry with
    | str b =>
      have o2 : Out C (rV C) E G H Q (if a.length + b.length ≤ Z then .ok (.str (a ++ b)) else .bad) := o
      by_cases hz : a.length + b.length ≤ Z
      · rw [if_pos hz] at o2
        exact Or.inr (Or.inl ⟨a, b, rfl, rfl, sz_of hz, o2 _ G H (Step.refl e) (.str _)⟩)
      · rw [if_neg hz] at o2; exact o2.elim
    | _ => exact False.elim o
  | @lst a vs ds h1 r1 => cases ry with
    | @lst b ws es h2 r2 =>
      have o2 : Out C (rV C) E G H Q (if ds.length + es.length ≤ Z then .ok (.lst (ds ++ es)) else .bad) := o
      by_cases hz : ds.length + es.length ≤ Z
      · rw [if_pos hz] at o2
        refine Or.inr (Or.inr (Or.inl ⟨a, b, vs, ws, rfl, rfl, e _ _ h1, e _ _ h2, sz_of (by rw [r1.length, r2.length]; exact hz), fun p hp => ?_⟩))
        exact o2 _ _ _ (Step.new e hp) (.lst upd_same ((r1.append r2).mono (Ex.new (fresh_back e hp))))
      · rw [if_neg hz] at o2; exact o2.elim
    | _ => exact False.elim o
  | @tup a vs ds h1 r1 => cases ry with
    | @tup b ws es h2 r2 =>
      have o2 : Out C (rV C) E G H Q (if ds.length + es.length ≤ Z then .ok (.tup (ds ++ es)) else .bad) := o
      by_cases hz : ds.length + es.length ≤ Z
      · rw [if_pos hz] at o2
        refine Or.inr (Or.inr (Or.inr ⟨a, b, vs, ws, rfl, rfl, ex_t e h1, ex_t e h2, sz_of (by rw [r1.length, r2.length]; exact hz), fun z => ?_, fun _ z => ?_, fun _ _ p hp => ?_⟩))
        · subst z
          cases r1
          exact o2 _ G H (Step.refl e) (.tup h2 r2)
        · subst z
          cases r2
          rw [List.append_nil] at o2
          exact o2 _ G H (Step.refl e) (.tup h1 r1)
        · exact o2 _ _ _ (Step.new e hp) (.tup (st_of upd_same) ((r1.append r2).mono (Ex.new (fresh_back e hp))))
      · rw [if_neg hz] at o2; exact o2.elim
    | _ => exact False.elim o
  | _ => exact False.elim o
local macro_rules | `(tactic| walk_at "intop") => `(tactic| (
  intro G H x y dx dy e rx ry E Q o
  cases rx with
  | int i => cases ry with
    | int j => exact ⟨i, j, rfl, rfl, o _ G H (Step.refl e) (.int _)⟩
    | _ => exact False.elim o
  | _ => exact False.elim o))
theorem od_sub : OpD C (rI0 fun i j => .int (i - j)) dSub := by walk_at "intop"
theorem od_and : OpD C (rI0 fun i j => .int (Builtin.bitAnd i j)) dAnd := by walk_at "intop"
theorem od_or : OpD C (rI0 fun i j => .int (Builtin.bitOr i j)) dOr := by walk_at "intop"
theorem od_xor : OpD C (rI0 fun i j => .int (Builtin.bitXor i j)) dXor := by walk_at "intop"
theorem out_if {p : Prop} [Decidable p] {α β : Type} {rep : Hp → Hp → β → α → Prop} {Q : β → Hp → Prop} {r : R α} (o : Out C rep E G H Q (if p then r else .bad)) : p ∧ Out C rep E G H Q r := by
  by_cases h : p
  · rw [if_pos h] at o; exact ⟨h, o⟩
  · rw [if_neg h] at o; exact o.elim
theorem out_ifE {p : Prop} [Decidable p] {d : D} {Q : VK} (o : Out C (rV C) E G H Q (if p then .ok d else .bad)) : p ∧ ∀ v G' H', Step G H G' H' → Rep C.K C.w C.ad G' v d → Q v H' := by
  by_cases h : p
  · rw [if_pos h] at o; exact ⟨h, o⟩
  · rw [if_neg h] at o; exact o.elim
local macro_rules | `(tactic| walk_at "intopD") => `(tactic| (
  intro G H x y dx dy e rx ry E Q o
  cases rx with
  | int i => cases ry with
    | int j =>
      obtain ⟨hc, o⟩ := out_ifE o
      exact ⟨i, j, rfl, rfl, hc, o _ G H (Step.refl e) (.int _)⟩
    | _ => exact False.elim o
  | _ => exact False.elim o))
theorem od_div : OpD C (rI CDivW fun i j => .int (i / j)) dDiv := by walk_at "intopD"
theorem od_mod : OpD C (rI (fun _ j => 0 < j) fun i j => .int (i % j)) dMod := by walk_at "intopD"
theorem od_pow : OpD C (rI CPow fun i j => .int (i ^ j.toNat)) dPow := by walk_at "intopD"
theorem od_shr : OpD C (rI (fun _ j => 0 ≤ j) fun i j => .int (i / 2 ^ j.toNat)) dShr := by walk_at "intopD"
def rShl : R2 := fun x y H Q => rI CShl (fun i j => .int (i * 2 ^ j.toNat)) x y H Q ∨ rI CPow (fun i j => .int (i * 2 ^ j.toNat)) x y H Q
theorem or_shl {X : Cx} : OpR X (binaryOp .LShift) rShl := op_shlW.or op_shl
theorem od_shl : OpD C rShl dShl := by
  intro G H x y dx dy e rx ry E Q o
  cases rx with
  | int i => cases ry with
    | int j =>
      obtain ⟨hc, o⟩ := out_ifE o
      exact hc.elim (fun hc => Or.inl ⟨i, j, rfl, rfl, hc, o _ G H (Step.refl e) (.int _)⟩) fun hc => Or.inr ⟨i, j, rfl, rfl, hc, o _ G H (Step.refl e) (.int _)⟩
    | _ => exact False.elim o
  | _ => exact False.elim o
def rMul : R2 := fun x y H Q => rI CMulW (fun i j => .int (i * j)) x y H Q ∨ rI CMul (fun i j => .int (i * j)) x y H Q ∨ rRep x y H Q
theorem or_mul {X : Cx} : OpR X (binaryOp .Mult) rMul := op_mulW.or (op_mul.or op_rep)
theorem od_mul : OpD C rMul dMul := by
  intro G H x y dx dy e rx ry E Q o
  cases rx with
  | int i => cases ry with
    | int j =>
      obtain ⟨hc, o⟩ := out_ifE o
      exact hc.elim (fun hc => Or.inl ⟨i, j, rfl, rfl, hc, o _ G H (Step.refl e) (.int _)⟩) fun hc => Or.inr (Or.inl ⟨i, j, rfl, rfl, hc, o _ G H (Step.refl e) (.int _)⟩)
    | _ => exact False.elim o
  | @lst a vs ds h1 r1 => cases ry with
    | int k =>
      obtain ⟨hc, o⟩ := out_ifE o
      refine Or.inr (Or.inr ⟨a, k, vs, rfl, rfl, e _ _ h1, hc.2.1, hc.2.2, sz_of (by rw [r1.length]; exact hc.1), fun p hp => ?_⟩)
      exact o _ _ _ (Step.new e hp) (.lst upd_same ((r1.rep _).mono (Ex.new (fresh_back e hp))))
    | _ => exact False.elim o
  | _ => exact False.elim o
/-! comparisons -/
def rLt : R2 := fun x y H Q => rI0 (fun i j => .bl (decide (i < j))) x y H Q ∨ ((fun (x y : V) H Q => ∃ i j, x = .str i ∧ y = .str j ∧ Q (V.bl (decide (i.cps.toList < j.cps.toList))) H) : R2) x y H Q
def rLe : R2 := fun x y H Q => rI0 (fun i j => .bl (decide (i ≤ j))) x y H Q ∨ ((fun (x y : V) H Q => ∃ i j, x = .str i ∧ y = .str j ∧ Q (V.bl (!decide (j.cps.toList < i.cps.toList))) H) : R2) x y H Q
def rGt : R2 := fun x y H Q => rI0 (fun i j => .bl (decide (j < i))) x y H Q ∨ ((fun (x y : V) H Q => ∃ i j, x = .str i ∧ y = .str j ∧ Q (V.bl (decide (j.cps.toList < i.cps.toList))) H) : R2) x y H Q
def rGe : R2 := fun x y H Q => rI0 (fun i j => .bl (decide (j ≤ i))) x y H Q ∨ ((fun (x y : V) H Q => ∃ i j, x = .str i ∧ y = .str j ∧ Q (V.bl (!decide (i.cps.toList < j.cps.toList))) H) : R2) x y H Q
theorem or_lt {X : Cx} : OpR X (compareOp .Lt) rLt := op_lt.or op_lt_str
theorem or_le {X : Cx} : OpR X (compareOp .LtE) rLe := op_le.or op_le_str
theorem or_gt {X : Cx} : OpR X (compareOp .Gt) rGt := op_gt.or op_gt_str
theorem or_ge {X : Cx} : OpR X (compareOp .GtE) rGe := op_ge.or op_ge_str
local macro_rules | `(tactic| walk_at "cmpop") => `(tactic| (
  intro G H x y dx dy e rx ry E Q o
  cases rx with
  | int i => cases ry with
    | int j => exact Or.inl ⟨i, j, rfl, rfl, o _ G H (Step.refl e) (.bl _)⟩
    | _ => exact False.elim o
  | str i => cases ry with
    | str j => exact Or.inr ⟨i, j, rfl, rfl, o _ G H (Step.refl e) (.bl _)⟩
    | _ => exact False.elim o
  | _ => exact False.elim o))
theorem od_lt : OpD C rLt dLt := by walk_at "cmpop"
theorem od_le : OpD C rLe dLe := by walk_at "cmpop"
theorem od_gt : OpD C rGt dGt := by walk_at "cmpop"
theorem od_ge : OpD C rGe dGe := by walk_at "cmpop"
end
end Dm
set_option Elab.async false
set_option linter.all false
set_option maxRecDepth 100000
set_option maxHeartbeats 4000000
namespace Dm
open PySem L2 Evl RZ Wm
section
variable {C : Cc} {xo : Xo} {W : WX} {G H G' H' : Hp} {σ : L2.St} {env : Env} {E : XK}
/-! == -/
def rEqX (K : PySem.W.Frag) : R2 := fun x y H Q => rEq x y H Q ∨ rEqD K x y H Q
def rNeX (K : PySem.W.Frag) : R2 := fun x y H Q => rNe x y H Q ∨ rNeD K x y H Q
theorem or_eq {X : Cx} (hu : X.A.units + 64 < cLine) : OpR X (compareOp .Eq) (rEqX X.K) := op_eq.or (op_eqD hu)
theorem or_ne {X : Cx} (hu : X.A.units + 64 < cLine) : OpR X (compareOp .NotEq) (rNeX X.K) := op_ne.or (op_neD hu)
theorem dEq_ok {x y : D} {E : XK} {Q : VK} (o : Out C (rV C) E G H Q (dEq x y)) : (∃ i j, x = .int i ∧ y = .int j) ∨ (∃ a b, x = .str a ∧ y = .str b) ∨ (∃ b, x = .non ∧ y = .str b) ∨ (∃ b, x = .str b ∧ y = .non) ∨ (dEq x y = .ok (.bl (x.eqv y)) ∧ x.shp 64 = true ∧ y.shp 64 = true) := by
  unfold dEq at o ⊢
  split at o
  · exact Or.inl ⟨_, _, rfl, rfl⟩
  · exact Or.inr (Or.inl ⟨_, _, rfl, rfl⟩)
  · exact Or.inr (Or.inr (Or.inl ⟨_, rfl, rfl⟩))
  · exact Or.inr (Or.inr (Or.inr (Or.inl ⟨_, rfl, rfl⟩)))
  · obtain ⟨h, _⟩ := out_ifE o
    have h2 := h
    rw [Bool.and_eq_true] at h
    exact Or.inr (Or.inr (Or.inr (Or.inr ⟨if_pos h2, h.1, h.2⟩)))
theorem dec_V {i j : Int} : decide (V.int i = V.int j) = decide (i = j) := by
  by_cases h : i = j
  · subst h; simp
  · rw [decide_eq_false h, decide_eq_false fun z => h (V.int.inj z)]
theorem dec_S {i j : Str} : decide (V.str i = V.str j) = decide (i = j) := by
  by_cases h : i = j
  · subst h; simp
  · rw [decide_eq_false h, decide_eq_false fun z => h (V.str.inj z)]
theorem od_eq : OpD C (rEqX C.K) dEq := by
  intro G H x y dx dy e rx ry E Q o
  rcases dEq_ok o with ⟨i, j, rfl, rfl⟩ | ⟨i, j, rfl, rfl⟩ | ⟨j, rfl, rfl⟩ | ⟨j, rfl, rfl⟩ | ⟨h, h1, h2⟩
  · cases rx; cases ry
    refine Or.inl ⟨rfl, ?_⟩
    rw [dec_V]
    exact o _ G H (Step.refl e) (.bl _)
  · cases rx; cases ry
    refine Or.inl ⟨rfl, ?_⟩
    rw [dec_S]
    exact o _ G H (Step.refl e) (.bl _)
  · cases rx; cases ry
    exact Or.inl ⟨rfl, o _ G H (Step.refl e) (.bl _)⟩
  · cases rx; cases ry
    exact Or.inl ⟨rfl, o _ G H (Step.refl e) (.bl _)⟩
  · rw [h] at o
    have a1 := (rx.mono e).shaped h1
    have a2 := (ry.mono e).shaped h2
    refine Or.inr ⟨_, _, a1.1, a2.1, a1.2, a2.2, ?_⟩
    rw [eqv_toP dx dy h1 h2]
    exact o _ G H (Step.refl e) (.bl _)
theorem od_ne : OpD C (rNeX C.K) dNe := by
  intro G H x y dx dy e rx ry E Q o
  have o1 : Out C (rV C) E G H (fun v H' => ∀ b, v = .bl b → ∀ G', Step G H G' H' → Q (.bl !b) H') (dEq dx dy) := Out.bind o fun d v G' H' _ s r o2 b hb G2 s2 => by
    subst hb
    cases r
    exact o2 _ G' H' (Step.refl s.gh) (.bl _)
  rcases dEq_ok o1 with ⟨i, j, rfl, rfl⟩ | ⟨i, j, rfl, rfl⟩ | ⟨j, rfl, rfl⟩ | ⟨j, rfl, rfl⟩ | ⟨h, h1, h2⟩
  · cases rx; cases ry
    refine Or.inl ⟨rfl, ?_⟩
    rw [dec_V]
    exact o1 _ G H (Step.refl e) (.bl _) _ rfl G (Step.refl e)
  · cases rx; cases ry
    refine Or.inl ⟨rfl, ?_⟩
    rw [dec_S]
    exact o1 _ G H (Step.refl e) (.bl _) _ rfl G (Step.refl e)
  · cases rx; cases ry
    exact Or.inl ⟨rfl, o1 _ G H (Step.refl e) (.bl _) _ rfl G (Step.refl e)⟩
  · cases rx; cases ry
    exact Or.inl ⟨rfl, o1 _ G H (Step.refl e) (.bl _) _ rfl G (Step.refl e)⟩
  · rw [h] at o1
    have a1 := (rx.mono e).shaped h1
    have a2 := (ry.mono e).shaped h2
    refine Or.inr ⟨_, _, a1.1, a2.1, a1.2, a2.2, ?_⟩
    rw [eqv_toP dx dy h1 h2]
    exact o1 _ G H (Step.refl e) (.bl _) _ rfl G (Step.refl e)
/-! in -/
theorem flat_V {v : V} {d : D} (r : Rep C.K C.w C.ad G v d) (h : flatD d = true) : flatV v = true := by
  cases r <;> first | rfl | cases h
theorem eqV_D {v u : V} {d e : D} (r : Rep C.K C.w C.ad G v d) (r2 : Rep C.K C.w C.ad G u e) (h : flatD d = true) (h2 : flatD e = true) : eqV v u = d.eqv e := by
  cases r <;> (try cases h) <;> cases r2 <;> (try cases h2) <;> unfold eqV D.eqv <;> rfl
theorem flat_all : ∀ {vs : List V} {ds : List D}, RepL C.K C.w C.ad G vs ds → ds.all flatD = true → vs.all flatV = true
  | _, _, .nil, _ => rfl
  | _, _, .cons h r, q => by
    rw [List.all_cons, Bool.and_eq_true] at q ⊢
    exact ⟨flat_V h q.1, flat_all r q.2⟩
theorem inV_D {v : V} {d : D} (hv : Rep C.K C.w C.ad G v d) (hd : flatD d = true) : ∀ {vs : List V} {ds : List D}, RepL C.K C.w C.ad G vs ds → ds.all flatD = true → inV v vs = inD d ds
  | _, _, .nil, _ => rfl
  | _, _, .cons h r, q => by
    rw [List.all_cons, Bool.and_eq_true] at q
    unfold inV inD
    rw [List.any_cons, List.any_cons, eqV_D h hv q.1 hd]
    congr 1
    exact inV_D hv hd r q.2
def rInS (neg : Bool) : R2 := fun x y H Q => ∃ i j, x = .str i ∧ y = .str j ∧ Q (.bl (if neg then !(!(Builtin.Str.occurrences j i 0 j.length 1).isEmpty) else !(Builtin.Str.occurrences j i 0 j.length 1).isEmpty)) H
def rInDc (K : PySem.W.Frag) (w : World) (neg : Bool) : R2 := fun x y H Q => ∃ d kvs, SD K w d kvs ∧ rInSD d kvs neg x y H Q
def rInX (K : PySem.W.Frag) (w : World) (neg : Bool) : R2 := fun x y H Q => rInS neg x y H Q ∨ rInDc K w neg x y H Q ∨ rIn K neg x y H Q
theorem or_in {X : Cx} : OpR X (compareOp .In) (rInX X.K X.w false) :=
  OpR.or (r := rInS false) op_in_str (OpR.or (r := rInDc X.K X.w false) (fun pins s σ H x y v u Q I rx ry h => by
    obtain ⟨d, kvs, h1, h2⟩ := h
    exact op_in_sd h1 pins s σ H x y v u Q I rx ry h2) op_in_seq)
theorem or_notIn {X : Cx} : OpR X (compareOp .NotIn) (rInX X.K X.w true) :=
  OpR.or (r := rInS true) op_notin_str (OpR.or (r := rInDc X.K X.w true) (fun pins s σ H x y v u Q I rx ry h => by
    obtain ⟨d, kvs, h1, h2⟩ := h
    exact op_notIn_sd h1 pins s σ H x y v u Q I rx ry h2) op_notIn_seq)
theorem lkp_zip : ∀ {ks : List Str} {vs : List V} {ds : List D} {z : Str}, ks.length = vs.length → RepL C.K C.w C.ad G vs ds → (match lkp ks ds z with
  | some d => ∃ v, (ks.zip vs).lookup z = some v ∧ Rep C.K C.w C.ad G v d
  | none => (ks.zip vs).lookup z = none) := by
  intro ks
  induction ks with
  | nil => intro vs ds z _ r; unfold lkp; rfl
  | cons k ks ih =>
    intro vs ds z h r
    cases r with
    | nil => cases h
    | @cons v d vs ds hv r =>
      unfold lkp
      by_cases hz : z = k
      · subst hz
        rw [if_pos rfl]
        refine ⟨v, ?_, hv⟩
        rw [List.zip_cons_cons, List.lookup_cons, beq_self_eq_true]
      · rw [if_neg hz]
        have ih := ih (z := z) (Nat.succ.inj h) r
        rw [List.zip_cons_cons, List.lookup_cons, beq_eq_false_iff_ne.mpr hz]
        exact ih
theorem dIn_ok {x y : D} {E : XK} {Q : VK} (o : Out C (rV C) E G H Q (dIn x y)) : (∃ a b, x = .str a ∧ y = .str b) ∨ (∃ a ks ds, x = .str a ∧ y = .dct ks ds) ∨ (∃ xs, seqOf y = some xs ∧ dIn x y = .ok (.bl (inD x xs)) ∧ flatD x = true ∧ xs.all flatD = true) := by
  unfold dIn at o ⊢
  split at o
  · exact Or.inl ⟨_, _, rfl, rfl⟩
  · exact Or.inr (Or.inl ⟨_, _, _, rfl, rfl⟩)
  · cases c : seqOf y with
    | none => rw [c] at o; exact o.elim
    | some xs =>
      rw [c] at o
      dsimp only at o
      obtain ⟨h, _⟩ := out_ifE o
      have h2 := h
      rw [Bool.and_eq_true] at h
      refine Or.inr (Or.inr ⟨xs, rfl, ?_, h.1, h.2⟩)
      dsimp only
      rw [if_pos h2]
theorem in_run {neg : Bool} {x y : V} {dx dy : D} {E : XK} {Q Q2 : VK} (e : Ex G H) (rx : Rep C.K C.w C.ad G x dx) (ry : Rep C.K C.w C.ad G y dy) (o : Out C (rV C) E G H Q (dIn dx dy)) (q : ∀ b, Q (.bl b) H → Q2 (.bl (if neg then !b else b)) H) : rInX C.K C.w neg x y H Q2 := by
  rcases dIn_ok o with ⟨i, j, rfl, rfl⟩ | ⟨a, ks, ds, rfl, rfl⟩ | ⟨xs, h, h1, h2, h3⟩
  · cases rx; cases ry
    refine Or.inl ⟨i, j, rfl, rfl, ?_⟩
    exact q _ (o _ G H (Step.refl e) (.bl _))
  · cases rx
    cases ry with
    | dct hl hs r =>
      refine Or.inr (Or.inl ⟨_, _, hs, a, rfl, rfl, ?_⟩)
      have z := lkp_zip (z := a) hl r
      have o2 : Out C (rV C) E G H Q (.ok (.bl (lkp ks ds a).isSome)) := o
      cases c : lkp ks ds a with
      | none =>
        rw [c] at z o2
        dsimp only at z
        rw [z]
        exact q _ (o2 _ G H (Step.refl e) (.bl _))
      | some d =>
        rw [c] at z o2
        obtain ⟨v, z, _⟩ := z
        rw [z]
        exact q _ (o2 _ G H (Step.refl e) (.bl _))
  · rw [h1] at o
    have fin : ∀ {vs : List V}, RepL C.K C.w C.ad G vs xs → Q2 (.bl (if neg then !inV x vs else inV x vs)) H := fun {vs} r => by
      rw [inV_D rx h2 r h3]
      exact q _ (o _ G H (Step.refl e) (.bl _))
    cases ry with
    | lst hl r => cases h; exact Or.inr (Or.inr ⟨_, _, rfl, Or.inl (sq_of (e _ _ hl)), flat_V rx h2, flat_all r h3, fin r⟩)
    | scr hl r => cases h; exact Or.inr (Or.inr ⟨_, _, rfl, Or.inl (ex_l e hl), flat_V rx h2, flat_all r h3, fin r⟩)
    | tup hl r => cases h; exact Or.inr (Or.inr ⟨_, _, rfl, Or.inr (ex_t e hl), flat_V rx h2, flat_all r h3, fin r⟩)
    | ktp hl _ r => cases h; exact Or.inr (Or.inr ⟨_, _, rfl, Or.inr (ex_t e hl), flat_V rx h2, flat_all r h3, fin r⟩)
    | _ => cases h
theorem od_in : OpD C (rInX C.K C.w false) dIn := fun G H x y dx dy e rx ry E Q o => in_run e rx ry o fun b h => h
theorem od_notIn : OpD C (rInX C.K C.w true) dNotIn := fun G H x y dx dy e rx ry E Q o =>
  in_run (Q := fun v H' => ∀ b, v = .bl b → ∀ G', Step G H G' H' → Q (.bl !b) H') e rx ry (Out.bind o fun d v G' H' _ s r o2 b hb G2 s2 => by
    subst hb
    cases r
    exact o2 _ G' H' (Step.refl s.gh) (.bl _)) fun b h => h b rfl G (Step.refl e)
/-! is None -/
theorem od_is : OpD C (fun x y H Q => y = .non ∧ Q (.bl (decide (x = .non))) H) dIs := by
  intro G H x y dx dy e rx ry E Q o
  cases ry with
  | non => cases rx <;> exact ⟨rfl, o _ G H (Step.refl e) (.bl _)⟩
  | _ => cases rx <;> exact False.elim o
theorem od_isnt : OpD C (fun x y H Q => y = .non ∧ Q (.bl (!decide (x = .non))) H) dIsnt := by
  intro G H x y dx dy e rx ry E Q o
  cases ry with
  | non => cases rx <;> exact ⟨rfl, o _ G H (Step.refl e) (.bl _)⟩
  | _ => cases rx <;> exact False.elim o
/-! x[i] -/
def rIxX (K : PySem.W.Frag) (w : World) : R2 := fun x y H Q => rIx K x y H Q ∨ rIxD K w x y H Q
theorem ix_all {X : Cx} : IxR X (rIxX X.K X.w) := ix_seq.or ix_kdict
theorem od_ix : OpD C (rIxX C.K C.w) dIx := by
  intro G H x y dx dy e rx ry E Q o
  cases rx with
  | str z => cases ry with
    | int i =>
      have o2 : Out C (rV C) E G H Q (if z.length ≤ Z then (match L2.atI z.cps.toList i with | some c => .ok (.str ⟨#[c]⟩) | none => .bad) else .bad) := o
      obtain ⟨hz, o2⟩ := out_if o2
      cases c : L2.atI z.cps.toList i with
      | none => rw [c] at o2; exact o2.elim
      | some k =>
        rw [c] at o2
        exact Or.inl (Or.inr (Or.inr ⟨z, i, k, rfl, rfl, sz_of hz, c, o2 _ G H (Step.refl e) (.str _)⟩))
    | _ => exact False.elim o
  | @lst a vs ds h r => cases ry with
    | int i =>
      have o2 : Out C (rV C) E G H Q (match L2.atI ds i with | some d => .ok d | none => .bad) := o
      cases c : L2.atI ds i with
      | none => rw [c] at o2; exact o2.elim
      | some d =>
        rw [c] at o2
        obtain ⟨u, hu, ru⟩ := r.atI c
        exact Or.inl (Or.inl ⟨a, vs, i, u, rfl, rfl, sq_of (e _ _ h), hu, o2 _ G H (Step.refl e) ru⟩)
    | _ => exact False.elim o
  | @scr a vs ds h r => cases ry with
    | int i =>
      have o2 : Out C (rV C) E G H Q (match L2.atI ds i with | some d => .ok d | none => .bad) := o
      cases c : L2.atI ds i with
      | none => rw [c] at o2; exact o2.elim
      | some d =>
        rw [c] at o2
        obtain ⟨u, hu, ru⟩ := r.atI c
        exact Or.inl (Or.inl ⟨a, vs, i, u, rfl, rfl, ex_l e h, hu, o2 _ G H (Step.refl e) ru⟩)
    | _ => exact False.elim o
  | @tup a vs ds h r => cases ry with
    | int i =>
      have o2 : Out C (rV C) E G H Q (match L2.atI ds i with | some d => .ok d | none => .bad) := o
      cases c : L2.atI ds i with
      | none => rw [c] at o2; exact o2.elim
      | some d =>
        rw [c] at o2
        obtain ⟨u, hu, ru⟩ := r.atI c
        exact Or.inl (Or.inr (Or.inl ⟨a, vs, i, u, rfl, rfl, ex_t e h, hu, o2 _ G H (Step.refl e) ru⟩))
    | _ => exact False.elim o
  | @ktp a vs ds h _ r => cases ry with
    | int i =>
      have o2 : Out C (rV C) E G H Q (match L2.atI ds i with | some d => .ok d | none => .bad) := o
      cases c : L2.atI ds i with
      | none => rw [c] at o2; exact o2.elim
      | some d =>
        rw [c] at o2
        obtain ⟨u, hu, ru⟩ := r.atI c
        exact Or.inl (Or.inr (Or.inl ⟨a, vs, i, u, rfl, rfl, ex_t e h, hu, o2 _ G H (Step.refl e) ru⟩))
    | _ => exact False.elim o
  | @dct a ks vs ds hl hs r => cases ry with
    | str z =>
      have o2 : Out C (rV C) E G H Q (match lkp ks ds z with | some d => .ok d | none => .bad) := o
      have l := lkp_zip (z := z) hl r
      cases c : lkp ks ds z with
      | none => rw [c] at o2; exact o2.elim
      | some d =>
        rw [c] at o2 l
        obtain ⟨v, l, rv⟩ := l
        exact Or.inr ⟨a, z, v, rfl, rfl, hs.some l, o2 _ G H (Step.refl e) rv⟩
    | _ => exact False.elim o
  | _ => cases ry <;> exact False.elim o
/-! slices -/
theorem co_none : CO C xo W tNoPart pN := fun σ G H env f Q o => o none G H (Step.refl f.ex) rfl
theorem co_some {te : TE} {f : SE} (h : CE C xo W te f) : CO C xo W (tPart te) (pS f) := fun σ G H env ft Q o =>
  h σ G H env ft _ (Out.bind o fun d v G1 H1 _ s r o1 => by
    cases r with
    | int i => exact ⟨i, rfl, o1 (some i) G1 H1 (Step.refl s.gh) rfl⟩
    | _ => exact False.elim o1)
def rSlX2 (K : PySem.W.Frag) : V → Option Int → Option Int → Hp → VK → Prop := fun x lo hi H Q => rSlS x lo hi H Q ∨ rSlL K x lo hi H Q ∨ rSlA K x lo hi H Q
theorem sl_all {X : Cx} : SlR X (rSlX2 X.K) := sl_str.or (sl_list.or sl_tupA)
theorem ce_sl {te : TE} {tl th : TO} {f : SE} {lo hi : Env → R (Option Int)} (h : CE C xo W te f) (h1 : CO C xo W tl lo) (h2 : CO C xo W th hi) : CE C xo W (tSl (rSlX2 C.K) te tl th) (eSl f lo hi) := fun σ G H env ft Q o =>
  h σ G H env ft _ (Out.bind o fun d v G1 H1 _ s1 r1 o1 => h1 σ G1 H1 env (ft.step s1) _ (Out.bind o1 fun l l' G2 H2 _ s2 r2 o2 => h2 σ G2 H2 env ((ft.step s1).step s2) _ (Out.bind o2 fun u u' G3 H3 _ s3 r3 o3 => by
    subst r2 r3
    have r := r1.mono (s2.g.trans s3.g)
    have e := s3.gh
    cases r with
    | str z =>
      have o4 : Out C (rV C) _ G3 H3 Q (if z.length ≤ Z then .ok (.str (cutS z l' u')) else .bad) := o3
      obtain ⟨hz, o4⟩ := out_ifE o4
      exact Or.inl ⟨z, rfl, sz_of hz, o4 _ G3 H3 (Step.refl e) (.str _)⟩
    | @lst a vs ds h r =>
      exact Or.inr (Or.inl ⟨a, vs, rfl, sq_of (e _ _ h), fun p hp => o3 _ _ _ (Step.new e hp) (.lst upd_same ((r.cut l' u').mono (Ex.new (fresh_back e hp))))⟩)
    | @scr a vs ds h r =>
      exact Or.inr (Or.inl ⟨a, vs, rfl, ex_l e h, fun p hp => o3 _ _ _ (Step.new e hp) (.lst upd_same ((r.cut l' u').mono (Ex.new (fresh_back e hp))))⟩)
    | @tup a vs ds h r =>
      refine Or.inr (Or.inr ⟨a, vs, rfl, ex_t e h, fun z => ?_, fun _ p hp => o3 _ _ _ (Step.new e hp) (.tup (st_of upd_same) ((r.cut l' u').mono (Ex.new (fresh_back e hp))))⟩)
      have q : cutG ds l' u' = ds := by
        unfold cutG
        rw [← r.length, z.1, z.2, List.drop_zero, Nat.sub_zero, r.length, List.take_length]
      have o4 : Out C (rV C) _ G3 H3 Q (.ok (.tup (cutG ds l' u'))) := o3
      rw [q] at o4
      exact o4 _ G3 H3 (Step.refl e) (.tup h r)
    | @ktp a vs ds h kk r =>
      refine Or.inr (Or.inr ⟨a, vs, rfl, ex_t e h, fun z => ?_, fun _ p hp => o3 _ _ _ (Step.new e hp) (.tup (st_of upd_same) ((r.cut l' u').mono (Ex.new (fresh_back e hp))))⟩)
      have q : cutG ds l' u' = ds := by
        unfold cutG
        rw [← r.length, z.1, z.2, List.drop_zero, Nat.sub_zero, r.length, List.take_length]
      have o4 : Out C (rV C) _ G3 H3 Q (.ok (.tup (cutG ds l' u'))) := o3
      rw [q] at o4
      exact o4 _ G3 H3 (Step.refl e) (.tup h r)
    | _ => exact False.elim o3)))
end
end Dm
set_option Elab.async false
set_option linter.all false
set_option maxRecDepth 100000
set_option maxHeartbeats 4000000
namespace Dm
open PySem L2 Evl RZ Wm
section
variable {C : Cc} {xo : Xo} {W : WX} {G H G' H' : Hp} {σ : L2.St} {env : Env} {E : XK}
/-! arguments -/
theorem ca_nil : CA C xo W tNil eNil := fun σ G H env f Q o => o [] G H (Step.refl f.ex) .nil
theorem ca_cons {te : TE} {tr : TA} {a : SE} {r : SA} (ha : CE C xo W te a) (hr : CA C xo W tr r) : CA C xo W (tCons te tr) (eCons a r) := fun σ G H env f Q o =>
  ha σ G H env f _ (Out.bind o fun d v G1 H1 _ s1 r1 o1 => hr σ G1 H1 env (f.step s1) _ (Out.bind o1 fun ds vs G2 H2 _ s2 r2 o2 => o2 (v :: vs) G2 H2 (Step.refl s2.gh) (.cons (r1.mono s2.g) r2)))
theorem ce_tup {ta : TA} {a : SA} (h : CA C xo W ta a) : CE C xo W (tTup ta) (eTup a) := fun σ G H env f Q o =>
  h σ G H env f _ (Out.bind o fun ds vs G1 H1 _ s1 r1 o1 => by
    obtain ⟨hz, o1⟩ := out_ifE o1
    exact ⟨sz_of (by rw [r1.length]; exact hz), fun p hp => o1 _ _ _ (Step.new s1.gh hp) (.tup (st_of upd_same) (r1.mono (Ex.new (fresh_back s1.gh hp))))⟩)
/-! tests -/
theorem ct_test {te : TE} {f : SE} (h : CE C xo W te f) : CT C xo W (tTest te) (tE f) := fun σ G H env ft Q o =>
  h σ G H env ft _ (Out.bind o fun d v G1 H1 _ s r o1 => by
    cases r with
    | bl b => exact ⟨b, rfl, o1 b G1 H1 (Step.refl s.gh) rfl⟩
    | _ => exact False.elim o1)
theorem ct_B {te : TE} {f : SE} (h : CE C xo W te f) : CT C xo W (tB te) (tE f) := ct_test h
theorem ct_and {t u : TT} {f g : ST} (h : CT C xo W t f) (h2 : CT C xo W u g) : CT C xo W (tAnd t u) (tAn f g) := fun σ G H env ft Q o =>
  h σ G H env ft _ (Out.bind o fun d v G1 H1 _ s r o1 => by
    subst r
    cases v with
    | true => exact h2 σ G1 H1 env (ft.step s) Q o1
    | false => exact o1 false G1 H1 (Step.refl s.gh) rfl)
theorem ct_or {t u : TT} {f g : ST} (h : CT C xo W t f) (h2 : CT C xo W u g) : CT C xo W (tOr t u) (tO f g) := fun σ G H env ft Q o =>
  h σ G H env ft _ (Out.bind o fun d v G1 H1 _ s r o1 => by
    subst r
    cases v with
    | false => exact h2 σ G1 H1 env (ft.step s) Q o1
    | true => exact o1 true G1 H1 (Step.refl s.gh) rfl)
theorem ct_not {t : TT} {f : ST} (h : CT C xo W t f) : CT C xo W (tNot t) (tN f) := fun σ G H env ft Q o =>
  h σ G H env ft _ (Out.bind o fun d v G1 H1 _ s r o1 => by
    subst r
    exact o1 (!v) G1 H1 (Step.refl s.gh) rfl)
theorem ct_yes : CT C xo W tYes tY := fun σ G H env ft Q o => o true G H (Step.refl ft.ex) rfl
theorem ce_and {ta tb : TE} {f g : SE} (h : CE C xo W ta f) (h2 : CE C xo W tb g) : CE C xo W (tAndV ta tb) (eAnd f g) := fun σ G H env ft Q o =>
  h σ G H env ft _ (Out.bind o fun d v G1 H1 _ s r o1 => by
    cases r with
    | bl b =>
      cases b with
      | true => exact ⟨true, rfl, h2 σ G1 H1 env (ft.step s) Q o1⟩
      | false => exact ⟨false, rfl, o1 _ G1 H1 (Step.refl s.gh) (.bl _)⟩
    | _ => exact False.elim o1)
theorem ce_or {ta tb : TE} {f g : SE} (h : CE C xo W ta f) (h2 : CE C xo W tb g) : CE C xo W (tOrV ta tb) (eOr f g) := fun σ G H env ft Q o =>
  h σ G H env ft _ (Out.bind o fun d v G1 H1 _ s r o1 => by
    cases r with
    | bl b =>
      cases b with
      | false => exact ⟨false, rfl, h2 σ G1 H1 env (ft.step s) Q o1⟩
      | true => exact ⟨true, rfl, o1 _ G1 H1 (Step.refl s.gh) (.bl _)⟩
    | _ => exact False.elim o1)
theorem ce_not {ta : TE} {f : SE} (h : CE C xo W ta f) : CE C xo W (tNotV ta) (eU dNot f) := fun σ G H env ft Q o =>
  h σ G H env ft _ (Out.bind o fun d v G1 H1 _ s r o1 => by
    cases r with
    | bl b => exact ⟨b, rfl, o1 _ G1 H1 (Step.refl s.gh) (.bl _)⟩
    | _ => exact False.elim o1)
theorem ce_neg {ta : TE} {f : SE} (h : CE C xo W ta f) : CE C xo W (tUn (rU fun i => .int (-i)) ta) (eU dNeg f) := fun σ G H env ft Q o =>
  h σ G H env ft _ (Out.bind o fun d v G1 H1 _ s r o1 => by
    cases r with
    | int b => exact ⟨b, rfl, o1 _ G1 H1 (Step.refl s.gh) (.int _)⟩
    | _ => exact False.elim o1)
theorem ce_if {t : TT} {ta tb : TE} {c : ST} {f g : SE} (h : CT C xo W t c) (h1 : CE C xo W ta f) (h2 : CE C xo W tb g) : CE C xo W (tIf t ta tb) (eIf c f g) := fun σ G H env ft Q o =>
  h σ G H env ft _ (Out.bind o fun d v G1 H1 _ s r o1 => by
    subst r
    cases v with
    | true => exact h1 σ G1 H1 env (ft.step s) Q o1
    | false => exact h2 σ G1 H1 env (ft.step s) Q o1)
theorem ce_chain {r r' : R2} {op op' : D → D → R D} {ta tb tc : TE} {fa fb fc : SE} (h : OpD C r op) (h' : OpD C r' op') (ha : CE C xo W ta fa) (hb : CE C xo W tb fb) (hc : CE C xo W tc fc) : CE C xo W (tChain r r' ta tb tc) (eChain op op' fa fb fc) := fun σ G H env f Q o =>
  ha σ G H env f _ (Out.bind o fun d v G1 H1 _ s1 r1 o1 => hb σ G1 H1 env (f.step s1) _ (Out.bind o1 fun d2 v2 G2 H2 _ s2 r2 o2 => h G2 H2 v v2 d d2 s2.gh (r1.mono s2.g) r2 (WE W σ) _ (Out.bind o2 fun d3 v3 G3 H3 _ s3 r3 o3 => by
    cases r3 with
    | bl b =>
      refine ⟨b, rfl, ?_⟩
      cases b with
      | false => exact o3 _ G3 H3 (Step.refl s3.gh) (.bl _)
      | true =>
        have f3 := ((f.step s1).step s2).step s3
        refine hc σ G3 H3 env f3 _ (Out.bind (show Out C (rV C) (WE W σ) G3 H3 Q ((fc env).bind fun z => (op' d2 z).bind fun r2 => (toBl r2).bind fun k2 => R.ok (D.bl k2)) from o3) fun d4 v4 G4 H4 _ s4 r4 o4 => h' G4 H4 v2 v4 d2 d4 s4.gh (r2.mono (s3.g.trans s4.g)) r4 (WE W σ) _ (Out.bind o4 fun d5 v5 G5 H5 _ s5 r5 o5 => ?_))
        cases r5 with
        | bl b2 => exact o5 _ G5 H5 (Step.refl s5.gh) (.bl _)
        | _ => exact False.elim o5
    | _ => exact False.elim o3)))
/-! built-ins -/
def CallD (C : Cc) (r : List V → Hp → VK → Prop) (f : List D → R D) : Prop := ∀ G H vs ds, Ex G H → RepL C.K C.w C.ad G vs ds → ∀ E Q, Out C (rV C) E G H Q (f ds) → r vs H Q
theorem ce_F {r : List V → Hp → VK → Prop} {f : List D → R D} {ta : TA} {a : SA} (h : CallD C r f) (ha : CA C xo W ta a) : CE C xo W (tCB r ta) (eF f a) := fun σ G H env ft Q o =>
  ha σ G H env ft _ (Out.bind o fun ds vs G1 H1 _ s1 r1 o1 => h G1 H1 vs ds s1.gh r1 _ _ o1)
theorem CallRor {X : Cx} {f : Value} {r r' : List V → Hp → VK → Prop} (h : CallR X f r) (h' : CallR X f r') : CallR X f (fun xs H Q => r xs H Q ∨ r' xs H Q) := by
  intro pins s σ H xs us Q I rx q
  rcases q with q | q
  · exact h pins s σ H xs us Q I rx q
  · exact h' pins s σ H xs us Q I rx q
def rLenX (K : PySem.W.Frag) : List V → Hp → VK → Prop := fun xs H Q => rLenS1 xs H Q ∨ rLenS K xs H Q
theorem cr_len {X : Cx} : CallR X (.builtin "len") (rLenX X.K) := CallRor (r := rLenS1) call_len_str (r' := rLenS X.K) call_len_seq
theorem cd_len : CallD C (rLenX C.K) fLen := by
  intro G H vs ds e r E Q o
  cases r with
  | nil => exact False.elim o
  | cons h r =>
    cases r with
    | cons h2 r => cases h <;> exact False.elim o
    | nil =>
      cases h with
      | str z =>
        obtain ⟨hz, o⟩ := out_ifE (d := .int z.length) o
        exact Or.inl ⟨z, rfl, sz_of hz, o _ G H (Step.refl e) (.int _)⟩
      | @lst a vs ds h r =>
        refine Or.inr ⟨a, vs, rfl, Or.inl (sq_of (e _ _ h)), ?_⟩
        rw [r.length]
        exact o _ G H (Step.refl e) (.int _)
      | @scr a vs ds h r =>
        refine Or.inr ⟨a, vs, rfl, Or.inl (ex_l e h), ?_⟩
        rw [r.length]
        exact o _ G H (Step.refl e) (.int _)
      | @tup a vs ds h r =>
        refine Or.inr ⟨a, vs, rfl, Or.inr (ex_t e h), ?_⟩
        rw [r.length]
        exact o _ G H (Step.refl e) (.int _)
      | @ktp a vs ds h _ r =>
        refine Or.inr ⟨a, vs, rfl, Or.inr (ex_t e h), ?_⟩
        rw [r.length]
        exact o _ G H (Step.refl e) (.int _)
      | _ => exact False.elim o
theorem cd_int : CallD C rInt1 fInt := by
  intro G H vs ds e r E Q o
  cases r with
  | nil => exact False.elim o
  | cons h r =>
    cases r with
    | cons h2 r => cases h <;> exact False.elim o
    | nil =>
      cases h with
      | int i => exact Or.inl ⟨i, rfl, o _ G H (Step.refl e) (.int _)⟩
      | bl i => exact Or.inr ⟨i, rfl, o _ G H (Step.refl e) (.int _)⟩
      | _ => exact False.elim o
theorem cd_str : CallD C rStrI fStr := by
  intro G H vs ds e r E Q o
  cases r with
  | nil => exact False.elim o
  | cons h r =>
    cases r with
    | cons h2 r => cases h <;> exact False.elim o
    | nil =>
      cases h with
      | int i =>
        obtain ⟨hz, o⟩ := out_ifE (p := i.natAbs.log2 < 1920) o
        exact ⟨i, rfl, hz, o _ G H (Step.refl e) (.str _)⟩
      | _ => exact False.elim o
theorem cd_abs : CallD C rAbs1 fAbs := by
  intro G H vs ds e r E Q o
  cases r with
  | nil => exact False.elim o
  | cons h r =>
    cases r with
    | cons h2 r => cases h <;> exact False.elim o
    | nil =>
      cases h with
      | int i => exact ⟨i, rfl, o _ G H (Step.refl e) (.int _)⟩
      | _ => exact False.elim o
theorem cd_min2 : CallD C rMin2 fMin2 := by
  intro G H vs ds e r E Q o
  cases r with
  | nil => exact False.elim o
  | cons h r =>
    cases r with
    | nil => cases h <;> exact False.elim o
    | cons h2 r =>
      cases r with
      | cons _ _ => cases h <;> cases h2 <;> exact False.elim o
      | nil =>
        cases h with
        | int i => cases h2 with
          | int j => exact ⟨i, j, rfl, o _ G H (Step.refl e) (.int _)⟩
          | _ => exact False.elim o
        | _ => cases h2 <;> exact False.elim o
theorem cd_max2 : CallD C rMax2 fMax2 := by
  intro G H vs ds e r E Q o
  cases r with
  | nil => exact False.elim o
  | cons h r =>
    cases r with
    | nil => cases h <;> exact False.elim o
    | cons h2 r =>
      cases r with
      | cons _ _ => cases h <;> cases h2 <;> exact False.elim o
      | nil =>
        cases h with
        | int i => cases h2 with
          | int j => exact ⟨i, j, rfl, o _ G H (Step.refl e) (.int _)⟩
          | _ => exact False.elim o
        | _ => cases h2 <;> exact False.elim o
theorem cd_ord : CallD C (fun xs H Q => ∃ x, xs = [.str x] ∧ x.length = 1 ∧ Q (.int (x.cps.getD 0 0 : Nat)) H) fOrd := by
  intro G H vs ds e r E Q o
  cases r with
  | nil => exact False.elim o
  | cons h r =>
    cases r with
    | cons h2 r => cases h <;> exact False.elim o
    | nil =>
      cases h with
      | str x =>
        obtain ⟨hz, o⟩ := out_ifE (p := x.length = 1) o
        exact ⟨x, rfl, hz, o _ G H (Step.refl e) (.int _)⟩
      | _ => exact False.elim o
theorem cd_sum : CallD C (rSum C.K) fSum := by
  intro G H vs ds e r E Q o
  cases r with
  | nil => exact False.elim o
  | cons h r =>
    cases r with
    | cons h2 r => cases h <;> exact False.elim o
    | nil =>
      cases h with
      | @lst a vs ds h r =>
        have o2 : Out C (rV C) E G H Q (match intsOf ds with | some ns => .ok (.int ns.sum) | none => .bad) := o
        cases c : intsOf ds with
        | none => rw [c] at o2; exact o2.elim
        | some ns =>
          rw [c] at o2
          have z := r.ints c
          subst z
          exact ⟨a, ns, rfl, sq_of (e _ _ h), o2 _ G H (Step.refl e) (.int _)⟩
      | @scr a vs ds h r =>
        have o2 : Out C (rV C) E G H Q (match intsOf ds with | some ns => .ok (.int ns.sum) | none => .bad) := o
        cases c : intsOf ds with
        | none => rw [c] at o2; exact o2.elim
        | some ns =>
          rw [c] at o2
          have z := r.ints c
          subst z
          exact ⟨a, ns, rfl, ex_l e h, o2 _ G H (Step.refl e) (.int _)⟩
      | _ => exact False.elim o
theorem cd_tuple : CallD C (rTupS C.K) fTuple := by
  intro G H vs ds e r E Q o
  cases r with
  | nil => exact False.elim o
  | cons h r =>
    cases r with
    | cons h2 r => cases h <;> exact False.elim o
    | nil =>
      cases h with
      | @lst a vs ds h r => exact ⟨a, vs, rfl, Or.inl ⟨sq_of (e _ _ h), fun p hp => o _ _ _ (Step.new e hp) (.tup (st_of upd_same) (r.mono (Ex.new (fresh_back e hp))))⟩⟩
      | @scr a vs ds h r => exact ⟨a, vs, rfl, Or.inl ⟨ex_l e h, fun p hp => o _ _ _ (Step.new e hp) (.tup (st_of upd_same) (r.mono (Ex.new (fresh_back e hp))))⟩⟩
      | @tup a vs ds h r => exact ⟨a, vs, rfl, Or.inr ⟨ex_t e h, o _ G H (Step.refl e) (.tup h r)⟩⟩
      | _ => exact False.elim o
/-! isinstance -/
def tyN : Ty → String
  | .int => "int" | .bool => "bool" | .str => "str" | .list => "list" | .tuple => "tuple" | .dict => "dict"
theorem ty_rd {K : PySem.W.Frag} {a : Addr} {vs : List V} (h : SqL K H a vs) : TyX K H (.ref a) (.type "list") := by
  rcases h with (h | ⟨o, h⟩) | ⟨o, its, n, h1, h2, _⟩
  · exact .base (.lst h)
  · exact .base (.frz h)
  · exact .kList h1 h2
theorem ty_rt {K : PySem.W.Frag} {a : Addr} {vs : List V} (h : SqT K H a vs) : TyX K H (.ref a) (.type "tuple") := by
  rcases h with (h | ⟨o, h⟩) | ⟨o, its, n, h1, h2, _⟩
  · exact .base (.tup h)
  · exact .fTuple h
  · exact .kTuple h1 h2
theorem ce_isi {ta : TE} {a : SE} (t : Ty) (ha : CE C xo W ta a) : CE C xo W (tCB (rIsi C.K) (tCons ta (tCons (tC (.ty (tyN t))) tNil))) (eU (dIsi t) a) := fun σ G H env ft Q o =>
  ha σ G H env ft _ (Out.bind o fun d v G1 H1 _ s r o1 => by
    have e := s.gh
    cases r with
    | non => exact ⟨_, _, _, _, isTy t .non, rfl, .ty _, .base .non, kit_ty (by cases t <;> first | (show kitB _ _ = some true; decide +kernel) | (show kitB _ _ = some false; decide +kernel)), o1 _ G1 H1 (Step.refl e) (.bl _)⟩
    | bl b => exact ⟨_, _, _, _, isTy t (.bl b), rfl, .ty _, .base (.bl b), kit_ty (by cases t <;> first | (show kitB _ _ = some true; decide +kernel) | (show kitB _ _ = some false; decide +kernel)), o1 _ G1 H1 (Step.refl e) (.bl _)⟩
    | int b => exact ⟨_, _, _, _, isTy t (.int b), rfl, .ty _, .base (.int b), kit_ty (by cases t <;> first | (show kitB _ _ = some true; decide +kernel) | (show kitB _ _ = some false; decide +kernel)), o1 _ G1 H1 (Step.refl e) (.bl _)⟩
    | str b => exact ⟨_, _, _, _, isTy t (.str b), rfl, .ty _, .base (.str b), kit_ty (by cases t <;> first | (show kitB _ _ = some true; decide +kernel) | (show kitB _ _ = some false; decide +kernel)), o1 _ G1 H1 (Step.refl e) (.bl _)⟩
    | @lst a vs ds h r => exact ⟨_, _, _, _, isTy t (.lst ds), rfl, .ty _, .base (.lst (e _ _ h)), kit_ty (by cases t <;> first | (show kitB _ _ = some true; decide +kernel) | (show kitB _ _ = some false; decide +kernel)), o1 _ G1 H1 (Step.refl e) (.bl _)⟩
    | @scr a vs ds h r => exact ⟨_, _, _, _, isTy t (.scr ds), rfl, .ty _, ty_rd (ex_l e h), kit_ty (by cases t <;> first | (show kitB _ _ = some true; decide +kernel) | (show kitB _ _ = some false; decide +kernel)), o1 _ G1 H1 (Step.refl e) (.bl _)⟩
    | @tup a vs ds h r => exact ⟨_, _, _, _, isTy t (.tup ds), rfl, .ty _, ty_rt (ex_t e h), kit_ty (by cases t <;> first | (show kitB _ _ = some true; decide +kernel) | (show kitB _ _ = some false; decide +kernel)), o1 _ G1 H1 (Step.refl e) (.bl _)⟩
    | @ktp a vs ds h _ r => exact ⟨_, _, _, _, isTy t (.ktp ds), rfl, .ty _, ty_rt (ex_t e h), kit_ty (by cases t <;> first | (show kitB _ _ = some true; decide +kernel) | (show kitB _ _ = some false; decide +kernel)), o1 _ G1 H1 (Step.refl e) (.bl _)⟩
    | fn n => exact False.elim o1
    | @dct a ks vs ds hl hs r =>
      obtain ⟨es, n, hk, _⟩ := hs.ex
      exact ⟨_, _, _, _, isTy t (.dct ks ds), rfl, .ty _, .kDict hk rfl, kit_ty (by cases t <;> first | (show kitB _ _ = some true; decide +kernel) | (show kitB _ _ = some false; decide +kernel)), o1 _ G1 H1 (Step.refl e) (.bl _)⟩)
/-! new lists -/
theorem cn_lst {ta : TA} {a : SA} (h : CA C xo W ta a) : CN C xo W (tLst ta) (lD a) := fun σ G H env f Q o =>
  h σ G H env f _ (Out.bind o fun ds vs G1 H1 _ s1 r1 o1 => by
    obtain ⟨hz, o1⟩ := out_if o1
    exact ⟨sz_of (by rw [r1.length]; exact hz), fun p hp => o1 _ G1 _ (Step.ofH s1.gh (Ex.new hp)) ⟨⟨p, vs, rfl, fresh_back s1.gh hp, upd_same, r1⟩, fun q hq => by cases hq; exact fresh_back s1.h hp⟩⟩)
theorem cn_list {ta : TA} {a : SA} (h : CA C xo W ta a) : CN C xo W (tCB (rListS C.K) ta) (lF fList a) := fun σ G H env f Q o =>
  h σ G H env f _ (Out.bind o fun ds vs G1 H1 _ s1 r1 o1 => by
    have e := s1.gh
    cases r1 with
    | nil => exact False.elim o1
    | cons h r =>
      cases r with
      | cons h2 r => cases h <;> exact False.elim o1
      | nil =>
        cases h with
        | @lst a vs ds h r => exact ⟨a, vs, rfl, Or.inl (sq_of (e _ _ h)), fun p hp => o1 _ G1 _ (Step.ofH e (Ex.new hp)) ⟨⟨p, vs, rfl, fresh_back e hp, upd_same, r⟩, fun q hq => by cases hq; exact fresh_back s1.h hp⟩⟩
        | @scr a vs ds h r => exact ⟨a, vs, rfl, Or.inl (ex_l e h), fun p hp => o1 _ G1 _ (Step.ofH e (Ex.new hp)) ⟨⟨p, vs, rfl, fresh_back e hp, upd_same, r⟩, fun q hq => by cases hq; exact fresh_back s1.h hp⟩⟩
        | @tup a vs ds h r => exact ⟨a, vs, rfl, Or.inr (ex_t e h), fun p hp => o1 _ G1 _ (Step.ofH e (Ex.new hp)) ⟨⟨p, vs, rfl, fresh_back e hp, upd_same, r⟩, fun q hq => by cases hq; exact fresh_back s1.h hp⟩⟩
        | _ => exact False.elim o1)
theorem cn_cat {ta tb : TE} {a b : SE} (ha : CE C xo W ta a) (hb : CE C xo W tb b) : CN C xo W (tOp rCat ta tb) (lCat a b) := fun σ G H env f Q o =>
  ha σ G H env f _ (Out.bind o fun d v G1 H1 _ s1 r1 o1 => hb σ G1 H1 env (f.step s1) _ (Out.bind o1 fun d2 v2 G2 H2 _ s2 r2 o2 => by
    have r3 := r1.mono s2.g
    have e := s2.gh
    cases r3 with
    | @lst a vs ds h r4 => cases r2 with
      | @lst b ws es h2 r2 =>
        obtain ⟨hz, o2⟩ := out_if (p := ds.length + es.length ≤ Z) o2
        exact ⟨a, b, vs, ws, rfl, rfl, e _ _ h, e _ _ h2, sz_of (by rw [r4.length, r2.length]; exact hz), fun p hp => o2 _ G2 _ (Step.ofH e (Ex.new hp)) ⟨⟨p, _, rfl, fresh_back e hp, upd_same, r4.append r2⟩, fun q hq => by cases hq; exact fresh_back (s1.h.trans s2.h) hp⟩⟩
      | _ => exact False.elim o2
    | _ => cases r2 <;> exact False.elim o2))
theorem cn_rep {ta tb : TE} {a b : SE} (ha : CE C xo W ta a) (hb : CE C xo W tb b) : CN C xo W (tOp rRep ta tb) (lRep a b) := fun σ G H env f Q o =>
  ha σ G H env f _ (Out.bind o fun d v G1 H1 _ s1 r1 o1 => hb σ G1 H1 env (f.step s1) _ (Out.bind o1 fun d2 v2 G2 H2 _ s2 r2 o2 => by
    have r3 := r1.mono s2.g
    have e := s2.gh
    cases r3 with
    | @lst a vs ds h r4 => cases r2 with
      | int k =>
        obtain ⟨hz, o2⟩ := out_if (p := ds.length * k.toNat ≤ Z ∧ -(2 ^ 63) ≤ k ∧ k < 2 ^ 63) o2
        exact ⟨a, k, vs, rfl, rfl, e _ _ h, hz.2.1, hz.2.2, sz_of (by rw [r4.length]; exact hz.1), fun p hp => o2 _ G2 _ (Step.ofH e (Ex.new hp)) ⟨⟨p, _, rfl, fresh_back e hp, upd_same, r4.rep _⟩, fun q hq => by cases hq; exact fresh_back (s1.h.trans s2.h) hp⟩⟩
      | _ => exact False.elim o2
    | _ => cases r2 <;> exact False.elim o2))
theorem cn_sl {te : TE} {tl th : TO} {f : SE} {lo hi : Env → R (Option Int)} (h : CE C xo W te f) (h1 : CO C xo W tl lo) (h2 : CO C xo W th hi) : CN C xo W (tSl (rSlL C.K) te tl th) (lSl f lo hi) := fun σ G H env ft Q o =>
  h σ G H env ft _ (Out.bind o fun d v G1 H1 _ s1 r1 o1 => h1 σ G1 H1 env (ft.step s1) _ (Out.bind o1 fun l l' G2 H2 _ s2 r2 o2 => h2 σ G2 H2 env ((ft.step s1).step s2) _ (Out.bind o2 fun u u' G3 H3 _ s3 r3 o3 => by
    subst r2 r3
    have r := r1.mono (s2.g.trans s3.g)
    have e := s3.gh
    have hh := (s1.h.trans s2.h).trans s3.h
    cases r with
    | @lst a vs ds h r => exact ⟨a, vs, rfl, sq_of (e _ _ h), fun p hp => o3 _ G3 _ (Step.ofH e (Ex.new hp)) ⟨⟨p, _, rfl, fresh_back e hp, upd_same, r.cut _ _⟩, fun q hq => by cases hq; exact fresh_back hh hp⟩⟩
    | @scr a vs ds h r => exact ⟨a, vs, rfl, ex_l e h, fun p hp => o3 _ G3 _ (Step.ofH e (Ex.new hp)) ⟨⟨p, _, rfl, fresh_back e hp, upd_same, r.cut _ _⟩, fun q hq => by cases hq; exact fresh_back hh hp⟩⟩
    | _ => exact False.elim o3)))
theorem cn_rev {te : TE} {f : SE} (h : CE C xo W te f) : CN C xo W (tRevL C.K te) (lRev f) := fun σ G H env ft Q o =>
  h σ G H env ft _ (Out.bind o fun d v G1 H1 _ s r o1 => by
    have e := s.gh
    cases r with
    | @lst a vs ds h r => exact ⟨a, vs, rfl, sq_of (e _ _ h), fun p hp => o1 _ G1 _ (Step.ofH e (Ex.new hp)) ⟨⟨p, _, rfl, fresh_back e hp, upd_same, r.reverse⟩, fun q hq => by cases hq; exact fresh_back s.h hp⟩⟩
    | @scr a vs ds h r => exact ⟨a, vs, rfl, ex_l e h, fun p hp => o1 _ G1 _ (Step.ofH e (Ex.new hp)) ⟨⟨p, _, rfl, fresh_back e hp, upd_same, r.reverse⟩, fun q hq => by cases hq; exact fresh_back s.h hp⟩⟩
    | _ => exact False.elim o1)
/-- a new list is a value -/
theorem Step.take {p : Addr} {vs : List V} (s : Step G H G' H') (h1 : G' p = none) (h2 : H' p = some (.lst vs)) (h3 : H p = none) : Step G H (upd G' p (.lst vs)) H' := by
  refine ⟨s.g.trans (Ex.new h1), fun a o h => ?_, s.h, fun q hq hn => ?_⟩
  · by_cases z : a = p
    · subst z; rw [upd_same] at h; rw [h2]; exact h
    · rw [upd_ne z] at h; exact s.gh a o h
  · have ne : q ≠ p := fun z => by rw [z] at hn; exact hn h3
    rw [upd_ne ne]
    exact s.out q hq hn
theorem ce_L {te : TE} {f : SA} (h : CN C xo W te f) : CE C xo W te (eL f) := fun σ G H env ft Q o => by
  refine h σ G H env ft Q ?_
  unfold eL at o
  cases c : f env with
  | bad => rw [c] at o; exact o
  | exc k fs => rw [c] at o; exact o
  | ok ds =>
    rw [c] at o
    intro v G' H' s q
    obtain ⟨⟨p, vs, rfl, h1, h2, h3⟩, h4⟩ := q
    exact o (.ref p) _ H' (s.take h1 h2 (h4 p rfl)) (.lst upd_same (h3.mono (Ex.new h1)))
end
end Dm
set_option Elab.async false
set_option linter.all false
set_option maxRecDepth 100000
set_option maxHeartbeats 4000000
namespace Dm
open PySem L2 Evl RZ Wm
section
variable {C : Cc} {xo : Xo} {W : WX} {G H G' H' : Hp} {σ : L2.St} {env : Env} {E : XK}
/-! methods -/
theorem ty_V {K : PySem.W.Frag} {w : World} {ad : Nat → Addr} {v : V} {d : D} {t : Ty} (r : Rep K w ad H v d) (h : isTy t d = true) (ht : t = .str ∨ t = .list ∨ (t = .tuple ∧ ∃ xs, d = .ktp xs)) : tyV K (tyN t) v H := by
  rcases ht with rfl | rfl | ⟨rfl, xs, rfl⟩
  · cases r <;> first | rfl | cases h
  · cases r with
    | lst h1 _ => exact Or.inl ⟨rfl, _, sq_of h1⟩
    | scr h1 _ => exact Or.inl ⟨rfl, _, h1⟩
    | _ => cases h
  · cases r with
    | ktp _ k _ => exact Or.inr (Or.inl ⟨rfl, k⟩)
def MetD (C : Cc) (r : V → List V → Hp → VK → Prop) (f : D → List D → R D) : Prop := ∀ G H x vs dx ds, Ex G H → Rep C.K C.w C.ad G x dx → RepL C.K C.w C.ad G vs ds → ∀ E Q, Out C (rV C) E G H Q (f dx ds) → r x vs H Q
theorem ce_M {r : V → List V → Hp → VK → Prop} {f : D → List D → R D} {t : Ty} {to : TE} {ta : TA} {o : SE} {a : SA} (h : MetD C r f) (ht : t = .str ∨ t = .list) (ho : CE C xo W to o) (ha : CA C xo W ta a) : CE C xo W (tBM C.K (tyN t) r to ta) (eM t f o a) := fun σ G H env ft Q q =>
  ho σ G H env ft _ (Out.bind q fun d v G1 H1 _ s1 r1 o1 => by
    obtain ⟨hz, o1⟩ := out_if o1
    exact ⟨ty_V (r1.mono s1.gh) hz (ht.imp id Or.inl), ha σ G1 H1 env (ft.step s1) _ (Out.bind o1 fun ds vs G2 H2 _ s2 r2 o2 => h G2 H2 v vs d ds s2.gh (r1.mono s2.g) r2 _ _ o2)⟩)
theorem ce_M0 {r : V → List V → Hp → VK → Prop} {f : D → List D → R D} {t : Ty} {to : TE} {o : SE} (h : MetD C r f) (ht : t = .str ∨ t = .list) (ho : CE C xo W to o) : CE C xo W (tBM0 C.K (tyN t) r to) (eM t f o eNil) := fun σ G H env ft Q q =>
  ho σ G H env ft _ (Out.bind q fun d v G1 H1 _ s1 r1 o1 => by
    obtain ⟨hz, o1⟩ := out_if o1
    exact ⟨ty_V (r1.mono s1.gh) hz (ht.imp id Or.inl), h G1 H1 v [] d [] s1.gh r1 .nil (WE W σ) _ o1⟩)
local macro_rules | `(tactic| walk_at "strmet") => `(tactic| (
  intro G H x vs dx ds e rx r E Q o
  cases rx with
  | str a =>
    cases r with
    | nil => exact False.elim o
    | cons h r =>
      cases r with
      | cons h2 r => cases h <;> exact False.elim o
      | nil =>
        cases h with
        | str b => exact ⟨a, b, rfl, rfl, o _ G H (Step.refl e) (by constructor)⟩
        | _ => exact False.elim o
  | _ => exact False.elim o))
theorem md_find : MetD C (fun x xs H Q => ∃ a b, x = .str a ∧ xs = [.str b] ∧ Q (.int (Txt.find a b)) H) mFind := by walk_at "strmet"
theorem md_rfind : MetD C (fun x xs H Q => ∃ a b, x = .str a ∧ xs = [.str b] ∧ Q (.int (Txt.rfind a b)) H) mRfind := by walk_at "strmet"
theorem md_count : MetD C (fun x xs H Q => ∃ a b, x = .str a ∧ xs = [.str b] ∧ Q (.int (Txt.count a b)) H) mCount := by walk_at "strmet"
theorem md_starts : MetD C (fun x xs H Q => ∃ a b, x = .str a ∧ xs = [.str b] ∧ Q (.bl (Txt.startswith a b)) H) mStarts := by walk_at "strmet"
theorem md_lower : MetD C (fun x xs H Q => ∃ a, x = .str a ∧ xs = [] ∧ a.length ≤ 5592405 ∧ Q (.str (Txt.lower a)) H) mLower := by
  intro G H x vs dx ds e rx r E Q o
  cases rx with
  | str a =>
    cases r with
    | nil =>
      obtain ⟨hz, o⟩ := out_ifE (p := a.length ≤ Z) o
      exact ⟨a, rfl, rfl, Nat.le_trans hz (by decide), o _ G H (Step.refl e) (.str _)⟩
    | cons h r => exact False.elim o
  | _ => exact False.elim o
def rJoin (K : PySem.W.Frag) : V → List V → Hp → VK → Prop := fun x xs H Q => ∃ a p, ∃ ys : List Str, x = .str a ∧ xs = [.ref p] ∧ (SqL K H p (ys.map V.str) ∨ SqT K H p (ys.map V.str)) ∧
    (ys.map (·.length)).sum + ys.length * a.length ≤ 16777216 ∧ Q (.str (Txt.join a ys)) H
theorem md_join : MetD C (rJoin C.K) mJoin := by
  intro G H x vs dx ds e rx r E Q o
  cases rx with
  | str a =>
    cases r with
    | nil => exact False.elim o
    | cons h r =>
      cases r with
      | cons h2 r => cases h <;> exact False.elim o
      | nil =>
        have fin : ∀ {p : Addr} {vs : List V} {xs : List D}, (SqL C.K H p vs ∨ SqT C.K H p vs) → RepL C.K C.w C.ad G vs xs → Out C (rV C) E G H Q (match strsOf xs with
            | some ys => if (ys.map (·.length)).sum + ys.length * a.length ≤ 16777216 then .ok (.str (Txt.join a ys)) else .bad
            | none => .bad) → rJoin C.K (.str a) [.ref p] H Q := fun {p vs xs} hs r o2 => by
          cases c : strsOf xs with
          | none => rw [c] at o2; exact o2.elim
          | some ys =>
            rw [c] at o2
            have z := r.strs c
            subst z
            obtain ⟨hz, o2⟩ := out_ifE (p := (ys.map (·.length)).sum + ys.length * a.length ≤ 16777216) o2
            exact ⟨a, p, ys, rfl, rfl, hs, hz, o2 _ G H (Step.refl e) (.str _)⟩
        cases h with
        | lst h1 r1 => exact fin (Or.inl (sq_of (e _ _ h1))) r1 o
        | scr h1 r1 => exact fin (Or.inl (ex_l e h1)) r1 o
        | tup h1 r1 => exact fin (Or.inr (ex_t e h1)) r1 o
        | _ => exact False.elim o
  | _ => exact False.elim o
/-- names.index(z), names a tuple of the module -/
def rTIx (K : PySem.W.Frag) : V → List V → Hp → VK → Prop := fun x xs H Q => ∃ p, ∃ ys : List Str, ∃ z j, x = .ref p ∧ xs = [.str z] ∧ SqT K H p (ys.map V.str) ∧ ys[j]? = some z ∧ (∀ m, m < j → ys[m]? ≠ some z) ∧ Q (.int (j : Nat)) H
theorem idx_at : ∀ {ys : List Str} {z : Str}, z ∈ ys → ys[ys.idxOf z]? = some z ∧ ∀ m, m < ys.idxOf z → ys[m]? ≠ some z := by
  intro ys z h
  have hl := List.idxOf_lt_length_of_mem h
  refine ⟨?_, fun m hm q => ?_⟩
  · rw [List.getElem?_eq_getElem hl]
    exact congrArg some (List.getElem_idxOf hl)
  · have hm2 : m < ys.length := Nat.lt_trans hm hl
    rw [List.getElem?_eq_getElem hm2] at q
    have e := Option.some.inj q
    have := List.not_of_lt_findIdx (p := (· == z)) (xs := ys) hm
    rw [e, beq_self_eq_true] at this
    cases this
theorem ce_tix {to : TE} {ta : TA} {o : SE} {a : SA} (ho : CE C xo W to o) (ha : CA C xo W ta a) : CE C xo W (tBM C.K "tuple" (rTIx C.K) to ta) (eTIx o a) := fun σ G H env ft Q q =>
  ho σ G H env ft _ (Out.bind q fun d v G1 H1 _ s1 r1 o1 => by
    cases r1 with
    | @ktp p vs xs h1 k r1 =>
      refine ⟨Or.inr (Or.inl ⟨rfl, k⟩), ha σ G1 H1 env (ft.step s1) _ (Out.bind o1 fun ds ws G2 H2 _ s2 r2 o2 => ?_)⟩
      cases r2 with
      | nil => exact False.elim o2
      | cons h r =>
        cases r with
        | cons _ _ => cases h <;> exact False.elim o2
        | nil =>
          cases h with
          | str z =>
            have o3 : Out C (rV C) (WE W σ) G2 H2 Q (match strsOf xs with
              | some ys => if z ∈ ys then .ok (.int (ys.idxOf z : Nat)) else .bad
              | none => .bad) := o2
            cases c : strsOf xs with
            | none => rw [c] at o3; exact o3.elim
            | some ys =>
              rw [c] at o3
              obtain ⟨hz, o3⟩ := out_ifE (p := z ∈ ys) o3
              have q := r1.strs c
              subst q
              have i := idx_at hz
              exact ⟨p, ys, z, _, rfl, rfl, ex_t (s2.g.trans s2.gh) h1, i.1, i.2, o3 _ G2 H2 (Step.refl s2.gh) (.int _)⟩
          | _ => exact False.elim o2
    | _ => exact False.elim o1)
/-! calls of defs -/
def SpD (C : Cc) (m : List D → R D) : Sp := fun vs H Q E => ∃ G ds, Ex G H ∧ RepL C.K C.w C.ad G vs ds ∧ Out C (rV C) E G H Q (m ds)
abbrev rF (C : Cc) (H : Hp) : Hp → Hp → V → List D → Prop := fun G' H' v ds => rN C G' H' v ds ∧ ∀ p, v = .ref p → H p = none
def SpL (C : Cc) (m : List D → R (List D)) : Sp := fun vs H Q E => ∃ G ds, Ex G H ∧ RepL C.K C.w C.ad G vs ds ∧ Out C (rF C H) E G H Q (m ds)
theorem ce_call {m : List D → R D} {t : TA} {a : SA} (ha : CA C xo W t a) : CE C xo W (tCallS (SpD C m) (WE W) t) (eF m a) := fun σ G H env ft Q o =>
  ha σ G H env ft _ (Out.bind o fun ds vs G1 H1 _ s r o1 => ⟨G1, ds, s.gh, r, o1⟩)
theorem cn_call {m : List D → R (List D)} {t : TA} {a : SA} (ha : CA C xo W t a) : CN C xo W (tCallS (SpL C m) (WE W) t) (lF m a) := fun σ G H env ft Q o =>
  ha σ G H env ft _ (Out.bind o fun ds vs G1 H1 _ s r o1 => ⟨G1, ds, s.gh, r, by
    cases c : m ds with
    | bad => rw [c] at o1; exact o1
    | exc k fs => rw [c] at o1; exact o1
    | ok xs =>
      rw [c] at o1
      intro v G2 H2 s2 q
      exact o1 v G2 H2 s2 ⟨q.1, fun p hp => fresh_back s.h (q.2 p hp)⟩⟩)
theorem ce_call0 {m : List D → R D} : CE C xo W (tCall (SpD C m) [] E0 tNil) (fun _ => noX (m [])) := fun σ G H env ft Q o => ⟨G, [], ft.ex, .nil, by
  cases c : m [] with
  | bad => rw [c] at o; exact o
  | exc k fs => rw [c] at o; exact o.elim
  | ok xs => rw [c] at o; exact fun v G2 H2 s2 q => o v G2 H2 s2 q⟩
theorem cn_call0 {m : List D → R (List D)} : CN C xo W (tCall (SpL C m) [] E0 tNil) (fun _ => noX (m [])) := fun σ G H env ft Q o => ⟨G, [], ft.ex, .nil, by
  cases c : m [] with
  | bad => rw [c] at o; exact o
  | exc k fs => rw [c] at o; exact o.elim
  | ok xs => rw [c] at o; exact fun v G2 H2 s2 q => o v G2 H2 s2 q⟩
/-- a call of a local name that holds a def; what is raised goes by the def's own wish -/
def tCallRS (i : Nat) (S : Addr → Sp → Prop) (E : L2.St → XK) (t : TA) : TE := fun σ H Q => ∃ f sp, σ[i]? = some (some (.ref f)) ∧ S f sp ∧ t σ H fun vs H1 => sp vs H1 Q (E σ)
def STb (C : Cc) (tb : Nat → Option (List D → R D)) : Addr → Sp → Prop := fun f sp => ∃ n m, f = C.ad n ∧ tb n = some m ∧ sp = SpD C m
theorem ce_P {tb : Nat → Option (List D → R D)} {i : Nat} {t : TA} {a : SA} (ha : CA C xo W t a) : CE C xo W (tCallRS i (STb C tb) (WE W) t) (eP tb i a) := fun σ G H env ft Q o => by
  unfold eP at o
  cases c : env[i]? with
  | none => rw [c] at o; exact o.elim
  | some s =>
    rw [c] at o
    cases s with
    | val d =>
      cases d with
      | fn n =>
        dsimp only at o
        cases c2 : tb n with
        | none => rw [c2] at o; exact o.elim
        | some m =>
          rw [c2] at o
          obtain ⟨v, h1, h2⟩ := ft.val i _ c
          cases h2
          exact ⟨_, _, h1, ⟨n, m, rfl, c2, rfl⟩, ha σ G H env ft _ (Out.bind o fun ds vs G1 H1 _ s r o1 => ⟨G1, ds, s.gh, r, o1⟩)⟩
      | _ => exact o.elim
    | _ => exact o.elim
/-! ### what is walked -/
def Srv (C : Cc) (J : It) (G : Hp) (ds : List D) : Prop := ∃ (GP : Hp → Prop) (Y : Nat → Hp → V → Hp → Prop), Walk J ds.length GP Y ∧ (∀ H, Ex G H → GP H) ∧
  ∀ (i : Nat) H x H' G1, i < ds.length → Ex G G1 → Ex G1 H → Y i H x H' → ∃ G' d, ds[i]? = some d ∧ Step G1 H G' H' ∧ Rep C.K C.w C.ad G' x d
def CI (C : Cc) (xo : Xo) (W : WX) (wi : TI) (f : SA) : Prop := ∀ σ G H env, Fit C xo G H σ env → ∀ R : It → Hp → Prop, Out C (fun G' _ J ds => Srv C J G' ds) (WE W σ) G H R (f env) → wi σ H R
theorem srv_at {J : It} {vs : List V} {ds : List D} {GP : Hp → Prop} (w : Walk J vs.length GP (YAt vs)) (r : RepL C.K C.w C.ad G vs ds) (hg : ∀ H, Ex G H → GP H) : Srv C J G ds :=
  ⟨GP, YAt vs, by rw [← r.length]; exact w, hg, fun i H x H' G1 hi e1 e2 y => by
    obtain ⟨rfl, h⟩ := y
    obtain ⟨d, h1, h2⟩ := r.getV h
    exact ⟨G1, d, h1, Step.refl e2, h2.mono e1⟩⟩
theorem ci_list {te : TE} {f : SE} (h : CE C xo W te f) : CI C xo W (iList C.K te) (iD f) := fun σ G H env ft R o =>
  h σ G H env ft _ (Out.bind o fun d v G1 H1 _ s r o1 => by
    cases r with
    | @lst a vs ds h1 r => exact ⟨a, rfl, ⟨vs, sq_of (s.gh _ _ h1)⟩, o1 _ G1 H1 (Step.refl s.gh) (srv_at walk_list r fun H e => sq_of (e _ _ h1))⟩
    | @scr a vs ds h1 r => exact ⟨a, rfl, ⟨vs, ex_l s.gh h1⟩, o1 _ G1 H1 (Step.refl s.gh) (srv_at walk_list r fun H e => ex_l e h1)⟩
    | _ => exact False.elim o1)
theorem ci_tup {te : TE} {f : SE} (h : CE C xo W te f) : CI C xo W (iTup C.K te) (iT f) := fun σ G H env ft R o =>
  h σ G H env ft _ (Out.bind o fun d v G1 H1 _ s r o1 => by
    cases r with
    | @tup a vs ds h1 r => exact ⟨a, rfl, ⟨vs, ex_t s.gh h1⟩, o1 _ G1 H1 (Step.refl s.gh) (srv_at walk_tup r fun H e => ex_t e h1)⟩
    | @ktp a vs ds h1 _ r => exact ⟨a, rfl, ⟨vs, ex_t s.gh h1⟩, o1 _ G1 H1 (Step.refl s.gh) (srv_at walk_tup r fun H e => ex_t e h1)⟩
    | _ => exact False.elim o1)
theorem ci_str {te : TE} {f : SE} (h : CE C xo W te f) : CI C xo W (iStr te) (iS f) := fun σ G H env ft R o =>
  h σ G H env ft _ (Out.bind o fun d v G1 H1 _ s r o1 => by
    cases r with
    | str z =>
      refine ⟨z, rfl, o1 _ G1 H1 (Step.refl s.gh) ⟨_, _, by rw [List.length_map, Array.length_toList]; exact walk_str, fun _ _ => True.intro, fun i H x H' G1 hi e1 e2 y => ?_⟩⟩
      obtain ⟨rfl, c, h1, rfl⟩ := y
      refine ⟨G1, _, ?_, Step.refl e2, .str _⟩
      rw [List.getElem?_map, Array.getElem?_toList, h1]
      rfl
    | _ => exact False.elim o1)
theorem ci_r1 {ta : TA} {a : SA} (h : CA C xo W ta a) : CI C xo W (iRng1 ta) (iR1 a) := fun σ G H env ft R o =>
  h σ G H env ft _ (Out.bind o fun ds vs G1 H1 _ s r o1 => by
    cases r with
    | nil => exact False.elim o1
    | cons h r =>
      cases r with
      | cons _ _ => cases h <;> exact False.elim o1
      | nil =>
        cases h with
        | int n =>
          obtain ⟨hz, o1⟩ := out_if (p := n ≤ Z ∧ -Z ≤ n) o1
          have hz1 : n ≤ 100000 := hz.1
          have hz2 : -100000 ≤ n := hz.2
          refine ⟨n, rfl, by omega, by omega, o1 _ G1 H1 (Step.refl s.gh) ⟨_, _, by rw [List.length_map, List.length_range]; exact walk_range, fun _ _ => True.intro, fun i H x H' G1 hi e1 e2 y => ?_⟩⟩
          obtain ⟨rfl, rfl⟩ := y
          rw [List.length_map, List.length_range] at hi
          refine ⟨G1, _, ?_, Step.refl e2, .int _⟩
          rw [List.getElem?_map, List.getElem?_range hi, Int.zero_add]
          rfl
        | _ => exact False.elim o1)
theorem ci_r2 {ta : TA} {a : SA} (h : CA C xo W ta a) : CI C xo W (iRng2 ta) (iR2 a) := fun σ G H env ft R o =>
  h σ G H env ft _ (Out.bind o fun ds vs G1 H1 _ s r o1 => by
    cases r with
    | nil => exact False.elim o1
    | cons h r =>
      cases r with
      | nil => cases h <;> exact False.elim o1
      | cons h2 r =>
        cases r with
        | cons _ _ => cases h <;> cases h2 <;> exact False.elim o1
        | nil =>
          cases h with
          | int m => cases h2 with
            | int n =>
              obtain ⟨hz, o1⟩ := out_if (p := n ≤ Z ∧ -Z ≤ n ∧ m ≤ Z ∧ -Z ≤ m) o1
              have hz1 : n ≤ 100000 := hz.1
              have hz2 : -100000 ≤ n := hz.2.1
              have hz3 : m ≤ 100000 := hz.2.2.1
              have hz4 : -100000 ≤ m := hz.2.2.2
              refine ⟨m, n, rfl, by omega, o1 _ G1 H1 (Step.refl s.gh) ⟨_, _, by rw [List.length_map, List.length_range]; exact walk_range, fun _ _ => True.intro, fun i H x H' G1 hi e1 e2 y => ?_⟩⟩
              obtain ⟨rfl, rfl⟩ := y
              rw [List.length_map, List.length_range] at hi
              refine ⟨G1, _, ?_, Step.refl e2, .int _⟩
              rw [List.getElem?_map, List.getElem?_range hi]
              rfl
            | _ => exact False.elim o1
          | _ => cases h2 <;> exact False.elim o1)
theorem zipD_at : ∀ {xs ys : List D} {i : Nat} {x y : D}, xs[i]? = some x → ys[i]? = some y → (zipD xs ys)[i]? = some (.tup [x, y])
  | [], _, _, _, _, h, _ => by cases h
  | _ :: _, [], _, _, _, _, h => by cases h
  | x :: xs, y :: ys, 0, _, _, h, h2 => by cases h; cases h2; rfl
  | x :: xs, y :: ys, i + 1, _, _, h, h2 => zipD_at (xs := xs) (ys := ys) (i := i) h h2
theorem zipD_length : ∀ {xs ys : List D}, (zipD xs ys).length = min xs.length ys.length
  | [], ys => by unfold zipD; simp
  | _ :: _, [] => by unfold zipD; simp
  | x :: xs, y :: ys => by
    unfold zipD
    rw [List.length_cons, zipD_length, List.length_cons, List.length_cons]
    omega
/-- a new pair of what stands -/
theorem pair_step {T : Addr} {x y : V} {d e : D} {G1 : Hp} (ex : Ex G1 H) (hT : H T = none) (rx : Rep C.K C.w C.ad G1 x d) (ry : Rep C.K C.w C.ad G1 y e) : ∃ G', Step G1 H G' (upd H T (.tup [x, y])) ∧ Rep C.K C.w C.ad G' (.ref T) (.tup [d, e]) := by
  have hn := fresh_back ex hT
  exact ⟨_, Step.new ex hT, .tup (st_of upd_same) (.cons (rx.mono (Ex.new hn)) (.cons (ry.mono (Ex.new hn)) .nil))⟩
theorem srv_pair {J : It} {vs ws : List V} {ds es : List D} {n : Nat} {GP : Hp → Prop} (w : Walk J n GP (YPair (fun i => vs[i]?) (fun i => ws[i]?))) (hn : n = min vs.length ws.length) (r : RepL C.K C.w C.ad G vs ds) (r2 : RepL C.K C.w C.ad G ws es) (hg : ∀ H, Ex G H → GP H) : Srv C J G (zipD ds es) :=
  ⟨GP, _, by rw [zipD_length, ← r.length, ← r2.length, ← hn]; exact w, hg, fun i H x H' G1 hi e1 e2 y => by
    obtain ⟨T, a, b, rfl, hT, rfl, h1, h2⟩ := y
    obtain ⟨d, q1, q2⟩ := r.getV h1
    obtain ⟨e, q3, q4⟩ := r2.getV h2
    obtain ⟨G', s, rr⟩ := pair_step e2 hT (q2.mono e1) (q4.mono e1)
    exact ⟨G', _, zipD_at q1 q3, s, rr⟩⟩
theorem ci_zipL {ta : TA} {a : SA} (h : CA C xo W ta a) : CI C xo W (iZip C.K ta) (iZL a) := fun σ G H env ft R o =>
  h σ G H env ft _ (Out.bind o fun ds vs G1 H1 _ s r o1 => by
    cases r with
    | nil => exact False.elim o1
    | cons h r =>
      cases r with
      | nil => cases h <;> exact False.elim o1
      | cons h2 r =>
        cases r with
        | cons _ _ => cases h <;> cases h2 <;> exact False.elim o1
        | nil =>
          cases h with
          | @lst a vs ds h1 r1 => cases h2 with
            | @lst b ws es h2 r2 =>
              exact ⟨a, b, vs, ws, rfl, sq_of (s.gh _ _ h1), sq_of (s.gh _ _ h2), o1 _ G1 H1 (Step.refl s.gh) (srv_pair (walk_zip rfl) rfl r1 r2 fun H e => ⟨sq_of (e _ _ h1), sq_of (e _ _ h2)⟩)⟩
            | _ => exact False.elim o1
          | _ => cases h2 <;> exact False.elim o1)
theorem walk_zipT {K : PySem.W.Frag} {a b : Addr} {xs ys : List V} {n : Nat} (hn : n = min xs.length ys.length) : Walk (ItzT K a b) n (fun H => SqT K H a xs ∧ SqT K H b ys) (YPair (fun i => xs[i]?) (fun i => ys[i]?)) := by
  subst hn
  refine ⟨fun i _ hi q => ?_, fun _ q => ⟨xs, ys, q.1, q.2, by omega⟩, fun i H v H' _ q y => ?_⟩
  · have h1 : i < xs.length := by omega
    have h2 : i < ys.length := by omega
    exact ⟨xs, ys, xs[i], ys[i], q.1, q.2, by simp [h1], by simp [h2]⟩
  · obtain ⟨T, x, z, h1, h2, h3, h4, h5⟩ := y
    exact ⟨T, x, z, h1, h2, h3, h4 xs q.1, h5 ys q.2⟩
theorem ci_zipT {ta : TA} {a : SA} (h : CA C xo W ta a) : CI C xo W (iZipA C.K ta) (iZT a) := fun σ G H env ft R o =>
  h σ G H env ft _ (Out.bind o fun ds vs G1 H1 _ s r o1 => by
    cases r with
    | nil => exact False.elim o1
    | cons h r =>
      cases r with
      | nil => cases h <;> exact False.elim o1
      | cons h2 r =>
        cases r with
        | cons _ _ => cases h <;> cases h2 <;> exact False.elim o1
        | nil =>
          cases h with
          | @tup a vs ds h1 r1 => cases h2 with
            | @tup b ws es h2 r2 =>
              exact ⟨a, b, vs, ws, rfl, Or.inr ⟨ex_t s.gh h1, ex_t s.gh h2, o1 _ G1 H1 (Step.refl s.gh) (srv_pair (walk_zipT rfl) rfl r1 r2 fun H e => ⟨ex_t e h1, ex_t e h2⟩)⟩⟩
            | _ => exact False.elim o1
          | _ => cases h2 <;> exact False.elim o1)
theorem enumD_at : ∀ {xs : List D} {i n : Nat} {x : D}, xs[i]? = some x → (enumD n xs)[i]? = some (.tup [.int ((n + i : Nat) : Int), x])
  | [], _, _, _, h => by cases h
  | x :: xs, 0, _, _, h => by cases h; rfl
  | x :: xs, i + 1, n, _, h => by
    have q := enumD_at (xs := xs) (i := i) (n := n + 1) h
    rw [show n + (i + 1) = n + 1 + i by omega]
    exact q
theorem enumD_length : ∀ {xs : List D} {n : Nat}, (enumD n xs).length = xs.length
  | [], _ => rfl
  | _ :: xs, n => congrArg (· + 1) (enumD_length (xs := xs) (n := n + 1))
theorem ci_enum {te : TE} {f : SE} (h : CE C xo W te f) : CI C xo W (iEnum C.K (tCons te tNil)) (iEn f) := fun σ G H env ft R o =>
  h σ G H env ft _ (Out.bind o fun d v G1 H1 _ s r o1 => by
    cases r with
    | @lst a vs ds h1 r =>
      refine ⟨a, vs, rfl, sq_of (s.gh _ _ h1), o1 _ G1 H1 (Step.refl s.gh) ⟨_, _, by rw [enumD_length, ← r.length]; exact walk_enum, fun H e => sq_of (e _ _ h1), fun i H x H' G1 hi e1 e2 y => ?_⟩⟩
      obtain ⟨T, p, q, rfl, hT, rfl, h1, h2⟩ := y
      obtain rfl : V.int (i : Nat) = p := Option.some.inj h1
      obtain ⟨d, q1, q2⟩ := r.getV h2
      obtain ⟨G', s, rr⟩ := pair_step (x := .int (i : Nat)) e2 hT (.int _) (q2.mono e1)
      refine ⟨G', _, enumD_at (n := 0) q1, s, ?_⟩
      rw [Nat.zero_add]
      exact rr
    | _ => exact False.elim o1)
end
end Dm
set_option Elab.async false
set_option linter.all false
set_option maxRecDepth 100000
set_option maxHeartbeats 4000000
namespace Dm
open PySem L2 Evl RZ Wm
section
variable {C : Cc} {xo : Xo} {W : WX} {G H G' H' G0 H0 : Hp} {σ : L2.St} {env : Env} {E : XK}
/-! ### environments that change -/
theorem get_set {α : Type} {l : List α} {i j : Nat} {a b : α} (h : (l.set j a)[i]? = some b) : (i = j ∧ j < l.length ∧ b = a) ∨ (i ≠ j ∧ l[i]? = some b) := by
  rw [List.getElem?_set] at h
  by_cases e : j = i
  · rw [if_pos e] at h
    split at h
    · cases h; exact Or.inl ⟨e.symm, by omega, rfl⟩
    · cases h
  · rw [if_neg e] at h
    exact Or.inr ⟨fun z => e z.symm, h⟩
theorem set_at {α : Type} {l : List α} {j : Nat} {a : α} (h : j < l.length) : (l.set j a)[j]? = some a := by rw [List.getElem?_set, if_pos rfl, if_pos h]
theorem set_off {α : Type} {l : List α} {i j : Nat} {a : α} (h : i ≠ j) : (l.set j a)[i]? = l[i]? := by rw [List.getElem?_set, if_neg fun z => h z.symm]
/-- slot j gets what says nothing of other slots -/
theorem Fit0.put {j : Nat} {s : Sl} {o : Option V} (f : Fit0 C xo G0 H0 G H σ env)
    (hv : ∀ d, s = .val d → ∃ v, o = some v ∧ Rep C.K C.w C.ad G v d) (ho : ∀ ds, s ≠ .own ds) (hx : ∀ c fs, s = .exn c fs → o = some (.ref xo.a) ∧ xo.cls = .ref (C.ad c) ∧ XRep C.K C.w C.ad G fs xo.d) : Fit0 C xo G0 H0 G H (σ.set j o) (env.set j s) where
  s := f.s
  f := {
    ex := f.f.ex
    len := by rw [List.length_set, List.length_set]; exact f.f.len
    val := fun i d h => by
      rcases get_set h with ⟨rfl, hl, rfl⟩ | ⟨hn, h⟩
      · obtain ⟨v, rfl, r⟩ := hv _ rfl
        exact ⟨v, set_at (by rw [f.f.len]; exact hl), r⟩
      · rw [set_off hn]
        exact f.f.val i d h
    own := fun i ds h => by
      rcases get_set h with ⟨rfl, hl, rfl⟩ | ⟨hn, h⟩
      · exact absurd rfl (ho ds)
      · rw [set_off hn]
        exact f.f.own i ds h
    sep := fun i k p ds es h1 h2 => by
      rcases get_set h1 with ⟨_, _, rfl⟩ | ⟨hn, h1⟩
      · exact absurd rfl (ho ds)
      rcases get_set h2 with ⟨_, _, rfl⟩ | ⟨hn2, h2⟩
      · exact absurd rfl (ho es)
      rw [set_off hn, set_off hn2]
      exact f.f.sep i k p ds es h1 h2
    exn := fun i c fs h => by
      rcases get_set h with ⟨rfl, hl, rfl⟩ | ⟨hn, h⟩
      · obtain ⟨rfl, h1, h2⟩ := hx c fs rfl
        exact ⟨set_at (by rw [f.f.len]; exact hl), h1, h2⟩
      · rw [set_off hn]
        exact f.f.exn i c fs h }
  new := fun i ds p h => by
    rcases get_set h with ⟨_, _, rfl⟩ | ⟨hn, h⟩
    · exact absurd rfl (ho ds)
    · rw [set_off hn]
      exact f.new i ds p h
theorem Fit0.setV {j : Nat} {v : V} {d : D} (f : Fit0 C xo G0 H0 G H σ env) (r : Rep C.K C.w C.ad G v d) : Fit0 C xo G0 H0 G H (σ.set j (some v)) (env.set j (.val d)) :=
  f.put (fun e h => by cases h; exact ⟨v, rfl, r⟩) (fun _ => nofun) (fun _ _ => nofun)
theorem Fit0.setU {j : Nat} {o : Option V} (f : Fit0 C xo G0 H0 G H σ env) : Fit0 C xo G0 H0 G H (σ.set j o) (env.set j .un) :=
  f.put (fun _ => nofun) (fun _ => nofun) (fun _ _ => nofun)
/-- a list of one's own comes into slot j: new, or the one that was there, changed -/
theorem Fit0.setO {j : Nat} {p : Addr} {vs : List V} {ds : List D} (f : Fit0 C xo G0 H0 G H σ env) (hG : G p = none) (h0 : H0 p = none) (hH : H p = some (.lst vs)) (r : RepL C.K C.w C.ad G vs ds)
    (hs : ∀ (i : Nat) es, i ≠ j → env[i]? = some (.own es) → σ[i]? ≠ some (some (.ref p))) : Fit0 C xo G0 H0 G H (σ.set j (some (.ref p))) (env.set j (.own ds)) where
  s := f.s
  f := {
    ex := f.f.ex
    len := by rw [List.length_set, List.length_set]; exact f.f.len
    val := fun i d h => by
      rcases get_set h with ⟨_, _, e⟩ | ⟨hn, h⟩
      · cases e
      · rw [set_off hn]
        exact f.f.val i d h
    own := fun i es h => by
      rcases get_set h with ⟨rfl, hl, e⟩ | ⟨hn, h⟩
      · cases e
        exact ⟨p, vs, set_at (by rw [f.f.len]; exact hl), hG, hH, r⟩
      · rw [set_off hn]
        exact f.f.own i es h
    sep := fun i k q es us h1 h2 => by
      rcases get_set h1 with ⟨hi, hl, e⟩ | ⟨hn, g1⟩
      · rcases get_set h2 with ⟨hk, _, e2⟩ | ⟨hn2, g2⟩
        · exact fun _ _ => hi.trans hk.symm
        · rw [hi, set_at (by rw [f.f.len]; exact hl), set_off hn2]
          intro a b
          cases a
          exact absurd b (hs k us hn2 g2)
      · rcases get_set h2 with ⟨hk, hl2, e2⟩ | ⟨hn2, g2⟩
        · rw [set_off hn, hk, set_at (by rw [f.f.len]; exact hl2)]
          intro a b
          cases b
          exact absurd a (hs i es hn g1)
        · rw [set_off hn, set_off hn2]
          exact f.f.sep i k q es us g1 g2
    exn := fun i c fs h => by
      rcases get_set h with ⟨_, _, e⟩ | ⟨hn, h⟩
      · cases e
      · rw [set_off hn]
        exact f.f.exn i c fs h }
  new := fun i es q h => by
    rcases get_set h with ⟨rfl, hl, e⟩ | ⟨hn, h⟩
    · rw [set_at (by rw [f.f.len]; exact hl)]
      intro z
      cases z
      exact h0
    · rw [set_off hn]
      exact f.new i es q h
/-- the list of slot j is changed where it stands -/
theorem Fit0.chg {j : Nat} {p : Addr} {vs ws : List V} {ds es : List D} (f : Fit0 C xo G0 H0 G H σ env) (hj : env[j]? = some (.own ds)) (hp : σ[j]? = some (some (.ref p))) (hG : G p = none) (r : RepL C.K C.w C.ad G ws es) :
    Fit0 C xo G0 H0 G (upd H p (.lst ws)) σ (env.set j (.own es)) where
  s := ⟨f.s.g, Ex.mut f.f.ex hG, Ex.mut f.s.h (f.new j ds p hj hp), f.s.out⟩
  f := {
    ex := Ex.mut f.f.ex hG
    len := by rw [List.length_set]; exact f.f.len
    val := fun i d h => by
      rcases get_set h with ⟨_, _, e⟩ | ⟨hn, h⟩
      · cases e
      · exact f.f.val i d h
    own := fun i us h => by
      rcases get_set h with ⟨rfl, hl, e⟩ | ⟨hn, h⟩
      · cases e
        exact ⟨p, ws, hp, hG, upd_same, r⟩
      · obtain ⟨q, zs, h1, h2, h3, h4⟩ := f.f.own i us h
        refine ⟨q, zs, h1, h2, ?_, h4⟩
        rw [upd_ne fun z => hn (f.f.sep i j p us ds h hj (by rw [h1, z]) hp)]
        exact h3
    sep := fun i k q us xs h1 h2 => by
      rcases get_set h1 with ⟨hi, hl, e⟩ | ⟨hn, g1⟩
      · rcases get_set h2 with ⟨hk, _, e2⟩ | ⟨hn2, g2⟩
        · exact fun _ _ => hi.trans hk.symm
        · rw [hi]
          exact f.f.sep j k q _ _ hj g2
      · rcases get_set h2 with ⟨hk, _, e2⟩ | ⟨hn2, g2⟩
        · rw [hk]
          exact f.f.sep i j q _ _ g1 hj
        · exact f.f.sep i k q _ _ g1 g2
    exn := fun i c fs h => by
      rcases get_set h with ⟨_, _, e⟩ | ⟨hn, h⟩
      · cases e
      · exact f.f.exn i c fs h }
  new := fun i us q h => by
    rcases get_set h with ⟨rfl, hl, e⟩ | ⟨hn, h⟩
    · exact f.new i ds q hj
    · exact f.new i us q h
/-- the list of slot j becomes data -/
theorem Fit0.frz {j : Nat} (f : Fit0 C xo G0 H0 G H σ env) : ∃ G', Ex G G' ∧ Fit0 C xo G0 H0 G' H σ (Dm.frz j env) := by
  unfold Dm.frz
  cases c : env[j]? with
  | none => exact ⟨G, Ex.refl G, f⟩
  | some s =>
    cases s with
    | own ds =>
      obtain ⟨p, vs, h1, h2, h3, h4⟩ := f.f.own j ds c
      have e1 : Ex G (upd G p (.lst vs)) := Ex.new h2
      have e2 : Ex (upd G p (.lst vs)) H := fun a o h => by
        by_cases z : a = p
        · subst z; rw [upd_same] at h; rw [h3]; exact h
        · rw [upd_ne z] at h; exact f.f.ex a o h
      refine ⟨_, e1, ?_⟩
      have s1 : Step G0 H0 (upd G p (.lst vs)) H := ⟨f.s.g.trans e1, e2, f.s.h, fun q hq hn => by
        rw [upd_ne fun z => hn (by rw [z]; exact f.new j ds p c h1)]
        exact f.s.out q hq hn⟩
      refine ⟨⟨e2, by rw [List.length_set]; exact f.f.len, fun i d h => ?_, fun i es h => ?_, fun i k q es us k1 k2 => ?_, fun i c2 fs h => ?_⟩, s1, fun i es q h => ?_⟩
      · rcases get_set h with ⟨rfl, hl, e⟩ | ⟨hn, h⟩
        · cases e
          exact ⟨.ref p, h1, .lst upd_same (h4.mono e1)⟩
        · obtain ⟨v, a, b⟩ := f.f.val i d h
          exact ⟨v, a, b.mono e1⟩
      · rcases get_set h with ⟨rfl, hl, e⟩ | ⟨hn, h⟩
        · cases e
        · obtain ⟨q, ws, k1, k2, k3, k4⟩ := f.f.own i es h
          refine ⟨q, ws, k1, ?_, k3, k4.mono e1⟩
          rw [upd_ne fun z => hn (f.f.sep i j p es ds h c (by rw [k1, z]) h1)]
          exact k2
      · rcases get_set k1 with ⟨_, _, e⟩ | ⟨hn, k1⟩
        · cases e
        rcases get_set k2 with ⟨_, _, e⟩ | ⟨hn2, k2⟩
        · cases e
        exact f.f.sep i k q es us k1 k2
      · rcases get_set h with ⟨_, _, e⟩ | ⟨hn, h⟩
        · cases e
        · obtain ⟨a, b, d⟩ := f.f.exn i c2 fs h
          exact ⟨a, b, d.mono e1⟩
      · rcases get_set h with ⟨_, _, e⟩ | ⟨hn, h⟩
        · cases e
        · exact f.new i es q h
    | un => exact ⟨G, Ex.refl G, f⟩
    | val _ => exact ⟨G, Ex.refl G, f⟩
    | exn _ _ => exact ⟨G, Ex.refl G, f⟩
/-- nothing is asked of the ground ahead -/
theorem Fit.zero (f : Fit C xo G H σ env) : Fit0 C xo (fun _ => none) (fun _ => none) G H σ env := ⟨f, ⟨fun _ _ h => (by cases h), f.ex, fun _ _ h => (by cases h), fun _ _ h => absurd rfl h⟩, fun _ _ _ _ _ => rfl⟩
/-! ### targets -/
def CG (C : Cc) (xo : Xo) (g : TG) (js : List Nat) (f : SG) : Prop := ∀ G0 H0 σ G H env, Fit0 C xo G0 H0 G H σ env → ∀ v d env2, Rep C.K C.w C.ad G v d → f d env = some env2 → ∀ Q : L2.St → Hp → Prop,
  (∀ σ', σ'.length = σ.length → (∀ i, i ∉ js → σ'[i]? = σ[i]?) → Fit0 C xo G0 H0 G H σ' env2 → Q σ' H) → g v σ H Q
def CGs (C : Cc) (xo : Xo) (g : TGs) (js : List Nat) (f : SGs) : Prop := ∀ G0 H0 σ G H env, Fit0 C xo G0 H0 G H σ env → ∀ vs ds env2, RepL C.K C.w C.ad G vs ds → f ds env = some env2 → ∀ Q : L2.St → Hp → Prop,
  (∀ σ', σ'.length = σ.length → (∀ i, i ∉ js → σ'[i]? = σ[i]?) → Fit0 C xo G0 H0 G H σ' env2 → Q σ' H) → g vs σ H Q
theorem cg_name {i : Nat} : CG C xo (gName i) [i] (gN i) := fun G0 H0 σ G H env f v d env2 r h Q q => by
  cases h
  exact q _ (List.length_set ..) (fun k hk => set_off fun z => hk (by rw [z]; exact List.mem_singleton.mpr rfl)) (f.setV r)
theorem cgs_nil : CGs C xo gNil [] gE := fun G0 H0 σ G H env f vs ds env2 r h Q q => by
  cases r with
  | nil => cases h; exact ⟨rfl, q σ rfl (fun _ _ => rfl) f⟩
  | cons _ _ => cases h
theorem cgs_cons {g : TG} {gs : TGs} {js ks : List Nat} {f : SG} {fs : SGs} (h1 : CG C xo g js f) (h2 : CGs C xo gs ks fs) : CGs C xo (gCons g gs) (js ++ ks) (gC f fs) := fun G0 H0 σ G H env ft vs ds env2 r h Q q => by
  cases r with
  | nil => cases h
  | @cons v d vs ds hv r =>
    unfold gC at h
    dsimp only at h
    cases c : f d env with
    | none => rw [c] at h; cases h
    | some env1 =>
      rw [c] at h
      refine ⟨v, vs, rfl, h1 G0 H0 σ G H env ft v d env1 hv c _ fun σ1 l1 k1 f1 => ?_⟩
      exact h2 G0 H0 σ1 G H env1 f1 vs ds env2 r h Q fun σ2 l2 k2 f2 => q σ2 (l2.trans l1) (fun i hi => (k2 i fun z => hi (List.mem_append_right _ z)).trans (k1 i fun z => hi (List.mem_append_left _ z))) f2
theorem cg_tup {gs : TGs} {js : List Nat} {fs : SGs} {n : Nat} (h : CGs C xo gs js fs) : CG C xo (gTup C.K n gs) js (gT n fs) := fun G0 H0 σ G H env ft v d env2 r q Q k => by
  have fin : ∀ {a : Addr} {vs : List V} {ds : List D}, SqT C.K G a vs → RepL C.K C.w C.ad G vs ds → (if ds.length = n then fs ds env else none) = some env2 → gTup C.K n gs (.ref a) σ H Q := fun {a vs ds} hs r q => by
    by_cases hn : ds.length = n
    · rw [if_pos hn] at q
      exact ⟨a, vs, rfl, ex_t ft.ex hs, r.length.trans hn, h G0 H0 σ G H env ft vs ds env2 r q Q k⟩
    · rw [if_neg hn] at q; cases q
  cases r with
  | tup hs r => exact fin hs r q
  | ktp hs _ r => exact fin hs r q
  | _ => cases q
/-! ### statements -/
def OutS (C : Cc) (xo : Xo) (W : WX) (G0 H0 G : Hp) (D : Ends) : RS → Prop
  | .nx env => ∀ σ G' H', Ex G G' → Fit0 C xo G0 H0 G' H' σ env → D.nx σ H'
  | .rt (.val d) => ∀ v G' H', Step G0 H0 G' H' → Rep C.K C.w C.ad G' v d → D.rt v H'
  | .rt (.own ds) => ∀ v G' H', Step G0 H0 G' H' → rF C H0 G' H' v ds → D.rt v H'
  | .rt _ => False
  | .bk env => ∀ σ G' H', Ex G G' → Fit0 C xo G0 H0 G' H' σ env → D.bk σ H'
  | .ct env => ∀ σ G' H', Ex G G' → Fit0 C xo G0 H0 G' H' σ env → D.ct σ H'
  | .exc c fs env => ∀ dd σ G' H', Ex G G' → Fit0 C xo G0 H0 G' H' σ env → XRep C.K C.w C.ad G' fs dd → W (.ref (C.ad c)) dd σ H'
  | .bad => False
theorem OutS.mono {D : Ends} {r : RS} (e : Ex G G') (h : OutS C xo W G0 H0 G D r) : OutS C xo W G0 H0 G' D r := by
  cases r with
  | nx env => exact fun σ G2 H2 e2 => h σ G2 H2 (e.trans e2)
  | rt s => cases s <;> exact h
  | bk env => exact fun σ G2 H2 e2 => h σ G2 H2 (e.trans e2)
  | ct env => exact fun σ G2 H2 e2 => h σ G2 H2 (e.trans e2)
  | exc c fs env => exact fun dd σ G2 H2 e2 => h dd σ G2 H2 (e.trans e2)
  | bad => exact h
/-- as a wish for the rest -/
theorem OutS.of {D D' : Ends} {r : RS} (h : OutS C xo W G0 H0 G D r) (h1 : ∀ env, r = .nx env → OutS C xo W G0 H0 G D' (.nx env)) (h2 : ∀ env, r = .bk env → OutS C xo W G0 H0 G D' (.bk env)) (h3 : ∀ env, r = .ct env → OutS C xo W G0 H0 G D' (.ct env))
    (h4 : D'.rt = D.rt) : OutS C xo W G0 H0 G D' r := by
  cases r with
  | nx env => exact h1 env rfl
  | rt s =>
    cases s with
    | val d => intro v G1 H1 s1 r1; rw [h4]; exact h v G1 H1 s1 r1
    | own d => intro v G1 H1 s1 r1; rw [h4]; exact h v G1 H1 s1 r1
    | un => exact h
    | exn _ _ => exact h
  | bk env => exact h2 env rfl
  | ct env => exact h3 env rfl
  | exc c fs env => exact h
  | bad => exact h
def CS (C : Cc) (xo : Xo) (W : WX) (t : TS) (s : SS) : Prop := ∀ G0 H0 σ G H env, Fit0 C xo G0 H0 G H σ env → ∀ D, OutS C xo W G0 H0 G D (s env) → t D σ H
theorem ofE_out {α β : Type} {rep : Hp → Hp → β → α → Prop} {r : R α} {k : α → RS} {D : Ends} {Q : β → Hp → Prop} (f : Fit0 C xo G0 H0 G H σ env) (o : OutS C xo W G0 H0 G D (ofE r env k))
    (q : ∀ d v G' H', Step G H G' H' → rep G' H' v d → Fit0 C xo G0 H0 G' H' σ env → OutS C xo W G0 H0 G' D (k d) → Q v H') : Out C rep (WE W σ) G H Q r := by
  cases r with
  | ok d => exact fun v G' H' s r => q d v G' H' s r (f.step s) (OutS.mono s.g o)
  | exc c fs => exact fun dd G' H' s x => o dd σ G' H' s.g (f.step s) x
  | bad => exact o
theorem cs_nx : CS C xo W tNext sNx := fun G0 H0 σ G H env f D o => o σ G H (Ex.refl G) f
theorem cs_seq {t u : TS} {a b : SS} (h1 : CS C xo W t a) (h2 : CS C xo W u b) : CS C xo W (tSeq t u) (sSeq a b) := fun G0 H0 σ G H env f D o => by
  refine h1 G0 H0 σ G H env f _ ?_
  unfold sSeq at o
  cases c : a env with
  | nx env2 => rw [c] at o; exact fun σ' G' H' e f' => h2 G0 H0 σ' G' H' env2 f' D (OutS.mono e o)
  | rt s => rw [c] at o; cases s <;> exact o
  | bk env => rw [c] at o; exact o
  | ct env => rw [c] at o; exact o
  | exc k fs env => rw [c] at o; exact o
  | bad => rw [c] at o; exact o
theorem cs_frz {t : TS} {s : SS} (i : Nat) (h : CS C xo W t s) : CS C xo W t (sFrz i s) := fun G0 H0 σ G H env f D o => by
  obtain ⟨G', e, f'⟩ := f.frz (j := i)
  exact h G0 H0 σ G' H _ f' D (OutS.mono e o)
theorem cs_g {te : TE} {g : TG} {js : List Nat} {a : SE} {gs : SG} (h : CE C xo W te a) (hg : CG C xo g js gs) : CS C xo W (tAsg te g) (sG a gs) := fun G0 H0 σ G H env f D o =>
  h σ G H env f.f _ (ofE_out f o fun d v G1 H1 s r f1 o1 => by
    unfold ofG at o1
    cases c : gs d env with
    | none => rw [c] at o1; exact o1.elim
    | some env2 =>
      rw [c] at o1
      exact hg G0 H0 σ G1 H1 env f1 v d env2 r c _ fun σ2 _ _ f2 => o1 σ2 G1 H1 (Ex.refl _) f2)
theorem cs_a {te : TE} {i : Nat} {a : SE} (h : CE C xo W te a) : CS C xo W (tAsg te (gName i)) (sA i a) := fun G0 H0 σ G H env f D o =>
  h σ G H env f.f _ (ofE_out f o fun d v G1 H1 s r f1 o1 => o1 _ G1 H1 (Ex.refl _) (f1.setV r))
theorem cs_o {te : TE} {i : Nat} {a : SA} (h : CN C xo W te a) : CS C xo W (tAsg te (gName i)) (sO i a) := fun G0 H0 σ G H env f D o =>
  h σ G H env f.f _ (ofE_out f o fun ds v G1 H1 s r f1 o1 => by
    obtain ⟨⟨p, vs, rfl, h1, h2, h3⟩, h4⟩ := r
    refine o1 _ G1 H1 (Ex.refl _) (f1.setO h1 (fresh_back f.s.h (h4 p rfl)) h2 h3 fun k es hk hke hs => ?_)
    obtain ⟨q, ws, k1, k2, k3, _⟩ := f.f.own k es hke
    rw [hs] at k1
    cases k1
    rw [h4 p rfl] at k3
    cases k3)
theorem cs_app {ta te : TE} {i : Nat} {a : SE} (hv : ta = tVar i) (h : CE C xo W te a) : CS C xo W (tDrop (tBM C.K "list" rAppend ta (tCons te tNil))) (sApp i a) := fun G0 H0 σ G H env f D o => by
  subst hv
  unfold sApp at o
  cases c : env[i]? with
  | none => rw [c] at o; exact o.elim
  | some s =>
    rw [c] at o
    cases s with
    | own xs =>
      obtain ⟨p, vs, h1, h2, h3, h4⟩ := f.f.own i xs c
      refine ⟨.ref p, h1, Or.inl ⟨rfl, vs, sq_of h3⟩, h σ G H env f.f _ (ofE_out f o fun d v G1 H1 s1 r f1 o1 => ?_)⟩
      by_cases hz : xs.length < Z
      · rw [if_pos hz] at o1
        exact ⟨p, vs, v, rfl, rfl, s1.h _ _ h3, sz_lt (by rw [h4.length]; exact hz), o1 σ G1 _ (Ex.refl _) (f1.chg (vs := vs) c h1 (s1.out p h2 (by rw [h3]; exact nofun)) ((h4.mono s1.g).append (.cons r .nil)))⟩
      · rw [if_neg hz] at o1; exact o1.elim
    | un => exact o.elim
    | val _ => exact o.elim
    | exn _ _ => exact o.elim
theorem cs_ext {ta te : TE} {i : Nat} {a : SE} (hv : ta = tVar i) (h : CE C xo W te a) : CS C xo W (tDrop (tBM C.K "list" rExtend ta (tCons te tNil))) (sExt i a) := fun G0 H0 σ G H env f D o => by
  subst hv
  unfold sExt at o
  cases c : env[i]? with
  | none => rw [c] at o; exact o.elim
  | some s =>
    rw [c] at o
    cases s with
    | own xs =>
      obtain ⟨p, vs, h1, h2, h3, h4⟩ := f.f.own i xs c
      refine ⟨.ref p, h1, Or.inl ⟨rfl, vs, sq_of h3⟩, h σ G H env f.f _ (ofE_out f o fun d v G1 H1 s1 r f1 o1 => ?_)⟩
      cases r with
      | @lst b ws es hb r =>
        dsimp only at o1
        by_cases hz : xs.length + es.length ≤ Z
        · rw [if_pos hz] at o1
          exact ⟨p, b, vs, ws, rfl, rfl, s1.h _ _ h3, s1.gh _ _ hb, sz_of (by rw [h4.length, r.length]; exact hz), o1 σ G1 _ (Ex.refl _) (f1.chg (vs := vs) c h1 (s1.out p h2 (by rw [h3]; exact nofun)) ((h4.mono s1.g).append r))⟩
        · rw [if_neg hz] at o1; exact o1.elim
      | _ => exact o1.elim
    | un => exact o.elim
    | val _ => exact o.elim
    | exn _ _ => exact o.elim
theorem cs_pop {ta : TE} {i : Nat} (hv : ta = tVar i) : CS C xo W (tDrop (tBM0 C.K "list" rPop ta)) (sPop i) := fun G0 H0 σ G H env f D o => by
  subst hv
  unfold sPop at o
  cases c : env[i]? with
  | none => rw [c] at o; exact o.elim
  | some s =>
    rw [c] at o
    cases s with
    | own xs =>
      obtain ⟨p, vs, h1, h2, h3, h4⟩ := f.f.own i xs c
      dsimp only at o
      by_cases hz : xs = []
      · rw [if_pos hz] at o; exact o.elim
      · rw [if_neg hz] at o
        have hl : 0 < xs.length := List.length_pos_iff.mpr hz
        obtain ⟨u, hu, _⟩ := h4.get (i := vs.length - 1) (List.getElem?_eq_getElem (by rw [h4.length]; omega))
        exact ⟨.ref p, h1, Or.inl ⟨rfl, vs, sq_of h3⟩, p, vs, u, rfl, rfl, h3, hu, o σ G _ (Ex.refl _) (f.chg (vs := vs) c h1 h2 h4.dropLast)⟩
    | un => exact o.elim
    | val _ => exact o.elim
    | exn _ _ => exact o.elim
theorem cs_set {to ti te : TE} {i : Nat} {k a : SE} (hv : to = tVar i) (hk : CE C xo W ti k) (h : CE C xo W te a) : CS C xo W (tAsg te (gSub to ti rSetL)) (sSet i k a) := fun G0 H0 σ G H env f D o => by
  subst hv
  unfold sSet at o
  cases c : env[i]? with
  | none => rw [c] at o; exact o.elim
  | some s =>
    rw [c] at o
    cases s with
    | own xs =>
      obtain ⟨p, vs, h1, h2, h3, h4⟩ := f.f.own i xs c
      refine h σ G H env f.f _ (ofE_out f o fun d v G1 H1 s1 r f1 o1 => ⟨.ref p, h1, hk σ G1 H1 env f1.f _ (ofE_out f1 o1 fun j u G2 H2 s2 r2 f2 o2 => ?_)⟩)
      cases r2 with
      | int j =>
        dsimp only at o2
        cases cn : ixN xs.length j with
        | none => rw [cn] at o2; exact o2.elim
        | some n =>
          rw [cn] at o2
          have hp1 := s1.out p h2 (by rw [h3]; exact nofun)
          have hp3 := s1.h _ _ h3
          refine ⟨p, vs, j, n, rfl, rfl, s2.h _ _ hp3, by rw [h4.length]; exact cn, ?_⟩
          exact o2 σ G2 _ (Ex.refl _) (f2.chg (vs := vs) c h1 (s2.out p hp1 (by rw [hp3]; exact nofun)) ((h4.mono (s1.g.trans s2.g)).set (r.mono s2.g) n))
      | _ => exact o2.elim
    | un => exact o.elim
    | val _ => exact o.elim
    | exn _ _ => exact o.elim
theorem cs_aug {te : TE} {i : Nat} {r : R2} {op : D → D → R D} {a : SE} (ho : OpD C r op) (h : CE C xo W te a) : CS C xo W (tAug i te r) (sAug i op a) := fun G0 H0 σ G H env f D o => by
  unfold sAug at o
  cases c : env[i]? with
  | none => rw [c] at o; exact o.elim
  | some s =>
    rw [c] at o
    cases s with
    | val x =>
      obtain ⟨u, h1, h2⟩ := f.f.val i x c
      exact ⟨u, h1, h σ G H env f.f _ (ofE_out f o fun d v G1 H1 s1 r f1 o1 => ho G1 H1 u v x d s1.gh (h2.mono s1.g) r (WE W σ) _ (ofE_out f1 o1 fun z w G2 H2 s2 r2 f2 o2 => o2 _ G2 H2 (Ex.refl _) (f2.setV r2)))⟩
    | un => exact o.elim
    | own _ => exact o.elim
    | exn _ _ => exact o.elim
theorem cs_x {te : TE} {a : SE} (h : CE C xo W te a) : CS C xo W (tDrop te) (sX a) := fun G0 H0 σ G H env f D o =>
  h σ G H env f.f _ (ofE_out f o fun d v G1 H1 s r f1 o1 => o1 σ G1 H1 (Ex.refl _) f1)
theorem cs_if {c : TT} {t u : TS} {k : ST} {a b : SS} (h : CT C xo W c k) (h1 : CS C xo W t a) (h2 : CS C xo W u b) : CS C xo W (tIfS c t u) (sIf k a b) := fun G0 H0 σ G H env f D o =>
  h σ G H env f.f _ (ofE_out f o fun d v G1 H1 s r f1 o1 => by
    subst r
    cases v with
    | true => exact h1 G0 H0 σ G1 H1 env f1 D o1
    | false => exact h2 G0 H0 σ G1 H1 env f1 D o1)
theorem cs_ret {te : TE} {a : SE} (h : CE C xo W te a) : CS C xo W (tRet te) (sRet a) := fun G0 H0 σ G H env f D o =>
  h σ G H env f.f _ (ofE_out f o fun d v G1 H1 s r f1 o1 => o1 v G1 H1 f1.s r)
theorem cs_retL {te : TE} {a : SA} (h : CN C xo W te a) : CS C xo W (tRet te) (sRetL a) := fun G0 H0 σ G H env f D o =>
  h σ G H env f.f _ (ofE_out f o fun d v G1 H1 s r f1 o1 => o1 v G1 H1 f1.s ⟨r.1, fun p hp => fresh_back f.s.h (r.2 p hp)⟩)
theorem cs_retO {te : TE} {i : Nat} (hv : te = tVar i) : CS C xo W (tRet te) (sRetO i) := fun G0 H0 σ G H env f D o => by
  subst hv
  unfold sRetO at o
  cases c : env[i]? with
  | none => rw [c] at o; exact o.elim
  | some s =>
    rw [c] at o
    cases s with
    | own xs =>
      obtain ⟨p, vs, h1, h2, h3, h4⟩ := f.f.own i xs c
      exact ⟨.ref p, h1, o (.ref p) G H f.s ⟨⟨p, vs, rfl, h2, h3, h4⟩, fun q hq => by cases hq; exact f.new i xs p c h1⟩⟩
    | un => exact o.elim
    | val _ => exact o.elim
    | exn _ _ => exact o.elim
theorem cs_retN : CS C xo W tRetN sRetN := fun G0 H0 σ G H env f D o => o .non G H f.s .non
theorem cs_br : CS C xo W tBreak sBr := fun G0 H0 σ G H env f D o => o σ G H (Ex.refl G) f
theorem cs_ct : CS C xo W tCont sCt := fun G0 H0 σ G H env f D o => o σ G H (Ex.refl G) f
theorem cs_never : CS C xo W tNever sNever := fun G0 H0 σ G H env f D o => o
theorem cs_wh {c : TT} {t : TS} {k : ST} {b : SS} (n : Nat) (h : CT C xo W c k) (h1 : CS C xo W t b) : CS C xo W (tWhile c t) (sWh n k b) := fun G0 H0 σ G H env f D o => by
  refine ⟨fun m σ H => ∃ env G, Fit0 C xo G0 H0 G H σ env ∧ OutS C xo W G0 H0 G D (whGo k b m env), ⟨n, env, G, f, o⟩, ?_⟩
  rintro m σ H ⟨env, G, f, o⟩
  cases m with
  | zero => exact o.elim
  | succ m =>
    refine h σ G H env f.f _ (ofE_out f o fun d v G1 H1 s r f1 o1 => ?_)
    subst r
    cases v with
    | false => exact o1 σ G1 H1 (Ex.refl _) f1
    | true =>
      rw [if_pos rfl] at o1 ⊢
      refine ⟨fun σ H => ∃ env G, Fit0 C xo G0 H0 G H σ env ∧ OutS C xo W G0 H0 G D (whGo k b m env), fun σ' H' q => ⟨m, Nat.lt_succ_self m, q⟩, ?_⟩
      refine h1 G0 H0 σ G1 H1 env f1 _ ?_
      cases c2 : b env with
      | nx e3 => rw [c2] at o1; exact fun σ' G' H' e f' => ⟨e3, G', f', OutS.mono e o1⟩
      | ct e3 => rw [c2] at o1; exact fun σ' G' H' e f' => ⟨e3, G', f', OutS.mono e o1⟩
      | bk e3 => rw [c2] at o1; exact o1
      | rt s => rw [c2] at o1; cases s <;> exact o1
      | exc q fs e3 => rw [c2] at o1; exact o1
      | bad => rw [c2] at o1; exact o1
theorem cs_for {wi : TI} {g : TG} {js : List Nat} {t : TS} {it : SA} {gs : SG} {b : SS} (hi : CI C xo W wi it) (hg : CG C xo g js gs) (h1 : CS C xo W t b) : CS C xo W (tFor wi g t) (sFor it gs b) := fun G0 H0 σ G H env f D o =>
  hi σ G H env f.f _ (ofE_out f o fun ds J G1 H1 s r f1 o1 => by
    obtain ⟨GP, Y, w, hgp, hy⟩ := r
    refine for_it w (fun i σ H => ∃ env G, Ex G1 G ∧ Fit0 C xo G0 H0 G H σ env ∧ OutS C xo W G0 H0 G D (forGo gs b (ds.drop i) env)) ⟨env, G1, Ex.refl _, f1, o1⟩ ?_ ?_ ?_
    · rintro i σ H _ ⟨env, G, e, f, _⟩
      exact hgp H (e.trans f.ex)
    · rintro i x σ H H' hlt ⟨env, G, e, f, o⟩ y
      obtain ⟨G', d, hd, s2, rd⟩ := hy i H x H' G hlt e f.ex y
      have hdr : ds.drop i = d :: ds.drop (i + 1) := by
        rw [List.getElem?_eq_getElem hlt] at hd
        rw [List.drop_eq_getElem_cons hlt, Option.some.inj hd]
      rw [hdr] at o
      have o := OutS.mono s2.g o
      have f := f.step s2
      unfold forGo ofG at o
      cases c : gs d env with
      | none => rw [c] at o; exact o.elim
      | some env2 =>
        rw [c] at o
        refine hg G0 H0 σ G' H' env f x d env2 rd c _ fun σ2 _ _ f2 => h1 G0 H0 σ2 G' H' env2 f2 _ ?_
        dsimp only at o
        cases c2 : b env2 with
        | nx e3 => rw [c2] at o; exact fun σ3 G3 H3 e3' f3 => ⟨e3, G3, (e.trans s2.g).trans e3', f3, OutS.mono e3' o⟩
        | ct e3 => rw [c2] at o; exact fun σ3 G3 H3 e3' f3 => ⟨e3, G3, (e.trans s2.g).trans e3', f3, OutS.mono e3' o⟩
        | bk e3 => rw [c2] at o; exact o
        | rt s => rw [c2] at o; cases s <;> exact o
        | exc q fs e3 => rw [c2] at o; exact o
        | bad => rw [c2] at o; exact o
    · rintro σ H ⟨env, G, e, f, o⟩
      rw [List.drop_length] at o
      exact o σ G H (Ex.refl _) f)
end
end Dm
set_option Elab.async false
set_option linter.all false
set_option maxRecDepth 100000
set_option maxHeartbeats 4000000
namespace Dm
open PySem L2 Evl RZ Wm
abbrev W0 : WX := fun _ _ _ _ => False
section
variable {C : Cc} {xo : Xo} {W : WX} {G H G' H' G0 H0 : Hp} {σ : L2.St} {env : Env} {E : XK}
/-! comprehensions -/
theorem wipe_get (σ : L2.St) : ∀ (vs : List Nat) (i : Nat), (wipe σ vs)[i]? = if i ∈ vs ∧ i < σ.length then some none else σ[i]?
  | [], i => by
    unfold wipe
    rw [if_neg fun z => by cases z.1]
  | v :: vs, i => by
    unfold wipe
    have hl : (wipe σ vs).length = σ.length := wipe_length σ vs
    rw [List.getElem?_set, wipe_get σ vs i, hl]
    by_cases h : v = i
    · subst h
      rw [if_pos rfl]
      by_cases hi : v < σ.length
      · rw [if_pos hi, if_pos ⟨List.mem_cons_self, hi⟩]
      · rw [if_neg hi, if_neg fun z => hi z.2, List.getElem?_eq_none (Nat.le_of_not_lt hi)]
    · rw [if_neg h]
      by_cases hi : i ∈ vs ∧ i < σ.length
      · rw [if_pos hi, if_pos ⟨List.mem_cons_of_mem _ hi.1, hi.2⟩]
      · rw [if_neg hi, if_neg fun z => hi ⟨(List.mem_cons.mp z.1).resolve_left fun q => h q.symm, z.2⟩]
theorem Fit.wipe (f : Fit C xo G H σ env) : ∀ vs, Fit C xo G H (wipe σ vs) (wipeS env vs)
  | [] => f
  | v :: vs => ((Fit.wipe f vs).zero.setU (j := v) (o := none)).f
theorem wipe_same {σ2 : L2.St} {vs js : List Nat} (hl : σ2.length = (wipe σ vs).length) (hk : ∀ i, i ∉ js → σ2[i]? = (wipe σ vs)[i]?) (hj : ∀ i, i ∈ js → i ∈ vs) : wipe σ2 vs = wipe σ vs := by
  apply List.ext_getElem?
  intro i
  have hl2 : σ2.length = σ.length := hl.trans (wipe_length σ vs)
  rw [wipe_get, wipe_get, hl2]
  by_cases h : i ∈ vs ∧ i < σ.length
  · rw [if_pos h, if_pos h]
  · rw [if_neg h, if_neg h]
    by_cases hi : i ∈ js
    · have hge : σ.length ≤ i := Nat.le_of_not_lt fun z => h ⟨hj i hi, z⟩
      rw [List.getElem?_eq_none (by omega), List.getElem?_eq_none hge]
    · rw [hk i hi, wipe_get, if_neg h]
theorem noX_ok {α β γ δ : Type} {rep : Hp → Hp → β → α → Prop} {rep2 : Hp → Hp → δ → γ → Prop} {r : R α} {k : α → R γ} {Q : β → Hp → Prop} {Q2 : δ → Hp → Prop} {E2 : XK} {Gb Hb : Hp} (h : Out C rep2 E2 Gb Hb Q2 ((noX r).bind k))
    (q : ∀ d v G' H', r = .ok d → Step G H G' H' → rep G' H' v d → Out C rep2 E2 Gb Hb Q2 (k d) → Q v H') : Out C rep E G H Q r := by
  cases r with
  | ok d => exact fun v G' H' s r2 => q d v G' H' rfl s r2 h
  | exc c fs => exact h.elim
  | bad => exact h
theorem Out.base {α β : Type} {rep : Hp → Hp → β → α → Prop} {r : R α} {Q : β → Hp → Prop} (e : Ex G G') (k : ∀ p, G p = none → H p ≠ none → G' p = none) (h : Out C rep E G H Q r) : Out C rep E G' H Q r := by
  have z : ∀ {G2 H2}, Step G' H G2 H2 → Step G H G2 H2 := fun s => ⟨e.trans s.g, s.gh, s.h, fun p h1 h2 => s.out p (k p h1 h2) h2⟩
  cases r with
  | ok d => exact fun v G2 H2 s r2 => h v G2 H2 (z s) r2
  | exc c fs => exact fun dd G2 H2 s x => h dd G2 H2 (z s) x
  | bad => exact h
theorem cn_lc {wi : TI} {g : TG} {js vs : List Nat} {tt : TT} {te : TE} {it : SA} {gs : SG} {t : ST} {e : SE} (hi : CI C xo W wi it) (hg : CG C xo g js gs) (hj : ∀ i, i ∈ js → i ∈ vs) (ht : CT C xo W0 tt t) (he : CE C xo W0 te e) :
    CN C xo W (tLc wi g tt te vs) (lLc it gs t e vs) := fun σ G H env f Q o =>
  hi σ G H env f _ (Out.bind o fun ds J G1 H1 _ s r o1 => by
    obtain ⟨hz, o1⟩ := out_if o1
    obtain ⟨GP, Y, w, hgp, hy⟩ := r
    intro Dl hDl
    have f1 := (f.step s).wipe vs
    have hDH := fresh_back s.h hDl
    refine lc_it w (fun i H2 => ∃ G ws acc, Ex G1 G ∧ Step G1 H1 G H2 ∧ G Dl = none ∧ H2 Dl = some (.lst ws) ∧ ws.length ≤ i ∧ RepL C.K C.w C.ad G ws acc ∧
      Out C (rF C H) (WE W σ) G H1 Q (lcGo gs t e (wipeS env vs) (ds.drop i) acc)) ?_ ?_ ?_ ?_
    · exact ⟨G1, [], [], Ex.refl _, Step.ofH s.gh (Ex.new hDl), fresh_back s.gh hDl, upd_same, Nat.le_refl _, .nil, o1⟩
    · rintro i H _ ⟨G, ws, acc, e1, s1, _⟩
      exact hgp H (e1.trans s1.gh)
    · rintro i x H2 H' hlt ⟨G, ws, acc, e1, s1, hG, hH, hw, rl, o⟩ y
      obtain ⟨G', d, hd, s2, rd⟩ := hy i H2 x H' G hlt e1 s1.gh y
      have hdr : ds.drop i = d :: ds.drop (i + 1) := by
        rw [List.getElem?_eq_getElem hlt] at hd
        rw [List.drop_eq_getElem_cons hlt, Option.some.inj hd]
      rw [hdr] at o
      have up : ∀ {Ga Gc Ha Hc : Hp}, Step G1 H1 Ga Ha → Step Ga Ha Gc Hc → ∀ p, Ga p = none → H1 p ≠ none → Gc p = none := fun a b p h1 h2 => b.out p h1 fun z => by
        cases q : H1 p with
        | none => exact h2 q
        | some o => rw [a.h p o q] at z; cases z
      have o := Out.base s2.g (up s1 s2) o
      have s12 := s1.trans s2
      have f2 := f1.step s12
      unfold lcGo at o
      cases c : gs d (wipeS env vs) with
      | none => rw [c] at o; exact o.elim
      | some env2 =>
        rw [c] at o
        dsimp only at o
        refine hg _ _ _ G' H' _ f2.zero x d env2 rd c _ fun σ2 l2 k2 f3 => ⟨wipe_same l2 k2 hj, ?_⟩
        have hG2 := s2.out Dl hG (by rw [hH]; exact nofun)
        have hH2 := s2.h _ _ hH
        refine ht σ2 G' H' env2 f3.f _ (noX_ok o fun k v G3 H3 _ s3 r3 o3 => ?_)
        subst r3
        have o3 := Out.base s3.g (up s12 s3) o3
        have s13 := s12.trans s3
        have hG3 := s3.out Dl hG2 (by rw [hH2]; exact nofun)
        have hH3 := s3.h _ _ hH2
        cases v with
        | false => exact ⟨G3, ws, acc, (e1.trans s2.g).trans s3.g, s13, hG3, hH3, Nat.le_succ_of_le hw, rl.mono (s2.g.trans s3.g), o3⟩
        | true =>
          rw [if_pos rfl]
          refine he σ2 G3 H3 env2 (f3.f.step s3) _ (noX_ok o3 fun z u G4 H4 _ s4 r4 o4 => ?_)
          have o4 := Out.base s4.g (up s13 s4) o4
          have hG4 := s4.out Dl hG3 (by rw [hH3]; exact nofun)
          have hH4 := s4.h _ _ hH3
          have s5 := s13.trans s4
          exact ⟨ws, hH4, sz_lt (by omega), G4, ws ++ [u], acc ++ [z], ((e1.trans s2.g).trans s3.g).trans s4.g, ⟨s5.g, Ex.mut s5.gh hG4, Ex.mut s5.h hDl, s5.out⟩, hG4, upd_same, by rw [List.length_append]; exact Nat.succ_le_succ hw, (rl.mono ((s2.g.trans s3.g).trans s4.g)).append (.cons r4 .nil), o4⟩
    · rintro H2 ⟨G, ws, acc, e1, s1, hG, hH, hw, rl, o⟩
      rw [List.drop_length] at o
      exact o (.ref Dl) G H2 ⟨Ex.refl _, s1.gh, s1.h, fun p h1 _ => h1⟩ ⟨⟨Dl, ws, rfl, hG, hH, rl⟩, fun p hp => by cases hp; exact hDH⟩)
end
end Dm
set_option Elab.async false
set_option linter.all false
set_option maxRecDepth 100000
set_option maxHeartbeats 4000000
namespace Dm
open PySem L2 Evl RZ Wm
section
variable {C : Cc} {xo : Xo} {W : WX} {G H G' H' G0 H0 : Hp} {σ : L2.St} {env : Env} {E : XK}
/-! ### try .. except X as n -/
theorem noExn_at {env : Env} (h : noExn env = true) (i : Nat) (c : Nat) (fs : List (Str × D)) : env[i]? ≠ some (.exn c fs) := fun q => by
  have m := List.mem_of_getElem? q
  have := List.all_eq_true.mp h _ m
  cases this
theorem Fit0.oth {xo2 : Xo} (f : Fit0 C xo G0 H0 G H σ env) (h : noExn env = true) : Fit0 C xo2 G0 H0 G H σ env :=
  ⟨⟨f.f.ex, f.f.len, f.f.val, f.f.own, f.f.sep, fun i c fs q => absurd q (noExn_at h i c fs)⟩, f.s, f.new⟩
theorem ifB_out {b : Bool} {r : RS} {D : Ends} (o : OutS C xo W G0 H0 G D (ifB b r)) : b = true ∧ OutS C xo W G0 H0 G D r := by
  unfold ifB at o
  by_cases h : b = true
  · rw [if_pos h] at o; exact ⟨h, o⟩
  · rw [if_neg h] at o; exact o.elim
theorem cs_try {tb : WX → TS} {ts : Addr → Value → Option Addr → TS} {hc : Value} {i : Nat} {cs : Nat → Option Bool} {b h : SS} (hx : ∀ c k, cs c = some k → PySem.W.exmOne C.K (.ref (C.ad c)) hc = some k) (hb : ∀ W2, CS C xo W2 (tb W2) b)
    (hs : ∀ a cls d, CS C ⟨a, cls, d⟩ W0 (ts a cls d) h) : CS C xo W (fun D σ H => tb (wAs C.K hc i ts W D) D σ H) (sTry b i cs h) := fun G0 H0 σ G H env f D o => by
  refine hb (wAs C.K hc i ts W D) G0 H0 σ G H env f D ?_
  unfold sTry at o
  cases c : b env with
  | nx e2 => rw [c] at o; exact o
  | rt s => rw [c] at o; cases s <;> exact o
  | bk e2 => rw [c] at o; exact o
  | ct e2 => rw [c] at o; exact o
  | bad => rw [c] at o; exact o
  | exc k fs e2 =>
    rw [c] at o
    dsimp only at o
    intro dd σ' G' H' e f' x
    cases ck : cs k with
    | none => rw [ck] at o; exact o.elim
    | some kk =>
      rw [ck] at o
      refine ⟨kk, hx k kk ck, fun hk a ha => ?_, fun hk => ?_⟩
      · subst hk
        dsimp only at o
        obtain ⟨hn, o⟩ := ifB_out o
        have o := OutS.mono e o
        have f2 := (f'.oth (xo2 := ⟨a, .ref (C.ad k), dd⟩) hn).put (j := i) (s := .exn k fs) (o := some (.ref a)) (fun _ => nofun) (fun _ => nofun) (fun c2 fs2 q => by cases q; exact ⟨rfl, rfl, x⟩)
        refine hs a _ dd G0 H0 _ G' H' _ f2 _ ?_
        cases c2 : h (e2.set i (.exn k fs)) with
        | nx e3 =>
          rw [c2] at o
          obtain ⟨hn3, o⟩ := ifB_out o
          exact fun σ3 G3 H3 ee f3 => o _ G3 H3 ee ((f3.setU (j := i) (o := none)).oth hn3)
        | bk e3 =>
          rw [c2] at o
          obtain ⟨hn3, o⟩ := ifB_out o
          exact fun σ3 G3 H3 ee f3 => o _ G3 H3 ee ((f3.setU (j := i) (o := none)).oth hn3)
        | ct e3 =>
          rw [c2] at o
          obtain ⟨hn3, o⟩ := ifB_out o
          exact fun σ3 G3 H3 ee f3 => o _ G3 H3 ee ((f3.setU (j := i) (o := none)).oth hn3)
        | rt s => rw [c2] at o; cases s <;> exact o
        | exc _ _ _ => rw [c2] at o; exact o.elim
        | bad => rw [c2] at o; exact o.elim
      · subst hk
        exact o dd σ' G' H' e f' x
/-- e.f in the suite -/
theorem ce_xf {i c : Nat} {f : Str} : CE C xo W (tXf xo.a xo.cls xo.d (C.ad c) f (tVar i)) (eXf i c f) := fun σ G H env ft Q o => by
  unfold eXf at o
  cases c1 : env[i]? with
  | none => rw [c1] at o; exact o.elim
  | some s =>
    rw [c1] at o
    cases s with
    | exn c2 fs =>
      obtain ⟨h1, h2, h3⟩ := ft.exn i c2 fs c1
      dsimp only at o
      by_cases hc : c2 = c
      · rw [if_pos hc] at o
        subst hc
        cases hl : fs.lookup f with
        | none => rw [hl] at o; exact o.elim
        | some d =>
          rw [hl] at o
          cases fs with
          | nil => cases hl
          | cons p fs =>
            obtain ⟨q, vfs, k1, k2, k3⟩ := h3
            obtain ⟨v, l, r⟩ := k3 f d hl
            exact ⟨_, h1, rfl, h2, q, vfs, v, k1, ft.ex _ _ k2, l, o v G H (Step.refl ft.ex) r⟩
      · rw [if_neg hc] at o; exact o.elim
    | un => exact o.elim
    | val _ => exact o.elim
    | own _ => exact o.elim
/-! ### raise C(e, ..), C's __init__ keeping its arguments as fields -/
def sp_initN (K : PySem.W.Frag) (nm : List Str) : Sp := fun vs H Q _ => ∃ (a C : Addr) (ys : List V), vs = .ref a :: ys ∧ ys.length = nm.length ∧ (OexC K C ∧ (∀ f, f ∈ nm → PySem.W.findIn K (.ref C) f = some none) ∧ H a = some (exo a C none)) ∧
  ∀ dx, H dx = none → dx ≠ a → Q .non (upd (upd H dx (exd dx (nm.zip ys).reverse)) a (exo a C (some dx)))
theorem lk_rev {ys : List V} : ∀ {nm : List Str} {ds : List D}, nm.length ≤ 3 → nm.Nodup → ys.length = nm.length → RepL C.K C.w C.ad G ys ds → ∀ f d, (nm.zip ds).lookup f = some d → ∃ v, (nm.zip ys).reverse.lookup f = some v ∧ Rep C.K C.w C.ad G v d := by
  intro nm ds h3 hn hl r f d h
  match nm, ys, ds, hl, r, h with
  | [], [], [], _, .nil, h => cases h
  | [a], [x], [u], _, .cons r1 .nil, h =>
    simp only [List.zip_cons_cons, List.zip_nil_left, List.reverse_cons, List.reverse_nil, List.nil_append, List.lookup_cons] at h ⊢
    split at h
    · cases h; exact ⟨x, rfl, r1⟩
    · cases h
  | [a, b], [x, y], [u, w], _, .cons r1 (.cons r2 .nil), h =>
    have hab : a ≠ b := fun z => by simp [z] at hn
    simp only [List.zip_cons_cons, List.zip_nil_left, List.reverse_cons, List.reverse_nil, List.nil_append, List.cons_append, List.lookup_cons] at h ⊢
    by_cases q1 : f = a
    · subst q1
      rw [beq_self_eq_true] at h ⊢
      cases h
      rw [beq_eq_false_iff_ne.mpr hab]
      exact ⟨x, rfl, r1⟩
    · rw [beq_eq_false_iff_ne.mpr q1] at h ⊢
      dsimp only at h ⊢
      by_cases q2 : f = b
      · subst q2
        rw [beq_self_eq_true] at h ⊢
        cases h
        exact ⟨y, rfl, r2⟩
      · rw [beq_eq_false_iff_ne.mpr q2] at h
        cases h
  | [a, b, c], [x, y, z], [u, w, t], _, .cons r1 (.cons r2 (.cons r3 .nil)), h =>
    have hab : a ≠ b := fun z => by simp [z] at hn
    have hac : a ≠ c := fun z => by simp [z] at hn
    have hbc : b ≠ c := fun z => by simp [z] at hn
    simp only [List.zip_cons_cons, List.zip_nil_left, List.reverse_cons, List.reverse_nil, List.nil_append, List.cons_append, List.lookup_cons] at h ⊢
    by_cases q1 : f = a
    · subst q1
      rw [beq_self_eq_true] at h ⊢
      cases h
      rw [beq_eq_false_iff_ne.mpr hab, beq_eq_false_iff_ne.mpr hac]
      exact ⟨x, rfl, r1⟩
    · rw [beq_eq_false_iff_ne.mpr q1] at h ⊢
      dsimp only at h ⊢
      by_cases q2 : f = b
      · subst q2
        rw [beq_self_eq_true] at h ⊢
        cases h
        rw [beq_eq_false_iff_ne.mpr hbc]
        exact ⟨y, rfl, r2⟩
      · rw [beq_eq_false_iff_ne.mpr q2] at h ⊢
        dsimp only at h ⊢
        by_cases q3 : f = c
        · subst q3
          rw [beq_self_eq_true] at h ⊢
          cases h
          exact ⟨z, rfl, r3⟩
        · rw [beq_eq_false_iff_ne.mpr q3] at h
          cases h
  | _ :: _ :: _ :: _ :: _, _, _, _, _, _ => exact absurd h3 (by simp)
theorem cs_raise {ta : TA} {a : SA} {c : Nat} {nm : List Str} (T : OexC C.K (C.ad c)) (hf : ∀ f, f ∈ nm → PySem.W.findIn C.K (.ref (C.ad c)) f = some none) (h3 : nm.length ≤ 3) (h1 : nm ≠ []) (hn : nm.Nodup) (h : CA C xo W ta a) :
    CS C xo W (fun _ σ H => tMkO (C.ad c) (sp_initN C.K nm) [] ta σ H fun cls d H' => W cls d σ H') (sRaise c nm a) := fun G0 H0 σ G H env f D o =>
  h σ G H env f.f _ (ofE_out f o fun ds vs G1 H1 s r f1 o1 => by
    by_cases hl : ds.length = nm.length
    · rw [if_pos hl] at o1
      have hlv : vs.length = nm.length := r.length.trans hl
      refine ⟨by omega, fun e he => ?_⟩
      rw [List.append_nil]
      refine ⟨e, C.ad c, vs, rfl, hlv, ⟨T, hf, upd_same⟩, fun dx k1 k2 => ?_⟩
      have hd : H1 dx = none := by
        rw [upd_ne k2] at k1
        exact k1
      refine ⟨rfl, dx, _, upd_same, by rw [upd_ne k2]; exact upd_same, hd, ?_⟩
      have eh : Ex H1 (upd (del (upd (upd (upd H1 e (exo e (C.ad c) none)) dx (exd dx (nm.zip vs).reverse)) e (exo e (C.ad c) (some dx))) e) dx (.xd (nm.zip vs).reverse)) := fun b o hb => by
        have nb1 : b ≠ dx := fun z => by rw [z, hd] at hb; cases hb
        have nb2 : b ≠ e := fun z => by rw [z, he] at hb; cases hb
        rw [upd_ne nb1, del_ne nb2, upd_ne nb2, upd_ne nb1, upd_ne nb2]
        exact hb
      have hg : G1 dx = none := fresh_back s.gh hd
      have st : Step G1 H1 (upd G1 dx (.xd (nm.zip vs).reverse)) (upd (del (upd (upd (upd H1 e (exo e (C.ad c) none)) dx (exd dx (nm.zip vs).reverse)) e (exo e (C.ad c) (some dx))) e) dx (.xd (nm.zip vs).reverse)) := by
        refine ⟨Ex.new hg, fun b o hb => ?_, eh, fun q h1 h2 => ?_⟩
        · by_cases z : b = dx
          · subst z; rw [upd_same] at hb ⊢; exact hb
          · rw [upd_ne z] at hb
            exact eh b o (s.gh b o hb)
        · rw [upd_ne fun z => h2 (by rw [z]; exact hd)]
          exact h1
      refine o1 (some dx) σ _ _ st.g (f1.step st) ?_
      unfold XRep
      have r2 := r.mono (Ex.new (o := .xd (nm.zip vs).reverse) hg)
      cases hz : nm.zip ds with
      | nil =>
        cases nm with
        | nil => exact absurd rfl h1
        | cons _ _ =>
          cases ds with
          | nil => cases hl
          | cons _ _ => cases hz
      | cons p ps =>
        dsimp only
        rw [← hz]
        exact ⟨dx, _, rfl, upd_same, lk_rev h3 hn hlv r2⟩
    · rw [if_neg hl] at o1; exact o1.elim)
end
/-! ### a def -/
section
variable {P : Program} {w : World} {K : PySem.W.Frag} {mg : Str → Option Value} {base : Heap} {ad : Nat → Addr}
theorem start_fit {C : Cc} {xo : Xo} {G H : Hp} {N : List Str} {vs : List V} {ds : List D} {n k : Nat} (e : Ex G H) (r : RepL C.K C.w C.ad G vs ds) (hd : ds.length = n) (hN : N.length = n + k) :
    Fit0 C xo G H G H (L2.start N vs) (ds.map .val ++ List.replicate k .un) := by
  have hl : vs.length = n := r.length.trans hd
  have er : List.replicate (N.length - vs.length) (none : Option V) = List.replicate k none := by rw [show N.length - vs.length = k by omega]
  have low : ∀ (i : Nat) s, (ds.map Sl.val ++ List.replicate k Sl.un)[i]? = some s → (∃ d, s = .val d ∧ ds[i]? = some d) ∨ s = .un := fun i s h => by
    rcases Nat.lt_or_ge i (ds.map Sl.val).length with hi | hi
    · rw [List.getElem?_append_left hi, List.getElem?_map] at h
      cases q : ds[i]? with
      | none => rw [q] at h; cases h
      | some d => rw [q] at h; cases h; exact Or.inl ⟨d, rfl, rfl⟩
    · rw [List.getElem?_append_right hi] at h
      exact Or.inr (List.eq_of_mem_replicate (List.mem_of_getElem? h))
  refine ⟨⟨e, ?_, fun i d h => ?_, fun i ds h => ?_, fun i j p es us h1 h2 => ?_, fun i c fs h => ?_⟩, Step.refl e, fun i es p h => ?_⟩
  · unfold L2.start
    rw [er]
    simp [hl, hd]
  · rcases low i _ h with ⟨d', q, hd'⟩ | q
    · cases q
      obtain ⟨u, hu, ru⟩ := r.get hd'
      refine ⟨u, ?_, ru⟩
      unfold L2.start
      have hi := (List.getElem?_eq_some_iff.mp hu).1
      rw [List.getElem?_append_left (by rw [List.length_map]; exact hi), List.getElem?_map, hu]
      rfl
    · cases q
  · rcases low i _ h with ⟨_, q, _⟩ | q <;> cases q
  · rcases low i _ h1 with ⟨_, q, _⟩ | q <;> cases q
  · rcases low i _ h with ⟨_, q, _⟩ | q <;> cases q
  · rcases low i _ h with ⟨_, q, _⟩ | q <;> cases q
abbrev WF (E : XK) : WX := fun cls d _ H => E cls d H
theorem ok_defV {x qual : Str} {st : Stmt} {f : Addr} {fd : FuncData} {N ps : List Str} {l n k : Nat} {b : SS} (F : Fun K x qual st f fd) (S : FnScope N ps (defScope st)) (hn : ps.length = n) (hN : N.length = n + k)
    (h : ∀ (cdv : Value) (A : Around) (outer : List PySem.Env) (s : Shared) (H : Hp) (E : XK), Room l (A.deeper (PyProof.Rows.envOfC qual (defScope st) s.heap.objs.size f cdv)) →
      ∃ t, PSs (cxOf (L2.CX P w) P w K mg base N qual (defScope st) f cdv A outer s H E) (defBody st) t ∧ ∀ xo, CS ⟨K, w, ad⟩ xo (WF E) t b) : FnOk P w K mg base (L2.CX P w) (l + 1) f fd ps (SpD ⟨K, w, ad⟩ (defV n k b)) := by
  refine F.okX S (fun vs H Q E h => ?_) (fun cdv A outer s H vs Q E hr hs => ?_)
  · obtain ⟨G, ds, e, r, o⟩ := h
    rw [hn, r.length]
    exact (out_if o).1
  · obtain ⟨t, ht, hc⟩ := h cdv A outer s H E hr
    obtain ⟨G, ds, e, r, o⟩ := hs
    obtain ⟨hd, o⟩ := out_if o
    have f0 := start_fit (xo := ⟨0, .none, none⟩) (C := ⟨K, w, ad⟩) e r hd hN
    refine ⟨t, ht, hc ⟨0, .none, none⟩ G H _ G H _ f0 _ ?_⟩
    cases c : b (ds.map .val ++ List.replicate k .un) with
    | rt s =>
      rw [c] at o
      cases s with
      | val d => exact o
      | own xs =>
        intro v G' H' st q
        obtain ⟨⟨p, vs, rfl, h1, h2, h3⟩, h4⟩ := q
        exact o (.ref p) _ H' (st.take h1 h2 (h4 p rfl)) (.lst upd_same (h3.mono (Ex.new h1)))
      | un => exact o.elim
      | exn _ _ => exact o.elim
    | nx e2 =>
      rw [c] at o
      exact fun σ G' H' e f' => o .non G' H' f'.s .non
    | exc q fs e2 =>
      rw [c] at o
      exact fun dd σ G' H' e f' x => o dd G' H' f'.s x
    | bk e2 => rw [c] at o; exact o.elim
    | ct e2 => rw [c] at o; exact o.elim
    | bad => rw [c] at o; exact o.elim
theorem ok_defL {x qual : Str} {st : Stmt} {f : Addr} {fd : FuncData} {N ps : List Str} {l n k : Nat} {b : SS} (F : Fun K x qual st f fd) (S : FnScope N ps (defScope st)) (hn : ps.length = n) (hN : N.length = n + k)
    (h : ∀ (cdv : Value) (A : Around) (outer : List PySem.Env) (s : Shared) (H : Hp) (E : XK), Room l (A.deeper (PyProof.Rows.envOfC qual (defScope st) s.heap.objs.size f cdv)) →
      ∃ t, PSs (cxOf (L2.CX P w) P w K mg base N qual (defScope st) f cdv A outer s H E) (defBody st) t ∧ ∀ xo, CS ⟨K, w, ad⟩ xo (WF E) t b) : FnOk P w K mg base (L2.CX P w) (l + 1) f fd ps (SpL ⟨K, w, ad⟩ (defL n k b)) := by
  refine F.okX S (fun vs H Q E h => ?_) (fun cdv A outer s H vs Q E hr hs => ?_)
  · obtain ⟨G, ds, e, r, o⟩ := h
    rw [hn, r.length]
    exact (out_if o).1
  · obtain ⟨t, ht, hc⟩ := h cdv A outer s H E hr
    obtain ⟨G, ds, e, r, o⟩ := hs
    obtain ⟨hd, o⟩ := out_if o
    have f0 := start_fit (xo := ⟨0, .none, none⟩) (C := ⟨K, w, ad⟩) e r hd hN
    refine ⟨t, ht, hc ⟨0, .none, none⟩ G H _ G H _ f0 _ ?_⟩
    cases c : b (ds.map .val ++ List.replicate k .un) with
    | rt s =>
      rw [c] at o
      cases s with
      | own xs => exact o
      | val d => exact o.elim
      | un => exact o.elim
      | exn _ _ => exact o.elim
    | exc q fs e2 =>
      rw [c] at o
      exact fun dd σ G' H' e f' x => o dd G' H' f'.s x
    | nx e2 => rw [c] at o; exact o.elim
    | bk e2 => rw [c] at o; exact o.elim
    | ct e2 => rw [c] at o; exact o.elim
    | bad => rw [c] at o; exact o.elim
/-! ### the law -/
def sp_law (K : PySem.W.Frag) : Sp := fun vs H Q _ => ∃ (a : Addr) (ns : List Int), vs = [.ref a] ∧ (SqL K H a (ns.map V.int) ∧ ns.length ≤ 63) ∧ ∀ H1, Q (.bl true) H1
theorem law_in {K : PySem.W.Frag} {H : Hp} {a : Addr} {ns : List Int} (hl : ns.length ≤ 63) (hS : SqL K H a (ns.map V.int)) : sp_law K [.ref a] H (fun v _ => v = .bl true) (fun _ _ _ => False) := ⟨a, ns, rfl, ⟨hS, hl⟩, fun _ => rfl⟩
theorem rep_ints {C : Cc} {G : Hp} : ∀ ns : List Int, RepL C.K C.w C.ad G (ns.map V.int) (ns.map D.int)
  | [] => .nil
  | n :: ns => .cons (.int n) (rep_ints ns)
theorem ok_law {x qual : Str} {st : Stmt} {f : Addr} {fd : FuncData} {N ps : List Str} {l k : Nat} {b : SS} (F : Fun K x qual st f fd) (S : FnScope N ps (defScope st)) (hn : ps.length = 1) (hN : N.length = 1 + k)
    (hm : ∀ ns : List Int, ns.length ≤ 63 → defV 1 k b [.scr (ns.map .int)] = .ok (.bl true))
    (h : ∀ (cdv : Value) (A : Around) (outer : List PySem.Env) (s : Shared) (H : Hp) (E : XK), Room l (A.deeper (PyProof.Rows.envOfC qual (defScope st) s.heap.objs.size f cdv)) →
      ∃ t, PSs (cxOf CX0 P w K mg base N qual (defScope st) f cdv A outer s H E).nox (defBody st) t ∧ ∀ xo, CS ⟨K, w, ad⟩ xo W0 t b) : FnOk P w K mg base CX0 (l + 1) f fd ps (sp_law K) := by
  refine F.ok S (fun vs H Q E h => ?_) (fun cdv A outer s H vs Q E hr hs => ?_)
  · obtain ⟨a, ns, rfl, _⟩ := h
    exact hn.symm
  · obtain ⟨t, ht, hc⟩ := h cdv A outer s H E hr
    obtain ⟨a, ns, rfl, ⟨hS, hl⟩, q⟩ := hs
    have e : Ex H H := Ex.refl H
    have m := hm ns hl
    have r : RepL K w ad H [.ref a] [.scr (ns.map D.int)] := .cons (.scr hS (rep_ints (C := ⟨K, w, ad⟩) ns)) .nil
    have f0 := start_fit (xo := ⟨0, .none, none⟩) (C := ⟨K, w, ad⟩) (n := 1) e r rfl hN
    refine ⟨t, ht, hc ⟨0, .none, none⟩ H H _ H H _ f0 _ ?_⟩
    unfold defV at m
    rw [if_pos (show [D.scr (List.map D.int ns)].length = 1 from rfl)] at m
    cases c : b ([D.scr (ns.map .int)].map .val ++ List.replicate k .un) with
    | rt s =>
      rw [c] at m
      cases s with
      | val d =>
        cases m
        intro v G' H' st r
        cases r
        exact q H'
      | own xs => cases m
      | un => cases m
      | exn _ _ => cases m
    | nx e2 => rw [c] at m; cases m
    | exc _ _ _ => rw [c] at m; cases m
    | bk _ => rw [c] at m; cases m
    | ct _ => rw [c] at m; cases m
    | bad => rw [c] at m; cases m
end
end Dm
set_option Elab.async false
set_option linter.all false
set_option maxRecDepth 100000
set_option maxHeartbeats 4000000
namespace Dm
open PySem L2 Evl RZ Wm
section
variable {C : Cc} {xo : Xo} {W : WX} {G H G' H' G0 H0 : Hp} {σ : L2.St} {env : Env} {E : XK}
/-! a list of one's own, looked at while it grows -/
theorem ce_lenO {i : Nat} : CE C xo W (tCB (rLenX C.K) (tCons (tVar i) tNil)) (eLenO i) := fun σ G H env ft Q o => by
  unfold eLenO at o
  cases c : env[i]? with
  | none => rw [c] at o; exact o.elim
  | some s =>
    rw [c] at o
    cases s with
    | own xs =>
      obtain ⟨p, vs, h1, h2, h3, h4⟩ := ft.own i xs c
      refine ⟨.ref p, h1, Or.inr ⟨p, vs, rfl, Or.inl (sq_of h3), ?_⟩⟩
      rw [h4.length]
      exact o _ G H (Step.refl ft.ex) (.int _)
    | un => exact o.elim
    | val _ => exact o.elim
    | exn _ _ => exact o.elim
theorem ce_ixO {i : Nat} {tb : TE} {b : SE} (h : CE C xo W tb b) : CE C xo W (tOp (rIxX C.K C.w) (tVar i) tb) (eIxO i b) := fun σ G H env ft Q o => by
  unfold eIxO at o
  cases c : env[i]? with
  | none => rw [c] at o; exact o.elim
  | some s =>
    rw [c] at o
    cases s with
    | own xs =>
      obtain ⟨p, vs, h1, h2, h3, h4⟩ := ft.own i xs c
      refine ⟨.ref p, h1, h σ G H env ft _ (Out.bind o fun d v G1 H1 _ s1 r1 o1 => ?_)⟩
      cases r1 with
      | int k =>
        dsimp only at o1
        cases ck : L2.atI xs k with
        | none => rw [ck] at o1; exact o1.elim
        | some d =>
          rw [ck] at o1
          obtain ⟨u, hu, ru⟩ := h4.atI ck
          exact Or.inl (Or.inl ⟨p, vs, k, u, rfl, rfl, sq_of (s1.h _ _ h3), hu, o1 _ G1 H1 (Step.refl s1.gh) (ru.mono s1.g)⟩)
      | _ => exact o1.elim
    | un => exact o.elim
    | val _ => exact o.elim
    | exn _ _ => exact o.elim
end
/-! x += e -/
theorem pip_of {X : Cx} {op : Operator} {r : R2} (ho : OpR X (inplaceOp op) r) : PIp X op r := fun pins s σ H x y v u Q I rx ry h => augR ho I rx ry h
def rAddX : R2 := fun x y H Q => rI0 (fun i j => .int (i + j)) x y H Q ∨ ((fun (x y : V) H Q => ∃ i j, x = .str i ∧ y = .str j ∧ i.length + j.length ≤ sizeLine ∧ Q (V.str (i ++ j)) H) : R2) x y H Q
theorem ip_addX {X : Cx} : PIp X .Add rAddX := pip_of (iop_add.or iop_add_str)
theorem od_addX {C : Cc} : OpD C rAddX dAddX := by
  intro G H x y dx dy e rx ry E Q o
  cases rx with
  | int i => cases ry with
    | int j => exact Or.inl ⟨i, j, rfl, rfl, o _ G H (Step.refl e) (.int _)⟩
    | _ => exact False.elim o
  | str a => cases ry with
    | str b =>
      obtain ⟨hz, o⟩ := out_ifE (p := a.length + b.length ≤ Z) o
      exact Or.inr ⟨a, b, rfl, rfl, sz_of hz, o _ G H (Step.refl e) (.str _)⟩
    | _ => exact False.elim o
  | _ => exact False.elim o
theorem ip_subX {X : Cx} : PIp X .Sub (rI0 fun i j => .int (i - j)) := pip_of iop_sub
/-! exceptions with fields -/
structure ExN (K : PySem.W.Frag) (mg : Str → Option Value) (x : Str) (C I : Addr) (nm : List Str) : Prop where
  g : mg x = some (.ref C)
  o : OexC K C
  i : PySem.W.findIn K (.ref C) "__init__" = some (some (.ref I))
  t : PySem.W.typeIn K (.ref I) = some (.type "function")
  n : ∀ f, f ∈ nm → PySem.W.findIn K (.ref C) f = some none
  xf : XfC K C
structure InitN (P : Program) (w : World) (K : PySem.W.Frag) (mg : Str → Option Value) (base : Heap) (a : Addr) (fd : FuncData) (ps nm : List Str) : Prop where
  ok : FnOk P w K mg base CX0 1 a fd ps (sp_initN K nm)
  b : Binds K fd ps []
theorem initN_len {K : PySem.W.Frag} {nm : List Str} {vs : List V} {H : Hp} {Q : VK} {E : XK} (h : sp_initN K nm vs H Q E) : vs.length = nm.length + 1 := by
  obtain ⟨a, C, ys, rfl, h2, _⟩ := h
  rw [List.length_cons, h2]
theorem init1 {K : PySem.W.Frag} {f : Str} {vs : List V} {H : Hp} {Q : VK} {E : XK} (h : sp_initN K [f] vs H Q E) : tSeq (tOst K f (tVar 0) (tVar 1)) tNext { nx := fun _ H' => Q .non H', rt := Q } (L2.start ["self", f] vs) H := by
  obtain ⟨a, C, ys, rfl, hl, ⟨T, hf, ha⟩, q⟩ := h
  match ys, hl with
  | [y], _ => exact ⟨_, rfl, _, rfl, a, C, rfl, T, hf f (List.mem_singleton.mpr rfl), Or.inl ⟨ha, fun dx h1 h2 => q dx h1 h2⟩⟩
theorem upd_swap {H : Hp} {a b : Addr} {o u : HO} (h : a ≠ b) : upd (upd H a o) b u = upd (upd H b u) a o := by
  funext c
  unfold upd
  by_cases h1 : c = b
  · subst h1
    rw [if_pos rfl, if_neg (Ne.symm h), if_pos rfl]
  · rw [if_neg h1]
    by_cases h2 : c = a
    · subst h2
      rw [if_pos rfl, if_pos rfl]
    · rw [if_neg h2, if_neg h2, if_neg h1]
theorem ost_fold {H : Hp} {a dx C : Addr} {f1 f2 : List (Str × V)} (h : dx ≠ a) : upd (upd (upd H dx (exd dx f1)) a (exo a C (some dx))) dx (exd dx f2) = upd (upd H dx (exd dx f2)) a (exo a C (some dx)) := by
  rw [upd_swap h, upd_upd, ← upd_swap h]
theorem init2 {K : PySem.W.Frag} {f g : Str} {vs : List V} {H : Hp} {Q : VK} {E : XK} (h : sp_initN K [f, g] vs H Q E) : tSeq (tOst K f (tVar 0) (tVar 1)) (tSeq (tOst K g (tVar 0) (tVar 2)) tNext) { nx := fun _ H' => Q .non H', rt := Q } (L2.start ["self", f, g] vs) H := by
  obtain ⟨a, C, ys, rfl, hl, ⟨T, hf, ha⟩, q⟩ := h
  match ys, hl with
  | [y, z], _ =>
    refine ⟨_, rfl, _, rfl, a, C, rfl, T, hf f List.mem_cons_self, Or.inl ⟨ha, fun dx h1 h2 => ?_⟩⟩
    refine ⟨_, rfl, _, rfl, a, C, rfl, T, hf g (List.mem_cons_of_mem _ List.mem_cons_self), Or.inr ⟨dx, [(f, y)], upd_same, by rw [upd_ne h2]; exact upd_same, Nat.le_of_ble_eq_true rfl, ?_⟩⟩
    rw [ost_fold h2]
    exact q dx h1 h2
theorem init3 {K : PySem.W.Frag} {f g k : Str} {vs : List V} {H : Hp} {Q : VK} {E : XK} (h : sp_initN K [f, g, k] vs H Q E) :
    tSeq (tOst K f (tVar 0) (tVar 1)) (tSeq (tOst K g (tVar 0) (tVar 2)) (tSeq (tOst K k (tVar 0) (tVar 3)) tNext)) { nx := fun _ H' => Q .non H', rt := Q } (L2.start ["self", f, g, k] vs) H := by
  obtain ⟨a, C, ys, rfl, hl, ⟨T, hf, ha⟩, q⟩ := h
  match ys, hl with
  | [y, z, u], _ =>
    refine ⟨_, rfl, _, rfl, a, C, rfl, T, hf f List.mem_cons_self, Or.inl ⟨ha, fun dx h1 h2 => ?_⟩⟩
    refine ⟨_, rfl, _, rfl, a, C, rfl, T, hf g (List.mem_cons_of_mem _ List.mem_cons_self), Or.inr ⟨dx, [(f, y)], upd_same, by rw [upd_ne h2]; exact upd_same, Nat.le_of_ble_eq_true rfl, ?_⟩⟩
    rw [ost_fold h2]
    refine ⟨_, rfl, _, rfl, a, C, rfl, T, hf k (List.mem_cons_of_mem _ (List.mem_cons_of_mem _ List.mem_cons_self)), Or.inr ⟨dx, [(g, z), (f, y)], upd_same, by rw [upd_ne h2]; exact upd_same, Nat.le_of_ble_eq_true rfl, ?_⟩⟩
    rw [ost_fold h2]
    exact q dx h1 h2
/-! constants of the module, seen in its objects -/
def allP {α β : Type} (f : α → β → Bool) : List α → List β → Bool
  | [], [] => true
  | u :: us, d :: ds => f u d && allP f us ds
  | _, _ => false
def isDv (K : PySem.W.Frag) (fns : List (Nat × Addr)) (f : List Value → List D → Bool) : Value → D → Bool
  | .none, .non => true
  | .bool a, .bl b => a == b
  | .int i _, .int j => decide (i = j)
  | .str i _, .str j => decide (i = j)
  | .ref a, .fn k => match fns.lookup k with
    | some b => Nat.beq a b
    | none => false
  | .ref a, .tup ds => match K.lookup a with
    | some ⟨.type c, _, .seq its _, _⟩ => c == "tuple" && Nat.ble its.size 100000 && f its.toList ds
    | _ => false
  | .ref a, .ktp ds => match K.lookup a with
    | some ⟨.type c, none, .seq its _, _⟩ => c == "tuple" && Nat.ble its.size 100000 && f its.toList ds
    | _ => false
  | .ref a, .scr ds => match K.lookup a with
    | some ⟨.type c, none, .seq its _, _⟩ => c == "list" && Nat.ble its.size 100000 && f its.toList ds
    | _ => false
  | _, _ => false
def isD (K : PySem.W.Frag) (fns : List (Nat × Addr)) : Nat → Value → D → Bool
  | 0 => fun _ _ => false
  | n + 1 => isDv K fns (allP (isD K fns n))
section
variable {K : PySem.W.Frag} {w : World} {ad : Nat → Addr} {fns : List (Nat × Addr)}
theorem allP_ok {f : Value → D → Bool} (h : ∀ u d, f u d = true → ∃ v, RelV v u ∧ ∀ G, Rep K w ad G v d) : ∀ (us : List Value) (ds : List D), allP f us ds = true → ∃ vs, Vals vs us ∧ ∀ G, RepL K w ad G vs ds
  | [], [], _ => ⟨[], .nil, fun _ => .nil⟩
  | u :: us, d :: ds, q => by
    unfold allP at q
    rw [Bool.and_eq_true] at q
    obtain ⟨v, r1, q1⟩ := h u d q.1
    obtain ⟨vs, r2, q2⟩ := allP_ok h us ds q.2
    exact ⟨v :: vs, .cons r1 r2, fun G => .cons (q1 G) (q2 G)⟩
  | [], _ :: _, q => by unfold allP at q; cases q
  | _ :: _, [], q => by unfold allP at q; cases q
theorem isDv_ok (hf : ∀ k b, fns.lookup k = some b → ad k = b) {f : List Value → List D → Bool} (hl : ∀ us ds, f us ds = true → ∃ vs, Vals vs us ∧ ∀ G, RepL K w ad G vs ds) : ∀ (u : Value) (d : D), isDv K fns f u d = true → ∃ v, RelV v u ∧ ∀ G, Rep K w ad G v d := by
  intro u d h
  unfold isDv at h
  split at h
  · exact ⟨.non, rfl, fun _ => .non⟩
  · rename_i a b
    obtain rfl : a = b := beq_iff_eq.mp h
    exact ⟨.bl a, rfl, fun _ => .bl a⟩
  · rename_i i _ j
    obtain rfl : i = j := of_decide_eq_true h
    exact ⟨.int i, ⟨_, rfl⟩, fun _ => .int i⟩
  · rename_i i _ j
    obtain rfl : i = j := of_decide_eq_true h
    exact ⟨.str i, ⟨_, rfl⟩, fun _ => .str i⟩
  · rename_i a k
    split at h
    · rename_i b hb
      have e : a = b := Nat.eq_of_beq_eq_true h
      subst e
      rw [← hf k a hb]
      exact ⟨.ref (ad k), rfl, fun _ => .fn k⟩
    · cases h
  · rename_i a ds
    split at h
    · rename_i c dd its z sl hk
      simp only [Bool.and_eq_true] at h
      obtain ⟨⟨h1, h2⟩, h3⟩ := h
      have e : c = "tuple" := eq_of_beq h1
      subst e
      obtain ⟨vs, r, q⟩ := hl its.toList ds h3
      exact ⟨.ref a, rfl, fun G => .tup (Or.inr ⟨_, its, z, hk, rfl, rfl, Nat.le_trans (Nat.le_of_ble_eq_true h2) (by decide), r⟩) (q G)⟩
    · cases h
  · rename_i a ds
    split at h
    · rename_i c its z sl hk
      simp only [Bool.and_eq_true] at h
      obtain ⟨⟨h1, h2⟩, h3⟩ := h
      have e : c = "tuple" := eq_of_beq h1
      subst e
      obtain ⟨vs, r, q⟩ := hl its.toList ds h3
      exact ⟨.ref a, rfl, fun G => .ktp (Or.inr ⟨_, its, z, hk, rfl, rfl, Nat.le_trans (Nat.le_of_ble_eq_true h2) (by decide), r⟩) ⟨_, hk, rfl, rfl⟩ (q G)⟩
    · cases h
  · rename_i a ds
    split at h
    · rename_i c its z sl hk
      simp only [Bool.and_eq_true] at h
      obtain ⟨⟨h1, h2⟩, h3⟩ := h
      have e : c = "list" := eq_of_beq h1
      subst e
      obtain ⟨vs, r, q⟩ := hl its.toList ds h3
      exact ⟨.ref a, rfl, fun G => .scr (Or.inr ⟨_, its, z, hk, rfl, rfl, rfl, Nat.le_trans (Nat.le_of_ble_eq_true h2) (by decide), r⟩) (q G)⟩
    · cases h
  · cases h
theorem isD_ok (hf : ∀ k b, fns.lookup k = some b → ad k = b) : ∀ (n : Nat) (u : Value) (d : D), isD K fns n u d = true → ∃ v, RelV v u ∧ ∀ G, Rep K w ad G v d
  | 0, _, _, h => by cases h
  | n + 1, u, d, h => isDv_ok hf (allP_ok (isD_ok hf n)) u d h
theorem isD_rep {mg : Str → Option Value} {x : Str} {n : Nat} {u : Value} {d : D} (hf : ∀ k b, fns.lookup k = some b → ad k = b) (hm : mg x = some u) (h : isD K fns n u d = true) : ∃ v u, mg x = some u ∧ RelV v u ∧ ∀ G, Rep K w ad G v d := by
  obtain ⟨v, r, q⟩ := isD_ok (w := w) hf n u d h
  exact ⟨v, u, hm, r, q⟩
/-- a written dict with text keys -/
theorem dct_rep {mg : Str → Option Value} {x : Str} {a : Addr} {es : Array DictEntry} {n : Nat} {ks : List Str} {vs : List V} {ds : List D} (hm : mg x = some (.ref a)) (hk : K.lookup a = some ⟨.type "dict", none, .dict es n, #[]⟩) (he : EntsK w.params (ks.zip vs) es.toList) (hl : (a == sysModules) = false)
    (hz : ks.length = vs.length) (r : ∀ G, RepL K w ad G vs ds) : ∃ v u, mg x = some u ∧ RelV v u ∧ ∀ G, Rep K w ad G v (.dct ks ds) :=
  ⟨.ref a, .ref a, hm, rfl, fun G => .dct hz ⟨⟨es, n, hk, he⟩, hl⟩ (r G)⟩
end
end Dm
set_option Elab.async false
set_option linter.all false
set_option maxRecDepth 100000
set_option maxHeartbeats 4000000
namespace Dm
open PySem L2 Evl RZ Wm
/-! exceptions without fields -/
structure Ex0 (K : PySem.W.Frag) (mg : Str → Option Value) (x : Str) (C : Addr) : Prop where
  g : mg x = some (.ref C)
  q : ∃ B newId initId bmB, ExcBaseFacts B newId initId bmB ∧ PySem.W.excIn K C bmB newId = true
  k : PySem.W.keepIn K (.ref C) = true
  s : PySem.W.subIn K (.ref C) (.type "BaseException") = some true
  t : PySem.W.typeIn K (.ref C) = some (.type "type")
theorem pmk_ex0 {X : Cx} {C : Addr} {x : Str} {p pos : Pos} (T : Ex0 X.K X.mg x C) (hg : Gl X x) (hdb : (x == ("__debug__" : Str)) = false := by decide) : PMk X (.Call (.Name x p) [] [] pos) (fun _ H Q => Q (.ref C) none H) := by
  intro pins s σ H Q I h
  obtain ⟨B, newId, initId, bmB, F, q⟩ := T.q
  have r : Raises X (.ref C) := fun M h XX => ⟨PySem.W.looks_subIn XX T.s, PySem.W.looks_typeIn XX T.t⟩
  refine wpAny_Call_Name_kw (ld_glob I hg T.g ?_ hdb)
  refine PySem.W.callWith_K0 I.kIn T.k ?_
  show wpAny _ _ (call (.ref C) []) _ _ _
  obtain ⟨bm, N, nm, qn, bs, hdct, sn, sub, ab, col, dd, k0, k1, k2, k3, k5, mN, hC, hN, hni, TT⟩ := exc_obj I.kIn q
  refine wpAny_call_exc_subT F TT hC hN hni (fun h' e hm => ?_) (by show 0 ≤ sizeLine; rw [sizeLine_eq]; omega)
  exact mk_of I hm r h (I.hok.gone hm.new)
section
variable {C : Cc} {xo : Xo} {W : WX} {G H G' H' G0 H0 : Hp} {σ : L2.St} {env : Env} {E : XK}
theorem cs_raise0 {c : Nat} : CS C xo W (fun _ σ H => W (.ref (C.ad c)) none σ H) (sRaise c [] eNil) := fun G0 H0 σ G H env f D o => by
  have o1 : OutS C xo W G0 H0 G D (.exc c [] env) := o
  exact o1 none σ G H (Ex.refl G) f rfl
end
theorem passN {X : Cx} : Passes (L2.CX X.prog X.w) X E0 := fun _ _ _ _ _ _ _ h => by
  obtain ⟨_, _, _, _, _, _, _, _, _, _, _, _, h⟩ := h
  exact h.elim
theorem cl0X {X : Cx} {k : Nat} {x : Str} {a : Addr} {fd : FuncData} {ps : List Str} {sp : Sp} {p pos : Pos} (O : DfX X.prog X.w X.K X.mg X.base k x a fd ps sp) (hr : Room k X.A) (hg : Gl X x) (hdb : (x == ("__debug__" : Str)) = false := by decide) : PE X (.Call (.Name x p) [] [] pos) (tCall sp [] E0 tNil) :=
  pe_call0 O.ok hr hg O.g O.kp O.b .nil passN hdb
theorem rep_fn {K : PySem.W.Frag} {w : World} {ad : Nat → Addr} {H : Hp} (n : Nat) {f : Addr} (h : ad n = f) : Rep K w ad H (.ref f) (.fn n) := by
  subst h
  exact .fn n
/-! a call of a local name -/
theorem pe_callRS {X : Cx} {k i : Nat} {x : Str} {p pos : Pos} {e : Expr} {es : List Expr} {t : TA} {E : L2.St → XK} {S : Addr → Sp → Prop} (A : ∀ f sp, S f sp → HeldX X.prog X.w X.K X.mg X.base k f sp) (hr : Room k X.A) (hN : X.N[i]? = some x) (hv : Vis X.env.scope x) (hx : ∀ σ, PassesAt (L2.CX X.prog X.w) X σ (E σ)) (ha : PA X (e :: es) t)
    (hdb : (x == ("__debug__" : Str)) = false := by decide) (hcd : (x == ("__classdict__" : Str)) = false := by decide)
    (he : starEach (e :: es) X.env = (false, eval e X.env) :: starEach es X.env := by rfl) (hpl : (backTo pos (starEach es X.env)).any (·.1) = false := by rfl) : PE X (.Call (.Name x p) (e :: es) [] pos) (tCallRS i S E t) := by
  refine ⟨fun pins s σ H Q I h => ?_⟩
  obtain ⟨f, sp, hs, hS, ht⟩ := h
  obtain ⟨fd, ps, F, hk, hb⟩ := (A f sp hS).ex
  refine wpAny_Call_Name_kw (thn ((pe_var (pos := p) hN hv hdb hcd).run pins s σ H (fun v H1 => v = .ref f ∧ H1 = H) I ⟨.ref f, hs, rfl, rfl⟩) fun u s1 ⟨v, H1, I1, r1, q1⟩ => ?_)
  obtain ⟨rfl, rfl⟩ := q1
  cases r1
  refine PySem.W.callWith_K (h₀ := X.base) I.ok.mod.kin hk (thn (ha.run pos pins s1 σ _ _ I1 ht) fun us s2 ⟨vs, H2, I2, r, q⟩ => ⟨I2.kIn, ?_⟩) he hpl
  exact run_fnS F hr hb (hx σ) I2 r q
/-! isinstance of the exception in the hand -/
structure IsC (K : PySem.W.Frag) (D : Addr) : Prop where
  hg : PySem.W.findIn K (.ref D) "__getattribute__" = some (some (.builtin "BaseException.__getattribute__"))
  hk : PySem.W.findIn K (.ref D) "__getattr__" = some none
  hs : PySem.W.subIn K (.ref D) (.type "BaseException") = some true
  hc : (PySem.W.clsIn K D).isSome = true
  ha : PySem.W.findIn K (.ref D) "__class__" = some (some (.builtin "object.__class__"))
  hn : PySem.W.specialIn K (.builtin "object.__class__") "__get__" = some (some (.builtin "getset_descriptor.__get__"))
  ht : PySem.W.takesIn K (.builtin "object.__class__") = some true
  hm : PySem.W.mroIn K D (.type "object") = some true
theorem clsSome {K : PySem.W.Frag} {D : Addr} (h : PySem.W.hasDictIn K D = true) : (PySem.W.clsIn K D).isSome = true := by
  obtain ⟨cd, hc, _⟩ := PySem.W.any_some h
  rw [hc]
  rfl
/-- isinstance(e, c), e the exception that the suite holds, c a class of the text or a built-in one -/
def rIsX (K : PySem.W.Frag) (cls : Value) (d : Option Addr) (a : Addr) : List V → Hp → VK → Prop := fun xs H Q => ∃ (D : Addr) (c : V) (cv : Value) (b : Bool), cls = .ref D ∧ IsC K D ∧ xs = [.ref a, c] ∧ ClsV c cv ∧ PySem.W.kitOne K (.ref D) cv = some b ∧ (d = none ∨ ∃ q fs, d = some q ∧ H q = some (.xd fs)) ∧ Q (.bl b) H
theorem call_isX {X : Cx} {a : Addr} {cls : Value} {d : Option Addr} {oe : Obj} {pn : List (Addr × Obj)} (hz : Zc cls d oe) (hf : ∃ vs, oe.data = .fields vs) : CallR (X.suite a ((a, oe) :: pn)) (.builtin "isinstance") (rIsX X.K cls d a) := by
  intro pins s σ H xs us Q I r h
  obtain ⟨D, c, cv, b, rfl, CC, rfl, k, e, hd, q⟩ := h
  obtain ⟨u1, u2, rfl, r1, r2⟩ := vals2 r
  cases r1
  have ec := k.eq r2
  subst ec
  obtain ⟨hget, _⟩ := I.pin (a, oe) (List.mem_append.mpr (.inl List.mem_cons_self))
  obtain ⟨vs, hv⟩ := hf
  obtain ⟨od, J⟩ : ∃ od, PySem.W.InstAt s.heap a oe D od := by
    obtain ⟨oc, odd, oda, osl⟩ := oe
    obtain ⟨h1, h2⟩ := hz
    dsimp only at h1 h2 hv
    subst h1 h2 hv
    rcases hd with rfl | ⟨p, fs, rfl, hp⟩
    · exact ⟨none, hget, rfl, rfl, trivial⟩
    · obtain ⟨o, ho⟩ := objOk_get (I.hok p _ hp)
      exact ⟨some o, hget, rfl, rfl, ho⟩
  exact PySem.W.kia_one (PySem.W.kitx_exc CC.hc CC.hg CC.hk CC.hs CC.ha CC.hn CC.ht CC.hm) I.kIn J e (fun z => nomatch z) fun tk => ⟨.bl b, H, I.kept (t' := tk) fun _ _ z => z, rfl, q⟩
/-- isinstance(e, ..): what the table says of e's class -/
def eIsx (i : Nat) (tab : Nat → Option Bool) : SE := fun env => match env[i]? with
  | some (.exn c _) => match tab c with
    | some b => .ok (.bl b)
    | none => .bad
  | _ => .bad
section
variable {C : Cc} {xo : Xo} {W : WX} {G H G' H' G0 H0 : Hp} {σ : L2.St} {env : Env} {E : XK}
theorem ce_isx {i : Nat} {tab : Nat → Option Bool} {c : V} {cv : Value} (k : ClsV c cv) (ht : ∀ m b, tab m = some b → IsC C.K (C.ad m) ∧ PySem.W.kitOne C.K (.ref (C.ad m)) cv = some b) :
    CE C xo W (tCB (rIsX C.K xo.cls xo.d xo.a) (tCons (tVar i) (tCons (tC c) tNil))) (eIsx i tab) := fun σ G H env ft Q o => by
  unfold eIsx at o
  cases c1 : env[i]? with
  | none => rw [c1] at o; exact o.elim
  | some s =>
    rw [c1] at o
    cases s with
    | exn c2 fs =>
      obtain ⟨h1, h2, h3⟩ := ft.exn i c2 fs c1
      dsimp only at o
      cases hb : tab c2 with
      | none => rw [hb] at o; exact o.elim
      | some b =>
        rw [hb] at o
        obtain ⟨t1, t2⟩ := ht c2 b hb
        refine ⟨_, h1, ?_⟩
        refine ⟨_, c, cv, b, h2, t1, rfl, k, t2, ?_, o _ G H (Step.refl ft.ex) (.bl _)⟩
        cases fs with
        | nil => exact Or.inl h3
        | cons f fs =>
          obtain ⟨q, vfs, k1, k2, _⟩ := h3
          exact Or.inr ⟨q, vfs, k1, ft.ex _ _ k2⟩
    | un => exact o.elim
    | val _ => exact o.elim
    | own _ => exact o.elim
end
/-! int(a text of digits) -/
def fIntS : List D → R D
  | [.str a] => match PySem.intText? a with
    | some n => if a.length ≤ 640 then .ok (.int n) else .bad
    | none => .bad
  | _ => .bad
def rIntS : List V → Hp → VK → Prop := fun xs H Q => ∃ a n, xs = [.str a] ∧ PySem.intText? a = some n ∧ a.length ≤ 640 ∧ Q (.int n) H
theorem call_intS {X : Cx} : CallR X (.type "int") rIntS := call_int_str
section
variable {C : Cc}
theorem cd_intS : CallD C rIntS fIntS := by
  intro G H vs ds e r E Q o
  cases r with
  | nil => exact False.elim o
  | cons h r =>
    cases r with
    | cons _ _ => cases h <;> exact False.elim o
    | nil =>
      cases h with
      | str a =>
        have o2 : Out C (rV C) E G H Q (match PySem.intText? a with
          | some n => if a.length ≤ 640 then .ok (.int n) else .bad
          | none => .bad) := o
        cases c : PySem.intText? a with
        | none => rw [c] at o2; exact o2.elim
        | some n =>
          rw [c] at o2
          obtain ⟨hz, o2⟩ := out_ifE o2
          exact ⟨a, n, rfl, c, hz, o2 _ G H (Step.refl e) (.int _)⟩
      | _ => exact False.elim o
end
/-! xs.index(y) of a list of flat data, where it is -/
def idxD (y : D) : List D → Option Nat
  | [] => none
  | x :: xs => if x.eqv y = true then some 0 else (idxD y xs).map (· + 1)
def lIdx (xs : List D) : List D → R D
  | [y] => if flatD y = true ∧ xs.all flatD = true then (match idxD y xs with | some j => .ok (.int (j : Nat)) | none => .bad) else .bad
  | _ => .bad
def mLIndex : D → List D → R D
  | .lst xs, ds | .scr xs, ds => lIdx xs ds
  | _, _ => .bad
section
variable {C : Cc} {xo : Xo} {W : WX} {G H G' H' G0 H0 : Hp} {σ : L2.St} {env : Env} {E : XK}
theorem idx_V {y : D} {u : V} (hy : Rep C.K C.w C.ad G u y) (fy : flatD y = true) : ∀ {vs : List V} {xs : List D} {j : Nat}, RepL C.K C.w C.ad G vs xs → xs.all flatD = true → idxD y xs = some j → ∃ z, vs[j]? = some z ∧ eqV z u = true ∧ ∀ m z', m < j → vs[m]? = some z' → eqV z' u = false
  | _, _, _, .nil, _, h => by cases h
  | _, _, j, .cons (v := v) (d := d) hv r, q, h => by
    rw [List.all_cons, Bool.and_eq_true] at q
    unfold idxD at h
    have e := eqV_D hv hy q.1 fy
    by_cases c : d.eqv y = true
    · rw [if_pos c] at h
      cases h
      exact ⟨v, rfl, by rw [e]; exact c, fun m z' hm => absurd hm (Nat.not_lt_zero m)⟩
    · rw [if_neg c] at h
      cases c2 : idxD y _ with
      | none => rw [c2] at h; cases h
      | some i =>
        rw [c2] at h
        cases h
        obtain ⟨z, h1, h2, h3⟩ := idx_V hy fy r q.2 c2
        refine ⟨z, h1, h2, fun m z' hm hz => ?_⟩
        cases m with
        | zero =>
          cases hz
          rw [e]
          exact Bool.eq_false_iff.mpr c
        | succ m => exact h3 m z' (Nat.lt_of_succ_lt_succ hm) hz
theorem md_lindex : MetD C (rIndex C.K) mLIndex := by
  intro G H x vs dx ds e rx r E Q o
  have fin : ∀ {p : Addr} {ws : List V} {xs : List D}, SqL C.K H p ws → RepL C.K C.w C.ad G ws xs → Out C (rV C) E G H Q (lIdx xs ds) → rIndex C.K (.ref p) vs H Q := fun {p ws xs} hs rr o2 => by
    cases r with
    | nil => exact False.elim o2
    | cons h r =>
      cases r with
      | cons _ _ => exact False.elim o2
      | nil =>
        unfold lIdx at o2
        obtain ⟨hz, o2⟩ := out_if o2
        cases c : idxD _ xs with
        | none => rw [c] at o2; exact o2.elim
        | some j =>
          rw [c] at o2
          obtain ⟨z, h1, h2, h3⟩ := idx_V h hz.1 rr hz.2 c
          exact ⟨p, ws, _, j, z, rfl, rfl, hs, flat_V h hz.1, flat_all rr hz.2, h1, h2, h3, o2 _ G H (Step.refl e) (.int _)⟩
  cases rx with
  | lst h r1 => exact fin (sq_of (e _ _ h)) r1 o
  | scr h r1 => exact fin (ex_l e h) r1 o
  | _ => exact False.elim o
end
/-! sorted(texts) -/
def leS (a b : Str) : Bool := decide (a.cps.toList ≤ b.cps.toList)
theorem leS_trans (a b c : Str) (h1 : leS a b = true) (h2 : leS b c = true) : leS a c = true := decide_eq_true (List.le_trans (of_decide_eq_true h1) (of_decide_eq_true h2))
theorem leS_total (a b : Str) : (leS a b || leS b a) = true := by
  rcases List.le_total a.cps.toList b.cps.toList with h | h
  · rw [show leS a b = true from decide_eq_true h] <;> rfl
  · rw [show leS b a = true from decide_eq_true h, Bool.or_true]
theorem leS_anti {a b : Str} (h1 : leS a b = true) (h2 : leS b a = true) : a = b := by
  have h := List.le_antisymm (of_decide_eq_true h1) (of_decide_eq_true h2)
  have h := Array.toList_inj.mp h
  cases a
  cases b
  exact congrArg Str.mk h
def srt (zs : List Str) : List Str := zs.mergeSort leS
theorem rising_le : ∀ (l : List Str) (p : Str), PyProof.Rows.risingS p l = true → (p :: l).Pairwise fun a b => leS a b = true
  | [], p, _ => List.pairwise_singleton _ _
  | x :: r, p, h => by
    have h' : (!PySem.Spec.ltCps x.cps.toList p.cps.toList && PyProof.Rows.risingS x r) = true := h
    rw [Bool.and_eq_true] at h'
    have ih := rising_le r x h'.2
    have hx : leS p x = true := by
      have q := h'.1
      rw [PyProof.Rows.ltCps_eq] at q
      refine decide_eq_true ?_
      rw [Bool.not_eq_eq_eq_not, Bool.not_true, decide_eq_false_iff_not] at q
      exact List.not_lt.mp q
    refine List.pairwise_cons.mpr ⟨fun y hy => ?_, ih⟩
    rcases List.mem_cons.mp hy with rfl | hy
    · exact hx
    · exact leS_trans _ _ _ hx ((List.pairwise_cons.mp ih).1 y hy)
theorem sorted_le {l : List Str} (h : PyProof.Rows.sortedS l = true) : l.Pairwise fun a b => leS a b = true := by
  cases l with
  | nil => exact List.Pairwise.nil
  | cons x r => exact rising_le r x h
theorem srt_of {ys zs : List Str} (hp : ys.Perm zs) (h : PyProof.Rows.sortedS ys = true) : ys = srt zs :=
  List.Perm.eq_of_pairwise (fun a b _ _ h1 h2 => leS_anti h1 h2) (sorted_le h) (List.pairwise_mergeSort leS_trans leS_total zs) (hp.trans (List.mergeSort_perm zs leS).symm)
/-- two rows of the same texts, sorted -/
theorem srt_perm {ys zs : List Str} (hp : ys.Perm zs) : srt ys = srt zs :=
  List.Perm.eq_of_pairwise (fun a b _ _ h1 h2 => leS_anti h1 h2) (List.pairwise_mergeSort leS_trans leS_total ys) (List.pairwise_mergeSort leS_trans leS_total zs) ((List.mergeSort_perm ys leS).trans (hp.trans (List.mergeSort_perm zs leS).symm))
def lSort : List D → R (List D)
  | [.lst xs] | [.scr xs] => match strsOf xs with
    | some zs => .ok ((srt zs).map .str)
    | none => .bad
  | _ => .bad
def rSortedSA (K : PySem.W.Frag) : List V → Hp → VK → Prop := fun vs H Q => ∃ (a : Addr) (xs : List Str), vs = [V.ref a] ∧ SqL K H a (xs.map V.str) ∧ ∀ p : Addr, H p = none → Q (.ref p) (upd H p (.lst ((srt xs).map V.str)))
theorem cr_sortedSA {X : Cx} : CallR X (.builtin "sorted") (rSortedSA X.K) := by
  intro pins s σ H vs us Q I r h
  obtain ⟨a, xs, rfl, hs, q⟩ := h
  obtain ⟨its, rv, hl, hz⟩ := I.list hs
  rw [Vals.ref1 r]
  have hlen0 := rv.length
  refine PyProof.Rows.sorted_strsAny hl.isList rv.strs (by rw [← hlen0]; exact hz) fun out ys h1 h2 h3 => ?_
  obtain ⟨ep, he'⟩ := PyProof.Rows.sortedAll_at s.heap its out
  rw [List.length_map] at hz
  have hlen : (ys.map V.str).length ≤ sizeLine := by rw [List.length_map, h2.length_eq]; exact hz
  have e := srt_of h2 h3
  refine ⟨.ref _, upd H (s.heap.objs.size + 1) (.lst (ys.map V.str)), I.laid (t' := s.toks) (fun _ _ => PyProof.Rows.sortedAll_old) (Nat.le_succ _) ⟨hlen, out.toList, ep, vals_of_strs h1, he'⟩, rfl, ?_⟩
  rw [e]
  exact q _ (I.hok.fresh (Nat.le_succ _))
theorem rep_strs {K : PySem.W.Frag} {w : World} {ad : Nat → Addr} {H : Hp} : ∀ zs : List Str, RepL K w ad H (zs.map V.str) (zs.map D.str)
  | [] => .nil
  | z :: zs => .cons (.str z) (rep_strs zs)
section
variable {C : Cc} {xo : Xo} {W : WX}
theorem cn_sort {ta : TA} {a : SA} (h : CA C xo W ta a) : CN C xo W (tCB (rSortedSA C.K) ta) (lF lSort a) := fun σ G H env f Q o =>
  h σ G H env f _ (Out.bind o fun ds vs G1 H1 _ s1 r1 o1 => by
    have e := s1.gh
    have fin : ∀ {p : Addr} {ws : List V} {xs : List D}, SqL C.K H1 p ws → RepL C.K C.w C.ad G1 ws xs → Out C (fun G' H' v ds => rN C G' H' v ds ∧ ∀ p, v = .ref p → H p = none) (WE W σ) G1 H1 Q (match strsOf xs with
        | some zs => .ok ((srt zs).map .str)
        | none => .bad) → rSortedSA C.K [.ref p] H1 Q := fun {p ws xs} hs r o2 => by
      cases c : strsOf xs with
      | none => rw [c] at o2; exact o2.elim
      | some zs =>
        rw [c] at o2
        have z := r.strs c
        subst z
        exact ⟨p, zs, rfl, hs, fun q hq => o2 _ G1 _ (Step.ofH e (Ex.new hq)) ⟨⟨q, _, rfl, fresh_back e hq, upd_same, rep_strs _⟩, fun q2 hq2 => by cases hq2; exact fresh_back s1.h hq⟩⟩
    cases r1 with
    | nil => exact False.elim o1
    | cons h r =>
      cases r with
      | cons h2 r => cases h <;> exact False.elim o1
      | nil =>
        cases h with
        | lst h r => exact fin (sq_of (e _ _ h)) r o1
        | scr h r => exact fin (ex_l e h) r o1
        | _ => exact False.elim o1)
end
section
variable {P : Program} {w : World} {K : PySem.W.Frag} {mg : Str → Option Value} {base : Heap} {ad : Nat → Addr}
/-- of a def that calls itself: no turn left, nothing said -/
theorem ok_bad {x qual : Str} {st : Stmt} {f : Addr} {fd : FuncData} {N ps : List Str} {l : Nat} (F : Fun K x qual st f fd) (S : FnScope N ps (defScope st)) : FnOk P w K mg base (L2.CX P w) (l + 1) f fd ps (SpD ⟨K, w, ad⟩ fun _ => .bad) := by
  refine F.okX S (fun vs H Q E h => ?_) (fun cdv A outer s H vs Q E hr hs => ?_)
  · obtain ⟨G, ds, e, r, o⟩ := h
    exact o.elim
  · obtain ⟨G, ds, e, r, o⟩ := hs
    exact o.elim
end
end Dm
set_option Elab.async false
set_option linter.all false
set_option maxRecDepth 100000
set_option maxHeartbeats 4000000
namespace Dm
open PySem L2 Evl RZ Wm
/-! a name that holds a list or a tuple, walked -/
def itLT : D → R (List D)
  | .lst xs | .scr xs | .tup xs | .ktp xs => .ok xs
  | _ => .bad
def iLT (o : SE) : SA := fun env => (o env).bind itLT
def wLT (K : PySem.W.Frag) (tl : TE) : TI := fun σ H R => tl σ H fun x H1 => ∃ a, x = .ref a ∧ ((∃ xs, SqL K H1 a xs) ∧ R (Itl K a) H1 ∨ (∃ xs, SqT K H1 a xs) ∧ R (Itt K a) H1)
theorem pi_lt {X : Cx} {tg l : Expr} {i : Nat} (hl : PE X l (tVar i)) : PI X tg l (wLT X.K (tVar i)) := by
  refine ⟨fun pins s σ H R I h => ?_⟩
  obtain ⟨v, hv, a, e, q⟩ := h
  rcases q with q | q
  · exact (pi_list hl).run pins s σ H R I ⟨v, hv, a, e, q.1, q.2⟩
  · exact (pi_tup hl).run pins s σ H R I ⟨v, hv, a, e, q.1, q.2⟩
theorem ci_lt {C : Cc} {xo : Xo} {W : WX} {te : TE} {f : SE} (h : CE C xo W te f) : CI C xo W (wLT C.K te) (iLT f) := fun σ G H env ft R o =>
  h σ G H env ft _ (Out.bind o fun d v G1 H1 _ s r o1 => by
    cases r with
    | @lst a vs ds h1 r => exact ⟨a, rfl, Or.inl ⟨⟨vs, sq_of (s.gh _ _ h1)⟩, o1 _ G1 H1 (Step.refl s.gh) (srv_at walk_list r fun H e => sq_of (e _ _ h1))⟩⟩
    | @scr a vs ds h1 r => exact ⟨a, rfl, Or.inl ⟨⟨vs, ex_l s.gh h1⟩, o1 _ G1 H1 (Step.refl s.gh) (srv_at walk_list r fun H e => ex_l e h1)⟩⟩
    | @tup a vs ds h1 r => exact ⟨a, rfl, Or.inr ⟨⟨vs, ex_t s.gh h1⟩, o1 _ G1 H1 (Step.refl s.gh) (srv_at walk_tup r fun H e => ex_t e h1)⟩⟩
    | @ktp a vs ds h1 _ r => exact ⟨a, rfl, Or.inr ⟨⟨vs, ex_t s.gh h1⟩, o1 _ G1 H1 (Step.refl s.gh) (srv_at walk_tup r fun H e => ex_t e h1)⟩⟩
    | _ => exact False.elim o1)
end Dm
set_option Elab.async false
set_option linter.all false
set_option maxRecDepth 100000
set_option maxHeartbeats 4000000
/-! Dp: facts for reasoning over Dm's functions. -/
namespace Dm
open PySem L2
/-- a walk whose turns all go on -/
theorem forGo_nx {g : SG} {b : SS} (I : Nat → Env → Prop) : ∀ (ds : List D) (k : Nat) (env : Env), I k env →
    (∀ i d env, ds[i]? = some d → I (k + i) env → ∃ e2 e3, g d env = some e2 ∧ (b e2 = .nx e3 ∨ b e2 = .ct e3) ∧ I (k + i + 1) e3) → ∃ e, forGo g b ds env = .nx e ∧ I (k + ds.length) e
  | [], k, env, h, _ => ⟨env, rfl, h⟩
  | d :: ds, k, env, h, hs => by
    obtain ⟨e2, e3, h1, h2, h3⟩ := hs 0 d env rfl h
    obtain ⟨e, q1, q2⟩ := forGo_nx I ds (k + 1) e3 h3 fun i d env hi hI => by
      have := hs (i + 1) d env hi (by rw [show k + (i + 1) = k + 1 + i by omega]; exact hI)
      rw [show k + (i + 1) = k + 1 + i by omega] at this
      exact this
    refine ⟨e, ?_, by rw [List.length_cons, show k + (ds.length + 1) = k + 1 + ds.length by omega]; exact q2⟩
    unfold forGo ofG
    rw [h1]
    dsimp only
    rcases h2 with h2 | h2 <;> rw [h2] <;> exact q1
/-- .. or hand something back -/
theorem forGo_or {g : SG} {b : SS} (I : Nat → Env → Prop) (P : Sl → Prop) : ∀ (ds : List D) (k : Nat) (env : Env), I k env →
    (∀ i d env, ds[i]? = some d → I (k + i) env → ∃ e2, g d env = some e2 ∧ ((∃ e3, (b e2 = .nx e3 ∨ b e2 = .ct e3) ∧ I (k + i + 1) e3) ∨ ∃ v, b e2 = .rt v ∧ P v)) → (∃ e, forGo g b ds env = .nx e ∧ I (k + ds.length) e) ∨ ∃ v, forGo g b ds env = .rt v ∧ P v
  | [], k, env, h, _ => Or.inl ⟨env, rfl, h⟩
  | d :: ds, k, env, h, hs => by
    obtain ⟨e2, h1, h2⟩ := hs 0 d env rfl h
    have e : forGo g b (d :: ds) env = match b e2 with
      | .nx e3 | .ct e3 => forGo g b ds e3
      | .bk e3 => .nx e3
      | r => r := by
      conv => lhs; unfold forGo ofG
      rw [h1] <;> rfl
    rcases h2 with ⟨e3, h2, h3⟩ | ⟨v, h2, h3⟩
    · have q := forGo_or I P ds (k + 1) e3 h3 fun i d env hi hI => by
        have := hs (i + 1) d env hi (by rw [show k + (i + 1) = k + 1 + i by omega]; exact hI)
        rw [show k + (i + 1) = k + 1 + i by omega] at this
        exact this
      have e4 : forGo g b (d :: ds) env = forGo g b ds e3 := by
        rw [e]
        rcases h2 with h2 | h2 <;> rw [h2]
      rw [e4, List.length_cons, show k + (ds.length + 1) = k + 1 + ds.length by omega]
      exact q
    · exact Or.inr ⟨v, by rw [e, h2], h3⟩
theorem ixN_ok {n : Nat} {i : Int} (h0 : 0 ≤ i) (h1 : i < n) : ixN n i = some i.toNat := by
  unfold ixN
  rw [if_pos h0, if_pos h1]
theorem range_at {n i : Nat} {d : D} (h : ((List.range n).map fun (i : Nat) => D.int i)[i]? = some d) : i < n ∧ d = .int i := by
  rw [List.getElem?_map] at h
  by_cases hi : i < n
  · rw [List.getElem?_range hi] at h
    exact ⟨hi, (Option.some.inj h).symm⟩
  · rw [List.getElem?_eq_none (by rw [List.length_range]; omega)] at h
    cases h
theorem forGo_cons {g : SG} {b : SS} {d : D} {ds : List D} {env e2 : Env} (h : g d env = some e2) : forGo g b (d :: ds) env = match b e2 with
    | .nx e3 | .ct e3 => forGo g b ds e3
    | .bk e3 => .nx e3
    | r => r := by
  conv => lhs; unfold forGo ofG
  rw [h] <;> rfl
theorem whGo_succ {t : ST} {b : SS} {n : Nat} {env : Env} {k : Bool} (h : t env = .ok k) : whGo t b (n + 1) env = if k = true then (match b env with
    | .nx e3 | .ct e3 => whGo t b n e3
    | .bk e3 => .nx e3
    | r => r) else .nx env := by
  conv => lhs; unfold whGo ofE
  rw [h] <;> rfl
/-! ### one step at a time (for simp only: EV) -/
section
variable {α β : Type} {r r' : R α} {k : α → R β} {env e2 : Env} {kS : α → RS} {i j n : Nat} {d x y : D} {xs ys : List D} {a b c : SE} {la lb : SA} {t u : ST} {p q s : SS} {f : D → D → R D} {g : SG}
theorem bind_cg (h : r = r') : r.bind k = r'.bind k := by rw [h]
theorem ofE_cg (h : r = r') : ofE r env kS = ofE r' env kS := by rw [h]
theorem bind_ok {a : α} : (R.ok a).bind k = k a := rfl
theorem bind_exc {c : Nat} {fs : List (Str × D)} : (R.exc c fs : R α).bind k = .exc c fs := rfl
theorem bind_bad : (R.bad : R α).bind k = .bad := rfl
theorem ofE_ok {a : α} : ofE (.ok a) env kS = kS a := rfl
theorem ofE_exc {c : Nat} {fs : List (Str × D)} : ofE (.exc c fs : R α) env kS = .exc c fs env := rfl
/-- what a slot gives -/
def vOf : Option Sl → R D
  | some (.val d) => .ok d
  | _ => .bad
theorem vOf_v : vOf (some (.val d)) = .ok d := rfl
theorem ap_C : eC d env = .ok d := rfl
theorem ap_V : eV i env = vOf env[i]? := rfl
theorem ap_nil : eNil env = .ok [] := rfl
theorem ap_cons : eCons a la env = (a env).bind fun x => (la env).bind fun xs => .ok (x :: xs) := rfl
theorem ap_U {f : D → R D} : eU f a env = (a env).bind f := rfl
theorem ap_B : eB f a b env = (a env).bind fun x => (b env).bind fun y => f x y := rfl
theorem ap_chain {f g : D → D → R D} : eChain f g a b c env = (a env).bind fun x => (b env).bind fun y => (f x y).bind fun r => (toBl r).bind fun k => if k = true then (c env).bind fun z => (g y z).bind fun r2 => (toBl r2).bind fun k2 => .ok (.bl k2) else .ok (.bl false) := rfl
theorem ap_and : eAnd a b env = (a env).bind fun x => (toBl x).bind fun k => if k = true then b env else .ok (.bl false) := rfl
theorem ap_or : eOr a b env = (a env).bind fun x => (toBl x).bind fun k => if k = true then .ok (.bl true) else b env := rfl
theorem ap_tup : eTup la env = (la env).bind fun xs => if xs.length ≤ 100000 then .ok (.tup xs) else .bad := rfl
theorem ap_F {f : List D → R D} : eF f la env = (la env).bind f := rfl
theorem ap_M {t : Ty} {f : D → List D → R D} : eM t f a la env = (a env).bind fun x => if isTy t x = true then (la env).bind fun xs => f x xs else .bad := rfl
theorem ap_sl {lo hi : Env → R (Option Int)} : eSl a lo hi env = (a env).bind fun x => (lo env).bind fun l => (hi env).bind fun h => dSl x l h := rfl
theorem ap_pN : pN env = .ok none := rfl
theorem ap_pS : pS a env = (a env).bind fun x => (toIn x).bind fun i => .ok (some i) := rfl
theorem ap_L : eL la env = (la env).bind fun xs => .ok (.lst xs) := rfl
theorem ap_tE : tE a env = (a env).bind toBl := rfl
theorem ap_tAn : tAn t u env = (t env).bind fun k => if k = true then u env else .ok false := rfl
theorem ap_tO : tO t u env = (t env).bind fun k => if k = true then .ok true else u env := rfl
theorem ap_tN : tN t env = (t env).bind fun k => .ok !k := rfl
theorem ap_tY : tY env = .ok true := rfl
theorem ap_if : eIf t a b env = (t env).bind fun k => if k = true then a env else b env := rfl
theorem ap_lD : lD la env = (la env).bind fun xs => if xs.length ≤ 100000 then .ok xs else .bad := rfl
theorem ap_lF {f : List D → R (List D)} : lF f la env = (la env).bind f := rfl
def catL : D → D → R (List D)
  | .lst xs, .lst ys => if xs.length + ys.length ≤ 100000 then .ok (xs ++ ys) else .bad
  | _, _ => .bad
theorem ap_lCat : lCat a b env = (a env).bind fun x => (b env).bind fun y => catL x y := rfl
theorem catL_ok : catL (.lst xs) (.lst ys) = if xs.length + ys.length ≤ 100000 then .ok (xs ++ ys) else .bad := rfl
def repL : D → D → R (List D)
  | .lst xs, .int k => if xs.length * k.toNat ≤ 100000 ∧ -(2 ^ 63) ≤ k ∧ k < 2 ^ 63 then .ok (List.replicate k.toNat xs).flatten else .bad
  | _, _ => .bad
theorem ap_lRep : lRep a b env = (a env).bind fun x => (b env).bind fun y => repL x y := rfl
theorem repL_ok {k : Int} : repL (.lst xs) (.int k) = if xs.length * k.toNat ≤ 100000 ∧ -(2 ^ 63) ≤ k ∧ k < 2 ^ 63 then .ok (List.replicate k.toNat xs).flatten else .bad := rfl
def slL : D → Option Int → Option Int → R (List D)
  | .lst xs, l, h => .ok (cutG xs l h)
  | .scr xs, l, h => .ok (cutG xs l h)
  | _, _, _ => .bad
theorem ap_lSl {lo hi : Env → R (Option Int)} : lSl a lo hi env = (a env).bind fun x => (lo env).bind fun l => (hi env).bind fun h => slL x l h := by
  unfold lSl slL
  congr 1
  funext x
  congr 1
  funext l
  congr 1
  funext h
  cases x <;> rfl
theorem slL_lst {l h : Option Int} : slL (.lst xs) l h = .ok (cutG xs l h) := rfl
theorem slL_scr {l h : Option Int} : slL (.scr xs) l h = .ok (cutG xs l h) := rfl
def itL : D → R (List D)
  | .lst xs => .ok xs
  | .scr xs => .ok xs
  | _ => .bad
theorem ap_iD : iD a env = (a env).bind itL := rfl
theorem itL_lst : itL (.lst xs) = .ok xs := rfl
theorem itL_scr : itL (.scr xs) = .ok xs := rfl
def itT : D → R (List D)
  | .tup xs => .ok xs
  | .ktp xs => .ok xs
  | _ => .bad
theorem ap_iT : iT a env = (a env).bind itT := rfl
theorem itT_tup : itT (.tup xs) = .ok xs := rfl
theorem itT_ktp : itT (.ktp xs) = .ok xs := rfl
def itS : D → R (List D)
  | .str z => .ok (z.cps.toList.map fun c => .str ⟨#[c]⟩)
  | _ => .bad
theorem ap_iS : iS a env = (a env).bind itS := rfl
theorem itS_str {z : Str} : itS (.str z) = .ok (z.cps.toList.map fun c => .str ⟨#[c]⟩) := rfl
def itR1 : List D → R (List D)
  | [.int n] => if n ≤ Z ∧ -Z ≤ n then .ok ((List.range n.toNat).map fun (i : Nat) => .int i) else .bad
  | _ => .bad
theorem ap_iR1 : iR1 la env = (la env).bind itR1 := rfl
theorem itR1_ok {n : Int} : itR1 [.int n] = if n ≤ 100000 ∧ -100000 ≤ n then .ok ((List.range n.toNat).map fun (i : Nat) => .int i) else .bad := rfl
/-! operations on data in the hand -/
theorem add_i {i j : Int} : dAdd (.int i) (.int j) = .ok (.int (i + j)) := rfl
theorem add_s {a b : Str} : dAdd (.str a) (.str b) = if a.length + b.length ≤ 100000 then .ok (.str (a ++ b)) else .bad := rfl
theorem add_l : dAdd (.lst xs) (.lst ys) = if xs.length + ys.length ≤ 100000 then .ok (.lst (xs ++ ys)) else .bad := rfl
theorem addX_i {i j : Int} : dAddX (.int i) (.int j) = .ok (.int (i + j)) := rfl
theorem addX_s {a b : Str} : dAddX (.str a) (.str b) = if a.length + b.length ≤ 100000 then .ok (.str (a ++ b)) else .bad := rfl
theorem sub_i {i j : Int} : dSub (.int i) (.int j) = .ok (.int (i - j)) := rfl
theorem mul_i {i j : Int} : dMul (.int i) (.int j) = if CMulW i j ∨ CMul i j then .ok (.int (i * j)) else .bad := rfl
theorem div_i {i j : Int} : dDiv (.int i) (.int j) = if CDivW i j then .ok (.int (i / j)) else .bad := rfl
theorem mod_i {i j : Int} : dMod (.int i) (.int j) = if 0 < j then .ok (.int (i % j)) else .bad := rfl
theorem pow_i {i j : Int} : dPow (.int i) (.int j) = if CPow i j then .ok (.int (i ^ j.toNat)) else .bad := rfl
theorem shl_i {i j : Int} : dShl (.int i) (.int j) = if CShl i j ∨ CPow i j then .ok (.int (i * 2 ^ j.toNat)) else .bad := rfl
theorem shr_i {i j : Int} : dShr (.int i) (.int j) = if 0 ≤ j then .ok (.int (i / 2 ^ j.toNat)) else .bad := rfl
theorem and_i {i j : Int} : dAnd (.int i) (.int j) = .ok (.int (Builtin.bitAnd i j)) := rfl
theorem or_i {i j : Int} : dOr (.int i) (.int j) = .ok (.int (Builtin.bitOr i j)) := rfl
theorem xor_i {i j : Int} : dXor (.int i) (.int j) = .ok (.int (Builtin.bitXor i j)) := rfl
theorem neg_i {i : Int} : dNeg (.int i) = .ok (.int (-i)) := rfl
theorem not_b {b : Bool} : dNot (.bl b) = .ok (.bl !b) := rfl
theorem lt_i {i j : Int} : dLt (.int i) (.int j) = .ok (.bl (decide (i < j))) := rfl
theorem le_i {i j : Int} : dLe (.int i) (.int j) = .ok (.bl (decide (i ≤ j))) := rfl
theorem gt_i {i j : Int} : dGt (.int i) (.int j) = .ok (.bl (decide (j < i))) := rfl
theorem ge_i {i j : Int} : dGe (.int i) (.int j) = .ok (.bl (decide (j ≤ i))) := rfl
theorem eq_i {i j : Int} : dEq (.int i) (.int j) = .ok (.bl (decide (i = j))) := rfl
theorem eq_s {i j : Str} : dEq (.str i) (.str j) = .ok (.bl (decide (i = j))) := rfl
theorem ne_i {i j : Int} : dNe (.int i) (.int j) = .ok (.bl !(decide (i = j))) := rfl
theorem ne_s {i j : Str} : dNe (.str i) (.str j) = .ok (.bl !(decide (i = j))) := rfl
theorem ne_of {b : Bool} (h : dEq x y = .ok (.bl b)) : dNe x y = .ok (.bl !b) := by
  unfold dNe
  rw [h]
  rfl
theorem is_non : dIs .non .non = .ok (.bl true) := rfl
theorem is_int {i : Int} : dIs (.int i) .non = .ok (.bl false) := rfl
theorem is_str {i : Str} : dIs (.str i) .non = .ok (.bl false) := rfl
theorem is_tup : dIs (.tup xs) .non = .ok (.bl false) := rfl
theorem is_lst : dIs (.lst xs) .non = .ok (.bl false) := rfl
theorem isnt_non : dIsnt .non .non = .ok (.bl false) := rfl
theorem isnt_int {i : Int} : dIsnt (.int i) .non = .ok (.bl true) := rfl
theorem isnt_str {i : Str} : dIsnt (.str i) .non = .ok (.bl true) := rfl
theorem isnt_tup : dIsnt (.tup xs) .non = .ok (.bl true) := rfl
theorem toBl_b {b : Bool} : toBl (.bl b) = .ok b := rfl
theorem toIn_i {i : Int} : toIn (.int i) = .ok i := rfl
/-- an item -/
def ixS (z : Str) (i : Int) : R D := match atI z.cps.toList i with | some c => .ok (.str ⟨#[c]⟩) | none => .bad
def ixL (xs : List D) (i : Int) : R D := match atI xs i with | some d => .ok d | none => .bad
theorem ix_s {z : Str} {i : Int} : dIx (.str z) (.int i) = if z.length ≤ 100000 then ixS z i else .bad := rfl
theorem ix_l {i : Int} : dIx (.lst xs) (.int i) = ixL xs i := rfl
theorem ix_r {i : Int} : dIx (.scr xs) (.int i) = ixL xs i := rfl
theorem ix_t {i : Int} : dIx (.tup xs) (.int i) = ixL xs i := rfl
theorem ix_k {i : Int} : dIx (.ktp xs) (.int i) = ixL xs i := rfl
theorem sl_s {z : Str} {lo hi : Option Int} : dSl (.str z) lo hi = if z.length ≤ 100000 then .ok (.str (cutS z lo hi)) else .bad := rfl
theorem sl_l {lo hi : Option Int} : dSl (.lst xs) lo hi = .ok (.lst (cutG xs lo hi)) := rfl
theorem sl_r {lo hi : Option Int} : dSl (.scr xs) lo hi = .ok (.lst (cutG xs lo hi)) := rfl
theorem sl_t {lo hi : Option Int} : dSl (.tup xs) lo hi = .ok (.tup (cutG xs lo hi)) := rfl
theorem len_s {z : Str} : fLen [.str z] = if z.length ≤ 100000 then .ok (.int z.length) else .bad := rfl
theorem len_l : fLen [.lst xs] = .ok (.int xs.length) := rfl
theorem len_r : fLen [.scr xs] = .ok (.int xs.length) := rfl
theorem len_t : fLen [.tup xs] = .ok (.int xs.length) := rfl
theorem len_k : fLen [.ktp xs] = .ok (.int xs.length) := rfl
theorem int_i {i : Int} : fInt [.int i] = .ok (.int i) := rfl
theorem int_b {b : Bool} : fInt [.bl b] = .ok (.int (if b then 1 else 0)) := rfl
theorem abs_i {i : Int} : fAbs [.int i] = .ok (.int (if i < 0 then -i else i)) := rfl
theorem min_i {i j : Int} : fMin2 [.int i, .int j] = .ok (.int (if j < i then j else i)) := rfl
theorem max_i {i j : Int} : fMax2 [.int i, .int j] = .ok (.int (if j > i then j else i)) := rfl
theorem tup_l : fTuple [.lst xs] = .ok (.tup xs) := rfl
theorem tup_t : fTuple [.tup xs] = .ok (.tup xs) := rfl
theorem list_l : fList [.lst xs] = .ok xs := rfl
theorem list_r : fList [.scr xs] = .ok xs := rfl
theorem list_t : fList [.tup xs] = .ok xs := rfl
theorem isi_i {t : Ty} {i : Int} : dIsi t (.int i) = .ok (.bl (isTy t (.int i))) := rfl
theorem isi_b {t : Ty} {i : Bool} : dIsi t (.bl i) = .ok (.bl (isTy t (.bl i))) := rfl
theorem isi_s {t : Ty} {i : Str} : dIsi t (.str i) = .ok (.bl (isTy t (.str i))) := rfl
theorem isi_l {t : Ty} : dIsi t (.lst xs) = .ok (.bl (isTy t (.lst xs))) := rfl
theorem isi_t {t : Ty} : dIsi t (.tup xs) = .ok (.bl (isTy t (.tup xs))) := rfl
theorem isi_n {t : Ty} : dIsi t .non = .ok (.bl (isTy t .non)) := rfl
theorem ty_ii {i : Int} : isTy .int (.int i) = true := rfl
theorem ty_bi {i : Int} : isTy .bool (.int i) = false := rfl
theorem ty_ss {i : Str} : isTy .str (.str i) = true := rfl
theorem ty_ll : isTy .list (.lst xs) = true := rfl
theorem ty_tt : isTy .tuple (.tup xs) = true := rfl
theorem ty_tl : isTy .tuple (.lst xs) = false := rfl
theorem ty_lt : isTy .list (.tup xs) = false := rfl
theorem ty_tn : isTy .tuple .non = false := rfl
theorem find_s {z w : Str} : mFind (.str z) [.str w] = .ok (.int (Txt.find z w)) := rfl
theorem lower_s {z : Str} : mLower (.str z) [] = if z.length ≤ 100000 then .ok (.str (Txt.lower z)) else .bad := rfl
/-! statements, with what follows -/
theorem sq_nx : sSeq sNx p env = p env := rfl
theorem sq_sq : sSeq (sSeq p q) s env = sSeq p (sSeq q s) env := by
  unfold sSeq
  cases p env <;> rfl
theorem sq_a : sSeq (sA i a) p env = ofE (a env) env fun d => p (env.set i (.val d)) := by
  unfold sSeq sA ofE
  cases a env <;> rfl
theorem sq_o : sSeq (sO i la) p env = ofE (la env) env fun d => p (env.set i (.own d)) := by
  unfold sSeq sO ofE
  cases la env <;> rfl
theorem sq_x : sSeq (sX a) p env = ofE (a env) env fun _ => p env := by
  unfold sSeq sX ofE
  cases a env <;> rfl
theorem sq_if : sSeq (sIf t p q) s env = ofE (t env) env fun k => if k = true then sSeq p s env else sSeq q s env := by
  unfold sSeq sIf ofE
  cases t env with
  | ok k => cases k <;> rfl
  | _ => rfl
theorem sq_ret : sSeq (sRet a) p env = ofE (a env) env fun d => .rt (.val d) := by
  unfold sSeq sRet ofE
  cases a env <;> rfl
theorem sq_retL : sSeq (sRetL la) p env = ofE (la env) env fun d => .rt (.own d) := by
  unfold sSeq sRetL ofE
  cases la env <;> rfl
/-- what slot i owns -/
def oOf : Option Sl → (List D → RS) → RS
  | some (.own ds), k => k ds
  | _, _ => .bad
theorem oOf_o {k : List D → RS} : oOf (some (.own xs)) k = k xs := rfl
theorem sq_retO : sSeq (sRetO i) p env = oOf env[i]? fun xs => .rt (.own xs) := by
  unfold sSeq sRetO oOf
  cases env[i]? with
  | none => rfl
  | some s => cases s <;> rfl
theorem sq_app : sSeq (sApp i a) p env = oOf env[i]? fun xs => ofE (a env) env fun d => if xs.length < 100000 then p (env.set i (.own (xs ++ [d]))) else .bad := by
  unfold sSeq sApp oOf
  cases env[i]? with
  | none => rfl
  | some s =>
    cases s with
    | own xs =>
      unfold ofE
      cases a env with
      | ok d =>
        by_cases h : xs.length < 100000
        · have h2 : xs.length < Z := h
          simp only [h, h2, if_true]
        · have h2 : ¬ xs.length < Z := h
          simp only [h, h2, if_false]
      | _ => rfl
    | _ => rfl
/-- data that is a list -/
def lstK : D → (List D → RS) → RS
  | .lst ys, k => k ys
  | _, _ => .bad
theorem lstK_l {k : List D → RS} : lstK (.lst xs) k = k xs := rfl
theorem sq_ext : sSeq (sExt i a) p env = oOf env[i]? fun xs => ofE (a env) env fun d => lstK d fun ys => if xs.length + ys.length ≤ 100000 then p (env.set i (.own (xs ++ ys))) else .bad := by
  unfold sSeq sExt oOf
  cases env[i]? with
  | none => rfl
  | some s =>
    cases s with
    | own xs =>
      unfold ofE
      cases a env with
      | ok d =>
        cases d with
        | lst ys =>
          by_cases h : xs.length + ys.length ≤ 100000
          · have h2 : xs.length + ys.length ≤ Z := h
            simp only [lstK, h, h2, if_true]
          · have h2 : ¬ xs.length + ys.length ≤ Z := h
            simp only [lstK, h, h2, if_false]
        | _ => rfl
      | _ => rfl
    | _ => rfl
theorem sq_aug : sSeq (sAug i f a) p env = ofE (vOf env[i]?) env fun x => ofE (a env) env fun y => ofE (f x y) env fun z => p (env.set i (.val z)) := by
  unfold sSeq sAug vOf ofE
  cases env[i]? with
  | none => rfl
  | some s =>
    cases s with
    | val x =>
      cases a env with
      | ok y => dsimp only; cases f x y <;> rfl
      | _ => rfl
    | _ => rfl
theorem sq_g : sSeq (sG a g) p env = ofE (a env) env fun d => ofG (g d env) p := by
  unfold sSeq sG ofE ofG
  cases a env with
  | ok d => dsimp only; cases g d env <;> rfl
  | _ => rfl
theorem sq_frz : sSeq (sFrz i p) q env = sSeq p q (frz i env) := rfl
theorem sq_br : sSeq sBr p env = .bk env := rfl
theorem sq_ct : sSeq sCt p env = .ct env := rfl
theorem sq_raise {c : Nat} {nm : List Str} : sSeq (sRaise c nm la) p env = ofE (la env) env fun ds => if ds.length = nm.length then .exc c (nm.zip ds) env else .bad := by
  unfold sSeq sRaise ofE
  cases la env with
  | ok ds =>
    by_cases h : ds.length = nm.length
    · simp only [h, if_true]
    · simp only [h, if_false]
  | _ => rfl
theorem ofG_some {k : Env → RS} : ofG (some env) k = k env := rfl
theorem nx_ap : sNx env = .nx env := rfl
/-- a walk: what its turns come to, then the rest -/
def thenS (r : RS) (p : SS) : RS := match r with
  | .nx e => p e
  | r => r
theorem thenS_nx : thenS (.nx env) p = p env := rfl
theorem thenS_rt {v : Sl} : thenS (.rt v) p = .rt v := rfl
theorem thenS_exc {c : Nat} {fs : List (Str × D)} : thenS (.exc c fs env) p = .exc c fs env := rfl
theorem thenS_cg {r r' : RS} (h : r = r') : thenS r p = thenS r' p := by rw [h]
theorem sq_for : sSeq (sFor la g q) p env = ofE (la env) env fun ds => thenS (forGo g q ds env) p := by
  unfold sSeq sFor ofE thenS
  cases la env <;> rfl
theorem sq_wh : sSeq (sWh n t q) p env = thenS (whGo t q n env) p := rfl
/-- the end of a def -/
def endV : RS → R D
  | .rt (.val d) => .ok d
  | .rt (.own xs) => .ok (.lst xs)
  | .nx _ => .ok .non
  | .exc c fs _ => .exc c fs
  | _ => .bad
def endL : RS → R (List D)
  | .rt (.own xs) => .ok xs
  | .exc c fs _ => .exc c fs
  | _ => .bad
theorem defV_ap {n k : Nat} {ds : List D} (h : ds.length = n) : defV n k p ds = endV (p (ds.map .val ++ List.replicate k .un)) := by
  unfold defV
  rw [if_pos h]
  rfl
theorem defL_ap {n k : Nat} {ds : List D} (h : ds.length = n) : defL n k p ds = endL (p (ds.map .val ++ List.replicate k .un)) := by
  unfold defL
  rw [if_pos h]
  rfl
theorem endV_v : endV (.rt (.val d)) = .ok d := rfl
theorem endV_o : endV (.rt (.own xs)) = .ok (.lst xs) := rfl
theorem endV_n : endV (.nx env) = .ok .non := rfl
theorem endV_x {c : Nat} {fs : List (Str × D)} : endV (.exc c fs env) = .exc c fs := rfl
theorem endL_o : endL (.rt (.own xs)) = .ok xs := rfl
theorem endL_x {c : Nat} {fs : List (Str × D)} : endL (.exc c fs env) = .exc c fs := rfl
theorem frz_at {i : Nat} {ds : List D} (h : env[i]? = some (.own ds)) : frz i env = env.set i (.val (.lst ds)) := by
  unfold frz
  rw [h]
theorem gN_ap : gN i d env = some (env.set i (.val d)) := rfl
end
theorem len_cps_ (a : Str) : a.length = a.cps.toList.length := by rw [Array.length_toList]; rfl
theorem ixL_ints {ns : List Int} {i : Int} (h0 : 0 ≤ i) (h1 : i < ns.length) : ixL (ns.map .int) i = .ok (.int (ns.getD i.toNat 0)) := by
  unfold ixL atI
  rw [List.length_map, ixN_ok h0 h1, Option.bind_some, List.getElem?_map, List.getD_eq_getElem?_getD, List.getElem?_eq_getElem (show i.toNat < ns.length by omega)]
  rfl
theorem ixS_ok {z : Str} {i : Int} (h0 : 0 ≤ i) (h1 : i < z.length) : ∃ c, c ∈ z.cps.toList ∧ ixS z i = .ok (.str ⟨#[c]⟩) := by
  have hl := len_cps_ z
  unfold ixS atI
  rw [← hl, ixN_ok h0 h1, Option.bind_some]
  have hi : i.toNat < z.cps.toList.length := by omega
  rw [List.getElem?_eq_getElem hi]
  exact ⟨_, List.getElem_mem hi, rfl⟩
theorem cps_app (a b : Str) : (a ++ b).cps.toList = a.cps.toList ++ b.cps.toList := by
  show (a.cps ++ b.cps).toList = _
  rw [Array.toList_append]
theorem len_app (a b : Str) : (a ++ b).length = a.length + b.length := by
  show (a.cps ++ b.cps).size = _
  rw [Array.size_append]
  rfl
theorem len_cps (a : Str) : a.length = a.cps.toList.length := by rw [Array.length_toList]; rfl
theorem cps_cut (z : Str) (lo hi : Option Int) : (cutS z lo hi).cps.toList = cutG z.cps.toList lo hi := by
  unfold cutS cutG
  rw [← len_cps]
theorem cut_mem {α : Type} {xs : List α} {lo hi : Option Int} {x : α} (h : x ∈ cutG xs lo hi) : x ∈ xs := List.mem_of_mem_drop (List.mem_of_mem_take h)
theorem cut_len {α : Type} (xs : List α) (lo hi : Option Int) : (cutG xs lo hi).length ≤ xs.length := by
  unfold cutG
  rw [List.length_take, List.length_drop]
  omega
theorem atI_mem {α : Type} {xs : List α} {i : Int} {x : α} (h : atI xs i = some x) : x ∈ xs := by
  unfold atI at h
  cases c : ixN xs.length i with
  | none => rw [c] at h; cases h
  | some j => rw [c] at h; exact List.mem_of_getElem? h
theorem atI_ok {α : Type} {xs : List α} {i : Int} (h0 : 0 ≤ i) (h1 : i < xs.length) : atI xs i = some (xs[i.toNat]'(by omega)) := by
  unfold atI ixN
  rw [if_pos h0, if_pos h1]
  exact List.getElem?_eq_getElem (by omega)
end Dm
set_option Elab.async false
set_option linter.all false
set_option maxRecDepth 100000
set_option maxHeartbeats 4000000
/-! Dq: more facts for reasoning over Dm's functions. -/
namespace Dm
open PySem L2
theorem frz_zero {ds : List D} {r : Env} : frz 0 (.own ds :: r) = .val (.lst ds) :: r := rfl
theorem frz_succ {i : Nat} {s : Sl} {r : Env} : frz (i + 1) (s :: r) = s :: frz i r := by
  unfold frz
  rw [List.getElem?_cons_succ]
  cases c : r[i]? with
  | none => rfl
  | some q => cases q <;> rfl
theorem cast_0 : ((0 : Nat) : Int) = 0 := rfl
theorem cast_1 : ((1 : Nat) : Int) = 1 := rfl
theorem cast_2 : ((2 : Nat) : Int) = 2 := rfl
theorem cast_3 : ((3 : Nat) : Int) = 3 := rfl
theorem cast_4 : ((4 : Nat) : Int) = 4 := rfl
theorem cast_5 : ((5 : Nat) : Int) = 5 := rfl
theorem cast_6 : ((6 : Nat) : Int) = 6 := rfl
theorem cast_7 : ((7 : Nat) : Int) = 7 := rfl
theorem cast_8 : ((8 : Nat) : Int) = 8 := rfl
theorem cast_9 : ((9 : Nat) : Int) = 9 := rfl
theorem frz_zeroV {d : D} {r : Dm.Env} : frz 0 (.val d :: r) = .val d :: r := rfl
def oOfR {α : Type} : Option Sl → (List D → R α) → R α
  | some (.own xs), k => k xs
  | _, _ => .bad
theorem oOfR_o {α : Type} {xs : List D} {k : List D → R α} : oOfR (some (.own xs)) k = k xs := rfl
def ixO (xs : List D) : D → R D
  | .int j => match atI xs j with
    | some d => .ok d
    | none => .bad
  | _ => .bad
theorem ap_lenO {i : Nat} {env : Dm.Env} : eLenO i env = oOfR env[i]? fun xs => .ok (.int xs.length) := by
  unfold eLenO oOfR
  cases env[i]? with
  | none => rfl
  | some s => cases s <;> rfl
theorem ap_ixO {i : Nat} {b : SE} {env : Dm.Env} : eIxO i b env = oOfR env[i]? fun xs => (b env).bind (ixO xs) := by
  unfold eIxO oOfR
  cases env[i]? with
  | none => rfl
  | some s =>
    cases s with
    | own xs =>
      dsimp only
      congr 1
    | _ => rfl
theorem ixO_ok {xs : List D} {j : Int} {d : D} (h : atI xs j = some d) : ixO xs (.int j) = .ok d := by unfold ixO; dsimp only; rw [h]
theorem ixL_ok {xs : List D} {j : Int} {d : D} (h : atI xs j = some d) : ixL xs j = .ok d := by unfold ixL; rw [h]
theorem atI_last (xs : List D) (d : D) : atI (xs ++ [d]) (-1) = some d := by
  unfold atI ixN
  rw [if_neg (by decide), if_pos (by rw [List.length_append, List.length_singleton]; omega), Option.bind_some]
  rw [show ((-1 : Int) + ((xs ++ [d]).length : Nat)).toNat = xs.length by rw [List.length_append, List.length_singleton]; omega]
  simp
theorem atI_nat {xs : List D} {k : Nat} {d : D} (h : xs[k]? = some d) : atI xs (k : Int) = some d := by
  have hl : k < xs.length := by
    rcases Nat.lt_or_ge k xs.length with h2 | h2
    · exact h2
    · rw [List.getElem?_eq_none h2] at h; cases h
  unfold atI
  rw [ixN_ok (by omega) (by omega), Option.bind_some, Int.toNat_natCast, h]
/-- texts as data -/
abbrev dS (zs : List Str) : List D := zs.map .str
theorem flat_strs (zs : List Str) : (dS zs).all flatD = true := by
  rw [List.all_eq_true]
  intro x hx
  obtain ⟨z, _, rfl⟩ := List.mem_map.mp hx
  rfl
theorem inD_strs {z : Str} : ∀ zs : List Str, inD (.str z) (dS zs) = decide (z ∈ zs)
  | [] => rfl
  | y :: zs => by
    have ih := inD_strs (z := z) zs
    unfold inD at ih ⊢
    rw [dS, List.map_cons, List.any_cons, ih]
    unfold D.eqv
    by_cases h : y = z
    · subst h
      simp
    · by_cases h2 : z ∈ zs
      · simp [h2]
      · simp [h, h2, Ne.symm h]
theorem in_strs {z : Str} {zs : List Str} : dIn (.str z) (.lst (dS zs)) = .ok (.bl (decide (z ∈ zs))) := by
  have q : dIn (.str z) (.lst (dS zs)) = if flatD (.str z) && (dS zs).all flatD then .ok (.bl (inD (.str z) (dS zs))) else .bad := rfl
  rw [q, flat_strs, inD_strs] <;> rfl
theorem in_strsK {z : Str} {zs : List Str} : dIn (.str z) (.ktp (dS zs)) = .ok (.bl (decide (z ∈ zs))) := by
  have q : dIn (.str z) (.ktp (dS zs)) = if flatD (.str z) && (dS zs).all flatD then .ok (.bl (inD (.str z) (dS zs))) else .bad := rfl
  rw [q, flat_strs, inD_strs] <;> rfl
theorem in_strsT {z : Str} {zs : List Str} : dIn (.str z) (.tup (dS zs)) = .ok (.bl (decide (z ∈ zs))) := by
  have q : dIn (.str z) (.tup (dS zs)) = if flatD (.str z) && (dS zs).all flatD then .ok (.bl (inD (.str z) (dS zs))) else .bad := rfl
  rw [q, flat_strs, inD_strs] <;> rfl
theorem notIn_of {x y : D} {b : Bool} (h : dIn x y = .ok (.bl b)) : dNotIn x y = .ok (.bl !b) := by unfold dNotIn; rw [h]; rfl
def tOf (r : Option (List D → R D)) (k : (List D → R D) → R D) : R D := match r with
  | some m => k m
  | none => .bad
def pOf (tb : Nat → Option (List D → R D)) (s : Option Sl) (k : (List D → R D) → R D) : R D := match s with
  | some (.val (.fn n)) => tOf (tb n) k
  | _ => .bad
theorem tOf_some {m : List D → R D} {k : (List D → R D) → R D} : tOf (some m) k = k m := rfl
theorem pOf_fn {tb : Nat → Option (List D → R D)} {n : Nat} {k : (List D → R D) → R D} : pOf tb (some (.val (.fn n))) k = tOf (tb n) k := rfl
theorem ap_P {tb : Nat → Option (List D → R D)} {i : Nat} {la : SA} {env : Dm.Env} : eP tb i la env = pOf tb env[i]? fun m => (la env).bind m := by
  unfold eP pOf tOf
  cases env[i]? with
  | none => rfl
  | some s =>
    cases s with
    | val d => cases d <;> rfl
    | _ => rfl
def itZT : List D → R (List D)
  | [.tup xs, .tup ys] => .ok (zipD xs ys)
  | _ => .bad
theorem ap_iZT {la : SA} {env : Dm.Env} : iZT la env = (la env).bind itZT := by
  unfold iZT
  congr 1
theorem itZT_ok {xs ys : List D} : itZT [.tup xs, .tup ys] = .ok (zipD xs ys) := rfl
theorem zipD_cons {x y : D} {xs ys : List D} : zipD (x :: xs) (y :: ys) = .tup [x, y] :: zipD xs ys := rfl
theorem zipD_nil {ys : List D} : zipD [] ys = [] := by unfold zipD; rfl
theorem forGo_nil {g : SG} {b : SS} {env : Dm.Env} : forGo g b [] env = .nx env := rfl
theorem str_i {i : Int} : fStr [.int i] = if i.natAbs.log2 < 1920 then .ok (.str (Str.ofString (toString i))) else .bad := rfl
/-- a number, where P -/
def OkP (P : Int → Prop) : R D → Prop
  | .ok (.int i) => P i
  | _ => False
theorem okP {P : Int → Prop} {i : Int} : OkP P (.ok (.int i)) = P i := rfl
theorem OkP.ex {P : Int → Prop} : ∀ {r : R D}, OkP P r → ∃ i, r = .ok (.int i) ∧ P i
  | .ok (.int i), h => ⟨i, rfl, h⟩
  | .ok .non, h | .ok (.str _), h | .ok (.bl _), h | .ok (.lst _), h | .ok (.scr _), h | .ok (.tup _), h | .ok (.ktp _), h | .ok (.fn _), h | .ok (.dct _ _), h | .exc _ _, h | .bad, h => h.elim
theorem gT_tup {n : Nat} {r : SGs} {ds : List D} {env : Env} : gT n r (.tup ds) env = if ds.length = n then r ds env else none := rfl
theorem gT_ktp {n : Nat} {r : SGs} {ds : List D} {env : Env} : gT n r (.ktp ds) env = if ds.length = n then r ds env else none := rfl
theorem gC_ap {i : Nat} {r : SGs} {d : D} {ds : List D} {env : Env} : gC (gN i) r (d :: ds) env = r ds (env.set i (.val d)) := rfl
theorem gE_nil {env : Env} : gE [] env = some env := rfl
theorem ixL_get {ns : List Int} {p : Nat} {x : Int} (h : ns[p]? = some x) : ixL (ns.map .int) p = .ok (.int x) := by
  have hl : p < ns.length := by
    rcases Nat.lt_or_ge p ns.length with h2 | h2
    · exact h2
    · rw [List.getElem?_eq_none h2] at h; cases h
  unfold ixL atI
  rw [List.length_map, ixN_ok (by omega) (by omega), Option.bind_some, Int.toNat_natCast, List.getElem?_map, h]
  rfl
theorem ipow_le {b k : Nat} (h : b ≤ k) : (2 : Int) ^ b ≤ 2 ^ k := by
  have q := Nat.pow_le_pow_right (show 0 < 2 by decide) h
  exact_mod_cast q
/-- a list of numbers as data -/
abbrev dI (ns : List Int) : List D := ns.map .int
theorem eqv_ints : ∀ ns ms : List Int, eqvAll (dI ns) (dI ms) = decide (ns = ms)
  | [], [] => rfl
  | [], _ :: _ => rfl
  | _ :: _, [] => rfl
  | n :: ns, m :: ms => by
    rw [dI, dI, List.map_cons, List.map_cons]
    unfold eqvAll
    rw [eqv_ints ns ms]
    unfold D.eqv
    by_cases h : n = m
    · subst h
      by_cases h2 : ns = ms <;> simp [h2]
    · simp [h]
theorem shp_ints (n : Nat) : ∀ ns : List Int, shpAll n (dI ns) = true
  | [] => rfl
  | m :: ns => by
    rw [dI, List.map_cons]
    unfold shpAll
    rw [shp_ints n ns]
    cases n <;> rfl
theorem eq_ints {ns ms : List Int} : dEq (.lst (dI ns)) (.lst (dI ms)) = .ok (.bl (decide (ns = ms))) := by
  unfold dEq
  dsimp only
  have e : ∀ xs : List Int, (D.lst (dI xs)).shp 64 = true := fun xs => shp_ints 63 xs
  rw [e, e, if_pos (show (true && true) = true from rfl)]
  unfold D.eqv
  rw [eqv_ints]
theorem ne_ints {ns ms : List Int} : dNe (.lst (dI ns)) (.lst (dI ms)) = .ok (.bl (!decide (ns = ms))) := ne_of eq_ints
theorem lcGo_map {g : SG} {e : SE} {env : Env} (f : D → D) : ∀ (ds acc : List D), (∀ d, d ∈ ds → ∃ env2, g d env = some env2 ∧ e env2 = .ok (f d)) → lcGo g tY e env ds acc = .ok (acc ++ ds.map f)
  | [], acc, _ => by unfold lcGo; rw [List.map_nil, List.append_nil]
  | d :: ds, acc, h => by
    obtain ⟨e2, h1, h2⟩ := h d List.mem_cons_self
    unfold lcGo
    rw [h1]
    dsimp only
    have z : noX (tY e2) = .ok true := rfl
    have z2 : noX (e e2) = .ok (f d) := by rw [h2]; rfl
    rw [z, bind_ok, if_pos rfl, z2, bind_ok, lcGo_map f ds _ fun d hd => h d (List.mem_cons_of_mem _ hd), List.append_assoc]
    rfl
/-- a comprehension without a test -/
theorem lc_map {it : SA} {g : SG} {e : SE} {vs : List Nat} {env : Env} {ds : List D} (f : D → D) (hi : it env = .ok ds) (hl : ds.length ≤ 40000) (h : ∀ d, d ∈ ds → ∃ env2, g d (wipeS env vs) = some env2 ∧ e env2 = .ok (f d)) : lLc it g tY e vs env = .ok (ds.map f) := by
  unfold lLc
  rw [hi, bind_ok, if_pos hl, lcGo_map f ds [] h, List.nil_append]
theorem wipe1_len (env : Dm.Env) (j : Nat) : (wipeS env [j]).length = env.length := by unfold wipeS wipeS; rw [List.length_set]
/-- [int(x) for x in xs] of numbers -/
theorem lc_ints {it : SA} {env : Dm.Env} {ns : List Int} {j : Nat} (h : it env = .ok (dI ns)) (hl : ns.length ≤ 40000) (hj : j < env.length) : lLc it (gN j) tY (eF fInt (eCons (eV j) eNil)) [j] env = .ok (dI ns) := by
  have e : (dI ns).map id = dI ns := List.map_id _
  rw [← e]
  refine lc_map id h (by rw [List.length_map]; exact hl) fun d hd => ⟨_, gN_ap, ?_⟩
  obtain ⟨n, _, rfl⟩ := List.mem_map.mp hd
  have q : ((wipeS env [j]).set j (.val (.int n)))[j]? = some (.val (.int n)) := by
    rw [List.getElem?_set, if_pos rfl, if_pos (by rw [wipe1_len]; exact hj)]
  unfold eF eCons eNil eV
  rw [q]
  rfl
mutual
theorem eqv_self : ∀ (d : D) (n : Nat), d.shp n = true → d.eqv d = true
  | .non, _, _ => rfl
  | .bl b, _, _ => by unfold D.eqv; exact beq_self_eq_true b
  | .int i, _, _ => by unfold D.eqv; exact beq_self_eq_true i
  | .str i, _, _ => by unfold D.eqv; exact beq_self_eq_true i
  | .lst xs, 0, h => by cases h
  | .lst xs, n + 1, h => by unfold D.eqv; exact eqvAll_self xs n h
  | .scr xs, 0, h => by cases h
  | .scr xs, n + 1, h => by unfold D.eqv; exact eqvAll_self xs n h
  | .tup xs, 0, h => by cases h
  | .tup xs, n + 1, h => by unfold D.eqv; exact eqvAll_self xs n h
  | .ktp xs, 0, h => by cases h
  | .ktp xs, n + 1, h => by unfold D.eqv; exact eqvAll_self xs n h
  | .fn _, 0, h => by cases h
  | .fn _, _ + 1, h => by cases h
  | .dct _ _, 0, h => by cases h
  | .dct _ _, _ + 1, h => by cases h
theorem eqvAll_self : ∀ (ds : List D) (n : Nat), shpAll n ds = true → eqvAll ds ds = true
  | [], _, _ => rfl
  | d :: ds, n, h => by
    unfold shpAll at h
    rw [Bool.and_eq_true] at h
    unfold eqvAll
    rw [eqv_self d n h.1, eqvAll_self ds n h.2] <;> rfl
end
theorem dEq_self {x : D} (h : x.shp 64 = true) : dEq x x = .ok (.bl true) := by
  have z : (x.shp 64 && x.shp 64) = true := by rw [h] <;> rfl
  cases x with
  | int i => unfold dEq; simp
  | str i => unfold dEq; simp
  | non => unfold dEq; dsimp only; rw [if_pos z, eqv_self _ 64 h]
  | bl b => unfold dEq; dsimp only; rw [if_pos z, eqv_self _ 64 h]
  | lst b => unfold dEq; dsimp only; rw [if_pos z, eqv_self _ 64 h]
  | scr b => unfold dEq; dsimp only; rw [if_pos z, eqv_self _ 64 h]
  | tup b => unfold dEq; dsimp only; rw [if_pos z, eqv_self _ 64 h]
  | ktp b => unfold dEq; dsimp only; rw [if_pos z, eqv_self _ 64 h]
  | fn n => cases h
  | dct a b => cases h
theorem dNe_self {x : D} (h : x.shp 64 = true) : dNe x x = .ok (.bl false) := ne_of (dEq_self h)
theorem sq_rt {a b : SS} {env : Dm.Env} {v : Sl} (h : a env = .rt v) : sSeq a b env = .rt v := by unfold sSeq; rw [h]
theorem sq_ofnx {a b : SS} {env e : Dm.Env} (h : a env = .nx e) : sSeq a b env = b e := by unfold sSeq; rw [h]
theorem sq_exc {a b : SS} {env e : Dm.Env} {c : Nat} {fs : List (Str × D)} (h : a env = .exc c fs e) : sSeq a b env = .exc c fs e := by unfold sSeq; rw [h]
theorem try_rt {b h : SS} {i : Nat} {cs : Nat → Option Bool} {env : Dm.Env} {v : Sl} (q : b env = .rt v) : sTry b i cs h env = .rt v := by unfold sTry; rw [q]
theorem try_nx {b h : SS} {i : Nat} {cs : Nat → Option Bool} {env e : Dm.Env} (q : b env = .nx e) : sTry b i cs h env = .nx e := by unfold sTry; rw [q]
theorem try_exc_rt {b h : SS} {i c : Nat} {fs : List (Str × D)} {cs : Nat → Option Bool} {env e2 : Dm.Env} {v : Sl} (q : b env = .exc c fs e2) (hc : cs c = some true) (hn : noExn e2 = true) (hh : h (e2.set i (.exn c fs)) = .rt v) : sTry b i cs h env = .rt v := by
  unfold sTry
  rw [q]
  dsimp only
  rw [hc]
  dsimp only
  rw [hn, hh]
  rfl
theorem try_exc_nx {b h : SS} {i c : Nat} {fs : List (Str × D)} {cs : Nat → Option Bool} {env e2 e3 : Dm.Env} (q : b env = .exc c fs e2) (hc : cs c = some true) (hn : noExn e2 = true) (hh : h (e2.set i (.exn c fs)) = .nx e3) (h3 : noExn (e3.set i .un) = true) : sTry b i cs h env = .nx (e3.set i .un) := by
  unfold sTry
  rw [q]
  dsimp only
  rw [hc]
  dsimp only
  rw [hn, hh]
  unfold ifB
  rw [if_pos rfl]
  dsimp only
  rw [if_pos h3]
theorem ty_bs {i : Str} : isTy .bool (.str i) = false := rfl
theorem ty_is {i : Str} : isTy .int (.str i) = false := rfl
/-- the run goes on, where P -/
def NxP (P : Dm.Env → Prop) : RS → Prop
  | .nx e | .ct e => P e
  | _ => False
theorem nxP_nx {P : Dm.Env → Prop} {e : Dm.Env} : NxP P (.nx e) = P e := rfl
theorem nxP_ct {P : Dm.Env → Prop} {e : Dm.Env} : NxP P (.ct e) = P e := rfl
theorem NxP.ex {P : Dm.Env → Prop} : ∀ {r : RS}, NxP P r → ∃ e, (r = .nx e ∨ r = .ct e) ∧ P e
  | .nx e, h => ⟨e, Or.inl rfl, h⟩
  | .ct e, h => ⟨e, Or.inr rfl, h⟩
  | .rt _, h | .bk _, h | .exc _ _ _, h | .bad, h => h.elim
/-- a walk of a row of numbers: every turn goes on, and keeps P -/
theorem forGo_P {i : Nat} {b : SS} {P : Dm.Env → Prop} : ∀ (ds : List D) (env : Dm.Env), P env → (∀ d env, d ∈ ds → P env → NxP P (b (env.set i (.val d)))) → ∃ e, forGo (gN i) b ds env = .nx e ∧ P e
  | [], env, h, _ => ⟨env, rfl, h⟩
  | d :: ds, env, h, hs => by
    obtain ⟨e, h1, h2⟩ := (hs d env List.mem_cons_self h).ex
    obtain ⟨e2, q1, q2⟩ := forGo_P ds e h2 fun d env hd => hs d env (List.mem_cons_of_mem _ hd)
    refine ⟨e2, ?_, q2⟩
    rw [forGo_cons gN_ap]
    rcases h1 with h1 | h1 <;> rw [h1] <;> exact q1
/-- .. with a count -/
theorem forGo_PN {i : Nat} {b : SS} (P : Nat → Dm.Env → Prop) : ∀ (ds : List D) (k : Nat) (env : Dm.Env), P k env → (∀ n d env, d ∈ ds → k ≤ n → n < k + ds.length → P n env → NxP (P (n + 1)) (b (env.set i (.val d)))) → ∃ e, forGo (gN i) b ds env = .nx e ∧ P (k + ds.length) e
  | [], k, env, h, _ => ⟨env, rfl, h⟩
  | d :: ds, k, env, h, hs => by
    obtain ⟨e, h1, h2⟩ := (hs k d env List.mem_cons_self (Nat.le_refl k) (by rw [List.length_cons]; omega) h).ex
    obtain ⟨e2, q1, q2⟩ := forGo_PN P ds (k + 1) e h2 fun n d env hd hn hm => hs n d env (List.mem_cons_of_mem _ hd) (by omega) (by rw [List.length_cons]; omega)
    refine ⟨e2, ?_, by rw [List.length_cons, show k + (ds.length + 1) = k + 1 + ds.length by omega]; exact q2⟩
    rw [forGo_cons gN_ap]
    rcases h1 with h1 | h1 <;> rw [h1] <;> exact q1
theorem mem_range {n : Nat} {d : D} (h : d ∈ (List.range n).map fun (i : Nat) => D.int i) : ∃ i : Nat, i < n ∧ d = .int i := by
  obtain ⟨i, h1, rfl⟩ := List.mem_map.mp h
  exact ⟨i, List.mem_range.mp h1, rfl⟩
/-- a walk of range(n) -/
theorem forGo_range {i : Nat} {b : SS} (P : Nat → Dm.Env → Prop) (n : Nat) (env : Dm.Env) (h : P 0 env) (hs : ∀ k env, k < n → P k env → NxP (P (k + 1)) (b (env.set i (.val (.int (k : Int)))))) : ∃ e, forGo (gN i) b ((List.range n).map fun (i : Nat) => D.int i) env = .nx e ∧ P n e := by
  obtain ⟨e, q1, q2⟩ := forGo_nx (g := gN i) (b := b) P ((List.range n).map fun (i : Nat) => D.int i) 0 env h fun k d env hk hI => by
    obtain ⟨hlt, rfl⟩ := range_at hk
    rw [Nat.zero_add] at hI
    obtain ⟨e3, h3, h4⟩ := (hs k env hlt hI).ex
    exact ⟨_, e3, gN_ap, h3, by rw [Nat.zero_add]; exact h4⟩
  rw [Nat.zero_add, List.length_map, List.length_range] at q2
  exact ⟨e, q1, q2⟩
theorem ne_self {ns : List Int} : dNe (.lst (dI ns)) (.lst (dI ns)) = .ok (.bl false) := by rw [ne_ints, decide_eq_true rfl] <;> rfl
theorem cutG_to {α : Type} (xs : List α) (n : Nat) : cutG xs none (some (n : Int)) = xs.take n := by
  unfold cutG
  rw [HT.sIx_none, HT.sIx_nat, List.drop_zero, Nat.sub_zero, List.take_eq_take_iff]
  omega
theorem map_take {α β : Type} (f : α → β) (xs : List α) (n : Nat) : (xs.map f).take n = (xs.take n).map f := by rw [List.map_take]
/-- an item assigned -/
def setX (xs : List D) (d : D) (k : List D → RS) : D → RS
  | .int j => match ixN xs.length j with
    | some n => k (xs.set n d)
    | none => .bad
  | _ => .bad
def oOfS : Option Sl → (List D → RS) → RS
  | some (.own xs), k => k xs
  | _, _ => .bad
theorem oOfS_o {xs : List D} {k : List D → RS} : oOfS (some (.own xs)) k = k xs := rfl
theorem sq_set {i : Nat} {k e : SE} {q : SS} {env : Dm.Env} : sSeq (sSet i k e) q env = oOfS env[i]? fun xs => ofE (e env) env fun d => ofE (k env) env fun j => setX xs d (fun ys => q (env.set i (.own ys))) j := by
  unfold sSeq sSet oOfS
  cases env[i]? with
  | none => rfl
  | some s =>
    cases s with
    | own xs =>
      dsimp only
      unfold ofE
      cases e env with
      | ok d =>
        dsimp only
        cases k env with
        | ok j =>
          dsimp only
          unfold setX
          cases j with
          | int j =>
            dsimp only
            cases ixN xs.length j <;> rfl
          | _ => rfl
        | _ => rfl
      | _ => rfl
    | _ => rfl
theorem setX_ok {xs : List D} {d : D} {k : List D → RS} {j : Int} (h0 : 0 ≤ j) (h1 : j < xs.length) : setX xs d k (.int j) = k (xs.set j.toNat d) := by
  unfold setX
  dsimp only
  rw [ixN_ok h0 h1]
theorem set_ints {ns : List Int} {p : Nat} {x : Int} : (dI ns).set p (.int x) = dI (ns.set p x) := by rw [dI, dI, List.map_set]
end Dm
set_option Elab.async false
set_option linter.all false
set_option maxRecDepth 100000
set_option maxHeartbeats 4000000
/-! Dx: texts by their codes. -/
namespace Dm
open PySem L2
/-- the text of these codes -/
def tx (cs : List Nat) : Str := ⟨cs.toArray⟩
theorem tx_cps (cs : List Nat) : (tx cs).cps.toList = cs := rfl
theorem tx_of (z : Str) : tx z.cps.toList = z := by cases z; rfl
theorem tx_inj {a b : List Nat} : tx a = tx b ↔ a = b := ⟨fun h => congrArg (fun z : Str => z.cps.toList) h, fun h => by rw [h]⟩
theorem tx_len {a : List Nat} : (tx a).length = a.length := by simp [tx, Str.length]
theorem tx_cat {a b : List Nat} : tx a ++ tx b = tx (a ++ b) := SX.S_cat a b
theorem tx_cut {a : List Nat} {lo hi : Option Int} : cutS (tx a) lo hi = tx (cutG a lo hi) := by
  rw [← tx_of (cutS (tx a) lo hi), cps_cut, tx_cps]
theorem tx_ix {a : List Nat} {i : Int} {c : Nat} (h0 : 0 ≤ i) (h : a[i.toNat]? = some c) : ixS (tx a) i = .ok (.str (tx [c])) := by
  have hl : i.toNat < a.length := by
    rcases Nat.lt_or_ge i.toNat a.length with h2 | h2
    · exact h2
    · rw [List.getElem?_eq_none h2] at h; cases h
  have z : atI (tx a).cps.toList i = some c := by
    rw [tx_cps]
    unfold atI
    rw [ixN_ok h0 (by omega), Option.bind_some, h]
  unfold ixS
  rw [z]
  rfl
theorem tx_in {a : List Nat} {c : Nat} : dIn (.str (tx [c])) (.str (tx a)) = .ok (.bl (decide (c ∈ a))) := by
  have q : dIn (.str (tx [c])) (.str (tx a)) = .ok (.bl (!(Builtin.Str.occurrences (tx a) (tx [c]) 0 (tx a).length 1).isEmpty)) := rfl
  rw [q]
  congr 2
  exact SX.in_one a c
theorem tx_notIn {a : List Nat} {c : Nat} : dNotIn (.str (tx [c])) (.str (tx a)) = .ok (.bl !(decide (c ∈ a))) := notIn_of tx_in
theorem tx_ord {c : Nat} : fOrd [.str (tx [c])] = .ok (.int c) := rfl
theorem cnt_none {c : Nat} : ∀ {a : List Nat}, c ∉ a → PyProof.Rows.cnt c a = 0
  | [], _ => rfl
  | n :: r, h => by
    rw [PyProof.Rows.cnt_cons, if_neg fun z => h (by rw [z]; exact List.mem_cons_self), cnt_none fun z => h (List.mem_cons_of_mem _ z)]
    rfl
theorem tx_count {a : List Nat} {c : Nat} : Txt.count (tx a) (tx [c]) = PyProof.Rows.cnt c a := PyProof.Rows.count_cnt (tx a) c
theorem tx_count0 {a : List Nat} {c : Nat} (h : c ∉ a) : Txt.count (tx a) (tx [c]) = 0 := by rw [tx_count, cnt_none h]
theorem at_one {a : List Nat} {c i : Nat} : PySem.StrLaws.At (tx a) (tx [c]) (tx a).length i ↔ a[i]? = some c := by
  have e := TL.at_iff (x := tx a) (y := tx [c]) (show [c] ≠ [] from List.cons_ne_nil _ _) i
  rw [e]
  show (List.take [c].length (a.drop i) == [c]) = true ↔ _
  rw [beq_iff_eq]
  constructor
  · intro h
    have q : (List.take 1 (a.drop i))[0]? = some c := by rw [show List.take 1 (a.drop i) = [c] from h]; rfl
    rw [List.getElem?_take, if_pos (by decide), List.getElem?_drop] at q
    exact q
  · intro h
    have hl : i < a.length := by
      rcases Nat.lt_or_ge i a.length with h2 | h2
      · exact h2
      · rw [List.getElem?_eq_none h2] at h; cases h
    rw [List.getElem?_eq_getElem hl] at h
    rw [List.drop_eq_getElem_cons hl, Option.some.inj h]
    rfl
theorem tx_rfind0 {a : List Nat} {c : Nat} (h : c ∉ a) : Txt.rfind (tx a) (tx [c]) = -1 := by
  unfold Txt.rfind
  rcases PySem.StrLaws.last_spec (tx a) (tx [c]) with ⟨e, _⟩ | ⟨i, e, h1, _⟩
  · rw [e]
  · exact absurd (List.mem_of_getElem? (at_one.mp h1)) h
theorem tx_rfind {a b : List Nat} {c : Nat} (h : c ∉ b) : Txt.rfind (tx (a ++ c :: b)) (tx [c]) = (a.length : Int) := by
  have q : (a ++ c :: b)[a.length]? = some c := by rw [List.getElem?_append_right (Nat.le_refl _), Nat.sub_self]; rfl
  unfold Txt.rfind
  rcases PySem.StrLaws.last_spec (tx (a ++ c :: b)) (tx [c]) with ⟨e, h1⟩ | ⟨i, e, h1, h2⟩
  · exact absurd (at_one.mpr q) (h1 a.length)
  · rw [e]
    dsimp only
    rcases Nat.lt_trichotomy i a.length with z | z | z
    · exact absurd (at_one.mpr q) (h2 _ z)
    · rw [z]
    · have q2 := at_one.mp h1
      rw [List.getElem?_append_right (by omega)] at q2
      obtain ⟨j, hj⟩ : ∃ j, i - a.length = j + 1 := ⟨i - a.length - 1, by omega⟩
      rw [hj, List.getElem?_cons_succ] at q2
      exact absurd (List.mem_of_getElem? q2) h
theorem joinL_nil : ∀ ys : List (List Nat), TL.joinL [] ys = ys.flatten
  | [] => rfl
  | [x] => by simp [TL.joinL]
  | x :: y :: r => by
    show x ++ ([] ++ TL.joinL [] (y :: r)) = _
    rw [joinL_nil (y :: r), List.nil_append] <;> rfl
theorem tx_join (ys : List (List Nat)) : Txt.join (tx []) (ys.map tx) = tx ys.flatten := by
  rw [← joinL_nil]
  exact SX.join_S [] ys
theorem strsOf_dS : ∀ zs : List Str, strsOf (dS zs) = some zs
  | [] => rfl
  | z :: zs => by
    rw [dS, List.map_cons]
    unfold strsOf
    rw [strsOf_dS zs]
    rfl
theorem flat_len : ∀ ys : List (List Nat), ((ys.map tx).map (·.length)).sum = ys.flatten.length
  | [] => rfl
  | y :: ys => by
    rw [List.map_cons, List.map_cons, List.sum_cons, flat_len ys, List.flatten_cons, List.length_append, tx_len]
theorem join_ok {ys : List (List Nat)} (h : ys.flatten.length ≤ 16777216) : mJoin (.str (tx [])) [.lst (dS (ys.map tx))] = .ok (.str (tx ys.flatten)) := by
  have q : mJoin (.str (tx [])) [.lst (dS (ys.map tx))] = match strsOf (dS (ys.map tx)) with
    | some ys => if (ys.map (·.length)).sum + ys.length * (tx []).length ≤ 16777216 then .ok (.str (Txt.join (tx []) ys)) else .bad
    | none => .bad := rfl
  rw [q, strsOf_dS]
  dsimp only
  rw [flat_len, tx_len, List.length_nil, Nat.mul_zero, Nat.add_zero, if_pos h, tx_join]
theorem cut_ft {α : Type} (xs : List α) (n m : Nat) : cutG xs (some (n : Int)) (some (m : Int)) = (xs.drop n).take (m - n) := by
  unfold cutG
  rw [HT.sIx_nat, HT.sIx_nat]
  rcases Nat.le_total xs.length n with h | h
  · rw [List.drop_eq_nil_of_le (by omega), List.drop_eq_nil_of_le h, List.take_nil, List.take_nil]
  · rw [Nat.min_eq_left h, List.take_eq_take_iff, List.length_drop]
    omega
theorem cut_f {α : Type} (xs : List α) (n : Nat) : cutG xs (some (n : Int)) none = xs.drop n := by
  unfold cutG
  rw [HT.sIx_nat, HT.sIx_none]
  rcases Nat.le_total xs.length n with h | h
  · rw [List.drop_eq_nil_of_le (by omega), List.drop_eq_nil_of_le h, List.take_nil]
  · rw [Nat.min_eq_left h, List.take_of_length_le]
    rw [List.length_drop]
    exact Nat.le_refl _
theorem lower_tx {a : List Nat} (h : a.all (· < 128) = true) : Txt.lower (tx a) = tx (a.map PyProof.Rows.lo1) := SX.lower_S h
end Dm
set_option Elab.async false
set_option linter.all false
set_option maxRecDepth 100000
set_option maxHeartbeats 4000000

namespace Lk23
open PySem L2 Dm
def d_CHARACTERS : D := .tup [.str " !\"#$", .str "&'()*+,-./0123456789:;<=>?\x40ABCDEFGHIJKLMNOPQRSTUVWXYZ[\\]^_`abcdefghijklmnopqrstuvwxyz{|}~"]
def d_DIGITS : D := .str "0123456789abcdef"
def d_ESCAPES : D := .dct ["t", "n", "\"", "'", "\\"] [.int (9), .int (10), .int (34), .int (39), .int (92)]
def d_APART : D := .str "\"(),;[]{}"
def d_MOST_CHARACTERS : D := .int (200)
def b_character : SS :=
  (sSeq (sIf (tE (eChain dLe dLt (eC (.int 32)) (eV 0) (eC (.int 37)))) (sSeq (sRet (eB dIx (eB dIx (eC d_CHARACTERS) (eC (.int 0))) (eB dSub (eV 0) (eC (.int 32)))))
  sNx) sNx)
  (sSeq (sIf (tE (eChain dLt dLt (eC (.int 37)) (eV 0) (eC (.int 127)))) (sSeq (sRet (eB dIx (eB dIx (eC d_CHARACTERS) (eC (.int 1))) (eB dSub (eV 0) (eC (.int 38)))))
  sNx) sNx)
  (sSeq (sRet (eC .non))
  sNx)))
def m_character : List D → R D := defV 1 0 b_character
theorem e_character (x0 : D) : m_character [x0] = endV (b_character [.val x0]) := defV_ap rfl
def b_position : SS :=
  (sSeq (sA 2 (eSl (eV 0) pN (pS (eV 1))))
  (sSeq (sRet (eTup (eCons (eB dAdd (eM .str mCount (eV 2) (eCons (eC (.str "\n")) eNil)) (eC (.int 1))) (eCons (eB dSub (eV 1) (eM .str mRfind (eV 2) (eCons (eC (.str "\n")) eNil))) eNil))))
  sNx))
def m_position : List D → R D := defV 2 1 b_position
theorem e_position (x0 x1 : D) : m_position [x0, x1] = endV (b_position [.val x0, .val x1, .un]) := defV_ap rfl
def b_fail : SS :=
  (sSeq (sG (eF m_position (eCons (eV 1) (eCons (eV 2) eNil))) (gT 2 (gC (gN 3) (gC (gN 4) gE))))
  (sSeq (sRaise 1001 ["reason", "line", "column"] (eCons (eV 0) (eCons (eV 3) (eCons (eV 4) eNil))))
  sNx))
def m_fail : List D → R D := defV 3 2 b_fail
theorem e_fail (x0 x1 x2 : D) : m_fail [x0, x1, x2] = endV (b_fail [.val x0, .val x1, .val x2, .un, .un]) := defV_ap rfl
def b_digit_of : SS :=
  (sSeq (sRet (eM .str mFind (eSl (eC d_DIGITS) pN (pS (eV 1))) (eCons (eM .str mLower (eV 0) eNil) eNil)))
  sNx)
def m_digit_of : List D → R D := defV 2 0 b_digit_of
theorem e_digit_of (x0 x1 : D) : m_digit_of [x0, x1] = endV (b_digit_of [.val x0, .val x1]) := defV_ap rfl
def b_after_block_comment_1 : SS :=
  (sSeq (sA 3 (eSl (eV 0) (pS (eV 1)) (pS (eB dAdd (eV 1) (eC (.int 2))))))
  (sSeq (sIf (tE (eB dEq (eV 3) (eC (.str "(;")))) (sSeq (sAug 2 dAddX (eC (.int 1)))
  (sSeq (sAug 1 dAddX (eC (.int 2)))
  sNx)) (sSeq (sIf (tE (eB dEq (eV 3) (eC (.str ";)")))) (sSeq (sAug 2 dSub (eC (.int 1)))
  (sSeq (sAug 1 dAddX (eC (.int 2)))
  sNx)) (sSeq (sAug 1 dAddX (eC (.int 1)))
  sNx))
  sNx))
  (sSeq (sIf (tE (eB dEq (eV 2) (eC (.int 0)))) (sSeq (sRet (eV 1))
  sNx) sNx)
  sNx)))
def b_after_block_comment : SS :=
  (sSeq (sA 2 (eC (.int 0)))
  (sSeq (sWh 100000 (tE (eB dLt (eV 1) (eF fLen (eCons (eV 0) eNil)))) b_after_block_comment_1)
  (sSeq (sRet (eC .non))
  sNx)))
def m_after_block_comment : List D → R D := defV 2 2 b_after_block_comment
theorem e_after_block_comment (x0 x1 : D) : m_after_block_comment [x0, x1] = endV (b_after_block_comment [.val x0, .val x1, .un, .un]) := defV_ap rfl
def b_after_line_1 : SS :=
  (sSeq (sAug 1 dAddX (eC (.int 1)))
  sNx)
def b_after_line : SS :=
  (sSeq (sWh 100000 (tAn (tE (eB dLt (eV 1) (eF fLen (eCons (eV 0) eNil)))) (tE (eB dNe (eB dIx (eV 0) (eV 1)) (eC (.str "\n"))))) b_after_line_1)
  (sSeq (sRet (eV 1))
  sNx))
def m_after_line : List D → R D := defV 2 0 b_after_line
theorem e_after_line (x0 x1 : D) : m_after_line [x0, x1] = endV (b_after_line [.val x0, .val x1]) := defV_ap rfl
def b_after_blanks_1 : SS :=
  (sSeq (sIf (tE (eB dIn (eB dIx (eV 0) (eV 1)) (eC (.str " \n\t")))) (sSeq (sAug 1 dAddX (eC (.int 1)))
  sNx) (sSeq (sIf (tE (eB dEq (eSl (eV 0) (pS (eV 1)) (pS (eB dAdd (eV 1) (eC (.int 2))))) (eC (.str ";;")))) (sSeq (sA 1 (eF m_after_line (eCons (eV 0) (eCons (eV 1) eNil))))
  sNx) (sSeq (sIf (tE (eB dEq (eSl (eV 0) (pS (eV 1)) (pS (eB dAdd (eV 1) (eC (.int 2))))) (eC (.str "(;")))) (sSeq (sA 2 (eF m_after_block_comment (eCons (eV 0) (eCons (eV 1) eNil))))
  (sSeq (sIf (tE (eB dIs (eV 2) (eC .non))) (sSeq (sX (eF m_fail (eCons (eC (.str "comment does not end")) (eCons (eV 0) (eCons (eV 1) eNil)))))
  sNx) sNx)
  (sSeq (sA 1 (eV 2))
  sNx))) (sSeq (sRet (eV 1))
  sNx))
  sNx))
  sNx))
  sNx)
def b_after_blanks : SS :=
  (sSeq (sWh 100000 (tE (eB dLt (eV 1) (eF fLen (eCons (eV 0) eNil)))) b_after_blanks_1)
  (sSeq (sRet (eV 1))
  sNx))
def m_after_blanks : List D → R D := defV 2 1 b_after_blanks
theorem e_after_blanks (x0 x1 : D) : m_after_blanks [x0, x1] = endV (b_after_blanks [.val x0, .val x1, .un]) := defV_ap rfl
def b_string_character : SS :=
  (sSeq (sIf (tO (tE (eB dGe (eV 1) (eF fLen (eCons (eV 0) eNil)))) (tE (eB dIn (eB dIx (eV 0) (eV 1)) (eC (.str "\n\t"))))) (sSeq (sX (eF m_fail (eCons (eC (.str "string does not end")) (eCons (eV 0) (eCons (eV 1) eNil)))))
  sNx) sNx)
  (sSeq (sRet (eB dIx (eV 0) (eV 1)))
  sNx))
def m_string_character : List D → R D := defV 2 0 b_string_character
theorem e_string_character (x0 x1 : D) : m_string_character [x0, x1] = endV (b_string_character [.val x0, .val x1]) := defV_ap rfl
def b_read_string_byte : SS :=
  (sSeq (sA 2 (eF m_string_character (eCons (eV 0) (eCons (eV 1) eNil))))
  (sSeq (sIf (tE (eB dNe (eV 2) (eC (.str "\\")))) (sSeq (sRet (eTup (eCons (eF fOrd (eCons (eV 2) eNil)) (eCons (eB dAdd (eV 1) (eC (.int 1))) eNil))))
  sNx) sNx)
  (sSeq (sA 3 (eF m_string_character (eCons (eV 0) (eCons (eB dAdd (eV 1) (eC (.int 1))) eNil))))
  (sSeq (sIf (tE (eB dIn (eV 3) (eC d_ESCAPES))) (sSeq (sRet (eTup (eCons (eB dIx (eC d_ESCAPES) (eV 3)) (eCons (eB dAdd (eV 1) (eC (.int 2))) eNil))))
  sNx) sNx)
  (sSeq (sIf (tE (eB dGe (eF m_digit_of (eCons (eV 3) (eCons (eC (.int 16)) eNil))) (eC (.int 0)))) (sSeq (sA 4 (eF m_string_character (eCons (eV 0) (eCons (eB dAdd (eV 1) (eC (.int 2))) eNil))))
  (sSeq (sIf (tE (eB dGe (eF m_digit_of (eCons (eV 4) (eCons (eC (.int 16)) eNil))) (eC (.int 0)))) (sSeq (sRet (eTup (eCons (eB dAdd (eB dMul (eF m_digit_of (eCons (eV 3) (eCons (eC (.int 16)) eNil))) (eC (.int 16))) (eF m_digit_of (eCons (eV 4) (eCons (eC (.int 16)) eNil)))) (eCons (eB dAdd (eV 1) (eC (.int 3))) eNil))))
  sNx) sNx)
  sNx)) sNx)
  (sSeq (sG (eF m_position (eCons (eV 0) (eCons (eV 1) eNil))) (gT 2 (gC (gN 5) (gC (gN 6) gE))))
  (sSeq (sRaise 1001 ["reason", "line", "column"] (eCons (eC (.str "unknown escape")) (eCons (eV 5) (eCons (eV 6) eNil))))
  sNx)))))))
def m_read_string_byte : List D → R D := defV 2 5 b_read_string_byte
theorem e_read_string_byte (x0 x1 : D) : m_read_string_byte [x0, x1] = endV (b_read_string_byte [.val x0, .val x1, .un, .un, .un, .un, .un]) := defV_ap rfl
def b_read_string_1 : SS :=
  (sSeq (sG (eF m_read_string_byte (eCons (eV 0) (eCons (eV 1) eNil))) (gT 2 (gC (gN 3) (gC (gN 1) gE))))
  (sSeq (sApp 2 (eV 3))
  sNx))
def b_read_string : SS :=
  (sSeq (sO 2 (lD eNil))
  (sSeq (sAug 1 dAddX (eC (.int 1)))
  (sSeq (sWh 100000 (tE (eB dNe (eF m_string_character (eCons (eV 0) (eCons (eV 1) eNil))) (eC (.str "\"")))) b_read_string_1)
  (sSeq (sFrz 2 (sRet (eTup (eCons (eF fTuple (eCons (eV 2) eNil)) (eCons (eB dAdd (eV 1) (eC (.int 1))) eNil)))))
  sNx))))
def m_read_string : List D → R D := defV 2 2 b_read_string
theorem e_read_string (x0 x1 : D) : m_read_string [x0, x1] = endV (b_read_string [.val x0, .val x1, .un, .un]) := defV_ap rfl
def b_after_word_1 : SS :=
  (sSeq (sAug 1 dAddX (eC (.int 1)))
  sNx)
def b_after_word : SS :=
  (sSeq (sWh 100000 (tAn (tE (eB dLt (eV 1) (eF fLen (eCons (eV 0) eNil)))) (tAn (tE (eChain dLe dLe (eC (.str "!")) (eB dIx (eV 0) (eV 1)) (eC (.str "~")))) (tE (eB dNotIn (eB dIx (eV 0) (eV 1)) (eC d_APART))))) b_after_word_1)
  (sSeq (sRet (eV 1))
  sNx))
def m_after_word : List D → R D := defV 2 0 b_after_word
theorem e_after_word (x0 x1 : D) : m_after_word [x0, x1] = endV (b_after_word [.val x0, .val x1]) := defV_ap rfl
def b_read_token : SS :=
  (sSeq (sG (eF m_position (eCons (eV 0) (eCons (eV 1) eNil))) (gT 2 (gC (gN 2) (gC (gN 3) gE))))
  (sSeq (sA 4 (eB dIx (eV 0) (eV 1)))
  (sSeq (sIf (tO (tE (eB dEq (eV 4) (eC (.str "(")))) (tE (eB dEq (eV 4) (eC (.str ")"))))) (sSeq (sRet (eTup (eCons (eTup (eCons (eV 4) (eCons (eC (.str "")) (eCons (eV 2) (eCons (eV 3) eNil))))) (eCons (eB dAdd (eV 1) (eC (.int 1))) eNil))))
  sNx) sNx)
  (sSeq (sIf (tE (eB dEq (eV 4) (eC (.str "\"")))) (sSeq (sG (eF m_read_string (eCons (eV 0) (eCons (eV 1) eNil))) (gT 2 (gC (gN 5) (gC (gN 6) gE))))
  (sSeq (sRet (eTup (eCons (eTup (eCons (eC (.str "string")) (eCons (eV 5) (eCons (eV 2) (eCons (eV 3) eNil))))) (eCons (eV 6) eNil))))
  sNx)) sNx)
  (sSeq (sA 6 (eF m_after_word (eCons (eV 0) (eCons (eV 1) eNil))))
  (sSeq (sIf (tE (eB dEq (eV 6) (eV 1))) (sSeq (sRaise 1001 ["reason", "line", "column"] (eCons (eC (.str "unexpected character")) (eCons (eV 2) (eCons (eV 3) eNil))))
  sNx) sNx)
  (sSeq (sIf (tE (eB dGt (eB dSub (eV 6) (eV 1)) (eC d_MOST_CHARACTERS))) (sSeq (sRaise 1001 ["reason", "line", "column"] (eCons (eC (.str "word too long")) (eCons (eV 2) (eCons (eV 3) eNil))))
  sNx) sNx)
  (sSeq (sRet (eTup (eCons (eTup (eCons (eC (.str "word")) (eCons (eSl (eV 0) (pS (eV 1)) (pS (eV 6))) (eCons (eV 2) (eCons (eV 3) eNil))))) (eCons (eV 6) eNil))))
  sNx))))))))
def m_read_token : List D → R D := defV 2 5 b_read_token
theorem e_read_token (x0 x1 : D) : m_read_token [x0, x1] = endV (b_read_token [.val x0, .val x1, .un, .un, .un, .un, .un]) := defV_ap rfl
def b_tokens_of_1 : SS :=
  (sSeq (sG (eF m_read_token (eCons (eV 0) (eCons (eV 2) eNil))) (gT 2 (gC (gN 3) (gC (gN 2) gE))))
  (sSeq (sApp 1 (eV 3))
  (sSeq (sA 2 (eF m_after_blanks (eCons (eV 0) (eCons (eV 2) eNil))))
  sNx)))
def b_tokens_of : SS :=
  (sSeq (sO 1 (lD eNil))
  (sSeq (sA 2 (eF m_after_blanks (eCons (eV 0) (eCons (eC (.int 0)) eNil))))
  (sSeq (sWh 100000 (tE (eB dLt (eV 2) (eF fLen (eCons (eV 0) eNil)))) b_tokens_of_1)
  (sSeq (sG (eF m_position (eCons (eV 0) (eCons (eV 2) eNil))) (gT 2 (gC (gN 4) (gC (gN 5) gE))))
  (sSeq (sApp 1 (eTup (eCons (eC (.str "end")) (eCons (eC (.str "")) (eCons (eV 4) (eCons (eV 5) eNil))))))
  (sSeq (sFrz 1 (sRet (eV 1)))
  sNx))))))
def m_tokens_of : List D → R D := defV 1 5 b_tokens_of
theorem e_tokens_of (x0 : D) : m_tokens_of [x0] = endV (b_tokens_of [.val x0, .un, .un, .un, .un, .un]) := defV_ap rfl
def b_print_byte : SS :=
  (sSeq (sA 1 (eF m_character (eCons (eV 0) eNil)))
  (sSeq (sIf (tO (tE (eB dIs (eV 1) (eC .non))) (tE (eB dIn (eV 1) (eTup (eCons (eC (.str "\"")) (eCons (eC (.str "\\")) eNil)))))) (sSeq (sRet (eB dAdd (eB dAdd (eC (.str "\\")) (eB dIx (eC d_DIGITS) (eB dShr (eV 0) (eC (.int 4))))) (eB dIx (eC d_DIGITS) (eB dAnd (eV 0) (eC (.int 15))))))
  sNx) sNx)
  (sSeq (sRet (eV 1))
  sNx)))
def m_print_byte : List D → R D := defV 1 1 b_print_byte
theorem e_print_byte (x0 : D) : m_print_byte [x0] = endV (b_print_byte [.val x0, .un]) := defV_ap rfl
def b_print_string : SS :=
  (sSeq (sRet (eB dAdd (eB dAdd (eC (.str "\"")) (eM .str mJoin (eC (.str "")) (eCons (eL (lLc (iLT (eV 0)) (gN 1) tY (eF m_print_byte (eCons (eV 1) eNil)) [1])) eNil))) (eC (.str "\""))))
  sNx)
def m_print_string : List D → R D := defV 1 1 b_print_string
theorem e_print_string (x0 : D) : m_print_string [x0] = endV (b_print_string [.val x0, .un]) := defV_ap rfl
def b_l_char : SS :=
  (sSeq (sA 1 (eC (.str " !\"#$&'()*+,-./0123456789:;<=>?\x40ABCDEFGHIJKLMNOPQRSTUVWXYZ[\\]^_`")))
  (sSeq (sA 1 (eB dAdd (eV 1) (eC (.str "abcdefghijklmnopqrstuvwxyz{|}~"))))
  (sSeq (sRet (eB dIx (eV 1) (eV 0)))
  sNx)))
def m_l_char : List D → R D := defV 1 1 b_l_char
theorem e_l_char (x0 : D) : m_l_char [x0] = endV (b_l_char [.val x0, .un]) := defV_ap rfl
def b_l_alike_1 (r : List D → R D) : SS :=
  (sSeq (sIf (tN (tE (eF r (eCons (eB dIx (eV 0) (eV 2)) (eCons (eB dIx (eV 1) (eV 2)) eNil))))) (sSeq (sRet (eC (.bl false)))
  sNx) sNx)
  sNx)
def b_l_alike (r : List D → R D) : SS :=
  (sSeq (sIf (tE (eB dIs (eV 1) (eC .non))) (sSeq (sRet (eB dIs (eV 0) (eC .non)))
  sNx) sNx)
  (sSeq (sIf (tE (eU (dIsi .tuple) (eV 1))) (sSeq (sIf (tO (tN (tE (eU (dIsi .tuple) (eV 0)))) (tE (eB dNe (eF fLen (eCons (eV 0) eNil)) (eF fLen (eCons (eV 1) eNil))))) (sSeq (sRet (eC (.bl false)))
  sNx) sNx)
  (sSeq (sFor (iR1 (eCons (eF fLen (eCons (eV 1) eNil)) eNil)) (gN 2) (b_l_alike_1 r))
  (sSeq (sRet (eC (.bl true)))
  sNx))) sNx)
  (sSeq (sIf (tE (eU (dIsi .str) (eV 1))) (sSeq (sRet (eAnd (eU (dIsi .str) (eV 0)) (eB dEq (eV 0) (eV 1))))
  sNx) sNx)
  (sSeq (sIf (tE (eB dNe (eU (dIsi .bool) (eV 0)) (eU (dIsi .bool) (eV 1)))) (sSeq (sRet (eC (.bl false)))
  sNx) sNx)
  (sSeq (sRet (eAnd (eU (dIsi .int) (eV 0)) (eB dEq (eV 0) (eV 1))))
  sNx)))))
def m_l_alike : Nat → List D → R D
  | 0 => fun _ => .bad
  | q + 1 => defV 2 1 (b_l_alike (m_l_alike q))
theorem e_l_alike (q : Nat) (x0 x1 : D) : m_l_alike (q + 1) [x0, x1] = endV (b_l_alike (m_l_alike q) [.val x0, .val x1, .un]) := defV_ap rfl
def b_l_bytes_1 : SS :=
  (sSeq (sIf (tE (eB dGt (eV 1) (eC (.int 0)))) (sSeq (sApp 3 (eB dMod (eF fInt (eCons (eV 1) eNil)) (eC (.int 256))))
  (sSeq (sA 1 (eB dDiv (eV 1) (eC (.int 256))))
  sNx)) sNx)
  sNx)
def b_l_bytes : SS :=
  (sSeq (sA 1 (eC (.int 0)))
  (sSeq (sIf (tE (eB dGt (eF fLen (eCons (eV 0) eNil)) (eC (.int 0)))) (sSeq (sA 1 (eF fInt (eCons (eB dIx (eV 0) (eC (.int 0))) eNil)))
  sNx) sNx)
  (sSeq (sIf (tE (eB dLt (eV 1) (eB dPow (eC (.int 10)) (eC (.int 18))))) (sSeq (sRet (eL (lLc (iD (eSl (eV 0) pN (pS (eC (.int 63))))) (gN 2) tY (eB dMod (eF fInt (eCons (eV 2) eNil)) (eC (.int 256))) [2])))
  sNx) sNx)
  (sSeq (sO 3 (lD eNil))
  (sSeq (sFor (iR1 (eCons (eC (.int 62)) eNil)) (gN 4) b_l_bytes_1)
  (sSeq (sFrz 3 (sRet (eV 3)))
  sNx))))))
def m_l_bytes : List D → R D := defV 1 4 b_l_bytes
theorem e_l_bytes (x0 : D) : m_l_bytes [x0] = endV (b_l_bytes [.val x0, .un, .un, .un, .un]) := defV_ap rfl
def b_l_due_1 : SS :=
  (sSeq (sIf (tO (tE (eB dLt (eV 2) (eC (.int 32)))) (tO (tE (eB dGt (eV 2) (eC (.int 126)))) (tE (eB dIn (eV 2) (eL (lD (eCons (eC (.int 34)) (eCons (eC (.int 37)) (eCons (eC (.int 92)) eNil))))))))) (sSeq (sA 1 (eB dAdd (eB dAdd (eB dAdd (eV 1) (eC (.str "\\"))) (eB dIx (eC (.str "0123456789abcdef")) (eB dDiv (eV 2) (eC (.int 16))))) (eB dIx (eC (.str "0123456789abcdef")) (eB dMod (eF fInt (eCons (eV 2) eNil)) (eC (.int 16))))))
  sNx) (sSeq (sA 1 (eB dAdd (eV 1) (eF m_l_char (eCons (eB dSub (eB dSub (eV 2) (eC (.int 32))) (eF fInt (eCons (eB dGt (eV 2) (eC (.int 37))) eNil))) eNil))))
  sNx))
  sNx)
def b_l_due : SS :=
  (sSeq (sA 1 (eC (.str "\"")))
  (sSeq (sFor (iD (eV 0)) (gN 2) b_l_due_1)
  (sSeq (sRet (eB dAdd (eV 1) (eC (.str "\""))))
  sNx)))
def m_l_due : List D → R D := defV 1 2 b_l_due
theorem e_l_due (x0 : D) : m_l_due [x0] = endV (b_l_due [.val x0, .un, .un]) := defV_ap rfl
def b_law : SS :=
  (sSeq (sA 1 (eF m_l_bytes (eCons (eV 0) eNil)))
  (sSeq (sA 2 (eF m_l_due (eCons (eV 1) eNil)))
  (sSeq (sA 3 (eL (lF fList (eCons (eV 1) eNil))))
  (sSeq (sA 4 (eF m_print_string (eCons (eV 3) eNil)))
  (sSeq (sA 5 (eF m_print_string (eCons (eF fTuple (eCons (eV 1) eNil)) eNil)))
  (sSeq (sIf (tO (tN (tE (eU (dIsi .str) (eV 4)))) (tO (tN (tE (eU (dIsi .str) (eV 5)))) (tO (tE (eB dNe (eV 4) (eV 2))) (tO (tE (eB dNe (eV 5) (eV 2))) (tE (eB dNe (eV 3) (eV 1))))))) (sSeq (sRet (eC (.bl false)))
  sNx) sNx)
  (sSeq (sA 6 (eF m_tokens_of (eCons (eV 4) eNil)))
  (sSeq (sA 7 (eTup (eCons (eC (.str "end")) (eCons (eC (.str "")) (eCons (eC (.int 1)) (eCons (eB dAdd (eF fLen (eCons (eV 2) eNil)) (eC (.int 1))) eNil))))))
  (sSeq (sRet (eAnd (eU (dIsi .list) (eV 6)) (eF (m_l_alike 8) (eCons (eF fTuple (eCons (eV 6) eNil)) (eCons (eTup (eCons (eTup (eCons (eC (.str "string")) (eCons (eF fTuple (eCons (eV 1) eNil)) (eCons (eC (.int 1)) (eCons (eC (.int 1)) eNil))))) (eCons (eV 7) eNil))) eNil)))))
  sNx)))))))))
def m_law : List D → R D := defV 1 7 b_law
theorem e_law (x0 : D) : m_law [x0] = endV (b_law [.val x0, .un, .un, .un, .un, .un, .un, .un]) := defV_ap rfl
end Lk23
set_option Elab.async false
set_option linter.all false
set_option maxRecDepth 100000
set_option maxHeartbeats 4000000
namespace Lk23
open PySem L2 Dm
/-! bytes as they stand in a string -/
def hx (n : Nat) : Nat := if n < 10 then 48 + n else 87 + n
def esc (b : Nat) : Bool := decide (b < 32) || decide (126 < b) || b == 34 || b == 37 || b == 92
def enc (b : Nat) : List Nat := if esc b = true then [92, hx (b / 16), hx (b % 16)] else [b]
def isStr (r : R D) (cs : List Nat) : Bool := match r with
  | .ok (.str z) => decide (z = tx cs)
  | _ => false
theorem isStr_eq {r : R D} {cs : List Nat} (h : isStr r cs = true) : r = .ok (.str (tx cs)) := by
  unfold isStr at h
  split at h
  · rw [of_decide_eq_true h]
  · cases h
def isInt (r : R D) (i : Int) : Bool := match r with
  | .ok (.int z) => decide (z = i)
  | _ => false
theorem isInt_eq {r : R D} {i : Int} (h : isInt r i = true) : r = .ok (.int i) := by
  unfold isInt at h
  split at h
  · rw [of_decide_eq_true h]
  · cases h
def isBl (r : R D) (i : Bool) : Bool := match r with
  | .ok (.bl z) => z == i
  | _ => false
theorem isBl_eq {r : R D} {i : Bool} (h : isBl r i = true) : r = .ok (.bl i) := by
  unfold isBl at h
  split at h
  · rw [beq_iff_eq.mp h]
  · cases h
theorem below {p : Nat → Bool} {n : Nat} (h : (List.range n).all p = true) {b : Nat} (hb : b < n) : p b = true := List.all_eq_true.mp h b (List.mem_range.mpr hb)
theorem pb_all : ((List.range 256).all fun b => isStr (m_print_byte [.int (b : Int)]) (enc b)) = true := by decide +kernel
theorem print_byte_ok {b : Nat} (h : b < 256) : m_print_byte [.int (b : Int)] = .ok (.str (tx (enc b))) := isStr_eq (below pb_all h)
theorem char_all : ((List.range 127).all fun b => esc b || isStr (m_l_char [.int ((b : Int) - 32 - if (37 : Int) < b then 1 else 0)]) [b]) = true := by decide +kernel
theorem char_ok {b : Nat} (h : esc b = false) : m_l_char [.int ((b : Int) - 32 - if (37 : Int) < b then 1 else 0)] = .ok (.str (tx [b])) := by
  have hb : b < 127 := by
    rcases Nat.lt_or_ge b 127 with q | q
    · exact q
    · have : esc b = true := by unfold esc; simp; omega
      rw [this] at h; cases h
  have q := below char_all hb
  rw [h, Bool.false_or] at q
  exact isStr_eq q
theorem hex_all : ((List.range 16).all fun n => isStr (ixS "0123456789abcdef" n) [hx n] && isInt (m_digit_of [.str (tx [hx n]), .int 16]) n && isBl (dIn (.str (tx [hx n])) d_ESCAPES) false) = true := by decide +kernel
theorem hex_ix {n : Nat} (h : n < 16) : ixS "0123456789abcdef" (n : Int) = .ok (.str (tx [hx n])) := by
  have q := below hex_all h
  simp only [Bool.and_eq_true] at q
  exact isStr_eq q.1.1
theorem hex_digit {n : Nat} (h : n < 16) : m_digit_of [.str (tx [hx n]), .int 16] = .ok (.int (n : Int)) := by
  have q := below hex_all h
  simp only [Bool.and_eq_true] at q
  exact isInt_eq q.1.2
theorem hex_esc {n : Nat} (h : n < 16) : dIn (.str (tx [hx n])) d_ESCAPES = .ok (.bl false) := by
  have q := below hex_all h
  simp only [Bool.and_eq_true] at q
  exact isBl_eq q.2
theorem enc_len (b : Nat) : (enc b).length ≤ 3 := by unfold enc; split <;> simp
def okB (bs : List Int) : Prop := ∀ b ∈ bs, 0 ≤ b ∧ b < 256
def encs (bs : List Int) : List Nat := (bs.map fun b => enc b.toNat).flatten
theorem encs_cons (b : Int) (bs : List Int) : encs (b :: bs) = enc b.toNat ++ encs bs := rfl
theorem encs_len : ∀ bs : List Int, (encs bs).length ≤ 3 * bs.length
  | [] => Nat.le_refl _
  | b :: bs => by
    have h1 := enc_len b.toNat
    have h2 := encs_len bs
    rw [encs_cons, List.length_append, List.length_cons]
    omega
theorem hx_rng {n : Nat} (h : n < 16) : 48 ≤ hx n ∧ hx n ≤ 102 := by unfold hx; split <;> omega
theorem enc_rng {b : Nat} (h : b < 256) : ∀ c ∈ enc b, 32 ≤ c ∧ c ≤ 126 := by
  intro c hc
  unfold enc at hc
  split at hc
  · have h1 := hx_rng (show b / 16 < 16 by omega)
    have h2 := hx_rng (show b % 16 < 16 by omega)
    simp only [List.mem_cons, List.not_mem_nil, or_false] at hc
    rcases hc with rfl | rfl | rfl <;> omega
  · rename_i q
    simp only [List.mem_singleton] at hc
    subst hc
    unfold esc at q
    simp at q
    omega
theorem encs_rng {bs : List Int} (h : okB bs) : ∀ c ∈ encs bs, 32 ≤ c ∧ c ≤ 126 := by
  intro c hc
  unfold encs at hc
  obtain ⟨l, hl, hc⟩ := List.mem_flatten.mp hc
  obtain ⟨b, hb, rfl⟩ := List.mem_map.mp hl
  have := h b hb
  exact enc_rng (by omega) c hc
/-! the due text -/
theorem in3 (b : Int) : dIn (.int b) (.lst [.int 34, .int 37, .int 92]) = .ok (.bl (decide (b = 34 ∨ b = 37 ∨ b = 92))) := by
  have q : dIn (.int b) (.lst [.int 34, .int 37, .int 92]) = .ok (.bl (inD (.int b) [.int 34, .int 37, .int 92])) := rfl
  rw [q]
  unfold inD
  simp only [List.any_cons, List.any_nil]
  unfold D.eqv
  congr 2
  by_cases h1 : b = 34
  · subst h1; rfl
  · by_cases h2 : b = 37
    · subst h2; rfl
    · by_cases h3 : b = 92
      · subst h3; rfl
      · simp [h1, h2, h3, Ne.symm h1, Ne.symm h2, Ne.symm h3]
theorem q_tx : (Str.ofString "\"") = tx [34] := by decide +kernel
theorem bs_tx : (Str.ofString "\\") = tx [92] := by decide +kernel
theorem nt_tx : (Str.ofString "\n\t") = tx [10, 9] := by decide +kernel
theorem n_tx : (Str.ofString "\n") = tx [10] := by decide +kernel
theorem e_tx : (Str.ofString "") = tx [] := by decide +kernel
theorem hexl : (Str.ofString "0123456789abcdef").length ≤ 100000 := by decide +kernel
theorem due_loop (dt : Sl) : ∀ (bs : List Int) (acc : List Nat) (s : Sl), okB bs → acc.length + 3 * bs.length ≤ 1000 →
    ∃ t, forGo (gN 2) b_l_due_1 (dI bs) [dt, .val (.str (tx acc)), s] = .nx [dt, .val (.str (tx (acc ++ encs bs))), t]
  | [], acc, s, _, _ => ⟨s, by rw [show encs [] = [] from rfl, List.append_nil]; rfl⟩
  | b :: bs, acc, s, h, hl => by
    obtain ⟨h0, h1⟩ := h b List.mem_cons_self
    obtain ⟨n, rfl⟩ : ∃ n : Nat, b = n := ⟨b.toNat, by omega⟩
    rw [List.length_cons] at hl
    have e : b_l_due_1 [dt, .val (.str (tx acc)), .val (.int (n : Int))] = .nx [dt, .val (.str (tx (acc ++ enc n))), .val (.int (n : Int))] := by
      unfold b_l_due_1 enc
      by_cases q : esc n = true
      · have d1 := hex_ix (n := n / 16) (by omega)
        have d2 := hex_ix (n := n % 16) (by omega)
        have e1 : ((n : Int) / 16) = ((n / 16 : Nat) : Int) := by omega
        have e2 : ((n : Int) % 16) = ((n % 16 : Nat) : Int) := by omega
        rw [if_pos q]
        have q2 : (n : Int) < 32 ∨ (126 : Int) < n ∨ ((n : Int) = 34 ∨ (n : Int) = 37 ∨ (n : Int) = 92) := by
          unfold esc at q
          simp at q
          omega
        have fin : (if True then (1 : Nat) else 2) = 1 := rfl
        by_cases a : (n : Int) < 32
        · simp only [bind_ok, bind_exc, bind_bad, ofE_ok, ofE_exc, vOf_v, ap_C, ap_V, ap_nil, ap_cons, ap_U, ap_B, ap_chain, ap_and, ap_or, ap_tup, ap_F, ap_M, ap_sl, ap_pN, ap_pS, ap_L, ap_tE, ap_tAn, ap_tO, ap_tN, ap_tY, ap_if, ap_lD, ap_lF, ap_lCat, catL_ok, ap_lRep, repL_ok, ap_lSl, slL_lst, slL_scr, ap_iD, itL_lst, itL_scr, ap_iT, itT_tup, itT_ktp, ap_iS, itS_str, ap_iR1, itR1_ok, add_i, add_s, add_l, addX_i, addX_s, sub_i, mul_i, div_i, mod_i, pow_i, shl_i, shr_i, and_i, or_i, xor_i, neg_i, not_b, lt_i, le_i, gt_i, ge_i, eq_i, eq_s, ne_i, ne_s, is_non, is_int, is_str, is_tup, is_lst, isnt_non, isnt_int, isnt_str, isnt_tup, toBl_b, toIn_i, ix_s, ix_l, ix_r, ix_t, ix_k, sl_s, sl_l, sl_r, sl_t, len_s, len_l, len_r, len_t, len_k, int_i, int_b, abs_i, min_i, max_i, tup_l, tup_t, list_l, list_r, list_t, isi_i, isi_b, isi_s, isi_l, isi_t, isi_n, ty_ii, ty_bi, ty_ss, ty_ll, ty_tt, ty_tl, ty_lt, ty_tn, find_s, lower_s, sq_nx, sq_sq, sq_a, sq_o, sq_x, sq_if, sq_ret, sq_retL, oOf_o, sq_retO, sq_app, lstK_l, sq_ext, sq_aug, sq_g, sq_frz, sq_br, sq_ct, sq_raise, ofG_some, nx_ap, thenS_nx, thenS_rt, thenS_exc, sq_for, sq_wh, endV_v, endV_o, endV_n, endV_x, endL_o, endL_x, gN_ap, List.getElem?_cons_zero, List.getElem?_cons_succ, List.set_cons_zero, List.set_cons_succ, List.length_cons, List.length_nil, decide_eq_true_eq, Bool.not_eq_true, reduceIte, Bool.false_eq_true, decide_true, decide_false, Nat.reduceAdd, Nat.reduceLeDiff, Nat.reduceLT, Bool.not_true, Bool.not_false, List.nil_append, List.cons_append, List.map_cons, List.map_nil, List.replicate_succ, List.replicate_zero, Bool.not_eq_eq_eq_not, decide_eq_false_iff_not, and_self, and_true, true_and, and_false, false_and, or_true, true_or, or_false, false_or, or_self, Int.reduceLE, Int.reduceLT, Int.reduceNeg, Int.reduceAdd, Int.reduceSub, Int.reduceMul, Int.reduceDiv, Int.reduceMod, Int.reduceEq, Int.reduceToNat, Nat.reduceEqDiff, frz_zero, frz_succ, gT_tup, gT_ktp, gC_ap, gE_nil, cast_0, cast_1, cast_2, cast_3, cast_4, cast_5, cast_6, cast_7, cast_8, cast_9, ty_bs, ty_is, frz_zeroV, oOfR_o, ap_lenO, ap_ixO, tOf_some, pOf_fn, ap_P, ap_iZT, itZT_ok, zipD_cons, zipD_nil, str_i, sq_set, oOfS_o, set_ints, eq_true a, bs_tx, tx_len, tx_cat, hexl, show CDivW (n : Int) 16 from ⟨by decide, by decide⟩, e1, e2, d1, d2, List.length_append, show acc.length + 1 ≤ 100000 by omega, show acc.length + 1 + 1 ≤ 100000 by omega, show acc.length + 1 + 1 + 1 ≤ 100000 by omega, List.append_assoc]
        · by_cases a2 : (126 : Int) < n
          · simp only [bind_ok, bind_exc, bind_bad, ofE_ok, ofE_exc, vOf_v, ap_C, ap_V, ap_nil, ap_cons, ap_U, ap_B, ap_chain, ap_and, ap_or, ap_tup, ap_F, ap_M, ap_sl, ap_pN, ap_pS, ap_L, ap_tE, ap_tAn, ap_tO, ap_tN, ap_tY, ap_if, ap_lD, ap_lF, ap_lCat, catL_ok, ap_lRep, repL_ok, ap_lSl, slL_lst, slL_scr, ap_iD, itL_lst, itL_scr, ap_iT, itT_tup, itT_ktp, ap_iS, itS_str, ap_iR1, itR1_ok, add_i, add_s, add_l, addX_i, addX_s, sub_i, mul_i, div_i, mod_i, pow_i, shl_i, shr_i, and_i, or_i, xor_i, neg_i, not_b, lt_i, le_i, gt_i, ge_i, eq_i, eq_s, ne_i, ne_s, is_non, is_int, is_str, is_tup, is_lst, isnt_non, isnt_int, isnt_str, isnt_tup, toBl_b, toIn_i, ix_s, ix_l, ix_r, ix_t, ix_k, sl_s, sl_l, sl_r, sl_t, len_s, len_l, len_r, len_t, len_k, int_i, int_b, abs_i, min_i, max_i, tup_l, tup_t, list_l, list_r, list_t, isi_i, isi_b, isi_s, isi_l, isi_t, isi_n, ty_ii, ty_bi, ty_ss, ty_ll, ty_tt, ty_tl, ty_lt, ty_tn, find_s, lower_s, sq_nx, sq_sq, sq_a, sq_o, sq_x, sq_if, sq_ret, sq_retL, oOf_o, sq_retO, sq_app, lstK_l, sq_ext, sq_aug, sq_g, sq_frz, sq_br, sq_ct, sq_raise, ofG_some, nx_ap, thenS_nx, thenS_rt, thenS_exc, sq_for, sq_wh, endV_v, endV_o, endV_n, endV_x, endL_o, endL_x, gN_ap, List.getElem?_cons_zero, List.getElem?_cons_succ, List.set_cons_zero, List.set_cons_succ, List.length_cons, List.length_nil, decide_eq_true_eq, Bool.not_eq_true, reduceIte, Bool.false_eq_true, decide_true, decide_false, Nat.reduceAdd, Nat.reduceLeDiff, Nat.reduceLT, Bool.not_true, Bool.not_false, List.nil_append, List.cons_append, List.map_cons, List.map_nil, List.replicate_succ, List.replicate_zero, Bool.not_eq_eq_eq_not, decide_eq_false_iff_not, and_self, and_true, true_and, and_false, false_and, or_true, true_or, or_false, false_or, or_self, Int.reduceLE, Int.reduceLT, Int.reduceNeg, Int.reduceAdd, Int.reduceSub, Int.reduceMul, Int.reduceDiv, Int.reduceMod, Int.reduceEq, Int.reduceToNat, Nat.reduceEqDiff, frz_zero, frz_succ, gT_tup, gT_ktp, gC_ap, gE_nil, cast_0, cast_1, cast_2, cast_3, cast_4, cast_5, cast_6, cast_7, cast_8, cast_9, ty_bs, ty_is, frz_zeroV, oOfR_o, ap_lenO, ap_ixO, tOf_some, pOf_fn, ap_P, ap_iZT, itZT_ok, zipD_cons, zipD_nil, str_i, sq_set, oOfS_o, set_ints, eq_false a, eq_true a2, bs_tx, tx_len, tx_cat, hexl, show CDivW (n : Int) 16 from ⟨by decide, by decide⟩, e1, e2, d1, d2, List.length_append, show acc.length + 1 ≤ 100000 by omega, show acc.length + 1 + 1 ≤ 100000 by omega, show acc.length + 1 + 1 + 1 ≤ 100000 by omega, List.append_assoc]
          · have a3 := (q2.resolve_left a).resolve_left a2
            simp only [bind_ok, bind_exc, bind_bad, ofE_ok, ofE_exc, vOf_v, ap_C, ap_V, ap_nil, ap_cons, ap_U, ap_B, ap_chain, ap_and, ap_or, ap_tup, ap_F, ap_M, ap_sl, ap_pN, ap_pS, ap_L, ap_tE, ap_tAn, ap_tO, ap_tN, ap_tY, ap_if, ap_lD, ap_lF, ap_lCat, catL_ok, ap_lRep, repL_ok, ap_lSl, slL_lst, slL_scr, ap_iD, itL_lst, itL_scr, ap_iT, itT_tup, itT_ktp, ap_iS, itS_str, ap_iR1, itR1_ok, add_i, add_s, add_l, addX_i, addX_s, sub_i, mul_i, div_i, mod_i, pow_i, shl_i, shr_i, and_i, or_i, xor_i, neg_i, not_b, lt_i, le_i, gt_i, ge_i, eq_i, eq_s, ne_i, ne_s, is_non, is_int, is_str, is_tup, is_lst, isnt_non, isnt_int, isnt_str, isnt_tup, toBl_b, toIn_i, ix_s, ix_l, ix_r, ix_t, ix_k, sl_s, sl_l, sl_r, sl_t, len_s, len_l, len_r, len_t, len_k, int_i, int_b, abs_i, min_i, max_i, tup_l, tup_t, list_l, list_r, list_t, isi_i, isi_b, isi_s, isi_l, isi_t, isi_n, ty_ii, ty_bi, ty_ss, ty_ll, ty_tt, ty_tl, ty_lt, ty_tn, find_s, lower_s, sq_nx, sq_sq, sq_a, sq_o, sq_x, sq_if, sq_ret, sq_retL, oOf_o, sq_retO, sq_app, lstK_l, sq_ext, sq_aug, sq_g, sq_frz, sq_br, sq_ct, sq_raise, ofG_some, nx_ap, thenS_nx, thenS_rt, thenS_exc, sq_for, sq_wh, endV_v, endV_o, endV_n, endV_x, endL_o, endL_x, gN_ap, List.getElem?_cons_zero, List.getElem?_cons_succ, List.set_cons_zero, List.set_cons_succ, List.length_cons, List.length_nil, decide_eq_true_eq, Bool.not_eq_true, reduceIte, Bool.false_eq_true, decide_true, decide_false, Nat.reduceAdd, Nat.reduceLeDiff, Nat.reduceLT, Bool.not_true, Bool.not_false, List.nil_append, List.cons_append, List.map_cons, List.map_nil, List.replicate_succ, List.replicate_zero, Bool.not_eq_eq_eq_not, decide_eq_false_iff_not, and_self, and_true, true_and, and_false, false_and, or_true, true_or, or_false, false_or, or_self, Int.reduceLE, Int.reduceLT, Int.reduceNeg, Int.reduceAdd, Int.reduceSub, Int.reduceMul, Int.reduceDiv, Int.reduceMod, Int.reduceEq, Int.reduceToNat, Nat.reduceEqDiff, frz_zero, frz_succ, gT_tup, gT_ktp, gC_ap, gE_nil, cast_0, cast_1, cast_2, cast_3, cast_4, cast_5, cast_6, cast_7, cast_8, cast_9, ty_bs, ty_is, frz_zeroV, oOfR_o, ap_lenO, ap_ixO, tOf_some, pOf_fn, ap_P, ap_iZT, itZT_ok, zipD_cons, zipD_nil, str_i, sq_set, oOfS_o, set_ints, eq_false a, eq_false a2, in3, eq_true a3, bs_tx, tx_len, tx_cat, hexl, show CDivW (n : Int) 16 from ⟨by decide, by decide⟩, e1, e2, d1, d2, List.length_append, show acc.length + 1 ≤ 100000 by omega, show acc.length + 1 + 1 ≤ 100000 by omega, show acc.length + 1 + 1 + 1 ≤ 100000 by omega, List.append_assoc]
      · have q0 : esc n = false := by simpa using q
        rw [if_neg q]
        have hc := char_ok q0
        have q2 : ¬ (n : Int) < 32 ∧ ¬ (126 : Int) < n ∧ ¬ ((n : Int) = 34 ∨ (n : Int) = 37 ∨ (n : Int) = 92) := by
          unfold esc at q0
          simp at q0
          omega
        simp only [bind_ok, bind_exc, bind_bad, ofE_ok, ofE_exc, vOf_v, ap_C, ap_V, ap_nil, ap_cons, ap_U, ap_B, ap_chain, ap_and, ap_or, ap_tup, ap_F, ap_M, ap_sl, ap_pN, ap_pS, ap_L, ap_tE, ap_tAn, ap_tO, ap_tN, ap_tY, ap_if, ap_lD, ap_lF, ap_lCat, catL_ok, ap_lRep, repL_ok, ap_lSl, slL_lst, slL_scr, ap_iD, itL_lst, itL_scr, ap_iT, itT_tup, itT_ktp, ap_iS, itS_str, ap_iR1, itR1_ok, add_i, add_s, add_l, addX_i, addX_s, sub_i, mul_i, div_i, mod_i, pow_i, shl_i, shr_i, and_i, or_i, xor_i, neg_i, not_b, lt_i, le_i, gt_i, ge_i, eq_i, eq_s, ne_i, ne_s, is_non, is_int, is_str, is_tup, is_lst, isnt_non, isnt_int, isnt_str, isnt_tup, toBl_b, toIn_i, ix_s, ix_l, ix_r, ix_t, ix_k, sl_s, sl_l, sl_r, sl_t, len_s, len_l, len_r, len_t, len_k, int_i, int_b, abs_i, min_i, max_i, tup_l, tup_t, list_l, list_r, list_t, isi_i, isi_b, isi_s, isi_l, isi_t, isi_n, ty_ii, ty_bi, ty_ss, ty_ll, ty_tt, ty_tl, ty_lt, ty_tn, find_s, lower_s, sq_nx, sq_sq, sq_a, sq_o, sq_x, sq_if, sq_ret, sq_retL, oOf_o, sq_retO, sq_app, lstK_l, sq_ext, sq_aug, sq_g, sq_frz, sq_br, sq_ct, sq_raise, ofG_some, nx_ap, thenS_nx, thenS_rt, thenS_exc, sq_for, sq_wh, endV_v, endV_o, endV_n, endV_x, endL_o, endL_x, gN_ap, List.getElem?_cons_zero, List.getElem?_cons_succ, List.set_cons_zero, List.set_cons_succ, List.length_cons, List.length_nil, decide_eq_true_eq, Bool.not_eq_true, reduceIte, Bool.false_eq_true, decide_true, decide_false, Nat.reduceAdd, Nat.reduceLeDiff, Nat.reduceLT, Bool.not_true, Bool.not_false, List.nil_append, List.cons_append, List.map_cons, List.map_nil, List.replicate_succ, List.replicate_zero, Bool.not_eq_eq_eq_not, decide_eq_false_iff_not, and_self, and_true, true_and, and_false, false_and, or_true, true_or, or_false, false_or, or_self, Int.reduceLE, Int.reduceLT, Int.reduceNeg, Int.reduceAdd, Int.reduceSub, Int.reduceMul, Int.reduceDiv, Int.reduceMod, Int.reduceEq, Int.reduceToNat, Nat.reduceEqDiff, frz_zero, frz_succ, gT_tup, gT_ktp, gC_ap, gE_nil, cast_0, cast_1, cast_2, cast_3, cast_4, cast_5, cast_6, cast_7, cast_8, cast_9, ty_bs, ty_is, frz_zeroV, oOfR_o, ap_lenO, ap_ixO, tOf_some, pOf_fn, ap_P, ap_iZT, itZT_ok, zipD_cons, zipD_nil, str_i, sq_set, oOfS_o, set_ints, eq_false q2.1, eq_false q2.2.1, in3, eq_false q2.2.2, hc, tx_len, tx_cat, show acc.length + 1 ≤ 100000 by omega]
    rw [dI, List.map_cons, forGo_cons gN_ap]
    simp only [bind_ok, bind_exc, bind_bad, ofE_ok, ofE_exc, vOf_v, ap_C, ap_V, ap_nil, ap_cons, ap_U, ap_B, ap_chain, ap_and, ap_or, ap_tup, ap_F, ap_M, ap_sl, ap_pN, ap_pS, ap_L, ap_tE, ap_tAn, ap_tO, ap_tN, ap_tY, ap_if, ap_lD, ap_lF, ap_lCat, catL_ok, ap_lRep, repL_ok, ap_lSl, slL_lst, slL_scr, ap_iD, itL_lst, itL_scr, ap_iT, itT_tup, itT_ktp, ap_iS, itS_str, ap_iR1, itR1_ok, add_i, add_s, add_l, addX_i, addX_s, sub_i, mul_i, div_i, mod_i, pow_i, shl_i, shr_i, and_i, or_i, xor_i, neg_i, not_b, lt_i, le_i, gt_i, ge_i, eq_i, eq_s, ne_i, ne_s, is_non, is_int, is_str, is_tup, is_lst, isnt_non, isnt_int, isnt_str, isnt_tup, toBl_b, toIn_i, ix_s, ix_l, ix_r, ix_t, ix_k, sl_s, sl_l, sl_r, sl_t, len_s, len_l, len_r, len_t, len_k, int_i, int_b, abs_i, min_i, max_i, tup_l, tup_t, list_l, list_r, list_t, isi_i, isi_b, isi_s, isi_l, isi_t, isi_n, ty_ii, ty_bi, ty_ss, ty_ll, ty_tt, ty_tl, ty_lt, ty_tn, find_s, lower_s, sq_nx, sq_sq, sq_a, sq_o, sq_x, sq_if, sq_ret, sq_retL, oOf_o, sq_retO, sq_app, lstK_l, sq_ext, sq_aug, sq_g, sq_frz, sq_br, sq_ct, sq_raise, ofG_some, nx_ap, thenS_nx, thenS_rt, thenS_exc, sq_for, sq_wh, endV_v, endV_o, endV_n, endV_x, endL_o, endL_x, gN_ap, List.getElem?_cons_zero, List.getElem?_cons_succ, List.set_cons_zero, List.set_cons_succ, List.length_cons, List.length_nil, decide_eq_true_eq, Bool.not_eq_true, reduceIte, Bool.false_eq_true, decide_true, decide_false, Nat.reduceAdd, Nat.reduceLeDiff, Nat.reduceLT, Bool.not_true, Bool.not_false, List.nil_append, List.cons_append, List.map_cons, List.map_nil, List.replicate_succ, List.replicate_zero, Bool.not_eq_eq_eq_not, decide_eq_false_iff_not, and_self, and_true, true_and, and_false, false_and, or_true, true_or, or_false, false_or, or_self, Int.reduceLE, Int.reduceLT, Int.reduceNeg, Int.reduceAdd, Int.reduceSub, Int.reduceMul, Int.reduceDiv, Int.reduceMod, Int.reduceEq, Int.reduceToNat, Nat.reduceEqDiff, frz_zero, frz_succ, gT_tup, gT_ktp, gC_ap, gE_nil, cast_0, cast_1, cast_2, cast_3, cast_4, cast_5, cast_6, cast_7, cast_8, cast_9, ty_bs, ty_is, frz_zeroV, oOfR_o, ap_lenO, ap_ixO, tOf_some, pOf_fn, ap_P, ap_iZT, itZT_ok, zipD_cons, zipD_nil, str_i, sq_set, oOfS_o, set_ints, e]
    obtain ⟨t, r⟩ := due_loop dt bs (acc ++ enc n) (.val (.int (n : Int))) (fun x hx => h x (List.mem_cons_of_mem _ hx)) (by have := enc_len n; rw [List.length_append]; omega)
    exact ⟨t, by rw [r, encs_cons, Int.toNat_natCast, List.append_assoc]⟩
theorem due_ok {bs : List Int} (h : okB bs) (hl : bs.length ≤ 63) : m_l_due [.lst (dI bs)] = .ok (.str (tx (34 :: (encs bs ++ [34])))) := by
  obtain ⟨t, q⟩ := due_loop (.val (.lst (dI bs))) bs [34] .un h (by rw [List.length_singleton]; omega)
  have hn := encs_len bs
  rw [e_l_due]
  unfold b_l_due
  simp only [bind_ok, bind_exc, bind_bad, ofE_ok, ofE_exc, vOf_v, ap_C, ap_V, ap_nil, ap_cons, ap_U, ap_B, ap_chain, ap_and, ap_or, ap_tup, ap_F, ap_M, ap_sl, ap_pN, ap_pS, ap_L, ap_tE, ap_tAn, ap_tO, ap_tN, ap_tY, ap_if, ap_lD, ap_lF, ap_lCat, catL_ok, ap_lRep, repL_ok, ap_lSl, slL_lst, slL_scr, ap_iD, itL_lst, itL_scr, ap_iT, itT_tup, itT_ktp, ap_iS, itS_str, ap_iR1, itR1_ok, add_i, add_s, add_l, addX_i, addX_s, sub_i, mul_i, div_i, mod_i, pow_i, shl_i, shr_i, and_i, or_i, xor_i, neg_i, not_b, lt_i, le_i, gt_i, ge_i, eq_i, eq_s, ne_i, ne_s, is_non, is_int, is_str, is_tup, is_lst, isnt_non, isnt_int, isnt_str, isnt_tup, toBl_b, toIn_i, ix_s, ix_l, ix_r, ix_t, ix_k, sl_s, sl_l, sl_r, sl_t, len_s, len_l, len_r, len_t, len_k, int_i, int_b, abs_i, min_i, max_i, tup_l, tup_t, list_l, list_r, list_t, isi_i, isi_b, isi_s, isi_l, isi_t, isi_n, ty_ii, ty_bi, ty_ss, ty_ll, ty_tt, ty_tl, ty_lt, ty_tn, find_s, lower_s, sq_nx, sq_sq, sq_a, sq_o, sq_x, sq_if, sq_ret, sq_retL, oOf_o, sq_retO, sq_app, lstK_l, sq_ext, sq_aug, sq_g, sq_frz, sq_br, sq_ct, sq_raise, ofG_some, nx_ap, thenS_nx, thenS_rt, thenS_exc, sq_for, sq_wh, endV_v, endV_o, endV_n, endV_x, endL_o, endL_x, gN_ap, List.getElem?_cons_zero, List.getElem?_cons_succ, List.set_cons_zero, List.set_cons_succ, List.length_cons, List.length_nil, decide_eq_true_eq, Bool.not_eq_true, reduceIte, Bool.false_eq_true, decide_true, decide_false, Nat.reduceAdd, Nat.reduceLeDiff, Nat.reduceLT, Bool.not_true, Bool.not_false, List.nil_append, List.cons_append, List.map_cons, List.map_nil, List.replicate_succ, List.replicate_zero, Bool.not_eq_eq_eq_not, decide_eq_false_iff_not, and_self, and_true, true_and, and_false, false_and, or_true, true_or, or_false, false_or, or_self, Int.reduceLE, Int.reduceLT, Int.reduceNeg, Int.reduceAdd, Int.reduceSub, Int.reduceMul, Int.reduceDiv, Int.reduceMod, Int.reduceEq, Int.reduceToNat, Nat.reduceEqDiff, frz_zero, frz_succ, gT_tup, gT_ktp, gC_ap, gE_nil, cast_0, cast_1, cast_2, cast_3, cast_4, cast_5, cast_6, cast_7, cast_8, cast_9, ty_bs, ty_is, frz_zeroV, oOfR_o, ap_lenO, ap_ixO, tOf_some, pOf_fn, ap_P, ap_iZT, itZT_ok, zipD_cons, zipD_nil, str_i, sq_set, oOfS_o, set_ints, q_tx, q, tx_len, tx_cat, List.length_append, show (encs bs).length + 1 + 1 ≤ 100000 by omega, List.append_assoc]
/-! the printed text -/
theorem bytes_lc {it : SA} {env : Dm.Env} {bs : List Int} (hi : it env = .ok (dI bs)) (h : okB bs) (hl : bs.length ≤ 63) (he : ∀ b : Int, (wipeS env [1]).set 1 (.val (.int b)) = [env[0]!, .val (.int b)]) : lLc it (gN 1) tY (eF m_print_byte (eCons (eV 1) eNil)) [1] env = .ok (dS ((bs.map fun b => enc b.toNat).map tx)) := by
  have e : dS ((bs.map fun b => enc b.toNat).map tx) = (dI bs).map fun d => match d with
      | .int b => .str (tx (enc b.toNat))
      | _ => .non := by
    rw [dS, dI, List.map_map, List.map_map, List.map_map]
    rfl
  rw [e]
  refine lc_map _ hi (by rw [List.length_map]; omega) fun d hd => ?_
  obtain ⟨b, hb, rfl⟩ := List.mem_map.mp hd
  obtain ⟨h0, h1⟩ := h b hb
  refine ⟨_, gN_ap, ?_⟩
  rw [he]
  have q := print_byte_ok (b := b.toNat) (by omega)
  rw [Int.toNat_of_nonneg h0] at q
  simp only [bind_ok, bind_exc, bind_bad, ofE_ok, ofE_exc, vOf_v, ap_C, ap_V, ap_nil, ap_cons, ap_U, ap_B, ap_chain, ap_and, ap_or, ap_tup, ap_F, ap_M, ap_sl, ap_pN, ap_pS, ap_L, ap_tE, ap_tAn, ap_tO, ap_tN, ap_tY, ap_if, ap_lD, ap_lF, ap_lCat, catL_ok, ap_lRep, repL_ok, ap_lSl, slL_lst, slL_scr, ap_iD, itL_lst, itL_scr, ap_iT, itT_tup, itT_ktp, ap_iS, itS_str, ap_iR1, itR1_ok, add_i, add_s, add_l, addX_i, addX_s, sub_i, mul_i, div_i, mod_i, pow_i, shl_i, shr_i, and_i, or_i, xor_i, neg_i, not_b, lt_i, le_i, gt_i, ge_i, eq_i, eq_s, ne_i, ne_s, is_non, is_int, is_str, is_tup, is_lst, isnt_non, isnt_int, isnt_str, isnt_tup, toBl_b, toIn_i, ix_s, ix_l, ix_r, ix_t, ix_k, sl_s, sl_l, sl_r, sl_t, len_s, len_l, len_r, len_t, len_k, int_i, int_b, abs_i, min_i, max_i, tup_l, tup_t, list_l, list_r, list_t, isi_i, isi_b, isi_s, isi_l, isi_t, isi_n, ty_ii, ty_bi, ty_ss, ty_ll, ty_tt, ty_tl, ty_lt, ty_tn, find_s, lower_s, sq_nx, sq_sq, sq_a, sq_o, sq_x, sq_if, sq_ret, sq_retL, oOf_o, sq_retO, sq_app, lstK_l, sq_ext, sq_aug, sq_g, sq_frz, sq_br, sq_ct, sq_raise, ofG_some, nx_ap, thenS_nx, thenS_rt, thenS_exc, sq_for, sq_wh, endV_v, endV_o, endV_n, endV_x, endL_o, endL_x, gN_ap, List.getElem?_cons_zero, List.getElem?_cons_succ, List.set_cons_zero, List.set_cons_succ, List.length_cons, List.length_nil, decide_eq_true_eq, Bool.not_eq_true, reduceIte, Bool.false_eq_true, decide_true, decide_false, Nat.reduceAdd, Nat.reduceLeDiff, Nat.reduceLT, Bool.not_true, Bool.not_false, List.nil_append, List.cons_append, List.map_cons, List.map_nil, List.replicate_succ, List.replicate_zero, Bool.not_eq_eq_eq_not, decide_eq_false_iff_not, and_self, and_true, true_and, and_false, false_and, or_true, true_or, or_false, false_or, or_self, Int.reduceLE, Int.reduceLT, Int.reduceNeg, Int.reduceAdd, Int.reduceSub, Int.reduceMul, Int.reduceDiv, Int.reduceMod, Int.reduceEq, Int.reduceToNat, Nat.reduceEqDiff, frz_zero, frz_succ, gT_tup, gT_ktp, gC_ap, gE_nil, cast_0, cast_1, cast_2, cast_3, cast_4, cast_5, cast_6, cast_7, cast_8, cast_9, ty_bs, ty_is, frz_zeroV, oOfR_o, ap_lenO, ap_ixO, tOf_some, pOf_fn, ap_P, ap_iZT, itZT_ok, zipD_cons, zipD_nil, str_i, sq_set, oOfS_o, set_ints, q]
theorem itlt_l {xs : List D} : itLT (.lst xs) = .ok xs := rfl
theorem itlt_t {xs : List D} : itLT (.tup xs) = .ok xs := rfl
theorem ap_lt {a : SE} {env : Dm.Env} : iLT a env = (a env).bind itLT := rfl
theorem print_l {bs : List Int} (h : okB bs) (hl : bs.length ≤ 63) : m_print_string [.lst (dI bs)] = .ok (.str (tx (34 :: (encs bs ++ [34])))) := by
  have hn := encs_len bs
  have q := bytes_lc (it := iLT (eV 0)) (env := [.val (.lst (dI bs)), .un]) (by simp only [bind_ok, bind_exc, bind_bad, ofE_ok, ofE_exc, vOf_v, ap_C, ap_V, ap_nil, ap_cons, ap_U, ap_B, ap_chain, ap_and, ap_or, ap_tup, ap_F, ap_M, ap_sl, ap_pN, ap_pS, ap_L, ap_tE, ap_tAn, ap_tO, ap_tN, ap_tY, ap_if, ap_lD, ap_lF, ap_lCat, catL_ok, ap_lRep, repL_ok, ap_lSl, slL_lst, slL_scr, ap_iD, itL_lst, itL_scr, ap_iT, itT_tup, itT_ktp, ap_iS, itS_str, ap_iR1, itR1_ok, add_i, add_s, add_l, addX_i, addX_s, sub_i, mul_i, div_i, mod_i, pow_i, shl_i, shr_i, and_i, or_i, xor_i, neg_i, not_b, lt_i, le_i, gt_i, ge_i, eq_i, eq_s, ne_i, ne_s, is_non, is_int, is_str, is_tup, is_lst, isnt_non, isnt_int, isnt_str, isnt_tup, toBl_b, toIn_i, ix_s, ix_l, ix_r, ix_t, ix_k, sl_s, sl_l, sl_r, sl_t, len_s, len_l, len_r, len_t, len_k, int_i, int_b, abs_i, min_i, max_i, tup_l, tup_t, list_l, list_r, list_t, isi_i, isi_b, isi_s, isi_l, isi_t, isi_n, ty_ii, ty_bi, ty_ss, ty_ll, ty_tt, ty_tl, ty_lt, ty_tn, find_s, lower_s, sq_nx, sq_sq, sq_a, sq_o, sq_x, sq_if, sq_ret, sq_retL, oOf_o, sq_retO, sq_app, lstK_l, sq_ext, sq_aug, sq_g, sq_frz, sq_br, sq_ct, sq_raise, ofG_some, nx_ap, thenS_nx, thenS_rt, thenS_exc, sq_for, sq_wh, endV_v, endV_o, endV_n, endV_x, endL_o, endL_x, gN_ap, List.getElem?_cons_zero, List.getElem?_cons_succ, List.set_cons_zero, List.set_cons_succ, List.length_cons, List.length_nil, decide_eq_true_eq, Bool.not_eq_true, reduceIte, Bool.false_eq_true, decide_true, decide_false, Nat.reduceAdd, Nat.reduceLeDiff, Nat.reduceLT, Bool.not_true, Bool.not_false, List.nil_append, List.cons_append, List.map_cons, List.map_nil, List.replicate_succ, List.replicate_zero, Bool.not_eq_eq_eq_not, decide_eq_false_iff_not, and_self, and_true, true_and, and_false, false_and, or_true, true_or, or_false, false_or, or_self, Int.reduceLE, Int.reduceLT, Int.reduceNeg, Int.reduceAdd, Int.reduceSub, Int.reduceMul, Int.reduceDiv, Int.reduceMod, Int.reduceEq, Int.reduceToNat, Nat.reduceEqDiff, frz_zero, frz_succ, gT_tup, gT_ktp, gC_ap, gE_nil, cast_0, cast_1, cast_2, cast_3, cast_4, cast_5, cast_6, cast_7, cast_8, cast_9, ty_bs, ty_is, frz_zeroV, oOfR_o, ap_lenO, ap_ixO, tOf_some, pOf_fn, ap_P, ap_iZT, itZT_ok, zipD_cons, zipD_nil, str_i, sq_set, oOfS_o, set_ints, ap_lt, itlt_l]) h hl fun b => rfl
  have j : mJoin (.str (tx [])) [.lst (dS ((bs.map fun b => enc b.toNat).map tx))] = .ok (.str (tx (encs bs))) := join_ok (ys := bs.map fun b => enc b.toNat) (by show (encs bs).length ≤ _; omega)
  rw [e_print_string]
  unfold b_print_string
  simp only [bind_ok, bind_exc, bind_bad, ofE_ok, ofE_exc, vOf_v, ap_C, ap_V, ap_nil, ap_cons, ap_U, ap_B, ap_chain, ap_and, ap_or, ap_tup, ap_F, ap_M, ap_sl, ap_pN, ap_pS, ap_L, ap_tE, ap_tAn, ap_tO, ap_tN, ap_tY, ap_if, ap_lD, ap_lF, ap_lCat, catL_ok, ap_lRep, repL_ok, ap_lSl, slL_lst, slL_scr, ap_iD, itL_lst, itL_scr, ap_iT, itT_tup, itT_ktp, ap_iS, itS_str, ap_iR1, itR1_ok, add_i, add_s, add_l, addX_i, addX_s, sub_i, mul_i, div_i, mod_i, pow_i, shl_i, shr_i, and_i, or_i, xor_i, neg_i, not_b, lt_i, le_i, gt_i, ge_i, eq_i, eq_s, ne_i, ne_s, is_non, is_int, is_str, is_tup, is_lst, isnt_non, isnt_int, isnt_str, isnt_tup, toBl_b, toIn_i, ix_s, ix_l, ix_r, ix_t, ix_k, sl_s, sl_l, sl_r, sl_t, len_s, len_l, len_r, len_t, len_k, int_i, int_b, abs_i, min_i, max_i, tup_l, tup_t, list_l, list_r, list_t, isi_i, isi_b, isi_s, isi_l, isi_t, isi_n, ty_ii, ty_bi, ty_ss, ty_ll, ty_tt, ty_tl, ty_lt, ty_tn, find_s, lower_s, sq_nx, sq_sq, sq_a, sq_o, sq_x, sq_if, sq_ret, sq_retL, oOf_o, sq_retO, sq_app, lstK_l, sq_ext, sq_aug, sq_g, sq_frz, sq_br, sq_ct, sq_raise, ofG_some, nx_ap, thenS_nx, thenS_rt, thenS_exc, sq_for, sq_wh, endV_v, endV_o, endV_n, endV_x, endL_o, endL_x, gN_ap, List.getElem?_cons_zero, List.getElem?_cons_succ, List.set_cons_zero, List.set_cons_succ, List.length_cons, List.length_nil, decide_eq_true_eq, Bool.not_eq_true, reduceIte, Bool.false_eq_true, decide_true, decide_false, Nat.reduceAdd, Nat.reduceLeDiff, Nat.reduceLT, Bool.not_true, Bool.not_false, List.nil_append, List.cons_append, List.map_cons, List.map_nil, List.replicate_succ, List.replicate_zero, Bool.not_eq_eq_eq_not, decide_eq_false_iff_not, and_self, and_true, true_and, and_false, false_and, or_true, true_or, or_false, false_or, or_self, Int.reduceLE, Int.reduceLT, Int.reduceNeg, Int.reduceAdd, Int.reduceSub, Int.reduceMul, Int.reduceDiv, Int.reduceMod, Int.reduceEq, Int.reduceToNat, Nat.reduceEqDiff, frz_zero, frz_succ, gT_tup, gT_ktp, gC_ap, gE_nil, cast_0, cast_1, cast_2, cast_3, cast_4, cast_5, cast_6, cast_7, cast_8, cast_9, ty_bs, ty_is, frz_zeroV, oOfR_o, ap_lenO, ap_ixO, tOf_some, pOf_fn, ap_P, ap_iZT, itZT_ok, zipD_cons, zipD_nil, str_i, sq_set, oOfS_o, set_ints, q, q_tx, e_tx, j, show isTy .str (.str (tx [])) = true from rfl, tx_len, tx_cat, List.length_append, show 1 + (encs bs).length ≤ 100000 by omega, show (encs bs).length ≤ 99999 by omega, show (encs bs).length ≤ 99998 by omega]
theorem print_t {bs : List Int} (h : okB bs) (hl : bs.length ≤ 63) : m_print_string [.tup (dI bs)] = .ok (.str (tx (34 :: (encs bs ++ [34])))) := by
  have hn := encs_len bs
  have q := bytes_lc (it := iLT (eV 0)) (env := [.val (.tup (dI bs)), .un]) (by simp only [bind_ok, bind_exc, bind_bad, ofE_ok, ofE_exc, vOf_v, ap_C, ap_V, ap_nil, ap_cons, ap_U, ap_B, ap_chain, ap_and, ap_or, ap_tup, ap_F, ap_M, ap_sl, ap_pN, ap_pS, ap_L, ap_tE, ap_tAn, ap_tO, ap_tN, ap_tY, ap_if, ap_lD, ap_lF, ap_lCat, catL_ok, ap_lRep, repL_ok, ap_lSl, slL_lst, slL_scr, ap_iD, itL_lst, itL_scr, ap_iT, itT_tup, itT_ktp, ap_iS, itS_str, ap_iR1, itR1_ok, add_i, add_s, add_l, addX_i, addX_s, sub_i, mul_i, div_i, mod_i, pow_i, shl_i, shr_i, and_i, or_i, xor_i, neg_i, not_b, lt_i, le_i, gt_i, ge_i, eq_i, eq_s, ne_i, ne_s, is_non, is_int, is_str, is_tup, is_lst, isnt_non, isnt_int, isnt_str, isnt_tup, toBl_b, toIn_i, ix_s, ix_l, ix_r, ix_t, ix_k, sl_s, sl_l, sl_r, sl_t, len_s, len_l, len_r, len_t, len_k, int_i, int_b, abs_i, min_i, max_i, tup_l, tup_t, list_l, list_r, list_t, isi_i, isi_b, isi_s, isi_l, isi_t, isi_n, ty_ii, ty_bi, ty_ss, ty_ll, ty_tt, ty_tl, ty_lt, ty_tn, find_s, lower_s, sq_nx, sq_sq, sq_a, sq_o, sq_x, sq_if, sq_ret, sq_retL, oOf_o, sq_retO, sq_app, lstK_l, sq_ext, sq_aug, sq_g, sq_frz, sq_br, sq_ct, sq_raise, ofG_some, nx_ap, thenS_nx, thenS_rt, thenS_exc, sq_for, sq_wh, endV_v, endV_o, endV_n, endV_x, endL_o, endL_x, gN_ap, List.getElem?_cons_zero, List.getElem?_cons_succ, List.set_cons_zero, List.set_cons_succ, List.length_cons, List.length_nil, decide_eq_true_eq, Bool.not_eq_true, reduceIte, Bool.false_eq_true, decide_true, decide_false, Nat.reduceAdd, Nat.reduceLeDiff, Nat.reduceLT, Bool.not_true, Bool.not_false, List.nil_append, List.cons_append, List.map_cons, List.map_nil, List.replicate_succ, List.replicate_zero, Bool.not_eq_eq_eq_not, decide_eq_false_iff_not, and_self, and_true, true_and, and_false, false_and, or_true, true_or, or_false, false_or, or_self, Int.reduceLE, Int.reduceLT, Int.reduceNeg, Int.reduceAdd, Int.reduceSub, Int.reduceMul, Int.reduceDiv, Int.reduceMod, Int.reduceEq, Int.reduceToNat, Nat.reduceEqDiff, frz_zero, frz_succ, gT_tup, gT_ktp, gC_ap, gE_nil, cast_0, cast_1, cast_2, cast_3, cast_4, cast_5, cast_6, cast_7, cast_8, cast_9, ty_bs, ty_is, frz_zeroV, oOfR_o, ap_lenO, ap_ixO, tOf_some, pOf_fn, ap_P, ap_iZT, itZT_ok, zipD_cons, zipD_nil, str_i, sq_set, oOfS_o, set_ints, ap_lt, itlt_t]) h hl fun b => rfl
  have j : mJoin (.str (tx [])) [.lst (dS ((bs.map fun b => enc b.toNat).map tx))] = .ok (.str (tx (encs bs))) := join_ok (ys := bs.map fun b => enc b.toNat) (by show (encs bs).length ≤ _; omega)
  rw [e_print_string]
  unfold b_print_string
  simp only [bind_ok, bind_exc, bind_bad, ofE_ok, ofE_exc, vOf_v, ap_C, ap_V, ap_nil, ap_cons, ap_U, ap_B, ap_chain, ap_and, ap_or, ap_tup, ap_F, ap_M, ap_sl, ap_pN, ap_pS, ap_L, ap_tE, ap_tAn, ap_tO, ap_tN, ap_tY, ap_if, ap_lD, ap_lF, ap_lCat, catL_ok, ap_lRep, repL_ok, ap_lSl, slL_lst, slL_scr, ap_iD, itL_lst, itL_scr, ap_iT, itT_tup, itT_ktp, ap_iS, itS_str, ap_iR1, itR1_ok, add_i, add_s, add_l, addX_i, addX_s, sub_i, mul_i, div_i, mod_i, pow_i, shl_i, shr_i, and_i, or_i, xor_i, neg_i, not_b, lt_i, le_i, gt_i, ge_i, eq_i, eq_s, ne_i, ne_s, is_non, is_int, is_str, is_tup, is_lst, isnt_non, isnt_int, isnt_str, isnt_tup, toBl_b, toIn_i, ix_s, ix_l, ix_r, ix_t, ix_k, sl_s, sl_l, sl_r, sl_t, len_s, len_l, len_r, len_t, len_k, int_i, int_b, abs_i, min_i, max_i, tup_l, tup_t, list_l, list_r, list_t, isi_i, isi_b, isi_s, isi_l, isi_t, isi_n, ty_ii, ty_bi, ty_ss, ty_ll, ty_tt, ty_tl, ty_lt, ty_tn, find_s, lower_s, sq_nx, sq_sq, sq_a, sq_o, sq_x, sq_if, sq_ret, sq_retL, oOf_o, sq_retO, sq_app, lstK_l, sq_ext, sq_aug, sq_g, sq_frz, sq_br, sq_ct, sq_raise, ofG_some, nx_ap, thenS_nx, thenS_rt, thenS_exc, sq_for, sq_wh, endV_v, endV_o, endV_n, endV_x, endL_o, endL_x, gN_ap, List.getElem?_cons_zero, List.getElem?_cons_succ, List.set_cons_zero, List.set_cons_succ, List.length_cons, List.length_nil, decide_eq_true_eq, Bool.not_eq_true, reduceIte, Bool.false_eq_true, decide_true, decide_false, Nat.reduceAdd, Nat.reduceLeDiff, Nat.reduceLT, Bool.not_true, Bool.not_false, List.nil_append, List.cons_append, List.map_cons, List.map_nil, List.replicate_succ, List.replicate_zero, Bool.not_eq_eq_eq_not, decide_eq_false_iff_not, and_self, and_true, true_and, and_false, false_and, or_true, true_or, or_false, false_or, or_self, Int.reduceLE, Int.reduceLT, Int.reduceNeg, Int.reduceAdd, Int.reduceSub, Int.reduceMul, Int.reduceDiv, Int.reduceMod, Int.reduceEq, Int.reduceToNat, Nat.reduceEqDiff, frz_zero, frz_succ, gT_tup, gT_ktp, gC_ap, gE_nil, cast_0, cast_1, cast_2, cast_3, cast_4, cast_5, cast_6, cast_7, cast_8, cast_9, ty_bs, ty_is, frz_zeroV, oOfR_o, ap_lenO, ap_ixO, tOf_some, pOf_fn, ap_P, ap_iZT, itZT_ok, zipD_cons, zipD_nil, str_i, sq_set, oOfS_o, set_ints, q, q_tx, e_tx, j, show isTy .str (.str (tx [])) = true from rfl, tx_len, tx_cat, List.length_append, show 1 + (encs bs).length ≤ 100000 by omega, show (encs bs).length ≤ 99999 by omega, show (encs bs).length ≤ 99998 by omega]
/-! reading it -/
theorem str_char {F : List Nat} {i c : Nat} (hl : F.length ≤ 1000) (h : F[i]? = some c) (h0 : c ≠ 10) (h1 : c ≠ 9) : m_string_character [.str (tx F), .int (i : Int)] = .ok (.str (tx [c])) := by
  have hi : i < F.length := by
    rcases Nat.lt_or_ge i F.length with h2 | h2
    · exact h2
    · rw [List.getElem?_eq_none h2] at h; cases h
  have q := tx_ix (a := F) (i := (i : Int)) (by omega) (by rw [Int.toNat_natCast]; exact h)
  have m : decide (c ∈ [10, 9]) = false := by simp [h0, h1]
  rw [e_string_character]
  unfold b_string_character
  simp only [bind_ok, bind_exc, bind_bad, ofE_ok, ofE_exc, vOf_v, ap_C, ap_V, ap_nil, ap_cons, ap_U, ap_B, ap_chain, ap_and, ap_or, ap_tup, ap_F, ap_M, ap_sl, ap_pN, ap_pS, ap_L, ap_tE, ap_tAn, ap_tO, ap_tN, ap_tY, ap_if, ap_lD, ap_lF, ap_lCat, catL_ok, ap_lRep, repL_ok, ap_lSl, slL_lst, slL_scr, ap_iD, itL_lst, itL_scr, ap_iT, itT_tup, itT_ktp, ap_iS, itS_str, ap_iR1, itR1_ok, add_i, add_s, add_l, addX_i, addX_s, sub_i, mul_i, div_i, mod_i, pow_i, shl_i, shr_i, and_i, or_i, xor_i, neg_i, not_b, lt_i, le_i, gt_i, ge_i, eq_i, eq_s, ne_i, ne_s, is_non, is_int, is_str, is_tup, is_lst, isnt_non, isnt_int, isnt_str, isnt_tup, toBl_b, toIn_i, ix_s, ix_l, ix_r, ix_t, ix_k, sl_s, sl_l, sl_r, sl_t, len_s, len_l, len_r, len_t, len_k, int_i, int_b, abs_i, min_i, max_i, tup_l, tup_t, list_l, list_r, list_t, isi_i, isi_b, isi_s, isi_l, isi_t, isi_n, ty_ii, ty_bi, ty_ss, ty_ll, ty_tt, ty_tl, ty_lt, ty_tn, find_s, lower_s, sq_nx, sq_sq, sq_a, sq_o, sq_x, sq_if, sq_ret, sq_retL, oOf_o, sq_retO, sq_app, lstK_l, sq_ext, sq_aug, sq_g, sq_frz, sq_br, sq_ct, sq_raise, ofG_some, nx_ap, thenS_nx, thenS_rt, thenS_exc, sq_for, sq_wh, endV_v, endV_o, endV_n, endV_x, endL_o, endL_x, gN_ap, List.getElem?_cons_zero, List.getElem?_cons_succ, List.set_cons_zero, List.set_cons_succ, List.length_cons, List.length_nil, decide_eq_true_eq, Bool.not_eq_true, reduceIte, Bool.false_eq_true, decide_true, decide_false, Nat.reduceAdd, Nat.reduceLeDiff, Nat.reduceLT, Bool.not_true, Bool.not_false, List.nil_append, List.cons_append, List.map_cons, List.map_nil, List.replicate_succ, List.replicate_zero, Bool.not_eq_eq_eq_not, decide_eq_false_iff_not, and_self, and_true, true_and, and_false, false_and, or_true, true_or, or_false, false_or, or_self, Int.reduceLE, Int.reduceLT, Int.reduceNeg, Int.reduceAdd, Int.reduceSub, Int.reduceMul, Int.reduceDiv, Int.reduceMod, Int.reduceEq, Int.reduceToNat, Nat.reduceEqDiff, frz_zero, frz_succ, gT_tup, gT_ktp, gC_ap, gE_nil, cast_0, cast_1, cast_2, cast_3, cast_4, cast_5, cast_6, cast_7, cast_8, cast_9, ty_bs, ty_is, frz_zeroV, oOfR_o, ap_lenO, ap_ixO, tOf_some, pOf_fn, ap_P, ap_iZT, itZT_ok, zipD_cons, zipD_nil, str_i, sq_set, oOfS_o, set_ints, tx_len, show F.length ≤ 100000 by omega, show ¬ (F.length : Int) ≤ (i : Int) by omega, q, nt_tx, tx_in, m]
theorem read_plain {F : List Nat} {i c : Nat} (hl : F.length ≤ 1000) (h : F[i]? = some c) (h0 : 32 ≤ c) (h2 : c ≠ 92) : m_read_string_byte [.str (tx F), .int (i : Int)] = .ok (.tup [.int (c : Int), .int (i + 1 : Nat)]) := by
  have q := str_char hl h (by omega) (by omega)
  have m : (tx [c] = tx [92]) = False := eq_false fun z => h2 (by simpa using tx_inj.mp z)
  rw [e_read_string_byte]
  unfold b_read_string_byte
  simp only [bind_ok, bind_exc, bind_bad, ofE_ok, ofE_exc, vOf_v, ap_C, ap_V, ap_nil, ap_cons, ap_U, ap_B, ap_chain, ap_and, ap_or, ap_tup, ap_F, ap_M, ap_sl, ap_pN, ap_pS, ap_L, ap_tE, ap_tAn, ap_tO, ap_tN, ap_tY, ap_if, ap_lD, ap_lF, ap_lCat, catL_ok, ap_lRep, repL_ok, ap_lSl, slL_lst, slL_scr, ap_iD, itL_lst, itL_scr, ap_iT, itT_tup, itT_ktp, ap_iS, itS_str, ap_iR1, itR1_ok, add_i, add_s, add_l, addX_i, addX_s, sub_i, mul_i, div_i, mod_i, pow_i, shl_i, shr_i, and_i, or_i, xor_i, neg_i, not_b, lt_i, le_i, gt_i, ge_i, eq_i, eq_s, ne_i, ne_s, is_non, is_int, is_str, is_tup, is_lst, isnt_non, isnt_int, isnt_str, isnt_tup, toBl_b, toIn_i, ix_s, ix_l, ix_r, ix_t, ix_k, sl_s, sl_l, sl_r, sl_t, len_s, len_l, len_r, len_t, len_k, int_i, int_b, abs_i, min_i, max_i, tup_l, tup_t, list_l, list_r, list_t, isi_i, isi_b, isi_s, isi_l, isi_t, isi_n, ty_ii, ty_bi, ty_ss, ty_ll, ty_tt, ty_tl, ty_lt, ty_tn, find_s, lower_s, sq_nx, sq_sq, sq_a, sq_o, sq_x, sq_if, sq_ret, sq_retL, oOf_o, sq_retO, sq_app, lstK_l, sq_ext, sq_aug, sq_g, sq_frz, sq_br, sq_ct, sq_raise, ofG_some, nx_ap, thenS_nx, thenS_rt, thenS_exc, sq_for, sq_wh, endV_v, endV_o, endV_n, endV_x, endL_o, endL_x, gN_ap, List.getElem?_cons_zero, List.getElem?_cons_succ, List.set_cons_zero, List.set_cons_succ, List.length_cons, List.length_nil, decide_eq_true_eq, Bool.not_eq_true, reduceIte, Bool.false_eq_true, decide_true, decide_false, Nat.reduceAdd, Nat.reduceLeDiff, Nat.reduceLT, Bool.not_true, Bool.not_false, List.nil_append, List.cons_append, List.map_cons, List.map_nil, List.replicate_succ, List.replicate_zero, Bool.not_eq_eq_eq_not, decide_eq_false_iff_not, and_self, and_true, true_and, and_false, false_and, or_true, true_or, or_false, false_or, or_self, Int.reduceLE, Int.reduceLT, Int.reduceNeg, Int.reduceAdd, Int.reduceSub, Int.reduceMul, Int.reduceDiv, Int.reduceMod, Int.reduceEq, Int.reduceToNat, Nat.reduceEqDiff, frz_zero, frz_succ, gT_tup, gT_ktp, gC_ap, gE_nil, cast_0, cast_1, cast_2, cast_3, cast_4, cast_5, cast_6, cast_7, cast_8, cast_9, ty_bs, ty_is, frz_zeroV, oOfR_o, ap_lenO, ap_ixO, tOf_some, pOf_fn, ap_P, ap_iZT, itZT_ok, zipD_cons, zipD_nil, str_i, sq_set, oOfS_o, set_ints, q, bs_tx, m, tx_ord]
  rfl
theorem read_esc {F : List Nat} {i n1 n2 : Nat} (hl : F.length ≤ 1000) (h1 : n1 < 16) (h2 : n2 < 16) (f0 : F[i]? = some 92) (f1 : F[i + 1]? = some (hx n1)) (f2 : F[i + 2]? = some (hx n2)) :
    m_read_string_byte [.str (tx F), .int (i : Int)] = .ok (.tup [.int ((n1 : Int) * 16 + n2), .int (i + 3 : Nat)]) := by
  have r1 := hx_rng h1
  have r2 := hx_rng h2
  have q0 := str_char hl f0 (by decide) (by decide)
  have q1 := str_char hl f1 (by omega) (by omega)
  have q2 := str_char hl f2 (by omega) (by omega)
  have m1 : CMulW (n1 : Int) 16 ∨ CMul (n1 : Int) 16 := Or.inr (Or.inr ⟨by decide, by decide⟩)
  have c1 : ((i + 1 : Nat) : Int) = (i : Int) + 1 := rfl
  have c2 : ((i + 2 : Nat) : Int) = (i : Int) + 2 := rfl
  rw [c1] at q1
  rw [c2] at q2
  have t : (tx [92] = tx [92]) = True := eq_true rfl
  rw [e_read_string_byte]
  unfold b_read_string_byte
  simp only [bind_ok, bind_exc, bind_bad, ofE_ok, ofE_exc, vOf_v, ap_C, ap_V, ap_nil, ap_cons, ap_U, ap_B, ap_chain, ap_and, ap_or, ap_tup, ap_F, ap_M, ap_sl, ap_pN, ap_pS, ap_L, ap_tE, ap_tAn, ap_tO, ap_tN, ap_tY, ap_if, ap_lD, ap_lF, ap_lCat, catL_ok, ap_lRep, repL_ok, ap_lSl, slL_lst, slL_scr, ap_iD, itL_lst, itL_scr, ap_iT, itT_tup, itT_ktp, ap_iS, itS_str, ap_iR1, itR1_ok, add_i, add_s, add_l, addX_i, addX_s, sub_i, mul_i, div_i, mod_i, pow_i, shl_i, shr_i, and_i, or_i, xor_i, neg_i, not_b, lt_i, le_i, gt_i, ge_i, eq_i, eq_s, ne_i, ne_s, is_non, is_int, is_str, is_tup, is_lst, isnt_non, isnt_int, isnt_str, isnt_tup, toBl_b, toIn_i, ix_s, ix_l, ix_r, ix_t, ix_k, sl_s, sl_l, sl_r, sl_t, len_s, len_l, len_r, len_t, len_k, int_i, int_b, abs_i, min_i, max_i, tup_l, tup_t, list_l, list_r, list_t, isi_i, isi_b, isi_s, isi_l, isi_t, isi_n, ty_ii, ty_bi, ty_ss, ty_ll, ty_tt, ty_tl, ty_lt, ty_tn, find_s, lower_s, sq_nx, sq_sq, sq_a, sq_o, sq_x, sq_if, sq_ret, sq_retL, oOf_o, sq_retO, sq_app, lstK_l, sq_ext, sq_aug, sq_g, sq_frz, sq_br, sq_ct, sq_raise, ofG_some, nx_ap, thenS_nx, thenS_rt, thenS_exc, sq_for, sq_wh, endV_v, endV_o, endV_n, endV_x, endL_o, endL_x, gN_ap, List.getElem?_cons_zero, List.getElem?_cons_succ, List.set_cons_zero, List.set_cons_succ, List.length_cons, List.length_nil, decide_eq_true_eq, Bool.not_eq_true, reduceIte, Bool.false_eq_true, decide_true, decide_false, Nat.reduceAdd, Nat.reduceLeDiff, Nat.reduceLT, Bool.not_true, Bool.not_false, List.nil_append, List.cons_append, List.map_cons, List.map_nil, List.replicate_succ, List.replicate_zero, Bool.not_eq_eq_eq_not, decide_eq_false_iff_not, and_self, and_true, true_and, and_false, false_and, or_true, true_or, or_false, false_or, or_self, Int.reduceLE, Int.reduceLT, Int.reduceNeg, Int.reduceAdd, Int.reduceSub, Int.reduceMul, Int.reduceDiv, Int.reduceMod, Int.reduceEq, Int.reduceToNat, Nat.reduceEqDiff, frz_zero, frz_succ, gT_tup, gT_ktp, gC_ap, gE_nil, cast_0, cast_1, cast_2, cast_3, cast_4, cast_5, cast_6, cast_7, cast_8, cast_9, ty_bs, ty_is, frz_zeroV, oOfR_o, ap_lenO, ap_ixO, tOf_some, pOf_fn, ap_P, ap_iZT, itZT_ok, zipD_cons, zipD_nil, str_i, sq_set, oOfS_o, set_ints, q0, q1, q2, bs_tx, t, hex_esc h1, hex_digit h1, hex_digit h2, show (0 : Int) ≤ (n1 : Int) by omega, show (0 : Int) ≤ (n2 : Int) by omega, m1]
  rfl
theorem read_byte {b : Nat} (hb : b < 256) (pre rest : List Nat) (hl : (pre ++ (enc b ++ rest)).length ≤ 1000) : m_read_string_byte [.str (tx (pre ++ (enc b ++ rest))), .int (pre.length : Int)] = .ok (.tup [.int (b : Int), .int ((pre ++ enc b).length : Int)]) := by
  have at_ : ∀ (k : Nat) (c : Nat), (enc b)[k]? = some c → (pre ++ (enc b ++ rest))[pre.length + k]? = some c := fun k c h => by
    have hk : k < (enc b).length := by
      rcases Nat.lt_or_ge k (enc b).length with h2 | h2
      · exact h2
      · rw [List.getElem?_eq_none h2] at h; cases h
    rw [List.getElem?_append_right (by omega), Nat.add_sub_cancel_left, List.getElem?_append_left hk, h]
  by_cases q : esc b = true
  · have e : enc b = [92, hx (b / 16), hx (b % 16)] := by unfold enc; rw [if_pos q]
    have r := read_esc hl (show b / 16 < 16 by omega) (show b % 16 < 16 by omega) (at_ 0 _ (by rw [e]; rfl)) (at_ 1 _ (by rw [e]; rfl)) (at_ 2 _ (by rw [e]; rfl))
    rw [Nat.add_zero] at r
    rw [r, List.length_append, e]
    have : ((b / 16 : Nat) : Int) * 16 + ((b % 16 : Nat) : Int) = (b : Int) := by omega
    rw [this]
    rfl
  · have e : enc b = [b] := by unfold enc; rw [if_neg q]
    have q0 : esc b = false := by simpa using q
    unfold esc at q0
    simp at q0
    have r := read_plain hl (at_ 0 b (by rw [e]; rfl)) (by omega) (by omega)
    rw [Nat.add_zero] at r
    rw [List.length_append, r, e]
    rfl
abbrev tq : ST := tE (eB dNe (eF m_string_character (eCons (eV 0) (eCons (eV 1) eNil))) (eC (.str "\"")))
theorem enc_head {b : Nat} (hb : b < 256) : ∃ c l, enc b = c :: l ∧ c ≠ 34 ∧ 32 ≤ c := by
  by_cases q : esc b = true
  · exact ⟨92, _, by unfold enc; rw [if_pos q], by decide, by decide⟩
  · have q0 : esc b = false := by simpa using q
    refine ⟨b, [], by unfold enc; rw [if_neg q], ?_, ?_⟩ <;> unfold esc at q0 <;> simp at q0 <;> omega
theorem rs_loop : ∀ (bs : List Int) (pre : List Nat) (acc : List Int) (m : Nat) (s : Sl), okB bs → (pre ++ (encs bs ++ [34])).length ≤ 1000 → bs.length < m → acc.length + bs.length ≤ 1000 →
    ∃ t, whGo tq b_read_string_1 m [.val (.str (tx (pre ++ (encs bs ++ [34])))), .val (.int (pre.length : Int)), .own (dI acc), s] = .nx [.val (.str (tx (pre ++ (encs bs ++ [34])))), .val (.int ((pre ++ encs bs).length : Int)), .own (dI (acc ++ bs)), t]
  | bs, pre, acc, 0, s, _, _, hm, _ => absurd hm (Nat.not_lt_zero _)
  | [], pre, acc, m + 1, s, _, hl, _, _ => by
    have q := str_char (F := pre ++ (encs [] ++ [34])) (i := pre.length) (c := 34) hl (by rw [List.getElem?_append_right (Nat.le_refl _), Nat.sub_self]; rfl) (by decide) (by decide)
    have t : tq [.val (.str (tx (pre ++ (encs [] ++ [34])))), .val (.int (pre.length : Int)), .own (dI acc), s] = .ok false := by
      have t : (tx [34] = tx [34]) = True := eq_true rfl
      simp only [bind_ok, bind_exc, bind_bad, ofE_ok, ofE_exc, vOf_v, ap_C, ap_V, ap_nil, ap_cons, ap_U, ap_B, ap_chain, ap_and, ap_or, ap_tup, ap_F, ap_M, ap_sl, ap_pN, ap_pS, ap_L, ap_tE, ap_tAn, ap_tO, ap_tN, ap_tY, ap_if, ap_lD, ap_lF, ap_lCat, catL_ok, ap_lRep, repL_ok, ap_lSl, slL_lst, slL_scr, ap_iD, itL_lst, itL_scr, ap_iT, itT_tup, itT_ktp, ap_iS, itS_str, ap_iR1, itR1_ok, add_i, add_s, add_l, addX_i, addX_s, sub_i, mul_i, div_i, mod_i, pow_i, shl_i, shr_i, and_i, or_i, xor_i, neg_i, not_b, lt_i, le_i, gt_i, ge_i, eq_i, eq_s, ne_i, ne_s, is_non, is_int, is_str, is_tup, is_lst, isnt_non, isnt_int, isnt_str, isnt_tup, toBl_b, toIn_i, ix_s, ix_l, ix_r, ix_t, ix_k, sl_s, sl_l, sl_r, sl_t, len_s, len_l, len_r, len_t, len_k, int_i, int_b, abs_i, min_i, max_i, tup_l, tup_t, list_l, list_r, list_t, isi_i, isi_b, isi_s, isi_l, isi_t, isi_n, ty_ii, ty_bi, ty_ss, ty_ll, ty_tt, ty_tl, ty_lt, ty_tn, find_s, lower_s, sq_nx, sq_sq, sq_a, sq_o, sq_x, sq_if, sq_ret, sq_retL, oOf_o, sq_retO, sq_app, lstK_l, sq_ext, sq_aug, sq_g, sq_frz, sq_br, sq_ct, sq_raise, ofG_some, nx_ap, thenS_nx, thenS_rt, thenS_exc, sq_for, sq_wh, endV_v, endV_o, endV_n, endV_x, endL_o, endL_x, gN_ap, List.getElem?_cons_zero, List.getElem?_cons_succ, List.set_cons_zero, List.set_cons_succ, List.length_cons, List.length_nil, decide_eq_true_eq, Bool.not_eq_true, reduceIte, Bool.false_eq_true, decide_true, decide_false, Nat.reduceAdd, Nat.reduceLeDiff, Nat.reduceLT, Bool.not_true, Bool.not_false, List.nil_append, List.cons_append, List.map_cons, List.map_nil, List.replicate_succ, List.replicate_zero, Bool.not_eq_eq_eq_not, decide_eq_false_iff_not, and_self, and_true, true_and, and_false, false_and, or_true, true_or, or_false, false_or, or_self, Int.reduceLE, Int.reduceLT, Int.reduceNeg, Int.reduceAdd, Int.reduceSub, Int.reduceMul, Int.reduceDiv, Int.reduceMod, Int.reduceEq, Int.reduceToNat, Nat.reduceEqDiff, frz_zero, frz_succ, gT_tup, gT_ktp, gC_ap, gE_nil, cast_0, cast_1, cast_2, cast_3, cast_4, cast_5, cast_6, cast_7, cast_8, cast_9, ty_bs, ty_is, frz_zeroV, oOfR_o, ap_lenO, ap_ixO, tOf_some, pOf_fn, ap_P, ap_iZT, itZT_ok, zipD_cons, zipD_nil, str_i, sq_set, oOfS_o, set_ints, q, q_tx, t]
    refine ⟨s, ?_⟩
    rw [whGo_succ t, if_neg Bool.false_ne_true, List.append_nil, show encs [] = [] from rfl, List.append_nil]
  | b :: bs, pre, acc, m + 1, s, h, hl, hm, ha => by
    obtain ⟨h0, h1⟩ := h b List.mem_cons_self
    obtain ⟨n, rfl⟩ : ∃ n : Nat, b = n := ⟨b.toNat, by omega⟩
    rw [List.length_cons] at hm ha
    have ee : pre ++ (encs ((n : Int) :: bs) ++ [34]) = pre ++ (enc n ++ (encs bs ++ [34])) := by rw [encs_cons, Int.toNat_natCast, List.append_assoc]
    rw [ee] at hl ⊢
    obtain ⟨c, l, ec, c34, c32⟩ := enc_head (b := n) (by omega)
    have q := str_char (F := pre ++ (enc n ++ (encs bs ++ [34]))) (i := pre.length) (c := c) hl (by rw [List.getElem?_append_right (Nat.le_refl _), Nat.sub_self, ec]; rfl) (by omega) (by omega)
    have t : tq [.val (.str (tx (pre ++ (enc n ++ (encs bs ++ [34]))))), .val (.int (pre.length : Int)), .own (dI acc), s] = .ok true := by
      have t : (tx [c] = tx [34]) = False := eq_false fun z => c34 (by simpa using tx_inj.mp z)
      simp only [bind_ok, bind_exc, bind_bad, ofE_ok, ofE_exc, vOf_v, ap_C, ap_V, ap_nil, ap_cons, ap_U, ap_B, ap_chain, ap_and, ap_or, ap_tup, ap_F, ap_M, ap_sl, ap_pN, ap_pS, ap_L, ap_tE, ap_tAn, ap_tO, ap_tN, ap_tY, ap_if, ap_lD, ap_lF, ap_lCat, catL_ok, ap_lRep, repL_ok, ap_lSl, slL_lst, slL_scr, ap_iD, itL_lst, itL_scr, ap_iT, itT_tup, itT_ktp, ap_iS, itS_str, ap_iR1, itR1_ok, add_i, add_s, add_l, addX_i, addX_s, sub_i, mul_i, div_i, mod_i, pow_i, shl_i, shr_i, and_i, or_i, xor_i, neg_i, not_b, lt_i, le_i, gt_i, ge_i, eq_i, eq_s, ne_i, ne_s, is_non, is_int, is_str, is_tup, is_lst, isnt_non, isnt_int, isnt_str, isnt_tup, toBl_b, toIn_i, ix_s, ix_l, ix_r, ix_t, ix_k, sl_s, sl_l, sl_r, sl_t, len_s, len_l, len_r, len_t, len_k, int_i, int_b, abs_i, min_i, max_i, tup_l, tup_t, list_l, list_r, list_t, isi_i, isi_b, isi_s, isi_l, isi_t, isi_n, ty_ii, ty_bi, ty_ss, ty_ll, ty_tt, ty_tl, ty_lt, ty_tn, find_s, lower_s, sq_nx, sq_sq, sq_a, sq_o, sq_x, sq_if, sq_ret, sq_retL, oOf_o, sq_retO, sq_app, lstK_l, sq_ext, sq_aug, sq_g, sq_frz, sq_br, sq_ct, sq_raise, ofG_some, nx_ap, thenS_nx, thenS_rt, thenS_exc, sq_for, sq_wh, endV_v, endV_o, endV_n, endV_x, endL_o, endL_x, gN_ap, List.getElem?_cons_zero, List.getElem?_cons_succ, List.set_cons_zero, List.set_cons_succ, List.length_cons, List.length_nil, decide_eq_true_eq, Bool.not_eq_true, reduceIte, Bool.false_eq_true, decide_true, decide_false, Nat.reduceAdd, Nat.reduceLeDiff, Nat.reduceLT, Bool.not_true, Bool.not_false, List.nil_append, List.cons_append, List.map_cons, List.map_nil, List.replicate_succ, List.replicate_zero, Bool.not_eq_eq_eq_not, decide_eq_false_iff_not, and_self, and_true, true_and, and_false, false_and, or_true, true_or, or_false, false_or, or_self, Int.reduceLE, Int.reduceLT, Int.reduceNeg, Int.reduceAdd, Int.reduceSub, Int.reduceMul, Int.reduceDiv, Int.reduceMod, Int.reduceEq, Int.reduceToNat, Nat.reduceEqDiff, frz_zero, frz_succ, gT_tup, gT_ktp, gC_ap, gE_nil, cast_0, cast_1, cast_2, cast_3, cast_4, cast_5, cast_6, cast_7, cast_8, cast_9, ty_bs, ty_is, frz_zeroV, oOfR_o, ap_lenO, ap_ixO, tOf_some, pOf_fn, ap_P, ap_iZT, itZT_ok, zipD_cons, zipD_nil, str_i, sq_set, oOfS_o, set_ints, q, q_tx, t]
    have rb := read_byte (b := n) (by omega) pre (encs bs ++ [34]) hl
    have e : b_read_string_1 [.val (.str (tx (pre ++ (enc n ++ (encs bs ++ [34]))))), .val (.int (pre.length : Int)), .own (dI acc), s] = .nx [.val (.str (tx (pre ++ (enc n ++ (encs bs ++ [34]))))), .val (.int ((pre ++ enc n).length : Int)), .own (dI (acc ++ [(n : Int)])), .val (.int (n : Int))] := by
      unfold b_read_string_1
      have app : dI acc ++ [D.int (n : Int)] = dI (acc ++ [(n : Int)]) := by rw [dI, dI, List.map_append] <;> rfl
      simp only [bind_ok, bind_exc, bind_bad, ofE_ok, ofE_exc, vOf_v, ap_C, ap_V, ap_nil, ap_cons, ap_U, ap_B, ap_chain, ap_and, ap_or, ap_tup, ap_F, ap_M, ap_sl, ap_pN, ap_pS, ap_L, ap_tE, ap_tAn, ap_tO, ap_tN, ap_tY, ap_if, ap_lD, ap_lF, ap_lCat, catL_ok, ap_lRep, repL_ok, ap_lSl, slL_lst, slL_scr, ap_iD, itL_lst, itL_scr, ap_iT, itT_tup, itT_ktp, ap_iS, itS_str, ap_iR1, itR1_ok, add_i, add_s, add_l, addX_i, addX_s, sub_i, mul_i, div_i, mod_i, pow_i, shl_i, shr_i, and_i, or_i, xor_i, neg_i, not_b, lt_i, le_i, gt_i, ge_i, eq_i, eq_s, ne_i, ne_s, is_non, is_int, is_str, is_tup, is_lst, isnt_non, isnt_int, isnt_str, isnt_tup, toBl_b, toIn_i, ix_s, ix_l, ix_r, ix_t, ix_k, sl_s, sl_l, sl_r, sl_t, len_s, len_l, len_r, len_t, len_k, int_i, int_b, abs_i, min_i, max_i, tup_l, tup_t, list_l, list_r, list_t, isi_i, isi_b, isi_s, isi_l, isi_t, isi_n, ty_ii, ty_bi, ty_ss, ty_ll, ty_tt, ty_tl, ty_lt, ty_tn, find_s, lower_s, sq_nx, sq_sq, sq_a, sq_o, sq_x, sq_if, sq_ret, sq_retL, oOf_o, sq_retO, sq_app, lstK_l, sq_ext, sq_aug, sq_g, sq_frz, sq_br, sq_ct, sq_raise, ofG_some, nx_ap, thenS_nx, thenS_rt, thenS_exc, sq_for, sq_wh, endV_v, endV_o, endV_n, endV_x, endL_o, endL_x, gN_ap, List.getElem?_cons_zero, List.getElem?_cons_succ, List.set_cons_zero, List.set_cons_succ, List.length_cons, List.length_nil, decide_eq_true_eq, Bool.not_eq_true, reduceIte, Bool.false_eq_true, decide_true, decide_false, Nat.reduceAdd, Nat.reduceLeDiff, Nat.reduceLT, Bool.not_true, Bool.not_false, List.nil_append, List.cons_append, List.map_cons, List.map_nil, List.replicate_succ, List.replicate_zero, Bool.not_eq_eq_eq_not, decide_eq_false_iff_not, and_self, and_true, true_and, and_false, false_and, or_true, true_or, or_false, false_or, or_self, Int.reduceLE, Int.reduceLT, Int.reduceNeg, Int.reduceAdd, Int.reduceSub, Int.reduceMul, Int.reduceDiv, Int.reduceMod, Int.reduceEq, Int.reduceToNat, Nat.reduceEqDiff, frz_zero, frz_succ, gT_tup, gT_ktp, gC_ap, gE_nil, cast_0, cast_1, cast_2, cast_3, cast_4, cast_5, cast_6, cast_7, cast_8, cast_9, ty_bs, ty_is, frz_zeroV, oOfR_o, ap_lenO, ap_ixO, tOf_some, pOf_fn, ap_P, ap_iZT, itZT_ok, zipD_cons, zipD_nil, str_i, sq_set, oOfS_o, set_ints, rb, List.length_map, show acc.length < 100000 by omega, app]
    rw [whGo_succ t, if_pos rfl, e]
    dsimp only
    have e2 : pre ++ (enc n ++ (encs bs ++ [34])) = (pre ++ enc n) ++ (encs bs ++ [34]) := by rw [List.append_assoc]
    rw [e2] at hl ⊢
    obtain ⟨t, r⟩ := rs_loop bs (pre ++ enc n) (acc ++ [(n : Int)]) m (.val (.int (n : Int))) (fun x hx => h x (List.mem_cons_of_mem _ hx)) hl (by omega) (by rw [List.length_append, List.length_singleton]; omega)
    refine ⟨t, ?_⟩
    rw [r, encs_cons, Int.toNat_natCast, List.append_assoc, List.append_assoc, List.append_assoc]
    rfl
theorem read_string_ok {bs : List Int} (h : okB bs) (hl : bs.length ≤ 63) : m_read_string [.str (tx (34 :: (encs bs ++ [34]))), .int 0] = .ok (.tup [.tup (dI bs), .int ((encs bs).length + 2 : Nat)]) := by
  have hn := encs_len bs
  obtain ⟨t, q⟩ := rs_loop bs [34] [] 100000 .un h (by simp; omega) (by omega) (by simp; omega)
  rw [show ([34] ++ (encs bs ++ [34]) : List Nat) = 34 :: (encs bs ++ [34]) from rfl, List.nil_append, List.length_singleton, cast_1] at q
  rw [e_read_string]
  unfold b_read_string
  simp only [bind_ok, bind_exc, bind_bad, ofE_ok, ofE_exc, vOf_v, ap_C, ap_V, ap_nil, ap_cons, ap_U, ap_B, ap_chain, ap_and, ap_or, ap_tup, ap_F, ap_M, ap_sl, ap_pN, ap_pS, ap_L, ap_tE, ap_tAn, ap_tO, ap_tN, ap_tY, ap_if, ap_lD, ap_lF, ap_lCat, catL_ok, ap_lRep, repL_ok, ap_lSl, slL_lst, slL_scr, ap_iD, itL_lst, itL_scr, ap_iT, itT_tup, itT_ktp, ap_iS, itS_str, ap_iR1, itR1_ok, add_i, add_s, add_l, addX_i, addX_s, sub_i, mul_i, div_i, mod_i, pow_i, shl_i, shr_i, and_i, or_i, xor_i, neg_i, not_b, lt_i, le_i, gt_i, ge_i, eq_i, eq_s, ne_i, ne_s, is_non, is_int, is_str, is_tup, is_lst, isnt_non, isnt_int, isnt_str, isnt_tup, toBl_b, toIn_i, ix_s, ix_l, ix_r, ix_t, ix_k, sl_s, sl_l, sl_r, sl_t, len_s, len_l, len_r, len_t, len_k, int_i, int_b, abs_i, min_i, max_i, tup_l, tup_t, list_l, list_r, list_t, isi_i, isi_b, isi_s, isi_l, isi_t, isi_n, ty_ii, ty_bi, ty_ss, ty_ll, ty_tt, ty_tl, ty_lt, ty_tn, find_s, lower_s, sq_nx, sq_sq, sq_a, sq_o, sq_x, sq_if, sq_ret, sq_retL, oOf_o, sq_retO, sq_app, lstK_l, sq_ext, sq_aug, sq_g, sq_frz, sq_br, sq_ct, sq_raise, ofG_some, nx_ap, thenS_nx, thenS_rt, thenS_exc, sq_for, sq_wh, endV_v, endV_o, endV_n, endV_x, endL_o, endL_x, gN_ap, List.getElem?_cons_zero, List.getElem?_cons_succ, List.set_cons_zero, List.set_cons_succ, List.length_cons, List.length_nil, decide_eq_true_eq, Bool.not_eq_true, reduceIte, Bool.false_eq_true, decide_true, decide_false, Nat.reduceAdd, Nat.reduceLeDiff, Nat.reduceLT, Bool.not_true, Bool.not_false, List.nil_append, List.cons_append, List.map_cons, List.map_nil, List.replicate_succ, List.replicate_zero, Bool.not_eq_eq_eq_not, decide_eq_false_iff_not, and_self, and_true, true_and, and_false, false_and, or_true, true_or, or_false, false_or, or_self, Int.reduceLE, Int.reduceLT, Int.reduceNeg, Int.reduceAdd, Int.reduceSub, Int.reduceMul, Int.reduceDiv, Int.reduceMod, Int.reduceEq, Int.reduceToNat, Nat.reduceEqDiff, frz_zero, frz_succ, gT_tup, gT_ktp, gC_ap, gE_nil, cast_0, cast_1, cast_2, cast_3, cast_4, cast_5, cast_6, cast_7, cast_8, cast_9, ty_bs, ty_is, frz_zeroV, oOfR_o, ap_lenO, ap_ixO, tOf_some, pOf_fn, ap_P, ap_iZT, itZT_ok, zipD_cons, zipD_nil, str_i, sq_set, oOfS_o, set_ints]
  rw [show ([] : List D) = dI [] from rfl, q]
  simp only [bind_ok, bind_exc, bind_bad, ofE_ok, ofE_exc, vOf_v, ap_C, ap_V, ap_nil, ap_cons, ap_U, ap_B, ap_chain, ap_and, ap_or, ap_tup, ap_F, ap_M, ap_sl, ap_pN, ap_pS, ap_L, ap_tE, ap_tAn, ap_tO, ap_tN, ap_tY, ap_if, ap_lD, ap_lF, ap_lCat, catL_ok, ap_lRep, repL_ok, ap_lSl, slL_lst, slL_scr, ap_iD, itL_lst, itL_scr, ap_iT, itT_tup, itT_ktp, ap_iS, itS_str, ap_iR1, itR1_ok, add_i, add_s, add_l, addX_i, addX_s, sub_i, mul_i, div_i, mod_i, pow_i, shl_i, shr_i, and_i, or_i, xor_i, neg_i, not_b, lt_i, le_i, gt_i, ge_i, eq_i, eq_s, ne_i, ne_s, is_non, is_int, is_str, is_tup, is_lst, isnt_non, isnt_int, isnt_str, isnt_tup, toBl_b, toIn_i, ix_s, ix_l, ix_r, ix_t, ix_k, sl_s, sl_l, sl_r, sl_t, len_s, len_l, len_r, len_t, len_k, int_i, int_b, abs_i, min_i, max_i, tup_l, tup_t, list_l, list_r, list_t, isi_i, isi_b, isi_s, isi_l, isi_t, isi_n, ty_ii, ty_bi, ty_ss, ty_ll, ty_tt, ty_tl, ty_lt, ty_tn, find_s, lower_s, sq_nx, sq_sq, sq_a, sq_o, sq_x, sq_if, sq_ret, sq_retL, oOf_o, sq_retO, sq_app, lstK_l, sq_ext, sq_aug, sq_g, sq_frz, sq_br, sq_ct, sq_raise, ofG_some, nx_ap, thenS_nx, thenS_rt, thenS_exc, sq_for, sq_wh, endV_v, endV_o, endV_n, endV_x, endL_o, endL_x, gN_ap, List.getElem?_cons_zero, List.getElem?_cons_succ, List.set_cons_zero, List.set_cons_succ, List.length_cons, List.length_nil, decide_eq_true_eq, Bool.not_eq_true, reduceIte, Bool.false_eq_true, decide_true, decide_false, Nat.reduceAdd, Nat.reduceLeDiff, Nat.reduceLT, Bool.not_true, Bool.not_false, List.nil_append, List.cons_append, List.map_cons, List.map_nil, List.replicate_succ, List.replicate_zero, Bool.not_eq_eq_eq_not, decide_eq_false_iff_not, and_self, and_true, true_and, and_false, false_and, or_true, true_or, or_false, false_or, or_self, Int.reduceLE, Int.reduceLT, Int.reduceNeg, Int.reduceAdd, Int.reduceSub, Int.reduceMul, Int.reduceDiv, Int.reduceMod, Int.reduceEq, Int.reduceToNat, Nat.reduceEqDiff, frz_zero, frz_succ, gT_tup, gT_ktp, gC_ap, gE_nil, cast_0, cast_1, cast_2, cast_3, cast_4, cast_5, cast_6, cast_7, cast_8, cast_9, ty_bs, ty_is, frz_zeroV, oOfR_o, ap_lenO, ap_ixO, tOf_some, pOf_fn, ap_P, ap_iZT, itZT_ok, zipD_cons, zipD_nil, str_i, sq_set, oOfS_o, set_ints]
  rw [show ((((encs bs).length + 1 : Nat) : Int) + 1) = (((encs bs).length + 2 : Nat) : Int) from rfl]
/-! the law's own bytes -/
theorem bytes_big (x : Sl) : ∀ (k : Nat) (f : Int) (acc : List Int) (s : Sl) (ds : List D), ds.length = k → okB acc → acc.length + k ≤ 200 →
    ∃ (f2 : Int) (bs : List Int) (t : Sl), forGo (gN 4) b_l_bytes_1 ds [x, .val (.int f), .un, .own (dI acc), s] = .nx [x, .val (.int f2), .un, .own (dI bs), t] ∧ okB bs ∧ bs.length ≤ acc.length + k
  | 0, f, acc, s, ds, hd, ha, _ => by
    obtain rfl : ds = [] := List.length_eq_zero_iff.mp hd
    exact ⟨f, acc, s, rfl, ha, by omega⟩
  | k + 1, f, acc, s, ds, hd, ha, hl => by
    cases ds with
    | nil => cases hd
    | cons d ds =>
      rw [forGo_cons gN_ap]
      by_cases h : 0 < f
      · have e : b_l_bytes_1 [x, .val (.int f), .un, .own (dI acc), .val d] = .nx [x, .val (.int (f / 256)), .un, .own (dI (acc ++ [f % 256])), .val d] := by
          have app : dI acc ++ [D.int (f % 256)] = dI (acc ++ [f % 256]) := by rw [dI, dI, List.map_append] <;> rfl
          unfold b_l_bytes_1
          simp only [bind_ok, bind_exc, bind_bad, ofE_ok, ofE_exc, vOf_v, ap_C, ap_V, ap_nil, ap_cons, ap_U, ap_B, ap_chain, ap_and, ap_or, ap_tup, ap_F, ap_M, ap_sl, ap_pN, ap_pS, ap_L, ap_tE, ap_tAn, ap_tO, ap_tN, ap_tY, ap_if, ap_lD, ap_lF, ap_lCat, catL_ok, ap_lRep, repL_ok, ap_lSl, slL_lst, slL_scr, ap_iD, itL_lst, itL_scr, ap_iT, itT_tup, itT_ktp, ap_iS, itS_str, ap_iR1, itR1_ok, add_i, add_s, add_l, addX_i, addX_s, sub_i, mul_i, div_i, mod_i, pow_i, shl_i, shr_i, and_i, or_i, xor_i, neg_i, not_b, lt_i, le_i, gt_i, ge_i, eq_i, eq_s, ne_i, ne_s, is_non, is_int, is_str, is_tup, is_lst, isnt_non, isnt_int, isnt_str, isnt_tup, toBl_b, toIn_i, ix_s, ix_l, ix_r, ix_t, ix_k, sl_s, sl_l, sl_r, sl_t, len_s, len_l, len_r, len_t, len_k, int_i, int_b, abs_i, min_i, max_i, tup_l, tup_t, list_l, list_r, list_t, isi_i, isi_b, isi_s, isi_l, isi_t, isi_n, ty_ii, ty_bi, ty_ss, ty_ll, ty_tt, ty_tl, ty_lt, ty_tn, find_s, lower_s, sq_nx, sq_sq, sq_a, sq_o, sq_x, sq_if, sq_ret, sq_retL, oOf_o, sq_retO, sq_app, lstK_l, sq_ext, sq_aug, sq_g, sq_frz, sq_br, sq_ct, sq_raise, ofG_some, nx_ap, thenS_nx, thenS_rt, thenS_exc, sq_for, sq_wh, endV_v, endV_o, endV_n, endV_x, endL_o, endL_x, gN_ap, List.getElem?_cons_zero, List.getElem?_cons_succ, List.set_cons_zero, List.set_cons_succ, List.length_cons, List.length_nil, decide_eq_true_eq, Bool.not_eq_true, reduceIte, Bool.false_eq_true, decide_true, decide_false, Nat.reduceAdd, Nat.reduceLeDiff, Nat.reduceLT, Bool.not_true, Bool.not_false, List.nil_append, List.cons_append, List.map_cons, List.map_nil, List.replicate_succ, List.replicate_zero, Bool.not_eq_eq_eq_not, decide_eq_false_iff_not, and_self, and_true, true_and, and_false, false_and, or_true, true_or, or_false, false_or, or_self, Int.reduceLE, Int.reduceLT, Int.reduceNeg, Int.reduceAdd, Int.reduceSub, Int.reduceMul, Int.reduceDiv, Int.reduceMod, Int.reduceEq, Int.reduceToNat, Nat.reduceEqDiff, frz_zero, frz_succ, gT_tup, gT_ktp, gC_ap, gE_nil, cast_0, cast_1, cast_2, cast_3, cast_4, cast_5, cast_6, cast_7, cast_8, cast_9, ty_bs, ty_is, frz_zeroV, oOfR_o, ap_lenO, ap_ixO, tOf_some, pOf_fn, ap_P, ap_iZT, itZT_ok, zipD_cons, zipD_nil, str_i, sq_set, oOfS_o, set_ints, h, List.length_map, show acc.length < 100000 by omega, show CDivW f 256 from ⟨by decide, by decide⟩, app]
        simp only [bind_ok, bind_exc, bind_bad, ofE_ok, ofE_exc, vOf_v, ap_C, ap_V, ap_nil, ap_cons, ap_U, ap_B, ap_chain, ap_and, ap_or, ap_tup, ap_F, ap_M, ap_sl, ap_pN, ap_pS, ap_L, ap_tE, ap_tAn, ap_tO, ap_tN, ap_tY, ap_if, ap_lD, ap_lF, ap_lCat, catL_ok, ap_lRep, repL_ok, ap_lSl, slL_lst, slL_scr, ap_iD, itL_lst, itL_scr, ap_iT, itT_tup, itT_ktp, ap_iS, itS_str, ap_iR1, itR1_ok, add_i, add_s, add_l, addX_i, addX_s, sub_i, mul_i, div_i, mod_i, pow_i, shl_i, shr_i, and_i, or_i, xor_i, neg_i, not_b, lt_i, le_i, gt_i, ge_i, eq_i, eq_s, ne_i, ne_s, is_non, is_int, is_str, is_tup, is_lst, isnt_non, isnt_int, isnt_str, isnt_tup, toBl_b, toIn_i, ix_s, ix_l, ix_r, ix_t, ix_k, sl_s, sl_l, sl_r, sl_t, len_s, len_l, len_r, len_t, len_k, int_i, int_b, abs_i, min_i, max_i, tup_l, tup_t, list_l, list_r, list_t, isi_i, isi_b, isi_s, isi_l, isi_t, isi_n, ty_ii, ty_bi, ty_ss, ty_ll, ty_tt, ty_tl, ty_lt, ty_tn, find_s, lower_s, sq_nx, sq_sq, sq_a, sq_o, sq_x, sq_if, sq_ret, sq_retL, oOf_o, sq_retO, sq_app, lstK_l, sq_ext, sq_aug, sq_g, sq_frz, sq_br, sq_ct, sq_raise, ofG_some, nx_ap, thenS_nx, thenS_rt, thenS_exc, sq_for, sq_wh, endV_v, endV_o, endV_n, endV_x, endL_o, endL_x, gN_ap, List.getElem?_cons_zero, List.getElem?_cons_succ, List.set_cons_zero, List.set_cons_succ, List.length_cons, List.length_nil, decide_eq_true_eq, Bool.not_eq_true, reduceIte, Bool.false_eq_true, decide_true, decide_false, Nat.reduceAdd, Nat.reduceLeDiff, Nat.reduceLT, Bool.not_true, Bool.not_false, List.nil_append, List.cons_append, List.map_cons, List.map_nil, List.replicate_succ, List.replicate_zero, Bool.not_eq_eq_eq_not, decide_eq_false_iff_not, and_self, and_true, true_and, and_false, false_and, or_true, true_or, or_false, false_or, or_self, Int.reduceLE, Int.reduceLT, Int.reduceNeg, Int.reduceAdd, Int.reduceSub, Int.reduceMul, Int.reduceDiv, Int.reduceMod, Int.reduceEq, Int.reduceToNat, Nat.reduceEqDiff, frz_zero, frz_succ, gT_tup, gT_ktp, gC_ap, gE_nil, cast_0, cast_1, cast_2, cast_3, cast_4, cast_5, cast_6, cast_7, cast_8, cast_9, ty_bs, ty_is, frz_zeroV, oOfR_o, ap_lenO, ap_ixO, tOf_some, pOf_fn, ap_P, ap_iZT, itZT_ok, zipD_cons, zipD_nil, str_i, sq_set, oOfS_o, set_ints, e]
        obtain ⟨f2, bs, t, q, h1, h2⟩ := bytes_big x k (f / 256) (acc ++ [f % 256]) (.val d) ds (by simpa using hd) (fun b hb => by
          rcases List.mem_append.mp hb with hb | hb
          · exact ha b hb
          · rw [List.mem_singleton.mp hb]; omega) (by rw [List.length_append, List.length_singleton]; omega)
        exact ⟨f2, bs, t, q, h1, by rw [List.length_append, List.length_singleton] at h2; omega⟩
      · have e : b_l_bytes_1 [x, .val (.int f), .un, .own (dI acc), .val d] = .nx [x, .val (.int f), .un, .own (dI acc), .val d] := by
          unfold b_l_bytes_1
          simp only [bind_ok, bind_exc, bind_bad, ofE_ok, ofE_exc, vOf_v, ap_C, ap_V, ap_nil, ap_cons, ap_U, ap_B, ap_chain, ap_and, ap_or, ap_tup, ap_F, ap_M, ap_sl, ap_pN, ap_pS, ap_L, ap_tE, ap_tAn, ap_tO, ap_tN, ap_tY, ap_if, ap_lD, ap_lF, ap_lCat, catL_ok, ap_lRep, repL_ok, ap_lSl, slL_lst, slL_scr, ap_iD, itL_lst, itL_scr, ap_iT, itT_tup, itT_ktp, ap_iS, itS_str, ap_iR1, itR1_ok, add_i, add_s, add_l, addX_i, addX_s, sub_i, mul_i, div_i, mod_i, pow_i, shl_i, shr_i, and_i, or_i, xor_i, neg_i, not_b, lt_i, le_i, gt_i, ge_i, eq_i, eq_s, ne_i, ne_s, is_non, is_int, is_str, is_tup, is_lst, isnt_non, isnt_int, isnt_str, isnt_tup, toBl_b, toIn_i, ix_s, ix_l, ix_r, ix_t, ix_k, sl_s, sl_l, sl_r, sl_t, len_s, len_l, len_r, len_t, len_k, int_i, int_b, abs_i, min_i, max_i, tup_l, tup_t, list_l, list_r, list_t, isi_i, isi_b, isi_s, isi_l, isi_t, isi_n, ty_ii, ty_bi, ty_ss, ty_ll, ty_tt, ty_tl, ty_lt, ty_tn, find_s, lower_s, sq_nx, sq_sq, sq_a, sq_o, sq_x, sq_if, sq_ret, sq_retL, oOf_o, sq_retO, sq_app, lstK_l, sq_ext, sq_aug, sq_g, sq_frz, sq_br, sq_ct, sq_raise, ofG_some, nx_ap, thenS_nx, thenS_rt, thenS_exc, sq_for, sq_wh, endV_v, endV_o, endV_n, endV_x, endL_o, endL_x, gN_ap, List.getElem?_cons_zero, List.getElem?_cons_succ, List.set_cons_zero, List.set_cons_succ, List.length_cons, List.length_nil, decide_eq_true_eq, Bool.not_eq_true, reduceIte, Bool.false_eq_true, decide_true, decide_false, Nat.reduceAdd, Nat.reduceLeDiff, Nat.reduceLT, Bool.not_true, Bool.not_false, List.nil_append, List.cons_append, List.map_cons, List.map_nil, List.replicate_succ, List.replicate_zero, Bool.not_eq_eq_eq_not, decide_eq_false_iff_not, and_self, and_true, true_and, and_false, false_and, or_true, true_or, or_false, false_or, or_self, Int.reduceLE, Int.reduceLT, Int.reduceNeg, Int.reduceAdd, Int.reduceSub, Int.reduceMul, Int.reduceDiv, Int.reduceMod, Int.reduceEq, Int.reduceToNat, Nat.reduceEqDiff, frz_zero, frz_succ, gT_tup, gT_ktp, gC_ap, gE_nil, cast_0, cast_1, cast_2, cast_3, cast_4, cast_5, cast_6, cast_7, cast_8, cast_9, ty_bs, ty_is, frz_zeroV, oOfR_o, ap_lenO, ap_ixO, tOf_some, pOf_fn, ap_P, ap_iZT, itZT_ok, zipD_cons, zipD_nil, str_i, sq_set, oOfS_o, set_ints, h]
        simp only [bind_ok, bind_exc, bind_bad, ofE_ok, ofE_exc, vOf_v, ap_C, ap_V, ap_nil, ap_cons, ap_U, ap_B, ap_chain, ap_and, ap_or, ap_tup, ap_F, ap_M, ap_sl, ap_pN, ap_pS, ap_L, ap_tE, ap_tAn, ap_tO, ap_tN, ap_tY, ap_if, ap_lD, ap_lF, ap_lCat, catL_ok, ap_lRep, repL_ok, ap_lSl, slL_lst, slL_scr, ap_iD, itL_lst, itL_scr, ap_iT, itT_tup, itT_ktp, ap_iS, itS_str, ap_iR1, itR1_ok, add_i, add_s, add_l, addX_i, addX_s, sub_i, mul_i, div_i, mod_i, pow_i, shl_i, shr_i, and_i, or_i, xor_i, neg_i, not_b, lt_i, le_i, gt_i, ge_i, eq_i, eq_s, ne_i, ne_s, is_non, is_int, is_str, is_tup, is_lst, isnt_non, isnt_int, isnt_str, isnt_tup, toBl_b, toIn_i, ix_s, ix_l, ix_r, ix_t, ix_k, sl_s, sl_l, sl_r, sl_t, len_s, len_l, len_r, len_t, len_k, int_i, int_b, abs_i, min_i, max_i, tup_l, tup_t, list_l, list_r, list_t, isi_i, isi_b, isi_s, isi_l, isi_t, isi_n, ty_ii, ty_bi, ty_ss, ty_ll, ty_tt, ty_tl, ty_lt, ty_tn, find_s, lower_s, sq_nx, sq_sq, sq_a, sq_o, sq_x, sq_if, sq_ret, sq_retL, oOf_o, sq_retO, sq_app, lstK_l, sq_ext, sq_aug, sq_g, sq_frz, sq_br, sq_ct, sq_raise, ofG_some, nx_ap, thenS_nx, thenS_rt, thenS_exc, sq_for, sq_wh, endV_v, endV_o, endV_n, endV_x, endL_o, endL_x, gN_ap, List.getElem?_cons_zero, List.getElem?_cons_succ, List.set_cons_zero, List.set_cons_succ, List.length_cons, List.length_nil, decide_eq_true_eq, Bool.not_eq_true, reduceIte, Bool.false_eq_true, decide_true, decide_false, Nat.reduceAdd, Nat.reduceLeDiff, Nat.reduceLT, Bool.not_true, Bool.not_false, List.nil_append, List.cons_append, List.map_cons, List.map_nil, List.replicate_succ, List.replicate_zero, Bool.not_eq_eq_eq_not, decide_eq_false_iff_not, and_self, and_true, true_and, and_false, false_and, or_true, true_or, or_false, false_or, or_self, Int.reduceLE, Int.reduceLT, Int.reduceNeg, Int.reduceAdd, Int.reduceSub, Int.reduceMul, Int.reduceDiv, Int.reduceMod, Int.reduceEq, Int.reduceToNat, Nat.reduceEqDiff, frz_zero, frz_succ, gT_tup, gT_ktp, gC_ap, gE_nil, cast_0, cast_1, cast_2, cast_3, cast_4, cast_5, cast_6, cast_7, cast_8, cast_9, ty_bs, ty_is, frz_zeroV, oOfR_o, ap_lenO, ap_ixO, tOf_some, pOf_fn, ap_P, ap_iZT, itZT_ok, zipD_cons, zipD_nil, str_i, sq_set, oOfS_o, set_ints, e]
        obtain ⟨f2, bs, t, q, h1, h2⟩ := bytes_big x k f acc (.val d) ds (by simpa using hd) ha (by omega)
        exact ⟨f2, bs, t, q, h1, by omega⟩
theorem bytes_ok {ns : List Int} (hl : ns.length ≤ 63) : ∃ bs : List Int, okB bs ∧ bs.length ≤ 63 ∧ m_l_bytes [.scr (dI ns)] = .ok (.lst (dI bs)) := by
  have cp : CPow 10 18 := ⟨by decide, by decide, by decide⟩
  have run : ∀ f : Int, (∃ bs : List Int, okB bs ∧ bs.length ≤ 63 ∧ endV ((sSeq (sIf (tE (eB dLt (eV 1) (eB dPow (eC (.int 10)) (eC (.int 18))))) (sSeq (sRet (eL (lLc (iD (eSl (eV 0) pN (pS (eC (.int 63))))) (gN 2) tY (eB dMod (eF fInt (eCons (eV 2) eNil)) (eC (.int 256))) [2])))
  sNx) sNx)
  (sSeq (sO 3 (lD eNil))
  (sSeq (sFor (iR1 (eCons (eC (.int 62)) eNil)) (gN 4) b_l_bytes_1)
  (sSeq (sFrz 3 (sRet (eV 3)))
  sNx)))) [.val (.scr (dI ns)), .val (.int f), .un, .un, .un]) = .ok (.lst (dI bs))) := fun f => by
    by_cases h : f < 10 ^ 18
    · refine ⟨ns.map (· % 256), fun b hb => ?_, by rw [List.length_map]; exact hl, ?_⟩
      · obtain ⟨n, _, rfl⟩ := List.mem_map.mp hb
        show 0 ≤ n % 256 ∧ n % 256 < 256
        omega
      · have c63 : cutG (dI ns) none (some 63) = dI ns := by
          rw [show (63 : Int) = ((63 : Nat) : Int) from rfl, cutG_to, List.take_of_length_le (by rw [List.length_map]; exact hl)]
        have q : lLc (iD (eSl (eV 0) pN (pS (eC (.int 63))))) (gN 2) tY (eB dMod (eF fInt (eCons (eV 2) eNil)) (eC (.int 256))) [2] [.val (.scr (dI ns)), .val (.int f), .un, .un, .un] = .ok ((dI ns).map fun d => match d with
            | .int b => .int (b % 256)
            | _ => .non) := by
          refine lc_map _ (by simp only [bind_ok, bind_exc, bind_bad, ofE_ok, ofE_exc, vOf_v, ap_C, ap_V, ap_nil, ap_cons, ap_U, ap_B, ap_chain, ap_and, ap_or, ap_tup, ap_F, ap_M, ap_sl, ap_pN, ap_pS, ap_L, ap_tE, ap_tAn, ap_tO, ap_tN, ap_tY, ap_if, ap_lD, ap_lF, ap_lCat, catL_ok, ap_lRep, repL_ok, ap_lSl, slL_lst, slL_scr, ap_iD, itL_lst, itL_scr, ap_iT, itT_tup, itT_ktp, ap_iS, itS_str, ap_iR1, itR1_ok, add_i, add_s, add_l, addX_i, addX_s, sub_i, mul_i, div_i, mod_i, pow_i, shl_i, shr_i, and_i, or_i, xor_i, neg_i, not_b, lt_i, le_i, gt_i, ge_i, eq_i, eq_s, ne_i, ne_s, is_non, is_int, is_str, is_tup, is_lst, isnt_non, isnt_int, isnt_str, isnt_tup, toBl_b, toIn_i, ix_s, ix_l, ix_r, ix_t, ix_k, sl_s, sl_l, sl_r, sl_t, len_s, len_l, len_r, len_t, len_k, int_i, int_b, abs_i, min_i, max_i, tup_l, tup_t, list_l, list_r, list_t, isi_i, isi_b, isi_s, isi_l, isi_t, isi_n, ty_ii, ty_bi, ty_ss, ty_ll, ty_tt, ty_tl, ty_lt, ty_tn, find_s, lower_s, sq_nx, sq_sq, sq_a, sq_o, sq_x, sq_if, sq_ret, sq_retL, oOf_o, sq_retO, sq_app, lstK_l, sq_ext, sq_aug, sq_g, sq_frz, sq_br, sq_ct, sq_raise, ofG_some, nx_ap, thenS_nx, thenS_rt, thenS_exc, sq_for, sq_wh, endV_v, endV_o, endV_n, endV_x, endL_o, endL_x, gN_ap, List.getElem?_cons_zero, List.getElem?_cons_succ, List.set_cons_zero, List.set_cons_succ, List.length_cons, List.length_nil, decide_eq_true_eq, Bool.not_eq_true, reduceIte, Bool.false_eq_true, decide_true, decide_false, Nat.reduceAdd, Nat.reduceLeDiff, Nat.reduceLT, Bool.not_true, Bool.not_false, List.nil_append, List.cons_append, List.map_cons, List.map_nil, List.replicate_succ, List.replicate_zero, Bool.not_eq_eq_eq_not, decide_eq_false_iff_not, and_self, and_true, true_and, and_false, false_and, or_true, true_or, or_false, false_or, or_self, Int.reduceLE, Int.reduceLT, Int.reduceNeg, Int.reduceAdd, Int.reduceSub, Int.reduceMul, Int.reduceDiv, Int.reduceMod, Int.reduceEq, Int.reduceToNat, Nat.reduceEqDiff, frz_zero, frz_succ, gT_tup, gT_ktp, gC_ap, gE_nil, cast_0, cast_1, cast_2, cast_3, cast_4, cast_5, cast_6, cast_7, cast_8, cast_9, ty_bs, ty_is, frz_zeroV, oOfR_o, ap_lenO, ap_ixO, tOf_some, pOf_fn, ap_P, ap_iZT, itZT_ok, zipD_cons, zipD_nil, str_i, sq_set, oOfS_o, set_ints, c63]) (by rw [List.length_map]; omega) fun d hd => ?_
          obtain ⟨b, hb, rfl⟩ := List.mem_map.mp hd
          refine ⟨_, gN_ap, ?_⟩
          rw [show (wipeS [.val (.scr (dI ns)), .val (.int f), .un, .un, .un] [2]).set 2 (.val (.int b)) = [.val (.scr (dI ns)), .val (.int f), .val (.int b), .un, .un] from rfl]
          simp only [bind_ok, bind_exc, bind_bad, ofE_ok, ofE_exc, vOf_v, ap_C, ap_V, ap_nil, ap_cons, ap_U, ap_B, ap_chain, ap_and, ap_or, ap_tup, ap_F, ap_M, ap_sl, ap_pN, ap_pS, ap_L, ap_tE, ap_tAn, ap_tO, ap_tN, ap_tY, ap_if, ap_lD, ap_lF, ap_lCat, catL_ok, ap_lRep, repL_ok, ap_lSl, slL_lst, slL_scr, ap_iD, itL_lst, itL_scr, ap_iT, itT_tup, itT_ktp, ap_iS, itS_str, ap_iR1, itR1_ok, add_i, add_s, add_l, addX_i, addX_s, sub_i, mul_i, div_i, mod_i, pow_i, shl_i, shr_i, and_i, or_i, xor_i, neg_i, not_b, lt_i, le_i, gt_i, ge_i, eq_i, eq_s, ne_i, ne_s, is_non, is_int, is_str, is_tup, is_lst, isnt_non, isnt_int, isnt_str, isnt_tup, toBl_b, toIn_i, ix_s, ix_l, ix_r, ix_t, ix_k, sl_s, sl_l, sl_r, sl_t, len_s, len_l, len_r, len_t, len_k, int_i, int_b, abs_i, min_i, max_i, tup_l, tup_t, list_l, list_r, list_t, isi_i, isi_b, isi_s, isi_l, isi_t, isi_n, ty_ii, ty_bi, ty_ss, ty_ll, ty_tt, ty_tl, ty_lt, ty_tn, find_s, lower_s, sq_nx, sq_sq, sq_a, sq_o, sq_x, sq_if, sq_ret, sq_retL, oOf_o, sq_retO, sq_app, lstK_l, sq_ext, sq_aug, sq_g, sq_frz, sq_br, sq_ct, sq_raise, ofG_some, nx_ap, thenS_nx, thenS_rt, thenS_exc, sq_for, sq_wh, endV_v, endV_o, endV_n, endV_x, endL_o, endL_x, gN_ap, List.getElem?_cons_zero, List.getElem?_cons_succ, List.set_cons_zero, List.set_cons_succ, List.length_cons, List.length_nil, decide_eq_true_eq, Bool.not_eq_true, reduceIte, Bool.false_eq_true, decide_true, decide_false, Nat.reduceAdd, Nat.reduceLeDiff, Nat.reduceLT, Bool.not_true, Bool.not_false, List.nil_append, List.cons_append, List.map_cons, List.map_nil, List.replicate_succ, List.replicate_zero, Bool.not_eq_eq_eq_not, decide_eq_false_iff_not, and_self, and_true, true_and, and_false, false_and, or_true, true_or, or_false, false_or, or_self, Int.reduceLE, Int.reduceLT, Int.reduceNeg, Int.reduceAdd, Int.reduceSub, Int.reduceMul, Int.reduceDiv, Int.reduceMod, Int.reduceEq, Int.reduceToNat, Nat.reduceEqDiff, frz_zero, frz_succ, gT_tup, gT_ktp, gC_ap, gE_nil, cast_0, cast_1, cast_2, cast_3, cast_4, cast_5, cast_6, cast_7, cast_8, cast_9, ty_bs, ty_is, frz_zeroV, oOfR_o, ap_lenO, ap_ixO, tOf_some, pOf_fn, ap_P, ap_iZT, itZT_ok, zipD_cons, zipD_nil, str_i, sq_set, oOfS_o, set_ints]
        have e : ((dI ns).map fun d => match d with
            | .int b => D.int (b % 256)
            | _ => .non) = dI (ns.map (· % 256)) := by
          rw [dI, dI, List.map_map, List.map_map]
          rfl
        rw [e] at q
        simp only [bind_ok, bind_exc, bind_bad, ofE_ok, ofE_exc, vOf_v, ap_C, ap_V, ap_nil, ap_cons, ap_U, ap_B, ap_chain, ap_and, ap_or, ap_tup, ap_F, ap_M, ap_sl, ap_pN, ap_pS, ap_L, ap_tE, ap_tAn, ap_tO, ap_tN, ap_tY, ap_if, ap_lD, ap_lF, ap_lCat, catL_ok, ap_lRep, repL_ok, ap_lSl, slL_lst, slL_scr, ap_iD, itL_lst, itL_scr, ap_iT, itT_tup, itT_ktp, ap_iS, itS_str, ap_iR1, itR1_ok, add_i, add_s, add_l, addX_i, addX_s, sub_i, mul_i, div_i, mod_i, pow_i, shl_i, shr_i, and_i, or_i, xor_i, neg_i, not_b, lt_i, le_i, gt_i, ge_i, eq_i, eq_s, ne_i, ne_s, is_non, is_int, is_str, is_tup, is_lst, isnt_non, isnt_int, isnt_str, isnt_tup, toBl_b, toIn_i, ix_s, ix_l, ix_r, ix_t, ix_k, sl_s, sl_l, sl_r, sl_t, len_s, len_l, len_r, len_t, len_k, int_i, int_b, abs_i, min_i, max_i, tup_l, tup_t, list_l, list_r, list_t, isi_i, isi_b, isi_s, isi_l, isi_t, isi_n, ty_ii, ty_bi, ty_ss, ty_ll, ty_tt, ty_tl, ty_lt, ty_tn, find_s, lower_s, sq_nx, sq_sq, sq_a, sq_o, sq_x, sq_if, sq_ret, sq_retL, oOf_o, sq_retO, sq_app, lstK_l, sq_ext, sq_aug, sq_g, sq_frz, sq_br, sq_ct, sq_raise, ofG_some, nx_ap, thenS_nx, thenS_rt, thenS_exc, sq_for, sq_wh, endV_v, endV_o, endV_n, endV_x, endL_o, endL_x, gN_ap, List.getElem?_cons_zero, List.getElem?_cons_succ, List.set_cons_zero, List.set_cons_succ, List.length_cons, List.length_nil, decide_eq_true_eq, Bool.not_eq_true, reduceIte, Bool.false_eq_true, decide_true, decide_false, Nat.reduceAdd, Nat.reduceLeDiff, Nat.reduceLT, Bool.not_true, Bool.not_false, List.nil_append, List.cons_append, List.map_cons, List.map_nil, List.replicate_succ, List.replicate_zero, Bool.not_eq_eq_eq_not, decide_eq_false_iff_not, and_self, and_true, true_and, and_false, false_and, or_true, true_or, or_false, false_or, or_self, Int.reduceLE, Int.reduceLT, Int.reduceNeg, Int.reduceAdd, Int.reduceSub, Int.reduceMul, Int.reduceDiv, Int.reduceMod, Int.reduceEq, Int.reduceToNat, Nat.reduceEqDiff, frz_zero, frz_succ, gT_tup, gT_ktp, gC_ap, gE_nil, cast_0, cast_1, cast_2, cast_3, cast_4, cast_5, cast_6, cast_7, cast_8, cast_9, ty_bs, ty_is, frz_zeroV, oOfR_o, ap_lenO, ap_ixO, tOf_some, pOf_fn, ap_P, ap_iZT, itZT_ok, zipD_cons, zipD_nil, str_i, sq_set, oOfS_o, set_ints, cp, eq_true h, q]
    · obtain ⟨f2, bs, t, q, h1, h2⟩ := bytes_big (.val (.scr (dI ns))) 62 f [] .un ((List.range 62).map fun (i : Nat) => D.int i) (by rw [List.length_map, List.length_range]) (fun b hb => by cases hb) (by decide)
      refine ⟨bs, h1, by rw [List.length_nil] at h2; omega, ?_⟩
      simp only [bind_ok, bind_exc, bind_bad, ofE_ok, ofE_exc, vOf_v, ap_C, ap_V, ap_nil, ap_cons, ap_U, ap_B, ap_chain, ap_and, ap_or, ap_tup, ap_F, ap_M, ap_sl, ap_pN, ap_pS, ap_L, ap_tE, ap_tAn, ap_tO, ap_tN, ap_tY, ap_if, ap_lD, ap_lF, ap_lCat, catL_ok, ap_lRep, repL_ok, ap_lSl, slL_lst, slL_scr, ap_iD, itL_lst, itL_scr, ap_iT, itT_tup, itT_ktp, ap_iS, itS_str, ap_iR1, itR1_ok, add_i, add_s, add_l, addX_i, addX_s, sub_i, mul_i, div_i, mod_i, pow_i, shl_i, shr_i, and_i, or_i, xor_i, neg_i, not_b, lt_i, le_i, gt_i, ge_i, eq_i, eq_s, ne_i, ne_s, is_non, is_int, is_str, is_tup, is_lst, isnt_non, isnt_int, isnt_str, isnt_tup, toBl_b, toIn_i, ix_s, ix_l, ix_r, ix_t, ix_k, sl_s, sl_l, sl_r, sl_t, len_s, len_l, len_r, len_t, len_k, int_i, int_b, abs_i, min_i, max_i, tup_l, tup_t, list_l, list_r, list_t, isi_i, isi_b, isi_s, isi_l, isi_t, isi_n, ty_ii, ty_bi, ty_ss, ty_ll, ty_tt, ty_tl, ty_lt, ty_tn, find_s, lower_s, sq_nx, sq_sq, sq_a, sq_o, sq_x, sq_if, sq_ret, sq_retL, oOf_o, sq_retO, sq_app, lstK_l, sq_ext, sq_aug, sq_g, sq_frz, sq_br, sq_ct, sq_raise, ofG_some, nx_ap, thenS_nx, thenS_rt, thenS_exc, sq_for, sq_wh, endV_v, endV_o, endV_n, endV_x, endL_o, endL_x, gN_ap, List.getElem?_cons_zero, List.getElem?_cons_succ, List.set_cons_zero, List.set_cons_succ, List.length_cons, List.length_nil, decide_eq_true_eq, Bool.not_eq_true, reduceIte, Bool.false_eq_true, decide_true, decide_false, Nat.reduceAdd, Nat.reduceLeDiff, Nat.reduceLT, Bool.not_true, Bool.not_false, List.nil_append, List.cons_append, List.map_cons, List.map_nil, List.replicate_succ, List.replicate_zero, Bool.not_eq_eq_eq_not, decide_eq_false_iff_not, and_self, and_true, true_and, and_false, false_and, or_true, true_or, or_false, false_or, or_self, Int.reduceLE, Int.reduceLT, Int.reduceNeg, Int.reduceAdd, Int.reduceSub, Int.reduceMul, Int.reduceDiv, Int.reduceMod, Int.reduceEq, Int.reduceToNat, Nat.reduceEqDiff, frz_zero, frz_succ, gT_tup, gT_ktp, gC_ap, gE_nil, cast_0, cast_1, cast_2, cast_3, cast_4, cast_5, cast_6, cast_7, cast_8, cast_9, ty_bs, ty_is, frz_zeroV, oOfR_o, ap_lenO, ap_ixO, tOf_some, pOf_fn, ap_P, ap_iZT, itZT_ok, zipD_cons, zipD_nil, str_i, sq_set, oOfS_o, set_ints, cp, eq_false h]
      rw [show ([] : List D) = dI [] from rfl, q]
      simp only [bind_ok, bind_exc, bind_bad, ofE_ok, ofE_exc, vOf_v, ap_C, ap_V, ap_nil, ap_cons, ap_U, ap_B, ap_chain, ap_and, ap_or, ap_tup, ap_F, ap_M, ap_sl, ap_pN, ap_pS, ap_L, ap_tE, ap_tAn, ap_tO, ap_tN, ap_tY, ap_if, ap_lD, ap_lF, ap_lCat, catL_ok, ap_lRep, repL_ok, ap_lSl, slL_lst, slL_scr, ap_iD, itL_lst, itL_scr, ap_iT, itT_tup, itT_ktp, ap_iS, itS_str, ap_iR1, itR1_ok, add_i, add_s, add_l, addX_i, addX_s, sub_i, mul_i, div_i, mod_i, pow_i, shl_i, shr_i, and_i, or_i, xor_i, neg_i, not_b, lt_i, le_i, gt_i, ge_i, eq_i, eq_s, ne_i, ne_s, is_non, is_int, is_str, is_tup, is_lst, isnt_non, isnt_int, isnt_str, isnt_tup, toBl_b, toIn_i, ix_s, ix_l, ix_r, ix_t, ix_k, sl_s, sl_l, sl_r, sl_t, len_s, len_l, len_r, len_t, len_k, int_i, int_b, abs_i, min_i, max_i, tup_l, tup_t, list_l, list_r, list_t, isi_i, isi_b, isi_s, isi_l, isi_t, isi_n, ty_ii, ty_bi, ty_ss, ty_ll, ty_tt, ty_tl, ty_lt, ty_tn, find_s, lower_s, sq_nx, sq_sq, sq_a, sq_o, sq_x, sq_if, sq_ret, sq_retL, oOf_o, sq_retO, sq_app, lstK_l, sq_ext, sq_aug, sq_g, sq_frz, sq_br, sq_ct, sq_raise, ofG_some, nx_ap, thenS_nx, thenS_rt, thenS_exc, sq_for, sq_wh, endV_v, endV_o, endV_n, endV_x, endL_o, endL_x, gN_ap, List.getElem?_cons_zero, List.getElem?_cons_succ, List.set_cons_zero, List.set_cons_succ, List.length_cons, List.length_nil, decide_eq_true_eq, Bool.not_eq_true, reduceIte, Bool.false_eq_true, decide_true, decide_false, Nat.reduceAdd, Nat.reduceLeDiff, Nat.reduceLT, Bool.not_true, Bool.not_false, List.nil_append, List.cons_append, List.map_cons, List.map_nil, List.replicate_succ, List.replicate_zero, Bool.not_eq_eq_eq_not, decide_eq_false_iff_not, and_self, and_true, true_and, and_false, false_and, or_true, true_or, or_false, false_or, or_self, Int.reduceLE, Int.reduceLT, Int.reduceNeg, Int.reduceAdd, Int.reduceSub, Int.reduceMul, Int.reduceDiv, Int.reduceMod, Int.reduceEq, Int.reduceToNat, Nat.reduceEqDiff, frz_zero, frz_succ, gT_tup, gT_ktp, gC_ap, gE_nil, cast_0, cast_1, cast_2, cast_3, cast_4, cast_5, cast_6, cast_7, cast_8, cast_9, ty_bs, ty_is, frz_zeroV, oOfR_o, ap_lenO, ap_ixO, tOf_some, pOf_fn, ap_P, ap_iZT, itZT_ok, zipD_cons, zipD_nil, str_i, sq_set, oOfS_o, set_ints]
  rw [e_l_bytes]
  unfold b_l_bytes
  cases ns with
  | nil =>
    obtain ⟨bs, h1, h2, h3⟩ := run 0
    refine ⟨bs, h1, h2, ?_⟩
    rw [← h3]
    simp only [bind_ok, bind_exc, bind_bad, ofE_ok, ofE_exc, vOf_v, ap_C, ap_V, ap_nil, ap_cons, ap_U, ap_B, ap_chain, ap_and, ap_or, ap_tup, ap_F, ap_M, ap_sl, ap_pN, ap_pS, ap_L, ap_tE, ap_tAn, ap_tO, ap_tN, ap_tY, ap_if, ap_lD, ap_lF, ap_lCat, catL_ok, ap_lRep, repL_ok, ap_lSl, slL_lst, slL_scr, ap_iD, itL_lst, itL_scr, ap_iT, itT_tup, itT_ktp, ap_iS, itS_str, ap_iR1, itR1_ok, add_i, add_s, add_l, addX_i, addX_s, sub_i, mul_i, div_i, mod_i, pow_i, shl_i, shr_i, and_i, or_i, xor_i, neg_i, not_b, lt_i, le_i, gt_i, ge_i, eq_i, eq_s, ne_i, ne_s, is_non, is_int, is_str, is_tup, is_lst, isnt_non, isnt_int, isnt_str, isnt_tup, toBl_b, toIn_i, ix_s, ix_l, ix_r, ix_t, ix_k, sl_s, sl_l, sl_r, sl_t, len_s, len_l, len_r, len_t, len_k, int_i, int_b, abs_i, min_i, max_i, tup_l, tup_t, list_l, list_r, list_t, isi_i, isi_b, isi_s, isi_l, isi_t, isi_n, ty_ii, ty_bi, ty_ss, ty_ll, ty_tt, ty_tl, ty_lt, ty_tn, find_s, lower_s, sq_nx, sq_sq, sq_a, sq_o, sq_x, sq_if, sq_ret, sq_retL, oOf_o, sq_retO, sq_app, lstK_l, sq_ext, sq_aug, sq_g, sq_frz, sq_br, sq_ct, sq_raise, ofG_some, nx_ap, thenS_nx, thenS_rt, thenS_exc, sq_for, sq_wh, endV_v, endV_o, endV_n, endV_x, endL_o, endL_x, gN_ap, List.getElem?_cons_zero, List.getElem?_cons_succ, List.set_cons_zero, List.set_cons_succ, List.length_cons, List.length_nil, decide_eq_true_eq, Bool.not_eq_true, reduceIte, Bool.false_eq_true, decide_true, decide_false, Nat.reduceAdd, Nat.reduceLeDiff, Nat.reduceLT, Bool.not_true, Bool.not_false, List.nil_append, List.cons_append, List.map_cons, List.map_nil, List.replicate_succ, List.replicate_zero, Bool.not_eq_eq_eq_not, decide_eq_false_iff_not, and_self, and_true, true_and, and_false, false_and, or_true, true_or, or_false, false_or, or_self, Int.reduceLE, Int.reduceLT, Int.reduceNeg, Int.reduceAdd, Int.reduceSub, Int.reduceMul, Int.reduceDiv, Int.reduceMod, Int.reduceEq, Int.reduceToNat, Nat.reduceEqDiff, frz_zero, frz_succ, gT_tup, gT_ktp, gC_ap, gE_nil, cast_0, cast_1, cast_2, cast_3, cast_4, cast_5, cast_6, cast_7, cast_8, cast_9, ty_bs, ty_is, frz_zeroV, oOfR_o, ap_lenO, ap_ixO, tOf_some, pOf_fn, ap_P, ap_iZT, itZT_ok, zipD_cons, zipD_nil, str_i, sq_set, oOfS_o, set_ints, List.length_map]
  | cons n ns =>
    obtain ⟨bs, h1, h2, h3⟩ := run n
    refine ⟨bs, h1, h2, ?_⟩
    rw [← h3]
    have ix : ixL (D.int n :: dI ns) 0 = .ok (.int n) := ixL_ok (Dm.atI_nat (xs := D.int n :: dI ns) (k := 0) rfl)
    simp only [bind_ok, bind_exc, bind_bad, ofE_ok, ofE_exc, vOf_v, ap_C, ap_V, ap_nil, ap_cons, ap_U, ap_B, ap_chain, ap_and, ap_or, ap_tup, ap_F, ap_M, ap_sl, ap_pN, ap_pS, ap_L, ap_tE, ap_tAn, ap_tO, ap_tN, ap_tY, ap_if, ap_lD, ap_lF, ap_lCat, catL_ok, ap_lRep, repL_ok, ap_lSl, slL_lst, slL_scr, ap_iD, itL_lst, itL_scr, ap_iT, itT_tup, itT_ktp, ap_iS, itS_str, ap_iR1, itR1_ok, add_i, add_s, add_l, addX_i, addX_s, sub_i, mul_i, div_i, mod_i, pow_i, shl_i, shr_i, and_i, or_i, xor_i, neg_i, not_b, lt_i, le_i, gt_i, ge_i, eq_i, eq_s, ne_i, ne_s, is_non, is_int, is_str, is_tup, is_lst, isnt_non, isnt_int, isnt_str, isnt_tup, toBl_b, toIn_i, ix_s, ix_l, ix_r, ix_t, ix_k, sl_s, sl_l, sl_r, sl_t, len_s, len_l, len_r, len_t, len_k, int_i, int_b, abs_i, min_i, max_i, tup_l, tup_t, list_l, list_r, list_t, isi_i, isi_b, isi_s, isi_l, isi_t, isi_n, ty_ii, ty_bi, ty_ss, ty_ll, ty_tt, ty_tl, ty_lt, ty_tn, find_s, lower_s, sq_nx, sq_sq, sq_a, sq_o, sq_x, sq_if, sq_ret, sq_retL, oOf_o, sq_retO, sq_app, lstK_l, sq_ext, sq_aug, sq_g, sq_frz, sq_br, sq_ct, sq_raise, ofG_some, nx_ap, thenS_nx, thenS_rt, thenS_exc, sq_for, sq_wh, endV_v, endV_o, endV_n, endV_x, endL_o, endL_x, gN_ap, List.getElem?_cons_zero, List.getElem?_cons_succ, List.set_cons_zero, List.set_cons_succ, List.length_cons, List.length_nil, decide_eq_true_eq, Bool.not_eq_true, reduceIte, Bool.false_eq_true, decide_true, decide_false, Nat.reduceAdd, Nat.reduceLeDiff, Nat.reduceLT, Bool.not_true, Bool.not_false, List.nil_append, List.cons_append, List.map_cons, List.map_nil, List.replicate_succ, List.replicate_zero, Bool.not_eq_eq_eq_not, decide_eq_false_iff_not, and_self, and_true, true_and, and_false, false_and, or_true, true_or, or_false, false_or, or_self, Int.reduceLE, Int.reduceLT, Int.reduceNeg, Int.reduceAdd, Int.reduceSub, Int.reduceMul, Int.reduceDiv, Int.reduceMod, Int.reduceEq, Int.reduceToNat, Nat.reduceEqDiff, frz_zero, frz_succ, gT_tup, gT_ktp, gC_ap, gE_nil, cast_0, cast_1, cast_2, cast_3, cast_4, cast_5, cast_6, cast_7, cast_8, cast_9, ty_bs, ty_is, frz_zeroV, oOfR_o, ap_lenO, ap_ixO, tOf_some, pOf_fn, ap_P, ap_iZT, itZT_ok, zipD_cons, zipD_nil, str_i, sq_set, oOfS_o, set_ints, List.length_map, ix, show (0 : Int) < ((ns.length + 1 : Nat) : Int) by omega]
/-! tokens -/
theorem pos0 (F : List Nat) (hl : F.length ≤ 1000) : m_position [.str (tx F), .int 0] = .ok (.tup [.int 1, .int 1]) := by
  have c : cutG F none (some 0) = [] := by rw [show (0 : Int) = ((0 : Nat) : Int) from rfl, cutG_to, List.take_zero]
  have k := tx_count0 (a := []) (c := 10) (by simp)
  have r := tx_rfind0 (a := []) (c := 10) (by simp)
  rw [e_position]
  unfold b_position
  simp only [bind_ok, bind_exc, bind_bad, ofE_ok, ofE_exc, vOf_v, ap_C, ap_V, ap_nil, ap_cons, ap_U, ap_B, ap_chain, ap_and, ap_or, ap_tup, ap_F, ap_M, ap_sl, ap_pN, ap_pS, ap_L, ap_tE, ap_tAn, ap_tO, ap_tN, ap_tY, ap_if, ap_lD, ap_lF, ap_lCat, catL_ok, ap_lRep, repL_ok, ap_lSl, slL_lst, slL_scr, ap_iD, itL_lst, itL_scr, ap_iT, itT_tup, itT_ktp, ap_iS, itS_str, ap_iR1, itR1_ok, add_i, add_s, add_l, addX_i, addX_s, sub_i, mul_i, div_i, mod_i, pow_i, shl_i, shr_i, and_i, or_i, xor_i, neg_i, not_b, lt_i, le_i, gt_i, ge_i, eq_i, eq_s, ne_i, ne_s, is_non, is_int, is_str, is_tup, is_lst, isnt_non, isnt_int, isnt_str, isnt_tup, toBl_b, toIn_i, ix_s, ix_l, ix_r, ix_t, ix_k, sl_s, sl_l, sl_r, sl_t, len_s, len_l, len_r, len_t, len_k, int_i, int_b, abs_i, min_i, max_i, tup_l, tup_t, list_l, list_r, list_t, isi_i, isi_b, isi_s, isi_l, isi_t, isi_n, ty_ii, ty_bi, ty_ss, ty_ll, ty_tt, ty_tl, ty_lt, ty_tn, find_s, lower_s, sq_nx, sq_sq, sq_a, sq_o, sq_x, sq_if, sq_ret, sq_retL, oOf_o, sq_retO, sq_app, lstK_l, sq_ext, sq_aug, sq_g, sq_frz, sq_br, sq_ct, sq_raise, ofG_some, nx_ap, thenS_nx, thenS_rt, thenS_exc, sq_for, sq_wh, endV_v, endV_o, endV_n, endV_x, endL_o, endL_x, gN_ap, List.getElem?_cons_zero, List.getElem?_cons_succ, List.set_cons_zero, List.set_cons_succ, List.length_cons, List.length_nil, decide_eq_true_eq, Bool.not_eq_true, reduceIte, Bool.false_eq_true, decide_true, decide_false, Nat.reduceAdd, Nat.reduceLeDiff, Nat.reduceLT, Bool.not_true, Bool.not_false, List.nil_append, List.cons_append, List.map_cons, List.map_nil, List.replicate_succ, List.replicate_zero, Bool.not_eq_eq_eq_not, decide_eq_false_iff_not, and_self, and_true, true_and, and_false, false_and, or_true, true_or, or_false, false_or, or_self, Int.reduceLE, Int.reduceLT, Int.reduceNeg, Int.reduceAdd, Int.reduceSub, Int.reduceMul, Int.reduceDiv, Int.reduceMod, Int.reduceEq, Int.reduceToNat, Nat.reduceEqDiff, frz_zero, frz_succ, gT_tup, gT_ktp, gC_ap, gE_nil, cast_0, cast_1, cast_2, cast_3, cast_4, cast_5, cast_6, cast_7, cast_8, cast_9, ty_bs, ty_is, frz_zeroV, oOfR_o, ap_lenO, ap_ixO, tOf_some, pOf_fn, ap_P, ap_iZT, itZT_ok, zipD_cons, zipD_nil, str_i, sq_set, oOfS_o, set_ints, tx_len, show F.length ≤ 100000 by omega, tx_cut, c, n_tx, show isTy .str (.str (tx [])) = true from rfl, show mCount (.str (tx [])) [.str (tx [10])] = .ok (.int 0) from congrArg (fun i => R.ok (D.int i)) k, show mRfind (.str (tx [])) [.str (tx [10])] = .ok (.int (-1)) from congrArg (fun i => R.ok (D.int i)) r]
theorem pos_end {F : List Nat} (hl : F.length ≤ 1000) (h : 10 ∉ F) : m_position [.str (tx F), .int (F.length : Int)] = .ok (.tup [.int 1, .int ((F.length : Int) + 1)]) := by
  have c : cutG F none (some (F.length : Int)) = F := by rw [cutG_to, List.take_length]
  have k := tx_count0 h
  have r := tx_rfind0 h
  rw [e_position]
  unfold b_position
  simp only [bind_ok, bind_exc, bind_bad, ofE_ok, ofE_exc, vOf_v, ap_C, ap_V, ap_nil, ap_cons, ap_U, ap_B, ap_chain, ap_and, ap_or, ap_tup, ap_F, ap_M, ap_sl, ap_pN, ap_pS, ap_L, ap_tE, ap_tAn, ap_tO, ap_tN, ap_tY, ap_if, ap_lD, ap_lF, ap_lCat, catL_ok, ap_lRep, repL_ok, ap_lSl, slL_lst, slL_scr, ap_iD, itL_lst, itL_scr, ap_iT, itT_tup, itT_ktp, ap_iS, itS_str, ap_iR1, itR1_ok, add_i, add_s, add_l, addX_i, addX_s, sub_i, mul_i, div_i, mod_i, pow_i, shl_i, shr_i, and_i, or_i, xor_i, neg_i, not_b, lt_i, le_i, gt_i, ge_i, eq_i, eq_s, ne_i, ne_s, is_non, is_int, is_str, is_tup, is_lst, isnt_non, isnt_int, isnt_str, isnt_tup, toBl_b, toIn_i, ix_s, ix_l, ix_r, ix_t, ix_k, sl_s, sl_l, sl_r, sl_t, len_s, len_l, len_r, len_t, len_k, int_i, int_b, abs_i, min_i, max_i, tup_l, tup_t, list_l, list_r, list_t, isi_i, isi_b, isi_s, isi_l, isi_t, isi_n, ty_ii, ty_bi, ty_ss, ty_ll, ty_tt, ty_tl, ty_lt, ty_tn, find_s, lower_s, sq_nx, sq_sq, sq_a, sq_o, sq_x, sq_if, sq_ret, sq_retL, oOf_o, sq_retO, sq_app, lstK_l, sq_ext, sq_aug, sq_g, sq_frz, sq_br, sq_ct, sq_raise, ofG_some, nx_ap, thenS_nx, thenS_rt, thenS_exc, sq_for, sq_wh, endV_v, endV_o, endV_n, endV_x, endL_o, endL_x, gN_ap, List.getElem?_cons_zero, List.getElem?_cons_succ, List.set_cons_zero, List.set_cons_succ, List.length_cons, List.length_nil, decide_eq_true_eq, Bool.not_eq_true, reduceIte, Bool.false_eq_true, decide_true, decide_false, Nat.reduceAdd, Nat.reduceLeDiff, Nat.reduceLT, Bool.not_true, Bool.not_false, List.nil_append, List.cons_append, List.map_cons, List.map_nil, List.replicate_succ, List.replicate_zero, Bool.not_eq_eq_eq_not, decide_eq_false_iff_not, and_self, and_true, true_and, and_false, false_and, or_true, true_or, or_false, false_or, or_self, Int.reduceLE, Int.reduceLT, Int.reduceNeg, Int.reduceAdd, Int.reduceSub, Int.reduceMul, Int.reduceDiv, Int.reduceMod, Int.reduceEq, Int.reduceToNat, Nat.reduceEqDiff, frz_zero, frz_succ, gT_tup, gT_ktp, gC_ap, gE_nil, cast_0, cast_1, cast_2, cast_3, cast_4, cast_5, cast_6, cast_7, cast_8, cast_9, ty_bs, ty_is, frz_zeroV, oOfR_o, ap_lenO, ap_ixO, tOf_some, pOf_fn, ap_P, ap_iZT, itZT_ok, zipD_cons, zipD_nil, str_i, sq_set, oOfS_o, set_ints, tx_len, show F.length ≤ 100000 by omega, tx_cut, c, n_tx, show isTy .str (.str (tx F)) = true from rfl, show mCount (.str (tx F)) [.str (tx [10])] = .ok (.int 0) from congrArg (fun i => R.ok (D.int i)) k, show mRfind (.str (tx F)) [.str (tx [10])] = .ok (.int (-1)) from congrArg (fun i => R.ok (D.int i)) r, show (F.length : Int) - -1 = F.length + 1 by omega]
theorem blank_tx : (Str.ofString " \n\t") = tx [32, 10, 9] := by decide +kernel
theorem cc_tx : (Str.ofString ";;") = tx [59, 59] := by decide +kernel
theorem pc_tx : (Str.ofString "(;") = tx [40, 59] := by decide +kernel
theorem lp_tx : (Str.ofString "(") = tx [40] := by decide +kernel
theorem rp_tx : (Str.ofString ")") = tx [41] := by decide +kernel
theorem blanks0 (F : List Nat) (hl : (34 :: F).length ≤ 1000) : m_after_blanks [.str (tx (34 :: F)), .int 0] = .ok (.int 0) := by
  rw [List.length_cons] at hl
  have q := tx_ix (a := 34 :: F) (i := 0) (c := 34) (by decide) rfl
  have c : cutG (34 :: F) (some 0) (some 2) = 34 :: F.take 1 := by
    rw [show (0 : Int) = ((0 : Nat) : Int) from rfl, show (2 : Int) = ((2 : Nat) : Int) from rfl, cut_ft]
    rfl
  have m1 : (tx (34 :: F.take 1) = tx [59, 59]) = False := eq_false fun z => by have := tx_inj.mp z; simp at this
  have m2 : (tx (34 :: F.take 1) = tx [40, 59]) = False := eq_false fun z => by have := tx_inj.mp z; simp at this
  have m : decide ((34 : Nat) ∈ [32, 10, 9]) = false := by decide
  have t : (tE (eB dLt (eV 1) (eF fLen (eCons (eV 0) eNil)))) [.val (.str (tx (34 :: F))), .val (.int 0), .un] = .ok true := by
    simp only [bind_ok, bind_exc, bind_bad, ofE_ok, ofE_exc, vOf_v, ap_C, ap_V, ap_nil, ap_cons, ap_U, ap_B, ap_chain, ap_and, ap_or, ap_tup, ap_F, ap_M, ap_sl, ap_pN, ap_pS, ap_L, ap_tE, ap_tAn, ap_tO, ap_tN, ap_tY, ap_if, ap_lD, ap_lF, ap_lCat, catL_ok, ap_lRep, repL_ok, ap_lSl, slL_lst, slL_scr, ap_iD, itL_lst, itL_scr, ap_iT, itT_tup, itT_ktp, ap_iS, itS_str, ap_iR1, itR1_ok, add_i, add_s, add_l, addX_i, addX_s, sub_i, mul_i, div_i, mod_i, pow_i, shl_i, shr_i, and_i, or_i, xor_i, neg_i, not_b, lt_i, le_i, gt_i, ge_i, eq_i, eq_s, ne_i, ne_s, is_non, is_int, is_str, is_tup, is_lst, isnt_non, isnt_int, isnt_str, isnt_tup, toBl_b, toIn_i, ix_s, ix_l, ix_r, ix_t, ix_k, sl_s, sl_l, sl_r, sl_t, len_s, len_l, len_r, len_t, len_k, int_i, int_b, abs_i, min_i, max_i, tup_l, tup_t, list_l, list_r, list_t, isi_i, isi_b, isi_s, isi_l, isi_t, isi_n, ty_ii, ty_bi, ty_ss, ty_ll, ty_tt, ty_tl, ty_lt, ty_tn, find_s, lower_s, sq_nx, sq_sq, sq_a, sq_o, sq_x, sq_if, sq_ret, sq_retL, oOf_o, sq_retO, sq_app, lstK_l, sq_ext, sq_aug, sq_g, sq_frz, sq_br, sq_ct, sq_raise, ofG_some, nx_ap, thenS_nx, thenS_rt, thenS_exc, sq_for, sq_wh, endV_v, endV_o, endV_n, endV_x, endL_o, endL_x, gN_ap, List.getElem?_cons_zero, List.getElem?_cons_succ, List.set_cons_zero, List.set_cons_succ, List.length_cons, List.length_nil, decide_eq_true_eq, Bool.not_eq_true, reduceIte, Bool.false_eq_true, decide_true, decide_false, Nat.reduceAdd, Nat.reduceLeDiff, Nat.reduceLT, Bool.not_true, Bool.not_false, List.nil_append, List.cons_append, List.map_cons, List.map_nil, List.replicate_succ, List.replicate_zero, Bool.not_eq_eq_eq_not, decide_eq_false_iff_not, and_self, and_true, true_and, and_false, false_and, or_true, true_or, or_false, false_or, or_self, Int.reduceLE, Int.reduceLT, Int.reduceNeg, Int.reduceAdd, Int.reduceSub, Int.reduceMul, Int.reduceDiv, Int.reduceMod, Int.reduceEq, Int.reduceToNat, Nat.reduceEqDiff, frz_zero, frz_succ, gT_tup, gT_ktp, gC_ap, gE_nil, cast_0, cast_1, cast_2, cast_3, cast_4, cast_5, cast_6, cast_7, cast_8, cast_9, ty_bs, ty_is, frz_zeroV, oOfR_o, ap_lenO, ap_ixO, tOf_some, pOf_fn, ap_P, ap_iZT, itZT_ok, zipD_cons, zipD_nil, str_i, sq_set, oOfS_o, set_ints, tx_len, show F.length + 1 ≤ 100000 by omega, show (0 : Int) < ((F.length + 1 : Nat) : Int) by omega]
  have e : b_after_blanks_1 [.val (.str (tx (34 :: F))), .val (.int 0), .un] = .rt (.val (.int 0)) := by
    unfold b_after_blanks_1
    simp only [bind_ok, bind_exc, bind_bad, ofE_ok, ofE_exc, vOf_v, ap_C, ap_V, ap_nil, ap_cons, ap_U, ap_B, ap_chain, ap_and, ap_or, ap_tup, ap_F, ap_M, ap_sl, ap_pN, ap_pS, ap_L, ap_tE, ap_tAn, ap_tO, ap_tN, ap_tY, ap_if, ap_lD, ap_lF, ap_lCat, catL_ok, ap_lRep, repL_ok, ap_lSl, slL_lst, slL_scr, ap_iD, itL_lst, itL_scr, ap_iT, itT_tup, itT_ktp, ap_iS, itS_str, ap_iR1, itR1_ok, add_i, add_s, add_l, addX_i, addX_s, sub_i, mul_i, div_i, mod_i, pow_i, shl_i, shr_i, and_i, or_i, xor_i, neg_i, not_b, lt_i, le_i, gt_i, ge_i, eq_i, eq_s, ne_i, ne_s, is_non, is_int, is_str, is_tup, is_lst, isnt_non, isnt_int, isnt_str, isnt_tup, toBl_b, toIn_i, ix_s, ix_l, ix_r, ix_t, ix_k, sl_s, sl_l, sl_r, sl_t, len_s, len_l, len_r, len_t, len_k, int_i, int_b, abs_i, min_i, max_i, tup_l, tup_t, list_l, list_r, list_t, isi_i, isi_b, isi_s, isi_l, isi_t, isi_n, ty_ii, ty_bi, ty_ss, ty_ll, ty_tt, ty_tl, ty_lt, ty_tn, find_s, lower_s, sq_nx, sq_sq, sq_a, sq_o, sq_x, sq_if, sq_ret, sq_retL, oOf_o, sq_retO, sq_app, lstK_l, sq_ext, sq_aug, sq_g, sq_frz, sq_br, sq_ct, sq_raise, ofG_some, nx_ap, thenS_nx, thenS_rt, thenS_exc, sq_for, sq_wh, endV_v, endV_o, endV_n, endV_x, endL_o, endL_x, gN_ap, List.getElem?_cons_zero, List.getElem?_cons_succ, List.set_cons_zero, List.set_cons_succ, List.length_cons, List.length_nil, decide_eq_true_eq, Bool.not_eq_true, reduceIte, Bool.false_eq_true, decide_true, decide_false, Nat.reduceAdd, Nat.reduceLeDiff, Nat.reduceLT, Bool.not_true, Bool.not_false, List.nil_append, List.cons_append, List.map_cons, List.map_nil, List.replicate_succ, List.replicate_zero, Bool.not_eq_eq_eq_not, decide_eq_false_iff_not, and_self, and_true, true_and, and_false, false_and, or_true, true_or, or_false, false_or, or_self, Int.reduceLE, Int.reduceLT, Int.reduceNeg, Int.reduceAdd, Int.reduceSub, Int.reduceMul, Int.reduceDiv, Int.reduceMod, Int.reduceEq, Int.reduceToNat, Nat.reduceEqDiff, frz_zero, frz_succ, gT_tup, gT_ktp, gC_ap, gE_nil, cast_0, cast_1, cast_2, cast_3, cast_4, cast_5, cast_6, cast_7, cast_8, cast_9, ty_bs, ty_is, frz_zeroV, oOfR_o, ap_lenO, ap_ixO, tOf_some, pOf_fn, ap_P, ap_iZT, itZT_ok, zipD_cons, zipD_nil, str_i, sq_set, oOfS_o, set_ints, tx_len, show F.length + 1 ≤ 100000 by omega, show F.length ≤ 99999 by omega, q, blank_tx, tx_in, m, tx_cut, c, cc_tx, pc_tx, m1, m2]
  have w : whGo (tE (eB dLt (eV 1) (eF fLen (eCons (eV 0) eNil)))) b_after_blanks_1 100000 [.val (.str (tx (34 :: F))), .val (.int 0), .un] = .rt (.val (.int 0)) := by
    rw [show (100000 : Nat) = 99999 + 1 from rfl, whGo_succ t, if_pos rfl, e]
  rw [e_after_blanks]
  unfold b_after_blanks
  simp only [bind_ok, bind_exc, bind_bad, ofE_ok, ofE_exc, vOf_v, ap_C, ap_V, ap_nil, ap_cons, ap_U, ap_B, ap_chain, ap_and, ap_or, ap_tup, ap_F, ap_M, ap_sl, ap_pN, ap_pS, ap_L, ap_tE, ap_tAn, ap_tO, ap_tN, ap_tY, ap_if, ap_lD, ap_lF, ap_lCat, catL_ok, ap_lRep, repL_ok, ap_lSl, slL_lst, slL_scr, ap_iD, itL_lst, itL_scr, ap_iT, itT_tup, itT_ktp, ap_iS, itS_str, ap_iR1, itR1_ok, add_i, add_s, add_l, addX_i, addX_s, sub_i, mul_i, div_i, mod_i, pow_i, shl_i, shr_i, and_i, or_i, xor_i, neg_i, not_b, lt_i, le_i, gt_i, ge_i, eq_i, eq_s, ne_i, ne_s, is_non, is_int, is_str, is_tup, is_lst, isnt_non, isnt_int, isnt_str, isnt_tup, toBl_b, toIn_i, ix_s, ix_l, ix_r, ix_t, ix_k, sl_s, sl_l, sl_r, sl_t, len_s, len_l, len_r, len_t, len_k, int_i, int_b, abs_i, min_i, max_i, tup_l, tup_t, list_l, list_r, list_t, isi_i, isi_b, isi_s, isi_l, isi_t, isi_n, ty_ii, ty_bi, ty_ss, ty_ll, ty_tt, ty_tl, ty_lt, ty_tn, find_s, lower_s, sq_nx, sq_sq, sq_a, sq_o, sq_x, sq_if, sq_ret, sq_retL, oOf_o, sq_retO, sq_app, lstK_l, sq_ext, sq_aug, sq_g, sq_frz, sq_br, sq_ct, sq_raise, ofG_some, nx_ap, thenS_nx, thenS_rt, thenS_exc, sq_for, sq_wh, endV_v, endV_o, endV_n, endV_x, endL_o, endL_x, gN_ap, List.getElem?_cons_zero, List.getElem?_cons_succ, List.set_cons_zero, List.set_cons_succ, List.length_cons, List.length_nil, decide_eq_true_eq, Bool.not_eq_true, reduceIte, Bool.false_eq_true, decide_true, decide_false, Nat.reduceAdd, Nat.reduceLeDiff, Nat.reduceLT, Bool.not_true, Bool.not_false, List.nil_append, List.cons_append, List.map_cons, List.map_nil, List.replicate_succ, List.replicate_zero, Bool.not_eq_eq_eq_not, decide_eq_false_iff_not, and_self, and_true, true_and, and_false, false_and, or_true, true_or, or_false, false_or, or_self, Int.reduceLE, Int.reduceLT, Int.reduceNeg, Int.reduceAdd, Int.reduceSub, Int.reduceMul, Int.reduceDiv, Int.reduceMod, Int.reduceEq, Int.reduceToNat, Nat.reduceEqDiff, frz_zero, frz_succ, gT_tup, gT_ktp, gC_ap, gE_nil, cast_0, cast_1, cast_2, cast_3, cast_4, cast_5, cast_6, cast_7, cast_8, cast_9, ty_bs, ty_is, frz_zeroV, oOfR_o, ap_lenO, ap_ixO, tOf_some, pOf_fn, ap_P, ap_iZT, itZT_ok, zipD_cons, zipD_nil, str_i, sq_set, oOfS_o, set_ints, w]
theorem blanks_end {F : List Nat} (hl : F.length ≤ 1000) : m_after_blanks [.str (tx F), .int (F.length : Int)] = .ok (.int (F.length : Int)) := by
  have t : (tE (eB dLt (eV 1) (eF fLen (eCons (eV 0) eNil)))) [.val (.str (tx F)), .val (.int (F.length : Int)), .un] = .ok false := by
    simp only [bind_ok, bind_exc, bind_bad, ofE_ok, ofE_exc, vOf_v, ap_C, ap_V, ap_nil, ap_cons, ap_U, ap_B, ap_chain, ap_and, ap_or, ap_tup, ap_F, ap_M, ap_sl, ap_pN, ap_pS, ap_L, ap_tE, ap_tAn, ap_tO, ap_tN, ap_tY, ap_if, ap_lD, ap_lF, ap_lCat, catL_ok, ap_lRep, repL_ok, ap_lSl, slL_lst, slL_scr, ap_iD, itL_lst, itL_scr, ap_iT, itT_tup, itT_ktp, ap_iS, itS_str, ap_iR1, itR1_ok, add_i, add_s, add_l, addX_i, addX_s, sub_i, mul_i, div_i, mod_i, pow_i, shl_i, shr_i, and_i, or_i, xor_i, neg_i, not_b, lt_i, le_i, gt_i, ge_i, eq_i, eq_s, ne_i, ne_s, is_non, is_int, is_str, is_tup, is_lst, isnt_non, isnt_int, isnt_str, isnt_tup, toBl_b, toIn_i, ix_s, ix_l, ix_r, ix_t, ix_k, sl_s, sl_l, sl_r, sl_t, len_s, len_l, len_r, len_t, len_k, int_i, int_b, abs_i, min_i, max_i, tup_l, tup_t, list_l, list_r, list_t, isi_i, isi_b, isi_s, isi_l, isi_t, isi_n, ty_ii, ty_bi, ty_ss, ty_ll, ty_tt, ty_tl, ty_lt, ty_tn, find_s, lower_s, sq_nx, sq_sq, sq_a, sq_o, sq_x, sq_if, sq_ret, sq_retL, oOf_o, sq_retO, sq_app, lstK_l, sq_ext, sq_aug, sq_g, sq_frz, sq_br, sq_ct, sq_raise, ofG_some, nx_ap, thenS_nx, thenS_rt, thenS_exc, sq_for, sq_wh, endV_v, endV_o, endV_n, endV_x, endL_o, endL_x, gN_ap, List.getElem?_cons_zero, List.getElem?_cons_succ, List.set_cons_zero, List.set_cons_succ, List.length_cons, List.length_nil, decide_eq_true_eq, Bool.not_eq_true, reduceIte, Bool.false_eq_true, decide_true, decide_false, Nat.reduceAdd, Nat.reduceLeDiff, Nat.reduceLT, Bool.not_true, Bool.not_false, List.nil_append, List.cons_append, List.map_cons, List.map_nil, List.replicate_succ, List.replicate_zero, Bool.not_eq_eq_eq_not, decide_eq_false_iff_not, and_self, and_true, true_and, and_false, false_and, or_true, true_or, or_false, false_or, or_self, Int.reduceLE, Int.reduceLT, Int.reduceNeg, Int.reduceAdd, Int.reduceSub, Int.reduceMul, Int.reduceDiv, Int.reduceMod, Int.reduceEq, Int.reduceToNat, Nat.reduceEqDiff, frz_zero, frz_succ, gT_tup, gT_ktp, gC_ap, gE_nil, cast_0, cast_1, cast_2, cast_3, cast_4, cast_5, cast_6, cast_7, cast_8, cast_9, ty_bs, ty_is, frz_zeroV, oOfR_o, ap_lenO, ap_ixO, tOf_some, pOf_fn, ap_P, ap_iZT, itZT_ok, zipD_cons, zipD_nil, str_i, sq_set, oOfS_o, set_ints, tx_len, show F.length ≤ 100000 by omega, show ¬ (F.length : Int) < (F.length : Int) by omega]
  have w : whGo (tE (eB dLt (eV 1) (eF fLen (eCons (eV 0) eNil)))) b_after_blanks_1 100000 [.val (.str (tx F)), .val (.int (F.length : Int)), .un] = .nx [.val (.str (tx F)), .val (.int (F.length : Int)), .un] := by
    rw [show (100000 : Nat) = 99999 + 1 from rfl, whGo_succ t, if_neg Bool.false_ne_true]
  rw [e_after_blanks]
  unfold b_after_blanks
  simp only [bind_ok, bind_exc, bind_bad, ofE_ok, ofE_exc, vOf_v, ap_C, ap_V, ap_nil, ap_cons, ap_U, ap_B, ap_chain, ap_and, ap_or, ap_tup, ap_F, ap_M, ap_sl, ap_pN, ap_pS, ap_L, ap_tE, ap_tAn, ap_tO, ap_tN, ap_tY, ap_if, ap_lD, ap_lF, ap_lCat, catL_ok, ap_lRep, repL_ok, ap_lSl, slL_lst, slL_scr, ap_iD, itL_lst, itL_scr, ap_iT, itT_tup, itT_ktp, ap_iS, itS_str, ap_iR1, itR1_ok, add_i, add_s, add_l, addX_i, addX_s, sub_i, mul_i, div_i, mod_i, pow_i, shl_i, shr_i, and_i, or_i, xor_i, neg_i, not_b, lt_i, le_i, gt_i, ge_i, eq_i, eq_s, ne_i, ne_s, is_non, is_int, is_str, is_tup, is_lst, isnt_non, isnt_int, isnt_str, isnt_tup, toBl_b, toIn_i, ix_s, ix_l, ix_r, ix_t, ix_k, sl_s, sl_l, sl_r, sl_t, len_s, len_l, len_r, len_t, len_k, int_i, int_b, abs_i, min_i, max_i, tup_l, tup_t, list_l, list_r, list_t, isi_i, isi_b, isi_s, isi_l, isi_t, isi_n, ty_ii, ty_bi, ty_ss, ty_ll, ty_tt, ty_tl, ty_lt, ty_tn, find_s, lower_s, sq_nx, sq_sq, sq_a, sq_o, sq_x, sq_if, sq_ret, sq_retL, oOf_o, sq_retO, sq_app, lstK_l, sq_ext, sq_aug, sq_g, sq_frz, sq_br, sq_ct, sq_raise, ofG_some, nx_ap, thenS_nx, thenS_rt, thenS_exc, sq_for, sq_wh, endV_v, endV_o, endV_n, endV_x, endL_o, endL_x, gN_ap, List.getElem?_cons_zero, List.getElem?_cons_succ, List.set_cons_zero, List.set_cons_succ, List.length_cons, List.length_nil, decide_eq_true_eq, Bool.not_eq_true, reduceIte, Bool.false_eq_true, decide_true, decide_false, Nat.reduceAdd, Nat.reduceLeDiff, Nat.reduceLT, Bool.not_true, Bool.not_false, List.nil_append, List.cons_append, List.map_cons, List.map_nil, List.replicate_succ, List.replicate_zero, Bool.not_eq_eq_eq_not, decide_eq_false_iff_not, and_self, and_true, true_and, and_false, false_and, or_true, true_or, or_false, false_or, or_self, Int.reduceLE, Int.reduceLT, Int.reduceNeg, Int.reduceAdd, Int.reduceSub, Int.reduceMul, Int.reduceDiv, Int.reduceMod, Int.reduceEq, Int.reduceToNat, Nat.reduceEqDiff, frz_zero, frz_succ, gT_tup, gT_ktp, gC_ap, gE_nil, cast_0, cast_1, cast_2, cast_3, cast_4, cast_5, cast_6, cast_7, cast_8, cast_9, ty_bs, ty_is, frz_zeroV, oOfR_o, ap_lenO, ap_ixO, tOf_some, pOf_fn, ap_P, ap_iZT, itZT_ok, zipD_cons, zipD_nil, str_i, sq_set, oOfS_o, set_ints, w]
theorem token_ok {bs : List Int} (h : okB bs) (hl : bs.length ≤ 63) : m_read_token [.str (tx (34 :: (encs bs ++ [34]))), .int 0] = .ok (.tup [.tup [.str "string", .tup (dI bs), .int 1, .int 1], .int ((encs bs).length + 2 : Nat)]) := by
  have hn := encs_len bs
  have hF : (34 :: (encs bs ++ [34])).length ≤ 1000 := by simp; omega
  have q := tx_ix (a := 34 :: (encs bs ++ [34])) (i := 0) (c := 34) (by decide) rfl
  have m1 : (tx [34] = tx [40]) = False := eq_false fun z => by have := tx_inj.mp z; simp at this
  have m2 : (tx [34] = tx [41]) = False := eq_false fun z => by have := tx_inj.mp z; simp at this
  have m3 : (tx [34] = tx [34]) = True := eq_true rfl
  rw [e_read_token]
  unfold b_read_token
  simp only [bind_ok, bind_exc, bind_bad, ofE_ok, ofE_exc, vOf_v, ap_C, ap_V, ap_nil, ap_cons, ap_U, ap_B, ap_chain, ap_and, ap_or, ap_tup, ap_F, ap_M, ap_sl, ap_pN, ap_pS, ap_L, ap_tE, ap_tAn, ap_tO, ap_tN, ap_tY, ap_if, ap_lD, ap_lF, ap_lCat, catL_ok, ap_lRep, repL_ok, ap_lSl, slL_lst, slL_scr, ap_iD, itL_lst, itL_scr, ap_iT, itT_tup, itT_ktp, ap_iS, itS_str, ap_iR1, itR1_ok, add_i, add_s, add_l, addX_i, addX_s, sub_i, mul_i, div_i, mod_i, pow_i, shl_i, shr_i, and_i, or_i, xor_i, neg_i, not_b, lt_i, le_i, gt_i, ge_i, eq_i, eq_s, ne_i, ne_s, is_non, is_int, is_str, is_tup, is_lst, isnt_non, isnt_int, isnt_str, isnt_tup, toBl_b, toIn_i, ix_s, ix_l, ix_r, ix_t, ix_k, sl_s, sl_l, sl_r, sl_t, len_s, len_l, len_r, len_t, len_k, int_i, int_b, abs_i, min_i, max_i, tup_l, tup_t, list_l, list_r, list_t, isi_i, isi_b, isi_s, isi_l, isi_t, isi_n, ty_ii, ty_bi, ty_ss, ty_ll, ty_tt, ty_tl, ty_lt, ty_tn, find_s, lower_s, sq_nx, sq_sq, sq_a, sq_o, sq_x, sq_if, sq_ret, sq_retL, oOf_o, sq_retO, sq_app, lstK_l, sq_ext, sq_aug, sq_g, sq_frz, sq_br, sq_ct, sq_raise, ofG_some, nx_ap, thenS_nx, thenS_rt, thenS_exc, sq_for, sq_wh, endV_v, endV_o, endV_n, endV_x, endL_o, endL_x, gN_ap, List.getElem?_cons_zero, List.getElem?_cons_succ, List.set_cons_zero, List.set_cons_succ, List.length_cons, List.length_nil, decide_eq_true_eq, Bool.not_eq_true, reduceIte, Bool.false_eq_true, decide_true, decide_false, Nat.reduceAdd, Nat.reduceLeDiff, Nat.reduceLT, Bool.not_true, Bool.not_false, List.nil_append, List.cons_append, List.map_cons, List.map_nil, List.replicate_succ, List.replicate_zero, Bool.not_eq_eq_eq_not, decide_eq_false_iff_not, and_self, and_true, true_and, and_false, false_and, or_true, true_or, or_false, false_or, or_self, Int.reduceLE, Int.reduceLT, Int.reduceNeg, Int.reduceAdd, Int.reduceSub, Int.reduceMul, Int.reduceDiv, Int.reduceMod, Int.reduceEq, Int.reduceToNat, Nat.reduceEqDiff, frz_zero, frz_succ, gT_tup, gT_ktp, gC_ap, gE_nil, cast_0, cast_1, cast_2, cast_3, cast_4, cast_5, cast_6, cast_7, cast_8, cast_9, ty_bs, ty_is, frz_zeroV, oOfR_o, ap_lenO, ap_ixO, tOf_some, pOf_fn, ap_P, ap_iZT, itZT_ok, zipD_cons, zipD_nil, str_i, sq_set, oOfS_o, set_ints, pos0 _ hF, tx_len, show (encs bs ++ [34]).length ≤ 99999 by (simp; omega), q, lp_tx, rp_tx, q_tx, m1, m2, m3, read_string_ok h hl]
theorem tokens_ok {bs : List Int} (h : okB bs) (hl : bs.length ≤ 63) : m_tokens_of [.str (tx (34 :: (encs bs ++ [34])))] = .ok (.lst [.tup [.str "string", .tup (dI bs), .int 1, .int 1], .tup [.str "end", .str "", .int 1, .int (((34 :: (encs bs ++ [34])).length : Int) + 1)]]) := by
  have hn := encs_len bs
  have hF : (34 :: (encs bs ++ [34])).length ≤ 1000 := by simp; omega
  have hL : (34 :: (encs bs ++ [34])).length = (encs bs).length + 2 := by simp
  have h10 : 10 ∉ 34 :: (encs bs ++ [34]) := by
    intro z
    rcases List.mem_cons.mp z with z | z
    · cases z
    · rcases List.mem_append.mp z with z | z
      · have := encs_rng h 10 z; omega
      · simp at z
  have b0 := blanks0 (encs bs ++ [34]) hF
  have b1 := blanks_end hF
  have pe := pos_end hF h10
  have tk := token_ok h hl
  rw [hL] at b1 pe
  rw [hL]
  generalize 34 :: (encs bs ++ [34]) = F at *
  have t : ∀ x1 x3 x4 x5 : Sl, (tE (eB dLt (eV 2) (eF fLen (eCons (eV 0) eNil)))) [.val (.str (tx F)), x1, .val (.int 0), x3, x4, x5] = .ok true := fun x1 x3 x4 x5 => by
    simp only [bind_ok, bind_exc, bind_bad, ofE_ok, ofE_exc, vOf_v, ap_C, ap_V, ap_nil, ap_cons, ap_U, ap_B, ap_chain, ap_and, ap_or, ap_tup, ap_F, ap_M, ap_sl, ap_pN, ap_pS, ap_L, ap_tE, ap_tAn, ap_tO, ap_tN, ap_tY, ap_if, ap_lD, ap_lF, ap_lCat, catL_ok, ap_lRep, repL_ok, ap_lSl, slL_lst, slL_scr, ap_iD, itL_lst, itL_scr, ap_iT, itT_tup, itT_ktp, ap_iS, itS_str, ap_iR1, itR1_ok, add_i, add_s, add_l, addX_i, addX_s, sub_i, mul_i, div_i, mod_i, pow_i, shl_i, shr_i, and_i, or_i, xor_i, neg_i, not_b, lt_i, le_i, gt_i, ge_i, eq_i, eq_s, ne_i, ne_s, is_non, is_int, is_str, is_tup, is_lst, isnt_non, isnt_int, isnt_str, isnt_tup, toBl_b, toIn_i, ix_s, ix_l, ix_r, ix_t, ix_k, sl_s, sl_l, sl_r, sl_t, len_s, len_l, len_r, len_t, len_k, int_i, int_b, abs_i, min_i, max_i, tup_l, tup_t, list_l, list_r, list_t, isi_i, isi_b, isi_s, isi_l, isi_t, isi_n, ty_ii, ty_bi, ty_ss, ty_ll, ty_tt, ty_tl, ty_lt, ty_tn, find_s, lower_s, sq_nx, sq_sq, sq_a, sq_o, sq_x, sq_if, sq_ret, sq_retL, oOf_o, sq_retO, sq_app, lstK_l, sq_ext, sq_aug, sq_g, sq_frz, sq_br, sq_ct, sq_raise, ofG_some, nx_ap, thenS_nx, thenS_rt, thenS_exc, sq_for, sq_wh, endV_v, endV_o, endV_n, endV_x, endL_o, endL_x, gN_ap, List.getElem?_cons_zero, List.getElem?_cons_succ, List.set_cons_zero, List.set_cons_succ, List.length_cons, List.length_nil, decide_eq_true_eq, Bool.not_eq_true, reduceIte, Bool.false_eq_true, decide_true, decide_false, Nat.reduceAdd, Nat.reduceLeDiff, Nat.reduceLT, Bool.not_true, Bool.not_false, List.nil_append, List.cons_append, List.map_cons, List.map_nil, List.replicate_succ, List.replicate_zero, Bool.not_eq_eq_eq_not, decide_eq_false_iff_not, and_self, and_true, true_and, and_false, false_and, or_true, true_or, or_false, false_or, or_self, Int.reduceLE, Int.reduceLT, Int.reduceNeg, Int.reduceAdd, Int.reduceSub, Int.reduceMul, Int.reduceDiv, Int.reduceMod, Int.reduceEq, Int.reduceToNat, Nat.reduceEqDiff, frz_zero, frz_succ, gT_tup, gT_ktp, gC_ap, gE_nil, cast_0, cast_1, cast_2, cast_3, cast_4, cast_5, cast_6, cast_7, cast_8, cast_9, ty_bs, ty_is, frz_zeroV, oOfR_o, ap_lenO, ap_ixO, tOf_some, pOf_fn, ap_P, ap_iZT, itZT_ok, zipD_cons, zipD_nil, str_i, sq_set, oOfS_o, set_ints, tx_len, hL, show (encs bs).length + 2 ≤ 100000 by omega, show (0 : Int) < (((encs bs).length + 2 : Nat) : Int) by omega]
  have t2 : ∀ x1 x3 x4 x5 : Sl, (tE (eB dLt (eV 2) (eF fLen (eCons (eV 0) eNil)))) [.val (.str (tx F)), x1, .val (.int (((encs bs).length + 2 : Nat) : Int)), x3, x4, x5] = .ok false := fun x1 x3 x4 x5 => by
    simp only [bind_ok, bind_exc, bind_bad, ofE_ok, ofE_exc, vOf_v, ap_C, ap_V, ap_nil, ap_cons, ap_U, ap_B, ap_chain, ap_and, ap_or, ap_tup, ap_F, ap_M, ap_sl, ap_pN, ap_pS, ap_L, ap_tE, ap_tAn, ap_tO, ap_tN, ap_tY, ap_if, ap_lD, ap_lF, ap_lCat, catL_ok, ap_lRep, repL_ok, ap_lSl, slL_lst, slL_scr, ap_iD, itL_lst, itL_scr, ap_iT, itT_tup, itT_ktp, ap_iS, itS_str, ap_iR1, itR1_ok, add_i, add_s, add_l, addX_i, addX_s, sub_i, mul_i, div_i, mod_i, pow_i, shl_i, shr_i, and_i, or_i, xor_i, neg_i, not_b, lt_i, le_i, gt_i, ge_i, eq_i, eq_s, ne_i, ne_s, is_non, is_int, is_str, is_tup, is_lst, isnt_non, isnt_int, isnt_str, isnt_tup, toBl_b, toIn_i, ix_s, ix_l, ix_r, ix_t, ix_k, sl_s, sl_l, sl_r, sl_t, len_s, len_l, len_r, len_t, len_k, int_i, int_b, abs_i, min_i, max_i, tup_l, tup_t, list_l, list_r, list_t, isi_i, isi_b, isi_s, isi_l, isi_t, isi_n, ty_ii, ty_bi, ty_ss, ty_ll, ty_tt, ty_tl, ty_lt, ty_tn, find_s, lower_s, sq_nx, sq_sq, sq_a, sq_o, sq_x, sq_if, sq_ret, sq_retL, oOf_o, sq_retO, sq_app, lstK_l, sq_ext, sq_aug, sq_g, sq_frz, sq_br, sq_ct, sq_raise, ofG_some, nx_ap, thenS_nx, thenS_rt, thenS_exc, sq_for, sq_wh, endV_v, endV_o, endV_n, endV_x, endL_o, endL_x, gN_ap, List.getElem?_cons_zero, List.getElem?_cons_succ, List.set_cons_zero, List.set_cons_succ, List.length_cons, List.length_nil, decide_eq_true_eq, Bool.not_eq_true, reduceIte, Bool.false_eq_true, decide_true, decide_false, Nat.reduceAdd, Nat.reduceLeDiff, Nat.reduceLT, Bool.not_true, Bool.not_false, List.nil_append, List.cons_append, List.map_cons, List.map_nil, List.replicate_succ, List.replicate_zero, Bool.not_eq_eq_eq_not, decide_eq_false_iff_not, and_self, and_true, true_and, and_false, false_and, or_true, true_or, or_false, false_or, or_self, Int.reduceLE, Int.reduceLT, Int.reduceNeg, Int.reduceAdd, Int.reduceSub, Int.reduceMul, Int.reduceDiv, Int.reduceMod, Int.reduceEq, Int.reduceToNat, Nat.reduceEqDiff, frz_zero, frz_succ, gT_tup, gT_ktp, gC_ap, gE_nil, cast_0, cast_1, cast_2, cast_3, cast_4, cast_5, cast_6, cast_7, cast_8, cast_9, ty_bs, ty_is, frz_zeroV, oOfR_o, ap_lenO, ap_ixO, tOf_some, pOf_fn, ap_P, ap_iZT, itZT_ok, zipD_cons, zipD_nil, str_i, sq_set, oOfS_o, set_ints, tx_len, hL, show (encs bs).length + 2 ≤ 100000 by omega, show ¬ (((encs bs).length + 2 : Nat) : Int) < (((encs bs).length + 2 : Nat) : Int) by omega]
  have e : b_tokens_of_1 [.val (.str (tx F)), .own [], .val (.int 0), .un, .un, .un] = .nx [.val (.str (tx F)), .own [.tup [.str "string", .tup (dI bs), .int 1, .int 1]], .val (.int (((encs bs).length + 2 : Nat) : Int)), .val (.tup [.str "string", .tup (dI bs), .int 1, .int 1]), .un, .un] := by
    unfold b_tokens_of_1
    simp only [bind_ok, bind_exc, bind_bad, ofE_ok, ofE_exc, vOf_v, ap_C, ap_V, ap_nil, ap_cons, ap_U, ap_B, ap_chain, ap_and, ap_or, ap_tup, ap_F, ap_M, ap_sl, ap_pN, ap_pS, ap_L, ap_tE, ap_tAn, ap_tO, ap_tN, ap_tY, ap_if, ap_lD, ap_lF, ap_lCat, catL_ok, ap_lRep, repL_ok, ap_lSl, slL_lst, slL_scr, ap_iD, itL_lst, itL_scr, ap_iT, itT_tup, itT_ktp, ap_iS, itS_str, ap_iR1, itR1_ok, add_i, add_s, add_l, addX_i, addX_s, sub_i, mul_i, div_i, mod_i, pow_i, shl_i, shr_i, and_i, or_i, xor_i, neg_i, not_b, lt_i, le_i, gt_i, ge_i, eq_i, eq_s, ne_i, ne_s, is_non, is_int, is_str, is_tup, is_lst, isnt_non, isnt_int, isnt_str, isnt_tup, toBl_b, toIn_i, ix_s, ix_l, ix_r, ix_t, ix_k, sl_s, sl_l, sl_r, sl_t, len_s, len_l, len_r, len_t, len_k, int_i, int_b, abs_i, min_i, max_i, tup_l, tup_t, list_l, list_r, list_t, isi_i, isi_b, isi_s, isi_l, isi_t, isi_n, ty_ii, ty_bi, ty_ss, ty_ll, ty_tt, ty_tl, ty_lt, ty_tn, find_s, lower_s, sq_nx, sq_sq, sq_a, sq_o, sq_x, sq_if, sq_ret, sq_retL, oOf_o, sq_retO, sq_app, lstK_l, sq_ext, sq_aug, sq_g, sq_frz, sq_br, sq_ct, sq_raise, ofG_some, nx_ap, thenS_nx, thenS_rt, thenS_exc, sq_for, sq_wh, endV_v, endV_o, endV_n, endV_x, endL_o, endL_x, gN_ap, List.getElem?_cons_zero, List.getElem?_cons_succ, List.set_cons_zero, List.set_cons_succ, List.length_cons, List.length_nil, decide_eq_true_eq, Bool.not_eq_true, reduceIte, Bool.false_eq_true, decide_true, decide_false, Nat.reduceAdd, Nat.reduceLeDiff, Nat.reduceLT, Bool.not_true, Bool.not_false, List.nil_append, List.cons_append, List.map_cons, List.map_nil, List.replicate_succ, List.replicate_zero, Bool.not_eq_eq_eq_not, decide_eq_false_iff_not, and_self, and_true, true_and, and_false, false_and, or_true, true_or, or_false, false_or, or_self, Int.reduceLE, Int.reduceLT, Int.reduceNeg, Int.reduceAdd, Int.reduceSub, Int.reduceMul, Int.reduceDiv, Int.reduceMod, Int.reduceEq, Int.reduceToNat, Nat.reduceEqDiff, frz_zero, frz_succ, gT_tup, gT_ktp, gC_ap, gE_nil, cast_0, cast_1, cast_2, cast_3, cast_4, cast_5, cast_6, cast_7, cast_8, cast_9, ty_bs, ty_is, frz_zeroV, oOfR_o, ap_lenO, ap_ixO, tOf_some, pOf_fn, ap_P, ap_iZT, itZT_ok, zipD_cons, zipD_nil, str_i, sq_set, oOfS_o, set_ints, tk, b1]
  have w : whGo (tE (eB dLt (eV 2) (eF fLen (eCons (eV 0) eNil)))) b_tokens_of_1 100000 [.val (.str (tx F)), .own [], .val (.int 0), .un, .un, .un] = .nx [.val (.str (tx F)), .own [.tup [.str "string", .tup (dI bs), .int 1, .int 1]], .val (.int (((encs bs).length + 2 : Nat) : Int)), .val (.tup [.str "string", .tup (dI bs), .int 1, .int 1]), .un, .un] := by
    rw [show (100000 : Nat) = 99999 + 1 from rfl, whGo_succ (t _ _ _ _), if_pos rfl, e]
    dsimp only
    rw [show (99999 : Nat) = 99998 + 1 from rfl, whGo_succ (t2 _ _ _ _), if_neg Bool.false_ne_true]
  rw [e_tokens_of]
  unfold b_tokens_of
  simp only [bind_ok, bind_exc, bind_bad, ofE_ok, ofE_exc, vOf_v, ap_C, ap_V, ap_nil, ap_cons, ap_U, ap_B, ap_chain, ap_and, ap_or, ap_tup, ap_F, ap_M, ap_sl, ap_pN, ap_pS, ap_L, ap_tE, ap_tAn, ap_tO, ap_tN, ap_tY, ap_if, ap_lD, ap_lF, ap_lCat, catL_ok, ap_lRep, repL_ok, ap_lSl, slL_lst, slL_scr, ap_iD, itL_lst, itL_scr, ap_iT, itT_tup, itT_ktp, ap_iS, itS_str, ap_iR1, itR1_ok, add_i, add_s, add_l, addX_i, addX_s, sub_i, mul_i, div_i, mod_i, pow_i, shl_i, shr_i, and_i, or_i, xor_i, neg_i, not_b, lt_i, le_i, gt_i, ge_i, eq_i, eq_s, ne_i, ne_s, is_non, is_int, is_str, is_tup, is_lst, isnt_non, isnt_int, isnt_str, isnt_tup, toBl_b, toIn_i, ix_s, ix_l, ix_r, ix_t, ix_k, sl_s, sl_l, sl_r, sl_t, len_s, len_l, len_r, len_t, len_k, int_i, int_b, abs_i, min_i, max_i, tup_l, tup_t, list_l, list_r, list_t, isi_i, isi_b, isi_s, isi_l, isi_t, isi_n, ty_ii, ty_bi, ty_ss, ty_ll, ty_tt, ty_tl, ty_lt, ty_tn, find_s, lower_s, sq_nx, sq_sq, sq_a, sq_o, sq_x, sq_if, sq_ret, sq_retL, oOf_o, sq_retO, sq_app, lstK_l, sq_ext, sq_aug, sq_g, sq_frz, sq_br, sq_ct, sq_raise, ofG_some, nx_ap, thenS_nx, thenS_rt, thenS_exc, sq_for, sq_wh, endV_v, endV_o, endV_n, endV_x, endL_o, endL_x, gN_ap, List.getElem?_cons_zero, List.getElem?_cons_succ, List.set_cons_zero, List.set_cons_succ, List.length_cons, List.length_nil, decide_eq_true_eq, Bool.not_eq_true, reduceIte, Bool.false_eq_true, decide_true, decide_false, Nat.reduceAdd, Nat.reduceLeDiff, Nat.reduceLT, Bool.not_true, Bool.not_false, List.nil_append, List.cons_append, List.map_cons, List.map_nil, List.replicate_succ, List.replicate_zero, Bool.not_eq_eq_eq_not, decide_eq_false_iff_not, and_self, and_true, true_and, and_false, false_and, or_true, true_or, or_false, false_or, or_self, Int.reduceLE, Int.reduceLT, Int.reduceNeg, Int.reduceAdd, Int.reduceSub, Int.reduceMul, Int.reduceDiv, Int.reduceMod, Int.reduceEq, Int.reduceToNat, Nat.reduceEqDiff, frz_zero, frz_succ, gT_tup, gT_ktp, gC_ap, gE_nil, cast_0, cast_1, cast_2, cast_3, cast_4, cast_5, cast_6, cast_7, cast_8, cast_9, ty_bs, ty_is, frz_zeroV, oOfR_o, ap_lenO, ap_ixO, tOf_some, pOf_fn, ap_P, ap_iZT, itZT_ok, zipD_cons, zipD_nil, str_i, sq_set, oOfS_o, set_ints, b0, w, pe]
/-! alike -/
mutual
def pl : Nat → D → Bool
  | _, .non | _, .bl _ | _, .int _ | _, .str _ => true
  | q + 1, .tup xs => plAll q xs && decide (xs.length ≤ 90000)
  | _, _ => false
def plAll : Nat → List D → Bool
  | _, [] => true
  | q, x :: xs => pl q x && plAll q xs
end
theorem plAll_at : ∀ {q : Nat} {xs : List D}, plAll q xs = true → ∀ {j : Nat} {x : D}, xs[j]? = some x → pl q x = true
  | q, [], _, j, x, h => by simp at h
  | q, y :: ys, h, j, x, hj => by
    unfold plAll at h
    rw [Bool.and_eq_true] at h
    cases j with
    | zero => cases hj; exact h.1
    | succ j => exact plAll_at h.2 (j := j) hj
theorem eq_bb (x y : Bool) : dEq (.bl x) (.bl y) = .ok (.bl (x == y)) := by cases x <;> cases y <;> rfl
theorem ne_bb (x : Bool) : dNe (.bl x) (.bl x) = .ok (.bl false) := by cases x <;> rfl
theorem alike_self : ∀ (q : Nat) (d : D), pl q d = true → m_l_alike (q + 1) [d, d] = .ok (.bl true)
  | q, .non, _ => by
    rw [e_l_alike]
    unfold b_l_alike
    simp only [bind_ok, bind_exc, bind_bad, ofE_ok, ofE_exc, vOf_v, ap_C, ap_V, ap_nil, ap_cons, ap_U, ap_B, ap_chain, ap_and, ap_or, ap_tup, ap_F, ap_M, ap_sl, ap_pN, ap_pS, ap_L, ap_tE, ap_tAn, ap_tO, ap_tN, ap_tY, ap_if, ap_lD, ap_lF, ap_lCat, catL_ok, ap_lRep, repL_ok, ap_lSl, slL_lst, slL_scr, ap_iD, itL_lst, itL_scr, ap_iT, itT_tup, itT_ktp, ap_iS, itS_str, ap_iR1, itR1_ok, add_i, add_s, add_l, addX_i, addX_s, sub_i, mul_i, div_i, mod_i, pow_i, shl_i, shr_i, and_i, or_i, xor_i, neg_i, not_b, lt_i, le_i, gt_i, ge_i, eq_i, eq_s, ne_i, ne_s, is_non, is_int, is_str, is_tup, is_lst, isnt_non, isnt_int, isnt_str, isnt_tup, toBl_b, toIn_i, ix_s, ix_l, ix_r, ix_t, ix_k, sl_s, sl_l, sl_r, sl_t, len_s, len_l, len_r, len_t, len_k, int_i, int_b, abs_i, min_i, max_i, tup_l, tup_t, list_l, list_r, list_t, isi_i, isi_b, isi_s, isi_l, isi_t, isi_n, ty_ii, ty_bi, ty_ss, ty_ll, ty_tt, ty_tl, ty_lt, ty_tn, find_s, lower_s, sq_nx, sq_sq, sq_a, sq_o, sq_x, sq_if, sq_ret, sq_retL, oOf_o, sq_retO, sq_app, lstK_l, sq_ext, sq_aug, sq_g, sq_frz, sq_br, sq_ct, sq_raise, ofG_some, nx_ap, thenS_nx, thenS_rt, thenS_exc, sq_for, sq_wh, endV_v, endV_o, endV_n, endV_x, endL_o, endL_x, gN_ap, List.getElem?_cons_zero, List.getElem?_cons_succ, List.set_cons_zero, List.set_cons_succ, List.length_cons, List.length_nil, decide_eq_true_eq, Bool.not_eq_true, reduceIte, Bool.false_eq_true, decide_true, decide_false, Nat.reduceAdd, Nat.reduceLeDiff, Nat.reduceLT, Bool.not_true, Bool.not_false, List.nil_append, List.cons_append, List.map_cons, List.map_nil, List.replicate_succ, List.replicate_zero, Bool.not_eq_eq_eq_not, decide_eq_false_iff_not, and_self, and_true, true_and, and_false, false_and, or_true, true_or, or_false, false_or, or_self, Int.reduceLE, Int.reduceLT, Int.reduceNeg, Int.reduceAdd, Int.reduceSub, Int.reduceMul, Int.reduceDiv, Int.reduceMod, Int.reduceEq, Int.reduceToNat, Nat.reduceEqDiff, frz_zero, frz_succ, gT_tup, gT_ktp, gC_ap, gE_nil, cast_0, cast_1, cast_2, cast_3, cast_4, cast_5, cast_6, cast_7, cast_8, cast_9, ty_bs, ty_is, frz_zeroV, oOfR_o, ap_lenO, ap_ixO, tOf_some, pOf_fn, ap_P, ap_iZT, itZT_ok, zipD_cons, zipD_nil, str_i, sq_set, oOfS_o, set_ints]
  | q, .bl b, _ => by
    rw [e_l_alike]
    unfold b_l_alike
    simp only [bind_ok, bind_exc, bind_bad, ofE_ok, ofE_exc, vOf_v, ap_C, ap_V, ap_nil, ap_cons, ap_U, ap_B, ap_chain, ap_and, ap_or, ap_tup, ap_F, ap_M, ap_sl, ap_pN, ap_pS, ap_L, ap_tE, ap_tAn, ap_tO, ap_tN, ap_tY, ap_if, ap_lD, ap_lF, ap_lCat, catL_ok, ap_lRep, repL_ok, ap_lSl, slL_lst, slL_scr, ap_iD, itL_lst, itL_scr, ap_iT, itT_tup, itT_ktp, ap_iS, itS_str, ap_iR1, itR1_ok, add_i, add_s, add_l, addX_i, addX_s, sub_i, mul_i, div_i, mod_i, pow_i, shl_i, shr_i, and_i, or_i, xor_i, neg_i, not_b, lt_i, le_i, gt_i, ge_i, eq_i, eq_s, ne_i, ne_s, is_non, is_int, is_str, is_tup, is_lst, isnt_non, isnt_int, isnt_str, isnt_tup, toBl_b, toIn_i, ix_s, ix_l, ix_r, ix_t, ix_k, sl_s, sl_l, sl_r, sl_t, len_s, len_l, len_r, len_t, len_k, int_i, int_b, abs_i, min_i, max_i, tup_l, tup_t, list_l, list_r, list_t, isi_i, isi_b, isi_s, isi_l, isi_t, isi_n, ty_ii, ty_bi, ty_ss, ty_ll, ty_tt, ty_tl, ty_lt, ty_tn, find_s, lower_s, sq_nx, sq_sq, sq_a, sq_o, sq_x, sq_if, sq_ret, sq_retL, oOf_o, sq_retO, sq_app, lstK_l, sq_ext, sq_aug, sq_g, sq_frz, sq_br, sq_ct, sq_raise, ofG_some, nx_ap, thenS_nx, thenS_rt, thenS_exc, sq_for, sq_wh, endV_v, endV_o, endV_n, endV_x, endL_o, endL_x, gN_ap, List.getElem?_cons_zero, List.getElem?_cons_succ, List.set_cons_zero, List.set_cons_succ, List.length_cons, List.length_nil, decide_eq_true_eq, Bool.not_eq_true, reduceIte, Bool.false_eq_true, decide_true, decide_false, Nat.reduceAdd, Nat.reduceLeDiff, Nat.reduceLT, Bool.not_true, Bool.not_false, List.nil_append, List.cons_append, List.map_cons, List.map_nil, List.replicate_succ, List.replicate_zero, Bool.not_eq_eq_eq_not, decide_eq_false_iff_not, and_self, and_true, true_and, and_false, false_and, or_true, true_or, or_false, false_or, or_self, Int.reduceLE, Int.reduceLT, Int.reduceNeg, Int.reduceAdd, Int.reduceSub, Int.reduceMul, Int.reduceDiv, Int.reduceMod, Int.reduceEq, Int.reduceToNat, Nat.reduceEqDiff, frz_zero, frz_succ, gT_tup, gT_ktp, gC_ap, gE_nil, cast_0, cast_1, cast_2, cast_3, cast_4, cast_5, cast_6, cast_7, cast_8, cast_9, ty_bs, ty_is, frz_zeroV, oOfR_o, ap_lenO, ap_ixO, tOf_some, pOf_fn, ap_P, ap_iZT, itZT_ok, zipD_cons, zipD_nil, str_i, sq_set, oOfS_o, set_ints, show dIs (.bl b) .non = .ok (.bl false) from rfl, show isTy .tuple (.bl b) = false from rfl, show isTy .str (.bl b) = false from rfl, show isTy .int (.bl b) = true from rfl, show isTy .bool (.bl b) = true from rfl, eq_bb, ne_bb, beq_self_eq_true]
  | q, .int i, _ => by
    rw [e_l_alike]
    unfold b_l_alike
    simp only [bind_ok, bind_exc, bind_bad, ofE_ok, ofE_exc, vOf_v, ap_C, ap_V, ap_nil, ap_cons, ap_U, ap_B, ap_chain, ap_and, ap_or, ap_tup, ap_F, ap_M, ap_sl, ap_pN, ap_pS, ap_L, ap_tE, ap_tAn, ap_tO, ap_tN, ap_tY, ap_if, ap_lD, ap_lF, ap_lCat, catL_ok, ap_lRep, repL_ok, ap_lSl, slL_lst, slL_scr, ap_iD, itL_lst, itL_scr, ap_iT, itT_tup, itT_ktp, ap_iS, itS_str, ap_iR1, itR1_ok, add_i, add_s, add_l, addX_i, addX_s, sub_i, mul_i, div_i, mod_i, pow_i, shl_i, shr_i, and_i, or_i, xor_i, neg_i, not_b, lt_i, le_i, gt_i, ge_i, eq_i, eq_s, ne_i, ne_s, is_non, is_int, is_str, is_tup, is_lst, isnt_non, isnt_int, isnt_str, isnt_tup, toBl_b, toIn_i, ix_s, ix_l, ix_r, ix_t, ix_k, sl_s, sl_l, sl_r, sl_t, len_s, len_l, len_r, len_t, len_k, int_i, int_b, abs_i, min_i, max_i, tup_l, tup_t, list_l, list_r, list_t, isi_i, isi_b, isi_s, isi_l, isi_t, isi_n, ty_ii, ty_bi, ty_ss, ty_ll, ty_tt, ty_tl, ty_lt, ty_tn, find_s, lower_s, sq_nx, sq_sq, sq_a, sq_o, sq_x, sq_if, sq_ret, sq_retL, oOf_o, sq_retO, sq_app, lstK_l, sq_ext, sq_aug, sq_g, sq_frz, sq_br, sq_ct, sq_raise, ofG_some, nx_ap, thenS_nx, thenS_rt, thenS_exc, sq_for, sq_wh, endV_v, endV_o, endV_n, endV_x, endL_o, endL_x, gN_ap, List.getElem?_cons_zero, List.getElem?_cons_succ, List.set_cons_zero, List.set_cons_succ, List.length_cons, List.length_nil, decide_eq_true_eq, Bool.not_eq_true, reduceIte, Bool.false_eq_true, decide_true, decide_false, Nat.reduceAdd, Nat.reduceLeDiff, Nat.reduceLT, Bool.not_true, Bool.not_false, List.nil_append, List.cons_append, List.map_cons, List.map_nil, List.replicate_succ, List.replicate_zero, Bool.not_eq_eq_eq_not, decide_eq_false_iff_not, and_self, and_true, true_and, and_false, false_and, or_true, true_or, or_false, false_or, or_self, Int.reduceLE, Int.reduceLT, Int.reduceNeg, Int.reduceAdd, Int.reduceSub, Int.reduceMul, Int.reduceDiv, Int.reduceMod, Int.reduceEq, Int.reduceToNat, Nat.reduceEqDiff, frz_zero, frz_succ, gT_tup, gT_ktp, gC_ap, gE_nil, cast_0, cast_1, cast_2, cast_3, cast_4, cast_5, cast_6, cast_7, cast_8, cast_9, ty_bs, ty_is, frz_zeroV, oOfR_o, ap_lenO, ap_ixO, tOf_some, pOf_fn, ap_P, ap_iZT, itZT_ok, zipD_cons, zipD_nil, str_i, sq_set, oOfS_o, set_ints, show isTy .tuple (.int i) = false from rfl, show isTy .str (.int i) = false from rfl, show isTy .int (.int i) = true from rfl, show isTy .bool (.int i) = false from rfl, ne_bb]
  | q, .str i, _ => by
    rw [e_l_alike]
    unfold b_l_alike
    simp only [bind_ok, bind_exc, bind_bad, ofE_ok, ofE_exc, vOf_v, ap_C, ap_V, ap_nil, ap_cons, ap_U, ap_B, ap_chain, ap_and, ap_or, ap_tup, ap_F, ap_M, ap_sl, ap_pN, ap_pS, ap_L, ap_tE, ap_tAn, ap_tO, ap_tN, ap_tY, ap_if, ap_lD, ap_lF, ap_lCat, catL_ok, ap_lRep, repL_ok, ap_lSl, slL_lst, slL_scr, ap_iD, itL_lst, itL_scr, ap_iT, itT_tup, itT_ktp, ap_iS, itS_str, ap_iR1, itR1_ok, add_i, add_s, add_l, addX_i, addX_s, sub_i, mul_i, div_i, mod_i, pow_i, shl_i, shr_i, and_i, or_i, xor_i, neg_i, not_b, lt_i, le_i, gt_i, ge_i, eq_i, eq_s, ne_i, ne_s, is_non, is_int, is_str, is_tup, is_lst, isnt_non, isnt_int, isnt_str, isnt_tup, toBl_b, toIn_i, ix_s, ix_l, ix_r, ix_t, ix_k, sl_s, sl_l, sl_r, sl_t, len_s, len_l, len_r, len_t, len_k, int_i, int_b, abs_i, min_i, max_i, tup_l, tup_t, list_l, list_r, list_t, isi_i, isi_b, isi_s, isi_l, isi_t, isi_n, ty_ii, ty_bi, ty_ss, ty_ll, ty_tt, ty_tl, ty_lt, ty_tn, find_s, lower_s, sq_nx, sq_sq, sq_a, sq_o, sq_x, sq_if, sq_ret, sq_retL, oOf_o, sq_retO, sq_app, lstK_l, sq_ext, sq_aug, sq_g, sq_frz, sq_br, sq_ct, sq_raise, ofG_some, nx_ap, thenS_nx, thenS_rt, thenS_exc, sq_for, sq_wh, endV_v, endV_o, endV_n, endV_x, endL_o, endL_x, gN_ap, List.getElem?_cons_zero, List.getElem?_cons_succ, List.set_cons_zero, List.set_cons_succ, List.length_cons, List.length_nil, decide_eq_true_eq, Bool.not_eq_true, reduceIte, Bool.false_eq_true, decide_true, decide_false, Nat.reduceAdd, Nat.reduceLeDiff, Nat.reduceLT, Bool.not_true, Bool.not_false, List.nil_append, List.cons_append, List.map_cons, List.map_nil, List.replicate_succ, List.replicate_zero, Bool.not_eq_eq_eq_not, decide_eq_false_iff_not, and_self, and_true, true_and, and_false, false_and, or_true, true_or, or_false, false_or, or_self, Int.reduceLE, Int.reduceLT, Int.reduceNeg, Int.reduceAdd, Int.reduceSub, Int.reduceMul, Int.reduceDiv, Int.reduceMod, Int.reduceEq, Int.reduceToNat, Nat.reduceEqDiff, frz_zero, frz_succ, gT_tup, gT_ktp, gC_ap, gE_nil, cast_0, cast_1, cast_2, cast_3, cast_4, cast_5, cast_6, cast_7, cast_8, cast_9, ty_bs, ty_is, frz_zeroV, oOfR_o, ap_lenO, ap_ixO, tOf_some, pOf_fn, ap_P, ap_iZT, itZT_ok, zipD_cons, zipD_nil, str_i, sq_set, oOfS_o, set_ints, show isTy .tuple (.str i) = false from rfl]
  | 0, .tup xs, h => by cases h
  | q + 1, .tup xs, h => by
    have h' : (plAll q xs && decide (xs.length ≤ 90000)) = true := h
    rw [Bool.and_eq_true, decide_eq_true_eq] at h'
    obtain ⟨e, q1, x2, rfl⟩ := forGo_range (i := 2) (b := b_l_alike_1 (m_l_alike (q + 1))) (fun _ env => ∃ x2 : Sl, env = [.val (.tup xs), .val (.tup xs), x2]) xs.length [.val (.tup xs), .val (.tup xs), .un] ⟨_, rfl⟩ fun j env hj hI => by
      obtain ⟨x2, rfl⟩ := hI
      have hx : xs[j]? = some xs[j] := List.getElem?_eq_getElem hj
      have ih := alike_self q xs[j] (plAll_at h'.1 hx)
      unfold b_l_alike_1
      simp only [bind_ok, bind_exc, bind_bad, ofE_ok, ofE_exc, vOf_v, ap_C, ap_V, ap_nil, ap_cons, ap_U, ap_B, ap_chain, ap_and, ap_or, ap_tup, ap_F, ap_M, ap_sl, ap_pN, ap_pS, ap_L, ap_tE, ap_tAn, ap_tO, ap_tN, ap_tY, ap_if, ap_lD, ap_lF, ap_lCat, catL_ok, ap_lRep, repL_ok, ap_lSl, slL_lst, slL_scr, ap_iD, itL_lst, itL_scr, ap_iT, itT_tup, itT_ktp, ap_iS, itS_str, ap_iR1, itR1_ok, add_i, add_s, add_l, addX_i, addX_s, sub_i, mul_i, div_i, mod_i, pow_i, shl_i, shr_i, and_i, or_i, xor_i, neg_i, not_b, lt_i, le_i, gt_i, ge_i, eq_i, eq_s, ne_i, ne_s, is_non, is_int, is_str, is_tup, is_lst, isnt_non, isnt_int, isnt_str, isnt_tup, toBl_b, toIn_i, ix_s, ix_l, ix_r, ix_t, ix_k, sl_s, sl_l, sl_r, sl_t, len_s, len_l, len_r, len_t, len_k, int_i, int_b, abs_i, min_i, max_i, tup_l, tup_t, list_l, list_r, list_t, isi_i, isi_b, isi_s, isi_l, isi_t, isi_n, ty_ii, ty_bi, ty_ss, ty_ll, ty_tt, ty_tl, ty_lt, ty_tn, find_s, lower_s, sq_nx, sq_sq, sq_a, sq_o, sq_x, sq_if, sq_ret, sq_retL, oOf_o, sq_retO, sq_app, lstK_l, sq_ext, sq_aug, sq_g, sq_frz, sq_br, sq_ct, sq_raise, ofG_some, nx_ap, thenS_nx, thenS_rt, thenS_exc, sq_for, sq_wh, endV_v, endV_o, endV_n, endV_x, endL_o, endL_x, gN_ap, List.getElem?_cons_zero, List.getElem?_cons_succ, List.set_cons_zero, List.set_cons_succ, List.length_cons, List.length_nil, decide_eq_true_eq, Bool.not_eq_true, reduceIte, Bool.false_eq_true, decide_true, decide_false, Nat.reduceAdd, Nat.reduceLeDiff, Nat.reduceLT, Bool.not_true, Bool.not_false, List.nil_append, List.cons_append, List.map_cons, List.map_nil, List.replicate_succ, List.replicate_zero, Bool.not_eq_eq_eq_not, decide_eq_false_iff_not, and_self, and_true, true_and, and_false, false_and, or_true, true_or, or_false, false_or, or_self, Int.reduceLE, Int.reduceLT, Int.reduceNeg, Int.reduceAdd, Int.reduceSub, Int.reduceMul, Int.reduceDiv, Int.reduceMod, Int.reduceEq, Int.reduceToNat, Nat.reduceEqDiff, frz_zero, frz_succ, gT_tup, gT_ktp, gC_ap, gE_nil, cast_0, cast_1, cast_2, cast_3, cast_4, cast_5, cast_6, cast_7, cast_8, cast_9, ty_bs, ty_is, frz_zeroV, oOfR_o, ap_lenO, ap_ixO, tOf_some, pOf_fn, ap_P, ap_iZT, itZT_ok, zipD_cons, zipD_nil, str_i, sq_set, oOfS_o, set_ints, ixL_ok (Dm.atI_nat hx), ih, nxP_nx]
      exact ⟨_, rfl⟩
    rw [e_l_alike]
    unfold b_l_alike
    simp only [bind_ok, bind_exc, bind_bad, ofE_ok, ofE_exc, vOf_v, ap_C, ap_V, ap_nil, ap_cons, ap_U, ap_B, ap_chain, ap_and, ap_or, ap_tup, ap_F, ap_M, ap_sl, ap_pN, ap_pS, ap_L, ap_tE, ap_tAn, ap_tO, ap_tN, ap_tY, ap_if, ap_lD, ap_lF, ap_lCat, catL_ok, ap_lRep, repL_ok, ap_lSl, slL_lst, slL_scr, ap_iD, itL_lst, itL_scr, ap_iT, itT_tup, itT_ktp, ap_iS, itS_str, ap_iR1, itR1_ok, add_i, add_s, add_l, addX_i, addX_s, sub_i, mul_i, div_i, mod_i, pow_i, shl_i, shr_i, and_i, or_i, xor_i, neg_i, not_b, lt_i, le_i, gt_i, ge_i, eq_i, eq_s, ne_i, ne_s, is_non, is_int, is_str, is_tup, is_lst, isnt_non, isnt_int, isnt_str, isnt_tup, toBl_b, toIn_i, ix_s, ix_l, ix_r, ix_t, ix_k, sl_s, sl_l, sl_r, sl_t, len_s, len_l, len_r, len_t, len_k, int_i, int_b, abs_i, min_i, max_i, tup_l, tup_t, list_l, list_r, list_t, isi_i, isi_b, isi_s, isi_l, isi_t, isi_n, ty_ii, ty_bi, ty_ss, ty_ll, ty_tt, ty_tl, ty_lt, ty_tn, find_s, lower_s, sq_nx, sq_sq, sq_a, sq_o, sq_x, sq_if, sq_ret, sq_retL, oOf_o, sq_retO, sq_app, lstK_l, sq_ext, sq_aug, sq_g, sq_frz, sq_br, sq_ct, sq_raise, ofG_some, nx_ap, thenS_nx, thenS_rt, thenS_exc, sq_for, sq_wh, endV_v, endV_o, endV_n, endV_x, endL_o, endL_x, gN_ap, List.getElem?_cons_zero, List.getElem?_cons_succ, List.set_cons_zero, List.set_cons_succ, List.length_cons, List.length_nil, decide_eq_true_eq, Bool.not_eq_true, reduceIte, Bool.false_eq_true, decide_true, decide_false, Nat.reduceAdd, Nat.reduceLeDiff, Nat.reduceLT, Bool.not_true, Bool.not_false, List.nil_append, List.cons_append, List.map_cons, List.map_nil, List.replicate_succ, List.replicate_zero, Bool.not_eq_eq_eq_not, decide_eq_false_iff_not, and_self, and_true, true_and, and_false, false_and, or_true, true_or, or_false, false_or, or_self, Int.reduceLE, Int.reduceLT, Int.reduceNeg, Int.reduceAdd, Int.reduceSub, Int.reduceMul, Int.reduceDiv, Int.reduceMod, Int.reduceEq, Int.reduceToNat, Nat.reduceEqDiff, frz_zero, frz_succ, gT_tup, gT_ktp, gC_ap, gE_nil, cast_0, cast_1, cast_2, cast_3, cast_4, cast_5, cast_6, cast_7, cast_8, cast_9, ty_bs, ty_is, frz_zeroV, oOfR_o, ap_lenO, ap_ixO, tOf_some, pOf_fn, ap_P, ap_iZT, itZT_ok, zipD_cons, zipD_nil, str_i, sq_set, oOfS_o, set_ints, show (xs.length : Int) ≤ 100000 by omega, show (-100000 : Int) ≤ (xs.length : Int) by omega, Int.toNat_natCast, q1]
theorem pl_ints (q : Nat) : ∀ xs : List Int, plAll q (dI xs) = true
  | [] => by unfold plAll; rfl
  | x :: xs => by
    rw [dI, List.map_cons]
    unfold plAll
    rw [pl_ints q xs]
    cases q <;> rfl
theorem law_true : ∀ ns : List Int, ns.length ≤ 63 → defV 1 7 b_law [.scr (ns.map .int)] = .ok (.bl true) := by
  intro ns hl
  rw [defV_ap (n := 1) (show [D.scr (ns.map D.int)].length = 1 from rfl)]
  obtain ⟨bs, h, hb, q⟩ := bytes_ok hl
  have hn := encs_len bs
  have hL : (34 :: (encs bs ++ [34])).length ≤ 100000 := by simp; omega
  have pp : ∀ k : Int, pl 7 (.tup [.tup [.str "string", .tup (dI bs), .int 1, .int 1], .tup [.str "end", .str "", .int 1, .int k]]) = true := fun k => by
    have e : pl 5 (.tup (dI bs)) = true := by
      show (plAll 4 (dI bs) && decide ((dI bs).length ≤ 90000)) = true
      rw [pl_ints, List.length_map, decide_eq_true (show bs.length ≤ 90000 by omega)] <;> rfl
    show ((((true && (pl 5 (.tup (dI bs)) && (true && (true && true)))) && true) && (((true && (true && (true && (true && true)))) && true) && true)) && true) = true
    rw [e]
    rfl
  have al := fun k => alike_self 7 _ (pp k)
  have c : m_l_due [.lst (dI bs)] = _ := due_ok h hb
  have p1 := print_l h hb
  have p2 := print_t h hb
  have tk := tokens_ok h hb
  generalize 34 :: (encs bs ++ [34]) = F at *
  unfold b_law
  simp only [bind_ok, bind_exc, bind_bad, ofE_ok, ofE_exc, vOf_v, ap_C, ap_V, ap_nil, ap_cons, ap_U, ap_B, ap_chain, ap_and, ap_or, ap_tup, ap_F, ap_M, ap_sl, ap_pN, ap_pS, ap_L, ap_tE, ap_tAn, ap_tO, ap_tN, ap_tY, ap_if, ap_lD, ap_lF, ap_lCat, catL_ok, ap_lRep, repL_ok, ap_lSl, slL_lst, slL_scr, ap_iD, itL_lst, itL_scr, ap_iT, itT_tup, itT_ktp, ap_iS, itS_str, ap_iR1, itR1_ok, add_i, add_s, add_l, addX_i, addX_s, sub_i, mul_i, div_i, mod_i, pow_i, shl_i, shr_i, and_i, or_i, xor_i, neg_i, not_b, lt_i, le_i, gt_i, ge_i, eq_i, eq_s, ne_i, ne_s, is_non, is_int, is_str, is_tup, is_lst, isnt_non, isnt_int, isnt_str, isnt_tup, toBl_b, toIn_i, ix_s, ix_l, ix_r, ix_t, ix_k, sl_s, sl_l, sl_r, sl_t, len_s, len_l, len_r, len_t, len_k, int_i, int_b, abs_i, min_i, max_i, tup_l, tup_t, list_l, list_r, list_t, isi_i, isi_b, isi_s, isi_l, isi_t, isi_n, ty_ii, ty_bi, ty_ss, ty_ll, ty_tt, ty_tl, ty_lt, ty_tn, find_s, lower_s, sq_nx, sq_sq, sq_a, sq_o, sq_x, sq_if, sq_ret, sq_retL, oOf_o, sq_retO, sq_app, lstK_l, sq_ext, sq_aug, sq_g, sq_frz, sq_br, sq_ct, sq_raise, ofG_some, nx_ap, thenS_nx, thenS_rt, thenS_exc, sq_for, sq_wh, endV_v, endV_o, endV_n, endV_x, endL_o, endL_x, gN_ap, List.getElem?_cons_zero, List.getElem?_cons_succ, List.set_cons_zero, List.set_cons_succ, List.length_cons, List.length_nil, decide_eq_true_eq, Bool.not_eq_true, reduceIte, Bool.false_eq_true, decide_true, decide_false, Nat.reduceAdd, Nat.reduceLeDiff, Nat.reduceLT, Bool.not_true, Bool.not_false, List.nil_append, List.cons_append, List.map_cons, List.map_nil, List.replicate_succ, List.replicate_zero, Bool.not_eq_eq_eq_not, decide_eq_false_iff_not, and_self, and_true, true_and, and_false, false_and, or_true, true_or, or_false, false_or, or_self, Int.reduceLE, Int.reduceLT, Int.reduceNeg, Int.reduceAdd, Int.reduceSub, Int.reduceMul, Int.reduceDiv, Int.reduceMod, Int.reduceEq, Int.reduceToNat, Nat.reduceEqDiff, frz_zero, frz_succ, gT_tup, gT_ktp, gC_ap, gE_nil, cast_0, cast_1, cast_2, cast_3, cast_4, cast_5, cast_6, cast_7, cast_8, cast_9, ty_bs, ty_is, frz_zeroV, oOfR_o, ap_lenO, ap_ixO, tOf_some, pOf_fn, ap_P, ap_iZT, itZT_ok, zipD_cons, zipD_nil, str_i, sq_set, oOfS_o, set_ints, q, c, p1, p2, tk, ne_self, tx_len, hL, al]
end Lk23
set_option Elab.async false
set_option linter.all false
set_option maxRecDepth 100000
set_option maxHeartbeats 4000000

open PySem
namespace Lk23
open PySem L2 Evl RZ Wm Dm
def topS (i : Nat) : Stmt := PySem.Challenge.pw_wasmhost_k23_strings_come_back.main.body.getD i (.Pass ⟨0, 0, 0, 0⟩)
abbrev s_character : Stmt := topS 5
abbrev s_position : Stmt := topS 11
abbrev s_fail : Stmt := topS 12
abbrev s_digit_of : Stmt := topS 13
abbrev s_after_block_comment : Stmt := topS 14
abbrev s_after_line : Stmt := topS 15
abbrev s_after_blanks : Stmt := topS 16
abbrev s_string_character : Stmt := topS 17
abbrev s_read_string_byte : Stmt := topS 18
abbrev s_read_string : Stmt := topS 19
abbrev s_after_word : Stmt := topS 20
abbrev s_read_token : Stmt := topS 21
abbrev s_tokens_of : Stmt := topS 22
abbrev s_print_byte : Stmt := topS 24
abbrev s_print_string : Stmt := topS 25
abbrev s_l_char : Stmt := topS 27
abbrev s_l_alike : Stmt := topS 28
abbrev s_l_bytes : Stmt := topS 29
abbrev s_l_due : Stmt := topS 30
abbrev s_law : Stmt := topS 31
structure Tx (w : World) (K : PySem.W.Frag) (mg : Str → Option Value) (ad : Nat → Addr) : Prop where
  b_bool : mg "bool" = none
  b_int : mg "int" = none
  b_isinstance : mg "isinstance" = none
  b_len : mg "len" = none
  b_list : mg "list" = none
  b_ord : mg "ord" = none
  b_range : mg "range" = none
  b_str : mg "str" = none
  b_tuple : mg "tuple" = none
  g_APART : ∃ v u, mg "APART" = some u ∧ RelV v u ∧ ∀ G, Rep K w ad G v d_APART
  g_CHARACTERS : ∃ v u, mg "CHARACTERS" = some u ∧ RelV v u ∧ ∀ G, Rep K w ad G v d_CHARACTERS
  g_DIGITS : ∃ v u, mg "DIGITS" = some u ∧ RelV v u ∧ ∀ G, Rep K w ad G v d_DIGITS
  g_ESCAPES : ∃ v u, mg "ESCAPES" = some u ∧ RelV v u ∧ ∀ G, Rep K w ad G v d_ESCAPES
  g_MOST_CHARACTERS : ∃ v u, mg "MOST_CHARACTERS" = some u ∧ RelV v u ∧ ∀ G, Rep K w ad G v d_MOST_CHARACTERS
  n_HostError : mg "HostError" = some (.ref (ad 1000))
  e_ParseError : ExN K mg "ParseError" (ad 1001) (ad 2001) ["reason", "line", "column"]
  n_ParseError : mg "ParseError" = some (.ref (ad 1001))
section
variable {P : Program} {w : World} {K : PySem.W.Frag} {mg : Str → Option Value} {base : Heap} {ad : Nat → Addr}
abbrev s_init_ParseError : Stmt := (clsBodyW (topS 2)).getD 0 (.Pass ⟨0, 0, 0, 0⟩)
theorem sc_init_ParseError : FnScope ["self", "reason", "line", "column"] ["self", "reason", "line", "column"] (defScope s_init_ParseError) := ⟨rfl, rfl, rfl, by decide +kernel, rfl, by decide +kernel, by decide +kernel⟩
theorem ok_init_ParseError {f : Addr} {fd : FuncData} (F : Fun K "__init__" "ParseError.__init__" s_init_ParseError f fd) : FnOk P w K mg base CX0 1 f fd ["self", "reason", "line", "column"] (sp_initN K ["reason", "line", "column"]) := by
  refine F.ok sc_init_ParseError (fun vs H Q E h => initN_len h) (fun cdv A outer s H vs Q E hr h => ?_)
  exact ⟨_, (pss_cons (ps_ost (pv 0) (pv 1)) (pss_cons (ps_ost (pv 0) (pv 2)) (pss_cons (ps_ost (pv 0) (pv 3)) pss_nil))), init3 h⟩
theorem sc_character : FnScope ["code"] ["code"] (defScope s_character) := ⟨rfl, rfl, rfl, by decide +kernel, rfl, by decide +kernel, by decide +kernel⟩
theorem ok_character {f : Addr} {fd : FuncData} (F : Fun K "character" "character" s_character f fd) (T : Tx w K mg ad) : FnOk P w K mg base (L2.CX P w) 1 f fd ["code"] (SpD ⟨K, w, ad⟩ m_character) := by
  obtain ⟨v_CHARACTERS, u_CHARACTERS, g_CHARACTERS, r_CHARACTERS, k_CHARACTERS⟩ := T.g_CHARACTERS
  refine ok_defV (l := 0) (n := 1) (k := 0) (b := b_character) F sc_character rfl rfl (fun cdv A outer s H E hr => ⟨_, (pss_cons (ps_if (pt_chain or_le or_lt pe_int (pv 0) pe_int) (pss_cons (ps_ret (pe_ix (r := rIxX K w) ix_all (pe_ix (r := rIxX K w) ix_all (pe_glob rfl g_CHARACTERS r_CHARACTERS) pe_int (fun _ _ => rfl)) (pe_op op_sub (pv 0) pe_int) (fun _ _ => rfl))) pss_nil) pss_nil) (pss_cons (ps_if (pt_chain or_lt or_lt pe_int (pv 0) pe_int) (pss_cons (ps_ret (pe_ix (r := rIxX K w) ix_all (pe_ix (r := rIxX K w) ix_all (pe_glob rfl g_CHARACTERS r_CHARACTERS) pe_int (fun _ _ => rfl)) (pe_op op_sub (pv 0) pe_int) (fun _ _ => rfl))) pss_nil) pss_nil) (pss_cons (ps_ret pe_non) pss_nil))), fun xo => ?_⟩)
  exact (cs_seq (cs_if (ct_test (ce_chain od_le od_lt (ce_c fun _ => .int _) ce_var (ce_c fun _ => .int _))) (cs_seq (cs_ret (ce_B od_ix (ce_B od_ix (ce_c k_CHARACTERS) (ce_c fun _ => .int _)) (ce_B od_sub ce_var (ce_c fun _ => .int _)))) cs_nx) cs_nx) (cs_seq (cs_if (ct_test (ce_chain od_lt od_lt (ce_c fun _ => .int _) ce_var (ce_c fun _ => .int _))) (cs_seq (cs_ret (ce_B od_ix (ce_B od_ix (ce_c k_CHARACTERS) (ce_c fun _ => .int _)) (ce_B od_sub ce_var (ce_c fun _ => .int _)))) cs_nx) cs_nx) (cs_seq (cs_ret (ce_c fun _ => .non)) cs_nx)))
theorem sc_position : FnScope ["text", "at", "before"] ["text", "at"] (defScope s_position) := ⟨rfl, rfl, rfl, by decide +kernel, rfl, by decide +kernel, by decide +kernel⟩
theorem ok_position {f : Addr} {fd : FuncData} (F : Fun K "position" "position" s_position f fd) (T : Tx w K mg ad) : FnOk P w K mg base (L2.CX P w) 1 f fd ["text", "at"] (SpD ⟨K, w, ad⟩ m_position) := by
  refine ok_defV (l := 0) (n := 2) (k := 1) (b := b_position) F sc_position rfl rfl (fun cdv A outer s H E hr => ⟨_, (pss_cons (ps_set (i := 2) sc_position.nd rfl (Or.inl rfl) (pe_slice (r := rSlX2 K) sl_all (pv 0) po_none (po_some (pv 1)))) (pss_cons (ps_ret (pe_tup (pa_cons (pe_op (r := Dm.rAdd K) or_add (pe_bm PySem.F.plainAttrs_str PySem.F.slot_str_count PySem.F.type_str_count mt_count (pv 2) (pa_cons pe_str pa_nil)) pe_int) (pa_cons (pe_op op_sub (pv 1) (pe_bm PySem.F.plainAttrs_str PySem.F.slot_str_rfind PySem.F.type_str_rfind mt_rfind (pv 2) (pa_cons pe_str pa_nil))) pa_nil)))) pss_nil)), fun xo => ?_⟩)
  exact (cs_seq (cs_a (ce_sl ce_var co_none (co_some ce_var))) (cs_seq (cs_ret (ce_tup (ca_cons (ce_B od_add (ce_M (t := .str) md_count (Or.inl rfl) ce_var (ca_cons (ce_c fun _ => .str _) ca_nil)) (ce_c fun _ => .int _)) (ca_cons (ce_B od_sub ce_var (ce_M (t := .str) md_rfind (Or.inl rfl) ce_var (ca_cons (ce_c fun _ => .str _) ca_nil))) ca_nil)))) cs_nx))
theorem sc_fail : FnScope ["reason", "text", "at", "line", "column"] ["reason", "text", "at"] (defScope s_fail) := ⟨rfl, rfl, rfl, by decide +kernel, rfl, by decide +kernel, by decide +kernel⟩
theorem ok_fail {f : Addr} {fd : FuncData} {d_position : FuncData} {di_ParseError : FuncData} (F : Fun K "fail" "fail" s_fail f fd) (T : Tx w K mg ad) (O_position : DfX P w K mg base 1 "position" (ad 1) d_position ["text", "at"] (SpD ⟨K, w, ad⟩ m_position)) (O_init_ParseError : InitN P w K mg base (ad 2001) di_ParseError ["self", "reason", "line", "column"] ["reason", "line", "column"]) : FnOk P w K mg base (L2.CX P w) 3 f fd ["reason", "text", "at"] (SpD ⟨K, w, ad⟩ m_fail) := by
  refine ok_defV (l := 2) (n := 3) (k := 2) (b := b_fail) F sc_fail rfl rfl (fun cdv A outer s H E hr => ⟨_, (pss_cons (ps_asg (clS O_position (hr.mono (by decide)) rfl (fun σ => passAt (takes_of rfl rfl rfl rfl) σ) (pa_cons (pv 1) (pa_cons (pv 2) pa_nil))) (pg_tup rfl (pgs_cons (pg_name (i := 3) sc_fail.nd rfl (Or.inl rfl)) (pgs_cons (pg_name (i := 4) sc_fail.nd rfl (Or.inl rfl)) pgs_nil)))) (pss_cons (ps_raise rfl (takes_of rfl rfl rfl rfl) (pmk_oex T.e_ParseError.o T.e_ParseError.i T.e_ParseError.t O_init_ParseError.ok (hr.mono (by decide)) O_init_ParseError.b .nil pass0 rfl T.e_ParseError.g (pa_cons (pv 0) (pa_cons (pv 3) (pa_cons (pv 4) pa_nil))))) pss_nil)), fun xo => ?_⟩)
  exact (cs_seq (cs_g (ce_call (ca_cons ce_var (ca_cons ce_var ca_nil))) (cg_tup (cgs_cons cg_name (cgs_cons cg_name cgs_nil)))) (cs_seq (cs_raise T.e_ParseError.o T.e_ParseError.n (by decide) (by decide) (by decide +kernel) (ca_cons ce_var (ca_cons ce_var (ca_cons ce_var ca_nil)))) cs_nx))
theorem sc_digit_of : FnScope ["char", "base"] ["char", "base"] (defScope s_digit_of) := ⟨rfl, rfl, rfl, by decide +kernel, rfl, by decide +kernel, by decide +kernel⟩
theorem ok_digit_of {f : Addr} {fd : FuncData} (F : Fun K "digit_of" "digit_of" s_digit_of f fd) (T : Tx w K mg ad) : FnOk P w K mg base (L2.CX P w) 1 f fd ["char", "base"] (SpD ⟨K, w, ad⟩ m_digit_of) := by
  obtain ⟨v_DIGITS, u_DIGITS, g_DIGITS, r_DIGITS, k_DIGITS⟩ := T.g_DIGITS
  refine ok_defV (l := 0) (n := 2) (k := 0) (b := b_digit_of) F sc_digit_of rfl rfl (fun cdv A outer s H E hr => ⟨_, (pss_cons (ps_ret (pe_bm PySem.F.plainAttrs_str PySem.F.slot_str_find PySem.F.type_str_find mt_find (pe_slice (r := rSlX2 K) sl_all (pe_glob rfl g_DIGITS r_DIGITS) po_none (po_some (pv 1))) (pa_cons (pe_bm0 PySem.F.plainAttrs_str PySem.F.slot_str_lower PySem.F.type_str_lower mt_lower (pv 0)) pa_nil))) pss_nil), fun xo => ?_⟩)
  exact (cs_seq (cs_ret (ce_M (t := .str) md_find (Or.inl rfl) (ce_sl (ce_c k_DIGITS) co_none (co_some ce_var)) (ca_cons (ce_M0 (t := .str) md_lower (Or.inl rfl) ce_var) ca_nil))) cs_nx)
theorem sc_after_block_comment : FnScope ["text", "at", "depth", "mark"] ["text", "at"] (defScope s_after_block_comment) := ⟨rfl, rfl, rfl, by decide +kernel, rfl, by decide +kernel, by decide +kernel⟩
theorem ok_after_block_comment {f : Addr} {fd : FuncData} (F : Fun K "after_block_comment" "after_block_comment" s_after_block_comment f fd) (T : Tx w K mg ad) : FnOk P w K mg base (L2.CX P w) 1 f fd ["text", "at"] (SpD ⟨K, w, ad⟩ m_after_block_comment) := by
  refine ok_defV (l := 0) (n := 2) (k := 2) (b := b_after_block_comment) F sc_after_block_comment rfl rfl (fun cdv A outer s H E hr => ⟨_, (pss_cons (ps_set (i := 2) sc_after_block_comment.nd rfl (Or.inl rfl) pe_int) (pss_cons (ps_while (passes_of rfl) (pt_cmpR or_lt (pv 1) (pe_callB (r := rLenX K) cr_len (by rfl) T.b_len (by decide +kernel) (pa_cons (pv 0) pa_nil)) (nomark _)) (pss_cons (ps_set (i := 3) sc_after_block_comment.nd rfl (Or.inl rfl) (pe_slice (r := rSlX2 K) sl_all (pv 0) (po_some (pv 1)) (po_some (pe_op (r := Dm.rAdd K) or_add (pv 1) pe_int)))) (pss_cons (ps_if (pt_cmpR (r := rEqX K) (or_eq hr.units) (pv 3) pe_str (nomark _)) (pss_cons (ps_aug (i := 2) sc_after_block_comment.nd rfl (Or.inl rfl) pe_int ip_addX) (pss_cons (ps_aug (i := 1) sc_after_block_comment.nd rfl (Or.inl rfl) pe_int ip_addX) pss_nil)) (pss_cons (ps_if (pt_cmpR (r := rEqX K) (or_eq hr.units) (pv 3) pe_str (nomark _)) (pss_cons (ps_aug (i := 2) sc_after_block_comment.nd rfl (Or.inl rfl) pe_int ip_subX) (pss_cons (ps_aug (i := 1) sc_after_block_comment.nd rfl (Or.inl rfl) pe_int ip_addX) pss_nil)) (pss_cons (ps_aug (i := 1) sc_after_block_comment.nd rfl (Or.inl rfl) pe_int ip_addX) pss_nil)) pss_nil)) (pss_cons (ps_if (pt_cmpR (r := rEqX K) (or_eq hr.units) (pv 2) pe_int (nomark _)) (pss_cons (ps_ret (pv 1)) pss_nil) pss_nil) pss_nil)))) (pss_cons (ps_ret pe_non) pss_nil))), fun xo => ?_⟩)
  exact (cs_seq (cs_a (ce_c fun _ => .int _)) (cs_seq (cs_wh 100000 (ct_test (ce_B od_lt ce_var (ce_F cd_len (ca_cons ce_var ca_nil)))) (cs_seq (cs_a (ce_sl ce_var (co_some ce_var) (co_some (ce_B od_add ce_var (ce_c fun _ => .int _))))) (cs_seq (cs_if (ct_test (ce_B od_eq ce_var (ce_c fun _ => .str _))) (cs_seq (cs_aug od_addX (ce_c fun _ => .int _)) (cs_seq (cs_aug od_addX (ce_c fun _ => .int _)) cs_nx)) (cs_seq (cs_if (ct_test (ce_B od_eq ce_var (ce_c fun _ => .str _))) (cs_seq (cs_aug od_sub (ce_c fun _ => .int _)) (cs_seq (cs_aug od_addX (ce_c fun _ => .int _)) cs_nx)) (cs_seq (cs_aug od_addX (ce_c fun _ => .int _)) cs_nx)) cs_nx)) (cs_seq (cs_if (ct_test (ce_B od_eq ce_var (ce_c fun _ => .int _))) (cs_seq (cs_ret ce_var) cs_nx) cs_nx) cs_nx)))) (cs_seq (cs_ret (ce_c fun _ => .non)) cs_nx)))
theorem sc_after_line : FnScope ["text", "at"] ["text", "at"] (defScope s_after_line) := ⟨rfl, rfl, rfl, by decide +kernel, rfl, by decide +kernel, by decide +kernel⟩
theorem ok_after_line {f : Addr} {fd : FuncData} (F : Fun K "after_line" "after_line" s_after_line f fd) (T : Tx w K mg ad) : FnOk P w K mg base (L2.CX P w) 1 f fd ["text", "at"] (SpD ⟨K, w, ad⟩ m_after_line) := by
  refine ok_defV (l := 0) (n := 2) (k := 0) (b := b_after_line) F sc_after_line rfl rfl (fun cdv A outer s H E hr => ⟨_, (pss_cons (ps_while (passes_of rfl) (PW.pt (pw_and (pt_cmpR or_lt (pv 1) (pe_callB (r := rLenX K) cr_len (by rfl) T.b_len (by decide +kernel) (pa_cons (pv 0) pa_nil)) (nomark _)) (pw_and1 (pt_cmpR (r := rNeX K) (or_ne hr.units) (pe_ix (r := rIxX K w) ix_all (pv 0) (pv 1) (fun _ _ => rfl)) pe_str (nomark _))))) (pss_cons (ps_aug (i := 1) sc_after_line.nd rfl (Or.inl rfl) pe_int ip_addX) pss_nil)) (pss_cons (ps_ret (pv 1)) pss_nil)), fun xo => ?_⟩)
  exact (cs_seq (cs_wh 100000 (ct_and (ct_test (ce_B od_lt ce_var (ce_F cd_len (ca_cons ce_var ca_nil)))) (ct_test (ce_B od_ne (ce_B od_ix ce_var ce_var) (ce_c fun _ => .str _)))) (cs_seq (cs_aug od_addX (ce_c fun _ => .int _)) cs_nx)) (cs_seq (cs_ret ce_var) cs_nx))
theorem sc_after_blanks : FnScope ["text", "at", "after"] ["text", "at"] (defScope s_after_blanks) := ⟨rfl, rfl, rfl, by decide +kernel, rfl, by decide +kernel, by decide +kernel⟩
theorem ok_after_blanks {f : Addr} {fd : FuncData} {d_fail : FuncData} {d_after_block_comment : FuncData} {d_after_line : FuncData} (F : Fun K "after_blanks" "after_blanks" s_after_blanks f fd) (T : Tx w K mg ad) (O_fail : DfX P w K mg base 3 "fail" (ad 2) d_fail ["reason", "text", "at"] (SpD ⟨K, w, ad⟩ m_fail)) (O_after_block_comment : DfX P w K mg base 1 "after_block_comment" (ad 4) d_after_block_comment ["text", "at"] (SpD ⟨K, w, ad⟩ m_after_block_comment)) (O_after_line : DfX P w K mg base 1 "after_line" (ad 5) d_after_line ["text", "at"] (SpD ⟨K, w, ad⟩ m_after_line)) : FnOk P w K mg base (L2.CX P w) 4 f fd ["text", "at"] (SpD ⟨K, w, ad⟩ m_after_blanks) := by
  refine ok_defV (l := 3) (n := 2) (k := 1) (b := b_after_blanks) F sc_after_blanks rfl rfl (fun cdv A outer s H E hr => ⟨_, (pss_cons (ps_while (passes_of rfl) (pt_cmpR or_lt (pv 1) (pe_callB (r := rLenX K) cr_len (by rfl) T.b_len (by decide +kernel) (pa_cons (pv 0) pa_nil)) (nomark _)) (pss_cons (ps_if (pt_cmpR (r := rInX K w false) or_in (pe_ix (r := rIxX K w) ix_all (pv 0) (pv 1) (fun _ _ => rfl)) pe_str (by rfl)) (pss_cons (ps_aug (i := 1) sc_after_blanks.nd rfl (Or.inl rfl) pe_int ip_addX) pss_nil) (pss_cons (ps_if (pt_cmpR (r := rEqX K) (or_eq hr.units) (pe_slice (r := rSlX2 K) sl_all (pv 0) (po_some (pv 1)) (po_some (pe_op (r := Dm.rAdd K) or_add (pv 1) pe_int))) pe_str (nomark _)) (pss_cons (ps_set (i := 1) sc_after_blanks.nd rfl (Or.inl rfl) (clS O_after_line (hr.mono (by decide)) rfl (fun σ => passAt (takes_of rfl rfl rfl rfl) σ) (pa_cons (pv 0) (pa_cons (pv 1) pa_nil)))) pss_nil) (pss_cons (ps_if (pt_cmpR (r := rEqX K) (or_eq hr.units) (pe_slice (r := rSlX2 K) sl_all (pv 0) (po_some (pv 1)) (po_some (pe_op (r := Dm.rAdd K) or_add (pv 1) pe_int))) pe_str (nomark _)) (pss_cons (ps_set (i := 2) sc_after_blanks.nd rfl (Or.inl rfl) (clS O_after_block_comment (hr.mono (by decide)) rfl (fun σ => passAt (takes_of rfl rfl rfl rfl) σ) (pa_cons (pv 0) (pa_cons (pv 1) pa_nil)))) (pss_cons (ps_if (pt_cmpR op_isN (pv 2) pe_non (nomark _)) (pss_cons (ps_expr (clS O_fail (hr.mono (by decide)) rfl (fun σ => passAt (takes_of rfl rfl rfl rfl) σ) (pa_cons pe_str (pa_cons (pv 0) (pa_cons (pv 1) pa_nil))))) pss_nil) pss_nil) (pss_cons (ps_set (i := 1) sc_after_blanks.nd rfl (Or.inl rfl) (pv 2)) pss_nil))) (pss_cons (ps_ret (pv 1)) pss_nil)) pss_nil)) pss_nil)) pss_nil)) (pss_cons (ps_ret (pv 1)) pss_nil)), fun xo => ?_⟩)
  exact (cs_seq (cs_wh 100000 (ct_test (ce_B od_lt ce_var (ce_F cd_len (ca_cons ce_var ca_nil)))) (cs_seq (cs_if (ct_test (ce_B od_in (ce_B od_ix ce_var ce_var) (ce_c fun _ => .str _))) (cs_seq (cs_aug od_addX (ce_c fun _ => .int _)) cs_nx) (cs_seq (cs_if (ct_test (ce_B od_eq (ce_sl ce_var (co_some ce_var) (co_some (ce_B od_add ce_var (ce_c fun _ => .int _)))) (ce_c fun _ => .str _))) (cs_seq (cs_a (ce_call (ca_cons ce_var (ca_cons ce_var ca_nil)))) cs_nx) (cs_seq (cs_if (ct_test (ce_B od_eq (ce_sl ce_var (co_some ce_var) (co_some (ce_B od_add ce_var (ce_c fun _ => .int _)))) (ce_c fun _ => .str _))) (cs_seq (cs_a (ce_call (ca_cons ce_var (ca_cons ce_var ca_nil)))) (cs_seq (cs_if (ct_test (ce_B od_is ce_var (ce_c fun _ => .non))) (cs_seq (cs_x (ce_call (ca_cons (ce_c fun _ => .str _) (ca_cons ce_var (ca_cons ce_var ca_nil))))) cs_nx) cs_nx) (cs_seq (cs_a ce_var) cs_nx))) (cs_seq (cs_ret ce_var) cs_nx)) cs_nx)) cs_nx)) cs_nx)) (cs_seq (cs_ret ce_var) cs_nx))
theorem sc_string_character : FnScope ["text", "at"] ["text", "at"] (defScope s_string_character) := ⟨rfl, rfl, rfl, by decide +kernel, rfl, by decide +kernel, by decide +kernel⟩
theorem ok_string_character {f : Addr} {fd : FuncData} {d_fail : FuncData} (F : Fun K "string_character" "string_character" s_string_character f fd) (T : Tx w K mg ad) (O_fail : DfX P w K mg base 3 "fail" (ad 2) d_fail ["reason", "text", "at"] (SpD ⟨K, w, ad⟩ m_fail)) : FnOk P w K mg base (L2.CX P w) 4 f fd ["text", "at"] (SpD ⟨K, w, ad⟩ m_string_character) := by
  refine ok_defV (l := 3) (n := 2) (k := 0) (b := b_string_character) F sc_string_character rfl rfl (fun cdv A outer s H E hr => ⟨_, (pss_cons (ps_if (PW.pt (pw_or (pt_cmpR or_ge (pv 1) (pe_callB (r := rLenX K) cr_len (by rfl) T.b_len (by decide +kernel) (pa_cons (pv 0) pa_nil)) (nomark _)) (pw_or1 (pt_cmpR (r := rInX K w false) or_in (pe_ix (r := rIxX K w) ix_all (pv 0) (pv 1) (fun _ _ => rfl)) pe_str (by rfl))))) (pss_cons (ps_expr (clS O_fail (hr.mono (by decide)) rfl (fun σ => passAt (takes_of rfl rfl rfl rfl) σ) (pa_cons pe_str (pa_cons (pv 0) (pa_cons (pv 1) pa_nil))))) pss_nil) pss_nil) (pss_cons (ps_ret (pe_ix (r := rIxX K w) ix_all (pv 0) (pv 1) (fun _ _ => rfl))) pss_nil)), fun xo => ?_⟩)
  exact (cs_seq (cs_if (ct_or (ct_test (ce_B od_ge ce_var (ce_F cd_len (ca_cons ce_var ca_nil)))) (ct_test (ce_B od_in (ce_B od_ix ce_var ce_var) (ce_c fun _ => .str _)))) (cs_seq (cs_x (ce_call (ca_cons (ce_c fun _ => .str _) (ca_cons ce_var (ca_cons ce_var ca_nil))))) cs_nx) cs_nx) (cs_seq (cs_ret (ce_B od_ix ce_var ce_var)) cs_nx))
theorem sc_read_string_byte : FnScope ["text", "at", "char", "first", "second", "line", "column"] ["text", "at"] (defScope s_read_string_byte) := ⟨rfl, rfl, rfl, by decide +kernel, rfl, by decide +kernel, by decide +kernel⟩
theorem ok_read_string_byte {f : Addr} {fd : FuncData} {d_position : FuncData} {d_digit_of : FuncData} {d_string_character : FuncData} {di_ParseError : FuncData} (F : Fun K "read_string_byte" "read_string_byte" s_read_string_byte f fd) (T : Tx w K mg ad) (O_position : DfX P w K mg base 1 "position" (ad 1) d_position ["text", "at"] (SpD ⟨K, w, ad⟩ m_position)) (O_digit_of : DfX P w K mg base 1 "digit_of" (ad 3) d_digit_of ["char", "base"] (SpD ⟨K, w, ad⟩ m_digit_of)) (O_string_character : DfX P w K mg base 4 "string_character" (ad 7) d_string_character ["text", "at"] (SpD ⟨K, w, ad⟩ m_string_character)) (O_init_ParseError : InitN P w K mg base (ad 2001) di_ParseError ["self", "reason", "line", "column"] ["reason", "line", "column"]) : FnOk P w K mg base (L2.CX P w) 5 f fd ["text", "at"] (SpD ⟨K, w, ad⟩ m_read_string_byte) := by
  obtain ⟨v_ESCAPES, u_ESCAPES, g_ESCAPES, r_ESCAPES, k_ESCAPES⟩ := T.g_ESCAPES
  refine ok_defV (l := 4) (n := 2) (k := 5) (b := b_read_string_byte) F sc_read_string_byte rfl rfl (fun cdv A outer s H E hr => ⟨_, (pss_cons (ps_set (i := 2) sc_read_string_byte.nd rfl (Or.inl rfl) (clS O_string_character (hr.mono (by decide)) rfl (fun σ => passAt (takes_of rfl rfl rfl rfl) σ) (pa_cons (pv 0) (pa_cons (pv 1) pa_nil)))) (pss_cons (ps_if (pt_cmpR (r := rNeX K) (or_ne hr.units) (pv 2) pe_str (nomark _)) (pss_cons (ps_ret (pe_tup (pa_cons (pe_callB call_ord (by rfl) T.b_ord (by decide +kernel) (pa_cons (pv 2) pa_nil)) (pa_cons (pe_op (r := Dm.rAdd K) or_add (pv 1) pe_int) pa_nil)))) pss_nil) pss_nil) (pss_cons (ps_set (i := 3) sc_read_string_byte.nd rfl (Or.inl rfl) (clS O_string_character (hr.mono (by decide)) rfl (fun σ => passAt (takes_of rfl rfl rfl rfl) σ) (pa_cons (pv 0) (pa_cons (pe_op (r := Dm.rAdd K) or_add (pv 1) pe_int) pa_nil)))) (pss_cons (ps_if (pt_cmpR (r := rInX K w false) or_in (pv 3) (pe_glob rfl g_ESCAPES r_ESCAPES) (by rfl)) (pss_cons (ps_ret (pe_tup (pa_cons (pe_ix (r := rIxX K w) ix_all (pe_glob rfl g_ESCAPES r_ESCAPES) (pv 3) (fun _ _ => rfl)) (pa_cons (pe_op (r := Dm.rAdd K) or_add (pv 1) pe_int) pa_nil)))) pss_nil) pss_nil) (pss_cons (ps_if (pt_cmpR or_ge (clS O_digit_of (hr.mono (by decide)) rfl (fun σ => passAt (takes_of rfl rfl rfl rfl) σ) (pa_cons (pv 3) (pa_cons pe_int pa_nil))) pe_int (nomark _)) (pss_cons (ps_set (i := 4) sc_read_string_byte.nd rfl (Or.inl rfl) (clS O_string_character (hr.mono (by decide)) rfl (fun σ => passAt (takes_of rfl rfl rfl rfl) σ) (pa_cons (pv 0) (pa_cons (pe_op (r := Dm.rAdd K) or_add (pv 1) pe_int) pa_nil)))) (pss_cons (ps_if (pt_cmpR or_ge (clS O_digit_of (hr.mono (by decide)) rfl (fun σ => passAt (takes_of rfl rfl rfl rfl) σ) (pa_cons (pv 4) (pa_cons pe_int pa_nil))) pe_int (nomark _)) (pss_cons (ps_ret (pe_tup (pa_cons (pe_op (r := Dm.rAdd K) or_add (pe_op or_mul (clS O_digit_of (hr.mono (by decide)) rfl (fun σ => passAt (takes_of rfl rfl rfl rfl) σ) (pa_cons (pv 3) (pa_cons pe_int pa_nil))) pe_int) (clS O_digit_of (hr.mono (by decide)) rfl (fun σ => passAt (takes_of rfl rfl rfl rfl) σ) (pa_cons (pv 4) (pa_cons pe_int pa_nil)))) (pa_cons (pe_op (r := Dm.rAdd K) or_add (pv 1) pe_int) pa_nil)))) pss_nil) pss_nil) pss_nil)) pss_nil) (pss_cons (ps_asg (clS O_position (hr.mono (by decide)) rfl (fun σ => passAt (takes_of rfl rfl rfl rfl) σ) (pa_cons (pv 0) (pa_cons (pv 1) pa_nil))) (pg_tup rfl (pgs_cons (pg_name (i := 5) sc_read_string_byte.nd rfl (Or.inl rfl)) (pgs_cons (pg_name (i := 6) sc_read_string_byte.nd rfl (Or.inl rfl)) pgs_nil)))) (pss_cons (ps_raise rfl (takes_of rfl rfl rfl rfl) (pmk_oex T.e_ParseError.o T.e_ParseError.i T.e_ParseError.t O_init_ParseError.ok (hr.mono (by decide)) O_init_ParseError.b .nil pass0 rfl T.e_ParseError.g (pa_cons pe_str (pa_cons (pv 5) (pa_cons (pv 6) pa_nil))))) pss_nil))))))), fun xo => ?_⟩)
  exact (cs_seq (cs_a (ce_call (ca_cons ce_var (ca_cons ce_var ca_nil)))) (cs_seq (cs_if (ct_test (ce_B od_ne ce_var (ce_c fun _ => .str _))) (cs_seq (cs_ret (ce_tup (ca_cons (ce_F cd_ord (ca_cons ce_var ca_nil)) (ca_cons (ce_B od_add ce_var (ce_c fun _ => .int _)) ca_nil)))) cs_nx) cs_nx) (cs_seq (cs_a (ce_call (ca_cons ce_var (ca_cons (ce_B od_add ce_var (ce_c fun _ => .int _)) ca_nil)))) (cs_seq (cs_if (ct_test (ce_B od_in ce_var (ce_c k_ESCAPES))) (cs_seq (cs_ret (ce_tup (ca_cons (ce_B od_ix (ce_c k_ESCAPES) ce_var) (ca_cons (ce_B od_add ce_var (ce_c fun _ => .int _)) ca_nil)))) cs_nx) cs_nx) (cs_seq (cs_if (ct_test (ce_B od_ge (ce_call (ca_cons ce_var (ca_cons (ce_c fun _ => .int _) ca_nil))) (ce_c fun _ => .int _))) (cs_seq (cs_a (ce_call (ca_cons ce_var (ca_cons (ce_B od_add ce_var (ce_c fun _ => .int _)) ca_nil)))) (cs_seq (cs_if (ct_test (ce_B od_ge (ce_call (ca_cons ce_var (ca_cons (ce_c fun _ => .int _) ca_nil))) (ce_c fun _ => .int _))) (cs_seq (cs_ret (ce_tup (ca_cons (ce_B od_add (ce_B od_mul (ce_call (ca_cons ce_var (ca_cons (ce_c fun _ => .int _) ca_nil))) (ce_c fun _ => .int _)) (ce_call (ca_cons ce_var (ca_cons (ce_c fun _ => .int _) ca_nil)))) (ca_cons (ce_B od_add ce_var (ce_c fun _ => .int _)) ca_nil)))) cs_nx) cs_nx) cs_nx)) cs_nx) (cs_seq (cs_g (ce_call (ca_cons ce_var (ca_cons ce_var ca_nil))) (cg_tup (cgs_cons cg_name (cgs_cons cg_name cgs_nil)))) (cs_seq (cs_raise T.e_ParseError.o T.e_ParseError.n (by decide) (by decide) (by decide +kernel) (ca_cons (ce_c fun _ => .str _) (ca_cons ce_var (ca_cons ce_var ca_nil)))) cs_nx)))))))
theorem sc_read_string : FnScope ["text", "at", "data", "byte"] ["text", "at"] (defScope s_read_string) := ⟨rfl, rfl, rfl, by decide +kernel, rfl, by decide +kernel, by decide +kernel⟩
theorem ok_read_string {f : Addr} {fd : FuncData} {d_string_character : FuncData} {d_read_string_byte : FuncData} (F : Fun K "read_string" "read_string" s_read_string f fd) (T : Tx w K mg ad) (O_string_character : DfX P w K mg base 4 "string_character" (ad 7) d_string_character ["text", "at"] (SpD ⟨K, w, ad⟩ m_string_character)) (O_read_string_byte : DfX P w K mg base 5 "read_string_byte" (ad 8) d_read_string_byte ["text", "at"] (SpD ⟨K, w, ad⟩ m_read_string_byte)) : FnOk P w K mg base (L2.CX P w) 6 f fd ["text", "at"] (SpD ⟨K, w, ad⟩ m_read_string) := by
  refine ok_defV (l := 5) (n := 2) (k := 2) (b := b_read_string) F sc_read_string rfl rfl (fun cdv A outer s H E hr => ⟨_, (pss_cons (ps_set (i := 2) sc_read_string.nd rfl (Or.inl rfl) (pe_lst pa_nil)) (pss_cons (ps_aug (i := 1) sc_read_string.nd rfl (Or.inl rfl) pe_int ip_addX) (pss_cons (ps_while (passes_of rfl) (pt_cmpR (r := rNeX K) (or_ne hr.units) (clS O_string_character (hr.mono (by decide)) rfl (fun σ => passAt (takes_of rfl rfl rfl rfl) σ) (pa_cons (pv 0) (pa_cons (pv 1) pa_nil))) pe_str (nomark _)) (pss_cons (ps_asg (clS O_read_string_byte (hr.mono (by decide)) rfl (fun σ => passAt (takes_of rfl rfl rfl rfl) σ) (pa_cons (pv 0) (pa_cons (pv 1) pa_nil))) (pg_tup rfl (pgs_cons (pg_name (i := 3) sc_read_string.nd rfl (Or.inl rfl)) (pgs_cons (pg_name (i := 1) sc_read_string.nd rfl (Or.inl rfl)) pgs_nil)))) (pss_cons (ps_expr (pe_bm PySem.F.plainAttrs_list PySem.F.slot_list_append PySem.F.type_list_append mt_append (pv 2) (pa_cons (pv 3) pa_nil))) pss_nil))) (pss_cons (ps_ret (pe_tup (pa_cons (pe_callTy (r := rTupS K) call_tuple_of (by rfl) T.b_tuple (by decide +kernel) (pa_cons (pv 2) pa_nil)) (pa_cons (pe_op (r := Dm.rAdd K) or_add (pv 1) pe_int) pa_nil)))) pss_nil)))), fun xo => ?_⟩)
  exact (cs_seq (cs_o (cn_lst ca_nil)) (cs_seq (cs_aug od_addX (ce_c fun _ => .int _)) (cs_seq (cs_wh 100000 (ct_test (ce_B od_ne (ce_call (ca_cons ce_var (ca_cons ce_var ca_nil))) (ce_c fun _ => .str _))) (cs_seq (cs_g (ce_call (ca_cons ce_var (ca_cons ce_var ca_nil))) (cg_tup (cgs_cons cg_name (cgs_cons cg_name cgs_nil)))) (cs_seq (cs_app rfl ce_var) cs_nx))) (cs_seq (cs_frz 2 (cs_ret (ce_tup (ca_cons (ce_F cd_tuple (ca_cons ce_var ca_nil)) (ca_cons (ce_B od_add ce_var (ce_c fun _ => .int _)) ca_nil))))) cs_nx))))
theorem sc_after_word : FnScope ["text", "at"] ["text", "at"] (defScope s_after_word) := ⟨rfl, rfl, rfl, by decide +kernel, rfl, by decide +kernel, by decide +kernel⟩
theorem ok_after_word {f : Addr} {fd : FuncData} (F : Fun K "after_word" "after_word" s_after_word f fd) (T : Tx w K mg ad) : FnOk P w K mg base (L2.CX P w) 1 f fd ["text", "at"] (SpD ⟨K, w, ad⟩ m_after_word) := by
  obtain ⟨v_APART, u_APART, g_APART, r_APART, k_APART⟩ := T.g_APART
  refine ok_defV (l := 0) (n := 2) (k := 0) (b := b_after_word) F sc_after_word rfl rfl (fun cdv A outer s H E hr => ⟨_, (pss_cons (ps_while (passes_of rfl) (PW.pt (pw_and (pt_cmpR or_lt (pv 1) (pe_callB (r := rLenX K) cr_len (by rfl) T.b_len (by decide +kernel) (pa_cons (pv 0) pa_nil)) (nomark _)) (pw_and (pt_chain or_le or_le pe_str (pe_ix (r := rIxX K w) ix_all (pv 0) (pv 1) (fun _ _ => rfl)) pe_str) (pw_and1 (pt_cmpR (r := rInX K w true) or_notIn (pe_ix (r := rIxX K w) ix_all (pv 0) (pv 1) (fun _ _ => rfl)) (pe_glob rfl g_APART r_APART) (by rfl)))))) (pss_cons (ps_aug (i := 1) sc_after_word.nd rfl (Or.inl rfl) pe_int ip_addX) pss_nil)) (pss_cons (ps_ret (pv 1)) pss_nil)), fun xo => ?_⟩)
  exact (cs_seq (cs_wh 100000 (ct_and (ct_test (ce_B od_lt ce_var (ce_F cd_len (ca_cons ce_var ca_nil)))) (ct_and (ct_test (ce_chain od_le od_le (ce_c fun _ => .str _) (ce_B od_ix ce_var ce_var) (ce_c fun _ => .str _))) (ct_test (ce_B od_notIn (ce_B od_ix ce_var ce_var) (ce_c k_APART))))) (cs_seq (cs_aug od_addX (ce_c fun _ => .int _)) cs_nx)) (cs_seq (cs_ret ce_var) cs_nx))
theorem sc_read_token : FnScope ["text", "at", "line", "column", "char", "data", "after"] ["text", "at"] (defScope s_read_token) := ⟨rfl, rfl, rfl, by decide +kernel, rfl, by decide +kernel, by decide +kernel⟩
theorem ok_read_token {f : Addr} {fd : FuncData} {d_position : FuncData} {d_read_string : FuncData} {d_after_word : FuncData} {di_ParseError : FuncData} (F : Fun K "read_token" "read_token" s_read_token f fd) (T : Tx w K mg ad) (O_position : DfX P w K mg base 1 "position" (ad 1) d_position ["text", "at"] (SpD ⟨K, w, ad⟩ m_position)) (O_read_string : DfX P w K mg base 6 "read_string" (ad 9) d_read_string ["text", "at"] (SpD ⟨K, w, ad⟩ m_read_string)) (O_after_word : DfX P w K mg base 1 "after_word" (ad 10) d_after_word ["text", "at"] (SpD ⟨K, w, ad⟩ m_after_word)) (O_init_ParseError : InitN P w K mg base (ad 2001) di_ParseError ["self", "reason", "line", "column"] ["reason", "line", "column"]) : FnOk P w K mg base (L2.CX P w) 7 f fd ["text", "at"] (SpD ⟨K, w, ad⟩ m_read_token) := by
  obtain ⟨v_MOST_CHARACTERS, u_MOST_CHARACTERS, g_MOST_CHARACTERS, r_MOST_CHARACTERS, k_MOST_CHARACTERS⟩ := T.g_MOST_CHARACTERS
  refine ok_defV (l := 6) (n := 2) (k := 5) (b := b_read_token) F sc_read_token rfl rfl (fun cdv A outer s H E hr => ⟨_, (pss_cons (ps_asg (clS O_position (hr.mono (by decide)) rfl (fun σ => passAt (takes_of rfl rfl rfl rfl) σ) (pa_cons (pv 0) (pa_cons (pv 1) pa_nil))) (pg_tup rfl (pgs_cons (pg_name (i := 2) sc_read_token.nd rfl (Or.inl rfl)) (pgs_cons (pg_name (i := 3) sc_read_token.nd rfl (Or.inl rfl)) pgs_nil)))) (pss_cons (ps_set (i := 4) sc_read_token.nd rfl (Or.inl rfl) (pe_ix (r := rIxX K w) ix_all (pv 0) (pv 1) (fun _ _ => rfl))) (pss_cons (ps_if (PW.pt (pw_or (pt_cmpR (r := rEqX K) (or_eq hr.units) (pv 4) pe_str (nomark _)) (pw_or1 (pt_cmpR (r := rEqX K) (or_eq hr.units) (pv 4) pe_str (nomark _))))) (pss_cons (ps_ret (pe_tup (pa_cons (pe_tup (pa_cons (pv 4) (pa_cons pe_str (pa_cons (pv 2) (pa_cons (pv 3) pa_nil))))) (pa_cons (pe_op (r := Dm.rAdd K) or_add (pv 1) pe_int) pa_nil)))) pss_nil) pss_nil) (pss_cons (ps_if (pt_cmpR (r := rEqX K) (or_eq hr.units) (pv 4) pe_str (nomark _)) (pss_cons (ps_asg (clS O_read_string (hr.mono (by decide)) rfl (fun σ => passAt (takes_of rfl rfl rfl rfl) σ) (pa_cons (pv 0) (pa_cons (pv 1) pa_nil))) (pg_tup rfl (pgs_cons (pg_name (i := 5) sc_read_token.nd rfl (Or.inl rfl)) (pgs_cons (pg_name (i := 6) sc_read_token.nd rfl (Or.inl rfl)) pgs_nil)))) (pss_cons (ps_ret (pe_tup (pa_cons (pe_tup (pa_cons pe_str (pa_cons (pv 5) (pa_cons (pv 2) (pa_cons (pv 3) pa_nil))))) (pa_cons (pv 6) pa_nil)))) pss_nil)) pss_nil) (pss_cons (ps_set (i := 6) sc_read_token.nd rfl (Or.inl rfl) (clS O_after_word (hr.mono (by decide)) rfl (fun σ => passAt (takes_of rfl rfl rfl rfl) σ) (pa_cons (pv 0) (pa_cons (pv 1) pa_nil)))) (pss_cons (ps_if (pt_cmpR (r := rEqX K) (or_eq hr.units) (pv 6) (pv 1) (nomark _)) (pss_cons (ps_raise rfl (takes_of rfl rfl rfl rfl) (pmk_oex T.e_ParseError.o T.e_ParseError.i T.e_ParseError.t O_init_ParseError.ok (hr.mono (by decide)) O_init_ParseError.b .nil pass0 rfl T.e_ParseError.g (pa_cons pe_str (pa_cons (pv 2) (pa_cons (pv 3) pa_nil))))) pss_nil) pss_nil) (pss_cons (ps_if (pt_cmpR or_gt (pe_op op_sub (pv 6) (pv 1)) (pe_glob rfl g_MOST_CHARACTERS r_MOST_CHARACTERS) (nomark _)) (pss_cons (ps_raise rfl (takes_of rfl rfl rfl rfl) (pmk_oex T.e_ParseError.o T.e_ParseError.i T.e_ParseError.t O_init_ParseError.ok (hr.mono (by decide)) O_init_ParseError.b .nil pass0 rfl T.e_ParseError.g (pa_cons pe_str (pa_cons (pv 2) (pa_cons (pv 3) pa_nil))))) pss_nil) pss_nil) (pss_cons (ps_ret (pe_tup (pa_cons (pe_tup (pa_cons pe_str (pa_cons (pe_slice (r := rSlX2 K) sl_all (pv 0) (po_some (pv 1)) (po_some (pv 6))) (pa_cons (pv 2) (pa_cons (pv 3) pa_nil))))) (pa_cons (pv 6) pa_nil)))) pss_nil)))))))), fun xo => ?_⟩)
  exact (cs_seq (cs_g (ce_call (ca_cons ce_var (ca_cons ce_var ca_nil))) (cg_tup (cgs_cons cg_name (cgs_cons cg_name cgs_nil)))) (cs_seq (cs_a (ce_B od_ix ce_var ce_var)) (cs_seq (cs_if (ct_or (ct_test (ce_B od_eq ce_var (ce_c fun _ => .str _))) (ct_test (ce_B od_eq ce_var (ce_c fun _ => .str _)))) (cs_seq (cs_ret (ce_tup (ca_cons (ce_tup (ca_cons ce_var (ca_cons (ce_c fun _ => .str _) (ca_cons ce_var (ca_cons ce_var ca_nil))))) (ca_cons (ce_B od_add ce_var (ce_c fun _ => .int _)) ca_nil)))) cs_nx) cs_nx) (cs_seq (cs_if (ct_test (ce_B od_eq ce_var (ce_c fun _ => .str _))) (cs_seq (cs_g (ce_call (ca_cons ce_var (ca_cons ce_var ca_nil))) (cg_tup (cgs_cons cg_name (cgs_cons cg_name cgs_nil)))) (cs_seq (cs_ret (ce_tup (ca_cons (ce_tup (ca_cons (ce_c fun _ => .str _) (ca_cons ce_var (ca_cons ce_var (ca_cons ce_var ca_nil))))) (ca_cons ce_var ca_nil)))) cs_nx)) cs_nx) (cs_seq (cs_a (ce_call (ca_cons ce_var (ca_cons ce_var ca_nil)))) (cs_seq (cs_if (ct_test (ce_B od_eq ce_var ce_var)) (cs_seq (cs_raise T.e_ParseError.o T.e_ParseError.n (by decide) (by decide) (by decide +kernel) (ca_cons (ce_c fun _ => .str _) (ca_cons ce_var (ca_cons ce_var ca_nil)))) cs_nx) cs_nx) (cs_seq (cs_if (ct_test (ce_B od_gt (ce_B od_sub ce_var ce_var) (ce_c k_MOST_CHARACTERS))) (cs_seq (cs_raise T.e_ParseError.o T.e_ParseError.n (by decide) (by decide) (by decide +kernel) (ca_cons (ce_c fun _ => .str _) (ca_cons ce_var (ca_cons ce_var ca_nil)))) cs_nx) cs_nx) (cs_seq (cs_ret (ce_tup (ca_cons (ce_tup (ca_cons (ce_c fun _ => .str _) (ca_cons (ce_sl ce_var (co_some ce_var) (co_some ce_var)) (ca_cons ce_var (ca_cons ce_var ca_nil))))) (ca_cons ce_var ca_nil)))) cs_nx))))))))
theorem sc_tokens_of : FnScope ["text", "tokens", "at", "token", "line", "column"] ["text"] (defScope s_tokens_of) := ⟨rfl, rfl, rfl, by decide +kernel, rfl, by decide +kernel, by decide +kernel⟩
theorem ok_tokens_of {f : Addr} {fd : FuncData} {d_position : FuncData} {d_after_blanks : FuncData} {d_read_token : FuncData} (F : Fun K "tokens_of" "tokens_of" s_tokens_of f fd) (T : Tx w K mg ad) (O_position : DfX P w K mg base 1 "position" (ad 1) d_position ["text", "at"] (SpD ⟨K, w, ad⟩ m_position)) (O_after_blanks : DfX P w K mg base 4 "after_blanks" (ad 6) d_after_blanks ["text", "at"] (SpD ⟨K, w, ad⟩ m_after_blanks)) (O_read_token : DfX P w K mg base 7 "read_token" (ad 11) d_read_token ["text", "at"] (SpD ⟨K, w, ad⟩ m_read_token)) : FnOk P w K mg base (L2.CX P w) 8 f fd ["text"] (SpD ⟨K, w, ad⟩ m_tokens_of) := by
  refine ok_defV (l := 7) (n := 1) (k := 5) (b := b_tokens_of) F sc_tokens_of rfl rfl (fun cdv A outer s H E hr => ⟨_, (pss_cons (ps_set (i := 1) sc_tokens_of.nd rfl (Or.inl rfl) (pe_lst pa_nil)) (pss_cons (ps_set (i := 2) sc_tokens_of.nd rfl (Or.inl rfl) (clS O_after_blanks (hr.mono (by decide)) rfl (fun σ => passAt (takes_of rfl rfl rfl rfl) σ) (pa_cons (pv 0) (pa_cons pe_int pa_nil)))) (pss_cons (ps_while (passes_of rfl) (pt_cmpR or_lt (pv 2) (pe_callB (r := rLenX K) cr_len (by rfl) T.b_len (by decide +kernel) (pa_cons (pv 0) pa_nil)) (nomark _)) (pss_cons (ps_asg (clS O_read_token (hr.mono (by decide)) rfl (fun σ => passAt (takes_of rfl rfl rfl rfl) σ) (pa_cons (pv 0) (pa_cons (pv 2) pa_nil))) (pg_tup rfl (pgs_cons (pg_name (i := 3) sc_tokens_of.nd rfl (Or.inl rfl)) (pgs_cons (pg_name (i := 2) sc_tokens_of.nd rfl (Or.inl rfl)) pgs_nil)))) (pss_cons (ps_expr (pe_bm PySem.F.plainAttrs_list PySem.F.slot_list_append PySem.F.type_list_append mt_append (pv 1) (pa_cons (pv 3) pa_nil))) (pss_cons (ps_set (i := 2) sc_tokens_of.nd rfl (Or.inl rfl) (clS O_after_blanks (hr.mono (by decide)) rfl (fun σ => passAt (takes_of rfl rfl rfl rfl) σ) (pa_cons (pv 0) (pa_cons (pv 2) pa_nil)))) pss_nil)))) (pss_cons (ps_asg (clS O_position (hr.mono (by decide)) rfl (fun σ => passAt (takes_of rfl rfl rfl rfl) σ) (pa_cons (pv 0) (pa_cons (pv 2) pa_nil))) (pg_tup rfl (pgs_cons (pg_name (i := 4) sc_tokens_of.nd rfl (Or.inl rfl)) (pgs_cons (pg_name (i := 5) sc_tokens_of.nd rfl (Or.inl rfl)) pgs_nil)))) (pss_cons (ps_expr (pe_bm PySem.F.plainAttrs_list PySem.F.slot_list_append PySem.F.type_list_append mt_append (pv 1) (pa_cons (pe_tup (pa_cons pe_str (pa_cons pe_str (pa_cons (pv 4) (pa_cons (pv 5) pa_nil))))) pa_nil))) (pss_cons (ps_ret (pv 1)) pss_nil)))))), fun xo => ?_⟩)
  exact (cs_seq (cs_o (cn_lst ca_nil)) (cs_seq (cs_a (ce_call (ca_cons ce_var (ca_cons (ce_c fun _ => .int _) ca_nil)))) (cs_seq (cs_wh 100000 (ct_test (ce_B od_lt ce_var (ce_F cd_len (ca_cons ce_var ca_nil)))) (cs_seq (cs_g (ce_call (ca_cons ce_var (ca_cons ce_var ca_nil))) (cg_tup (cgs_cons cg_name (cgs_cons cg_name cgs_nil)))) (cs_seq (cs_app rfl ce_var) (cs_seq (cs_a (ce_call (ca_cons ce_var (ca_cons ce_var ca_nil)))) cs_nx)))) (cs_seq (cs_g (ce_call (ca_cons ce_var (ca_cons ce_var ca_nil))) (cg_tup (cgs_cons cg_name (cgs_cons cg_name cgs_nil)))) (cs_seq (cs_app rfl (ce_tup (ca_cons (ce_c fun _ => .str _) (ca_cons (ce_c fun _ => .str _) (ca_cons ce_var (ca_cons ce_var ca_nil)))))) (cs_seq (cs_frz 1 (cs_ret ce_var)) cs_nx))))))
theorem sc_print_byte : FnScope ["byte", "char"] ["byte"] (defScope s_print_byte) := ⟨rfl, rfl, rfl, by decide +kernel, rfl, by decide +kernel, by decide +kernel⟩
theorem ok_print_byte {f : Addr} {fd : FuncData} {d_character : FuncData} (F : Fun K "print_byte" "print_byte" s_print_byte f fd) (T : Tx w K mg ad) (O_character : DfX P w K mg base 1 "character" (ad 0) d_character ["code"] (SpD ⟨K, w, ad⟩ m_character)) : FnOk P w K mg base (L2.CX P w) 2 f fd ["byte"] (SpD ⟨K, w, ad⟩ m_print_byte) := by
  obtain ⟨v_DIGITS, u_DIGITS, g_DIGITS, r_DIGITS, k_DIGITS⟩ := T.g_DIGITS
  refine ok_defV (l := 1) (n := 1) (k := 1) (b := b_print_byte) F sc_print_byte rfl rfl (fun cdv A outer s H E hr => ⟨_, (pss_cons (ps_set (i := 1) sc_print_byte.nd rfl (Or.inl rfl) (clS O_character (hr.mono (by decide)) rfl (fun σ => passAt (takes_of rfl rfl rfl rfl) σ) (pa_cons (pv 0) pa_nil))) (pss_cons (ps_if (PW.pt (pw_or (pt_cmpR op_isN (pv 1) pe_non (nomark _)) (pw_or1 (pt_cmpR (r := rInX K w false) or_in (pv 1) (pe_tup (pa_cons pe_str (pa_cons pe_str pa_nil))) (by rfl))))) (pss_cons (ps_ret (pe_op (r := Dm.rAdd K) or_add (pe_op (r := Dm.rAdd K) or_add pe_str (pe_ix (r := rIxX K w) ix_all (pe_glob rfl g_DIGITS r_DIGITS) (pe_op op_shr (pv 0) pe_int) (fun _ _ => rfl))) (pe_ix (r := rIxX K w) ix_all (pe_glob rfl g_DIGITS r_DIGITS) (pe_op op_and (pv 0) pe_int) (fun _ _ => rfl)))) pss_nil) pss_nil) (pss_cons (ps_ret (pv 1)) pss_nil))), fun xo => ?_⟩)
  exact (cs_seq (cs_a (ce_call (ca_cons ce_var ca_nil))) (cs_seq (cs_if (ct_or (ct_test (ce_B od_is ce_var (ce_c fun _ => .non))) (ct_test (ce_B od_in ce_var (ce_tup (ca_cons (ce_c fun _ => .str _) (ca_cons (ce_c fun _ => .str _) ca_nil)))))) (cs_seq (cs_ret (ce_B od_add (ce_B od_add (ce_c fun _ => .str _) (ce_B od_ix (ce_c k_DIGITS) (ce_B od_shr ce_var (ce_c fun _ => .int _)))) (ce_B od_ix (ce_c k_DIGITS) (ce_B od_and ce_var (ce_c fun _ => .int _))))) cs_nx) cs_nx) (cs_seq (cs_ret ce_var) cs_nx)))
theorem sc_print_string : FnScope ["data", "byte"] ["data"] (defScope s_print_string) := ⟨rfl, rfl, rfl, by decide +kernel, rfl, by decide +kernel, by decide +kernel⟩
theorem ok_print_string {f : Addr} {fd : FuncData} {d_print_byte : FuncData} (F : Fun K "print_string" "print_string" s_print_string f fd) (T : Tx w K mg ad) (O_print_byte : DfX P w K mg base 2 "print_byte" (ad 13) d_print_byte ["byte"] (SpD ⟨K, w, ad⟩ m_print_byte)) : FnOk P w K mg base (L2.CX P w) 3 f fd ["data"] (SpD ⟨K, w, ad⟩ m_print_string) := by
  refine ok_defV (l := 2) (n := 1) (k := 1) (b := b_print_string) F sc_print_string rfl rfl (fun cdv A outer s H E hr => ⟨_, (pss_cons (ps_ret (pe_op (r := Dm.rAdd K) or_add (pe_op (r := Dm.rAdd K) or_add pe_str (pe_bm (r := rJoin K) PySem.F.plainAttrs_str PySem.F.slot_str_join PySem.F.type_str_join mt_join pe_str (pa_cons (pe_lc (own := [("byte", 1)]) (tt := tYes) rfl sc_print_string.nd (pi_lt (pv 0)) (blkOk_by (N := ["data", "byte"]) (sc := defScope s_print_string) (by decide +kernel)) (fun _ _ _ _ _ => (pg_name (i := 1) sc_print_string.nd rfl (Or.inl rfl))) (fun _ _ _ _ _ => pts_nil) (fun _ _ _ _ _ => (clS O_print_byte (hr.mono (by decide)) rfl (fun σ => passAt takes0 σ) (pa_cons (pv 1) pa_nil)))) pa_nil))) pe_str)) pss_nil), fun xo => ?_⟩)
  exact (cs_seq (cs_ret (ce_B od_add (ce_B od_add (ce_c fun _ => .str _) (ce_M (t := .str) md_join (Or.inl rfl) (ce_c fun _ => .str _) (ca_cons (ce_L (cn_lc (ci_lt ce_var) cg_name (by decide) ct_yes (ce_call (ca_cons ce_var ca_nil)))) ca_nil))) (ce_c fun _ => .str _))) cs_nx)
theorem sc_l_char : FnScope ["_law_number", "_law_chars"] ["_law_number"] (defScope s_l_char) := ⟨rfl, rfl, rfl, by decide +kernel, rfl, by decide +kernel, by decide +kernel⟩
theorem ok_l_char {f : Addr} {fd : FuncData} (F : Fun K "_law_char" "_law_char" s_l_char f fd) (T : Tx w K mg ad) : FnOk P w K mg base (L2.CX P w) 1 f fd ["_law_number"] (SpD ⟨K, w, ad⟩ m_l_char) := by
  refine ok_defV (l := 0) (n := 1) (k := 1) (b := b_l_char) F sc_l_char rfl rfl (fun cdv A outer s H E hr => ⟨_, (pss_cons (ps_set (i := 1) sc_l_char.nd rfl (Or.inl rfl) pe_str) (pss_cons (ps_set (i := 1) sc_l_char.nd rfl (Or.inl rfl) (pe_op (r := Dm.rAdd K) or_add (pv 1) pe_str)) (pss_cons (ps_ret (pe_ix (r := rIxX K w) ix_all (pv 1) (pv 0) (fun _ _ => rfl))) pss_nil))), fun xo => ?_⟩)
  exact (cs_seq (cs_a (ce_c fun _ => .str _)) (cs_seq (cs_a (ce_B od_add ce_var (ce_c fun _ => .str _))) (cs_seq (cs_ret (ce_B od_ix ce_var ce_var)) cs_nx)))
theorem sc_l_alike : FnScope ["_law_actual", "_law_due_here", "_law_k"] ["_law_actual", "_law_due_here"] (defScope s_l_alike) := ⟨rfl, rfl, rfl, by decide +kernel, rfl, by decide +kernel, by decide +kernel⟩
theorem ok_l_alike {fd : FuncData} (F : Fun K "_law_alike" "_law_alike" s_l_alike (ad 16) fd) (T : Tx w K mg ad) (g : mg "_law_alike" = some (.ref (ad 16))) (kp : PySem.W.keepIn K (.ref (ad 16)) = true) (bd : Binds K fd ["_law_actual", "_law_due_here"] []) : ∀ q, FnOk P w K mg base (L2.CX P w) (1 + q) (ad 16) fd ["_law_actual", "_law_due_here"] (SpD ⟨K, w, ad⟩ (m_l_alike q))
  | 0 => ok_bad F sc_l_alike
  | q + 1 => by
    have O_l_alike : DfX P w K mg base (1 + q) "_law_alike" (ad 16) fd ["_law_actual", "_law_due_here"] (SpD ⟨K, w, ad⟩ (m_l_alike q)) := ⟨ok_l_alike F T g kp bd q, g, kp, bd⟩
    refine ok_defV (l := 1 + q) (n := 2) (k := 1) (b := b_l_alike (m_l_alike q)) F sc_l_alike rfl rfl (fun cdv A outer s H E hr => ⟨_, (pss_cons (ps_if (pt_cmpR op_isN (pv 1) pe_non (nomark _)) (pss_cons (ps_ret (pe_cmpR op_isN (pv 0) pe_non (nomark _))) pss_nil) pss_nil) (pss_cons (ps_if (pt_val (pe_callB (r := rIsi K) call_isi (by rfl) T.b_isinstance (by decide +kernel) (pa_cons (pv 1) (pa_cons (pe_bltn (v := .ty "tuple") (by rfl) T.b_tuple (by decide +kernel) rfl) pa_nil)))) (pss_cons (ps_if (PW.pt (pw_or (pt_not (pt_val (pe_callB (r := rIsi K) call_isi (by rfl) T.b_isinstance (by decide +kernel) (pa_cons (pv 0) (pa_cons (pe_bltn (v := .ty "tuple") (by rfl) T.b_tuple (by decide +kernel) rfl) pa_nil))))) (pw_or1 (pt_cmpR (r := rNeX K) (or_ne hr.units) (pe_callB (r := rLenX K) cr_len (by rfl) T.b_len (by decide +kernel) (pa_cons (pv 0) pa_nil)) (pe_callB (r := rLenX K) cr_len (by rfl) T.b_len (by decide +kernel) (pa_cons (pv 1) pa_nil)) (nomark _))))) (pss_cons (ps_ret pe_bl) pss_nil) pss_nil) (pss_cons (ps_for (passes_of rfl) rfl (pi_range1 (by rfl) T.b_range (pa_cons (pe_callB (r := rLenX K) cr_len (by rfl) T.b_len (by decide +kernel) (pa_cons (pv 1) pa_nil)) pa_nil)) (pg_name (i := 2) sc_l_alike.nd rfl (Or.inl rfl)) (pss_cons (ps_if (pt_not (pt_val (clS O_l_alike (hr.mono (by omega)) rfl (fun σ => passAt (takes_of rfl rfl rfl rfl) σ) (pa_cons (pe_ix (r := rIxX K w) ix_all (pv 0) (pv 2) (fun _ _ => rfl)) (pa_cons (pe_ix (r := rIxX K w) ix_all (pv 1) (pv 2) (fun _ _ => rfl)) pa_nil))))) (pss_cons (ps_ret pe_bl) pss_nil) pss_nil) pss_nil)) (pss_cons (ps_ret pe_bl) pss_nil))) pss_nil) (pss_cons (ps_if (pt_val (pe_callB (r := rIsi K) call_isi (by rfl) T.b_isinstance (by decide +kernel) (pa_cons (pv 1) (pa_cons (pe_bltn (v := .ty "str") (by rfl) T.b_str (by decide +kernel) rfl) pa_nil)))) (pss_cons (ps_ret (pe_and (pe_callB (r := rIsi K) call_isi (by rfl) T.b_isinstance (by decide +kernel) (pa_cons (pv 0) (pa_cons (pe_bltn (v := .ty "str") (by rfl) T.b_str (by decide +kernel) rfl) pa_nil))) (pe_one (pe_cmpR (r := rEqX K) (or_eq hr.units) (pv 0) (pv 1) (nomark _))))) pss_nil) pss_nil) (pss_cons (ps_if (pt_cmpR (r := rNeX K) (or_ne hr.units) (pe_callB (r := rIsi K) call_isi (by rfl) T.b_isinstance (by decide +kernel) (pa_cons (pv 0) (pa_cons (pe_bltn (v := .ty "bool") (by rfl) T.b_bool (by decide +kernel) rfl) pa_nil))) (pe_callB (r := rIsi K) call_isi (by rfl) T.b_isinstance (by decide +kernel) (pa_cons (pv 1) (pa_cons (pe_bltn (v := .ty "bool") (by rfl) T.b_bool (by decide +kernel) rfl) pa_nil))) (nomark _)) (pss_cons (ps_ret pe_bl) pss_nil) pss_nil) (pss_cons (ps_ret (pe_and (pe_callB (r := rIsi K) call_isi (by rfl) T.b_isinstance (by decide +kernel) (pa_cons (pv 0) (pa_cons (pe_bltn (v := .ty "int") (by rfl) T.b_int (by decide +kernel) rfl) pa_nil))) (pe_one (pe_cmpR (r := rEqX K) (or_eq hr.units) (pv 0) (pv 1) (nomark _))))) pss_nil))))), fun xo => ?_⟩)
    exact (cs_seq (cs_if (ct_test (ce_B od_is ce_var (ce_c fun _ => .non))) (cs_seq (cs_ret (ce_B od_is ce_var (ce_c fun _ => .non))) cs_nx) cs_nx) (cs_seq (cs_if (ct_B (ce_isi .tuple ce_var)) (cs_seq (cs_if (ct_or (ct_not (ct_B (ce_isi .tuple ce_var))) (ct_test (ce_B od_ne (ce_F cd_len (ca_cons ce_var ca_nil)) (ce_F cd_len (ca_cons ce_var ca_nil))))) (cs_seq (cs_ret (ce_c fun _ => .bl _)) cs_nx) cs_nx) (cs_seq (cs_for (ci_r1 (ca_cons (ce_F cd_len (ca_cons ce_var ca_nil)) ca_nil)) cg_name (cs_seq (cs_if (ct_not (ct_B (ce_call (ca_cons (ce_B od_ix ce_var ce_var) (ca_cons (ce_B od_ix ce_var ce_var) ca_nil))))) (cs_seq (cs_ret (ce_c fun _ => .bl _)) cs_nx) cs_nx) cs_nx)) (cs_seq (cs_ret (ce_c fun _ => .bl _)) cs_nx))) cs_nx) (cs_seq (cs_if (ct_B (ce_isi .str ce_var)) (cs_seq (cs_ret (ce_and (ce_isi .str ce_var) (ce_B od_eq ce_var ce_var))) cs_nx) cs_nx) (cs_seq (cs_if (ct_test (ce_B od_ne (ce_isi .bool ce_var) (ce_isi .bool ce_var))) (cs_seq (cs_ret (ce_c fun _ => .bl _)) cs_nx) cs_nx) (cs_seq (cs_ret (ce_and (ce_isi .int ce_var) (ce_B od_eq ce_var ce_var))) cs_nx)))))
theorem sc_l_bytes : FnScope ["_law_script", "_law_first", "_law_cell", "_law_data", "_law_k"] ["_law_script"] (defScope s_l_bytes) := ⟨rfl, rfl, rfl, by decide +kernel, rfl, by decide +kernel, by decide +kernel⟩
theorem ok_l_bytes {f : Addr} {fd : FuncData} (F : Fun K "_law_bytes" "_law_bytes" s_l_bytes f fd) (T : Tx w K mg ad) : FnOk P w K mg base (L2.CX P w) 1 f fd ["_law_script"] (SpD ⟨K, w, ad⟩ m_l_bytes) := by
  refine ok_defV (l := 0) (n := 1) (k := 4) (b := b_l_bytes) F sc_l_bytes rfl rfl (fun cdv A outer s H E hr => ⟨_, (pss_cons (ps_set (i := 1) sc_l_bytes.nd rfl (Or.inl rfl) pe_int) (pss_cons (ps_if (pt_cmpR or_gt (pe_callB (r := rLenX K) cr_len (by rfl) T.b_len (by decide +kernel) (pa_cons (pv 0) pa_nil)) pe_int (nomark _)) (pss_cons (ps_set (i := 1) sc_l_bytes.nd rfl (Or.inl rfl) (pe_callTy (r := rInt1) call_int1 (by rfl) T.b_int (by decide +kernel) (pa_cons (pe_ix (r := rIxX K w) ix_all (pv 0) pe_int (fun _ _ => rfl)) pa_nil))) pss_nil) pss_nil) (pss_cons (ps_if (pt_cmpR or_lt (pv 1) (pe_op op_pow pe_int pe_int) (nomark _)) (pss_cons (ps_ret (pe_lc (own := [("_law_cell", 2)]) (tt := tYes) rfl sc_l_bytes.nd (pi_list (pe_slice (r := rSlX2 K) sl_all (pv 0) po_none (po_some pe_int))) (blkOk_by (N := ["_law_script", "_law_first", "_law_cell", "_law_data", "_law_k"]) (sc := defScope s_l_bytes) (by decide +kernel)) (fun _ _ _ _ _ => (pg_name (i := 2) sc_l_bytes.nd rfl (Or.inl rfl))) (fun _ _ _ _ _ => pts_nil) (fun _ _ _ _ _ => (pe_op op_mod (pe_callTy (r := rInt1) call_int1 (by rfl) T.b_int (by decide +kernel) (pa_cons (pv 2) pa_nil)) pe_int)))) pss_nil) pss_nil) (pss_cons (ps_set (i := 3) sc_l_bytes.nd rfl (Or.inl rfl) (pe_lst pa_nil)) (pss_cons (ps_for (passes_of rfl) rfl (pi_range1 (by rfl) T.b_range (pa_cons pe_int pa_nil)) (pg_name (i := 4) sc_l_bytes.nd rfl (Or.inl rfl)) (pss_cons (ps_if (pt_cmpR or_gt (pv 1) pe_int (nomark _)) (pss_cons (ps_expr (pe_bm PySem.F.plainAttrs_list PySem.F.slot_list_append PySem.F.type_list_append mt_append (pv 3) (pa_cons (pe_op op_mod (pe_callTy (r := rInt1) call_int1 (by rfl) T.b_int (by decide +kernel) (pa_cons (pv 1) pa_nil)) pe_int) pa_nil))) (pss_cons (ps_set (i := 1) sc_l_bytes.nd rfl (Or.inl rfl) (pe_op op_fdivW (pv 1) pe_int)) pss_nil)) pss_nil) pss_nil)) (pss_cons (ps_ret (pv 3)) pss_nil)))))), fun xo => ?_⟩)
  exact (cs_seq (cs_a (ce_c fun _ => .int _)) (cs_seq (cs_if (ct_test (ce_B od_gt (ce_F cd_len (ca_cons ce_var ca_nil)) (ce_c fun _ => .int _))) (cs_seq (cs_a (ce_F cd_int (ca_cons (ce_B od_ix ce_var (ce_c fun _ => .int _)) ca_nil))) cs_nx) cs_nx) (cs_seq (cs_if (ct_test (ce_B od_lt ce_var (ce_B od_pow (ce_c fun _ => .int _) (ce_c fun _ => .int _)))) (cs_seq (cs_ret (ce_L (cn_lc (ci_list (ce_sl ce_var co_none (co_some (ce_c fun _ => .int _)))) cg_name (by decide) ct_yes (ce_B od_mod (ce_F cd_int (ca_cons ce_var ca_nil)) (ce_c fun _ => .int _))))) cs_nx) cs_nx) (cs_seq (cs_o (cn_lst ca_nil)) (cs_seq (cs_for (ci_r1 (ca_cons (ce_c fun _ => .int _) ca_nil)) cg_name (cs_seq (cs_if (ct_test (ce_B od_gt ce_var (ce_c fun _ => .int _))) (cs_seq (cs_app rfl (ce_B od_mod (ce_F cd_int (ca_cons ce_var ca_nil)) (ce_c fun _ => .int _))) (cs_seq (cs_a (ce_B od_div ce_var (ce_c fun _ => .int _))) cs_nx)) cs_nx) cs_nx)) (cs_seq (cs_frz 3 (cs_ret ce_var)) cs_nx))))))
theorem sc_l_due : FnScope ["_law_data", "_law_text", "_law_byte"] ["_law_data"] (defScope s_l_due) := ⟨rfl, rfl, rfl, by decide +kernel, rfl, by decide +kernel, by decide +kernel⟩
theorem ok_l_due {f : Addr} {fd : FuncData} {d_l_char : FuncData} (F : Fun K "_law_due" "_law_due" s_l_due f fd) (T : Tx w K mg ad) (O_l_char : DfX P w K mg base 1 "_law_char" (ad 15) d_l_char ["_law_number"] (SpD ⟨K, w, ad⟩ m_l_char)) : FnOk P w K mg base (L2.CX P w) 2 f fd ["_law_data"] (SpD ⟨K, w, ad⟩ m_l_due) := by
  refine ok_defV (l := 1) (n := 1) (k := 2) (b := b_l_due) F sc_l_due rfl rfl (fun cdv A outer s H E hr => ⟨_, (pss_cons (ps_set (i := 1) sc_l_due.nd rfl (Or.inl rfl) pe_str) (pss_cons (ps_for (passes_of rfl) rfl (pi_list (pv 0)) (pg_name (i := 2) sc_l_due.nd rfl (Or.inl rfl)) (pss_cons (ps_if (PW.pt (pw_or (pt_cmpR or_lt (pv 2) pe_int (nomark _)) (pw_or (pt_cmpR or_gt (pv 2) pe_int (nomark _)) (pw_or1 (pt_cmpR (r := rInX K w false) or_in (pv 2) (pe_lst (pa_cons pe_int (pa_cons pe_int (pa_cons pe_int pa_nil)))) (by rfl)))))) (pss_cons (ps_set (i := 1) sc_l_due.nd rfl (Or.inl rfl) (pe_op (r := Dm.rAdd K) or_add (pe_op (r := Dm.rAdd K) or_add (pe_op (r := Dm.rAdd K) or_add (pv 1) pe_str) (pe_ix (r := rIxX K w) ix_all pe_str (pe_op op_fdivW (pv 2) pe_int) (fun _ _ => rfl))) (pe_ix (r := rIxX K w) ix_all pe_str (pe_op op_mod (pe_callTy (r := rInt1) call_int1 (by rfl) T.b_int (by decide +kernel) (pa_cons (pv 2) pa_nil)) pe_int) (fun _ _ => rfl)))) pss_nil) (pss_cons (ps_set (i := 1) sc_l_due.nd rfl (Or.inl rfl) (pe_op (r := Dm.rAdd K) or_add (pv 1) (clS O_l_char (hr.mono (by decide)) rfl (fun σ => passAt (takes_of rfl rfl rfl rfl) σ) (pa_cons (pe_op op_sub (pe_op op_sub (pv 2) pe_int) (pe_callTy (r := rInt1) call_int1 (by rfl) T.b_int (by decide +kernel) (pa_cons (pe_cmpR or_gt (pv 2) pe_int (nomark _)) pa_nil))) pa_nil)))) pss_nil)) pss_nil)) (pss_cons (ps_ret (pe_op (r := Dm.rAdd K) or_add (pv 1) pe_str)) pss_nil))), fun xo => ?_⟩)
  exact (cs_seq (cs_a (ce_c fun _ => .str _)) (cs_seq (cs_for (ci_list ce_var) cg_name (cs_seq (cs_if (ct_or (ct_test (ce_B od_lt ce_var (ce_c fun _ => .int _))) (ct_or (ct_test (ce_B od_gt ce_var (ce_c fun _ => .int _))) (ct_test (ce_B od_in ce_var (ce_L (cn_lst (ca_cons (ce_c fun _ => .int _) (ca_cons (ce_c fun _ => .int _) (ca_cons (ce_c fun _ => .int _) ca_nil))))))))) (cs_seq (cs_a (ce_B od_add (ce_B od_add (ce_B od_add ce_var (ce_c fun _ => .str _)) (ce_B od_ix (ce_c fun _ => .str _) (ce_B od_div ce_var (ce_c fun _ => .int _)))) (ce_B od_ix (ce_c fun _ => .str _) (ce_B od_mod (ce_F cd_int (ca_cons ce_var ca_nil)) (ce_c fun _ => .int _))))) cs_nx) (cs_seq (cs_a (ce_B od_add ce_var (ce_call (ca_cons (ce_B od_sub (ce_B od_sub ce_var (ce_c fun _ => .int _)) (ce_F cd_int (ca_cons (ce_B od_gt ce_var (ce_c fun _ => .int _)) ca_nil))) ca_nil)))) cs_nx)) cs_nx)) (cs_seq (cs_ret (ce_B od_add ce_var (ce_c fun _ => .str _))) cs_nx)))
theorem sc_law : FnScope ["_law_script", "_law_data", "_law_due_here", "_law_passed", "_law_told", "_law_again", "_law_tokens", "_law_end"] ["_law_script"] (defScope s_law) := ⟨rfl, rfl, rfl, by decide +kernel, rfl, by decide +kernel, by decide +kernel⟩
theorem ok_law {f : Addr} {fd : FuncData} {d_tokens_of : FuncData} {d_print_string : FuncData} {d_l_alike : FuncData} {d_l_bytes : FuncData} {d_l_due : FuncData} (F : Fun K "law" "law" s_law f fd) (T : Tx w K mg ad) (O_tokens_of : DfX P w K mg base 8 "tokens_of" (ad 12) d_tokens_of ["text"] (SpD ⟨K, w, ad⟩ m_tokens_of)) (O_print_string : DfX P w K mg base 3 "print_string" (ad 14) d_print_string ["data"] (SpD ⟨K, w, ad⟩ m_print_string)) (O_l_alike : DfX P w K mg base 9 "_law_alike" (ad 16) d_l_alike ["_law_actual", "_law_due_here"] (SpD ⟨K, w, ad⟩ (m_l_alike 8))) (O_l_bytes : DfX P w K mg base 1 "_law_bytes" (ad 17) d_l_bytes ["_law_script"] (SpD ⟨K, w, ad⟩ m_l_bytes)) (O_l_due : DfX P w K mg base 2 "_law_due" (ad 18) d_l_due ["_law_data"] (SpD ⟨K, w, ad⟩ m_l_due)) : FnOk P w K mg base CX0 10 f fd ["_law_script"] (Dm.sp_law K) := by
  refine Dm.ok_law (l := 9) (k := 7) (b := b_law) (ad := ad) F sc_law rfl rfl law_true (fun cdv A outer s H E hr => ⟨_, (pss_cons (ps_set (i := 1) sc_law.nd rfl (Or.inl rfl) (clS O_l_bytes (hr.mono (by decide)) rfl (fun σ => passAt takes0 σ) (pa_cons (pv 0) pa_nil))) (pss_cons (ps_set (i := 2) sc_law.nd rfl (Or.inl rfl) (clS O_l_due (hr.mono (by decide)) rfl (fun σ => passAt takes0 σ) (pa_cons (pv 1) pa_nil))) (pss_cons (ps_set (i := 3) sc_law.nd rfl (Or.inl rfl) (pe_callTy (r := rListS K) call_list_of (by rfl) T.b_list (by decide +kernel) (pa_cons (pv 1) pa_nil))) (pss_cons (ps_set (i := 4) sc_law.nd rfl (Or.inl rfl) (clS O_print_string (hr.mono (by decide)) rfl (fun σ => passAt takes0 σ) (pa_cons (pv 3) pa_nil))) (pss_cons (ps_set (i := 5) sc_law.nd rfl (Or.inl rfl) (clS O_print_string (hr.mono (by decide)) rfl (fun σ => passAt takes0 σ) (pa_cons (pe_callTy (r := rTupS K) call_tuple_of (by rfl) T.b_tuple (by decide +kernel) (pa_cons (pv 1) pa_nil)) pa_nil))) (pss_cons (ps_if (PW.pt (pw_or (pt_not (pt_val (pe_callB (r := rIsi K) call_isi (by rfl) T.b_isinstance (by decide +kernel) (pa_cons (pv 4) (pa_cons (pe_bltn (v := .ty "str") (by rfl) T.b_str (by decide +kernel) rfl) pa_nil))))) (pw_or (pt_not (pt_val (pe_callB (r := rIsi K) call_isi (by rfl) T.b_isinstance (by decide +kernel) (pa_cons (pv 5) (pa_cons (pe_bltn (v := .ty "str") (by rfl) T.b_str (by decide +kernel) rfl) pa_nil))))) (pw_or (pt_cmpR (r := rNeX K) (or_ne hr.units) (pv 4) (pv 2) (nomark _)) (pw_or (pt_cmpR (r := rNeX K) (or_ne hr.units) (pv 5) (pv 2) (nomark _)) (pw_or1 (pt_cmpR (r := rNeX K) (or_ne hr.units) (pv 3) (pv 1) (nomark _)))))))) (pss_cons (ps_ret pe_bl) pss_nil) pss_nil) (pss_cons (ps_set (i := 6) sc_law.nd rfl (Or.inl rfl) (clS O_tokens_of (hr.mono (by decide)) rfl (fun σ => passAt takes0 σ) (pa_cons (pv 4) pa_nil))) (pss_cons (ps_set (i := 7) sc_law.nd rfl (Or.inl rfl) (pe_tup (pa_cons pe_str (pa_cons pe_str (pa_cons pe_int (pa_cons (pe_op (r := Dm.rAdd K) or_add (pe_callB (r := rLenX K) cr_len (by rfl) T.b_len (by decide +kernel) (pa_cons (pv 2) pa_nil)) pe_int) pa_nil)))))) (pss_cons (ps_ret (pe_and (pe_callB (r := rIsi K) call_isi (by rfl) T.b_isinstance (by decide +kernel) (pa_cons (pv 6) (pa_cons (pe_bltn (v := .ty "list") (by rfl) T.b_list (by decide +kernel) rfl) pa_nil))) (pe_one (clS O_l_alike (hr.mono (by decide)) rfl (fun σ => passAt takes0 σ) (pa_cons (pe_callTy (r := rTupS K) call_tuple_of (by rfl) T.b_tuple (by decide +kernel) (pa_cons (pv 6) pa_nil)) (pa_cons (pe_tup (pa_cons (pe_tup (pa_cons pe_str (pa_cons (pe_callTy (r := rTupS K) call_tuple_of (by rfl) T.b_tuple (by decide +kernel) (pa_cons (pv 1) pa_nil)) (pa_cons pe_int (pa_cons pe_int pa_nil))))) (pa_cons (pv 7) pa_nil))) pa_nil)))))) pss_nil))))))))), fun xo => ?_⟩)
  exact (cs_seq (cs_a (ce_call (ca_cons ce_var ca_nil))) (cs_seq (cs_a (ce_call (ca_cons ce_var ca_nil))) (cs_seq (cs_a (ce_L (cn_list (ca_cons ce_var ca_nil)))) (cs_seq (cs_a (ce_call (ca_cons ce_var ca_nil))) (cs_seq (cs_a (ce_call (ca_cons (ce_F cd_tuple (ca_cons ce_var ca_nil)) ca_nil))) (cs_seq (cs_if (ct_or (ct_not (ct_B (ce_isi .str ce_var))) (ct_or (ct_not (ct_B (ce_isi .str ce_var))) (ct_or (ct_test (ce_B od_ne ce_var ce_var)) (ct_or (ct_test (ce_B od_ne ce_var ce_var)) (ct_test (ce_B od_ne ce_var ce_var)))))) (cs_seq (cs_ret (ce_c fun _ => .bl _)) cs_nx) cs_nx) (cs_seq (cs_a (ce_call (ca_cons ce_var ca_nil))) (cs_seq (cs_a (ce_tup (ca_cons (ce_c fun _ => .str _) (ca_cons (ce_c fun _ => .str _) (ca_cons (ce_c fun _ => .int _) (ca_cons (ce_B od_add (ce_F cd_len (ca_cons ce_var ca_nil)) (ce_c fun _ => .int _)) ca_nil)))))) (cs_seq (cs_ret (ce_and (ce_isi .list ce_var) (ce_call (ca_cons (ce_F cd_tuple (ca_cons ce_var ca_nil)) (ca_cons (ce_tup (ca_cons (ce_tup (ca_cons (ce_c fun _ => .str _) (ca_cons (ce_F cd_tuple (ca_cons ce_var ca_nil)) (ca_cons (ce_c fun _ => .int _) (ca_cons (ce_c fun _ => .int _) ca_nil))))) (ca_cons ce_var ca_nil))) ca_nil))))) cs_nx)))))))))
end
theorem all_mk {l : PySem.W.OpenLaw} {w : World} {K : PySem.W.Frag} {h : Heap} {mg : Str → Option Value} {fa : Addr} {f_character f_position f_fail f_digit_of f_after_block_comment f_after_line f_after_blanks f_string_character f_read_string_byte f_read_string f_after_word f_read_token f_tokens_of f_print_byte f_print_string f_l_char f_l_alike f_l_bytes f_l_due f_law c_HostError c_ParseError fi_ParseError : Addr} (X : K.In h) (G : h.Ns mainGlobals mg) (hfa : mg "law" = some (.ref fa))
    {od_character an_character od_position an_position od_fail an_fail od_digit_of an_digit_of od_after_block_comment an_after_block_comment od_after_line an_after_line od_after_blanks an_after_blanks od_string_character an_string_character od_read_string_byte an_read_string_byte od_read_string an_read_string od_after_word an_after_word od_read_token an_read_token od_tokens_of an_tokens_of od_print_byte an_print_byte od_print_string an_print_string od_l_char an_l_char od_l_alike an_l_alike od_l_bytes an_l_bytes od_l_due an_l_due od_law an_law od_init_ParseError an_init_ParseError : Option Addr} {sl_character sl_position sl_fail sl_digit_of sl_after_block_comment sl_after_line sl_after_blanks sl_string_character sl_read_string_byte sl_read_string sl_after_word sl_read_token sl_tokens_of sl_print_byte sl_print_string sl_l_char sl_l_alike sl_l_bytes sl_l_due sl_law sl_init_ParseError : Array (Option Value)}
    {oc_character kV_character dc_character pm_character cd_character ct_character oc_position kV_position dc_position pm_position cd_position ct_position oc_fail kV_fail dc_fail pm_fail cd_fail ct_fail oc_digit_of kV_digit_of dc_digit_of pm_digit_of cd_digit_of ct_digit_of oc_after_block_comment kV_after_block_comment dc_after_block_comment pm_after_block_comment cd_after_block_comment ct_after_block_comment oc_after_line kV_after_line dc_after_line pm_after_line cd_after_line ct_after_line oc_after_blanks kV_after_blanks dc_after_blanks pm_after_blanks cd_after_blanks ct_after_blanks oc_string_character kV_string_character dc_string_character pm_string_character cd_string_character ct_string_character oc_read_string_byte kV_read_string_byte dc_read_string_byte pm_read_string_byte cd_read_string_byte ct_read_string_byte oc_read_string kV_read_string dc_read_string pm_read_string cd_read_string ct_read_string oc_after_word kV_after_word dc_after_word pm_after_word cd_after_word ct_after_word oc_read_token kV_read_token dc_read_token pm_read_token cd_read_token ct_read_token oc_tokens_of kV_tokens_of dc_tokens_of pm_tokens_of cd_tokens_of ct_tokens_of oc_print_byte kV_print_byte dc_print_byte pm_print_byte cd_print_byte ct_print_byte oc_print_string kV_print_string dc_print_string pm_print_string cd_print_string ct_print_string oc_l_char kV_l_char dc_l_char pm_l_char cd_l_char ct_l_char oc_l_alike kV_l_alike dc_l_alike pm_l_alike cd_l_alike ct_l_alike oc_l_bytes kV_l_bytes dc_l_bytes pm_l_bytes cd_l_bytes ct_l_bytes oc_l_due kV_l_due dc_l_due pm_l_due cd_l_due ct_l_due oc_law kV_law dc_law pm_law cd_law ct_law oc_init_ParseError kV_init_ParseError dc_init_ParseError pm_init_ParseError cd_init_ParseError ct_init_ParseError : Value}
    (a_character : PySem.W.nsIn K mainGlobals "character" = some (some (.ref f_character)))
    (l_character : K.lookup f_character = some ⟨oc_character, od_character, .func (PySem.W.fnOf "character" "character" (defArgs s_character) (defBody s_character) (defScope s_character) .none kV_character dc_character pm_character an_character cd_character ct_character), sl_character⟩)
    (c_character : PySem.W.codeIn K cd_character "character" = true)
    (k_character : PySem.W.keepIn K (.ref f_character) = true)
    (a_position : PySem.W.nsIn K mainGlobals "position" = some (some (.ref f_position)))
    (l_position : K.lookup f_position = some ⟨oc_position, od_position, .func (PySem.W.fnOf "position" "position" (defArgs s_position) (defBody s_position) (defScope s_position) .none kV_position dc_position pm_position an_position cd_position ct_position), sl_position⟩)
    (c_position : PySem.W.codeIn K cd_position "position" = true)
    (k_position : PySem.W.keepIn K (.ref f_position) = true)
    (a_fail : PySem.W.nsIn K mainGlobals "fail" = some (some (.ref f_fail)))
    (l_fail : K.lookup f_fail = some ⟨oc_fail, od_fail, .func (PySem.W.fnOf "fail" "fail" (defArgs s_fail) (defBody s_fail) (defScope s_fail) .none kV_fail dc_fail pm_fail an_fail cd_fail ct_fail), sl_fail⟩)
    (c_fail : PySem.W.codeIn K cd_fail "fail" = true)
    (k_fail : PySem.W.keepIn K (.ref f_fail) = true)
    (a_digit_of : PySem.W.nsIn K mainGlobals "digit_of" = some (some (.ref f_digit_of)))
    (l_digit_of : K.lookup f_digit_of = some ⟨oc_digit_of, od_digit_of, .func (PySem.W.fnOf "digit_of" "digit_of" (defArgs s_digit_of) (defBody s_digit_of) (defScope s_digit_of) .none kV_digit_of dc_digit_of pm_digit_of an_digit_of cd_digit_of ct_digit_of), sl_digit_of⟩)
    (c_digit_of : PySem.W.codeIn K cd_digit_of "digit_of" = true)
    (k_digit_of : PySem.W.keepIn K (.ref f_digit_of) = true)
    (a_after_block_comment : PySem.W.nsIn K mainGlobals "after_block_comment" = some (some (.ref f_after_block_comment)))
    (l_after_block_comment : K.lookup f_after_block_comment = some ⟨oc_after_block_comment, od_after_block_comment, .func (PySem.W.fnOf "after_block_comment" "after_block_comment" (defArgs s_after_block_comment) (defBody s_after_block_comment) (defScope s_after_block_comment) .none kV_after_block_comment dc_after_block_comment pm_after_block_comment an_after_block_comment cd_after_block_comment ct_after_block_comment), sl_after_block_comment⟩)
    (c_after_block_comment : PySem.W.codeIn K cd_after_block_comment "after_block_comment" = true)
    (k_after_block_comment : PySem.W.keepIn K (.ref f_after_block_comment) = true)
    (a_after_line : PySem.W.nsIn K mainGlobals "after_line" = some (some (.ref f_after_line)))
    (l_after_line : K.lookup f_after_line = some ⟨oc_after_line, od_after_line, .func (PySem.W.fnOf "after_line" "after_line" (defArgs s_after_line) (defBody s_after_line) (defScope s_after_line) .none kV_after_line dc_after_line pm_after_line an_after_line cd_after_line ct_after_line), sl_after_line⟩)
    (c_after_line : PySem.W.codeIn K cd_after_line "after_line" = true)
    (k_after_line : PySem.W.keepIn K (.ref f_after_line) = true)
    (a_after_blanks : PySem.W.nsIn K mainGlobals "after_blanks" = some (some (.ref f_after_blanks)))
    (l_after_blanks : K.lookup f_after_blanks = some ⟨oc_after_blanks, od_after_blanks, .func (PySem.W.fnOf "after_blanks" "after_blanks" (defArgs s_after_blanks) (defBody s_after_blanks) (defScope s_after_blanks) .none kV_after_blanks dc_after_blanks pm_after_blanks an_after_blanks cd_after_blanks ct_after_blanks), sl_after_blanks⟩)
    (c_after_blanks : PySem.W.codeIn K cd_after_blanks "after_blanks" = true)
    (k_after_blanks : PySem.W.keepIn K (.ref f_after_blanks) = true)
    (a_string_character : PySem.W.nsIn K mainGlobals "string_character" = some (some (.ref f_string_character)))
    (l_string_character : K.lookup f_string_character = some ⟨oc_string_character, od_string_character, .func (PySem.W.fnOf "string_character" "string_character" (defArgs s_string_character) (defBody s_string_character) (defScope s_string_character) .none kV_string_character dc_string_character pm_string_character an_string_character cd_string_character ct_string_character), sl_string_character⟩)
    (c_string_character : PySem.W.codeIn K cd_string_character "string_character" = true)
    (k_string_character : PySem.W.keepIn K (.ref f_string_character) = true)
    (a_read_string_byte : PySem.W.nsIn K mainGlobals "read_string_byte" = some (some (.ref f_read_string_byte)))
    (l_read_string_byte : K.lookup f_read_string_byte = some ⟨oc_read_string_byte, od_read_string_byte, .func (PySem.W.fnOf "read_string_byte" "read_string_byte" (defArgs s_read_string_byte) (defBody s_read_string_byte) (defScope s_read_string_byte) .none kV_read_string_byte dc_read_string_byte pm_read_string_byte an_read_string_byte cd_read_string_byte ct_read_string_byte), sl_read_string_byte⟩)
    (c_read_string_byte : PySem.W.codeIn K cd_read_string_byte "read_string_byte" = true)
    (k_read_string_byte : PySem.W.keepIn K (.ref f_read_string_byte) = true)
    (a_read_string : PySem.W.nsIn K mainGlobals "read_string" = some (some (.ref f_read_string)))
    (l_read_string : K.lookup f_read_string = some ⟨oc_read_string, od_read_string, .func (PySem.W.fnOf "read_string" "read_string" (defArgs s_read_string) (defBody s_read_string) (defScope s_read_string) .none kV_read_string dc_read_string pm_read_string an_read_string cd_read_string ct_read_string), sl_read_string⟩)
    (c_read_string : PySem.W.codeIn K cd_read_string "read_string" = true)
    (k_read_string : PySem.W.keepIn K (.ref f_read_string) = true)
    (a_after_word : PySem.W.nsIn K mainGlobals "after_word" = some (some (.ref f_after_word)))
    (l_after_word : K.lookup f_after_word = some ⟨oc_after_word, od_after_word, .func (PySem.W.fnOf "after_word" "after_word" (defArgs s_after_word) (defBody s_after_word) (defScope s_after_word) .none kV_after_word dc_after_word pm_after_word an_after_word cd_after_word ct_after_word), sl_after_word⟩)
    (c_after_word : PySem.W.codeIn K cd_after_word "after_word" = true)
    (k_after_word : PySem.W.keepIn K (.ref f_after_word) = true)
    (a_read_token : PySem.W.nsIn K mainGlobals "read_token" = some (some (.ref f_read_token)))
    (l_read_token : K.lookup f_read_token = some ⟨oc_read_token, od_read_token, .func (PySem.W.fnOf "read_token" "read_token" (defArgs s_read_token) (defBody s_read_token) (defScope s_read_token) .none kV_read_token dc_read_token pm_read_token an_read_token cd_read_token ct_read_token), sl_read_token⟩)
    (c_read_token : PySem.W.codeIn K cd_read_token "read_token" = true)
    (k_read_token : PySem.W.keepIn K (.ref f_read_token) = true)
    (a_tokens_of : PySem.W.nsIn K mainGlobals "tokens_of" = some (some (.ref f_tokens_of)))
    (l_tokens_of : K.lookup f_tokens_of = some ⟨oc_tokens_of, od_tokens_of, .func (PySem.W.fnOf "tokens_of" "tokens_of" (defArgs s_tokens_of) (defBody s_tokens_of) (defScope s_tokens_of) .none kV_tokens_of dc_tokens_of pm_tokens_of an_tokens_of cd_tokens_of ct_tokens_of), sl_tokens_of⟩)
    (c_tokens_of : PySem.W.codeIn K cd_tokens_of "tokens_of" = true)
    (k_tokens_of : PySem.W.keepIn K (.ref f_tokens_of) = true)
    (a_print_byte : PySem.W.nsIn K mainGlobals "print_byte" = some (some (.ref f_print_byte)))
    (l_print_byte : K.lookup f_print_byte = some ⟨oc_print_byte, od_print_byte, .func (PySem.W.fnOf "print_byte" "print_byte" (defArgs s_print_byte) (defBody s_print_byte) (defScope s_print_byte) .none kV_print_byte dc_print_byte pm_print_byte an_print_byte cd_print_byte ct_print_byte), sl_print_byte⟩)
    (c_print_byte : PySem.W.codeIn K cd_print_byte "print_byte" = true)
    (k_print_byte : PySem.W.keepIn K (.ref f_print_byte) = true)
    (a_print_string : PySem.W.nsIn K mainGlobals "print_string" = some (some (.ref f_print_string)))
    (l_print_string : K.lookup f_print_string = some ⟨oc_print_string, od_print_string, .func (PySem.W.fnOf "print_string" "print_string" (defArgs s_print_string) (defBody s_print_string) (defScope s_print_string) .none kV_print_string dc_print_string pm_print_string an_print_string cd_print_string ct_print_string), sl_print_string⟩)
    (c_print_string : PySem.W.codeIn K cd_print_string "print_string" = true)
    (k_print_string : PySem.W.keepIn K (.ref f_print_string) = true)
    (a_l_char : PySem.W.nsIn K mainGlobals "_law_char" = some (some (.ref f_l_char)))
    (l_l_char : K.lookup f_l_char = some ⟨oc_l_char, od_l_char, .func (PySem.W.fnOf "_law_char" "_law_char" (defArgs s_l_char) (defBody s_l_char) (defScope s_l_char) .none kV_l_char dc_l_char pm_l_char an_l_char cd_l_char ct_l_char), sl_l_char⟩)
    (c_l_char : PySem.W.codeIn K cd_l_char "_law_char" = true)
    (k_l_char : PySem.W.keepIn K (.ref f_l_char) = true)
    (a_l_alike : PySem.W.nsIn K mainGlobals "_law_alike" = some (some (.ref f_l_alike)))
    (l_l_alike : K.lookup f_l_alike = some ⟨oc_l_alike, od_l_alike, .func (PySem.W.fnOf "_law_alike" "_law_alike" (defArgs s_l_alike) (defBody s_l_alike) (defScope s_l_alike) .none kV_l_alike dc_l_alike pm_l_alike an_l_alike cd_l_alike ct_l_alike), sl_l_alike⟩)
    (c_l_alike : PySem.W.codeIn K cd_l_alike "_law_alike" = true)
    (k_l_alike : PySem.W.keepIn K (.ref f_l_alike) = true)
    (a_l_bytes : PySem.W.nsIn K mainGlobals "_law_bytes" = some (some (.ref f_l_bytes)))
    (l_l_bytes : K.lookup f_l_bytes = some ⟨oc_l_bytes, od_l_bytes, .func (PySem.W.fnOf "_law_bytes" "_law_bytes" (defArgs s_l_bytes) (defBody s_l_bytes) (defScope s_l_bytes) .none kV_l_bytes dc_l_bytes pm_l_bytes an_l_bytes cd_l_bytes ct_l_bytes), sl_l_bytes⟩)
    (c_l_bytes : PySem.W.codeIn K cd_l_bytes "_law_bytes" = true)
    (k_l_bytes : PySem.W.keepIn K (.ref f_l_bytes) = true)
    (a_l_due : PySem.W.nsIn K mainGlobals "_law_due" = some (some (.ref f_l_due)))
    (l_l_due : K.lookup f_l_due = some ⟨oc_l_due, od_l_due, .func (PySem.W.fnOf "_law_due" "_law_due" (defArgs s_l_due) (defBody s_l_due) (defScope s_l_due) .none kV_l_due dc_l_due pm_l_due an_l_due cd_l_due ct_l_due), sl_l_due⟩)
    (c_l_due : PySem.W.codeIn K cd_l_due "_law_due" = true)
    (k_l_due : PySem.W.keepIn K (.ref f_l_due) = true)
    (a_law : PySem.W.nsIn K mainGlobals "law" = some (some (.ref f_law)))
    (l_law : K.lookup f_law = some ⟨oc_law, od_law, .func (PySem.W.fnOf "law" "law" (defArgs s_law) (defBody s_law) (defScope s_law) .none kV_law dc_law pm_law an_law cd_law ct_law), sl_law⟩)
    (c_law : PySem.W.codeIn K cd_law "law" = true)
    (k_law : PySem.W.keepIn K (.ref f_law) = true)
    (z_bool : PySem.W.nsIn K mainGlobals "bool" = some none)
    (z_int : PySem.W.nsIn K mainGlobals "int" = some none)
    (z_isinstance : PySem.W.nsIn K mainGlobals "isinstance" = some none)
    (z_len : PySem.W.nsIn K mainGlobals "len" = some none)
    (z_list : PySem.W.nsIn K mainGlobals "list" = some none)
    (z_ord : PySem.W.nsIn K mainGlobals "ord" = some none)
    (z_range : PySem.W.nsIn K mainGlobals "range" = some none)
    (z_str : PySem.W.nsIn K mainGlobals "str" = some none)
    (z_tuple : PySem.W.nsIn K mainGlobals "tuple" = some none)
    {t_APART : Tok}
    (v_APART : PySem.W.nsIn K mainGlobals "APART" = some (some (.str "\"(),;[]{}" t_APART)))
    {a_CHARACTERS : Addr}
    (v_CHARACTERS : PySem.W.nsIn K mainGlobals "CHARACTERS" = some (some (.ref a_CHARACTERS)))
    (kd_CHARACTERS : isD K [] 6 (.ref a_CHARACTERS) d_CHARACTERS = true)
    {t_DIGITS : Tok}
    (v_DIGITS : PySem.W.nsIn K mainGlobals "DIGITS" = some (some (.str "0123456789abcdef" t_DIGITS)))
    {a_ESCAPES : Addr} {es_ESCAPES : Array DictEntry} {n_ESCAPES : Nat}
    (m_ESCAPES : PySem.W.nsIn K mainGlobals "ESCAPES" = some (some (.ref a_ESCAPES)))
    (l_ESCAPES : K.lookup a_ESCAPES = some ⟨.type "dict", none, .dict es_ESCAPES n_ESCAPES, #[]⟩)
    (en_ESCAPES : EntsK w.params ((["t", "n", "\"", "'", "\\"] : List Str).zip ([.int (9), .int (10), .int (34), .int (39), .int (92)] : List L2.V)) es_ESCAPES.toList)
    (lo_ESCAPES : (a_ESCAPES == sysModules) = false)
    {t_MOST_CHARACTERS : Tok}
    (v_MOST_CHARACTERS : PySem.W.nsIn K mainGlobals "MOST_CHARACTERS" = some (some (.int (200) t_MOST_CHARACTERS)))
    (cg_HostError : PySem.W.nsIn K mainGlobals "HostError" = some (some (.ref c_HostError)))
    (cg_ParseError : PySem.W.nsIn K mainGlobals "ParseError" = some (some (.ref c_ParseError)))
    (kc_ParseError : PySem.W.keepIn K (.ref c_ParseError) = true)
    (eb_ParseError : PySem.W.subIn K (.ref c_ParseError) (.type "BaseException") = some true)
    (ty_ParseError : PySem.W.typeIn K (.ref c_ParseError) = some (.type "type"))
    (ga_ParseError : PySem.W.findIn K (.ref c_ParseError) "__getattribute__" = some (some (.builtin "BaseException.__getattribute__")))
    (gg_ParseError : PySem.W.findIn K (.ref c_ParseError) "__getattr__" = some none)
    {nm_ParseError q_ParseError : Str} {N_ParseError : Addr} {bs_ParseError : List Value} {sn_ParseError : List Str} {sub_ParseError : List Value} {ab_ParseError : Bool} {col_ParseError : Option Bool} {dd_ParseError : Option Addr} {m0_ParseError m1_ParseError m2_ParseError m3_ParseError m5_ParseError : Option Value}
    (xL_ParseError : K.lookup c_ParseError = some (excClassObj nm_ParseError q_ParseError c_ParseError N_ParseError bs_ParseError [.ref c_HostError, .type "ValueError", .type "Exception", .type "BaseException", .type "object"] true sn_ParseError sub_ParseError ab_ParseError col_ParseError dd_ParseError m0_ParseError m1_ParseError m2_ParseError m3_ParseError m5_ParseError "ValueError.__new__"))
    (sa_ParseError : PySem.W.findIn K (.ref c_ParseError) "__setattr__" = some (some (.builtin "object.__setattr__")))
    (nf0_ParseError : PySem.W.findIn K (.ref c_ParseError) "reason" = some none)
    (nf1_ParseError : PySem.W.findIn K (.ref c_ParseError) "line" = some none)
    (nf2_ParseError : PySem.W.findIn K (.ref c_ParseError) "column" = some none)
    (ii_ParseError : PySem.W.findIn K (.ref c_ParseError) "__init__" = some (some (.ref fi_ParseError)))
    (ti_ParseError : PySem.W.typeIn K (.ref fi_ParseError) = some (.type "function"))
    (hd_ParseError : PySem.W.hasDictIn K c_ParseError = true)
    (l_init_ParseError : K.lookup fi_ParseError = some ⟨oc_init_ParseError, od_init_ParseError, .func (PySem.W.fnOf "__init__" "ParseError.__init__" (defArgs s_init_ParseError) (defBody s_init_ParseError) (defScope s_init_ParseError) .none kV_init_ParseError dc_init_ParseError pm_init_ParseError an_init_ParseError cd_init_ParseError ct_init_ParseError), sl_init_ParseError⟩)
    (c_init_ParseError : PySem.W.codeIn K cd_init_ParseError "ParseError.__init__" = true)
    (k_init_ParseError : PySem.W.keepIn K (.ref fi_ParseError) = true)
    : ∃ fd : FuncData, (∀ (s : Shared) (v : Value), BindsTo s fd ⟨[v], []⟩ [("_law_script", v)]) ∧ ∀ base : Heap, K.In base → base.Ns mainGlobals mg → FnOk l.prog w K mg base CX0 10 fa fd ["_law_script"] (Dm.sp_law K) := by
  have e := hfa.symm.trans (PySem.W.mg_of X G a_law)
  cases e
  have T : Tx w K mg (fun n => match n with | 0 => f_character | 1 => f_position | 2 => f_fail | 3 => f_digit_of | 4 => f_after_block_comment | 5 => f_after_line | 6 => f_after_blanks | 7 => f_string_character | 8 => f_read_string_byte | 9 => f_read_string | 10 => f_after_word | 11 => f_read_token | 12 => f_tokens_of | 13 => f_print_byte | 14 => f_print_string | 15 => f_l_char | 16 => f_l_alike | 17 => f_l_bytes | 18 => f_l_due | 1000 => c_HostError | 1001 => c_ParseError | 2001 => fi_ParseError | _ => 0) := ⟨PySem.W.mg_none_of X G z_bool,
    PySem.W.mg_none_of X G z_int,
    PySem.W.mg_none_of X G z_isinstance,
    PySem.W.mg_none_of X G z_len,
    PySem.W.mg_none_of X G z_list,
    PySem.W.mg_none_of X G z_ord,
    PySem.W.mg_none_of X G z_range,
    PySem.W.mg_none_of X G z_str,
    PySem.W.mg_none_of X G z_tuple,
    ⟨.str "\"(),;[]{}", _, PySem.W.mg_of X G v_APART, ⟨_, rfl⟩, fun _ => .str _⟩,
    isD_rep (ad := (fun n => match n with | 0 => f_character | 1 => f_position | 2 => f_fail | 3 => f_digit_of | 4 => f_after_block_comment | 5 => f_after_line | 6 => f_after_blanks | 7 => f_string_character | 8 => f_read_string_byte | 9 => f_read_string | 10 => f_after_word | 11 => f_read_token | 12 => f_tokens_of | 13 => f_print_byte | 14 => f_print_string | 15 => f_l_char | 16 => f_l_alike | 17 => f_l_bytes | 18 => f_l_due | 1000 => c_HostError | 1001 => c_ParseError | 2001 => fi_ParseError | _ => 0)) (by intro k b hb; cases hb) (PySem.W.mg_of X G v_CHARACTERS) kd_CHARACTERS,
    ⟨.str "0123456789abcdef", _, PySem.W.mg_of X G v_DIGITS, ⟨_, rfl⟩, fun _ => .str _⟩,
    dct_rep (ad := (fun n => match n with | 0 => f_character | 1 => f_position | 2 => f_fail | 3 => f_digit_of | 4 => f_after_block_comment | 5 => f_after_line | 6 => f_after_blanks | 7 => f_string_character | 8 => f_read_string_byte | 9 => f_read_string | 10 => f_after_word | 11 => f_read_token | 12 => f_tokens_of | 13 => f_print_byte | 14 => f_print_string | 15 => f_l_char | 16 => f_l_alike | 17 => f_l_bytes | 18 => f_l_due | 1000 => c_HostError | 1001 => c_ParseError | 2001 => fi_ParseError | _ => 0)) (PySem.W.mg_of X G m_ESCAPES) l_ESCAPES en_ESCAPES lo_ESCAPES rfl (fun _ => (.cons (.int _) (.cons (.int _) (.cons (.int _) (.cons (.int _) (.cons (.int _) .nil)))))),
    ⟨.int (200), _, PySem.W.mg_of X G v_MOST_CHARACTERS, ⟨_, rfl⟩, fun _ => .int _⟩,
    PySem.W.mg_of X G cg_HostError,
    ⟨PySem.W.mg_of X G cg_ParseError, ⟨⟨_, _, _, _, _, _, _, _, _, _, _, _, _, _, _, xL_ParseError, rfl⟩, sa_ParseError, eb_ParseError, ty_ParseError, kc_ParseError⟩, ii_ParseError, ti_ParseError, (by intro f hf; simp only [List.mem_cons, List.not_mem_nil, or_false] at hf; rcases hf with rfl | rfl | rfl; exact nf0_ParseError; exact nf1_ParseError; exact nf2_ParseError), ⟨ga_ParseError, gg_ParseError, eb_ParseError, hd_ParseError⟩⟩,
    PySem.W.mg_of X G cg_ParseError⟩
  have F_character := fun_mk (st := s_character) l_character c_character k_character
  have b_character := F_character.binds (ps := ["code"]) fun _ _ _ _ _ _ us hl => match us, hl with | [_], _ => rfl
  have F_position := fun_mk (st := s_position) l_position c_position k_position
  have b_position := F_position.binds (ps := ["text", "at"]) fun _ _ _ _ _ _ us hl => match us, hl with | [_, _], _ => rfl
  have F_fail := fun_mk (st := s_fail) l_fail c_fail k_fail
  have b_fail := F_fail.binds (ps := ["reason", "text", "at"]) fun _ _ _ _ _ _ us hl => match us, hl with | [_, _, _], _ => rfl
  have F_digit_of := fun_mk (st := s_digit_of) l_digit_of c_digit_of k_digit_of
  have b_digit_of := F_digit_of.binds (ps := ["char", "base"]) fun _ _ _ _ _ _ us hl => match us, hl with | [_, _], _ => rfl
  have F_after_block_comment := fun_mk (st := s_after_block_comment) l_after_block_comment c_after_block_comment k_after_block_comment
  have b_after_block_comment := F_after_block_comment.binds (ps := ["text", "at"]) fun _ _ _ _ _ _ us hl => match us, hl with | [_, _], _ => rfl
  have F_after_line := fun_mk (st := s_after_line) l_after_line c_after_line k_after_line
  have b_after_line := F_after_line.binds (ps := ["text", "at"]) fun _ _ _ _ _ _ us hl => match us, hl with | [_, _], _ => rfl
  have F_after_blanks := fun_mk (st := s_after_blanks) l_after_blanks c_after_blanks k_after_blanks
  have b_after_blanks := F_after_blanks.binds (ps := ["text", "at"]) fun _ _ _ _ _ _ us hl => match us, hl with | [_, _], _ => rfl
  have F_string_character := fun_mk (st := s_string_character) l_string_character c_string_character k_string_character
  have b_string_character := F_string_character.binds (ps := ["text", "at"]) fun _ _ _ _ _ _ us hl => match us, hl with | [_, _], _ => rfl
  have F_read_string_byte := fun_mk (st := s_read_string_byte) l_read_string_byte c_read_string_byte k_read_string_byte
  have b_read_string_byte := F_read_string_byte.binds (ps := ["text", "at"]) fun _ _ _ _ _ _ us hl => match us, hl with | [_, _], _ => rfl
  have F_read_string := fun_mk (st := s_read_string) l_read_string c_read_string k_read_string
  have b_read_string := F_read_string.binds (ps := ["text", "at"]) fun _ _ _ _ _ _ us hl => match us, hl with | [_, _], _ => rfl
  have F_after_word := fun_mk (st := s_after_word) l_after_word c_after_word k_after_word
  have b_after_word := F_after_word.binds (ps := ["text", "at"]) fun _ _ _ _ _ _ us hl => match us, hl with | [_, _], _ => rfl
  have F_read_token := fun_mk (st := s_read_token) l_read_token c_read_token k_read_token
  have b_read_token := F_read_token.binds (ps := ["text", "at"]) fun _ _ _ _ _ _ us hl => match us, hl with | [_, _], _ => rfl
  have F_tokens_of := fun_mk (st := s_tokens_of) l_tokens_of c_tokens_of k_tokens_of
  have b_tokens_of := F_tokens_of.binds (ps := ["text"]) fun _ _ _ _ _ _ us hl => match us, hl with | [_], _ => rfl
  have F_print_byte := fun_mk (st := s_print_byte) l_print_byte c_print_byte k_print_byte
  have b_print_byte := F_print_byte.binds (ps := ["byte"]) fun _ _ _ _ _ _ us hl => match us, hl with | [_], _ => rfl
  have F_print_string := fun_mk (st := s_print_string) l_print_string c_print_string k_print_string
  have b_print_string := F_print_string.binds (ps := ["data"]) fun _ _ _ _ _ _ us hl => match us, hl with | [_], _ => rfl
  have F_l_char := fun_mk (st := s_l_char) l_l_char c_l_char k_l_char
  have b_l_char := F_l_char.binds (ps := ["_law_number"]) fun _ _ _ _ _ _ us hl => match us, hl with | [_], _ => rfl
  have F_l_alike := fun_mk (st := s_l_alike) l_l_alike c_l_alike k_l_alike
  have b_l_alike := F_l_alike.binds (ps := ["_law_actual", "_law_due_here"]) fun _ _ _ _ _ _ us hl => match us, hl with | [_, _], _ => rfl
  have F_l_bytes := fun_mk (st := s_l_bytes) l_l_bytes c_l_bytes k_l_bytes
  have b_l_bytes := F_l_bytes.binds (ps := ["_law_script"]) fun _ _ _ _ _ _ us hl => match us, hl with | [_], _ => rfl
  have F_l_due := fun_mk (st := s_l_due) l_l_due c_l_due k_l_due
  have b_l_due := F_l_due.binds (ps := ["_law_data"]) fun _ _ _ _ _ _ us hl => match us, hl with | [_], _ => rfl
  have F_law := fun_mk (st := s_law) l_law c_law k_law
  have F_init_ParseError := fun_mk (st := s_init_ParseError) l_init_ParseError c_init_ParseError k_init_ParseError
  have b_init_ParseError := F_init_ParseError.binds (ps := ["self", "reason", "line", "column"]) fun _ _ _ _ _ _ us hl => match us, hl with | [_, _, _, _], _ => rfl
  refine ⟨PySem.W.fnOf "law" "law" (defArgs s_law) (defBody s_law) (defScope s_law) .none kV_law dc_law pm_law an_law cd_law ct_law, fun s v => .of_eq rfl, fun base _ _ => ?_⟩
  have O_init_ParseError : InitN l.prog w K mg base fi_ParseError _ ["self", "reason", "line", "column"] ["reason", "line", "column"] := ⟨ok_init_ParseError F_init_ParseError, b_init_ParseError⟩
  have O_character : DfX l.prog w K mg base 1 "character" f_character _ ["code"] (SpD ⟨K, w, (fun n => match n with | 0 => f_character | 1 => f_position | 2 => f_fail | 3 => f_digit_of | 4 => f_after_block_comment | 5 => f_after_line | 6 => f_after_blanks | 7 => f_string_character | 8 => f_read_string_byte | 9 => f_read_string | 10 => f_after_word | 11 => f_read_token | 12 => f_tokens_of | 13 => f_print_byte | 14 => f_print_string | 15 => f_l_char | 16 => f_l_alike | 17 => f_l_bytes | 18 => f_l_due | 1000 => c_HostError | 1001 => c_ParseError | 2001 => fi_ParseError | _ => 0)⟩ m_character) := ⟨ok_character (ad := (fun n => match n with | 0 => f_character | 1 => f_position | 2 => f_fail | 3 => f_digit_of | 4 => f_after_block_comment | 5 => f_after_line | 6 => f_after_blanks | 7 => f_string_character | 8 => f_read_string_byte | 9 => f_read_string | 10 => f_after_word | 11 => f_read_token | 12 => f_tokens_of | 13 => f_print_byte | 14 => f_print_string | 15 => f_l_char | 16 => f_l_alike | 17 => f_l_bytes | 18 => f_l_due | 1000 => c_HostError | 1001 => c_ParseError | 2001 => fi_ParseError | _ => 0)) F_character T, PySem.W.mg_of X G a_character, F_character.kp, b_character⟩
  have O_position : DfX l.prog w K mg base 1 "position" f_position _ ["text", "at"] (SpD ⟨K, w, (fun n => match n with | 0 => f_character | 1 => f_position | 2 => f_fail | 3 => f_digit_of | 4 => f_after_block_comment | 5 => f_after_line | 6 => f_after_blanks | 7 => f_string_character | 8 => f_read_string_byte | 9 => f_read_string | 10 => f_after_word | 11 => f_read_token | 12 => f_tokens_of | 13 => f_print_byte | 14 => f_print_string | 15 => f_l_char | 16 => f_l_alike | 17 => f_l_bytes | 18 => f_l_due | 1000 => c_HostError | 1001 => c_ParseError | 2001 => fi_ParseError | _ => 0)⟩ m_position) := ⟨ok_position (ad := (fun n => match n with | 0 => f_character | 1 => f_position | 2 => f_fail | 3 => f_digit_of | 4 => f_after_block_comment | 5 => f_after_line | 6 => f_after_blanks | 7 => f_string_character | 8 => f_read_string_byte | 9 => f_read_string | 10 => f_after_word | 11 => f_read_token | 12 => f_tokens_of | 13 => f_print_byte | 14 => f_print_string | 15 => f_l_char | 16 => f_l_alike | 17 => f_l_bytes | 18 => f_l_due | 1000 => c_HostError | 1001 => c_ParseError | 2001 => fi_ParseError | _ => 0)) F_position T, PySem.W.mg_of X G a_position, F_position.kp, b_position⟩
  have O_fail : DfX l.prog w K mg base 3 "fail" f_fail _ ["reason", "text", "at"] (SpD ⟨K, w, (fun n => match n with | 0 => f_character | 1 => f_position | 2 => f_fail | 3 => f_digit_of | 4 => f_after_block_comment | 5 => f_after_line | 6 => f_after_blanks | 7 => f_string_character | 8 => f_read_string_byte | 9 => f_read_string | 10 => f_after_word | 11 => f_read_token | 12 => f_tokens_of | 13 => f_print_byte | 14 => f_print_string | 15 => f_l_char | 16 => f_l_alike | 17 => f_l_bytes | 18 => f_l_due | 1000 => c_HostError | 1001 => c_ParseError | 2001 => fi_ParseError | _ => 0)⟩ m_fail) := ⟨ok_fail (ad := (fun n => match n with | 0 => f_character | 1 => f_position | 2 => f_fail | 3 => f_digit_of | 4 => f_after_block_comment | 5 => f_after_line | 6 => f_after_blanks | 7 => f_string_character | 8 => f_read_string_byte | 9 => f_read_string | 10 => f_after_word | 11 => f_read_token | 12 => f_tokens_of | 13 => f_print_byte | 14 => f_print_string | 15 => f_l_char | 16 => f_l_alike | 17 => f_l_bytes | 18 => f_l_due | 1000 => c_HostError | 1001 => c_ParseError | 2001 => fi_ParseError | _ => 0)) F_fail T O_position O_init_ParseError, PySem.W.mg_of X G a_fail, F_fail.kp, b_fail⟩
  have O_digit_of : DfX l.prog w K mg base 1 "digit_of" f_digit_of _ ["char", "base"] (SpD ⟨K, w, (fun n => match n with | 0 => f_character | 1 => f_position | 2 => f_fail | 3 => f_digit_of | 4 => f_after_block_comment | 5 => f_after_line | 6 => f_after_blanks | 7 => f_string_character | 8 => f_read_string_byte | 9 => f_read_string | 10 => f_after_word | 11 => f_read_token | 12 => f_tokens_of | 13 => f_print_byte | 14 => f_print_string | 15 => f_l_char | 16 => f_l_alike | 17 => f_l_bytes | 18 => f_l_due | 1000 => c_HostError | 1001 => c_ParseError | 2001 => fi_ParseError | _ => 0)⟩ m_digit_of) := ⟨ok_digit_of (ad := (fun n => match n with | 0 => f_character | 1 => f_position | 2 => f_fail | 3 => f_digit_of | 4 => f_after_block_comment | 5 => f_after_line | 6 => f_after_blanks | 7 => f_string_character | 8 => f_read_string_byte | 9 => f_read_string | 10 => f_after_word | 11 => f_read_token | 12 => f_tokens_of | 13 => f_print_byte | 14 => f_print_string | 15 => f_l_char | 16 => f_l_alike | 17 => f_l_bytes | 18 => f_l_due | 1000 => c_HostError | 1001 => c_ParseError | 2001 => fi_ParseError | _ => 0)) F_digit_of T, PySem.W.mg_of X G a_digit_of, F_digit_of.kp, b_digit_of⟩
  have O_after_block_comment : DfX l.prog w K mg base 1 "after_block_comment" f_after_block_comment _ ["text", "at"] (SpD ⟨K, w, (fun n => match n with | 0 => f_character | 1 => f_position | 2 => f_fail | 3 => f_digit_of | 4 => f_after_block_comment | 5 => f_after_line | 6 => f_after_blanks | 7 => f_string_character | 8 => f_read_string_byte | 9 => f_read_string | 10 => f_after_word | 11 => f_read_token | 12 => f_tokens_of | 13 => f_print_byte | 14 => f_print_string | 15 => f_l_char | 16 => f_l_alike | 17 => f_l_bytes | 18 => f_l_due | 1000 => c_HostError | 1001 => c_ParseError | 2001 => fi_ParseError | _ => 0)⟩ m_after_block_comment) := ⟨ok_after_block_comment (ad := (fun n => match n with | 0 => f_character | 1 => f_position | 2 => f_fail | 3 => f_digit_of | 4 => f_after_block_comment | 5 => f_after_line | 6 => f_after_blanks | 7 => f_string_character | 8 => f_read_string_byte | 9 => f_read_string | 10 => f_after_word | 11 => f_read_token | 12 => f_tokens_of | 13 => f_print_byte | 14 => f_print_string | 15 => f_l_char | 16 => f_l_alike | 17 => f_l_bytes | 18 => f_l_due | 1000 => c_HostError | 1001 => c_ParseError | 2001 => fi_ParseError | _ => 0)) F_after_block_comment T, PySem.W.mg_of X G a_after_block_comment, F_after_block_comment.kp, b_after_block_comment⟩
  have O_after_line : DfX l.prog w K mg base 1 "after_line" f_after_line _ ["text", "at"] (SpD ⟨K, w, (fun n => match n with | 0 => f_character | 1 => f_position | 2 => f_fail | 3 => f_digit_of | 4 => f_after_block_comment | 5 => f_after_line | 6 => f_after_blanks | 7 => f_string_character | 8 => f_read_string_byte | 9 => f_read_string | 10 => f_after_word | 11 => f_read_token | 12 => f_tokens_of | 13 => f_print_byte | 14 => f_print_string | 15 => f_l_char | 16 => f_l_alike | 17 => f_l_bytes | 18 => f_l_due | 1000 => c_HostError | 1001 => c_ParseError | 2001 => fi_ParseError | _ => 0)⟩ m_after_line) := ⟨ok_after_line (ad := (fun n => match n with | 0 => f_character | 1 => f_position | 2 => f_fail | 3 => f_digit_of | 4 => f_after_block_comment | 5 => f_after_line | 6 => f_after_blanks | 7 => f_string_character | 8 => f_read_string_byte | 9 => f_read_string | 10 => f_after_word | 11 => f_read_token | 12 => f_tokens_of | 13 => f_print_byte | 14 => f_print_string | 15 => f_l_char | 16 => f_l_alike | 17 => f_l_bytes | 18 => f_l_due | 1000 => c_HostError | 1001 => c_ParseError | 2001 => fi_ParseError | _ => 0)) F_after_line T, PySem.W.mg_of X G a_after_line, F_after_line.kp, b_after_line⟩
  have O_after_blanks : DfX l.prog w K mg base 4 "after_blanks" f_after_blanks _ ["text", "at"] (SpD ⟨K, w, (fun n => match n with | 0 => f_character | 1 => f_position | 2 => f_fail | 3 => f_digit_of | 4 => f_after_block_comment | 5 => f_after_line | 6 => f_after_blanks | 7 => f_string_character | 8 => f_read_string_byte | 9 => f_read_string | 10 => f_after_word | 11 => f_read_token | 12 => f_tokens_of | 13 => f_print_byte | 14 => f_print_string | 15 => f_l_char | 16 => f_l_alike | 17 => f_l_bytes | 18 => f_l_due | 1000 => c_HostError | 1001 => c_ParseError | 2001 => fi_ParseError | _ => 0)⟩ m_after_blanks) := ⟨ok_after_blanks (ad := (fun n => match n with | 0 => f_character | 1 => f_position | 2 => f_fail | 3 => f_digit_of | 4 => f_after_block_comment | 5 => f_after_line | 6 => f_after_blanks | 7 => f_string_character | 8 => f_read_string_byte | 9 => f_read_string | 10 => f_after_word | 11 => f_read_token | 12 => f_tokens_of | 13 => f_print_byte | 14 => f_print_string | 15 => f_l_char | 16 => f_l_alike | 17 => f_l_bytes | 18 => f_l_due | 1000 => c_HostError | 1001 => c_ParseError | 2001 => fi_ParseError | _ => 0)) F_after_blanks T O_fail O_after_block_comment O_after_line, PySem.W.mg_of X G a_after_blanks, F_after_blanks.kp, b_after_blanks⟩
  have O_string_character : DfX l.prog w K mg base 4 "string_character" f_string_character _ ["text", "at"] (SpD ⟨K, w, (fun n => match n with | 0 => f_character | 1 => f_position | 2 => f_fail | 3 => f_digit_of | 4 => f_after_block_comment | 5 => f_after_line | 6 => f_after_blanks | 7 => f_string_character | 8 => f_read_string_byte | 9 => f_read_string | 10 => f_after_word | 11 => f_read_token | 12 => f_tokens_of | 13 => f_print_byte | 14 => f_print_string | 15 => f_l_char | 16 => f_l_alike | 17 => f_l_bytes | 18 => f_l_due | 1000 => c_HostError | 1001 => c_ParseError | 2001 => fi_ParseError | _ => 0)⟩ m_string_character) := ⟨ok_string_character (ad := (fun n => match n with | 0 => f_character | 1 => f_position | 2 => f_fail | 3 => f_digit_of | 4 => f_after_block_comment | 5 => f_after_line | 6 => f_after_blanks | 7 => f_string_character | 8 => f_read_string_byte | 9 => f_read_string | 10 => f_after_word | 11 => f_read_token | 12 => f_tokens_of | 13 => f_print_byte | 14 => f_print_string | 15 => f_l_char | 16 => f_l_alike | 17 => f_l_bytes | 18 => f_l_due | 1000 => c_HostError | 1001 => c_ParseError | 2001 => fi_ParseError | _ => 0)) F_string_character T O_fail, PySem.W.mg_of X G a_string_character, F_string_character.kp, b_string_character⟩
  have O_read_string_byte : DfX l.prog w K mg base 5 "read_string_byte" f_read_string_byte _ ["text", "at"] (SpD ⟨K, w, (fun n => match n with | 0 => f_character | 1 => f_position | 2 => f_fail | 3 => f_digit_of | 4 => f_after_block_comment | 5 => f_after_line | 6 => f_after_blanks | 7 => f_string_character | 8 => f_read_string_byte | 9 => f_read_string | 10 => f_after_word | 11 => f_read_token | 12 => f_tokens_of | 13 => f_print_byte | 14 => f_print_string | 15 => f_l_char | 16 => f_l_alike | 17 => f_l_bytes | 18 => f_l_due | 1000 => c_HostError | 1001 => c_ParseError | 2001 => fi_ParseError | _ => 0)⟩ m_read_string_byte) := ⟨ok_read_string_byte (ad := (fun n => match n with | 0 => f_character | 1 => f_position | 2 => f_fail | 3 => f_digit_of | 4 => f_after_block_comment | 5 => f_after_line | 6 => f_after_blanks | 7 => f_string_character | 8 => f_read_string_byte | 9 => f_read_string | 10 => f_after_word | 11 => f_read_token | 12 => f_tokens_of | 13 => f_print_byte | 14 => f_print_string | 15 => f_l_char | 16 => f_l_alike | 17 => f_l_bytes | 18 => f_l_due | 1000 => c_HostError | 1001 => c_ParseError | 2001 => fi_ParseError | _ => 0)) F_read_string_byte T O_position O_digit_of O_string_character O_init_ParseError, PySem.W.mg_of X G a_read_string_byte, F_read_string_byte.kp, b_read_string_byte⟩
  have O_read_string : DfX l.prog w K mg base 6 "read_string" f_read_string _ ["text", "at"] (SpD ⟨K, w, (fun n => match n with | 0 => f_character | 1 => f_position | 2 => f_fail | 3 => f_digit_of | 4 => f_after_block_comment | 5 => f_after_line | 6 => f_after_blanks | 7 => f_string_character | 8 => f_read_string_byte | 9 => f_read_string | 10 => f_after_word | 11 => f_read_token | 12 => f_tokens_of | 13 => f_print_byte | 14 => f_print_string | 15 => f_l_char | 16 => f_l_alike | 17 => f_l_bytes | 18 => f_l_due | 1000 => c_HostError | 1001 => c_ParseError | 2001 => fi_ParseError | _ => 0)⟩ m_read_string) := ⟨ok_read_string (ad := (fun n => match n with | 0 => f_character | 1 => f_position | 2 => f_fail | 3 => f_digit_of | 4 => f_after_block_comment | 5 => f_after_line | 6 => f_after_blanks | 7 => f_string_character | 8 => f_read_string_byte | 9 => f_read_string | 10 => f_after_word | 11 => f_read_token | 12 => f_tokens_of | 13 => f_print_byte | 14 => f_print_string | 15 => f_l_char | 16 => f_l_alike | 17 => f_l_bytes | 18 => f_l_due | 1000 => c_HostError | 1001 => c_ParseError | 2001 => fi_ParseError | _ => 0)) F_read_string T O_string_character O_read_string_byte, PySem.W.mg_of X G a_read_string, F_read_string.kp, b_read_string⟩
  have O_after_word : DfX l.prog w K mg base 1 "after_word" f_after_word _ ["text", "at"] (SpD ⟨K, w, (fun n => match n with | 0 => f_character | 1 => f_position | 2 => f_fail | 3 => f_digit_of | 4 => f_after_block_comment | 5 => f_after_line | 6 => f_after_blanks | 7 => f_string_character | 8 => f_read_string_byte | 9 => f_read_string | 10 => f_after_word | 11 => f_read_token | 12 => f_tokens_of | 13 => f_print_byte | 14 => f_print_string | 15 => f_l_char | 16 => f_l_alike | 17 => f_l_bytes | 18 => f_l_due | 1000 => c_HostError | 1001 => c_ParseError | 2001 => fi_ParseError | _ => 0)⟩ m_after_word) := ⟨ok_after_word (ad := (fun n => match n with | 0 => f_character | 1 => f_position | 2 => f_fail | 3 => f_digit_of | 4 => f_after_block_comment | 5 => f_after_line | 6 => f_after_blanks | 7 => f_string_character | 8 => f_read_string_byte | 9 => f_read_string | 10 => f_after_word | 11 => f_read_token | 12 => f_tokens_of | 13 => f_print_byte | 14 => f_print_string | 15 => f_l_char | 16 => f_l_alike | 17 => f_l_bytes | 18 => f_l_due | 1000 => c_HostError | 1001 => c_ParseError | 2001 => fi_ParseError | _ => 0)) F_after_word T, PySem.W.mg_of X G a_after_word, F_after_word.kp, b_after_word⟩
  have O_read_token : DfX l.prog w K mg base 7 "read_token" f_read_token _ ["text", "at"] (SpD ⟨K, w, (fun n => match n with | 0 => f_character | 1 => f_position | 2 => f_fail | 3 => f_digit_of | 4 => f_after_block_comment | 5 => f_after_line | 6 => f_after_blanks | 7 => f_string_character | 8 => f_read_string_byte | 9 => f_read_string | 10 => f_after_word | 11 => f_read_token | 12 => f_tokens_of | 13 => f_print_byte | 14 => f_print_string | 15 => f_l_char | 16 => f_l_alike | 17 => f_l_bytes | 18 => f_l_due | 1000 => c_HostError | 1001 => c_ParseError | 2001 => fi_ParseError | _ => 0)⟩ m_read_token) := ⟨ok_read_token (ad := (fun n => match n with | 0 => f_character | 1 => f_position | 2 => f_fail | 3 => f_digit_of | 4 => f_after_block_comment | 5 => f_after_line | 6 => f_after_blanks | 7 => f_string_character | 8 => f_read_string_byte | 9 => f_read_string | 10 => f_after_word | 11 => f_read_token | 12 => f_tokens_of | 13 => f_print_byte | 14 => f_print_string | 15 => f_l_char | 16 => f_l_alike | 17 => f_l_bytes | 18 => f_l_due | 1000 => c_HostError | 1001 => c_ParseError | 2001 => fi_ParseError | _ => 0)) F_read_token T O_position O_read_string O_after_word O_init_ParseError, PySem.W.mg_of X G a_read_token, F_read_token.kp, b_read_token⟩
  have O_tokens_of : DfX l.prog w K mg base 8 "tokens_of" f_tokens_of _ ["text"] (SpD ⟨K, w, (fun n => match n with | 0 => f_character | 1 => f_position | 2 => f_fail | 3 => f_digit_of | 4 => f_after_block_comment | 5 => f_after_line | 6 => f_after_blanks | 7 => f_string_character | 8 => f_read_string_byte | 9 => f_read_string | 10 => f_after_word | 11 => f_read_token | 12 => f_tokens_of | 13 => f_print_byte | 14 => f_print_string | 15 => f_l_char | 16 => f_l_alike | 17 => f_l_bytes | 18 => f_l_due | 1000 => c_HostError | 1001 => c_ParseError | 2001 => fi_ParseError | _ => 0)⟩ m_tokens_of) := ⟨ok_tokens_of (ad := (fun n => match n with | 0 => f_character | 1 => f_position | 2 => f_fail | 3 => f_digit_of | 4 => f_after_block_comment | 5 => f_after_line | 6 => f_after_blanks | 7 => f_string_character | 8 => f_read_string_byte | 9 => f_read_string | 10 => f_after_word | 11 => f_read_token | 12 => f_tokens_of | 13 => f_print_byte | 14 => f_print_string | 15 => f_l_char | 16 => f_l_alike | 17 => f_l_bytes | 18 => f_l_due | 1000 => c_HostError | 1001 => c_ParseError | 2001 => fi_ParseError | _ => 0)) F_tokens_of T O_position O_after_blanks O_read_token, PySem.W.mg_of X G a_tokens_of, F_tokens_of.kp, b_tokens_of⟩
  have O_print_byte : DfX l.prog w K mg base 2 "print_byte" f_print_byte _ ["byte"] (SpD ⟨K, w, (fun n => match n with | 0 => f_character | 1 => f_position | 2 => f_fail | 3 => f_digit_of | 4 => f_after_block_comment | 5 => f_after_line | 6 => f_after_blanks | 7 => f_string_character | 8 => f_read_string_byte | 9 => f_read_string | 10 => f_after_word | 11 => f_read_token | 12 => f_tokens_of | 13 => f_print_byte | 14 => f_print_string | 15 => f_l_char | 16 => f_l_alike | 17 => f_l_bytes | 18 => f_l_due | 1000 => c_HostError | 1001 => c_ParseError | 2001 => fi_ParseError | _ => 0)⟩ m_print_byte) := ⟨ok_print_byte (ad := (fun n => match n with | 0 => f_character | 1 => f_position | 2 => f_fail | 3 => f_digit_of | 4 => f_after_block_comment | 5 => f_after_line | 6 => f_after_blanks | 7 => f_string_character | 8 => f_read_string_byte | 9 => f_read_string | 10 => f_after_word | 11 => f_read_token | 12 => f_tokens_of | 13 => f_print_byte | 14 => f_print_string | 15 => f_l_char | 16 => f_l_alike | 17 => f_l_bytes | 18 => f_l_due | 1000 => c_HostError | 1001 => c_ParseError | 2001 => fi_ParseError | _ => 0)) F_print_byte T O_character, PySem.W.mg_of X G a_print_byte, F_print_byte.kp, b_print_byte⟩
  have O_print_string : DfX l.prog w K mg base 3 "print_string" f_print_string _ ["data"] (SpD ⟨K, w, (fun n => match n with | 0 => f_character | 1 => f_position | 2 => f_fail | 3 => f_digit_of | 4 => f_after_block_comment | 5 => f_after_line | 6 => f_after_blanks | 7 => f_string_character | 8 => f_read_string_byte | 9 => f_read_string | 10 => f_after_word | 11 => f_read_token | 12 => f_tokens_of | 13 => f_print_byte | 14 => f_print_string | 15 => f_l_char | 16 => f_l_alike | 17 => f_l_bytes | 18 => f_l_due | 1000 => c_HostError | 1001 => c_ParseError | 2001 => fi_ParseError | _ => 0)⟩ m_print_string) := ⟨ok_print_string (ad := (fun n => match n with | 0 => f_character | 1 => f_position | 2 => f_fail | 3 => f_digit_of | 4 => f_after_block_comment | 5 => f_after_line | 6 => f_after_blanks | 7 => f_string_character | 8 => f_read_string_byte | 9 => f_read_string | 10 => f_after_word | 11 => f_read_token | 12 => f_tokens_of | 13 => f_print_byte | 14 => f_print_string | 15 => f_l_char | 16 => f_l_alike | 17 => f_l_bytes | 18 => f_l_due | 1000 => c_HostError | 1001 => c_ParseError | 2001 => fi_ParseError | _ => 0)) F_print_string T O_print_byte, PySem.W.mg_of X G a_print_string, F_print_string.kp, b_print_string⟩
  have O_l_char : DfX l.prog w K mg base 1 "_law_char" f_l_char _ ["_law_number"] (SpD ⟨K, w, (fun n => match n with | 0 => f_character | 1 => f_position | 2 => f_fail | 3 => f_digit_of | 4 => f_after_block_comment | 5 => f_after_line | 6 => f_after_blanks | 7 => f_string_character | 8 => f_read_string_byte | 9 => f_read_string | 10 => f_after_word | 11 => f_read_token | 12 => f_tokens_of | 13 => f_print_byte | 14 => f_print_string | 15 => f_l_char | 16 => f_l_alike | 17 => f_l_bytes | 18 => f_l_due | 1000 => c_HostError | 1001 => c_ParseError | 2001 => fi_ParseError | _ => 0)⟩ m_l_char) := ⟨ok_l_char (ad := (fun n => match n with | 0 => f_character | 1 => f_position | 2 => f_fail | 3 => f_digit_of | 4 => f_after_block_comment | 5 => f_after_line | 6 => f_after_blanks | 7 => f_string_character | 8 => f_read_string_byte | 9 => f_read_string | 10 => f_after_word | 11 => f_read_token | 12 => f_tokens_of | 13 => f_print_byte | 14 => f_print_string | 15 => f_l_char | 16 => f_l_alike | 17 => f_l_bytes | 18 => f_l_due | 1000 => c_HostError | 1001 => c_ParseError | 2001 => fi_ParseError | _ => 0)) F_l_char T, PySem.W.mg_of X G a_l_char, F_l_char.kp, b_l_char⟩
  have O_l_alike : DfX l.prog w K mg base 9 "_law_alike" f_l_alike _ ["_law_actual", "_law_due_here"] (SpD ⟨K, w, (fun n => match n with | 0 => f_character | 1 => f_position | 2 => f_fail | 3 => f_digit_of | 4 => f_after_block_comment | 5 => f_after_line | 6 => f_after_blanks | 7 => f_string_character | 8 => f_read_string_byte | 9 => f_read_string | 10 => f_after_word | 11 => f_read_token | 12 => f_tokens_of | 13 => f_print_byte | 14 => f_print_string | 15 => f_l_char | 16 => f_l_alike | 17 => f_l_bytes | 18 => f_l_due | 1000 => c_HostError | 1001 => c_ParseError | 2001 => fi_ParseError | _ => 0)⟩ (m_l_alike 8)) := ⟨ok_l_alike (ad := (fun n => match n with | 0 => f_character | 1 => f_position | 2 => f_fail | 3 => f_digit_of | 4 => f_after_block_comment | 5 => f_after_line | 6 => f_after_blanks | 7 => f_string_character | 8 => f_read_string_byte | 9 => f_read_string | 10 => f_after_word | 11 => f_read_token | 12 => f_tokens_of | 13 => f_print_byte | 14 => f_print_string | 15 => f_l_char | 16 => f_l_alike | 17 => f_l_bytes | 18 => f_l_due | 1000 => c_HostError | 1001 => c_ParseError | 2001 => fi_ParseError | _ => 0)) F_l_alike T (PySem.W.mg_of X G a_l_alike) F_l_alike.kp b_l_alike 8, PySem.W.mg_of X G a_l_alike, F_l_alike.kp, b_l_alike⟩
  have O_l_bytes : DfX l.prog w K mg base 1 "_law_bytes" f_l_bytes _ ["_law_script"] (SpD ⟨K, w, (fun n => match n with | 0 => f_character | 1 => f_position | 2 => f_fail | 3 => f_digit_of | 4 => f_after_block_comment | 5 => f_after_line | 6 => f_after_blanks | 7 => f_string_character | 8 => f_read_string_byte | 9 => f_read_string | 10 => f_after_word | 11 => f_read_token | 12 => f_tokens_of | 13 => f_print_byte | 14 => f_print_string | 15 => f_l_char | 16 => f_l_alike | 17 => f_l_bytes | 18 => f_l_due | 1000 => c_HostError | 1001 => c_ParseError | 2001 => fi_ParseError | _ => 0)⟩ m_l_bytes) := ⟨ok_l_bytes (ad := (fun n => match n with | 0 => f_character | 1 => f_position | 2 => f_fail | 3 => f_digit_of | 4 => f_after_block_comment | 5 => f_after_line | 6 => f_after_blanks | 7 => f_string_character | 8 => f_read_string_byte | 9 => f_read_string | 10 => f_after_word | 11 => f_read_token | 12 => f_tokens_of | 13 => f_print_byte | 14 => f_print_string | 15 => f_l_char | 16 => f_l_alike | 17 => f_l_bytes | 18 => f_l_due | 1000 => c_HostError | 1001 => c_ParseError | 2001 => fi_ParseError | _ => 0)) F_l_bytes T, PySem.W.mg_of X G a_l_bytes, F_l_bytes.kp, b_l_bytes⟩
  have O_l_due : DfX l.prog w K mg base 2 "_law_due" f_l_due _ ["_law_data"] (SpD ⟨K, w, (fun n => match n with | 0 => f_character | 1 => f_position | 2 => f_fail | 3 => f_digit_of | 4 => f_after_block_comment | 5 => f_after_line | 6 => f_after_blanks | 7 => f_string_character | 8 => f_read_string_byte | 9 => f_read_string | 10 => f_after_word | 11 => f_read_token | 12 => f_tokens_of | 13 => f_print_byte | 14 => f_print_string | 15 => f_l_char | 16 => f_l_alike | 17 => f_l_bytes | 18 => f_l_due | 1000 => c_HostError | 1001 => c_ParseError | 2001 => fi_ParseError | _ => 0)⟩ m_l_due) := ⟨ok_l_due (ad := (fun n => match n with | 0 => f_character | 1 => f_position | 2 => f_fail | 3 => f_digit_of | 4 => f_after_block_comment | 5 => f_after_line | 6 => f_after_blanks | 7 => f_string_character | 8 => f_read_string_byte | 9 => f_read_string | 10 => f_after_word | 11 => f_read_token | 12 => f_tokens_of | 13 => f_print_byte | 14 => f_print_string | 15 => f_l_char | 16 => f_l_alike | 17 => f_l_bytes | 18 => f_l_due | 1000 => c_HostError | 1001 => c_ParseError | 2001 => fi_ParseError | _ => 0)) F_l_due T O_l_char, PySem.W.mg_of X G a_l_due, F_l_due.kp, b_l_due⟩
  exact Lk23.ok_law (ad := (fun n => match n with | 0 => f_character | 1 => f_position | 2 => f_fail | 3 => f_digit_of | 4 => f_after_block_comment | 5 => f_after_line | 6 => f_after_blanks | 7 => f_string_character | 8 => f_read_string_byte | 9 => f_read_string | 10 => f_after_word | 11 => f_read_token | 12 => f_tokens_of | 13 => f_print_byte | 14 => f_print_string | 15 => f_l_char | 16 => f_l_alike | 17 => f_l_bytes | 18 => f_l_due | 1000 => c_HostError | 1001 => c_ParseError | 2001 => fi_ParseError | _ => 0)) F_law T O_tokens_of O_print_string O_l_alike O_l_bytes O_l_due
end Lk23
set_option Elab.async false
set_option linter.all false
set_option maxRecDepth 100000
set_option maxHeartbeats 4000000

open PySem PySem.W PyProof.Rows
local macro_rules | `(tactic| walk_at "keysLit3") => `(tactic| first | exact True.intro | (refine ⟨⟨_, rfl⟩, rfl, ?_, ?_⟩; (first | exact ⟨_, rfl⟩ | exact rfl); walk_at "keysLit3"))
set_option maxRecDepth 100000 in
set_option maxHeartbeats 0 in
theorem PySem.Challenge.cw_wasmhost_k23_strings_come_back_holds : PySem.Challenge.rw_wasmhost_k23_strings_come_back.Holds := by
  w_on; o_law; k_head; (case hw => w_witness2)
  k_fill
  refine L2.walk_ofK (l := PySem.Challenge.rw_wasmhost_k23_strings_come_back) (n := 63) (k := 10) (x := "_law_script") (CX := L2.CX0) (sp := Dm.sp_law) rfl (by decide) rfl ⟨rfl, by decide, by decide⟩ (fun w h Y => PySem.W.kIn_of Y) ?F (fun K H a ns hl _ hS => Dm.law_in hl hS) (fun _ _ _ _ h => h)
  case F =>
    intro w mg fa h KX G hmg
    refine' Lk23.all_mk KX G hmg ?a_character ?l_character ?c_character ?k_character ?a_position ?l_position ?c_position ?k_position ?a_fail ?l_fail ?c_fail ?k_fail ?a_digit_of ?l_digit_of ?c_digit_of ?k_digit_of ?a_after_block_comment ?l_after_block_comment ?c_after_block_comment ?k_after_block_comment ?a_after_line ?l_after_line ?c_after_line ?k_after_line ?a_after_blanks ?l_after_blanks ?c_after_blanks ?k_after_blanks ?a_string_character ?l_string_character ?c_string_character ?k_string_character ?a_read_string_byte ?l_read_string_byte ?c_read_string_byte ?k_read_string_byte ?a_read_string ?l_read_string ?c_read_string ?k_read_string ?a_after_word ?l_after_word ?c_after_word ?k_after_word ?a_read_token ?l_read_token ?c_read_token ?k_read_token ?a_tokens_of ?l_tokens_of ?c_tokens_of ?k_tokens_of ?a_print_byte ?l_print_byte ?c_print_byte ?k_print_byte ?a_print_string ?l_print_string ?c_print_string ?k_print_string ?a_l_char ?l_l_char ?c_l_char ?k_l_char ?a_l_alike ?l_l_alike ?c_l_alike ?k_l_alike ?a_l_bytes ?l_l_bytes ?c_l_bytes ?k_l_bytes ?a_l_due ?l_l_due ?c_l_due ?k_l_due ?a_law ?l_law ?c_law ?k_law ?z_bool ?z_int ?z_isinstance ?z_len ?z_list ?z_ord ?z_range ?z_str ?z_tuple ?v_APART ?v_CHARACTERS ?kd_CHARACTERS ?v_DIGITS ?m_ESCAPES ?l_ESCAPES ?en_ESCAPES ?lo_ESCAPES ?v_MOST_CHARACTERS ?cg_HostError ?cg_ParseError ?kc_ParseError ?eb_ParseError ?ty_ParseError ?ga_ParseError ?gg_ParseError ?xL_ParseError ?sa_ParseError ?nf0_ParseError ?nf1_ParseError ?nf2_ParseError ?ii_ParseError ?ti_ParseError ?hd_ParseError ?l_init_ParseError ?c_init_ParseError ?k_init_ParseError
    (case a_character => k_is)
    (case l_character => k_is)
    (case c_character => k_is)
    (case k_character => k_is)
    (case a_position => k_is)
    (case l_position => k_is)
    (case c_position => k_is)
    (case k_position => k_is)
    (case a_fail => k_is)
    (case l_fail => k_is)
    (case c_fail => k_is)
    (case k_fail => k_is)
    (case a_digit_of => k_is)
    (case l_digit_of => k_is)
    (case c_digit_of => k_is)
    (case k_digit_of => k_is)
    (case a_after_block_comment => k_is)
    (case l_after_block_comment => k_is)
    (case c_after_block_comment => k_is)
    (case k_after_block_comment => k_is)
    (case a_after_line => k_is)
    (case l_after_line => k_is)
    (case c_after_line => k_is)
    (case k_after_line => k_is)
    (case a_after_blanks => k_is)
    (case l_after_blanks => k_is)
    (case c_after_blanks => k_is)
    (case k_after_blanks => k_is)
    (case a_string_character => k_is)
    (case l_string_character => k_is)
    (case c_string_character => k_is)
    (case k_string_character => k_is)
    (case a_read_string_byte => k_is)
    (case l_read_string_byte => k_is)
    (case c_read_string_byte => k_is)
    (case k_read_string_byte => k_is)
    (case a_read_string => k_is)
    (case l_read_string => k_is)
    (case c_read_string => k_is)
    (case k_read_string => k_is)
    (case a_after_word => k_is)
    (case l_after_word => k_is)
    (case c_after_word => k_is)
    (case k_after_word => k_is)
    (case a_read_token => k_is)
    (case l_read_token => k_is)
    (case c_read_token => k_is)
    (case k_read_token => k_is)
    (case a_tokens_of => k_is)
    (case l_tokens_of => k_is)
    (case c_tokens_of => k_is)
    (case k_tokens_of => k_is)
    (case a_print_byte => k_is)
    (case l_print_byte => k_is)
    (case c_print_byte => k_is)
    (case k_print_byte => k_is)
    (case a_print_string => k_is)
    (case l_print_string => k_is)
    (case c_print_string => k_is)
    (case k_print_string => k_is)
    (case a_l_char => k_is)
    (case l_l_char => k_is)
    (case c_l_char => k_is)
    (case k_l_char => k_is)
    (case a_l_alike => k_is)
    (case l_l_alike => k_is)
    (case c_l_alike => k_is)
    (case k_l_alike => k_is)
    (case a_l_bytes => k_is)
    (case l_l_bytes => k_is)
    (case c_l_bytes => k_is)
    (case k_l_bytes => k_is)
    (case a_l_due => k_is)
    (case l_l_due => k_is)
    (case c_l_due => k_is)
    (case k_l_due => k_is)
    (case a_law => k_is)
    (case l_law => k_is)
    (case c_law => k_is)
    (case k_law => k_is)
    (case z_bool => k_is)
    (case z_int => k_is)
    (case z_isinstance => k_is)
    (case z_len => k_is)
    (case z_list => k_is)
    (case z_ord => k_is)
    (case z_range => k_is)
    (case z_str => k_is)
    (case z_tuple => k_is)
    (case v_APART => k_is)
    (case v_CHARACTERS => k_is)
    (case kd_CHARACTERS => first | rfl | decide +kernel)
    (case v_DIGITS => k_is)
    (case m_ESCAPES => k_is)
    (case l_ESCAPES => k_is)
    (case en_ESCAPES => walk_at "keysLit3")
    (case lo_ESCAPES => first | rfl | decide)
    (case v_MOST_CHARACTERS => k_is)
    (case cg_HostError => k_is)
    (case cg_ParseError => k_is)
    (case kc_ParseError => k_is)
    (case eb_ParseError => k_is)
    (case ty_ParseError => k_is)
    (case ga_ParseError => k_is)
    (case gg_ParseError => k_is)
    (case xL_ParseError => k_is)
    (case sa_ParseError => k_is)
    (case nf0_ParseError => k_is)
    (case nf1_ParseError => k_is)
    (case nf2_ParseError => k_is)
    (case ii_ParseError => k_is)
    (case ti_ParseError => k_is)
    (case hd_ParseError => k_is)
    (case l_init_ParseError => k_is)
    (case c_init_ParseError => k_is)
    (case k_init_ParseError => k_is)
