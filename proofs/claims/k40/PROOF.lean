import PyProof.Rows.All
import Wide.All
import OpenK.AllK
import Wide.FinOn
import HandS.ForMost
import HandS.Evl
import HandS.IsInst
import HandS.Flow
import HandS.More
import HandS.Zip
import HandS.CallLocal
import HandS.Style
import HandS.Wide
import HandS.ForExc
import HandS.ExcInit
import HandS.ExcField
import HandS.ExcCtx
import HandS.HotCalls
import HandS.StrMore
import HandS.WideBits
import HandS.TupAny
import HandS.Walk
import HandS.Rev
import KE.KExcIs
import HandS.Strs
import PyProof.Rows.SortShellAny
import HandS.MakeKw
import HandS.Dict
import HandS.MakeKwOnly
import KE.GoesMore
import KE.GoesEnum
import HandS.TryMany
import HandS.SortInts
import HandS.DictComp
import HandS.Codes
import PySem.Challenge.RW_wasmhost_k40_memory_is_an_array
set_option Elab.async false
set_option linter.all false
set_option maxRecDepth 100000
set_option maxHeartbeats 4000000
/-! My own layer over HandS.Evl: statements relative to a ground heap, tests as propositions. -/
namespace Wm
open PySem L2 Evl RZ
/-- a call's promise of a new tuple -/
def SpU (sp : Sp) (vs : List V) (H : Hp) (xs : List V) : Prop := ∀ H1, Ex H H1 → ∀ Q : VK, (∀ p H2, H1 p = none → Ex H1 H2 → H2 p = some (.tup xs) → Q (.ref p) H2) → ∀ E : XK, sp vs H1 Q E
/-- a test, told by a proposition -/
def EtP (t : TT) (σ : L2.St) (H : Hp) (p : Prop) : Prop := ∃ b : Bool, (b = true ↔ p) ∧ EvT t σ H b
section
variable {K : PySem.W.Frag} {σ : L2.St} {H H0 H1 H' : Hp} {ta tb tc te tx : TE} {t u : TT} {x y z v : V} {r : R2} {D : Ends} {tu tw tz : TS} {p q : Prop} {g : TG}
theorem EtP.mono (e : Ex H H') (h : EtP t σ H p) : EtP t σ H' p := by
  obtain ⟨b, hb, h⟩ := h
  exact ⟨b, hb, h.mono e⟩
theorem EtP.to (h : EtP t σ H p) (e : p ↔ q) : EtP t σ H q := by
  obtain ⟨b, hb, h⟩ := h
  exact ⟨b, hb.trans e, h⟩
theorem ep_val {b : Bool} (h : Ev te σ H (.bl b)) : EtP (tB te) σ H (b = true) := ⟨b, Iff.rfl, et_B h⟩
theorem ep_test {b : Bool} (h : Ev te σ H (.bl b)) : EtP (tTest te) σ H (b = true) := ⟨b, Iff.rfl, et_test h⟩
theorem ep_dec {p : Prop} [Decidable p] (h : Ev te σ H (.bl (decide p))) : EtP (tTest te) σ H p := ⟨decide p, decide_eq_true_iff, et_test h⟩
theorem ep_ndec {p : Prop} [Decidable p] (h : Ev te σ H (.bl (!decide p))) : EtP (tTest te) σ H (¬ p) := ⟨!decide p, by simp, et_test h⟩
theorem ep_and (h1 : EtP t σ H p) (h2 : p → EtP u σ H q) : EtP (tAnd t u) σ H (p ∧ q) := by
  obtain ⟨a, ha, h1⟩ := h1
  by_cases hp : p
  · obtain ⟨b, hb, h2⟩ := h2 hp
    exact ⟨a && b, by rw [Bool.and_eq_true, ha, hb], et_and h1 fun _ => h2⟩
  · have e : a = false := by
      cases a with
      | true => exact absurd (ha.mp rfl) hp
      | false => rfl
    subst e
    refine ⟨false && false, ⟨fun z => (by cases z), fun z => absurd z.1 hp⟩, et_and h1 fun z => (by cases z)⟩
theorem ep_or (h1 : EtP t σ H p) (h2 : ¬ p → EtP u σ H q) : EtP (tOr t u) σ H (p ∨ q) := by
  obtain ⟨a, ha, h1⟩ := h1
  by_cases hp : p
  · have e : a = true := ha.mpr hp
    subst e
    refine ⟨true || false, ⟨fun _ => Or.inl hp, fun _ => rfl⟩, et_or h1 fun z => (by cases z)⟩
  · obtain ⟨b, hb, h2⟩ := h2 hp
    exact ⟨a || b, by rw [Bool.or_eq_true, ha, hb], et_or h1 fun _ => h2⟩
theorem ep_not (h1 : EtP t σ H p) : EtP (tNot t) σ H (¬ p) := by
  obtain ⟨a, ha, h1⟩ := h1
  refine ⟨!a, ?_, et_not h1⟩
  rw [← ha]
  cases a <;> simp
/-! values -/
theorem rv_eqI {i j : Int} : RV rEq (.int i) (.int j) H (.bl (decide (i = j))) := fun H1 _ Q q => ⟨rfl, by
  have e : decide (V.int i = V.int j) = decide (i = j) := by
    by_cases h : i = j
    · subst h; simp
    · rw [decide_eq_false h, decide_eq_false fun z => h (V.int.inj z)]
  rw [e]
  exact q H1 (Ex.refl H1)⟩
theorem rv_neI {i j : Int} : RV rNe (.int i) (.int j) H (.bl (!decide (i = j))) := fun H1 _ Q q => ⟨rfl, by
  have e : decide (V.int i = V.int j) = decide (i = j) := by
    by_cases h : i = j
    · subst h; simp
    · rw [decide_eq_false h, decide_eq_false fun z => h (V.int.inj z)]
  rw [e]
  exact q H1 (Ex.refl H1)⟩
theorem rv_eqS {i j : Str} : RV rEq (.str i) (.str j) H (.bl (decide (i = j))) := fun H1 _ Q q => ⟨rfl, by
  have e : decide (V.str i = V.str j) = decide (i = j) := by
    by_cases h : i = j
    · subst h; simp
    · rw [decide_eq_false h, decide_eq_false fun z => h (V.str.inj z)]
  rw [e]
  exact q H1 (Ex.refl H1)⟩
theorem rv_neS {i j : Str} : RV rNe (.str i) (.str j) H (.bl (!decide (i = j))) := fun H1 _ Q q => ⟨rfl, by
  have e : decide (V.str i = V.str j) = decide (i = j) := by
    by_cases h : i = j
    · subst h; simp
    · rw [decide_eq_false h, decide_eq_false fun z => h (V.str.inj z)]
  rw [e]
  exact q H1 (Ex.refl H1)⟩
theorem rv_eqB {i j : Bool} : RV rEq (.bl i) (.bl j) H (.bl (decide (i = j))) := fun H1 _ Q q => ⟨rfl, by
  have e : decide (V.bl i = V.bl j) = decide (i = j) := by
    by_cases h : i = j
    · subst h; simp
    · rw [decide_eq_false h, decide_eq_false fun z => h (V.bl.inj z)]
  rw [e]
  exact q H1 (Ex.refl H1)⟩
def rAddS2 : R2 := fun x y H Q => ∃ i j, x = .str i ∧ y = .str j ∧ i.length + j.length ≤ sizeLine ∧ Q (.str (i ++ j)) H
theorem rv_addS {i j : Str} (h : i.length + j.length ≤ 100000) : RV rAddS2 (.str i) (.str j) H (.str (i ++ j)) := fun H1 _ Q q => ⟨i, j, rfl, rfl, sz_of h, q H1 (Ex.refl H1)⟩
theorem flat_strs : ∀ l : List Str, (l.map V.str).all flatV = true
  | [] => rfl
  | _ :: r => by
    show (true && (r.map V.str).all flatV) = true
    rw [flat_strs r]
    rfl
theorem inV_strs (z : Str) : ∀ l : List Str, inV (.str z) (l.map V.str) = decide (z ∈ l)
  | [] => rfl
  | y :: r => by
    have ih := inV_strs z r
    unfold inV at ih ⊢
    rw [List.map_cons, List.any_cons, ih]
    have e : eqV (.str y) (.str z) = decide (y = z) := by
      unfold eqV
      first | rfl | simp
    rw [e]
    by_cases h : y = z
    · subst h; simp
    · have h2 : ¬ z = y := fun q => h q.symm
      simp [h, h2]
theorem rv_inTS {p : Addr} {z : Str} {ns : List Str} (h : SqT K H p (ns.map V.str)) : RV (rIn K false) (.str z) (.ref p) H (.bl (decide (z ∈ ns))) := by
  have q := rv_isT (x := .str z) h rfl (flat_strs ns)
  rw [inV_strs] at q
  exact q
theorem rv_niTS {p : Addr} {z : Str} {ns : List Str} (h : SqT K H p (ns.map V.str)) : RV (rIn K true) (.str z) (.ref p) H (.bl (!decide (z ∈ ns))) := by
  have q := rv_niT (x := .str z) h rfl (flat_strs ns)
  rw [inV_strs] at q
  exact q
theorem rv_inLS {p : Addr} {z : Str} {ns : List Str} (h : SqL K H p (ns.map V.str)) : RV (rIn K false) (.str z) (.ref p) H (.bl (decide (z ∈ ns))) := by
  have q := rv_isL (x := .str z) h rfl (flat_strs ns)
  rw [inV_strs] at q
  exact q
/-- if-expressions, chains -/
theorem ev_ifP {a b : V} (h : EtP t σ H p) (h1 : p → Ev ta σ H a) (h2 : ¬ p → Ev tb σ H b) [Decidable p] : Ev (tIf t ta tb) σ H (if p then a else b) := by
  obtain ⟨c, hc, h⟩ := h
  refine ev_if h (fun e => ?_) (fun e => ?_)
  · rw [if_pos (hc.mp e)]
    exact h1 (hc.mp e)
  · have hp : ¬ p := fun z => by
      have := hc.mpr z
      rw [e] at this
      cases this
    rw [if_neg hp]
    exact h2 hp
theorem ev_chain {r r' : R2} {a b : Bool} (ha : Ev ta σ H x) (hb : Ev tb σ H y) (hr : RV r x y H (.bl a)) (hc : a = true → Ev tc σ H z) (hr' : a = true → RV r' y z H (.bl b)) : Ev (tChain r r' ta tb tc) σ H (.bl (a && b)) := fun H1 e Q q =>
  ha H1 e _ fun H2 e2 => hb H2 (e.trans e2) _ fun H3 e3 => hr H3 ((e.trans e2).trans e3) _ fun H4 e4 => ⟨a, rfl, by
    cases a with
    | true =>
      rw [if_pos rfl]
      exact hc rfl H4 (((e.trans e2).trans e3).trans e4) _ fun H5 e5 => hr' rfl H5 ((((e.trans e2).trans e3).trans e4).trans e5) Q fun H6 e6 => q H6 ((((e2.trans e3).trans e4).trans e5).trans e6)
    | false =>
      rw [if_neg Bool.false_ne_true]
      exact q H4 ((e2.trans e3).trans e4)⟩
theorem ep_chain {r r' : R2} {p q : Prop} [Decidable p] [Decidable q] (ha : Ev ta σ H x) (hb : Ev tb σ H y) (hr : RV r x y H (.bl (decide p))) (hc : p → Ev tc σ H z) (hr' : p → RV r' y z H (.bl (decide q))) : EtP (tTest (tChain r r' ta tb tc)) σ H (p ∧ q) :=
  ⟨decide p && decide q, by simp, et_test (ev_chain ha hb hr (fun e => hc (of_decide_eq_true e)) (fun e => hr' (of_decide_eq_true e)))⟩
/-! built-ins -/
def rInt1 : List V → Hp → VK → Prop := fun xs H Q => (∃ i, xs = [.int i] ∧ Q (.int i) H) ∨ ∃ k, xs = [.bl k] ∧ Q (.int (if k then 1 else 0)) H
theorem ev_int {i : Int} (h : Ev ta σ H (.int i)) : Ev (tCB rInt1 (tCons ta tNil)) σ H (.int i) := fun H1 e Q q => h H1 e _ fun H2 e2 => Or.inl ⟨i, rfl, q H2 e2⟩
theorem ev_intB {b : Bool} (h : Ev ta σ H (.bl b)) : Ev (tCB rInt1 (tCons ta tNil)) σ H (.int (if b then 1 else 0)) := fun H1 e Q q => h H1 e _ fun H2 e2 => Or.inr ⟨b, rfl, q H2 e2⟩
def rStrI : List V → Hp → VK → Prop := fun xs H Q => ∃ i, xs = [.int i] ∧ i.natAbs.log2 < 1920 ∧ Q (.str (toString i)) H
theorem ev_str {i : Int} (h : Ev ta σ H (.int i)) (hz : i.natAbs.log2 < 1920) : Ev (tCB rStrI (tCons ta tNil)) σ H (.str (toString i)) := fun H1 e Q q => h H1 e _ fun H2 e2 => ⟨i, rfl, hz, q H2 e2⟩
def rAbs1 : List V → Hp → VK → Prop := fun xs H Q => ∃ i, xs = [.int i] ∧ Q (.int (if i < 0 then -i else i)) H
theorem ev_abs {i : Int} (h : Ev ta σ H (.int i)) : Ev (tCB rAbs1 (tCons ta tNil)) σ H (.int (if i < 0 then -i else i)) := fun H1 e Q q => h H1 e _ fun H2 e2 => ⟨i, rfl, q H2 e2⟩
def rMin2 : List V → Hp → VK → Prop := fun xs H Q => ∃ i j, xs = [.int i, .int j] ∧ Q (.int (if j < i then j else i)) H
theorem ev_min2 {i j : Int} (ha : Ev ta σ H (.int i)) (hb : Ev tb σ H (.int j)) : Ev (tCB rMin2 (tCons ta (tCons tb tNil))) σ H (.int (if j < i then j else i)) := fun H1 e Q q =>
  ha H1 e _ fun H2 e2 => hb H2 (e.trans e2) _ fun H3 e3 => ⟨i, j, rfl, q H3 (e2.trans e3)⟩
def rLenS1 : List V → Hp → VK → Prop := fun xs H Q => ∃ z, xs = [.str z] ∧ z.length ≤ sizeLine ∧ Q (.int z.length) H
theorem ev_lenS {z : Str} (h : Ev ta σ H (.str z)) (hz : z.length ≤ 100000) : Ev (tCB rLenS1 (tCons ta tNil)) σ H (.int z.length) := fun H1 e Q q => h H1 e _ fun H2 e2 => ⟨z, rfl, sz_of hz, q H2 e2⟩
theorem ev_lenT {p : Addr} {xs : List V} (ha : Ev ta σ H (.ref p)) (h : SqT K H p xs) : Ev (tCB (rLenS K) (tCons ta tNil)) σ H (.int (xs.length : Int)) := fun H1 e Q q =>
  ha H1 e _ fun H2 e2 => ⟨p, xs, rfl, Or.inr (ex_t (e.trans e2) h), q H2 e2⟩
/-- isinstance of a value and a class -/
theorem ev_isi {c : V} {ty u : Value} {b : Bool} (ha : Ev ta σ H x) (hb : Ev tb σ H c) (k : ClsV c u) (ht : ∀ H1, Ex H H1 → TyX K H1 x ty) (hk : PySem.W.kitOne K ty u = some b) : Ev (tCB (rIsi K) (tCons ta (tCons tb tNil))) σ H (.bl b) := fun H1 e Q q =>
  ha H1 e _ fun H2 e2 => hb H2 (e.trans e2) _ fun H3 e3 => ⟨x, c, ty, u, b, rfl, k, ht H3 ((e.trans e2).trans e3), hk, q H3 (e2.trans e3)⟩
theorem ty_int {i : Int} : ∀ H1, Ex H H1 → TyX K H1 (.int i) (.type "int") := fun _ _ => .base (.int i)
theorem ty_bl {b : Bool} : ∀ H1, Ex H H1 → TyX K H1 (.bl b) (.type "bool") := fun _ _ => .base (.bl b)
theorem ty_str {i : Str} : ∀ H1, Ex H H1 → TyX K H1 (.str i) (.type "str") := fun _ _ => .base (.str i)
theorem ty_non : ∀ H1, Ex H H1 → TyX K H1 .non (.type "NoneType") := fun _ _ => .base .non
theorem ev_lenI {p : Addr} {ns : List Int} (ha : Ev ta σ H (.ref p)) (h : SqL K H p (ns.map V.int)) : Ev (tCB (rLenS K) (tCons ta tNil)) σ H (.int (ns.length : Int)) := by
  have q := ev_len ha h
  rw [List.length_map] at q
  exact q
theorem ev_lenTI {p : Addr} {ns : List Int} (ha : Ev ta σ H (.ref p)) (h : SqT K H p (ns.map V.int)) : Ev (tCB (rLenS K) (tCons ta tNil)) σ H (.int (ns.length : Int)) := by
  have q := ev_lenT ha h
  rw [List.length_map] at q
  exact q
/-! lists of ints compared -/
theorem lay_ints : ∀ ns : List Int, PyData.canLayAll0 (ns.map PyData.int) = true
  | [] => rfl
  | n :: r => by
    show (PyData.canLay0 (.int n) && PyData.canLayAll0 (r.map PyData.int)) = true
    rw [lay_ints r]
    rfl
theorem depth_ints : ∀ ns : List Int, PyData.depthAll (ns.map PyData.int) = 0
  | [] => rfl
  | n :: r => by
    show max (PyData.depth (.int n)) (PyData.depthAll (r.map PyData.int)) = 0
    rw [depth_ints r]
    rfl
theorem eqv_ints : ∀ ns ms : List Int, PyData.eqvAll (ns.map PyData.int) (ms.map PyData.int) = decide (ns = ms)
  | [], [] => rfl
  | [], _ :: _ => rfl
  | _ :: _, [] => rfl
  | n :: r, m :: t => by
    show (n == m && PyData.eqvAll (r.map PyData.int) (t.map PyData.int)) = _
    rw [eqv_ints r t]
    by_cases h : n = m
    · subst h; simp
    · simp [h]
theorem shaped_ints (ns : List Int) : SeqAt.shaped (.list (ns.map PyData.int)) = true := by
  unfold SeqAt.shaped
  rw [Bool.and_eq_true]
  refine ⟨lay_ints ns, decide_eq_true ?_⟩
  show PyData.depthAll (ns.map PyData.int) + 1 ≤ 64
  rw [depth_ints]
  decide
theorem dp_ints : ∀ ns : List Int, DpAll K H (ns.map V.int) (ns.map PyData.int)
  | [] => .nil
  | n :: r => .cons (.int n) (dp_ints r)
theorem rv_eqDI {p q : Addr} {ns ms : List Int} (h1 : SqL K H p (ns.map V.int)) (h2 : SqL K H q (ms.map V.int)) : RV (rEqD K) (.ref p) (.ref q) H (.bl (decide (ns = ms))) := fun H1 e Q k =>
  ⟨_, _, .lst (ex_l e h1) (dp_ints ns), .lst (ex_l e h2) (dp_ints ms), shaped_ints ns, shaped_ints ms, by
    show Q (.bl (PyData.eqvAll _ _)) H1
    rw [eqv_ints]
    exact k H1 (Ex.refl H1)⟩
theorem rv_neDI {p q : Addr} {ns ms : List Int} (h1 : SqL K H p (ns.map V.int)) (h2 : SqL K H q (ms.map V.int)) : RV (rNeD K) (.ref p) (.ref q) H (.bl (!decide (ns = ms))) := fun H1 e Q k =>
  ⟨_, _, .lst (ex_l e h1) (dp_ints ns), .lst (ex_l e h2) (dp_ints ms), shaped_ints ns, shaped_ints ms, by
    show Q (.bl (!PyData.eqvAll _ _)) H1
    rw [eqv_ints]
    exact k H1 (Ex.refl H1)⟩
theorem cutV_mid (xs : List V) (a b : Nat) : cutV xs (some (a : Int)) (some (b : Int)) = (xs.drop a).take (b - a) := by
  unfold cutV
  rw [HT.sIx_nat, HT.sIx_nat]
  by_cases h : a ≤ xs.length
  · have e1 : min a xs.length = a := by omega
    rw [e1]
    by_cases g : b ≤ xs.length
    · have e2 : min b xs.length = b := by omega
      rw [e2]
    · have e2 : min b xs.length = xs.length := by omega
      rw [e2, List.take_of_length_le (by rw [List.length_drop]; omega), List.take_of_length_le (by rw [List.length_drop]; omega)]
  · have e1 : min a xs.length = xs.length := by omega
    rw [e1, List.drop_of_length_le (Nat.le_refl _), List.drop_of_length_le (show xs.length ≤ a by omega), List.take_nil, List.take_nil]
/-! a list or a tuple -/
theorem q_mv {P : Hp → Prop} (e : Ex H H') (q : ∀ H1, Ex H H1 → P H1) : ∀ H1, Ex H' H1 → P H1 := fun H1 e1 => q H1 (e.trans e1)
theorem q_mvL {P : Addr → Hp → Prop} {o : HO} (e : Ex H H') (q : ∀ p H1, H p = none → Ex H H1 → H1 p = some o → P p H1) : ∀ p H1, H' p = none → Ex H' H1 → H1 p = some o → P p H1 := fun p H1 hp e1 h1 => q p H1 (fresh_back e hp) (e.trans e1) h1
theorem ty_list {a : Addr} {xs : List V} (h : H a = some (.lst xs)) : ∀ H1, Ex H H1 → TyX K H1 (.ref a) (.type "list") := fun H1 e => .base (.lst (e a _ h))
theorem ty_tup {a : Addr} {xs : List V} (h : H a = some (.tup xs)) : ∀ H1, Ex H H1 → TyX K H1 (.ref a) (.type "tuple") := fun H1 e => .base (.tup (e a _ h))
def SqQ (K : PySem.W.Frag) (H : Hp) (a : Addr) (xs : List V) : Prop := SqL K H a xs ∨ SqT K H a xs
theorem ex_q {a : Addr} {xs : List V} (e : Ex H H') (h : SqQ K H a xs) : SqQ K H' a xs := h.elim (fun z => Or.inl (ex_l e z)) fun z => Or.inr (ex_t e z)
theorem at_ints {ns : List Int} {i : Int} (h0 : 0 ≤ i) (h1 : i < (ns.length : Int)) : atI (ns.map V.int) i = some (.int (ns.getD i.toNat 0)) := by
  obtain ⟨j, rfl⟩ : ∃ j : Nat, i = (j : Int) := ⟨i.toNat, by omega⟩
  have hj : j < ns.length := by omega
  refine atI_nat ?_
  rw [List.getElem?_map, List.getElem?_eq_getElem hj]
  show some (V.int ns[j]) = some (V.int (ns.getD ((j : Int).toNat) 0))
  rw [Int.toNat_natCast, List.getD_eq_getElem?_getD, List.getElem?_eq_getElem hj]
  rfl
theorem rv_ixQI {p : Addr} {ns : List Int} {i : Int} (h : SqQ K H p (ns.map V.int)) (h0 : 0 ≤ i) (h1 : i < (ns.length : Int)) : RV (rIx K) (.ref p) (.int i) H (.int (ns.getD i.toNat 0)) := fun H1 e Q q =>
  h.elim (fun z => Or.inl ⟨p, _, i, _, rfl, rfl, ex_l e z, at_ints h0 h1, q H1 (Ex.refl H1)⟩) fun z => Or.inr (Or.inl ⟨p, _, i, _, rfl, rfl, ex_t e z, at_ints h0 h1, q H1 (Ex.refl H1)⟩)
theorem ev_lenQ {p : Addr} {xs : List V} (ha : Ev ta σ H (.ref p)) (h : SqQ K H p xs) : Ev (tCB (rLenS K) (tCons ta tNil)) σ H (.int (xs.length : Int)) := fun H1 e Q q =>
  ha H1 e _ fun H2 e2 => ⟨p, xs, rfl, h.elim (fun z => Or.inl (ex_l (e.trans e2) z)) fun z => Or.inr (ex_t (e.trans e2) z), q H2 e2⟩
theorem ev_lenQI {p : Addr} {ns : List Int} (ha : Ev ta σ H (.ref p)) (h : SqQ K H p (ns.map V.int)) : Ev (tCB (rLenS K) (tCons ta tNil)) σ H (.int (ns.length : Int)) := by
  have q := ev_lenQ ha h
  rw [List.length_map] at q
  exact q
theorem el_listQ {p : Addr} {xs : List V} (ha : Ev ta σ H (.ref p)) (h : SqQ K H p xs) : EvL (tCB (rListS K) (tCons ta tNil)) σ H xs := fun H1 e Q q =>
  ha H1 e _ fun H2 e2 => ⟨p, xs, rfl, h.elim (fun z => Or.inl (ex_l (e.trans e2) z)) fun z => Or.inr (ex_t (e.trans e2) z), fun l hl => q l _ (fresh_back e2 hl) (e2.trans (Ex.new hl)) upd_same⟩
def rTupS (K : PySem.W.Frag) : List V → Hp → VK → Prop := fun xs H Q => ∃ p ys, xs = [.ref p] ∧ ((SqL K H p ys ∧ ∀ l, H l = none → Q (.ref l) (upd H l (.tup ys))) ∨ (SqT K H p ys ∧ Q (.ref p) H))
theorem eu_tupL {p : Addr} {xs : List V} (ha : Ev ta σ H (.ref p)) (h : SqL K H p xs) : EvU (tCB (rTupS K) (tCons ta tNil)) σ H xs := fun H1 e Q q =>
  ha H1 e _ fun H2 e2 => ⟨p, xs, rfl, Or.inl ⟨ex_l (e.trans e2) h, fun l hl => q l _ (fresh_back e2 hl) (e2.trans (Ex.new hl)) upd_same⟩⟩
theorem eu_tupN {xs : List V} (ha : EvL ta σ H xs) : EvU (tCB (rTupS K) (tCons ta tNil)) σ H xs := fun H1 e Q q =>
  ha H1 e _ fun p H2 _ e2 hp => ⟨p, xs, rfl, Or.inl ⟨sq_of hp, fun l hl => q l _ (fresh_back e2 hl) (e2.trans (Ex.new hl)) upd_same⟩⟩
theorem el_listN {xs : List V} (ha : EvL ta σ H xs) : EvL (tCB (rListS K) (tCons ta tNil)) σ H xs := fun H1 e Q q =>
  ha H1 e _ fun p H2 _ e2 hp => ⟨p, xs, rfl, Or.inl (sq_of hp), fun l hl => q l _ (fresh_back e2 hl) (e2.trans (Ex.new hl)) upd_same⟩
/-- a call whose one argument is a new list, a new tuple -/
theorem ev_call1L {sp : Sp} {xs : List V} {E : XK} (h : EvL ta σ H xs) (hs : ∀ p H1, Ex H H1 → H1 p = some (.lst xs) → SpV sp [.ref p] H1 z) : Ev (tCall sp [] E (tCons ta tNil)) σ H z := fun H1 e Q q =>
  h H1 e _ fun p H2 _ e2 hp => hs p H2 (e.trans e2) hp H2 (Ex.refl H2) Q (fun H3 e3 => q H3 (e2.trans e3)) E
theorem ev_call1U {sp : Sp} {xs : List V} {E : XK} (h : EvU ta σ H xs) (hs : ∀ p H1, Ex H H1 → H1 p = some (.tup xs) → SpV sp [.ref p] H1 z) : Ev (tCall sp [] E (tCons ta tNil)) σ H z := fun H1 e Q q =>
  h H1 e _ fun p H2 _ e2 hp => hs p H2 (e.trans e2) hp H2 (Ex.refl H2) Q (fun H3 e3 => q H3 (e2.trans e3)) E
/-- arguments some of which are new objects -/
def EvAX (ta : TA) (σ : L2.St) (H : Hp) (P : List V → Hp → Prop) : Prop := ∀ H1, Ex H H1 → ∀ Q : List V → Hp → Prop, (∀ vs H2, Ex H1 H2 → P vs H2 → Q vs H2) → ta σ H1 Q
theorem eax_nil : EvAX tNil σ H (fun vs _ => vs = []) := fun H1 _ _ q => q [] H1 (Ex.refl H1) rfl
theorem eax_V {tr : TA} {P : List V → Hp → Prop} (h : Ev ta σ H v) (hr : EvAX tr σ H P) : EvAX (tCons ta tr) σ H (fun vs H => ∃ r, vs = v :: r ∧ P r H) := fun H1 e Q q =>
  h H1 e _ fun H2 e2 => hr H2 (e.trans e2) _ fun vs H3 e3 hp => q _ H3 (e2.trans e3) ⟨vs, rfl, hp⟩
theorem eax_L {tr : TA} {P : List V → Hp → Prop} {xs : List V} (h : EvL ta σ H xs) (hr : EvAX tr σ H P) : EvAX (tCons ta tr) σ H (fun vs H => ∃ p r, vs = .ref p :: r ∧ H p = some (.lst xs) ∧ P r H) := fun H1 e Q q =>
  h H1 e _ fun p H2 _ e2 h2 => hr H2 (e.trans e2) _ fun vs H3 e3 hp => q _ H3 (e2.trans e3) ⟨p, vs, rfl, e3 _ _ h2, hp⟩
theorem eax_U {tr : TA} {P : List V → Hp → Prop} {xs : List V} (h : EvU ta σ H xs) (hr : EvAX tr σ H P) : EvAX (tCons ta tr) σ H (fun vs H => ∃ p r, vs = .ref p :: r ∧ H p = some (.tup xs) ∧ P r H) := fun H1 e Q q =>
  h H1 e _ fun p H2 _ e2 h2 => hr H2 (e.trans e2) _ fun vs H3 e3 hp => q _ H3 (e2.trans e3) ⟨p, vs, rfl, e3 _ _ h2, hp⟩
theorem ev_callX {sp : Sp} {P : List V → Hp → Prop} {E : XK} {tr : TA} (h : EvAX tr σ H P) (hs : ∀ vs H1, Ex H H1 → P vs H1 → SpV sp vs H1 z) : Ev (tCall sp [] E tr) σ H z := fun H1 e Q q =>
  h H1 e _ fun vs H2 e2 hp => by
    rw [List.append_nil]
    exact hs vs H2 (e.trans e2) hp H2 (Ex.refl H2) Q (fun H3 e3 => q H3 (e2.trans e3)) E
theorem el_callX {sp : Sp} {P : List V → Hp → Prop} {E : XK} {tr : TA} {xs : List V} (h : EvAX tr σ H P) (hs : ∀ vs H1, Ex H H1 → P vs H1 → SpL sp vs H1 xs) : EvL (tCall sp [] E tr) σ H xs := fun H1 e Q q =>
  h H1 e _ fun vs H2 e2 hp => by
    rw [List.append_nil]
    exact hs vs H2 (e.trans e2) hp H2 (Ex.refl H2) Q (fun p H3 h3 e3 g => q p H3 (fresh_back e2 h3) (e2.trans e3) g) E
theorem eu_callX {sp : Sp} {P : List V → Hp → Prop} {E : XK} {tr : TA} {xs : List V} (h : EvAX tr σ H P) (hs : ∀ vs H1, Ex H H1 → P vs H1 → SpU sp vs H1 xs) : EvU (tCall sp [] E tr) σ H xs := fun H1 e Q q =>
  h H1 e _ fun vs H2 e2 hp => by
    rw [List.append_nil]
    exact hs vs H2 (e.trans e2) hp H2 (Ex.refl H2) Q (fun p H3 h3 e3 g => q p H3 (fresh_back e2 h3) (e2.trans e3) g) E
/-! new tuples and lists from calls -/
theorem eu_call {sp : Sp} {dvs vs xs : List V} {E : XK} {ta : TA} (h : EvA ta σ H vs) (hs : SpU sp (vs ++ dvs) H xs) : EvU (tCall sp dvs E ta) σ H xs := fun H1 e Q q =>
  h H1 e _ fun H2 e2 => hs H2 (e.trans e2) Q (fun p H3 hp e3 h3 => q p H3 (fresh_back e2 hp) (e2.trans e3) h3) E
/-! ### statements relative to a ground heap H0 -/
theorem r_asg {i : Nat} (e : Ex H0 H1) (h : Ev te σ H0 v) (k : ∀ H2, Ex H0 H2 → Ex H1 H2 → tz D (σ.set i (some v)) H2) : tSeq (tAsg te (gName i)) tz D σ H1 := h H1 e _ fun H2 e2 => k H2 (e.trans e2) e2
/-- the value as a letter -/
theorem r_asgI {i : Nat} {z : Int} (e : Ex H0 H1) (h : Ev te σ H0 (.int z)) (k : ∀ n, n = z → ∀ H2, Ex H0 H2 → Ex H1 H2 → tz D (σ.set i (some (.int n))) H2) : tSeq (tAsg te (gName i)) tz D σ H1 := r_asg e h (k z rfl)
theorem r_asgS {i : Nat} {z : Str} (e : Ex H0 H1) (h : Ev te σ H0 (.str z)) (k : ∀ n, n = z → ∀ H2, Ex H0 H2 → Ex H1 H2 → tz D (σ.set i (some (.str n))) H2) : tSeq (tAsg te (gName i)) tz D σ H1 := r_asg e h (k z rfl)
theorem r_asgB {i : Nat} {z : Bool} (e : Ex H0 H1) (h : Ev te σ H0 (.bl z)) (k : ∀ n, n = z → ∀ H2, Ex H0 H2 → Ex H1 H2 → tz D (σ.set i (some (.bl n))) H2) : tSeq (tAsg te (gName i)) tz D σ H1 := r_asg e h (k z rfl)
/-- a new list, a new tuple: the ground moves on -/
theorem r_asgL {i : Nat} {xs : List V} (e : Ex H0 H1) (h : EvL te σ H0 xs) (k : ∀ p H2, H0 p = none → Ex H0 H2 → Ex H1 H2 → H2 p = some (.lst xs) → tz D (σ.set i (some (.ref p))) H2) : tSeq (tAsg te (gName i)) tz D σ H1 :=
  h H1 e _ fun p H2 hp e2 h2 => k p H2 (fresh_back e hp) (e.trans e2) e2 h2
theorem r_asgU {i : Nat} {xs : List V} (e : Ex H0 H1) (h : EvU te σ H0 xs) (k : ∀ p H2, H0 p = none → Ex H0 H2 → Ex H1 H2 → H2 p = some (.tup xs) → tz D (σ.set i (some (.ref p))) H2) : tSeq (tAsg te (gName i)) tz D σ H1 :=
  h H1 e _ fun p H2 hp e2 h2 => k p H2 (fresh_back e hp) (e.trans e2) e2 h2
theorem r_aug {i : Nat} {f : Int → Int → Int} {a b : Int} (e : Ex H0 H1) (hx : σ[i]? = some (some (.int a))) (h : Ev te σ H0 (.int b)) (k : ∀ H2, Ex H0 H2 → Ex H1 H2 → tz D (σ.set i (some (.int (f a b)))) H2) : tSeq (tAug i te (ipI f)) tz D σ H1 :=
  ⟨.int a, hx, h H1 e _ fun H2 e2 => ⟨a, b, rfl, rfl, k H2 (e.trans e2) e2⟩⟩
theorem r_if (e : Ex H0 H1) (h : EtP t σ H0 p) (h1 : p → ∀ H2, Ex H0 H2 → Ex H1 H2 → tu { D with nx := tz D } σ H2) (h2 : ¬ p → ∀ H2, Ex H0 H2 → Ex H1 H2 → tw { D with nx := tz D } σ H2) : tSeq (tIfS t tu tw) tz D σ H1 := by
  obtain ⟨b, hb, h⟩ := h
  refine h H1 e _ fun H2 e2 => ?_
  cases b with
  | true => exact h1 (hb.mp rfl) H2 (e.trans e2) e2
  | false => exact h2 (fun z => nomatch hb.mpr z) H2 (e.trans e2) e2
/-- an if without else whose way ends -/
theorem r_when (e : Ex H0 H1) (h : EtP t σ H0 p) (h1 : p → ∀ H2, Ex H0 H2 → Ex H1 H2 → tu { D with nx := tz D } σ H2) (h2 : ¬ p → ∀ H2, Ex H0 H2 → Ex H1 H2 → tz D σ H2) : tSeq (tIfS t tu tNext) tz D σ H1 := r_if e h h1 h2
/-- an if both of whose ways go on (its term: pss_cut): J tells the slots and the heap behind it -/
theorem r_ifJ (e : Ex H0 H1) (h : EtP t σ H0 p) (J : L2.St → Hp → Prop) (h1 : p → ∀ H2, Ex H0 H2 → Ex H1 H2 → tu { D with nx := J } σ H2) (h2 : ¬ p → ∀ H2, Ex H0 H2 → Ex H1 H2 → tw { D with nx := J } σ H2) (hd : ∀ σ' H', J σ' H' → tz D σ' H') : tCut (tIfS t tu tw) tz D σ H1 := by
  refine ⟨J, ?_, hd⟩
  obtain ⟨b, hb, h⟩ := h
  refine h H1 e _ fun H2 e2 => ?_
  cases b with
  | true => exact h1 (hb.mp rfl) H2 (e.trans e2) e2
  | false => exact h2 (fun z => nomatch hb.mpr z) H2 (e.trans e2) e2
theorem r_ret (e : Ex H0 H1) (h : Ev te σ H0 v) (k : ∀ H2, Ex H0 H2 → D.rt v H2) : tSeq (tRet te) tz D σ H1 := h H1 e _ fun H2 e2 => k H2 (e.trans e2)
theorem r_retL {xs : List V} (e : Ex H0 H1) (h : EvL te σ H0 xs) (k : ∀ p H2, H0 p = none → Ex H0 H2 → H2 p = some (.lst xs) → D.rt (.ref p) H2) : tSeq (tRet te) tz D σ H1 := h H1 e _ fun p H2 hp e2 h2 => k p H2 (fresh_back e hp) (e.trans e2) h2
theorem r_retU {xs : List V} (e : Ex H0 H1) (h : EvU te σ H0 xs) (k : ∀ p H2, H0 p = none → Ex H0 H2 → H2 p = some (.tup xs) → D.rt (.ref p) H2) : tSeq (tRet te) tz D σ H1 := h H1 e _ fun p H2 hp e2 h2 => k p H2 (fresh_back e hp) (e.trans e2) h2
/-- return of a new tuple some of whose items are new -/
theorem r_retT {ta : TA} {P : List V → Hp → Prop} (e : Ex H0 H1) (h : EvAX ta σ H0 P) (hz : ∀ vs H, P vs H → vs.length ≤ 100000) (k : ∀ vs p H2 H3, P vs H2 → Ex H0 H2 → Ex H2 H3 → H0 p = none → H3 p = some (.tup vs) → D.rt (.ref p) H3) : tSeq (tRet (tTup ta)) tz D σ H1 :=
  h H1 e _ fun vs H2 e2 hp => ⟨sz_of (hz vs H2 hp), fun p hn => k vs p H2 _ hp (e.trans e2) (Ex.new hn) (fresh_back (e.trans e2) hn) upd_same⟩
theorem r_drop (e : Ex H0 H1) (h : Ev te σ H0 v) (k : ∀ H2, Ex H0 H2 → Ex H1 H2 → tz D σ H2) : tSeq (tDrop te) tz D σ H1 := h H1 e _ fun H2 e2 => k H2 (e.trans e2) e2
theorem r_next (h : D.nx σ H) : tNext D σ H := h
theorem r_seq {t1 : TS} (h : t1 { D with nx := tz D } σ H) : tSeq t1 tz D σ H := h
/-- xs.append(e): the list is not in the ground -/
theorem r_app {l : Addr} {xs : List V} (e : Ex H0 H1) (hn : H0 l = none) (hl : H1 l = some (.lst xs)) (ha : Ev ta σ H0 (.ref l)) (h : Ev te σ H0 v) (hz : xs.length < 100000)
    (k : ∀ H2, Ex H0 H2 → H2 l = some (.lst (xs ++ [v])) → (∀ a o, a ≠ l → H1 a = some o → H2 a = some o) → tz D σ H2) : tSeq (tDrop (tBM K "list" rAppend ta (tCons te tNil))) tz D σ H1 := ha H1 e _ fun H2 e1 =>
  ⟨Or.inl ⟨rfl, xs, sq_of (e1 l _ hl)⟩, h H2 (e.trans e1) _ fun H3 e2 => ⟨l, xs, v, rfl, rfl, e2 l _ (e1 l _ hl), sz_lt hz, k _ (Ex.mut ((e.trans e1).trans e2) hn) upd_same fun a o ne ho => by
    rw [upd_ne ne]
    exact e2 a o (e1 a o ho)⟩⟩
theorem r_appM {α : Type} {f : α → V} {l : Addr} {ms : List α} {n : α} (e : Ex H0 H1) (hn : H0 l = none) (hl : H1 l = some (.lst (ms.map f))) (ha : Ev ta σ H0 (.ref l)) (h : Ev te σ H0 (f n)) (hz : ms.length < 100000)
    (k : ∀ H2, Ex H0 H2 → H2 l = some (.lst ((ms ++ [n]).map f)) → (∀ a o, a ≠ l → H1 a = some o → H2 a = some o) → tz D σ H2) : tSeq (tDrop (tBM K "list" rAppend ta (tCons te tNil))) tz D σ H1 :=
  r_app e hn hl ha h (by rw [List.length_map]; exact hz) fun H2 e2 h2 hk => k H2 e2 (by rw [List.map_append]; exact h2) hk
theorem r_appU {l : Addr} {xs ys : List V} (e : Ex H0 H1) (hn : H0 l = none) (hl : H1 l = some (.lst xs)) (ha : Ev ta σ H0 (.ref l)) (h : EvU te σ H0 ys) (hz : xs.length < 100000)
    (k : ∀ p H2, H1 p = none → p ≠ l → Ex H0 H2 → H2 l = some (.lst (xs ++ [.ref p])) → H2 p = some (.tup ys) → (∀ a o, a ≠ l → H1 a = some o → H2 a = some o) → tz D σ H2) : tSeq (tDrop (tBM K "list" rAppend ta (tCons te tNil))) tz D σ H1 := ha H1 e _ fun H2 e1 =>
  ⟨Or.inl ⟨rfl, xs, sq_of (e1 l _ hl)⟩, h H2 (e.trans e1) _ fun p H3 hp e2 h2 => by
    have ne : p ≠ l := fun z => by
      rw [z, e1 l _ hl] at hp
      cases hp
    refine ⟨l, xs, .ref p, rfl, rfl, e2 l _ (e1 l _ hl), sz_lt hz, k p _ (fresh_back e1 hp) ne (Ex.mut ((e.trans e1).trans e2) hn) upd_same (by rw [upd_ne ne]; exact h2) fun a o ne ho => ?_⟩
    rw [upd_ne ne]
    exact e2 a o (e1 a o ho)⟩
/-- a call that hands back a new list of which P holds -/
def EvLE (te : TE) (σ : L2.St) (H : Hp) (P : List V → Prop) : Prop := ∀ H1, Ex H H1 → ∀ Q : VK, (∀ p H2 xs, P xs → H1 p = none → Ex H1 H2 → H2 p = some (.lst xs) → Q (.ref p) H2) → te σ H1 Q
def SpLE (sp : Sp) (vs : List V) (H : Hp) (P : List V → Prop) : Prop := ∀ H1, Ex H H1 → ∀ Q : VK, (∀ p H2 xs, P xs → H1 p = none → Ex H1 H2 → H2 p = some (.lst xs) → Q (.ref p) H2) → ∀ E : XK, sp vs H1 Q E
theorem ele_call {sp : Sp} {dvs vs : List V} {P : List V → Prop} {E : XK} {ta : TA} (h : EvA ta σ H vs) (hs : SpLE sp (vs ++ dvs) H P) : EvLE (tCall sp dvs E ta) σ H P := fun H1 e Q q =>
  h H1 e _ fun H2 e2 => hs H2 (e.trans e2) Q (fun p H3 xs hx hp e3 h3 => q p H3 xs hx (fresh_back e2 hp) (e2.trans e3) h3) E
theorem r_asgLE {i : Nat} {P : List V → Prop} (e : Ex H0 H1) (h : EvLE te σ H0 P) (k : ∀ p H2 xs, P xs → H0 p = none → Ex H0 H2 → Ex H1 H2 → H2 p = some (.lst xs) → tz D (σ.set i (some (.ref p))) H2) : tSeq (tAsg te (gName i)) tz D σ H1 :=
  h H1 e _ fun p H2 xs hx hp e2 h2 => k p H2 xs hx (fresh_back e hp) (e.trans e2) e2 h2
/-- for a, b in zip(t, u) over two tuples -/
theorem r_forZT {a b : Addr} {xs ys : List V} {ta : TA} {j k : Nat} (e : Ex H0 H1) (h : EvA ta σ H0 [.ref a, .ref b]) (hl : xs.length = ys.length) (hx : SqT K H0 a xs) (hy : SqT K H0 b ys) (I : Nat → L2.St → Prop) (h0 : I 0 σ)
    (hs : ∀ (i : Nat) x y σ' H', xs[i]? = some x → ys[i]? = some y → I i σ' → Ex H0 H' → tu { D with nx := fun σ2 H2 => I (i + 1) σ2 ∧ Ex H0 H2, ct := fun σ2 H2 => I (i + 1) σ2 ∧ Ex H0 H2, bk := tz D } ((σ'.set j (some x)).set k (some y)) H')
    (hd : ∀ σ' H', I xs.length σ' → Ex H0 H' → tz D σ' H') : tSeq (tFor (iZipA K ta) (gTup K 2 (gCons (gName j) (gCons (gName k) gNil))) tu) tz D σ H1 :=
  h H1 e _ fun H2 e2 => ⟨a, b, xs, ys, rfl, Or.inr ⟨ex_t (e.trans e2) hx, ex_t (e.trans e2) hy, for_zipT (D := { D with nx := tz D }) hl (fun i σ' H' => I i σ' ∧ Ex H0 H') ⟨h0, e.trans e2⟩ (fun i σ' H' p => ⟨ex_t p.2 hx, ex_t p.2 hy⟩)
    (fun i x y T σ' H' hi hj p hT => ⟨T, [x, y], rfl, st_of upd_same, rfl, x, [y], rfl, y, [], rfl, rfl, hs i x y σ' _ hi hj p.1 (p.2.trans (Ex.new hT))⟩) fun σ' H' p => hd σ' H' p.1 p.2⟩⟩
theorem r_forZTM {α β : Type} {f : α → V} {g : β → V} {a b : Addr} {xs : List α} {ys : List β} {ta : TA} {j k : Nat} (e : Ex H0 H1) (h : EvA ta σ H0 [.ref a, .ref b]) (hl : xs.length = ys.length) (hx : SqT K H0 a (xs.map f)) (hy : SqT K H0 b (ys.map g)) (I : Nat → L2.St → Prop) (h0 : I 0 σ)
    (hs : ∀ (i : Nat) x y σ' H', xs[i]? = some x → ys[i]? = some y → I i σ' → Ex H0 H' → tu { D with nx := fun σ2 H2 => I (i + 1) σ2 ∧ Ex H0 H2, ct := fun σ2 H2 => I (i + 1) σ2 ∧ Ex H0 H2, bk := tz D } ((σ'.set j (some (f x))).set k (some (g y))) H')
    (hd : ∀ σ' H', I xs.length σ' → Ex H0 H' → tz D σ' H') : tSeq (tFor (iZipA K ta) (gTup K 2 (gCons (gName j) (gCons (gName k) gNil))) tu) tz D σ H1 :=
  r_forZT e h (by rw [List.length_map, List.length_map]; exact hl) hx hy I h0 (fun i x y σ' H' hi hj p e => by
    rw [List.getElem?_map] at hi hj
    cases c : xs[i]? with
    | none => rw [c] at hi; cases hi
    | some u =>
      cases d : ys[i]? with
      | none => rw [d] at hj; cases hj
      | some v =>
        rw [c] at hi
        rw [d] at hj
        obtain rfl : f u = x := Option.some.inj hi
        obtain rfl : g v = y := Option.some.inj hj
        exact hs i u v σ' H' c d p e) fun σ' H' p e => hd σ' H' (by rw [List.length_map] at p; exact p) e
/-- xs.pop() as a statement -/
theorem r_pop {l : Addr} {xs : List V} {y : V} (e : Ex H0 H1) (hn : H0 l = none) (hl : H1 l = some (.lst xs)) (ha : Ev ta σ H0 (.ref l)) (hy : xs[xs.length - 1]? = some y)
    (k : ∀ H2, Ex H0 H2 → H2 l = some (.lst xs.dropLast) → (∀ a o, a ≠ l → H1 a = some o → H2 a = some o) → tz D σ H2) : tSeq (tDrop (tBM0 K "list" rPop ta)) tz D σ H1 := ha H1 e _ fun H2 e1 =>
  ⟨Or.inl ⟨rfl, xs, sq_of (e1 l _ hl)⟩, l, xs, y, rfl, rfl, e1 l _ hl, hy, k _ (Ex.mut (e.trans e1) hn) upd_same fun a o ne ho => by
    rw [upd_ne ne]
    exact e1 a o ho⟩
/-- for over range(n), by a word of the slots; the heap only grows -/
theorem r_forR {ta : TA} {j : Nat} {n : Int} (e : Ex H0 H1) (h : EvA ta σ H0 [.int n]) (hn : -100000 ≤ n ∧ n ≤ 100000) (I : Nat → L2.St → Prop) (h0 : I 0 σ)
    (hs : ∀ (i : Nat) σ' H', (i : Int) < n → I i σ' → Ex H0 H' → tu { D with nx := fun σ2 H2 => I (i + 1) σ2 ∧ Ex H0 H2, ct := fun σ2 H2 => I (i + 1) σ2 ∧ Ex H0 H2, bk := tz D } (σ'.set j (some (.int (i : Int)))) H')
    (hd : ∀ σ' H', I n.toNat σ' → Ex H0 H' → tz D σ' H') : tSeq (tFor (iRng1 ta) (gName j) tu) tz D σ H1 :=
  h H1 e _ fun H2 e2 => ⟨n, rfl, by omega, by omega, for_range (lo := 0) (n := n.toNat) (D := { D with nx := tz D }) (fun i σ' H' => I i σ' ∧ Ex H0 H') ⟨h0, e.trans e2⟩ (fun i σ' H' hi p => by
    have e0 : (0 : Int) + (i : Int) = (i : Int) := Int.zero_add _
    show tu { D with nx := fun σ2 H2 => I (i + 1) σ2 ∧ Ex H0 H2, ct := fun σ2 H2 => I (i + 1) σ2 ∧ Ex H0 H2, bk := tz D } (σ'.set j (some (.int ((0 : Int) + (i : Int))))) H'
    rw [e0]
    exact hs i σ' H' (by omega) p.1 p.2) fun σ' H' p => hd σ' H' p.1 p.2⟩
/-- .. by a word of the slots and the heap -/
theorem r_forRH {ta : TA} {j : Nat} {n : Int} (e : Ex H0 H1) (h : EvA ta σ H0 [.int n]) (hn : -100000 ≤ n ∧ n ≤ 100000) (I : Nat → L2.St → Hp → Prop) (h0 : ∀ H2, Ex H1 H2 → I 0 σ H2)
    (hs : ∀ (i : Nat) σ' H', (i : Int) < n → I i σ' H' → tu { D with nx := I (i + 1), ct := I (i + 1), bk := tz D } (σ'.set j (some (.int (i : Int)))) H')
    (hd : ∀ σ' H', I n.toNat σ' H' → tz D σ' H') : tSeq (tFor (iRng1 ta) (gName j) tu) tz D σ H1 :=
  h H1 e _ fun H2 e2 => ⟨n, rfl, by omega, by omega, for_range (lo := 0) (n := n.toNat) (D := { D with nx := tz D }) I (h0 H2 e2) (fun i σ' H' hi p => by
    have e0 : (0 : Int) + (i : Int) = (i : Int) := Int.zero_add _
    show tu { D with nx := I (i + 1), ct := I (i + 1), bk := tz D } (σ'.set j (some (.int ((0 : Int) + (i : Int))))) H'
    rw [e0]
    exact hs i σ' H' (by omega) p) hd⟩
/-- for over a list of ints that stands -/
theorem r_forLI {a : Addr} {ns : List Int} {tl : TE} {j : Nat} (e : Ex H0 H1) (h : Ev tl σ H0 (.ref a)) (hx : SqL K H0 a (ns.map V.int)) (I : Nat → L2.St → Hp → Prop) (hw : ∀ i σ' H', I i σ' H' → Ex H0 H') (h0 : ∀ H2, Ex H1 H2 → I 0 σ H2)
    (hs : ∀ (i : Nat) (n : Int) σ' H', ns[i]? = some n → I i σ' H' → tu { D with nx := I (i + 1), ct := I (i + 1), bk := tz D } (σ'.set j (some (.int n))) H')
    (hd : ∀ σ' H', I ns.length σ' H' → tz D σ' H') : tSeq (tFor (iList K tl) (gName j) tu) tz D σ H1 :=
  h H1 e _ fun H2 e2 => ⟨a, rfl, ⟨_, ex_l (e.trans e2) hx⟩, for_list (D := { D with nx := tz D }) I (h0 H2 e2) (fun i σ' H' _ p => ex_l (hw i σ' H' p) hx) (fun i x σ' H' hi p => by
    rw [List.getElem?_map] at hi
    cases g : ns[i]? with
    | none => rw [g] at hi; cases hi
    | some n =>
      rw [g] at hi
      obtain rfl : V.int n = x := Option.some.inj hi
      exact hs i n σ' H' g p) fun σ' H' p => hd σ' H' (by rw [List.length_map] at p; exact p)⟩
/-- .. of anything -/
theorem r_forLM {α : Type} {f : α → V} {a : Addr} {ns : List α} {tl : TE} {j : Nat} (e : Ex H0 H1) (h : Ev tl σ H0 (.ref a)) (hx : SqL K H0 a (ns.map f)) (I : Nat → L2.St → Hp → Prop) (hw : ∀ i σ' H', I i σ' H' → Ex H0 H') (h0 : ∀ H2, Ex H1 H2 → I 0 σ H2)
    (hs : ∀ (i : Nat) (n : α) σ' H', ns[i]? = some n → I i σ' H' → tu { D with nx := I (i + 1), ct := I (i + 1), bk := tz D } (σ'.set j (some (f n))) H')
    (hd : ∀ σ' H', I ns.length σ' H' → tz D σ' H') : tSeq (tFor (iList K tl) (gName j) tu) tz D σ H1 :=
  h H1 e _ fun H2 e2 => ⟨a, rfl, ⟨_, ex_l (e.trans e2) hx⟩, for_list (D := { D with nx := tz D }) I (h0 H2 e2) (fun i σ' H' _ p => ex_l (hw i σ' H' p) hx) (fun i x σ' H' hi p => by
    rw [List.getElem?_map] at hi
    cases g : ns[i]? with
    | none => rw [g] at hi; cases hi
    | some n =>
      rw [g] at hi
      obtain rfl : f n = x := Option.some.inj hi
      exact hs i n σ' H' g p) fun σ' H' p => hd σ' H' (by rw [List.length_map] at p; exact p)⟩
/-- .. over a displayed or called, new list -/
theorem r_forNM {α : Type} {f : α → V} {ns : List α} {tl : TE} {j : Nat} (e : Ex H0 H1) (h : EvL tl σ H0 (ns.map f)) (I : Hp → Nat → L2.St → Hp → Prop) (hw : ∀ G i σ' H', I G i σ' H' → Ex G H') (h0 : ∀ G, Ex H0 G → Ex H1 G → I G 0 σ G)
    (hs : ∀ G, Ex H0 G → ∀ (i : Nat) (n : α) σ' H', ns[i]? = some n → I G i σ' H' → tu { D with nx := I G (i + 1), ct := I G (i + 1), bk := tz D } (σ'.set j (some (f n))) H')
    (hd : ∀ G, Ex H0 G → ∀ σ' H', I G ns.length σ' H' → tz D σ' H') : tSeq (tFor (iList K tl) (gName j) tu) tz D σ H1 :=
  h H1 e _ fun a G ha e2 h2 => ⟨a, rfl, ⟨_, sq_of h2⟩, for_list (D := { D with nx := tz D }) (I G) (h0 G (e.trans e2) e2) (fun i σ' H' _ p => ex_l (hw G i σ' H' p) (sq_of h2)) (fun i x σ' H' hi p => by
    rw [List.getElem?_map] at hi
    cases g : ns[i]? with
    | none => rw [g] at hi; cases hi
    | some n =>
      rw [g] at hi
      obtain rfl : f n = x := Option.some.inj hi
      exact hs G (e.trans e2) i n σ' H' g p) fun σ' H' p => hd G (e.trans e2) σ' H' (by rw [List.length_map] at p; exact p)⟩
/-- while, by a word of the measure, the slots and the heap -/
theorem r_whileH (e : Ex H0 H1) (W : Nat → L2.St → Hp → Prop) (m0 : Nat) (hw : ∀ m σ' H', W m σ' H' → Ex H0 H') (h0 : W m0 σ H1)
    (hs : ∀ m σ' H', W m σ' H' → ∃ p, EtP t σ' H0 p ∧ (p → ∀ H2, Ex H0 H2 → Ex H' H2 → tu { D with nx := fun σ2 H3 => ∃ m', m' < m ∧ W m' σ2 H3, ct := fun σ2 H3 => ∃ m', m' < m ∧ W m' σ2 H3, bk := tz D } σ' H2) ∧ (¬ p → ∀ H2, Ex H0 H2 → Ex H' H2 → tz D σ' H2)) :
    tSeq (tWhile t tu) tz D σ H1 := by
  refine q_while W m0 h0 ?_
  intro m σ' H' hwm
  have e' := hw m σ' H' hwm
  obtain ⟨p, ⟨b, hb, ht⟩, h1, h2⟩ := hs m σ' H' hwm
  refine ⟨b, ht.mono e', fun eb H2 e2 => ?_, fun eb H2 e2 => ?_⟩
  · exact ⟨_, fun σ2 H3 z => z, h1 (hb.mp eb) H2 (e'.trans e2) e2⟩
  · refine h2 (fun z => ?_) H2 (e'.trans e2) e2
    have := hb.mpr z
    rw [eb] at this
    cases this
/-- for over a list that stands -/
theorem r_forL {a : Addr} {xs : List V} {tl : TE} {j : Nat} (e : Ex H0 H1) (h : Ev tl σ H0 (.ref a)) (hx : SqL K H0 a xs) (I : Nat → L2.St → Prop) (h0 : I 0 σ)
    (hs : ∀ (i : Nat) x σ' H', xs[i]? = some x → I i σ' → Ex H0 H' → tu { D with nx := fun σ2 H2 => I (i + 1) σ2 ∧ Ex H0 H2, ct := fun σ2 H2 => I (i + 1) σ2 ∧ Ex H0 H2, bk := tz D } (σ'.set j (some x)) H')
    (hd : ∀ σ' H', I xs.length σ' → Ex H0 H' → tz D σ' H') : tSeq (tFor (iList K tl) (gName j) tu) tz D σ H1 :=
  h H1 e _ fun H2 e2 => ⟨a, rfl, ⟨xs, ex_l (e.trans e2) hx⟩, for_list (D := { D with nx := tz D }) (fun i σ' H' => I i σ' ∧ Ex H0 H') ⟨h0, e.trans e2⟩ (fun i σ' H' _ p => ex_l p.2 hx) (fun i x σ' H' hi p => hs i x σ' H' hi p.1 p.2) fun σ' H' p => hd σ' H' p.1 p.2⟩
/-- .. over a new list -/
theorem r_forNL {xs : List V} {tl : TE} {j : Nat} (e : Ex H0 H1) (h : EvL tl σ H0 xs) (I : Nat → L2.St → Prop) (h0 : I 0 σ)
    (hs : ∀ G, Ex H0 G → ∀ (i : Nat) x σ' H', xs[i]? = some x → I i σ' → Ex G H' → tu { D with nx := fun σ2 H2 => I (i + 1) σ2 ∧ Ex G H2, ct := fun σ2 H2 => I (i + 1) σ2 ∧ Ex G H2, bk := tz D } (σ'.set j (some x)) H')
    (hd : ∀ G, Ex H0 G → ∀ σ' H', I xs.length σ' → Ex G H' → tz D σ' H') : tSeq (tFor (iList K tl) (gName j) tu) tz D σ H1 :=
  h H1 e _ fun a H2 ha e2 h2 => ⟨a, rfl, ⟨xs, sq_of h2⟩, for_list (D := { D with nx := tz D }) (fun i σ' H' => I i σ' ∧ Ex H2 H') ⟨h0, Ex.refl _⟩ (fun i σ' H' _ p => ex_l p.2 (sq_of h2)) (fun i x σ' H' hi p => hs H2 (e.trans e2) i x σ' H' hi p.1 p.2) fun σ' H' p => hd H2 (e.trans e2) σ' H' p.1 p.2⟩
/-- an int of a list of ints -/
theorem rv_ixI {p : Addr} {ns : List Int} {i : Int} (h : SqL K H p (ns.map V.int)) (h0 : 0 ≤ i) (h1 : i < (ns.length : Int)) : RV (rIxL K) (.ref p) (.int i) H (.int (ns.getD i.toNat 0)) := by
  refine rv_ixL h ?_
  obtain ⟨j, rfl⟩ : ∃ j : Nat, i = (j : Int) := ⟨i.toNat, by omega⟩
  have hj : j < ns.length := by omega
  refine atI_nat ?_
  rw [List.getElem?_map, List.getElem?_eq_getElem hj]
  show some (V.int ns[j]) = some (V.int (ns.getD ((j : Int).toNat) 0))
  rw [Int.toNat_natCast, List.getD_eq_getElem?_getD, List.getElem?_eq_getElem hj]
  rfl
theorem cutV_to (xs : List V) (k : Nat) : cutV xs none (some (k : Int)) = xs.take k := by
  unfold cutV
  rw [HT.sIx_none, HT.sIx_nat, List.drop_zero, Nat.sub_zero]
  by_cases h : k ≤ xs.length
  · rw [Nat.min_eq_left h]
  · rw [Nat.min_eq_right (by omega), List.take_of_length_le (Nat.le_refl _), List.take_of_length_le (by omega)]
theorem cutV_all {xs : List V} (k : Nat) (h : xs.length ≤ k) : cutV xs none (some (k : Int)) = xs := by
  rw [cutV_to, List.take_of_length_le h]
theorem cutV_from (xs : List V) (k : Nat) : cutV xs (some (k : Int)) none = xs.drop k := by
  unfold cutV
  rw [HT.sIx_none, HT.sIx_nat]
  by_cases h : k ≤ xs.length
  · rw [Nat.min_eq_left h, List.take_of_length_le (by rw [List.length_drop]; omega)]
  · rw [Nat.min_eq_right (by omega), List.take_of_length_le (by rw [List.length_drop]; omega), List.drop_of_length_le (Nat.le_refl _), List.drop_of_length_le (by omega)]
theorem rv_kd {w : World} {p : Addr} {z : Str} {v : V} (h : KDct K w p z v) : RV (rIxD K w) (.ref p) (.str z) H v := fun H1 _ Q q => ⟨p, z, v, rfl, rfl, h, q H1 (Ex.refl H1)⟩
theorem rv_isN {x : V} : RV (fun x y H Q => y = .non ∧ Q (.bl (decide (x = .non))) H) x .non H (.bl (decide (x = .non))) := fun H1 _ Q q => ⟨rfl, q H1 (Ex.refl H1)⟩
theorem rv_notN {x : V} : RV (fun x y H Q => y = .non ∧ Q (.bl (!decide (x = .non))) H) x .non H (.bl (!decide (x = .non))) := fun H1 _ Q q => ⟨rfl, q H1 (Ex.refl H1)⟩
theorem ev_slS {tl th : TO} {zs : Str} {lo hi : Option Int} (h : Ev te σ H (.str zs)) (h1 : EvO tl σ H lo) (h2 : EvO th σ H hi) (hz : zs.length ≤ 100000) : Ev (tSl rSlS te tl th) σ H (.str (cutS zs lo hi)) := fun H1 e _ q =>
  h H1 e _ fun H2 e2 => h1 H2 (e.trans e2) _ fun H3 e3 => h2 H3 ((e.trans e2).trans e3) _ fun H4 e4 => ⟨zs, rfl, sz_of hz, q H4 ((e2.trans e3).trans e4)⟩
/-- [f(x) for x in xs] over a list of ints, each an int -/
theorem given_all {n : Nat} {v : Nat → V} : given n (fun _ => true) v = (List.range n).map v := by
  unfold given
  rw [List.filter_eq_self.mpr (fun _ _ => rfl)]
theorem et_yes {σ : L2.St} {H : Hp} : EvT tYes σ H true := fun H1 _ _ q => q H1 (Ex.refl H1)
theorem map_range {α : Type} {ns : List α} {d : α} {f : α → V} : (List.range ns.length).map (fun i => f (ns.getD i d)) = ns.map f := by
  apply List.ext_getElem?
  intro i
  rw [List.getElem?_map, List.getElem?_map]
  by_cases h : i < ns.length
  · rw [List.getElem?_range h, List.getElem?_eq_getElem h]
    show some (f (ns.getD i d)) = some (f ns[i])
    rw [List.getD_eq_getElem?_getD, List.getElem?_eq_getElem h]
    rfl
  · rw [List.getElem?_eq_none (by rw [List.length_range]; omega), List.getElem?_eq_none (by omega)]
    rfl
theorem el_lcI {a : Addr} {ns : List Int} {tl : TE} {j : Nat} {vs : List Nat} (f : Int → V) (h : Ev tl σ H (.ref a)) (hx : SqL K H a (ns.map V.int)) (hz : ns.length ≤ 40000) (hw : ∀ x, wipe ((wipe σ vs).set j (some x)) vs = wipe σ vs)
    (he : ∀ (n : Int), n ∈ ns → Ev te ((wipe σ vs).set j (some (.int n))) H (f n)) : EvL (tLc (iList K tl) (gName j) tYes te vs) σ H (ns.map f) := by
  have q := el_lcL (K := K) (t := tYes) (te := te) (j := j) (vs := vs) (fun _ => true) (fun i => f (ns.getD i 0)) h hx (by rw [List.length_map]; exact hz) hw (fun _ _ _ _ _ => et_yes) (fun i x H1 e hi _ => by
    rw [List.getElem?_map] at hi
    cases g : ns[i]? with
    | none => rw [g] at hi; cases hi
    | some n =>
      rw [g] at hi
      obtain rfl : V.int n = x := Option.some.inj hi
      have d : ns.getD i 0 = n := by rw [List.getD_eq_getElem?_getD, g]; rfl
      rw [d]
      exact (he n (List.mem_of_getElem? g)).mono e)
  rw [given_all, List.length_map, map_range] at q
  exact q
/-- .. over a new list -/
theorem el_lcNI {ns : List Int} {tl : TE} {j : Nat} {vs : List Nat} (f : Int → V) (h : EvL tl σ H (ns.map V.int)) (hz : ns.length ≤ 40000) (hw : ∀ x, wipe ((wipe σ vs).set j (some x)) vs = wipe σ vs)
    (he : ∀ (n : Int), n ∈ ns → Ev te ((wipe σ vs).set j (some (.int n))) H (f n)) : EvL (tLc (iList K tl) (gName j) tYes te vs) σ H (ns.map f) := by
  have q := el_lcNL (K := K) (t := tYes) (te := te) (j := j) (vs := vs) (fun _ => true) (fun i => f (ns.getD i 0)) h (by rw [List.length_map]; exact hz) hw (fun _ _ _ _ _ => et_yes) (fun i x H1 e hi _ => by
    rw [List.getElem?_map] at hi
    cases g : ns[i]? with
    | none => rw [g] at hi; cases hi
    | some n =>
      rw [g] at hi
      obtain rfl : V.int n = x := Option.some.inj hi
      have d : ns.getD i 0 = n := by rw [List.getD_eq_getElem?_getD, g]; rfl
      rw [d]
      exact (he n (List.mem_of_getElem? g)).mono e)
  rw [given_all, List.length_map, map_range] at q
  exact q
/-- [e for k in range(n)] -/
theorem given_list (ns : List Int) (p : Int → Bool) (f : Int → V) : given ns.length (fun i => p (ns.getD i 0)) (fun i => f (ns.getD i 0)) = (ns.filter p).map f := by
  have h : ns = (List.range ns.length).map fun i => ns.getD i 0 := by
    apply List.ext_getElem?
    intro i
    rw [List.getElem?_map]
    by_cases g : i < ns.length
    · rw [List.getElem?_range g, List.getElem?_eq_getElem g]
      show some ns[i] = some (ns.getD i 0)
      rw [List.getD_eq_getElem?_getD, List.getElem?_eq_getElem g]
      rfl
    · rw [List.getElem?_eq_none (show ns.length ≤ i by omega), List.getElem?_eq_none (show (List.range ns.length).length ≤ i by rw [List.length_range]; omega)]
      rfl
  unfold given
  generalize hn : ns.length = n
  rw [hn] at h
  generalize hg : (fun i => ns.getD i 0) = g at h
  have e1 : (fun i => p (ns.getD i 0)) = p ∘ g := by rw [← hg]; rfl
  have e2 : (fun i => f (ns.getD i 0)) = f ∘ g := by rw [← hg]; rfl
  rw [e1, e2, h, List.filter_map, List.map_map]
/-- .. some of them -/
theorem el_lcIF {a : Addr} {ns : List Int} {t : TT} {tl : TE} {j : Nat} {vs : List Nat} (p : Int → Bool) (f : Int → V) (h : Ev tl σ H (.ref a)) (hx : SqL K H a (ns.map V.int)) (hz : ns.length ≤ 40000) (hw : ∀ x, wipe ((wipe σ vs).set j (some x)) vs = wipe σ vs)
    (ht : ∀ (n : Int), n ∈ ns → EvT t ((wipe σ vs).set j (some (.int n))) H (p n)) (he : ∀ (n : Int), n ∈ ns → Ev te ((wipe σ vs).set j (some (.int n))) H (f n)) : EvL (tLc (iList K tl) (gName j) t te vs) σ H ((ns.filter p).map f) := by
  have hi : ∀ (i : Nat) (x : V), (ns.map V.int)[i]? = some x → ∃ n, n ∈ ns ∧ x = .int n ∧ ns.getD i 0 = n := fun i x hi => by
    rw [List.getElem?_map] at hi
    cases g : ns[i]? with
    | none => rw [g] at hi; cases hi
    | some n =>
      rw [g] at hi
      exact ⟨n, List.mem_of_getElem? g, (Option.some.inj hi).symm, by rw [List.getD_eq_getElem?_getD, g]; rfl⟩
  have q := el_lcL (K := K) (t := t) (te := te) (j := j) (vs := vs) (fun i => p (ns.getD i 0)) (fun i => f (ns.getD i 0)) h hx (by rw [List.length_map]; exact hz) hw
    (fun i x H1 e hx => by obtain ⟨n, hm, rfl, d⟩ := hi i x hx; show EvT _ _ _ (p (ns.getD i 0)); rw [d]; exact (ht n hm).mono e)
    (fun i x H1 e hx _ => by obtain ⟨n, hm, rfl, d⟩ := hi i x hx; show Ev _ _ _ (f (ns.getD i 0)); rw [d]; exact (he n hm).mono e)
  rw [List.length_map, given_list] at q
  exact q
theorem ev_sumN {ns : List Int} (h : EvL ta σ H (ns.map V.int)) : Ev (tCB (rSum K) (tCons ta tNil)) σ H (.int ns.sum) := fun H1 e Q q =>
  h H1 e _ fun p H2 _ e2 hp => ⟨p, ns, rfl, sq_of hp, q H2 e2⟩
theorem ev_sumR {n : Nat} {f : Nat → Int} (h : EvL ta σ H ((List.range n).map fun i => V.int (f i))) : Ev (tCB (rSum K) (tCons ta tNil)) σ H (.int ((List.range n).map f).sum) :=
  ev_sumN (by rw [List.map_map]; exact h)
theorem et_p {p : Prop} [Decidable p] (h : EtP t σ H p) : EvT t σ H (decide p) := by
  obtain ⟨b, hb, h⟩ := h
  refine et_is h ?_
  cases b with
  | true => exact (decide_eq_true (hb.mp rfl)).symm
  | false => exact (decide_eq_false fun z => nomatch hb.mpr z).symm
theorem el_revL {p : Addr} {xs : List V} (ha : Ev ta σ H (.ref p)) (h : SqL K H p xs) : EvL (tRevL K ta) σ H xs.reverse := fun H1 e Q q =>
  ha H1 e _ fun H2 e2 => ⟨p, xs, rfl, ex_l (e.trans e2) h, fun l hl => q l _ (fresh_back e2 hl) (e2.trans (Ex.new hl)) upd_same⟩
theorem el_revI {p : Addr} {ns : List Int} (ha : Ev ta σ H (.ref p)) (h : SqL K H p (ns.map V.int)) : EvL (tRevL K ta) σ H (ns.reverse.map V.int) := by
  rw [List.map_reverse]
  exact el_revL ha h
theorem el_lcR {ta : TA} {j : Nat} {vs : List Nat} {n : Int} (v : Nat → V) (h : EvA ta σ H [.int n]) (hn : 0 ≤ n ∧ n ≤ 40000) (hw : ∀ x, wipe ((wipe σ vs).set j (some x)) vs = wipe σ vs)
    (he : ∀ (i : Nat), (i : Int) < n → Ev te ((wipe σ vs).set j (some (.int (i : Int)))) H (v i)) : EvL (tLc (iRng1 ta) (gName j) tYes te vs) σ H ((List.range n.toNat).map v) := by
  have q := el_lcR1 (te := te) (j := j) (vs := vs) (fun _ => true) v h hn hw (t := tYes) (fun _ _ _ _ => et_yes) (fun i H1 e hi _ => (he i hi).mono e)
  rw [given_all] at q
  exact q
/-- an item of a displayed list -/
theorem ev_ixD {ns : List Int} {i : Int} (ha : EvL ta σ H (ns.map V.int)) (hb : Ev tb σ H (.int i)) (h0 : 0 ≤ i) (h1 : i < (ns.length : Int)) : Ev (tOp (rIxL K) ta tb) σ H (.int (ns.getD i.toNat 0)) :=
  ev_opL1 ha (fun _ e => hb.mono e) fun p H1 h _ => rv_ixL (sq_of h) (by
    obtain ⟨j, rfl⟩ : ∃ j : Nat, i = (j : Int) := ⟨i.toNat, by omega⟩
    have hj : j < ns.length := by omega
    refine atI_nat ?_
    rw [List.getElem?_map, List.getElem?_eq_getElem hj, List.getD_eq_getElem?_getD, Int.toNat_natCast, List.getElem?_eq_getElem hj]
    rfl)
theorem at_strs {ns : List Str} {i : Int} (h0 : 0 ≤ i) (h1 : i < (ns.length : Int)) : atI (ns.map V.str) i = some (.str (ns.getD i.toNat "")) := by
  obtain ⟨j, rfl⟩ : ∃ j : Nat, i = (j : Int) := ⟨i.toNat, by omega⟩
  have hj : j < ns.length := by omega
  refine atI_nat ?_
  rw [List.getElem?_map, List.getElem?_eq_getElem hj, List.getD_eq_getElem?_getD, Int.toNat_natCast, List.getElem?_eq_getElem hj]
  rfl
theorem ev_ixDS {ns : List Str} {i : Int} (ha : EvL ta σ H (ns.map V.str)) (hb : Ev tb σ H (.int i)) (h0 : 0 ≤ i) (h1 : i < (ns.length : Int)) : Ev (tOp (rIxL K) ta tb) σ H (.str (ns.getD i.toNat "")) :=
  ev_opL1 ha (fun _ e => hb.mono e) fun p H1 h _ => rv_ixL (sq_of h) (at_strs h0 h1)
theorem rv_ixStr {p : Addr} {ns : List Str} {i : Int} (h : SqL K H p (ns.map V.str)) (h0 : 0 ≤ i) (h1 : i < (ns.length : Int)) : RV (rIxL K) (.ref p) (.int i) H (.str (ns.getD i.toNat "")) := rv_ixL h (at_strs h0 h1)
theorem ev_lenM {α : Type} {f : α → V} {p : Addr} {ns : List α} (ha : Ev ta σ H (.ref p)) (h : SqL K H p (ns.map f)) : Ev (tCB (rLenS K) (tCons ta tNil)) σ H (.int (ns.length : Int)) := by
  have q := ev_len ha h
  rw [List.length_map] at q
  exact q
theorem ev_lenTM {α : Type} {f : α → V} {p : Addr} {ns : List α} (ha : Ev ta σ H (.ref p)) (h : SqT K H p (ns.map f)) : Ev (tCB (rLenS K) (tCons ta tNil)) σ H (.int (ns.length : Int)) := by
  have q := ev_lenT ha h
  rw [List.length_map] at q
  exact q
theorem el_to {xs ys : List V} (h : EvL te σ H xs) (e : xs = ys) : EvL te σ H ys := by rw [← e]; exact h
theorem r_retI {i j : Int} (e : Ex H0 H1) (h : Ev te σ H0 (.int i)) (hi : i = j) (k : ∀ H2, Ex H0 H2 → D.rt (.int j) H2) : tSeq (tRet te) tz D σ H1 := by
  subst hi
  exact h H1 e _ fun H2 e2 => k H2 (e.trans e2)
theorem r_retB {i j : Bool} (e : Ex H0 H1) (h : Ev te σ H0 (.bl i)) (hi : i = j) (k : ∀ H2, Ex H0 H2 → D.rt (.bl j) H2) : tSeq (tRet te) tz D σ H1 := by
  subst hi
  exact h H1 e _ fun H2 e2 => k H2 (e.trans e2)
theorem r_retS {i j : Str} (e : Ex H0 H1) (h : Ev te σ H0 (.str i)) (hi : i = j) (k : ∀ H2, Ex H0 H2 → D.rt (.str j) H2) : tSeq (tRet te) tz D σ H1 := by
  subst hi
  exact h H1 e _ fun H2 e2 => k H2 (e.trans e2)
/-- while; the heap only grows; W: by a measure and the slots -/
theorem r_while (e : Ex H0 H1) (W : Nat → L2.St → Prop) (m0 : Nat) (h0 : W m0 σ)
    (hs : ∀ m σ' H', W m σ' → Ex H0 H' → ∃ p, EtP t σ' H0 p ∧ (p → ∀ H2, Ex H0 H2 → tu { D with nx := fun σ2 H3 => (∃ m', m' < m ∧ W m' σ2) ∧ Ex H0 H3, ct := fun σ2 H3 => (∃ m', m' < m ∧ W m' σ2) ∧ Ex H0 H3, bk := tz D } σ' H2) ∧ (¬ p → ∀ H2, Ex H0 H2 → tz D σ' H2)) :
    tSeq (tWhile t tu) tz D σ H1 := by
  refine q_while (fun m σ' H' => W m σ' ∧ Ex H0 H') m0 ⟨h0, e⟩ ?_
  rintro m σ' H' ⟨hw, e'⟩
  obtain ⟨p, ⟨b, hb, ht⟩, h1, h2⟩ := hs m σ' H' hw e'
  refine ⟨b, ht.mono e', fun eb H2 e2 => ?_, fun eb H2 e2 => ?_⟩
  · exact ⟨_, fun σ2 H3 ⟨⟨m', l, w⟩, e3⟩ => ⟨m', l, w, e3⟩, h1 (hb.mp eb) H2 (e'.trans e2)⟩
  · refine h2 (fun z => ?_) H2 (e'.trans e2)
    have := hb.mpr z
    rw [eb] at this
    cases this
end

/-! ### written dicts with text keys, told by their pairs -/
def EntsK (P : Params) : List (Str × V) → List DictEntry → Prop
  | [], [] => True
  | (k, v) :: r, e :: l => (∃ t, e.key = .str k t) ∧ e.hash = PyData.keyHash P k ∧ RelV v e.val ∧ EntsK P r l
  | _, _ => False
theorem EntsK.lit {P : Params} : ∀ {r : List (Str × V)} {l : List DictEntry}, EntsK P r l → PySem.W.KeysLit P l
  | [], [], _ => True.intro
  | (k, v) :: r, e :: l, h => by
    obtain ⟨⟨t, h1⟩, h2, _, h4⟩ := h
    exact ⟨⟨k, t, h1, h2⟩, EntsK.lit h4⟩
  | [], _ :: _, h => h.elim
  | _ :: _, [], h => h.elim
theorem isStr_str (k z : Str) (t : Tok) : (Value.str k t).isStr z = decide (k = z) := by
  rw [PySem.W.isStr_of]
  by_cases h : k = z
  · subst h
    rw [decide_eq_true rfl]
    exact keyIs_str k t
  · rw [decide_eq_false h]
    cases e : Value.isStrOf z (.str k t) with
    | false => rfl
    | true =>
      obtain ⟨t2, e2⟩ := Value.isStrOf_shape (x := z) (v := .str k t) e
      injection e2 with e3 _
      exact absurd e3 h
theorem EntsK.find {P : Params} (z : Str) : ∀ {r : List (Str × V)} {l : List DictEntry}, EntsK P r l →
    (match l.find? (fun e => e.key.isStr z) with | some e => ∃ v, r.lookup z = some v ∧ RelV v e.val | none => r.lookup z = none ∧ l.any (·.refKey) = false)
  | [], [], _ => ⟨rfl, rfl⟩
  | (k, v) :: r, e :: l, h => by
    obtain ⟨⟨t, h1⟩, _, h3, h4⟩ := h
    have ih := EntsK.find z h4
    have hk : e.key.isStr z = decide (k = z) := by rw [h1]; exact isStr_str k z t
    by_cases hz : k = z
    · subst hz
      have q : (e :: l).find? (fun e => e.key.isStr k) = some e := by
        rw [List.find?_cons, hk, decide_eq_true rfl]
      rw [q]
      refine ⟨v, ?_, h3⟩
      rw [List.lookup_cons, beq_self_eq_true]
    · have q : (e :: l).find? (fun e => e.key.isStr z) = l.find? (fun e => e.key.isStr z) := by
        rw [List.find?_cons, hk, decide_eq_false hz]
      have g : ((k, v) :: r).lookup z = r.lookup z := by
        rw [List.lookup_cons, beq_eq_false_iff_ne.mpr (Ne.symm hz)]
      rw [q, g]
      cases c : l.find? (fun e => e.key.isStr z) with
      | some e2 =>
        rw [c] at ih
        exact ih
      | none =>
        rw [c] at ih
        refine ⟨ih.1, ?_⟩
        rw [List.any_cons, ih.2, Bool.or_false]
        unfold DictEntry.refKey
        rw [h1]
  | [], _ :: _, h => h.elim
  | _ :: _, [], h => h.elim
/-- at d stands a written dict of these pairs -/
structure SD (K : PySem.W.Frag) (w : World) (d : Addr) (kvs : List (Str × V)) : Prop where
  ex : ∃ es n, K.lookup d = some ⟨.type "dict", none, .dict es n, #[]⟩ ∧ EntsK w.params kvs es.toList
  low : (d == sysModules) = false
section
variable {K : PySem.W.Frag} {w : World} {d : Addr} {kvs : List (Str × V)} {H : Hp}
theorem SD.some (D : SD K w d kvs) {z : Str} {v : V} (h : kvs.lookup z = .some v) : KDct K w d z v := by
  obtain ⟨es, n, hl, he⟩ := D.ex
  have f := he.find z
  cases c : es.toList.find? (fun e => e.key.isStr z) with
  | none => rw [c] at f; rw [f.1] at h; cases h
  | some e =>
    rw [c] at f
    obtain ⟨v2, h2, h3⟩ := f
    rw [h] at h2
    cases h2
    refine ⟨es, n, e.val, hl, he.lit, ?_, h3⟩
    unfold PySem.W.nsIn
    rw [hl]
    dsimp only
    rw [c]
theorem SD.ns (D : SD K w d kvs) (z : Str) : ∃ r, PySem.W.nsIn K d z = .some r ∧ r.isSome = (kvs.lookup z).isSome := by
  obtain ⟨es, n, hl, he⟩ := D.ex
  have f := he.find z
  unfold PySem.W.nsIn
  rw [hl]
  dsimp only
  cases c : es.toList.find? (fun e => e.key.isStr z) with
  | none =>
    rw [c] at f
    rw [f.1]
    dsimp only
    rw [f.2]
    exact ⟨none, rfl, rfl⟩
  | some e =>
    rw [c] at f
    obtain ⟨v2, h2, h3⟩ := f
    rw [h2]
    exact ⟨_, rfl, rfl⟩
def rInSD (d : Addr) (kvs : List (Str × V)) (neg : Bool) : R2 := fun x y H Q => ∃ (z : Str), x = .str z ∧ y = .ref d ∧ Q (.bl (if neg then !(kvs.lookup z).isSome else (kvs.lookup z).isSome)) H
theorem op_in_sd {X : Cx} (D : SD X.K X.w d kvs) : OpR X (compareOp .In) (rInSD d kvs false) := by
  intro pins s σ H x y v u Q I rx ry h
  obtain ⟨z, rfl, rfl, q⟩ := h
  obtain ⟨es, n, hl, he⟩ := D.ex
  obtain ⟨r, hr, hs⟩ := D.ns z
  refine op_in_kd ⟨hl, he.lit, D.low⟩ pins s σ H (.str z) (.ref d) v u Q I rx ry ⟨z, r, rfl, rfl, hr, ?_⟩
  rw [hs]
  exact q
theorem op_notIn_sd {X : Cx} (D : SD X.K X.w d kvs) : OpR X (compareOp .NotIn) (rInSD d kvs true) := by
  intro pins s σ H x y v u Q I rx ry h
  obtain ⟨z, rfl, rfl, q⟩ := h
  obtain ⟨es, n, hl, he⟩ := D.ex
  obtain ⟨r, hr, hs⟩ := D.ns z
  refine op_notIn_kd ⟨hl, he.lit, D.low⟩ pins s σ H (.str z) (.ref d) v u Q I rx ry ⟨z, r, rfl, rfl, hr, ?_⟩
  rw [hs]
  exact q
theorem rv_inSD {z : Str} : RV (rInSD d kvs false) (.str z) (.ref d) H (.bl ((kvs.lookup z).isSome)) := fun H1 _ Q q => ⟨z, rfl, rfl, q H1 (Ex.refl H1)⟩
theorem rv_niSD {z : Str} : RV (rInSD d kvs true) (.str z) (.ref d) H (.bl (!(kvs.lookup z).isSome)) := fun H1 _ Q q => ⟨z, rfl, rfl, q H1 (Ex.refl H1)⟩
theorem lookup_keys (z : Str) : ∀ kvs : List (Str × V), (kvs.lookup z).isSome = decide (z ∈ kvs.map (·.1))
  | [] => rfl
  | (k, v) :: r => by
    have ih := lookup_keys z r
    by_cases h : z = k
    · subst h
      rw [List.lookup_cons, beq_self_eq_true]
      simp
    · rw [List.lookup_cons, beq_eq_false_iff_ne.mpr h]
      show (r.lookup z).isSome = _
      rw [ih]
      simp [h]
theorem rv_inSDk {z : Str} {keys : List Str} (hk : kvs.map (·.1) = keys) : RV (rInSD d kvs false) (.str z) (.ref d) H (.bl (decide (z ∈ keys))) := by
  have q := rv_inSD (d := d) (kvs := kvs) (H := H) (z := z)
  rw [lookup_keys, hk] at q
  exact q
theorem rv_niSDk {z : Str} {keys : List Str} (hk : kvs.map (·.1) = keys) : RV (rInSD d kvs true) (.str z) (.ref d) H (.bl (!decide (z ∈ keys))) := by
  have q := rv_niSD (d := d) (kvs := kvs) (H := H) (z := z)
  rw [lookup_keys, hk] at q
  exact q
/-- a written tuple of flat values -/
theorem sqt_k {a : Addr} {od : Option Addr} {its : Array Value} {n : Nat} {sl : Array (Option Value)} {xs : List V} (l : K.lookup a = some ⟨.type "tuple", od, .seq its n, sl⟩) (hz : its.size ≤ 100000) (r : Vals xs its.toList) : ∀ H : Hp, SqT K H a xs :=
  fun _ => Or.inr ⟨_, its, n, l, rfl, rfl, Nat.le_trans hz (by decide), r⟩
end
/-! ### a call of a local name that holds one of several defs -/
def tCallR (i : Nat) (S : Addr → Sp → Prop) (t : TA) : TE := fun σ H Q => ∃ f sp, σ[i]? = some (some (.ref f)) ∧ S f sp ∧ t σ H fun vs H1 => sp vs H1 Q (fun _ _ _ => False)
theorem pe_callR {X : Cx} {k i : Nat} {x : Str} {p pos : Pos} {e : Expr} {es : List Expr} {t : TA} {S : Addr → Sp → Prop} (A : ∀ f sp, S f sp → Held X.prog X.w X.K X.mg X.base k f sp) (hr : Room k X.A) (hN : X.N[i]? = some x) (hv : Vis X.env.scope x) (ha : PA X (e :: es) t)
    (hdb : (x == ("__debug__" : Str)) = false := by decide) (hcd : (x == ("__classdict__" : Str)) = false := by decide)
    (he : starEach (e :: es) X.env = (false, eval e X.env) :: starEach es X.env := by rfl) (hpl : (backTo pos (starEach es X.env)).any (·.1) = false := by rfl) : PE X (.Call (.Name x p) (e :: es) [] pos) (tCallR i S t) := by
  refine ⟨fun pins s σ H Q I h => ?_⟩
  obtain ⟨f, sp, hs, hS, ht⟩ := h
  obtain ⟨fd, ps, F, hk, hb⟩ := (A f sp hS).ex
  refine (pe_callL (i := i) (f := f) (sp := sp) (dvs := []) (E := fun _ _ _ => False) F hr hN hv hk hb .nil (fun _ _ _ _ _ _ _ z => z.elim) ha hdb hcd he hpl).run pins s σ H Q I ⟨hs, ?_⟩
  have e0 : (fun (vs : List V) (H1 : Hp) => sp (vs ++ []) H1 Q (fun _ _ _ => False)) = fun vs H1 => sp vs H1 Q (fun _ _ _ => False) := by
    funext vs H1
    rw [List.append_nil]
  show t σ H (fun vs H1 => sp (vs ++ []) H1 Q (fun _ _ _ => False))
  rw [e0]
  exact ht
theorem ev_callR {i : Nat} {S : Addr → Sp → Prop} {ta : TA} {σ : L2.St} {H : Hp} {f : Addr} {sp : Sp} {vs : List V} {z : V} (hs : σ[i]? = some (some (.ref f))) (hS : S f sp) (h : EvA ta σ H vs) (hp : SpV sp vs H z) : Ev (tCallR i S ta) σ H z := fun H1 e Q q =>
  ⟨f, sp, hs, hS, h H1 e _ fun H2 e2 => hp H2 (e.trans e2) Q (fun H3 e3 => q H3 (e2.trans e3)) _⟩
/-! ### a def that stands, and its calls -/
structure Df (P : Program) (w : World) (K : PySem.W.Frag) (mg : Str → Option Value) (base : Heap) (k : Nat) (x : Str) (a : Addr) (fd : FuncData) (ps : List Str) (sp : Sp) : Prop where
  ok : FnOk P w K mg base CX0 k a fd ps sp
  g : mg x = some (.ref a)
  kp : PySem.W.keepIn K (.ref a) = true
  b : Binds K fd ps []
theorem Df.held {P : Program} {w : World} {K : PySem.W.Frag} {mg : Str → Option Value} {base : Heap} {k : Nat} {x : Str} {a : Addr} {fd : FuncData} {ps : List Str} {sp : Sp} (D : Df P w K mg base k x a fd ps sp) : Held P w K mg base k a sp := ⟨⟨fd, ps, D.ok, D.kp, D.b⟩⟩
theorem Df.heldM {P : Program} {w : World} {K : PySem.W.Frag} {mg : Str → Option Value} {base : Heap} {k m : Nat} {x : Str} {a : Addr} {fd : FuncData} {ps : List Str} {sp : Sp} (D : Df P w K mg base k x a fd ps sp) (h : k ≤ m) : Held P w K mg base m a sp := ⟨⟨fd, ps, D.ok.mono h, D.kp, D.b⟩⟩
section
variable {X : Cx} {k : Nat} {x : Str} {a : Addr} {fd : FuncData} {ps : List Str} {sp : Sp} {e : Expr} {es : List Expr} {t : TA} {p pos : Pos}
theorem cl (O : Df X.prog X.w X.K X.mg X.base k x a fd ps sp) (hr : Room k X.A) (hg : Gl X x) (ha : PA X (e :: es) t) (hdb : (x == ("__debug__" : Str)) = false := by decide)
    (he : starEach (e :: es) X.env = (false, eval e X.env) :: starEach es X.env := by rfl) (hpl : (backTo pos (starEach es X.env)).any (·.1) = false := by rfl) : PE X (.Call (.Name x p) (e :: es) [] pos) (tCall sp [] E0 t) :=
  pe_call O.ok hr hg O.g O.kp O.b .nil pass0 ha hdb he hpl
theorem cl0 (O : Df X.prog X.w X.K X.mg X.base k x a fd ps sp) (hr : Room k X.A) (hg : Gl X x) (hdb : (x == ("__debug__" : Str)) = false := by decide) : PE X (.Call (.Name x p) [] [] pos) (tCall sp [] E0 tNil) :=
  pe_call0 O.ok hr hg O.g O.kp O.b .nil pass0 hdb
end
/-! ### exceptions -/
/-- an exception: the class (its number), its fields -/
structure Exn where
  c : Nat
  fs : Option (List (Str × V))
def Exn.Is (x : Exn) (d : Option Addr) (H : Hp) : Prop := match x.fs with
  | none => d = none
  | some fs => ∃ a, d = some a ∧ H a = some (.xd fs)
/-- what a def that may raise comes to -/
def Outc {α : Type} (ad : Nat → Addr) (H : Hp) (Q : VK) (E : XK) (val : α → V) : Except Exn α → Prop
  | .ok z => ∀ H1, Ex H H1 → Q (val z) H1
  | .error x => ∀ d H1, Ex H H1 → x.Is d H1 → E (.ref (ad x.c)) d H1
theorem Outc.mono {α : Type} {ad : Nat → Addr} {H H' : Hp} {Q : VK} {E : XK} {val : α → V} {r : Except Exn α} (e : Ex H H') (q : Outc ad H Q E val r) : Outc ad H' Q E val r := by
  cases r with
  | ok z => exact fun H1 e1 => q H1 (e.trans e1)
  | error x => exact fun d H1 e1 => q d H1 (e.trans e1)
structure DfX (P : Program) (w : World) (K : PySem.W.Frag) (mg : Str → Option Value) (base : Heap) (k : Nat) (x : Str) (a : Addr) (fd : FuncData) (ps : List Str) (sp : Sp) : Prop where
  ok : FnOk P w K mg base (L2N.CX P w) k a fd ps sp
  g : mg x = some (.ref a)
  kp : PySem.W.keepIn K (.ref a) = true
  b : Binds K fd ps []
/-- the class of an exception whose __init__ keeps one field f -/
structure ExK (K : PySem.W.Frag) (mg : Str → Option Value) (x : Str) (C I : Addr) (f : Str) : Prop where
  g : mg x = some (.ref C)
  o : OexC K C
  i : PySem.W.findIn K (.ref C) "__init__" = some (some (.ref I))
  t : PySem.W.typeIn K (.ref I) = some (.type "function")
  n : PySem.W.findIn K (.ref C) f = some none
  xf : XfC K C
def sp_init1 (K : PySem.W.Frag) (f : Str) : Sp := fun vs H Q _ => ∃ (a C : Addr) (y : V), vs = [.ref a, y] ∧ (OexC K C ∧ PySem.W.findIn K (.ref C) f = some none ∧ H a = some (exo a C none)) ∧
  ∀ dx, H dx = none → dx ≠ a → Q .non (upd (upd H dx (exd dx [(f, y)])) a (exo a C (some dx)))
/-- the exception x in the air with the slots σ -/
def EvE (te : TE) (σ : L2.St) (H : Hp) (P : Value → Option Addr → Hp → Prop) (W : WX) : Prop := ∀ H1, Ex H H1 → ∀ Q : VK, (∀ cls d H2, Ex H1 H2 → P cls d H2 → W cls d σ H2) → te σ H1 Q
def SpE (sp : Sp) (vs : List V) (H : Hp) (P : Value → Option Addr → Hp → Prop) : Prop := ∀ H1, Ex H H1 → ∀ (Q : VK) (E : XK), (∀ cls d H2, Ex H1 H2 → P cls d H2 → E cls d H2) → sp vs H1 Q E
def XIs (ad : Nat → Addr) (x : Exn) : Value → Option Addr → Hp → Prop := fun cls d H => cls = .ref (ad x.c) ∧ x.Is d H
section
variable {X : Cx} {K : PySem.W.Frag} {σ : L2.St} {H H0 H1 H' : Hp} {ta tb te : TE} {t : TA} {v z : V} {vs : List V} {D : Ends} {tz : TS} {W : WX} {sp : Sp} {P : Value → Option Addr → Hp → Prop}
theorem ev_callS {E : L2.St → XK} (h : EvA t σ H vs) (hs : SpV sp vs H z) : Ev (tCallS sp E t) σ H z := fun H1 e Q q =>
  h H1 e _ fun H2 e2 => hs H2 (e.trans e2) Q (fun H3 e3 => q H3 (e2.trans e3)) _
theorem ee_callS (h : EvA t σ H vs) (hs : SpE sp vs H P) : EvE (tCallS sp (WE W) t) σ H P W := fun H1 e Q q =>
  h H1 e _ fun H2 e2 => hs H2 (e.trans e2) Q _ fun cls d H3 e3 hp => q cls d H3 (e2.trans e3) hp
theorem ev_callSX {E : L2.St → XK} {R : List V → Hp → Prop} (h : EvAX t σ H R) (hs : ∀ vs H1, Ex H H1 → R vs H1 → SpV sp vs H1 z) : Ev (tCallS sp E t) σ H z := fun H1 e Q q =>
  h H1 e _ fun vs H2 e2 hp => hs vs H2 (e.trans e2) hp H2 (Ex.refl H2) Q (fun H3 e3 => q H3 (e2.trans e3)) _
theorem ee_callSX {R : List V → Hp → Prop} (h : EvAX t σ H R) (hs : ∀ vs H1, Ex H H1 → R vs H1 → SpE sp vs H1 P) : EvE (tCallS sp (WE W) t) σ H P W := fun H1 e Q q =>
  h H1 e _ fun vs H2 e2 hr => hs vs H2 (e.trans e2) hr H2 (Ex.refl H2) Q _ fun cls d H3 e3 hp => q cls d H3 (e2.trans e3) hp
theorem r_retE (e : Ex H0 H1) (h : EvE te σ H0 P W) (k : ∀ cls d H2, Ex H0 H2 → P cls d H2 → W cls d σ H2) : tSeq (tRet te) tz D σ H1 := h H1 e _ fun cls d H2 e2 hp => k cls d H2 (e.trans e2) hp
theorem r_asgE {i : Nat} (e : Ex H0 H1) (h : EvE te σ H0 P W) (k : ∀ cls d H2, Ex H0 H2 → P cls d H2 → W cls d σ H2) : tSeq (tAsg te (gName i)) tz D σ H1 := h H1 e _ fun cls d H2 e2 hp => k cls d H2 (e.trans e2) hp
theorem r_dropE (e : Ex H0 H1) (h : EvE te σ H0 P W) (k : ∀ cls d H2, Ex H0 H2 → P cls d H2 → W cls d σ H2) : tSeq (tDrop te) tz D σ H1 := h H1 e _ fun cls d H2 e2 hp => k cls d H2 (e.trans e2) hp
/-- raise C(y), C with one field -/
theorem r_raise1 {mg : Str → Option Value} {x f : Str} {C I : Addr} {y : V} (e : Ex H0 H1) (T : ExK K mg x C I f) (h : EvA t σ H0 [y]) (k : ∀ d H2, Ex H0 H2 → (∃ a, d = some a ∧ H2 a = some (.xd [(f, y)])) → W (.ref C) d σ H2) :
    tSeq (fun _ σ H => tMkO C (sp_init1 K f) [] t σ H fun cls d H' => W cls d σ H') tz D σ H1 :=
  h H1 e _ fun H2 e2 => ⟨by show 1 ≤ 1000; decide, fun a hn => ⟨a, C, y, rfl, ⟨T.o, T.n, upd_same⟩, fun dx h1 h2 => by
    have hd : H2 dx = none := by
      rw [upd_ne h2] at h1
      exact h1
    refine ⟨rfl, dx, [(f, y)], upd_same, by rw [upd_ne h2]; exact upd_same, hd, k _ _ ?_ ⟨dx, rfl, upd_same⟩⟩
    refine (e.trans e2).trans fun b o hb => ?_
    have nb1 : b ≠ dx := fun z => by rw [z, hd] at hb; cases hb
    have nb2 : b ≠ a := fun z => by rw [z, hn] at hb; cases hb
    rw [upd_ne nb1, del_ne nb2, upd_ne nb2, upd_ne nb1, upd_ne nb2]
    exact hb⟩⟩
theorem passLN {X : Cx} : Passes (L2N.CX X.prog X.w) X E0 := fun _ _ _ _ _ _ _ h => by
  obtain ⟨_, _, _, _, _, _, _, _, _, _, _, _, h⟩ := h
  exact h.elim
theorem clS {k : Nat} {x : Str} {a : Addr} {fd : FuncData} {ps : List Str} {e : Expr} {es : List Expr} {p pos : Pos} {E : L2.St → XK} (O : DfX X.prog X.w X.K X.mg X.base k x a fd ps sp) (hr : Room k X.A) (hg : Gl X x) (hx : ∀ σ, PassesAt (L2N.CX X.prog X.w) X σ (E σ)) (ha : PA X (e :: es) t)
    (hdb : (x == ("__debug__" : Str)) = false := by decide) (he : starEach (e :: es) X.env = (false, eval e X.env) :: starEach es X.env := by rfl) (hpl : (backTo pos (starEach es X.env)).any (·.1) = false := by rfl) : PE X (.Call (.Name x p) (e :: es) [] pos) (tCallS sp E t) :=
  pe_callS O.ok hr hg O.g O.kp O.b hx ha hdb he hpl
theorem clL {k : Nat} {x : Str} {a : Addr} {fd : FuncData} {ps : List Str} {e : Expr} {es : List Expr} {p pos : Pos} (O : DfX X.prog X.w X.K X.mg X.base k x a fd ps sp) (hr : Room k X.A) (hg : Gl X x) (ha : PA X (e :: es) t)
    (hdb : (x == ("__debug__" : Str)) = false := by decide) (he : starEach (e :: es) X.env = (false, eval e X.env) :: starEach es X.env := by rfl) (hpl : (backTo pos (starEach es X.env)).any (·.1) = false := by rfl) : PE X (.Call (.Name x p) (e :: es) [] pos) (tCall sp [] E0 t) :=
  pe_call O.ok hr hg O.g O.kp O.b .nil passLN ha hdb he hpl
end
/-- a local name that holds one of several defs that may raise -/
structure HeldX (P : Program) (w : World) (K : PySem.W.Frag) (mg : Str → Option Value) (base : Heap) (k : Nat) (a : Addr) (sp : Sp) : Prop where
  ex : ∃ fd ps, FnOk P w K mg base (L2N.CX P w) k a fd ps sp ∧ PySem.W.keepIn K (.ref a) = true ∧ Binds K fd ps []
theorem DfX.heldM {P : Program} {w : World} {K : PySem.W.Frag} {mg : Str → Option Value} {base : Heap} {k m : Nat} {x : Str} {a : Addr} {fd : FuncData} {ps : List Str} {sp : Sp} (D : DfX P w K mg base k x a fd ps sp) (h : k ≤ m) : HeldX P w K mg base m a sp := ⟨⟨fd, ps, D.ok.mono h, D.kp, D.b⟩⟩
theorem exm_of {K : PySem.W.Frag} {S B : Addr} {b : Bool} (h1 : PySem.W.subIn K (.ref S) (.type "BaseException") = some true) (h1' : PySem.W.subIn K (.ref B) (.type "BaseException") = some true) (h2 : PySem.W.isClsIn K B = true) (h3 : PySem.W.typeIn K (.ref B) = some (.type "type")) (h4 : PySem.W.subIn K (.ref S) (.ref B) = some b) :
    PySem.W.exmOne K (.ref S) (.ref B) = some b := by
  have e1 : (PySem.W.subIn K (.ref B) (.type "BaseException") == some true) = true := by rw [h1'] <;> rfl
  have e2 : ((PySem.W.clsIn K B).isSome && PySem.W.typeIn K (.ref B) == some (.type "type")) = true := by
    have h2' : (PySem.W.clsIn K B).isSome = true := h2
    rw [h2', h3] <;> rfl
  show (if (PySem.W.subIn K (.ref B) (.type "BaseException") == some true) = true then (if ((PySem.W.clsIn K B).isSome && PySem.W.typeIn K (.ref B) == some (.type "type")) = true then PySem.W.subIn K (.ref S) (.ref B) else none) else none) = some b
  rw [if_pos e1, if_pos e2]
  exact h4
structure InitOk (P : Program) (w : World) (K : PySem.W.Frag) (mg : Str → Option Value) (base : Heap) (a : Addr) (fd : FuncData) (ps : List Str) (sp : Sp) : Prop where
  ok : FnOk P w K mg base CX0 1 a fd ps sp
  b : Binds K fd ps []
def tCallRX (i : Nat) (S : Addr → Sp → Prop) (E : XK) (t : TA) : TE := fun σ H Q => ∃ f sp, σ[i]? = some (some (.ref f)) ∧ S f sp ∧ t σ H fun vs H1 => sp vs H1 Q E
theorem pe_callRX {X : Cx} {k i : Nat} {x : Str} {p pos : Pos} {e : Expr} {es : List Expr} {t : TA} {E : XK} {S : Addr → Sp → Prop} (A : ∀ f sp, S f sp → HeldX X.prog X.w X.K X.mg X.base k f sp) (hr : Room k X.A) (hN : X.N[i]? = some x) (hv : Vis X.env.scope x) (hx : Passes (L2N.CX X.prog X.w) X E) (ha : PA X (e :: es) t)
    (hdb : (x == ("__debug__" : Str)) = false := by decide) (hcd : (x == ("__classdict__" : Str)) = false := by decide)
    (he : starEach (e :: es) X.env = (false, eval e X.env) :: starEach es X.env := by rfl) (hpl : (backTo pos (starEach es X.env)).any (·.1) = false := by rfl) : PE X (.Call (.Name x p) (e :: es) [] pos) (tCallRX i S E t) := by
  refine ⟨fun pins s σ H Q I h => ?_⟩
  obtain ⟨f, sp, hs, hS, ht⟩ := h
  obtain ⟨fd, ps, F, hk, hb⟩ := (A f sp hS).ex
  refine (pe_callL (i := i) (f := f) (sp := sp) (dvs := []) (E := E) F hr hN hv hk hb .nil hx ha hdb hcd he hpl).run pins s σ H Q I ⟨hs, ?_⟩
  have e0 : (fun (vs : List V) (H1 : Hp) => sp (vs ++ []) H1 Q E) = fun vs H1 => sp vs H1 Q E := by
    funext vs H1
    rw [List.append_nil]
  show t σ H (fun vs H1 => sp (vs ++ []) H1 Q E)
  rw [e0]
  exact ht
theorem ev_callRX {i : Nat} {S : Addr → Sp → Prop} {E : XK} {ta : TA} {σ : L2.St} {H : Hp} {f : Addr} {sp : Sp} {vs : List V} {z : V} (hs : σ[i]? = some (some (.ref f))) (hS : S f sp) (h : EvA ta σ H vs) (hp : SpV sp vs H z) : Ev (tCallRX i S E ta) σ H z := fun H1 e Q q =>
  ⟨f, sp, hs, hS, h H1 e _ fun H2 e2 => hp H2 (e.trans e2) Q (fun H3 e3 => q H3 (e2.trans e3)) _⟩
theorem ee_callRX {i : Nat} {S : Addr → Sp → Prop} {E : XK} {ta : TA} {σ : L2.St} {H : Hp} {f : Addr} {sp : Sp} {vs : List V} {P : Value → Option Addr → Hp → Prop} (hs : σ[i]? = some (some (.ref f))) (hS : S f sp) (h : EvA ta σ H vs) (hp : SpE sp vs H P) : EvE (tCallRX i S E ta) σ H P (fun cls d _ H => E cls d H) := fun H1 e Q q =>
  ⟨f, sp, hs, hS, h H1 e _ fun H2 e2 => hp H2 (e.trans e2) Q _ fun cls d H3 e3 h3 => q cls d H3 (e2.trans e3) h3⟩
/-- a promise by outcome, taken apart -/
theorem spv_of {α : Type} {ad : Nat → Addr} {sp : Sp} {vs : List V} {H : Hp} {val : α → V} {r : Except Exn α} {z : α} (h : ∀ H1, Ex H H1 → ∀ Q E, Outc ad H1 Q E val r → sp vs H1 Q E) (hr : r = .ok z) : SpV sp vs H (val z) := by
  subst hr
  exact fun H1 e Q q E => h H1 e Q E q
theorem spe_of {α : Type} {ad : Nat → Addr} {sp : Sp} {vs : List V} {H : Hp} {val : α → V} {r : Except Exn α} {x : Exn} (h : ∀ H1, Ex H H1 → ∀ Q E, Outc ad H1 Q E val r → sp vs H1 Q E) (hr : r = .error x) : SpE sp vs H (XIs ad x) := by
  subst hr
  exact fun H1 e Q E q => h H1 e Q E fun d H2 e2 hx => q _ d H2 e2 ⟨rfl, hx⟩
def EvAE (ta : TA) (σ : L2.St) (H : Hp) (P : Value → Option Addr → Hp → Prop) (W : WX) : Prop := ∀ H1, Ex H H1 → ∀ Q : List V → Hp → Prop, (∀ cls d H2, Ex H1 H2 → P cls d H2 → W cls d σ H2) → ta σ H1 Q
theorem eae_0 {te : TE} {tr : TA} {σ : L2.St} {H : Hp} {P : Value → Option Addr → Hp → Prop} {W : WX} (h : EvE te σ H P W) : EvAE (tCons te tr) σ H P W := fun H1 e Q q => h H1 e _ q
theorem eae_1 {te : TE} {tr : TA} {σ : L2.St} {H : Hp} {v : V} {P : Value → Option Addr → Hp → Prop} {W : WX} (h : Ev te σ H v) (hr : EvAE tr σ H P W) : EvAE (tCons te tr) σ H P W := fun H1 e Q q =>
  h H1 e _ fun H2 e2 => hr H2 (e.trans e2) _ fun cls d H3 e3 hp => q cls d H3 (e2.trans e3) hp
theorem ee_tup {ta : TA} {σ : L2.St} {H : Hp} {P : Value → Option Addr → Hp → Prop} {W : WX} (h : EvAE ta σ H P W) : EvE (tTup ta) σ H P W := fun H1 e _ q => h H1 e _ q
theorem ev_xf {te : TE} {σ : L2.St} {H : Hp} {a dd C : Addr} {f : Str} {fs : List (Str × V)} {v : V} (h : Ev te σ H (.ref a)) (hd : H dd = some (.xd fs)) (hl : fs.lookup f = some v) : Ev (tXf a (.ref C) (some dd) C f te) σ H v := fun H1 e Q q =>
  h H1 e _ fun H2 e2 => ⟨rfl, rfl, dd, fs, v, rfl, (e.trans e2) _ _ hd, hl, q H2 e2⟩
theorem lk1 (f : Str) (v : V) : [(f, v)].lookup f = some v := by simp [List.lookup]
def clsBodyW : Stmt → List Stmt
  | .ClassDef _ _ _ body _ _ _ _ _ _ _ => body
  | _ => []
theorem w_div {i j : Int} (h0 : 0 < j) (h1 : j ≤ 2 ^ 64) : CDivW i j := by
  refine ⟨h0, ?_⟩
  have h2 : j.natAbs < 2 ^ 65 := by omega
  have h3 := (Nat.log2_lt (by omega)).mpr h2
  omega
end Wm
set_option Elab.async false
set_option linter.all false
set_option maxRecDepth 100000
set_option maxHeartbeats 4000000
/-! Dm: a program's text as a total Lean function over plain data. No heap here: what a def returns, raises, or (bad) that nothing is said. -/
namespace Dm
open PySem L2
/-- data: scr is a list that is only read, ktp a tuple of the module -/
inductive D where
  | non | bl (b : Bool) | int (i : Int) | str (s : Str) | tup (xs : List D) | lst (xs : List D) | scr (xs : List D) | ktp (xs : List D) | fn (n : Nat) | dct (ks : List Str) (xs : List D) | mref (n : Nat)
instance : Inhabited D := ⟨.non⟩
/-- a cell of the store: what may change -/
inductive Cell where
  | lst (xs : List D) | dct (kvs : List (Key × D)) | ins (c : Nat) (ds : List D)
abbrev Sto := List Cell
/-- the attributes of the classes of the text, in the order in which __init__ makes them -/
def flT : List (List Str) := [
  ["signatures", "imports", "functions", "tables", "memories", "tags", "variables", "exports", "start", "table_segments", "memory_segments"],
  ["entries", "most"],
  ["pages", "most", "cells"],
  ["kind", "mutable", "value"],
  ["module", "functions", "tables", "memories", "variables", "tags", "codes"],
  ["functions", "tables", "memories", "variables", "tags", "instances"],
  ["store", "frames", "status", "spent"],
  ["func", "instance", "place", "slots", "stack"],
  ["module", "slots", "results", "stack", "floor", "loose", "dead", "labels", "catchers", "seen", "rows"],
  ["numbers", "place"],
  ["instances", "functions", "tables", "memories", "variables", "tags", "calls", "status", "spent", "names", "breaks", "fast"],
  ["machine", "known", "stops", "entries", "start_save", "deeds"],
  ["identifiers", "signatures", "imports", "functions", "tables", "memories", "tags", "variables", "exports", "start", "table_segments", "memory_segments", "imports_over"],
  ["tokens", "at"],
  ["draft", "local_names"],
  ["machine", "frame", "registers", "variables", "cells"]]
def fl (c : Nat) : List Str := flT.getD (c - 3000) []
inductive Rs (α : Type) where
  | ok (a : α) (s : Sto) | exc (c : Nat) (fs : List (Str × D)) (s : Sto) | bad
/-- what runs on a store -/
def R (α : Type) := Sto → Rs α
namespace R
variable {α β : Type}
def ok (a : α) : R α := fun s => Rs.ok a s
def exc (c : Nat) (fs : List (Str × D)) : R α := fun s => Rs.exc c fs s
def bad : R α := fun _ => Rs.bad
def bind (x : R α) (k : α → R β) : R β := fun s => match x s with
  | .ok a s' => k a s'
  | .exc c fs s' => Rs.exc c fs s'
  | .bad => Rs.bad
end R
instance : Monad R where
  pure := .ok
  bind := R.bind
/-- a slot: nothing known, data, a list of one's own, the exception in the hand -/
inductive Sl where
  | un | val (d : D) | own (xs : List D) | exn (c : Nat) (fs : List (Str × D))
instance : Inhabited Sl := ⟨.un⟩
abbrev Env := List Sl
abbrev SE := Env → R D
abbrev SA := Env → R (List D)
abbrev ST := Env → R Bool
inductive RSr where
  | nx (e : Env) (s : Sto) | rt (v : Sl) (s : Sto) | bk (e : Env) (s : Sto) | ct (e : Env) (s : Sto) | exc (c : Nat) (fs : List (Str × D)) (e : Env) (s : Sto) | bad
def RS := Sto → RSr
namespace RS
def nx (e : Env) : RS := fun s => RSr.nx e s
def rt (v : Sl) : RS := fun s => RSr.rt v s
def bk (e : Env) : RS := fun s => RSr.bk e s
def ct (e : Env) : RS := fun s => RSr.ct e s
def exc (c : Nat) (fs : List (Str × D)) (e : Env) : RS := fun s => RSr.exc c fs e s
def bad : RS := fun _ => RSr.bad
end RS
abbrev SS := Env → RS

/-! data -/
def cutG {α : Type} (xs : List α) (lo hi : Option Int) : List α := (xs.drop (HT.sIx xs.length 0 lo)).take (HT.sIx xs.length xs.length hi - HT.sIx xs.length 0 lo)
mutual
def D.eqv : D → D → Bool
  | .non, .non => true
  | .bl a, .bl b => a == b
  | .bl a, .int j => (if a then 1 else 0) == j
  | .int i, .bl b => i == (if b then 1 else 0)
  | .int i, .int j => i == j
  | .str x, .str y => x == y
  | .lst xs, .lst ys => eqvAll xs ys
  | .lst xs, .scr ys => eqvAll xs ys
  | .scr xs, .lst ys => eqvAll xs ys
  | .scr xs, .scr ys => eqvAll xs ys
  | .tup xs, .tup ys => eqvAll xs ys
  | .ktp xs, .tup ys => eqvAll xs ys
  | .tup xs, .ktp ys => eqvAll xs ys
  | .ktp xs, .ktp ys => eqvAll xs ys
  | _, _ => false
def eqvAll : List D → List D → Bool
  | [], [] => true
  | x :: xs, y :: ys => D.eqv x y && eqvAll xs ys
  | _, _ => false
end
mutual
/-- plain data, at most so deep -/
def D.shp : Nat → D → Bool
  | _, .non | _, .bl _ | _, .int _ => true
  | _, .str x => x.cps.all (· < 0x110000)
  | n + 1, .lst xs | n + 1, .scr xs | n + 1, .tup xs | n + 1, .ktp xs => shpAll n xs
  | _, _ => false
def shpAll : Nat → List D → Bool
  | _, [] => true
  | n, x :: xs => D.shp n x && shpAll n xs
end
def flatD : D → Bool
  | .non | .bl _ | .int _ | .str _ => true
  | _ => false
def lkp : List Str → List D → Str → Option D
  | k :: ks, d :: ds, z => if z = k then some d else lkp ks ds z
  | _, _, _ => none
def seqOf : D → Option (List D)
  | .lst xs | .scr xs | .tup xs | .ktp xs => some xs
  | _ => none

/-! operations -/
abbrev Z : Nat := 100000
def dAdd : D → D → R D
  | .int i, .int j => .ok (.int (i + j))
  | .str a, .str b => if a.length + b.length ≤ Z then .ok (.str (a ++ b)) else .bad
  | .lst a, .lst b => if a.length + b.length ≤ Z then .ok (.lst (a ++ b)) else .bad
  | .tup a, .tup b => if a.length + b.length ≤ Z then .ok (.tup (a ++ b)) else .bad
  | _, _ => .bad
/-- of += -/
def dAddX : D → D → R D
  | .int i, .int j => .ok (.int (i + j))
  | .str a, .str b => if a.length + b.length ≤ Z then .ok (.str (a ++ b)) else .bad
  | _, _ => .bad
def dSub : D → D → R D
  | .int i, .int j => .ok (.int (i - j))
  | _, _ => .bad
instance (i j : Int) : Decidable (CMulW i j) := inferInstanceAs (Decidable (_ < _))
instance (i j : Int) : Decidable (CMul i j) := inferInstanceAs (Decidable (_ ∨ _))
instance (i j : Int) : Decidable (CShl i j) := inferInstanceAs (Decidable (_ ∧ _))
instance (i j : Int) : Decidable (CPow i j) := inferInstanceAs (Decidable (_ ∧ _))
instance (i j : Int) : Decidable (CDivW i j) := inferInstanceAs (Decidable (_ ∧ _))
def dMul : D → D → R D
  | .int i, .int j => if CMulW i j ∨ CMul i j then .ok (.int (i * j)) else .bad
  | .lst xs, .int k => if xs.length * k.toNat ≤ Z ∧ -(2 ^ 63) ≤ k ∧ k < 2 ^ 63 then .ok (.lst (List.replicate k.toNat xs).flatten) else .bad
  | _, _ => .bad
def dDiv : D → D → R D
  | .int i, .int j => if CDivW i j then .ok (.int (i / j)) else .bad
  | _, _ => .bad
def dMod : D → D → R D
  | .int i, .int j => if 0 < j then .ok (.int (i % j)) else .bad
  | _, _ => .bad
def dPow : D → D → R D
  | .int i, .int j => if CPow i j then .ok (.int (i ^ j.toNat)) else .bad
  | _, _ => .bad
def dShl : D → D → R D
  | .int i, .int j => if CShl i j ∨ CPow i j then .ok (.int (i * 2 ^ j.toNat)) else .bad
  | _, _ => .bad
def dShr : D → D → R D
  | .int i, .int j => if 0 ≤ j then .ok (.int (i / 2 ^ j.toNat)) else .bad
  | _, _ => .bad
def dAnd : D → D → R D
  | .int i, .int j => .ok (.int (Builtin.bitAnd i j))
  | _, _ => .bad
def dOr : D → D → R D
  | .int i, .int j => .ok (.int (Builtin.bitOr i j))
  | _, _ => .bad
def dXor : D → D → R D
  | .int i, .int j => .ok (.int (Builtin.bitXor i j))
  | _, _ => .bad
def dNeg : D → R D
  | .int i => .ok (.int (-i))
  | _ => .bad
def dNot : D → R D
  | .bl b => .ok (.bl !b)
  | _ => .bad
def dLt : D → D → R D
  | .int i, .int j => .ok (.bl (decide (i < j)))
  | .str a, .str b => .ok (.bl (decide (a.cps.toList < b.cps.toList)))
  | _, _ => .bad
def dLe : D → D → R D
  | .int i, .int j => .ok (.bl (decide (i ≤ j)))
  | .str a, .str b => .ok (.bl (!decide (b.cps.toList < a.cps.toList)))
  | _, _ => .bad
def dGt : D → D → R D
  | .int i, .int j => .ok (.bl (decide (j < i)))
  | .str a, .str b => .ok (.bl (decide (b.cps.toList < a.cps.toList)))
  | _, _ => .bad
def dGe : D → D → R D
  | .int i, .int j => .ok (.bl (decide (j ≤ i)))
  | .str a, .str b => .ok (.bl (!decide (a.cps.toList < b.cps.toList)))
  | _, _ => .bad
/-- ==: of texts without a look at their signs -/
def dEq : D → D → R D
  | .int i, .int j => .ok (.bl (decide (i = j)))
  | .str a, .str b => .ok (.bl (decide (a = b)))
  | .non, .str _ => .ok (.bl false)
  | .str _, .non => .ok (.bl false)
  | x, y => if x.shp 64 && y.shp 64 then .ok (.bl (x.eqv y)) else .bad
def dNe : D → D → R D := fun x y => (dEq x y).bind dNot
def inD (x : D) (xs : List D) : Bool := xs.any fun y => y.eqv x
def dIn : D → D → R D
  | .str a, .str b => .ok (.bl (!(Builtin.Str.occurrences b a 0 b.length 1).isEmpty))
  | .str a, .dct ks ds => .ok (.bl (lkp ks ds a).isSome)
  | x, y => match seqOf y with
    | some xs => if flatD x && xs.all flatD then .ok (.bl (inD x xs)) else .bad
    | none => .bad
def dNotIn : D → D → R D := fun x y => (dIn x y).bind dNot
def dIsN : D → R D
  | .non => .ok (.bl true)
  | _ => .ok (.bl false)
def dIsNot : D → R D := fun x => (dIsN x).bind dNot
def dIs : D → D → R D
  | x, .non => dIsN x
  | _, _ => .bad
def dIsnt : D → D → R D
  | x, .non => dIsNot x
  | _, _ => .bad
/-! cells of the store: lists -/
def onL {α : Type} (n : Nat) (k : List D → Sto → Rs α) : R α := fun s => match s[n]? with
  | some (.lst xs) => k xs s
  | _ => Rs.bad
def oR {α β : Type} (o : Option α) (k : α → Rs β) : Rs β := match o with
  | some a => k a
  | none => Rs.bad
def cIx (n : Nat) (i : Int) : R D := onL n fun xs s => oR (atI xs i) fun d => Rs.ok d s
def cLen (n : Nat) : R D := onL n fun xs s => Rs.ok (.int xs.length) s
def cNew (c : Cell) : R D := fun s => Rs.ok (.mref s.length) (s ++ [c])
def cPop0 (n : Nat) : R D := onL n fun xs s => oR xs[0]? fun d => Rs.ok d (s.set n (.lst xs.tail))
def cSet (n : Nat) (j : Int) (d : D) : R Unit := onL n fun xs s => oR (ixN xs.length j) fun k => Rs.ok () (s.set n (.lst (xs.set k d)))
def cApps (n : Nat) (ys : List D) : R Unit := onL n fun xs s => if xs.length + ys.length ≤ Z then Rs.ok () (s.set n (.lst (xs ++ ys))) else Rs.bad
def cPopL (n : Nat) : R D := onL n fun xs s => oR xs[xs.length - 1]? fun d => Rs.ok d (s.set n (.lst xs.dropLast))
def cApp (n : Nat) (d : D) : R Unit := onL n fun xs s => if xs.length < Z then Rs.ok () (s.set n (.lst (xs ++ [d]))) else Rs.bad
def dIx : D → D → R D
  | .str z, .int i => if z.length ≤ Z then (match atI z.cps.toList i with | some c => .ok (.str ⟨#[c]⟩) | none => .bad) else .bad
  | .dct ks ds, .str z => match lkp ks ds z with | some d => .ok d | none => .bad
  | .mref n, .int i => cIx n i
  | .lst xs, .int i | .scr xs, .int i | .tup xs, .int i | .ktp xs, .int i => match atI xs i with | some d => .ok d | none => .bad
  | _, _ => .bad
def dSl : D → Option Int → Option Int → R D
  | .str z, lo, hi => if z.length ≤ Z then .ok (.str (cutS z lo hi)) else .bad
  | .lst xs, lo, hi | .scr xs, lo, hi => .ok (.lst (cutG xs lo hi))
  | .tup xs, lo, hi | .ktp xs, lo, hi => .ok (.tup (cutG xs lo hi))
  | _, _, _ => .bad
def toBl : D → R Bool
  | .bl b => .ok b
  | _ => .bad
def toIn : D → R Int
  | .int i => .ok i
  | _ => .bad
/-! built-ins, by their arguments -/
def fLen : List D → R D
  | [.str z] => if z.length ≤ Z then .ok (.int z.length) else .bad
  | [.lst xs] | [.scr xs] | [.tup xs] | [.ktp xs] => .ok (.int xs.length)
  | [.mref n] => cLen n
  | _ => .bad
def fInt : List D → R D
  | [.int i] => .ok (.int i)
  | [.bl b] => .ok (.int (if b then 1 else 0))
  | _ => .bad
def fStr : List D → R D
  | [.int i] => if i.natAbs.log2 < 1920 then .ok (.str (Str.ofString (toString i))) else .bad
  | _ => .bad
def fAbs : List D → R D
  | [.int i] => .ok (.int (if i < 0 then -i else i))
  | _ => .bad
def fMin2 : List D → R D
  | [.int i, .int j] => .ok (.int (if j < i then j else i))
  | _ => .bad
def fMax2 : List D → R D
  | [.int i, .int j] => .ok (.int (if j > i then j else i))
  | _ => .bad
def fOrd : List D → R D
  | [.str x] => if x.length = 1 then .ok (.int (x.cps.getD 0 0 : Nat)) else .bad
  | _ => .bad
def intsOf : List D → Option (List Int)
  | [] => some []
  | .int i :: r => (intsOf r).map (i :: ·)
  | _ => none
def strsOf : List D → Option (List Str)
  | [] => some []
  | .str i :: r => (strsOf r).map (i :: ·)
  | _ => none
def fSum : List D → R D
  | [.lst xs] | [.scr xs] => match intsOf xs with | some ns => .ok (.int ns.sum) | none => .bad
  | _ => .bad
def fTuple : List D → R D
  | [.lst xs] | [.scr xs] | [.tup xs] | [.ktp xs] => .ok (.tup xs)
  | [.mref n] => onL n fun xs s => Rs.ok (.tup xs) s
  | _ => .bad
/-- list(..): a new list -/
def fList : List D → R (List D)
  | [.lst xs] | [.scr xs] | [.tup xs] | [.ktp xs] => .ok xs
  | [.mref n] => onL n fun xs s => Rs.ok xs s
  | _ => .bad
inductive Ty where | int | bool | str | list | tuple | dict
/-- isinstance(x, a built-in type) -/
def isTy : Ty → D → Bool
  | .int, .int _ | .int, .bl _ | .bool, .bl _ | .str, .str _ | .list, .lst _ | .list, .scr _ | .tuple, .tup _ | .tuple, .ktp _ | .dict, .dct _ _ => true
  | _, _ => false
def dIsi (t : Ty) : D → R D
  | .fn _ | .mref _ => .bad
  | x => .ok (.bl (isTy t x))
/-! methods -/
def mFind : D → List D → R D
  | .str a, [.str b] => .ok (.int (Txt.find a b))
  | _, _ => .bad
def mRfind : D → List D → R D
  | .str a, [.str b] => .ok (.int (Txt.rfind a b))
  | _, _ => .bad
def mCount : D → List D → R D
  | .str a, [.str b] => .ok (.int (Txt.count a b))
  | _, _ => .bad
def mLower : D → List D → R D
  | .str a, [] => if a.length ≤ Z then .ok (.str (Txt.lower a)) else .bad
  | _, _ => .bad
def mStarts : D → List D → R D
  | .str a, [.str b] => .ok (.bl (Txt.startswith a b))
  | _, _ => .bad
def mJoin : D → List D → R D
  | .str a, [.lst xs] | .str a, [.scr xs] | .str a, [.tup xs] => match strsOf xs with
    | some ys => if (ys.map (·.length)).sum + ys.length * a.length ≤ 16777216 then .ok (.str (Txt.join a ys)) else .bad
    | none => .bad
  | _, _ => .bad
/-- names.index(z) of a tuple of texts, where it is -/
def mTIndex : D → List D → R D
  | .ktp xs, [.str z] => match strsOf xs with
    | some ys => if z ∈ ys then .ok (.int (ys.idxOf z : Nat)) else .bad
    | none => .bad
  | _, _ => .bad

/-! ### expressions -/
def eC (d : D) : SE := fun _ => .ok d
def eV (i : Nat) : SE := fun env => match env[i]? with
  | some (.val d) => .ok d
  | _ => .bad
/-- len(xs), xs[k] of a list of one's own that still grows -/
def eLenO (i : Nat) : SE := fun env => match env[i]? with
  | some (.own xs) => .ok (.int xs.length)
  | _ => .bad
def eIxO (i : Nat) (b : SE) : SE := fun env => match env[i]? with
  | some (.own xs) => (b env).bind fun k => match k with
    | .int j => match atI xs j with
      | some d => .ok d
      | none => .bad
    | _ => .bad
  | _ => .bad
def eNil : SA := fun _ => .ok []
def eCons (a : SE) (r : SA) : SA := fun env => (a env).bind fun x => (r env).bind fun xs => .ok (x :: xs)
def eU (f : D → R D) (a : SE) : SE := fun env => (a env).bind f
def eB (f : D → D → R D) (a b : SE) : SE := fun env => (a env).bind fun x => (b env).bind fun y => f x y
def eChain (f g : D → D → R D) (a b c : SE) : SE := fun env => (a env).bind fun x => (b env).bind fun y => (f x y).bind fun r => (toBl r).bind fun k => if k = true then (c env).bind fun z => (g y z).bind fun r2 => (toBl r2).bind fun k2 => .ok (.bl k2) else .ok (.bl false)
def eAnd (a b : SE) : SE := fun env => (a env).bind fun x => (toBl x).bind fun k => if k = true then b env else .ok (.bl false)
def eOr (a b : SE) : SE := fun env => (a env).bind fun x => (toBl x).bind fun k => if k = true then .ok (.bl true) else b env
def eTup (a : SA) : SE := fun env => (a env).bind fun xs => if xs.length ≤ Z then .ok (.tup xs) else .bad
def eF (f : List D → R D) (a : SA) : SE := fun env => (a env).bind f
def eM (t : Ty) (f : D → List D → R D) (o : SE) (a : SA) : SE := fun env => (o env).bind fun x => if isTy t x = true then (a env).bind fun xs => f x xs else .bad
/-- the receiver is a tuple of the module: seen ahead of the arguments -/
def eTIx (o : SE) (a : SA) : SE := fun env => (o env).bind fun x => match x with
  | .ktp xs => (a env).bind fun ds => mTIndex (.ktp xs) ds
  | _ => .bad
def eSl (o : SE) (lo hi : Env → R (Option Int)) : SE := fun env => (o env).bind fun x => (lo env).bind fun l => (hi env).bind fun h => dSl x l h
def pN : Env → R (Option Int) := fun _ => .ok none
def pS (a : SE) : Env → R (Option Int) := fun env => (a env).bind fun x => (toIn x).bind fun i => .ok (some i)
/-- a new list as a value -/
def eL (a : SA) : SE := fun env => (a env).bind fun xs => .ok (.lst xs)
/-- tests -/
def tE (a : SE) : ST := fun env => (a env).bind toBl
def tAn (t u : ST) : ST := fun env => (t env).bind fun k => if k = true then u env else .ok false
def tO (t u : ST) : ST := fun env => (t env).bind fun k => if k = true then .ok true else u env
def tN (t : ST) : ST := fun env => (t env).bind fun k => .ok !k
def eIf (t : ST) (a b : SE) : SE := fun env => (t env).bind fun k => if k = true then a env else b env
/-! new lists -/
def lD (a : SA) : SA := fun env => (a env).bind fun xs => if xs.length ≤ Z then .ok xs else .bad
def toL : D → R (List D)
  | .lst xs => .ok xs
  | _ => .bad
/-- a + b, a * k, a[lo:hi] of lists, as new lists -/
def lCat (a b : SE) : SA := fun env => (a env).bind fun x => (b env).bind fun y => match x, y with
  | .lst xs, .lst ys => if xs.length + ys.length ≤ Z then .ok (xs ++ ys) else .bad
  | _, _ => .bad
def lRep (a b : SE) : SA := fun env => (a env).bind fun x => (b env).bind fun y => match x, y with
  | .lst xs, .int k => if xs.length * k.toNat ≤ Z ∧ -(2 ^ 63) ≤ k ∧ k < 2 ^ 63 then .ok (List.replicate k.toNat xs).flatten else .bad
  | _, _ => .bad
def lSl (o : SE) (lo hi : Env → R (Option Int)) : SA := fun env => (o env).bind fun x => (lo env).bind fun l => (hi env).bind fun h => match x with
  | .lst xs => .ok (cutG xs l h)
  | .scr xs => .ok (cutG xs l h)
  | _ => .bad
def lF (f : List D → R (List D)) (a : SA) : SA := fun env => (a env).bind f
def lRev (o : SE) : SA := fun env => (o env).bind fun x => match x with
  | .lst xs => .ok xs.reverse
  | .scr xs => .ok xs.reverse
  | _ => .bad
/-- a new list as a cell -/
def eCell (la : SA) : SE := fun env => (la env).bind fun ds => cNew (.lst ds)
/-- a method of a list that is a cell -/
def isCL : D → R Unit
  | .mref n => onL n fun _ s => Rs.ok () s
  | _ => .bad
def eMM (f : D → List D → R D) (o : SE) (a : SA) : SE := fun env => (o env).bind fun x => (isCL x).bind fun _ => (a env).bind fun xs => f x xs
def mPop0 : D → List D → R D
  | .mref n, [.int i] => if i = 0 then cPop0 n else .bad
  | _, _ => .bad
def mApp : D → List D → R D
  | .mref n, [d] => (cApp n d).bind fun _ => .ok .non
  | _, _ => .bad
def setM : D → D → D → R Unit
  | .mref n, .int j, d => cSet n j d
  | _, _, _ => .bad
/-! what is walked -/
def iD (o : SE) : SA := fun env => (o env).bind fun x => match x with
  | .lst xs => .ok xs
  | .scr xs => .ok xs
  | _ => .bad
def iT (o : SE) : SA := fun env => (o env).bind fun x => match x with
  | .tup xs => .ok xs
  | .ktp xs => .ok xs
  | _ => .bad
def iS (o : SE) : SA := fun env => (o env).bind fun x => match x with
  | .str z => .ok (z.cps.toList.map fun c => .str ⟨#[c]⟩)
  | _ => .bad
def iR1 (a : SA) : SA := fun env => (a env).bind fun x => match x with
  | [.int n] => if n ≤ Z ∧ -Z ≤ n then .ok ((List.range n.toNat).map fun (i : Nat) => .int i) else .bad
  | _ => .bad
def iR2 (a : SA) : SA := fun env => (a env).bind fun x => match x with
  | [.int m, .int n] => if n ≤ Z ∧ -Z ≤ n ∧ m ≤ Z ∧ -Z ≤ m then .ok ((List.range (n - m).toNat).map fun (i : Nat) => .int (m + (i : Int))) else .bad
  | _ => .bad
def zipD : List D → List D → List D
  | x :: xs, y :: ys => .tup [x, y] :: zipD xs ys
  | _, _ => []
def iZT (a : SA) : SA := fun env => (a env).bind fun x => match x with
  | [.tup xs, .tup ys] => .ok (zipD xs ys)
  | _ => .bad
def iZL (a : SA) : SA := fun env => (a env).bind fun x => match x with
  | [.lst xs, .lst ys] => .ok (zipD xs ys)
  | _ => .bad
def enumD : Nat → List D → List D
  | n, x :: xs => .tup [.int n, x] :: enumD (n + 1) xs
  | _, [] => []
def iEn (o : SE) : SA := fun env => (o env).bind fun x => match x with
  | .lst xs => .ok (enumD 0 xs)
  | _ => .bad
/-! ### targets -/
abbrev SG := D → Env → Option Env
def gN (i : Nat) : SG := fun d env => some (env.set i (.val d))
abbrev SGs := List D → Env → Option Env
def gE : SGs := fun ds env => match ds with
  | [] => some env
  | _ => none
def gC (g : SG) (r : SGs) : SGs := fun ds env => match ds with
  | d :: ds => match g d env with
    | some env2 => r ds env2
    | none => none
  | _ => none
def gT (n : Nat) (r : SGs) : SG := fun d env => match d with
  | .tup ds | .ktp ds => if ds.length = n then r ds env else none
  | _ => none
/-! comprehensions -/
def wipeS (env : Env) : List Nat → Env
  | [] => env
  | v :: vs => (wipeS env vs).set v .un
/-- no exception comes -/
def noX {α : Type} (r : R α) : R α := fun s => match r s with
  | .ok a s' => Rs.ok a s'
  | _ => Rs.bad
def lcGo (g : SG) (t : ST) (e : SE) (env : Env) : List D → List D → R (List D)
  | [], acc => .ok acc
  | d :: ds, acc => match g d env with
    | some env2 => (noX (t env2)).bind fun k => if k = true then (noX (e env2)).bind fun x => lcGo g t e env ds (acc ++ [x]) else lcGo g t e env ds acc
    | none => .bad
def lLc (it : SA) (g : SG) (t : ST) (e : SE) (vs : List Nat) : SA := fun env => (it env).bind fun ds => if ds.length ≤ 40000 then lcGo g t e (wipeS env vs) ds [] else .bad
def tY : ST := fun _ => .ok true
/-! ### statements -/
def ofE {α : Type} (r : R α) (env : Env) (k : α → RS) : RS := fun s => match r s with
  | .ok a s' => k a s'
  | .exc c fs s' => RSr.exc c fs env s'
  | .bad => RSr.bad
def sNx : SS := fun env => .nx env
/-- a piece, then the next one -/
def thenR (r : RSr) (p : SS) : RSr := match r with
  | .nx e s => p e s
  | r => r
def thenS (r : RS) (p : SS) : RS := fun s => thenR (r s) p
def sSeq (a b : SS) : SS := fun env => thenS (a env) b
def ofG (r : Option Env) (k : Env → RS) : RS := match r with
  | some e => k e
  | none => .bad
def sG (e : SE) (g : SG) : SS := fun env => ofE (e env) env fun d => ofG (g d env) fun e2 => .nx e2
def sA (i : Nat) (e : SE) : SS := fun env => ofE (e env) env fun d => .nx (env.set i (.val d))
/-- a new list of one's own -/
def sO (i : Nat) (e : SA) : SS := fun env => ofE (e env) env fun ds => .nx (env.set i (.own ds))
def frz (i : Nat) (env : Env) : Env := match env[i]? with
  | some (.own ds) => env.set i (.val (.lst ds))
  | _ => env
def sFrz (i : Nat) (s : SS) : SS := fun env => s (frz i env)
def sApp (i : Nat) (e : SE) : SS := fun env => match env[i]? with
  | some (.own xs) => ofE (e env) env fun d => if xs.length < Z then .nx (env.set i (.own (xs ++ [d]))) else .bad
  | _ => .bad
def sExt (i : Nat) (e : SE) : SS := fun env => match env[i]? with
  | some (.own xs) => ofE (e env) env fun d => match d with
    | .lst ys => if xs.length + ys.length ≤ Z then .nx (env.set i (.own (xs ++ ys))) else .bad
    | _ => .bad
  | _ => .bad
/-- xs.pop() as a statement -/
def sPop (i : Nat) : SS := fun env => match env[i]? with
  | some (.own xs) => if xs = [] then .bad else .nx (env.set i (.own xs.dropLast))
  | _ => .bad
/-- xs[k] = e -/
def sSet (i : Nat) (k e : SE) : SS := fun env => match env[i]? with
  | some (.own xs) => ofE (e env) env fun d => ofE (k env) env fun j => match j with
    | .int j => match ixN xs.length j with
      | some n => .nx (env.set i (.own (xs.set n d)))
      | none => .bad
    | _ => .bad
  | _ => .bad
/-- xs[k] = e of a list that is a cell -/
def sMSet (o k e : SE) : SS := fun env => ofE (e env) env fun d => ofE (o env) env fun x => ofE (k env) env fun j => ofE (setM x j d) env fun _ => .nx env
def sAug (i : Nat) (f : D → D → R D) (e : SE) : SS := fun env => match env[i]? with
  | some (.val x) => ofE (e env) env fun y => ofE (f x y) env fun z => .nx (env.set i (.val z))
  | _ => .bad
def sX (e : SE) : SS := fun env => ofE (e env) env fun _ => .nx env
def sIf (t : ST) (a b : SS) : SS := fun env => ofE (t env) env fun k => if k = true then a env else b env
def sRet (e : SE) : SS := fun env => ofE (e env) env fun d => .rt (.val d)
/-- a new list handed back; a list of one's own handed back -/
def sRetL (e : SA) : SS := fun env => ofE (e env) env fun ds => .rt (.own ds)
def sRetO (i : Nat) : SS := fun env => match env[i]? with
  | some (.own xs) => .rt (.own xs)
  | _ => .bad
def sRetN : SS := fun _ => .rt (.val .non)
def sBr : SS := fun env => .bk env
def sCt : SS := fun env => .ct env
def sNever : SS := fun _ => .bad
/-- what a turn comes to, then the next ones -/
def turnS (r : RSr) (k : Env → RS) : RSr := match r with
  | .nx e s | .ct e s => k e s
  | .bk e s => .nx e s
  | r => r
def thenW (x : RS) (k : Env → RS) : RS := fun s => turnS (x s) k
def forGo (g : SG) (b : SS) : List D → Env → RS
  | [], env => .nx env
  | d :: ds, env => ofG (g d env) fun e2 => thenW (b e2) (forGo g b ds)
def sFor (it : SA) (g : SG) (b : SS) : SS := fun env => ofE (it env) env fun ds => forGo g b ds env
def whGo (t : ST) (b : SS) : Nat → Env → RS
  | 0, _ => .bad
  | n + 1, env => ofE (t env) env fun k => if k = true then thenW (b env) (whGo t b n) else .nx env
/-- while, at most so many turns -/
def sWh (n : Nat) (t : ST) (b : SS) : SS := fun env => whGo t b n env
def sRaise (c : Nat) (nm : List Str) (a : SA) : SS := fun env => ofE (a env) env fun ds => if ds.length = nm.length then .exc c (nm.zip ds) env else .bad
def noExn (env : Env) : Bool := env.all fun s => match s with
  | .exn _ _ => false
  | _ => true
def ifB (b : Bool) (r : RSr) : RSr := if b = true then r else .bad
def tryR (r : RSr) (i : Nat) (cs : Nat → Option Bool) (h : SS) : RSr := match r with
  | .exc c fs e2 s2 => match cs c with
    | some true => ifB (noExn e2) (match h (e2.set i (.exn c fs)) s2 with
      | .nx e3 s3 => ifB (noExn (e3.set i .un)) (.nx (e3.set i .un) s3)
      | .bk e3 s3 => ifB (noExn (e3.set i .un)) (.bk (e3.set i .un) s3)
      | .ct e3 s3 => ifB (noExn (e3.set i .un)) (.ct (e3.set i .un) s3)
      | .rt v s3 => .rt v s3
      | _ => .bad)
    | some false => .exc c fs e2 s2
    | none => .bad
  | r => r
def sTry (b : SS) (i : Nat) (cs : Nat → Option Bool) (h : SS) : SS := fun env s => tryR (b env s) i cs h
/-- e.f of the exception in the hand -/
def eXf (i : Nat) (c : Nat) (f : Str) : SE := fun env => match env[i]? with
  | some (.exn c2 fs) => if c2 = c then (match fs.lookup f with | some d => .ok d | none => .bad) else .bad
  | _ => .bad
/-! ### defs -/
/-- a def of n parameters, with k further names -/
def endD : RSr → Rs D
  | .rt (.val d) s => .ok d s
  | .rt (.own xs) s => .ok (.lst xs) s
  | .nx _ s => .ok .non s
  | .exc c fs _ s => .exc c fs s
  | _ => .bad
/-- the end of a def -/
def endV (r : RS) : R D := fun s => endD (r s)
def defV (n k : Nat) (b : SS) (ds : List D) : R D := if ds.length = n then endV (b (ds.map .val ++ List.replicate k .un)) else .bad
/-- .. that hands back a new list -/
def endDL : RSr → Rs (List D)
  | .rt (.own xs) s => .ok xs s
  | .exc c fs _ s => .exc c fs s
  | _ => .bad
def endL (r : RS) : R (List D) := fun s => endDL (r s)
def defL (n k : Nat) (b : SS) (ds : List D) : R (List D) := if ds.length = n then endL (b (ds.map .val ++ List.replicate k .un)) else .bad
/-- a call of a name that holds a def -/
def eP (tb : Nat → Option (List D → R D)) (i : Nat) (a : SA) : SE := fun env => match env[i]? with
  | some (.val (.fn n)) => match tb n with
    | some m => (a env).bind m
    | none => .bad
  | _ => .bad
end Dm
set_option Elab.async false
set_option linter.all false
set_option maxRecDepth 100000
set_option maxHeartbeats 4000000
/-! Ds: that the text's run follows Dm's function: JE, JT, JA, JS, .. say of a piece of the text that it runs as a function of Dm tells. -/
namespace Dm
open PySem L2 Evl RZ Wm
/-- what is known of the heap: data that stay, the places of the store's cells, the store -/
structure Gd where
  g : Hp
  m : List Addr
  s : Sto
abbrev Gd.put (G : Gd) (s : Sto) : Gd := ⟨G.g, G.m, s⟩
abbrev Gd.upd (G : Gd) (p : Addr) (o : HO) : Gd := ⟨L2.upd G.g p o, G.m, G.s⟩
mutual
/-- v is the datum d in the heap H, cells at M -/
inductive Rp (K : PySem.W.Frag) (w : World) (ad : Nat → Addr) (H : Hp) (M : List Addr) : V → D → Prop
  | non : Rp K w ad H M .non .non
  | bl (b : Bool) : Rp K w ad H M (.bl b) (.bl b)
  | int (i : Int) : Rp K w ad H M (.int i) (.int i)
  | str (x : Str) : Rp K w ad H M (.str x) (.str x)
  | lst {a : Addr} {vs : List V} {ds : List D} : H a = some (.lst vs) → RpL K w ad H M vs ds → Rp K w ad H M (.ref a) (.lst ds)
  | scr {a : Addr} {vs : List V} {ds : List D} : SqL K H a vs → RpL K w ad H M vs ds → Rp K w ad H M (.ref a) (.scr ds)
  | tup {a : Addr} {vs : List V} {ds : List D} : SqT K H a vs → RpL K w ad H M vs ds → Rp K w ad H M (.ref a) (.tup ds)
  | ktp {a : Addr} {vs : List V} {ds : List D} : SqT K H a vs → (∃ o, K.lookup a = some o ∧ o.cls = .type "tuple" ∧ o.dict = none) → RpL K w ad H M vs ds → Rp K w ad H M (.ref a) (.ktp ds)
  | fn (n : Nat) : Rp K w ad H M (.ref (ad n)) (.fn n)
  | dct {a : Addr} {ks : List Str} {vs : List V} {ds : List D} : ks.length = vs.length → SD K w a (ks.zip vs) → RpL K w ad H M vs ds → Rp K w ad H M (.ref a) (.dct ks ds)
  | mref {n : Nat} {a : Addr} : M[n]? = some a → Rp K w ad H M (.ref a) (.mref n)
inductive RpL (K : PySem.W.Frag) (w : World) (ad : Nat → Addr) (H : Hp) (M : List Addr) : List V → List D → Prop
  | nil : RpL K w ad H M [] []
  | cons {v : V} {d : D} {vs : List V} {ds : List D} : Rp K w ad H M v d → RpL K w ad H M vs ds → RpL K w ad H M (v :: vs) (d :: ds)
end
/-- the pairs of a dict -/
inductive RpK (K : PySem.W.Frag) (w : World) (ad : Nat → Addr) (H : Hp) (M : List Addr) : List (Key × V) → List (Key × D) → Prop
  | nil : RpK K w ad H M [] []
  | cons {k : Key} {v : V} {d : D} {vs : List (Key × V)} {ds : List (Key × D)} : Rp K w ad H M v d → RpK K w ad H M vs ds → RpK K w ad H M ((k, v) :: vs) ((k, d) :: ds)
abbrev Rep (K : PySem.W.Frag) (w : World) (ad : Nat → Addr) (G : Gd) (v : V) (d : D) : Prop := Rp K w ad G.g G.m v d
abbrev RepL (K : PySem.W.Frag) (w : World) (ad : Nat → Addr) (G : Gd) (v : List V) (d : List D) : Prop := RpL K w ad G.g G.m v d
/-- more is known -/
structure ExG (G G' : Gd) : Prop where
  g : Ex G.g G'.g
  m : ∀ (n : Nat) (a : Addr), G.m[n]? = some a → G'.m[n]? = some a
  s : G'.s = G.s
theorem ExG.refl (G : Gd) : ExG G G := ⟨Ex.refl _, fun _ _ h => h, rfl⟩
theorem ExG.tr {G G1 G2 : Gd} (a : ExG G G1) (b : ExG G1 G2) : ExG G G2 := ⟨a.g.trans b.g, fun n x h => b.m n x (a.m n x h), b.s.trans a.s⟩
theorem ExG.trans {G G1 G2 : Gd} {t : Sto} (a : ExG G G1) (b : ExG (G1.put t) G2) : ExG (G.put t) G2 := ⟨a.g.trans b.g, fun n x h => b.m n x (a.m n x h), b.s⟩
theorem ExG.put {G G1 : Gd} (a : ExG G G1) (s : Sto) : ExG (G.put s) (G1.put s) := ⟨a.g, a.m, rfl⟩
theorem ExG.new {G : Gd} {p : Addr} {o : HO} (h : G.g p = none) : ExG G (G.upd p o) := ⟨Ex.new h, fun _ _ h => h, rfl⟩
section
variable {K : PySem.W.Frag} {w : World} {ad : Nat → Addr} {G G' G1 G2 G0 : Gd} {H H' H1 H2 H0 : Hp} {M M' : List Addr}
mutual
theorem Rp.mono0 (e : Ex H H') (m : ∀ (n : Nat) (a : Addr), M[n]? = some a → M'[n]? = some a) : ∀ {v : V} {d : D}, Rp K w ad H M v d → Rp K w ad H' M' v d
  | _, _, .non => .non
  | _, _, .bl b => .bl b
  | _, _, .int i => .int i
  | _, _, .str i => .str i
  | _, _, .lst h r => .lst (e _ _ h) (RpL.mono0 e m r)
  | _, _, .scr h r => .scr (ex_l e h) (RpL.mono0 e m r)
  | _, _, .tup h r => .tup (ex_t e h) (RpL.mono0 e m r)
  | _, _, .ktp h k r => .ktp (ex_t e h) k (RpL.mono0 e m r)
  | _, _, .fn n => .fn n
  | _, _, .dct hl h r => .dct hl h (RpL.mono0 e m r)
  | _, _, .mref h => .mref (m _ _ h)
theorem RpL.mono0 (e : Ex H H') (m : ∀ (n : Nat) (a : Addr), M[n]? = some a → M'[n]? = some a) : ∀ {v : List V} {d : List D}, RpL K w ad H M v d → RpL K w ad H' M' v d
  | _, _, .nil => .nil
  | _, _, .cons h r => .cons (Rp.mono0 e m h) (RpL.mono0 e m r)
end
theorem RpK.mono0 (e : Ex H H') (m : ∀ (n : Nat) (a : Addr), M[n]? = some a → M'[n]? = some a) : ∀ {v : List (Key × V)} {d : List (Key × D)}, RpK K w ad H M v d → RpK K w ad H' M' v d
  | _, _, .nil => .nil
  | _, _, .cons h r => .cons (Rp.mono0 e m h) (RpK.mono0 e m r)
theorem Rp.mono (e : ExG G G') {v : V} {d : D} (r : Rp K w ad G.g G.m v d) : Rp K w ad G'.g G'.m v d := Rp.mono0 e.g e.m r
theorem RpL.mono (e : ExG G G') {v : List V} {d : List D} (r : RpL K w ad G.g G.m v d) : RpL K w ad G'.g G'.m v d := RpL.mono0 e.g e.m r
theorem RpL.length : ∀ {v : List V} {d : List D}, RpL K w ad H M v d → v.length = d.length
  | _, _, .nil => rfl
  | _, _, .cons _ r => congrArg (· + 1) r.length
theorem RpL.append : ∀ {v v2 : List V} {d d2 : List D}, RpL K w ad H M v d → RpL K w ad H M v2 d2 → RpL K w ad H M (v ++ v2) (d ++ d2)
  | _, _, _, _, .nil, h => h
  | _, _, _, _, .cons h r, h2 => .cons h (r.append h2)
theorem RpL.get : ∀ {v : List V} {d : List D} {i : Nat} {x : D}, RpL K w ad H M v d → d[i]? = some x → ∃ u, v[i]? = some u ∧ Rp K w ad H M u x
  | _, _, _, _, .nil, h => by cases h
  | _, _, 0, _, .cons h r, e => by cases e; exact ⟨_, rfl, h⟩
  | _, _, i + 1, _, .cons h r, e => RpL.get (i := i) r e
theorem RpL.getV : ∀ {v : List V} {d : List D} {i : Nat} {u : V}, RpL K w ad H M v d → v[i]? = some u → ∃ x, d[i]? = some x ∧ Rp K w ad H M u x
  | _, _, _, _, .nil, h => by cases h
  | _, _, 0, _, .cons h r, e => by cases e; exact ⟨_, rfl, h⟩
  | _, _, i + 1, _, .cons h r, e => RpL.getV (i := i) r e
theorem RpL.take : ∀ {v : List V} {d : List D} (n : Nat), RpL K w ad H M v d → RpL K w ad H M (v.take n) (d.take n)
  | _, _, 0, _ => by simp only [List.take_zero]; exact .nil
  | _, _, n + 1, .nil => .nil
  | _, _, n + 1, .cons h r => .cons h (r.take n)
theorem RpL.drop : ∀ {v : List V} {d : List D} (n : Nat), RpL K w ad H M v d → RpL K w ad H M (v.drop n) (d.drop n)
  | _, _, 0, h => h
  | _, _, n + 1, .nil => .nil
  | _, _, n + 1, .cons h r => r.drop n
theorem RpL.set {x : V} {y : D} (q : Rp K w ad H M x y) : ∀ {v : List V} {d : List D} (n : Nat), RpL K w ad H M v d → RpL K w ad H M (v.set n x) (d.set n y)
  | _, _, _, .nil => .nil
  | _, _, 0, .cons h r => .cons q r
  | _, _, n + 1, .cons h r => .cons h (r.set q n)
theorem RpL.dropLast : ∀ {v : List V} {d : List D}, RpL K w ad H M v d → RpL K w ad H M v.dropLast d.dropLast
  | _, _, .nil => .nil
  | _, _, .cons h .nil => .nil
  | _, _, .cons h (.cons h2 r) => .cons h (RpL.dropLast (.cons h2 r))
theorem RpL.reverse : ∀ {v : List V} {d : List D}, RpL K w ad H M v d → RpL K w ad H M v.reverse d.reverse
  | _, _, .nil => .nil
  | _, _, .cons h r => by
    rw [List.reverse_cons, List.reverse_cons]
    exact r.reverse.append (.cons h .nil)
theorem RpL.rep {v : List V} {d : List D} (h : RpL K w ad H M v d) : ∀ k : Nat, RpL K w ad H M (List.replicate k v).flatten (List.replicate k d).flatten
  | 0 => .nil
  | k + 1 => by
    rw [List.replicate_succ, List.replicate_succ, List.flatten_cons, List.flatten_cons]
    exact h.append (RpL.rep h k)
theorem RpL.cut {v : List V} {d : List D} (h : RpL K w ad H M v d) (lo hi : Option Int) : RpL K w ad H M (cutV v lo hi) (cutG d lo hi) := by
  unfold cutV cutG
  rw [h.length]
  exact (h.drop _).take _
theorem RpL.ints : ∀ {v : List V} {d : List D} {ns : List Int}, RpL K w ad H M v d → intsOf d = some ns → v = ns.map V.int
  | _, _, _, .nil, e => by cases e; rfl
  | _, _, _, .cons h r, e => by
    cases h with
    | int i =>
      unfold intsOf at e
      cases q : intsOf _ with
      | none => rw [q] at e; cases e
      | some ms =>
        rw [q] at e
        cases e
        rw [RpL.ints r q]
        rfl
    | _ => cases e
theorem RpL.strs : ∀ {v : List V} {d : List D} {ns : List Str}, RpL K w ad H M v d → strsOf d = some ns → v = ns.map V.str
  | _, _, _, .nil, e => by cases e; rfl
  | _, _, _, .cons h r, e => by
    cases h with
    | str i =>
      unfold strsOf at e
      cases q : strsOf _ with
      | none => rw [q] at e; cases e
      | some ms =>
        rw [q] at e
        cases e
        rw [RpL.strs r q]
        rfl
    | _ => cases e
theorem RpL.atI {v : List V} {d : List D} {i : Int} {x : D} (h : RpL K w ad H M v d) (e : L2.atI d i = some x) : ∃ u, L2.atI v i = some u ∧ Rp K w ad H M u x := by
  unfold L2.atI at e ⊢
  rw [h.length]
  cases c : ixN d.length i with
  | none => rw [c] at e; cases e
  | some j =>
    rw [c] at e
    exact h.get e
end
/-- what is the same throughout -/
structure Cc where
  K : PySem.W.Frag
  w : World
  ad : Nat → Addr
/-- what stands at a cell's place -/
def CellAt (C : Cc) (G : Gd) (H : Hp) (a : Addr) : Cell → Prop
  | .lst xs => ∃ vs, H a = some (.lst vs) ∧ RepL C.K C.w C.ad G vs xs
  | .dct kvs => ∃ ps, H a = some (.dK ps) ∧ RpK C.K C.w C.ad G.g G.m ps kvs
  | .ins c ds => ∃ dx vs, H a = some (.ins (C.ad c) dx ((fl c).zip vs)) ∧ RepL C.K C.w C.ad G vs ds ∧ ds.length ≤ (fl c).length
/-- the ground and the store, in the heap -/
structure SOk (C : Cc) (G : Gd) (H : Hp) : Prop where
  e : Ex G.g H
  len : G.m.length = G.s.length
  nd : G.m.Nodup
  cell : ∀ (n : Nat) (a : Addr) (c : Cell), G.m[n]? = some a → G.s[n]? = some c → G.g a = none ∧ CellAt C G H a c
section
variable {C : Cc} {G G' G1 G2 G0 : Gd} {H H' H1 H2 H0 : Hp}
theorem CellAt.ex {a : Addr} {c : Cell} (h : CellAt C G H a c) : ∃ o, H a = some o := by
  cases c with
  | lst xs => obtain ⟨vs, h, _⟩ := h; exact ⟨_, h⟩
  | dct _ => obtain ⟨vs, h, _⟩ := h; exact ⟨_, h⟩
  | ins _ _ => obtain ⟨dx, vs, h, _⟩ := h; exact ⟨_, h⟩
theorem CellAt.mono0 {a : Addr} {c : Cell} (e : Ex G.g G'.g) (m : ∀ (n : Nat) (a : Addr), G.m[n]? = some a → G'.m[n]? = some a) (hh : ∀ o, H a = some o → H' a = some o) (h : CellAt C G H a c) : CellAt C G' H' a c := by
  cases c with
  | lst xs => obtain ⟨vs, h, r⟩ := h; exact ⟨vs, hh _ h, RpL.mono0 e m r⟩
  | dct _ => obtain ⟨vs, h, r⟩ := h; exact ⟨vs, hh _ h, RpK.mono0 e m r⟩
  | ins _ _ => obtain ⟨dx, vs, h, r, l⟩ := h; exact ⟨dx, vs, hh _ h, RpL.mono0 e m r, l⟩
theorem CellAt.mono {a : Addr} {c : Cell} (e : ExG G G') (hh : ∀ o, H a = some o → H' a = some o) (h : CellAt C G H a c) : CellAt C G' H' a c := CellAt.mono0 e.g e.m hh h
theorem SOk.mem (k : SOk C G H) {a : Addr} (h : a ∈ G.m) : G.g a = none ∧ ∃ o, H a = some o := by
  obtain ⟨n, hn⟩ := List.getElem?_of_mem h
  have hl : n < G.s.length := by
    rw [← k.len]
    exact (List.getElem?_eq_some_iff.mp hn).1
  obtain ⟨h1, h2⟩ := k.cell n a _ hn (List.getElem?_eq_getElem hl)
  exact ⟨h1, CellAt.ex h2⟩
theorem SOk.fresh (k : SOk C G H) {a : Addr} (h : H a = none) : a ∉ G.m := fun z => by
  obtain ⟨_, o, q⟩ := k.mem z
  rw [h] at q; cases q
theorem SOk.know (k : SOk C G H) {a : Addr} {o : HO} (h : G.g a = some o) : a ∉ G.m := fun z => by
  rw [(k.mem z).1] at h; cases h
/-! ### steps: the ground G grows, the heap H grows but at the cells, and what H knew beyond the ground stays beyond it -/
structure Step (C : Cc) (G : Gd) (H : Hp) (G' : Gd) (H' : Hp) : Prop where
  g : ExG G G'
  gh : SOk C G' H'
  h : ∀ p o, H p = some o → p ∉ G.m → H' p = some o
  out : ∀ p, G.g p = none → H p ≠ none → G'.g p = none
  om : ∀ p, p ∉ G.m → H p ≠ none → p ∉ G'.m
theorem Step.refl (e : SOk C G H) : Step C G H G H := ⟨ExG.refl G, e, fun _ _ h _ => h, fun _ h _ => h, fun _ h _ => h⟩
theorem Step.trans {t : Sto} (a : Step C G H G1 H1) (b : Step C (G1.put t) H1 G2 H2) : Step C (G.put t) H G2 H2 := by
  have nn : ∀ p, p ∉ G.m → H p ≠ none → H1 p ≠ none := fun p hm h2 z => by
    cases q : H p with
    | none => exact h2 q
    | some o => rw [a.h p o q hm] at z; cases z
  refine ⟨⟨a.g.g.trans b.g.g, fun n x h => b.g.m n x (a.g.m n x h), b.g.s⟩, b.gh, fun p o h hm => b.h p o (a.h p o h hm) (a.om p hm (by rw [h]; exact nofun)), fun p h1 h2 => ?_, fun p hm h2 => b.om p (a.om p hm h2) (nn p hm h2)⟩
  by_cases hm : p ∈ G.m
  · obtain ⟨n, hn⟩ := List.getElem?_of_mem hm
    exact (b.gh.mem (List.mem_of_getElem? (b.g.m n p (a.g.m n p hn)))).1
  · exact b.out p (a.out p h1 h2) (nn p hm h2)
theorem SOk.upd (k : SOk C G H) {p : Addr} {o : HO} (hp : H p = none) : SOk C (G.upd p o) (upd H p o) := by
  have hg : G.g p = none := fresh_back k.e hp
  have hm := k.fresh hp
  refine ⟨fun a u h => ?_, k.len, k.nd, fun n a c h1 h2 => ?_⟩
  · have h : L2.upd G.g p o a = some u := h
    by_cases z : a = p
    · subst z; rw [upd_same] at h ⊢; exact h
    · rw [upd_ne z] at h ⊢; exact k.e a u h
  · have z : a ≠ p := fun z => hm (by rw [← z]; exact List.mem_of_getElem? h1)
    obtain ⟨q1, q2⟩ := k.cell n a c h1 h2
    exact ⟨by (show L2.upd G.g p o a = none); rw [upd_ne z]; exact q1, CellAt.mono (ExG.new hg) (fun o h => by rw [upd_ne z]; exact h) q2⟩
theorem Step.new {p : Addr} {o : HO} (k : SOk C G H) (hp : H p = none) : Step C G H (G.upd p o) (upd H p o) := by
  refine ⟨ExG.new (fresh_back k.e hp), k.upd hp, fun a u h _ => Ex.new hp a u h, fun q h1 h2 => ?_, fun q h1 h2 => h1⟩
  by_cases z : q = p
  · subst z; exact absurd hp h2
  · show L2.upd G.g p o q = none
    rw [upd_ne z]; exact h1
theorem SOk.more (k : SOk C G H) (h : Ex H H') : SOk C G H' := ⟨k.e.trans h, k.len, k.nd, fun n a c h1 h2 => by
  obtain ⟨q1, q2⟩ := k.cell n a c h1 h2
  exact ⟨q1, CellAt.mono (ExG.refl G) (fun o z => h a o z) q2⟩⟩
theorem Step.ofH (e : SOk C G H) (h : Ex H H') : Step C G H G H' := ⟨ExG.refl G, e.more h, fun p o z _ => h p o z, fun _ h _ => h, fun _ h _ => h⟩
theorem Step.ex (s : Step C G H G' H') : Ex G'.g H' := s.gh.e
theorem Step.fresh (s : Step C G H G' H') {q : Addr} (h : H' q = none) : H q = none := by
  cases c : H q with
  | none => rfl
  | some o =>
    by_cases hm : q ∈ G.m
    · obtain ⟨n, hn⟩ := List.getElem?_of_mem hm
      obtain ⟨_, o, z⟩ := s.gh.mem (List.mem_of_getElem? (s.g.m n q hn))
      rw [h] at z; cases z
    · have z := s.h q o c hm
      rw [h] at z; cases z
/-- a list beyond the ground becomes data -/
theorem SOk.take {p : Addr} {o : HO} (k : SOk C G H) (h1 : G.g p = none) (hm : p ∉ G.m) (h2 : H p = some o) : SOk C (G.upd p o) H := by
  refine ⟨fun a u h => ?_, k.len, k.nd, fun n a c q1 q2 => ?_⟩
  · have h : L2.upd G.g p o a = some u := h
    by_cases z : a = p
    · subst z; rw [upd_same] at h; rw [h2]; exact h
    · rw [upd_ne z] at h; exact k.e a u h
  · have z : a ≠ p := fun z => hm (by rw [← z]; exact List.mem_of_getElem? q1)
    obtain ⟨r1, r2⟩ := k.cell n a c q1 q2
    exact ⟨by (show L2.upd G.g p o a = none); rw [upd_ne z]; exact r1, CellAt.mono (ExG.new h1) (fun _ h => h) r2⟩
theorem Step.take {p : Addr} {o : HO} (s : Step C G H G' H') (h1 : G'.g p = none) (hm : p ∉ G'.m) (h2 : H' p = some o) (h3 : H p = none) : Step C G H (G'.upd p o) H' := by
  refine ⟨s.g.tr (ExG.new h1), s.gh.take h1 hm h2, s.h, fun q hq hn => ?_, s.om⟩
  have ne : q ≠ p := fun z => by rw [z] at hn; exact hn h3
  show L2.upd G'.g p o q = none
  rw [upd_ne ne]
  exact s.out q hq hn
end
section
variable {C : Cc} {G G' : Gd} {H H' : Hp}
theorem SOk.at (k : SOk C G H) {n : Nat} {a : Addr} {xs : List D} (hm : G.m[n]? = some a) (hs : G.s[n]? = some (.lst xs)) : G.g a = none ∧ ∃ vs, H a = some (.lst vs) ∧ RepL C.K C.w C.ad G vs xs := k.cell n a _ hm hs
/-- a cell is changed -/
theorem Step.cellC {n : Nat} {a : Addr} {c c' : Cell} {o : HO} (k : SOk C G H) (hm : G.m[n]? = some a) (hs : G.s[n]? = some c) (q : CellAt C G (L2.upd H a o) a c') : Step C (G.put (G.s.set n c')) H (G.put (G.s.set n c')) (L2.upd H a o) := by
  have hg := (k.cell n a c hm hs).1
  have hn : n < G.s.length := (List.getElem?_eq_some_iff.mp hs).1
  refine ⟨ExG.refl _, ⟨Ex.mut k.e hg, by rw [List.length_set]; exact k.len, k.nd, fun i b c h1 h2 => ?_⟩, fun p o h hp => ?_, fun _ h _ => h, fun _ h _ => h⟩
  · have h1 : G.m[i]? = some b := h1
    have h2 : (G.s.set n c')[i]? = some c := h2
    by_cases e : i = n
    · subst e
      rw [hm] at h1
      cases h1
      rw [List.getElem?_set, if_pos rfl, if_pos hn] at h2
      cases h2
      exact ⟨hg, CellAt.mono0 (G := G) (G' := G.put (G.s.set i c')) (Ex.refl _) (fun _ _ h => h) (fun _ h => h) q⟩
    · rw [List.getElem?_set, if_neg fun z => e z.symm] at h2
      obtain ⟨q1, q2⟩ := k.cell i b c h1 h2
      have hb : b ≠ a := fun z => by
        rw [z] at h1
        have hi := (List.getElem?_eq_some_iff.mp h1).1
        have hn2 := (List.getElem?_eq_some_iff.mp hm).1
        exact e ((List.getElem_inj k.nd (h₀ := hi) (h₁ := hn2)).mp ((List.getElem?_eq_some_iff.mp h1).2.trans (List.getElem?_eq_some_iff.mp hm).2.symm))
      exact ⟨q1, CellAt.mono0 (G := G) (G' := G.put (G.s.set n c')) (Ex.refl _) (fun _ _ h => h) (fun o h => by rw [upd_ne hb]; exact h) q2⟩
  · have hp2 : p ≠ a := fun z => hp (by rw [z]; exact List.mem_of_getElem? hm)
    rw [upd_ne hp2]
    exact h
/-- a cell's list is changed -/
theorem Step.cell {n : Nat} {a : Addr} {xs ys : List D} {ws : List V} (k : SOk C G H) (hm : G.m[n]? = some a) (hs : G.s[n]? = some (.lst xs)) (r : RepL C.K C.w C.ad G ws ys) : Step C (G.put (G.s.set n (.lst ys))) H (G.put (G.s.set n (.lst ys))) (L2.upd H a (.lst ws)) :=
  Step.cellC k hm hs ⟨ws, upd_same, r⟩
/-- what is new becomes a cell -/
theorem Step.publishC {p : Addr} {c' : Cell} (s : Step C G H G' H') (h1 : G'.g p = none) (hm : p ∉ G'.m) (h3 : H p = none) (q : CellAt C G' H' p c') :
    Step C (G.put (G'.s ++ [c'])) H ⟨G'.g, G'.m ++ [p], G'.s ++ [c']⟩ H' ∧ (G'.m ++ [p])[G'.s.length]? = some p := by
  have ex : ExG (G'.put (G'.s ++ [c'])) ⟨G'.g, G'.m ++ [p], G'.s ++ [c']⟩ := ⟨Ex.refl _, fun n a h => by
    have h : G'.m[n]? = some a := h
    show (G'.m ++ [p])[n]? = some a
    rw [List.getElem?_append_left (List.getElem?_eq_some_iff.mp h).1]
    exact h, rfl⟩
  refine ⟨⟨⟨s.g.g, fun n a h => ex.m n a (s.g.m n a h), rfl⟩, ⟨s.gh.e, ?_, ?_, fun n a c q1 q2 => ?_⟩, s.h, s.out, fun q hq hn => ?_⟩, ?_⟩
  · show (G'.m ++ [p]).length = (G'.s ++ [c']).length
    rw [List.length_append, List.length_append, s.gh.len]
    rfl
  · show (G'.m ++ [p]).Nodup
    rw [List.nodup_append]
    exact ⟨s.gh.nd, by simp, fun a ha b hb => by rw [List.mem_singleton.mp hb]; exact fun z => hm (by rw [← z]; exact ha)⟩
  · have q1 : (G'.m ++ [p])[n]? = some a := q1
    have q2 : (G'.s ++ [c'])[n]? = some c := q2
    rcases Nat.lt_or_ge n G'.s.length with hn | hn
    · rw [List.getElem?_append_left hn] at q2
      rw [List.getElem?_append_left (by rw [s.gh.len]; exact hn)] at q1
      obtain ⟨z1, z2⟩ := s.gh.cell n a c q1 q2
      exact ⟨z1, CellAt.mono0 (G := G') (G' := ⟨G'.g, G'.m ++ [p], G'.s ++ [c']⟩) ex.g ex.m (fun _ h => h) z2⟩
    · rw [List.getElem?_append_right hn] at q2
      rw [List.getElem?_append_right (by rw [s.gh.len]; exact hn), s.gh.len] at q1
      obtain ⟨k, hk⟩ : ∃ k, n - G'.s.length = k := ⟨_, rfl⟩
      rw [hk] at q1 q2
      cases k with
      | succ k => cases q1
      | zero =>
        cases q1
        cases q2
        exact ⟨h1, CellAt.mono0 (G := G') (G' := ⟨G'.g, G'.m ++ [p], G'.s ++ [c']⟩) ex.g ex.m (fun _ h => h) q⟩
  · intro z
    rcases List.mem_append.mp z with z | z
    · exact s.om q hq hn z
    · rw [List.mem_singleton.mp z] at hn
      exact hn h3
  · rw [← s.gh.len, List.getElem?_append_right (Nat.le_refl _), Nat.sub_self]
    rfl
/-- a new list becomes a cell -/
theorem Step.publish {p : Addr} {vs : List V} {ds : List D} (s : Step C G H G' H') (h1 : G'.g p = none) (hm : p ∉ G'.m) (h2 : H' p = some (.lst vs)) (h3 : H p = none) (r : RepL C.K C.w C.ad G' vs ds) :
    Step C (G.put (G'.s ++ [.lst ds])) H ⟨G'.g, G'.m ++ [p], G'.s ++ [.lst ds]⟩ H' ∧ (G'.m ++ [p])[G'.s.length]? = some p := s.publishC h1 hm h3 ⟨vs, h2, r⟩
end
/-- the exception's dict holds these fields -/
def XRep (K : PySem.W.Frag) (w : World) (ad : Nat → Addr) (G : Gd) (fs : List (Str × D)) (dd : Option Addr) : Prop :=
  match fs with
  | [] => dd = none
  | fs => ∃ q vfs, dd = some q ∧ G.g q = some (.xd vfs) ∧ ∀ f d, fs.lookup f = some d → ∃ v, vfs.lookup f = some v ∧ Rep K w ad G v d
theorem XRep.mono {K : PySem.W.Frag} {w : World} {ad : Nat → Addr} {G G' : Gd} {fs : List (Str × D)} {dd : Option Addr} (e : ExG G G') (h : XRep K w ad G fs dd) : XRep K w ad G' fs dd := by
  unfold XRep at h ⊢
  cases fs with
  | nil => exact h
  | cons f fs =>
    obtain ⟨q, vfs, h1, h2, h3⟩ := h
    exact ⟨q, vfs, h1, e.g _ _ h2, fun f d l => by
      obtain ⟨v, a, b⟩ := h3 f d l
      exact ⟨v, a, b.mono e⟩⟩
/-- the exception that a suite holds -/
structure Xo where
  a : Addr
  cls : Value
  d : Option Addr
/-- the slots σ are the environment env -/
structure Fit (C : Cc) (xo : Xo) (G : Gd) (H : Hp) (σ : L2.St) (env : Env) : Prop where
  ok : SOk C G H
  len : σ.length = env.length
  val : ∀ (i : Nat) d, env[i]? = some (.val d) → ∃ v, σ[i]? = some (some v) ∧ Rep C.K C.w C.ad G v d
  own : ∀ (i : Nat) ds, env[i]? = some (.own ds) → ∃ p vs, σ[i]? = some (some (.ref p)) ∧ G.g p = none ∧ H p = some (.lst vs) ∧ RepL C.K C.w C.ad G vs ds
  om : ∀ (i : Nat) ds p, env[i]? = some (.own ds) → σ[i]? = some (some (.ref p)) → p ∉ G.m
  sep : ∀ (i j : Nat) p ds es, env[i]? = some (.own ds) → env[j]? = some (.own es) → σ[i]? = some (some (.ref p)) → σ[j]? = some (some (.ref p)) → i = j
  exn : ∀ (i : Nat) c fs, env[i]? = some (.exn c fs) → σ[i]? = some (some (.ref xo.a)) ∧ xo.cls = .ref (C.ad c) ∧ XRep C.K C.w C.ad G fs xo.d
/-- .. since the def was entered with (G0, H0) -/
structure Fit0 (C : Cc) (xo : Xo) (G0 : Gd) (H0 : Hp) (G : Gd) (H : Hp) (σ : L2.St) (env : Env) : Prop where
  f : Fit C xo G H σ env
  s : Step C (G0.put G.s) H0 G H
  new : ∀ (i : Nat) ds p, env[i]? = some (.own ds) → σ[i]? = some (some (.ref p)) → H0 p = none
section
variable {C : Cc} {xo : Xo} {G G' G0 G1 : Gd} {H H' H0 H1 : Hp} {σ : L2.St} {env : Env} {t : Sto}
theorem Fit.ex (f : Fit C xo G H σ env) : Ex G.g H := f.ok.e
theorem Fit.step (f : Fit C xo G H σ env) (s : Step C (G.put t) H G' H') : Fit C xo G' H' σ env where
  ok := s.gh
  len := f.len
  val := fun i d h => by
    obtain ⟨v, h1, h2⟩ := f.val i d h
    exact ⟨v, h1, Rp.mono s.g h2⟩
  own := fun i ds h => by
    obtain ⟨p, vs, h1, h2, h3, h4⟩ := f.own i ds h
    exact ⟨p, vs, h1, s.out p h2 (by rw [h3]; exact nofun), s.h _ _ h3 (f.om i ds p h h1), RpL.mono s.g h4⟩
  om := fun i ds p h h1 => by
    obtain ⟨q, vs, k1, k2, k3, k4⟩ := f.own i ds h
    rw [h1] at k1
    cases k1
    exact s.om p (f.om i ds p h h1) (by rw [k3]; exact nofun)
  sep := f.sep
  exn := fun i c fs h => by
    obtain ⟨h1, h2, h3⟩ := f.exn i c fs h
    exact ⟨h1, h2, XRep.mono s.g h3⟩
theorem Fit0.step (f : Fit0 C xo G0 H0 G H σ env) (s : Step C (G.put t) H G' H') : Fit0 C xo G0 H0 G' H' σ env := by
  refine ⟨f.f.step s, ?_, f.new⟩
  have e : G'.s = t := s.g.s
  subst e
  exact f.s.trans s
theorem Fit0.ex (f : Fit0 C xo G0 H0 G H σ env) : Ex G.g H := f.f.ok.e
theorem Fit0.ok (f : Fit0 C xo G0 H0 G H σ env) : SOk C G H := f.f.ok
end
/-! ### outcomes -/
/-- a wish about exceptions, with the slots -/
def OutR {α β : Type} (C : Cc) (rep : Gd → Hp → β → α → Prop) (E : XK) (G : Gd) (H : Hp) (Q : β → Hp → Prop) : Rs α → Prop
  | .ok d s => ∀ v G' H', Step C (G.put s) H G' H' → rep G' H' v d → Q v H'
  | .exc c fs s => ∀ dd G' H', Step C (G.put s) H G' H' → XRep C.K C.w C.ad G' fs dd → E (.ref (C.ad c)) dd H'
  | .bad => False
def Out {α β : Type} (C : Cc) (rep : Gd → Hp → β → α → Prop) (E : XK) (G : Gd) (H : Hp) (Q : β → Hp → Prop) (r : R α) : Prop := OutR C rep E G H Q (r G.s)
section
variable {α β γ δ : Type} {C : Cc} {rep : Gd → Hp → β → α → Prop} {rep2 : Gd → Hp → δ → γ → Prop} {E : XK} {G G' : Gd} {H H' : Hp} {Q : β → Hp → Prop} {Q2 : δ → Hp → Prop} {t : Sto}
theorem Out.elim {p : Prop} (h : Out C rep E G H Q R.bad) : p := False.elim h
theorem OutR.step {r : Rs α} (s : Step C (G.put t) H G' H') (h : OutR C rep E G H Q r) : OutR C rep E G' H' Q r := by
  have up : ∀ {u : Sto} {G2 : Gd} {H2 : Hp}, Step C (G'.put u) H' G2 H2 → Step C (G.put u) H G2 H2 := fun s2 => s.trans s2
  cases r with
  | ok d u => exact fun v G2 H2 s2 r2 => h v G2 H2 (up s2) r2
  | exc c fs u => exact fun dd G2 H2 s2 x => h dd G2 H2 (up s2) x
  | bad => exact h
/-- the rest of a run, after a step to the store that it starts with -/
theorem Out.step {r : R α} (s : Step C G H G' H') (h : Out C rep E G H Q r) : Out C rep E G' H' Q r := by
  unfold Out at h ⊢
  rw [s.g.s]
  exact OutR.step (t := G.s) s h
theorem Out.bind {r : R α} {k : α → R γ} (h : Out C rep2 E G H Q2 (r.bind k)) (q : ∀ d v G' H', r G.s = .ok d G'.s → Step C (G.put G'.s) H G' H' → rep G' H' v d → Out C rep2 E G' H' Q2 (k d) → Q v H') : Out C rep E G H Q r := by
  unfold Out R.bind at h
  unfold Out
  cases c : r G.s with
  | ok d t =>
    rw [c] at h
    intro v G' H' s r2
    have e : G'.s = t := s.g.s
    subst e
    exact q d v G' H' c s r2 (OutR.step s h)
  | exc c2 fs t =>
    rw [c] at h
    exact h
  | bad => rw [c] at h; exact h
end
abbrev rV (C : Cc) : Gd → Hp → V → D → Prop := fun G _ v d => Rep C.K C.w C.ad G v d
abbrev rA (C : Cc) : Gd → Hp → List V → List D → Prop := fun G _ v d => RepL C.K C.w C.ad G v d
abbrev rB : Gd → Hp → Bool → Bool → Prop := fun _ _ a b => a = b
abbrev rO : Gd → Hp → Option Int → Option Int → Prop := fun _ _ a b => a = b
/-- a new list, beyond the ground -/
abbrev rN (C : Cc) : Gd → Hp → V → List D → Prop := fun G H v ds => ∃ p vs, v = .ref p ∧ G.g p = none ∧ p ∉ G.m ∧ H p = some (.lst vs) ∧ RepL C.K C.w C.ad G vs ds
/-! ### what terms come to -/
section
variable (C : Cc) (xo : Xo) (W : WX)
def CE (te : TE) (f : SE) : Prop := ∀ σ G H env, Fit C xo G H σ env → ∀ Q, Out C (rV C) (WE W σ) G H Q (f env) → te σ H Q
def CT (te : TT) (f : ST) : Prop := ∀ σ G H env, Fit C xo G H σ env → ∀ Q, Out C rB (WE W σ) G H Q (f env) → te σ H Q
def CA (te : TA) (f : SA) : Prop := ∀ σ G H env, Fit C xo G H σ env → ∀ Q, Out C (rA C) (WE W σ) G H Q (f env) → te σ H Q
def CO (te : TO) (f : Env → R (Option Int)) : Prop := ∀ σ G H env, Fit C xo G H σ env → ∀ Q, Out C rO (WE W σ) G H Q (f env) → te σ H Q
/-- a new list: at p, which neither the ground nor the heap knew -/
def CN (te : TE) (f : SA) : Prop := ∀ σ G H env, Fit C xo G H σ env → ∀ Q, Out C (fun G' H' v ds => rN C G' H' v ds ∧ ∀ p, v = .ref p → H p = none) (WE W σ) G H Q (f env) → te σ H Q
end
end Dm
set_option Elab.async false
set_option linter.all false
set_option maxRecDepth 100000
set_option maxHeartbeats 4000000
namespace Dm
open PySem L2 Evl RZ Wm
def D.toP : D → PyData
  | .non => .none
  | .bl b => .bool b
  | .int i => .int i
  | .str s => .str s
  | .lst xs => .list (go xs)
  | .scr xs => .list (go xs)
  | .tup xs => .tuple (go xs)
  | .ktp xs => .tuple (go xs)
  | .fn _ => .none
  | .dct _ _ => .none
  | .mref _ => .none
where go : List D → List PyData
  | [] => []
  | x :: xs => x.toP :: go xs
section
variable {C : Cc} {xo : Xo} {W : WX} {G G' : Gd} {H H' : Hp} {σ : L2.St} {env : Env} {E : XK}
mutual
theorem Rp.dp {K : PySem.W.Frag} {w : World} {ad : Nat → Addr} {M : List Addr} : ∀ {v : V} {d : D} {n : Nat}, Rp K w ad H M v d → d.shp n = true → Dp K H v d.toP ∧ d.toP.canLay0 = true ∧ d.toP.depth ≤ n
  | _, _, _, .non, _ => ⟨.non, rfl, Nat.zero_le _⟩
  | _, _, _, .bl b, _ => ⟨.bl b, rfl, Nat.zero_le _⟩
  | _, _, _, .int b, _ => ⟨.int b, rfl, Nat.zero_le _⟩
  | _, _, n, .str b, h => ⟨.str b, (by cases n <;> exact h), Nat.zero_le _⟩
  | _, _, 0, .lst _ _, h => by cases h
  | _, _, n + 1, .lst h r, q => by
    have z := RpL.dp r (show shpAll n _ = true from q)
    exact ⟨.lst (sq_of h) z.1, z.2.1, Nat.succ_le_succ z.2.2⟩
  | _, _, 0, .scr _ _, h => by cases h
  | _, _, n + 1, .scr h r, q => by
    have z := RpL.dp r (show shpAll n _ = true from q)
    exact ⟨.lst h z.1, z.2.1, Nat.succ_le_succ z.2.2⟩
  | _, _, 0, .tup _ _, h => by cases h
  | _, _, n + 1, .tup h r, q => by
    have z := RpL.dp r (show shpAll n _ = true from q)
    exact ⟨.tup h z.1, z.2.1, Nat.succ_le_succ z.2.2⟩
  | _, _, 0, .ktp _ _ _, h => by cases h
  | _, _, n + 1, .ktp h _ r, q => by
    have z := RpL.dp r (show shpAll n _ = true from q)
    exact ⟨.tup h z.1, z.2.1, Nat.succ_le_succ z.2.2⟩
  | _, _, 0, .fn _, h => by cases h
  | _, _, _ + 1, .fn _, h => by cases h
  | _, _, 0, .dct _ _ _, h => by cases h
  | _, _, _ + 1, .dct _ _ _, h => by cases h
  | _, _, 0, .mref _, h => by cases h
  | _, _, _ + 1, .mref _, h => by cases h
theorem RpL.dp {K : PySem.W.Frag} {w : World} {ad : Nat → Addr} {M : List Addr} : ∀ {v : List V} {d : List D} {n : Nat}, RpL K w ad H M v d → shpAll n d = true → DpAll K H v (D.toP.go d) ∧ PyData.canLayAll0 (D.toP.go d) = true ∧ PyData.depthAll (D.toP.go d) ≤ n
  | _, _, _, .nil, _ => ⟨.nil, rfl, Nat.zero_le _⟩
  | _, _, n, .cons h r, q => by
    unfold shpAll at q
    rw [Bool.and_eq_true] at q
    have z1 := Rp.dp h q.1
    have z2 := RpL.dp r q.2
    refine ⟨.cons z1.1 z2.1, ?_, ?_⟩
    · show (PyData.canLay0 _ && PyData.canLayAll0 _) = true
      rw [z1.2.1, z2.2.1]
      rfl
    · show max _ _ ≤ n
      exact Nat.max_le.mpr ⟨z1.2.2, z2.2.2⟩
end
theorem Rp.shaped {K : PySem.W.Frag} {w : World} {ad : Nat → Addr} {M : List Addr} {v : V} {d : D} (r : Rp K w ad H M v d) (h : d.shp 64 = true) : Dp K H v d.toP ∧ SeqAt.shaped d.toP = true := by
  have z := r.dp h
  refine ⟨z.1, ?_⟩
  unfold SeqAt.shaped
  rw [z.2.1, decide_eq_true z.2.2]
  rfl
mutual
theorem eqv_toP : ∀ (d e : D) {n m : Nat}, d.shp n = true → e.shp m = true → PyData.eqv d.toP e.toP = d.eqv e
  | .lst xs, e, 0, m, h, _ => by cases h
  | .scr xs, e, 0, m, h, _ => by cases h
  | .ktp xs, e, 0, m, h, _ => by cases h
  | .tup xs, e, 0, m, h, _ => by cases h
  | .fn k, e, 0, m, h, _ => by cases h
  | .fn k, e, n + 1, m, h, _ => by cases h
  | .dct k _, e, 0, m, h, _ => by cases h
  | .dct k _, e, n + 1, m, h, _ => by cases h
  | .mref _, e, 0, m, h, _ => by cases h
  | .mref _, e, n + 1, m, h, _ => by cases h
  | .lst xs, e, n + 1, m, h, h2 => by
    cases m <;> cases e <;> first | (exact absurd (show false = true from h2) Bool.false_ne_true) | (unfold D.toP PyData.eqv D.eqv; first | rfl | exact eqvAll_toP xs _ (show shpAll n _ = true from h) (show shpAll _ _ = true from h2))
  | .scr xs, e, n + 1, m, h, h2 => by
    cases m <;> cases e <;> first | (exact absurd (show false = true from h2) Bool.false_ne_true) | (unfold D.toP PyData.eqv D.eqv; first | rfl | exact eqvAll_toP xs _ (show shpAll n _ = true from h) (show shpAll _ _ = true from h2))
  | .tup xs, e, n + 1, m, h, h2 => by
    cases m <;> cases e <;> first | (exact absurd (show false = true from h2) Bool.false_ne_true) | (unfold D.toP PyData.eqv D.eqv; first | rfl | exact eqvAll_toP xs _ (show shpAll n _ = true from h) (show shpAll _ _ = true from h2))
  | .ktp xs, e, n + 1, m, h, h2 => by
    cases m <;> cases e <;> first | (exact absurd (show false = true from h2) Bool.false_ne_true) | (unfold D.toP PyData.eqv D.eqv; first | rfl | exact eqvAll_toP xs _ (show shpAll n _ = true from h) (show shpAll _ _ = true from h2))
  | .non, e, n, m, _, h2 => by cases m <;> cases e <;> first | (exact absurd (show false = true from h2) Bool.false_ne_true) | (unfold D.toP PyData.eqv D.eqv; rfl)
  | .bl b, e, n, m, _, h2 => by cases m <;> cases e <;> first | (exact absurd (show false = true from h2) Bool.false_ne_true) | (unfold D.toP PyData.eqv D.eqv; rfl)
  | .int b, e, n, m, _, h2 => by cases m <;> cases e <;> first | (exact absurd (show false = true from h2) Bool.false_ne_true) | (unfold D.toP PyData.eqv D.eqv; rfl)
  | .str b, e, n, m, _, h2 => by cases m <;> cases e <;> first | (exact absurd (show false = true from h2) Bool.false_ne_true) | (unfold D.toP PyData.eqv D.eqv; rfl)
theorem eqvAll_toP : ∀ (d e : List D) {n m : Nat}, shpAll n d = true → shpAll m e = true → PyData.eqvAll (D.toP.go d) (D.toP.go e) = eqvAll d e
  | [], [], _, _, _, _ => by unfold D.toP.go PyData.eqvAll eqvAll; rfl
  | [], _ :: _, _, _, _, _ => by unfold D.toP.go PyData.eqvAll eqvAll; rfl
  | _ :: _, [], _, _, _, _ => by unfold D.toP.go PyData.eqvAll eqvAll; rfl
  | x :: xs, y :: ys, n, m, h, h2 => by
    unfold shpAll at h h2
    rw [Bool.and_eq_true] at h h2
    unfold D.toP.go PyData.eqvAll eqvAll
    rw [eqv_toP x y h.1 h2.1, eqvAll_toP xs ys h.2 h2.2]
end
/-! ### a two-place operation on data -/
def OpD (C : Cc) (r : R2) (op : D → D → R D) : Prop := ∀ G H x y dx dy, SOk C G H → Rep C.K C.w C.ad G x dx → Rep C.K C.w C.ad G y dy → ∀ E Q, Out C (rV C) E G H Q (op dx dy) → r x y H Q
theorem ce_B {r : R2} {op : D → D → R D} {ta tb : TE} {fa fb : SE} (h : OpD C r op) (ha : CE C xo W ta fa) (hb : CE C xo W tb fb) : CE C xo W (tOp r ta tb) (eB op fa fb) := fun σ G H env f Q o =>
  ha σ G H env f _ (Out.bind o fun d v G1 H1 _ s1 r1 o1 => hb σ G1 H1 env (f.step s1) _ (Out.bind o1 fun d2 v2 G2 H2 _ s2 r2 o2 => h G2 H2 v v2 d d2 s2.gh (r1.mono s2.g) r2 _ _ o2))
theorem ce_c {v : V} {d : D} (h : ∀ G, Rep C.K C.w C.ad G v d) : CE C xo W (tC v) (eC d) := fun σ G H env f Q o => o v G H (Step.refl f.ok) (h G)
theorem ce_var {i : Nat} : CE C xo W (tVar i) (eV i) := fun σ G H env f Q o => by
  unfold eV at o
  cases c : env[i]? with
  | none => rw [c] at o; exact o.elim
  | some s =>
    cases s with
    | val d =>
      rw [c] at o
      obtain ⟨v, h1, h2⟩ := f.val i d c
      exact ⟨v, h1, o v G H (Step.refl f.ok) h2⟩
    | un => rw [c] at o; exact o.elim
    | own _ => rw [c] at o; exact o.elim
    | exn _ _ => rw [c] at o; exact o.elim
/-- an int rule -/
theorem od_I0 {g : Int → Int → V} {op : D → D → R D} (h : ∀ x y E G H Q, Out C (rV C) E G H Q (op x y) → ∃ i j d, x = .int i ∧ y = .int j ∧ op x y = .ok d ∧ ∀ G, Rep C.K C.w C.ad G (g i j) d) : OpD C (rI0 g) op := by
  intro G H x y dx dy e rx ry E Q o
  obtain ⟨i, j, d, rfl, rfl, h1, h2⟩ := h dx dy E G H Q o
  cases rx
  cases ry
  rw [h1] at o
  exact ⟨i, j, rfl, rfl, o _ G H (Step.refl e) (h2 G)⟩
def rAdd (K : PySem.W.Frag) : R2 := fun x y H Q => rI0 (fun i j => .int (i + j)) x y H Q ∨ ((fun (x y : V) H Q => ∃ i j, x = .str i ∧ y = .str j ∧ i.length + j.length ≤ sizeLine ∧ Q (V.str (i ++ j)) H) : R2) x y H Q ∨ rCat x y H Q ∨ rCatA K x y H Q
theorem or_add {X : Cx} : OpR X (binaryOp .Add) (rAdd X.K) := op_add.or (op_add_str.or (op_cat.or op_catA))
theorem od_add : OpD C (rAdd C.K) dAdd := by
  intro G H x y dx dy e rx ry E Q o
  cases rx with
  | int i => cases ry with
    | int j => exact Or.inl ⟨i, j, rfl, rfl, o _ G H (Step.refl e) (.int _)⟩
    | _ => exact False.elim o
  | str a => cases ry with
    | str b =>
      have o2 : Out C (rV C) E G H Q (if a.length + b.length ≤ Z then .ok (.str (a ++ b)) else .bad) := o
      by_cases hz : a.length + b.length ≤ Z
      · rw [if_pos hz] at o2
        exact Or.inr (Or.inl ⟨a, b, rfl, rfl, sz_of hz, o2 _ G H (Step.refl e) (.str _)⟩)
      · rw [if_neg hz] at o2; exact o2.elim
    | _ => exact False.elim o
  | @lst a vs ds h1 r1 => cases ry with
    | @lst b ws es h2 r2 =>
      have o2 : Out C (rV C) E G H Q (if ds.length + es.length ≤ Z then .ok (.lst (ds ++ es)) else .bad) := o
      by_cases hz : ds.length + es.length ≤ Z
      · rw [if_pos hz] at o2
        refine Or.inr (Or.inr (Or.inl ⟨a, b, vs, ws, rfl, rfl, e.e _ _ h1, e.e _ _ h2, sz_of (by rw [r1.length, r2.length]; exact hz), fun p hp => ?_⟩))
        exact o2 _ _ _ (Step.new e hp) (.lst upd_same ((r1.append r2).mono (ExG.new (fresh_back e.e hp))))
      · rw [if_neg hz] at o2; exact o2.elim
    | _ => exact False.elim o
  | @tup a vs ds h1 r1 => cases ry with
    | @tup b ws es h2 r2 =>
      have o2 : Out C (rV C) E G H Q (if ds.length + es.length ≤ Z then .ok (.tup (ds ++ es)) else .bad) := o
      by_cases hz : ds.length + es.length ≤ Z
      · rw [if_pos hz] at o2
        refine Or.inr (Or.inr (Or.inr ⟨a, b, vs, ws, rfl, rfl, ex_t e.e h1, ex_t e.e h2, sz_of (by rw [r1.length, r2.length]; exact hz), fun z => ?_, fun _ z => ?_, fun _ _ p hp => ?_⟩))
        · subst z
          cases r1
          exact o2 _ G H (Step.refl e) (.tup h2 r2)
        · subst z
          cases r2
          rw [List.append_nil] at o2
          exact o2 _ G H (Step.refl e) (.tup h1 r1)
        · exact o2 _ _ _ (Step.new e hp) (.tup (st_of upd_same) ((r1.append r2).mono (ExG.new (fresh_back e.e hp))))
      · rw [if_neg hz] at o2; exact o2.elim
    | _ => exact False.elim o
  | _ => exact False.elim o
local macro_rules | `(tactic| walk_at "intop") => `(tactic| (
  intro G H x y dx dy e rx ry E Q o
  cases rx with
  | int i => cases ry with
    | int j => exact ⟨i, j, rfl, rfl, o _ G H (Step.refl e) (.int _)⟩
    | _ => exact False.elim o
  | _ => exact False.elim o))
theorem od_sub : OpD C (rI0 fun i j => .int (i - j)) dSub := by walk_at "intop"
theorem od_and : OpD C (rI0 fun i j => .int (Builtin.bitAnd i j)) dAnd := by walk_at "intop"
theorem od_or : OpD C (rI0 fun i j => .int (Builtin.bitOr i j)) dOr := by walk_at "intop"
theorem od_xor : OpD C (rI0 fun i j => .int (Builtin.bitXor i j)) dXor := by walk_at "intop"
theorem out_if {p : Prop} [Decidable p] {α β : Type} {rep : Gd → Hp → β → α → Prop} {Q : β → Hp → Prop} {r : R α} (o : Out C rep E G H Q (if p then r else .bad)) : p ∧ Out C rep E G H Q r := by
  by_cases h : p
  · rw [if_pos h] at o; exact ⟨h, o⟩
  · rw [if_neg h] at o; exact o.elim
theorem out_ifE {p : Prop} [Decidable p] {d : D} {Q : VK} (o : Out C (rV C) E G H Q (if p then .ok d else .bad)) : p ∧ ∀ v G' H', Step C G H G' H' → Rep C.K C.w C.ad G' v d → Q v H' := by
  by_cases h : p
  · rw [if_pos h] at o; exact ⟨h, o⟩
  · rw [if_neg h] at o; exact o.elim
local macro_rules | `(tactic| walk_at "intopD") => `(tactic| (
  intro G H x y dx dy e rx ry E Q o
  cases rx with
  | int i => cases ry with
    | int j =>
      obtain ⟨hc, o⟩ := out_ifE o
      exact ⟨i, j, rfl, rfl, hc, o _ G H (Step.refl e) (.int _)⟩
    | _ => exact False.elim o
  | _ => exact False.elim o))
theorem od_div : OpD C (rI CDivW fun i j => .int (i / j)) dDiv := by walk_at "intopD"
theorem od_mod : OpD C (rI (fun _ j => 0 < j) fun i j => .int (i % j)) dMod := by walk_at "intopD"
theorem od_pow : OpD C (rI CPow fun i j => .int (i ^ j.toNat)) dPow := by walk_at "intopD"
theorem od_shr : OpD C (rI (fun _ j => 0 ≤ j) fun i j => .int (i / 2 ^ j.toNat)) dShr := by walk_at "intopD"
def rShl : R2 := fun x y H Q => rI CShl (fun i j => .int (i * 2 ^ j.toNat)) x y H Q ∨ rI CPow (fun i j => .int (i * 2 ^ j.toNat)) x y H Q
theorem or_shl {X : Cx} : OpR X (binaryOp .LShift) rShl := op_shlW.or op_shl
theorem od_shl : OpD C rShl dShl := by
  intro G H x y dx dy e rx ry E Q o
  cases rx with
  | int i => cases ry with
    | int j =>
      obtain ⟨hc, o⟩ := out_ifE o
      exact hc.elim (fun hc => Or.inl ⟨i, j, rfl, rfl, hc, o _ G H (Step.refl e) (.int _)⟩) fun hc => Or.inr ⟨i, j, rfl, rfl, hc, o _ G H (Step.refl e) (.int _)⟩
    | _ => exact False.elim o
  | _ => exact False.elim o
def rMul : R2 := fun x y H Q => rI CMulW (fun i j => .int (i * j)) x y H Q ∨ rI CMul (fun i j => .int (i * j)) x y H Q ∨ rRep x y H Q
theorem or_mul {X : Cx} : OpR X (binaryOp .Mult) rMul := op_mulW.or (op_mul.or op_rep)
theorem od_mul : OpD C rMul dMul := by
  intro G H x y dx dy e rx ry E Q o
  cases rx with
  | int i => cases ry with
    | int j =>
      obtain ⟨hc, o⟩ := out_ifE o
      exact hc.elim (fun hc => Or.inl ⟨i, j, rfl, rfl, hc, o _ G H (Step.refl e) (.int _)⟩) fun hc => Or.inr (Or.inl ⟨i, j, rfl, rfl, hc, o _ G H (Step.refl e) (.int _)⟩)
    | _ => exact False.elim o
  | @lst a vs ds h1 r1 => cases ry with
    | int k =>
      obtain ⟨hc, o⟩ := out_ifE o
      refine Or.inr (Or.inr ⟨a, k, vs, rfl, rfl, e.e _ _ h1, hc.2.1, hc.2.2, sz_of (by rw [r1.length]; exact hc.1), fun p hp => ?_⟩)
      exact o _ _ _ (Step.new e hp) (.lst upd_same ((r1.rep _).mono (ExG.new (fresh_back e.e hp))))
    | _ => exact False.elim o
  | _ => exact False.elim o
/-! comparisons -/
def rLt : R2 := fun x y H Q => rI0 (fun i j => .bl (decide (i < j))) x y H Q ∨ ((fun (x y : V) H Q => ∃ i j, x = .str i ∧ y = .str j ∧ Q (V.bl (decide (i.cps.toList < j.cps.toList))) H) : R2) x y H Q
def rLe : R2 := fun x y H Q => rI0 (fun i j => .bl (decide (i ≤ j))) x y H Q ∨ ((fun (x y : V) H Q => ∃ i j, x = .str i ∧ y = .str j ∧ Q (V.bl (!decide (j.cps.toList < i.cps.toList))) H) : R2) x y H Q
def rGt : R2 := fun x y H Q => rI0 (fun i j => .bl (decide (j < i))) x y H Q ∨ ((fun (x y : V) H Q => ∃ i j, x = .str i ∧ y = .str j ∧ Q (V.bl (decide (j.cps.toList < i.cps.toList))) H) : R2) x y H Q
def rGe : R2 := fun x y H Q => rI0 (fun i j => .bl (decide (j ≤ i))) x y H Q ∨ ((fun (x y : V) H Q => ∃ i j, x = .str i ∧ y = .str j ∧ Q (V.bl (!decide (i.cps.toList < j.cps.toList))) H) : R2) x y H Q
theorem or_lt {X : Cx} : OpR X (compareOp .Lt) rLt := op_lt.or op_lt_str
theorem or_le {X : Cx} : OpR X (compareOp .LtE) rLe := op_le.or op_le_str
theorem or_gt {X : Cx} : OpR X (compareOp .Gt) rGt := op_gt.or op_gt_str
theorem or_ge {X : Cx} : OpR X (compareOp .GtE) rGe := op_ge.or op_ge_str
local macro_rules | `(tactic| walk_at "cmpop") => `(tactic| (
  intro G H x y dx dy e rx ry E Q o
  cases rx with
  | int i => cases ry with
    | int j => exact Or.inl ⟨i, j, rfl, rfl, o _ G H (Step.refl e) (.bl _)⟩
    | _ => exact False.elim o
  | str i => cases ry with
    | str j => exact Or.inr ⟨i, j, rfl, rfl, o _ G H (Step.refl e) (.bl _)⟩
    | _ => exact False.elim o
  | _ => exact False.elim o))
theorem od_lt : OpD C rLt dLt := by walk_at "cmpop"
theorem od_le : OpD C rLe dLe := by walk_at "cmpop"
theorem od_gt : OpD C rGt dGt := by walk_at "cmpop"
theorem od_ge : OpD C rGe dGe := by walk_at "cmpop"
end
end Dm
set_option Elab.async false
set_option linter.all false
set_option maxRecDepth 100000
set_option maxHeartbeats 4000000
namespace Dm
open PySem L2 Evl RZ Wm
section
variable {C : Cc} {xo : Xo} {W : WX} {G G' : Gd} {H H' : Hp} {σ : L2.St} {env : Env} {E : XK}
/-! == -/
def rEqX (K : PySem.W.Frag) : R2 := fun x y H Q => rEq x y H Q ∨ rEqD K x y H Q
def rNeX (K : PySem.W.Frag) : R2 := fun x y H Q => rNe x y H Q ∨ rNeD K x y H Q
theorem or_eq {X : Cx} (hu : X.A.units + 64 < cLine) : OpR X (compareOp .Eq) (rEqX X.K) := op_eq.or (op_eqD hu)
theorem or_ne {X : Cx} (hu : X.A.units + 64 < cLine) : OpR X (compareOp .NotEq) (rNeX X.K) := op_ne.or (op_neD hu)
theorem dEq_ok {x y : D} {E : XK} {Q : VK} (o : Out C (rV C) E G H Q (dEq x y)) : (∃ i j, x = .int i ∧ y = .int j) ∨ (∃ a b, x = .str a ∧ y = .str b) ∨ (∃ b, x = .non ∧ y = .str b) ∨ (∃ b, x = .str b ∧ y = .non) ∨ (dEq x y = .ok (.bl (x.eqv y)) ∧ x.shp 64 = true ∧ y.shp 64 = true) := by
  unfold dEq at o ⊢
  split at o
  · exact Or.inl ⟨_, _, rfl, rfl⟩
  · exact Or.inr (Or.inl ⟨_, _, rfl, rfl⟩)
  · exact Or.inr (Or.inr (Or.inl ⟨_, rfl, rfl⟩))
  · exact Or.inr (Or.inr (Or.inr (Or.inl ⟨_, rfl, rfl⟩)))
  · obtain ⟨h, _⟩ := out_ifE o
    have h2 := h
    rw [Bool.and_eq_true] at h
    exact Or.inr (Or.inr (Or.inr (Or.inr ⟨if_pos h2, h.1, h.2⟩)))
theorem dec_V {i j : Int} : decide (V.int i = V.int j) = decide (i = j) := by
  by_cases h : i = j
  · subst h; simp
  · rw [decide_eq_false h, decide_eq_false fun z => h (V.int.inj z)]
theorem dec_S {i j : Str} : decide (V.str i = V.str j) = decide (i = j) := by
  by_cases h : i = j
  · subst h; simp
  · rw [decide_eq_false h, decide_eq_false fun z => h (V.str.inj z)]
theorem od_eq : OpD C (rEqX C.K) dEq := by
  intro G H x y dx dy e rx ry E Q o
  rcases dEq_ok o with ⟨i, j, rfl, rfl⟩ | ⟨i, j, rfl, rfl⟩ | ⟨j, rfl, rfl⟩ | ⟨j, rfl, rfl⟩ | ⟨h, h1, h2⟩
  · cases rx; cases ry
    refine Or.inl ⟨rfl, ?_⟩
    rw [dec_V]
    exact o _ G H (Step.refl e) (.bl _)
  · cases rx; cases ry
    refine Or.inl ⟨rfl, ?_⟩
    rw [dec_S]
    exact o _ G H (Step.refl e) (.bl _)
  · cases rx; cases ry
    exact Or.inl ⟨rfl, o _ G H (Step.refl e) (.bl _)⟩
  · cases rx; cases ry
    exact Or.inl ⟨rfl, o _ G H (Step.refl e) (.bl _)⟩
  · rw [h] at o
    have a1 := (Rp.mono0 e.e (fun _ _ h => h) rx).shaped h1
    have a2 := (Rp.mono0 e.e (fun _ _ h => h) ry).shaped h2
    refine Or.inr ⟨_, _, a1.1, a2.1, a1.2, a2.2, ?_⟩
    rw [eqv_toP dx dy h1 h2]
    exact o _ G H (Step.refl e) (.bl _)
theorem od_ne : OpD C (rNeX C.K) dNe := by
  intro G H x y dx dy e rx ry E Q o
  have o1 : Out C (rV C) E G H (fun v H' => ∀ b, v = .bl b → ∀ G', Step C G H G' H' → Q (.bl !b) H') (dEq dx dy) := Out.bind o fun d v G' H' _ s r o2 b hb G2 s2 => by
    subst hb
    cases r
    exact o2 _ G' H' (Step.refl s.gh) (.bl _)
  rcases dEq_ok o1 with ⟨i, j, rfl, rfl⟩ | ⟨i, j, rfl, rfl⟩ | ⟨j, rfl, rfl⟩ | ⟨j, rfl, rfl⟩ | ⟨h, h1, h2⟩
  · cases rx; cases ry
    refine Or.inl ⟨rfl, ?_⟩
    rw [dec_V]
    exact o1 _ G H (Step.refl e) (.bl _) _ rfl G (Step.refl e)
  · cases rx; cases ry
    refine Or.inl ⟨rfl, ?_⟩
    rw [dec_S]
    exact o1 _ G H (Step.refl e) (.bl _) _ rfl G (Step.refl e)
  · cases rx; cases ry
    exact Or.inl ⟨rfl, o1 _ G H (Step.refl e) (.bl _) _ rfl G (Step.refl e)⟩
  · cases rx; cases ry
    exact Or.inl ⟨rfl, o1 _ G H (Step.refl e) (.bl _) _ rfl G (Step.refl e)⟩
  · rw [h] at o1
    have a1 := (Rp.mono0 e.e (fun _ _ h => h) rx).shaped h1
    have a2 := (Rp.mono0 e.e (fun _ _ h => h) ry).shaped h2
    refine Or.inr ⟨_, _, a1.1, a2.1, a1.2, a2.2, ?_⟩
    rw [eqv_toP dx dy h1 h2]
    exact o1 _ G H (Step.refl e) (.bl _) _ rfl G (Step.refl e)
/-! in -/
theorem flat_V {v : V} {d : D} (r : Rep C.K C.w C.ad G v d) (h : flatD d = true) : flatV v = true := by
  cases r <;> first | rfl | cases h
theorem eqV_D {v u : V} {d e : D} (r : Rep C.K C.w C.ad G v d) (r2 : Rep C.K C.w C.ad G u e) (h : flatD d = true) (h2 : flatD e = true) : eqV v u = d.eqv e := by
  cases r <;> (try cases h) <;> cases r2 <;> (try cases h2) <;> unfold eqV D.eqv <;> rfl
theorem flat_all : ∀ {vs : List V} {ds : List D}, RepL C.K C.w C.ad G vs ds → ds.all flatD = true → vs.all flatV = true
  | _, _, .nil, _ => rfl
  | _, _, .cons h r, q => by
    rw [List.all_cons, Bool.and_eq_true] at q ⊢
    exact ⟨flat_V h q.1, flat_all r q.2⟩
theorem inV_D {v : V} {d : D} (hv : Rep C.K C.w C.ad G v d) (hd : flatD d = true) : ∀ {vs : List V} {ds : List D}, RepL C.K C.w C.ad G vs ds → ds.all flatD = true → inV v vs = inD d ds
  | _, _, .nil, _ => rfl
  | _, _, .cons h r, q => by
    rw [List.all_cons, Bool.and_eq_true] at q
    unfold inV inD
    rw [List.any_cons, List.any_cons, eqV_D h hv q.1 hd]
    congr 1
    exact inV_D hv hd r q.2
def rInS (neg : Bool) : R2 := fun x y H Q => ∃ i j, x = .str i ∧ y = .str j ∧ Q (.bl (if neg then !(!(Builtin.Str.occurrences j i 0 j.length 1).isEmpty) else !(Builtin.Str.occurrences j i 0 j.length 1).isEmpty)) H
def rInDc (K : PySem.W.Frag) (w : World) (neg : Bool) : R2 := fun x y H Q => ∃ d kvs, SD K w d kvs ∧ rInSD d kvs neg x y H Q
def rInX (K : PySem.W.Frag) (w : World) (neg : Bool) : R2 := fun x y H Q => rInS neg x y H Q ∨ rInDc K w neg x y H Q ∨ rIn K neg x y H Q
theorem or_in {X : Cx} : OpR X (compareOp .In) (rInX X.K X.w false) :=
  OpR.or (r := rInS false) op_in_str (OpR.or (r := rInDc X.K X.w false) (fun pins s σ H x y v u Q I rx ry h => by
    obtain ⟨d, kvs, h1, h2⟩ := h
    exact op_in_sd h1 pins s σ H x y v u Q I rx ry h2) op_in_seq)
theorem or_notIn {X : Cx} : OpR X (compareOp .NotIn) (rInX X.K X.w true) :=
  OpR.or (r := rInS true) op_notin_str (OpR.or (r := rInDc X.K X.w true) (fun pins s σ H x y v u Q I rx ry h => by
    obtain ⟨d, kvs, h1, h2⟩ := h
    exact op_notIn_sd h1 pins s σ H x y v u Q I rx ry h2) op_notIn_seq)
theorem lkp_zip : ∀ {ks : List Str} {vs : List V} {ds : List D} {z : Str}, ks.length = vs.length → RepL C.K C.w C.ad G vs ds → (match lkp ks ds z with
  | some d => ∃ v, (ks.zip vs).lookup z = some v ∧ Rep C.K C.w C.ad G v d
  | none => (ks.zip vs).lookup z = none) := by
  intro ks
  induction ks with
  | nil => intro vs ds z _ r; unfold lkp; rfl
  | cons k ks ih =>
    intro vs ds z h r
    cases r with
    | nil => cases h
    | @cons v d vs ds hv r =>
      unfold lkp
      by_cases hz : z = k
      · subst hz
        rw [if_pos rfl]
        refine ⟨v, ?_, hv⟩
        rw [List.zip_cons_cons, List.lookup_cons, beq_self_eq_true]
      · rw [if_neg hz]
        have ih := ih (z := z) (Nat.succ.inj h) r
        rw [List.zip_cons_cons, List.lookup_cons, beq_eq_false_iff_ne.mpr hz]
        exact ih
theorem dIn_ok {x y : D} {E : XK} {Q : VK} (o : Out C (rV C) E G H Q (dIn x y)) : (∃ a b, x = .str a ∧ y = .str b) ∨ (∃ a ks ds, x = .str a ∧ y = .dct ks ds) ∨ (∃ xs, seqOf y = some xs ∧ dIn x y = .ok (.bl (inD x xs)) ∧ flatD x = true ∧ xs.all flatD = true) := by
  unfold dIn at o ⊢
  split at o
  · exact Or.inl ⟨_, _, rfl, rfl⟩
  · exact Or.inr (Or.inl ⟨_, _, _, rfl, rfl⟩)
  · cases c : seqOf y with
    | none => rw [c] at o; exact o.elim
    | some xs =>
      rw [c] at o
      dsimp only at o
      obtain ⟨h, _⟩ := out_ifE o
      have h2 := h
      rw [Bool.and_eq_true] at h
      refine Or.inr (Or.inr ⟨xs, rfl, ?_, h.1, h.2⟩)
      dsimp only
      rw [if_pos h2]
theorem in_run {neg : Bool} {x y : V} {dx dy : D} {E : XK} {Q Q2 : VK} (e : SOk C G H) (rx : Rep C.K C.w C.ad G x dx) (ry : Rep C.K C.w C.ad G y dy) (o : Out C (rV C) E G H Q (dIn dx dy)) (q : ∀ b, Q (.bl b) H → Q2 (.bl (if neg then !b else b)) H) : rInX C.K C.w neg x y H Q2 := by
  rcases dIn_ok o with ⟨i, j, rfl, rfl⟩ | ⟨a, ks, ds, rfl, rfl⟩ | ⟨xs, h, h1, h2, h3⟩
  · cases rx; cases ry
    refine Or.inl ⟨i, j, rfl, rfl, ?_⟩
    exact q _ (o _ G H (Step.refl e) (.bl _))
  · cases rx
    cases ry with
    | dct hl hs r =>
      refine Or.inr (Or.inl ⟨_, _, hs, a, rfl, rfl, ?_⟩)
      have z := lkp_zip (z := a) hl r
      have o2 : Out C (rV C) E G H Q (.ok (.bl (lkp ks ds a).isSome)) := o
      cases c : lkp ks ds a with
      | none =>
        rw [c] at z o2
        dsimp only at z
        rw [z]
        exact q _ (o2 _ G H (Step.refl e) (.bl _))
      | some d =>
        rw [c] at z o2
        obtain ⟨v, z, _⟩ := z
        rw [z]
        exact q _ (o2 _ G H (Step.refl e) (.bl _))
  · rw [h1] at o
    have fin : ∀ {vs : List V}, RepL C.K C.w C.ad G vs xs → Q2 (.bl (if neg then !inV x vs else inV x vs)) H := fun {vs} r => by
      rw [inV_D rx h2 r h3]
      exact q _ (o _ G H (Step.refl e) (.bl _))
    cases ry with
    | lst hl r => cases h; exact Or.inr (Or.inr ⟨_, _, rfl, Or.inl (sq_of (e.e _ _ hl)), flat_V rx h2, flat_all r h3, fin r⟩)
    | scr hl r => cases h; exact Or.inr (Or.inr ⟨_, _, rfl, Or.inl (ex_l e.e hl), flat_V rx h2, flat_all r h3, fin r⟩)
    | tup hl r => cases h; exact Or.inr (Or.inr ⟨_, _, rfl, Or.inr (ex_t e.e hl), flat_V rx h2, flat_all r h3, fin r⟩)
    | ktp hl _ r => cases h; exact Or.inr (Or.inr ⟨_, _, rfl, Or.inr (ex_t e.e hl), flat_V rx h2, flat_all r h3, fin r⟩)
    | _ => cases h
theorem od_in : OpD C (rInX C.K C.w false) dIn := fun G H x y dx dy e rx ry E Q o => in_run e rx ry o fun b h => h
theorem od_notIn : OpD C (rInX C.K C.w true) dNotIn := fun G H x y dx dy e rx ry E Q o =>
  in_run (Q := fun v H' => ∀ b, v = .bl b → ∀ G', Step C G H G' H' → Q (.bl !b) H') e rx ry (Out.bind o fun d v G' H' _ s r o2 b hb G2 s2 => by
    subst hb
    cases r
    exact o2 _ G' H' (Step.refl s.gh) (.bl _)) fun b h => h b rfl G (Step.refl e)
/-! is None -/
theorem od_is : OpD C (fun x y H Q => y = .non ∧ Q (.bl (decide (x = .non))) H) dIs := by
  intro G H x y dx dy e rx ry E Q o
  cases ry with
  | non => cases rx <;> exact ⟨rfl, o _ G H (Step.refl e) (.bl _)⟩
  | _ => cases rx <;> exact False.elim o
theorem od_isnt : OpD C (fun x y H Q => y = .non ∧ Q (.bl (!decide (x = .non))) H) dIsnt := by
  intro G H x y dx dy e rx ry E Q o
  cases ry with
  | non => cases rx <;> exact ⟨rfl, o _ G H (Step.refl e) (.bl _)⟩
  | _ => cases rx <;> exact False.elim o
/-! x[i] -/
def rIxX (K : PySem.W.Frag) (w : World) : R2 := fun x y H Q => rIx K x y H Q ∨ rIxD K w x y H Q
theorem ix_all {X : Cx} : IxR X (rIxX X.K X.w) := ix_seq.or ix_kdict
/-- what a cell's list gives -/
theorem onL_out {α β : Type} {rep : Gd → Hp → β → α → Prop} {n : Nat} {k : List D → Sto → Rs α} {Q : β → Hp → Prop} (o : Out C rep E G H Q (onL n k)) : ∃ xs, G.s[n]? = some (.lst xs) ∧ OutR C rep E G H Q (k xs G.s) := by
  unfold Out onL at o
  cases c : G.s[n]? with
  | none => rw [c] at o; exact False.elim o
  | some z =>
    cases z with
    | lst xs => rw [c] at o; exact ⟨xs, rfl, o⟩
    | dct _ => rw [c] at o; exact False.elim o
    | ins _ _ => rw [c] at o; exact False.elim o
theorem od_ix : OpD C (rIxX C.K C.w) dIx := by
  intro G H x y dx dy e rx ry E Q o
  cases rx with
  | @mref n a hm => cases ry with
    | int i =>
      obtain ⟨xs, hs, o⟩ := onL_out o
      obtain ⟨_, vs, hH, r⟩ := e.at hm hs
      unfold oR at o
      cases c : L2.atI xs i with
      | none => rw [c] at o; exact False.elim o
      | some d =>
        rw [c] at o
        obtain ⟨u, hu, ru⟩ := r.atI c
        exact Or.inl (Or.inl ⟨a, vs, i, u, rfl, rfl, sq_of hH, hu, o _ G H (Step.refl e) ru⟩)
    | _ => exact False.elim o
  | str z => cases ry with
    | int i =>
      have o2 : Out C (rV C) E G H Q (if z.length ≤ Z then (match L2.atI z.cps.toList i with | some c => .ok (.str ⟨#[c]⟩) | none => .bad) else .bad) := o
      obtain ⟨hz, o2⟩ := out_if o2
      cases c : L2.atI z.cps.toList i with
      | none => rw [c] at o2; exact o2.elim
      | some k =>
        rw [c] at o2
        exact Or.inl (Or.inr (Or.inr ⟨z, i, k, rfl, rfl, sz_of hz, c, o2 _ G H (Step.refl e) (.str _)⟩))
    | _ => exact False.elim o
  | @lst a vs ds h r => cases ry with
    | int i =>
      have o2 : Out C (rV C) E G H Q (match L2.atI ds i with | some d => .ok d | none => .bad) := o
      cases c : L2.atI ds i with
      | none => rw [c] at o2; exact o2.elim
      | some d =>
        rw [c] at o2
        obtain ⟨u, hu, ru⟩ := r.atI c
        exact Or.inl (Or.inl ⟨a, vs, i, u, rfl, rfl, sq_of (e.e _ _ h), hu, o2 _ G H (Step.refl e) ru⟩)
    | _ => exact False.elim o
  | @scr a vs ds h r => cases ry with
    | int i =>
      have o2 : Out C (rV C) E G H Q (match L2.atI ds i with | some d => .ok d | none => .bad) := o
      cases c : L2.atI ds i with
      | none => rw [c] at o2; exact o2.elim
      | some d =>
        rw [c] at o2
        obtain ⟨u, hu, ru⟩ := r.atI c
        exact Or.inl (Or.inl ⟨a, vs, i, u, rfl, rfl, ex_l e.e h, hu, o2 _ G H (Step.refl e) ru⟩)
    | _ => exact False.elim o
  | @tup a vs ds h r => cases ry with
    | int i =>
      have o2 : Out C (rV C) E G H Q (match L2.atI ds i with | some d => .ok d | none => .bad) := o
      cases c : L2.atI ds i with
      | none => rw [c] at o2; exact o2.elim
      | some d =>
        rw [c] at o2
        obtain ⟨u, hu, ru⟩ := r.atI c
        exact Or.inl (Or.inr (Or.inl ⟨a, vs, i, u, rfl, rfl, ex_t e.e h, hu, o2 _ G H (Step.refl e) ru⟩))
    | _ => exact False.elim o
  | @ktp a vs ds h _ r => cases ry with
    | int i =>
      have o2 : Out C (rV C) E G H Q (match L2.atI ds i with | some d => .ok d | none => .bad) := o
      cases c : L2.atI ds i with
      | none => rw [c] at o2; exact o2.elim
      | some d =>
        rw [c] at o2
        obtain ⟨u, hu, ru⟩ := r.atI c
        exact Or.inl (Or.inr (Or.inl ⟨a, vs, i, u, rfl, rfl, ex_t e.e h, hu, o2 _ G H (Step.refl e) ru⟩))
    | _ => exact False.elim o
  | @dct a ks vs ds hl hs r => cases ry with
    | str z =>
      have o2 : Out C (rV C) E G H Q (match lkp ks ds z with | some d => .ok d | none => .bad) := o
      have l := lkp_zip (z := z) hl r
      cases c : lkp ks ds z with
      | none => rw [c] at o2; exact o2.elim
      | some d =>
        rw [c] at o2 l
        obtain ⟨v, l, rv⟩ := l
        exact Or.inr ⟨a, z, v, rfl, rfl, hs.some l, o2 _ G H (Step.refl e) rv⟩
    | _ => exact False.elim o
  | _ => cases ry <;> exact False.elim o
/-! slices -/
theorem co_none : CO C xo W tNoPart pN := fun σ G H env f Q o => o none G H (Step.refl f.ok) rfl
theorem co_some {te : TE} {f : SE} (h : CE C xo W te f) : CO C xo W (tPart te) (pS f) := fun σ G H env ft Q o =>
  h σ G H env ft _ (Out.bind o fun d v G1 H1 _ s r o1 => by
    cases r with
    | int i => exact ⟨i, rfl, o1 (some i) G1 H1 (Step.refl s.gh) rfl⟩
    | _ => exact False.elim o1)
def rSlX2 (K : PySem.W.Frag) : V → Option Int → Option Int → Hp → VK → Prop := fun x lo hi H Q => rSlS x lo hi H Q ∨ rSlL K x lo hi H Q ∨ rSlA K x lo hi H Q
theorem sl_all {X : Cx} : SlR X (rSlX2 X.K) := sl_str.or (sl_list.or sl_tupA)
theorem ce_sl {te : TE} {tl th : TO} {f : SE} {lo hi : Env → R (Option Int)} (h : CE C xo W te f) (h1 : CO C xo W tl lo) (h2 : CO C xo W th hi) : CE C xo W (tSl (rSlX2 C.K) te tl th) (eSl f lo hi) := fun σ G H env ft Q o =>
  h σ G H env ft _ (Out.bind o fun d v G1 H1 _ s1 r1 o1 => h1 σ G1 H1 env (ft.step s1) _ (Out.bind o1 fun l l' G2 H2 _ s2 r2 o2 => h2 σ G2 H2 env ((ft.step s1).step s2) _ (Out.bind o2 fun u u' G3 H3 _ s3 r3 o3 => by
    subst r2 r3
    have r := r1.mono (s2.g.trans s3.g)
    have e := s3.gh
    cases r with
    | str z =>
      have o4 : Out C (rV C) _ G3 H3 Q (if z.length ≤ Z then .ok (.str (cutS z l' u')) else .bad) := o3
      obtain ⟨hz, o4⟩ := out_ifE o4
      exact Or.inl ⟨z, rfl, sz_of hz, o4 _ G3 H3 (Step.refl e) (.str _)⟩
    | @lst a vs ds h r =>
      exact Or.inr (Or.inl ⟨a, vs, rfl, sq_of (e.e _ _ h), fun p hp => o3 _ _ _ (Step.new e hp) (.lst upd_same ((r.cut l' u').mono (ExG.new (fresh_back e.e hp))))⟩)
    | @scr a vs ds h r =>
      exact Or.inr (Or.inl ⟨a, vs, rfl, ex_l e.e h, fun p hp => o3 _ _ _ (Step.new e hp) (.lst upd_same ((r.cut l' u').mono (ExG.new (fresh_back e.e hp))))⟩)
    | @tup a vs ds h r =>
      refine Or.inr (Or.inr ⟨a, vs, rfl, ex_t e.e h, fun z => ?_, fun _ p hp => o3 _ _ _ (Step.new e hp) (.tup (st_of upd_same) ((r.cut l' u').mono (ExG.new (fresh_back e.e hp))))⟩)
      have q : cutG ds l' u' = ds := by
        unfold cutG
        rw [← r.length, z.1, z.2, List.drop_zero, Nat.sub_zero, r.length, List.take_length]
      have o4 : Out C (rV C) _ G3 H3 Q (.ok (.tup (cutG ds l' u'))) := o3
      rw [q] at o4
      exact o4 _ G3 H3 (Step.refl e) (.tup h r)
    | @ktp a vs ds h kk r =>
      refine Or.inr (Or.inr ⟨a, vs, rfl, ex_t e.e h, fun z => ?_, fun _ p hp => o3 _ _ _ (Step.new e hp) (.tup (st_of upd_same) ((r.cut l' u').mono (ExG.new (fresh_back e.e hp))))⟩)
      have q : cutG ds l' u' = ds := by
        unfold cutG
        rw [← r.length, z.1, z.2, List.drop_zero, Nat.sub_zero, r.length, List.take_length]
      have o4 : Out C (rV C) _ G3 H3 Q (.ok (.tup (cutG ds l' u'))) := o3
      rw [q] at o4
      exact o4 _ G3 H3 (Step.refl e) (.tup h r)
    | _ => exact False.elim o3)))
end
end Dm
set_option Elab.async false
set_option linter.all false
set_option maxRecDepth 100000
set_option maxHeartbeats 4000000
namespace Dm
open PySem L2 Evl RZ Wm
section
variable {C : Cc} {xo : Xo} {W : WX} {G G' : Gd} {H H' : Hp} {σ : L2.St} {env : Env} {E : XK}
/-! arguments -/
theorem ca_nil : CA C xo W tNil eNil := fun σ G H env f Q o => o [] G H (Step.refl f.ok) .nil
theorem ca_cons {te : TE} {tr : TA} {a : SE} {r : SA} (ha : CE C xo W te a) (hr : CA C xo W tr r) : CA C xo W (tCons te tr) (eCons a r) := fun σ G H env f Q o =>
  ha σ G H env f _ (Out.bind o fun d v G1 H1 _ s1 r1 o1 => hr σ G1 H1 env (f.step s1) _ (Out.bind o1 fun ds vs G2 H2 _ s2 r2 o2 => o2 (v :: vs) G2 H2 (Step.refl s2.gh) (.cons (r1.mono s2.g) r2)))
theorem ce_tup {ta : TA} {a : SA} (h : CA C xo W ta a) : CE C xo W (tTup ta) (eTup a) := fun σ G H env f Q o =>
  h σ G H env f _ (Out.bind o fun ds vs G1 H1 _ s1 r1 o1 => by
    obtain ⟨hz, o1⟩ := out_ifE o1
    exact ⟨sz_of (by rw [r1.length]; exact hz), fun p hp => o1 _ _ _ (Step.new s1.gh hp) (.tup (st_of upd_same) (r1.mono (ExG.new (fresh_back s1.gh.e hp))))⟩)
/-! tests -/
theorem ct_test {te : TE} {f : SE} (h : CE C xo W te f) : CT C xo W (tTest te) (tE f) := fun σ G H env ft Q o =>
  h σ G H env ft _ (Out.bind o fun d v G1 H1 _ s r o1 => by
    cases r with
    | bl b => exact ⟨b, rfl, o1 b G1 H1 (Step.refl s.gh) rfl⟩
    | _ => exact False.elim o1)
theorem ct_B {te : TE} {f : SE} (h : CE C xo W te f) : CT C xo W (tB te) (tE f) := ct_test h
theorem ct_and {t u : TT} {f g : ST} (h : CT C xo W t f) (h2 : CT C xo W u g) : CT C xo W (tAnd t u) (tAn f g) := fun σ G H env ft Q o =>
  h σ G H env ft _ (Out.bind o fun d v G1 H1 _ s r o1 => by
    subst r
    cases v with
    | true => exact h2 σ G1 H1 env (ft.step s) Q o1
    | false => exact o1 false G1 H1 (Step.refl s.gh) rfl)
theorem ct_or {t u : TT} {f g : ST} (h : CT C xo W t f) (h2 : CT C xo W u g) : CT C xo W (tOr t u) (tO f g) := fun σ G H env ft Q o =>
  h σ G H env ft _ (Out.bind o fun d v G1 H1 _ s r o1 => by
    subst r
    cases v with
    | false => exact h2 σ G1 H1 env (ft.step s) Q o1
    | true => exact o1 true G1 H1 (Step.refl s.gh) rfl)
theorem ct_not {t : TT} {f : ST} (h : CT C xo W t f) : CT C xo W (tNot t) (tN f) := fun σ G H env ft Q o =>
  h σ G H env ft _ (Out.bind o fun d v G1 H1 _ s r o1 => by
    subst r
    exact o1 (!v) G1 H1 (Step.refl s.gh) rfl)
theorem ct_yes : CT C xo W tYes tY := fun σ G H env ft Q o => o true G H (Step.refl ft.ok) rfl
theorem ce_and {ta tb : TE} {f g : SE} (h : CE C xo W ta f) (h2 : CE C xo W tb g) : CE C xo W (tAndV ta tb) (eAnd f g) := fun σ G H env ft Q o =>
  h σ G H env ft _ (Out.bind o fun d v G1 H1 _ s r o1 => by
    cases r with
    | bl b =>
      cases b with
      | true => exact ⟨true, rfl, h2 σ G1 H1 env (ft.step s) Q o1⟩
      | false => exact ⟨false, rfl, o1 _ G1 H1 (Step.refl s.gh) (.bl _)⟩
    | _ => exact False.elim o1)
theorem ce_or {ta tb : TE} {f g : SE} (h : CE C xo W ta f) (h2 : CE C xo W tb g) : CE C xo W (tOrV ta tb) (eOr f g) := fun σ G H env ft Q o =>
  h σ G H env ft _ (Out.bind o fun d v G1 H1 _ s r o1 => by
    cases r with
    | bl b =>
      cases b with
      | false => exact ⟨false, rfl, h2 σ G1 H1 env (ft.step s) Q o1⟩
      | true => exact ⟨true, rfl, o1 _ G1 H1 (Step.refl s.gh) (.bl _)⟩
    | _ => exact False.elim o1)
theorem ce_not {ta : TE} {f : SE} (h : CE C xo W ta f) : CE C xo W (tNotV ta) (eU dNot f) := fun σ G H env ft Q o =>
  h σ G H env ft _ (Out.bind o fun d v G1 H1 _ s r o1 => by
    cases r with
    | bl b => exact ⟨b, rfl, o1 _ G1 H1 (Step.refl s.gh) (.bl _)⟩
    | _ => exact False.elim o1)
theorem ce_neg {ta : TE} {f : SE} (h : CE C xo W ta f) : CE C xo W (tUn (rU fun i => .int (-i)) ta) (eU dNeg f) := fun σ G H env ft Q o =>
  h σ G H env ft _ (Out.bind o fun d v G1 H1 _ s r o1 => by
    cases r with
    | int b => exact ⟨b, rfl, o1 _ G1 H1 (Step.refl s.gh) (.int _)⟩
    | _ => exact False.elim o1)
theorem ce_if {t : TT} {ta tb : TE} {c : ST} {f g : SE} (h : CT C xo W t c) (h1 : CE C xo W ta f) (h2 : CE C xo W tb g) : CE C xo W (tIf t ta tb) (eIf c f g) := fun σ G H env ft Q o =>
  h σ G H env ft _ (Out.bind o fun d v G1 H1 _ s r o1 => by
    subst r
    cases v with
    | true => exact h1 σ G1 H1 env (ft.step s) Q o1
    | false => exact h2 σ G1 H1 env (ft.step s) Q o1)
theorem ce_chain {r r' : R2} {op op' : D → D → R D} {ta tb tc : TE} {fa fb fc : SE} (h : OpD C r op) (h' : OpD C r' op') (ha : CE C xo W ta fa) (hb : CE C xo W tb fb) (hc : CE C xo W tc fc) : CE C xo W (tChain r r' ta tb tc) (eChain op op' fa fb fc) := fun σ G H env f Q o =>
  ha σ G H env f _ (Out.bind o fun d v G1 H1 _ s1 r1 o1 => hb σ G1 H1 env (f.step s1) _ (Out.bind o1 fun d2 v2 G2 H2 _ s2 r2 o2 => h G2 H2 v v2 d d2 s2.gh (r1.mono s2.g) r2 (WE W σ) _ (Out.bind o2 fun d3 v3 G3 H3 _ s3 r3 o3 => by
    cases r3 with
    | bl b =>
      refine ⟨b, rfl, ?_⟩
      cases b with
      | false => exact o3 _ G3 H3 (Step.refl s3.gh) (.bl _)
      | true =>
        have f3 := ((f.step s1).step s2).step s3
        refine hc σ G3 H3 env f3 _ (Out.bind (show Out C (rV C) (WE W σ) G3 H3 Q ((fc env).bind fun z => (op' d2 z).bind fun r2 => (toBl r2).bind fun k2 => R.ok (D.bl k2)) from o3) fun d4 v4 G4 H4 _ s4 r4 o4 => h' G4 H4 v2 v4 d2 d4 s4.gh (r2.mono (s3.g.trans s4.g)) r4 (WE W σ) _ (Out.bind o4 fun d5 v5 G5 H5 _ s5 r5 o5 => ?_))
        cases r5 with
        | bl b2 => exact o5 _ G5 H5 (Step.refl s5.gh) (.bl _)
        | _ => exact False.elim o5
    | _ => exact False.elim o3)))
/-! built-ins -/
def CallD (C : Cc) (r : List V → Hp → VK → Prop) (f : List D → R D) : Prop := ∀ G H vs ds, SOk C G H → RepL C.K C.w C.ad G vs ds → ∀ E Q, Out C (rV C) E G H Q (f ds) → r vs H Q
theorem ce_F {r : List V → Hp → VK → Prop} {f : List D → R D} {ta : TA} {a : SA} (h : CallD C r f) (ha : CA C xo W ta a) : CE C xo W (tCB r ta) (eF f a) := fun σ G H env ft Q o =>
  ha σ G H env ft _ (Out.bind o fun ds vs G1 H1 _ s1 r1 o1 => h G1 H1 vs ds s1.gh r1 _ _ o1)
theorem CallRor {X : Cx} {f : Value} {r r' : List V → Hp → VK → Prop} (h : CallR X f r) (h' : CallR X f r') : CallR X f (fun xs H Q => r xs H Q ∨ r' xs H Q) := by
  intro pins s σ H xs us Q I rx q
  rcases q with q | q
  · exact h pins s σ H xs us Q I rx q
  · exact h' pins s σ H xs us Q I rx q
def rLenX (K : PySem.W.Frag) : List V → Hp → VK → Prop := fun xs H Q => rLenS1 xs H Q ∨ rLenS K xs H Q
theorem cr_len {X : Cx} : CallR X (.builtin "len") (rLenX X.K) := CallRor (r := rLenS1) call_len_str (r' := rLenS X.K) call_len_seq
theorem cd_len : CallD C (rLenX C.K) fLen := by
  intro G H vs ds e r E Q o
  cases r with
  | nil => exact False.elim o
  | cons h r =>
    cases r with
    | cons h2 r => cases h <;> exact False.elim o
    | nil =>
      cases h with
      | str z =>
        obtain ⟨hz, o⟩ := out_ifE (d := .int z.length) o
        exact Or.inl ⟨z, rfl, sz_of hz, o _ G H (Step.refl e) (.int _)⟩
      | @mref n a hm =>
        obtain ⟨xs, hs, o⟩ := onL_out o
        obtain ⟨_, vs, hH, r⟩ := e.at hm hs
        refine Or.inr ⟨a, vs, rfl, Or.inl (sq_of hH), ?_⟩
        rw [r.length]
        exact o _ G H (Step.refl e) (.int _)
      | @lst a vs ds h r =>
        refine Or.inr ⟨a, vs, rfl, Or.inl (sq_of (e.e _ _ h)), ?_⟩
        rw [r.length]
        exact o _ G H (Step.refl e) (.int _)
      | @scr a vs ds h r =>
        refine Or.inr ⟨a, vs, rfl, Or.inl (ex_l e.e h), ?_⟩
        rw [r.length]
        exact o _ G H (Step.refl e) (.int _)
      | @tup a vs ds h r =>
        refine Or.inr ⟨a, vs, rfl, Or.inr (ex_t e.e h), ?_⟩
        rw [r.length]
        exact o _ G H (Step.refl e) (.int _)
      | @ktp a vs ds h _ r =>
        refine Or.inr ⟨a, vs, rfl, Or.inr (ex_t e.e h), ?_⟩
        rw [r.length]
        exact o _ G H (Step.refl e) (.int _)
      | _ => exact False.elim o
theorem cd_int : CallD C rInt1 fInt := by
  intro G H vs ds e r E Q o
  cases r with
  | nil => exact False.elim o
  | cons h r =>
    cases r with
    | cons h2 r => cases h <;> exact False.elim o
    | nil =>
      cases h with
      | int i => exact Or.inl ⟨i, rfl, o _ G H (Step.refl e) (.int _)⟩
      | bl i => exact Or.inr ⟨i, rfl, o _ G H (Step.refl e) (.int _)⟩
      | _ => exact False.elim o
theorem cd_str : CallD C rStrI fStr := by
  intro G H vs ds e r E Q o
  cases r with
  | nil => exact False.elim o
  | cons h r =>
    cases r with
    | cons h2 r => cases h <;> exact False.elim o
    | nil =>
      cases h with
      | int i =>
        obtain ⟨hz, o⟩ := out_ifE (p := i.natAbs.log2 < 1920) o
        exact ⟨i, rfl, hz, o _ G H (Step.refl e) (.str _)⟩
      | _ => exact False.elim o
theorem cd_abs : CallD C rAbs1 fAbs := by
  intro G H vs ds e r E Q o
  cases r with
  | nil => exact False.elim o
  | cons h r =>
    cases r with
    | cons h2 r => cases h <;> exact False.elim o
    | nil =>
      cases h with
      | int i => exact ⟨i, rfl, o _ G H (Step.refl e) (.int _)⟩
      | _ => exact False.elim o
theorem cd_min2 : CallD C rMin2 fMin2 := by
  intro G H vs ds e r E Q o
  cases r with
  | nil => exact False.elim o
  | cons h r =>
    cases r with
    | nil => cases h <;> exact False.elim o
    | cons h2 r =>
      cases r with
      | cons _ _ => cases h <;> cases h2 <;> exact False.elim o
      | nil =>
        cases h with
        | int i => cases h2 with
          | int j => exact ⟨i, j, rfl, o _ G H (Step.refl e) (.int _)⟩
          | _ => exact False.elim o
        | _ => cases h2 <;> exact False.elim o
theorem cd_max2 : CallD C rMax2 fMax2 := by
  intro G H vs ds e r E Q o
  cases r with
  | nil => exact False.elim o
  | cons h r =>
    cases r with
    | nil => cases h <;> exact False.elim o
    | cons h2 r =>
      cases r with
      | cons _ _ => cases h <;> cases h2 <;> exact False.elim o
      | nil =>
        cases h with
        | int i => cases h2 with
          | int j => exact ⟨i, j, rfl, o _ G H (Step.refl e) (.int _)⟩
          | _ => exact False.elim o
        | _ => cases h2 <;> exact False.elim o
theorem cd_ord : CallD C (fun xs H Q => ∃ x, xs = [.str x] ∧ x.length = 1 ∧ Q (.int (x.cps.getD 0 0 : Nat)) H) fOrd := by
  intro G H vs ds e r E Q o
  cases r with
  | nil => exact False.elim o
  | cons h r =>
    cases r with
    | cons h2 r => cases h <;> exact False.elim o
    | nil =>
      cases h with
      | str x =>
        obtain ⟨hz, o⟩ := out_ifE (p := x.length = 1) o
        exact ⟨x, rfl, hz, o _ G H (Step.refl e) (.int _)⟩
      | _ => exact False.elim o
theorem cd_sum : CallD C (rSum C.K) fSum := by
  intro G H vs ds e r E Q o
  cases r with
  | nil => exact False.elim o
  | cons h r =>
    cases r with
    | cons h2 r => cases h <;> exact False.elim o
    | nil =>
      cases h with
      | @lst a vs ds h r =>
        have o2 : Out C (rV C) E G H Q (match intsOf ds with | some ns => .ok (.int ns.sum) | none => .bad) := o
        cases c : intsOf ds with
        | none => rw [c] at o2; exact o2.elim
        | some ns =>
          rw [c] at o2
          have z := r.ints c
          subst z
          exact ⟨a, ns, rfl, sq_of (e.e _ _ h), o2 _ G H (Step.refl e) (.int _)⟩
      | @scr a vs ds h r =>
        have o2 : Out C (rV C) E G H Q (match intsOf ds with | some ns => .ok (.int ns.sum) | none => .bad) := o
        cases c : intsOf ds with
        | none => rw [c] at o2; exact o2.elim
        | some ns =>
          rw [c] at o2
          have z := r.ints c
          subst z
          exact ⟨a, ns, rfl, ex_l e.e h, o2 _ G H (Step.refl e) (.int _)⟩
      | _ => exact False.elim o
theorem cd_tuple : CallD C (rTupS C.K) fTuple := by
  intro G H vs ds e r E Q o
  cases r with
  | nil => exact False.elim o
  | cons h r =>
    cases r with
    | cons h2 r => cases h <;> exact False.elim o
    | nil =>
      cases h with
      | @lst a vs ds h r => exact ⟨a, vs, rfl, Or.inl ⟨sq_of (e.e _ _ h), fun p hp => o _ _ _ (Step.new e hp) (.tup (st_of upd_same) (r.mono (ExG.new (fresh_back e.e hp))))⟩⟩
      | @scr a vs ds h r => exact ⟨a, vs, rfl, Or.inl ⟨ex_l e.e h, fun p hp => o _ _ _ (Step.new e hp) (.tup (st_of upd_same) (r.mono (ExG.new (fresh_back e.e hp))))⟩⟩
      | @tup a vs ds h r => exact ⟨a, vs, rfl, Or.inr ⟨ex_t e.e h, o _ G H (Step.refl e) (.tup h r)⟩⟩
      | @ktp a vs ds h _ r => exact ⟨a, vs, rfl, Or.inr ⟨ex_t e.e h, o _ G H (Step.refl e) (.tup h r)⟩⟩
      | @mref n a hm =>
        obtain ⟨xs, hs, o⟩ := onL_out o
        obtain ⟨_, vs, hH, r⟩ := e.at hm hs
        exact ⟨a, vs, rfl, Or.inl ⟨sq_of hH, fun p hp => o _ _ _ (Step.new e hp) (.tup (st_of upd_same) (RpL.mono (ExG.new (fresh_back e.e hp)) r))⟩⟩
      | _ => exact False.elim o
/-! isinstance -/
def tyN : Ty → String
  | .int => "int" | .bool => "bool" | .str => "str" | .list => "list" | .tuple => "tuple" | .dict => "dict"
theorem ty_rd {K : PySem.W.Frag} {a : Addr} {vs : List V} (h : SqL K H a vs) : TyX K H (.ref a) (.type "list") := by
  rcases h with (h | ⟨o, h⟩) | ⟨o, its, n, h1, h2, _⟩
  · exact .base (.lst h)
  · exact .base (.frz h)
  · exact .kList h1 h2
theorem ty_rt {K : PySem.W.Frag} {a : Addr} {vs : List V} (h : SqT K H a vs) : TyX K H (.ref a) (.type "tuple") := by
  rcases h with (h | ⟨o, h⟩) | ⟨o, its, n, h1, h2, _⟩
  · exact .base (.tup h)
  · exact .fTuple h
  · exact .kTuple h1 h2
theorem ce_isi {ta : TE} {a : SE} (t : Ty) (ha : CE C xo W ta a) : CE C xo W (tCB (rIsi C.K) (tCons ta (tCons (tC (.ty (tyN t))) tNil))) (eU (dIsi t) a) := fun σ G H env ft Q o =>
  ha σ G H env ft _ (Out.bind o fun d v G1 H1 _ s r o1 => by
    have e := s.gh
    cases r with
    | non => exact ⟨_, _, _, _, isTy t .non, rfl, .ty _, .base .non, kit_ty (by cases t <;> first | (show kitB _ _ = some true; decide +kernel) | (show kitB _ _ = some false; decide +kernel)), o1 _ G1 H1 (Step.refl e) (.bl _)⟩
    | bl b => exact ⟨_, _, _, _, isTy t (.bl b), rfl, .ty _, .base (.bl b), kit_ty (by cases t <;> first | (show kitB _ _ = some true; decide +kernel) | (show kitB _ _ = some false; decide +kernel)), o1 _ G1 H1 (Step.refl e) (.bl _)⟩
    | int b => exact ⟨_, _, _, _, isTy t (.int b), rfl, .ty _, .base (.int b), kit_ty (by cases t <;> first | (show kitB _ _ = some true; decide +kernel) | (show kitB _ _ = some false; decide +kernel)), o1 _ G1 H1 (Step.refl e) (.bl _)⟩
    | str b => exact ⟨_, _, _, _, isTy t (.str b), rfl, .ty _, .base (.str b), kit_ty (by cases t <;> first | (show kitB _ _ = some true; decide +kernel) | (show kitB _ _ = some false; decide +kernel)), o1 _ G1 H1 (Step.refl e) (.bl _)⟩
    | @lst a vs ds h r => exact ⟨_, _, _, _, isTy t (.lst ds), rfl, .ty _, .base (.lst (e.e _ _ h)), kit_ty (by cases t <;> first | (show kitB _ _ = some true; decide +kernel) | (show kitB _ _ = some false; decide +kernel)), o1 _ G1 H1 (Step.refl e) (.bl _)⟩
    | @scr a vs ds h r => exact ⟨_, _, _, _, isTy t (.scr ds), rfl, .ty _, ty_rd (ex_l e.e h), kit_ty (by cases t <;> first | (show kitB _ _ = some true; decide +kernel) | (show kitB _ _ = some false; decide +kernel)), o1 _ G1 H1 (Step.refl e) (.bl _)⟩
    | @tup a vs ds h r => exact ⟨_, _, _, _, isTy t (.tup ds), rfl, .ty _, ty_rt (ex_t e.e h), kit_ty (by cases t <;> first | (show kitB _ _ = some true; decide +kernel) | (show kitB _ _ = some false; decide +kernel)), o1 _ G1 H1 (Step.refl e) (.bl _)⟩
    | @ktp a vs ds h _ r => exact ⟨_, _, _, _, isTy t (.ktp ds), rfl, .ty _, ty_rt (ex_t e.e h), kit_ty (by cases t <;> first | (show kitB _ _ = some true; decide +kernel) | (show kitB _ _ = some false; decide +kernel)), o1 _ G1 H1 (Step.refl e) (.bl _)⟩
    | fn n => exact False.elim o1
    | mref h => exact False.elim o1
    | @dct a ks vs ds hl hs r =>
      obtain ⟨es, n, hk, _⟩ := hs.ex
      exact ⟨_, _, _, _, isTy t (.dct ks ds), rfl, .ty _, .kDict hk rfl, kit_ty (by cases t <;> first | (show kitB _ _ = some true; decide +kernel) | (show kitB _ _ = some false; decide +kernel)), o1 _ G1 H1 (Step.refl e) (.bl _)⟩)
/-! new lists -/
theorem cn_lst {ta : TA} {a : SA} (h : CA C xo W ta a) : CN C xo W (tLst ta) (lD a) := fun σ G H env f Q o =>
  h σ G H env f _ (Out.bind o fun ds vs G1 H1 _ s1 r1 o1 => by
    obtain ⟨hz, o1⟩ := out_if o1
    exact ⟨sz_of (by rw [r1.length]; exact hz), fun p hp => o1 _ G1 _ (Step.ofH s1.gh (Ex.new hp)) ⟨⟨p, vs, rfl, fresh_back s1.gh.e hp, s1.gh.fresh hp, upd_same, r1⟩, fun q hq => by cases hq; exact s1.fresh hp⟩⟩)
theorem cn_list {ta : TA} {a : SA} (h : CA C xo W ta a) : CN C xo W (tCB (rListS C.K) ta) (lF fList a) := fun σ G H env f Q o =>
  h σ G H env f _ (Out.bind o fun ds vs G1 H1 _ s1 r1 o1 => by
    have e := s1.gh
    cases r1 with
    | nil => exact False.elim o1
    | cons h r =>
      cases r with
      | cons h2 r => cases h <;> exact False.elim o1
      | nil =>
        cases h with
        | @lst a vs ds h r => exact ⟨a, vs, rfl, Or.inl (sq_of (e.e _ _ h)), fun p hp => o1 _ G1 _ (Step.ofH e (Ex.new hp)) ⟨⟨p, vs, rfl, fresh_back e.e hp, e.fresh hp, upd_same, r⟩, fun q hq => by cases hq; exact s1.fresh hp⟩⟩
        | @scr a vs ds h r => exact ⟨a, vs, rfl, Or.inl (ex_l e.e h), fun p hp => o1 _ G1 _ (Step.ofH e (Ex.new hp)) ⟨⟨p, vs, rfl, fresh_back e.e hp, e.fresh hp, upd_same, r⟩, fun q hq => by cases hq; exact s1.fresh hp⟩⟩
        | @tup a vs ds h r => exact ⟨a, vs, rfl, Or.inr (ex_t e.e h), fun p hp => o1 _ G1 _ (Step.ofH e (Ex.new hp)) ⟨⟨p, vs, rfl, fresh_back e.e hp, e.fresh hp, upd_same, r⟩, fun q hq => by cases hq; exact s1.fresh hp⟩⟩
        | @ktp a vs ds h _ r => exact ⟨a, vs, rfl, Or.inr (ex_t e.e h), fun p hp => o1 _ G1 _ (Step.ofH e (Ex.new hp)) ⟨⟨p, vs, rfl, fresh_back e.e hp, e.fresh hp, upd_same, r⟩, fun q hq => by cases hq; exact s1.fresh hp⟩⟩
        | @mref n a hm =>
          obtain ⟨xs, hs, o1⟩ := onL_out o1
          obtain ⟨_, vs, hH, r⟩ := e.at hm hs
          exact ⟨a, vs, rfl, Or.inl (sq_of hH), fun p hp => o1 _ G1 _ (Step.ofH e (Ex.new hp)) ⟨⟨p, vs, rfl, fresh_back e.e hp, e.fresh hp, upd_same, r⟩, fun q hq => by cases hq; exact s1.fresh hp⟩⟩
        | _ => exact False.elim o1)
theorem cn_cat {ta tb : TE} {a b : SE} (ha : CE C xo W ta a) (hb : CE C xo W tb b) : CN C xo W (tOp rCat ta tb) (lCat a b) := fun σ G H env f Q o =>
  ha σ G H env f _ (Out.bind o fun d v G1 H1 _ s1 r1 o1 => hb σ G1 H1 env (f.step s1) _ (Out.bind o1 fun d2 v2 G2 H2 _ s2 r2 o2 => by
    have r3 := r1.mono s2.g
    have e := s2.gh
    cases r3 with
    | @lst a vs ds h r4 => cases r2 with
      | @lst b ws es h2 r2 =>
        obtain ⟨hz, o2⟩ := out_if (p := ds.length + es.length ≤ Z) o2
        exact ⟨a, b, vs, ws, rfl, rfl, e.e _ _ h, e.e _ _ h2, sz_of (by rw [r4.length, r2.length]; exact hz), fun p hp => o2 _ G2 _ (Step.ofH e (Ex.new hp)) ⟨⟨p, _, rfl, fresh_back e.e hp, e.fresh hp, upd_same, r4.append r2⟩, fun q hq => by cases hq; exact (s1.trans s2).fresh hp⟩⟩
      | _ => exact False.elim o2
    | _ => cases r2 <;> exact False.elim o2))
theorem cn_rep {ta tb : TE} {a b : SE} (ha : CE C xo W ta a) (hb : CE C xo W tb b) : CN C xo W (tOp rRep ta tb) (lRep a b) := fun σ G H env f Q o =>
  ha σ G H env f _ (Out.bind o fun d v G1 H1 _ s1 r1 o1 => hb σ G1 H1 env (f.step s1) _ (Out.bind o1 fun d2 v2 G2 H2 _ s2 r2 o2 => by
    have r3 := r1.mono s2.g
    have e := s2.gh
    cases r3 with
    | @lst a vs ds h r4 => cases r2 with
      | int k =>
        obtain ⟨hz, o2⟩ := out_if (p := ds.length * k.toNat ≤ Z ∧ -(2 ^ 63) ≤ k ∧ k < 2 ^ 63) o2
        exact ⟨a, k, vs, rfl, rfl, e.e _ _ h, hz.2.1, hz.2.2, sz_of (by rw [r4.length]; exact hz.1), fun p hp => o2 _ G2 _ (Step.ofH e (Ex.new hp)) ⟨⟨p, _, rfl, fresh_back e.e hp, e.fresh hp, upd_same, r4.rep _⟩, fun q hq => by cases hq; exact (s1.trans s2).fresh hp⟩⟩
      | _ => exact False.elim o2
    | _ => cases r2 <;> exact False.elim o2))
theorem cn_sl {te : TE} {tl th : TO} {f : SE} {lo hi : Env → R (Option Int)} (h : CE C xo W te f) (h1 : CO C xo W tl lo) (h2 : CO C xo W th hi) : CN C xo W (tSl (rSlL C.K) te tl th) (lSl f lo hi) := fun σ G H env ft Q o =>
  h σ G H env ft _ (Out.bind o fun d v G1 H1 _ s1 r1 o1 => h1 σ G1 H1 env (ft.step s1) _ (Out.bind o1 fun l l' G2 H2 _ s2 r2 o2 => h2 σ G2 H2 env ((ft.step s1).step s2) _ (Out.bind o2 fun u u' G3 H3 _ s3 r3 o3 => by
    subst r2 r3
    have r := r1.mono (s2.g.trans s3.g)
    have e := s3.gh
    have hh := (s1.trans s2).trans s3
    cases r with
    | @lst a vs ds h r => exact ⟨a, vs, rfl, sq_of (e.e _ _ h), fun p hp => o3 _ G3 _ (Step.ofH e (Ex.new hp)) ⟨⟨p, _, rfl, fresh_back e.e hp, e.fresh hp, upd_same, r.cut _ _⟩, fun q hq => by cases hq; exact hh.fresh hp⟩⟩
    | @scr a vs ds h r => exact ⟨a, vs, rfl, ex_l e.e h, fun p hp => o3 _ G3 _ (Step.ofH e (Ex.new hp)) ⟨⟨p, _, rfl, fresh_back e.e hp, e.fresh hp, upd_same, r.cut _ _⟩, fun q hq => by cases hq; exact hh.fresh hp⟩⟩
    | _ => exact False.elim o3)))
theorem cn_rev {te : TE} {f : SE} (h : CE C xo W te f) : CN C xo W (tRevL C.K te) (lRev f) := fun σ G H env ft Q o =>
  h σ G H env ft _ (Out.bind o fun d v G1 H1 _ s r o1 => by
    have e := s.gh
    cases r with
    | @lst a vs ds h r => exact ⟨a, vs, rfl, sq_of (e.e _ _ h), fun p hp => o1 _ G1 _ (Step.ofH e (Ex.new hp)) ⟨⟨p, _, rfl, fresh_back e.e hp, e.fresh hp, upd_same, r.reverse⟩, fun q hq => by cases hq; exact s.fresh hp⟩⟩
    | @scr a vs ds h r => exact ⟨a, vs, rfl, ex_l e.e h, fun p hp => o1 _ G1 _ (Step.ofH e (Ex.new hp)) ⟨⟨p, _, rfl, fresh_back e.e hp, e.fresh hp, upd_same, r.reverse⟩, fun q hq => by cases hq; exact s.fresh hp⟩⟩
    | _ => exact False.elim o1)
/-- a new list is a value -/
theorem ce_L {te : TE} {f : SA} (h : CN C xo W te f) : CE C xo W te (eL f) := fun σ G H env ft Q o => by
  refine h σ G H env ft Q ?_
  unfold eL Out R.bind at o
  unfold Out
  cases c : f env G.s with
  | bad => rw [c] at o; exact o
  | exc k fs t => rw [c] at o; exact o
  | ok ds t =>
    rw [c] at o
    intro v G' H' s q
    obtain ⟨⟨p, vs, rfl, h1, hm, h2, h3⟩, h4⟩ := q
    exact o (.ref p) _ H' (s.take h1 hm h2 (h4 p rfl)) (.lst upd_same (h3.mono (ExG.new h1)))
end
end Dm
set_option Elab.async false
set_option linter.all false
set_option maxRecDepth 100000
set_option maxHeartbeats 4000000
namespace Dm
open PySem L2 Evl RZ Wm
section
variable {C : Cc} {xo : Xo} {W : WX} {G G' : Gd} {H H' : Hp} {σ : L2.St} {env : Env} {E : XK}
/-! methods -/
theorem ty_V {K : PySem.W.Frag} {w : World} {ad : Nat → Addr} {M : List Addr} {v : V} {d : D} {t : Ty} (r : Rp K w ad H M v d) (h : isTy t d = true) (ht : t = .str ∨ t = .list ∨ (t = .tuple ∧ ∃ xs, d = .ktp xs)) : tyV K (tyN t) v H := by
  rcases ht with rfl | rfl | ⟨rfl, xs, rfl⟩
  · cases r <;> first | rfl | cases h
  · cases r with
    | lst h1 _ => exact Or.inl ⟨rfl, _, sq_of h1⟩
    | scr h1 _ => exact Or.inl ⟨rfl, _, h1⟩
    | _ => cases h
  · cases r with
    | ktp _ k _ => exact Or.inr (Or.inl ⟨rfl, k⟩)
def MetD (C : Cc) (r : V → List V → Hp → VK → Prop) (f : D → List D → R D) : Prop := ∀ G H x vs dx ds, SOk C G H → Rep C.K C.w C.ad G x dx → RepL C.K C.w C.ad G vs ds → ∀ E Q, Out C (rV C) E G H Q (f dx ds) → r x vs H Q
theorem ce_M {r : V → List V → Hp → VK → Prop} {f : D → List D → R D} {t : Ty} {to : TE} {ta : TA} {o : SE} {a : SA} (h : MetD C r f) (ht : t = .str ∨ t = .list) (ho : CE C xo W to o) (ha : CA C xo W ta a) : CE C xo W (tBM C.K (tyN t) r to ta) (eM t f o a) := fun σ G H env ft Q q =>
  ho σ G H env ft _ (Out.bind q fun d v G1 H1 _ s1 r1 o1 => by
    obtain ⟨hz, o1⟩ := out_if o1
    exact ⟨ty_V (Rp.mono0 s1.gh.e (fun _ _ h => h) r1) hz (ht.imp id Or.inl), ha σ G1 H1 env (ft.step s1) _ (Out.bind o1 fun ds vs G2 H2 _ s2 r2 o2 => h G2 H2 v vs d ds s2.gh (r1.mono s2.g) r2 _ _ o2)⟩)
theorem ce_M0 {r : V → List V → Hp → VK → Prop} {f : D → List D → R D} {t : Ty} {to : TE} {o : SE} (h : MetD C r f) (ht : t = .str ∨ t = .list) (ho : CE C xo W to o) : CE C xo W (tBM0 C.K (tyN t) r to) (eM t f o eNil) := fun σ G H env ft Q q =>
  ho σ G H env ft _ (Out.bind q fun d v G1 H1 _ s1 r1 o1 => by
    obtain ⟨hz, o1⟩ := out_if o1
    exact ⟨ty_V (Rp.mono0 s1.gh.e (fun _ _ h => h) r1) hz (ht.imp id Or.inl), h G1 H1 v [] d [] s1.gh r1 .nil (WE W σ) _ o1⟩)
local macro_rules | `(tactic| walk_at "strmet") => `(tactic| (
  intro G H x vs dx ds e rx r E Q o
  cases rx with
  | str a =>
    cases r with
    | nil => exact False.elim o
    | cons h r =>
      cases r with
      | cons h2 r => cases h <;> exact False.elim o
      | nil =>
        cases h with
        | str b => exact ⟨a, b, rfl, rfl, o _ G H (Step.refl e) (by constructor)⟩
        | _ => exact False.elim o
  | _ => exact False.elim o))
theorem md_find : MetD C (fun x xs H Q => ∃ a b, x = .str a ∧ xs = [.str b] ∧ Q (.int (Txt.find a b)) H) mFind := by walk_at "strmet"
theorem md_rfind : MetD C (fun x xs H Q => ∃ a b, x = .str a ∧ xs = [.str b] ∧ Q (.int (Txt.rfind a b)) H) mRfind := by walk_at "strmet"
theorem md_count : MetD C (fun x xs H Q => ∃ a b, x = .str a ∧ xs = [.str b] ∧ Q (.int (Txt.count a b)) H) mCount := by walk_at "strmet"
theorem md_starts : MetD C (fun x xs H Q => ∃ a b, x = .str a ∧ xs = [.str b] ∧ Q (.bl (Txt.startswith a b)) H) mStarts := by walk_at "strmet"
theorem md_lower : MetD C (fun x xs H Q => ∃ a, x = .str a ∧ xs = [] ∧ a.length ≤ 5592405 ∧ Q (.str (Txt.lower a)) H) mLower := by
  intro G H x vs dx ds e rx r E Q o
  cases rx with
  | str a =>
    cases r with
    | nil =>
      obtain ⟨hz, o⟩ := out_ifE (p := a.length ≤ Z) o
      exact ⟨a, rfl, rfl, Nat.le_trans hz (by decide), o _ G H (Step.refl e) (.str _)⟩
    | cons h r => exact False.elim o
  | _ => exact False.elim o
def rJoin (K : PySem.W.Frag) : V → List V → Hp → VK → Prop := fun x xs H Q => ∃ a p, ∃ ys : List Str, x = .str a ∧ xs = [.ref p] ∧ (SqL K H p (ys.map V.str) ∨ SqT K H p (ys.map V.str)) ∧
    (ys.map (·.length)).sum + ys.length * a.length ≤ 16777216 ∧ Q (.str (Txt.join a ys)) H
theorem md_join : MetD C (rJoin C.K) mJoin := by
  intro G H x vs dx ds e rx r E Q o
  cases rx with
  | str a =>
    cases r with
    | nil => exact False.elim o
    | cons h r =>
      cases r with
      | cons h2 r => cases h <;> exact False.elim o
      | nil =>
        have fin : ∀ {p : Addr} {vs : List V} {xs : List D}, (SqL C.K H p vs ∨ SqT C.K H p vs) → RepL C.K C.w C.ad G vs xs → Out C (rV C) E G H Q (match strsOf xs with
            | some ys => if (ys.map (·.length)).sum + ys.length * a.length ≤ 16777216 then .ok (.str (Txt.join a ys)) else .bad
            | none => .bad) → rJoin C.K (.str a) [.ref p] H Q := fun {p vs xs} hs r o2 => by
          cases c : strsOf xs with
          | none => rw [c] at o2; exact o2.elim
          | some ys =>
            rw [c] at o2
            have z := r.strs c
            subst z
            obtain ⟨hz, o2⟩ := out_ifE (p := (ys.map (·.length)).sum + ys.length * a.length ≤ 16777216) o2
            exact ⟨a, p, ys, rfl, rfl, hs, hz, o2 _ G H (Step.refl e) (.str _)⟩
        cases h with
        | lst h1 r1 => exact fin (Or.inl (sq_of (e.e _ _ h1))) r1 o
        | scr h1 r1 => exact fin (Or.inl (ex_l e.e h1)) r1 o
        | tup h1 r1 => exact fin (Or.inr (ex_t e.e h1)) r1 o
        | _ => exact False.elim o
  | _ => exact False.elim o
/-- names.index(z), names a tuple of the module -/
def rTIx (K : PySem.W.Frag) : V → List V → Hp → VK → Prop := fun x xs H Q => ∃ p, ∃ ys : List Str, ∃ z j, x = .ref p ∧ xs = [.str z] ∧ SqT K H p (ys.map V.str) ∧ ys[j]? = some z ∧ (∀ m, m < j → ys[m]? ≠ some z) ∧ Q (.int (j : Nat)) H
theorem idx_at : ∀ {ys : List Str} {z : Str}, z ∈ ys → ys[ys.idxOf z]? = some z ∧ ∀ m, m < ys.idxOf z → ys[m]? ≠ some z := by
  intro ys z h
  have hl := List.idxOf_lt_length_of_mem h
  refine ⟨?_, fun m hm q => ?_⟩
  · rw [List.getElem?_eq_getElem hl]
    exact congrArg some (List.getElem_idxOf hl)
  · have hm2 : m < ys.length := Nat.lt_trans hm hl
    rw [List.getElem?_eq_getElem hm2] at q
    have e := Option.some.inj q
    have := List.not_of_lt_findIdx (p := (· == z)) (xs := ys) hm
    rw [e, beq_self_eq_true] at this
    cases this
theorem ce_tix {to : TE} {ta : TA} {o : SE} {a : SA} (ho : CE C xo W to o) (ha : CA C xo W ta a) : CE C xo W (tBM C.K "tuple" (rTIx C.K) to ta) (eTIx o a) := fun σ G H env ft Q q =>
  ho σ G H env ft _ (Out.bind q fun d v G1 H1 _ s1 r1 o1 => by
    cases r1 with
    | @ktp p vs xs h1 k r1 =>
      refine ⟨Or.inr (Or.inl ⟨rfl, k⟩), ha σ G1 H1 env (ft.step s1) _ (Out.bind o1 fun ds ws G2 H2 _ s2 r2 o2 => ?_)⟩
      cases r2 with
      | nil => exact False.elim o2
      | cons h r =>
        cases r with
        | cons _ _ => cases h <;> exact False.elim o2
        | nil =>
          cases h with
          | str z =>
            have o3 : Out C (rV C) (WE W σ) G2 H2 Q (match strsOf xs with
              | some ys => if z ∈ ys then .ok (.int (ys.idxOf z : Nat)) else .bad
              | none => .bad) := o2
            cases c : strsOf xs with
            | none => rw [c] at o3; exact o3.elim
            | some ys =>
              rw [c] at o3
              obtain ⟨hz, o3⟩ := out_ifE (p := z ∈ ys) o3
              have q := r1.strs c
              subst q
              have i := idx_at hz
              exact ⟨p, ys, z, _, rfl, rfl, ex_t (s2.g.g.trans s2.gh.e) h1, i.1, i.2, o3 _ G2 H2 (Step.refl s2.gh) (.int _)⟩
          | _ => exact False.elim o2
    | _ => exact False.elim o1)
/-! calls of defs -/
def SpD (C : Cc) (m : List D → R D) : Sp := fun vs H Q E => ∃ G ds, SOk C G H ∧ RepL C.K C.w C.ad G vs ds ∧ Out C (rV C) E G H Q (m ds)
abbrev rF (C : Cc) (H : Hp) : Gd → Hp → V → List D → Prop := fun G' H' v ds => rN C G' H' v ds ∧ ∀ p, v = .ref p → H p = none
def SpL (C : Cc) (m : List D → R (List D)) : Sp := fun vs H Q E => ∃ G ds, SOk C G H ∧ RepL C.K C.w C.ad G vs ds ∧ Out C (rF C H) E G H Q (m ds)
theorem ce_call {m : List D → R D} {t : TA} {a : SA} (ha : CA C xo W t a) : CE C xo W (tCallS (SpD C m) (WE W) t) (eF m a) := fun σ G H env ft Q o =>
  ha σ G H env ft _ (Out.bind o fun ds vs G1 H1 _ s r o1 => ⟨G1, ds, s.gh, r, o1⟩)
theorem cn_call {m : List D → R (List D)} {t : TA} {a : SA} (ha : CA C xo W t a) : CN C xo W (tCallS (SpL C m) (WE W) t) (lF m a) := fun σ G H env ft Q o =>
  ha σ G H env ft _ (Out.bind o fun ds vs G1 H1 _ s r o1 => ⟨G1, ds, s.gh, r, by
    unfold Out at o1 ⊢
    cases c : m ds G1.s with
    | bad => rw [c] at o1; exact o1
    | exc k fs t => rw [c] at o1; exact o1
    | ok xs t =>
      rw [c] at o1
      intro v G2 H2 s2 q
      exact o1 v G2 H2 s2 ⟨q.1, fun p hp => s.fresh (q.2 p hp)⟩⟩)
theorem ce_call0 {m : List D → R D} : CE C xo W (tCall (SpD C m) [] E0 tNil) (fun _ => noX (m [])) := fun σ G H env ft Q o => ⟨G, [], ft.ok, .nil, by
  unfold Out noX at o
  unfold Out
  dsimp only at o
  cases c : m [] G.s with
  | bad => rw [c] at o; exact o
  | exc k fs t => rw [c] at o; exact False.elim o
  | ok xs t => rw [c] at o; exact fun v G2 H2 s2 q => o v G2 H2 s2 q⟩
theorem cn_call0 {m : List D → R (List D)} : CN C xo W (tCall (SpL C m) [] E0 tNil) (fun _ => noX (m [])) := fun σ G H env ft Q o => ⟨G, [], ft.ok, .nil, by
  unfold Out noX at o
  unfold Out
  dsimp only at o
  cases c : m [] G.s with
  | bad => rw [c] at o; exact o
  | exc k fs t => rw [c] at o; exact False.elim o
  | ok xs t => rw [c] at o; exact fun v G2 H2 s2 q => o v G2 H2 s2 q⟩
/-- a call of a local name that holds a def; what is raised goes by the def's own wish -/
def tCallRS (i : Nat) (S : Addr → Sp → Prop) (E : L2.St → XK) (t : TA) : TE := fun σ H Q => ∃ f sp, σ[i]? = some (some (.ref f)) ∧ S f sp ∧ t σ H fun vs H1 => sp vs H1 Q (E σ)
def STb (C : Cc) (tb : Nat → Option (List D → R D)) : Addr → Sp → Prop := fun f sp => ∃ n m, f = C.ad n ∧ tb n = some m ∧ sp = SpD C m
theorem ce_P {tb : Nat → Option (List D → R D)} {i : Nat} {t : TA} {a : SA} (ha : CA C xo W t a) : CE C xo W (tCallRS i (STb C tb) (WE W) t) (eP tb i a) := fun σ G H env ft Q o => by
  unfold eP at o
  cases c : env[i]? with
  | none => rw [c] at o; exact o.elim
  | some s =>
    rw [c] at o
    cases s with
    | val d =>
      cases d with
      | fn n =>
        dsimp only at o
        cases c2 : tb n with
        | none => rw [c2] at o; exact o.elim
        | some m =>
          rw [c2] at o
          obtain ⟨v, h1, h2⟩ := ft.val i _ c
          cases h2
          exact ⟨_, _, h1, ⟨n, m, rfl, c2, rfl⟩, ha σ G H env ft _ (Out.bind o fun ds vs G1 H1 _ s r o1 => ⟨G1, ds, s.gh, r, o1⟩)⟩
      | _ => exact o.elim
    | _ => exact o.elim
/-! ### what is walked -/
def Srv (C : Cc) (J : It) (G : Gd) (ds : List D) : Prop := ∃ (GP : Hp → Prop) (Y : Nat → Hp → V → Hp → Prop), Walk J ds.length GP Y ∧ (∀ H, Ex G.g H → GP H) ∧
  ∀ (i : Nat) H x H' G1, i < ds.length → ExG (G.put G1.s) G1 → SOk C G1 H → Y i H x H' → ∃ G' d, ds[i]? = some d ∧ Step C G1 H G' H' ∧ Rep C.K C.w C.ad G' x d
def CI (C : Cc) (xo : Xo) (W : WX) (wi : TI) (f : SA) : Prop := ∀ σ G H env, Fit C xo G H σ env → ∀ R : It → Hp → Prop, Out C (fun G' _ J ds => Srv C J G' ds) (WE W σ) G H R (f env) → wi σ H R
theorem srv_at {J : It} {vs : List V} {ds : List D} {GP : Hp → Prop} (w : Walk J vs.length GP (YAt vs)) (r : RepL C.K C.w C.ad G vs ds) (hg : ∀ H, Ex G.g H → GP H) : Srv C J G ds :=
  ⟨GP, YAt vs, by rw [← r.length]; exact w, hg, fun i H x H' G1 hi e1 e2 y => by
    obtain ⟨rfl, h⟩ := y
    obtain ⟨d, h1, h2⟩ := r.getV h
    exact ⟨G1, d, h1, Step.refl e2, h2.mono e1⟩⟩
theorem ci_list {te : TE} {f : SE} (h : CE C xo W te f) : CI C xo W (iList C.K te) (iD f) := fun σ G H env ft R o =>
  h σ G H env ft _ (Out.bind o fun d v G1 H1 _ s r o1 => by
    cases r with
    | @lst a vs ds h1 r => exact ⟨a, rfl, ⟨vs, sq_of (s.gh.e _ _ h1)⟩, o1 _ G1 H1 (Step.refl s.gh) (srv_at walk_list r fun H e => sq_of (e _ _ h1))⟩
    | @scr a vs ds h1 r => exact ⟨a, rfl, ⟨vs, ex_l s.gh.e h1⟩, o1 _ G1 H1 (Step.refl s.gh) (srv_at walk_list r fun H e => ex_l e h1)⟩
    | _ => exact False.elim o1)
theorem ci_tup {te : TE} {f : SE} (h : CE C xo W te f) : CI C xo W (iTup C.K te) (iT f) := fun σ G H env ft R o =>
  h σ G H env ft _ (Out.bind o fun d v G1 H1 _ s r o1 => by
    cases r with
    | @tup a vs ds h1 r => exact ⟨a, rfl, ⟨vs, ex_t s.gh.e h1⟩, o1 _ G1 H1 (Step.refl s.gh) (srv_at walk_tup r fun H e => ex_t e h1)⟩
    | @ktp a vs ds h1 _ r => exact ⟨a, rfl, ⟨vs, ex_t s.gh.e h1⟩, o1 _ G1 H1 (Step.refl s.gh) (srv_at walk_tup r fun H e => ex_t e h1)⟩
    | _ => exact False.elim o1)
theorem ci_str {te : TE} {f : SE} (h : CE C xo W te f) : CI C xo W (iStr te) (iS f) := fun σ G H env ft R o =>
  h σ G H env ft _ (Out.bind o fun d v G1 H1 _ s r o1 => by
    cases r with
    | str z =>
      refine ⟨z, rfl, o1 _ G1 H1 (Step.refl s.gh) ⟨_, _, by rw [List.length_map, Array.length_toList]; exact walk_str, fun _ _ => True.intro, fun i H x H' G1 hi e1 e2 y => ?_⟩⟩
      obtain ⟨rfl, c, h1, rfl⟩ := y
      refine ⟨G1, _, ?_, Step.refl e2, .str _⟩
      rw [List.getElem?_map, Array.getElem?_toList, h1]
      rfl
    | _ => exact False.elim o1)
theorem ci_r1 {ta : TA} {a : SA} (h : CA C xo W ta a) : CI C xo W (iRng1 ta) (iR1 a) := fun σ G H env ft R o =>
  h σ G H env ft _ (Out.bind o fun ds vs G1 H1 _ s r o1 => by
    cases r with
    | nil => exact False.elim o1
    | cons h r =>
      cases r with
      | cons _ _ => cases h <;> exact False.elim o1
      | nil =>
        cases h with
        | int n =>
          obtain ⟨hz, o1⟩ := out_if (p := n ≤ Z ∧ -Z ≤ n) o1
          have hz1 : n ≤ 100000 := hz.1
          have hz2 : -100000 ≤ n := hz.2
          refine ⟨n, rfl, by omega, by omega, o1 _ G1 H1 (Step.refl s.gh) ⟨_, _, by rw [List.length_map, List.length_range]; exact walk_range, fun _ _ => True.intro, fun i H x H' G1 hi e1 e2 y => ?_⟩⟩
          obtain ⟨rfl, rfl⟩ := y
          rw [List.length_map, List.length_range] at hi
          refine ⟨G1, _, ?_, Step.refl e2, .int _⟩
          rw [List.getElem?_map, List.getElem?_range hi, Int.zero_add]
          rfl
        | _ => exact False.elim o1)
theorem ci_r2 {ta : TA} {a : SA} (h : CA C xo W ta a) : CI C xo W (iRng2 ta) (iR2 a) := fun σ G H env ft R o =>
  h σ G H env ft _ (Out.bind o fun ds vs G1 H1 _ s r o1 => by
    cases r with
    | nil => exact False.elim o1
    | cons h r =>
      cases r with
      | nil => cases h <;> exact False.elim o1
      | cons h2 r =>
        cases r with
        | cons _ _ => cases h <;> cases h2 <;> exact False.elim o1
        | nil =>
          cases h with
          | int m => cases h2 with
            | int n =>
              obtain ⟨hz, o1⟩ := out_if (p := n ≤ Z ∧ -Z ≤ n ∧ m ≤ Z ∧ -Z ≤ m) o1
              have hz1 : n ≤ 100000 := hz.1
              have hz2 : -100000 ≤ n := hz.2.1
              have hz3 : m ≤ 100000 := hz.2.2.1
              have hz4 : -100000 ≤ m := hz.2.2.2
              refine ⟨m, n, rfl, by omega, o1 _ G1 H1 (Step.refl s.gh) ⟨_, _, by rw [List.length_map, List.length_range]; exact walk_range, fun _ _ => True.intro, fun i H x H' G1 hi e1 e2 y => ?_⟩⟩
              obtain ⟨rfl, rfl⟩ := y
              rw [List.length_map, List.length_range] at hi
              refine ⟨G1, _, ?_, Step.refl e2, .int _⟩
              rw [List.getElem?_map, List.getElem?_range hi]
              rfl
            | _ => exact False.elim o1
          | _ => cases h2 <;> exact False.elim o1)
theorem zipD_at : ∀ {xs ys : List D} {i : Nat} {x y : D}, xs[i]? = some x → ys[i]? = some y → (zipD xs ys)[i]? = some (.tup [x, y])
  | [], _, _, _, _, h, _ => by cases h
  | _ :: _, [], _, _, _, _, h => by cases h
  | x :: xs, y :: ys, 0, _, _, h, h2 => by cases h; cases h2; rfl
  | x :: xs, y :: ys, i + 1, _, _, h, h2 => zipD_at (xs := xs) (ys := ys) (i := i) h h2
theorem zipD_length : ∀ {xs ys : List D}, (zipD xs ys).length = min xs.length ys.length
  | [], ys => by unfold zipD; simp
  | _ :: _, [] => by unfold zipD; simp
  | x :: xs, y :: ys => by
    unfold zipD
    rw [List.length_cons, zipD_length, List.length_cons, List.length_cons]
    omega
/-- a new pair of what stands -/
theorem pair_step {T : Addr} {x y : V} {d e : D} {G1 : Gd} (ex : SOk C G1 H) (hT : H T = none) (rx : Rep C.K C.w C.ad G1 x d) (ry : Rep C.K C.w C.ad G1 y e) : ∃ G', Step C G1 H G' (upd H T (.tup [x, y])) ∧ Rep C.K C.w C.ad G' (.ref T) (.tup [d, e]) := by
  have hn := fresh_back ex.e hT
  exact ⟨_, Step.new ex hT, .tup (st_of upd_same) (.cons (rx.mono (ExG.new hn)) (.cons (ry.mono (ExG.new hn)) .nil))⟩
theorem srv_pair {J : It} {vs ws : List V} {ds es : List D} {n : Nat} {GP : Hp → Prop} (w : Walk J n GP (YPair (fun i => vs[i]?) (fun i => ws[i]?))) (hn : n = min vs.length ws.length) (r : RepL C.K C.w C.ad G vs ds) (r2 : RepL C.K C.w C.ad G ws es) (hg : ∀ H, Ex G.g H → GP H) : Srv C J G (zipD ds es) :=
  ⟨GP, _, by rw [zipD_length, ← r.length, ← r2.length, ← hn]; exact w, hg, fun i H x H' G1 hi e1 e2 y => by
    obtain ⟨T, a, b, rfl, hT, rfl, h1, h2⟩ := y
    obtain ⟨d, q1, q2⟩ := r.getV h1
    obtain ⟨e, q3, q4⟩ := r2.getV h2
    obtain ⟨G', s, rr⟩ := pair_step e2 hT (q2.mono e1) (q4.mono e1)
    exact ⟨G', _, zipD_at q1 q3, s, rr⟩⟩
theorem ci_zipL {ta : TA} {a : SA} (h : CA C xo W ta a) : CI C xo W (iZip C.K ta) (iZL a) := fun σ G H env ft R o =>
  h σ G H env ft _ (Out.bind o fun ds vs G1 H1 _ s r o1 => by
    cases r with
    | nil => exact False.elim o1
    | cons h r =>
      cases r with
      | nil => cases h <;> exact False.elim o1
      | cons h2 r =>
        cases r with
        | cons _ _ => cases h <;> cases h2 <;> exact False.elim o1
        | nil =>
          cases h with
          | @lst a vs ds h1 r1 => cases h2 with
            | @lst b ws es h2 r2 =>
              exact ⟨a, b, vs, ws, rfl, sq_of (s.gh.e _ _ h1), sq_of (s.gh.e _ _ h2), o1 _ G1 H1 (Step.refl s.gh) (srv_pair (walk_zip rfl) rfl r1 r2 fun H e => ⟨sq_of (e _ _ h1), sq_of (e _ _ h2)⟩)⟩
            | _ => exact False.elim o1
          | _ => cases h2 <;> exact False.elim o1)
theorem walk_zipT {K : PySem.W.Frag} {a b : Addr} {xs ys : List V} {n : Nat} (hn : n = min xs.length ys.length) : Walk (ItzT K a b) n (fun H => SqT K H a xs ∧ SqT K H b ys) (YPair (fun i => xs[i]?) (fun i => ys[i]?)) := by
  subst hn
  refine ⟨fun i _ hi q => ?_, fun _ q => ⟨xs, ys, q.1, q.2, by omega⟩, fun i H v H' _ q y => ?_⟩
  · have h1 : i < xs.length := by omega
    have h2 : i < ys.length := by omega
    exact ⟨xs, ys, xs[i], ys[i], q.1, q.2, by simp [h1], by simp [h2]⟩
  · obtain ⟨T, x, z, h1, h2, h3, h4, h5⟩ := y
    exact ⟨T, x, z, h1, h2, h3, h4 xs q.1, h5 ys q.2⟩
theorem ci_zipT {ta : TA} {a : SA} (h : CA C xo W ta a) : CI C xo W (iZipA C.K ta) (iZT a) := fun σ G H env ft R o =>
  h σ G H env ft _ (Out.bind o fun ds vs G1 H1 _ s r o1 => by
    cases r with
    | nil => exact False.elim o1
    | cons h r =>
      cases r with
      | nil => cases h <;> exact False.elim o1
      | cons h2 r =>
        cases r with
        | cons _ _ => cases h <;> cases h2 <;> exact False.elim o1
        | nil =>
          cases h with
          | @tup a vs ds h1 r1 => cases h2 with
            | @tup b ws es h2 r2 =>
              exact ⟨a, b, vs, ws, rfl, Or.inr ⟨ex_t s.gh.e h1, ex_t s.gh.e h2, o1 _ G1 H1 (Step.refl s.gh) (srv_pair (walk_zipT rfl) rfl r1 r2 fun H e => ⟨ex_t e h1, ex_t e h2⟩)⟩⟩
            | _ => exact False.elim o1
          | _ => cases h2 <;> exact False.elim o1)
theorem enumD_at : ∀ {xs : List D} {i n : Nat} {x : D}, xs[i]? = some x → (enumD n xs)[i]? = some (.tup [.int ((n + i : Nat) : Int), x])
  | [], _, _, _, h => by cases h
  | x :: xs, 0, _, _, h => by cases h; rfl
  | x :: xs, i + 1, n, _, h => by
    have q := enumD_at (xs := xs) (i := i) (n := n + 1) h
    rw [show n + (i + 1) = n + 1 + i by omega]
    exact q
theorem enumD_length : ∀ {xs : List D} {n : Nat}, (enumD n xs).length = xs.length
  | [], _ => rfl
  | _ :: xs, n => congrArg (· + 1) (enumD_length (xs := xs) (n := n + 1))
theorem ci_enum {te : TE} {f : SE} (h : CE C xo W te f) : CI C xo W (iEnum C.K (tCons te tNil)) (iEn f) := fun σ G H env ft R o =>
  h σ G H env ft _ (Out.bind o fun d v G1 H1 _ s r o1 => by
    cases r with
    | @lst a vs ds h1 r =>
      refine ⟨a, vs, rfl, sq_of (s.gh.e _ _ h1), o1 _ G1 H1 (Step.refl s.gh) ⟨_, _, by rw [enumD_length, ← r.length]; exact walk_enum, fun H e => sq_of (e _ _ h1), fun i H x H' G1 hi e1 e2 y => ?_⟩⟩
      obtain ⟨T, p, q, rfl, hT, rfl, h1, h2⟩ := y
      obtain rfl : V.int (i : Nat) = p := Option.some.inj h1
      obtain ⟨d, q1, q2⟩ := r.getV h2
      obtain ⟨G', s, rr⟩ := pair_step (x := .int (i : Nat)) e2 hT (.int _) (q2.mono e1)
      refine ⟨G', _, enumD_at (n := 0) q1, s, ?_⟩
      rw [Nat.zero_add]
      exact rr
    | _ => exact False.elim o1)
end
end Dm
set_option Elab.async false
set_option linter.all false
set_option maxRecDepth 100000
set_option maxHeartbeats 4000000
namespace Dm
open PySem L2 Evl RZ Wm
section
variable {C : Cc} {xo : Xo} {W : WX} {G G' G0 : Gd} {H H' H0 : Hp} {σ : L2.St} {env : Env} {E : XK}
/-! ### environments that change -/
theorem get_set {α : Type} {l : List α} {i j : Nat} {a b : α} (h : (l.set j a)[i]? = some b) : (i = j ∧ j < l.length ∧ b = a) ∨ (i ≠ j ∧ l[i]? = some b) := by
  rw [List.getElem?_set] at h
  by_cases e : j = i
  · rw [if_pos e] at h
    split at h
    · cases h; exact Or.inl ⟨e.symm, by omega, rfl⟩
    · cases h
  · rw [if_neg e] at h
    exact Or.inr ⟨fun z => e z.symm, h⟩
theorem set_at {α : Type} {l : List α} {j : Nat} {a : α} (h : j < l.length) : (l.set j a)[j]? = some a := by rw [List.getElem?_set, if_pos rfl, if_pos h]
theorem set_off {α : Type} {l : List α} {i j : Nat} {a : α} (h : i ≠ j) : (l.set j a)[i]? = l[i]? := by rw [List.getElem?_set, if_neg fun z => h z.symm]
/-- slot j gets what says nothing of other slots -/
theorem Fit0.put {j : Nat} {s : Sl} {o : Option V} (f : Fit0 C xo G0 H0 G H σ env)
    (hv : ∀ d, s = .val d → ∃ v, o = some v ∧ Rep C.K C.w C.ad G v d) (ho : ∀ ds, s ≠ .own ds) (hx : ∀ c fs, s = .exn c fs → o = some (.ref xo.a) ∧ xo.cls = .ref (C.ad c) ∧ XRep C.K C.w C.ad G fs xo.d) : Fit0 C xo G0 H0 G H (σ.set j o) (env.set j s) where
  s := f.s
  f := {
    ok := f.f.ok
    len := by rw [List.length_set, List.length_set]; exact f.f.len
    val := fun i d h => by
      rcases get_set h with ⟨rfl, hl, rfl⟩ | ⟨hn, h⟩
      · obtain ⟨v, rfl, r⟩ := hv _ rfl
        exact ⟨v, set_at (by rw [f.f.len]; exact hl), r⟩
      · rw [set_off hn]
        exact f.f.val i d h
    own := fun i ds h => by
      rcases get_set h with ⟨rfl, hl, rfl⟩ | ⟨hn, h⟩
      · exact absurd rfl (ho ds)
      · rw [set_off hn]
        exact f.f.own i ds h
    om := fun i ds p h => by
      rcases get_set h with ⟨_, _, rfl⟩ | ⟨hn, h⟩
      · exact absurd rfl (ho ds)
      · rw [set_off hn]
        exact f.f.om i ds p h
    sep := fun i k p ds es h1 h2 => by
      rcases get_set h1 with ⟨_, _, rfl⟩ | ⟨hn, h1⟩
      · exact absurd rfl (ho ds)
      rcases get_set h2 with ⟨_, _, rfl⟩ | ⟨hn2, h2⟩
      · exact absurd rfl (ho es)
      rw [set_off hn, set_off hn2]
      exact f.f.sep i k p ds es h1 h2
    exn := fun i c fs h => by
      rcases get_set h with ⟨rfl, hl, rfl⟩ | ⟨hn, h⟩
      · obtain ⟨rfl, h1, h2⟩ := hx c fs rfl
        exact ⟨set_at (by rw [f.f.len]; exact hl), h1, h2⟩
      · rw [set_off hn]
        exact f.f.exn i c fs h }
  new := fun i ds p h => by
    rcases get_set h with ⟨_, _, rfl⟩ | ⟨hn, h⟩
    · exact absurd rfl (ho ds)
    · rw [set_off hn]
      exact f.new i ds p h
theorem Fit0.setV {j : Nat} {v : V} {d : D} (f : Fit0 C xo G0 H0 G H σ env) (r : Rep C.K C.w C.ad G v d) : Fit0 C xo G0 H0 G H (σ.set j (some v)) (env.set j (.val d)) :=
  f.put (fun e h => by cases h; exact ⟨v, rfl, r⟩) (fun _ => nofun) (fun _ _ => nofun)
theorem Fit0.setU {j : Nat} {o : Option V} (f : Fit0 C xo G0 H0 G H σ env) : Fit0 C xo G0 H0 G H (σ.set j o) (env.set j .un) :=
  f.put (fun _ => nofun) (fun _ => nofun) (fun _ _ => nofun)
/-- a list of one's own comes into slot j: new, or the one that was there, changed -/
theorem Fit0.setO {j : Nat} {p : Addr} {vs : List V} {ds : List D} (f : Fit0 C xo G0 H0 G H σ env) (hG : G.g p = none) (hm : p ∉ G.m) (h0 : H0 p = none) (hH : H p = some (.lst vs)) (r : RepL C.K C.w C.ad G vs ds)
    (hs : ∀ (i : Nat) es, i ≠ j → env[i]? = some (.own es) → σ[i]? ≠ some (some (.ref p))) : Fit0 C xo G0 H0 G H (σ.set j (some (.ref p))) (env.set j (.own ds)) where
  s := f.s
  f := {
    ok := f.f.ok
    len := by rw [List.length_set, List.length_set]; exact f.f.len
    val := fun i d h => by
      rcases get_set h with ⟨_, _, e⟩ | ⟨hn, h⟩
      · cases e
      · rw [set_off hn]
        exact f.f.val i d h
    own := fun i es h => by
      rcases get_set h with ⟨rfl, hl, e⟩ | ⟨hn, h⟩
      · cases e
        exact ⟨p, vs, set_at (by rw [f.f.len]; exact hl), hG, hH, r⟩
      · rw [set_off hn]
        exact f.f.own i es h
    om := fun i es q h => by
      rcases get_set h with ⟨rfl, hl, e⟩ | ⟨hn, h⟩
      · rw [set_at (by rw [f.f.len]; exact hl)]
        intro z
        cases z
        exact hm
      · rw [set_off hn]
        exact f.f.om i es q h
    sep := fun i k q es us h1 h2 => by
      rcases get_set h1 with ⟨hi, hl, e⟩ | ⟨hn, g1⟩
      · rcases get_set h2 with ⟨hk, _, e2⟩ | ⟨hn2, g2⟩
        · exact fun _ _ => hi.trans hk.symm
        · rw [hi, set_at (by rw [f.f.len]; exact hl), set_off hn2]
          intro a b
          cases a
          exact absurd b (hs k us hn2 g2)
      · rcases get_set h2 with ⟨hk, hl2, e2⟩ | ⟨hn2, g2⟩
        · rw [set_off hn, hk, set_at (by rw [f.f.len]; exact hl2)]
          intro a b
          cases b
          exact absurd a (hs i es hn g1)
        · rw [set_off hn, set_off hn2]
          exact f.f.sep i k q es us g1 g2
    exn := fun i c fs h => by
      rcases get_set h with ⟨_, _, e⟩ | ⟨hn, h⟩
      · cases e
      · rw [set_off hn]
        exact f.f.exn i c fs h }
  new := fun i es q h => by
    rcases get_set h with ⟨rfl, hl, e⟩ | ⟨hn, h⟩
    · rw [set_at (by rw [f.f.len]; exact hl)]
      intro z
      cases z
      exact h0
    · rw [set_off hn]
      exact f.new i es q h
theorem SOk.mut {p : Addr} {o : HO} (k : SOk C G H) (hG : G.g p = none) (hm : p ∉ G.m) : SOk C G (L2.upd H p o) := ⟨Ex.mut k.e hG, k.len, k.nd, fun n a c h1 h2 => by
  obtain ⟨q1, q2⟩ := k.cell n a c h1 h2
  have z : a ≠ p := fun z => hm (by rw [← z]; exact List.mem_of_getElem? h1)
  exact ⟨q1, CellAt.mono (ExG.refl G) (fun o h => by rw [upd_ne z]; exact h) q2⟩⟩
/-- the list of slot j is changed where it stands -/
theorem Fit0.chg {j : Nat} {p : Addr} {vs ws : List V} {ds es : List D} (f : Fit0 C xo G0 H0 G H σ env) (hj : env[j]? = some (.own ds)) (hp : σ[j]? = some (some (.ref p))) (hG : G.g p = none) (r : RepL C.K C.w C.ad G ws es) :
    Fit0 C xo G0 H0 G (upd H p (.lst ws)) σ (env.set j (.own es)) where
  s := ⟨f.s.g, f.f.ok.mut hG (f.f.om j ds p hj hp), fun q o h hm => by
    have z : q ≠ p := fun z => by rw [z, f.new j ds p hj hp] at h; cases h
    rw [upd_ne z]
    exact f.s.h q o h hm, f.s.out, f.s.om⟩
  f := {
    ok := f.f.ok.mut hG (f.f.om j ds p hj hp)
    len := by rw [List.length_set]; exact f.f.len
    val := fun i d h => by
      rcases get_set h with ⟨_, _, e⟩ | ⟨hn, h⟩
      · cases e
      · exact f.f.val i d h
    own := fun i us h => by
      rcases get_set h with ⟨rfl, hl, e⟩ | ⟨hn, h⟩
      · cases e
        exact ⟨p, ws, hp, hG, upd_same, r⟩
      · obtain ⟨q, zs, h1, h2, h3, h4⟩ := f.f.own i us h
        refine ⟨q, zs, h1, h2, ?_, h4⟩
        rw [upd_ne fun z => hn (f.f.sep i j p us ds h hj (by rw [h1, z]) hp)]
        exact h3
    om := fun i us q h => by
      rcases get_set h with ⟨rfl, hl, e⟩ | ⟨hn, h⟩
      · exact f.f.om i ds q hj
      · exact f.f.om i us q h
    sep := fun i k q us xs h1 h2 => by
      rcases get_set h1 with ⟨hi, hl, e⟩ | ⟨hn, g1⟩
      · rcases get_set h2 with ⟨hk, _, e2⟩ | ⟨hn2, g2⟩
        · exact fun _ _ => hi.trans hk.symm
        · rw [hi]
          exact f.f.sep j k q _ _ hj g2
      · rcases get_set h2 with ⟨hk, _, e2⟩ | ⟨hn2, g2⟩
        · rw [hk]
          exact f.f.sep i j q _ _ g1 hj
        · exact f.f.sep i k q _ _ g1 g2
    exn := fun i c fs h => by
      rcases get_set h with ⟨_, _, e⟩ | ⟨hn, h⟩
      · cases e
      · exact f.f.exn i c fs h }
  new := fun i us q h => by
    rcases get_set h with ⟨rfl, hl, e⟩ | ⟨hn, h⟩
    · exact f.new i ds q hj
    · exact f.new i us q h
/-- the list of slot j becomes data -/
theorem Fit0.frz {j : Nat} (f : Fit0 C xo G0 H0 G H σ env) : ∃ G', ExG G G' ∧ Fit0 C xo G0 H0 G' H σ (Dm.frz j env) := by
  unfold Dm.frz
  cases c : env[j]? with
  | none => exact ⟨G, ExG.refl G, f⟩
  | some s =>
    cases s with
    | own ds =>
      obtain ⟨p, vs, h1, h2, h3, h4⟩ := f.f.own j ds c
      have hm := f.f.om j ds p c h1
      have e1 : ExG G (G.upd p (.lst vs)) := ExG.new h2
      have s1 : Step C (G0.put G.s) H0 (G.upd p (.lst vs)) H := f.s.take h2 hm h3 (f.new j ds p c h1)
      refine ⟨_, e1, ?_⟩
      refine ⟨⟨f.f.ok.take h2 hm h3, by rw [List.length_set]; exact f.f.len, fun i d h => ?_, fun i es h => ?_, fun i es q h => ?_, fun i k q es us k1 k2 => ?_, fun i c2 fs h => ?_⟩, s1, fun i es q h => ?_⟩
      · rcases get_set h with ⟨rfl, hl, e⟩ | ⟨hn, h⟩
        · cases e
          exact ⟨.ref p, h1, .lst upd_same (h4.mono e1)⟩
        · obtain ⟨v, a, b⟩ := f.f.val i d h
          exact ⟨v, a, b.mono e1⟩
      · rcases get_set h with ⟨rfl, hl, e⟩ | ⟨hn, h⟩
        · cases e
        · obtain ⟨q, ws, k1, k2, k3, k4⟩ := f.f.own i es h
          refine ⟨q, ws, k1, ?_, k3, k4.mono e1⟩
          show L2.upd G.g p _ q = none
          rw [upd_ne fun z => hn (f.f.sep i j p es ds h c (by rw [k1, z]) h1)]
          exact k2
      · rcases get_set h with ⟨rfl, hl, e⟩ | ⟨hn, h⟩
        · cases e
        · exact f.f.om i es q h
      · rcases get_set k1 with ⟨_, _, e⟩ | ⟨hn, k1⟩
        · cases e
        rcases get_set k2 with ⟨_, _, e⟩ | ⟨hn2, k2⟩
        · cases e
        exact f.f.sep i k q es us k1 k2
      · rcases get_set h with ⟨_, _, e⟩ | ⟨hn, h⟩
        · cases e
        · obtain ⟨a, b, d⟩ := f.f.exn i c2 fs h
          exact ⟨a, b, d.mono e1⟩
      · rcases get_set h with ⟨_, _, e⟩ | ⟨hn, h⟩
        · cases e
        · exact f.new i es q h
    | un => exact ⟨G, ExG.refl G, f⟩
    | val _ => exact ⟨G, ExG.refl G, f⟩
    | exn _ _ => exact ⟨G, ExG.refl G, f⟩
/-- nothing is asked of the ground ahead -/
theorem Fit.zero (f : Fit C xo G H σ env) : Fit0 C xo ⟨fun _ => none, G.m, G.s⟩ (fun _ => none) G H σ env := ⟨f, ⟨⟨fun _ _ h => (by cases h), fun _ _ h => h, rfl⟩, f.ok, fun _ _ h => (by cases h), fun _ _ h => absurd rfl h, fun _ h _ => h⟩, fun _ _ _ _ _ => rfl⟩
/-! ### targets -/
def CG (C : Cc) (xo : Xo) (g : TG) (js : List Nat) (f : SG) : Prop := ∀ G0 H0 σ G H env, Fit0 C xo G0 H0 G H σ env → ∀ v d env2, Rep C.K C.w C.ad G v d → f d env = some env2 → ∀ Q : L2.St → Hp → Prop,
  (∀ σ', σ'.length = σ.length → (∀ i, i ∉ js → σ'[i]? = σ[i]?) → Fit0 C xo G0 H0 G H σ' env2 → Q σ' H) → g v σ H Q
def CGs (C : Cc) (xo : Xo) (g : TGs) (js : List Nat) (f : SGs) : Prop := ∀ G0 H0 σ G H env, Fit0 C xo G0 H0 G H σ env → ∀ vs ds env2, RepL C.K C.w C.ad G vs ds → f ds env = some env2 → ∀ Q : L2.St → Hp → Prop,
  (∀ σ', σ'.length = σ.length → (∀ i, i ∉ js → σ'[i]? = σ[i]?) → Fit0 C xo G0 H0 G H σ' env2 → Q σ' H) → g vs σ H Q
theorem cg_name {i : Nat} : CG C xo (gName i) [i] (gN i) := fun G0 H0 σ G H env f v d env2 r h Q q => by
  cases h
  exact q _ (List.length_set ..) (fun k hk => set_off fun z => hk (by rw [z]; exact List.mem_singleton.mpr rfl)) (f.setV r)
theorem cgs_nil : CGs C xo gNil [] gE := fun G0 H0 σ G H env f vs ds env2 r h Q q => by
  cases r with
  | nil => cases h; exact ⟨rfl, q σ rfl (fun _ _ => rfl) f⟩
  | cons _ _ => cases h
theorem cgs_cons {g : TG} {gs : TGs} {js ks : List Nat} {f : SG} {fs : SGs} (h1 : CG C xo g js f) (h2 : CGs C xo gs ks fs) : CGs C xo (gCons g gs) (js ++ ks) (gC f fs) := fun G0 H0 σ G H env ft vs ds env2 r h Q q => by
  cases r with
  | nil => cases h
  | @cons v d vs ds hv r =>
    unfold gC at h
    dsimp only at h
    cases c : f d env with
    | none => rw [c] at h; cases h
    | some env1 =>
      rw [c] at h
      refine ⟨v, vs, rfl, h1 G0 H0 σ G H env ft v d env1 hv c _ fun σ1 l1 k1 f1 => ?_⟩
      exact h2 G0 H0 σ1 G H env1 f1 vs ds env2 r h Q fun σ2 l2 k2 f2 => q σ2 (l2.trans l1) (fun i hi => (k2 i fun z => hi (List.mem_append_right _ z)).trans (k1 i fun z => hi (List.mem_append_left _ z))) f2
theorem cg_tup {gs : TGs} {js : List Nat} {fs : SGs} {n : Nat} (h : CGs C xo gs js fs) : CG C xo (gTup C.K n gs) js (gT n fs) := fun G0 H0 σ G H env ft v d env2 r q Q k => by
  have fin : ∀ {a : Addr} {vs : List V} {ds : List D}, SqT C.K G.g a vs → RepL C.K C.w C.ad G vs ds → (if ds.length = n then fs ds env else none) = some env2 → gTup C.K n gs (.ref a) σ H Q := fun {a vs ds} hs r q => by
    by_cases hn : ds.length = n
    · rw [if_pos hn] at q
      exact ⟨a, vs, rfl, ex_t ft.f.ok.e hs, r.length.trans hn, h G0 H0 σ G H env ft vs ds env2 r q Q k⟩
    · rw [if_neg hn] at q; cases q
  cases r with
  | tup hs r => exact fin hs r q
  | ktp hs _ r => exact fin hs r q
  | _ => cases q
/-! ### statements -/
def OutT (C : Cc) (xo : Xo) (W : WX) (G0 : Gd) (H0 : Hp) (G : Gd) (D : Ends) : RSr → Prop
  | .nx env t => ∀ σ G' H', ExG (G.put t) G' → Fit0 C xo G0 H0 G' H' σ env → D.nx σ H'
  | .rt (.val d) t => ∀ v G' H', Step C (G0.put t) H0 G' H' → Rep C.K C.w C.ad G' v d → D.rt v H'
  | .rt (.own ds) t => ∀ v G' H', Step C (G0.put t) H0 G' H' → rF C H0 G' H' v ds → D.rt v H'
  | .rt _ _ => False
  | .bk env t => ∀ σ G' H', ExG (G.put t) G' → Fit0 C xo G0 H0 G' H' σ env → D.bk σ H'
  | .ct env t => ∀ σ G' H', ExG (G.put t) G' → Fit0 C xo G0 H0 G' H' σ env → D.ct σ H'
  | .exc c fs env t => ∀ dd σ G' H', ExG (G.put t) G' → Fit0 C xo G0 H0 G' H' σ env → XRep C.K C.w C.ad G' fs dd → W (.ref (C.ad c)) dd σ H'
  | .bad => False
def OutS (C : Cc) (xo : Xo) (W : WX) (G0 : Gd) (H0 : Hp) (G : Gd) (D : Ends) (r : RS) : Prop := OutT C xo W G0 H0 G D (r G.s)
theorem OutS.elim {D : Ends} {p : Prop} (h : OutS C xo W G0 H0 G D RS.bad) : p := False.elim h
theorem OutT.mono {D : Ends} {r : RSr} {t : Sto} (e : ExG (G.put t) G') (h : OutT C xo W G0 H0 G D r) : OutT C xo W G0 H0 G' D r := by
  have up : ∀ {u : Sto} {G2 : Gd}, ExG (G'.put u) G2 → ExG (G.put u) G2 := fun e2 => ExG.trans (G := G.put t) e e2
  cases r with
  | nx env u => exact fun σ G2 H2 e2 => h σ G2 H2 (up e2)
  | rt s u => cases s <;> exact h
  | bk env u => exact fun σ G2 H2 e2 => h σ G2 H2 (up e2)
  | ct env u => exact fun σ G2 H2 e2 => h σ G2 H2 (up e2)
  | exc c fs env u => exact fun dd σ G2 H2 e2 => h dd σ G2 H2 (up e2)
  | bad => exact h
theorem OutS.mono {D : Ends} {r : RS} (e : ExG G G') (h : OutS C xo W G0 H0 G D r) : OutS C xo W G0 H0 G' D r := by
  unfold OutS at h ⊢
  rw [e.s]
  exact OutT.mono (t := G.s) e h
def CS (C : Cc) (xo : Xo) (W : WX) (t : TS) (s : SS) : Prop := ∀ G0 H0 σ G H env, Fit0 C xo G0 H0 G H σ env → ∀ D, OutS C xo W G0 H0 G D (s env) → t D σ H
theorem ofE_out {α β : Type} {rep : Gd → Hp → β → α → Prop} {r : R α} {k : α → RS} {D : Ends} {Q : β → Hp → Prop} (f : Fit0 C xo G0 H0 G H σ env) (o : OutS C xo W G0 H0 G D (ofE r env k))
    (q : ∀ d v G' H', Step C (G.put G'.s) H G' H' → rep G' H' v d → Fit0 C xo G0 H0 G' H' σ env → OutS C xo W G0 H0 G' D (k d) → Q v H') : Out C rep (WE W σ) G H Q r := by
  unfold OutS ofE at o
  unfold Out
  cases c : r G.s with
  | ok d t =>
    rw [c] at o
    intro v G' H' s r2
    have e : G'.s = t := s.g.s
    subst e
    exact q d v G' H' s r2 (f.step s) (OutT.mono s.g o)
  | exc c2 fs t => rw [c] at o; exact fun dd G' H' s x => o dd σ G' H' s.g (f.step s) x
  | bad => rw [c] at o; exact o
/-- a statement of which nothing is said: no run may come to it -/
def tBad : TS := fun _ _ _ => False
def sBad : SS := fun _ => RS.bad
theorem ps_bad {X : Cx} {st : Stmt} : PS X st tBad := ⟨fun _ _ _ _ _ _ h => h.elim⟩
theorem cs_bad : CS C xo W tBad sBad := fun _ _ _ _ _ _ _ _ o => o
theorem cs_nx : CS C xo W tNext sNx := fun G0 H0 σ G H env f D o => o σ G H (ExG.refl G) f
theorem cs_seq {t u : TS} {a b : SS} (h1 : CS C xo W t a) (h2 : CS C xo W u b) : CS C xo W (tSeq t u) (sSeq a b) := fun G0 H0 σ G H env f D o => by
  refine h1 G0 H0 σ G H env f _ ?_
  unfold OutS sSeq thenS thenR at o
  unfold OutS
  cases c : a env G.s with
  | nx env2 t =>
    rw [c] at o
    exact fun σ' G' H' e f' => h2 G0 H0 σ' G' H' env2 f' D (OutS.mono (G := G.put t) e o)
  | rt s t => rw [c] at o; cases s <;> exact o
  | bk env t => rw [c] at o; exact o
  | ct env t => rw [c] at o; exact o
  | exc k fs env t => rw [c] at o; exact o
  | bad => rw [c] at o; exact o
theorem cs_frz {t : TS} {s : SS} (i : Nat) (h : CS C xo W t s) : CS C xo W t (sFrz i s) := fun G0 H0 σ G H env f D o => by
  obtain ⟨G', e, f'⟩ := f.frz (j := i)
  exact h G0 H0 σ G' H _ f' D (OutS.mono e o)
theorem cs_g {te : TE} {g : TG} {js : List Nat} {a : SE} {gs : SG} (h : CE C xo W te a) (hg : CG C xo g js gs) : CS C xo W (tAsg te g) (sG a gs) := fun G0 H0 σ G H env f D o =>
  h σ G H env f.f _ (ofE_out f o fun d v G1 H1 s r f1 o1 => by
    unfold ofG at o1
    cases c : gs d env with
    | none => rw [c] at o1; exact o1.elim
    | some env2 =>
      rw [c] at o1
      exact hg G0 H0 σ G1 H1 env f1 v d env2 r c _ fun σ2 _ _ f2 => o1 σ2 G1 H1 (ExG.refl _) f2)
theorem cs_a {te : TE} {i : Nat} {a : SE} (h : CE C xo W te a) : CS C xo W (tAsg te (gName i)) (sA i a) := fun G0 H0 σ G H env f D o =>
  h σ G H env f.f _ (ofE_out f o fun d v G1 H1 s r f1 o1 => o1 _ G1 H1 (ExG.refl _) (f1.setV r))
theorem cs_o {te : TE} {i : Nat} {a : SA} (h : CN C xo W te a) : CS C xo W (tAsg te (gName i)) (sO i a) := fun G0 H0 σ G H env f D o =>
  h σ G H env f.f _ (ofE_out f o fun ds v G1 H1 s r f1 o1 => by
    obtain ⟨⟨p, vs, rfl, h1, hm, h2, h3⟩, h4⟩ := r
    refine o1 _ G1 H1 (ExG.refl _) (f1.setO h1 hm (f.s.fresh (h4 p rfl)) h2 h3 fun k es hk hke hs => ?_)
    obtain ⟨q, ws, k1, k2, k3, _⟩ := f.f.own k es hke
    rw [hs] at k1
    cases k1
    rw [h4 p rfl] at k3
    cases k3)
theorem cs_app {ta te : TE} {i : Nat} {a : SE} (hv : ta = tVar i) (h : CE C xo W te a) : CS C xo W (tDrop (tBM C.K "list" rAppend ta (tCons te tNil))) (sApp i a) := fun G0 H0 σ G H env f D o => by
  subst hv
  unfold sApp at o
  cases c : env[i]? with
  | none => rw [c] at o; exact o.elim
  | some s =>
    rw [c] at o
    cases s with
    | own xs =>
      obtain ⟨p, vs, h1, h2, h3, h4⟩ := f.f.own i xs c
      have hm := f.f.om i xs p c h1
      refine ⟨.ref p, h1, Or.inl ⟨rfl, vs, sq_of h3⟩, h σ G H env f.f _ (ofE_out f o fun d v G1 H1 s1 r f1 o1 => ?_)⟩
      by_cases hz : xs.length < Z
      · rw [if_pos hz] at o1
        exact ⟨p, vs, v, rfl, rfl, s1.h _ _ h3 hm, sz_lt (by rw [h4.length]; exact hz), o1 σ G1 _ (ExG.refl _) (f1.chg (vs := vs) c h1 (s1.out p h2 (by rw [h3]; exact nofun)) ((h4.mono s1.g).append (.cons r .nil)))⟩
      · rw [if_neg hz] at o1; exact o1.elim
    | un => exact o.elim
    | val _ => exact o.elim
    | exn _ _ => exact o.elim
theorem cs_ext {ta te : TE} {i : Nat} {a : SE} (hv : ta = tVar i) (h : CE C xo W te a) : CS C xo W (tDrop (tBM C.K "list" rExtend ta (tCons te tNil))) (sExt i a) := fun G0 H0 σ G H env f D o => by
  subst hv
  unfold sExt at o
  cases c : env[i]? with
  | none => rw [c] at o; exact o.elim
  | some s =>
    rw [c] at o
    cases s with
    | own xs =>
      obtain ⟨p, vs, h1, h2, h3, h4⟩ := f.f.own i xs c
      have hm := f.f.om i xs p c h1
      refine ⟨.ref p, h1, Or.inl ⟨rfl, vs, sq_of h3⟩, h σ G H env f.f _ (ofE_out f o fun d v G1 H1 s1 r f1 o1 => ?_)⟩
      cases r with
      | @lst b ws es hb r =>
        dsimp only at o1
        by_cases hz : xs.length + es.length ≤ Z
        · rw [if_pos hz] at o1
          exact ⟨p, b, vs, ws, rfl, rfl, s1.h _ _ h3 hm, s1.gh.e _ _ hb, sz_of (by rw [h4.length, r.length]; exact hz), o1 σ G1 _ (ExG.refl _) (f1.chg (vs := vs) c h1 (s1.out p h2 (by rw [h3]; exact nofun)) ((h4.mono s1.g).append r))⟩
        · rw [if_neg hz] at o1; exact o1.elim
      | _ => exact o1.elim
    | un => exact o.elim
    | val _ => exact o.elim
    | exn _ _ => exact o.elim
theorem cs_pop {ta : TE} {i : Nat} (hv : ta = tVar i) : CS C xo W (tDrop (tBM0 C.K "list" rPop ta)) (sPop i) := fun G0 H0 σ G H env f D o => by
  subst hv
  unfold sPop at o
  cases c : env[i]? with
  | none => rw [c] at o; exact o.elim
  | some s =>
    rw [c] at o
    cases s with
    | own xs =>
      obtain ⟨p, vs, h1, h2, h3, h4⟩ := f.f.own i xs c
      have hm := f.f.om i xs p c h1
      dsimp only at o
      by_cases hz : xs = []
      · rw [if_pos hz] at o; exact o.elim
      · rw [if_neg hz] at o
        have hl : 0 < xs.length := List.length_pos_iff.mpr hz
        obtain ⟨u, hu, _⟩ := h4.get (i := vs.length - 1) (List.getElem?_eq_getElem (by rw [h4.length]; omega))
        exact ⟨.ref p, h1, Or.inl ⟨rfl, vs, sq_of h3⟩, p, vs, u, rfl, rfl, h3, hu, o σ G _ (ExG.refl _) (f.chg (vs := vs) c h1 h2 h4.dropLast)⟩
    | un => exact o.elim
    | val _ => exact o.elim
    | exn _ _ => exact o.elim
theorem cs_set {to ti te : TE} {i : Nat} {k a : SE} (hv : to = tVar i) (hk : CE C xo W ti k) (h : CE C xo W te a) : CS C xo W (tAsg te (gSub to ti rSetL)) (sSet i k a) := fun G0 H0 σ G H env f D o => by
  subst hv
  unfold sSet at o
  cases c : env[i]? with
  | none => rw [c] at o; exact o.elim
  | some s =>
    rw [c] at o
    cases s with
    | own xs =>
      obtain ⟨p, vs, h1, h2, h3, h4⟩ := f.f.own i xs c
      have hm := f.f.om i xs p c h1
      refine h σ G H env f.f _ (ofE_out f o fun d v G1 H1 s1 r f1 o1 => ⟨.ref p, h1, hk σ G1 H1 env f1.f _ (ofE_out f1 o1 fun j u G2 H2 s2 r2 f2 o2 => ?_)⟩)
      cases r2 with
      | int j =>
        dsimp only at o2
        cases cn : ixN xs.length j with
        | none => rw [cn] at o2; exact o2.elim
        | some n =>
          rw [cn] at o2
          have hp1 := s1.out p h2 (by rw [h3]; exact nofun)
          have hp3 := s1.h _ _ h3 hm
          refine ⟨p, vs, j, n, rfl, rfl, s2.h _ _ hp3 (s1.om p hm (by rw [h3]; exact nofun)), by rw [h4.length]; exact cn, ?_⟩
          exact o2 σ G2 _ (ExG.refl _) (f2.chg (vs := vs) c h1 (s2.out p hp1 (by rw [hp3]; exact nofun)) ((h4.mono (s1.g.trans s2.g)).set (r.mono s2.g) n))
      | _ => exact o2.elim
    | un => exact o.elim
    | val _ => exact o.elim
    | exn _ _ => exact o.elim
theorem cs_aug {te : TE} {i : Nat} {r : R2} {op : D → D → R D} {a : SE} (ho : OpD C r op) (h : CE C xo W te a) : CS C xo W (tAug i te r) (sAug i op a) := fun G0 H0 σ G H env f D o => by
  unfold sAug at o
  cases c : env[i]? with
  | none => rw [c] at o; exact o.elim
  | some s =>
    rw [c] at o
    cases s with
    | val x =>
      obtain ⟨u, h1, h2⟩ := f.f.val i x c
      exact ⟨u, h1, h σ G H env f.f _ (ofE_out f o fun d v G1 H1 s1 r f1 o1 => ho G1 H1 u v x d s1.gh (h2.mono s1.g) r (WE W σ) _ (ofE_out f1 o1 fun z w G2 H2 s2 r2 f2 o2 => o2 _ G2 H2 (ExG.refl _) (f2.setV r2)))⟩
    | un => exact o.elim
    | own _ => exact o.elim
    | exn _ _ => exact o.elim
theorem cs_x {te : TE} {a : SE} (h : CE C xo W te a) : CS C xo W (tDrop te) (sX a) := fun G0 H0 σ G H env f D o =>
  h σ G H env f.f _ (ofE_out f o fun d v G1 H1 s r f1 o1 => o1 σ G1 H1 (ExG.refl _) f1)
theorem cs_if {c : TT} {t u : TS} {k : ST} {a b : SS} (h : CT C xo W c k) (h1 : CS C xo W t a) (h2 : CS C xo W u b) : CS C xo W (tIfS c t u) (sIf k a b) := fun G0 H0 σ G H env f D o =>
  h σ G H env f.f _ (ofE_out f o fun d v G1 H1 s r f1 o1 => by
    subst r
    cases v with
    | true => exact h1 G0 H0 σ G1 H1 env f1 D o1
    | false => exact h2 G0 H0 σ G1 H1 env f1 D o1)
theorem cs_ret {te : TE} {a : SE} (h : CE C xo W te a) : CS C xo W (tRet te) (sRet a) := fun G0 H0 σ G H env f D o =>
  h σ G H env f.f _ (ofE_out f o fun d v G1 H1 s r f1 o1 => o1 v G1 H1 f1.s r)
theorem cs_retL {te : TE} {a : SA} (h : CN C xo W te a) : CS C xo W (tRet te) (sRetL a) := fun G0 H0 σ G H env f D o =>
  h σ G H env f.f _ (ofE_out f o fun d v G1 H1 s r f1 o1 => o1 v G1 H1 f1.s ⟨r.1, fun p hp => f.s.fresh (r.2 p hp)⟩)
theorem cs_retO {te : TE} {i : Nat} (hv : te = tVar i) : CS C xo W (tRet te) (sRetO i) := fun G0 H0 σ G H env f D o => by
  subst hv
  unfold sRetO at o
  cases c : env[i]? with
  | none => rw [c] at o; exact o.elim
  | some s =>
    rw [c] at o
    cases s with
    | own xs =>
      obtain ⟨p, vs, h1, h2, h3, h4⟩ := f.f.own i xs c
      have hm := f.f.om i xs p c h1
      exact ⟨.ref p, h1, o (.ref p) G H f.s ⟨⟨p, vs, rfl, h2, f.f.om i xs p c h1, h3, h4⟩, fun q hq => by cases hq; exact f.new i xs p c h1⟩⟩
    | un => exact o.elim
    | val _ => exact o.elim
    | exn _ _ => exact o.elim
theorem cs_retN : CS C xo W tRetN sRetN := fun G0 H0 σ G H env f D o => o .non G H f.s .non
theorem cs_br : CS C xo W tBreak sBr := fun G0 H0 σ G H env f D o => o σ G H (ExG.refl G) f
theorem cs_ct : CS C xo W tCont sCt := fun G0 H0 σ G H env f D o => o σ G H (ExG.refl G) f
theorem cs_never : CS C xo W tNever sNever := fun G0 H0 σ G H env f D o => o
theorem thenW_out {b : RS} {k : Env → RS} {D : Ends} {N : L2.St → Hp → Prop} (o : OutS C xo W G0 H0 G D (thenW b k)) (q : ∀ e3 σ' G' H', ExG (G.put G'.s) G' → Fit0 C xo G0 H0 G' H' σ' e3 → OutS C xo W G0 H0 G' D (k e3) → N σ' H') :
    OutS C xo W G0 H0 G { D with nx := N, ct := N, bk := D.nx } b := by
  unfold OutS thenW turnS at o
  unfold OutS
  cases c2 : b G.s with
  | nx e3 t =>
    rw [c2] at o
    intro σ' G' H' e f'
    have z : G'.s = t := e.s
    subst z
    exact q e3 σ' G' H' e f' (OutT.mono e o)
  | ct e3 t =>
    rw [c2] at o
    intro σ' G' H' e f'
    have z : G'.s = t := e.s
    subst z
    exact q e3 σ' G' H' e f' (OutT.mono e o)
  | bk e3 t => rw [c2] at o; exact o
  | rt s t => rw [c2] at o; cases s <;> exact o
  | exc q fs e3 t => rw [c2] at o; exact o
  | bad => rw [c2] at o; exact o
theorem cs_wh {c : TT} {t : TS} {k : ST} {b : SS} (n : Nat) (h : CT C xo W c k) (h1 : CS C xo W t b) : CS C xo W (tWhile c t) (sWh n k b) := fun G0 H0 σ G H env f D o => by
  refine ⟨fun m σ H => ∃ env G, Fit0 C xo G0 H0 G H σ env ∧ OutS C xo W G0 H0 G D (whGo k b m env), ⟨n, env, G, f, o⟩, ?_⟩
  rintro m σ H ⟨env, G, f, o⟩
  cases m with
  | zero => exact o.elim
  | succ m =>
    refine h σ G H env f.f _ (ofE_out f o fun d v G1 H1 s r f1 o1 => ?_)
    subst r
    cases v with
    | false => exact o1 σ G1 H1 (ExG.refl _) f1
    | true =>
      rw [if_pos rfl] at o1 ⊢
      refine ⟨fun σ H => ∃ env G, Fit0 C xo G0 H0 G H σ env ∧ OutS C xo W G0 H0 G D (whGo k b m env), fun σ' H' q => ⟨m, Nat.lt_succ_self m, q⟩, ?_⟩
      exact h1 G0 H0 σ G1 H1 env f1 _ (thenW_out o1 fun e3 σ' G' H' e f' o2 => ⟨e3, G', f', o2⟩)
theorem cs_for {wi : TI} {g : TG} {js : List Nat} {t : TS} {it : SA} {gs : SG} {b : SS} (hi : CI C xo W wi it) (hg : CG C xo g js gs) (h1 : CS C xo W t b) : CS C xo W (tFor wi g t) (sFor it gs b) := fun G0 H0 σ G H env f D o =>
  hi σ G H env f.f _ (ofE_out f o fun ds J G1 H1 s r f1 o1 => by
    obtain ⟨GP, Y, w, hgp, hy⟩ := r
    refine for_it w (fun i σ H => ∃ env G, ExG (G1.put G.s) G ∧ Fit0 C xo G0 H0 G H σ env ∧ OutS C xo W G0 H0 G D (forGo gs b (ds.drop i) env)) ⟨env, G1, ExG.refl _, f1, o1⟩ ?_ ?_ ?_
    · rintro i σ H _ ⟨env, G, e, f, _⟩
      exact hgp H (e.g.trans f.ex)
    · rintro i x σ H H' hlt ⟨env, G, e, f, o⟩ y
      obtain ⟨G', d, hd, s2, rd⟩ := hy i H x H' G hlt e f.ok y
      have hdr : ds.drop i = d :: ds.drop (i + 1) := by
        rw [List.getElem?_eq_getElem hlt] at hd
        rw [List.drop_eq_getElem_cons hlt, Option.some.inj hd]
      rw [hdr] at o
      have o := OutS.mono s2.g o
      have f := f.step s2
      unfold forGo ofG at o
      cases c : gs d env with
      | none => rw [c] at o; exact o.elim
      | some env2 =>
        rw [c] at o
        refine hg G0 H0 σ G' H' env f x d env2 rd c _ fun σ2 _ _ f2 => h1 G0 H0 σ2 G' H' env2 f2 _ ?_
        exact thenW_out o fun e3 σ3 G3 H3 e3' f3 o3 => ⟨e3, G3, (e.trans s2.g).trans e3', f3, o3⟩
    · rintro σ H ⟨env, G, e, f, o⟩
      rw [List.drop_length] at o
      exact o σ G H (ExG.refl _) f)
end
end Dm
set_option Elab.async false
set_option linter.all false
set_option maxRecDepth 100000
set_option maxHeartbeats 4000000
namespace Dm
open PySem L2 Evl RZ Wm
abbrev W0 : WX := fun _ _ _ _ => False
section
variable {C : Cc} {xo : Xo} {W : WX} {G G' G0 : Gd} {H H' H0 : Hp} {σ : L2.St} {env : Env} {E : XK}
/-! comprehensions -/
theorem wipe_get (σ : L2.St) : ∀ (vs : List Nat) (i : Nat), (wipe σ vs)[i]? = if i ∈ vs ∧ i < σ.length then some none else σ[i]?
  | [], i => by
    unfold wipe
    rw [if_neg fun z => by cases z.1]
  | v :: vs, i => by
    unfold wipe
    have hl : (wipe σ vs).length = σ.length := wipe_length σ vs
    rw [List.getElem?_set, wipe_get σ vs i, hl]
    by_cases h : v = i
    · subst h
      rw [if_pos rfl]
      by_cases hi : v < σ.length
      · rw [if_pos hi, if_pos ⟨List.mem_cons_self, hi⟩]
      · rw [if_neg hi, if_neg fun z => hi z.2, List.getElem?_eq_none (Nat.le_of_not_lt hi)]
    · rw [if_neg h]
      by_cases hi : i ∈ vs ∧ i < σ.length
      · rw [if_pos hi, if_pos ⟨List.mem_cons_of_mem _ hi.1, hi.2⟩]
      · rw [if_neg hi, if_neg fun z => hi ⟨(List.mem_cons.mp z.1).resolve_left fun q => h q.symm, z.2⟩]
theorem Fit.wipe (f : Fit C xo G H σ env) : ∀ vs, Fit C xo G H (wipe σ vs) (wipeS env vs)
  | [] => f
  | v :: vs => ((Fit.wipe f vs).zero.setU (j := v) (o := none)).f
theorem wipe_same {σ2 : L2.St} {vs js : List Nat} (hl : σ2.length = (wipe σ vs).length) (hk : ∀ i, i ∉ js → σ2[i]? = (wipe σ vs)[i]?) (hj : ∀ i, i ∈ js → i ∈ vs) : wipe σ2 vs = wipe σ vs := by
  apply List.ext_getElem?
  intro i
  have hl2 : σ2.length = σ.length := hl.trans (wipe_length σ vs)
  rw [wipe_get, wipe_get, hl2]
  by_cases h : i ∈ vs ∧ i < σ.length
  · rw [if_pos h, if_pos h]
  · rw [if_neg h, if_neg h]
    by_cases hi : i ∈ js
    · have hge : σ.length ≤ i := Nat.le_of_not_lt fun z => h ⟨hj i hi, z⟩
      rw [List.getElem?_eq_none (by omega), List.getElem?_eq_none hge]
    · rw [hk i hi, wipe_get, if_neg h]
theorem noX_ok {α β γ δ : Type} {rep : Gd → Hp → β → α → Prop} {rep2 : Gd → Hp → δ → γ → Prop} {r : R α} {k : α → R γ} {Q : β → Hp → Prop} {Q2 : δ → Hp → Prop} {E2 : XK} {Gb : Gd} {Hb : Hp} (hs : Gb.s = G.s) (h : Out C rep2 E2 Gb Hb Q2 ((noX r).bind k))
    (q : ∀ d v G' H', Step C (G.put G'.s) H G' H' → rep G' H' v d → Out C rep2 E2 (Gb.put G'.s) Hb Q2 (k d) → Q v H') : Out C rep E G H Q r := by
  unfold Out R.bind noX at h
  unfold Out
  rw [hs] at h
  cases c : r G.s with
  | ok d t =>
    rw [c] at h
    intro v G' H' s r2
    have e : G'.s = t := s.g.s
    subst e
    exact q d v G' H' s r2 h
  | exc c2 fs t => rw [c] at h; exact False.elim h
  | bad => rw [c] at h; exact h
theorem Out.base {α β : Type} {rep : Gd → Hp → β → α → Prop} {r : R α} {Q : β → Hp → Prop} {t : Sto} (e : ExG (G.put t) G') (k : ∀ p, G.g p = none → H p ≠ none → G'.g p = none) (km : ∀ p, p ∉ G.m → H p ≠ none → p ∉ G'.m) (h : Out C rep E (G.put t) H Q r) : Out C rep E G' H Q r := by
  have z : ∀ {u : Sto} {G2 H2}, Step C (G'.put u) H G2 H2 → Step C (G.put u) H G2 H2 := fun {u G2 H2} s => ⟨ExG.trans (G := G.put t) e s.g, s.gh, fun p o h hm => s.h p o h (km p hm (by rw [h]; exact nofun)), fun p h1 h2 => s.out p (k p h1 h2) h2, fun p h1 h2 => s.om p (km p h1 h2) h2⟩
  unfold Out at h ⊢
  have h : OutR C rep E (G.put t) H Q (r t) := h
  rw [show G'.s = t from e.s]
  cases c : r t with
  | ok d t => rw [c] at h; exact fun v G2 H2 s r2 => h v G2 H2 (z s) r2
  | exc c2 fs t => rw [c] at h; exact fun dd G2 H2 s x => h dd G2 H2 (z s) x
  | bad => rw [c] at h; exact h
theorem Step.up {G1 Ga Gc : Gd} {H1 Ha Hc : Hp} {t u : Sto} (a : Step C (G1.put t) H1 Ga Ha) (b : Step C (Ga.put u) Ha Gc Hc) : (∀ p, Ga.g p = none → H1 p ≠ none → Gc.g p = none) ∧ ∀ p, p ∉ Ga.m → H1 p ≠ none → p ∉ Gc.m := by
  have nn : ∀ p, p ∉ G1.m → H1 p ≠ none → Ha p ≠ none := fun p hm h2 z => by
    cases q : H1 p with
    | none => exact h2 q
    | some o => rw [a.h p o q hm] at z; cases z
  have up : ∀ p, p ∈ G1.m → p ∈ Ga.m := fun p h => by
    obtain ⟨n, hn⟩ := List.getElem?_of_mem h
    exact List.mem_of_getElem? (a.g.m n p hn)
  refine ⟨fun p h1 h2 => ?_, fun p h1 h2 => b.om p h1 (nn p (fun z => h1 (up p z)) h2)⟩
  by_cases hm : p ∈ G1.m
  · obtain ⟨n, hn⟩ := List.getElem?_of_mem (up p hm)
    exact (b.gh.mem (List.mem_of_getElem? (b.g.m n p hn))).1
  · exact b.out p h1 (nn p hm h2)
theorem SOk.back {a : Addr} {o : HO} (k : SOk C G (L2.upd H a o)) (h : H a = none) (hm : a ∉ G.m) (hg : G.g a = none) : SOk C G H := ⟨fun b u z => by
    have q := k.e b u z
    by_cases e : b = a
    · rw [e, hg] at z; cases z
    · rw [L2.upd_ne e] at q; exact q, k.len, k.nd, fun n b c h1 h2 => by
    obtain ⟨q1, q2⟩ := k.cell n b c h1 h2
    have e : b ≠ a := fun e => hm (by rw [← e]; exact List.mem_of_getElem? h1)
    exact ⟨q1, CellAt.mono (ExG.refl G) (fun o z => by rw [L2.upd_ne e] at z; exact z) q2⟩⟩
theorem cn_lc {wi : TI} {g : TG} {js vs : List Nat} {tt : TT} {te : TE} {it : SA} {gs : SG} {t : ST} {e : SE} (hi : CI C xo W wi it) (hg : CG C xo g js gs) (hj : ∀ i, i ∈ js → i ∈ vs) (ht : CT C xo W0 tt t) (he : CE C xo W0 te e) :
    CN C xo W (tLc wi g tt te vs) (lLc it gs t e vs) := fun σ G H env f Q o =>
  hi σ G H env f _ (Out.bind o fun ds J G1 H1 _ s r o1 => by
    obtain ⟨hz, o1⟩ := out_if o1
    obtain ⟨GP, Y, w, hgp, hy⟩ := r
    intro Dl hDl
    have f1 := (f.step s).wipe vs
    have hDH := s.fresh hDl
    refine lc_it w (fun i H2 => ∃ G ws acc, ExG (G1.put G.s) G ∧ Step C (G1.put G.s) H1 G H2 ∧ G.g Dl = none ∧ Dl ∉ G.m ∧ H2 Dl = some (.lst ws) ∧ ws.length ≤ i ∧ RepL C.K C.w C.ad G ws acc ∧
      Out C (rF C H) (WE W σ) G H1 Q (lcGo gs t e (wipeS env vs) (ds.drop i) acc)) ?_ ?_ ?_ ?_
    · exact ⟨G1, [], [], ExG.refl _, Step.ofH s.gh (Ex.new hDl), fresh_back s.gh.e hDl, s.gh.fresh hDl, upd_same, Nat.le_refl _, .nil, o1⟩
    · rintro i H _ ⟨G, ws, acc, e1, s1, _⟩
      exact hgp H (e1.g.trans s1.gh.e)
    · rintro i x H2 H' hlt ⟨G, ws, acc, e1, s1, hG, hm, hH, hw, rl, o⟩ y
      obtain ⟨G', d, hd, s2, rd⟩ := hy i H2 x H' G hlt e1 s1.gh y
      have hdr : ds.drop i = d :: ds.drop (i + 1) := by
        rw [List.getElem?_eq_getElem hlt] at hd
        rw [List.drop_eq_getElem_cons hlt, Option.some.inj hd]
      rw [hdr] at o
      have u2 := s1.up s2
      have o := Out.base s2.g u2.1 u2.2 o
      have es : G'.s = G.s := s2.g.s
      have s12 : Step C (G1.put G'.s) H1 G' H' := by rw [es]; exact s1.trans s2
      have f2 := f1.step s12
      unfold lcGo at o
      cases c : gs d (wipeS env vs) with
      | none => rw [c] at o; exact o.elim
      | some env2 =>
        rw [c] at o
        dsimp only at o
        refine hg _ _ _ G' H' _ f2.zero x d env2 rd c _ fun σ2 l2 k2 f3 => ⟨wipe_same l2 k2 hj, ?_⟩
        have hG2 := s2.out Dl hG (by rw [hH]; exact nofun)
        have hm2 := s2.om Dl hm (by rw [hH]; exact nofun)
        have hH2 := s2.h _ _ hH hm
        refine ht σ2 G' H' env2 f3.f _ (noX_ok rfl o fun k v G3 H3 s3 r3 o3 => ?_)
        subst r3
        have u3 := s12.up s3
        have o3 := Out.base s3.g u3.1 u3.2 o3
        have s13 := s12.trans s3
        have hG3 := s3.out Dl hG2 (by rw [hH2]; exact nofun)
        have hm3 := s3.om Dl hm2 (by rw [hH2]; exact nofun)
        have hH3 := s3.h _ _ hH2 hm2
        have e3 : ExG (G1.put G3.s) G3 := (ExG.trans (G := G1.put G'.s) s12.g s3.g)
        cases v with
        | false => exact ⟨G3, ws, acc, e3, s13, hG3, hm3, hH3, Nat.le_succ_of_le hw, (rl.mono s2.g).mono s3.g, o3⟩
        | true =>
          rw [if_pos rfl]
          refine he σ2 G3 H3 env2 (f3.f.step s3) _ (noX_ok rfl o3 fun z u G4 H4 s4 r4 o4 => ?_)
          have u4 := s13.up s4
          have o4 := Out.base s4.g u4.1 u4.2 o4
          have hG4 := s4.out Dl hG3 (by rw [hH3]; exact nofun)
          have hm4 := s4.om Dl hm3 (by rw [hH3]; exact nofun)
          have hH4 := s4.h _ _ hH3 hm3
          have s5 := s13.trans s4
          exact ⟨ws, hH4, sz_lt (by omega), G4, ws ++ [u], acc ++ [z], ExG.trans (G := G1.put G3.s) e3 s4.g, ⟨s5.g, s5.gh.mut hG4 hm4, fun p o h hp => by
            have z : p ≠ Dl := fun z => by rw [z, hDl] at h; cases h
            rw [upd_ne z]
            exact s5.h p o h hp, s5.out, s5.om⟩, hG4, hm4, upd_same, by rw [List.length_append]; exact Nat.succ_le_succ hw, (((rl.mono s2.g).mono s3.g).mono s4.g).append (.cons r4 .nil), o4⟩
    · rintro H2 ⟨G, ws, acc, e1, s1, hG, hm, hH, hw, rl, o⟩
      rw [List.drop_length] at o
      have up : ∀ p, p ∈ G1.m → p ∈ G.m := fun p h => by
        obtain ⟨n, hn⟩ := List.getElem?_of_mem h
        exact List.mem_of_getElem? (e1.m n p hn)
      exact o (.ref Dl) G H2 ⟨ExG.refl _, s1.gh, fun p o h hp => s1.h p o h fun z => hp (up p z), fun p h1 _ => h1, fun p h1 _ => h1⟩ ⟨⟨Dl, ws, rfl, hG, hm, hH, rl⟩, fun p hp => by cases hp; exact hDH⟩)
end
end Dm
set_option Elab.async false
set_option linter.all false
set_option maxRecDepth 100000
set_option maxHeartbeats 4000000
namespace Dm
open PySem L2 Evl RZ Wm
section
variable {C : Cc} {xo : Xo} {W : WX} {G G' G0 : Gd} {H H' H0 : Hp} {σ : L2.St} {env : Env} {E : XK}
/-! ### try .. except X as n -/
theorem noExn_at {env : Env} (h : noExn env = true) (i : Nat) (c : Nat) (fs : List (Str × D)) : env[i]? ≠ some (.exn c fs) := fun q => by
  have m := List.mem_of_getElem? q
  have := List.all_eq_true.mp h _ m
  cases this
theorem Fit0.oth {xo2 : Xo} (f : Fit0 C xo G0 H0 G H σ env) (h : noExn env = true) : Fit0 C xo2 G0 H0 G H σ env :=
  ⟨⟨f.f.ok, f.f.len, f.f.val, f.f.own, f.f.om, f.f.sep, fun i c fs q => absurd q (noExn_at h i c fs)⟩, f.s, f.new⟩
theorem ifB_out {b : Bool} {r : RSr} {D : Ends} (o : OutT C xo W G0 H0 G D (ifB b r)) : b = true ∧ OutT C xo W G0 H0 G D r := by
  unfold ifB at o
  by_cases h : b = true
  · rw [if_pos h] at o; exact ⟨h, o⟩
  · rw [if_neg h] at o; exact False.elim o
theorem cs_try {tb : WX → TS} {ts : Addr → Value → Option Addr → TS} {hc : Value} {i : Nat} {cs : Nat → Option Bool} {b h : SS} (hx : ∀ c k, cs c = some k → PySem.W.exmOne C.K (.ref (C.ad c)) hc = some k) (hb : ∀ W2, CS C xo W2 (tb W2) b)
    (hs : ∀ a cls d, CS C ⟨a, cls, d⟩ W0 (ts a cls d) h) : CS C xo W (fun D σ H => tb (wAs C.K hc i ts W D) D σ H) (sTry b i cs h) := fun G0 H0 σ G H env f D o => by
  refine hb (wAs C.K hc i ts W D) G0 H0 σ G H env f D ?_
  unfold OutS sTry tryR at o
  unfold OutS
  cases c : b env G.s with
  | nx e2 t => rw [c] at o; exact o
  | rt s t => rw [c] at o; cases s <;> exact o
  | bk e2 t => rw [c] at o; exact o
  | ct e2 t => rw [c] at o; exact o
  | bad => rw [c] at o; exact o
  | exc k fs e2 t =>
    rw [c] at o
    dsimp only at o
    intro dd σ' G' H' e f' x
    cases ck : cs k with
    | none => rw [ck] at o; exact False.elim o
    | some kk =>
      rw [ck] at o
      refine ⟨kk, hx k kk ck, fun hk a ha => ?_, fun hk => ?_⟩
      · subst hk
        dsimp only at o
        obtain ⟨hn, o⟩ := ifB_out o
        have f2 := (f'.oth (xo2 := ⟨a, .ref (C.ad k), dd⟩) hn).put (j := i) (s := .exn k fs) (o := some (.ref a)) (fun _ => nofun) (fun _ => nofun) (fun c2 fs2 q => by cases q; exact ⟨rfl, rfl, x⟩)
        refine hs a _ dd G0 H0 _ G' H' _ f2 _ ?_
        unfold OutS
        have et : G'.s = t := e.s
        rw [et]
        cases c2 : h (e2.set i (.exn k fs)) t with
        | nx e3 u =>
          rw [c2] at o
          obtain ⟨hn3, o⟩ := ifB_out o
          exact fun σ3 G3 H3 ee f3 => o _ G3 H3 (ExG.trans (G := G.put t) e ee) ((f3.setU (j := i) (o := none)).oth hn3)
        | bk e3 u =>
          rw [c2] at o
          obtain ⟨hn3, o⟩ := ifB_out o
          exact fun σ3 G3 H3 ee f3 => o _ G3 H3 (ExG.trans (G := G.put t) e ee) ((f3.setU (j := i) (o := none)).oth hn3)
        | ct e3 u =>
          rw [c2] at o
          obtain ⟨hn3, o⟩ := ifB_out o
          exact fun σ3 G3 H3 ee f3 => o _ G3 H3 (ExG.trans (G := G.put t) e ee) ((f3.setU (j := i) (o := none)).oth hn3)
        | rt s u => rw [c2] at o; cases s <;> exact o
        | exc _ _ _ _ => rw [c2] at o; exact False.elim o
        | bad => rw [c2] at o; exact False.elim o
      · subst hk
        exact o dd σ' G' H' e f' x
/-- e.f in the suite -/
theorem ce_xf {i c : Nat} {f : Str} : CE C xo W (tXf xo.a xo.cls xo.d (C.ad c) f (tVar i)) (eXf i c f) := fun σ G H env ft Q o => by
  unfold eXf at o
  cases c1 : env[i]? with
  | none => rw [c1] at o; exact o.elim
  | some s =>
    rw [c1] at o
    cases s with
    | exn c2 fs =>
      obtain ⟨h1, h2, h3⟩ := ft.exn i c2 fs c1
      dsimp only at o
      by_cases hc : c2 = c
      · rw [if_pos hc] at o
        subst hc
        cases hl : fs.lookup f with
        | none => rw [hl] at o; exact o.elim
        | some d =>
          rw [hl] at o
          cases fs with
          | nil => cases hl
          | cons p fs =>
            obtain ⟨q, vfs, k1, k2, k3⟩ := h3
            obtain ⟨v, l, r⟩ := k3 f d hl
            exact ⟨_, h1, rfl, h2, q, vfs, v, k1, ft.ok.e _ _ k2, l, o v G H (Step.refl ft.ok) r⟩
      · rw [if_neg hc] at o; exact o.elim
    | un => exact o.elim
    | val _ => exact o.elim
    | own _ => exact o.elim
/-! ### raise C(e, ..), C's __init__ keeping its arguments as fields -/
def sp_initN (K : PySem.W.Frag) (nm : List Str) : Sp := fun vs H Q _ => ∃ (a C : Addr) (ys : List V), vs = .ref a :: ys ∧ ys.length = nm.length ∧ (OexC K C ∧ (∀ f, f ∈ nm → PySem.W.findIn K (.ref C) f = some none) ∧ H a = some (exo a C none)) ∧
  ∀ dx, H dx = none → dx ≠ a → Q .non (upd (upd H dx (exd dx (nm.zip ys).reverse)) a (exo a C (some dx)))
theorem lk_rev {ys : List V} : ∀ {nm : List Str} {ds : List D}, nm.length ≤ 3 → nm.Nodup → ys.length = nm.length → RepL C.K C.w C.ad G ys ds → ∀ f d, (nm.zip ds).lookup f = some d → ∃ v, (nm.zip ys).reverse.lookup f = some v ∧ Rep C.K C.w C.ad G v d := by
  intro nm ds h3 hn hl r f d h
  match nm, ys, ds, hl, r, h with
  | [], [], [], _, .nil, h => cases h
  | [a], [x], [u], _, .cons r1 .nil, h =>
    simp only [List.zip_cons_cons, List.zip_nil_left, List.reverse_cons, List.reverse_nil, List.nil_append, List.lookup_cons] at h ⊢
    split at h
    · cases h; exact ⟨x, rfl, r1⟩
    · cases h
  | [a, b], [x, y], [u, w], _, .cons r1 (.cons r2 .nil), h =>
    have hab : a ≠ b := fun z => by simp [z] at hn
    simp only [List.zip_cons_cons, List.zip_nil_left, List.reverse_cons, List.reverse_nil, List.nil_append, List.cons_append, List.lookup_cons] at h ⊢
    by_cases q1 : f = a
    · subst q1
      rw [beq_self_eq_true] at h ⊢
      cases h
      rw [beq_eq_false_iff_ne.mpr hab]
      exact ⟨x, rfl, r1⟩
    · rw [beq_eq_false_iff_ne.mpr q1] at h ⊢
      dsimp only at h ⊢
      by_cases q2 : f = b
      · subst q2
        rw [beq_self_eq_true] at h ⊢
        cases h
        exact ⟨y, rfl, r2⟩
      · rw [beq_eq_false_iff_ne.mpr q2] at h
        cases h
  | [a, b, c], [x, y, z], [u, w, t], _, .cons r1 (.cons r2 (.cons r3 .nil)), h =>
    have hab : a ≠ b := fun z => by simp [z] at hn
    have hac : a ≠ c := fun z => by simp [z] at hn
    have hbc : b ≠ c := fun z => by simp [z] at hn
    simp only [List.zip_cons_cons, List.zip_nil_left, List.reverse_cons, List.reverse_nil, List.nil_append, List.cons_append, List.lookup_cons] at h ⊢
    by_cases q1 : f = a
    · subst q1
      rw [beq_self_eq_true] at h ⊢
      cases h
      rw [beq_eq_false_iff_ne.mpr hab, beq_eq_false_iff_ne.mpr hac]
      exact ⟨x, rfl, r1⟩
    · rw [beq_eq_false_iff_ne.mpr q1] at h ⊢
      dsimp only at h ⊢
      by_cases q2 : f = b
      · subst q2
        rw [beq_self_eq_true] at h ⊢
        cases h
        rw [beq_eq_false_iff_ne.mpr hbc]
        exact ⟨y, rfl, r2⟩
      · rw [beq_eq_false_iff_ne.mpr q2] at h ⊢
        dsimp only at h ⊢
        by_cases q3 : f = c
        · subst q3
          rw [beq_self_eq_true] at h ⊢
          cases h
          exact ⟨z, rfl, r3⟩
        · rw [beq_eq_false_iff_ne.mpr q3] at h
          cases h
  | _ :: _ :: _ :: _ :: _, _, _, _, _, _ => exact absurd h3 (by simp)
theorem cs_raise {ta : TA} {a : SA} {c : Nat} {nm : List Str} (T : OexC C.K (C.ad c)) (hf : ∀ f, f ∈ nm → PySem.W.findIn C.K (.ref (C.ad c)) f = some none) (h3 : nm.length ≤ 3) (h1 : nm ≠ []) (hn : nm.Nodup) (h : CA C xo W ta a) :
    CS C xo W (fun _ σ H => tMkO (C.ad c) (sp_initN C.K nm) [] ta σ H fun cls d H' => W cls d σ H') (sRaise c nm a) := fun G0 H0 σ G H env f D o =>
  h σ G H env f.f _ (ofE_out f o fun ds vs G1 H1 s r f1 o1 => by
    by_cases hl : ds.length = nm.length
    · rw [if_pos hl] at o1
      have hlv : vs.length = nm.length := r.length.trans hl
      refine ⟨by omega, fun e he => ?_⟩
      rw [List.append_nil]
      refine ⟨e, C.ad c, vs, rfl, hlv, ⟨T, hf, upd_same⟩, fun dx k1 k2 => ?_⟩
      have hd : H1 dx = none := by
        rw [upd_ne k2] at k1
        exact k1
      refine ⟨rfl, dx, _, upd_same, by rw [upd_ne k2]; exact upd_same, hd, ?_⟩
      have eh : Ex H1 (upd (del (upd (upd (upd H1 e (exo e (C.ad c) none)) dx (exd dx (nm.zip vs).reverse)) e (exo e (C.ad c) (some dx))) e) dx (.xd (nm.zip vs).reverse)) := fun b o hb => by
        have nb1 : b ≠ dx := fun z => by rw [z, hd] at hb; cases hb
        have nb2 : b ≠ e := fun z => by rw [z, he] at hb; cases hb
        rw [upd_ne nb1, del_ne nb2, upd_ne nb2, upd_ne nb1, upd_ne nb2]
        exact hb
      have hg : G1.g dx = none := fresh_back s.gh.e hd
      have hm : dx ∉ G1.m := s.gh.fresh hd
      have st : Step C G1 H1 (G1.upd dx (.xd (nm.zip vs).reverse)) (upd (del (upd (upd (upd H1 e (exo e (C.ad c) none)) dx (exd dx (nm.zip vs).reverse)) e (exo e (C.ad c) (some dx))) e) dx (.xd (nm.zip vs).reverse)) :=
        (Step.ofH s.gh eh).take hg hm upd_same hd
      refine o1 (some dx) σ _ _ st.g (f1.step st) ?_
      unfold XRep
      have r2 := r.mono (ExG.new (o := .xd (nm.zip vs).reverse) hg)
      cases hz : nm.zip ds with
      | nil =>
        cases nm with
        | nil => exact absurd rfl h1
        | cons _ _ =>
          cases ds with
          | nil => cases hl
          | cons _ _ => cases hz
      | cons p ps =>
        dsimp only
        rw [← hz]
        exact ⟨dx, _, rfl, upd_same, lk_rev h3 hn hlv r2⟩
    · rw [if_neg hl] at o1; exact o1.elim)
end
/-! ### a def -/
section
variable {P : Program} {w : World} {K : PySem.W.Frag} {mg : Str → Option Value} {base : Heap} {ad : Nat → Addr}
theorem start_fit {C : Cc} {xo : Xo} {G : Gd} {H : Hp} {N : List Str} {vs : List V} {ds : List D} {n k : Nat} (e : SOk C G H) (r : RepL C.K C.w C.ad G vs ds) (hd : ds.length = n) (hN : N.length = n + k) :
    Fit0 C xo G H G H (L2.start N vs) (ds.map .val ++ List.replicate k .un) := by
  have hl : vs.length = n := r.length.trans hd
  have er : List.replicate (N.length - vs.length) (none : Option V) = List.replicate k none := by rw [show N.length - vs.length = k by omega]
  have low : ∀ (i : Nat) s, (ds.map Sl.val ++ List.replicate k Sl.un)[i]? = some s → (∃ d, s = .val d ∧ ds[i]? = some d) ∨ s = .un := fun i s h => by
    rcases Nat.lt_or_ge i (ds.map Sl.val).length with hi | hi
    · rw [List.getElem?_append_left hi, List.getElem?_map] at h
      cases q : ds[i]? with
      | none => rw [q] at h; cases h
      | some d => rw [q] at h; cases h; exact Or.inl ⟨d, rfl, rfl⟩
    · rw [List.getElem?_append_right hi] at h
      exact Or.inr (List.eq_of_mem_replicate (List.mem_of_getElem? h))
  refine ⟨⟨e, ?_, fun i d h => ?_, fun i ds h => ?_, fun i ds p h => ?_, fun i j p es us h1 h2 => ?_, fun i c fs h => ?_⟩, Step.refl e, fun i es p h => ?_⟩
  · unfold L2.start
    rw [er]
    simp [hl, hd]
  · rcases low i _ h with ⟨d', q, hd'⟩ | q
    · cases q
      obtain ⟨u, hu, ru⟩ := r.get hd'
      refine ⟨u, ?_, ru⟩
      unfold L2.start
      have hi := (List.getElem?_eq_some_iff.mp hu).1
      rw [List.getElem?_append_left (by rw [List.length_map]; exact hi), List.getElem?_map, hu]
      rfl
    · cases q
  · rcases low i _ h with ⟨_, q, _⟩ | q <;> cases q
  · rcases low i _ h with ⟨_, q, _⟩ | q <;> cases q
  · rcases low i _ h1 with ⟨_, q, _⟩ | q <;> cases q
  · rcases low i _ h with ⟨_, q, _⟩ | q <;> cases q
  · rcases low i _ h with ⟨_, q, _⟩ | q <;> cases q
abbrev WF (E : XK) : WX := fun cls d _ H => E cls d H
theorem okN {x qual : Str} {st : Stmt} {f : Addr} {fd : FuncData} {N ps : List Str} {k : Nat} {sp : Sp} (F : Fun K x qual st f fd) (S : FnScope N ps (defScope st)) (ln : ∀ vs H Q E, sp vs H Q E → vs.length = ps.length)
    (hb : ∀ (cdv : Value) (A : Around) (outer : List PySem.Env) (s : Shared) (H : Hp) (vs : List V) (Q : VK) (E : XK), Room k (A.deeper (PyProof.Rows.envOfC qual (defScope st) s.heap.objs.size f cdv)) → sp vs H Q E →
      ∃ t, PSs (cxOf (L2N.CX P w) P w K mg base N qual (defScope st) f cdv A outer s H E) (defBody st) t ∧ t { nx := fun _ H' => Q .non H', rt := Q } (L2.start N vs) H) : FnOk P w K mg base (L2N.CX P w) (k + 1) f fd ps sp := by
  obtain ⟨_, _, _, _, _, _, cdv, _, _, rfl, lk, hcd⟩ := F.ex
  exact fn_of lk hcd S ln fun A outer s H vs Q E => hb cdv A outer s H vs Q E
theorem ok_defV {x qual : Str} {st : Stmt} {f : Addr} {fd : FuncData} {N ps : List Str} {l n k : Nat} {b : SS} (F : Fun K x qual st f fd) (S : FnScope N ps (defScope st)) (hn : ps.length = n) (hN : N.length = n + k)
    (h : ∀ (cdv : Value) (A : Around) (outer : List PySem.Env) (s : Shared) (H : Hp) (E : XK), Room l (A.deeper (PyProof.Rows.envOfC qual (defScope st) s.heap.objs.size f cdv)) →
      ∃ t, PSs (cxOf (L2N.CX P w) P w K mg base N qual (defScope st) f cdv A outer s H E) (defBody st) t ∧ ∀ xo, CS ⟨K, w, ad⟩ xo (WF E) t b) : FnOk P w K mg base (L2N.CX P w) (l + 1) f fd ps (SpD ⟨K, w, ad⟩ (defV n k b)) := by
  refine okN F S (fun vs H Q E h => ?_) (fun cdv A outer s H vs Q E hr hs => ?_)
  · obtain ⟨G, ds, e, r, o⟩ := h
    rw [hn, r.length]
    exact (out_if o).1
  · obtain ⟨t, ht, hc⟩ := h cdv A outer s H E hr
    obtain ⟨G, ds, e, r, o⟩ := hs
    obtain ⟨hd, o⟩ := out_if o
    have f0 := start_fit (xo := ⟨0, .none, none⟩) (C := ⟨K, w, ad⟩) e r hd hN
    refine ⟨t, ht, hc ⟨0, .none, none⟩ G H _ G H _ f0 _ ?_⟩
    unfold OutS
    have o : OutR ⟨K, w, ad⟩ (rV ⟨K, w, ad⟩) E G H Q (endD (b (ds.map .val ++ List.replicate k .un) G.s)) := o
    unfold endD at o
    cases c : b (ds.map .val ++ List.replicate k .un) G.s with
    | rt s t =>
      rw [c] at o
      cases s with
      | val d => exact o
      | own xs =>
        intro v G' H' st q
        obtain ⟨⟨p, vs, rfl, h1, hm, h2, h3⟩, h4⟩ := q
        exact o (.ref p) _ H' (st.take h1 hm h2 (h4 p rfl)) (.lst upd_same (h3.mono (ExG.new h1)))
      | un => exact False.elim o
      | exn _ _ => exact False.elim o
    | nx e2 t =>
      rw [c] at o
      intro σ G' H' e f'
      have z : G'.s = t := e.s
      subst z
      exact o .non G' H' f'.s .non
    | exc q fs e2 t =>
      rw [c] at o
      intro dd σ G' H' e f' x
      have z : G'.s = t := e.s
      subst z
      exact o dd G' H' f'.s x
    | bk e2 t => rw [c] at o; exact False.elim o
    | ct e2 t => rw [c] at o; exact False.elim o
    | bad => rw [c] at o; exact False.elim o
theorem ok_defL {x qual : Str} {st : Stmt} {f : Addr} {fd : FuncData} {N ps : List Str} {l n k : Nat} {b : SS} (F : Fun K x qual st f fd) (S : FnScope N ps (defScope st)) (hn : ps.length = n) (hN : N.length = n + k)
    (h : ∀ (cdv : Value) (A : Around) (outer : List PySem.Env) (s : Shared) (H : Hp) (E : XK), Room l (A.deeper (PyProof.Rows.envOfC qual (defScope st) s.heap.objs.size f cdv)) →
      ∃ t, PSs (cxOf (L2N.CX P w) P w K mg base N qual (defScope st) f cdv A outer s H E) (defBody st) t ∧ ∀ xo, CS ⟨K, w, ad⟩ xo (WF E) t b) : FnOk P w K mg base (L2N.CX P w) (l + 1) f fd ps (SpL ⟨K, w, ad⟩ (defL n k b)) := by
  refine okN F S (fun vs H Q E h => ?_) (fun cdv A outer s H vs Q E hr hs => ?_)
  · obtain ⟨G, ds, e, r, o⟩ := h
    rw [hn, r.length]
    exact (out_if o).1
  · obtain ⟨t, ht, hc⟩ := h cdv A outer s H E hr
    obtain ⟨G, ds, e, r, o⟩ := hs
    obtain ⟨hd, o⟩ := out_if o
    have f0 := start_fit (xo := ⟨0, .none, none⟩) (C := ⟨K, w, ad⟩) e r hd hN
    refine ⟨t, ht, hc ⟨0, .none, none⟩ G H _ G H _ f0 _ ?_⟩
    unfold OutS
    have o : OutR ⟨K, w, ad⟩ (rF ⟨K, w, ad⟩ H) E G H Q (endDL (b (ds.map .val ++ List.replicate k .un) G.s)) := o
    unfold endDL at o
    cases c : b (ds.map .val ++ List.replicate k .un) G.s with
    | rt s t =>
      rw [c] at o
      cases s with
      | own xs => exact o
      | val d => exact False.elim o
      | un => exact False.elim o
      | exn _ _ => exact False.elim o
    | exc q fs e2 t =>
      rw [c] at o
      intro dd σ G' H' e f' x
      have z : G'.s = t := e.s
      subst z
      exact o dd G' H' f'.s x
    | nx e2 t => rw [c] at o; exact False.elim o
    | bk e2 t => rw [c] at o; exact False.elim o
    | ct e2 t => rw [c] at o; exact False.elim o
    | bad => rw [c] at o; exact False.elim o
/-! ### the law -/
def sp_law (K : PySem.W.Frag) : Sp := fun vs H Q _ => ∃ (a : Addr) (ns : List Int), vs = [.ref a] ∧ (SqL K H a (ns.map V.int) ∧ ns.length ≤ 63) ∧ ∀ H1, Q (.bl true) H1
theorem law_in {K : PySem.W.Frag} {H : Hp} {a : Addr} {ns : List Int} (hl : ns.length ≤ 63) (hS : SqL K H a (ns.map V.int)) : sp_law K [.ref a] H (fun v _ => v = .bl true) (fun _ _ _ => False) := ⟨a, ns, rfl, ⟨hS, hl⟩, fun _ => rfl⟩
theorem rep_ints {C : Cc} {G : Gd} : ∀ ns : List Int, RepL C.K C.w C.ad G (ns.map V.int) (ns.map D.int)
  | [] => .nil
  | n :: ns => .cons (.int n) (rep_ints ns)
/-- the ground at the law's start: nothing known beyond the heap, no cells -/
abbrev G00 (H : Hp) : Gd := ⟨H, [], []⟩
theorem ok00 {C : Cc} (H : Hp) : SOk C (G00 H) H := ⟨Ex.refl H, rfl, List.nodup_nil, fun n a c h => by cases h⟩
/-- what a law comes to: True, whatever the store is in the end -/
def TrueAt (r : Rs D) : Prop := ∃ s, r = .ok (.bl true) s
theorem ok_law {x qual : Str} {st : Stmt} {f : Addr} {fd : FuncData} {N ps : List Str} {l k : Nat} {b : SS} (F : Fun K x qual st f fd) (S : FnScope N ps (defScope st)) (hn : ps.length = 1) (hN : N.length = 1 + k)
    (hm : ∀ ns : List Int, ns.length ≤ 63 → TrueAt (defV 1 k b [.scr (ns.map .int)] []))
    (h : ∀ (cdv : Value) (A : Around) (outer : List PySem.Env) (s : Shared) (H : Hp) (E : XK), Room l (A.deeper (PyProof.Rows.envOfC qual (defScope st) s.heap.objs.size f cdv)) →
      ∃ t, PSs (cxOf CX0 P w K mg base N qual (defScope st) f cdv A outer s H E).nox (defBody st) t ∧ ∀ xo, CS ⟨K, w, ad⟩ xo W0 t b) : FnOk P w K mg base CX0 (l + 1) f fd ps (sp_law K) := by
  refine F.ok S (fun vs H Q E h => ?_) (fun cdv A outer s H vs Q E hr hs => ?_)
  · obtain ⟨a, ns, rfl, _⟩ := h
    exact hn.symm
  · obtain ⟨t, ht, hc⟩ := h cdv A outer s H E hr
    obtain ⟨a, ns, rfl, ⟨hS, hl⟩, q⟩ := hs
    have e : SOk ⟨K, w, ad⟩ (G00 H) H := ok00 H
    obtain ⟨u, m⟩ := hm ns hl
    have r : RepL K w ad (G00 H) [.ref a] [.scr (ns.map D.int)] := .cons (.scr hS (rep_ints (C := ⟨K, w, ad⟩) ns)) .nil
    have f0 := start_fit (xo := ⟨0, .none, none⟩) (C := ⟨K, w, ad⟩) (n := 1) e r rfl hN
    refine ⟨t, ht, hc ⟨0, .none, none⟩ (G00 H) H _ (G00 H) H _ f0 _ ?_⟩
    have m : endD (b ([D.scr (ns.map .int)].map .val ++ List.replicate k .un) []) = .ok (.bl true) u := m
    unfold endD at m
    unfold OutS
    show OutT _ _ _ _ _ _ _ (b ([D.scr (ns.map .int)].map .val ++ List.replicate k .un) [])
    cases c : b ([D.scr (ns.map .int)].map .val ++ List.replicate k .un) [] with
    | rt s u =>
      rw [c] at m
      cases s with
      | val d =>
        cases m
        intro v G' H' st r
        cases r
        exact q H'
      | own xs => cases m
      | un => cases m
      | exn _ _ => cases m
    | nx e2 u => rw [c] at m; cases m
    | exc _ _ _ _ => rw [c] at m; cases m
    | bk _ _ => rw [c] at m; cases m
    | ct _ _ => rw [c] at m; cases m
    | bad => rw [c] at m; cases m
end
end Dm
set_option Elab.async false
set_option linter.all false
set_option maxRecDepth 100000
set_option maxHeartbeats 4000000
namespace Dm
open PySem L2 Evl RZ Wm
section
variable {C : Cc} {xo : Xo} {W : WX} {G G' G0 : Gd} {H H' H0 : Hp} {σ : L2.St} {env : Env} {E : XK}
/-! a list of one's own, looked at while it grows -/
theorem ce_lenO {i : Nat} : CE C xo W (tCB (rLenX C.K) (tCons (tVar i) tNil)) (eLenO i) := fun σ G H env ft Q o => by
  unfold eLenO at o
  cases c : env[i]? with
  | none => rw [c] at o; exact o.elim
  | some s =>
    rw [c] at o
    cases s with
    | own xs =>
      obtain ⟨p, vs, h1, h2, h3, h4⟩ := ft.own i xs c
      refine ⟨.ref p, h1, Or.inr ⟨p, vs, rfl, Or.inl (sq_of h3), ?_⟩⟩
      rw [h4.length]
      exact o _ G H (Step.refl ft.ok) (.int _)
    | un => exact o.elim
    | val _ => exact o.elim
    | exn _ _ => exact o.elim
theorem ce_ixO {i : Nat} {tb : TE} {b : SE} (h : CE C xo W tb b) : CE C xo W (tOp (rIxX C.K C.w) (tVar i) tb) (eIxO i b) := fun σ G H env ft Q o => by
  unfold eIxO at o
  cases c : env[i]? with
  | none => rw [c] at o; exact o.elim
  | some s =>
    rw [c] at o
    cases s with
    | own xs =>
      obtain ⟨p, vs, h1, h2, h3, h4⟩ := ft.own i xs c
      refine ⟨.ref p, h1, h σ G H env ft _ (Out.bind o fun d v G1 H1 _ s1 r1 o1 => ?_)⟩
      cases r1 with
      | int k =>
        dsimp only at o1
        cases ck : L2.atI xs k with
        | none => rw [ck] at o1; exact o1.elim
        | some d =>
          rw [ck] at o1
          obtain ⟨u, hu, ru⟩ := h4.atI ck
          exact Or.inl (Or.inl ⟨p, vs, k, u, rfl, rfl, sq_of (s1.h _ _ h3 (ft.om i xs p c h1)), hu, o1 _ G1 H1 (Step.refl s1.gh) (ru.mono s1.g)⟩)
      | _ => exact o1.elim
    | un => exact o.elim
    | val _ => exact o.elim
    | exn _ _ => exact o.elim
end
/-! x += e -/
theorem pip_of {X : Cx} {op : Operator} {r : R2} (ho : OpR X (inplaceOp op) r) : PIp X op r := fun pins s σ H x y v u Q I rx ry h => augR ho I rx ry h
def rAddX : R2 := fun x y H Q => rI0 (fun i j => .int (i + j)) x y H Q ∨ ((fun (x y : V) H Q => ∃ i j, x = .str i ∧ y = .str j ∧ i.length + j.length ≤ sizeLine ∧ Q (V.str (i ++ j)) H) : R2) x y H Q
theorem ip_addX {X : Cx} : PIp X .Add rAddX := pip_of (iop_add.or iop_add_str)
theorem od_addX {C : Cc} : OpD C rAddX dAddX := by
  intro G H x y dx dy e rx ry E Q o
  cases rx with
  | int i => cases ry with
    | int j => exact Or.inl ⟨i, j, rfl, rfl, o _ G H (Step.refl e) (.int _)⟩
    | _ => exact False.elim o
  | str a => cases ry with
    | str b =>
      obtain ⟨hz, o⟩ := out_ifE (p := a.length + b.length ≤ Z) o
      exact Or.inr ⟨a, b, rfl, rfl, sz_of hz, o _ G H (Step.refl e) (.str _)⟩
    | _ => exact False.elim o
  | _ => exact False.elim o
theorem ip_subX {X : Cx} : PIp X .Sub (rI0 fun i j => .int (i - j)) := pip_of iop_sub
/-! exceptions with fields -/
structure ExN (K : PySem.W.Frag) (mg : Str → Option Value) (x : Str) (C I : Addr) (nm : List Str) : Prop where
  g : mg x = some (.ref C)
  o : OexC K C
  i : PySem.W.findIn K (.ref C) "__init__" = some (some (.ref I))
  t : PySem.W.typeIn K (.ref I) = some (.type "function")
  n : ∀ f, f ∈ nm → PySem.W.findIn K (.ref C) f = some none
  xf : XfC K C
structure InitN (P : Program) (w : World) (K : PySem.W.Frag) (mg : Str → Option Value) (base : Heap) (a : Addr) (fd : FuncData) (ps nm : List Str) : Prop where
  ok : FnOk P w K mg base CX0 1 a fd ps (sp_initN K nm)
  b : Binds K fd ps []
theorem initN_len {K : PySem.W.Frag} {nm : List Str} {vs : List V} {H : Hp} {Q : VK} {E : XK} (h : sp_initN K nm vs H Q E) : vs.length = nm.length + 1 := by
  obtain ⟨a, C, ys, rfl, h2, _⟩ := h
  rw [List.length_cons, h2]
theorem init1 {K : PySem.W.Frag} {f : Str} {vs : List V} {H : Hp} {Q : VK} {E : XK} (h : sp_initN K [f] vs H Q E) : tSeq (tOst K f (tVar 0) (tVar 1)) tNext { nx := fun _ H' => Q .non H', rt := Q } (L2.start ["self", f] vs) H := by
  obtain ⟨a, C, ys, rfl, hl, ⟨T, hf, ha⟩, q⟩ := h
  match ys, hl with
  | [y], _ => exact ⟨_, rfl, _, rfl, a, C, rfl, T, hf f (List.mem_singleton.mpr rfl), Or.inl ⟨ha, fun dx h1 h2 => q dx h1 h2⟩⟩
theorem upd_swap {H : Hp} {a b : Addr} {o u : HO} (h : a ≠ b) : upd (upd H a o) b u = upd (upd H b u) a o := by
  funext c
  unfold upd
  by_cases h1 : c = b
  · subst h1
    rw [if_pos rfl, if_neg (Ne.symm h), if_pos rfl]
  · rw [if_neg h1]
    by_cases h2 : c = a
    · subst h2
      rw [if_pos rfl, if_pos rfl]
    · rw [if_neg h2, if_neg h2, if_neg h1]
theorem ost_fold {H : Hp} {a dx C : Addr} {f1 f2 : List (Str × V)} (h : dx ≠ a) : upd (upd (upd H dx (exd dx f1)) a (exo a C (some dx))) dx (exd dx f2) = upd (upd H dx (exd dx f2)) a (exo a C (some dx)) := by
  rw [upd_swap h, upd_upd, ← upd_swap h]
theorem init2 {K : PySem.W.Frag} {f g : Str} {vs : List V} {H : Hp} {Q : VK} {E : XK} (h : sp_initN K [f, g] vs H Q E) : tSeq (tOst K f (tVar 0) (tVar 1)) (tSeq (tOst K g (tVar 0) (tVar 2)) tNext) { nx := fun _ H' => Q .non H', rt := Q } (L2.start ["self", f, g] vs) H := by
  obtain ⟨a, C, ys, rfl, hl, ⟨T, hf, ha⟩, q⟩ := h
  match ys, hl with
  | [y, z], _ =>
    refine ⟨_, rfl, _, rfl, a, C, rfl, T, hf f List.mem_cons_self, Or.inl ⟨ha, fun dx h1 h2 => ?_⟩⟩
    refine ⟨_, rfl, _, rfl, a, C, rfl, T, hf g (List.mem_cons_of_mem _ List.mem_cons_self), Or.inr ⟨dx, [(f, y)], upd_same, by rw [upd_ne h2]; exact upd_same, Nat.le_of_ble_eq_true rfl, ?_⟩⟩
    rw [ost_fold h2]
    exact q dx h1 h2
theorem init3 {K : PySem.W.Frag} {f g k : Str} {vs : List V} {H : Hp} {Q : VK} {E : XK} (h : sp_initN K [f, g, k] vs H Q E) :
    tSeq (tOst K f (tVar 0) (tVar 1)) (tSeq (tOst K g (tVar 0) (tVar 2)) (tSeq (tOst K k (tVar 0) (tVar 3)) tNext)) { nx := fun _ H' => Q .non H', rt := Q } (L2.start ["self", f, g, k] vs) H := by
  obtain ⟨a, C, ys, rfl, hl, ⟨T, hf, ha⟩, q⟩ := h
  match ys, hl with
  | [y, z, u], _ =>
    refine ⟨_, rfl, _, rfl, a, C, rfl, T, hf f List.mem_cons_self, Or.inl ⟨ha, fun dx h1 h2 => ?_⟩⟩
    refine ⟨_, rfl, _, rfl, a, C, rfl, T, hf g (List.mem_cons_of_mem _ List.mem_cons_self), Or.inr ⟨dx, [(f, y)], upd_same, by rw [upd_ne h2]; exact upd_same, Nat.le_of_ble_eq_true rfl, ?_⟩⟩
    rw [ost_fold h2]
    refine ⟨_, rfl, _, rfl, a, C, rfl, T, hf k (List.mem_cons_of_mem _ (List.mem_cons_of_mem _ List.mem_cons_self)), Or.inr ⟨dx, [(g, z), (f, y)], upd_same, by rw [upd_ne h2]; exact upd_same, Nat.le_of_ble_eq_true rfl, ?_⟩⟩
    rw [ost_fold h2]
    exact q dx h1 h2
/-! constants of the module, seen in its objects -/
def allP {α β : Type} (f : α → β → Bool) : List α → List β → Bool
  | [], [] => true
  | u :: us, d :: ds => f u d && allP f us ds
  | _, _ => false
def isDv (K : PySem.W.Frag) (fns : List (Nat × Addr)) (f : List Value → List D → Bool) : Value → D → Bool
  | .none, .non => true
  | .bool a, .bl b => a == b
  | .int i _, .int j => decide (i = j)
  | .str i _, .str j => decide (i = j)
  | .ref a, .fn k => match fns.lookup k with
    | some b => Nat.beq a b
    | none => false
  | .ref a, .tup ds => match K.lookup a with
    | some ⟨.type c, _, .seq its _, _⟩ => c == "tuple" && Nat.ble its.size 100000 && f its.toList ds
    | _ => false
  | .ref a, .ktp ds => match K.lookup a with
    | some ⟨.type c, none, .seq its _, _⟩ => c == "tuple" && Nat.ble its.size 100000 && f its.toList ds
    | _ => false
  | .ref a, .scr ds => match K.lookup a with
    | some ⟨.type c, none, .seq its _, _⟩ => c == "list" && Nat.ble its.size 100000 && f its.toList ds
    | _ => false
  | _, _ => false
def isD (K : PySem.W.Frag) (fns : List (Nat × Addr)) : Nat → Value → D → Bool
  | 0 => fun _ _ => false
  | n + 1 => isDv K fns (allP (isD K fns n))
section
variable {K : PySem.W.Frag} {w : World} {ad : Nat → Addr} {fns : List (Nat × Addr)}
theorem allP_ok {f : Value → D → Bool} (h : ∀ u d, f u d = true → ∃ v, RelV v u ∧ ∀ G, Rep K w ad G v d) : ∀ (us : List Value) (ds : List D), allP f us ds = true → ∃ vs, Vals vs us ∧ ∀ G, RepL K w ad G vs ds
  | [], [], _ => ⟨[], .nil, fun _ => .nil⟩
  | u :: us, d :: ds, q => by
    unfold allP at q
    rw [Bool.and_eq_true] at q
    obtain ⟨v, r1, q1⟩ := h u d q.1
    obtain ⟨vs, r2, q2⟩ := allP_ok h us ds q.2
    exact ⟨v :: vs, .cons r1 r2, fun G => .cons (q1 G) (q2 G)⟩
  | [], _ :: _, q => by unfold allP at q; cases q
  | _ :: _, [], q => by unfold allP at q; cases q
theorem isDv_ok (hf : ∀ k b, fns.lookup k = some b → ad k = b) {f : List Value → List D → Bool} (hl : ∀ us ds, f us ds = true → ∃ vs, Vals vs us ∧ ∀ G, RepL K w ad G vs ds) : ∀ (u : Value) (d : D), isDv K fns f u d = true → ∃ v, RelV v u ∧ ∀ G, Rep K w ad G v d := by
  intro u d h
  unfold isDv at h
  split at h
  · exact ⟨.non, rfl, fun _ => .non⟩
  · rename_i a b
    obtain rfl : a = b := beq_iff_eq.mp h
    exact ⟨.bl a, rfl, fun _ => .bl a⟩
  · rename_i i _ j
    obtain rfl : i = j := of_decide_eq_true h
    exact ⟨.int i, ⟨_, rfl⟩, fun _ => .int i⟩
  · rename_i i _ j
    obtain rfl : i = j := of_decide_eq_true h
    exact ⟨.str i, ⟨_, rfl⟩, fun _ => .str i⟩
  · rename_i a k
    split at h
    · rename_i b hb
      have e : a = b := Nat.eq_of_beq_eq_true h
      subst e
      rw [← hf k a hb]
      exact ⟨.ref (ad k), rfl, fun _ => .fn k⟩
    · cases h
  · rename_i a ds
    split at h
    · rename_i c dd its z sl hk
      simp only [Bool.and_eq_true] at h
      obtain ⟨⟨h1, h2⟩, h3⟩ := h
      have e : c = "tuple" := eq_of_beq h1
      subst e
      obtain ⟨vs, r, q⟩ := hl its.toList ds h3
      exact ⟨.ref a, rfl, fun G => .tup (Or.inr ⟨_, its, z, hk, rfl, rfl, Nat.le_trans (Nat.le_of_ble_eq_true h2) (by decide), r⟩) (q G)⟩
    · cases h
  · rename_i a ds
    split at h
    · rename_i c its z sl hk
      simp only [Bool.and_eq_true] at h
      obtain ⟨⟨h1, h2⟩, h3⟩ := h
      have e : c = "tuple" := eq_of_beq h1
      subst e
      obtain ⟨vs, r, q⟩ := hl its.toList ds h3
      exact ⟨.ref a, rfl, fun G => .ktp (Or.inr ⟨_, its, z, hk, rfl, rfl, Nat.le_trans (Nat.le_of_ble_eq_true h2) (by decide), r⟩) ⟨_, hk, rfl, rfl⟩ (q G)⟩
    · cases h
  · rename_i a ds
    split at h
    · rename_i c its z sl hk
      simp only [Bool.and_eq_true] at h
      obtain ⟨⟨h1, h2⟩, h3⟩ := h
      have e : c = "list" := eq_of_beq h1
      subst e
      obtain ⟨vs, r, q⟩ := hl its.toList ds h3
      exact ⟨.ref a, rfl, fun G => .scr (Or.inr ⟨_, its, z, hk, rfl, rfl, rfl, Nat.le_trans (Nat.le_of_ble_eq_true h2) (by decide), r⟩) (q G)⟩
    · cases h
  · cases h
theorem isD_ok (hf : ∀ k b, fns.lookup k = some b → ad k = b) : ∀ (n : Nat) (u : Value) (d : D), isD K fns n u d = true → ∃ v, RelV v u ∧ ∀ G, Rep K w ad G v d
  | 0, _, _, h => by cases h
  | n + 1, u, d, h => isDv_ok hf (allP_ok (isD_ok hf n)) u d h
theorem isD_rep {mg : Str → Option Value} {x : Str} {n : Nat} {u : Value} {d : D} (hf : ∀ k b, fns.lookup k = some b → ad k = b) (hm : mg x = some u) (h : isD K fns n u d = true) : ∃ v u, mg x = some u ∧ RelV v u ∧ ∀ G, Rep K w ad G v d := by
  obtain ⟨v, r, q⟩ := isD_ok (w := w) hf n u d h
  exact ⟨v, u, hm, r, q⟩
/-- a written dict with text keys -/
theorem dct_rep {mg : Str → Option Value} {x : Str} {a : Addr} {es : Array DictEntry} {n : Nat} {ks : List Str} {vs : List V} {ds : List D} (hm : mg x = some (.ref a)) (hk : K.lookup a = some ⟨.type "dict", none, .dict es n, #[]⟩) (he : EntsK w.params (ks.zip vs) es.toList) (hl : (a == sysModules) = false)
    (hz : ks.length = vs.length) (r : ∀ G, RepL K w ad G vs ds) : ∃ v u, mg x = some u ∧ RelV v u ∧ ∀ G, Rep K w ad G v (.dct ks ds) :=
  ⟨.ref a, .ref a, hm, rfl, fun G => .dct hz ⟨⟨es, n, hk, he⟩, hl⟩ (r G)⟩
end
end Dm
set_option Elab.async false
set_option linter.all false
set_option maxRecDepth 100000
set_option maxHeartbeats 4000000
namespace Dm
open PySem L2 Evl RZ Wm
/-! exceptions without fields -/
structure Ex0 (K : PySem.W.Frag) (mg : Str → Option Value) (x : Str) (C : Addr) : Prop where
  g : mg x = some (.ref C)
  q : ∃ B newId initId bmB, ExcBaseFacts B newId initId bmB ∧ PySem.W.excIn K C bmB newId = true
  k : PySem.W.keepIn K (.ref C) = true
  s : PySem.W.subIn K (.ref C) (.type "BaseException") = some true
  t : PySem.W.typeIn K (.ref C) = some (.type "type")
theorem pmk_ex0 {X : Cx} {C : Addr} {x : Str} {p pos : Pos} (T : Ex0 X.K X.mg x C) (hg : Gl X x) (hdb : (x == ("__debug__" : Str)) = false := by decide)   : L2N.PMk X (.Call (.Name x p) [] [] pos) (fun _ H Q => Q (.ref C) none H) := by
  intro pins s σ H Q I h
  obtain ⟨B, newId, initId, bmB, F, q⟩ := T.q
  have r : Raises X (.ref C) := fun M h XX => ⟨PySem.W.looks_subIn XX T.s, PySem.W.looks_typeIn XX T.t⟩
  refine wpAny_Call_Name_kw (ld_glob I hg T.g ?_ hdb)
  refine PySem.W.callWith_K0 I.kIn T.k ?_
  show wpAny _ _ (call (.ref C) []) _ _ _
  obtain ⟨bm, N, nm, qn, bs, hdct, sn, sub, ab, col, dd, k0, k1, k2, k3, k5, mN, hC, hN, hni, TT⟩ := exc_obj I.kIn q
  refine wpAny_call_exc_subT F TT hC hN hni (fun h' e hm => ?_) (by show 0 ≤ sizeLine; rw [sizeLine_eq]; omega)
  exact L2N.mk_of I hm r h (I.hok.gone hm.new)
section
variable {C : Cc} {xo : Xo} {W : WX} {G G' G0 : Gd} {H H' H0 : Hp} {σ : L2.St} {env : Env} {E : XK}
theorem cs_raise0 {c : Nat} : CS C xo W (fun _ σ H => W (.ref (C.ad c)) none σ H) (sRaise c [] eNil) := fun G0 H0 σ G H env f D o => by
  have o1 : OutS C xo W G0 H0 G D (.exc c [] env) := o
  exact o1 none σ G H (ExG.refl G) f rfl
end
theorem passN {X : Cx} : Passes (L2N.CX X.prog X.w) X E0 := fun _ _ _ _ _ _ _ h => by
  obtain ⟨_, _, _, _, _, _, _, _, _, _, _, _, h⟩ := h
  exact h.elim
theorem cl0X {X : Cx} {k : Nat} {x : Str} {a : Addr} {fd : FuncData} {ps : List Str} {sp : Sp} {p pos : Pos} (O : DfX X.prog X.w X.K X.mg X.base k x a fd ps sp) (hr : Room k X.A) (hg : Gl X x) (hdb : (x == ("__debug__" : Str)) = false := by decide) : PE X (.Call (.Name x p) [] [] pos) (tCall sp [] E0 tNil) :=
  pe_call0 O.ok hr hg O.g O.kp O.b .nil passN hdb
theorem rep_fn {K : PySem.W.Frag} {w : World} {ad : Nat → Addr} {H : Gd} (n : Nat) {f : Addr} (h : ad n = f) : Rep K w ad H (.ref f) (.fn n) := by
  subst h
  exact .fn n
/-! a call of a local name -/
theorem pe_callRS {X : Cx} {k i : Nat} {x : Str} {p pos : Pos} {e : Expr} {es : List Expr} {t : TA} {E : L2.St → XK} {S : Addr → Sp → Prop} (A : ∀ f sp, S f sp → HeldX X.prog X.w X.K X.mg X.base k f sp) (hr : Room k X.A) (hN : X.N[i]? = some x) (hv : Vis X.env.scope x) (hx : ∀ σ, PassesAt (L2N.CX X.prog X.w) X σ (E σ)) (ha : PA X (e :: es) t)
    (hdb : (x == ("__debug__" : Str)) = false := by decide) (hcd : (x == ("__classdict__" : Str)) = false := by decide)
    (he : starEach (e :: es) X.env = (false, eval e X.env) :: starEach es X.env := by rfl) (hpl : (backTo pos (starEach es X.env)).any (·.1) = false := by rfl) : PE X (.Call (.Name x p) (e :: es) [] pos) (tCallRS i S E t) := by
  refine ⟨fun pins s σ H Q I h => ?_⟩
  obtain ⟨f, sp, hs, hS, ht⟩ := h
  obtain ⟨fd, ps, F, hk, hb⟩ := (A f sp hS).ex
  refine wpAny_Call_Name_kw (thn ((pe_var (pos := p) hN hv hdb hcd).run pins s σ H (fun v H1 => v = .ref f ∧ H1 = H) I ⟨.ref f, hs, rfl, rfl⟩) fun u s1 ⟨v, H1, I1, r1, q1⟩ => ?_)
  obtain ⟨rfl, rfl⟩ := q1
  cases r1
  refine PySem.W.callWith_K (h₀ := X.base) I.ok.mod.kin hk (thn (ha.run pos pins s1 σ _ _ I1 ht) fun us s2 ⟨vs, H2, I2, r, q⟩ => ⟨I2.kIn, ?_⟩) he hpl
  exact run_fnS F hr hb (hx σ) I2 r q
/-! isinstance of the exception in the hand -/
structure IsC (K : PySem.W.Frag) (D : Addr) : Prop where
  hg : PySem.W.findIn K (.ref D) "__getattribute__" = some (some (.builtin "BaseException.__getattribute__"))
  hk : PySem.W.findIn K (.ref D) "__getattr__" = some none
  hs : PySem.W.subIn K (.ref D) (.type "BaseException") = some true
  hc : (PySem.W.clsIn K D).isSome = true
  ha : PySem.W.findIn K (.ref D) "__class__" = some (some (.builtin "object.__class__"))
  hn : PySem.W.specialIn K (.builtin "object.__class__") "__get__" = some (some (.builtin "getset_descriptor.__get__"))
  ht : PySem.W.takesIn K (.builtin "object.__class__") = some true
  hm : PySem.W.mroIn K D (.type "object") = some true
theorem clsSome {K : PySem.W.Frag} {D : Addr} (h : PySem.W.hasDictIn K D = true) : (PySem.W.clsIn K D).isSome = true := by
  obtain ⟨cd, hc, _⟩ := PySem.W.any_some h
  rw [hc]
  rfl
/-- isinstance(e, c), e the exception that the suite holds, c a class of the text or a built-in one -/
def rIsX (K : PySem.W.Frag) (cls : Value) (d : Option Addr) (a : Addr) : List V → Hp → VK → Prop := fun xs H Q => ∃ (D : Addr) (c : V) (cv : Value) (b : Bool), cls = .ref D ∧ IsC K D ∧ xs = [.ref a, c] ∧ ClsV c cv ∧ PySem.W.kitOne K (.ref D) cv = some b ∧ (d = none ∨ ∃ q fs, d = some q ∧ H q = some (.xd fs)) ∧ Q (.bl b) H
theorem call_isX {X : Cx} {a : Addr} {cls : Value} {d : Option Addr} {oe : Obj} {pn : List (Addr × Obj)} (hz : Zc cls d oe) (hf : ∃ vs, oe.data = .fields vs) : CallR (X.suite a ((a, oe) :: pn)) (.builtin "isinstance") (rIsX X.K cls d a) := by
  intro pins s σ H xs us Q I r h
  obtain ⟨D, c, cv, b, rfl, CC, rfl, k, e, hd, q⟩ := h
  obtain ⟨u1, u2, rfl, r1, r2⟩ := vals2 r
  cases r1
  have ec := k.eq r2
  subst ec
  obtain ⟨hget, _⟩ := I.pin (a, oe) (List.mem_append.mpr (.inl List.mem_cons_self))
  obtain ⟨vs, hv⟩ := hf
  obtain ⟨od, J⟩ : ∃ od, PySem.W.InstAt s.heap a oe D od := by
    obtain ⟨oc, odd, oda, osl⟩ := oe
    obtain ⟨h1, h2⟩ := hz
    dsimp only at h1 h2 hv
    subst h1 h2 hv
    rcases hd with rfl | ⟨p, fs, rfl, hp⟩
    · exact ⟨none, hget, rfl, rfl, trivial⟩
    · obtain ⟨o, ho⟩ := objOk_get (I.hok p _ hp)
      exact ⟨some o, hget, rfl, rfl, ho⟩
  exact PySem.W.kia_one (PySem.W.kitx_exc CC.hc CC.hg CC.hk CC.hs CC.ha CC.hn CC.ht CC.hm) I.kIn J e (fun z => nomatch z) fun tk => ⟨.bl b, H, I.kept (t' := tk) fun _ _ z => z, rfl, q⟩
/-- isinstance(e, ..): what the table says of e's class -/
def eIsx (i : Nat) (tab : Nat → Option Bool) : SE := fun env => match env[i]? with
  | some (.exn c _) => match tab c with
    | some b => .ok (.bl b)
    | none => .bad
  | _ => .bad
section
variable {C : Cc} {xo : Xo} {W : WX} {G G' G0 : Gd} {H H' H0 : Hp} {σ : L2.St} {env : Env} {E : XK}
theorem ce_isx {i : Nat} {tab : Nat → Option Bool} {c : V} {cv : Value} (k : ClsV c cv) (ht : ∀ m b, tab m = some b → IsC C.K (C.ad m) ∧ PySem.W.kitOne C.K (.ref (C.ad m)) cv = some b) :
    CE C xo W (tCB (rIsX C.K xo.cls xo.d xo.a) (tCons (tVar i) (tCons (tC c) tNil))) (eIsx i tab) := fun σ G H env ft Q o => by
  unfold eIsx at o
  cases c1 : env[i]? with
  | none => rw [c1] at o; exact o.elim
  | some s =>
    rw [c1] at o
    cases s with
    | exn c2 fs =>
      obtain ⟨h1, h2, h3⟩ := ft.exn i c2 fs c1
      dsimp only at o
      cases hb : tab c2 with
      | none => rw [hb] at o; exact o.elim
      | some b =>
        rw [hb] at o
        obtain ⟨t1, t2⟩ := ht c2 b hb
        refine ⟨_, h1, ?_⟩
        refine ⟨_, c, cv, b, h2, t1, rfl, k, t2, ?_, o _ G H (Step.refl ft.ok) (.bl _)⟩
        cases fs with
        | nil => exact Or.inl h3
        | cons f fs =>
          obtain ⟨q, vfs, k1, k2, _⟩ := h3
          exact Or.inr ⟨q, vfs, k1, ft.ex _ _ k2⟩
    | un => exact o.elim
    | val _ => exact o.elim
    | own _ => exact o.elim
end
/-! int(a text of digits) -/
def fIntS : List D → R D
  | [.str a] => match PySem.intText? a with
    | some n => if a.length ≤ 640 then .ok (.int n) else .bad
    | none => .bad
  | _ => .bad
def rIntS : List V → Hp → VK → Prop := fun xs H Q => ∃ a n, xs = [.str a] ∧ PySem.intText? a = some n ∧ a.length ≤ 640 ∧ Q (.int n) H
theorem call_intS {X : Cx} : CallR X (.type "int") rIntS := call_int_str
section
variable {C : Cc}
theorem cd_intS : CallD C rIntS fIntS := by
  intro G H vs ds e r E Q o
  cases r with
  | nil => exact False.elim o
  | cons h r =>
    cases r with
    | cons _ _ => cases h <;> exact False.elim o
    | nil =>
      cases h with
      | str a =>
        have o2 : Out C (rV C) E G H Q (match PySem.intText? a with
          | some n => if a.length ≤ 640 then .ok (.int n) else .bad
          | none => .bad) := o
        cases c : PySem.intText? a with
        | none => rw [c] at o2; exact o2.elim
        | some n =>
          rw [c] at o2
          obtain ⟨hz, o2⟩ := out_ifE o2
          exact ⟨a, n, rfl, c, hz, o2 _ G H (Step.refl e) (.int _)⟩
      | _ => exact False.elim o
end
/-! xs.index(y) of a list of flat data, where it is -/
def idxD (y : D) : List D → Option Nat
  | [] => none
  | x :: xs => if x.eqv y = true then some 0 else (idxD y xs).map (· + 1)
def lIdx (xs : List D) : List D → R D
  | [y] => if flatD y = true ∧ xs.all flatD = true then (match idxD y xs with | some j => .ok (.int (j : Nat)) | none => .bad) else .bad
  | _ => .bad
def mLIndex : D → List D → R D
  | .lst xs, ds | .scr xs, ds => lIdx xs ds
  | _, _ => .bad
section
variable {C : Cc} {xo : Xo} {W : WX} {G G' G0 : Gd} {H H' H0 : Hp} {σ : L2.St} {env : Env} {E : XK}
theorem idx_V {y : D} {u : V} (hy : Rep C.K C.w C.ad G u y) (fy : flatD y = true) : ∀ {vs : List V} {xs : List D} {j : Nat}, RepL C.K C.w C.ad G vs xs → xs.all flatD = true → idxD y xs = some j → ∃ z, vs[j]? = some z ∧ eqV z u = true ∧ ∀ m z', m < j → vs[m]? = some z' → eqV z' u = false
  | _, _, _, .nil, _, h => by cases h
  | _, _, j, .cons (v := v) (d := d) hv r, q, h => by
    rw [List.all_cons, Bool.and_eq_true] at q
    unfold idxD at h
    have e := eqV_D hv hy q.1 fy
    by_cases c : d.eqv y = true
    · rw [if_pos c] at h
      cases h
      exact ⟨v, rfl, by rw [e]; exact c, fun m z' hm => absurd hm (Nat.not_lt_zero m)⟩
    · rw [if_neg c] at h
      cases c2 : idxD y _ with
      | none => rw [c2] at h; cases h
      | some i =>
        rw [c2] at h
        cases h
        obtain ⟨z, h1, h2, h3⟩ := idx_V hy fy r q.2 c2
        refine ⟨z, h1, h2, fun m z' hm hz => ?_⟩
        cases m with
        | zero =>
          cases hz
          rw [e]
          exact Bool.eq_false_iff.mpr c
        | succ m => exact h3 m z' (Nat.lt_of_succ_lt_succ hm) hz
theorem md_lindex : MetD C (rIndex C.K) mLIndex := by
  intro G H x vs dx ds e rx r E Q o
  have fin : ∀ {p : Addr} {ws : List V} {xs : List D}, SqL C.K H p ws → RepL C.K C.w C.ad G ws xs → Out C (rV C) E G H Q (lIdx xs ds) → rIndex C.K (.ref p) vs H Q := fun {p ws xs} hs rr o2 => by
    cases r with
    | nil => exact False.elim o2
    | cons h r =>
      cases r with
      | cons _ _ => exact False.elim o2
      | nil =>
        unfold lIdx at o2
        obtain ⟨hz, o2⟩ := out_if o2
        cases c : idxD _ xs with
        | none => rw [c] at o2; exact o2.elim
        | some j =>
          rw [c] at o2
          obtain ⟨z, h1, h2, h3⟩ := idx_V h hz.1 rr hz.2 c
          exact ⟨p, ws, _, j, z, rfl, rfl, hs, flat_V h hz.1, flat_all rr hz.2, h1, h2, h3, o2 _ G H (Step.refl e) (.int _)⟩
  cases rx with
  | lst h r1 => exact fin (sq_of (e.e _ _ h)) r1 o
  | scr h r1 => exact fin (ex_l e.e h) r1 o
  | _ => exact False.elim o
end
/-! sorted(texts) -/
def leS (a b : Str) : Bool := decide (a.cps.toList ≤ b.cps.toList)
theorem leS_trans (a b c : Str) (h1 : leS a b = true) (h2 : leS b c = true) : leS a c = true := decide_eq_true (List.le_trans (of_decide_eq_true h1) (of_decide_eq_true h2))
theorem leS_total (a b : Str) : (leS a b || leS b a) = true := by
  rcases List.le_total a.cps.toList b.cps.toList with h | h
  · rw [show leS a b = true from decide_eq_true h] <;> rfl
  · rw [show leS b a = true from decide_eq_true h, Bool.or_true]
theorem leS_anti {a b : Str} (h1 : leS a b = true) (h2 : leS b a = true) : a = b := by
  have h := List.le_antisymm (of_decide_eq_true h1) (of_decide_eq_true h2)
  have h := Array.toList_inj.mp h
  cases a
  cases b
  exact congrArg Str.mk h
def srt (zs : List Str) : List Str := zs.mergeSort leS
theorem rising_le : ∀ (l : List Str) (p : Str), PyProof.Rows.risingS p l = true → (p :: l).Pairwise fun a b => leS a b = true
  | [], p, _ => List.pairwise_singleton _ _
  | x :: r, p, h => by
    have h' : (!PySem.Spec.ltCps x.cps.toList p.cps.toList && PyProof.Rows.risingS x r) = true := h
    rw [Bool.and_eq_true] at h'
    have ih := rising_le r x h'.2
    have hx : leS p x = true := by
      have q := h'.1
      rw [PyProof.Rows.ltCps_eq] at q
      refine decide_eq_true ?_
      rw [Bool.not_eq_eq_eq_not, Bool.not_true, decide_eq_false_iff_not] at q
      exact List.not_lt.mp q
    refine List.pairwise_cons.mpr ⟨fun y hy => ?_, ih⟩
    rcases List.mem_cons.mp hy with rfl | hy
    · exact hx
    · exact leS_trans _ _ _ hx ((List.pairwise_cons.mp ih).1 y hy)
theorem sorted_le {l : List Str} (h : PyProof.Rows.sortedS l = true) : l.Pairwise fun a b => leS a b = true := by
  cases l with
  | nil => exact List.Pairwise.nil
  | cons x r => exact rising_le r x h
theorem srt_of {ys zs : List Str} (hp : ys.Perm zs) (h : PyProof.Rows.sortedS ys = true) : ys = srt zs :=
  List.Perm.eq_of_pairwise (fun a b _ _ h1 h2 => leS_anti h1 h2) (sorted_le h) (List.pairwise_mergeSort leS_trans leS_total zs) (hp.trans (List.mergeSort_perm zs leS).symm)
/-- two rows of the same texts, sorted -/
theorem srt_perm {ys zs : List Str} (hp : ys.Perm zs) : srt ys = srt zs :=
  List.Perm.eq_of_pairwise (fun a b _ _ h1 h2 => leS_anti h1 h2) (List.pairwise_mergeSort leS_trans leS_total ys) (List.pairwise_mergeSort leS_trans leS_total zs) ((List.mergeSort_perm ys leS).trans (hp.trans (List.mergeSort_perm zs leS).symm))
def lSort : List D → R (List D)
  | [.lst xs] | [.scr xs] => match strsOf xs with
    | some zs => .ok ((srt zs).map .str)
    | none => .bad
  | _ => .bad
def rSortedSA (K : PySem.W.Frag) : List V → Hp → VK → Prop := fun vs H Q => ∃ (a : Addr) (xs : List Str), vs = [V.ref a] ∧ SqL K H a (xs.map V.str) ∧ ∀ p : Addr, H p = none → Q (.ref p) (upd H p (.lst ((srt xs).map V.str)))
theorem cr_sortedSA {X : Cx} : CallR X (.builtin "sorted") (rSortedSA X.K) := by
  intro pins s σ H vs us Q I r h
  obtain ⟨a, xs, rfl, hs, q⟩ := h
  obtain ⟨its, rv, hl, hz⟩ := I.list hs
  rw [Vals.ref1 r]
  have hlen0 := rv.length
  refine PyProof.Rows.sorted_strsAny hl.isList rv.strs (by rw [← hlen0]; exact hz) fun out ys h1 h2 h3 => ?_
  obtain ⟨ep, he'⟩ := PyProof.Rows.sortedAll_at s.heap its out
  rw [List.length_map] at hz
  have hlen : (ys.map V.str).length ≤ sizeLine := by rw [List.length_map, h2.length_eq]; exact hz
  have e := srt_of h2 h3
  refine ⟨.ref _, upd H (s.heap.objs.size + 1) (.lst (ys.map V.str)), I.laid (t' := s.toks) (fun _ _ => PyProof.Rows.sortedAll_old) (Nat.le_succ _) ⟨hlen, out.toList, ep, vals_of_strs h1, he'⟩, rfl, ?_⟩
  rw [e]
  exact q _ (I.hok.fresh (Nat.le_succ _))
theorem rep_strs {K : PySem.W.Frag} {w : World} {ad : Nat → Addr} {H : Gd} : ∀ zs : List Str, RepL K w ad H (zs.map V.str) (zs.map D.str)
  | [] => .nil
  | z :: zs => .cons (.str z) (rep_strs zs)
section
variable {C : Cc} {xo : Xo} {W : WX}
theorem cn_sort {ta : TA} {a : SA} (h : CA C xo W ta a) : CN C xo W (tCB (rSortedSA C.K) ta) (lF lSort a) := fun σ G H env f Q o =>
  h σ G H env f _ (Out.bind o fun ds vs G1 H1 _ s1 r1 o1 => by
    have e := s1.gh
    have fin : ∀ {p : Addr} {ws : List V} {xs : List D}, SqL C.K H1 p ws → RepL C.K C.w C.ad G1 ws xs → Out C (fun G' H' v ds => rN C G' H' v ds ∧ ∀ p, v = .ref p → H p = none) (WE W σ) G1 H1 Q (match strsOf xs with
        | some zs => .ok ((srt zs).map .str)
        | none => .bad) → rSortedSA C.K [.ref p] H1 Q := fun {p ws xs} hs r o2 => by
      cases c : strsOf xs with
      | none => rw [c] at o2; exact o2.elim
      | some zs =>
        rw [c] at o2
        have z := r.strs c
        subst z
        exact ⟨p, zs, rfl, hs, fun q hq => o2 _ G1 _ (Step.ofH e (Ex.new hq)) ⟨⟨q, _, rfl, fresh_back e.e hq, e.fresh hq, upd_same, rep_strs _⟩, fun q2 hq2 => by cases hq2; exact s1.fresh hq⟩⟩
    cases r1 with
    | nil => exact False.elim o1
    | cons h r =>
      cases r with
      | cons h2 r => cases h <;> exact False.elim o1
      | nil =>
        cases h with
        | lst h r => exact fin (sq_of (e.e _ _ h)) r o1
        | scr h r => exact fin (ex_l e.e h) r o1
        | _ => exact False.elim o1)
end
section
variable {P : Program} {w : World} {K : PySem.W.Frag} {mg : Str → Option Value} {base : Heap} {ad : Nat → Addr}
theorem ok_badL {x qual : Str} {st : Stmt} {f : Addr} {fd : FuncData} {N ps : List Str} {l : Nat} (F : Fun K x qual st f fd) (S : FnScope N ps (defScope st)) : FnOk P w K mg base (L2N.CX P w) (l + 1) f fd ps (SpL ⟨K, w, ad⟩ fun _ => .bad) := by
  refine okN F S (fun vs H Q E h => ?_) (fun cdv A outer s H vs Q E hr hs => ?_)
  · obtain ⟨G, ds, e, r, o⟩ := h
    exact o.elim
  · obtain ⟨G, ds, e, r, o⟩ := hs
    exact o.elim
/-- of a def that calls itself: no turn left, nothing said -/
theorem ok_bad {x qual : Str} {st : Stmt} {f : Addr} {fd : FuncData} {N ps : List Str} {l : Nat} (F : Fun K x qual st f fd) (S : FnScope N ps (defScope st)) : FnOk P w K mg base (L2N.CX P w) (l + 1) f fd ps (SpD ⟨K, w, ad⟩ fun _ => .bad) := by
  refine okN F S (fun vs H Q E h => ?_) (fun cdv A outer s H vs Q E hr hs => ?_)
  · obtain ⟨G, ds, e, r, o⟩ := h
    exact o.elim
  · obtain ⟨G, ds, e, r, o⟩ := hs
    exact o.elim
end
end Dm
set_option Elab.async false
set_option linter.all false
set_option maxRecDepth 100000
set_option maxHeartbeats 4000000
namespace Dm
open PySem L2 Evl RZ Wm
/-! a name that holds a list or a tuple, walked -/
def itLT : D → R (List D)
  | .lst xs | .scr xs | .tup xs | .ktp xs => .ok xs
  | _ => .bad
def iLT (o : SE) : SA := fun env => (o env).bind itLT
def wLT (K : PySem.W.Frag) (tl : TE) : TI := fun σ H R => tl σ H fun x H1 => ∃ a, x = .ref a ∧ ((∃ xs, SqL K H1 a xs) ∧ R (Itl K a) H1 ∨ (∃ xs, SqT K H1 a xs) ∧ R (Itt K a) H1)
theorem pi_lt {X : Cx} {tg l : Expr} {i : Nat} (hl : PE X l (tVar i)) : PI X tg l (wLT X.K (tVar i)) := by
  refine ⟨fun pins s σ H R I h => ?_⟩
  obtain ⟨v, hv, a, e, q⟩ := h
  rcases q with q | q
  · exact (pi_list hl).run pins s σ H R I ⟨v, hv, a, e, q.1, q.2⟩
  · exact (pi_tup hl).run pins s σ H R I ⟨v, hv, a, e, q.1, q.2⟩
theorem ci_lt {C : Cc} {xo : Xo} {W : WX} {te : TE} {f : SE} (h : CE C xo W te f) : CI C xo W (wLT C.K te) (iLT f) := fun σ G H env ft R o =>
  h σ G H env ft _ (Out.bind o fun d v G1 H1 _ s r o1 => by
    cases r with
    | @lst a vs ds h1 r => exact ⟨a, rfl, Or.inl ⟨⟨vs, sq_of (s.gh.e _ _ h1)⟩, o1 _ G1 H1 (Step.refl s.gh) (srv_at walk_list r fun H e => sq_of (e _ _ h1))⟩⟩
    | @scr a vs ds h1 r => exact ⟨a, rfl, Or.inl ⟨⟨vs, ex_l s.gh.e h1⟩, o1 _ G1 H1 (Step.refl s.gh) (srv_at walk_list r fun H e => ex_l e h1)⟩⟩
    | @tup a vs ds h1 r => exact ⟨a, rfl, Or.inr ⟨⟨vs, ex_t s.gh.e h1⟩, o1 _ G1 H1 (Step.refl s.gh) (srv_at walk_tup r fun H e => ex_t e h1)⟩⟩
    | @ktp a vs ds h1 _ r => exact ⟨a, rfl, Or.inr ⟨⟨vs, ex_t s.gh.e h1⟩, o1 _ G1 H1 (Step.refl s.gh) (srv_at walk_tup r fun H e => ex_t e h1)⟩⟩
    | _ => exact False.elim o1)
end Dm
set_option Elab.async false
set_option linter.all false
set_option maxRecDepth 100000
set_option maxHeartbeats 4000000
namespace Dm
open PySem L2 Evl RZ Wm
section
variable {C : Cc} {xo : Xo} {W : WX} {G G' G0 : Gd} {H H' H0 : Hp} {σ : L2.St} {env : Env} {E : XK}
/-! cells of the store -/
theorem ce_cell {te : TE} {la : SA} (h : CN C xo W te la) : CE C xo W te (eCell la) := fun σ G H env ft Q o => by
  refine h σ G H env ft Q ?_
  unfold eCell Out R.bind at o
  unfold Out
  cases c : la env G.s with
  | bad => rw [c] at o; exact o
  | exc k fs t => rw [c] at o; exact o
  | ok ds t =>
    rw [c] at o
    intro v G' H' s q
    obtain ⟨⟨p, vs, rfl, h1, hm, h2, h3⟩, h4⟩ := q
    have e : G'.s = t := s.g.s
    subst e
    obtain ⟨st, hn⟩ := s.publish h1 hm h2 (h4 p rfl) h3
    exact o (.ref p) _ H' st (.mref hn)
theorem onL_bind {β γ δ : Type} {rep : Gd → Hp → δ → γ → Prop} {n : Nat} {K : Unit → R γ} {Q : δ → Hp → Prop} (o : Out C rep E G H Q ((onL n fun _ s => Rs.ok () s).bind K)) : ∃ xs, G.s[n]? = some (.lst xs) ∧ Out C rep E G H Q (K ()) := by
  unfold Out R.bind onL at o
  cases c : G.s[n]? with
  | none => rw [c] at o; exact False.elim o
  | some z =>
    cases z with
    | lst xs => rw [c] at o; exact ⟨xs, rfl, o⟩
    | dct _ => rw [c] at o; exact False.elim o
    | ins _ _ => rw [c] at o; exact False.elim o
theorem ce_MM {r : V → List V → Hp → VK → Prop} {f : D → List D → R D} {to : TE} {ta : TA} {o : SE} {a : SA} (h : MetD C r f) (ho : CE C xo W to o) (ha : CA C xo W ta a) : CE C xo W (tBM C.K "list" r to ta) (eMM f o a) := fun σ G H env ft Q q =>
  ho σ G H env ft _ (Out.bind q fun d v G1 H1 _ s1 r1 o1 => by
    cases r1 with
    | @mref n a hm =>
      obtain ⟨xs, hs, o2⟩ := onL_bind (β := Unit) o1
      obtain ⟨_, vs, hH, r⟩ := s1.gh.at hm hs
      exact ⟨Or.inl ⟨rfl, vs, sq_of hH⟩, ha σ G1 H1 env (ft.step s1) _ (Out.bind o2 fun ds vs G2 H2 _ s2 r2 o3 => h G2 H2 _ vs _ ds s2.gh (Rp.mono s2.g (.mref hm)) r2 _ _ o3)⟩
    | _ => exact False.elim o1)
theorem md_pop0 : MetD C rPopAt mPop0 := by
  intro G H x vs dx ds e rx r E Q o
  cases rx with
  | @mref n a hm =>
    cases r with
    | nil => exact False.elim o
    | cons h r =>
      cases r with
      | cons _ _ => cases h <;> exact False.elim o
      | nil =>
        cases h with
        | int i =>
          obtain ⟨hi, o⟩ := out_if (p := i = 0) o
          subst hi
          obtain ⟨xs, hs, o⟩ := onL_out o
          obtain ⟨_, ws, hH, rl⟩ := e.at hm hs
          unfold oR at o
          cases c : xs[0]? with
          | none => rw [c] at o; exact False.elim o
          | some d =>
            rw [c] at o
            obtain ⟨u, hu, ru⟩ := rl.get c
            have hl : 0 < ws.length := (List.getElem?_eq_some_iff.mp hu).1
            have rt : RepL C.K C.w C.ad G (ws.eraseIdx 0) xs.tail := by
              have := rl.drop 1
              rw [List.drop_one, List.drop_one] at this
              have e2 : ws.eraseIdx 0 = ws.tail := by cases ws <;> rfl
              rw [e2]
              exact this
            refine ⟨a, ws, 0, 0, u, rfl, rfl, hH, by decide, by decide, ?_, hu, o u _ _ (Step.cell e hm hs rt) ru⟩
            show seqIndex? 0 ws.length = some 0
            unfold seqIndex?
            simp [hl]
        | _ => exact False.elim o
  | _ => exact False.elim o
theorem md_mapp : MetD C rAppend mApp := by
  intro G H x vs dx ds e rx r E Q o
  cases rx with
  | @mref n a hm =>
    cases r with
    | nil => exact False.elim o
    | @cons v d vs ds h r =>
      cases r with
      | cons _ _ => exact False.elim o
      | nil =>
        have o : Out C (rV C) E G H Q ((cApp n d).bind fun _ => .ok .non) := o
        unfold Out R.bind cApp onL at o
        cases c : G.s[n]? with
        | none => rw [c] at o; exact False.elim o
        | some z =>
          cases z with
          | lst xs =>
            rw [c] at o
            dsimp only at o
            obtain ⟨_, ws, hH, rl⟩ := e.at hm c
            by_cases hz : xs.length < Z
            · rw [if_pos hz] at o
              exact ⟨a, ws, v, rfl, rfl, hH, sz_lt (by rw [rl.length]; exact hz), o .non _ _ (Step.cell e hm c (rl.append (.cons h .nil))) .non⟩
            · rw [if_neg hz] at o; exact False.elim o
          | dct _ => rw [c] at o; exact False.elim o
          | ins _ _ => rw [c] at o; exact False.elim o
  | _ => exact False.elim o
theorem cs_mset {to ti te : TE} {b k a : SE} (ho : CE C xo W to b) (hk : CE C xo W ti k) (h : CE C xo W te a) : CS C xo W (tAsg te (gSub to ti rSetL)) (sMSet b k a) := fun G0 H0 σ G H env f D o =>
  h σ G H env f.f _ (ofE_out f o fun d v G1 H1 s1 r f1 o1 => ho σ G1 H1 env f1.f _ (ofE_out f1 o1 fun x u G2 H2 s2 r2 f2 o2 => hk σ G2 H2 env f2.f _ (ofE_out f2 o2 fun j w G3 H3 s3 r3 f3 o3 => by
    have rx := Rp.mono s3.g r2
    have rv := Rp.mono s3.g (Rp.mono s2.g r)
    cases rx with
    | @mref n p hm => cases r3 with
      | int j =>
        have e : setM (.mref n) (.int j) d = cSet n j d := rfl
        rw [e] at o3
        unfold OutS ofE at o3
        unfold cSet onL at o3
        cases c : G3.s[n]? with
        | none => rw [c] at o3; exact False.elim o3
        | some z =>
          cases z with
          | lst xs =>
            rw [c] at o3
            dsimp only at o3
            unfold oR at o3
            obtain ⟨hg, ws, hH, rl⟩ := f3.f.ok.at hm c
            cases cn : ixN xs.length j with
            | none => rw [cn] at o3; exact False.elim o3
            | some q =>
              rw [cn] at o3
              have st := Step.cell f3.f.ok hm c (rl.set rv q)
              exact ⟨p, ws, j, q, rfl, rfl, hH, by rw [rl.length]; exact cn, o3 σ _ _ (ExG.refl _) (f3.step st)⟩
          | dct _ => rw [c] at o3; exact False.elim o3
          | ins _ _ => rw [c] at o3; exact False.elim o3
      | _ => exact False.elim o3
    | _ => cases r3 <;> exact False.elim o3)))
end
section
variable {P : Program} {w : World} {K : PySem.W.Frag} {mg : Str → Option Value} {base : Heap} {ad : Nat → Addr}
/-- a def that hands back a new list, called through a name -/
def fS (m : List D → R (List D)) : List D → R D := fun xs => (m xs).bind fun l => .ok (.lst l)
theorem spS {C : Cc} {m : List D → R (List D)} (vs : List V) (H : Hp) (Q : VK) (E : XK) (h : SpD C (fS m) vs H Q E) : SpL C m vs H Q E := by
  obtain ⟨G, ds, e, r, o⟩ := h
  refine ⟨G, ds, e, r, ?_⟩
  unfold fS Out R.bind at o
  unfold Out
  cases c : m ds G.s with
  | bad => rw [c] at o; exact o
  | exc k fs t => rw [c] at o; exact o
  | ok ds t =>
    rw [c] at o
    intro v G' H' s q
    obtain ⟨⟨p, vs, rfl, h1, hm, h2, h3⟩, h4⟩ := q
    exact o (.ref p) _ H' (s.take h1 hm h2 (h4 p rfl)) (.lst upd_same (h3.mono (ExG.new h1)))
theorem heldS {k m : Nat} {x : Str} {a : Addr} {fd : FuncData} {ps : List Str} {C : Cc} {b : List D → R (List D)} (D : DfX P w K mg base k x a fd ps (SpL C b)) (h : k ≤ m) : HeldX P w K mg base m a (SpD C (fS b)) := ⟨⟨fd, ps, (D.ok.imp spS).mono h, D.kp, D.b⟩⟩
end
end Dm
set_option Elab.async false
set_option linter.all false
set_option maxRecDepth 100000
set_option maxHeartbeats 4000000
/-! Dz: objects: instances of the text's classes as cells of the store; dicts as cells; walks over lists that are cells. -/
namespace Dm
open PySem L2 Evl RZ Wm
/-! ### instances -/
def onI {α : Type} (c n : Nat) (k : List D → Sto → Rs α) : R α := fun s => match s[n]? with
  | some (.ins c2 ds) => if c2 = c then k ds s else Rs.bad
  | _ => Rs.bad
def cFld (c i n : Nat) : R D := onI c n fun ds s => oR ds[i]? fun d => Rs.ok d s
def cPut (c i n : Nat) (d : D) : R Unit := onI c n fun ds s => if i < ds.length then Rs.ok () (s.set n (.ins c (ds.set i d))) else if i = ds.length then Rs.ok () (s.set n (.ins c (ds ++ [d]))) else Rs.bad
/-- o.f, f the i-th attribute of the class c -/
def dFld (c i : Nat) : D → R D
  | .mref n => cFld c i n
  | _ => .bad
def putM (c i : Nat) : D → D → R Unit
  | .mref n, d => cPut c i n d
  | _, _ => .bad
def isI (c : Nat) : D → R Unit
  | .mref n => onI c n fun _ s => Rs.ok () s
  | _ => .bad
/-- o.f = e; o.f op= e -/
def sFd (c i : Nat) (o e : SE) : SS := fun env => ofE (e env) env fun d => ofE (o env) env fun x => ofE (putM c i x d) env fun _ => .nx env
def sFdAug (c i : Nat) (f : D → D → R D) (o e : SE) : SS := fun env => ofE (o env) env fun x => ofE (dFld c i x) env fun v => ofE (e env) env fun y => ofE (f v y) env fun z => ofE (putM c i x z) env fun _ => .nx env
/-- o.m(e, ..), m a def of the class c -/
def eMeth (c : Nat) (m : List D → R D) (o : SE) (a : SA) : SE := fun env => (o env).bind fun x => (isI c x).bind fun _ => (a env).bind fun xs => m (x :: xs)
def lMeth (c : Nat) (m : List D → R (List D)) (o : SE) (a : SA) : SA := fun env => (o env).bind fun x => (isI c x).bind fun _ => (a env).bind fun xs => m (x :: xs)
def isNon : D → R Unit
  | .non => .ok ()
  | _ => .bad
/-- a new instance of the class c, m its __init__ -/
def mkI (c : Nat) (m : List D → R D) (ds : List D) : R D := (cNew (.ins c [])).bind fun x => (m (x :: ds)).bind fun r => (isNon r).bind fun _ => .ok x
def eMake (c : Nat) (m : List D → R D) (a : SA) : SE := fun env => (a env).bind fun ds => mkI c m ds
/-- .. by keywords: g puts the values in the parameters' order -/
def eMakeK (c n : Nat) (m : List D → R D) (g : List D → List D) (a : SA) : SE := fun env => (a env).bind fun ds => if ds.length = n then mkI c m (g ds) else .bad
theorem fl_nd (c : Nat) : (fl c).Nodup := by
  unfold fl
  rw [List.getD_eq_getElem?_getD]
  cases h : flT[c - 3000]? with
  | none => exact List.nodup_nil
  | some l => exact (by decide +kernel : ∀ l ∈ flT, l.Nodup) l (List.mem_of_getElem? h)
theorem zip_at {ks : List Str} : ∀ {vs : List V} {i : Nat} {f : Str} {v : V}, ks.Nodup → ks[i]? = some f → vs[i]? = some v → (ks.zip vs).lookup f = some v := by
  induction ks with
  | nil => intro vs i f v _ h; cases h
  | cons k ks ih =>
    intro vs i f v nd h1 h2
    cases vs with
    | nil => cases h2
    | cons u vs =>
      rw [List.nodup_cons] at nd
      cases i with
      | zero =>
        cases h1
        cases h2
        rw [List.zip_cons_cons, List.lookup_cons, beq_self_eq_true]
      | succ i =>
        have h1 : ks[i]? = some f := h1
        have hn : f ≠ k := fun z => nd.1 (by rw [← z]; exact List.mem_of_getElem? h1)
        rw [List.zip_cons_cons, List.lookup_cons, beq_eq_false_iff_ne.mpr hn]
        exact ih nd.2 h1 h2
theorem zip_none {ks : List Str} : ∀ {vs : List V} {f : Str}, f ∉ ks → (ks.zip vs).lookup f = none := by
  induction ks with
  | nil => intro vs f _; rfl
  | cons k ks ih =>
    intro vs f h
    cases vs with
    | nil => rfl
    | cons u vs =>
      have hn : f ≠ k := fun z => h (by rw [z]; exact List.mem_cons_self)
      rw [List.zip_cons_cons, List.lookup_cons, beq_eq_false_iff_ne.mpr hn]
      exact ih fun z => h (List.mem_cons_of_mem _ z)
theorem putF_set {ks : List Str} : ∀ {vs : List V} {i : Nat} {f : Str} {v : V}, ks.Nodup → ks[i]? = some f → i < vs.length → putF f v (ks.zip vs) = ks.zip (vs.set i v) := by
  induction ks with
  | nil => intro vs i f v _ h; cases h
  | cons k ks ih =>
    intro vs i f v nd h1 h2
    cases vs with
    | nil => cases h2
    | cons u vs =>
      rw [List.nodup_cons] at nd
      cases i with
      | zero =>
        cases h1
        rw [List.zip_cons_cons]
        unfold putF
        rw [if_pos rfl]
        rfl
      | succ i =>
        have h1 : ks[i]? = some f := h1
        have hn : k ≠ f := fun z => nd.1 (by rw [z]; exact List.mem_of_getElem? h1)
        rw [List.zip_cons_cons]
        unfold putF
        rw [if_neg hn, ih nd.2 h1 (Nat.lt_of_succ_lt_succ h2)]
        rfl
theorem putF_app {ks : List Str} : ∀ {vs : List V} {f : Str} {v : V}, ks.Nodup → ks[vs.length]? = some f → putF f v (ks.zip vs) = ks.zip (vs ++ [v]) := by
  induction ks with
  | nil => intro vs f v _ h; cases h
  | cons k ks ih =>
    intro vs f v nd h1
    rw [List.nodup_cons] at nd
    cases vs with
    | nil =>
      cases h1
      show putF k v [] = (k, v) :: ks.zip []
      rw [List.zip_nil_right]
      rfl
    | cons u vs =>
      have h1 : ks[vs.length]? = some f := h1
      have hn : k ≠ f := fun z => nd.1 (by rw [z]; exact List.mem_of_getElem? h1)
      rw [List.zip_cons_cons]
      unfold putF
      rw [if_neg hn, ih nd.2 h1]
      rfl
/-- what of the text a class's objects need -/
structure InsC (K : PySem.W.Frag) (C : Addr) (c : Nat) : Prop where
  cls : Cls K C
  na : ∀ f ∈ fl c, NoAttr K C f
theorem InsC.at {K : PySem.W.Frag} {C : Addr} {c i : Nat} {f : Str} (I : InsC K C c) (h : (fl c)[i]? = some f) : NoAttr K C f := I.na f (List.mem_of_getElem? h)
section
variable {C : Cc} {xo : Xo} {W : WX} {G G' G0 : Gd} {H H' H0 : Hp} {σ : L2.St} {env : Env} {E : XK}
theorem SOk.atI (k : SOk C G H) {n : Nat} {a : Addr} {c : Nat} {ds : List D} (hm : G.m[n]? = some a) (hs : G.s[n]? = some (.ins c ds)) : ∃ dx vs, H a = some (.ins (C.ad c) dx ((fl c).zip vs)) ∧ RepL C.K C.w C.ad G vs ds ∧ ds.length ≤ (fl c).length := (k.cell n a _ hm hs).2
theorem onI_out {α β : Type} {rep : Gd → Hp → β → α → Prop} {c n : Nat} {k : List D → Sto → Rs α} {Q : β → Hp → Prop} (o : Out C rep E G H Q (onI c n k)) : ∃ ds, G.s[n]? = some (.ins c ds) ∧ OutR C rep E G H Q (k ds G.s) := by
  unfold Out onI at o
  cases h : G.s[n]? with
  | none => rw [h] at o; exact False.elim o
  | some z =>
    cases z with
    | ins c2 ds =>
      rw [h] at o
      dsimp only at o
      by_cases e : c2 = c
      · subst e
        rw [if_pos rfl] at o
        exact ⟨ds, rfl, o⟩
      · rw [if_neg e] at o; exact False.elim o
    | dct _ => rw [h] at o; exact False.elim o
    | lst _ => rw [h] at o; exact False.elim o
/-- what a name of an attribute gives -/
theorem fld_run {c i : Nat} {f : Str} {x : V} {d : D} {Q : VK} (hf : (fl c)[i]? = some f) (e : SOk C G H) (rx : Rep C.K C.w C.ad G x d) (o : Out C (rV C) E G H Q (dFld c i d)) :
    ∃ a dx fs v, x = .ref a ∧ H a = some (.ins (C.ad c) dx fs) ∧ fs.lookup f = some v ∧ Q v H := by
  cases rx with
  | @mref n a hm =>
    obtain ⟨ds, hs, o⟩ := onI_out (c := c) (n := n) o
    obtain ⟨dx, vs, hH, r, hl⟩ := e.atI hm hs
    unfold oR at o
    cases h : ds[i]? with
    | none => rw [h] at o; exact False.elim o
    | some dd =>
      rw [h] at o
      obtain ⟨u, hu, ru⟩ := r.get h
      exact ⟨a, dx, _, u, rfl, hH, zip_at (fl_nd c) hf hu, o u G H (Step.refl e) ru⟩
  | _ => exact False.elim o
theorem fld_runS {c i : Nat} {f : Str} {x : V} {d : D} {xo : Xo} {D : Ends} {k : Dm.D → RS} (hf : (fl c)[i]? = some f) (ft : Fit0 C xo G0 H0 G H σ env) (rx : Rep C.K C.w C.ad G x d) (o : OutS C xo W G0 H0 G D (ofE (dFld c i d) env k)) :
    ∃ a dx fs v d2, x = .ref a ∧ H a = some (.ins (C.ad c) dx fs) ∧ fs.lookup f = some v ∧ Rep C.K C.w C.ad G v d2 ∧ OutS C xo W G0 H0 G D (k d2) := by
  cases rx with
  | @mref n a hm =>
    have o : OutS C xo W G0 H0 G D (ofE (cFld c i n) env k) := o
    unfold OutS ofE cFld onI at o
    cases h : G.s[n]? with
    | none => dsimp only at o; rw [h] at o; exact False.elim o
    | some z =>
      dsimp only at o
      rw [h] at o
      cases z with
      | dct _ => exact False.elim o
      | lst _ => exact False.elim o
      | ins c2 ds =>
        dsimp only at o
        by_cases ec : c2 = c
        · subst ec
          rw [if_pos rfl] at o
          obtain ⟨dx, vs, hH, r, hl⟩ := ft.f.ok.atI hm h
          unfold oR at o
          cases hd : ds[i]? with
          | none => rw [hd] at o; exact False.elim o
          | some d2 =>
            rw [hd] at o
            obtain ⟨u, hu, ru⟩ := r.get hd
            exact ⟨a, dx, _, u, d2, rfl, hH, zip_at (fl_nd c2) hf hu, ru, o⟩
        · rw [if_neg ec] at o; exact False.elim o
  | _ => exact False.elim o
theorem ce_fld {te : TE} {a : SE} {c i : Nat} {f : Str} (I : InsC C.K (C.ad c) c) (hf : (fl c)[i]? = some f) (h : CE C xo W te a) : CE C xo W (tFld C.K te f) (eU (dFld c i) a) := fun σ G H env ft Q o =>
  h σ G H env ft _ (Out.bind o fun d v G1 H1 _ s1 r1 o1 => by
    obtain ⟨a, dx, fs, u, rfl, h1, h2, h3⟩ := fld_run hf s1.gh r1 o1
    exact ⟨a, _, dx, fs, u, rfl, h1, I.cls, I.at hf, h2, h3⟩)
/-- a store to an attribute -/
theorem put_run {c i : Nat} {f : Str} {x y : V} {d e : D} {xo : Xo} {D : Ends} {k : Unit → RS} (hf : (fl c)[i]? = some f) (ft : Fit0 C xo G0 H0 G H σ env) (rx : Rep C.K C.w C.ad G x d) (ry : Rep C.K C.w C.ad G y e) (o : OutS C xo W G0 H0 G D (ofE (putM c i d e) env k)) :
    ∃ a dx fs, x = .ref a ∧ H a = some (.ins (C.ad c) dx fs) ∧ fs.length < 1000 ∧ ∃ G', ExG (G.put G'.s) G' ∧ Fit0 C xo G0 H0 G' (upd H a (.ins (C.ad c) dx (putF f y fs))) σ env ∧ OutS C xo W G0 H0 G' D (k ()) := by
  cases rx with
  | @mref n a hm =>
    unfold OutS ofE putM cPut onI at o
    cases h : G.s[n]? with
    | none => dsimp only at o; rw [h] at o; exact False.elim o
    | some z =>
      dsimp only at o
      rw [h] at o
      cases z with
      | dct _ => exact False.elim o
      | lst _ => exact False.elim o
      | ins c2 ds =>
        dsimp only at o
        by_cases ec : c2 = c
        · subst ec
          rw [if_pos rfl] at o
          obtain ⟨dx, vs, hH, r, hl⟩ := ft.f.ok.atI hm h
          have lim : ((fl c2).zip vs).length < 1000 := by
            rw [List.length_zip]
            have h1 : (fl c2).length ≤ 13 := by
              unfold fl
              rw [List.getD_eq_getElem?_getD]
              cases h : flT[c2 - 3000]? with
              | none => exact Nat.zero_le _
              | some l => exact (by decide +kernel : ∀ l ∈ flT, l.length ≤ 13) l (List.mem_of_getElem? h)
            have := Nat.min_le_left (fl c2).length vs.length
            omega
          by_cases hi : i < ds.length
          · rw [if_pos hi] at o
            dsimp only at o
            have hH2 : putF f y ((fl c2).zip vs) = (fl c2).zip (vs.set i y) := putF_set (fl_nd c2) hf (by rw [r.length]; exact hi)
            have st := Step.cellC (c' := .ins c2 (ds.set i e)) (o := .ins (C.ad c2) dx ((fl c2).zip (vs.set i y))) ft.f.ok hm h ⟨dx, vs.set i y, upd_same, r.set ry i, by rw [List.length_set]; exact hl⟩
            refine ⟨a, dx, _, rfl, hH, lim, G.put (G.s.set n (.ins c2 (ds.set i e))), ExG.refl _, ?_, o⟩
            rw [hH2]
            exact ft.step st
          · rw [if_neg hi] at o
            by_cases hj : i = ds.length
            · rw [if_pos hj] at o
              dsimp only at o
              have hH2 : putF f y ((fl c2).zip vs) = (fl c2).zip (vs ++ [y]) := putF_app (fl_nd c2) (by rw [r.length, ← hj]; exact hf)
              have hlt : i < (fl c2).length := (List.getElem?_eq_some_iff.mp hf).1
              have st := Step.cellC (c' := .ins c2 (ds ++ [e])) (o := .ins (C.ad c2) dx ((fl c2).zip (vs ++ [y]))) ft.f.ok hm h ⟨dx, vs ++ [y], upd_same, r.append (.cons ry .nil), by rw [List.length_append]; show ds.length + 1 ≤ _; omega⟩
              refine ⟨a, dx, _, rfl, hH, lim, G.put (G.s.set n (.ins c2 (ds ++ [e]))), ExG.refl _, ?_, o⟩
              rw [hH2]
              exact ft.step st
            · rw [if_neg hj] at o; exact False.elim o
        · rw [if_neg ec] at o; exact False.elim o
  | _ => exact False.elim o
theorem cs_fd {to te : TE} {b a : SE} {c i : Nat} {f : Str} (I : InsC C.K (C.ad c) c) (hf : (fl c)[i]? = some f) (ho : CE C xo W to b) (h : CE C xo W te a) : CS C xo W (L2.sFld C.K to te f) (sFd c i b a) := fun G0 H0 σ G H env ft D o =>
  h σ G H env ft.f _ (ofE_out ft o fun d v G1 H1 s1 r1 f1 o1 => ho σ G1 H1 env f1.f _ (ofE_out f1 o1 fun x u G2 H2 s2 r2 f2 o2 => by
    obtain ⟨a, dx, fs, rfl, h1, h2, G3, e3, f3, o3⟩ := put_run hf f2 r2 (Rp.mono s2.g r1) o2
    exact ⟨a, _, dx, fs, rfl, h1, I.cls, I.at hf, h2, o3 σ G3 _ (ExG.refl _) f3⟩))
theorem cs_fdAug {to te : TE} {b a : SE} {c i : Nat} {f : Str} {r : R2} {op : D → D → R D} (I : InsC C.K (C.ad c) c) (hf : (fl c)[i]? = some f) (hop : OpD C r op) (ho : CE C xo W to b) (h : CE C xo W te a) : CS C xo W (L2.sFldAug C.K to te r f) (sFdAug c i op b a) := fun G0 H0 σ G H env ft D o =>
  ho σ G H env ft.f _ (ofE_out ft o fun x u G1 H1 s1 r1 f1 o1 => by
    obtain ⟨a, dx, fs, v, d, rfl, h1, h2, r2, o2⟩ := fld_runS hf f1 r1 o1
    refine ⟨a, _, dx, fs, v, rfl, h1, I.cls, I.at hf, h2, h σ G1 H1 env f1.f _ (ofE_out f1 o2 fun y w G3 H3 s3 r3 f3 o3 => hop G3 H3 v w d y s3.gh (Rp.mono s3.g r2) r3 (WE W σ) _ (ofE_out f3 o3 fun z q G4 H4 s4 r4 f4 o4 => ?_))⟩
    obtain ⟨a2, dx2, fs2, ea, h3, h4, G5, e5, f5, o5⟩ := put_run hf f4 (Rp.mono s4.g (Rp.mono s3.g r1)) r4 o4
    cases ea
    exact ⟨dx2, fs2, h3, h4, o5 σ G5 _ (ExG.refl _) f5⟩)
end
end Dm
set_option Elab.async false
set_option linter.all false
set_option maxRecDepth 100000
set_option maxHeartbeats 4000000
namespace Dm
open PySem L2 Evl RZ Wm
/-! ### methods of instances -/
def tMethS (C : Addr) (m : Str) (sp : Sp) (E : L2.St → XK) (ta : TE) (t : TA) : TE := fun σ H Q => ta σ H fun x H1 => ∃ a dx fs, x = .ref a ∧ H1 a = some (.ins C dx fs) ∧ fs.lookup m = none ∧ t σ H1 fun vs H2 => sp (x :: vs) H2 Q (E σ)
/-- a def of a class, by its promise -/
structure DfM (P : Program) (w : World) (K : PySem.W.Frag) (mg : Str → Option Value) (base : Heap) (k : Nat) (C : Addr) (m : Str) (a : Addr) (fd : FuncData) (ps : List Str) (sp : Sp) : Prop where
  ok : FnOk P w K mg base (L2N.CX P w) k a fd ps sp
  mt : Meth K C m a
  b : Binds K fd ps []
  cl : Cls K C
section
variable {X : Cx} {k : Nat} {C f : Addr} {fd : FuncData} {ps : List Str} {sp : Sp} {E : L2.St → XK} {m : Str} {pos apos : Pos} {e o : Expr} {es : List Expr} {ta : TE} {t : TA}
theorem pe_methS {pl : Sem Bool} (he : PE X o ta) (O : DfM X.prog X.w X.K X.mg X.base k C m f fd ps sp) (hr : Room k X.A) (hx : ∀ σ, PassesAt (L2N.CX X.prog X.w) X σ (E σ)) (ha : PA X (e :: es) t)
    (hst : starEach (e :: es) X.env = (false, eval e X.env) :: starEach es X.env := by rfl) (hpl : (backTo pos (starEach es X.env)).any (·.1) = false := by rfl)
    (ht : eval (.Call (.Attribute o m apos) (e :: es) [] pos) X.env = (do
      let ov ← eval o X.env
      standAt apos.atName
      let (f, first) ← holding [ov] (getMethod ov m pl)
      callWith pos f first (backTo pos (starEach (e :: es) X.env)) (backToKw pos (keywordEach [] X.env))) := by rfl) :
    PE X (.Call (.Attribute o m apos) (e :: es) [] pos) (tMethS C m sp E ta t) := by
  refine ⟨fun pins s σ H Q I h => ?_⟩
  refine PySem.W.methodCall_KW (pl := pl) (thn (he.run pins s σ H _ I h) fun u s1 ⟨x, H1, I1, rx, a, dx, fs, ex, ea, l, q⟩ => ?_) ht
  subst ex
  obtain rfl : u = Value.ref a := rx
  refine getmeth_ok I1 ea O.cl O.mt l ?_
  refine PySem.W.callWith_K (first := [.ref a]) (h₀ := X.base) I.ok.mod.kin O.mt.kp (thn (ha.run pos pins s1 σ H1 _ I1 q) fun us s2 ⟨vs, H2, I2, r, q2⟩ => ⟨I2.kIn, ?_⟩) hst hpl
  exact run_fnS (us := .ref a :: us) (vs := .ref a :: vs) O.ok hr O.b (hx σ) I2 (.cons rfl r) q2
theorem pe_methS0 {pl : Sem Bool} (he : PE X o ta) (O : DfM X.prog X.w X.K X.mg X.base k C m f fd ps sp) (hr : Room k X.A) (hx : ∀ σ, PassesAt (L2N.CX X.prog X.w) X σ (E σ))
    (ht : eval (.Call (.Attribute o m apos) [] [] pos) X.env = (do
      let ov ← eval o X.env
      standAt apos.atName
      let (f, first) ← holding [ov] (getMethod ov m pl)
      callWith pos f first (backTo pos (starEach [] X.env)) (backToKw pos (keywordEach [] X.env))) := by rfl) :
    PE X (.Call (.Attribute o m apos) [] [] pos) (tMethS C m sp E ta tNil) := by
  refine ⟨fun pins s σ H Q I h => ?_⟩
  refine PySem.W.methodCall_KW (pl := pl) (thn (he.run pins s σ H _ I h) fun u s1 ⟨x, H1, I1, rx, a, dx, fs, ex, ea, l, q⟩ => ?_) ht
  subst ex
  obtain rfl : u = Value.ref a := rx
  refine getmeth_ok I1 ea O.cl O.mt l ?_
  exact PySem.W.callWith_K0 (first := [.ref a]) I1.kIn O.mt.kp (run_fnS (us := [.ref a]) (vs := [.ref a]) O.ok hr O.b (hx σ) I1 (.cons rfl .nil) q)
end
/-! ### new instances -/
def tMakeS (C : Addr) (sp : Sp) (E : L2.St → XK) (t : TA) : TE := fun σ H Q => t σ H fun vs H1 => ∀ x dx, H1 x = none → H1 dx = none → dx ≠ x → sp (.ref x :: vs) (upd (upd H1 dx (.own x)) x (.ins C dx [])) (fun v H2 => v = .non ∧ Q (.ref x) H2) (E σ)
/-- an __init__, by its promise -/
structure DfI (P : Program) (w : World) (K : PySem.W.Frag) (mg : Str → Option Value) (base : Heap) (k : Nat) (x : Str) (C a : Addr) (fd : FuncData) (ps : List Str) (sp : Sp) : Prop where
  ok : FnOk P w K mg base (L2N.CX P w) k a fd ps sp
  k : Mk K C a
  g : mg x = some (.ref C)
  b : Binds K fd ps []
section
variable {X : Cx} {CX : CXT} {k : Nat} {C f : Addr} {fd : FuncData} {ps : List Str} {sp : Sp} {E : L2.St → XK} {x : Str} {p pos : Pos} {e : Expr} {es : List Expr} {t : TA}
theorem run_makeS {pins : List (Addr × Obj)} {σ : L2.St} {H : Hp} {s : Shared} {Q : VK} {us : List Value} {vs : List V} (M : Mk X.K C f) (F : FnOk X.prog X.w X.K X.mg X.base CX k f fd ps sp) (hr : Room (k + 1) X.A) (hb : Binds X.K fd ps [])
    (hx : PassesAt CX X σ (E σ)) (I : Inv X pins σ H s) (r : Vals vs us)
    (h : ∀ x dx, H x = none → H dx = none → dx ≠ x → sp (.ref x :: vs) (upd (upd H dx (.own x)) x (.ins C dx [])) (fun v H2 => v = .non ∧ Q (.ref x) H2) (E σ)) :
    wpAny (model X.prog X.w) X.A (call (.ref C) us) (EP X pins σ Q) X.xe s := by
  have hq := h (s.heap.objs.size + 1) s.heap.objs.size (I.hok.fresh (Nat.le_succ _)) (I.hok.fresh (Nat.le_refl _)) (Nat.ne_of_lt (Nat.lt_succ_self _))
  have I2 := Inv.made (C := C) I
  have r2 : Vals (V.ref (s.heap.objs.size + 1) :: vs) (Value.ref (s.heap.objs.size + 1) :: us) := .cons rfl r
  have hl : (Value.ref (s.heap.objs.size + 1) :: us).length = ps.length := by
    have e := r2.length
    rw [F.len _ _ _ _ hq] at e
    exact e.symm
  have bb := hb _ (Value.ref (s.heap.objs.size + 1) :: us) I2.kIn (by rw [List.append_nil]; exact hl)
  rw [List.append_nil] at bb
  refine wpAny_call (make_map (f := f) I.kIn M.makes M.init (beq_iff_eq.mp M.fn) (codeAny_mono (F.run _ X.stack _ _ ⟨Value.ref (s.heap.objs.size + 1) :: us, []⟩ (Value.ref (s.heap.objs.size + 1) :: us) _ _ (E σ) (hr.make C us [])
    (I2.env0.make C us []) bb r2 hq) fun r s' hq' => ?_))
  cases r with
  | error e => exact hx pins _ _ e s' I2 hq'
  | ok fl =>
    cases fl with
    | ret u =>
      obtain ⟨v, H', I3, rv, ev, q3⟩ := I2.after hq'
      subst ev
      exact ⟨rv, ⟨V.ref (s.heap.objs.size + 1), H', I3, rfl, q3⟩⟩
    | next => exact False.elim hq'
    | brk => exact False.elim hq'
    | cont => exact False.elim hq'
theorem pe_makeS (O : DfI X.prog X.w X.K X.mg X.base k x C f fd ps sp) (hr : Room (k + 1) X.A) (hg : Gl X x) (hx : ∀ σ, PassesAt (L2N.CX X.prog X.w) X σ (E σ))
    (ha : PA X (e :: es) t) (hdb : (x == ("__debug__" : Str)) = false := by decide) (he : starEach (e :: es) X.env = (false, eval e X.env) :: starEach es X.env := by rfl) (hpl : (backTo pos (starEach es X.env)).any (·.1) = false := by rfl) :
    PE X (.Call (.Name x p) (e :: es) [] pos) (tMakeS C sp E t) := by
  refine ⟨fun pins s σ H Q I h => ?_⟩
  refine wpAny_Call_Name_kw (ld_glob I hg O.g ?_ hdb)
  refine PySem.W.callWith_K (h₀ := X.base) I.ok.mod.kin O.k.kp (thn (ha.run pos pins s σ H _ I h) fun us s1 ⟨vs, H1, I1, r, q⟩ => ⟨I1.kIn, ?_⟩) he hpl
  exact run_makeS O.k O.ok hr O.b (hx σ) I1 r q
theorem pe_makeS0 (O : DfI X.prog X.w X.K X.mg X.base k x C f fd ps sp) (hr : Room (k + 1) X.A) (hg : Gl X x) (hx : ∀ σ, PassesAt (L2N.CX X.prog X.w) X σ (E σ))
    (hdb : (x == ("__debug__" : Str)) = false := by decide) : PE X (.Call (.Name x p) [] [] pos) (tMakeS C sp E tNil) := by
  refine ⟨fun pins s σ H Q I h => ?_⟩
  refine wpAny_Call_Name_kw (ld_glob I hg O.g ?_ hdb)
  exact PySem.W.callWith_K0 I.kIn O.k.kp (run_makeS (us := []) O.k O.ok hr O.b (hx σ) I .nil h)
end
section
variable {C : Cc} {xo : Xo} {W : WX} {G G' G0 : Gd} {H H' H0 : Hp} {σ : L2.St} {env : Env} {E : XK}
theorem isI_bind {β γ δ : Type} {rep : Gd → Hp → δ → γ → Prop} {c : Nat} {x : V} {d : D} {K : Unit → R γ} {Q : δ → Hp → Prop} (e : SOk C G H) (rx : Rep C.K C.w C.ad G x d) (o : Out C rep E G H Q ((isI c d).bind K)) :
    ∃ a dx vs, x = .ref a ∧ H a = some (.ins (C.ad c) dx ((fl c).zip vs)) ∧ Out C rep E G H Q (K ()) := by
  cases rx with
  | @mref n a hm =>
    have o : Out C rep E G H Q ((onI c n fun _ s => Rs.ok () s).bind K) := o
    unfold Out R.bind onI at o
    dsimp only at o
    cases h : G.s[n]? with
    | none => rw [h] at o; exact False.elim o
    | some z =>
      rw [h] at o
      cases z with
      | dct _ => exact False.elim o
      | lst _ => exact False.elim o
      | ins c2 ds =>
        dsimp only at o
        by_cases ec : c2 = c
        · subst ec
          rw [if_pos rfl] at o
          obtain ⟨dx, vs, hH, r, hl⟩ := e.atI hm h
          exact ⟨a, dx, vs, rfl, hH, o⟩
        · rw [if_neg ec] at o; exact False.elim o
  | _ => exact False.elim o
theorem ce_meth {c : Nat} {md : List D → R D} {m : Str} {to : TE} {ta : TA} {o : SE} {a : SA} (hm : m ∉ fl c) (ho : CE C xo W to o) (ha : CA C xo W ta a) : CE C xo W (tMethS (C.ad c) m (SpD C md) (WE W) to ta) (eMeth c md o a) := fun σ G H env ft Q q =>
  ho σ G H env ft _ (Out.bind q fun d v G1 H1 _ s1 r1 o1 => by
    obtain ⟨p, dx, vs, rfl, hH, o2⟩ := isI_bind (β := Unit) s1.gh r1 o1
    exact ⟨p, dx, _, rfl, hH, zip_none hm, ha σ G1 H1 env (ft.step s1) _ (Out.bind o2 fun ds ws G2 H2 _ s2 r2 o3 => ⟨G2, d :: ds, s2.gh, .cons (Rp.mono s2.g r1) r2, o3⟩)⟩)
theorem cn_meth {c : Nat} {md : List D → R (List D)} {m : Str} {to : TE} {ta : TA} {o : SE} {a : SA} (hm : m ∉ fl c) (ho : CE C xo W to o) (ha : CA C xo W ta a) : CN C xo W (tMethS (C.ad c) m (SpL C md) (WE W) to ta) (lMeth c md o a) := fun σ G H env ft Q q =>
  ho σ G H env ft _ (Out.bind q fun d v G1 H1 _ s1 r1 o1 => by
    obtain ⟨p, dx, vs, rfl, hH, o2⟩ := isI_bind (β := Unit) s1.gh r1 o1
    refine ⟨p, dx, _, rfl, hH, zip_none hm, ha σ G1 H1 env (ft.step s1) _ (Out.bind o2 fun ds ws G2 H2 _ s2 r2 o3 => ⟨G2, d :: ds, s2.gh, .cons (Rp.mono s2.g r1) r2, ?_⟩)⟩
    unfold Out at o3 ⊢
    cases c : md (d :: ds) G2.s with
    | bad => rw [c] at o3; exact o3
    | exc k fs t => rw [c] at o3; exact o3
    | ok xs t =>
      rw [c] at o3
      intro v G3 H3 s3 q
      exact o3 v G3 H3 s3 ⟨q.1, fun p hp => s1.fresh (s2.fresh (q.2 p hp))⟩)
/-- a new instance, its __init__ run -/
theorem mk_run {c : Nat} {md : List D → R D} {vs : List V} {ds : List D} {Q : VK} (e : SOk C G H) (r : RepL C.K C.w C.ad G vs ds) (o : Out C (rV C) E G H Q (mkI c md ds)) :
    ∀ x dx, H x = none → H dx = none → dx ≠ x → SpD C md (.ref x :: vs) (upd (upd H dx (.own x)) x (.ins (C.ad c) dx [])) (fun v H2 => v = .non ∧ Q (.ref x) H2) E := by
  intro x dx hx hd hne
  have hx2 : upd H dx (.own x) x = none := by rw [upd_ne (Ne.symm hne)]; exact hx
  have ex : Ex H (upd (upd H dx (.own x)) x (.ins (C.ad c) dx [])) := (Ex.new hd).trans (Ex.new hx2)
  obtain ⟨st, hn⟩ := (Step.ofH e ex).publishC (p := x) (c' := .ins c []) (fresh_back e.e hx) (e.fresh hx) hx ⟨dx, [], by rw [List.zip_nil_right]; exact upd_same, .nil, Nat.zero_le _⟩
  refine ⟨_, .mref G.s.length :: ds, st.gh, .cons (.mref hn) (RpL.mono0 st.g.g st.g.m r), ?_⟩
  have o : OutR C (rV C) E G H Q (R.bind (md (.mref G.s.length :: ds)) (fun r => (isNon r).bind fun _ => .ok (.mref G.s.length)) (G.s ++ [.ins c []])) := o
  unfold R.bind at o
  unfold Out
  show OutR _ _ _ _ _ _ (md (.mref G.s.length :: ds) (G.s ++ [.ins c []]))
  cases h : md (.mref G.s.length :: ds) (G.s ++ [.ins c []]) with
  | bad => rw [h] at o; exact False.elim o
  | exc k fs t =>
    rw [h] at o
    intro dd G' H' s2 q
    exact o dd G' H' (st.trans s2) q
  | ok d t =>
    rw [h] at o
    dsimp only at o
    intro v G' H' s2 r2
    have z : G'.s = t := s2.g.s
    subst z
    cases r2 with
    | non => exact ⟨rfl, o (.ref x) G' H' (st.trans s2) (.mref (s2.g.m _ _ hn))⟩
    | _ => exact False.elim o
theorem ce_make {c : Nat} {md : List D → R D} {ta : TA} {a : SA} (ha : CA C xo W ta a) : CE C xo W (tMakeS (C.ad c) (SpD C md) (WE W) ta) (eMake c md a) := fun σ G H env ft Q q =>
  ha σ G H env ft _ (Out.bind q fun ds vs G1 H1 _ s1 r1 o1 => mk_run s1.gh r1 o1)
end
end Dm
set_option Elab.async false
set_option linter.all false
set_option maxRecDepth 100000
set_option maxHeartbeats 4000000
namespace Dm
open PySem L2 Evl RZ Wm RT
/-! ### what is walked, seen in the store at each turn -/
abbrev Src := Nat → Sto → Option (Option D)
def forMGo (src : Src) (g : SG) (b : SS) : Nat → Nat → Env → RS
  | 0, _, _ => .bad
  | q + 1, i, env => fun s => match src i s with
    | none => RSr.bad
    | some none => RSr.nx env s
    | some (some d) => ofG (g d env) (fun e2 => thenW (b e2) (forMGo src g b q (i + 1))) s
def sForM (it : Env → R Src) (g : SG) (b : SS) : SS := fun env => ofE (it env) env fun src => forMGo src g b 100001 0 env
def lcMGo (src : Src) (g : SG) (t : ST) (e : SE) (env : Env) : Nat → Nat → List D → R (List D)
  | 0, _, _ => .bad
  | q + 1, i, acc => fun s => match src i s with
    | none => Rs.bad
    | some none => Rs.ok acc s
    | some (some d) => match g d env with
      | some env2 => ((noX (t env2)).bind fun k => if k = true then (noX (e env2)).bind fun x => lcMGo src g t e env q (i + 1) (acc ++ [x]) else lcMGo src g t e env q (i + 1) acc) s
      | none => Rs.bad
def lLcM (it : Env → R Src) (g : SG) (t : ST) (e : SE) (vs : List Nat) : SA := fun env => (it env).bind fun src => lcMGo src g t e (wipeS env vs) 40001 0 []
/-- a list that is a cell; its items with their numbers; backwards -/
def srcL (n : Nat) : Src := fun i s => match s[n]? with
  | some (.lst xs) => some xs[i]?
  | _ => none
def srcE (n : Nat) : Src := fun i s => match s[n]? with
  | some (.lst xs) => some (xs[i]?.map fun d => .tup [.int i, d])
  | _ => none
def srcV (n L : Nat) : Src := fun i s => if i < L then (match s[n]? with
  | some (.lst xs) => (match xs[L - 1 - i]? with
    | some d => some (some d)
    | none => none)
  | _ => none) else some none
def mL (o : SE) : Env → R Src := fun env => (o env).bind fun x => match x with
  | .mref n => onL n fun _ s => Rs.ok (srcL n) s
  | _ => .bad
def mE (o : SE) : Env → R Src := fun env => (o env).bind fun x => match x with
  | .mref n => onL n fun _ s => Rs.ok (srcE n) s
  | _ => .bad
def mV (o : SE) : Env → R Src := fun env => (o env).bind fun x => match x with
  | .mref n => onL n fun xs s => Rs.ok (srcV n xs.length) s
  | _ => .bad
/-- what an iterator gives, for each store that may come -/
def SrvM (C : Cc) (J : It) (G : Gd) (src : Src) : Prop := ∀ (i : Nat) H G1, ExG (G.put G1.s) G1 → SOk C G1 H →
  (src i G1.s = some none → J.stop i H) ∧ ∀ d, src i G1.s = some (some d) → J.go i H ∧ ∀ x H', J.yld i H x H' → ∃ G', Step C G1 H G' H' ∧ Rep C.K C.w C.ad G' x d
def CIM (C : Cc) (xo : Xo) (W : WX) (wi : TI) (f : Env → R Src) : Prop := ∀ σ G H env, Fit C xo G H σ env → ∀ R : It → Hp → Prop, Out C (fun G' _ J src => SrvM C J G' src) (WE W σ) G H R (f env) → wi σ H R
section
variable {C : Cc} {xo : Xo} {W : WX} {G G' G0 : Gd} {H H' H0 : Hp} {σ : L2.St} {env : Env} {E : XK}
theorem cs_forM {wi : TI} {g : TG} {js : List Nat} {t : TS} {it : Env → R Src} {gs : SG} {b : SS} (hi : CIM C xo W wi it) (hg : CG C xo g js gs) (h1 : CS C xo W t b) : CS C xo W (tFor wi g t) (sForM it gs b) := fun G0 H0 σ G H env f D o =>
  hi σ G H env f.f _ (ofE_out f o fun src J G1 H1 s r f1 o1 => by
    refine ⟨fun i m σ H => ∃ env G, ExG (G1.put G.s) G ∧ Fit0 C xo G0 H0 G H σ env ∧ OutS C xo W G0 H0 G D (forMGo src gs b m i env), ⟨100001, env, G1, ExG.refl _, f1, o1⟩, ?_⟩
    rintro i m σ H ⟨env, G, e, f, o⟩
    cases m with
    | zero => exact o.elim
    | succ m =>
      obtain ⟨k1, k2⟩ := r i H G e f.f.ok
      unfold OutS forMGo at o
      cases c : src i G.s with
      | none => rw [c] at o; exact False.elim o
      | some z =>
        rw [c] at o
        cases z with
        | none => exact Or.inl ⟨k1 c, o σ G H (ExG.refl _) f⟩
        | some d =>
          obtain ⟨k3, k4⟩ := k2 d c
          refine Or.inr ⟨k3, fun σ H => ∃ env G, ExG (G1.put G.s) G ∧ Fit0 C xo G0 H0 G H σ env ∧ OutS C xo W G0 H0 G D (forMGo src gs b m (i + 1) env), fun σ' H' q => ⟨m, Nat.lt_succ_self m, q⟩, fun x H' y => ?_⟩
          obtain ⟨G', s2, rd⟩ := k4 x H' y
          have o : OutS C xo W G0 H0 G D (ofG (gs d env) fun e2 => thenW (b e2) (forMGo src gs b m (i + 1))) := o
          have o := OutS.mono s2.g o
          have f := f.step s2
          unfold ofG at o
          cases c2 : gs d env with
          | none => rw [c2] at o; exact o.elim
          | some env2 =>
            rw [c2] at o
            refine hg G0 H0 σ G' H' env f x d env2 rd c2 _ fun σ2 _ _ f2 => h1 G0 H0 σ2 G' H' env2 f2 _ ?_
            exact thenW_out o fun e3 σ3 G3 H3 e3' f3 o3 => ⟨e3, G3, (e.trans s2.g).trans e3', f3, o3⟩)
theorem cn_lcM {wi : TI} {g : TG} {js vs : List Nat} {tt : TT} {te : TE} {it : Env → R Src} {gs : SG} {t : ST} {e : SE} (hi : CIM C xo W wi it) (hg : CG C xo g js gs) (hj : ∀ i, i ∈ js → i ∈ vs) (ht : CT C xo W0 tt t) (he : CE C xo W0 te e) :
    CN C xo W (tLc wi g tt te vs) (lLcM it gs t e vs) := fun σ G H env f Q o =>
  hi σ G H env f _ (Out.bind o fun src J G1 H1 _ s r o1 => by
    intro Dl hDl
    have f1 := (f.step s).wipe vs
    have hDH := s.fresh hDl
    refine ⟨fun i m H2 => ∃ G ws acc, ExG (G1.put G.s) G ∧ Step C (G1.put G.s) H1 G H2 ∧ G.g Dl = none ∧ Dl ∉ G.m ∧ H2 Dl = some (.lst ws) ∧ ws.length ≤ i ∧ i + m ≤ 40001 ∧ RepL C.K C.w C.ad G ws acc ∧
      Out C (rF C H) (WE W σ) (G1.put G.s) H1 Q (lcMGo src gs t e (wipeS env vs) m i acc), ⟨40001, ?_⟩, ?_⟩
    · exact ⟨G1, [], [], ExG.refl _, Step.ofH s.gh (Ex.new hDl), fresh_back s.gh.e hDl, s.gh.fresh hDl, upd_same, Nat.le_refl _, Nat.le_refl _, .nil, o1⟩
    · rintro i m H2 ⟨G, ws, acc, e1, s1, hG, hm, hH, hw, him, rl, o⟩
      cases m with
      | zero => exact o.elim
      | succ m =>
        obtain ⟨k1, k2⟩ := r i H2 G e1 s1.gh
        unfold Out lcMGo at o
        dsimp only at o
        cases c : src i G.s with
        | none => rw [c] at o; exact False.elim o
        | some z =>
          rw [c] at o
          cases z with
          | none =>
            refine Or.inl ⟨k1 c, ?_⟩
            have up : ∀ p, p ∈ G1.m → p ∈ G.m := fun p h => by
              obtain ⟨n, hn⟩ := List.getElem?_of_mem h
              exact List.mem_of_getElem? (e1.m n p hn)
            exact o (.ref Dl) G H2 s1 ⟨⟨Dl, ws, rfl, hG, hm, hH, rl⟩, fun p hp => by cases hp; exact hDH⟩
          | some d =>
            obtain ⟨k3, k4⟩ := k2 d c
            refine Or.inr ⟨k3, fun H2 => ∃ G ws acc, ExG (G1.put G.s) G ∧ Step C (G1.put G.s) H1 G H2 ∧ G.g Dl = none ∧ Dl ∉ G.m ∧ H2 Dl = some (.lst ws) ∧ ws.length ≤ i + 1 ∧ i + 1 + m ≤ 40001 ∧ RepL C.K C.w C.ad G ws acc ∧
              Out C (rF C H) (WE W σ) (G1.put G.s) H1 Q (lcMGo src gs t e (wipeS env vs) m (i + 1) acc), fun H' q => ⟨m, Nat.lt_succ_self m, q⟩, fun x H' y => ?_⟩
            obtain ⟨G', s2, rd⟩ := k4 x H' y
            have es : G'.s = G.s := s2.g.s
            have s12 : Step C (G1.put G'.s) H1 G' H' := by rw [es]; exact s1.trans s2
            have f2 := f1.step s12
            cases c2 : gs d (wipeS env vs) with
            | none => dsimp only at o; rw [c2] at o; exact False.elim o
            | some env2 =>
              dsimp only at o
              rw [c2] at o
              dsimp only at o
              have o : Out C (rF C H) (WE W σ) (G1.put G'.s) H1 Q ((noX (t env2)).bind fun k => if k = true then (noX (e env2)).bind fun x => lcMGo src gs t e (wipeS env vs) m (i + 1) (acc ++ [x]) else lcMGo src gs t e (wipeS env vs) m (i + 1) acc) := by
                unfold Out
                rw [es]
                exact o
              refine hg _ _ _ G' H' _ f2.zero x d env2 rd c2 _ fun σ2 l2 k2 f3 => ⟨wipe_same l2 k2 hj, ?_⟩
              have hG2 := s2.out Dl hG (by rw [hH]; exact nofun)
              have hm2 := s2.om Dl hm (by rw [hH]; exact nofun)
              have hH2 := s2.h _ _ hH hm
              refine ht σ2 G' H' env2 f3.f _ (noX_ok (Gb := G1.put G'.s) rfl o fun k v G3 H3 s3 r3 o3 => ?_)
              subst r3
              have s13 := s12.trans s3
              have hG3 := s3.out Dl hG2 (by rw [hH2]; exact nofun)
              have hm3 := s3.om Dl hm2 (by rw [hH2]; exact nofun)
              have hH3 := s3.h _ _ hH2 hm2
              have e3 : ExG (G1.put G3.s) G3 := (ExG.trans (G := G1.put G'.s) s12.g s3.g)
              cases v with
              | false => exact ⟨G3, ws, acc, e3, s13, hG3, hm3, hH3, Nat.le_succ_of_le hw, by omega, (rl.mono s2.g).mono s3.g, o3⟩
              | true =>
                rw [if_pos rfl]
                refine he σ2 G3 H3 env2 (f3.f.step s3) _ (noX_ok (Gb := G1.put G3.s) rfl o3 fun z u G4 H4 s4 r4 o4 => ?_)
                have hG4 := s4.out Dl hG3 (by rw [hH3]; exact nofun)
                have hm4 := s4.om Dl hm3 (by rw [hH3]; exact nofun)
                have hH4 := s4.h _ _ hH3 hm3
                have s5 := s13.trans s4
                exact ⟨ws, hH4, sz_lt (by omega), G4, ws ++ [u], acc ++ [z], ExG.trans (G := G1.put G3.s) e3 s4.g, ⟨s5.g, s5.gh.mut hG4 hm4, fun p o h hp => by
                  have z : p ≠ Dl := fun z => by rw [z, hDl] at h; cases h
                  rw [upd_ne z]
                  exact s5.h p o h hp, s5.out, s5.om⟩, hG4, hm4, upd_same, by rw [List.length_append]; exact Nat.succ_le_succ hw, by omega, (((rl.mono s2.g).mono s3.g).mono s4.g).append (.cons r4 .nil), o4⟩)
theorem srcL_out {n i : Nat} {s : Sto} {z : Option D} (h : srcL n i s = some z) : ∃ xs, s[n]? = some (.lst xs) ∧ xs[i]? = z := by
  unfold srcL at h
  cases c : s[n]? with
  | none => rw [c] at h; cases h
  | some k =>
    rw [c] at h
    cases k with
    | lst xs => exact ⟨xs, rfl, Option.some.inj h⟩
    | dct _ => cases h
    | ins _ _ => cases h
theorem at_len {vs : List V} {ds : List D} {i : Nat} (r : RepL C.K C.w C.ad G vs ds) (h : ds[i]? = none) : vs.length ≤ i := by
  rw [r.length]
  exact List.getElem?_eq_none_iff.mp h
theorem srvL {n : Nat} {a : Addr} (hm : G.m[n]? = some a) : SrvM C (Itl C.K a) G (srcL n) := fun i H G1 e ok => by
  have hm1 := e.m n a hm
  refine ⟨fun h => ?_, fun d h => ?_⟩
  · obtain ⟨xs, hs, hx⟩ := srcL_out h
    obtain ⟨_, vs, hH, r⟩ := ok.at hm1 hs
    exact ⟨vs, sq_of hH, at_len r hx⟩
  · obtain ⟨xs, hs, hx⟩ := srcL_out h
    obtain ⟨_, vs, hH, r⟩ := ok.at hm1 hs
    obtain ⟨u, hu, ru⟩ := r.get hx
    refine ⟨⟨vs, u, sq_of hH, hu⟩, fun x H' y => ?_⟩
    obtain ⟨rfl, y2⟩ := y
    have := y2 vs (sq_of hH)
    rw [hu] at this
    cases this
    exact ⟨G1, Step.refl ok, ru⟩
theorem cim_L {te : TE} {f : SE} (h : CE C xo W te f) : CIM C xo W (iList C.K te) (mL f) := fun σ G H env ft R o =>
  h σ G H env ft _ (Out.bind o fun d v G1 H1 hq s r o1 => by
    cases r with
    | @mref n a hm =>
      obtain ⟨xs, hs, o1⟩ := onL_out o1
      obtain ⟨_, vs, hH, r⟩ := s.gh.at hm hs
      exact ⟨a, rfl, ⟨vs, sq_of hH⟩, o1 (Itl C.K a) G1 H1 (Step.refl s.gh) (srvL hm)⟩
    | _ => exact False.elim o1)
theorem srvE {n : Nat} {a : Addr} (hm : G.m[n]? = some a) : SrvM C (Ite C.K a) G (srcE n) := fun i H G1 e ok => by
  have hm1 := e.m n a hm
  have go : ∀ z, srcE n i G1.s = some z → ∃ xs, G1.s[n]? = some (.lst xs) ∧ (xs[i]?.map fun d => .tup [.int i, d]) = z := fun z h => by
    unfold srcE at h
    cases c : G1.s[n]? with
    | none => rw [c] at h; cases h
    | some k =>
      rw [c] at h
      cases k with
      | lst xs => exact ⟨xs, rfl, Option.some.inj h⟩
      | dct _ => cases h
      | ins _ _ => cases h
  refine ⟨fun h => ?_, fun d h => ?_⟩
  · obtain ⟨xs, hs, hx⟩ := go _ h
    obtain ⟨_, vs, hH, r⟩ := ok.at hm1 hs
    exact ⟨vs, sq_of hH, at_len r (Option.map_eq_none_iff.mp hx)⟩
  · obtain ⟨xs, hs, hx⟩ := go _ h
    obtain ⟨_, vs, hH, r⟩ := ok.at hm1 hs
    obtain ⟨d0, hx0, rfl⟩ := Option.map_eq_some_iff.mp hx
    obtain ⟨u, hu, ru⟩ := r.get hx0
    refine ⟨⟨vs, u, sq_of hH, hu⟩, fun x H' y => ?_⟩
    obtain ⟨T, u2, rfl, hT, rfl, y2⟩ := y
    have := y2 vs (sq_of hH)
    rw [hu] at this
    cases this
    exact pair_step ok hT (.int _) ru
theorem cim_E {te : TE} {f : SE} (h : CE C xo W te f) : CIM C xo W (iEnum C.K (tCons te tNil)) (mE f) := fun σ G H env ft R o =>
  h σ G H env ft _ (Out.bind o fun d v G1 H1 hq s r o1 => by
    cases r with
    | @mref n a hm =>
      obtain ⟨xs, hs, o1⟩ := onL_out o1
      obtain ⟨_, vs, hH, r⟩ := s.gh.at hm hs
      exact ⟨a, vs, rfl, sq_of hH, o1 (Ite C.K a) G1 H1 (Step.refl s.gh) (srvE hm)⟩
    | _ => exact False.elim o1)
theorem srvV {n L : Nat} {a : Addr} (hm : G.m[n]? = some a) : SrvM C (Itv C.K a L) G (srcV n L) := fun i H G1 e ok => by
  have hm1 := e.m n a hm
  unfold srcV
  refine ⟨fun h => ?_, fun d h => ?_⟩
  · by_cases hi : i < L
    · rw [if_pos hi] at h
      split at h
      · split at h <;> cases h
      · cases h
    · exact Nat.le_of_not_lt hi
  · by_cases hi : i < L
    · rw [if_pos hi] at h
      cases c : G1.s[n]? with
      | none => rw [c] at h; cases h
      | some k =>
        rw [c] at h
        cases k with
        | dct _ => cases h
        | ins _ _ => cases h
        | lst xs =>
          dsimp only at h
          cases hx : xs[L - 1 - i]? with
          | none => rw [hx] at h; cases h
          | some d2 =>
            rw [hx] at h
            cases h
            obtain ⟨_, vs, hH, r⟩ := ok.at hm1 c
            obtain ⟨u, hu, ru⟩ := r.get hx
            refine ⟨⟨hi, vs, u, sq_of hH, hu⟩, fun x H' y => ?_⟩
            obtain ⟨rfl, y2⟩ := y
            have := y2 vs (sq_of hH)
            rw [hu] at this
            cases this
            exact ⟨G1, Step.refl ok, ru⟩
    · rw [if_neg hi] at h; cases h
theorem cim_V {te : TE} {f : SE} (h : CE C xo W te f) : CIM C xo W (iRevA C.K te) (mV f) := fun σ G H env ft R o =>
  h σ G H env ft _ (Out.bind o fun d v G1 H1 hq s r o1 => by
    cases r with
    | @mref n a hm =>
      obtain ⟨xs, hs, o1⟩ := onL_out o1
      obtain ⟨_, vs, hH, r⟩ := s.gh.at hm hs
      refine ⟨a, vs, rfl, Or.inl ⟨sq_of hH, ?_⟩⟩
      rw [r.length]
      exact o1 (Itv C.K a xs.length) G1 H1 (Step.refl s.gh) (srvV hm)
    | _ => exact False.elim o1)
/-- reversed(a list or a tuple that stays) -/
def iRv (o : SE) : SA := fun env => (o env).bind fun x => match x with
  | .lst xs => .ok xs.reverse
  | .scr xs => .ok xs.reverse
  | .tup xs => .ok xs.reverse
  | .ktp xs => .ok xs.reverse
  | _ => .bad
theorem srv_rev {J : It} {vs : List V} {ds : List D} {GP : Hp → Prop} (w : Walk J vs.length GP (fun i H x H' => H' = H ∧ vs[vs.length - 1 - i]? = some x)) (r : RepL C.K C.w C.ad G vs ds) (hg : ∀ H, Ex G.g H → GP H) : Srv C J G ds.reverse :=
  ⟨GP, _, by rw [List.length_reverse, ← r.length]; exact w, hg, fun i H x H' G1 hi e1 e2 y => by
    obtain ⟨rfl, h⟩ := y
    obtain ⟨d, h1, h2⟩ := r.getV h
    rw [List.length_reverse] at hi
    refine ⟨G1, d, ?_, Step.refl e2, h2.mono e1⟩
    rw [List.getElem?_reverse hi, ← r.length]
    exact h1⟩
theorem walk_revT {K : PySem.W.Frag} {a : Addr} {xs : List V} : Walk (ItvT K a xs.length) xs.length (fun H => SqT K H a xs) (fun i H x H' => H' = H ∧ xs[xs.length - 1 - i]? = some x) :=
  ⟨fun i _ hi q => ⟨hi, xs, xs[xs.length - 1 - i]'(by omega), q, by simp [show xs.length - 1 - i < xs.length by omega]⟩, fun _ _ => Nat.le_refl _, fun _ _ _ _ _ q y => ⟨y.1, y.2 xs q⟩⟩
theorem ci_rev {te : TE} {f : SE} (h : CE C xo W te f) : CI C xo W (iRevA C.K te) (iRv f) := fun σ G H env ft R o =>
  h σ G H env ft _ (Out.bind o fun d v G1 H1 _ s r o1 => by
    cases r with
    | @lst a vs ds h1 r => exact ⟨a, vs, rfl, Or.inl ⟨sq_of (s.gh.e _ _ h1), o1 _ G1 H1 (Step.refl s.gh) (srv_rev walk_rev r fun H e => sq_of (e _ _ h1))⟩⟩
    | @scr a vs ds h1 r => exact ⟨a, vs, rfl, Or.inl ⟨ex_l s.gh.e h1, o1 _ G1 H1 (Step.refl s.gh) (srv_rev walk_rev r fun H e => ex_l e h1)⟩⟩
    | @tup a vs ds h1 r => exact ⟨a, vs, rfl, Or.inr ⟨ex_t s.gh.e h1, o1 _ G1 H1 (Step.refl s.gh) (srv_rev walk_revT r fun H e => ex_t e h1)⟩⟩
    | @ktp a vs ds h1 _ r => exact ⟨a, vs, rfl, Or.inr ⟨ex_t s.gh.e h1, o1 _ G1 H1 (Step.refl s.gh) (srv_rev walk_revT r fun H e => ex_t e h1)⟩⟩
    | _ => exact False.elim o1)
end
end Dm
set_option Elab.async false
set_option linter.all false
set_option maxRecDepth 100000
set_option maxHeartbeats 4000000
/-! Dz4: dicts that are cells. -/
namespace Dm
open PySem L2 Evl RZ Wm
def keyD : D → Option Key
  | .int i => some (.inl i)
  | .str z => some (.inr z)
  | _ => none
def valG : List (Key × D) → Key → Option D
  | [], _ => none
  | (k, d) :: r, z => if k = z then some d else valG r z
def hasG : List (Key × D) → Key → Bool
  | [], _ => false
  | (k, _) :: r, z => if k = z then true else hasG r z
/-- in its place, or at the end -/
def setG (k : Key) (d : D) : List (Key × D) → List (Key × D)
  | [] => []
  | (z, x) :: r => if z = k then (z, d) :: setG k d r else (z, x) :: setG k d r
def putG (kvs : List (Key × D)) (k : Key) (d : D) : List (Key × D) := if hasG kvs k = true then setG k d kvs else kvs ++ [(k, d)]
def dropG : List (Key × D) → Key → List (Key × D)
  | [], _ => []
  | (z, x) :: r, k => if z = k then dropG r k else (z, x) :: dropG r k
def onK {α : Type} (n : Nat) (k : List (Key × D) → Sto → Rs α) : R α := fun s => match s[n]? with
  | some (.dct kvs) => k kvs s
  | _ => Rs.bad
def kGet (n : Nat) (y : D) : R D := onK n fun kvs s => oR (keyD y) fun k => oR (valG kvs k) fun d => Rs.ok d s
def kIn (n : Nat) (y : D) : R D := onK n fun kvs s => oR (keyD y) fun k => Rs.ok (.bl (valG kvs k).isSome) s
def kGet2 (n : Nat) (y z : D) : R D := onK n fun kvs s => oR (keyD y) fun k => Rs.ok ((valG kvs k).getD z) s
def kPut (n : Nat) (y d : D) : R Unit := onK n fun kvs s => oR (keyD y) fun k => if kvs.length < Z then Rs.ok () (s.set n (.dct (putG kvs k d))) else Rs.bad
def kDel (n : Nat) (y : D) : R Unit := onK n fun kvs s => oR (keyD y) fun k => if (valG kvs k).isSome = true then Rs.ok () (s.set n (.dct (dropG kvs k))) else Rs.bad
def gGet : D → D → R D
  | .mref n, y => kGet n y
  | _, _ => .bad
def gIn : D → D → R D
  | y, .mref n => kIn n y
  | _, _ => .bad
def gNotIn : D → D → R D := fun x y => (gIn x y).bind dNot
def isK : D → R Unit
  | .mref n => onK n fun _ s => Rs.ok () s
  | _ => .bad
def gGet2 : D → D → D → R D
  | .mref n, y, z => kGet2 n y z
  | _, _, _ => .bad
def gPut : D → D → D → R Unit
  | .mref n, y, d => kPut n y d
  | _, _, _ => .bad
def gDel : D → D → R Unit
  | .mref n, y => kDel n y
  | _, _ => .bad
/-- {}; d.get(k, x), d.get(k); d[k] = e; del d[k] -/
def eDNew : SE := fun _ => cNew (.dct [])
def eGet2 (o k x : SE) : SE := fun env => (o env).bind fun d => (isK d).bind fun _ => (k env).bind fun y => (x env).bind fun z => gGet2 d y z
def eGet1 (o k : SE) : SE := fun env => (o env).bind fun d => (isK d).bind fun _ => (k env).bind fun y => gGet2 d y .non
def sKPut (o k e : SE) : SS := fun env => ofE (e env) env fun d => ofE (o env) env fun x => ofE (k env) env fun y => ofE (gPut x y d) env fun _ => .nx env
def sKDel (o k : SE) : SS := fun env => ofE (o env) env fun x => ofE (k env) env fun y => ofE (gDel x y) env fun _ => .nx env
section
variable {C : Cc} {xo : Xo} {W : WX} {G G' G0 : Gd} {H H' H0 : Hp} {σ : L2.St} {env : Env} {E : XK} {K : PySem.W.Frag} {w : World} {ad : Nat → Addr} {M : List Addr}
theorem RpK.length : ∀ {ps : List (Key × V)} {kvs : List (Key × D)}, RpK K w ad H M ps kvs → ps.length = kvs.length
  | _, _, .nil => rfl
  | _, _, .cons _ r => congrArg (· + 1) r.length
theorem RpK.val {z : Key} : ∀ {ps : List (Key × V)} {kvs : List (Key × D)}, RpK K w ad H M ps kvs → match valG kvs z with
    | some d => ∃ v, valV ps z = some v ∧ Rp K w ad H M v d
    | none => valV ps z = none
  | _, _, .nil => rfl
  | _, _, .cons (k := k) (v := v) (d := d) h r => by
    unfold valG
    by_cases e : k = z
    · rw [if_pos e]
      exact ⟨v, valV_pos e, h⟩
    · rw [if_neg e, valV_neg e]
      exact r.val
theorem RpK.has {z : Key} : ∀ {ps : List (Key × V)} {kvs : List (Key × D)}, RpK K w ad H M ps kvs → (ps.any fun kv => decide (kv.1 = z)) = hasG kvs z
  | _, _, .nil => rfl
  | _, _, .cons (k := k) h r => by
    unfold hasG
    rw [List.any_cons, r.has]
    by_cases e : k = z
    · rw [if_pos e, decide_eq_true e]; rfl
    · rw [if_neg e, decide_eq_false e]; rfl
theorem RpK.set {z : Key} {v : V} {d : D} (q : Rp K w ad H M v d) : ∀ {ps : List (Key × V)} {kvs : List (Key × D)}, RpK K w ad H M ps kvs → RpK K w ad H M (ps.map fun kv => if kv.1 = z then (kv.1, v) else kv) (setG z d kvs)
  | _, _, .nil => .nil
  | _, _, .cons (k := k) h r => by
    unfold setG
    rw [List.map_cons]
    by_cases e : k = z
    · rw [if_pos e, if_pos e]
      exact .cons q (r.set q)
    · rw [if_neg e, if_neg e]
      exact .cons h (r.set q)
theorem RpK.append : ∀ {ps qs : List (Key × V)} {kvs lvs : List (Key × D)}, RpK K w ad H M ps kvs → RpK K w ad H M qs lvs → RpK K w ad H M (ps ++ qs) (kvs ++ lvs)
  | _, _, _, _, .nil, h => h
  | _, _, _, _, .cons h r, h2 => .cons h (r.append h2)
theorem RpK.put {z : Key} {v : V} {d : D} {ps : List (Key × V)} {kvs : List (Key × D)} (r : RpK K w ad H M ps kvs) (q : Rp K w ad H M v d) : RpK K w ad H M (putK ps z v) (putG kvs z d) := by
  unfold putK putG
  rw [r.has]
  by_cases h : hasG kvs z = true
  · rw [if_pos h, if_pos h]; exact r.set q
  · rw [if_neg h, if_neg h]; exact r.append (.cons q .nil)
theorem RpK.drop {z : Key} : ∀ {ps : List (Key × V)} {kvs : List (Key × D)}, RpK K w ad H M ps kvs → RpK K w ad H M (dropK ps z) (dropG kvs z)
  | _, _, .nil => .nil
  | _, _, .cons (k := k) h r => by
    unfold dropG dropK
    rw [List.filter_cons]
    by_cases e : k = z
    · rw [if_pos e, if_neg (by simp [e])]
      exact r.drop
    · rw [if_neg e, if_pos (by simp [e])]
      exact .cons h r.drop
theorem SOk.atK (k : SOk C G H) {n : Nat} {a : Addr} {kvs : List (Key × D)} (hm : G.m[n]? = some a) (hs : G.s[n]? = some (.dct kvs)) : ∃ ps, H a = some (.dK ps) ∧ RpK C.K C.w C.ad G.g G.m ps kvs := (k.cell n a _ hm hs).2
theorem onK_out {α β : Type} {rep : Gd → Hp → β → α → Prop} {n : Nat} {k : List (Key × D) → Sto → Rs α} {Q : β → Hp → Prop} (o : Out C rep E G H Q (onK n k)) : ∃ kvs, G.s[n]? = some (.dct kvs) ∧ OutR C rep E G H Q (k kvs G.s) := by
  unfold Out onK at o
  cases h : G.s[n]? with
  | none => rw [h] at o; exact False.elim o
  | some z =>
    cases z with
    | dct kvs => rw [h] at o; exact ⟨kvs, rfl, o⟩
    | ins _ _ => rw [h] at o; exact False.elim o
    | lst _ => rw [h] at o; exact False.elim o
theorem oR_out {α β γ : Type} {rep : Gd → Hp → β → α → Prop} {z : Option γ} {k : γ → Rs α} {Q : β → Hp → Prop} (o : OutR C rep E G H Q (oR z k)) : ∃ c, z = some c ∧ OutR C rep E G H Q (k c) := by
  cases z with
  | none => exact False.elim o
  | some c => exact ⟨c, rfl, o⟩
theorem key_V {y : V} {d : D} {k : Key} (r : Rep C.K C.w C.ad G y d) (h : keyD d = some k) : y = kV k := by
  cases r <;> cases h <;> rfl
theorem dget_run {y : V} {dy : D} {a : Addr} {ps : List (Key × V)} {k : Key} (hH : H a = some (.dK ps)) (ry : Rep C.K C.w C.ad G y dy) (hk : keyD dy = some k) : DGet H a y (valV ps k) := by
  rw [key_V ry hk]
  exact DGet.k hH
theorem ce_dnew : CE C xo W tDNewK eDNew := fun σ G H env ft Q o p hp => by
  obtain ⟨st, hn⟩ := (Step.ofH ft.ok (Ex.new (o := .dK []) hp)).publishC (p := p) (c' := .dct []) (fresh_back ft.ok.e hp) (ft.ok.fresh hp) hp ⟨[], upd_same, .nil⟩
  exact o (.ref p) _ _ st (.mref hn)
theorem ce_dget {to ti : TE} {a b : SE} (h : CE C xo W to a) (hi : CE C xo W ti b) : CE C xo W (tDGet to ti) (eB gGet a b) := fun σ G H env ft Q o =>
  h σ G H env ft _ (Out.bind o fun d v G1 H1 _ s1 r1 o1 => hi σ G1 H1 env (ft.step s1) _ (Out.bind o1 fun dy y G2 H2 _ s2 r2 o2 => by
    have rx := Rp.mono s2.g r1
    cases rx with
    | @mref n a hm =>
      obtain ⟨kvs, hs, o2⟩ := onK_out (n := n) o2
      obtain ⟨k, hk, o2⟩ := oR_out o2
      obtain ⟨d, hd, o2⟩ := oR_out o2
      obtain ⟨ps, hH, r⟩ := s2.gh.atK hm hs
      have q := r.val (z := k)
      rw [hd] at q
      obtain ⟨u, hu, ru⟩ := q
      refine ⟨a, u, rfl, ?_, o2 u G2 H2 (Step.refl s2.gh) ru⟩
      rw [← hu]
      exact dget_run hH r2 hk
    | _ => exact False.elim o2))
theorem kin_run {y x : V} {dy d : D} {Q : VK} {F : Bool → D} (e : SOk C G H) (rx : Rep C.K C.w C.ad G x d) (ry : Rep C.K C.w C.ad G y dy) (o : Out C (rV C) E G H Q (gIn dy d)) : ∃ a z, x = .ref a ∧ DGet H a y z ∧ Q (.bl z.isSome) H := by
  cases rx with
  | @mref n a hm =>
    have o : Out C (rV C) E G H Q (kIn n dy) := by
      cases dy <;> exact o
    obtain ⟨kvs, hs, o2⟩ := onK_out (n := n) o
    obtain ⟨k, hk, o2⟩ := oR_out o2
    obtain ⟨ps, hH, r⟩ := e.atK hm hs
    refine ⟨a, valV ps k, rfl, dget_run hH ry hk, ?_⟩
    have q := r.val (z := k)
    have e2 : (valV ps k).isSome = (valG kvs k).isSome := by
      cases c : valG kvs k with
      | none => rw [c] at q; rw [q] <;> rfl
      | some d => rw [c] at q; obtain ⟨u, hu, _⟩ := q; rw [hu]; rfl
    rw [e2]
    exact o2 _ G H (Step.refl e) (.bl _)
  | _ => cases dy <;> exact False.elim o
theorem ce_din {to ti : TE} {a b : SE} (hi : CE C xo W ti b) (h : CE C xo W to a) : CE C xo W (tDIn ti to) (eB gIn b a) := fun σ G H env ft Q o =>
  hi σ G H env ft _ (Out.bind o fun d v G1 H1 _ s1 r1 o1 => h σ G1 H1 env (ft.step s1) _ (Out.bind o1 fun dy y G2 H2 _ s2 r2 o2 => kin_run (F := fun _ => .non) s2.gh r2 (Rp.mono s2.g r1) o2))
theorem ce_dnotin {to ti : TE} {a b : SE} (hi : CE C xo W ti b) (h : CE C xo W to a) : CE C xo W (tDNotIn ti to) (eB gNotIn b a) := fun σ G H env ft Q o =>
  hi σ G H env ft _ (Out.bind o fun d v G1 H1 _ s1 r1 o1 => h σ G1 H1 env (ft.step s1) _ (Out.bind o1 fun dy y G2 H2 _ s2 r2 o2 => by
    obtain ⟨a, z, e1, e2, e3⟩ := kin_run (F := fun _ => .non) (Q := fun v H => ∀ b, v = .bl b → Q (.bl !b) H) s2.gh r2 (Rp.mono s2.g r1) (Out.bind o2 fun d3 v3 G3 H3 _ s3 r3 o3 b eb => by
      subst eb
      cases r3
      exact o3 _ G3 H3 (Step.refl s3.gh) (.bl _))
    exact ⟨a, z, e1, e2, e3 _ rfl⟩))
theorem isK_bind {β γ δ : Type} {rep : Gd → Hp → δ → γ → Prop} {x : V} {d : D} {F : Unit → R γ} {Q : δ → Hp → Prop} (e : SOk C G H) (rx : Rep C.K C.w C.ad G x d) (o : Out C rep E G H Q ((isK d).bind F)) :
    ∃ n a, d = .mref n ∧ x = .ref a ∧ G.m[n]? = some a ∧ IsD H a ∧ Out C rep E G H Q (F ()) := by
  cases rx with
  | @mref n a hm =>
    have o : Out C rep E G H Q ((onK n fun _ s => Rs.ok () s).bind F) := o
    unfold Out R.bind onK at o
    dsimp only at o
    cases h : G.s[n]? with
    | none => rw [h] at o; exact False.elim o
    | some z =>
      rw [h] at o
      cases z with
      | ins _ _ => exact False.elim o
      | lst _ => exact False.elim o
      | dct kvs =>
        obtain ⟨ps, hH, r⟩ := e.atK hm h
        exact ⟨n, a, rfl, rfl, hm, Or.inl ⟨ps, Or.inl hH⟩, o⟩
  | _ => exact False.elim o
theorem get2_run {y z : V} {dy dz : D} {n : Nat} {a : Addr} {Q : VK} (e : SOk C G H) (hm : G.m[n]? = some a) (ry : Rep C.K C.w C.ad G y dy) (rz : Rep C.K C.w C.ad G z dz) (o : Out C (rV C) E G H Q (kGet2 n dy dz)) : ∃ o, DGet H a y o ∧ Q (o.getD z) H := by
  obtain ⟨kvs, hs, o2⟩ := onK_out (n := n) o
  obtain ⟨k, hk, o2⟩ := oR_out o2
  obtain ⟨ps, hH, r⟩ := e.atK hm hs
  refine ⟨valV ps k, dget_run hH ry hk, ?_⟩
  have q := r.val (z := k)
  cases c : valG kvs k with
  | none =>
    rw [c] at q o2
    rw [q]
    exact o2 z G H (Step.refl e) rz
  | some d =>
    rw [c] at q o2
    obtain ⟨u, hu, ru⟩ := q
    rw [hu]
    exact o2 u G H (Step.refl e) ru
theorem ce_get2 {to ti tx : TE} {a b c : SE} (h : CE C xo W to a) (hi : CE C xo W ti b) (hx : CE C xo W tx c) : CE C xo W (tDGet2 to ti tx) (eGet2 a b c) := fun σ G H env ft Q o =>
  h σ G H env ft _ (Out.bind o fun d v G1 H1 _ s1 r1 o1 => by
    obtain ⟨n, p, rfl, rfl, hm, hD, o2⟩ := isK_bind (β := Unit) s1.gh r1 o1
    exact ⟨p, rfl, hD, hi σ G1 H1 env (ft.step s1) _ (Out.bind o2 fun dy y G2 H2 _ s2 r2 o3 => hx σ G2 H2 env ((ft.step s1).step s2) _ (Out.bind o3 fun dz z G3 H3 _ s3 r3 o4 => get2_run s3.gh (s3.g.m _ _ (s2.g.m _ _ hm)) (Rp.mono s3.g r2) r3 o4))⟩)
theorem ce_get1 {to ti : TE} {a b : SE} (h : CE C xo W to a) (hi : CE C xo W ti b) : CE C xo W (tDGet1 to ti) (eGet1 a b) := fun σ G H env ft Q o =>
  h σ G H env ft _ (Out.bind o fun d v G1 H1 _ s1 r1 o1 => by
    obtain ⟨n, p, rfl, rfl, hm, hD, o2⟩ := isK_bind (β := Unit) s1.gh r1 o1
    exact ⟨p, rfl, hD, hi σ G1 H1 env (ft.step s1) _ (Out.bind o2 fun dy y G2 H2 _ s2 r2 o3 => get2_run (z := .non) s2.gh (s2.g.m _ _ hm) r2 .non o3)⟩)
theorem onK_outS {D : Ends} {n : Nat} {α : Type} {k : List (Key × Dm.D) → Sto → Rs α} {F : α → RS} (o : OutS C xo W G0 H0 G D (ofE (onK n k) env F)) : ∃ kvs, G.s[n]? = some (.dct kvs) ∧ OutT C xo W G0 H0 G D (match k kvs G.s with
    | .ok a s' => F a s'
    | .exc c fs s' => RSr.exc c fs env s'
    | .bad => RSr.bad) := by
  unfold OutS ofE onK at o
  cases h : G.s[n]? with
  | none => rw [h] at o; exact False.elim o
  | some z =>
    cases z with
    | dct kvs => rw [h] at o; exact ⟨kvs, rfl, o⟩
    | ins _ _ => rw [h] at o; exact False.elim o
    | lst _ => rw [h] at o; exact False.elim o
theorem cs_kput {to ti te : TE} {b k a : SE} (ho : CE C xo W to b) (hk : CE C xo W ti k) (h : CE C xo W te a) : CS C xo W (sDPut to ti te) (sKPut b k a) := fun G0 H0 σ G H env f D o =>
  h σ G H env f.f _ (ofE_out f o fun d v G1 H1 s1 r f1 o1 => ho σ G1 H1 env f1.f _ (ofE_out f1 o1 fun x u G2 H2 s2 r2 f2 o2 => hk σ G2 H2 env f2.f _ (ofE_out f2 o2 fun y w G3 H3 s3 r3 f3 o3 => by
    have rx := Rp.mono s3.g r2
    have rv := Rp.mono s3.g (Rp.mono s2.g r)
    cases rx with
    | @mref n p hm =>
      obtain ⟨kvs, hs, o4⟩ := onK_outS (n := n) o3
      obtain ⟨ps, hH, rl⟩ := f3.f.ok.atK hm hs
      unfold oR at o4
      cases hz : keyD y with
      | none => rw [hz] at o4; exact False.elim o4
      | some z =>
        rw [hz] at o4
        dsimp only at o4
        by_cases hl : kvs.length < Z
        · rw [if_pos hl] at o4
          have st := Step.cellC (c' := .dct (putG kvs z d)) (o := .dK (putK ps z v)) f3.f.ok hm hs ⟨_, upd_same, rl.put rv⟩
          refine ⟨p, _, rfl, ?_, o4 σ _ _ (ExG.refl _) (f3.step st)⟩
          rw [key_V r3 hz]
          exact DPut.k hH (sz_lt (by rw [rl.length]; exact hl))
        · rw [if_neg hl] at o4; exact False.elim o4
    | _ => exact False.elim o3)))
theorem cs_kdel {to ti : TE} {b k : SE} (ho : CE C xo W to b) (hk : CE C xo W ti k) : CS C xo W (sDDel to ti) (sKDel b k) := fun G0 H0 σ G H env f D o =>
  ho σ G H env f.f _ (ofE_out f o fun x u G2 H2 s2 r2 f2 o2 => hk σ G2 H2 env f2.f _ (ofE_out f2 o2 fun y w G3 H3 s3 r3 f3 o3 => by
    have rx := Rp.mono s3.g r2
    cases rx with
    | @mref n p hm =>
      obtain ⟨kvs, hs, o4⟩ := onK_outS (n := n) o3
      obtain ⟨ps, hH, rl⟩ := f3.f.ok.atK hm hs
      unfold oR at o4
      cases hz : keyD y with
      | none => rw [hz] at o4; exact False.elim o4
      | some z =>
        rw [hz] at o4
        dsimp only at o4
        by_cases hl : (valG kvs z).isSome = true
        · rw [if_pos hl] at o4
          have st := Step.cellC (c' := .dct (dropG kvs z)) (o := .dK (dropK ps z)) f3.f.ok hm hs ⟨_, upd_same, rl.drop⟩
          refine ⟨p, ps, z, rfl, hH, key_V r3 hz, ?_, o4 σ _ _ (ExG.refl _) (f3.step st)⟩
          have q := rl.val (z := z)
          cases c : valG kvs z with
          | none => rw [c] at hl; cases hl
          | some d => rw [c] at q; obtain ⟨u, hu, _⟩ := q; rw [hu]; rfl
        · rw [if_neg hl] at o4; exact False.elim o4
    | _ => exact False.elim o3))
end
end Dm
set_option Elab.async false
set_option linter.all false
set_option maxRecDepth 100000
set_option maxHeartbeats 4000000
/-! Dz5: lists that are cells: read as data, compared, sliced, joined, changed. -/
namespace Dm
open PySem L2 Evl RZ Wm
/-- a list as data, wherever it stands -/
def rdL : D → R (List D)
  | .lst xs | .scr xs => .ok xs
  | .mref n => onL n fun xs s => Rs.ok xs s
  | _ => .bad
def rdW : D → R (List D)
  | .lst xs => .ok xs
  | .mref n => onL n fun xs s => Rs.ok xs s
  | _ => .bad
def mPop : D → List D → R D
  | .mref n, [] => cPopL n
  | _, _ => .bad
def mExt : D → List D → R D
  | .mref n, [y] => match y with
    | .lst ys => (cApps n ys).bind fun _ => .ok .non
    | .mref m => onL m fun ys s => ((cApps n ys).bind fun _ => R.ok D.non) s
    | _ => .bad
  | _, _ => .bad
/-- a method of a list that is a cell, without arguments -/
def eMM0 (f : D → List D → R D) (o : SE) : SE := fun env => (o env).bind fun x => (isCL x).bind fun _ => f x []
/-- new lists of what stands in cells -/
def lCatM (a b : SE) : SA := fun env => (a env).bind fun x => (b env).bind fun y => (rdW x).bind fun xs => (rdW y).bind fun ys => if xs.length + ys.length ≤ Z then .ok (xs ++ ys) else .bad
def lSlM (o : SE) (lo hi : Env → R (Option Int)) : SA := fun env => (o env).bind fun x => (lo env).bind fun l => (hi env).bind fun h => (rdL x).bind fun xs => .ok (cutG xs l h)
/-- x in xs -/
def dInM : D → D → R D := fun x y => (rdL y).bind fun xs => if flatD x && xs.all flatD then .ok (.bl (inD x xs)) else .bad
def dNotInM : D → D → R D := fun x y => (dInM x y).bind dNot
/-- data with what the cells hold -/
def D.res (s : Sto) : Nat → D → D
  | n + 1, .lst xs => .lst (xs.map (D.res s n))
  | n + 1, .scr xs => .scr (xs.map (D.res s n))
  | n + 1, .tup xs => .tup (xs.map (D.res s n))
  | n + 1, .ktp xs => .ktp (xs.map (D.res s n))
  | n + 1, .mref k => match s[k]? with
    | some (.lst xs) => .lst (xs.map (D.res s n))
    | _ => .mref k
  | _, d => d
def dEqS (x y : D) : R D := fun s => dEq (x.res s 64) (y.res s 64) s
def dNeS : D → D → R D := fun x y => (dEqS x y).bind dNot
section
variable {C : Cc} {xo : Xo} {W : WX} {G G' G0 : Gd} {H H' H0 : Hp} {σ : L2.St} {env : Env} {E : XK}
theorem rdL_bind {β γ δ : Type} {rep : Gd → Hp → δ → γ → Prop} {x : V} {d : D} {F : List D → R γ} {Q : δ → Hp → Prop} (e : SOk C G H) (rx : Rep C.K C.w C.ad G x d) (o : Out C rep E G H Q ((rdL d).bind F)) :
    ∃ a vs xs, x = .ref a ∧ SqL C.K H a vs ∧ RepL C.K C.w C.ad G vs xs ∧ Out C rep E G H Q (F xs) := by
  cases rx with
  | @mref n a hm =>
    have o : Out C rep E G H Q ((onL n fun xs s => Rs.ok xs s).bind F) := o
    unfold Out R.bind onL at o
    dsimp only at o
    cases h : G.s[n]? with
    | none => rw [h] at o; exact False.elim o
    | some z =>
      rw [h] at o
      cases z with
      | ins _ _ => exact False.elim o
      | dct _ => exact False.elim o
      | lst xs =>
        obtain ⟨_, vs, hH, r⟩ := e.at hm h
        exact ⟨a, vs, xs, rfl, sq_of hH, r, o⟩
  | @lst a vs ds h r => exact ⟨a, vs, ds, rfl, sq_of (e.e _ _ h), r, o⟩
  | @scr a vs ds h r => exact ⟨a, vs, ds, rfl, ex_l e.e h, r, o⟩
  | _ => exact False.elim o
theorem rdW_bind {β γ δ : Type} {rep : Gd → Hp → δ → γ → Prop} {x : V} {d : D} {F : List D → R γ} {Q : δ → Hp → Prop} (e : SOk C G H) (rx : Rep C.K C.w C.ad G x d) (o : Out C rep E G H Q ((rdW d).bind F)) :
    ∃ a vs xs, x = .ref a ∧ H a = some (.lst vs) ∧ RepL C.K C.w C.ad G vs xs ∧ Out C rep E G H Q (F xs) := by
  cases rx with
  | @mref n a hm =>
    have o : Out C rep E G H Q ((onL n fun xs s => Rs.ok xs s).bind F) := o
    unfold Out R.bind onL at o
    dsimp only at o
    cases h : G.s[n]? with
    | none => rw [h] at o; exact False.elim o
    | some z =>
      rw [h] at o
      cases z with
      | ins _ _ => exact False.elim o
      | dct _ => exact False.elim o
      | lst xs =>
        obtain ⟨_, vs, hH, r⟩ := e.at hm h
        exact ⟨a, vs, xs, rfl, hH, r, o⟩
  | @lst a vs ds h r => exact ⟨a, vs, ds, rfl, e.e _ _ h, r, o⟩
  | _ => exact False.elim o
theorem ce_MM0 {r : V → List V → Hp → VK → Prop} {f : D → List D → R D} {to : TE} {o : SE} (h : MetD C r f) (ho : CE C xo W to o) : CE C xo W (tBM0 C.K "list" r to) (eMM0 f o) := fun σ G H env ft Q q =>
  ho σ G H env ft _ (Out.bind q fun d v G1 H1 _ s1 r1 o1 => by
    cases r1 with
    | @mref n a hm =>
      obtain ⟨xs, hs, o2⟩ := onL_bind (β := Unit) o1
      obtain ⟨_, vs, hH, r⟩ := s1.gh.at hm hs
      exact ⟨Or.inl ⟨rfl, vs, sq_of hH⟩, h G1 H1 _ [] _ [] s1.gh (.mref hm) .nil (WE W σ) _ o2⟩
    | _ => exact False.elim o1)
theorem md_pop : MetD C rPop mPop := by
  intro G H x vs dx ds e rx r E Q o
  cases rx with
  | @mref n a hm =>
    cases r with
    | cons _ _ => exact False.elim o
    | nil =>
      obtain ⟨xs, hs, o⟩ := onL_out (n := n) o
      obtain ⟨_, ws, hH, rl⟩ := e.at hm hs
      unfold oR at o
      cases c : xs[xs.length - 1]? with
      | none => rw [c] at o; exact False.elim o
      | some d =>
        rw [c] at o
        obtain ⟨u, hu, ru⟩ := rl.get c
        refine ⟨a, ws, u, rfl, rfl, hH, by rw [rl.length]; exact hu, o u _ _ (Step.cell e hm hs rl.dropLast) ru⟩
  | _ => exact False.elim o
theorem cApps_out {n : Nat} {ys : List D} {us : List V} {a : Addr} {Q : VK} (e : SOk C G H) (hm : G.m[n]? = some a) (r : RepL C.K C.w C.ad G us ys) (o : OutR C (rV C) E G H Q (((cApps n ys).bind fun _ => R.ok D.non) G.s)) :
    ∃ ws, H a = some (.lst ws) ∧ ws.length + us.length ≤ sizeLine ∧ Q .non (upd H a (.lst (ws ++ us))) := by
  unfold R.bind cApps onL at o
  dsimp only at o
  cases c : G.s[n]? with
  | none => rw [c] at o; exact False.elim o
  | some z =>
    rw [c] at o
    cases z with
    | dct _ => exact False.elim o
    | ins _ _ => exact False.elim o
    | lst xs =>
      dsimp only at o
      obtain ⟨_, ws, hH, rl⟩ := e.at hm c
      by_cases hz : xs.length + ys.length ≤ Z
      · rw [if_pos hz] at o
        exact ⟨ws, hH, sz_of (by rw [rl.length, r.length]; exact hz), o .non _ _ (Step.cell e hm c (rl.append r)) .non⟩
      · rw [if_neg hz] at o; exact False.elim o
theorem md_ext : MetD C rExtend mExt := by
  intro G H x vs dx ds e rx r E Q o
  cases rx with
  | @mref n a hm =>
    cases r with
    | nil => exact False.elim o
    | @cons v d vs ds h r =>
      cases r with
      | cons _ _ => cases h <;> exact False.elim o
      | nil =>
        cases h with
        | @lst b us ys h r =>
          obtain ⟨ws, h1, h2, h3⟩ := cApps_out e hm r o
          exact ⟨a, b, ws, us, rfl, rfl, h1, e.e _ _ h, h2, h3⟩
        | @mref m b hb =>
          have o : Out C (rV C) E G H Q (onL m fun ys s => ((cApps n ys).bind fun _ => R.ok D.non) s) := o
          obtain ⟨ys, hs, o⟩ := onL_out o
          obtain ⟨_, us, hB, rb⟩ := e.at hb hs
          obtain ⟨ws, h1, h2, h3⟩ := cApps_out e hm rb o
          exact ⟨a, b, ws, us, rfl, rfl, h1, hB, h2, h3⟩
        | _ => exact False.elim o
  | _ => exact False.elim o
theorem cn_catM {ta tb : TE} {a b : SE} (ha : CE C xo W ta a) (hb : CE C xo W tb b) : CN C xo W (tOp rCat ta tb) (lCatM a b) := fun σ G H env f Q o =>
  ha σ G H env f _ (Out.bind o fun d v G1 H1 _ s1 r1 o1 => hb σ G1 H1 env (f.step s1) _ (Out.bind o1 fun d2 v2 G2 H2 _ s2 r2 o2 => by
    have e := s2.gh
    have r3 := Rp.mono s2.g r1
    obtain ⟨a, vs, xs, rfl, hA, ra, o3⟩ := rdW_bind (β := Unit) e r3 o2
    obtain ⟨b, ws, ys, rfl, hB, rb, o4⟩ := rdW_bind (β := Unit) e r2 o3
    obtain ⟨hz, o4⟩ := out_if o4
    exact ⟨a, b, vs, ws, rfl, rfl, hA, hB, sz_of (by rw [ra.length, rb.length]; exact hz), fun p hp => o4 _ G2 _ (Step.ofH e (Ex.new hp)) ⟨⟨p, _, rfl, fresh_back e.e hp, e.fresh hp, upd_same, ra.append rb⟩, fun q hq => by cases hq; exact (s1.trans s2).fresh hp⟩⟩))
theorem cn_slM {te : TE} {tl th : TO} {f : SE} {lo hi : Env → R (Option Int)} (h : CE C xo W te f) (h1 : CO C xo W tl lo) (h2 : CO C xo W th hi) : CN C xo W (tSl (rSlL C.K) te tl th) (lSlM f lo hi) := fun σ G H env ft Q o =>
  h σ G H env ft _ (Out.bind o fun d v G1 H1 _ s1 r1 o1 => h1 σ G1 H1 env (ft.step s1) _ (Out.bind o1 fun l l' G2 H2 _ s2 r2 o2 => h2 σ G2 H2 env ((ft.step s1).step s2) _ (Out.bind o2 fun u u' G3 H3 _ s3 r3 o3 => by
    subst r2 r3
    have r := Rp.mono (s2.g.trans s3.g) r1
    have e := s3.gh
    have hh := (s1.trans s2).trans s3
    obtain ⟨a, vs, xs, rfl, hA, ra, o4⟩ := rdL_bind (β := Unit) e r o3
    exact ⟨a, vs, rfl, hA, fun p hp => o4 _ G3 _ (Step.ofH e (Ex.new hp)) ⟨⟨p, _, rfl, fresh_back e.e hp, e.fresh hp, upd_same, ra.cut _ _⟩, fun q hq => by cases hq; exact hh.fresh hp⟩⟩)))
theorem inM_run {neg : Bool} {x y : V} {dx dy : D} {E : XK} {Q Q2 : VK} (e : SOk C G H) (rx : Rep C.K C.w C.ad G x dx) (ry : Rep C.K C.w C.ad G y dy) (o : Out C (rV C) E G H Q (dInM dx dy)) (q : ∀ b, Q (.bl b) H → Q2 (.bl (if neg then !b else b)) H) : rIn C.K neg x y H Q2 := by
  obtain ⟨a, vs, xs, rfl, hA, ra, o⟩ := rdL_bind (β := Unit) e ry o
  obtain ⟨hz, o⟩ := out_ifE o
  rw [Bool.and_eq_true] at hz
  refine ⟨a, vs, rfl, Or.inl hA, flat_V rx hz.1, flat_all ra hz.2, ?_⟩
  rw [inV_D rx hz.1 ra hz.2]
  exact q _ (o _ G H (Step.refl e) (.bl _))
theorem od_inM : OpD C (rIn C.K false) dInM := fun G H x y dx dy e rx ry E Q o => inM_run e rx ry o fun b h => h
theorem od_notInM : OpD C (rIn C.K true) dNotInM := fun G H x y dx dy e rx ry E Q o =>
  inM_run (Q := fun v H' => ∀ b, v = .bl b → ∀ G', Step C G H G' H' → Q (.bl !b) H') e rx ry (Out.bind o fun d v G' H' _ s r o2 b hb G2 s2 => by
    subst hb
    cases r
    exact o2 _ G' H' (Step.refl s.gh) (.bl _)) fun b h => h b rfl G (Step.refl e)
/-! == of what holds cells -/
theorem resL_dp {n : Nat} (ih : ∀ (v : V) (d : D) (m : Nat), Rep C.K C.w C.ad G v d → (d.res G.s n).shp m = true → Dp C.K H v (d.res G.s n).toP ∧ (d.res G.s n).toP.canLay0 = true ∧ (d.res G.s n).toP.depth ≤ m) :
    ∀ {vs : List V} {ds : List D} {m : Nat}, RepL C.K C.w C.ad G vs ds → shpAll m (ds.map (D.res G.s n)) = true → DpAll C.K H vs (D.toP.go (ds.map (D.res G.s n))) ∧ PyData.canLayAll0 (D.toP.go (ds.map (D.res G.s n))) = true ∧ PyData.depthAll (D.toP.go (ds.map (D.res G.s n))) ≤ m
  | _, _, _, .nil, _ => ⟨.nil, rfl, Nat.zero_le _⟩
  | _, _, m, .cons h r, q => by
    rw [List.map_cons] at q ⊢
    unfold shpAll at q
    rw [Bool.and_eq_true] at q
    have z1 := ih _ _ m h q.1
    have z2 := resL_dp ih r q.2
    refine ⟨.cons z1.1 z2.1, ?_, ?_⟩
    · show (PyData.canLay0 _ && PyData.canLayAll0 _) = true
      rw [z1.2.1, z2.2.1]
      rfl
    · show max _ _ ≤ m
      exact Nat.max_le.mpr ⟨z1.2.2, z2.2.2⟩
theorem res_dp (e : SOk C G H) : ∀ (n : Nat) (v : V) (d : D) (m : Nat), Rep C.K C.w C.ad G v d → (d.res G.s n).shp m = true → Dp C.K H v (d.res G.s n).toP ∧ (d.res G.s n).toP.canLay0 = true ∧ (d.res G.s n).toP.depth ≤ m
  | 0, v, d, m, r, h => by
    have e0 : d.res G.s 0 = d := by cases d <;> rfl
    rw [e0] at h ⊢
    exact Rp.dp (Rp.mono0 e.e (fun _ _ h => h) r) h
  | n + 1, v, d, m, r, h => by
    cases r with
    | @lst a vs ds ha r =>
      cases m with
      | zero => cases h
      | succ m =>
        have z := resL_dp (H := H) (res_dp e n) r (m := m) h
        exact ⟨.lst (sq_of (e.e _ _ ha)) z.1, z.2.1, Nat.succ_le_succ z.2.2⟩
    | @scr a vs ds ha r =>
      cases m with
      | zero => cases h
      | succ m =>
        have z := resL_dp (H := H) (res_dp e n) r (m := m) h
        exact ⟨.lst (ex_l e.e ha) z.1, z.2.1, Nat.succ_le_succ z.2.2⟩
    | @tup a vs ds ha r =>
      cases m with
      | zero => cases h
      | succ m =>
        have z := resL_dp (H := H) (res_dp e n) r (m := m) h
        exact ⟨.tup (ex_t e.e ha) z.1, z.2.1, Nat.succ_le_succ z.2.2⟩
    | @ktp a vs ds ha _ r =>
      cases m with
      | zero => cases h
      | succ m =>
        have z := resL_dp (H := H) (res_dp e n) r (m := m) h
        exact ⟨.tup (ex_t e.e ha) z.1, z.2.1, Nat.succ_le_succ z.2.2⟩
    | @mref k a hm =>
      have h2 : ((match G.s[k]? with
        | some (.lst xs) => D.lst (xs.map (D.res G.s n))
        | _ => .mref k) : D).shp m = true := h
      show Dp C.K H (V.ref a) ((match G.s[k]? with
        | some (.lst xs) => D.lst (xs.map (D.res G.s n))
        | _ => .mref k) : D).toP ∧ ((match G.s[k]? with
        | some (.lst xs) => D.lst (xs.map (D.res G.s n))
        | _ => .mref k) : D).toP.canLay0 = true ∧ ((match G.s[k]? with
        | some (.lst xs) => D.lst (xs.map (D.res G.s n))
        | _ => .mref k) : D).toP.depth ≤ m
      cases hs : G.s[k]? with
      | none => rw [hs] at h2; cases m <;> cases h2
      | some z =>
        rw [hs] at h2
        cases z with
        | dct _ => cases m <;> cases h2
        | ins _ _ => cases m <;> cases h2
        | lst xs =>
          obtain ⟨_, vs, hH, r⟩ := e.at hm hs
          cases m with
          | zero => cases h2
          | succ m =>
            have z := resL_dp (H := H) (res_dp e n) r (m := m) h2
            exact ⟨.lst (sq_of hH) z.1, z.2.1, Nat.succ_le_succ z.2.2⟩
    | non => exact Rp.dp (w := C.w) (ad := C.ad) (M := G.m) .non h
    | bl b => exact Rp.dp (w := C.w) (ad := C.ad) (M := G.m) (.bl b) h
    | int b => exact Rp.dp (w := C.w) (ad := C.ad) (M := G.m) (.int b) h
    | str b => exact Rp.dp (w := C.w) (ad := C.ad) (M := G.m) (.str b) h
    | fn k => cases m <;> cases h
    | dct hl hs r => cases m <;> cases h
theorem res_shaped (e : SOk C G H) {v : V} {d : D} (r : Rep C.K C.w C.ad G v d) (h : (d.res G.s 64).shp 64 = true) : Dp C.K H v (d.res G.s 64).toP ∧ SeqAt.shaped (d.res G.s 64).toP = true := by
  have z := res_dp e 64 v d 64 r h
  refine ⟨z.1, ?_⟩
  unfold SeqAt.shaped
  rw [z.2.1, decide_eq_true z.2.2]
  rfl
theorem res_at {n : Nat} {s : Sto} {d : D} : (∀ i, d.res s n = .int i → d = .int i) ∧ (∀ z, d.res s n = .str z → d = .str z) ∧ (d.res s n = .non → d = .non) := by
  have key : (∀ i, d ≠ .int i) → (∀ z, d ≠ .str z) → d ≠ .non → (∀ i, d.res s n ≠ .int i) ∧ (∀ z, d.res s n ≠ .str z) ∧ d.res s n ≠ .non := fun h1 h2 h3 => by
    cases n with
    | zero =>
      have e0 : d.res s 0 = d := by cases d <;> rfl
      rw [e0]
      exact ⟨h1, h2, h3⟩
    | succ n =>
      cases d with
      | mref k =>
        show (∀ i, (match s[k]? with
          | some (.lst xs) => D.lst (xs.map (D.res s n))
          | _ => .mref k) ≠ D.int i) ∧ (∀ z, (match s[k]? with
          | some (.lst xs) => D.lst (xs.map (D.res s n))
          | _ => .mref k) ≠ D.str z) ∧ (match s[k]? with
          | some (.lst xs) => D.lst (xs.map (D.res s n))
          | _ => .mref k) ≠ D.non
        split <;> exact ⟨fun _ => nofun, fun _ => nofun, nofun⟩
      | int i => exact absurd rfl (h1 i)
      | str i => exact absurd rfl (h2 i)
      | non => exact absurd rfl h3
      | _ => exact ⟨fun _ => nofun, fun _ => nofun, nofun⟩
  refine ⟨fun i h => ?_, fun z h => ?_, fun h => ?_⟩
  all_goals
    cases d with
    | int j => cases n <;> (try cases h) <;> first | rfl | exact h
    | str j => cases n <;> (try cases h) <;> first | rfl | exact h
    | non => cases n <;> (try cases h) <;> first | rfl | exact h
    | _ =>
      have k := key (fun _ => nofun) (fun _ => nofun) nofun
      first
      | exact absurd h (k.1 _)
      | exact absurd h (k.2.1 _)
      | exact absurd h k.2.2
theorem od_eqS : OpD C (rEqX C.K) dEqS := by
  intro G H x y dx dy e rx ry E Q o
  have o : Out C (rV C) E G H Q (dEq (dx.res G.s 64) (dy.res G.s 64)) := o
  rcases dEq_ok o with ⟨i, j, h1, h2⟩ | ⟨i, j, h1, h2⟩ | ⟨j, h1, h2⟩ | ⟨j, h1, h2⟩ | ⟨h, h1, h2⟩
  · rw [h1, h2] at o
    cases res_at.1 _ h1; cases res_at.1 _ h2
    cases rx; cases ry
    refine Or.inl ⟨rfl, ?_⟩
    rw [dec_V]
    exact o _ G H (Step.refl e) (.bl _)
  · rw [h1, h2] at o
    cases res_at.2.1 _ h1; cases res_at.2.1 _ h2
    cases rx; cases ry
    refine Or.inl ⟨rfl, ?_⟩
    rw [dec_S]
    exact o _ G H (Step.refl e) (.bl _)
  · rw [h1, h2] at o
    cases res_at.2.2 h1; cases res_at.2.1 _ h2
    cases rx; cases ry
    exact Or.inl ⟨rfl, o _ G H (Step.refl e) (.bl _)⟩
  · rw [h1, h2] at o
    cases res_at.2.1 _ h1; cases res_at.2.2 h2
    cases rx; cases ry
    exact Or.inl ⟨rfl, o _ G H (Step.refl e) (.bl _)⟩
  · rw [h] at o
    have a1 := res_shaped e rx h1
    have a2 := res_shaped e ry h2
    refine Or.inr ⟨_, _, a1.1, a2.1, a1.2, a2.2, ?_⟩
    rw [eqv_toP _ _ h1 h2]
    exact o _ G H (Step.refl e) (.bl _)
theorem od_neS : OpD C (rNeX C.K) dNeS := by
  intro G H x y dx dy e rx ry E Q o
  have o : Out C (rV C) E G H Q (dNe (dx.res G.s 64) (dy.res G.s 64)) := o
  have o1 : Out C (rV C) E G H (fun v H' => ∀ b, v = .bl b → ∀ G', Step C G H G' H' → Q (.bl !b) H') (dEq (dx.res G.s 64) (dy.res G.s 64)) := Out.bind o fun d v G' H' _ s r o2 b hb G2 s2 => by
    subst hb
    cases r
    exact o2 _ G' H' (Step.refl s.gh) (.bl _)
  rcases dEq_ok o1 with ⟨i, j, h1, h2⟩ | ⟨i, j, h1, h2⟩ | ⟨j, h1, h2⟩ | ⟨j, h1, h2⟩ | ⟨h, h1, h2⟩
  · rw [h1, h2] at o1
    cases res_at.1 _ h1; cases res_at.1 _ h2
    cases rx; cases ry
    refine Or.inl ⟨rfl, ?_⟩
    rw [dec_V]
    exact o1 _ G H (Step.refl e) (.bl _) _ rfl G (Step.refl e)
  · rw [h1, h2] at o1
    cases res_at.2.1 _ h1; cases res_at.2.1 _ h2
    cases rx; cases ry
    refine Or.inl ⟨rfl, ?_⟩
    rw [dec_S]
    exact o1 _ G H (Step.refl e) (.bl _) _ rfl G (Step.refl e)
  · rw [h1, h2] at o1
    cases res_at.2.2 h1; cases res_at.2.1 _ h2
    cases rx; cases ry
    exact Or.inl ⟨rfl, o1 _ G H (Step.refl e) (.bl _) _ rfl G (Step.refl e)⟩
  · rw [h1, h2] at o1
    cases res_at.2.1 _ h1; cases res_at.2.2 h2
    cases rx; cases ry
    exact Or.inl ⟨rfl, o1 _ G H (Step.refl e) (.bl _) _ rfl G (Step.refl e)⟩
  · rw [h] at o1
    have a1 := res_shaped e rx h1
    have a2 := res_shaped e ry h2
    refine Or.inr ⟨_, _, a1.1, a2.1, a1.2, a2.2, ?_⟩
    rw [eqv_toP _ _ h1 h2]
    exact o1 _ G H (Step.refl e) (.bl _) _ rfl G (Step.refl e)
end
end Dm
set_option Elab.async false
set_option linter.all false
set_option maxRecDepth 100000
set_option maxHeartbeats 4000000
/-! Dz6: new instances by keywords; o.f += e. -/
namespace Dm
open PySem L2 Evl RZ Wm
theorem in_addX {X : Cx} : InOp X .Add rAddX := fun pins s σ H x y u v Q I rx ry h => (OpR.or iop_add iop_add_str) pins s σ H x y u v Q I rx ry h
theorem in_subX {X : Cx} : InOp X .Sub (rI0 fun i j => .int (i - j)) := fun pins s σ H x y u v Q I rx ry h => iop_sub pins s σ H x y u v Q I rx ry h
/-- an __init__ with keyword-only parameters, called with the keywords ks -/
structure DfK (P : Program) (w : World) (K : PySem.W.Frag) (mg : Str → Option Value) (base : Heap) (ad : Nat → Addr) (k : Nat) (x : Str) (C a : Addr) (fd : FuncData) (ps ks : List Str) (gD : List D → List D) (sp : Sp) : Prop where
  ok : FnOk P w K mg base (L2N.CX P w) k a fd ps sp
  k : Mk K C a
  g : mg x = some (.ref C)
  kb : ∃ g gV, KBn K fd ps 1 ks g gV ∧ ∀ (G : Gd) (x : Addr) (zs : List V) (ds : List D), zs.length = ks.length → RepL K w ad G zs ds → ∃ ws, gV [.ref x] zs = .ref x :: ws ∧ RepL K w ad G ws (gD ds)
section
variable {C : Cc} {xo : Xo} {W : WX} {G G' G0 : Gd} {H H' H0 : Hp} {σ : L2.St} {env : Env} {E : XK}
theorem sp_noX {m : List D → R D} {vs : List V} {Q : VK} (h : SpD C (fun ds => noX (m ds)) vs H Q E) : SpD C m vs H Q E0 := by
  obtain ⟨G, ds, e, r, o⟩ := h
  refine ⟨G, ds, e, r, ?_⟩
  unfold Out noX at o
  unfold Out
  dsimp only at o
  cases c : m ds G.s with
  | bad => rw [c] at o; exact o
  | exc k fs t => rw [c] at o; exact False.elim o
  | ok xs t => rw [c] at o; exact fun v G2 H2 s2 q => o v G2 H2 s2 q
theorem ce_makeK {c n : Nat} {md : List D → R D} {gD : List D → List D} {gV : List V → List V → List V} {ta : TA} {a : SA} (hg : ∀ (G : Gd) (x : Addr) (zs : List V) (ds : List D), zs.length = n → RepL C.K C.w C.ad G zs ds → ∃ ws, gV [.ref x] zs = .ref x :: ws ∧ RepL C.K C.w C.ad G ws (gD ds)) (ha : CA C xo W ta a) :
    CE C xo W (tMakeK (C.ad c) 0 n (SpD C md) gV E0 tNil ta) (eMakeK c n (fun ds => noX (md ds)) gD a) := fun σ G H env ft Q q =>
  ha σ G H env ft _ (Out.bind q fun ds zs G1 H1 _ s1 r1 o1 => by
    obtain ⟨hn, o1⟩ := out_if o1
    have hz : zs.length = n := r1.length.trans hn
    refine ⟨rfl, hz, fun x dx h1 h2 h3 => ?_⟩
    obtain ⟨ws, e, r2⟩ := hg G1 x zs ds hz r1
    rw [e]
    exact sp_noX (mk_run s1.gh r2 o1 x dx h1 h2 h3))
theorem rep_unit {K : PySem.W.Frag} {w : World} {ad : Nat → Addr} {a : Addr} {oc : Option Addr} {n : Nat} {sl : Array (Option Value)} (h : K.lookup a = some ⟨.type "tuple", oc, .seq #[] n, sl⟩) : ∀ G : Gd, Rep K w ad G (.ref a) (.tup []) :=
  fun G => .tup (Or.inr ⟨_, #[], n, h, rfl, rfl, Nat.zero_le _, .nil⟩) .nil
end
end Dm
namespace Dm
open PySem L2 Evl RZ Wm
section
variable {P : Program} {w : World} {K : PySem.W.Frag} {mg : Str → Option Value} {base : Heap} {ad : Nat → Addr}
/-- a def with keyword-only parameters -/
theorem ok_defVD {x qual : Str} {st : Stmt} {f : Addr} {fd : FuncData} {N ps : List Str} {l n k : Nat} {b : SS} {kws : List (Str × V)} (F : FunD K x qual (defArgs st) (defBody st) (defScope st) [] kws f fd) (S : FnScope N ps (defScope st)) (hn : ps.length = n) (hN : N.length = n + k)
    (h : ∀ (cdv : Value) (A : Around) (outer : List PySem.Env) (s : Shared) (H : Hp) (E : XK), Room l (A.deeper (PyProof.Rows.envOfC qual (defScope st) s.heap.objs.size f cdv)) →
      ∃ t, PSs (cxOf (L2N.CX P w) P w K mg base N qual (defScope st) f cdv A outer s H E) (defBody st) t ∧ ∀ xo, CS ⟨K, w, ad⟩ xo (WF E) t b) : FnOk P w K mg base (L2N.CX P w) (l + 1) f fd ps (SpD ⟨K, w, ad⟩ (defV n k b)) := by
  refine F.ok (CX := L2N.CX P w) S (fun vs H Q E h => ?_) (fun cdv A outer s H vs Q E hr hs => ?_)
  · obtain ⟨G, ds, e, r, o⟩ := h
    rw [hn, r.length]
    exact (out_if o).1
  · obtain ⟨t, ht, hc⟩ := h cdv A outer s H E hr
    obtain ⟨G, ds, e, r, o⟩ := hs
    obtain ⟨hd, o⟩ := out_if o
    have f0 := start_fit (xo := ⟨0, .none, none⟩) (C := ⟨K, w, ad⟩) e r hd hN
    refine ⟨t, ht, hc ⟨0, .none, none⟩ G H _ G H _ f0 _ ?_⟩
    unfold OutS
    have o : OutR ⟨K, w, ad⟩ (rV ⟨K, w, ad⟩) E G H Q (endD (b (ds.map .val ++ List.replicate k .un) G.s)) := o
    unfold endD at o
    cases c : b (ds.map .val ++ List.replicate k .un) G.s with
    | rt s t =>
      rw [c] at o
      cases s with
      | val d => exact o
      | own xs =>
        intro v G' H' st q
        obtain ⟨⟨p, vs, rfl, h1, hm, h2, h3⟩, h4⟩ := q
        exact o (.ref p) _ H' (st.take h1 hm h2 (h4 p rfl)) (.lst upd_same (h3.mono (ExG.new h1)))
      | un => exact False.elim o
      | exn _ _ => exact False.elim o
    | nx e2 t =>
      rw [c] at o
      intro σ G' H' e f'
      have z : G'.s = t := e.s
      subst z
      exact o .non G' H' f'.s .non
    | exc q fs e2 t =>
      rw [c] at o
      intro dd σ G' H' e f' x
      have z : G'.s = t := e.s
      subst z
      exact o dd G' H' f'.s x
    | bk e2 t => rw [c] at o; exact False.elim o
    | ct e2 t => rw [c] at o; exact False.elim o
    | bad => rw [c] at o; exact False.elim o
/-- units left for a look into a dict -/
theorem hu1 {A : Around} {k : Nat} (hr : Room k A) : A.units + 1 < cLine := by have := hr.units; omega
end
end Dm
set_option Elab.async false
set_option linter.all false
set_option maxRecDepth 100000
set_option maxHeartbeats 4000000
/-! Dz7: enumerate of a tuple. -/
namespace L2
open PySem PySem.Spec PyProof.Rows
theorem enumN_meets {v : Value} {o : Obj} {H : Heap → Prop} (B : Begins v o H) : Meets (Builtin.«enumerate.__new__» ⟨[.type "enumerate", v], []⟩) (fun _ R s => H s.heap ∧ R (.ok (.ret (.ref (s.heap.push o).objs.size))) { s with heap := (s.heap.push o).push { cls := .type "enumerate", data := .fields #[.none, .bool false, .ref s.heap.objs.size, rawInt 0, .none, .none] } }) :=
  Meets.of_wp fun prog w A R s h => by
    rcases s with ⟨hp, g, d, tk, os⟩
    rcases h with ⟨hH, hR⟩
    have se := sub_enumerate
    have qi : ∀ {A' : Around} {E : Value → Shared → Prop} {Q : Value → Shared → Prop}, Q (.ref hp.objs.size) ⟨hp.push o, g, d, tk, os⟩ → wpAny (model prog w) A' (pyIter v) Q E ⟨hp, g, d, tk, os⟩ := fun q => B.iter prog w _ _ ⟨hp, g, d, tk, os⟩ _ hH q
    wp_walk using qi
    refine wpAny_stack_any (fun st => wpAny_pure ?_)
    split
    · rename_i c _ _ _ _ _
      cases (c == Value.type "enumerate") <;> (wp_walk using qi; exact ⟨_, rfl, hR⟩)
    · wp_walk using qi; exact ⟨_, rfl, hR⟩
section
variable {prog : Program} {w : World} {A : Around} {E : Value → Shared → Prop} {s : Shared}
theorem call_enumN {v : Value} {o : Obj} {H : Heap → Prop} {Q : Value → Shared → Prop} (B : Begins v o H) (hH : H s.heap)
    (h : ∀ g, IsEnum g (s.heap.objs.size + 1) s.heap.objs.size 0 .none → g.get? s.heap.objs.size = some o → (∀ b c, s.heap.get? b = some c → g.get? b = some c) → Q (.ref (s.heap.objs.size + 1)) { s with heap := g }) : wpAny (model prog w) A (call (.type "enumerate") [v]) Q E s := by
  have z : (s.heap.push o).objs.size = s.heap.objs.size + 1 := Heap.size_push ..
  have q := Heap.get?_push_size (s.heap.push o) (o := { cls := .type "enumerate", data := .fields #[.none, .bool false, .ref s.heap.objs.size, rawInt 0, .none, .none] }) rfl
  rw [z] at q
  refine callType_new F.called_enumerate (by decide) (F.typeCall_enumerate_1 v) (F.newCall_enumerate_1 v) (fun ob => F.args_object_init_2 ob v) F.entry_enumerate_new (enumN_meets B) ⟨hH, ?_⟩
  show _ ∧ _
  rw [z]
  exact ⟨⟨_, q, rfl⟩, h _ q (Heap.get?_push_of_some _ (Heap.get?_push_size _ B.free)) fun b c x => Heap.get?_push_of_some _ (Heap.get?_push_of_some _ x)⟩
end
/-- the tuple at a, each item in a new pair -/
def IteT (K : PySem.W.Frag) (a : Addr) : It :=
  ⟨fun i H => ∃ (xs : List V) (x : V), SqT K H a xs ∧ xs[i]? = some x, fun i H v G => ∃ T x, v = .ref T ∧ H T = none ∧ G = upd H T (.tup [.int (i : Nat), x]) ∧ ∀ xs, SqT K H a xs → xs[i]? = some x, fun i H => ∃ ys : List V, SqT K H a ys ∧ ys.length ≤ i⟩
theorem turn_enumT {P : Program} {w : World} {K : PySem.W.Frag} {es : List Expr} {kk : Nat} {tp : Pos} (a e it : Addr) :
    Turn P w K (.Tuple es kk tp) (IteT K a) [e, it] e (fun i h => (∃ old, IsEnum h e it ((i : Nat) : Int) old) ∧ h.IsTupleIter it a i ∧ e ≠ it) where
  mem := List.mem_cons_self
  obj := fun i h st b hb => by
    obtain ⟨⟨old, hE⟩, ⟨o, ho, _, hd⟩, _⟩ := st
    rcases (show b = e ∨ b = it by simpa using hb) with rfl | rfl
    · exact ⟨_, hE, fun _ q => nomatch q⟩
    · exact ⟨o, ho, fun _ q => by rw [hd] at q; cases q⟩
  keep := fun i h g st k => ⟨st.1.imp fun _ hE => k e List.mem_cons_self _ hE, st.2.1.at fun o q => k it (List.mem_cons_of_mem _ List.mem_cons_self) o q, st.2.2⟩
  item := by
    intro X hP hw hK hc i pins s σ H E I hf st hg
    subst hP; subst hw; subst hK
    obtain ⟨⟨old, hE⟩, hit, hne⟩ := st
    obtain ⟨xs, x, hq, hx⟩ := hg
    obtain ⟨its, rv, p, _⟩ := I.tuple hq
    obtain ⟨u, hu, ru⟩ := rv.get hx
    have le : e < s.heap.objs.size := Heap.lt_size hE
    have li : it < s.heap.objs.size := hit.elim fun _ q => Heap.lt_size q.1
    have ht : s.heap.IsTuple a its.toArray := p
    have hai : a ≠ it := fun z => by
      obtain ⟨o, h1, h2, _⟩ := ht
      obtain ⟨o2, h3, h4, _⟩ := hit
      rw [z, h3] at h1
      cases h1
      rw [h4] at h2
      exact absurd h2 (by decide)
    have hae : a ≠ e := fun z => by
      obtain ⟨o, h1, h2, _⟩ := ht
      rw [z, hE] at h1
      cases h1
      exact absurd (show Value.type "enumerate" = Value.type "tuple" from h2) (by decide)
    have lt : i < its.toArray.size := by
      rw [List.size_toArray]
      exact (List.getElem?_eq_some_iff.mp hu).1
    have D : Draws X.prog X.w X.A.in1 it [it, a] its.toArray.size (fun i v => its.toArray[i]? = some v) _ := Draws.tuple (A := X.A.in1) (I.ok.hd hc) it a hai its.toArray
    refine wpAny_pyNext_enum_itemD D hE ⟨hit, ht⟩ lt hne (by simp [hne, Ne.symm hae]) fun v h' tk hv ho st' hT hz hk => ?_
    obtain rfl : u = v := by
      have hv' : its.toArray[i]? = some v := hv
      rw [List.getElem?_toArray, hu] at hv'
      exact Option.some.inj hv'
    refine ⟨_, rfl, wpAny_letOwnedTupleGo_enum (s := { s with heap := h', toks := tk + 1 }) ho fun g he' sb => ?_⟩
    have hT2 := (sb.2 _ (Nat.ne_of_gt le)).trans hT
    have new : ObjOk X.prog X.w (upd H s.heap.objs.size (.tup [.int (i : Nat), x])) g s.heap.objs.size (.tup [.int (i : Nat), x]) := ⟨by show 2 ≤ sizeLine; decide, [.int i tk, u], .cons ⟨_, rfl⟩ (.cons ru .nil), ⟨_, hT2, rfl, _, rfl⟩⟩
    have J : Inv X pins σ (upd H s.heap.objs.size (.tup [.int (i : Nat), x])) { s with heap := g, toks := tk + 1 } := I.turnedNew (ch := [e, it]) (fun b o hb q => by
      have nb : b ≠ e ∧ b ≠ it := by simpa using hb
      exact (sb.2 b nb.1).trans (hk b o nb.1 nb.2 q)) hf (Nat.le_refl _) new
    refine ⟨.ref s.heap.objs.size, _, J, rfl, ⟨_, x, rfl, I.hok.fresh (Nat.le_refl _), rfl, fun ys hy => by rw [I.tuple_inj hy hq, hx]⟩, ⟨⟨u, ?_⟩, st'.1.at fun o q => (sb.2 it (Ne.symm hne)).trans q, hne⟩, fun b hb => ?_⟩
    · rw [show ((i + 1 : Nat) : Int) = (i : Int) + 1 by omega]
      exact he'
    · have hb' : b < s.heap.objs.size := by rcases (show b = e ∨ b = it by simpa using hb) with rfl | rfl <;> assumption
      rw [upd_ne (Nat.ne_of_lt hb'), (hf b hb).1]
  done := by
    intro X hP hw hK hc i pins s σ H E I hf st hg
    subst hP; subst hw; subst hK
    obtain ⟨⟨old, hE⟩, hit, hne⟩ := st
    obtain ⟨xs, hq, hx⟩ := hg
    obtain ⟨its, rv, p, _⟩ := I.tuple hq
    obtain ⟨f0, f1, f2, f3, f4, f5⟩ := hf it (List.mem_cons_of_mem _ List.mem_cons_self)
    have hl := rv.length
    have ht : s.heap.IsTuple a its.toArray := p
    have D : Draws X.prog X.w X.A.in1 it [it, a] i (fun _ _ => False) (fun k h => k = i ∧ h.IsTupleIter it a i ∧ h.IsTuple a its.toArray) :=
      ⟨fun _ h z => z.2.1.imp fun _ q => q.1, fun _ _ _ z k => ⟨z.1, z.2.1.at fun o q => k it List.mem_cons_self o q, z.2.2.at fun o q => k a (List.mem_cons_of_mem _ List.mem_cons_self) o q⟩, fun k _ _ _ hk z => absurd z.1 (Nat.ne_of_lt hk), fun s Q E z h => wpAny_nextOf_tuple_end (A := X.A.in1) (I.ok.hd hc) z.2.1 z.2.2 (by rw [List.getElem?_toArray]; exact List.getElem?_eq_none (by omega)) h⟩
    exact wpAny_pyNext_enum_endD D hE ⟨rfl, hit, ht⟩ fun g eb => ⟨rfl, I.turned (t' := s.toks) (fun b o hb q => eb b o hb q) f0 f1 f3 f4 f5⟩
  self := fun _ _ _ _ _ st h => st.1.elim fun _ hE => wpAny_pyIter_enum hE h
def iEnumT (K : PySem.W.Frag) (ta : TA) : TI := fun σ H R => ta σ H fun vs G => ∃ a xs, vs = [.ref a] ∧ SqT K G a xs ∧ R (IteT K a) G
theorem pi_enumT {X : Cx} {e : Expr} {ta : TA} {p pos tp : Pos} {es : List Expr} {kk : Nat} (hg : Gl X "enumerate") (hm : X.mg "enumerate" = none) (ha : PA X [e] ta) (hs : starEach [e] X.env = [(false, eval e X.env)] := by rfl) : PI X (.Tuple es kk tp) (.Call (.Name "enumerate" p) [e] [] pos) (iEnumT X.K ta) :=
  ⟨fun pins s σ H R I h => Call_ (ld_blt I hg hm boot_enumerate (PyProof.Rows.callWith_type1 (thn (ha.run pos pins s σ H _ I h) fun us s1 ⟨vs, G, J, r1, a, xs, ex, hq, q⟩ => by
    subst ex
    cases r1 with
    | cons r rr =>
      cases rr
      cases r
      obtain ⟨its, rv, p', _⟩ := J.tuple hq
      have ht : s1.heap.IsTuple a its.toArray := p'
      refine call_enumN (begins_tuple a its.toArray) ht fun g hE hi hk => wpAny_pyIter_enum hE ?_
      have J2 : Inv X pins σ G { s1 with heap := g } := J.kept (t' := s1.toks) hk
      refine ⟨s1.heap.objs.size + 1, [s1.heap.objs.size + 1, s1.heap.objs.size], _, _, G, rfl, J2, turn_enumT a (s1.heap.objs.size + 1) s1.heap.objs.size, ⟨⟨.none, hE⟩, ⟨_, hi, rfl, rfl⟩, Nat.succ_ne_self _⟩, fun b hb => ?_, q⟩
      have hl : s1.heap.objs.size ≤ b := by rcases (show b = s1.heap.objs.size + 1 ∨ b = s1.heap.objs.size by simpa using hb) with rfl | rfl <;> omega
      exact J.fpOk hl (J.hok.fresh hl)) hs rfl))⟩
theorem walk_enumT {K : PySem.W.Frag} {a : Addr} {xs : List V} : Walk (IteT K a) xs.length (fun H => SqT K H a xs) (YPair (fun i => some (.int (i : Nat))) (fun i => xs[i]?)) :=
  ⟨fun i _ hi q => ⟨xs, xs[i], q, List.getElem?_eq_getElem hi⟩, fun _ q => ⟨xs, q, Nat.le_refl _⟩, fun i _ _ _ _ q y => by
    obtain ⟨T, x, h1, h2, h3, h4⟩ := y
    exact ⟨T, _, x, h1, h2, h3, rfl, h4 xs q⟩⟩
end L2
namespace Dm
open PySem L2 Evl RZ Wm
section
variable {C : Cc} {xo : Xo} {W : WX}
def iEnT (o : SE) : SA := fun env => (o env).bind fun x => match x with
  | .tup xs => .ok (enumD 0 xs)
  | _ => .bad
theorem ci_enumT {te : TE} {f : SE} (h : CE C xo W te f) : CI C xo W (iEnumT C.K (tCons te tNil)) (iEnT f) := fun σ G H env ft R o =>
  h σ G H env ft _ (Out.bind o fun d v G1 H1 _ s r o1 => by
    cases r with
    | @tup a vs ds h1 r =>
      refine ⟨a, vs, rfl, ex_t s.gh.e h1, o1 _ G1 H1 (Step.refl s.gh) ⟨_, _, by rw [enumD_length, ← r.length]; exact walk_enumT, fun H e => ex_t e h1, fun i H x H' G1 hi e1 e2 y => ?_⟩⟩
      obtain ⟨T, p, q, rfl, hT, rfl, h1, h2⟩ := y
      obtain rfl : V.int (i : Nat) = p := Option.some.inj h1
      obtain ⟨d, q1, q2⟩ := r.getV h2
      obtain ⟨G', s, rr⟩ := pair_step (x := .int (i : Nat)) e2 hT (.int _) (q2.mono e1)
      exact ⟨G', _, enumD_at (n := 0) q1, s, by rw [Nat.zero_add]; exact rr⟩
    | _ => exact False.elim o1)
end
end Dm
namespace Dm
open PySem L2 Evl RZ Wm
/-! what is walked is a cell or a list that stays -/
def srcC (xs : List D) : Src := fun i _ => some xs[i]?
def mA (o : SE) : Env → R Src := fun env => (o env).bind fun x => match x with
  | .mref n => onL n fun _ s => Rs.ok (srcL n) s
  | .lst xs => .ok (srcC xs)
  | .scr xs => .ok (srcC xs)
  | _ => .bad
section
variable {C : Cc} {xo : Xo} {W : WX} {G : Gd}
theorem srvC {a : Addr} {vs : List V} {xs : List D} (h : SqL C.K G.g a vs) (r : RepL C.K C.w C.ad G vs xs) : SrvM C (Itl C.K a) G (srcC xs) := fun i H G1 e ok => by
  have h1 : SqL C.K H a vs := ex_l ok.e (ex_l e.g h)
  have r1 : RepL C.K C.w C.ad G1 vs xs := RpL.mono0 e.g e.m r
  refine ⟨fun q => ⟨vs, h1, at_len r1 (Option.some.inj q)⟩, fun d q => ?_⟩
  obtain ⟨u, hu, ru⟩ := r1.get (Option.some.inj q)
  refine ⟨⟨vs, u, h1, hu⟩, fun x H' y => ?_⟩
  obtain ⟨rfl, y2⟩ := y
  have := y2 vs h1
  rw [hu] at this
  cases this
  exact ⟨G1, Step.refl ok, ru⟩
theorem cim_A {te : TE} {f : SE} (h : CE C xo W te f) : CIM C xo W (iList C.K te) (mA f) := fun σ G H env ft R o =>
  h σ G H env ft _ (Out.bind o fun d v G1 H1 hq s r o1 => by
    cases r with
    | @mref n a hm =>
      obtain ⟨xs, hs, o1⟩ := onL_out o1
      obtain ⟨_, vs, hH, r⟩ := s.gh.at hm hs
      exact ⟨a, rfl, ⟨vs, sq_of hH⟩, o1 (Itl C.K a) G1 H1 (Step.refl s.gh) (srvL hm)⟩
    | @lst a vs ds h1 r => exact ⟨a, rfl, ⟨vs, sq_of (s.gh.e _ _ h1)⟩, o1 (Itl C.K a) G1 H1 (Step.refl s.gh) (srvC (sq_of h1) r)⟩
    | @scr a vs ds h1 r => exact ⟨a, rfl, ⟨vs, ex_l s.gh.e h1⟩, o1 (Itl C.K a) G1 H1 (Step.refl s.gh) (srvC h1 r)⟩
    | _ => exact False.elim o1)
end
end Dm
namespace L2
open PySem PySem.Spec PyProof.Rows
section
variable {X : Cx} {K : PySem.W.Frag} {tg e : Expr} {te : TE} {ta : TA} {es : List Expr} {kk : Nat} {p pos tp : Pos}
theorem pi_listK (h : X.K = K) (he : PE X e te) : PI X tg e (iList K te) := h ▸ pi_list he
theorem pi_tupK (h : X.K = K) (he : PE X e te) : PI X tg e (iTup K te) := h ▸ pi_tup he
theorem pi_enumK (h : X.K = K) (hg : Gl X "enumerate") (hm : X.mg "enumerate" = none) (ha : PA X [e] ta) (hs : starEach [e] X.env = [(false, eval e X.env)] := by rfl) : PI X (.Tuple es kk tp) (.Call (.Name "enumerate" p) [e] [] pos) (iEnum K ta) := h ▸ pi_enum hg hm ha hs
theorem pi_enumTK (h : X.K = K) (hg : Gl X "enumerate") (hm : X.mg "enumerate" = none) (ha : PA X [e] ta) (hs : starEach [e] X.env = [(false, eval e X.env)] := by rfl) : PI X (.Tuple es kk tp) (.Call (.Name "enumerate" p) [e] [] pos) (iEnumT K ta) := h ▸ pi_enumT hg hm ha hs
end
end L2
set_option Elab.async false
set_option linter.all false
set_option maxRecDepth 100000
set_option maxHeartbeats 4000000
/-! Dz8: slices of lists, put and taken out. -/
namespace L2
open PySem PySem.Spec PyProof.Rows
/-- what stays of a list around a slice -/
def slA {α : Type} (xs : List α) (lo : Option Int) : List α := xs.take (HT.sIx xs.length 0 lo)
def slB {α : Type} (xs : List α) (lo hi : Option Int) : List α := xs.drop (max (HT.sIx xs.length 0 lo) (HT.sIx xs.length xs.length hi))
theorem keep_go (a b : Nat) (g : Value × Nat → Option Value) : ∀ (xs : List Value) (k : Nat), (∀ x i, k ≤ i → g (x, i) = if a ≤ i ∧ i < b then none else some x) → (xs.zipIdx k).filterMap g = xs.take (a - k) ++ xs.drop (max a b - k)
  | [], k, h => by simp
  | x :: xs, k, h => by
    have ih := keep_go a b g xs (k + 1) fun x i hi => h x i (by omega)
    have hk := h x k (Nat.le_refl _)
    rw [List.zipIdx_cons, List.filterMap_cons, hk, ih]
    by_cases h1 : k < a
    · rw [if_neg (by omega), show a - k = (a - (k + 1)) + 1 by omega, show max a b - k = (max a b - (k + 1)) + 1 by omega]
      rfl
    · by_cases h2 : k < b
      · rw [if_pos (by omega), show a - k = 0 by omega, show a - (k + 1) = 0 by omega, show max a b - k = (max a b - (k + 1)) + 1 by omega]
        rfl
      · rw [if_neg (by omega), show a - k = 0 by omega, show a - (k + 1) = 0 by omega, show max a b - k = 0 by omega, show max a b - (k + 1) = 0 by omega]
        rfl
section
variable {prog : Program} {w : World} {A : Around} {E : Value → Shared → Prop} {s : Shared}
theorem delItem_sl {l sl : Addr} {its : List Value} {n : Nat} {vl vu : Value} {lo hi : Option Int} {Q : Unit → Shared → Prop} (e : s.heap.get? l = some { cls := .type "list", data := .seq its.toArray n })
    (hs : s.heap.IsSliceOf sl vl vu .none) (pl : IsPart vl lo) (pu : IsPart vu hi) (hz : its.length ≤ sizeLine)
    (h : ∀ f : Array Value → Array Value, f its.toArray = (slA its lo ++ slB its lo hi).toArray → Q () { s with heap := s.heap.update l (Obj.mapSeq f) }) : wpAny (model prog w) A (delItem (.ref l) (.ref sl)) Q E s := by
  have hl : s.heap.IsList l its.toArray := PySem.IsL.isList e
  obtain ⟨os, ho1, ho2, ho3⟩ := id hs
  have ty : s.TypeIs (.ref sl) "slice" := ⟨os, ho1, ho2⟩
  obtain ⟨b1, b2, b3⟩ := slice_bounds lo hi its.toArray.size
  have bb : sliceBounds lo hi none its.toArray.size = (((HT.sIx its.toArray.size 0 lo : Nat) : Int), ((HT.sIx its.toArray.size its.toArray.size hi : Nat) : Int), 1) := by
    rw [← b1, ← b2, ← b3]
  refine wpAny_delItem_slot hl.typeIs (by decide) F.slot_list_delitem (wpAny_call_entry F.slot_list_delitem hl.typeIs F.entry_list_delitem ?_ (F.args_list_delitem_2 _ _))
  show wpAny _ _ (Builtin.List.listSubscript? (.ref sl) >>= _) _ _ s
  unfold Builtin.List.listSubscript?
  refine wpAny_bind (wpAny_bind (wpAny_specialOf ty slice_no_index ?_))
  rw [Option.isNone_none, if_pos rfl]
  refine wpAny_pure ?_
  show wpAny _ _ (typeOf (.ref sl) >>= _) _ _ s
  refine wpAny_bind (wpAny_typeOf ty ?_)
  first | rw [if_neg (by decide)] | refine PySem.W.KFB.if_not (by decide) ?_
  rw [listSliceParts_eq]
  refine wpAny_bind (wpAny_bind (wpAny_field ho1 ho3 (x := Value.none) rfl (wpAny_bind (wpAny_listPart IsPart.none ?_))))
  rw [if_neg (show ¬ ((rawPart none == rawInt 0) = true) from Bool.false_ne_true)]
  refine wpAny_bind (wpAny_field ho1 ho3 (x := vl) rfl (wpAny_bind (wpAny_listPart pl (wpAny_bind (wpAny_field ho1 ho3 (x := vu) rfl (wpAny_bind (wpAny_listPart pu (wpAny_pure ?_))))))))
  refine wpAny_bind ?_
  unfold Builtin.List.listItems
  refine wpAny_bind (wpAny_seqItems e rfl (wpAny_pure ?_))
  refine wpAny_bind (wpAny_of_eq ((sliceIndices_raw lo hi none its.toArray.size (by simp)).trans (congrArg (pure : Int × Int × Int → Sem (Int × Int × Int)) bb)) ?_)
  refine wpAny_bind (wpAny_rule ?_)
  generalize ha : HT.sIx its.toArray.size 0 lo = a
  generalize hb : HT.sIx its.toArray.size its.toArray.size hi = b
  have key : ∀ g : Value × Nat → Option Value, (∀ x i, g (x, i) = if a ≤ i ∧ i < b then none else some x) → its.zipIdx.filterMap g = slA its lo ++ slB its lo hi := fun g hg => by
    rw [keep_go a b g its 0 fun x i _ => hg x i]
    unfold slA slB
    rw [← ha, ← hb, List.size_toArray]
    rfl
  have le : (slA its lo ++ slB its lo hi).length ≤ its.length := by
    unfold slA slB
    rw [List.length_append, List.length_take, List.length_drop]
    omega
  have pt : ∀ (x : Value) (i : Nat), (if (if (1 : Int) > 0 then (decide ((a : Int) ≤ (i : Int)) && decide ((i : Int) < (b : Int)) && ((((i : Int) - (a : Int)) % 1) == 0)) else (decide ((b : Int) < (i : Int)) && decide ((i : Int) ≤ (a : Int)) && ((((a : Int) - (i : Int)) % (-1)) == 0))) = true then (none : Option Value) else some x) = if a ≤ i ∧ i < b then none else some x := fun x i => by
    have z : (((i : Int) - (a : Int)) % 1 == 0) = true := by rw [Int.emod_one]; rfl
    rw [if_pos (by decide : (1 : Int) > 0), z, Bool.and_true]
    by_cases h1 : a ≤ i ∧ i < b
    · rw [if_pos (by rw [decide_eq_true (by omega), decide_eq_true (by omega)]; rfl), if_pos h1]
    · rw [if_neg (by simp only [Bool.and_eq_true, decide_eq_true_eq]; omega), if_neg h1]
  refine wpAny_bind ?_
  refine wpAny_updateSeq (a := l) e rfl (?_) (by rw [List.size_toArray]; exact hz) ?_
  · refine wpAny_bind (wpAny_letGo ?_)
    refine wpAny_pure ⟨.none, rfl, h _ (congrArg List.toArray (key _ fun x i => pt x i))⟩
  · refine Nat.le_trans (Nat.le_of_eq ((congrArg Array.size (congrArg List.toArray (key _ fun x i => pt x i))).trans List.size_toArray)) ?_
    omega
theorem slE {lo hi : Option Int} (its new : List Value) (a c : Nat) (ha : HT.sIx its.toArray.size 0 lo = a) (hc : HT.sIx its.toArray.size its.toArray.size hi = c) : its.toArray.extract 0 (((a : Nat) : Int)).toNat ++ new.toArray ++ its.toArray.extract (max ((a : Nat) : Int) ((c : Nat) : Int)).toNat its.toArray.size = (slA its lo ++ new ++ slB its lo hi).toArray := by
  have m : (max ((a : Nat) : Int) ((c : Nat) : Int)).toNat = max a c := by omega
  rw [m, Int.toNat_natCast]
  unfold slA slB
  rw [List.size_toArray] at ha hc
  rw [ha, hc]
  apply Array.toList_inj.mp
  simp [List.take_of_length_le]
theorem setItem_sl {l b sl : Addr} {its new : List Value} {n m : Nat} {vl vu : Value} {lo hi : Option Int} {Q : Unit → Shared → Prop} (e : s.heap.get? l = some { cls := .type "list", data := .seq its.toArray n })
    (e2 : s.heap.get? b = some { cls := .type "list", data := .seq new.toArray m }) (hne : l ≠ b) (hs : s.heap.IsSliceOf sl vl vu .none) (pl : IsPart vl lo) (pu : IsPart vu hi) (hz : its.length + new.length ≤ sizeLine)
    (h : ∀ f : Array Value → Array Value, f its.toArray = (slA its lo ++ new ++ slB its lo hi).toArray → Q () { s with heap := s.heap.update l (Obj.mapSeq f) }) : wpAny (model prog w) A (setItem (.ref l) (.ref sl) (.ref b)) Q E s := by
  have tl : s.TypeIs (.ref l) "list" := (PySem.IsL.isList e).typeIs
  have tb : s.TypeIs (.ref b) "list" := (PySem.IsL.isList e2).typeIs
  obtain ⟨os, ho1, ho2, ho3⟩ := id hs
  have ty : s.TypeIs (.ref sl) "slice" := ⟨os, ho1, ho2⟩
  obtain ⟨b1, b2, b3⟩ := slice_bounds lo hi its.toArray.size
  have bb : sliceBounds lo hi none its.toArray.size = (((HT.sIx its.toArray.size 0 lo : Nat) : Int), ((HT.sIx its.toArray.size its.toArray.size hi : Nat) : Int), 1) := by
    rw [← b1, ← b2, ← b3]
  have nsame : ¬ (Builtin.List.listSameRef (.ref l) (.ref b) = true) := by
    show ¬ ((l == b) = true)
    rw [beq_eq_false_iff_ne.mpr hne]
    exact Bool.false_ne_true
  have long : ¬ (Builtin.List.listTooLong (its.toArray.size + new.toArray.size) = true) := by
    rw [notLongL (by rw [List.size_toArray, List.size_toArray]; exact hz)]
    exact Bool.false_ne_true
  unfold setItem
  try with_reducible refine wpAny_holding ?_
  first | refine wpAny_bind (wpAny_pure ?_) | skip
  refine wpAny_bind (wpAny_sequenceKey tl (by decide) (wpAny_bind (wpAny_callSpecial?_slot (name := Str.ofString "__setitem__") tl F.slot_list_setitem (wpAny_call_entry F.slot_list_setitem tl F.entry_list_setitem ?_ (F.args_list_setitem_3 _ _ _)))))
  show wpAny _ _ (Builtin.List.listSubscript? (.ref sl) >>= _) _ _ s
  unfold Builtin.List.listSubscript?
  refine wpAny_bind (wpAny_bind (wpAny_specialOf ty slice_no_index ?_))
  rw [Option.isNone_none, if_pos rfl]
  refine wpAny_pure ?_
  show wpAny _ _ (typeOf (.ref sl) >>= _) _ _ s
  refine wpAny_bind (wpAny_typeOf ty ?_)
  first | rw [if_neg (by decide)] | refine PySem.W.KFB.if_not (by decide) ?_
  rw [listSliceParts_eq]
  refine wpAny_bind (wpAny_bind (wpAny_field ho1 ho3 (x := Value.none) rfl (wpAny_bind (wpAny_listPart IsPart.none ?_))))
  rw [if_neg (show ¬ ((rawPart none == rawInt 0) = true) from Bool.false_ne_true)]
  refine wpAny_bind (wpAny_field ho1 ho3 (x := vl) rfl (wpAny_bind (wpAny_listPart pl (wpAny_bind (wpAny_field ho1 ho3 (x := vu) rfl (wpAny_bind (wpAny_listPart pu (wpAny_pure ?_))))))))
  first | rw [if_neg nsame] | refine PySem.W.KFB.if_not (Bool.eq_false_iff.mpr nsame) ?_
  refine wpAny_bind (m := Builtin.List.listAllItems (.ref b) "must assign iterable to extended slice") ?_
  unfold Builtin.List.listAllItems Builtin.List.listItems
  refine wpAny_bind (wpAny_typeOf tb ?_)
  first | rw [if_pos (by decide)] | refine PySem.W.KFB.if_so (by decide) ?_
  refine wpAny_bind (wpAny_seqItems e2 rfl (wpAny_pure (wpAny_bind (wpAny_bind (wpAny_seqItems e rfl (wpAny_pure ?_))))))
  refine wpAny_bind (wpAny_of_eq ((sliceIndices_raw lo hi none its.toArray.size (by simp)).trans (congrArg (pure : Int × Int × Int → Sem (Int × Int × Int)) bb)) ?_)
  show wpAny _ _ (if ((1 : Int) == 1) = true then _ else _) _ _ s
  rw [if_pos (by decide)]
  refine wpAny_bind (wpAny_rule ?_)
  first | rw [if_neg long] | refine PySem.W.KFB.if_not (Bool.eq_false_iff.mpr long) ?_
  first | refine wpAny_bind (wpAny_pure ?_) | skip
  generalize ha : HT.sIx its.toArray.size 0 lo = a
  generalize hb : HT.sIx its.toArray.size its.toArray.size hi = c
  have key := slE its new a c ha hb
  have le : (slA its lo ++ new ++ slB its lo hi).length ≤ its.length + new.length := by
    unfold slA slB
    rw [List.length_append, List.length_append, List.length_take, List.length_drop]
    omega
  refine wpAny_bind (wpAny_updateSeq (a := l) e rfl (wpAny_bind (wpAny_letGo ?_)) (by rw [List.size_toArray]; omega) ?_)
  · first
      | exact wpAny_pure ⟨.none, rfl, wpAny_pure (h _ key)⟩
      | exact wpAny_bind (wpAny_pure (wpAny_pure ⟨.none, rfl, wpAny_pure (h _ key)⟩))
  · exact Nat.le_trans (Nat.le_of_eq ((congrArg Array.size key).trans List.size_toArray)) (Nat.le_trans le (Nat.le_trans hz (Nat.le_succ _)))
end
/-! statements -/
def tDelSl (to : TE) (tl th : TO) : TS := fun D σ H => to σ H fun x H1 => tl σ H1 fun l H2 => th σ H2 fun u H3 => ∃ (a : Addr) (xs : List V), x = .ref a ∧ H3 a = some (.lst xs) ∧ D.nx σ (upd H3 a (.lst (slA xs l ++ slB xs l u)))
def gSl (to : TE) (tl th : TO) : TG := fun v σ H Q => to σ H fun x H1 => tl σ H1 fun l H2 => th σ H2 fun u H3 => ∃ (a b : Addr) (xs ys : List V), x = .ref a ∧ v = .ref b ∧ a ≠ b ∧ H3 a = some (.lst xs) ∧ H3 b = some (.lst ys) ∧ xs.length + ys.length ≤ sizeLine ∧ Q σ (upd H3 a (.lst (slA xs l ++ ys ++ slB xs l u)))
section
variable {X : Cx} {o : Expr} {lo hi : Option Expr} {to : TE} {tl th : TO} {p1 p2 pos : Pos}
theorem Vals.slA {xs : List V} {us : List Value} (r : Vals xs us) (l : Option Int) : Vals (slA xs l) (slA us l) := by
  unfold L2.slA
  rw [r.length]
  exact r.take _
theorem Vals.slB {xs : List V} {us : List Value} (r : Vals xs us) (l u : Option Int) : Vals (slB xs l u) (slB us l u) := by
  unfold L2.slB
  rw [r.length]
  exact r.drop _
theorem sl_len {α : Type} (xs : List α) (l u : Option Int) : (slA xs l).length + (slB xs l u).length ≤ xs.length := by
  unfold slA slB
  rw [List.length_take, List.length_drop]
  omega
theorem ps_delSl (ho : PE X o to) (hl : PO X lo tl) (hu : PO X hi th) : PS X (.Delete [.Subscript o (.Slice lo hi none p2) p1] pos) (tDelSl to tl th) := by
  refine ⟨fun pins s σ H D I h => wpAny_Delete (wpAny_deleteEach_cons (wpAny_delete_Subscript (thn (ho.run pins s σ H _ I h) fun v s1 ⟨x, H1, I1, rx, q1⟩ => wpAny_Slice (thn (hl.run pins s1 σ H1 _ I1 q1) fun vl s2 ⟨l, H2, I2, pl, q2⟩ => thn (hu.run pins s2 σ H2 _ I2 q2) fun vu s3 ⟨u, H3, I3, pu, a, xs, ex, hH, q3⟩ => ?_))))⟩
  subst ex
  cases (show v = Value.ref a from rx)
  rw [evalPart_none]
  refine wpAny_pure ?_
  have J : Inv X pins σ H3 { s3 with heap := s3.heap.push { cls := .type "slice", data := .fields #[vl, vu, .none] } } := I3.kept (t' := s3.toks) fun b ob q => Heap.get?_push_of_some _ q
  obtain ⟨z, its, n, r, hlen, e⟩ := J.lstM hH
  refine delItem_sl e (Heap.IsSliceOf.new ..) pl pu (by rw [← hlen]; exact z) fun f hf => wpAny_deleteEach_nil ⟨σ, _, J.lset (t' := s3.toks) hH e hf ((r.slA l).append (r.slB l u)) ?_, q3⟩
  have := sl_len xs l u
  rw [List.length_append]
  omega
theorem pg_sl (ho : PE X o to) (hl : PO X lo tl) (hu : PO X hi th)
    (ha : ∀ v, assign (.Subscript o (.Slice lo hi none p2) pos) X.env v = (do
      let ov ← holding [v] (eval o X.env)
      let iv ← holding [v, ov] (eval (.Slice lo hi none p2) X.env)
      standAt pos
      holding [v, ov, iv] (setItem ov iv v)
      release [iv, v, ov] []) := by intro _; rfl) : PG X (.Subscript o (.Slice lo hi none p2) pos) (gSl to tl th) := by
  refine ⟨fun pins s σ H v w Q I rv h => ?_⟩
  rw [ha]
  refine wpAny_bind (wpAny_holding (thn (ho.run pins s σ H _ I h) fun ov s1 ⟨x, H1, I1, rx, q1⟩ => wpAny_bind (wpAny_holding (wpAny_Slice (thn (hl.run pins s1 σ H1 _ I1 q1) fun vl s2 ⟨l, H2, I2, pl, q2⟩ => thn (hu.run pins s2 σ H2 _ I2 q2) fun vu s3 ⟨u, H3, I3, pu, a, b, xs, ys, ex, ey, hne, hA, hB, hz, q3⟩ => ?_)))))
  subst ex ey
  cases (show ov = Value.ref a from rx)
  cases (show w = Value.ref b from rv)
  rw [evalPart_none]
  refine wpAny_pure ?_
  have J : Inv X pins σ H3 { s3 with heap := s3.heap.push { cls := .type "slice", data := .fields #[vl, vu, .none] } } := I3.kept (t' := s3.toks) fun b ob q => Heap.get?_push_of_some _ q
  obtain ⟨z, its, n, r, hlen, e⟩ := J.lstM hA
  obtain ⟨z2, its2, n2, r2, hlen2, e2⟩ := J.lstM hB
  refine wpAny_bind (wpAny_standAt (wpAny_bind (wpAny_holding (setItem_sl e e2 hne (Heap.IsSliceOf.new ..) pl pu (by rw [← hlen, ← hlen2]; exact hz) fun f hf => wpAny_release ⟨σ, _, J.lset (t' := s3.toks) hA e hf (((r.slA l).append r2).append (r.slB l u)) ?_, q3⟩))))
  have := sl_len xs l u
  rw [List.length_append, List.length_append]
  omega
end
end L2
namespace Dm
open PySem L2 Evl RZ Wm
def delSl : D → Option Int → Option Int → R Unit
  | .mref n, l, u => onL n fun xs s => Rs.ok () (s.set n (.lst (slA xs l ++ slB xs l u)))
  | _, _, _ => .bad
def putSl : D → Option Int → Option Int → D → R Unit
  | .mref n, l, u, .lst ys => onL n fun xs s => if xs.length + ys.length ≤ Z then Rs.ok () (s.set n (.lst (slA xs l ++ ys ++ slB xs l u))) else Rs.bad
  | _, _, _, _ => .bad
def sDelSl (o : SE) (lo hi : Env → R (Option Int)) : SS := fun env => ofE (o env) env fun x => ofE (lo env) env fun l => ofE (hi env) env fun u => ofE (delSl x l u) env fun _ => .nx env
def sPutSl (o : SE) (lo hi : Env → R (Option Int)) (e : SE) : SS := fun env => ofE (e env) env fun d => ofE (o env) env fun x => ofE (lo env) env fun l => ofE (hi env) env fun u => ofE (putSl x l u d) env fun _ => .nx env
section
variable {C : Cc} {xo : Xo} {W : WX} {K : PySem.W.Frag} {w : World} {ad : Nat → Addr} {H : Hp} {M : List Addr}
theorem RpL.slA {v : List V} {d : List D} (r : RpL K w ad H M v d) (l : Option Int) : RpL K w ad H M (slA v l) (slA d l) := by
  unfold L2.slA
  rw [r.length]
  exact r.take _
theorem RpL.slB {v : List V} {d : List D} (r : RpL K w ad H M v d) (l u : Option Int) : RpL K w ad H M (slB v l u) (slB d l u) := by
  unfold L2.slB
  rw [r.length]
  exact r.drop _
theorem cs_delSl {to : TE} {tl th : TO} {b : SE} {lo hi : Env → R (Option Int)} (ho : CE C xo W to b) (h1 : CO C xo W tl lo) (h2 : CO C xo W th hi) : CS C xo W (tDelSl to tl th) (sDelSl b lo hi) := fun G0 H0 σ G H env f D o =>
  ho σ G H env f.f _ (ofE_out f o fun x v G1 H1 s1 r1 f1 o1 => h1 σ G1 H1 env f1.f _ (ofE_out f1 o1 fun l l' G2 H2 s2 r2 f2 o2 => h2 σ G2 H2 env f2.f _ (ofE_out f2 o2 fun u u' G3 H3 s3 r3 f3 o3 => by
    subst r2 r3
    have rx := Rp.mono s3.g (Rp.mono s2.g r1)
    cases rx with
    | @mref n p hm =>
      rw [show delSl (.mref n) l' u' = onL n fun xs s => Rs.ok () (s.set n (.lst (L2.slA xs l' ++ L2.slB xs l' u'))) from rfl] at o3
      unfold OutS ofE onL at o3
      cases c : G3.s[n]? with
      | none => rw [c] at o3; exact False.elim o3
      | some z => cases z with
        | lst xs =>
          rw [c] at o3
          dsimp only at o3
          obtain ⟨_, ws, hH, rl⟩ := f3.f.ok.at hm c
          exact ⟨p, ws, rfl, hH, o3 σ _ _ (ExG.refl _) (f3.step (Step.cell f3.f.ok hm c ((rl.slA l').append (rl.slB l' u'))))⟩
        | dct _ => rw [c] at o3; exact False.elim o3
        | ins _ _ => rw [c] at o3; exact False.elim o3
    | _ => exact False.elim o3)))
theorem cs_putSl {te to : TE} {tl th : TO} {a b : SE} {lo hi : Env → R (Option Int)} (h : CE C xo W te a) (ho : CE C xo W to b) (h1 : CO C xo W tl lo) (h2 : CO C xo W th hi) : CS C xo W (tAsg te (gSl to tl th)) (sPutSl b lo hi a) := fun G0 H0 σ G H env f D o =>
  h σ G H env f.f _ (ofE_out f o fun d v0 G4 H4 s4 r4 f4 o4 => ho σ G4 H4 env f4.f _ (ofE_out f4 o4 fun x v G1 H1 s1 r1 f1 o1 => h1 σ G1 H1 env f1.f _ (ofE_out f1 o1 fun l l' G2 H2 s2 r2 f2 o2 => h2 σ G2 H2 env f2.f _ (ofE_out f2 o2 fun u u' G3 H3 s3 r3 f3 o3 => by
    subst r2 r3
    have rx := Rp.mono s3.g (Rp.mono s2.g r1)
    have rd := Rp.mono s3.g (Rp.mono s2.g (Rp.mono s1.g r4))
    cases rx with
    | @mref n p hm => cases rd with
      | @lst q us ys hq ry =>
        rw [show putSl (.mref n) l' u' (.lst ys) = onL n fun xs s => if xs.length + ys.length ≤ Z then Rs.ok () (s.set n (.lst (L2.slA xs l' ++ ys ++ L2.slB xs l' u'))) else Rs.bad from rfl] at o3
        unfold OutS ofE onL at o3
        cases c : G3.s[n]? with
        | none => rw [c] at o3; exact False.elim o3
        | some z => cases z with
          | lst xs =>
            rw [c] at o3
            dsimp only at o3
            obtain ⟨hg, ws, hH, rl⟩ := f3.f.ok.at hm c
            by_cases hz : xs.length + ys.length ≤ Z
            · rw [if_pos hz] at o3
              exact ⟨p, q, ws, us, rfl, rfl, (fun z => by rw [z, hq] at hg; cases hg), hH, f3.f.ok.e _ _ hq, sz_of (by rw [rl.length, ry.length]; exact hz), o3 σ _ _ (ExG.refl _) (f3.step (Step.cell f3.f.ok hm c (((rl.slA l').append ry).append (rl.slB l' u'))))⟩
            · rw [if_neg hz] at o3; exact False.elim o3
          | dct _ => rw [c] at o3; exact False.elim o3
          | ins _ _ => rw [c] at o3; exact False.elim o3
      | _ => exact False.elim o3
    | _ => cases rd <;> exact False.elim o3))))
end
end Dm
namespace L2
open PySem PySem.Spec PyProof.Rows
def strRep (z : Str) (k : Nat) : Str := ⟨(List.replicate k z.cps).foldl (· ++ ·) #[]⟩
def rMulS : R2 := fun x y H Q => ∃ (z : Str) (k : Int), x = .str z ∧ y = .int k ∧ (2 ≤ k ∧ k ≤ 1000 ∧ 1 ≤ z.length ∧ z.length ≤ 1000) ∧ Q (.str (strRep z k.toNat)) H
theorem rep_len (a : Array Nat) : ∀ (k : Nat) (b : Array Nat), ((List.replicate k a).foldl (· ++ ·) b).size = b.size + k * a.size
  | 0, b => by simp
  | k + 1, b => by
    rw [List.replicate_succ, List.foldl_cons, rep_len a k, Array.size_append, Nat.succ_mul]
    omega
theorem op_mulS {X : Cx} : OpR X (binaryOp .Mult) rMulS := by
  intro pins s σ H x y v u Q I rx ry h
  obtain ⟨z, k, rfl, rfl, ⟨h1, h2, h3, h4⟩, q⟩ := h
  obtain ⟨t, rfl⟩ := rx
  obtain ⟨t', rfl⟩ := ry
  have hp : z.length * k.toNat ≤ 1000000 := Nat.le_trans (Nat.mul_le_mul h4 (show k.toNat ≤ 1000 by omega)) (by decide)
  refine P.mul_str ?_ (fun _ _ => ?_) (fun _ _ => ?_) ?_
  · rw [decide_eq_false (by omega), decide_eq_false (by omega)]
    rfl
  · have : (9223372036854775807 : Int) / k ≥ 9223372036854775 := by
      have := Int.le_ediv_of_mul_le (a := 9223372036854775) (b := 9223372036854775807) (c := k) (by omega) (by omega)
      omega
    rw [show ((2 : Int) ^ 63 - 1) = 9223372036854775807 by decide]
    omega
  · exact decide_eq_false (fun c => absurd (Nat.lt_of_lt_of_le c hp) (by decide))
  · rw [if_neg (by omega), if_neg (by
      intro c
      rw [Bool.or_eq_true, beq_iff_eq, beq_iff_eq] at c
      omega)]
    refine ⟨?_, .str (strRep z k.toNat), H, I.tok _, ⟨_, rfl⟩, q⟩
    show ((List.replicate k.toNat z.cps).foldl (· ++ ·) #[]).size ≤ _
    rw [rep_len, Nat.mul_comm]
    exact Nat.le_trans (Nat.le_of_eq (Nat.zero_add _)) (Nat.le_trans hp (by decide))
end L2
namespace Dm
open PySem L2 Evl RZ Wm
def dMulS : D → D → R D
  | .str z, .int k => if 2 ≤ k ∧ k ≤ 1000 ∧ 1 ≤ z.length ∧ z.length ≤ 1000 then .ok (.str (strRep z k.toNat)) else .bad
  | _, _ => .bad
theorem od_mulS {C : Cc} : OpD C rMulS dMulS := by
  intro G H x y dx dy e rx ry E Q o
  cases rx with
  | str z => cases ry with
    | int k =>
      obtain ⟨hc, o⟩ := out_ifE o
      exact ⟨z, k, rfl, rfl, hc, o _ G H (Step.refl e) (.str _)⟩
    | _ => exact False.elim o
  | _ => cases ry <;> exact False.elim o
end Dm
namespace Dm
open PySem L2 Evl RZ Wm
section
variable {C : Cc} {xo : Xo} {W : WX}
/-- isinstance of a list that is a cell -/
def dIsiM (t : Ty) : D → R D
  | .mref n => onL n fun _ s => Rs.ok (.bl (isTy t (.lst []))) s
  | _ => .bad
theorem ce_isiM {ta : TE} {a : SE} (t : Ty) (ha : CE C xo W ta a) : CE C xo W (tCB (rIsi C.K) (tCons ta (tCons (tC (.ty (tyN t))) tNil))) (eU (dIsiM t) a) := fun σ G H env ft Q o =>
  ha σ G H env ft _ (Out.bind o fun d v G1 H1 _ s r o1 => by
    have e := s.gh
    cases r with
    | @mref n a hm =>
      obtain ⟨xs, hs, o1⟩ := onL_out o1
      obtain ⟨_, vs, hH, r⟩ := e.at hm hs
      exact ⟨_, _, _, _, isTy t (.lst []), rfl, .ty _, .base (.lst hH), kit_ty (by cases t <;> first | (show kitB _ _ = some true; decide +kernel) | (show kitB _ _ = some false; decide +kernel)), o1 _ G1 H1 (Step.refl e) (.bl _)⟩
    | _ => exact False.elim o1)
end
end Dm
namespace Dm
open PySem L2 Evl RZ Wm
def dIsB : D → D → R D
  | .bl a, .bl b => .ok (.bl (decide (a = b)))
  | _, _ => .bad
def dNotB : D → D → R D
  | .bl a, .bl b => .ok (.bl (!decide (a = b)))
  | _, _ => .bad
theorem od_isB {C : Cc} : OpD C rIsB dIsB := by
  intro G H x y dx dy e rx ry E Q o
  cases rx with
  | bl a => cases ry with
    | bl b => exact ⟨a, b, rfl, rfl, o _ G H (Step.refl e) (.bl _)⟩
    | _ => exact False.elim o
  | _ => cases ry <;> exact False.elim o
theorem od_notB {C : Cc} : OpD C rNotB dNotB := by
  intro G H x y dx dy e rx ry E Q o
  cases rx with
  | bl a => cases ry with
    | bl b => exact ⟨a, b, rfl, rfl, o _ G H (Step.refl e) (.bl _)⟩
    | _ => exact False.elim o
  | _ => cases ry <;> exact False.elim o
end Dm
set_option Elab.async false
set_option linter.all false
set_option maxRecDepth 100000
set_option maxHeartbeats 4000000
/-! Dz9: dict displays. -/
namespace Dm
open PySem L2 Evl RZ Wm
def prsD : List D → Option (List (Key × D))
  | [] => some []
  | k :: d :: r => match keyD k, prsD r with
    | some q, some m => some ((q, d) :: m)
    | _, _ => none
  | _ => none
def mergeG (kvs more : List (Key × D)) : List (Key × D) := more.foldl (fun acc kv => putG acc kv.1 kv.2) kvs
def dispD (xs : List D) : R D := match prsD xs with
  | some kvs => if kvs.length ≤ 15 then cNew (.dct (mergeG [] kvs)) else .bad
  | none => .bad
/-- {k: v, ..} -/
def eDisp (a : SA) : SE := fun env => (a env).bind dispD
section
variable {C : Cc} {xo : Xo} {W : WX} {G G' G0 : Gd} {H H' H0 : Hp} {σ : L2.St} {env : Env} {E : XK} {K : PySem.W.Frag} {w : World} {ad : Nat → Addr} {M : List Addr}
def flatP : List (V × V) → List V
  | [] => []
  | p :: r => p.1 :: p.2 :: flatP r
def CPs (C : Cc) (xo : Xo) (W : WX) (trs : List (TE × TE)) (a : SA) : Prop := ∀ σ G H env, Fit C xo G H σ env → ∀ Q : List (V × V) → Hp → Prop, Out C (fun G' _ ps ds => RepL C.K C.w C.ad G' (flatP ps) ds) (WE W σ) G H Q (a env) → tPairs trs σ H Q
theorem cps_nil : CPs C xo W [] eNil := fun σ G H env f Q o => o [] G H (Step.refl f.ok) .nil
theorem cps_cons {tk tv : TE} {r : List (TE × TE)} {a b : SE} {c : SA} (hk : CE C xo W tk a) (hv : CE C xo W tv b) (hr : CPs C xo W r c) : CPs C xo W ((tk, tv) :: r) (eCons a (eCons b c)) := fun σ G H env f Q o =>
  hk σ G H env f _ (Out.bind o fun d v G1 H1 _ s1 r1 o1 => hv σ G1 H1 env (f.step s1) _ (Out.bind (rep := rV C) (show Out C _ (WE W σ) G1 H1 Q ((b env).bind fun y => (c env).bind fun ys => R.ok (d :: y :: ys)) from by
    have e : ((eCons b c env).bind fun ys => R.ok (d :: ys)) = ((b env).bind fun y => (c env).bind fun ys => R.ok (d :: y :: ys)) := by
      funext s
      show R.bind (R.bind _ _) _ s = _
      unfold R.bind
      cases b env s with
      | ok y t => dsimp only; cases c env t <;> rfl
      | exc _ _ _ => rfl
      | bad => rfl
    rw [← e]
    exact o1) fun dy y G2 H2 _ s2 r2 o2 => hr σ G2 H2 env ((f.step s1).step s2) _ (Out.bind o2 fun ds ps G3 H3 _ s3 r3 o3 => by
      exact o3 ((v, y) :: ps) G3 H3 (Step.refl s3.gh) (.cons (Rp.mono (s3.g) (Rp.mono s2.g r1)) (.cons (Rp.mono s3.g r2) r3)))))
theorem prs_rel : ∀ {ps : List (V × V)} {ds : List D} {kvs : List (Key × D)}, RpL K w ad H M (flatP ps) ds → prsD ds = some kvs → ∃ qs : List (Key × V), ps = qs.map (fun kv => (kV kv.1, kv.2)) ∧ RpK K w ad H M qs kvs ∧ qs.length = kvs.length
  | [], _, _, .nil, h => by cases h; exact ⟨[], rfl, .nil, rfl⟩
  | (a, b) :: ps, _, kvs, .cons (d := k) h (.cons (d := d) (ds := r) h2 q), e => by
    unfold prsD at e
    cases hk : keyD k with
    | none => rw [hk] at e; cases e
    | some q1 =>
      cases hr : prsD r with
      | none => rw [hk, hr] at e; cases e
      | some m =>
        rw [hk, hr] at e
        cases e
        obtain ⟨qs, e1, e2, e3⟩ := prs_rel q hr
        refine ⟨(q1, b) :: qs, ?_, .cons h2 e2, congrArg (· + 1) e3⟩
        have ka : a = kV q1 := by
          have h : Rep K w ad ⟨H, M, []⟩ a k := h
          exact key_V (C := ⟨K, w, ad⟩) h hk
        show (a, b) :: ps = _
        rw [ka, e1]
        rfl
theorem merge_rel : ∀ (kvs : List (Key × D)) {qs : List (Key × V)} {ps : List (Key × V)} {ms : List (Key × D)}, RpK K w ad H M qs kvs → RpK K w ad H M ps ms → RpK K w ad H M (mergeK ps qs) (mergeG ms kvs)
  | [], _, _, _, .nil, h => h
  | _ :: kvs, _, _, _, .cons (k := k) h r, h2 => merge_rel kvs (ps := putK _ k _) (ms := putG _ k _) r (h2.put h)
/-- what is new, beyond the ground, is changed -/
theorem Step.own {p : Addr} {o : HO} (s : Step C G H G' H') (h1 : G'.g p = none) (hm : p ∉ G'.m) (h3 : H p = none) : Step C G H G' (L2.upd H' p o) :=
  ⟨s.g, ⟨Ex.mut s.gh.e h1, s.gh.len, s.gh.nd, fun n a c q1 q2 => by
    obtain ⟨z1, z2⟩ := s.gh.cell n a c q1 q2
    have ne : a ≠ p := fun z => hm (by rw [← z]; exact List.mem_of_getElem? q1)
    exact ⟨z1, CellAt.mono (ExG.refl _) (fun o h => by rw [upd_ne ne]; exact h) z2⟩⟩, fun q u h hq => by
    have ne : q ≠ p := fun z => by rw [z, h3] at h; cases h
    rw [upd_ne ne]
    exact s.h q u h hq, s.out, s.om⟩
theorem ce_disp {trs : List (TE × TE)} {a : SA} (h : CPs C xo W trs a) : CE C xo W (tDisp trs) (eDisp a) := fun σ G H env ft Q o p hp => by
  have s0 : Step C (G.put G.s) H G (upd H p (.dK [])) := Step.ofH ft.ok (Ex.new (o := .dK []) hp)
  have hm0 := ft.ok.fresh hp
  have hg0 : G.g p = none := fresh_back ft.ok.e hp
  refine h σ G _ env (ft.step s0) _ (Out.bind (Out.step s0 o) fun ds ps G2 H2 eq s2 r2 o2 => ?_)
  have e2 : H2 p = some (.dK []) := s2.h p _ upd_same hm0
  have hm2 : p ∉ G2.m := s2.om p hm0 (by rw [upd_same]; exact nofun)
  have hg2 : G2.g p = none := s2.out p hg0 (by rw [upd_same]; exact nofun)
  refine ⟨e2, ?_⟩
  unfold dispD at o2
  cases hq : prsD ds with
  | none => rw [hq] at o2; exact False.elim o2
  | some kvs =>
    rw [hq] at o2
    dsimp only at o2
    obtain ⟨qs, e3, r3, l3⟩ := prs_rel r2 hq
    by_cases hl : kvs.length ≤ 15
    · rw [if_pos hl] at o2
      refine ⟨qs, e3, by omega, ?_⟩
      have st : Step C (G.put G2.s) H G2 H2 := by
        have : Step C ((G.put G.s).put G2.s) H G2 H2 := Step.trans (t := G2.s) s0 s2
        exact this
      have st2 := Step.own (o := .dK (mergeK [] qs)) st hg2 hm2 hp
      obtain ⟨st3, hn⟩ := st2.publishC (c' := .dct (mergeG [] kvs)) hg2 hm2 hp ⟨_, upd_same, merge_rel _ r3 .nil⟩
      have eo : eDisp a env G.s = Rs.ok (.mref G2.s.length) (G2.s ++ [Cell.dct (mergeG [] kvs)]) := by
        show R.bind (a env) dispD G.s = _
        unfold R.bind
        rw [eq]
        show dispD ds G2.s = _
        unfold dispD
        rw [hq]
        dsimp only
        rw [if_pos hl]
        rfl
      have o : OutR C (rV C) (WE W σ) G H Q (eDisp a env G.s) := o
      rw [eo] at o
      exact o (.ref p) _ _ st3 (.mref hn)
    · rw [if_neg hl] at o2; exact False.elim o2
end
end Dm
set_option Elab.async false
set_option linter.all false
set_option maxRecDepth 100000
set_option maxHeartbeats 4000000
/-! Dh: exceptions with their context; defs called where an exception is handled. -/
namespace L2H
theorem RoomH.units {k : Nat} {A : PySem.Around} (r : RoomH k A) : A.units + 64 < PySem.cLine := by
  have := r.un
  omega
theorem RoomH.units0 {k : Nat} {A : PySem.Around} (r : RoomH k A) : A.units < PySem.cLine := by
  have := r.un
  omega
end L2H
namespace Dm
open PySem L2 Evl RZ Wm PySem.Spec PyProof.Rows
theorem takesN {X : Cx} : L2N.Takes X (fun _ _ _ _ => False) := fun _ _ h => by
  obtain ⟨_, _, _, _, _, _, _, _, _, _, _, _, _, _, _, _, h⟩ := h
  exact h.elim
/-- an exception of the text's own class, made by its __init__ -/
theorem pmk_oexN {X : Cx} {CX : CXT} {x : Str} {C fI : Addr} {k : Nat} {fd : FuncData} {ps : List Str} {sp : Sp} {ds : List Value} {dvs : List V} {e : Expr} {es : List Expr} {ta : TA} {p pos : Pos}
    (T : OexC X.K C) (hi : PySem.W.findIn X.K (.ref C) "__init__" = some (some (.ref fI))) (ht : PySem.W.typeIn X.K (.ref fI) = some (.type "function")) (FI : FnOk X.prog X.w X.K X.mg X.base CX k fI fd ps sp) (hr : Room (k + 1) X.A)
    (hb : Binds X.K fd ps ds) (hd : Vals dvs ds) (hx : Passes CX X (fun _ _ _ => False)) (hg : Gl X x) (hm : X.mg x = some (.ref C)) (ha : PA X (e :: es) ta)
    (hdb : (x == ("__debug__" : Str)) = false := by decide) (he : starEach (e :: es) X.env = (false, eval e X.env) :: starEach es X.env := by rfl) (hpl : (backTo pos (starEach es X.env)).any (·.1) = false := by rfl) :
    L2N.PMk X (.Call (.Name x p) (e :: es) [] pos) (tMkO C sp dvs ta) := by
  intro pins s z H Q I w0
  have cl := T.cls
  obtain ⟨_, _, _, _, bm, _, _, _, _, _, _, _, _, _, _, hC, hbm⟩ := cl
  apply wpAny_Call_Name_kw
  refine ld_glob I hg hm ?_ hdb
  refine PySem.W.callWith_K (h₀ := X.base) I.ok.mod.kin T.kC (thn (ha.run pos pins s z H _ I w0) ?_) he hpl
  rintro us ⟨hp, g, dr, tk, os⟩ ⟨vs, H1, I1, r1, _, q1⟩
  refine ⟨I1.kIn, ?_⟩
  show wpAny _ _ (call (.ref C) us) _ _ _
  generalize ea : hp.objs.size + 1 = a
  have hsz : hp.objs.size ≤ a := by omega
  have hq := q1 a (I1.hok.fresh hsz)
  have grow : ∀ b o, hp.get? b = some o → ((hp.push (PySem.W.kdv_tup us)).push (PySem.HandSPX.excO C hp.objs.size)).get? b = some o := fun b o h => Heap.get?_push_of_some _ (Heap.get?_push_of_some _ h)
  have there : ((hp.push (PySem.W.kdv_tup us)).push (PySem.HandSPX.excO C hp.objs.size)).get? a = some (PySem.HandSPX.excO C hp.objs.size) := by
    rw [← ea]
    heap_get
  have I2 : Inv X pins z (upd H1 a (exo a C none)) ⟨(hp.push (PySem.W.kdv_tup us)).push (PySem.HandSPX.excO C hp.objs.size), g, dr, tk, os⟩ := I1.laid (t' := tk) (o := exo a C none) grow hsz (exo_ok there)
  have r2 : Vals (.ref a :: (vs ++ dvs)) (.ref a :: (us ++ ds)) := .cons rfl (r1.append hd)
  have ln : (Value.ref a :: us ++ ds).length = ps.length := by
    rw [← FI.len _ _ _ _ hq]
    exact r2.length.symm
  have sl : us.length ≤ sizeLine := by
    rw [← Paired.length r1, sizeLine_eq]
    omega
  have body := FI.run _ X.stack _ _ ⟨Value.ref a :: us, []⟩ (Value.ref a :: (us ++ ds)) _ _ (fun _ _ _ => False) (hr.make C us []) (I2.env0.make C us []) (hb _ (Value.ref a :: us) I2.kIn ln) r2 hq
  subst ea
  refine wpAny_call (PySem.HandSPX.call_own F.excBase_ValueError (fun Y => PySem.HandSPX.refsVE_contains Y bm hbm) (I1.kIn _ _ hC) (PySem.W.looks_findIn I1.kIn hi) (fun self => PySem.W.bind_fn I1.kIn self ht) sl (codeAny_mono body ?_))
  intro r t h
  cases r with
  | error u => exact hx pins z _ _ u t I2 h
  | ok fl =>
    cases fl with
    | ret u =>
      obtain ⟨v, H2, os2, bare, un, hok, rv, ev, d, fs, e1, e2, e3, q2⟩ := h
      subst ev
      obtain ⟨h2, g2, d2, t2, os3⟩ := t
      obtain ⟨_, G, J, kG, ge, ho, na⟩ := mk_end0 (d2 := d2) (t2 := t2) I1 hsz grow un hok os2 bare e1 e2 e3
      exact ⟨rv, _, _, _, ⟨G, g2, d2, t2, os3⟩, _, .ref C, some d, rfl, J, kG, ge, ho, ⟨rfl, rfl, fun vs hv => by cases hv; rfl⟩, rfl, rfl, na, rfl, bare, raises_own T.exC T.tyC, q2⟩
    | next => exact h.elim
    | brk => exact h.elim
    | cont => exact h.elim
/-! ### defs where an exception is handled -/
structure DfH (P : Program) (w : World) (K : PySem.W.Frag) (mg : Str → Option Value) (base : Heap) (k : Nat) (x : Str) (a : Addr) (fd : FuncData) (ps : List Str) (sp : Sp) : Prop where
  ok : L2H.FnH P w K mg base (L2N.CX P w) k a fd ps sp
  g : mg x = some (.ref a)
  kp : PySem.W.keepIn K (.ref a) = true
  b : Binds K fd ps []
theorem hot_suite {X : Cx} {a : Addr} {oe : Obj} {cls : Value} {d : Option Addr} {pn : List (Addr × Obj)} (hz : L2N.Zn cls d oe) (hf : ∃ vs, oe.data = .fields vs) : L2H.HotC (X.suite a ((a, oe) :: pn)) := by
  obtain ⟨vs, hv⟩ := hf
  exact ⟨(a, oe), ⟨rfl, vs, hv, hz.2.2 vs hv⟩, List.mem_cons_self⟩
theorem roomH_suite {X : Cx} {a : Addr} {pn : List (Addr × Obj)} {k : Nat} (r : Room k X.A) : L2H.RoomH k (X.suite a pn).A := ⟨r.dp, r.un⟩
theorem clH {X : Cx} {k : Nat} {x : Str} {a : Addr} {fd : FuncData} {ps : List Str} {sp : Sp} {e : Expr} {es : List Expr} {t : TA} {E : L2.St → XK} {p pos : Pos} (O : DfH X.prog X.w X.K X.mg X.base k x a fd ps sp) (hr : L2H.RoomH k X.A) (hc : L2H.HotC X) (hg : Gl X x) (hx : ∀ σ, PassesAt (L2N.CX X.prog X.w) X σ (E σ)) (ha : PA X (e :: es) t)
    (hdb : (x == ("__debug__" : Str)) = false := by decide) (he : starEach (e :: es) X.env = (false, eval e X.env) :: starEach es X.env := by rfl) (hpl : (backTo pos (starEach es X.env)).any (·.1) = false := by rfl) : PE X (.Call (.Name x p) (e :: es) [] pos) (tCallS sp E t) :=
  L2H.pe_callH O.ok hr hc hg O.g O.kp O.b hx ha hdb he hpl
section
variable {P : Program} {w : World} {K : PySem.W.Frag} {mg : Str → Option Value} {base : Heap} {ad : Nat → Addr}
theorem ok_defVH {x qual : Str} {st : Stmt} {f : Addr} {fd : FuncData} {N ps : List Str} {l n k : Nat} {b : SS} (F : Fun K x qual st f fd) (S : FnScope N ps (defScope st)) (hn : ps.length = n) (hN : N.length = n + k)
    (h : ∀ (cdv : Value) (A : Around) (outer : List PySem.Env) (s : Shared) (H : Hp) (E : XK) (p : Addr × Obj), L2H.RoomH l (A.deeper (PyProof.Rows.envOfC qual (defScope st) s.heap.objs.size f cdv)) → L2H.HotC (L2H.cxH (L2N.CX P w) P w K mg base N qual (defScope st) f cdv A outer s H E p) →
      ∃ t, PSs (L2H.cxH (L2N.CX P w) P w K mg base N qual (defScope st) f cdv A outer s H E p) (defBody st) t ∧ ∀ xo, CS ⟨K, w, ad⟩ xo (WF E) t b) : L2H.FnH P w K mg base (L2N.CX P w) (l + 1) f fd ps (SpD ⟨K, w, ad⟩ (defV n k b)) := by
  obtain ⟨oc, od, kV, doc, pm, an, cdv, ct, osl, rfl, lk, hcd⟩ := F.ex
  refine L2H.fn_ofH lk hcd S (fun vs H Q E h => ?_) fun A outer s H vs Q E p hot hr hs => ?_
  · obtain ⟨G, ds, e, r, o⟩ := h
    rw [hn, r.length]
    exact (out_if o).1
  · obtain ⟨t, ht, hc⟩ := h cdv A outer s H E p hr ⟨p, ⟨hot.1, hot.2⟩, List.mem_cons_self⟩
    obtain ⟨G, ds, e, r, o⟩ := hs
    obtain ⟨hd, o⟩ := out_if o
    have f0 := start_fit (xo := ⟨0, .none, none⟩) (C := ⟨K, w, ad⟩) e r hd hN
    refine ⟨t, ht, hc ⟨0, .none, none⟩ G H _ G H _ f0 _ ?_⟩
    unfold OutS
    have o : OutR ⟨K, w, ad⟩ (rV ⟨K, w, ad⟩) E G H Q (endD (b (ds.map .val ++ List.replicate k .un) G.s)) := o
    unfold endD at o
    cases c : b (ds.map .val ++ List.replicate k .un) G.s with
    | rt s t =>
      rw [c] at o
      cases s with
      | val d => exact o
      | own xs =>
        intro v G' H' st q
        obtain ⟨⟨p, vs, rfl, h1, hm, h2, h3⟩, h4⟩ := q
        exact o (.ref p) _ H' (st.take h1 hm h2 (h4 p rfl)) (.lst upd_same (h3.mono (ExG.new h1)))
      | un => exact False.elim o
      | exn _ _ => exact False.elim o
    | nx e2 t =>
      rw [c] at o
      intro σ G' H' e f'
      have z : G'.s = t := e.s
      subst z
      exact o .non G' H' f'.s .non
    | exc q fs e2 t =>
      rw [c] at o
      intro dd σ G' H' e f' x
      have z : G'.s = t := e.s
      subst z
      exact o dd G' H' f'.s x
    | bk e2 t => rw [c] at o; exact False.elim o
    | ct e2 t => rw [c] at o; exact False.elim o
    | bad => rw [c] at o; exact False.elim o
end
/-! ### a walk over a list where an exception is handled -/
section
variable {prog : Program} {w : World} {A : Around} {E : Value → Shared → Prop} {s : Shared}
theorem pyNext_list_end_hot {it l x1 : Addr} {i : Nat} {items : Array Value} {Q : Option Value → Shared → Prop} (hot : HotX.HotAt A x1 s.heap)
    (hit : s.heap.IsListIter it l i) (hl : s.heap.IsList l items) (hx : items[i]? = none)
    (hQ : ∀ h', (∀ b o, b ≠ it → s.heap.get? b = some o → h'.get? b = some o) → Q none { s with heap := h' }) : wpAny (model prog w) A (pyNext (.ref it)) Q E s := by
  obtain ⟨o, ho, hc, hd⟩ := id hit
  obtain ⟨ol, hol, _, nl, hdl⟩ := hl
  obtain ⟨hh, o1, vs1, h1, d1, c1⟩ := hot
  have hne : x1 ≠ it := fun e => by
    subst e
    rw [h1] at ho
    cases ho
    rw [hd] at d1
    cases d1
    simp at c1
  unfold pyNext
  refine wpAny_bind (wpAny_attempt (wpAny_callSpecial?_slot (name := Str.ofString "__next__") hit.typeIs slot_listiter_next
    (wpAny_call_entry slot_listiter_next hit.typeIs entry_listiter_next ?_ (args_listiter_next _))))
  show wpAny _ _ (field (.ref it) 0 >>= _) _ _ s
  refine wpAny_bind (wpAny_field ho hd (x := .ref l) rfl ?_)
  show wpAny _ _ (if (Value.ref l == Value.none) = true then _ else _) _ _ s
  rw [if_neg (show ¬ ((Value.ref l == Value.none) = true) from Bool.false_ne_true)]
  show wpAny _ _ (field (.ref it) 1 >>= _) _ _ s
  refine wpAny_bind (wpAny_field ho hd (x := .int i 0) rfl ?_)
  show wpAny _ _ (seqItems? (.ref l) >>= _) _ _ s
  refine wpAny_bind (wpAny_seqItems hol hdl ?_)
  simp only [Int.toNat_natCast, hx]
  refine wpAny_bind (wpAny_rule (wpAny_bind (wpAny_setField ho hd (by simp) ?_)))
  show wpAny _ _ (newExc (.type "StopIteration") [] >>= _) _ _ _
  refine wpAny_bind ?_
  simp only [newExc, newTuple]
  refine wpAny_bind (wpAny_newObj_type ?_ (by size_fits))
  refine wpAny_bind (m := firstArgMember _ _) (wpAny_of_eq (a := Value.none) (by first | rfl | (simp only [firstArgMember]; rfl)) ?_)
  refine wpAny_newObj_type ?_ (by size_fits)
  have up : ∀ f b o, b ≠ it → s.heap.get? b = some o → (s.heap.update it f).get? b = some o := fun f b o hb e => by
    rw [Heap.get?_update_other _ _ hb.symm]
    exact e
  have h1' := fun f => up f _ _ hne h1
  refine HotX.raiseNew_hot ⟨hh, o1, vs1, Heap.get?_push_of_some _ (Heap.get?_push_of_some _ (h1' _)), d1, c1⟩ (Nat.ne_of_lt (Heap.lt_size (Heap.get?_push_of_some _ (h1' _)))) (Heap.get?_push_size _ rfl) rfl (by first | (simp; done) | (simp; omega) | (simp only [Array.size_append]; simp; omega)) ?_
  refine wpAny_bind (wpAny_isInstance (T := "StopIteration") (b := true) ⟨_, Heap.get?_update_self _ (Heap.get?_push_size _ rfl) rfl, rfl⟩ isSubtype_stop ?_)
  refine wpAny_pure (hQ _ fun b o hb e => ?_)
  have e' := fun f => up f b o hb e
  rw [Heap.get?_update_other _ _ (Nat.ne_of_gt (Heap.lt_size (Heap.get?_push_of_some _ (e' _))))]
  exact Heap.get?_push_of_some _ (Heap.get?_push_of_some _ (e' _))
end
theorem turn_listH {P : Program} {w : World} {K : PySem.W.Frag} {tg : Expr} (a it : Addr) : L2H.TurnH P w K tg (Itl K a) [it] it (fun i h => h.IsListIter it a i) where
  mem := by simp
  obj := fun i h st b hb => by
    have e : b = it := by simpa using hb
    subst e
    obtain ⟨o, e, c, d⟩ := st
    exact ⟨o, e, fun v z => by rw [d] at z; cases z⟩
  keep := fun i h h' st k => st.at fun o e => k it (by simp) o e
  item := by
    intro X hP hw hK hc i pins s σ H E I hf st hg
    subst hP hw hK
    obtain ⟨xs, x, hq, hx⟩ := hg
    obtain ⟨its, rv, p, hz⟩ := I.list hq
    obtain ⟨u, hu, ru⟩ := rv.get hx
    obtain ⟨f0, f1, f2, f3, f4, f5⟩ := hf it (by simp)
    refine wpAny_pyNext_list_item st p.isList (x := u) (by simpa using hu) fun h' st' sb => ?_
    have I1 : Inv X pins σ H { s with heap := h' } := I.turned (t' := s.toks) (fun b o hb e => (sb.2 b hb).trans e) f0 f1 f3 f4 f5
    obtain ⟨o, e, c, d⟩ := id st'
    exact ⟨u, rfl, go_of (s := { s with heap := h' }) e c d (by decide) ⟨x, H, I1, ru, ⟨rfl, fun ys hy => by rw [I.list_inj hy hq]; exact hx⟩, st', fun b hb => (hf b hb).1⟩⟩
  done := by
    intro X hP hw hK hc i pins s σ H E I hf st hg
    subst hP hw hK
    obtain ⟨xs, hq, hx⟩ := hg
    obtain ⟨its, rv, p, hz⟩ := I.list hq
    obtain ⟨f0, f1, f2, f3, f4, f5⟩ := hf it (by simp)
    have hl := rv.length
    obtain ⟨x1, hot⟩ := hc.at I
    exact pyNext_list_end_hot hot st p.isList (by simp; omega) fun h' eb => ⟨rfl, I.turned (t' := s.toks) (fun b o hb e => eb b o hb e) f0 f1 f3 f4 f5⟩
  self := fun _ _ _ _ _ st h => wpAny_pyIter_listiter st h
theorem pih_list {X : Cx} {tg l : Expr} {tl : TE} (hl : PE X l tl) : L2H.PIH X tg l (iList X.K tl) := by
  refine ⟨fun pins s σ H R I h => ?_⟩
  refine thn (hl.run pins s σ H _ I h) fun v s1 ⟨x, H1, I1, r1, q1⟩ => ?_
  obtain ⟨a, e, ⟨xs, hq⟩, q⟩ := q1
  subst e
  cases r1
  obtain ⟨its, rv, p, hz⟩ := I1.list hq
  refine wpAny_pyIter_list p.isList ?_
  refine ⟨s1.heap.objs.size, [s1.heap.objs.size], _, _, H1, rfl, I1.kept (t' := s1.toks) fun b o e => Heap.get?_push_of_some _ e, turn_listH a _, ⟨_, Heap.get?_push_size _ rfl, rfl, rfl⟩, fun b hb => ?_, q⟩
  have e : b = s1.heap.objs.size := by simpa using hb
  subst e
  exact I1.fpOk (Nat.le_refl _) (I1.hok.fresh (Nat.le_refl _))
theorem pih_listK {X : Cx} {K : PySem.W.Frag} {tg l : Expr} {tl : TE} (h : X.K = K) (hl : PE X l tl) : L2H.PIH X tg l (iList K tl) := by
  subst h
  exact pih_list hl
end Dm
set_option Elab.async false
set_option linter.all false
set_option maxRecDepth 100000
set_option maxHeartbeats 4000000
/-! Dz10: try with several except clauses, with a name or without one. -/
namespace Dm
open PySem L2 Evl RZ Wm PySem.Spec PyProof.Rows
abbrev TSu := Addr → Value → Option Addr → TS
/-- the wish at the end of a suite whose name is slot i -/
def endsU (D : Ends) : Option Nat → Ends
  | some i => ⟨fun z h => D.nx (z.set i none) h, D.rt, fun z h => D.bk (z.set i none) h, fun z h => D.ct (z.set i none) h⟩
  | none => D
def slotU (z : L2.St) (a : Addr) : Option Nat → L2.St
  | some i => z.set i (some (.ref a))
  | none => z
/-- what the clauses wish of an exception -/
def wCl (K : PySem.W.Frag) (Wo : WX) (D : Ends) : List (Value × Option Nat × TSu) → WX
  | [] => Wo
  | (c, i, f) :: r => fun cls d z h => ∃ b, PySem.W.exmOne K cls c = some b ∧ (b = true → ∀ a, h a = none → f a cls d (endsU D i) (slotU z a i) h) ∧ (b = false → wCl K Wo D r cls d z h)
def nameOk (X : Cx) : Option Str → Option Nat → Prop
  | some n, some i => X.N[i]? = some n ∧ X.env.kindOf n = some .local
  | none, none => True
  | _, _ => False
inductive ClsOk (X : Cx) : List ExceptHandler → List (Value × Option Nat × TSu) → Prop
  | nil : ClsOk X [] []
  | cons {x : Str} {c : Value} {n : Option Str} {i : Option Nat} {f : TSu} {b0 : Stmt} {bs : List Stmt} {p p' : Pos} {hds : List ExceptHandler} {l : List (Value × Option Nat × TSu)} (hc : Names X x c) (hn : nameOk X n i)
      (hb : ∀ (a : Addr) (oe : Obj) (cls : Value) (d : Option Addr) (pn : List (Addr × Obj)), L2N.Zn cls d oe → (∃ vs, oe.data = .fields vs) → PSs (X.suite a ((a, oe) :: pn)) (b0 :: bs) (f a cls d)) (r : ClsOk X hds l) :
      ClsOk X (.ExceptHandler (some (.Name x p)) n (b0 :: bs) p' :: hds) ((c, i, f) :: l)
section
variable {X : Cx} {body : List Stmt} {h0 : ExceptHandler} {hds : List ExceptHandler} {l : List (Value × Option Nat × TSu)} {pos : Pos} {tb : WX → TS} {Wo : WX}
theorem ps_try_cl (stk : X.stack = X.env :: X.outer) (frm : X.env.frame = some X.env.locals) (nd : X.N.Nodup) (tk : L2N.Takes X Wo)
    (hb : ∀ (W : WX) (pn : List (Addr × Obj)) (xe : Value → Shared → Prop), L2N.Takes (X.tr pn xe) W → PassesOwn (model X.prog X.w) X.A X.env xe → PSs (X.tr pn xe) body (tb W))
    (hh : ClsOk X (h0 :: hds) l) : PS X (.Try body (h0 :: hds) [] [] pos) (fun D z h => tb (wCl X.K Wo D l) D z h) := by
  constructor
  intro pins s z h D I w0
  have ok := I.ok
  have frs2 : X.A.frames = some (X.env :: X.outer) := by rw [ok.frames, stk]
  apply wpAny_Try_except
  refine wpAny_mono (E := fun e t => wpAny (model X.prog X.w) X.A (noteFrame e X.env) (fun _ t2 => wpAny (model X.prog X.w) X.A (setFlight e none) (fun _ t3 => wpAny (model X.prog X.w) X.A (handleBy e X.env (h0 :: hds)) (SP X pins D) X.xe t3) X.xe t2) X.xe t) ((hb _ (X.pn ++ pins) _ (fun u t xx => ?_) PassesOwn.looking).run [] s z h D (I.toTry _) w0) (fun fl t q => ?_) (fun _ _ q => q)
  · obtain ⟨a, B, sI, _, z1, h1, cls, d, rfl, J', nb, up, sky, na, os, ag, w⟩ := xx
    have J := J'.ofTry ok
    rw [stk] at sky
    refine L2N.Sky.land L2N.Zn.steady frs2 frm sky fun g3 fl3 up3 => ?_
    have K3 : Inv X pins z1 h1 { t with heap := g3 } := J.landed nb fl3.1 (up.trans up3) os ag
    obtain ⟨oe, vs, e3, z3, d3⟩ := fl3.there
    have out : a ∉ frs (X.env :: X.outer) := fun m => by
      obtain ⟨_, o, e, k⟩ := fl3.2.2.1.mem m
      rw [e3] at e
      cases e
      exact k _ d3
    have nL : a ≠ X.env.locals := fun e => out (List.mem_filterMap.mpr ⟨_, List.mem_cons_self, by rw [frm, e]⟩)
    have nF : a ∉ X.fs := fun m => by
      obtain ⟨e, m1, m2⟩ := List.mem_filterMap.mp m
      exact out (List.mem_filterMap.mpr ⟨e, List.mem_cons_of_mem _ m1, m2⟩)
    have S3 := K3.suite e3 d3 na nL nF
    clear w0
    generalize h0 :: hds = hl at hh ⊢
    induction hh with
    | nil =>
      apply wpAny_handleBy_nil
      obtain ⟨_, _, _, oe, vs, T, oT, ts', he, hz, hd, e1, hr⟩ := id fl3
      unfold PySem.passOn
      apply wpAny_bind
      apply wpAny_field he hd e1
      rw [if_neg (show ¬ ((Value.ref T == Value.none) = true) by simp)]
      have last : wpAny (model X.prog X.w) X.A (setFlight (.ref a) X.env.frame) (fun _ t4 => wpAny (model X.prog X.w) X.A (throw (.ref a) : Sem Flow) (SP X pins D) X.xe t4) X.xe { t with heap := g3 } := by
        rw [frm]
        refine HandSPX.setFlight_upZ fl3 fun g4 q4 up4 => wpAny_throw (tk _ _ ?_)
        rw [← stk] at q4
        exact ⟨a, B, sI, pins, z1, h1, cls, d, rfl, J, nb, (up.trans up3).trans up4, .inr (.inr q4), na, os, ag, w⟩
      first
      | exact wpAny_bind (wpAny_pure (wpAny_bind last))
      | exact wpAny_bind last
    | @cons x c n i f b0 bs p p' hds2 l2 hc hn hsu _ ih =>
      obtain ⟨b, hb1, yes, no⟩ := w
      refine wpAny_handleBy_cons (codeAny_handlers_test ?_) (by intro q; cases q)
      have LM := PySem.W.exm_one (M := model X.prog X.w) (K3.kIn) (fun A Q E t k q => wpAny_typeOf_ref (k _ _ e3) (by rw [z3.1]; exact q) : PySem.W.Looks (model X.prog X.w) g3 (typeOf (.ref a)) cls) hb1
      have test : ∀ {Q E : Value → Shared → Prop}, Q c { t with heap := g3 } → wpAny (model X.prog X.w) (X.A.mark (some (.ref a))) (eval (.Name x p) X.env) Q E { t with heap := g3 } := fun {Q E} q => by
        rcases hc with ⟨hg, nd, hm | ⟨hm, hv, hnn⟩⟩
        · exact ld_glob (X := X.suite a ((a, oe) :: (X.pn ++ pins))) S3 hg hm q nd
        · exact ld_blt (X := X.suite a ((a, oe) :: (X.pn ++ pins))) S3 hg hm hv q hnn nd
      apply test
      apply LM.here
      cases b with
      | false => exact ih (no rfl)
      | true =>
        have q := yes rfl a na
        cases i with
        | none =>
          cases n with
          | some _ => exact hn.elim
          | none =>
            apply codeAny_handlers_suite
            refine HandSPX.lands_againZ fl3 fun g4 fl4 up4 => ?_
            obtain ⟨oe4, vs4, e4, z4, d4⟩ := fl4.there
            have K4 : Inv X pins z1 h1 { t with heap := g4 } := J.landed nb fl4.1 ((up.trans up3).trans up4) os ag
            have S4 := K4.suite e4 d4 na nL nF
            refine wpAny_mono ((hsu a oe4 cls d (X.pn ++ pins) z4 ⟨_, d4⟩).run [] _ _ h1 _ S4 q) (fun fl t6 r => ?_) (fun _ _ e => e.elim)
            cases fl with
            | ret u => obtain ⟨v, z6, h6, S6, rv, q6⟩ := r; exact ⟨_, _, _, S6.unsuite ok, rv, q6⟩
            | next => obtain ⟨z6, h6, S6, q6⟩ := r; exact ⟨_, _, S6.unsuite ok, q6⟩
            | brk => obtain ⟨z6, h6, S6, q6⟩ := r; exact ⟨_, _, S6.unsuite ok, q6⟩
            | cont => obtain ⟨z6, h6, S6, q6⟩ := r; exact ⟨_, _, S6.unsuite ok, q6⟩
        | some i =>
          cases n with
          | none => exact hn.elim
          | some n =>
            obtain ⟨hi, hln⟩ := hn
            apply codeAny_handlers_suite_as
            refine HandSPX.lands_againZ fl3 fun g4 fl4 up4 => ?_
            obtain ⟨oe4, vs4, e4, z4, d4⟩ := fl4.there
            have K4 : Inv X pins z1 h1 { t with heap := g4 } := J.landed nb fl4.1 ((up.trans up3).trans up4) os ag
            have S4 := K4.suite e4 d4 na nL nF
            refine store_ok (X := X.suite a ((a, oe4) :: (X.pn ++ pins))) (v := .ref a) S4 nd hi (Or.inl hln) rfl (fun t5 S5 => ?_) (.inr hln)
            refine wpAny_mono ((hsu a oe4 cls d (X.pn ++ pins) z4 ⟨_, d4⟩).run [] t5 _ h1 _ S5 q) (fun fl t6 r => ?_) (fun _ _ e => e.elim)
            cases fl with
            | ret u => obtain ⟨v, z6, h6, S6, rv, q6⟩ := r; exact gone_ok (S6.unsuite ok) nd hi hln fun _ J7 => ⟨_, _, _, J7, rv, q6⟩
            | next => obtain ⟨z6, h6, S6, q6⟩ := r; exact gone_ok (S6.unsuite ok) nd hi hln fun _ J7 => ⟨_, _, J7, q6⟩
            | brk => obtain ⟨z6, h6, S6, q6⟩ := r; exact gone_ok (S6.unsuite ok) nd hi hln fun _ J7 => ⟨_, _, J7, q6⟩
            | cont => obtain ⟨z6, h6, S6, q6⟩ := r; exact gone_ok (S6.unsuite ok) nd hi hln fun _ J7 => ⟨_, _, J7, q6⟩
  · cases fl with
    | ret u => obtain ⟨v, z1, h1, J, r, q⟩ := q; exact ⟨v, z1, h1, J.ofTry ok, r, q⟩
    | next => obtain ⟨z1, h1, J, q⟩ := q; exact wpAny_execs_nil ⟨z1, h1, J.ofTry ok, q⟩
    | brk => obtain ⟨z1, h1, J, q⟩ := q; exact ⟨z1, h1, J.ofTry ok, q⟩
    | cont => obtain ⟨z1, h1, J, q⟩ := q; exact ⟨z1, h1, J.ofTry ok, q⟩
end
/-! what Dm says of them -/
abbrev Hd := Option Nat × (Nat → Option Bool) × SS
def putU (e : Dm.Env) (c : Nat) (fs : List (Str × D)) : Option Nat → Dm.Env
  | some i => e.set i (.exn c fs)
  | none => e
def dropU (e : Dm.Env) : Option Nat → Dm.Env
  | some i => e.set i .un
  | none => e
def outU (i : Option Nat) : RSr → RSr
  | .nx e s => ifB (noExn (dropU e i)) (.nx (dropU e i) s)
  | .bk e s => ifB (noExn (dropU e i)) (.bk (dropU e i) s)
  | .ct e s => ifB (noExn (dropU e i)) (.ct (dropU e i) s)
  | .rt v s => .rt v s
  | _ => .bad
def hdsR (c : Nat) (fs : List (Str × D)) (e : Dm.Env) (s : Sto) : List Hd → RSr
  | [] => .exc c fs e s
  | (i, cs, h) :: r => match cs c with
    | some true => ifB (noExn e) (outU i (h (putU e c fs i) s))
    | some false => hdsR c fs e s r
    | none => .bad
def tryN (r : RSr) (hs : List Hd) : RSr := match r with
  | .exc c fs e s => hdsR c fs e s hs
  | r => r
/-- try: b, except ..: .. -/
def sTryN (b : SS) (hs : List Hd) : SS := fun env s => tryN (b env s) hs
inductive CHs (C : Cc) : List (Value × Option Nat × TSu) → List Hd → Prop
  | nil : CHs C [] []
  | cons {hc : Value} {i : Option Nat} {f : TSu} {cs : Nat → Option Bool} {h : SS} {l : List (Value × Option Nat × TSu)} {hs : List Hd} (hx : ∀ c k, cs c = some k → PySem.W.exmOne C.K (.ref (C.ad c)) hc = some k)
      (hb : ∀ a cls d, CS C ⟨a, cls, d⟩ W0 (f a cls d) h) (r : CHs C l hs) : CHs C ((hc, i, f) :: l) ((i, cs, h) :: hs)
section
variable {C : Cc} {xo : Xo} {W : WX}
theorem cs_tryN {tb : WX → TS} {b : SS} {l : List (Value × Option Nat × TSu)} {hs : List Hd} (hh : CHs C l hs) (hb : ∀ W2, CS C xo W2 (tb W2) b) : CS C xo W (fun D σ H => tb (wCl C.K W D l) D σ H) (sTryN b hs) := fun G0 H0 σ G H env f D o => by
  refine hb (wCl C.K W D l) G0 H0 σ G H env f D ?_
  unfold OutS sTryN tryN at o
  unfold OutS
  cases c : b env G.s with
  | nx e2 t => rw [c] at o; exact o
  | rt s t => rw [c] at o; cases s <;> exact o
  | bk e2 t => rw [c] at o; exact o
  | ct e2 t => rw [c] at o; exact o
  | bad => rw [c] at o; exact o
  | exc k fs e2 t =>
    rw [c] at o
    dsimp only at o
    clear c hb
    intro dd σ' G' H' e f' x
    induction hh with
    | nil => exact o dd σ' G' H' e f' x
    | @cons hc i fr cs h l hs hx hb r ih =>
      unfold hdsR at o
      cases ck : cs k with
      | none => rw [ck] at o; exact False.elim o
      | some kk =>
        rw [ck] at o
        refine ⟨kk, hx k kk ck, fun hk a ha => ?_, fun hk => ?_⟩
        · subst hk
          dsimp only at o
          obtain ⟨hn, o⟩ := ifB_out o
          have f1 := f'.oth (xo2 := ⟨a, .ref (C.ad k), dd⟩) hn
          have f2 : Fit0 C ⟨a, .ref (C.ad k), dd⟩ G0 H0 G' H' (slotU σ' a i) (putU e2 k fs i) := by
            cases i with
            | none => exact f1
            | some i => exact f1.put (j := i) (s := .exn k fs) (o := some (.ref a)) (fun _ => nofun) (fun _ => nofun) (fun c2 fs2 q => by cases q; exact ⟨rfl, rfl, x⟩)
          have dn : ∀ {σ3 : L2.St} {G3 : Gd} {H3 : Hp} {e3 : Dm.Env}, Fit0 C ⟨a, .ref (C.ad k), dd⟩ G0 H0 G3 H3 σ3 e3 → noExn (dropU e3 i) = true → Fit0 C xo G0 H0 G3 H3 (match i with | some i => σ3.set i none | none => σ3) (dropU e3 i) := fun {σ3 G3 H3 e3} f3 hn3 => by
            cases i with
            | none => exact f3.oth hn3
            | some i => exact (f3.setU (j := i) (o := none)).oth hn3
          refine hb a _ dd G0 H0 _ G' H' _ f2 _ ?_
          unfold OutS
          have et : G'.s = t := e.s
          rw [et]
          cases c2 : h (putU e2 k fs i) t with
          | nx e3 u =>
            rw [c2] at o
            obtain ⟨hn3, o⟩ := ifB_out o
            cases i <;> exact fun σ3 G3 H3 ee f3 => o _ G3 H3 (ExG.trans (G := G.put t) e ee) (dn f3 hn3)
          | bk e3 u =>
            rw [c2] at o
            obtain ⟨hn3, o⟩ := ifB_out o
            cases i <;> exact fun σ3 G3 H3 ee f3 => o _ G3 H3 (ExG.trans (G := G.put t) e ee) (dn f3 hn3)
          | ct e3 u =>
            rw [c2] at o
            obtain ⟨hn3, o⟩ := ifB_out o
            cases i <;> exact fun σ3 G3 H3 ee f3 => o _ G3 H3 (ExG.trans (G := G.put t) e ee) (dn f3 hn3)
          | rt s u => rw [c2] at o; cases s <;> cases i <;> exact o
          | exc _ _ _ _ => rw [c2] at o; exact False.elim o
          | bad => rw [c2] at o; exact False.elim o
        · subst hk
          exact ih o
end
end Dm
namespace Dm
open PySem L2 Evl RZ Wm
section
variable {C : Cc} {xo : Xo} {W : WX}
/-- isinstance of what may be a cell -/
def dIsiA (t : Ty) (x : D) : R D := match x with
  | .mref n => dIsiM t (.mref n)
  | x => dIsi t x
theorem ce_isiA {ta : TE} {a : SE} (t : Ty) (ha : CE C xo W ta a) : CE C xo W (tCB (rIsi C.K) (tCons ta (tCons (tC (.ty (tyN t))) tNil))) (eU (dIsiA t) a) := fun σ G H env ft Q o =>
  ha σ G H env ft _ (Out.bind o fun d v G1 H1 _ s r o1 => by
    have e := s.gh
    cases r with
    | non => exact ⟨_, _, _, _, isTy t .non, rfl, .ty _, .base .non, kit_ty (by cases t <;> first | (show kitB _ _ = some true; decide +kernel) | (show kitB _ _ = some false; decide +kernel)), o1 _ G1 H1 (Step.refl e) (.bl _)⟩
    | bl b => exact ⟨_, _, _, _, isTy t (.bl b), rfl, .ty _, .base (.bl b), kit_ty (by cases t <;> first | (show kitB _ _ = some true; decide +kernel) | (show kitB _ _ = some false; decide +kernel)), o1 _ G1 H1 (Step.refl e) (.bl _)⟩
    | int b => exact ⟨_, _, _, _, isTy t (.int b), rfl, .ty _, .base (.int b), kit_ty (by cases t <;> first | (show kitB _ _ = some true; decide +kernel) | (show kitB _ _ = some false; decide +kernel)), o1 _ G1 H1 (Step.refl e) (.bl _)⟩
    | str b => exact ⟨_, _, _, _, isTy t (.str b), rfl, .ty _, .base (.str b), kit_ty (by cases t <;> first | (show kitB _ _ = some true; decide +kernel) | (show kitB _ _ = some false; decide +kernel)), o1 _ G1 H1 (Step.refl e) (.bl _)⟩
    | @lst a vs ds h r => exact ⟨_, _, _, _, isTy t (.lst ds), rfl, .ty _, .base (.lst (e.e _ _ h)), kit_ty (by cases t <;> first | (show kitB _ _ = some true; decide +kernel) | (show kitB _ _ = some false; decide +kernel)), o1 _ G1 H1 (Step.refl e) (.bl _)⟩
    | @scr a vs ds h r => exact ⟨_, _, _, _, isTy t (.scr ds), rfl, .ty _, ty_rd (ex_l e.e h), kit_ty (by cases t <;> first | (show kitB _ _ = some true; decide +kernel) | (show kitB _ _ = some false; decide +kernel)), o1 _ G1 H1 (Step.refl e) (.bl _)⟩
    | @tup a vs ds h r => exact ⟨_, _, _, _, isTy t (.tup ds), rfl, .ty _, ty_rt (ex_t e.e h), kit_ty (by cases t <;> first | (show kitB _ _ = some true; decide +kernel) | (show kitB _ _ = some false; decide +kernel)), o1 _ G1 H1 (Step.refl e) (.bl _)⟩
    | @ktp a vs ds h _ r => exact ⟨_, _, _, _, isTy t (.ktp ds), rfl, .ty _, ty_rt (ex_t e.e h), kit_ty (by cases t <;> first | (show kitB _ _ = some true; decide +kernel) | (show kitB _ _ = some false; decide +kernel)), o1 _ G1 H1 (Step.refl e) (.bl _)⟩
    | fn n => exact False.elim o1
    | @mref n a hm =>
      obtain ⟨xs, hs, o1⟩ := onL_out o1
      obtain ⟨_, vs, hH, r⟩ := e.at hm hs
      exact ⟨_, _, _, _, isTy t (.lst []), rfl, .ty _, .base (.lst hH), kit_ty (by cases t <;> first | (show kitB _ _ = some true; decide +kernel) | (show kitB _ _ = some false; decide +kernel)), o1 _ G1 H1 (Step.refl e) (.bl _)⟩
    | @dct a ks vs ds hl hs r =>
      obtain ⟨es, n, hk, _⟩ := hs.ex
      exact ⟨_, _, _, _, isTy t (.dct ks ds), rfl, .ty _, .kDict hk rfl, kit_ty (by cases t <;> first | (show kitB _ _ = some true; decide +kernel) | (show kitB _ _ = some false; decide +kernel)), o1 _ G1 H1 (Step.refl e) (.bl _)⟩)
end
end Dm
namespace Dm
open PySem L2 Evl RZ Wm
/-- .. in a comprehension too -/
theorem pe_fldK {X : Cx} {e : Expr} {f : Str} {pos : Pos} {ta : TE} (K : PySem.W.Frag) (he : PE X e ta) (hb : attributeBase e f X.env (eval e X.env) = eval e X.env) (hK : X.K = K := by rfl) : PE X (.Attribute e f pos) (tFld K ta f) := by
  subst hK
  exact pe_fld he hb
end Dm
set_option Elab.async false
set_option linter.all false
set_option maxRecDepth 100000
set_option maxHeartbeats 4000000
/-! Dz11: written dicts with numbers as keys. -/
namespace Dm
open PySem L2 Evl RZ Wm PySem.Spec PyProof.Rows
def EntsI : List (Int × Int) → List DictEntry → Prop
  | [], [] => True
  | (k, v) :: r, e :: l => (∃ t, e.key = .int k t) ∧ e.hash = hashInt k ∧ (∃ u, e.val = .int v u) ∧ EntsI r l
  | _, _ => False
/-- at d stands a written dict of these pairs -/
structure SDI (K : PySem.W.Frag) (d : Addr) (kvs : List (Int × Int)) : Prop where
  ex : ∃ es n, K.lookup d = some ⟨.type "dict", none, .dict es n, #[]⟩ ∧ EntsI kvs es.toList
theorem isInt_int (k i : Int) (t : Tok) : Value.isInt i (.int k t) = decide (k = i) := by
  by_cases h : k = i
  · subst h; simp [Value.isInt]
  · rw [decide_eq_false h]
    cases e : Value.isInt i (.int k t) with
    | false => rfl
    | true =>
      obtain ⟨t2, e2⟩ := Value.isInt_shape e
      injection e2 with e3 _
      exact absurd e3 h
theorem EntsI.keys : ∀ {r : List (Int × Int)} {l : List DictEntry}, EntsI r l → ∀ e ∈ l, ∃ k t, e.key = .int k t ∧ e.hash = hashInt k
  | [], [], _, e, he => by cases he
  | (k, v) :: r, e :: l, h, e2, he => by
    obtain ⟨⟨t, h1⟩, h2, _, h4⟩ := h
    rcases List.mem_cons.mp he with rfl | he
    · exact ⟨k, t, h1, h2⟩
    · exact EntsI.keys h4 e2 he
  | [], _ :: _, h, _, _ => h.elim
  | _ :: _, [], h, _, _ => h.elim
theorem EntsI.find (i : Int) : ∀ {r : List (Int × Int)} {l : List DictEntry}, EntsI r l → ∀ {v : Int}, r.lookup i = some v → ∃ e u, l.find? (fun e => Value.isInt i e.key) = some e ∧ e.val = .int v u
  | [], [], _, v, q => by cases q
  | (k, v) :: r, e :: l, h, z, q => by
    obtain ⟨⟨t, h1⟩, _, ⟨u, h3⟩, h4⟩ := h
    have hk : Value.isInt i e.key = decide (k = i) := by rw [h1]; exact isInt_int k i t
    by_cases hz : k = i
    · subst hz
      rw [List.lookup_cons, beq_self_eq_true] at q
      obtain rfl : v = z := Option.some.inj q
      exact ⟨e, u, by rw [List.find?_cons, hk, decide_eq_true rfl], h3⟩
    · rw [List.lookup_cons, beq_eq_false_iff_ne.mpr (Ne.symm hz)] at q
      obtain ⟨e2, u2, q1, q2⟩ := EntsI.find i h4 q
      exact ⟨e2, u2, by rw [List.find?_cons, hk, decide_eq_false hz]; exact q1, q2⟩
  | [], _ :: _, h, _, _ => h.elim
  | _ :: _, [], h, _, _ => h.elim
def rIxI (d : Addr) (kvs : List (Int × Int)) : R2 := fun x y H Q => ∃ i v, x = .ref d ∧ y = .int i ∧ kvs.lookup i = some v ∧ Q (.int v) H
theorem ix_ki {X : Cx} {d : Addr} {kvs : List (Int × Int)} (D : SDI X.K d kvs) : IxR X (rIxI d kvs) := by
  intro value slice pins s σ H x y v u Q I rx ry h hs
  obtain ⟨i, r, rfl, rfl, e, q⟩ := h
  obtain rfl : v = Value.ref d := rx
  obtain ⟨t, rfl⟩ := ry
  obtain ⟨es, n, hl, he⟩ := D.ex
  obtain ⟨en, tk, f1, f2⟩ := he.find i e
  have hm : s.heap.MapOf (intKind X.prog X.w) d (fun k => findBy Value.isInt es k) := ⟨_, es, n, I.kIn _ _ hl, ⟨rfl, rfl, rfl⟩, rfl, fun e2 hm => by
    obtain ⟨k, t2, e3, e4⟩ := he.keys e2 (Array.mem_toList_iff.mpr hm)
    exact ⟨k, by rw [e3]; show Value.isInt k (.int k t2) = true; rw [isInt_int, decide_eq_true rfl], e4⟩, fun _ => rfl⟩
  have hf : findBy Value.isInt es i = some (.int r tk) := by
    obtain ⟨l⟩ := es
    unfold findBy
    rw [List.find?_toArray]
    have f1 : l.find? (fun e => Value.isInt i e.key) = some en := f1
    rw [f1]
    exact congrArg some f2
  exact tail_any hm.typeIs slot_dict_getitem.lookup (wpAny_getItem_of (knd := intKind X.prog X.w) (k := i) (by show Value.isInt i (.int i t) = true; rw [isInt_int, decide_eq_true rfl]) hm hf ⟨.int r, H, I.tok _, ⟨_, rfl⟩, q⟩) hs
def dIxI (n : Nat) (kvs : List (Int × Int)) : D → D → R D
  | .fn m, .int i => if m = n then (match kvs.lookup i with | some v => .ok (.int v) | none => .bad) else .bad
  | _, _ => .bad
theorem od_ixI {C : Cc} {n : Nat} {kvs : List (Int × Int)} : OpD C (rIxI (C.ad n) kvs) (dIxI n kvs) := by
  intro G H x y dx dy e rx ry E Q o
  cases rx with
  | fn m => cases ry with
    | int i =>
      have o2 : Out C (rV C) E G H Q (if m = n then (match kvs.lookup i with | some v => .ok (.int v) | none => .bad) else .bad) := o
      by_cases hm : m = n
      · subst hm
        rw [if_pos rfl] at o2
        cases c : kvs.lookup i with
        | none => rw [c] at o2; exact o2.elim
        | some v =>
          rw [c] at o2
          exact ⟨i, v, rfl, rfl, c, o2 _ G H (Step.refl e) (.int _)⟩
      · rw [if_neg hm] at o2; exact o2.elim
    | _ => exact False.elim o
  | _ => first | exact False.elim o | (cases ry <;> exact False.elim o)
theorem dixI {n : Nat} {kvs : List (Int × Int)} {i : Int} : dIxI n kvs (.fn n) (.int i) = match kvs.lookup i with | some v => .ok (.int v) | none => .bad := by
  show (if n = n then _ else _) = _
  rw [if_pos rfl]
/-- a written tuple, at its address -/
theorem isD_ref {K : PySem.W.Frag} {w : World} {ad : Nat → Addr} {fns : List (Nat × Addr)} {n : Nat} {a : Addr} {d : D} (hf : ∀ k b, fns.lookup k = some b → ad k = b) (h : isD K fns n (.ref a) d = true) (G : Gd) : Rep K w ad G (.ref a) d := by
  obtain ⟨v, r, q⟩ := isD_ok (w := w) hf n _ d h
  have e : v = .ref a := by
    cases v with
    | ref b => exact congrArg V.ref (Value.ref.inj (show Value.ref a = Value.ref b from r)).symm
    | int i => obtain ⟨t, z⟩ := r; cases z
    | str i => obtain ⟨t, z⟩ := r; cases z
    | byt i => obtain ⟨t, z⟩ := r; cases z
    | _ => first | cases (show Value.ref a = _ from r) | (obtain ⟨t, z⟩ := r; cases z)
  rw [← e]
  exact q G
def LkP (ad : Nat → Addr) : List (Nat × Addr) → Prop
  | [] => True
  | p :: l => ad p.1 = p.2 ∧ LkP ad l
theorem lk_all {ad : Nat → Addr} : ∀ {l : List (Nat × Addr)}, LkP ad l → ∀ k b, l.lookup k = some b → ad k = b
  | [], _, k, b, h => by cases h
  | (j, a) :: l, h, k, b, hb => by
    rw [List.lookup_cons] at hb
    cases e : k == j with
    | true =>
      rw [e] at hb
      obtain rfl : a = b := Option.some.inj hb
      obtain rfl : k = j := eq_of_beq e
      exact h.1
    | false =>
      rw [e] at hb
      exact lk_all h.2 k b hb
theorem lkp_nil {ad : Nat → Addr} : LkP ad [] := True.intro
theorem lkp_cons {ad : Nat → Addr} {j : Nat} {a : Addr} {l : List (Nat × Addr)} (h : ad j = a) (q : LkP ad l) : LkP ad ((j, a) :: l) := ⟨h, q⟩
end Dm
namespace L2
open PySem
theorem pg_tupK {X : Cx} {K : PySem.W.Frag} {es : List Expr} {k : Nat} {t : TGs} {n : Nat} {pos : Pos} (hK : X.K = K) (hc : X.calm = true) (h : PGs X es t)
    (hn : (assignEach es X.env).length = n := by rfl) (hst : (assignEach es X.env).findIdx? (·.1) = none := by rfl) : PG X (.Tuple es k pos) (gTup K n t) := hK ▸ pg_tup hc h hn hst
end L2
set_option Elab.async false
set_option linter.all false
set_option maxRecDepth 100000
set_option maxHeartbeats 4000000
/-! Dz12: sorted(d) of a dict keyed by numbers, d != e of dicts. -/
namespace L2
open PySem PySem.Spec PyProof.Rows
section
variable {X : Cx}
def rSortedDN : List V → Hp → VK → Prop := fun xs H Q => ∃ (a : Addr) (kvs : List (Key × V)) (ks : List Int), xs = [.ref a] ∧ H a = some (.dK kvs) ∧ kvs.map (·.1) = ks.map Sum.inl ∧
    ∀ (ys : List Int) (p : Addr), ys.Perm ks → ys.Pairwise (· ≤ ·) → H p = none → Q (.ref p) (upd H p (.lst (ys.map V.int)))
theorem cr_sortedDN (hcalm : X.calm = true) : CallR X (.builtin "sorted") rSortedDN := by
  intro pins s σ H xs us Q I r q
  obtain ⟨a, kvs, ks, ex, hd, hks, q⟩ := q
  subst ex
  obtain ⟨u, eu, rx⟩ := vals1 r
  subst eu
  cases rx
  obtain ⟨z, lo, vs, rel, dd⟩ := dk_of I.hok hd
  obtain ⟨ep, hat⟩ := dd.dictAt
  have hkeys : vs.map (·.1) = ks.map Sum.inl := rel.keys.symm.trans hks
  have hl : vs.length = ks.length := by
    have e := congrArg List.length hkeys
    rw [List.length_map, List.length_map] at e
    exact e
  have h16 : vs.length ≤ sizeLine := by rw [← rel.length]; exact z
  refine Calls.call_function_entry PyProof.Rows.kind_sorted PyProof.Rows.plain_sorted PyProof.Rows.entry_sorted (PyProof.Rows.args_sorted1 _) ?_
  unfold Builtin.«sorted»
  refine wpAny_bind (m := checkCount "sorted" 1 1 _) (wpAny_pure ?_)
  refine wpAny_bind (PySem.W.kdu_collect (A := X.A.in1) (PySem.W.kdl_dict (knd := mixKind X.prog X.w) (kvs := vs) (ep := ep) lo) (I.ok.hd hcalm) hat h16 fun h' tk acc hk hacc => ?_)
  have hal : acc.toList.length = ks.length := by rw [Array.length_toList, hacc.1, hl]
  have hS : IntsAre acc.toList ks := ints_each hal fun j v e => by
    obtain ⟨k, x, e1, e2⟩ := hacc.2 j v (by rw [← Array.getElem?_toList]; exact e)
    have e3 : (vs.map (·.1))[j]? = some k := by rw [List.getElem?_map, e1]; rfl
    rw [hkeys, List.getElem?_map] at e3
    cases e4 : ks[j]? with
    | none => rw [e4] at e3; cases e3
    | some y =>
      rw [e4] at e3
      have e5 : Sum.inl y = k := Option.some.inj e3
      subst e5
      rcases keyIs_shape (show keyIs (Sum.inl y) v = true from e2) with ⟨i, t, ek, ev⟩ | ⟨z, t, ek, ev⟩
      · cases ek
        exact ⟨y, t, rfl, ev⟩
      · cases ek
  have hz : acc.toList.length ≤ sizeLine := by rw [hal, ← hl]; exact h16
  have I1 : Inv X pins σ H { s with heap := h', toks := tk } := I.kept hk
  refine wpAny_bind (wpAny_newList ?_ hz)
  have hoL : (h'.push (seqObj "list" acc.toList.toArray 0)).get? h'.objs.size = some (seqObj "list" acc.toList.toArray 0) := Heap.get?_push_size _ rfl
  show wpAny _ _ _ _ _ { s with heap := h'.push (seqObj "list" acc.toList.toArray 0), toks := tk }
  refine wpAny_bind (wpAny_holding (wpAny_call_entry PyProof.Rows.slot_list_sort ⟨_, hoL, rfl⟩ PyProof.Rows.entry_list_sort
    (SrtO.list_sort_ord (s := { s with heap := h'.push (seqObj "list" acc.toList.toArray 0), toks := tk }) SrtO.swo_int hoL hz (fun h2 => SrtO.ints_sortable hS h2) fun out h1 h2 => ⟨_, rfl, ?_⟩) (PyProof.Rows.args_list_sort _)))
  obtain ⟨g1, g2, g3⟩ := SrtO.ints_out hS h1 h2
  obtain ⟨e', he'⟩ := PyProof.Rows.sortedHeap_at (vs := acc.toList) (out := out.toArray) hoL
  have hlen : ((out.map SrtO.iv).map V.int).length ≤ sizeLine := by
    rw [List.length_map, g2.length_eq, ← hal]
    exact hz
  refine wpAny_pure ⟨_, rfl, .ref h'.objs.size, upd H h'.objs.size (.lst ((out.map SrtO.iv).map V.int)), I1.laid (t' := tk) (fun b u e => ?_) (Nat.le_refl _)
    (show ObjOk X.prog X.w _ _ _ (.lst ((out.map SrtO.iv).map V.int)) from ⟨hlen, out, e', vals_of_ints g1, he'⟩), rfl, q _ _ g2 g3 (I1.hok.fresh (Nat.le_refl _))⟩
  have hb : b < h'.objs.size := Heap.lt_size e
  rw [PyProof.Rows.sortedHeap_old (Nat.ne_of_lt hb) (by rw [size_push']; exact Nat.lt_succ_of_lt hb)]
  exact Heap.get?_push_of_some _ e
end
end L2
namespace Dm
open PySem L2 Evl RZ Wm
def insI (x : Int) : List Int → List Int
  | [] => [x]
  | y :: l => if x ≤ y then x :: y :: l else y :: insI x l
def srtI : List Int → List Int
  | [] => []
  | x :: l => insI x (srtI l)
theorem insI_perm (x : Int) : ∀ l : List Int, (insI x l).Perm (x :: l)
  | [] => List.Perm.refl _
  | y :: l => by
    unfold insI
    split
    · exact List.Perm.refl _
    · exact ((insI_perm x l).cons y).trans (List.Perm.swap x y l)
theorem srtI_perm : ∀ l : List Int, (srtI l).Perm l
  | [] => List.Perm.refl _
  | x :: l => (insI_perm x (srtI l)).trans ((srtI_perm l).cons x)
theorem insI_pw (x : Int) : ∀ l : List Int, l.Pairwise (· ≤ ·) → (insI x l).Pairwise (· ≤ ·)
  | [], _ => by unfold insI; simp
  | y :: l, h => by
    obtain ⟨h1, h2⟩ := List.pairwise_cons.mp h
    unfold insI
    split
    · refine List.pairwise_cons.mpr ⟨fun z hz => ?_, h⟩
      rcases List.mem_cons.mp hz with rfl | hz
      · assumption
      · have := h1 z hz; omega
    · refine List.pairwise_cons.mpr ⟨fun z hz => ?_, insI_pw x l h2⟩
      rcases List.mem_cons.mp ((insI_perm x l).mem_iff.mp hz) with rfl | hz
      · omega
      · exact h1 z hz
theorem srtI_pw : ∀ l : List Int, (srtI l).Pairwise (· ≤ ·)
  | [] => List.Pairwise.nil
  | x :: l => insI_pw x _ (srtI_pw l)
theorem srtI_one {l ys : List Int} (h1 : ys.Perm l) (h2 : ys.Pairwise (· ≤ ·)) : ys = srtI l :=
  List.Perm.eq_of_pairwise (le := (· ≤ ·)) (fun a b _ _ h h' => by omega) h2 (srtI_pw l) (h1.trans (srtI_perm l).symm)
def keysI : List (Key × D) → Option (List Int)
  | [] => some []
  | (.inl i, _) :: r => (keysI r).map (i :: ·)
  | (.inr _, _) :: _ => none
def lSortK : List D → R (List D)
  | [.mref n] => onK n fun kvs s => match keysI kvs with | some ks => Rs.ok ((srtI ks).map .int) s | none => Rs.bad
  | _ => .bad
theorem RpK.keysI {K : PySem.W.Frag} {w : World} {ad : Nat → Addr} {H : Hp} {M : List Addr} : ∀ {ps : List (Key × V)} {kvs : List (Key × D)}, RpK K w ad H M ps kvs → ∀ {ks : List Int}, Dm.keysI kvs = some ks → ps.map (·.1) = ks.map Sum.inl
  | _, _, .nil, ks, h => by cases h; rfl
  | _, _, .cons (k := k) (vs := vs) (ds := ds) h r, ks, e => by
    cases k with
    | inr x => cases e
    | inl i =>
      have e : (Dm.keysI ds).map (i :: ·) = some ks := e
      cases c : Dm.keysI ds with
      | none => rw [c] at e; cases e
      | some ks2 =>
        rw [c] at e
        obtain rfl : i :: ks2 = ks := Option.some.inj e
        rw [List.map_cons, RpK.keysI r c]
        rfl
section
variable {C : Cc} {xo : Xo} {W : WX}
theorem cn_sortK {ta : TA} {a : SA} (h : CA C xo W ta a) : CN C xo W (tCB rSortedDN ta) (lF lSortK a) := fun σ G H env f Q o =>
  h σ G H env f _ (Out.bind o fun ds vs G1 H1 _ s1 r1 o1 => by
    have e := s1.gh
    cases r1 with
    | nil => exact False.elim o1
    | cons h r =>
      cases r with
      | cons h2 r => cases h <;> exact False.elim o1
      | nil =>
        cases h with
        | mref hm =>
          obtain ⟨kvs, hs, o2⟩ := onK_out o1
          obtain ⟨ps, h1, h2⟩ := e.atK hm hs
          cases c : keysI kvs with
          | none => rw [c] at o2; exact o2.elim
          | some ks =>
            rw [c] at o2
            refine ⟨_, ps, ks, rfl, h1, h2.keysI c, fun ys q y1 y2 hq => ?_⟩
            obtain rfl := srtI_one y1 y2
            exact o2 _ G1 _ (Step.ofH e (Ex.new hq)) ⟨⟨q, _, rfl, fresh_back e.e hq, e.fresh hq, upd_same, rep_ints _⟩, fun q2 hq2 => by cases hq2; exact s1.fresh hq⟩
        | _ => exact False.elim o1)
def eqK (a b : List (Key × D)) : Bool := a.length == b.length && a.all fun p => match valG b p.1, p.2 with
  | some (.int i), .int j => i == j
  | _, _ => false
def dNeK : D → D → R D
  | .mref n, .mref m => onK n fun a s => (onK m fun b s => if eqK a b = true then Rs.ok (.bl false) s else Rs.bad) s
  | _, _ => .bad
theorem RpK.len2 {K : PySem.W.Frag} {w : World} {ad : Nat → Addr} {H : Hp} {M : List Addr} : ∀ {ps : List (Key × V)} {kvs : List (Key × D)}, RpK K w ad H M ps kvs → ps.length = kvs.length
  | _, _, .nil => rfl
  | _, _, .cons _ r => congrArg (· + 1) (RpK.len2 r)
theorem RpK.each {K : PySem.W.Frag} {w : World} {ad : Nat → Addr} {H : Hp} {M : List Addr} : ∀ {ps : List (Key × V)} {kvs : List (Key × D)}, RpK K w ad H M ps kvs → ∀ p ∈ ps, ∃ d, (p.1, d) ∈ kvs ∧ Rp K w ad H M p.2 d
  | _, _, .nil, p, hp => by cases hp
  | _, _, .cons (k := k) (d := d) h r, p, hp => by
    rcases List.mem_cons.mp hp with rfl | hp
    · exact ⟨d, List.mem_cons_self, h⟩
    · obtain ⟨d2, h1, h2⟩ := RpK.each r p hp
      exact ⟨d2, List.mem_cons_of_mem _ h1, h2⟩
theorem rp_int {K : PySem.W.Frag} {w : World} {ad : Nat → Addr} {H : Hp} {M : List Addr} {v : V} {i : Int} (h : Rp K w ad H M v (.int i)) : v = .int i := by cases h; rfl
theorem od_neK : OpD C rNeDA dNeK := by
  intro G H x y dx dy e rx ry E Q o
  cases rx with
  | mref hm => cases ry with
    | mref hm2 =>
      obtain ⟨a, hs, o2⟩ := onK_out o
      obtain ⟨b, hs2, o3⟩ := onK_out (G := G) (H := H) o2
      obtain ⟨ps, h1, r1⟩ := e.atK hm hs
      obtain ⟨qs, h2, r2⟩ := e.atK hm2 hs2
      by_cases c : eqK a b = true
      · rw [if_pos c] at o3
        unfold eqK at c
        rw [Bool.and_eq_true, beq_iff_eq, List.all_eq_true] at c
        refine ⟨_, _, ps, qs, rfl, rfl, h1, h2, r1.len2.trans (c.1.trans r2.len2.symm), fun p hp => ?_, o3 _ G H (Step.refl e) (.bl _)⟩
        obtain ⟨d, hd, rd⟩ := r1.each p hp
        have q := c.2 _ hd
        dsimp only at q
        have v := r2.val (z := p.1)
        split at q
        · rename_i i j hv
          rw [hv] at v
          obtain ⟨u, hu, ru⟩ := v
          obtain rfl : i = j := eq_of_beq q
          rw [hu, rp_int ru, rp_int rd]
          exact ⟨rfl, rfl⟩
        · cases q
      · rw [if_neg c] at o3; exact o3.elim
    | _ => exact False.elim o
  | _ => first | exact False.elim o | (cases ry <;> exact False.elim o)
/-- range(m, n), far out -/
def itR2W : List D → R (List D)
  | [.int m, .int n] => if n ≤ 1000000000 ∧ -1000000000 ≤ n ∧ m ≤ 1000000000 ∧ -1000000000 ≤ m then .ok ((List.range (n - m).toNat).map fun (i : Nat) => .int (m + (i : Int))) else .bad
  | _ => .bad
def iR2W (a : SA) : SA := fun env => (a env).bind itR2W
theorem ap_iR2W {a : SA} {env : Env} : iR2W a env = (a env).bind itR2W := (rfl)
theorem itR2W_i {m n : Int} : itR2W [.int m, .int n] = if n ≤ 1000000000 ∧ -1000000000 ≤ n ∧ m ≤ 1000000000 ∧ -1000000000 ≤ m then .ok ((List.range (n - m).toNat).map fun (i : Nat) => .int (m + (i : Int))) else .bad := (rfl)
theorem ci_r2W {ta : TA} {a : SA} (h : CA C xo W ta a) : CI C xo W (iRng2 ta) (iR2W a) := fun σ G H env ft R o =>
  h σ G H env ft _ (Out.bind o fun ds vs G1 H1 _ s r o1 => by
    cases r with
    | nil => exact False.elim o1
    | cons h r =>
      cases r with
      | nil => cases h <;> exact False.elim o1
      | cons h2 r =>
        cases r with
        | cons _ _ => cases h <;> cases h2 <;> exact False.elim o1
        | nil =>
          cases h with
          | int m => cases h2 with
            | int n =>
              obtain ⟨hz, o1⟩ := out_if (p := n ≤ 1000000000 ∧ -1000000000 ≤ n ∧ m ≤ 1000000000 ∧ -1000000000 ≤ m) o1
              refine ⟨m, n, rfl, by omega, o1 _ G1 H1 (Step.refl s.gh) ⟨_, _, by rw [List.length_map, List.length_range]; exact walk_range, fun _ _ => True.intro, fun i H x H' G1 hi e1 e2 y => ?_⟩⟩
              obtain ⟨rfl, rfl⟩ := y
              rw [List.length_map, List.length_range] at hi
              refine ⟨G1, _, ?_, Step.refl e2, .int _⟩
              rw [List.getElem?_map, List.getElem?_range hi]
              rfl
            | _ => exact False.elim o1
          | _ => cases h2 <;> exact False.elim o1)
end
end Dm
set_option Elab.async false
set_option linter.all false
set_option maxRecDepth 100000
set_option maxHeartbeats 4000000
/-! Dp: facts for reasoning over Dm's functions. -/
namespace Dm
open PySem L2
/-- a walk whose turns all go on -/
theorem forGo_nx {g : SG} {b : SS} (I : Nat → Env → Prop) : ∀ (ds : List D) (k : Nat) (env : Env), I k env →
    (∀ i d env, ds[i]? = some d → I (k + i) env → ∃ e2 e3, g d env = some e2 ∧ (b e2 = .nx e3 ∨ b e2 = .ct e3) ∧ I (k + i + 1) e3) → ∃ e, forGo g b ds env = .nx e ∧ I (k + ds.length) e
  | [], k, env, h, _ => ⟨env, rfl, h⟩
  | d :: ds, k, env, h, hs => by
    obtain ⟨e2, e3, h1, h2, h3⟩ := hs 0 d env rfl h
    obtain ⟨e, q1, q2⟩ := forGo_nx I ds (k + 1) e3 h3 fun i d env hi hI => by
      have := hs (i + 1) d env hi (by rw [show k + (i + 1) = k + 1 + i by omega]; exact hI)
      rw [show k + (i + 1) = k + 1 + i by omega] at this
      exact this
    refine ⟨e, ?_, by rw [List.length_cons, show k + (ds.length + 1) = k + 1 + ds.length by omega]; exact q2⟩
    unfold forGo ofG
    rw [h1]
    dsimp only
    rcases h2 with h2 | h2 <;> rw [h2] <;> exact q1
/-- .. or hand something back -/
theorem forGo_or {g : SG} {b : SS} (I : Nat → Env → Prop) (P : Sl → Prop) : ∀ (ds : List D) (k : Nat) (env : Env), I k env →
    (∀ i d env, ds[i]? = some d → I (k + i) env → ∃ e2, g d env = some e2 ∧ ((∃ e3, (b e2 = .nx e3 ∨ b e2 = .ct e3) ∧ I (k + i + 1) e3) ∨ ∃ v, b e2 = .rt v ∧ P v)) → (∃ e, forGo g b ds env = .nx e ∧ I (k + ds.length) e) ∨ ∃ v, forGo g b ds env = .rt v ∧ P v
  | [], k, env, h, _ => Or.inl ⟨env, rfl, h⟩
  | d :: ds, k, env, h, hs => by
    obtain ⟨e2, h1, h2⟩ := hs 0 d env rfl h
    have e : forGo g b (d :: ds) env = thenW (b e2) (forGo g b ds) := by
      conv => lhs; unfold forGo ofG
      rw [h1] <;> rfl
    rcases h2 with ⟨e3, h2, h3⟩ | ⟨v, h2, h3⟩
    · have q := forGo_or I P ds (k + 1) e3 h3 fun i d env hi hI => by
        have := hs (i + 1) d env hi (by rw [show k + (i + 1) = k + 1 + i by omega]; exact hI)
        rw [show k + (i + 1) = k + 1 + i by omega] at this
        exact this
      have e4 : forGo g b (d :: ds) env = forGo g b ds e3 := by
        rw [e]
        rcases h2 with h2 | h2 <;> rw [h2] <;> rfl
      rw [e4, List.length_cons, show k + (ds.length + 1) = k + 1 + ds.length by omega]
      exact q
    · exact Or.inr ⟨v, by rw [e, h2] <;> rfl, h3⟩
theorem ixN_ok {n : Nat} {i : Int} (h0 : 0 ≤ i) (h1 : i < n) : ixN n i = some i.toNat := by
  unfold ixN
  rw [if_pos h0, if_pos h1]
theorem range_at {n i : Nat} {d : D} (h : ((List.range n).map fun (i : Nat) => D.int i)[i]? = some d) : i < n ∧ d = .int i := by
  rw [List.getElem?_map] at h
  by_cases hi : i < n
  · rw [List.getElem?_range hi] at h
    exact ⟨hi, (Option.some.inj h).symm⟩
  · rw [List.getElem?_eq_none (by rw [List.length_range]; omega)] at h
    cases h
theorem forGo_cons {g : SG} {b : SS} {d : D} {ds : List D} {env e2 : Env} (h : g d env = some e2) : forGo g b (d :: ds) env = thenW (b e2) (forGo g b ds) := by
  conv => lhs; unfold forGo ofG
  rw [h] <;> rfl
theorem whGo_succ {t : ST} {b : SS} {n : Nat} {env : Env} {k : Bool} (h : t env = .ok k) : whGo t b (n + 1) env = if k = true then thenW (b env) (whGo t b n) else .nx env := by
  conv => lhs; unfold whGo ofE
  rw [h] <;> rfl
theorem whGo_exc {t : ST} {b : SS} {n : Nat} {env : Env} {c : Nat} {fs : List (Str × D)} (h : t env = .exc c fs) : whGo t b (n + 1) env = .exc c fs env := by
  conv => lhs; unfold whGo ofE
  rw [h] <;> rfl
theorem thenW_nx {e : Env} {k : Env → RS} : thenW (.nx e) k = k e := (rfl)
theorem thenW_ct {e : Env} {k : Env → RS} : thenW (.ct e) k = k e := (rfl)
theorem thenW_bk {e : Env} {k : Env → RS} : thenW (.bk e) k = .nx e := (rfl)
theorem thenW_rt {v : Sl} {k : Env → RS} : thenW (.rt v) k = .rt v := (rfl)
theorem thenW_exc {c : Nat} {fs : List (Str × D)} {e : Env} {k : Env → RS} : thenW (.exc c fs e) k = .exc c fs e := (rfl)
/-! ### one step at a time (for simp only: EV) -/
section
variable {α β : Type} {r r' : R α} {k : α → R β} {env e2 : Env} {kS : α → RS} {i j n : Nat} {d x y : D} {xs ys : List D} {a b c : SE} {la lb : SA} {t u : ST} {p q s : SS} {f : D → D → R D} {g : SG}
theorem bind_cg (h : r = r') : r.bind k = r'.bind k := by rw [h]
theorem ofE_cg (h : r = r') : ofE r env kS = ofE r' env kS := by rw [h]
theorem bind_ok {a : α} : (R.ok a).bind k = k a := (rfl)
theorem bind_exc {c : Nat} {fs : List (Str × D)} : (R.exc c fs : R α).bind k = .exc c fs := (rfl)
theorem bind_bad : (R.bad : R α).bind k = .bad := (rfl)
theorem ofE_ok {a : α} : ofE (.ok a) env kS = kS a := (rfl)
theorem ofE_exc {c : Nat} {fs : List (Str × D)} : ofE (.exc c fs : R α) env kS = .exc c fs env := (rfl)
/-- what a slot gives -/
def vOf : Option Sl → R D
  | some (.val d) => .ok d
  | _ => .bad
theorem vOf_v : vOf (some (.val d)) = .ok d := (rfl)
theorem ap_C : eC d env = .ok d := (rfl)
theorem ap_V : eV i env = vOf env[i]? := (rfl)
theorem ap_nil : eNil env = .ok [] := (rfl)
theorem ap_cons : eCons a la env = (a env).bind fun x => (la env).bind fun xs => .ok (x :: xs) := (rfl)
theorem ap_U {f : D → R D} : eU f a env = (a env).bind f := (rfl)
theorem ap_B : eB f a b env = (a env).bind fun x => (b env).bind fun y => f x y := (rfl)
theorem ap_chain {f g : D → D → R D} : eChain f g a b c env = (a env).bind fun x => (b env).bind fun y => (f x y).bind fun r => (toBl r).bind fun k => if k = true then (c env).bind fun z => (g y z).bind fun r2 => (toBl r2).bind fun k2 => .ok (.bl k2) else .ok (.bl false) := (rfl)
theorem ap_and : eAnd a b env = (a env).bind fun x => (toBl x).bind fun k => if k = true then b env else .ok (.bl false) := (rfl)
theorem ap_or : eOr a b env = (a env).bind fun x => (toBl x).bind fun k => if k = true then .ok (.bl true) else b env := (rfl)
theorem ap_tup : eTup la env = (la env).bind fun xs => if xs.length ≤ 100000 then .ok (.tup xs) else .bad := (rfl)
theorem ap_F {f : List D → R D} : eF f la env = (la env).bind f := (rfl)
theorem ap_M {t : Ty} {f : D → List D → R D} : eM t f a la env = (a env).bind fun x => if isTy t x = true then (la env).bind fun xs => f x xs else .bad := (rfl)
theorem ap_sl {lo hi : Env → R (Option Int)} : eSl a lo hi env = (a env).bind fun x => (lo env).bind fun l => (hi env).bind fun h => dSl x l h := (rfl)
theorem ap_pN : pN env = .ok none := (rfl)
theorem ap_pS : pS a env = (a env).bind fun x => (toIn x).bind fun i => .ok (some i) := (rfl)
theorem ap_L : eL la env = (la env).bind fun xs => .ok (.lst xs) := (rfl)
theorem ap_tE : tE a env = (a env).bind toBl := (rfl)
theorem ap_tAn : tAn t u env = (t env).bind fun k => if k = true then u env else .ok false := (rfl)
theorem ap_tO : tO t u env = (t env).bind fun k => if k = true then .ok true else u env := (rfl)
theorem ap_tN : tN t env = (t env).bind fun k => .ok !k := (rfl)
theorem ap_tY : tY env = .ok true := (rfl)
theorem ap_if : eIf t a b env = (t env).bind fun k => if k = true then a env else b env := (rfl)
theorem ap_lD : lD la env = (la env).bind fun xs => if xs.length ≤ 100000 then .ok xs else .bad := (rfl)
theorem ap_lF {f : List D → R (List D)} : lF f la env = (la env).bind f := (rfl)
def catL : D → D → R (List D)
  | .lst xs, .lst ys => if xs.length + ys.length ≤ 100000 then .ok (xs ++ ys) else .bad
  | _, _ => .bad
theorem ap_lCat : lCat a b env = (a env).bind fun x => (b env).bind fun y => catL x y := (rfl)
theorem catL_ok : catL (.lst xs) (.lst ys) = if xs.length + ys.length ≤ 100000 then .ok (xs ++ ys) else .bad := (rfl)
def repL : D → D → R (List D)
  | .lst xs, .int k => if xs.length * k.toNat ≤ 100000 ∧ -(2 ^ 63) ≤ k ∧ k < 2 ^ 63 then .ok (List.replicate k.toNat xs).flatten else .bad
  | _, _ => .bad
theorem ap_lRep : lRep a b env = (a env).bind fun x => (b env).bind fun y => repL x y := (rfl)
theorem repL_ok {k : Int} : repL (.lst xs) (.int k) = if xs.length * k.toNat ≤ 100000 ∧ -(2 ^ 63) ≤ k ∧ k < 2 ^ 63 then .ok (List.replicate k.toNat xs).flatten else .bad := (rfl)
def slL : D → Option Int → Option Int → R (List D)
  | .lst xs, l, h => .ok (cutG xs l h)
  | .scr xs, l, h => .ok (cutG xs l h)
  | _, _, _ => .bad
theorem ap_lSl {lo hi : Env → R (Option Int)} : lSl a lo hi env = (a env).bind fun x => (lo env).bind fun l => (hi env).bind fun h => slL x l h := by
  unfold lSl slL
  congr 1
  funext x
  congr 1
  funext l
  congr 1
  funext h
  cases x <;> rfl
theorem slL_lst {l h : Option Int} : slL (.lst xs) l h = .ok (cutG xs l h) := (rfl)
theorem slL_scr {l h : Option Int} : slL (.scr xs) l h = .ok (cutG xs l h) := (rfl)
def itL : D → R (List D)
  | .lst xs => .ok xs
  | .scr xs => .ok xs
  | _ => .bad
theorem ap_iD : iD a env = (a env).bind itL := (rfl)
theorem itL_lst : itL (.lst xs) = .ok xs := (rfl)
theorem itL_scr : itL (.scr xs) = .ok xs := (rfl)
def itT : D → R (List D)
  | .tup xs => .ok xs
  | .ktp xs => .ok xs
  | _ => .bad
theorem ap_iT : iT a env = (a env).bind itT := (rfl)
theorem itT_tup : itT (.tup xs) = .ok xs := (rfl)
theorem itT_ktp : itT (.ktp xs) = .ok xs := (rfl)
def itS : D → R (List D)
  | .str z => .ok (z.cps.toList.map fun c => .str ⟨#[c]⟩)
  | _ => .bad
theorem ap_iS : iS a env = (a env).bind itS := (rfl)
theorem itS_str {z : Str} : itS (.str z) = .ok (z.cps.toList.map fun c => .str ⟨#[c]⟩) := (rfl)
def itR1 : List D → R (List D)
  | [.int n] => if n ≤ Z ∧ -Z ≤ n then .ok ((List.range n.toNat).map fun (i : Nat) => .int i) else .bad
  | _ => .bad
theorem ap_iR1 : iR1 la env = (la env).bind itR1 := (rfl)
theorem itR1_ok {n : Int} : itR1 [.int n] = if n ≤ 100000 ∧ -100000 ≤ n then .ok ((List.range n.toNat).map fun (i : Nat) => .int i) else .bad := (rfl)
/-! operations on data in the hand -/
theorem add_i {i j : Int} : dAdd (.int i) (.int j) = .ok (.int (i + j)) := (rfl)
theorem add_s {a b : Str} : dAdd (.str a) (.str b) = if a.length + b.length ≤ 100000 then .ok (.str (a ++ b)) else .bad := (rfl)
theorem add_l : dAdd (.lst xs) (.lst ys) = if xs.length + ys.length ≤ 100000 then .ok (.lst (xs ++ ys)) else .bad := (rfl)
theorem addX_i {i j : Int} : dAddX (.int i) (.int j) = .ok (.int (i + j)) := (rfl)
theorem addX_s {a b : Str} : dAddX (.str a) (.str b) = if a.length + b.length ≤ 100000 then .ok (.str (a ++ b)) else .bad := (rfl)
theorem sub_i {i j : Int} : dSub (.int i) (.int j) = .ok (.int (i - j)) := (rfl)
theorem mul_i {i j : Int} : dMul (.int i) (.int j) = if CMulW i j ∨ CMul i j then .ok (.int (i * j)) else .bad := (rfl)
theorem div_i {i j : Int} : dDiv (.int i) (.int j) = if CDivW i j then .ok (.int (i / j)) else .bad := (rfl)
theorem mod_i {i j : Int} : dMod (.int i) (.int j) = if 0 < j then .ok (.int (i % j)) else .bad := (rfl)
theorem pow_i {i j : Int} : dPow (.int i) (.int j) = if CPow i j then .ok (.int (i ^ j.toNat)) else .bad := (rfl)
theorem shl_i {i j : Int} : dShl (.int i) (.int j) = if CShl i j ∨ CPow i j then .ok (.int (i * 2 ^ j.toNat)) else .bad := (rfl)
theorem shr_i {i j : Int} : dShr (.int i) (.int j) = if 0 ≤ j then .ok (.int (i / 2 ^ j.toNat)) else .bad := (rfl)
theorem and_i {i j : Int} : dAnd (.int i) (.int j) = .ok (.int (Builtin.bitAnd i j)) := (rfl)
theorem or_i {i j : Int} : dOr (.int i) (.int j) = .ok (.int (Builtin.bitOr i j)) := (rfl)
theorem xor_i {i j : Int} : dXor (.int i) (.int j) = .ok (.int (Builtin.bitXor i j)) := (rfl)
theorem neg_i {i : Int} : dNeg (.int i) = .ok (.int (-i)) := (rfl)
theorem not_b {b : Bool} : dNot (.bl b) = .ok (.bl !b) := (rfl)
theorem lt_i {i j : Int} : dLt (.int i) (.int j) = .ok (.bl (decide (i < j))) := (rfl)
theorem le_i {i j : Int} : dLe (.int i) (.int j) = .ok (.bl (decide (i ≤ j))) := (rfl)
theorem gt_i {i j : Int} : dGt (.int i) (.int j) = .ok (.bl (decide (j < i))) := (rfl)
theorem ge_i {i j : Int} : dGe (.int i) (.int j) = .ok (.bl (decide (j ≤ i))) := (rfl)
theorem eq_i {i j : Int} : dEq (.int i) (.int j) = .ok (.bl (decide (i = j))) := (rfl)
theorem eq_s {i j : Str} : dEq (.str i) (.str j) = .ok (.bl (decide (i = j))) := (rfl)
theorem ne_i {i j : Int} : dNe (.int i) (.int j) = .ok (.bl !(decide (i = j))) := (rfl)
theorem ne_s {i j : Str} : dNe (.str i) (.str j) = .ok (.bl !(decide (i = j))) := (rfl)
theorem ne_of {b : Bool} (h : dEq x y = .ok (.bl b)) : dNe x y = .ok (.bl !b) := by
  unfold dNe
  rw [h]
  rfl
theorem is_non : dIs .non .non = .ok (.bl true) := (rfl)
theorem is_int {i : Int} : dIs (.int i) .non = .ok (.bl false) := (rfl)
theorem is_str {i : Str} : dIs (.str i) .non = .ok (.bl false) := (rfl)
theorem is_tup : dIs (.tup xs) .non = .ok (.bl false) := (rfl)
theorem is_lst : dIs (.lst xs) .non = .ok (.bl false) := (rfl)
theorem isnt_non : dIsnt .non .non = .ok (.bl false) := (rfl)
theorem isnt_int {i : Int} : dIsnt (.int i) .non = .ok (.bl true) := (rfl)
theorem isnt_str {i : Str} : dIsnt (.str i) .non = .ok (.bl true) := (rfl)
theorem isnt_tup : dIsnt (.tup xs) .non = .ok (.bl true) := (rfl)
theorem toBl_b {b : Bool} : toBl (.bl b) = .ok b := (rfl)
theorem toIn_i {i : Int} : toIn (.int i) = .ok i := (rfl)
/-- an item -/
def ixS (z : Str) (i : Int) : R D := match atI z.cps.toList i with | some c => .ok (.str ⟨#[c]⟩) | none => .bad
def ixL (xs : List D) (i : Int) : R D := match atI xs i with | some d => .ok d | none => .bad
theorem ix_s {z : Str} {i : Int} : dIx (.str z) (.int i) = if z.length ≤ 100000 then ixS z i else .bad := (rfl)
theorem ix_l {i : Int} : dIx (.lst xs) (.int i) = ixL xs i := (rfl)
theorem ix_r {i : Int} : dIx (.scr xs) (.int i) = ixL xs i := (rfl)
theorem ix_t {i : Int} : dIx (.tup xs) (.int i) = ixL xs i := (rfl)
theorem ix_k {i : Int} : dIx (.ktp xs) (.int i) = ixL xs i := (rfl)
theorem sl_s {z : Str} {lo hi : Option Int} : dSl (.str z) lo hi = if z.length ≤ 100000 then .ok (.str (cutS z lo hi)) else .bad := (rfl)
theorem sl_l {lo hi : Option Int} : dSl (.lst xs) lo hi = .ok (.lst (cutG xs lo hi)) := (rfl)
theorem sl_r {lo hi : Option Int} : dSl (.scr xs) lo hi = .ok (.lst (cutG xs lo hi)) := (rfl)
theorem sl_t {lo hi : Option Int} : dSl (.tup xs) lo hi = .ok (.tup (cutG xs lo hi)) := (rfl)
theorem len_s {z : Str} : fLen [.str z] = if z.length ≤ 100000 then .ok (.int z.length) else .bad := (rfl)
theorem len_l : fLen [.lst xs] = .ok (.int xs.length) := (rfl)
theorem len_r : fLen [.scr xs] = .ok (.int xs.length) := (rfl)
theorem len_t : fLen [.tup xs] = .ok (.int xs.length) := (rfl)
theorem len_k : fLen [.ktp xs] = .ok (.int xs.length) := (rfl)
theorem int_i {i : Int} : fInt [.int i] = .ok (.int i) := (rfl)
theorem int_b {b : Bool} : fInt [.bl b] = .ok (.int (if b then 1 else 0)) := (rfl)
theorem abs_i {i : Int} : fAbs [.int i] = .ok (.int (if i < 0 then -i else i)) := (rfl)
theorem min_i {i j : Int} : fMin2 [.int i, .int j] = .ok (.int (if j < i then j else i)) := (rfl)
theorem max_i {i j : Int} : fMax2 [.int i, .int j] = .ok (.int (if j > i then j else i)) := (rfl)
theorem tup_l : fTuple [.lst xs] = .ok (.tup xs) := (rfl)
theorem tup_t : fTuple [.tup xs] = .ok (.tup xs) := (rfl)
theorem list_l : fList [.lst xs] = .ok xs := (rfl)
theorem list_r : fList [.scr xs] = .ok xs := (rfl)
theorem list_t : fList [.tup xs] = .ok xs := (rfl)
theorem isi_i {t : Ty} {i : Int} : dIsi t (.int i) = .ok (.bl (isTy t (.int i))) := (rfl)
theorem isi_b {t : Ty} {i : Bool} : dIsi t (.bl i) = .ok (.bl (isTy t (.bl i))) := (rfl)
theorem isi_s {t : Ty} {i : Str} : dIsi t (.str i) = .ok (.bl (isTy t (.str i))) := (rfl)
theorem isi_l {t : Ty} : dIsi t (.lst xs) = .ok (.bl (isTy t (.lst xs))) := (rfl)
theorem isi_t {t : Ty} : dIsi t (.tup xs) = .ok (.bl (isTy t (.tup xs))) := (rfl)
theorem isi_n {t : Ty} : dIsi t .non = .ok (.bl (isTy t .non)) := (rfl)
theorem ty_ii {i : Int} : isTy .int (.int i) = true := (rfl)
theorem ty_bi {i : Int} : isTy .bool (.int i) = false := (rfl)
theorem ty_ss {i : Str} : isTy .str (.str i) = true := (rfl)
theorem ty_ll : isTy .list (.lst xs) = true := (rfl)
theorem ty_tt : isTy .tuple (.tup xs) = true := (rfl)
theorem ty_tl : isTy .tuple (.lst xs) = false := (rfl)
theorem ty_lt : isTy .list (.tup xs) = false := (rfl)
theorem ty_tn : isTy .tuple .non = false := (rfl)
theorem find_s {z w : Str} : mFind (.str z) [.str w] = .ok (.int (Txt.find z w)) := (rfl)
theorem lower_s {z : Str} : mLower (.str z) [] = if z.length ≤ 100000 then .ok (.str (Txt.lower z)) else .bad := (rfl)
/-! statements, with what follows -/
theorem thenS_nx : thenS (.nx env) p = p env := (rfl)
theorem thenS_rt {v : Sl} : thenS (.rt v) p = .rt v := (rfl)
theorem thenS_bk : thenS (.bk env) p = .bk env := (rfl)
theorem thenS_ct : thenS (.ct env) p = .ct env := (rfl)
theorem thenS_bad : thenS .bad p = .bad := (rfl)
theorem thenS_exc {c : Nat} {fs : List (Str × D)} : thenS (.exc c fs env) p = .exc c fs env := (rfl)
theorem thenS_cg {r r' : RS} (h : r = r') : thenS r p = thenS r' p := by rw [h]
theorem thenS_thenS {r : RS} : thenS (thenS r p) q = thenS r (fun e => thenS (p e) q) := by
  funext s
  unfold thenS thenR
  cases r s <;> rfl
theorem thenS_ofE {r : R α} {k : α → RS} : thenS (ofE r env k) p = ofE r env fun d => thenS (k d) p := by
  funext s
  unfold thenS thenR ofE
  cases r s <;> rfl
theorem thenS_if {c : Prop} [Decidable c] {r r' : RS} : thenS (if c then r else r') p = if c then thenS r p else thenS r' p := by split <;> rfl
theorem sq_nx : sSeq sNx p env = p env := (rfl)
theorem sq_sq : sSeq (sSeq p q) s env = sSeq p (sSeq q s) env := thenS_thenS
theorem sq_a : sSeq (sA i a) p env = ofE (a env) env fun d => p (env.set i (.val d)) := thenS_ofE
theorem sq_o : sSeq (sO i la) p env = ofE (la env) env fun d => p (env.set i (.own d)) := thenS_ofE
theorem sq_x : sSeq (sX a) p env = ofE (a env) env fun _ => p env := thenS_ofE
theorem sq_if : sSeq (sIf t p q) s env = ofE (t env) env fun k => if k = true then sSeq p s env else sSeq q s env := by
  unfold sSeq sIf
  rw [thenS_ofE]
  congr 1
  funext k
  exact thenS_if
theorem sq_ret : sSeq (sRet a) p env = ofE (a env) env fun d => .rt (.val d) := thenS_ofE
theorem sq_retL : sSeq (sRetL la) p env = ofE (la env) env fun d => .rt (.own d) := thenS_ofE
/-- what slot i owns -/
def oOf : Option Sl → (List D → RS) → RS
  | some (.own ds), k => k ds
  | _, _ => .bad
theorem oOf_o {k : List D → RS} : oOf (some (.own xs)) k = k xs := (rfl)
theorem sq_retO : sSeq (sRetO i) p env = oOf env[i]? fun xs => .rt (.own xs) := by
  unfold sSeq sRetO oOf
  cases env[i]? with
  | none => rfl
  | some s => cases s <;> rfl
theorem sq_app : sSeq (sApp i a) p env = oOf env[i]? fun xs => ofE (a env) env fun d => if xs.length < 100000 then p (env.set i (.own (xs ++ [d]))) else .bad := by
  unfold sSeq sApp oOf
  cases env[i]? with
  | none => rfl
  | some s =>
    cases s with
    | own xs =>
      dsimp only
      rw [thenS_ofE]
      congr 1
      funext d
      exact thenS_if
    | _ => rfl
/-- data that is a list -/
def lstK : D → (List D → RS) → RS
  | .lst ys, k => k ys
  | _, _ => .bad
theorem lstK_l {k : List D → RS} : lstK (.lst xs) k = k xs := (rfl)
theorem sq_ext : sSeq (sExt i a) p env = oOf env[i]? fun xs => ofE (a env) env fun d => lstK d fun ys => if xs.length + ys.length ≤ 100000 then p (env.set i (.own (xs ++ ys))) else .bad := by
  unfold sSeq sExt oOf
  cases env[i]? with
  | none => rfl
  | some s =>
    cases s with
    | own xs =>
      dsimp only
      rw [thenS_ofE]
      congr 1
      funext d
      cases d with
      | lst ys => exact thenS_if
      | _ => rfl
    | _ => rfl
theorem sq_aug : sSeq (sAug i f a) p env = ofE (vOf env[i]?) env fun x => ofE (a env) env fun y => ofE (f x y) env fun z => p (env.set i (.val z)) := by
  unfold sSeq sAug vOf
  cases env[i]? with
  | none => rfl
  | some s =>
    cases s with
    | val x =>
      dsimp only
      rw [thenS_ofE, ofE_ok]
      congr 1
      funext d
      exact thenS_ofE
    | _ => rfl
theorem sq_g : sSeq (sG a g) p env = ofE (a env) env fun d => ofG (g d env) p := by
  unfold sSeq sG
  rw [thenS_ofE]
  congr 1
  funext d
  unfold ofG
  cases g d env <;> rfl
theorem sq_frz : sSeq (sFrz i p) q env = sSeq p q (frz i env) := (rfl)
theorem sq_br : sSeq sBr p env = .bk env := (rfl)
theorem sq_ct : sSeq sCt p env = .ct env := (rfl)
theorem sq_raise {c : Nat} {nm : List Str} : sSeq (sRaise c nm la) p env = ofE (la env) env fun ds => if ds.length = nm.length then .exc c (nm.zip ds) env else .bad := by
  unfold sSeq sRaise
  rw [thenS_ofE]
  congr 1
  funext d
  exact thenS_if
theorem ofG_some {k : Env → RS} : ofG (some env) k = k env := (rfl)
theorem nx_ap : sNx env = .nx env := (rfl)
theorem sq_for : sSeq (sFor la g q) p env = ofE (la env) env fun ds => thenS (forGo g q ds env) p := thenS_ofE
theorem sq_wh : sSeq (sWh n t q) p env = thenS (whGo t q n env) p := (rfl)
theorem defV_ap {n k : Nat} {ds : List D} (h : ds.length = n) : defV n k p ds = endV (p (ds.map .val ++ List.replicate k .un)) := by
  unfold defV
  rw [if_pos h]
theorem defL_ap {n k : Nat} {ds : List D} (h : ds.length = n) : defL n k p ds = endL (p (ds.map .val ++ List.replicate k .un)) := by
  unfold defL
  rw [if_pos h]
theorem endV_v : endV (.rt (.val d)) = .ok d := (rfl)
theorem endV_o : endV (.rt (.own xs)) = .ok (.lst xs) := (rfl)
theorem endV_n : endV (.nx env) = .ok .non := (rfl)
theorem endV_x {c : Nat} {fs : List (Str × D)} : endV (.exc c fs env) = .exc c fs := (rfl)
theorem endL_o : endL (.rt (.own xs)) = .ok xs := (rfl)
theorem endL_x {c : Nat} {fs : List (Str × D)} : endL (.exc c fs env) = .exc c fs := (rfl)
theorem frz_at {i : Nat} {ds : List D} (h : env[i]? = some (.own ds)) : frz i env = env.set i (.val (.lst ds)) := by
  unfold frz
  rw [h]
theorem gN_ap : gN i d env = some (env.set i (.val d)) := (rfl)
end
theorem len_cps_ (a : Str) : a.length = a.cps.toList.length := by rw [Array.length_toList]; rfl
theorem ixL_ints {ns : List Int} {i : Int} (h0 : 0 ≤ i) (h1 : i < ns.length) : ixL (ns.map .int) i = .ok (.int (ns.getD i.toNat 0)) := by
  unfold ixL atI
  rw [List.length_map, ixN_ok h0 h1, Option.bind_some, List.getElem?_map, List.getD_eq_getElem?_getD, List.getElem?_eq_getElem (show i.toNat < ns.length by omega)]
  rfl
theorem ixS_ok {z : Str} {i : Int} (h0 : 0 ≤ i) (h1 : i < z.length) : ∃ c, c ∈ z.cps.toList ∧ ixS z i = .ok (.str ⟨#[c]⟩) := by
  have hl := len_cps_ z
  unfold ixS atI
  rw [← hl, ixN_ok h0 h1, Option.bind_some]
  have hi : i.toNat < z.cps.toList.length := by omega
  rw [List.getElem?_eq_getElem hi]
  exact ⟨_, List.getElem_mem hi, rfl⟩
theorem cps_app (a b : Str) : (a ++ b).cps.toList = a.cps.toList ++ b.cps.toList := by
  show (a.cps ++ b.cps).toList = _
  rw [Array.toList_append]
theorem len_app (a b : Str) : (a ++ b).length = a.length + b.length := by
  show (a.cps ++ b.cps).size = _
  rw [Array.size_append]
  rfl
theorem len_cps (a : Str) : a.length = a.cps.toList.length := by rw [Array.length_toList]; rfl
theorem cps_cut (z : Str) (lo hi : Option Int) : (cutS z lo hi).cps.toList = cutG z.cps.toList lo hi := by
  unfold cutS cutG
  rw [← len_cps]
theorem cut_mem {α : Type} {xs : List α} {lo hi : Option Int} {x : α} (h : x ∈ cutG xs lo hi) : x ∈ xs := List.mem_of_mem_drop (List.mem_of_mem_take h)
theorem cut_len {α : Type} (xs : List α) (lo hi : Option Int) : (cutG xs lo hi).length ≤ xs.length := by
  unfold cutG
  rw [List.length_take, List.length_drop]
  omega
theorem atI_mem {α : Type} {xs : List α} {i : Int} {x : α} (h : atI xs i = some x) : x ∈ xs := by
  unfold atI at h
  cases c : ixN xs.length i with
  | none => rw [c] at h; cases h
  | some j => rw [c] at h; exact List.mem_of_getElem? h
theorem atI_ok {α : Type} {xs : List α} {i : Int} (h0 : 0 ≤ i) (h1 : i < xs.length) : atI xs i = some (xs[i.toNat]'(by omega)) := by
  unfold atI ixN
  rw [if_pos h0, if_pos h1]
  exact List.getElem?_eq_getElem (by omega)
end Dm
set_option Elab.async false
set_option linter.all false
set_option maxRecDepth 100000
set_option maxHeartbeats 4000000
/-! Dq: more facts for reasoning over Dm's functions. -/
namespace Dm
open PySem L2
theorem frz_zero {ds : List D} {r : Env} : frz 0 (.own ds :: r) = .val (.lst ds) :: r := (rfl)
theorem frz_succ {i : Nat} {s : Sl} {r : Env} : frz (i + 1) (s :: r) = s :: frz i r := by
  unfold frz
  rw [List.getElem?_cons_succ]
  cases c : r[i]? with
  | none => rfl
  | some q => cases q <;> rfl
theorem cast_0 : ((0 : Nat) : Int) = 0 := (rfl)
theorem cast_1 : ((1 : Nat) : Int) = 1 := (rfl)
theorem cast_2 : ((2 : Nat) : Int) = 2 := (rfl)
theorem cast_3 : ((3 : Nat) : Int) = 3 := (rfl)
theorem cast_4 : ((4 : Nat) : Int) = 4 := (rfl)
theorem cast_5 : ((5 : Nat) : Int) = 5 := (rfl)
theorem cast_6 : ((6 : Nat) : Int) = 6 := (rfl)
theorem cast_7 : ((7 : Nat) : Int) = 7 := (rfl)
theorem cast_8 : ((8 : Nat) : Int) = 8 := (rfl)
theorem cast_9 : ((9 : Nat) : Int) = 9 := (rfl)
theorem frz_zeroV {d : D} {r : Dm.Env} : frz 0 (.val d :: r) = .val d :: r := (rfl)
def oOfR {α : Type} : Option Sl → (List D → R α) → R α
  | some (.own xs), k => k xs
  | _, _ => .bad
theorem oOfR_o {α : Type} {xs : List D} {k : List D → R α} : oOfR (some (.own xs)) k = k xs := (rfl)
def ixO (xs : List D) : D → R D
  | .int j => match atI xs j with
    | some d => .ok d
    | none => .bad
  | _ => .bad
theorem ap_lenO {i : Nat} {env : Dm.Env} : eLenO i env = oOfR env[i]? fun xs => .ok (.int xs.length) := by
  unfold eLenO oOfR
  cases env[i]? with
  | none => rfl
  | some s => cases s <;> rfl
theorem ap_ixO {i : Nat} {b : SE} {env : Dm.Env} : eIxO i b env = oOfR env[i]? fun xs => (b env).bind (ixO xs) := by
  unfold eIxO oOfR
  cases env[i]? with
  | none => rfl
  | some s =>
    cases s with
    | own xs =>
      dsimp only
      congr 1
    | _ => rfl
theorem ixO_ok {xs : List D} {j : Int} {d : D} (h : atI xs j = some d) : ixO xs (.int j) = .ok d := by unfold ixO; dsimp only; rw [h]
theorem ixL_ok {xs : List D} {j : Int} {d : D} (h : atI xs j = some d) : ixL xs j = .ok d := by unfold ixL; rw [h]
theorem atI_last (xs : List D) (d : D) : atI (xs ++ [d]) (-1) = some d := by
  unfold atI ixN
  rw [if_neg (by decide), if_pos (by rw [List.length_append, List.length_singleton]; omega), Option.bind_some]
  rw [show ((-1 : Int) + ((xs ++ [d]).length : Nat)).toNat = xs.length by rw [List.length_append, List.length_singleton]; omega]
  simp
theorem atI_nat {xs : List D} {k : Nat} {d : D} (h : xs[k]? = some d) : atI xs (k : Int) = some d := by
  have hl : k < xs.length := by
    rcases Nat.lt_or_ge k xs.length with h2 | h2
    · exact h2
    · rw [List.getElem?_eq_none h2] at h; cases h
  unfold atI
  rw [ixN_ok (by omega) (by omega), Option.bind_some, Int.toNat_natCast, h]
/-- texts as data -/
abbrev dS (zs : List Str) : List D := zs.map .str
theorem flat_strs (zs : List Str) : (dS zs).all flatD = true := by
  rw [List.all_eq_true]
  intro x hx
  obtain ⟨z, _, rfl⟩ := List.mem_map.mp hx
  rfl
theorem inD_strs {z : Str} : ∀ zs : List Str, inD (.str z) (dS zs) = decide (z ∈ zs)
  | [] => rfl
  | y :: zs => by
    have ih := inD_strs (z := z) zs
    unfold inD at ih ⊢
    rw [dS, List.map_cons, List.any_cons, ih]
    unfold D.eqv
    by_cases h : y = z
    · subst h
      simp
    · by_cases h2 : z ∈ zs
      · simp [h2]
      · simp [h, h2, Ne.symm h]
theorem in_strs {z : Str} {zs : List Str} : dIn (.str z) (.lst (dS zs)) = .ok (.bl (decide (z ∈ zs))) := by
  have q : dIn (.str z) (.lst (dS zs)) = if flatD (.str z) && (dS zs).all flatD then .ok (.bl (inD (.str z) (dS zs))) else .bad := (rfl)
  rw [q, flat_strs, inD_strs] <;> rfl
theorem in_strsK {z : Str} {zs : List Str} : dIn (.str z) (.ktp (dS zs)) = .ok (.bl (decide (z ∈ zs))) := by
  have q : dIn (.str z) (.ktp (dS zs)) = if flatD (.str z) && (dS zs).all flatD then .ok (.bl (inD (.str z) (dS zs))) else .bad := (rfl)
  rw [q, flat_strs, inD_strs] <;> rfl
theorem in_strsT {z : Str} {zs : List Str} : dIn (.str z) (.tup (dS zs)) = .ok (.bl (decide (z ∈ zs))) := by
  have q : dIn (.str z) (.tup (dS zs)) = if flatD (.str z) && (dS zs).all flatD then .ok (.bl (inD (.str z) (dS zs))) else .bad := (rfl)
  rw [q, flat_strs, inD_strs] <;> rfl
theorem notIn_of {x y : D} {b : Bool} (h : dIn x y = .ok (.bl b)) : dNotIn x y = .ok (.bl !b) := by unfold dNotIn; rw [h]; rfl
def tOf (r : Option (List D → R D)) (k : (List D → R D) → R D) : R D := match r with
  | some m => k m
  | none => .bad
def pOf (tb : Nat → Option (List D → R D)) (s : Option Sl) (k : (List D → R D) → R D) : R D := match s with
  | some (.val (.fn n)) => tOf (tb n) k
  | _ => .bad
theorem tOf_some {m : List D → R D} {k : (List D → R D) → R D} : tOf (some m) k = k m := (rfl)
theorem pOf_fn {tb : Nat → Option (List D → R D)} {n : Nat} {k : (List D → R D) → R D} : pOf tb (some (.val (.fn n))) k = tOf (tb n) k := (rfl)
theorem ap_P {tb : Nat → Option (List D → R D)} {i : Nat} {la : SA} {env : Dm.Env} : eP tb i la env = pOf tb env[i]? fun m => (la env).bind m := by
  unfold eP pOf tOf
  cases env[i]? with
  | none => rfl
  | some s =>
    cases s with
    | val d => cases d <;> rfl
    | _ => rfl
def itZT : List D → R (List D)
  | [.tup xs, .tup ys] => .ok (zipD xs ys)
  | _ => .bad
theorem ap_iZT {la : SA} {env : Dm.Env} : iZT la env = (la env).bind itZT := by
  unfold iZT
  congr 1
theorem itZT_ok {xs ys : List D} : itZT [.tup xs, .tup ys] = .ok (zipD xs ys) := (rfl)
theorem zipD_cons {x y : D} {xs ys : List D} : zipD (x :: xs) (y :: ys) = .tup [x, y] :: zipD xs ys := (rfl)
theorem zipD_nil {ys : List D} : zipD [] ys = [] := by unfold zipD; rfl
theorem forGo_nil {g : SG} {b : SS} {env : Dm.Env} : forGo g b [] env = .nx env := (rfl)
theorem str_i {i : Int} : fStr [.int i] = if i.natAbs.log2 < 1920 then .ok (.str (Str.ofString (toString i))) else .bad := (rfl)
/-- a number, where P -/
def OkP (P : Int → Prop) (r : R D) : Prop := ∃ i, r = .ok (.int i) ∧ P i
theorem ok_inj {α : Type} {a b : α} (h : (R.ok a : R α) = R.ok b) : a = b := by
  have q : (Rs.ok a [] : Rs α) = Rs.ok b [] := congrFun h []
  injection q
theorem okP {P : Int → Prop} {i : Int} : OkP P (.ok (.int i)) = P i := propext ⟨fun ⟨j, h, p⟩ => by
  have q := ok_inj h
  injection q with q
  rw [q]; exact p, fun p => ⟨i, rfl, p⟩⟩
theorem OkP.ex {P : Int → Prop} {r : R D} (h : OkP P r) : ∃ i, r = .ok (.int i) ∧ P i := h
theorem gT_tup {n : Nat} {r : SGs} {ds : List D} {env : Env} : gT n r (.tup ds) env = if ds.length = n then r ds env else none := (rfl)
theorem gT_ktp {n : Nat} {r : SGs} {ds : List D} {env : Env} : gT n r (.ktp ds) env = if ds.length = n then r ds env else none := (rfl)
theorem gC_ap {i : Nat} {r : SGs} {d : D} {ds : List D} {env : Env} : gC (gN i) r (d :: ds) env = r ds (env.set i (.val d)) := (rfl)
theorem gE_nil {env : Env} : gE [] env = some env := (rfl)
theorem ixL_get {ns : List Int} {p : Nat} {x : Int} (h : ns[p]? = some x) : ixL (ns.map .int) p = .ok (.int x) := by
  have hl : p < ns.length := by
    rcases Nat.lt_or_ge p ns.length with h2 | h2
    · exact h2
    · rw [List.getElem?_eq_none h2] at h; cases h
  unfold ixL atI
  rw [List.length_map, ixN_ok (by omega) (by omega), Option.bind_some, Int.toNat_natCast, List.getElem?_map, h]
  rfl
theorem ipow_le {b k : Nat} (h : b ≤ k) : (2 : Int) ^ b ≤ 2 ^ k := by
  have q := Nat.pow_le_pow_right (show 0 < 2 by decide) h
  exact_mod_cast q
/-- a list of numbers as data -/
abbrev dI (ns : List Int) : List D := ns.map .int
theorem eqv_ints : ∀ ns ms : List Int, eqvAll (dI ns) (dI ms) = decide (ns = ms)
  | [], [] => rfl
  | [], _ :: _ => rfl
  | _ :: _, [] => rfl
  | n :: ns, m :: ms => by
    rw [dI, dI, List.map_cons, List.map_cons]
    unfold eqvAll
    rw [eqv_ints ns ms]
    unfold D.eqv
    by_cases h : n = m
    · subst h
      by_cases h2 : ns = ms <;> simp [h2]
    · simp [h]
theorem shp_ints (n : Nat) : ∀ ns : List Int, shpAll n (dI ns) = true
  | [] => rfl
  | m :: ns => by
    rw [dI, List.map_cons]
    unfold shpAll
    rw [shp_ints n ns]
    cases n <;> rfl
theorem eq_ints {ns ms : List Int} : dEq (.lst (dI ns)) (.lst (dI ms)) = .ok (.bl (decide (ns = ms))) := by
  unfold dEq
  dsimp only
  have e : ∀ xs : List Int, (D.lst (dI xs)).shp 64 = true := fun xs => shp_ints 63 xs
  rw [e, e, if_pos (show (true && true) = true from rfl)]
  unfold D.eqv
  rw [eqv_ints]
theorem ne_ints {ns ms : List Int} : dNe (.lst (dI ns)) (.lst (dI ms)) = .ok (.bl (!decide (ns = ms))) := ne_of eq_ints
theorem lcGo_map {g : SG} {e : SE} {env : Env} (f : D → D) : ∀ (ds acc : List D), (∀ d, d ∈ ds → ∃ env2, g d env = some env2 ∧ e env2 = .ok (f d)) → lcGo g tY e env ds acc = .ok (acc ++ ds.map f)
  | [], acc, _ => by unfold lcGo; rw [List.map_nil, List.append_nil]
  | d :: ds, acc, h => by
    obtain ⟨e2, h1, h2⟩ := h d List.mem_cons_self
    unfold lcGo
    rw [h1]
    dsimp only
    have z : noX (tY e2) = .ok true := (rfl)
    have z2 : noX (e e2) = .ok (f d) := by rw [h2]; rfl
    rw [z, bind_ok, if_pos rfl, z2, bind_ok, lcGo_map f ds _ fun d hd => h d (List.mem_cons_of_mem _ hd), List.append_assoc]
    rfl
/-- a comprehension without a test -/
theorem lc_map {it : SA} {g : SG} {e : SE} {vs : List Nat} {env : Env} {ds : List D} (f : D → D) (hi : it env = .ok ds) (hl : ds.length ≤ 40000) (h : ∀ d, d ∈ ds → ∃ env2, g d (wipeS env vs) = some env2 ∧ e env2 = .ok (f d)) : lLc it g tY e vs env = .ok (ds.map f) := by
  unfold lLc
  rw [hi, bind_ok, if_pos hl, lcGo_map f ds [] h, List.nil_append]
theorem wipe1_len (env : Dm.Env) (j : Nat) : (wipeS env [j]).length = env.length := by unfold wipeS wipeS; rw [List.length_set]
/-- [int(x) for x in xs] of numbers -/
theorem lc_ints {it : SA} {env : Dm.Env} {ns : List Int} {j : Nat} (h : it env = .ok (dI ns)) (hl : ns.length ≤ 40000) (hj : j < env.length) : lLc it (gN j) tY (eF fInt (eCons (eV j) eNil)) [j] env = .ok (dI ns) := by
  have e : (dI ns).map id = dI ns := List.map_id _
  rw [← e]
  refine lc_map id h (by rw [List.length_map]; exact hl) fun d hd => ⟨_, gN_ap, ?_⟩
  obtain ⟨n, _, rfl⟩ := List.mem_map.mp hd
  have q : ((wipeS env [j]).set j (.val (.int n)))[j]? = some (.val (.int n)) := by
    rw [List.getElem?_set, if_pos rfl, if_pos (by rw [wipe1_len]; exact hj)]
  unfold eF eCons eNil eV
  rw [q]
  rfl
mutual
theorem eqv_self : ∀ (d : D) (n : Nat), d.shp n = true → d.eqv d = true
  | .non, _, _ => rfl
  | .bl b, _, _ => by unfold D.eqv; exact beq_self_eq_true b
  | .int i, _, _ => by unfold D.eqv; exact beq_self_eq_true i
  | .str i, _, _ => by unfold D.eqv; exact beq_self_eq_true i
  | .lst xs, 0, h => by cases h
  | .lst xs, n + 1, h => by unfold D.eqv; exact eqvAll_self xs n h
  | .scr xs, 0, h => by cases h
  | .scr xs, n + 1, h => by unfold D.eqv; exact eqvAll_self xs n h
  | .tup xs, 0, h => by cases h
  | .tup xs, n + 1, h => by unfold D.eqv; exact eqvAll_self xs n h
  | .ktp xs, 0, h => by cases h
  | .ktp xs, n + 1, h => by unfold D.eqv; exact eqvAll_self xs n h
  | .fn _, 0, h => by cases h
  | .fn _, _ + 1, h => by cases h
  | .dct _ _, 0, h => by cases h
  | .dct _ _, _ + 1, h => by cases h
  | .mref _, 0, h => by cases h
  | .mref _, _ + 1, h => by cases h
theorem eqvAll_self : ∀ (ds : List D) (n : Nat), shpAll n ds = true → eqvAll ds ds = true
  | [], _, _ => rfl
  | d :: ds, n, h => by
    unfold shpAll at h
    rw [Bool.and_eq_true] at h
    unfold eqvAll
    rw [eqv_self d n h.1, eqvAll_self ds n h.2] <;> rfl
end
theorem dEq_self {x : D} (h : x.shp 64 = true) : dEq x x = .ok (.bl true) := by
  have z : (x.shp 64 && x.shp 64) = true := by rw [h] <;> rfl
  cases x with
  | int i => unfold dEq; simp
  | str i => unfold dEq; simp
  | non => unfold dEq; dsimp only; rw [if_pos z, eqv_self _ 64 h]
  | bl b => unfold dEq; dsimp only; rw [if_pos z, eqv_self _ 64 h]
  | lst b => unfold dEq; dsimp only; rw [if_pos z, eqv_self _ 64 h]
  | scr b => unfold dEq; dsimp only; rw [if_pos z, eqv_self _ 64 h]
  | tup b => unfold dEq; dsimp only; rw [if_pos z, eqv_self _ 64 h]
  | ktp b => unfold dEq; dsimp only; rw [if_pos z, eqv_self _ 64 h]
  | fn n => cases h
  | dct a b => cases h
  | mref a => cases h
theorem dNe_self {x : D} (h : x.shp 64 = true) : dNe x x = .ok (.bl false) := ne_of (dEq_self h)
theorem sq_rt {a b : SS} {env : Dm.Env} {v : Sl} (h : a env = .rt v) : sSeq a b env = .rt v := by unfold sSeq; rw [h] <;> rfl
theorem sq_ofnx {a b : SS} {env e : Dm.Env} (h : a env = .nx e) : sSeq a b env = b e := by unfold sSeq; rw [h] <;> rfl
theorem sq_exc {a b : SS} {env e : Dm.Env} {c : Nat} {fs : List (Str × D)} (h : a env = .exc c fs e) : sSeq a b env = .exc c fs e := by unfold sSeq; rw [h] <;> rfl
theorem try_at {b h : SS} {i : Nat} {cs : Nat → Option Bool} {env : Dm.Env} {s : Sto} : sTry b i cs h env s = tryR (b env s) i cs h := (rfl)
theorem try_rt {b h : SS} {i : Nat} {cs : Nat → Option Bool} {env : Dm.Env} {v : Sl} (q : b env = .rt v) : sTry b i cs h env = .rt v := by
  funext s
  rw [try_at, q] <;> rfl
theorem try_nx {b h : SS} {i : Nat} {cs : Nat → Option Bool} {env e : Dm.Env} (q : b env = .nx e) : sTry b i cs h env = .nx e := by
  funext s
  rw [try_at, q] <;> rfl
theorem try_exc_rt {b h : SS} {i c : Nat} {fs : List (Str × D)} {cs : Nat → Option Bool} {env e2 : Dm.Env} {v : Sl} (q : b env = .exc c fs e2) (hc : cs c = some true) (hn : noExn e2 = true) (hh : h (e2.set i (.exn c fs)) = .rt v) : sTry b i cs h env = .rt v := by
  funext s
  rw [try_at, q]
  unfold RS.exc tryR
  dsimp only
  rw [hc]
  dsimp only
  rw [hn, hh]
  rfl
theorem try_exc_nx {b h : SS} {i c : Nat} {fs : List (Str × D)} {cs : Nat → Option Bool} {env e2 e3 : Dm.Env} (q : b env = .exc c fs e2) (hc : cs c = some true) (hn : noExn e2 = true) (hh : h (e2.set i (.exn c fs)) = .nx e3) (h3 : noExn (e3.set i .un) = true) : sTry b i cs h env = .nx (e3.set i .un) := by
  funext s
  rw [try_at, q]
  unfold RS.exc tryR
  dsimp only
  rw [hc]
  dsimp only
  rw [hn, hh]
  show ifB true (ifB (noExn (e3.set i .un)) _) = _
  rw [h3]
  rfl
theorem ty_bs {i : Str} : isTy .bool (.str i) = false := (rfl)
theorem ty_is {i : Str} : isTy .int (.str i) = false := (rfl)
/-- the run goes on, where P -/
def NxP (P : Dm.Env → Prop) (r : RS) : Prop := ∃ e, (r = .nx e ∨ r = .ct e) ∧ P e
theorem nx_inj {a b : Dm.Env} (h : RS.nx a = RS.nx b) : a = b := by
  have q : (RSr.nx a []) = RSr.nx b [] := congrFun h []
  injection q
theorem ct_inj {a b : Dm.Env} (h : RS.ct a = RS.ct b) : a = b := by
  have q : (RSr.ct a []) = RSr.ct b [] := congrFun h []
  injection q
theorem nx_ct {a b : Dm.Env} (h : RS.nx a = RS.ct b) : False := by
  have q : (RSr.nx a []) = RSr.ct b [] := congrFun h []
  cases q
theorem nxP_nx {P : Dm.Env → Prop} {e : Dm.Env} : NxP P (.nx e) = P e := propext ⟨fun ⟨j, h, p⟩ => by
  rcases h with h | h
  · rw [nx_inj h]; exact p
  · exact (nx_ct h).elim, fun p => ⟨e, Or.inl rfl, p⟩⟩
theorem nxP_ct {P : Dm.Env → Prop} {e : Dm.Env} : NxP P (.ct e) = P e := propext ⟨fun ⟨j, h, p⟩ => by
  rcases h with h | h
  · exact (nx_ct h.symm).elim
  · rw [ct_inj h]; exact p, fun p => ⟨e, Or.inr rfl, p⟩⟩
theorem NxP.ex {P : Dm.Env → Prop} {r : RS} (h : NxP P r) : ∃ e, (r = .nx e ∨ r = .ct e) ∧ P e := h
/-- a walk of a row of numbers: every turn goes on, and keeps P -/
theorem forGo_P {i : Nat} {b : SS} {P : Dm.Env → Prop} : ∀ (ds : List D) (env : Dm.Env), P env → (∀ d env, d ∈ ds → P env → NxP P (b (env.set i (.val d)))) → ∃ e, forGo (gN i) b ds env = .nx e ∧ P e
  | [], env, h, _ => ⟨env, rfl, h⟩
  | d :: ds, env, h, hs => by
    obtain ⟨e, h1, h2⟩ := (hs d env List.mem_cons_self h).ex
    obtain ⟨e2, q1, q2⟩ := forGo_P ds e h2 fun d env hd => hs d env (List.mem_cons_of_mem _ hd)
    refine ⟨e2, ?_, q2⟩
    rw [forGo_cons gN_ap]
    rcases h1 with h1 | h1 <;> rw [h1] <;> exact q1
/-- .. with a count -/
theorem forGo_PN {i : Nat} {b : SS} (P : Nat → Dm.Env → Prop) : ∀ (ds : List D) (k : Nat) (env : Dm.Env), P k env → (∀ n d env, d ∈ ds → k ≤ n → n < k + ds.length → P n env → NxP (P (n + 1)) (b (env.set i (.val d)))) → ∃ e, forGo (gN i) b ds env = .nx e ∧ P (k + ds.length) e
  | [], k, env, h, _ => ⟨env, rfl, h⟩
  | d :: ds, k, env, h, hs => by
    obtain ⟨e, h1, h2⟩ := (hs k d env List.mem_cons_self (Nat.le_refl k) (by rw [List.length_cons]; omega) h).ex
    obtain ⟨e2, q1, q2⟩ := forGo_PN P ds (k + 1) e h2 fun n d env hd hn hm => hs n d env (List.mem_cons_of_mem _ hd) (by omega) (by rw [List.length_cons]; omega)
    refine ⟨e2, ?_, by rw [List.length_cons, show k + (ds.length + 1) = k + 1 + ds.length by omega]; exact q2⟩
    rw [forGo_cons gN_ap]
    rcases h1 with h1 | h1 <;> rw [h1] <;> exact q1
theorem mem_range {n : Nat} {d : D} (h : d ∈ (List.range n).map fun (i : Nat) => D.int i) : ∃ i : Nat, i < n ∧ d = .int i := by
  obtain ⟨i, h1, rfl⟩ := List.mem_map.mp h
  exact ⟨i, List.mem_range.mp h1, rfl⟩
/-- a walk of range(n) -/
theorem forGo_range {i : Nat} {b : SS} (P : Nat → Dm.Env → Prop) (n : Nat) (env : Dm.Env) (h : P 0 env) (hs : ∀ k env, k < n → P k env → NxP (P (k + 1)) (b (env.set i (.val (.int (k : Int)))))) : ∃ e, forGo (gN i) b ((List.range n).map fun (i : Nat) => D.int i) env = .nx e ∧ P n e := by
  obtain ⟨e, q1, q2⟩ := forGo_nx (g := gN i) (b := b) P ((List.range n).map fun (i : Nat) => D.int i) 0 env h fun k d env hk hI => by
    obtain ⟨hlt, rfl⟩ := range_at hk
    rw [Nat.zero_add] at hI
    obtain ⟨e3, h3, h4⟩ := (hs k env hlt hI).ex
    exact ⟨_, e3, gN_ap, h3, by rw [Nat.zero_add]; exact h4⟩
  rw [Nat.zero_add, List.length_map, List.length_range] at q2
  exact ⟨e, q1, q2⟩
theorem ne_self {ns : List Int} : dNe (.lst (dI ns)) (.lst (dI ns)) = .ok (.bl false) := by rw [ne_ints, decide_eq_true rfl] <;> rfl
theorem cutG_to {α : Type} (xs : List α) (n : Nat) : cutG xs none (some (n : Int)) = xs.take n := by
  unfold cutG
  rw [HT.sIx_none, HT.sIx_nat, List.drop_zero, Nat.sub_zero, List.take_eq_take_iff]
  omega
theorem map_take {α β : Type} (f : α → β) (xs : List α) (n : Nat) : (xs.map f).take n = (xs.take n).map f := by rw [List.map_take]
/-- an item assigned -/
def setX (xs : List D) (d : D) (k : List D → RS) : D → RS
  | .int j => match ixN xs.length j with
    | some n => k (xs.set n d)
    | none => .bad
  | _ => .bad
def oOfS : Option Sl → (List D → RS) → RS
  | some (.own xs), k => k xs
  | _, _ => .bad
theorem oOfS_o {xs : List D} {k : List D → RS} : oOfS (some (.own xs)) k = k xs := (rfl)
theorem sq_set {i : Nat} {k e : SE} {q : SS} {env : Dm.Env} : sSeq (sSet i k e) q env = oOfS env[i]? fun xs => ofE (e env) env fun d => ofE (k env) env fun j => setX xs d (fun ys => q (env.set i (.own ys))) j := by
  unfold sSeq sSet oOfS
  cases env[i]? with
  | none => rfl
  | some s =>
    cases s with
    | own xs =>
      dsimp only
      rw [thenS_ofE]
      congr 1
      funext d
      rw [thenS_ofE]
      congr 1
      funext j
      unfold setX
      cases j with
      | int j =>
        dsimp only
        cases ixN xs.length j <;> rfl
      | _ => rfl
    | _ => rfl
theorem setX_ok {xs : List D} {d : D} {k : List D → RS} {j : Int} (h0 : 0 ≤ j) (h1 : j < xs.length) : setX xs d k (.int j) = k (xs.set j.toNat d) := by
  unfold setX
  dsimp only
  rw [ixN_ok h0 h1]
theorem set_ints {ns : List Int} {p : Nat} {x : Int} : (dI ns).set p (.int x) = dI (ns.set p x) := by rw [dI, dI, List.map_set]
end Dm
set_option Elab.async false
set_option linter.all false
set_option maxRecDepth 100000
set_option maxHeartbeats 4000000
/-! Dx: texts by their codes. -/
namespace Dm
open PySem L2
/-- the text of these codes -/
def tx (cs : List Nat) : Str := ⟨cs.toArray⟩
theorem tx_cps (cs : List Nat) : (tx cs).cps.toList = cs := rfl
theorem tx_of (z : Str) : tx z.cps.toList = z := by cases z; rfl
theorem tx_inj {a b : List Nat} : tx a = tx b ↔ a = b := ⟨fun h => congrArg (fun z : Str => z.cps.toList) h, fun h => by rw [h]⟩
theorem tx_len {a : List Nat} : (tx a).length = a.length := by simp [tx, Str.length]
theorem tx_cat {a b : List Nat} : tx a ++ tx b = tx (a ++ b) := SX.S_cat a b
theorem tx_cut {a : List Nat} {lo hi : Option Int} : cutS (tx a) lo hi = tx (cutG a lo hi) := by
  rw [← tx_of (cutS (tx a) lo hi), cps_cut, tx_cps]
theorem tx_ix {a : List Nat} {i : Int} {c : Nat} (h0 : 0 ≤ i) (h : a[i.toNat]? = some c) : ixS (tx a) i = .ok (.str (tx [c])) := by
  have hl : i.toNat < a.length := by
    rcases Nat.lt_or_ge i.toNat a.length with h2 | h2
    · exact h2
    · rw [List.getElem?_eq_none h2] at h; cases h
  have z : atI (tx a).cps.toList i = some c := by
    rw [tx_cps]
    unfold atI
    rw [ixN_ok h0 (by omega), Option.bind_some, h]
  unfold ixS
  rw [z]
  rfl
theorem tx_in {a : List Nat} {c : Nat} : dIn (.str (tx [c])) (.str (tx a)) = .ok (.bl (decide (c ∈ a))) := by
  have q : dIn (.str (tx [c])) (.str (tx a)) = .ok (.bl (!(Builtin.Str.occurrences (tx a) (tx [c]) 0 (tx a).length 1).isEmpty)) := rfl
  rw [q]
  congr 2
  exact SX.in_one a c
theorem tx_notIn {a : List Nat} {c : Nat} : dNotIn (.str (tx [c])) (.str (tx a)) = .ok (.bl !(decide (c ∈ a))) := notIn_of tx_in
theorem tx_ord {c : Nat} : fOrd [.str (tx [c])] = .ok (.int c) := rfl
theorem cnt_none {c : Nat} : ∀ {a : List Nat}, c ∉ a → PyProof.Rows.cnt c a = 0
  | [], _ => rfl
  | n :: r, h => by
    rw [PyProof.Rows.cnt_cons, if_neg fun z => h (by rw [z]; exact List.mem_cons_self), cnt_none fun z => h (List.mem_cons_of_mem _ z)]
    rfl
theorem tx_count {a : List Nat} {c : Nat} : Txt.count (tx a) (tx [c]) = PyProof.Rows.cnt c a := PyProof.Rows.count_cnt (tx a) c
theorem tx_count0 {a : List Nat} {c : Nat} (h : c ∉ a) : Txt.count (tx a) (tx [c]) = 0 := by rw [tx_count, cnt_none h]
theorem at_one {a : List Nat} {c i : Nat} : PySem.StrLaws.At (tx a) (tx [c]) (tx a).length i ↔ a[i]? = some c := by
  have e := TL.at_iff (x := tx a) (y := tx [c]) (show [c] ≠ [] from List.cons_ne_nil _ _) i
  rw [e]
  show (List.take [c].length (a.drop i) == [c]) = true ↔ _
  rw [beq_iff_eq]
  constructor
  · intro h
    have q : (List.take 1 (a.drop i))[0]? = some c := by rw [show List.take 1 (a.drop i) = [c] from h]; rfl
    rw [List.getElem?_take, if_pos (by decide), List.getElem?_drop] at q
    exact q
  · intro h
    have hl : i < a.length := by
      rcases Nat.lt_or_ge i a.length with h2 | h2
      · exact h2
      · rw [List.getElem?_eq_none h2] at h; cases h
    rw [List.getElem?_eq_getElem hl] at h
    rw [List.drop_eq_getElem_cons hl, Option.some.inj h]
    rfl
theorem tx_rfind0 {a : List Nat} {c : Nat} (h : c ∉ a) : Txt.rfind (tx a) (tx [c]) = -1 := by
  unfold Txt.rfind
  rcases PySem.StrLaws.last_spec (tx a) (tx [c]) with ⟨e, _⟩ | ⟨i, e, h1, _⟩
  · rw [e]
  · exact absurd (List.mem_of_getElem? (at_one.mp h1)) h
theorem tx_rfind {a b : List Nat} {c : Nat} (h : c ∉ b) : Txt.rfind (tx (a ++ c :: b)) (tx [c]) = (a.length : Int) := by
  have q : (a ++ c :: b)[a.length]? = some c := by rw [List.getElem?_append_right (Nat.le_refl _), Nat.sub_self]; rfl
  unfold Txt.rfind
  rcases PySem.StrLaws.last_spec (tx (a ++ c :: b)) (tx [c]) with ⟨e, h1⟩ | ⟨i, e, h1, h2⟩
  · exact absurd (at_one.mpr q) (h1 a.length)
  · rw [e]
    dsimp only
    rcases Nat.lt_trichotomy i a.length with z | z | z
    · exact absurd (at_one.mpr q) (h2 _ z)
    · rw [z]
    · have q2 := at_one.mp h1
      rw [List.getElem?_append_right (by omega)] at q2
      obtain ⟨j, hj⟩ : ∃ j, i - a.length = j + 1 := ⟨i - a.length - 1, by omega⟩
      rw [hj, List.getElem?_cons_succ] at q2
      exact absurd (List.mem_of_getElem? q2) h
theorem joinL_nil : ∀ ys : List (List Nat), TL.joinL [] ys = ys.flatten
  | [] => rfl
  | [x] => by simp [TL.joinL]
  | x :: y :: r => by
    show x ++ ([] ++ TL.joinL [] (y :: r)) = _
    rw [joinL_nil (y :: r), List.nil_append] <;> rfl
theorem tx_join (ys : List (List Nat)) : Txt.join (tx []) (ys.map tx) = tx ys.flatten := by
  rw [← joinL_nil]
  exact SX.join_S [] ys
theorem strsOf_dS : ∀ zs : List Str, strsOf (dS zs) = some zs
  | [] => rfl
  | z :: zs => by
    rw [dS, List.map_cons]
    unfold strsOf
    rw [strsOf_dS zs]
    rfl
theorem flat_len : ∀ ys : List (List Nat), ((ys.map tx).map (·.length)).sum = ys.flatten.length
  | [] => rfl
  | y :: ys => by
    rw [List.map_cons, List.map_cons, List.sum_cons, flat_len ys, List.flatten_cons, List.length_append, tx_len]
theorem join_ok {ys : List (List Nat)} (h : ys.flatten.length ≤ 16777216) : mJoin (.str (tx [])) [.lst (dS (ys.map tx))] = .ok (.str (tx ys.flatten)) := by
  have q : mJoin (.str (tx [])) [.lst (dS (ys.map tx))] = match strsOf (dS (ys.map tx)) with
    | some ys => if (ys.map (·.length)).sum + ys.length * (tx []).length ≤ 16777216 then .ok (.str (Txt.join (tx []) ys)) else .bad
    | none => .bad := rfl
  rw [q, strsOf_dS]
  dsimp only
  rw [flat_len, tx_len, List.length_nil, Nat.mul_zero, Nat.add_zero, if_pos h, tx_join]
theorem cut_ft {α : Type} (xs : List α) (n m : Nat) : cutG xs (some (n : Int)) (some (m : Int)) = (xs.drop n).take (m - n) := by
  unfold cutG
  rw [HT.sIx_nat, HT.sIx_nat]
  rcases Nat.le_total xs.length n with h | h
  · rw [List.drop_eq_nil_of_le (by omega), List.drop_eq_nil_of_le h, List.take_nil, List.take_nil]
  · rw [Nat.min_eq_left h, List.take_eq_take_iff, List.length_drop]
    omega
theorem cut_f {α : Type} (xs : List α) (n : Nat) : cutG xs (some (n : Int)) none = xs.drop n := by
  unfold cutG
  rw [HT.sIx_nat, HT.sIx_none]
  rcases Nat.le_total xs.length n with h | h
  · rw [List.drop_eq_nil_of_le (by omega), List.drop_eq_nil_of_le h, List.take_nil]
  · rw [Nat.min_eq_left h, List.take_of_length_le]
    rw [List.length_drop]
    exact Nat.le_refl _
theorem lower_tx {a : List Nat} (h : a.all (· < 128) = true) : Txt.lower (tx a) = tx (a.map PyProof.Rows.lo1) := SX.lower_S h
end Dm
set_option Elab.async false
set_option linter.all false
set_option checkBinderAnnotations false
set_option maxRecDepth 100000
set_option maxHeartbeats 4000000
/-! Dy: runs on a store: At r s P: from the store s, r hands back a and leaves the store s2, where P a s2. -/
namespace Dm
open PySem L2
abbrev XC := Nat → List (Str × D) → Sto → Prop
abbrev XS := Nat → List (Str × D) → Dm.Env → Sto → Prop
/-- no exception comes -/
abbrev x0 : XC := fun _ _ _ => False
abbrev y0 : XS := fun _ _ _ _ => False
def At [X : XC] {α : Type} (r : R α) (s : Sto) [P : α → Sto → Prop] : Prop := match r s with
  | .ok a t => P a t
  | .exc c fs t => X c fs t
  | .bad => False
/-- .. of a piece of a def: it goes on, where N, or hands something back, where T -/
def AtS [X : XS] (r : RS) (s : Sto) [N : Dm.Env → Sto → Prop] [T : Sl → Sto → Prop] : Prop := match r s with
  | .nx e t => N e t
  | .rt v t => T v t
  | .exc c fs e t => X c fs e t
  | _ => False
/-- what a def hands back -/
def EndP (P : D → Sto → Prop) (v : Sl) (s : Sto) : Prop := match v with
  | .val d => P d s
  | .own xs => P (.lst xs) s
  | _ => False
section
variable {xc yc : XC} {xd yd : XS} {α β : Type} {r : R α} {k : α → R β} {a : α} {s : Sto} {P Q : α → Sto → Prop} {P2 : β → Sto → Prop} {N N2 : Dm.Env → Sto → Prop} {T T2 : Sl → Sto → Prop} {env e : Dm.Env} {d : D} {xs : List D} {PD : D → Sto → Prop}
theorem At.monoX (h : @At xc _ r s P) (q : ∀ a s2, P a s2 → Q a s2) (q2 : ∀ c fs s2, xc c fs s2 → yc c fs s2) : @At yc _ r s Q := by
  unfold At at h ⊢
  cases c : r s with
  | ok a t => rw [c] at h; exact q a t h
  | exc c fs t => rw [c] at h; exact q2 _ _ _ h
  | bad => rw [c] at h; exact h
theorem At.mono (h : @At xc _ r s P) (q : ∀ a s2, P a s2 → Q a s2) : @At xc _ r s Q := h.monoX q fun _ _ _ h => h
theorem AtS.monoX {r : RS} (h : @AtS xd r s N T) (q : ∀ e s2, N e s2 → N2 e s2) (q2 : ∀ v s2, T v s2 → T2 v s2) (q3 : ∀ c fs e s2, xd c fs e s2 → yd c fs e s2) : @AtS yd r s N2 T2 := by
  unfold AtS at h ⊢
  cases c : r s with
  | nx e t => rw [c] at h; exact q _ _ h
  | rt v t => rw [c] at h; exact q2 _ _ h
  | exc c fs e t => rw [c] at h; exact q3 _ _ _ _ h
  | bk _ _ => rw [c] at h; exact h
  | ct _ _ => rw [c] at h; exact h
  | bad => rw [c] at h; exact h
theorem AtS.mono {r : RS} (h : @AtS xd r s N T) (q : ∀ e s2, N e s2 → N2 e s2) (q2 : ∀ v s2, T v s2 → T2 v s2) : @AtS xd r s N2 T2 := h.monoX q q2 fun _ _ _ _ h => h
theorem at_ok : @At xc _ (.ok a) s P = P a s := (rfl)
theorem at_bad : @At xc _ (.bad : R α) s P = False := (rfl)
theorem at_exc {c : Nat} {fs : List (Str × D)} : @At xc _ (.exc c fs : R α) s P = xc c fs s := (rfl)
theorem at_bind : @At xc _ (r.bind k) s P2 = @At xc _ r s fun a s2 => @At xc _ (k a) s2 P2 := by
  unfold At R.bind
  cases r s <;> rfl
theorem at_ite {c : Prop} [Decidable c] {r2 : R α} : @At xc _ (if c then r else r2) s P = if c then @At xc _ r s P else @At xc _ r2 s P := by split <;> rfl
theorem atS_nx : @AtS xd (.nx e) s N T = N e s := (rfl)
theorem atS_rt {v : Sl} : @AtS xd (.rt v) s N T = T v s := (rfl)
theorem atS_bad : @AtS xd .bad s N T = False := (rfl)
theorem atS_exc {c : Nat} {fs : List (Str × D)} : @AtS xd (.exc c fs e) s N T = xd c fs e s := (rfl)
theorem atS_ite {c : Prop} [Decidable c] {r r2 : RS} : @AtS xd (if c then r else r2) s N T = if c then @AtS xd r s N T else @AtS xd r2 s N T := by split <;> rfl
theorem atS_ofE {kS : α → RS} : @AtS xd (ofE r env kS) s N T = @At (fun c fs t => xd c fs env t) _ r s fun a s2 => @AtS xd (kS a) s2 N T := by
  unfold AtS At ofE
  cases r s <;> rfl
theorem atS_then {r : RS} {p : SS} : @AtS xd (thenS r p) s N T = @AtS xd r s (fun e s2 => @AtS xd (p e) s2 N T) T := by
  unfold AtS thenS thenR
  cases r s <;> rfl
theorem at_endV {r : RS} : @At xc _ (endV r) s PD = @AtS (fun c fs _ t => xc c fs t) r s (fun _ s2 => PD .non s2) (EndP PD) := by
  unfold At AtS endV endD EndP
  cases r s with
  | rt v t => cases v <;> rfl
  | _ => rfl
theorem endP_v : EndP PD (.val d) s = PD d s := (rfl)
theorem endP_o : EndP PD (.own xs) s = PD (.lst xs) s := (rfl)
/-! cells -/
theorem ix_m {n : Nat} {i : Int} : dIx (.mref n) (.int i) = cIx n i := (rfl)
theorem len_m {n : Nat} : fLen [.mref n] = cLen n := (rfl)
theorem ap_MM {f : D → List D → R D} {o : SE} {la : SA} : eMM f o la env = (o env).bind fun x => (isCL x).bind fun _ => (la env).bind fun xs => f x xs := (rfl)
theorem isCL_m {n : Nat} : isCL (.mref n) = onL n fun _ s => Rs.ok () s := (rfl)
theorem pop0_m {n : Nat} {i : Int} : mPop0 (.mref n) [.int i] = if i = 0 then cPop0 n else .bad := (rfl)
theorem mapp_m {n : Nat} : mApp (.mref n) [d] = (cApp n d).bind fun _ => .ok .non := (rfl)
theorem ap_cell {la : SA} : eCell la env = (la env).bind fun ds => cNew (.lst ds) := (rfl)
theorem sq_mset {o k b : SE} {p : SS} : sSeq (sMSet o k b) p env = ofE (b env) env fun d => ofE (o env) env fun x => ofE (k env) env fun j => ofE (setM x j d) env fun _ => p env := by
  unfold sSeq sMSet
  rw [thenS_ofE]
  congr 1
  funext d
  rw [thenS_ofE]
  congr 1
  funext x
  rw [thenS_ofE]
  congr 1
  funext j
  rw [thenS_ofE]
  rfl
theorem setM_m {n : Nat} {j : Int} : setM (.mref n) (.int j) d = cSet n j d := (rfl)
theorem at_onL {n : Nat} {k : List D → Sto → Rs α} (h : s[n]? = some (.lst xs)) : @At xc _ (onL n k) s P = @At xc _ (k xs) s P := by
  unfold At onL
  rw [h]
theorem at_cIx {n : Nat} {i : Int} (h : s[n]? = some (.lst xs)) (h2 : atI xs i = some d) : @At xc _ (cIx n i) s PD = PD d s := by
  unfold cIx
  rw [at_onL h]
  unfold At
  rw [h2]
  rfl
theorem at_cLen {n : Nat} (h : s[n]? = some (.lst xs)) : @At xc _ (cLen n) s PD = PD (.int xs.length) s := by
  unfold cLen
  rw [at_onL h]
  rfl
theorem at_isCL {n : Nat} {PU : Unit → Sto → Prop} (h : s[n]? = some (.lst xs)) : @At xc _ (onL n fun _ s => Rs.ok () s) s PU = PU () s := by
  rw [at_onL h]
  rfl
theorem at_pop0 {n : Nat} (h : s[n]? = some (.lst (d :: xs))) : @At xc _ (cPop0 n) s PD = PD d (s.set n (.lst xs)) := by
  unfold cPop0
  rw [at_onL h]
  rfl
theorem at_cSet {n : Nat} {j : Int} {m : Nat} {PU : Unit → Sto → Prop} (h : s[n]? = some (.lst xs)) (h2 : ixN xs.length j = some m) : @At xc _ (cSet n j d) s PU = PU () (s.set n (.lst (xs.set m d))) := by
  unfold cSet
  rw [at_onL h]
  unfold At
  rw [h2]
  rfl
theorem at_cNew {c : Cell} : @At xc _ (cNew c) s PD = PD (.mref s.length) (s ++ [c]) := (rfl)
/-- a loop -/
theorem atS_for {g : SG} {b : SS} (I : Nat → Dm.Env → Sto → Prop) : ∀ (ds : List D) (k : Nat) (env : Dm.Env) (s : Sto), I k env s →
    (∀ i d env s, ds[i]? = some d → I (k + i) env s → ∃ e2, g d env = some e2 ∧ @AtS xd (b e2) s (I (k + i + 1)) T) → @AtS xd (forGo g b ds env) s (I (k + ds.length)) T
  | [], k, env, s, h, _ => by
    show @AtS xd (.nx env) s (I (k + List.length [])) T
    rw [atS_nx]
    exact h
  | d :: ds, k, env, s, h, hs => by
    obtain ⟨e2, h1, h2⟩ := hs 0 d env s rfl h
    have ih := fun e s h => atS_for I ds (k + 1) e s h fun i d env s hi hI => by
      have := hs (i + 1) d env s hi (by rw [show k + (i + 1) = k + 1 + i by omega]; exact hI)
      rw [show k + (i + 1) = k + 1 + i by omega] at this
      exact this
    rw [List.length_cons, show k + (ds.length + 1) = k + 1 + ds.length by omega, forGo_cons h1]
    unfold AtS at h2 ⊢
    unfold thenW turnS
    cases q : b e2 s with
    | nx e t => rw [q] at h2; exact ih e t h2
    | rt v t => rw [q] at h2; exact h2
    | exc c fs e t => rw [q] at h2; exact h2
    | bk _ _ => rw [q] at h2; exact h2.elim
    | ct _ _ => rw [q] at h2; exact h2.elim
    | bad => rw [q] at h2; exact h2.elim
/-- .. over range(n) -/
theorem atS_range {i : Nat} {b : SS} (I : Nat → Dm.Env → Sto → Prop) (n : Nat) (env : Dm.Env) (s : Sto) (h : I 0 env s) (hs : ∀ k env s, k < n → I k env s → @AtS xd (b (env.set i (.val (.int (k : Int))))) s (I (k + 1)) T) : @AtS xd (forGo (gN i) b ((List.range n).map fun (i : Nat) => D.int i) env) s (I n) T := by
  have q := atS_for (T := T) (g := gN i) (b := b) I ((List.range n).map fun (i : Nat) => D.int i) 0 env s h fun k d env s hk hI => by
    obtain ⟨hlt, rfl⟩ := range_at hk
    rw [Nat.zero_add] at hI ⊢
    exact ⟨_, gN_ap, hs k env s hlt hI⟩
  rw [Nat.zero_add, List.length_map, List.length_range] at q
  exact q
end
theorem trueAt {r : R D} {s : Sto} (h : @At x0 _ r s fun d _ => d = .bl true) : TrueAt (r s) := by
  unfold At at h
  cases q : r s with
  | ok d t => rw [q] at h; exact ⟨t, by rw [h]⟩
  | exc _ _ _ => rw [q] at h; exact h.elim
  | bad => rw [q] at h; exact h.elim
end Dm
set_option Elab.async false
set_option linter.all false
set_option checkBinderAnnotations false
set_option maxRecDepth 100000
set_option maxHeartbeats 4000000
/-! Do: steps over cells and objects, for simp: each step is an equation whatever the store is. -/
namespace Dm
open PySem L2
def celI (o : Option Cell) (c : Nat) [k : List D → Prop] : Prop := match o with
  | some (.ins c2 ds) => if c2 = c then k ds else False
  | _ => False
def celL (o : Option Cell) [k : List D → Prop] : Prop := match o with
  | some (.lst xs) => k xs
  | _ => False
def celK (o : Option Cell) [k : List (Key × D) → Prop] : Prop := match o with
  | some (.dct xs) => k xs
  | _ => False
def optP {α : Type} (o : Option α) [k : α → Prop] : Prop := match o with
  | some a => k a
  | none => False
theorem celI_i {c c2 : Nat} {ds : List D} {k : List D → Prop} : @celI (some (.ins c2 ds)) c k = if c2 = c then k ds else False := (rfl)
theorem celL_l {ds : List D} {k : List D → Prop} : @celL (some (.lst ds)) k = k ds := (rfl)
theorem celK_k {ds : List (Key × D)} {k : List (Key × D) → Prop} : @celK (some (.dct ds)) k = k ds := (rfl)
theorem optP_s {α : Type} {a : α} {k : α → Prop} : @optP _ (some a) k = k a := (rfl)
section
variable {xc : XC} {xd : XS} {α β : Type} {r : R α} {s : Sto} {P : D → Sto → Prop} {PU : Unit → Sto → Prop} {PL : List D → Sto → Prop} {env : Dm.Env} {c i n : Nat} {d x y : D} {xs ys : List D} {a b o k e : SE} {la : SA} {p : SS}
def rsA [X : XC] {α : Type} (z : Rs α) [P : α → Sto → Prop] : Prop := match z with
  | .ok a t => P a t
  | .exc c fs t => X c fs t
  | .bad => False
theorem rs_ok {PA : α → Sto → Prop} {a : α} {t : Sto} : @rsA xc _ (Rs.ok a t : Rs α) PA = PA a t := (rfl)
theorem rs_bad {PA : α → Sto → Prop} : @rsA xc _ (Rs.bad : Rs α) PA = False := (rfl)
theorem at_onI' {PA : α → Sto → Prop} {f : List D → Sto → Rs α} : @At xc _ (onI c n f) s PA = @celI s[n]? c fun ds => @rsA xc _ (f ds s) PA := by
  unfold At onI celI
  cases h : s[n]? with
  | none => rfl
  | some z =>
    cases z with
    | ins c2 ds =>
      dsimp only
      by_cases e : c2 = c
      · rw [if_pos e, if_pos e]
        rfl
      · rw [if_neg e, if_neg e]
    | lst _ => rfl
    | dct _ => rfl
theorem at_onL' {PA : α → Sto → Prop} {f : List D → Sto → Rs α} : @At xc _ (onL n f) s PA = @celL s[n]? fun ds => @rsA xc _ (f ds s) PA := by
  unfold At onL celL
  cases h : s[n]? with
  | none => rfl
  | some z => cases z <;> rfl
theorem at_onK' {PA : α → Sto → Prop} {f : List (Key × D) → Sto → Rs α} : @At xc _ (onK n f) s PA = @celK s[n]? fun ds => @rsA xc _ (f ds s) PA := by
  unfold At onK celK
  cases h : s[n]? with
  | none => rfl
  | some z => cases z <;> rfl
theorem rs_oR {PA : β → Sto → Prop} {o : Option α} {k : α → Rs β} : @rsA xc _ (oR o k) PA = @optP _ o fun a => @rsA xc _ (k a) PA := by
  cases o with
  | none => exact rs_bad
  | some a => rfl
theorem rs_if {PA : α → Sto → Prop} {q : Prop} [Decidable q] {x y : Rs α} : @rsA xc _ (if q then x else y) PA = if q then @rsA xc _ x PA else @rsA xc _ y PA := by split <;> rfl
/-! instances -/
theorem at_fld : @At xc _ (dFld c i (.mref n)) s P = @celI s[n]? c fun ds => @optP _ ds[i]? fun d => P d s := by
  show @At xc _ (cFld c i n) s P = _
  unfold cFld
  simp only [at_onI', rs_oR, rs_ok]
theorem at_put : @At xc _ (putM c i (.mref n) d) s PU = @celI s[n]? c fun ds => if i < ds.length then PU () (s.set n (.ins c (ds.set i d))) else if i = ds.length then PU () (s.set n (.ins c (ds ++ [d]))) else False := by
  show @At xc _ (cPut c i n d) s PU = _
  unfold cPut
  simp only [at_onI', rs_if, rs_ok, rs_bad]
theorem at_isI : @At xc _ (isI c (.mref n)) s PU = @celI s[n]? c fun _ => PU () s := by
  show @At xc _ (onI c n fun _ s => Rs.ok () s) s PU = _
  simp only [at_onI', rs_ok]
theorem sq_fd : sSeq (sFd c i o e) p env = ofE (e env) env fun d => ofE (o env) env fun x => ofE (putM c i x d) env fun _ => p env := by
  unfold sSeq sFd
  rw [thenS_ofE]
  congr 1
  funext d
  rw [thenS_ofE]
  congr 1
  funext x
  rw [thenS_ofE]
  rfl
theorem sq_fdAug {f : D → D → R D} : sSeq (sFdAug c i f o e) p env = ofE (o env) env fun x => ofE (dFld c i x) env fun v => ofE (e env) env fun y => ofE (f v y) env fun z => ofE (putM c i x z) env fun _ => p env := by
  unfold sSeq sFdAug
  rw [thenS_ofE]
  congr 1
  funext d
  rw [thenS_ofE]
  congr 1
  funext x
  rw [thenS_ofE]
  congr 1
  funext y
  rw [thenS_ofE]
  congr 1
  funext z
  rw [thenS_ofE]
  rfl
theorem ap_meth {m : List D → R D} : eMeth c m o la env = (o env).bind fun x => (isI c x).bind fun _ => (la env).bind fun xs => m (x :: xs) := (rfl)
theorem ap_lmeth {m : List D → R (List D)} : lMeth c m o la env = (o env).bind fun x => (isI c x).bind fun _ => (la env).bind fun xs => m (x :: xs) := (rfl)
theorem ap_make {m : List D → R D} : eMake c m la env = (la env).bind fun ds => mkI c m ds := (rfl)
theorem ap_makeK {m : List D → R D} {g : List D → List D} : eMakeK c n m g la env = (la env).bind fun ds => if ds.length = n then mkI c m (g ds) else .bad := (rfl)
theorem at_noX {PA : α → Sto → Prop} : @At xc _ (noX r) s PA = @At x0 _ r s PA := by
  unfold At noX
  cases h : r s <;> rfl
theorem at_isNon : @At xc _ (isNon d) s PU = (d = .non ∧ PU () s) := by
  cases d with
  | non => exact (at_ok (xc := xc) (a := ()) (s := s) (P := PU)).trans (by simp)
  | _ => exact (at_bad (xc := xc) (s := s) (P := PU)).trans (by simp)
theorem at_mkI {m : List D → R D} {ds : List D} : @At xc _ (mkI c m ds) s P = @At xc _ (m (.mref s.length :: ds)) (s ++ [.ins c []]) fun d s2 => d = .non ∧ P (.mref s.length) s2 := by
  unfold mkI
  simp only [at_bind, at_cNew, at_isNon, at_ok]
/-! lists -/
theorem at_ix {i : Int} : @At xc _ (cIx n i) s P = @celL s[n]? fun xs => @optP _ (atI xs i) fun d => P d s := by
  unfold cIx
  simp only [at_onL', rs_oR, rs_ok]
theorem at_clen : @At xc _ (cLen n) s P = @celL s[n]? fun xs => P (.int xs.length) s := by
  unfold cLen
  simp only [at_onL', rs_ok]
theorem at_app : @At xc _ (cApp n d) s PU = @celL s[n]? fun xs => if xs.length < 100000 then PU () (s.set n (.lst (xs ++ [d]))) else False := by
  unfold cApp
  simp only [at_onL', rs_if, rs_ok, rs_bad]
theorem at_apps : @At xc _ (cApps n ys) s PU = @celL s[n]? fun xs => if xs.length + ys.length ≤ 100000 then PU () (s.set n (.lst (xs ++ ys))) else False := by
  unfold cApps
  simp only [at_onL', rs_if, rs_ok, rs_bad]
theorem at_popL : @At xc _ (cPopL n) s P = @celL s[n]? fun xs => @optP _ xs[xs.length - 1]? fun d => P d (s.set n (.lst xs.dropLast)) := by
  unfold cPopL
  simp only [at_onL', rs_oR, rs_ok]
theorem at_set {j : Int} : @At xc _ (cSet n j d) s PU = @celL s[n]? fun xs => @optP _ (ixN xs.length j) fun k => PU () (s.set n (.lst (xs.set k d))) := by
  unfold cSet
  simp only [at_onL', rs_oR, rs_ok]
theorem at_cl : @At xc _ (isCL (.mref n)) s PU = @celL s[n]? fun _ => PU () s := by
  show @At xc _ (onL n fun _ s => Rs.ok () s) s PU = _
  simp only [at_onL', rs_ok]
theorem at_tupm : @At xc _ (fTuple [.mref n]) s P = @celL s[n]? fun xs => P (.tup xs) s := by
  show @At xc _ (onL n fun xs s => Rs.ok (.tup xs) s) s P = _
  simp only [at_onL', rs_ok]
theorem at_listm : @At xc _ (fList [.mref n]) s PL = @celL s[n]? fun xs => PL xs s := by
  show @At xc _ (onL n fun xs s => Rs.ok xs s) s PL = _
  simp only [at_onL', rs_ok]
theorem tup_k : fTuple [.ktp xs] = .ok (.tup xs) := (rfl)
theorem list_k : fList [.ktp xs] = .ok xs := (rfl)
theorem ap_MM0 {f : D → List D → R D} : eMM0 f o env = (o env).bind fun x => (isCL x).bind fun _ => f x [] := (rfl)
theorem mpop_m : mPop (.mref n) [] = cPopL n := (rfl)
theorem mext_l : mExt (.mref n) [.lst ys] = (cApps n ys).bind fun _ => .ok .non := (rfl)
theorem at_extm {m : Nat} : @At xc _ (mExt (.mref n) [.mref m]) s P = @celL s[m]? fun ys => @At xc _ ((cApps n ys).bind fun _ => R.ok D.non) s P := by
  show @At xc _ (onL m fun ys s => ((cApps n ys).bind fun _ => R.ok D.non) s) s P = _
  rw [at_onL']
  rfl
theorem at_rdm : @At xc _ (rdL (.mref n)) s PL = @celL s[n]? fun xs => PL xs s := by
  show @At xc _ (onL n fun xs s => Rs.ok xs s) s PL = _
  simp only [at_onL', rs_ok]
theorem rdL_l : rdL (.lst xs) = .ok xs := (rfl)
theorem at_rwm : @At xc _ (rdW (.mref n)) s PL = @celL s[n]? fun xs => PL xs s := by
  show @At xc _ (onL n fun xs s => Rs.ok xs s) s PL = _
  simp only [at_onL', rs_ok]
theorem rdW_l : rdW (.lst xs) = .ok xs := (rfl)
theorem ap_catM : lCatM a b env = (a env).bind fun x => (b env).bind fun y => (rdW x).bind fun xs => (rdW y).bind fun ys => if xs.length + ys.length ≤ 100000 then .ok (xs ++ ys) else .bad := (rfl)
theorem ap_slM {lo hi : Env → R (Option Int)} : lSlM o lo hi env = (o env).bind fun x => (lo env).bind fun l => (hi env).bind fun h => (rdL x).bind fun xs => .ok (cutG xs l h) := (rfl)
theorem ap_inM : dInM x y = (rdL y).bind fun xs => if (flatD x && xs.all flatD) = true then .ok (.bl (inD x xs)) else .bad := (rfl)
theorem ap_ninM : dNotInM x y = (dInM x y).bind dNot := (rfl)
theorem at_eqS : @At xc _ (dEqS x y) s P = @At xc _ (dEq (x.res s 64) (y.res s 64)) s P := (rfl)
theorem ap_neS : dNeS x y = (dEqS x y).bind dNot := (rfl)
/-! dicts -/
theorem ap_dnew : eDNew env = cNew (.dct []) := (rfl)
theorem at_gget : @At xc _ (gGet (.mref n) y) s P = @celK s[n]? fun kvs => @optP _ (keyD y) fun k => @optP _ (valG kvs k) fun d => P d s := by
  show @At xc _ (kGet n y) s P = _
  unfold kGet
  simp only [at_onK', rs_oR, rs_ok]
theorem at_gin : @At xc _ (gIn y (.mref n)) s P = @celK s[n]? fun kvs => @optP _ (keyD y) fun k => P (.bl (valG kvs k).isSome) s := by
  have e : gIn y (.mref n) = kIn n y := by cases y <;> rfl
  rw [e]
  unfold kIn
  simp only [at_onK', rs_oR, rs_ok]
theorem ap_gnin : gNotIn x y = (gIn x y).bind dNot := (rfl)
theorem at_isK : @At xc _ (isK (.mref n)) s PU = @celK s[n]? fun _ => PU () s := by
  show @At xc _ (onK n fun _ s => Rs.ok () s) s PU = _
  simp only [at_onK', rs_ok]
theorem at_gget2 {z : D} : @At xc _ (gGet2 (.mref n) y z) s P = @celK s[n]? fun kvs => @optP _ (keyD y) fun k => P ((valG kvs k).getD z) s := by
  show @At xc _ (kGet2 n y z) s P = _
  unfold kGet2
  simp only [at_onK', rs_oR, rs_ok]
theorem at_gput : @At xc _ (gPut (.mref n) y d) s PU = @celK s[n]? fun kvs => @optP _ (keyD y) fun k => if kvs.length < 100000 then PU () (s.set n (.dct (putG kvs k d))) else False := by
  show @At xc _ (kPut n y d) s PU = _
  unfold kPut
  simp only [at_onK', rs_oR, rs_if, rs_ok, rs_bad]
theorem at_gdel : @At xc _ (gDel (.mref n) y) s PU = @celK s[n]? fun kvs => @optP _ (keyD y) fun k => if (valG kvs k).isSome = true then PU () (s.set n (.dct (dropG kvs k))) else False := by
  show @At xc _ (kDel n y) s PU = _
  unfold kDel
  simp only [at_onK', rs_oR, rs_if, rs_ok, rs_bad]
theorem ap_get2 : eGet2 o k e env = (o env).bind fun d => (isK d).bind fun _ => (k env).bind fun y => (e env).bind fun z => gGet2 d y z := (rfl)
theorem ap_get1 : eGet1 o k env = (o env).bind fun d => (isK d).bind fun _ => (k env).bind fun y => gGet2 d y .non := (rfl)
theorem sq_kput : sSeq (sKPut o k e) p env = ofE (e env) env fun d => ofE (o env) env fun x => ofE (k env) env fun y => ofE (gPut x y d) env fun _ => p env := by
  unfold sSeq sKPut
  rw [thenS_ofE]
  congr 1
  funext d
  rw [thenS_ofE]
  congr 1
  funext x
  rw [thenS_ofE]
  congr 1
  funext y
  rw [thenS_ofE]
  rfl
theorem sq_kdel : sSeq (sKDel o k) p env = ofE (o env) env fun x => ofE (k env) env fun y => ofE (gDel x y) env fun _ => p env := by
  unfold sSeq sKDel
  rw [thenS_ofE]
  congr 1
  funext d
  rw [thenS_ofE]
  congr 1
  funext x
  rw [thenS_ofE]
  rfl
theorem key_i {i : Int} : keyD (.int i) = some (.inl i) := (rfl)
theorem key_s {z : Str} : keyD (.str z) = some (.inr z) := (rfl)
/-! walks over cells, turn by turn (not among the steps: by hand) -/
def srcP (o : Option (Option D)) (p : Prop) (k : D → Prop) : Prop := match o with
  | none => False
  | some none => p
  | some (some d) => k d
theorem srcP_n {p : Prop} {k : D → Prop} : srcP (some none) p k = p := (rfl)
theorem srcP_s {p : Prop} {k : D → Prop} : srcP (some (some d)) p k = k d := (rfl)
theorem srcL_at : srcL n i s = (match s[n]? with
  | some (.lst xs) => some xs[i]?
  | _ => none) := (rfl)
theorem sq_forM {it : Env → R Src} {g : SG} {b : SS} : sSeq (sForM it g b) p env = ofE (it env) env fun src => thenS (forMGo src g b 100001 0 env) p := by
  unfold sSeq sForM
  exact thenS_ofE
theorem ap_lcM {it : Env → R Src} {g : SG} {t : ST} {e : SE} {vs : List Nat} : lLcM it g t e vs env = (it env).bind fun src => lcMGo src g t e (wipeS env vs) 40001 0 [] := (rfl)
def mLof : D → R Src
  | .mref n => onL n fun _ s => Rs.ok (srcL n) s
  | _ => .bad
theorem ap_mL' : mL o env = (o env).bind mLof := by
  unfold mL
  first
  | rfl
  | (congr 1
     funext x
     cases x <;> rfl)
theorem at_mL {PS : Src → Sto → Prop} : @At xc _ (mLof (.mref n)) s PS = @celL s[n]? fun _ => PS (srcL n) s := by
  show @At xc _ (onL n fun _ s => Rs.ok (srcL n) s) s PS = _
  simp only [at_onL', rs_ok]
theorem at_lcM {src : Src} {g : SG} {t : ST} {e : SE} {q : Nat} {acc : List D} : @At xc _ (lcMGo src g t e env (q + 1) i acc) s PL = srcP (src i s) (PL acc s) fun d => @optP _ (g d env) fun env2 => @At x0 _ (t env2) s fun k s1 => if k = true then @At x0 _ (e env2) s1 fun x s2 => @At xc _ (lcMGo src g t e env q (i + 1) (acc ++ [x])) s2 PL else @At xc _ (lcMGo src g t e env q (i + 1) acc) s1 PL := by
  have e0 : @At xc _ (lcMGo src g t e env (q + 1) i acc) s PL = @rsA xc _ (match src i s with
    | none => Rs.bad
    | some none => Rs.ok acc s
    | some (some d) => match g d env with
      | some env2 => ((noX (t env2)).bind fun k => if k = true then (noX (e env2)).bind fun x => lcMGo src g t e env q (i + 1) (acc ++ [x]) else lcMGo src g t e env q (i + 1) acc) s
      | none => Rs.bad) PL := rfl
  rw [e0]
  cases src i s with
  | none => rfl
  | some z =>
    cases z with
    | none => rfl
    | some d =>
      unfold srcP
      dsimp only
      cases g d env with
      | none => rfl
      | some env2 =>
        rw [optP_s]
        show @At xc _ ((noX (t env2)).bind _) s PL = _
        simp only [at_bind, at_noX, at_ite]
/-! walks over lists that are written out, turn by turn -/
theorem wp_nil : wipeS env [] = env := (rfl)
theorem wp_cons {v : Nat} {vs : List Nat} : wipeS env (v :: vs) = (wipeS env vs).set v .un := (rfl)
theorem at_lLc {it : SA} {g : SG} {t : ST} {e : SE} {vs : List Nat} : @At xc _ (lLc it g t e vs env) s PL = @At xc _ (it env) s fun ds s1 => if ds.length ≤ 40000 then @At xc _ (lcGo g t e (wipeS env vs) ds []) s1 PL else False := by
  show @At xc _ ((it env).bind _) s PL = _
  simp only [at_bind, at_ite, at_bad]
theorem at_lc_nil {g : SG} {t : ST} {e : SE} {acc : List D} : @At xc _ (lcGo g t e env [] acc) s PL = PL acc s := at_ok
theorem at_lc_cons {g : SG} {t : ST} {e : SE} {acc ds : List D} : @At xc _ (lcGo g t e env (d :: ds) acc) s PL = @optP _ (g d env) fun env2 => @At x0 _ (t env2) s fun k s1 => if k = true then @At x0 _ (e env2) s1 fun x s2 => @At xc _ (lcGo g t e env ds (acc ++ [x])) s2 PL else @At xc _ (lcGo g t e env ds acc) s1 PL := by
  have e0 : lcGo g t e env (d :: ds) acc = match g d env with
    | some env2 => (noX (t env2)).bind fun k => if k = true then (noX (e env2)).bind fun x => lcGo g t e env ds (acc ++ [x]) else lcGo g t e env ds acc
    | none => .bad := rfl
  rw [e0]
  cases g d env with
  | none => exact at_bad
  | some env2 =>
    rw [optP_s]
    show @At xc _ ((noX (t env2)).bind _) s PL = _
    simp only [at_bind, at_noX, at_ite]
section
variable {N : Dm.Env → Sto → Prop} {T : Sl → Sto → Prop} {g : SG} {b : SS} {kk : Dm.Env → RS} {w : RS} {ds : List D}
theorem atS_for_nil : @AtS xd (forGo g b [] env) s N T = N env s := atS_nx
theorem atS_for_cons : @AtS xd (forGo g b (d :: ds) env) s N T = @optP _ (g d env) fun e2 => @AtS xd (thenW (b e2) (forGo g b ds)) s N T := by
  conv => lhs; unfold forGo ofG
  cases g d env with
  | none => exact atS_bad
  | some e2 => rfl
theorem atS_W_ofE {r : R α} {k : α → RS} : @AtS xd (thenW (ofE r env k) kk) s N T = @At (fun c fs t => xd c fs env t) _ r s fun a s1 => @AtS xd (thenW (k a) kk) s1 N T := by
  have e : thenW (ofE r env k) kk = ofE r env fun a => thenW (k a) kk := by
    funext s
    unfold thenW turnS ofE
    cases r s <;> rfl
  rw [e, atS_ofE]
theorem atS_W_ite {c : Prop} [Decidable c] {x y : RS} : @AtS xd (thenW (if c then x else y) kk) s N T = if c then @AtS xd (thenW x kk) s N T else @AtS xd (thenW y kk) s N T := by split <;> rfl
/-- what a piece does, then: the ways on -/
def wpR (X : XS) (N B C : Dm.Env → Sto → Prop) (T : Sl → Sto → Prop) (r : RSr) : Prop := match r with
  | .nx e t => N e t
  | .bk e t => B e t
  | .ct e t => C e t
  | .rt v t => T v t
  | .exc c fs e t => X c fs e t
  | .bad => False
def AtW [X : XS] (r : RS) (s : Sto) [N : Dm.Env → Sto → Prop] [B : Dm.Env → Sto → Prop] [C : Dm.Env → Sto → Prop] [T : Sl → Sto → Prop] : Prop := wpR X N B C T (r s)
theorem wp_ifB {X : XS} {N B C : Dm.Env → Sto → Prop} {T : Sl → Sto → Prop} {b : Bool} {r : RSr} : wpR X N B C T (ifB b r) = (b = true ∧ wpR X N B C T r) := by
  unfold ifB
  cases b with
  | true => simp
  | false => simp [wpR]
theorem atS_W : @AtS xd (thenW w kk) s N T = @AtW xd w s (fun e t => @AtS xd (kk e) t N T) N (fun e t => @AtS xd (kk e) t N T) T := by
  unfold AtS thenW turnS AtW
  cases w s <;> rfl
variable {B C : Dm.Env → Sto → Prop}
theorem atW_nx {e : Dm.Env} : @AtW xd (.nx e) s N B C T = N e s := (rfl)
theorem atW_bk {e : Dm.Env} : @AtW xd (.bk e) s N B C T = B e s := (rfl)
theorem atW_ct {e : Dm.Env} : @AtW xd (.ct e) s N B C T = C e s := (rfl)
theorem atW_rt {v : Sl} : @AtW xd (.rt v) s N B C T = T v s := (rfl)
theorem atW_exc {c : Nat} {fs : List (Str × D)} {e : Dm.Env} : @AtW xd (.exc c fs e) s N B C T = xd c fs e s := (rfl)
theorem atW_bad : @AtW xd .bad s N B C T = False := (rfl)
theorem atW_ite {c : Prop} [Decidable c] {x y : RS} : @AtW xd (if c then x else y) s N B C T = if c then @AtW xd x s N B C T else @AtW xd y s N B C T := by split <;> rfl
theorem atW_ofE {r : R α} {k : α → RS} : @AtW xd (ofE r env k) s N B C T = @At (fun c fs t => xd c fs env t) _ r s fun a s1 => @AtW xd (k a) s1 N B C T := by
  unfold AtW ofE At
  cases r s <;> rfl
theorem atW_W {w : RS} {kk : Dm.Env → RS} : @AtW xd (thenW w kk) s N B C T = @AtW xd w s (fun e t => @AtW xd (kk e) t N B C T) N (fun e t => @AtW xd (kk e) t N B C T) T := by
  unfold AtW thenW turnS
  cases w s <;> rfl
theorem atW_for_nil {env : Dm.Env} {g : SG} {b : SS} : @AtW xd (forGo g b [] env) s N B C T = N env s := (rfl)
theorem atW_for_cons {env : Dm.Env} {g : SG} {b : SS} {d : D} {ds : List D} : @AtW xd (forGo g b (d :: ds) env) s N B C T = @optP _ (g d env) fun e2 => @AtW xd (b e2) s (fun e t => @AtW xd (forGo g b ds e) t N B C T) N (fun e t => @AtW xd (forGo g b ds e) t N B C T) T := by
  conv => lhs; unfold forGo ofG
  cases g d env with
  | none => rfl
  | some e2 => exact atW_W
theorem atW_then {p : SS} : @AtW xd (thenS w p) s N B C T = @AtW xd w s (fun e t => @AtW xd (p e) t N B C T) B C T := by
  unfold AtW thenS thenR
  cases w s <;> rfl
theorem atS_atW : @AtS xd w s N T = @AtW xd w s N (fun _ _ => False) (fun _ _ => False) T := by
  unfold AtS AtW
  cases w s <;> rfl
/-! try -/
def hdP (o : Option Bool) (p q : Prop) : Prop := match o with
  | some true => p
  | some false => q
  | none => False
theorem hdP_t {p q : Prop} : hdP (some true) p q = p := (rfl)
theorem hdP_f {p q : Prop} : hdP (some false) p q = q := (rfl)
/-- the way on of what a try's body raises -/
def xTry (hs : List Hd) [X : XS] [N : Dm.Env → Sto → Prop] [B : Dm.Env → Sto → Prop] [C : Dm.Env → Sto → Prop] [T : Sl → Sto → Prop] (c : Nat) (fs : List (Str × D)) (e : Dm.Env) (t : Sto) : Prop := match hs with
  | [] => X c fs e t
  | (i, cs, h) :: r => hdP (cs c) (noExn e = true ∧ @AtW y0 (h (putU e c fs i)) t (fun e3 t3 => noExn (dropU e3 i) = true ∧ N (dropU e3 i) t3) (fun e3 t3 => noExn (dropU e3 i) = true ∧ B (dropU e3 i) t3) (fun e3 t3 => noExn (dropU e3 i) = true ∧ C (dropU e3 i) t3) T) (@xTry r X N B C T c fs e t)
theorem xTry_nil {c : Nat} {fs : List (Str × D)} {e : Dm.Env} {t : Sto} : @xTry [] xd N B C T c fs e t = xd c fs e t := (rfl)
theorem xTry_cons {i : Option Nat} {cs : Nat → Option Bool} {h : SS} {r : List Hd} {c : Nat} {fs : List (Str × D)} {e : Dm.Env} {t : Sto} : @xTry ((i, cs, h) :: r) xd N B C T c fs e t = hdP (cs c) (noExn e = true ∧ @AtW y0 (h (putU e c fs i)) t (fun e3 t3 => noExn (dropU e3 i) = true ∧ N (dropU e3 i) t3) (fun e3 t3 => noExn (dropU e3 i) = true ∧ B (dropU e3 i) t3) (fun e3 t3 => noExn (dropU e3 i) = true ∧ C (dropU e3 i) t3) T) (@xTry r xd N B C T c fs e t) := (rfl)
theorem hds_W {c : Nat} {fs : List (Str × D)} {e : Dm.Env} {t : Sto} : ∀ hs : List Hd, wpR xd N B C T (hdsR c fs e t hs) = @xTry hs xd N B C T c fs e t
  | [] => rfl
  | (i, cs, h) :: r => by
    have ih := hds_W (c := c) (fs := fs) (e := e) (t := t) r
    rw [xTry_cons, ← ih]
    have e0 : hdsR c fs e t ((i, cs, h) :: r) = match cs c with
      | some true => ifB (noExn e) (outU i (h (putU e c fs i) t))
      | some false => hdsR c fs e t r
      | none => .bad := rfl
    rw [e0]
    cases cs c with
    | none => rfl
    | some k =>
      cases k with
      | false => rfl
      | true =>
        dsimp only
        rw [wp_ifB, hdP_t]
        congr 1
        unfold AtW outU
        cases h (putU e c fs i) t with
        | nx e3 t3 => exact wp_ifB
        | bk e3 t3 => exact wp_ifB
        | ct e3 t3 => exact wp_ifB
        | _ => rfl
theorem atW_tryN {b : SS} {hs : List Hd} : @AtW xd (sTryN b hs env) s N B C T = @AtW (@xTry hs xd N B C T) (b env) s N B C T := by
  show wpR xd N B C T (tryN (b env s) hs) = wpR (@xTry hs xd N B C T) N B C T (b env s)
  cases b env s with
  | exc c fs e t => exact hds_W hs
  | _ => rfl
theorem atS_tryN {b : SS} {hs : List Hd} : @AtS xd (sTryN b hs env) s N T = @AtS (@xTry hs xd N (fun _ _ => False) (fun _ _ => False) T) (b env) s N T := by
  rw [atS_atW, atW_tryN, ← atS_atW]
/-- one clause with a name -/
theorem try1 {b h : SS} {i : Nat} {cs : Nat → Option Bool} : sTry b i cs h env = sTryN b [(some i, cs, h)] env := by
  funext s
  unfold sTry sTryN tryR tryN
  cases b env s with
  | exc c fs e t =>
    dsimp only
    unfold hdsR
    cases cs c with
    | none => rfl
    | some k =>
      cases k with
      | false => rfl
      | true =>
        dsimp only
        unfold putU outU
        dsimp only
        cases h (e.set i (.exn c fs)) t <;> rfl
  | _ => rfl
end
end
/-! items of lists that are written out -/
theorem atI_0 {a0 : D} {xs : List D} : atI (a0 :: xs) 0 = some a0 := by
  unfold atI ixN
  rw [if_pos (by decide), if_pos (by simp only [List.length_cons]; omega)]
  rfl
theorem ixL_0 {a0 : D} {xs : List D} : ixL (a0 :: xs) 0 = .ok a0 := by
  unfold ixL
  rw [atI_0]
theorem atI_1 {a0 b0 : D} {xs : List D} : atI (a0 :: b0 :: xs) 1 = some b0 := by
  unfold atI ixN
  rw [if_pos (by decide), if_pos (by simp only [List.length_cons]; omega)]
  rfl
theorem ixL_1 {a0 b0 : D} {xs : List D} : ixL (a0 :: b0 :: xs) 1 = .ok b0 := by
  unfold ixL
  rw [atI_1]
theorem atI_2 {a0 b0 c0 : D} {xs : List D} : atI (a0 :: b0 :: c0 :: xs) 2 = some c0 := by
  unfold atI ixN
  rw [if_pos (by decide), if_pos (by simp only [List.length_cons]; omega)]
  rfl
theorem ixL_2 {a0 b0 c0 : D} {xs : List D} : ixL (a0 :: b0 :: c0 :: xs) 2 = .ok c0 := by
  unfold ixL
  rw [atI_2]
theorem atI_3 {a0 b0 c0 d0 : D} {xs : List D} : atI (a0 :: b0 :: c0 :: d0 :: xs) 3 = some d0 := by
  unfold atI ixN
  rw [if_pos (by decide), if_pos (by simp only [List.length_cons]; omega)]
  rfl
theorem ixL_3 {a0 b0 c0 d0 : D} {xs : List D} : ixL (a0 :: b0 :: c0 :: d0 :: xs) 3 = .ok d0 := by
  unfold ixL
  rw [atI_3]
theorem atI_4 {a0 b0 c0 d0 e0 : D} {xs : List D} : atI (a0 :: b0 :: c0 :: d0 :: e0 :: xs) 4 = some e0 := by
  unfold atI ixN
  rw [if_pos (by decide), if_pos (by simp only [List.length_cons]; omega)]
  rfl
theorem ixL_4 {a0 b0 c0 d0 e0 : D} {xs : List D} : ixL (a0 :: b0 :: c0 :: d0 :: e0 :: xs) 4 = .ok e0 := by
  unfold ixL
  rw [atI_4]
theorem atI_5 {a0 b0 c0 d0 e0 f0 : D} {xs : List D} : atI (a0 :: b0 :: c0 :: d0 :: e0 :: f0 :: xs) 5 = some f0 := by
  unfold atI ixN
  rw [if_pos (by decide), if_pos (by simp only [List.length_cons]; omega)]
  rfl
theorem ixL_5 {a0 b0 c0 d0 e0 f0 : D} {xs : List D} : ixL (a0 :: b0 :: c0 :: d0 :: e0 :: f0 :: xs) 5 = .ok f0 := by
  unfold ixL
  rw [atI_5]
theorem atI_6 {a0 b0 c0 d0 e0 f0 g0 : D} {xs : List D} : atI (a0 :: b0 :: c0 :: d0 :: e0 :: f0 :: g0 :: xs) 6 = some g0 := by
  unfold atI ixN
  rw [if_pos (by decide), if_pos (by simp only [List.length_cons]; omega)]
  rfl
theorem ixL_6 {a0 b0 c0 d0 e0 f0 g0 : D} {xs : List D} : ixL (a0 :: b0 :: c0 :: d0 :: e0 :: f0 :: g0 :: xs) 6 = .ok g0 := by
  unfold ixL
  rw [atI_6]
theorem atI_7 {a0 b0 c0 d0 e0 f0 g0 h0 : D} {xs : List D} : atI (a0 :: b0 :: c0 :: d0 :: e0 :: f0 :: g0 :: h0 :: xs) 7 = some h0 := by
  unfold atI ixN
  rw [if_pos (by decide), if_pos (by simp only [List.length_cons]; omega)]
  rfl
theorem ixL_7 {a0 b0 c0 d0 e0 f0 g0 h0 : D} {xs : List D} : ixL (a0 :: b0 :: c0 :: d0 :: e0 :: f0 :: g0 :: h0 :: xs) 7 = .ok h0 := by
  unfold ixL
  rw [atI_7]
theorem atI_8 {a0 b0 c0 d0 e0 f0 g0 h0 i0 : D} {xs : List D} : atI (a0 :: b0 :: c0 :: d0 :: e0 :: f0 :: g0 :: h0 :: i0 :: xs) 8 = some i0 := by
  unfold atI ixN
  rw [if_pos (by decide), if_pos (by simp only [List.length_cons]; omega)]
  rfl
theorem ixL_8 {a0 b0 c0 d0 e0 f0 g0 h0 i0 : D} {xs : List D} : ixL (a0 :: b0 :: c0 :: d0 :: e0 :: f0 :: g0 :: h0 :: i0 :: xs) 8 = .ok i0 := by
  unfold ixL
  rw [atI_8]
theorem atI_9 {a0 b0 c0 d0 e0 f0 g0 h0 i0 j0 : D} {xs : List D} : atI (a0 :: b0 :: c0 :: d0 :: e0 :: f0 :: g0 :: h0 :: i0 :: j0 :: xs) 9 = some j0 := by
  unfold atI ixN
  rw [if_pos (by decide), if_pos (by simp only [List.length_cons]; omega)]
  rfl
theorem ixL_9 {a0 b0 c0 d0 e0 f0 g0 h0 i0 j0 : D} {xs : List D} : ixL (a0 :: b0 :: c0 :: d0 :: e0 :: f0 :: g0 :: h0 :: i0 :: j0 :: xs) 9 = .ok j0 := by
  unfold ixL
  rw [atI_9]
theorem atI_10 {a0 b0 c0 d0 e0 f0 g0 h0 i0 j0 k0 : D} {xs : List D} : atI (a0 :: b0 :: c0 :: d0 :: e0 :: f0 :: g0 :: h0 :: i0 :: j0 :: k0 :: xs) 10 = some k0 := by
  unfold atI ixN
  rw [if_pos (by decide), if_pos (by simp only [List.length_cons]; omega)]
  rfl
theorem ixL_10 {a0 b0 c0 d0 e0 f0 g0 h0 i0 j0 k0 : D} {xs : List D} : ixL (a0 :: b0 :: c0 :: d0 :: e0 :: f0 :: g0 :: h0 :: i0 :: j0 :: k0 :: xs) 10 = .ok k0 := by
  unfold ixL
  rw [atI_10]
theorem atI_11 {a0 b0 c0 d0 e0 f0 g0 h0 i0 j0 k0 l0 : D} {xs : List D} : atI (a0 :: b0 :: c0 :: d0 :: e0 :: f0 :: g0 :: h0 :: i0 :: j0 :: k0 :: l0 :: xs) 11 = some l0 := by
  unfold atI ixN
  rw [if_pos (by decide), if_pos (by simp only [List.length_cons]; omega)]
  rfl
theorem ixL_11 {a0 b0 c0 d0 e0 f0 g0 h0 i0 j0 k0 l0 : D} {xs : List D} : ixL (a0 :: b0 :: c0 :: d0 :: e0 :: f0 :: g0 :: h0 :: i0 :: j0 :: k0 :: l0 :: xs) 11 = .ok l0 := by
  unfold ixL
  rw [atI_11]
theorem atI_12 {a0 b0 c0 d0 e0 f0 g0 h0 i0 j0 k0 l0 m0 : D} {xs : List D} : atI (a0 :: b0 :: c0 :: d0 :: e0 :: f0 :: g0 :: h0 :: i0 :: j0 :: k0 :: l0 :: m0 :: xs) 12 = some m0 := by
  unfold atI ixN
  rw [if_pos (by decide), if_pos (by simp only [List.length_cons]; omega)]
  rfl
theorem ixL_12 {a0 b0 c0 d0 e0 f0 g0 h0 i0 j0 k0 l0 m0 : D} {xs : List D} : ixL (a0 :: b0 :: c0 :: d0 :: e0 :: f0 :: g0 :: h0 :: i0 :: j0 :: k0 :: l0 :: m0 :: xs) 12 = .ok m0 := by
  unfold ixL
  rw [atI_12]
theorem atI_m1 {a : D} : atI [a] (-1) = some a := rfl
theorem atI_m {a b : D} {xs : List D} : atI (a :: b :: xs) (-1) = atI (b :: xs) (-1) := by
  have h1 : ixN (a :: b :: xs).length (-1) = some (xs.length + 1) := by
    unfold ixN
    rw [if_neg (by decide), if_pos (by rw [List.length_cons, List.length_cons]; omega)]
    congr 1
    rw [List.length_cons, List.length_cons]
    omega
  have h2 : ixN (b :: xs).length (-1) = some xs.length := by
    unfold ixN
    rw [if_neg (by decide), if_pos (by rw [List.length_cons]; omega)]
    congr 1
    rw [List.length_cons]
    omega
  unfold atI
  rw [h1, h2, Option.bind_some, Option.bind_some, List.getElem?_cons_succ]
theorem ixL_m1 {a : D} : ixL [a] (-1) = .ok a := rfl
theorem ixL_m {a b : D} {xs : List D} : ixL (a :: b :: xs) (-1) = ixL (b :: xs) (-1) := by
  unfold ixL
  rw [atI_m]
/-! a store that grows -/
section
variable {s t : Sto} {a b c d e f g x : Cell}
theorem gx0 : (s ++ a :: t)[s.length]? = some a := by simp
theorem gx1 : (s ++ a :: b :: t)[s.length + 1]? = some b := by simp
theorem gx2 : (s ++ a :: b :: c :: t)[s.length + 2]? = some c := by simp
theorem gx3 : (s ++ a :: b :: c :: d :: t)[s.length + 3]? = some d := by simp
theorem gx4 : (s ++ a :: b :: c :: d :: e :: t)[s.length + 4]? = some e := by simp
theorem gx5 : (s ++ a :: b :: c :: d :: e :: f :: t)[s.length + 5]? = some f := by simp
theorem gx6 : (s ++ a :: b :: c :: d :: e :: f :: g :: t)[s.length + 6]? = some g := by simp
theorem sx0 : (s ++ a :: t).set s.length x = s ++ x :: t := by simp
theorem sx1 : (s ++ a :: b :: t).set (s.length + 1) x = s ++ a :: x :: t := by simp
theorem sx2 : (s ++ a :: b :: c :: t).set (s.length + 2) x = s ++ a :: b :: x :: t := by simp
theorem sx3 : (s ++ a :: b :: c :: d :: t).set (s.length + 3) x = s ++ a :: b :: c :: x :: t := by simp
theorem sx4 : (s ++ a :: b :: c :: d :: e :: t).set (s.length + 4) x = s ++ a :: b :: c :: d :: x :: t := by simp
theorem sx_app {α : Type} {a b c : List α} : a ++ b ++ c = a ++ (b ++ c) := List.append_assoc a b c
theorem sx_len : (s ++ a :: t).length = s.length + (t.length + 1) := by simp
theorem sx_nil {α : Type} {a : List α} : a ++ [] = a := List.append_nil a
end
section
variable {a b c x : D} {xs : List D} {k : List D → RS}
theorem setX_0 : setX (a :: xs) x k (.int 0) = k (x :: xs) := by
  rw [setX_ok (by decide) (by simp only [List.length_cons]; omega)]
  rfl
theorem setX_1 : setX (a :: b :: xs) x k (.int 1) = k (a :: x :: xs) := by
  rw [setX_ok (by decide) (by simp only [List.length_cons]; omega)]
  rfl
theorem setX_2 : setX (a :: b :: c :: xs) x k (.int 2) = k (a :: b :: x :: xs) := by
  rw [setX_ok (by decide) (by simp only [List.length_cons]; omega)]
  rfl
theorem ixO_of {j : Int} (h : atI xs j = some x) : ixO xs (.int j) = .ok x := by
  unfold ixO
  simp only [h]
theorem ixO_0 : ixO (a :: xs) (.int 0) = .ok a := ixO_of atI_0
theorem ixO_1 : ixO (a :: b :: xs) (.int 1) = .ok b := ixO_of atI_1
theorem ixO_2 : ixO (a :: b :: c :: xs) (.int 2) = .ok c := ixO_of atI_2
end
/-! slices of cells; enumerate; what may be a cell or a list -/
section
variable {s : Sto} {n : Nat} {xs ys : List D} {d x : D} {l u : Option Int} {z : Str} {i : Int} {o e : SE} {lo hi : Dm.Env → R (Option Int)} {p : SS} {env : Dm.Env} {PU : Unit → Sto → Prop} {PS : Src → Sto → Prop}
theorem mulS_i : dMulS (.str z) (.int i) = if 2 ≤ i ∧ i ≤ 1000 ∧ 1 ≤ z.length ∧ z.length ≤ 1000 then .ok (.str (strRep z i.toNat)) else .bad := (rfl)
theorem sq_putSl : sSeq (sPutSl o lo hi e) p env = ofE (e env) env fun d => ofE (o env) env fun x => ofE (lo env) env fun l => ofE (hi env) env fun u => ofE (putSl x l u d) env fun _ => p env := by
  unfold sSeq sPutSl
  rw [thenS_ofE]
  congr 1
  funext d
  rw [thenS_ofE]
  congr 1
  funext x
  rw [thenS_ofE]
  congr 1
  funext l
  rw [thenS_ofE]
  congr 1
  funext u
  exact thenS_ofE
theorem sq_delSl : sSeq (sDelSl o lo hi) p env = ofE (o env) env fun x => ofE (lo env) env fun l => ofE (hi env) env fun u => ofE (delSl x l u) env fun _ => p env := by
  unfold sSeq sDelSl
  rw [thenS_ofE]
  congr 1
  funext x
  rw [thenS_ofE]
  congr 1
  funext l
  rw [thenS_ofE]
  congr 1
  funext u
  exact thenS_ofE
theorem at_putSl : @At xc _ (putSl (.mref n) l u (.lst ys)) s PU = @celL s[n]? fun xs => if xs.length + ys.length ≤ 100000 then PU () (s.set n (.lst (slA xs l ++ ys ++ slB xs l u))) else False := by
  show @At xc _ (onL n fun xs s => if xs.length + ys.length ≤ Z then Rs.ok () (s.set n (.lst (slA xs l ++ ys ++ slB xs l u))) else Rs.bad) s PU = _
  simp only [at_onL', rs_if, rs_ok, rs_bad]
theorem at_delSl : @At xc _ (delSl (.mref n) l u) s PU = @celL s[n]? fun xs => PU () (s.set n (.lst (slA xs l ++ slB xs l u))) := by
  show @At xc _ (onL n fun xs s => Rs.ok () (s.set n (.lst (slA xs l ++ slB xs l u)))) s PU = _
  simp only [at_onL', rs_ok]
theorem slA_none {α : Type} {xs : List α} : slA xs none = [] := (rfl)
theorem slB_none {α : Type} {xs : List α} : slB xs none none = [] := by
  unfold slB
  exact List.drop_eq_nil_of_le (Nat.le_max_right _ _)
def mAof : D → R Src
  | .mref n => onL n fun _ s => Rs.ok (srcL n) s
  | .lst xs => .ok (srcC xs)
  | .scr xs => .ok (srcC xs)
  | _ => .bad
theorem ap_mA : mA o env = (o env).bind mAof := by
  unfold mA
  first
  | rfl
  | (congr 1
     funext x
     cases x <;> rfl)
theorem at_mAm : @At xc _ (mAof (.mref n)) s PS = @celL s[n]? fun _ => PS (srcL n) s := at_mL
theorem mA_l : mAof (.lst xs) = .ok (srcC xs) := (rfl)
theorem ap_mL : mL o env = (o env).bind mLof := ap_mL'
def itEn : D → R (List D)
  | .lst xs => .ok (enumD 0 xs)
  | _ => .bad
def itEnT : D → R (List D)
  | .tup xs => .ok (enumD 0 xs)
  | _ => .bad
theorem ap_iEn : iEn o env = (o env).bind itEn := by
  unfold iEn
  first
  | rfl
  | (congr 1
     funext x
     cases x <;> rfl)
theorem ap_iEnT : iEnT o env = (o env).bind itEnT := by
  unfold iEnT
  first
  | rfl
  | (congr 1
     funext x
     cases x <;> rfl)
theorem itEn_l : itEn (.lst xs) = .ok (enumD 0 xs) := (rfl)
theorem itEnT_t : itEnT (.tup xs) = .ok (enumD 0 xs) := (rfl)
theorem at_isiM {t : Ty} {P : D → Sto → Prop} : @At xc _ (dIsiM t (.mref n)) s P = @celL s[n]? fun _ => P (.bl (isTy t (.lst []))) s := by
  show @At xc _ (onL n fun _ s => Rs.ok (.bl (isTy t (.lst []))) s) s P = _
  simp only [at_onL', rs_ok]
end
theorem isB_b {a b : Bool} : dIsB (.bl a) (.bl b) = .ok (.bl (decide (a = b))) := (rfl)
theorem notB_b {a b : Bool} : dNotB (.bl a) (.bl b) = .ok (.bl (!decide (a = b))) := (rfl)
theorem add_t {xs ys : List D} : dAdd (.tup xs) (.tup ys) = if xs.length + ys.length ≤ 100000 then .ok (.tup (xs ++ ys)) else .bad := (rfl)
theorem isnt_bl {a : Bool} : dIsnt (.bl a) .non = .ok (.bl true) := (rfl)
/-! try, what is raised -/
section
variable {b h : SS} {p : SS} {hs : List Hd} {env : Dm.Env} {i c c2 : Nat} {cs : Nat → Option Bool} {fs : List (Str × D)} {d : D} {xs : List D} {f : Str} {s : Sto}
theorem ap_disp {la : SA} : eDisp la env = (la env).bind dispD := (rfl)
theorem sq_tryN : sSeq (sTryN b hs) p env = thenS (sTryN b hs env) p := (rfl)
theorem sq_try : sSeq (sTry b i cs h) p env = thenS (sTryN b [(some i, cs, h)] env) p := by rw [← try1] <;> rfl
theorem noExn_nil : noExn [] = true := (rfl)
theorem noExn_v : noExn (.val d :: env) = noExn env := (rfl)
theorem noExn_o : noExn (.own xs :: env) = noExn env := (rfl)
theorem noExn_u : noExn (.un :: env) = noExn env := (rfl)
theorem putU_s : putU env c fs (some i) = env.set i (.exn c fs) := (rfl)
theorem putU_n : putU env c fs none = env := (rfl)
theorem dropU_s : dropU env (some i) = env.set i .un := (rfl)
theorem dropU_n : dropU env none = env := (rfl)
def xOf (o : Option Sl) (c : Nat) (f : Str) : R D := match o with
  | some (.exn c2 fs) => if c2 = c then (match fs.lookup f with | some d => .ok d | none => .bad) else .bad
  | _ => .bad
def oD (o : Option D) : R D := match o with
  | some d => .ok d
  | none => .bad
theorem oD_s : oD (some d) = .ok d := (rfl)
theorem ap_xf : eXf i c f env = xOf env[i]? c f := (rfl)
theorem xOf_e : xOf (some (.exn c2 fs)) c f = if c2 = c then oD (fs.lookup f) else .bad := (rfl)
def isxOf (o : Option Sl) (tab : Nat → Option Bool) : R D := match o with
  | some (.exn c _) => (match tab c with | some b => .ok (.bl b) | none => .bad)
  | _ => .bad
def oB (o : Option Bool) : R D := match o with
  | some b => .ok (.bl b)
  | none => .bad
theorem oB_s {b : Bool} : oB (some b) = .ok (.bl b) := (rfl)
theorem ap_isx : eIsx i cs env = isxOf env[i]? cs := (rfl)
theorem isxOf_e : isxOf (some (.exn c fs)) cs = oB (cs c) := (rfl)
theorem lku_hd : ((f, d) :: fs).lookup f = some d := List.lookup_cons_self
theorem x0_ap : x0 c fs s = False := (rfl)
theorem y0_ap : y0 c fs env s = False := (rfl)
end
end Dm
set_option Elab.async false
set_option linter.all false
set_option autoImplicit true
set_option relaxedAutoImplicit true
/-! De: the steps of Do, Dp, .., where a def is run. -/
namespace Dm
open PySem L2
theorem A_ap_C : @At xc _ (eC d env) sto pp0 = @At xc _ (.ok d) sto pp0 := by rw [ap_C]
theorem A_ap_V : @At xc _ (eV i env) sto pp0 = @At xc _ (vOf env[i]?) sto pp0 := by rw [ap_V]
theorem A_ap_nil : @At xc _ (eNil env) sto pp0 = @At xc _ (.ok []) sto pp0 := by rw [ap_nil]
theorem A_ap_cons : @At xc _ (eCons a la env) sto pp0 = @At xc _ ((a env).bind fun x => (la env).bind fun xs => .ok (x :: xs)) sto pp0 := by rw [ap_cons]
theorem A_ap_U {f : D → R D} : @At xc _ (eU f a env) sto pp0 = @At xc _ ((a env).bind f) sto pp0 := by rw [ap_U]
theorem A_ap_B : @At xc _ (eB f a b env) sto pp0 = @At xc _ ((a env).bind fun x => (b env).bind fun y => f x y) sto pp0 := by rw [ap_B]
theorem A_ap_chain {f g : D → D → R D} : @At xc _ (eChain f g a b c env) sto pp0 = @At xc _ ((a env).bind fun x => (b env).bind fun y => (f x y).bind fun r => (toBl r).bind fun k => if k = true then (c env).bind fun z => (g y z).bind fun r2 => (toBl r2).bind fun k2 => .ok (.bl k2) else .ok (.bl false)) sto pp0 := by rw [ap_chain]
theorem A_ap_and : @At xc _ (eAnd a b env) sto pp0 = @At xc _ ((a env).bind fun x => (toBl x).bind fun k => if k = true then b env else .ok (.bl false)) sto pp0 := by rw [ap_and]
theorem A_ap_or : @At xc _ (eOr a b env) sto pp0 = @At xc _ ((a env).bind fun x => (toBl x).bind fun k => if k = true then .ok (.bl true) else b env) sto pp0 := by rw [ap_or]
theorem A_ap_tup : @At xc _ (eTup la env) sto pp0 = @At xc _ ((la env).bind fun xs => if xs.length ≤ 100000 then .ok (.tup xs) else .bad) sto pp0 := by rw [ap_tup]
theorem A_ap_F {f : List D → R D} : @At xc _ (eF f la env) sto pp0 = @At xc _ ((la env).bind f) sto pp0 := by rw [ap_F]
theorem A_ap_M {t : Ty} {f : D → List D → R D} : @At xc _ (eM t f a la env) sto pp0 = @At xc _ ((a env).bind fun x => if isTy t x = true then (la env).bind fun xs => f x xs else .bad) sto pp0 := by rw [ap_M]
theorem A_ap_sl {lo hi : Dm.Env → R (Option Int)} : @At xc _ (eSl a lo hi env) sto pp0 = @At xc _ ((a env).bind fun x => (lo env).bind fun l => (hi env).bind fun h => dSl x l h) sto pp0 := by rw [ap_sl]
theorem A_ap_pN : @At xc _ (pN env) sto pp0 = @At xc _ (.ok none) sto pp0 := by rw [ap_pN]
theorem A_ap_pS : @At xc _ (pS a env) sto pp0 = @At xc _ ((a env).bind fun x => (toIn x).bind fun i => .ok (some i)) sto pp0 := by rw [ap_pS]
theorem A_ap_L : @At xc _ (eL la env) sto pp0 = @At xc _ ((la env).bind fun xs => .ok (.lst xs)) sto pp0 := by rw [ap_L]
theorem A_ap_tE : @At xc _ (tE a env) sto pp0 = @At xc _ ((a env).bind toBl) sto pp0 := by rw [ap_tE]
theorem A_ap_tAn : @At xc _ (tAn t u env) sto pp0 = @At xc _ ((t env).bind fun k => if k = true then u env else .ok false) sto pp0 := by rw [ap_tAn]
theorem A_ap_tO : @At xc _ (tO t u env) sto pp0 = @At xc _ ((t env).bind fun k => if k = true then .ok true else u env) sto pp0 := by rw [ap_tO]
theorem A_ap_tN : @At xc _ (tN t env) sto pp0 = @At xc _ ((t env).bind fun k => .ok !k) sto pp0 := by rw [ap_tN]
theorem A_ap_tY : @At xc _ (tY env) sto pp0 = @At xc _ (.ok true) sto pp0 := by rw [ap_tY]
theorem A_ap_if : @At xc _ (eIf t a b env) sto pp0 = @At xc _ ((t env).bind fun k => if k = true then a env else b env) sto pp0 := by rw [ap_if]
theorem A_ap_lD : @At xc _ (lD la env) sto pp0 = @At xc _ ((la env).bind fun xs => if xs.length ≤ 100000 then .ok xs else .bad) sto pp0 := by rw [ap_lD]
theorem A_ap_lF {f : List D → R (List D)} : @At xc _ (lF f la env) sto pp0 = @At xc _ ((la env).bind f) sto pp0 := by rw [ap_lF]
theorem A_ap_lCat : @At xc _ (lCat a b env) sto pp0 = @At xc _ ((a env).bind fun x => (b env).bind fun y => catL x y) sto pp0 := by rw [ap_lCat]
theorem A_ap_lRep : @At xc _ (lRep a b env) sto pp0 = @At xc _ ((a env).bind fun x => (b env).bind fun y => repL x y) sto pp0 := by rw [ap_lRep]
theorem A_ap_lSl {lo hi : Dm.Env → R (Option Int)} : @At xc _ (lSl a lo hi env) sto pp0 = @At xc _ ((a env).bind fun x => (lo env).bind fun l => (hi env).bind fun h => slL x l h) sto pp0 := by rw [ap_lSl]
theorem A_ap_iD : @At xc _ (iD a env) sto pp0 = @At xc _ ((a env).bind itL) sto pp0 := by rw [ap_iD]
theorem A_ap_iT : @At xc _ (iT a env) sto pp0 = @At xc _ ((a env).bind itT) sto pp0 := by rw [ap_iT]
theorem A_ap_iS : @At xc _ (iS a env) sto pp0 = @At xc _ ((a env).bind itS) sto pp0 := by rw [ap_iS]
theorem A_ap_iR1 : @At xc _ (iR1 la env) sto pp0 = @At xc _ ((la env).bind itR1) sto pp0 := by rw [ap_iR1]
theorem S_sq_nx : @AtS xd (sSeq sNx p env) sto nn0 tt0 = @AtS xd (p env) sto nn0 tt0 := by rw [sq_nx]
theorem W_sq_nx : @AtW xd (sSeq sNx p env) sto nn0 bb0 cc0 tt0 = @AtW xd (p env) sto nn0 bb0 cc0 tt0 := by rw [sq_nx]
theorem S_sq_sq : @AtS xd (sSeq (sSeq p q) s env) sto nn0 tt0 = @AtS xd (sSeq p (sSeq q s) env) sto nn0 tt0 := by rw [sq_sq]
theorem W_sq_sq : @AtW xd (sSeq (sSeq p q) s env) sto nn0 bb0 cc0 tt0 = @AtW xd (sSeq p (sSeq q s) env) sto nn0 bb0 cc0 tt0 := by rw [sq_sq]
theorem S_sq_a : @AtS xd (sSeq (sA i a) p env) sto nn0 tt0 = @AtS xd (ofE (a env) env fun d => p (env.set i (.val d))) sto nn0 tt0 := by rw [sq_a]
theorem W_sq_a : @AtW xd (sSeq (sA i a) p env) sto nn0 bb0 cc0 tt0 = @AtW xd (ofE (a env) env fun d => p (env.set i (.val d))) sto nn0 bb0 cc0 tt0 := by rw [sq_a]
theorem S_sq_o : @AtS xd (sSeq (sO i la) p env) sto nn0 tt0 = @AtS xd (ofE (la env) env fun d => p (env.set i (.own d))) sto nn0 tt0 := by rw [sq_o]
theorem W_sq_o : @AtW xd (sSeq (sO i la) p env) sto nn0 bb0 cc0 tt0 = @AtW xd (ofE (la env) env fun d => p (env.set i (.own d))) sto nn0 bb0 cc0 tt0 := by rw [sq_o]
theorem S_sq_x : @AtS xd (sSeq (sX a) p env) sto nn0 tt0 = @AtS xd (ofE (a env) env fun _ => p env) sto nn0 tt0 := by rw [sq_x]
theorem W_sq_x : @AtW xd (sSeq (sX a) p env) sto nn0 bb0 cc0 tt0 = @AtW xd (ofE (a env) env fun _ => p env) sto nn0 bb0 cc0 tt0 := by rw [sq_x]
theorem S_sq_if : @AtS xd (sSeq (sIf t p q) s env) sto nn0 tt0 = @AtS xd (ofE (t env) env fun k => if k = true then sSeq p s env else sSeq q s env) sto nn0 tt0 := by rw [sq_if]
theorem W_sq_if : @AtW xd (sSeq (sIf t p q) s env) sto nn0 bb0 cc0 tt0 = @AtW xd (ofE (t env) env fun k => if k = true then sSeq p s env else sSeq q s env) sto nn0 bb0 cc0 tt0 := by rw [sq_if]
theorem S_sq_ret : @AtS xd (sSeq (sRet a) p env) sto nn0 tt0 = @AtS xd (ofE (a env) env fun d => .rt (.val d)) sto nn0 tt0 := by rw [sq_ret]
theorem W_sq_ret : @AtW xd (sSeq (sRet a) p env) sto nn0 bb0 cc0 tt0 = @AtW xd (ofE (a env) env fun d => .rt (.val d)) sto nn0 bb0 cc0 tt0 := by rw [sq_ret]
theorem S_sq_retL : @AtS xd (sSeq (sRetL la) p env) sto nn0 tt0 = @AtS xd (ofE (la env) env fun d => .rt (.own d)) sto nn0 tt0 := by rw [sq_retL]
theorem W_sq_retL : @AtW xd (sSeq (sRetL la) p env) sto nn0 bb0 cc0 tt0 = @AtW xd (ofE (la env) env fun d => .rt (.own d)) sto nn0 bb0 cc0 tt0 := by rw [sq_retL]
theorem S_sq_retO : @AtS xd (sSeq (sRetO i) p env) sto nn0 tt0 = @AtS xd (oOf env[i]? fun xs => .rt (.own xs)) sto nn0 tt0 := by rw [sq_retO]
theorem W_sq_retO : @AtW xd (sSeq (sRetO i) p env) sto nn0 bb0 cc0 tt0 = @AtW xd (oOf env[i]? fun xs => .rt (.own xs)) sto nn0 bb0 cc0 tt0 := by rw [sq_retO]
theorem S_sq_app : @AtS xd (sSeq (sApp i a) p env) sto nn0 tt0 = @AtS xd (oOf env[i]? fun xs => ofE (a env) env fun d => if xs.length < 100000 then p (env.set i (.own (xs ++ [d]))) else .bad) sto nn0 tt0 := by rw [sq_app]
theorem W_sq_app : @AtW xd (sSeq (sApp i a) p env) sto nn0 bb0 cc0 tt0 = @AtW xd (oOf env[i]? fun xs => ofE (a env) env fun d => if xs.length < 100000 then p (env.set i (.own (xs ++ [d]))) else .bad) sto nn0 bb0 cc0 tt0 := by rw [sq_app]
theorem S_sq_ext : @AtS xd (sSeq (sExt i a) p env) sto nn0 tt0 = @AtS xd (oOf env[i]? fun xs => ofE (a env) env fun d => lstK d fun ys => if xs.length + ys.length ≤ 100000 then p (env.set i (.own (xs ++ ys))) else .bad) sto nn0 tt0 := by rw [sq_ext]
theorem W_sq_ext : @AtW xd (sSeq (sExt i a) p env) sto nn0 bb0 cc0 tt0 = @AtW xd (oOf env[i]? fun xs => ofE (a env) env fun d => lstK d fun ys => if xs.length + ys.length ≤ 100000 then p (env.set i (.own (xs ++ ys))) else .bad) sto nn0 bb0 cc0 tt0 := by rw [sq_ext]
theorem S_sq_aug : @AtS xd (sSeq (sAug i f a) p env) sto nn0 tt0 = @AtS xd (ofE (vOf env[i]?) env fun x => ofE (a env) env fun y => ofE (f x y) env fun z => p (env.set i (.val z))) sto nn0 tt0 := by rw [sq_aug]
theorem W_sq_aug : @AtW xd (sSeq (sAug i f a) p env) sto nn0 bb0 cc0 tt0 = @AtW xd (ofE (vOf env[i]?) env fun x => ofE (a env) env fun y => ofE (f x y) env fun z => p (env.set i (.val z))) sto nn0 bb0 cc0 tt0 := by rw [sq_aug]
theorem S_sq_g : @AtS xd (sSeq (sG a g) p env) sto nn0 tt0 = @AtS xd (ofE (a env) env fun d => ofG (g d env) p) sto nn0 tt0 := by rw [sq_g]
theorem W_sq_g : @AtW xd (sSeq (sG a g) p env) sto nn0 bb0 cc0 tt0 = @AtW xd (ofE (a env) env fun d => ofG (g d env) p) sto nn0 bb0 cc0 tt0 := by rw [sq_g]
theorem S_sq_frz : @AtS xd (sSeq (sFrz i p) q env) sto nn0 tt0 = @AtS xd (sSeq p q (frz i env)) sto nn0 tt0 := by rw [sq_frz]
theorem W_sq_frz : @AtW xd (sSeq (sFrz i p) q env) sto nn0 bb0 cc0 tt0 = @AtW xd (sSeq p q (frz i env)) sto nn0 bb0 cc0 tt0 := by rw [sq_frz]
theorem S_sq_br : @AtS xd (sSeq sBr p env) sto nn0 tt0 = @AtS xd (.bk env) sto nn0 tt0 := by rw [sq_br]
theorem W_sq_br : @AtW xd (sSeq sBr p env) sto nn0 bb0 cc0 tt0 = @AtW xd (.bk env) sto nn0 bb0 cc0 tt0 := by rw [sq_br]
theorem S_sq_ct : @AtS xd (sSeq sCt p env) sto nn0 tt0 = @AtS xd (.ct env) sto nn0 tt0 := by rw [sq_ct]
theorem W_sq_ct : @AtW xd (sSeq sCt p env) sto nn0 bb0 cc0 tt0 = @AtW xd (.ct env) sto nn0 bb0 cc0 tt0 := by rw [sq_ct]
theorem S_sq_raise {c : Nat} {nm : List Str} : @AtS xd (sSeq (sRaise c nm la) p env) sto nn0 tt0 = @AtS xd (ofE (la env) env fun ds => if ds.length = nm.length then .exc c (nm.zip ds) env else .bad) sto nn0 tt0 := by rw [sq_raise]
theorem W_sq_raise {c : Nat} {nm : List Str} : @AtW xd (sSeq (sRaise c nm la) p env) sto nn0 bb0 cc0 tt0 = @AtW xd (ofE (la env) env fun ds => if ds.length = nm.length then .exc c (nm.zip ds) env else .bad) sto nn0 bb0 cc0 tt0 := by rw [sq_raise]
theorem S_sq_for : @AtS xd (sSeq (sFor la g q) p env) sto nn0 tt0 = @AtS xd (ofE (la env) env fun ds => thenS (forGo g q ds env) p) sto nn0 tt0 := by rw [sq_for]
theorem W_sq_for : @AtW xd (sSeq (sFor la g q) p env) sto nn0 bb0 cc0 tt0 = @AtW xd (ofE (la env) env fun ds => thenS (forGo g q ds env) p) sto nn0 bb0 cc0 tt0 := by rw [sq_for]
theorem S_sq_wh : @AtS xd (sSeq (sWh n t q) p env) sto nn0 tt0 = @AtS xd (thenS (whGo t q n env) p) sto nn0 tt0 := by rw [sq_wh]
theorem W_sq_wh : @AtW xd (sSeq (sWh n t q) p env) sto nn0 bb0 cc0 tt0 = @AtW xd (thenS (whGo t q n env) p) sto nn0 bb0 cc0 tt0 := by rw [sq_wh]
theorem A_ap_lenO {i : Nat} {env : Dm.Env} : @At xc _ (eLenO i env) sto pp0 = @At xc _ (oOfR env[i]? fun xs => .ok (.int xs.length)) sto pp0 := by rw [ap_lenO]
theorem A_ap_ixO {i : Nat} {b : SE} {env : Dm.Env} : @At xc _ (eIxO i b env) sto pp0 = @At xc _ (oOfR env[i]? fun xs => (b env).bind (ixO xs)) sto pp0 := by rw [ap_ixO]
theorem A_ap_P {tb : Nat → Option (List D → R D)} {i : Nat} {la : SA} {env : Dm.Env} : @At xc _ (eP tb i la env) sto pp0 = @At xc _ (pOf tb env[i]? fun m => (la env).bind m) sto pp0 := by rw [ap_P]
theorem A_ap_iZT {la : SA} {env : Dm.Env} : @At xc _ (iZT la env) sto pp0 = @At xc _ ((la env).bind itZT) sto pp0 := by rw [ap_iZT]
theorem S_sq_set {i : Nat} {k e : SE} {q : SS} {env : Dm.Env} : @AtS xd (sSeq (sSet i k e) q env) sto nn0 tt0 = @AtS xd (oOfS env[i]? fun xs => ofE (e env) env fun d => ofE (k env) env fun j => setX xs d (fun ys => q (env.set i (.own ys))) j) sto nn0 tt0 := by rw [sq_set]
theorem W_sq_set {i : Nat} {k e : SE} {q : SS} {env : Dm.Env} : @AtW xd (sSeq (sSet i k e) q env) sto nn0 bb0 cc0 tt0 = @AtW xd (oOfS env[i]? fun xs => ofE (e env) env fun d => ofE (k env) env fun j => setX xs d (fun ys => q (env.set i (.own ys))) j) sto nn0 bb0 cc0 tt0 := by rw [sq_set]
theorem A_ap_MM {f : D → List D → R D} {o : SE} {la : SA} : @At xc _ (eMM f o la env) sto pp0 = @At xc _ ((o env).bind fun x => (isCL x).bind fun _ => (la env).bind fun xs => f x xs) sto pp0 := by rw [ap_MM]
theorem A_ap_cell {la : SA} : @At xc _ (eCell la env) sto pp0 = @At xc _ ((la env).bind fun ds => cNew (.lst ds)) sto pp0 := by rw [ap_cell]
theorem S_sq_mset {o k b : SE} {p : SS} : @AtS xd (sSeq (sMSet o k b) p env) sto nn0 tt0 = @AtS xd (ofE (b env) env fun d => ofE (o env) env fun x => ofE (k env) env fun j => ofE (setM x j d) env fun _ => p env) sto nn0 tt0 := by rw [sq_mset]
theorem W_sq_mset {o k b : SE} {p : SS} : @AtW xd (sSeq (sMSet o k b) p env) sto nn0 bb0 cc0 tt0 = @AtW xd (ofE (b env) env fun d => ofE (o env) env fun x => ofE (k env) env fun j => ofE (setM x j d) env fun _ => p env) sto nn0 bb0 cc0 tt0 := by rw [sq_mset]
theorem S_sq_fd : @AtS xd (sSeq (sFd c i o e) p env) sto nn0 tt0 = @AtS xd (ofE (e env) env fun d => ofE (o env) env fun x => ofE (putM c i x d) env fun _ => p env) sto nn0 tt0 := by rw [sq_fd]
theorem W_sq_fd : @AtW xd (sSeq (sFd c i o e) p env) sto nn0 bb0 cc0 tt0 = @AtW xd (ofE (e env) env fun d => ofE (o env) env fun x => ofE (putM c i x d) env fun _ => p env) sto nn0 bb0 cc0 tt0 := by rw [sq_fd]
theorem S_sq_fdAug {f : D → D → R D} : @AtS xd (sSeq (sFdAug c i f o e) p env) sto nn0 tt0 = @AtS xd (ofE (o env) env fun x => ofE (dFld c i x) env fun v => ofE (e env) env fun y => ofE (f v y) env fun z => ofE (putM c i x z) env fun _ => p env) sto nn0 tt0 := by rw [sq_fdAug]
theorem W_sq_fdAug {f : D → D → R D} : @AtW xd (sSeq (sFdAug c i f o e) p env) sto nn0 bb0 cc0 tt0 = @AtW xd (ofE (o env) env fun x => ofE (dFld c i x) env fun v => ofE (e env) env fun y => ofE (f v y) env fun z => ofE (putM c i x z) env fun _ => p env) sto nn0 bb0 cc0 tt0 := by rw [sq_fdAug]
theorem A_ap_meth {m : List D → R D} : @At xc _ (eMeth c m o la env) sto pp0 = @At xc _ ((o env).bind fun x => (isI c x).bind fun _ => (la env).bind fun xs => m (x :: xs)) sto pp0 := by rw [ap_meth]
theorem A_ap_lmeth {m : List D → R (List D)} : @At xc _ (lMeth c m o la env) sto pp0 = @At xc _ ((o env).bind fun x => (isI c x).bind fun _ => (la env).bind fun xs => m (x :: xs)) sto pp0 := by rw [ap_lmeth]
theorem A_ap_make {m : List D → R D} : @At xc _ (eMake c m la env) sto pp0 = @At xc _ ((la env).bind fun ds => mkI c m ds) sto pp0 := by rw [ap_make]
theorem A_ap_makeK {m : List D → R D} {g : List D → List D} : @At xc _ (eMakeK c n m g la env) sto pp0 = @At xc _ ((la env).bind fun ds => if ds.length = n then mkI c m (g ds) else .bad) sto pp0 := by rw [ap_makeK]
theorem A_ap_MM0 {f : D → List D → R D} : @At xc _ (eMM0 f o env) sto pp0 = @At xc _ ((o env).bind fun x => (isCL x).bind fun _ => f x []) sto pp0 := by rw [ap_MM0]
theorem A_ap_catM : @At xc _ (lCatM a b env) sto pp0 = @At xc _ ((a env).bind fun x => (b env).bind fun y => (rdW x).bind fun xs => (rdW y).bind fun ys => if xs.length + ys.length ≤ 100000 then .ok (xs ++ ys) else .bad) sto pp0 := by rw [ap_catM]
theorem A_ap_slM {lo hi : Dm.Env → R (Option Int)} : @At xc _ (lSlM o lo hi env) sto pp0 = @At xc _ ((o env).bind fun x => (lo env).bind fun l => (hi env).bind fun h => (rdL x).bind fun xs => .ok (cutG xs l h)) sto pp0 := by rw [ap_slM]
theorem A_ap_inM : @At xc _ (dInM x y) sto pp0 = @At xc _ ((rdL y).bind fun xs => if (flatD x && xs.all flatD) = true then .ok (.bl (inD x xs)) else .bad) sto pp0 := by rw [ap_inM]
theorem A_ap_ninM : @At xc _ (dNotInM x y) sto pp0 = @At xc _ ((dInM x y).bind dNot) sto pp0 := by rw [ap_ninM]
theorem A_ap_dnew : @At xc _ (eDNew env) sto pp0 = @At xc _ (cNew (.dct [])) sto pp0 := by rw [ap_dnew]
theorem A_ap_gnin : @At xc _ (gNotIn x y) sto pp0 = @At xc _ ((gIn x y).bind dNot) sto pp0 := by rw [ap_gnin]
theorem A_ap_get2 : @At xc _ (eGet2 o k e env) sto pp0 = @At xc _ ((o env).bind fun d => (isK d).bind fun _ => (k env).bind fun y => (e env).bind fun z => gGet2 d y z) sto pp0 := by rw [ap_get2]
theorem A_ap_get1 : @At xc _ (eGet1 o k env) sto pp0 = @At xc _ ((o env).bind fun d => (isK d).bind fun _ => (k env).bind fun y => gGet2 d y .non) sto pp0 := by rw [ap_get1]
theorem S_sq_kput : @AtS xd (sSeq (sKPut o k e) p env) sto nn0 tt0 = @AtS xd (ofE (e env) env fun d => ofE (o env) env fun x => ofE (k env) env fun y => ofE (gPut x y d) env fun _ => p env) sto nn0 tt0 := by rw [sq_kput]
theorem W_sq_kput : @AtW xd (sSeq (sKPut o k e) p env) sto nn0 bb0 cc0 tt0 = @AtW xd (ofE (e env) env fun d => ofE (o env) env fun x => ofE (k env) env fun y => ofE (gPut x y d) env fun _ => p env) sto nn0 bb0 cc0 tt0 := by rw [sq_kput]
theorem S_sq_kdel : @AtS xd (sSeq (sKDel o k) p env) sto nn0 tt0 = @AtS xd (ofE (o env) env fun x => ofE (k env) env fun y => ofE (gDel x y) env fun _ => p env) sto nn0 tt0 := by rw [sq_kdel]
theorem W_sq_kdel : @AtW xd (sSeq (sKDel o k) p env) sto nn0 bb0 cc0 tt0 = @AtW xd (ofE (o env) env fun x => ofE (k env) env fun y => ofE (gDel x y) env fun _ => p env) sto nn0 bb0 cc0 tt0 := by rw [sq_kdel]
theorem S_sq_putSl : @AtS xd (sSeq (sPutSl o lo hi e) p env) sto nn0 tt0 = @AtS xd (ofE (e env) env fun d => ofE (o env) env fun x => ofE (lo env) env fun l => ofE (hi env) env fun u => ofE (putSl x l u d) env fun _ => p env) sto nn0 tt0 := by rw [sq_putSl]
theorem W_sq_putSl : @AtW xd (sSeq (sPutSl o lo hi e) p env) sto nn0 bb0 cc0 tt0 = @AtW xd (ofE (e env) env fun d => ofE (o env) env fun x => ofE (lo env) env fun l => ofE (hi env) env fun u => ofE (putSl x l u d) env fun _ => p env) sto nn0 bb0 cc0 tt0 := by rw [sq_putSl]
theorem S_sq_delSl : @AtS xd (sSeq (sDelSl o lo hi) p env) sto nn0 tt0 = @AtS xd (ofE (o env) env fun x => ofE (lo env) env fun l => ofE (hi env) env fun u => ofE (delSl x l u) env fun _ => p env) sto nn0 tt0 := by rw [sq_delSl]
theorem W_sq_delSl : @AtW xd (sSeq (sDelSl o lo hi) p env) sto nn0 bb0 cc0 tt0 = @AtW xd (ofE (o env) env fun x => ofE (lo env) env fun l => ofE (hi env) env fun u => ofE (delSl x l u) env fun _ => p env) sto nn0 bb0 cc0 tt0 := by rw [sq_delSl]
theorem A_ap_mA : @At xc _ (mA o env) sto pp0 = @At xc _ ((o env).bind mAof) sto pp0 := by rw [ap_mA]
theorem A_ap_mL : @At xc _ (mL o env) sto pp0 = @At xc _ ((o env).bind mLof) sto pp0 := by rw [ap_mL]
theorem A_ap_iEn : @At xc _ (iEn o env) sto pp0 = @At xc _ ((o env).bind itEn) sto pp0 := by rw [ap_iEn]
theorem A_ap_iEnT : @At xc _ (iEnT o env) sto pp0 = @At xc _ ((o env).bind itEnT) sto pp0 := by rw [ap_iEnT]
theorem S_sq_forM {it : Dm.Env → R Src} {g : SG} {b : SS} : @AtS xd (sSeq (sForM it g b) p env) sto nn0 tt0 = @AtS xd (ofE (it env) env fun src => thenS (forMGo src g b 100001 0 env) p) sto nn0 tt0 := by rw [sq_forM]
theorem W_sq_forM {it : Dm.Env → R Src} {g : SG} {b : SS} : @AtW xd (sSeq (sForM it g b) p env) sto nn0 bb0 cc0 tt0 = @AtW xd (ofE (it env) env fun src => thenS (forMGo src g b 100001 0 env) p) sto nn0 bb0 cc0 tt0 := by rw [sq_forM]
theorem A_ap_lcM {it : Dm.Env → R Src} {g : SG} {t : ST} {e : SE} {vs : List Nat} : @At xc _ (lLcM it g t e vs env) sto pp0 = @At xc _ ((it env).bind fun src => lcMGo src g t e (wipeS env vs) 40001 0 []) sto pp0 := by rw [ap_lcM]
theorem S_sq_tryN : @AtS xd (sSeq (sTryN b hs) p env) sto nn0 tt0 = @AtS xd (thenS (sTryN b hs env) p) sto nn0 tt0 := by rw [sq_tryN]
theorem W_sq_tryN : @AtW xd (sSeq (sTryN b hs) p env) sto nn0 bb0 cc0 tt0 = @AtW xd (thenS (sTryN b hs env) p) sto nn0 bb0 cc0 tt0 := by rw [sq_tryN]
theorem S_sq_try : @AtS xd (sSeq (sTry b i cs h) p env) sto nn0 tt0 = @AtS xd (thenS (sTryN b [(some i, cs, h)] env) p) sto nn0 tt0 := by rw [sq_try]
theorem W_sq_try : @AtW xd (sSeq (sTry b i cs h) p env) sto nn0 bb0 cc0 tt0 = @AtW xd (thenS (sTryN b [(some i, cs, h)] env) p) sto nn0 bb0 cc0 tt0 := by rw [sq_try]
theorem A_ap_xf : @At xc _ (eXf i c f env) sto pp0 = @At xc _ (xOf env[i]? c f) sto pp0 := by rw [ap_xf]
theorem A_ap_isx : @At xc _ (eIsx i cs env) sto pp0 = @At xc _ (isxOf env[i]? cs) sto pp0 := by rw [ap_isx]
theorem A_ap_disp {la : SA} : @At xc _ (eDisp la env) sto pp0 = @At xc _ ((la env).bind dispD) sto pp0 := by rw [ap_disp]
end Dm
set_option Elab.async false
set_option linter.all false
/-! Dev: the steps, in bundles. -/
namespace Dm
open PySem L2
theorem ev0 : ((((type_of% @bind_ok) ∧ (type_of% @bind_exc)) ∧ ((type_of% @bind_bad) ∧ (type_of% @ofE_ok))) ∧ (((type_of% @ofE_exc) ∧ (type_of% @vOf_v)) ∧ ((type_of% @ap_C) ∧ (type_of% @ap_V)))) := ⟨⟨⟨@bind_ok, @bind_exc⟩, ⟨@bind_bad, @ofE_ok⟩⟩, ⟨⟨@ofE_exc, @vOf_v⟩, ⟨@ap_C, @ap_V⟩⟩⟩
theorem ev1 : ((((type_of% @ap_nil) ∧ (type_of% @ap_cons)) ∧ ((type_of% @ap_U) ∧ (type_of% @ap_B))) ∧ (((type_of% @ap_chain) ∧ (type_of% @ap_and)) ∧ ((type_of% @ap_or) ∧ (type_of% @ap_tup)))) := ⟨⟨⟨@ap_nil, @ap_cons⟩, ⟨@ap_U, @ap_B⟩⟩, ⟨⟨@ap_chain, @ap_and⟩, ⟨@ap_or, @ap_tup⟩⟩⟩
theorem ev2 : ((((type_of% @ap_F) ∧ (type_of% @ap_M)) ∧ ((type_of% @ap_sl) ∧ (type_of% @ap_pN))) ∧ (((type_of% @ap_pS) ∧ (type_of% @ap_L)) ∧ ((type_of% @ap_tE) ∧ (type_of% @ap_tAn)))) := ⟨⟨⟨@ap_F, @ap_M⟩, ⟨@ap_sl, @ap_pN⟩⟩, ⟨⟨@ap_pS, @ap_L⟩, ⟨@ap_tE, @ap_tAn⟩⟩⟩
theorem ev3 : ((((type_of% @ap_tO) ∧ (type_of% @ap_tN)) ∧ ((type_of% @ap_tY) ∧ (type_of% @ap_if))) ∧ (((type_of% @ap_lD) ∧ (type_of% @ap_lF)) ∧ ((type_of% @ap_lCat) ∧ (type_of% @catL_ok)))) := ⟨⟨⟨@ap_tO, @ap_tN⟩, ⟨@ap_tY, @ap_if⟩⟩, ⟨⟨@ap_lD, @ap_lF⟩, ⟨@ap_lCat, @catL_ok⟩⟩⟩
theorem ev4 : ((((type_of% @ap_lRep) ∧ (type_of% @repL_ok)) ∧ ((type_of% @ap_lSl) ∧ (type_of% @slL_lst))) ∧ (((type_of% @slL_scr) ∧ (type_of% @ap_iD)) ∧ ((type_of% @itL_lst) ∧ (type_of% @itL_scr)))) := ⟨⟨⟨@ap_lRep, @repL_ok⟩, ⟨@ap_lSl, @slL_lst⟩⟩, ⟨⟨@slL_scr, @ap_iD⟩, ⟨@itL_lst, @itL_scr⟩⟩⟩
theorem ev5 : ((((type_of% @ap_iT) ∧ (type_of% @itT_tup)) ∧ ((type_of% @itT_ktp) ∧ (type_of% @ap_iS))) ∧ (((type_of% @itS_str) ∧ (type_of% @ap_iR1)) ∧ ((type_of% @itR1_ok) ∧ (type_of% @add_i)))) := ⟨⟨⟨@ap_iT, @itT_tup⟩, ⟨@itT_ktp, @ap_iS⟩⟩, ⟨⟨@itS_str, @ap_iR1⟩, ⟨@itR1_ok, @add_i⟩⟩⟩
theorem ev6 : ((((type_of% @add_s) ∧ (type_of% @add_l)) ∧ ((type_of% @addX_i) ∧ (type_of% @addX_s))) ∧ (((type_of% @sub_i) ∧ (type_of% @mul_i)) ∧ ((type_of% @div_i) ∧ (type_of% @mod_i)))) := ⟨⟨⟨@add_s, @add_l⟩, ⟨@addX_i, @addX_s⟩⟩, ⟨⟨@sub_i, @mul_i⟩, ⟨@div_i, @mod_i⟩⟩⟩
theorem ev7 : ((((type_of% @pow_i) ∧ (type_of% @shl_i)) ∧ ((type_of% @shr_i) ∧ (type_of% @and_i))) ∧ (((type_of% @or_i) ∧ (type_of% @xor_i)) ∧ ((type_of% @neg_i) ∧ (type_of% @not_b)))) := ⟨⟨⟨@pow_i, @shl_i⟩, ⟨@shr_i, @and_i⟩⟩, ⟨⟨@or_i, @xor_i⟩, ⟨@neg_i, @not_b⟩⟩⟩
theorem ev8 : ((((type_of% @lt_i) ∧ (type_of% @le_i)) ∧ ((type_of% @gt_i) ∧ (type_of% @ge_i))) ∧ (((type_of% @eq_i) ∧ (type_of% @eq_s)) ∧ ((type_of% @ne_i) ∧ (type_of% @ne_s)))) := ⟨⟨⟨@lt_i, @le_i⟩, ⟨@gt_i, @ge_i⟩⟩, ⟨⟨@eq_i, @eq_s⟩, ⟨@ne_i, @ne_s⟩⟩⟩
theorem ev9 : ((((type_of% @is_non) ∧ (type_of% @is_int)) ∧ ((type_of% @is_str) ∧ (type_of% @is_tup))) ∧ (((type_of% @is_lst) ∧ (type_of% @isnt_non)) ∧ ((type_of% @isnt_int) ∧ (type_of% @isnt_str)))) := ⟨⟨⟨@is_non, @is_int⟩, ⟨@is_str, @is_tup⟩⟩, ⟨⟨@is_lst, @isnt_non⟩, ⟨@isnt_int, @isnt_str⟩⟩⟩
theorem ev10 : ((((type_of% @isnt_tup) ∧ (type_of% @toBl_b)) ∧ ((type_of% @toIn_i) ∧ (type_of% @ix_s))) ∧ (((type_of% @ix_l) ∧ (type_of% @ix_r)) ∧ ((type_of% @ix_t) ∧ (type_of% @ix_k)))) := ⟨⟨⟨@isnt_tup, @toBl_b⟩, ⟨@toIn_i, @ix_s⟩⟩, ⟨⟨@ix_l, @ix_r⟩, ⟨@ix_t, @ix_k⟩⟩⟩
theorem ev11 : ((((type_of% @sl_s) ∧ (type_of% @sl_l)) ∧ ((type_of% @sl_r) ∧ (type_of% @sl_t))) ∧ (((type_of% @len_s) ∧ (type_of% @len_l)) ∧ ((type_of% @len_r) ∧ (type_of% @len_t)))) := ⟨⟨⟨@sl_s, @sl_l⟩, ⟨@sl_r, @sl_t⟩⟩, ⟨⟨@len_s, @len_l⟩, ⟨@len_r, @len_t⟩⟩⟩
theorem ev12 : ((((type_of% @len_k) ∧ (type_of% @int_i)) ∧ ((type_of% @int_b) ∧ (type_of% @abs_i))) ∧ (((type_of% @min_i) ∧ (type_of% @max_i)) ∧ ((type_of% @tup_l) ∧ (type_of% @tup_t)))) := ⟨⟨⟨@len_k, @int_i⟩, ⟨@int_b, @abs_i⟩⟩, ⟨⟨@min_i, @max_i⟩, ⟨@tup_l, @tup_t⟩⟩⟩
theorem ev13 : ((((type_of% @list_l) ∧ (type_of% @list_r)) ∧ ((type_of% @list_t) ∧ (type_of% @isi_i))) ∧ (((type_of% @isi_b) ∧ (type_of% @isi_s)) ∧ ((type_of% @isi_l) ∧ (type_of% @isi_t)))) := ⟨⟨⟨@list_l, @list_r⟩, ⟨@list_t, @isi_i⟩⟩, ⟨⟨@isi_b, @isi_s⟩, ⟨@isi_l, @isi_t⟩⟩⟩
theorem ev14 : ((((type_of% @isi_n) ∧ (type_of% @ty_ii)) ∧ ((type_of% @ty_bi) ∧ (type_of% @ty_ss))) ∧ (((type_of% @ty_ll) ∧ (type_of% @ty_tt)) ∧ ((type_of% @ty_tl) ∧ (type_of% @ty_lt)))) := ⟨⟨⟨@isi_n, @ty_ii⟩, ⟨@ty_bi, @ty_ss⟩⟩, ⟨⟨@ty_ll, @ty_tt⟩, ⟨@ty_tl, @ty_lt⟩⟩⟩
theorem ev15 : ((((type_of% @ty_tn) ∧ (type_of% @find_s)) ∧ ((type_of% @lower_s) ∧ (type_of% @oOf_o))) ∧ (((type_of% @lstK_l) ∧ (type_of% @ofG_some)) ∧ ((type_of% @nx_ap) ∧ (type_of% @thenS_nx)))) := ⟨⟨⟨@ty_tn, @find_s⟩, ⟨@lower_s, @oOf_o⟩⟩, ⟨⟨@lstK_l, @ofG_some⟩, ⟨@nx_ap, @thenS_nx⟩⟩⟩
theorem ev16 : ((((type_of% @thenS_rt) ∧ (type_of% @thenS_exc)) ∧ ((type_of% @endV_v) ∧ (type_of% @endV_o))) ∧ (((type_of% @endV_n) ∧ (type_of% @endV_x)) ∧ ((type_of% @endL_o) ∧ (type_of% @endL_x)))) := ⟨⟨⟨@thenS_rt, @thenS_exc⟩, ⟨@endV_v, @endV_o⟩⟩, ⟨⟨@endV_n, @endV_x⟩, ⟨@endL_o, @endL_x⟩⟩⟩
theorem ev17 : ((((type_of% @gN_ap) ∧ (type_of% @List.getElem?_cons_zero.{0})) ∧ ((type_of% @List.getElem?_cons_succ.{0}) ∧ (type_of% @List.set_cons_zero.{0}))) ∧ (((type_of% @List.set_cons_succ.{0}) ∧ (type_of% @List.length_cons.{0})) ∧ ((type_of% @List.length_nil.{0}) ∧ (type_of% @decide_eq_true_eq)))) := ⟨⟨⟨@gN_ap, @List.getElem?_cons_zero.{0}⟩, ⟨@List.getElem?_cons_succ.{0}, @List.set_cons_zero.{0}⟩⟩, ⟨⟨@List.set_cons_succ.{0}, @List.length_cons.{0}⟩, ⟨@List.length_nil.{0}, @decide_eq_true_eq⟩⟩⟩
theorem ev18 : ((((type_of% @Bool.not_eq_true) ∧ (type_of% @Bool.false_eq_true)) ∧ ((type_of% @Bool.true_eq_false) ∧ (type_of% @not_true_eq_false))) ∧ (((type_of% @not_false_eq_true) ∧ (type_of% @decide_true)) ∧ ((type_of% @decide_false) ∧ (type_of% @Bool.not_true)))) := ⟨⟨⟨@Bool.not_eq_true, @Bool.false_eq_true⟩, ⟨@Bool.true_eq_false, @not_true_eq_false⟩⟩, ⟨⟨@not_false_eq_true, @decide_true⟩, ⟨@decide_false, @Bool.not_true⟩⟩⟩
theorem ev19 : ((((type_of% @Bool.not_false) ∧ (type_of% @List.nil_append.{0})) ∧ ((type_of% @List.cons_append.{0}) ∧ (type_of% @List.map_cons.{0, 0}))) ∧ (((type_of% @List.map_nil.{0, 0}) ∧ (type_of% @List.replicate_succ.{0})) ∧ ((type_of% @List.replicate_zero.{0}) ∧ (type_of% @Bool.not_eq_eq_eq_not)))) := ⟨⟨⟨@Bool.not_false, @List.nil_append.{0}⟩, ⟨@List.cons_append.{0}, @List.map_cons.{0, 0}⟩⟩, ⟨⟨@List.map_nil.{0, 0}, @List.replicate_succ.{0}⟩, ⟨@List.replicate_zero.{0}, @Bool.not_eq_eq_eq_not⟩⟩⟩
theorem ev20 : ((((type_of% @decide_eq_false_iff_not) ∧ (type_of% @and_self)) ∧ ((type_of% @and_true) ∧ (type_of% @true_and))) ∧ (((type_of% @and_false) ∧ (type_of% @false_and)) ∧ ((type_of% @or_true) ∧ (type_of% @true_or)))) := ⟨⟨⟨@decide_eq_false_iff_not, @and_self⟩, ⟨@and_true, @true_and⟩⟩, ⟨⟨@and_false, @false_and⟩, ⟨@or_true, @true_or⟩⟩⟩
theorem ev21 : ((((type_of% @or_false) ∧ (type_of% @false_or)) ∧ ((type_of% @or_self) ∧ (type_of% @frz_zero))) ∧ (((type_of% @frz_succ) ∧ (type_of% @gT_tup)) ∧ ((type_of% @gT_ktp) ∧ (type_of% @gC_ap)))) := ⟨⟨⟨@or_false, @false_or⟩, ⟨@or_self, @frz_zero⟩⟩, ⟨⟨@frz_succ, @gT_tup⟩, ⟨@gT_ktp, @gC_ap⟩⟩⟩
theorem ev22 : ((((type_of% @gE_nil) ∧ (type_of% @cast_0)) ∧ ((type_of% @cast_1) ∧ (type_of% @cast_2))) ∧ (((type_of% @cast_3) ∧ (type_of% @cast_4)) ∧ ((type_of% @cast_5) ∧ (type_of% @cast_6)))) := ⟨⟨⟨@gE_nil, @cast_0⟩, ⟨@cast_1, @cast_2⟩⟩, ⟨⟨@cast_3, @cast_4⟩, ⟨@cast_5, @cast_6⟩⟩⟩
theorem ev23 : ((((type_of% @cast_7) ∧ (type_of% @cast_8)) ∧ ((type_of% @cast_9) ∧ (type_of% @ty_bs))) ∧ (((type_of% @ty_is) ∧ (type_of% @frz_zeroV)) ∧ ((type_of% @oOfR_o) ∧ (type_of% @ap_lenO)))) := ⟨⟨⟨@cast_7, @cast_8⟩, ⟨@cast_9, @ty_bs⟩⟩, ⟨⟨@ty_is, @frz_zeroV⟩, ⟨@oOfR_o, @ap_lenO⟩⟩⟩
theorem ev24 : ((((type_of% @ap_ixO) ∧ (type_of% @tOf_some)) ∧ ((type_of% @pOf_fn) ∧ (type_of% @ap_P))) ∧ (((type_of% @ap_iZT) ∧ (type_of% @itZT_ok)) ∧ ((type_of% @zipD_cons) ∧ (type_of% @zipD_nil)))) := ⟨⟨⟨@ap_ixO, @tOf_some⟩, ⟨@pOf_fn, @ap_P⟩⟩, ⟨⟨@ap_iZT, @itZT_ok⟩, ⟨@zipD_cons, @zipD_nil⟩⟩⟩
theorem ev25 : ((((type_of% @str_i) ∧ (type_of% @oOfS_o)) ∧ ((type_of% @set_ints) ∧ (type_of% @thenW_nx))) ∧ (((type_of% @thenW_ct) ∧ (type_of% @thenW_bk)) ∧ ((type_of% @thenW_rt) ∧ (type_of% @thenW_exc)))) := ⟨⟨⟨@str_i, @oOfS_o⟩, ⟨@set_ints, @thenW_nx⟩⟩, ⟨⟨@thenW_ct, @thenW_bk⟩, ⟨@thenW_rt, @thenW_exc⟩⟩⟩
theorem ev26 : ((((type_of% @ix_m) ∧ (type_of% @len_m)) ∧ ((type_of% @ap_MM) ∧ (type_of% @pop0_m))) ∧ (((type_of% @mapp_m) ∧ (type_of% @ap_cell)) ∧ ((type_of% @setM_m) ∧ (type_of% @ap_meth)))) := ⟨⟨⟨@ix_m, @len_m⟩, ⟨@ap_MM, @pop0_m⟩⟩, ⟨⟨@mapp_m, @ap_cell⟩, ⟨@setM_m, @ap_meth⟩⟩⟩
theorem ev27 : ((((type_of% @ap_lmeth) ∧ (type_of% @ap_make)) ∧ ((type_of% @ap_makeK) ∧ (type_of% @tup_k))) ∧ (((type_of% @list_k) ∧ (type_of% @ap_MM0)) ∧ ((type_of% @mpop_m) ∧ (type_of% @mext_l)))) := ⟨⟨⟨@ap_lmeth, @ap_make⟩, ⟨@ap_makeK, @tup_k⟩⟩, ⟨⟨@list_k, @ap_MM0⟩, ⟨@mpop_m, @mext_l⟩⟩⟩
theorem ev28 : ((((type_of% @rdL_l) ∧ (type_of% @rdW_l)) ∧ ((type_of% @ap_catM) ∧ (type_of% @ap_slM))) ∧ (((type_of% @ap_inM) ∧ (type_of% @ap_ninM)) ∧ ((type_of% @ap_dnew) ∧ (type_of% @ap_gnin)))) := ⟨⟨⟨@rdL_l, @rdW_l⟩, ⟨@ap_catM, @ap_slM⟩⟩, ⟨⟨@ap_inM, @ap_ninM⟩, ⟨@ap_dnew, @ap_gnin⟩⟩⟩
theorem ev29 : ((((type_of% @ap_get2) ∧ (type_of% @ap_get1)) ∧ ((type_of% @key_i) ∧ (type_of% @key_s))) ∧ (((type_of% @atI_0) ∧ (type_of% @atI_1)) ∧ ((type_of% @atI_2) ∧ (type_of% @atI_3)))) := ⟨⟨⟨@ap_get2, @ap_get1⟩, ⟨@key_i, @key_s⟩⟩, ⟨⟨@atI_0, @atI_1⟩, ⟨@atI_2, @atI_3⟩⟩⟩
theorem ev30 : ((((type_of% @atI_4) ∧ (type_of% @atI_5)) ∧ ((type_of% @atI_6) ∧ (type_of% @atI_7))) ∧ (((type_of% @atI_8) ∧ (type_of% @atI_9)) ∧ ((type_of% @atI_10) ∧ (type_of% @atI_11)))) := ⟨⟨⟨@atI_4, @atI_5⟩, ⟨@atI_6, @atI_7⟩⟩, ⟨⟨@atI_8, @atI_9⟩, ⟨@atI_10, @atI_11⟩⟩⟩
theorem ev31 : ((((type_of% @atI_12) ∧ (type_of% @ixL_0)) ∧ ((type_of% @ixL_1) ∧ (type_of% @ixL_2))) ∧ (((type_of% @ixL_3) ∧ (type_of% @ixL_4)) ∧ ((type_of% @ixL_5) ∧ (type_of% @ixL_6)))) := ⟨⟨⟨@atI_12, @ixL_0⟩, ⟨@ixL_1, @ixL_2⟩⟩, ⟨⟨@ixL_3, @ixL_4⟩, ⟨@ixL_5, @ixL_6⟩⟩⟩
theorem ev32 : ((((type_of% @ixL_7) ∧ (type_of% @ixL_8)) ∧ ((type_of% @ixL_9) ∧ (type_of% @ixL_10))) ∧ (((type_of% @ixL_11) ∧ (type_of% @ixL_12)) ∧ ((type_of% @atI_m1) ∧ (type_of% @atI_m)))) := ⟨⟨⟨@ixL_7, @ixL_8⟩, ⟨@ixL_9, @ixL_10⟩⟩, ⟨⟨@ixL_11, @ixL_12⟩, ⟨@atI_m1, @atI_m⟩⟩⟩
theorem ev33 : ((((type_of% @ixL_m1) ∧ (type_of% @ixL_m)) ∧ ((type_of% @setX_0) ∧ (type_of% @setX_1))) ∧ (((type_of% @setX_2) ∧ (type_of% @ixO_0)) ∧ ((type_of% @ixO_1) ∧ (type_of% @ixO_2)))) := ⟨⟨⟨@ixL_m1, @ixL_m⟩, ⟨@setX_0, @setX_1⟩⟩, ⟨⟨@setX_2, @ixO_0⟩, ⟨@ixO_1, @ixO_2⟩⟩⟩
theorem ev34 : ((((type_of% @mulS_i) ∧ (type_of% @slA_none)) ∧ ((type_of% @slB_none) ∧ (type_of% @ap_mA))) ∧ (((type_of% @mA_l) ∧ (type_of% @ap_mL)) ∧ ((type_of% @ap_iEn) ∧ (type_of% @ap_iEnT)))) := ⟨⟨⟨@mulS_i, @slA_none⟩, ⟨@slB_none, @ap_mA⟩⟩, ⟨⟨@mA_l, @ap_mL⟩, ⟨@ap_iEn, @ap_iEnT⟩⟩⟩
theorem ev35 : ((((type_of% @itEn_l) ∧ (type_of% @itEnT_t)) ∧ ((type_of% @ap_lcM) ∧ (type_of% @isB_b))) ∧ (((type_of% @notB_b) ∧ (type_of% @isnt_bl)) ∧ ((type_of% @noExn_nil) ∧ (type_of% @noExn_v)))) := ⟨⟨⟨@itEn_l, @itEnT_t⟩, ⟨@ap_lcM, @isB_b⟩⟩, ⟨⟨@notB_b, @isnt_bl⟩, ⟨@noExn_nil, @noExn_v⟩⟩⟩
theorem ev36 : ((((type_of% @noExn_o) ∧ (type_of% @noExn_u)) ∧ ((type_of% @putU_s) ∧ (type_of% @putU_n))) ∧ (((type_of% @dropU_s) ∧ (type_of% @dropU_n)) ∧ ((type_of% @oD_s) ∧ (type_of% @ap_xf)))) := ⟨⟨⟨@noExn_o, @noExn_u⟩, ⟨@putU_s, @putU_n⟩⟩, ⟨⟨@dropU_s, @dropU_n⟩, ⟨@oD_s, @ap_xf⟩⟩⟩
theorem ev37 : ((((type_of% @xOf_e) ∧ (type_of% @ap_isx)) ∧ ((type_of% @oB_s) ∧ (type_of% @isxOf_e))) ∧ (((type_of% @lku_hd) ∧ (type_of% @x0_ap)) ∧ ((type_of% @y0_ap) ∧ (type_of% @List.zip_cons_cons.{0, 0})))) := ⟨⟨⟨@xOf_e, @ap_isx⟩, ⟨@oB_s, @isxOf_e⟩⟩, ⟨⟨@lku_hd, @x0_ap⟩, ⟨@y0_ap, @List.zip_cons_cons.{0, 0}⟩⟩⟩
theorem ev38 : ((type_of% @List.zip_nil_left.{0, 0}) ∧ (type_of% @ap_disp)) := ⟨@List.zip_nil_left.{0, 0}, @ap_disp⟩
theorem eq0 : ((((type_of% @sq_nx) ∧ (type_of% @sq_sq)) ∧ ((type_of% @sq_a) ∧ (type_of% @sq_o))) ∧ (((type_of% @sq_x) ∧ (type_of% @sq_if)) ∧ ((type_of% @sq_ret) ∧ (type_of% @sq_retL)))) := ⟨⟨⟨@sq_nx, @sq_sq⟩, ⟨@sq_a, @sq_o⟩⟩, ⟨⟨@sq_x, @sq_if⟩, ⟨@sq_ret, @sq_retL⟩⟩⟩
theorem eq1 : ((((type_of% @sq_retO) ∧ (type_of% @sq_app)) ∧ ((type_of% @sq_ext) ∧ (type_of% @sq_aug))) ∧ (((type_of% @sq_g) ∧ (type_of% @sq_frz)) ∧ ((type_of% @sq_br) ∧ (type_of% @sq_ct)))) := ⟨⟨⟨@sq_retO, @sq_app⟩, ⟨@sq_ext, @sq_aug⟩⟩, ⟨⟨@sq_g, @sq_frz⟩, ⟨@sq_br, @sq_ct⟩⟩⟩
theorem eq2 : ((((type_of% @sq_raise) ∧ (type_of% @sq_for)) ∧ ((type_of% @sq_wh) ∧ (type_of% @sq_set))) ∧ (((type_of% @sq_mset) ∧ (type_of% @sq_fd)) ∧ ((type_of% @sq_fdAug) ∧ (type_of% @sq_kput)))) := ⟨⟨⟨@sq_raise, @sq_for⟩, ⟨@sq_wh, @sq_set⟩⟩, ⟨⟨@sq_mset, @sq_fd⟩, ⟨@sq_fdAug, @sq_kput⟩⟩⟩
theorem eq3 : ((((type_of% @sq_kdel) ∧ (type_of% @sq_putSl)) ∧ (type_of% @sq_delSl)) ∧ (((type_of% @sq_forM) ∧ (type_of% @sq_tryN)) ∧ (type_of% @sq_try))) := ⟨⟨⟨@sq_kdel, @sq_putSl⟩, @sq_delSl⟩, ⟨⟨@sq_forM, @sq_tryN⟩, @sq_try⟩⟩
theorem pa0 : ((((type_of% @at_ok) ∧ (type_of% @at_bad)) ∧ ((type_of% @at_exc) ∧ (type_of% @at_bind))) ∧ (((type_of% @at_ite) ∧ (type_of% @atS_nx)) ∧ ((type_of% @atS_rt) ∧ (type_of% @atS_ite)))) := ⟨⟨⟨@at_ok, @at_bad⟩, ⟨@at_exc, @at_bind⟩⟩, ⟨⟨@at_ite, @atS_nx⟩, ⟨@atS_rt, @atS_ite⟩⟩⟩
theorem pa1 : ((((type_of% @atS_ofE) ∧ (type_of% @atS_then)) ∧ ((type_of% @at_endV) ∧ (type_of% @endP_v))) ∧ (((type_of% @endP_o) ∧ (type_of% @celI_i)) ∧ ((type_of% @celL_l) ∧ (type_of% @celK_k)))) := ⟨⟨⟨@atS_ofE, @atS_then⟩, ⟨@at_endV, @endP_v⟩⟩, ⟨⟨@endP_o, @celI_i⟩, ⟨@celL_l, @celK_k⟩⟩⟩
theorem pa2 : ((((type_of% @optP_s) ∧ (type_of% @at_fld)) ∧ ((type_of% @at_put) ∧ (type_of% @at_isI))) ∧ (((type_of% @at_noX) ∧ (type_of% @at_isNon)) ∧ ((type_of% @at_cNew) ∧ (type_of% @at_ix)))) := ⟨⟨⟨@optP_s, @at_fld⟩, ⟨@at_put, @at_isI⟩⟩, ⟨⟨@at_noX, @at_isNon⟩, ⟨@at_cNew, @at_ix⟩⟩⟩
theorem pa3 : ((((type_of% @at_clen) ∧ (type_of% @at_app)) ∧ ((type_of% @at_apps) ∧ (type_of% @at_popL))) ∧ (((type_of% @at_set) ∧ (type_of% @at_cl)) ∧ ((type_of% @at_tupm) ∧ (type_of% @at_listm)))) := ⟨⟨⟨@at_clen, @at_app⟩, ⟨@at_apps, @at_popL⟩⟩, ⟨⟨@at_set, @at_cl⟩, ⟨@at_tupm, @at_listm⟩⟩⟩
theorem pa4 : ((((type_of% @at_extm) ∧ (type_of% @at_rdm)) ∧ ((type_of% @at_rwm) ∧ (type_of% @at_gget))) ∧ (((type_of% @at_gin) ∧ (type_of% @at_isK)) ∧ ((type_of% @at_gget2) ∧ (type_of% @at_gput)))) := ⟨⟨⟨@at_extm, @at_rdm⟩, ⟨@at_rwm, @at_gget⟩⟩, ⟨⟨@at_gin, @at_isK⟩, ⟨@at_gget2, @at_gput⟩⟩⟩
theorem pa5 : ((((type_of% @at_gdel) ∧ (type_of% @at_putSl)) ∧ ((type_of% @at_delSl) ∧ (type_of% @at_mAm))) ∧ (((type_of% @at_mL) ∧ (type_of% @at_isiM)) ∧ ((type_of% @atS_exc) ∧ (type_of% @atW_exc)))) := ⟨⟨⟨@at_gdel, @at_putSl⟩, ⟨@at_delSl, @at_mAm⟩⟩, ⟨⟨@at_mL, @at_isiM⟩, ⟨@atS_exc, @atW_exc⟩⟩⟩
theorem pa6 : ((((type_of% @atW_bad) ∧ (type_of% @atS_bad)) ∧ ((type_of% @xTry_nil) ∧ (type_of% @xTry_cons))) ∧ (((type_of% @hdP_t) ∧ (type_of% @hdP_f)) ∧ ((type_of% @atS_tryN) ∧ (type_of% @atW_tryN)))) := ⟨⟨⟨@atW_bad, @atS_bad⟩, ⟨@xTry_nil, @xTry_cons⟩⟩, ⟨⟨@hdP_t, @hdP_f⟩, ⟨@atS_tryN, @atW_tryN⟩⟩⟩
theorem pa7 : ((((type_of% @A_ap_C) ∧ (type_of% @A_ap_V)) ∧ ((type_of% @A_ap_nil) ∧ (type_of% @A_ap_cons))) ∧ (((type_of% @A_ap_U) ∧ (type_of% @A_ap_B)) ∧ ((type_of% @A_ap_chain) ∧ (type_of% @A_ap_and)))) := ⟨⟨⟨@A_ap_C, @A_ap_V⟩, ⟨@A_ap_nil, @A_ap_cons⟩⟩, ⟨⟨@A_ap_U, @A_ap_B⟩, ⟨@A_ap_chain, @A_ap_and⟩⟩⟩
theorem pa8 : ((((type_of% @A_ap_or) ∧ (type_of% @A_ap_tup)) ∧ ((type_of% @A_ap_F) ∧ (type_of% @A_ap_M))) ∧ (((type_of% @A_ap_sl) ∧ (type_of% @A_ap_pN)) ∧ ((type_of% @A_ap_pS) ∧ (type_of% @A_ap_L)))) := ⟨⟨⟨@A_ap_or, @A_ap_tup⟩, ⟨@A_ap_F, @A_ap_M⟩⟩, ⟨⟨@A_ap_sl, @A_ap_pN⟩, ⟨@A_ap_pS, @A_ap_L⟩⟩⟩
theorem pa9 : ((((type_of% @A_ap_tE) ∧ (type_of% @A_ap_tAn)) ∧ ((type_of% @A_ap_tO) ∧ (type_of% @A_ap_tN))) ∧ (((type_of% @A_ap_tY) ∧ (type_of% @A_ap_if)) ∧ ((type_of% @A_ap_lD) ∧ (type_of% @A_ap_lF)))) := ⟨⟨⟨@A_ap_tE, @A_ap_tAn⟩, ⟨@A_ap_tO, @A_ap_tN⟩⟩, ⟨⟨@A_ap_tY, @A_ap_if⟩, ⟨@A_ap_lD, @A_ap_lF⟩⟩⟩
theorem pa10 : ((((type_of% @A_ap_lCat) ∧ (type_of% @A_ap_lRep)) ∧ ((type_of% @A_ap_lSl) ∧ (type_of% @A_ap_iD))) ∧ (((type_of% @A_ap_iT) ∧ (type_of% @A_ap_iS)) ∧ ((type_of% @A_ap_iR1) ∧ (type_of% @A_ap_lenO)))) := ⟨⟨⟨@A_ap_lCat, @A_ap_lRep⟩, ⟨@A_ap_lSl, @A_ap_iD⟩⟩, ⟨⟨@A_ap_iT, @A_ap_iS⟩, ⟨@A_ap_iR1, @A_ap_lenO⟩⟩⟩
theorem pa11 : ((((type_of% @A_ap_ixO) ∧ (type_of% @A_ap_P)) ∧ ((type_of% @A_ap_iZT) ∧ (type_of% @A_ap_MM))) ∧ (((type_of% @A_ap_cell) ∧ (type_of% @A_ap_meth)) ∧ ((type_of% @A_ap_lmeth) ∧ (type_of% @A_ap_make)))) := ⟨⟨⟨@A_ap_ixO, @A_ap_P⟩, ⟨@A_ap_iZT, @A_ap_MM⟩⟩, ⟨⟨@A_ap_cell, @A_ap_meth⟩, ⟨@A_ap_lmeth, @A_ap_make⟩⟩⟩
theorem pa12 : ((((type_of% @A_ap_makeK) ∧ (type_of% @A_ap_MM0)) ∧ ((type_of% @A_ap_catM) ∧ (type_of% @A_ap_slM))) ∧ (((type_of% @A_ap_inM) ∧ (type_of% @A_ap_ninM)) ∧ ((type_of% @A_ap_dnew) ∧ (type_of% @A_ap_gnin)))) := ⟨⟨⟨@A_ap_makeK, @A_ap_MM0⟩, ⟨@A_ap_catM, @A_ap_slM⟩⟩, ⟨⟨@A_ap_inM, @A_ap_ninM⟩, ⟨@A_ap_dnew, @A_ap_gnin⟩⟩⟩
theorem pa13 : ((((type_of% @A_ap_get2) ∧ (type_of% @A_ap_get1)) ∧ ((type_of% @A_ap_mA) ∧ (type_of% @A_ap_mL))) ∧ (((type_of% @A_ap_iEn) ∧ (type_of% @A_ap_iEnT)) ∧ ((type_of% @A_ap_lcM) ∧ (type_of% @A_ap_xf)))) := ⟨⟨⟨@A_ap_get2, @A_ap_get1⟩, ⟨@A_ap_mA, @A_ap_mL⟩⟩, ⟨⟨@A_ap_iEn, @A_ap_iEnT⟩, ⟨@A_ap_lcM, @A_ap_xf⟩⟩⟩
theorem pa14 : ((type_of% @A_ap_isx) ∧ (type_of% @A_ap_disp)) := ⟨@A_ap_isx, @A_ap_disp⟩
theorem ps0 : ((((type_of% @S_sq_nx) ∧ (type_of% @S_sq_sq)) ∧ ((type_of% @S_sq_a) ∧ (type_of% @S_sq_o))) ∧ (((type_of% @S_sq_x) ∧ (type_of% @S_sq_if)) ∧ ((type_of% @S_sq_ret) ∧ (type_of% @S_sq_retL)))) := ⟨⟨⟨@S_sq_nx, @S_sq_sq⟩, ⟨@S_sq_a, @S_sq_o⟩⟩, ⟨⟨@S_sq_x, @S_sq_if⟩, ⟨@S_sq_ret, @S_sq_retL⟩⟩⟩
theorem ps1 : ((((type_of% @S_sq_retO) ∧ (type_of% @S_sq_app)) ∧ ((type_of% @S_sq_ext) ∧ (type_of% @S_sq_aug))) ∧ (((type_of% @S_sq_g) ∧ (type_of% @S_sq_frz)) ∧ ((type_of% @S_sq_br) ∧ (type_of% @S_sq_ct)))) := ⟨⟨⟨@S_sq_retO, @S_sq_app⟩, ⟨@S_sq_ext, @S_sq_aug⟩⟩, ⟨⟨@S_sq_g, @S_sq_frz⟩, ⟨@S_sq_br, @S_sq_ct⟩⟩⟩
theorem ps2 : ((((type_of% @S_sq_raise) ∧ (type_of% @S_sq_for)) ∧ ((type_of% @S_sq_wh) ∧ (type_of% @S_sq_set))) ∧ (((type_of% @S_sq_mset) ∧ (type_of% @S_sq_fd)) ∧ ((type_of% @S_sq_fdAug) ∧ (type_of% @S_sq_kput)))) := ⟨⟨⟨@S_sq_raise, @S_sq_for⟩, ⟨@S_sq_wh, @S_sq_set⟩⟩, ⟨⟨@S_sq_mset, @S_sq_fd⟩, ⟨@S_sq_fdAug, @S_sq_kput⟩⟩⟩
theorem ps3 : ((((type_of% @S_sq_kdel) ∧ (type_of% @S_sq_putSl)) ∧ (type_of% @S_sq_delSl)) ∧ (((type_of% @S_sq_forM) ∧ (type_of% @S_sq_tryN)) ∧ (type_of% @S_sq_try))) := ⟨⟨⟨@S_sq_kdel, @S_sq_putSl⟩, @S_sq_delSl⟩, ⟨⟨@S_sq_forM, @S_sq_tryN⟩, @S_sq_try⟩⟩
theorem pw0 : ((((type_of% @W_sq_nx) ∧ (type_of% @W_sq_sq)) ∧ ((type_of% @W_sq_a) ∧ (type_of% @W_sq_o))) ∧ (((type_of% @W_sq_x) ∧ (type_of% @W_sq_if)) ∧ ((type_of% @W_sq_ret) ∧ (type_of% @W_sq_retL)))) := ⟨⟨⟨@W_sq_nx, @W_sq_sq⟩, ⟨@W_sq_a, @W_sq_o⟩⟩, ⟨⟨@W_sq_x, @W_sq_if⟩, ⟨@W_sq_ret, @W_sq_retL⟩⟩⟩
theorem pw1 : ((((type_of% @W_sq_retO) ∧ (type_of% @W_sq_app)) ∧ ((type_of% @W_sq_ext) ∧ (type_of% @W_sq_aug))) ∧ (((type_of% @W_sq_g) ∧ (type_of% @W_sq_frz)) ∧ ((type_of% @W_sq_br) ∧ (type_of% @W_sq_ct)))) := ⟨⟨⟨@W_sq_retO, @W_sq_app⟩, ⟨@W_sq_ext, @W_sq_aug⟩⟩, ⟨⟨@W_sq_g, @W_sq_frz⟩, ⟨@W_sq_br, @W_sq_ct⟩⟩⟩
theorem pw2 : ((((type_of% @W_sq_raise) ∧ (type_of% @W_sq_for)) ∧ ((type_of% @W_sq_wh) ∧ (type_of% @W_sq_set))) ∧ (((type_of% @W_sq_mset) ∧ (type_of% @W_sq_fd)) ∧ ((type_of% @W_sq_fdAug) ∧ (type_of% @W_sq_kput)))) := ⟨⟨⟨@W_sq_raise, @W_sq_for⟩, ⟨@W_sq_wh, @W_sq_set⟩⟩, ⟨⟨@W_sq_mset, @W_sq_fd⟩, ⟨@W_sq_fdAug, @W_sq_kput⟩⟩⟩
theorem pw3 : ((((type_of% @W_sq_kdel) ∧ (type_of% @W_sq_putSl)) ∧ (type_of% @W_sq_delSl)) ∧ (((type_of% @W_sq_forM) ∧ (type_of% @W_sq_tryN)) ∧ (type_of% @W_sq_try))) := ⟨⟨⟨@W_sq_kdel, @W_sq_putSl⟩, @W_sq_delSl⟩, ⟨⟨@W_sq_forM, @W_sq_tryN⟩, @W_sq_try⟩⟩
theorem pl0 : ((((type_of% @wp_nil) ∧ (type_of% @wp_cons)) ∧ ((type_of% @at_lLc) ∧ (type_of% @at_lc_nil))) ∧ (((type_of% @at_lc_cons) ∧ (type_of% @atS_for_nil)) ∧ ((type_of% @atS_for_cons) ∧ (type_of% @atS_W)))) := ⟨⟨⟨@wp_nil, @wp_cons⟩, ⟨@at_lLc, @at_lc_nil⟩⟩, ⟨⟨@at_lc_cons, @atS_for_nil⟩, ⟨@atS_for_cons, @atS_W⟩⟩⟩
theorem pl1 : ((((type_of% @atW_nx) ∧ (type_of% @atW_bk)) ∧ ((type_of% @atW_ct) ∧ (type_of% @atW_rt))) ∧ (((type_of% @atW_ite) ∧ (type_of% @atW_ofE)) ∧ ((type_of% @atW_then) ∧ (type_of% @atW_W)))) := ⟨⟨⟨@atW_nx, @atW_bk⟩, ⟨@atW_ct, @atW_rt⟩⟩, ⟨⟨@atW_ite, @atW_ofE⟩, ⟨@atW_then, @atW_W⟩⟩⟩
theorem pl2 : ((type_of% @atW_for_nil) ∧ (type_of% @atW_for_cons)) := ⟨@atW_for_nil, @atW_for_cons⟩
end Dm
set_option Elab.async false
set_option linter.all false
set_option checkBinderAnnotations false
set_option maxRecDepth 100000
set_option maxHeartbeats 4000000
/-! Dg: walks over lists as a whole: a comprehension is a filterMap, a loop that looks for something finds the first. -/
namespace Dm
open PySem L2
section
variable {α : Type} {xc : XC} {r : R α} {s s2 : Sto} {o : Rs α} {v : α} {c0 : Nat} {f0 : List (Str × D)}
/-- a run to a given end -/
theorem at_of (h : @At (fun c fs t => o = .exc c fs t) _ r s fun d t => o = .ok d t) : r s = o := by
  unfold At at h
  cases q : r s with
  | ok d t => rw [q] at h; exact h.symm
  | exc c fs t => rw [q] at h; exact h.symm
  | bad => rw [q] at h; exact h.elim
theorem at_run (h : r s = o) (P : α → Sto → Prop) : @At xc _ r s P = @rsA xc _ o P := by
  unfold At
  rw [h]
  rfl
theorem rs_exc {P : α → Sto → Prop} : @rsA xc _ (.exc c0 f0 s2 : Rs α) P = xc c0 f0 s2 := (rfl)
theorem run_ok (h : r s = .ok v s2) (P : α → Sto → Prop) : @At xc _ r s P = P v s2 := at_run h P
theorem run_exc (h : r s = .exc c0 f0 s2) (P : α → Sto → Prop) : @At xc _ r s P = xc c0 f0 s2 := at_run h P
theorem at_det (h : @At x0 _ r s fun e t => e = v ∧ t = s2) (P : α → Sto → Prop) : @At xc _ r s P = P v s2 := by
  unfold At at h ⊢
  cases q : r s with
  | ok d t =>
    rw [q] at h
    obtain ⟨rfl, rfl⟩ := h
    rfl
  | exc c fs t => rw [q] at h; exact h.elim
  | bad => rw [q] at h; exact h.elim
theorem at_detX (h : @At (fun c fs t => c = c0 ∧ fs = f0 ∧ t = s2) _ r s fun _ _ => False) (P : α → Sto → Prop) : @At xc _ r s P = xc c0 f0 s2 := by
  unfold At at h ⊢
  cases q : r s with
  | ok d t => rw [q] at h; exact h.elim
  | exc c fs t =>
    rw [q] at h
    obtain ⟨rfl, rfl, rfl⟩ := h
    rfl
  | bad => rw [q] at h; exact h.elim
/-- an end out of several -/
theorem at_some {Q : α → Sto → Prop} (h : @At x0 _ r s Q) : ∃ v s2, Q v s2 ∧ ∀ (xc : XC) (P : α → Sto → Prop), @At xc _ r s P = P v s2 := by
  unfold At at h
  cases q : r s with
  | ok d t => rw [q] at h; exact ⟨d, t, h, fun _ P => run_ok q P⟩
  | exc c fs t => rw [q] at h; exact h.elim
  | bad => rw [q] at h; exact h.elim
end
section
variable {xc : XC} {xd : XS} {s : Sto} {g : SG} {t : ST} {e : SE} {env : Dm.Env}
/-- one turn of a comprehension: f tells what is taken -/
def LcTurn (g : SG) (t : ST) (e : SE) (env : Dm.Env) (s : Sto) (x : D) (y : Option D) : Prop := ∀ PK : Option D → Sto → Prop, (@optP _ (g x env) fun env2 => @At x0 _ (t env2) s fun k s1 => if k = true then @At x0 _ (e env2) s1 fun z s2 => PK (some z) s2 else PK none s1) = PK y s
theorem at_lc_map (f : D → Option D) : ∀ (xs acc : List D), (∀ x ∈ xs, LcTurn g t e env s x (f x)) → ∀ PL : List D → Sto → Prop, @At xc _ (lcGo g t e env xs acc) s PL = PL (acc ++ xs.filterMap f) s
  | [], acc, _, PL => by rw [at_lc_nil, List.filterMap_nil, List.append_nil]
  | x :: xs, acc, h, PL => by
    have ih := fun acc => at_lc_map f xs acc (fun y hy => h y (List.mem_cons_of_mem _ hy)) PL
    have q := h x List.mem_cons_self fun o s2 => match o with
      | some z => @At xc _ (lcGo g t e env xs (acc ++ [z])) s2 PL
      | none => @At xc _ (lcGo g t e env xs acc) s2 PL
    rw [at_lc_cons, List.filterMap_cons]
    refine q.trans ?_
    cases hx : f x with
    | none => exact ih acc
    | some z => exact (ih (acc ++ [z])).trans (by rw [List.append_assoc]; rfl)
theorem at_lcM_map {src : Src} {xs : List D} (hs : ∀ i, src i s = some xs[i]?) (f : D → Option D) (h : ∀ x ∈ xs, LcTurn g t e env s x (f x)) : ∀ (q i : Nat) (acc : List D), i ≤ xs.length → xs.length < q + i → ∀ PL : List D → Sto → Prop, @At xc _ (lcMGo src g t e env q i acc) s PL = PL (acc ++ (xs.drop i).filterMap f) s
  | 0, i, acc, hl, hq, PL => absurd hq (by omega)
  | q + 1, i, acc, hl, hq, PL => by
    rw [at_lcM, hs i]
    cases hx : xs[i]? with
    | none => rw [srcP_n, List.drop_eq_nil_of_le (List.getElem?_eq_none_iff.mp hx), List.filterMap_nil, List.append_nil]
    | some x =>
      obtain ⟨hi, rfl⟩ := List.getElem?_eq_some_iff.mp hx
      have ih := fun acc => at_lcM_map hs f h q (i + 1) acc hi (by omega) PL
      have z := h _ (List.getElem_mem hi) fun o s2 => match o with
        | some z => @At xc _ (lcMGo src g t e env q (i + 1) (acc ++ [z])) s2 PL
        | none => @At xc _ (lcMGo src g t e env q (i + 1) acc) s2 PL
      rw [srcP_s, List.drop_eq_getElem_cons hi, List.filterMap_cons]
      refine z.trans ?_
      cases hf : f xs[i] with
      | none => exact ih acc
      | some y => exact (ih (acc ++ [y])).trans (by rw [List.append_assoc]; rfl)
/-- a loop over a list that looks for something: f tells what is handed back -/
def FindTurn (g : SG) (b : SS) (I : Dm.Env → Prop) (s : Sto) (x : D) (y : Option D) : Prop := ∀ env, I env → ∃ e2 e3, g x env = some e2 ∧ I e3 ∧ ∀ (xd : XS) N B C T, @AtW xd (b e2) s N B C T = (match y with | some v => T (.val v) s | none => N e3 s)
theorem atS_forM_find {src : Src} {b : SS} {xs : List D} (hs : ∀ i, src i s = some xs[i]?) (I : Dm.Env → Prop) (f : D → Option D) (h : ∀ x ∈ xs, FindTurn g b I s x (f x)) {N : Dm.Env → Sto → Prop} {T : Sl → Sto → Prop} : ∀ (q i : Nat) (env : Dm.Env), I env → i ≤ xs.length → xs.length < q + i →
    (∀ v, (xs.drop i).findSome? f = some v → T (.val v) s) → ((xs.drop i).findSome? f = none → ∀ e, I e → N e s) → @AtS xd (forMGo src g b q i env) s N T
  | 0, i, env, _, hl, hq, _, _ => absurd hq (by omega)
  | q + 1, i, env, hI, hl, hq, hT, hN => by
    have e0 : forMGo src g b (q + 1) i env s = (match src i s with
      | none => RSr.bad
      | some none => RSr.nx env s
      | some (some d) => ofG (g d env) (fun e2 => thenW (b e2) (forMGo src g b q (i + 1))) s) := rfl
    cases hx : xs[i]? with
    | none =>
      rw [hs i, hx] at e0
      have := hN (by rw [List.drop_eq_nil_of_le (List.getElem?_eq_none_iff.mp hx)]; rfl) env hI
      unfold AtS
      rw [e0]
      exact this
    | some x =>
      rw [hs i, hx] at e0
      obtain ⟨hi, rfl⟩ := List.getElem?_eq_some_iff.mp hx
      obtain ⟨e2, e3, h1, h2, h3⟩ := h _ (List.getElem_mem hi) env hI
      replace e0 : forMGo src g b (q + 1) i env s = ofG (g xs[i] env) (fun e2 => thenW (b e2) (forMGo src g b q (i + 1))) s := e0
      rw [h1] at e0
      have e1 : @AtS xd (forMGo src g b (q + 1) i env) s N T = @AtS xd (thenW (b e2) (forMGo src g b q (i + 1))) s N T := by
        unfold AtS
        rw [e0]
        rfl
      rw [e1, atS_W, h3]
      rw [List.drop_eq_getElem_cons hi, List.findSome?_cons] at hT hN
      cases hf : f xs[i] with
      | some v =>
        rw [hf] at hT
        exact hT v rfl
      | none =>
        rw [hf] at hT hN
        exact atS_forM_find hs I f h q (i + 1) e3 h2 hi (by omega) hT hN
theorem srcL_all {n : Nat} {xs : List D} (h : s[n]? = some (.lst xs)) (i : Nat) : srcL n i s = some xs[i]? := by
  unfold srcL
  rw [h]
theorem srcC_all {xs : List D} (i : Nat) : srcC xs i s = some xs[i]? := rfl
end
/-! what raises: at a store -/
theorem at_ofE {α : Type} {r : R α} {env : Dm.Env} {k : α → RS} {s t : Sto} {v : α} (h : r s = .ok v t) : ofE r env k s = k v t := by
  unfold ofE
  rw [h]
end Dm
set_option Elab.async false
set_option linter.all false
set_option maxRecDepth 100000
set_option maxHeartbeats 4000000

namespace Lk40
open PySem L2 Dm
def d_PAGE : D := .int (65536)
theorem dc : d_PAGE = .int (65536) := (rfl)
def b_l_tape_1 : SS :=
  (sSeq (sIf (tE (eB dGt (eV 3) (eC (.int 0)))) (sSeq (sApp 1 (eB dMod (eF fInt (eCons (eV 3) eNil)) (eC (.int 1000))))
  (sSeq (sA 3 (eB dDiv (eV 3) (eC (.int 1000))))
  sNx)) sNx)
  sNx)
def b_l_tape_2 : SS :=
  (sSeq (sA 5 (eB dMod (eF fInt (eCons (eB dAdd (eB dAdd (eB dMul (eV 3) (eC (.int 48271))) (eB dMul (eV 4) (eC (.int 40503)))) (eC (.int 11))) eNil)) (eC (.int 2147483629))))
  (sSeq (sApp 1 (eB dMod (eF fInt (eCons (eB dAdd (eB dMul (eV 5) (eC (.int 69621))) (eB dDiv (eV 5) (eC (.int 65536)))) eNil)) (eC (.int 2147483629))))
  sNx))
def b_l_tape_3 : SS :=
  (sSeq (sA 3 (eB dMul (eC (.int 2)) (eF fInt (eCons (eV 2) eNil))))
  (sSeq (sIf (tE (eB dLt (eV 3) (eC (.int 0)))) (sSeq (sA 3 (eB dSub (eU dNeg (eC (.int 1))) (eV 3)))
  sNx) sNx)
  (sSeq (sIf (tE (eB dGe (eV 3) (eB dPow (eC (.int 10)) (eC (.int 18))))) (sSeq (sFor (iR1 (eCons (eC (.int 40)) eNil)) (gN 4) b_l_tape_1)
  sNx) (sSeq (sFor (iR1 (eCons (eC (.int 3)) eNil)) (gN 4) b_l_tape_2)
  sNx))
  sNx)))
def b_l_tape : SS :=
  (sSeq (sO 1 (lD eNil))
  (sSeq (sFor (iD (eV 0)) (gN 2) b_l_tape_3)
  (sSeq (sFrz 1 (sRet (eV 1)))
  sNx)))
def m_l_tape : List D → R D := defV 1 5 b_l_tape
theorem e_l_tape (x0 : D) : m_l_tape [x0] = endV (b_l_tape [.val x0, .un, .un, .un, .un, .un]) := defV_ap rfl
def b_l_draw : SS :=
  (sSeq (sIf (tE (eB dLt (eV 1) (eF fLen (eCons (eV 0) eNil)))) (sSeq (sRet (eB dMod (eF fInt (eCons (eB dIx (eV 0) (eV 1)) eNil)) (eV 2)))
  sNx) sNx)
  (sSeq (sA 3 (eC (.int 1)))
  (sSeq (sIf (tE (eB dGt (eF fLen (eCons (eV 0) eNil)) (eC (.int 0)))) (sSeq (sA 3 (eB dIx (eV 0) (eB dMod (eF fInt (eCons (eV 1) eNil)) (eF fLen (eCons (eV 0) eNil)))))
  sNx) sNx)
  (sSeq (sRet (eB dMod (eB dMod (eF fInt (eCons (eB dAdd (eB dMul (eB dMul (eB dAdd (eV 3) (eV 1)) (eB dAdd (eV 1) (eC (.int 3)))) (eC (.int 7919))) (eB dMul (eV 1) (eC (.int 104729)))) eNil)) (eC (.int 65521))) (eV 2)))
  sNx))))
def m_l_draw : List D → R D := defV 3 1 b_l_draw
theorem e_l_draw (x0 x1 x2 : D) : m_l_draw [x0, x1, x2] = endV (b_l_draw [.val x0, .val x1, .val x2, .un]) := defV_ap rfl
def b_l_is_int : SS :=
  (sSeq (sRet (eAnd (eU (dIsi .int) (eV 0)) (eU dNot (eU (dIsi .bool) (eV 0)))))
  sNx)
def m_l_is_int : List D → R D := defV 1 0 b_l_is_int
theorem e_l_is_int (x0 : D) : m_l_is_int [x0] = endV (b_l_is_int [.val x0]) := defV_ap rfl
def b_l_same_ints_1 : SS :=
  (sSeq (sIf (tO (tN (tE (eF m_l_is_int (eCons (eB dIx (eV 0) (eV 2)) eNil)))) (tE (eB dNe (eB dIx (eV 0) (eV 2)) (eB dIx (eV 1) (eV 2))))) (sSeq (sRet (eC (.bl false)))
  sNx) sNx)
  sNx)
def b_l_same_ints : SS :=
  (sSeq (sIf (tO (tN (tE (eU (dIsiM .list) (eV 0)))) (tE (eB dNe (eF fLen (eCons (eV 0) eNil)) (eF fLen (eCons (eV 1) eNil))))) (sSeq (sRet (eC (.bl false)))
  sNx) sNx)
  (sSeq (sFor (iR1 (eCons (eF fLen (eCons (eV 1) eNil)) eNil)) (gN 2) b_l_same_ints_1)
  (sSeq (sRet (eC (.bl true)))
  sNx)))
def m_l_same_ints : List D → R D := defV 2 1 b_l_same_ints
theorem e_l_same_ints (x0 x1 : D) : m_l_same_ints [x0, x1] = endV (b_l_same_ints [.val x0, .val x1, .un]) := defV_ap rfl
def b_l_place : SS :=
  (sSeq (sA 4 (eF m_l_draw (eCons (eV 0) (eCons (eV 1) (eCons (eC (.int 8)) eNil)))))
  (sSeq (sIf (tE (eB dEq (eV 4) (eC (.int 0)))) (sSeq (sRet (eC (.int 0)))
  sNx) sNx)
  (sSeq (sIf (tE (eB dEq (eV 4) (eC (.int 1)))) (sSeq (sRet (eV 2))
  sNx) sNx)
  (sSeq (sIf (tE (eB dEq (eV 4) (eC (.int 2)))) (sSeq (sRet (eF fMin2 (eCons (eV 2) (eCons (eB dSub (eC (.int 65536)) (eC (.int 3))) eNil))))
  sNx) sNx)
  (sSeq (sIf (tE (eB dLt (eV 4) (eC (.int 6)))) (sSeq (sRet (eF fMax2 (eCons (eC (.int 0)) (eCons (eF fMin2 (eCons (eV 2) (eCons (eB dSub (eB dAdd (eV 3) (eF m_l_draw (eCons (eV 0) (eCons (eB dAdd (eV 1) (eC (.int 1))) (eCons (eC (.int 41)) eNil))))) (eC (.int 20))) eNil))) eNil))))
  sNx) sNx)
  (sSeq (sRet (eB dMod (eF fInt (eCons (eB dAdd (eB dMul (eF m_l_draw (eCons (eV 0) (eCons (eB dAdd (eV 1) (eC (.int 1))) (eCons (eC (.int 1000)) eNil)))) (eC (.int 1000))) (eF m_l_draw (eCons (eV 0) (eCons (eB dAdd (eV 1) (eC (.int 2))) (eCons (eC (.int 1000)) eNil))))) eNil)) (eB dAdd (eV 2) (eC (.int 1)))))
  sNx))))))
def m_l_place : List D → R D := defV 4 1 b_l_place
theorem e_l_place (x0 x1 x2 x3 : D) : m_l_place [x0, x1, x2, x3] = endV (b_l_place [.val x0, .val x1, .val x2, .val x3, .un]) := defV_ap rfl
def b_l_byte : SS :=
  (sSeq (sA 2 (eF m_l_draw (eCons (eV 0) (eCons (eV 1) (eCons (eC (.int 1000)) eNil)))))
  (sSeq (sIf (tE (eB dLt (eV 2) (eC (.int 256)))) (sSeq (sRet (eV 2))
  sNx) sNx)
  (sSeq (sIf (tE (eB dLt (eV 2) (eC (.int 600)))) (sSeq (sRet (eC (.int 0)))
  sNx) sNx)
  (sSeq (sRet (eB dMod (eF fInt (eCons (eV 2) eNil)) (eC (.int 256))))
  sNx))))
def m_l_byte : List D → R D := defV 2 1 b_l_byte
theorem e_l_byte (x0 x1 : D) : m_l_byte [x0, x1] = endV (b_l_byte [.val x0, .val x1, .un]) := defV_ap rfl
def b_Memory_read : SS :=
  (sSeq (sRet (eCell (lLc (iR1 (eCons (eV 2) eNil)) (gN 3) tY (eGet2 (eU (dFld 3002 2) (eV 0)) (eB dAdd (eV 1) (eV 3)) (eC (.int 0))) [3])))
  sNx)
def m_Memory_read : List D → R D := defV 3 1 b_Memory_read
theorem e_Memory_read (x0 x1 x2 : D) : m_Memory_read [x0, x1, x2] = endV (b_Memory_read [.val x0, .val x1, .val x2, .un]) := defV_ap rfl
def b_l_window : SS :=
  (sSeq (sA 5 (eF fMax2 (eCons (eC (.int 0)) (eCons (eB dSub (eV 2) (eC (.int 5))) eNil))))
  (sSeq (sA 6 (eF fMin2 (eCons (eV 4) (eCons (eB dAdd (eB dAdd (eV 2) (eV 3)) (eC (.int 5))) eNil))))
  (sSeq (sA 7 (eMeth 3002 m_Memory_read (eV 0) (eCons (eV 5) (eCons (eB dSub (eV 6) (eV 5)) eNil))))
  (sSeq (sA 8 (eL (lLc (iR2W (eCons (eV 5) (eCons (eV 6) eNil))) (gN 9) tY (eGet2 (eV 1) (eV 9) (eC (.int 0))) [9])))
  (sSeq (sIf (tN (tE (eF m_l_same_ints (eCons (eV 7) (eCons (eV 8) eNil))))) (sSeq (sRet (eC (.bl false)))
  sNx) sNx)
  (sSeq (sX (eMM mApp (eV 7) (eCons (eC (.int 7)) eNil)))
  (sSeq (sMSet (eV 7) (eC (.int 0)) (eC (.int 77)))
  (sSeq (sRet (eF m_l_same_ints (eCons (eMeth 3002 m_Memory_read (eV 0) (eCons (eV 5) (eCons (eB dSub (eV 6) (eV 5)) eNil))) (eCons (eV 8) eNil))))
  sNx))))))))
def m_l_window : List D → R D := defV 5 5 b_l_window
theorem e_l_window (x0 x1 x2 x3 x4 : D) : m_l_window [x0, x1, x2, x3, x4] = endV (b_l_window [.val x0, .val x1, .val x2, .val x3, .val x4, .un, .un, .un, .un, .un]) := defV_ap rfl
def b_Memory_write_1 : SS :=
  (sSeq (sIf (tE (eB dNe (eV 4) (eC (.int 0)))) (sSeq (sKPut (eU (dFld 3002 2) (eV 0)) (eB dAdd (eV 1) (eV 3)) (eV 4))
  sNx) (sSeq (sIf (tE (eB gIn (eB dAdd (eV 1) (eV 3)) (eU (dFld 3002 2) (eV 0)))) (sSeq (sKDel (eU (dFld 3002 2) (eV 0)) (eB dAdd (eV 1) (eV 3)))
  sNx) sNx)
  sNx))
  sNx)
def b_Memory_write : SS :=
  (sSeq (sFor (iEn (eV 2)) (gT 2 (gC (gN 3) (gC (gN 4) gE))) b_Memory_write_1)
  sNx)
def m_Memory_write : List D → R D := defV 3 2 b_Memory_write
theorem e_Memory_write (x0 x1 x2 : D) : m_Memory_write [x0, x1, x2] = endV (b_Memory_write [.val x0, .val x1, .val x2, .un, .un]) := defV_ap rfl
def b_Memory_size : SS :=
  (sSeq (sRet (eB dMul (eU (dFld 3002 0) (eV 0)) (eC d_PAGE)))
  sNx)
def m_Memory_size : List D → R D := defV 1 0 b_Memory_size
theorem e_Memory_size (x0 : D) : m_Memory_size [x0] = endV (b_Memory_size [.val x0]) := defV_ap rfl
def b_Memory___init__ : SS :=
  (sSeq (sFd 3002 0 (eV 0) (eV 1))
  (sSeq (sFd 3002 1 (eV 0) (eV 2))
  (sSeq (sFd 3002 2 (eV 0) eDNew)
  sNx)))
def m_Memory___init__ : List D → R D := defV 3 0 b_Memory___init__
theorem e_Memory___init__ (x0 x1 x2 : D) : m_Memory___init__ [x0, x1, x2] = endV (b_Memory___init__ [.val x0, .val x1, .val x2]) := defV_ap rfl
def b_law_1 : SS :=
  (sSeq (sKPut (eV 15) (eB dAdd (eV 6) (eV 13)) (eB dIx (eV 12) (eV 13)))
  sNx)
def b_law_2 : SS :=
  (sSeq (sA 16 (eF fMin2 (eCons (eV 6) (eCons (eB dIx (eV 4) (eV 13)) eNil))))
  (sSeq (sIf (tN (tE (eF m_l_window (eCons (eB dIx (eV 3) (eV 13)) (eCons (eB dIx (eV 5) (eV 13)) (eCons (eV 16) (eCons (eV 11) (eCons (eB dIx (eV 4) (eV 13)) eNil)))))))) (sSeq (sRet (eC (.bl false)))
  sNx) sNx)
  sNx))
def b_law_3 : SS :=
  (sSeq (sA 8 (eB dAdd (eC (.int 2)) (eB dMul (eC (.int 26)) (eV 7))))
  (sSeq (sA 9 (eF fInt (eCons (eB dEq (eF m_l_draw (eCons (eV 1) (eCons (eV 8) (eCons (eC (.int 4)) eNil)))) (eC (.int 0))) eNil)))
  (sSeq (sA 10 (eB dIx (eV 4) (eV 9)))
  (sSeq (sA 11 (eF fMin2 (eCons (eV 10) (eCons (eF m_l_draw (eCons (eV 1) (eCons (eB dAdd (eV 8) (eC (.int 1))) (eCons (eC (.int 21)) eNil)))) eNil))))
  (sSeq (sA 6 (eF m_l_place (eCons (eV 1) (eCons (eB dAdd (eV 8) (eC (.int 2))) (eCons (eB dSub (eV 10) (eV 11)) (eCons (eV 6) eNil))))))
  (sSeq (sA 12 (eL (lLc (iR1 (eCons (eV 11) eNil)) (gN 13) tY (eF m_l_byte (eCons (eV 1) (eCons (eB dAdd (eB dAdd (eV 8) (eC (.int 5))) (eV 13)) eNil))) [13])))
  (sSeq (sA 14 (eL (lF fList (eCons (eV 12) eNil))))
  (sSeq (sX (eMeth 3002 m_Memory_write (eB dIx (eV 3) (eV 9)) (eCons (eV 6) (eCons (eV 14) eNil))))
  (sSeq (sIf (tE (eB dNe (eV 14) (eV 12))) (sSeq (sRet (eC (.bl false)))
  sNx) sNx)
  (sSeq (sA 15 (eB dIx (eV 5) (eV 9)))
  (sSeq (sFor (iR1 (eCons (eV 11) eNil)) (gN 13) b_law_1)
  (sSeq (sFor (iR1 (eCons (eC (.int 2)) eNil)) (gN 13) b_law_2)
  sNx))))))))))))
def b_law_4 : SS :=
  (sSeq (sIf (tE (eB dNe (eB gGet (eV 15) (eV 18)) (eC (.int 0)))) (sSeq (sKPut (eV 17) (eV 18) (eB gGet (eV 15) (eV 18)))
  sNx) sNx)
  sNx)
def b_law_5 : SS :=
  (sSeq (sA 15 (eB dIx (eV 5) (eV 13)))
  (sSeq (sA 17 eDNew)
  (sSeq (sFor (iD (eL (lF lSortK (eCons (eV 15) eNil)))) (gN 18) b_law_4)
  (sSeq (sIf (tO (tN (tE (eF m_l_is_int (eCons (eMeth 3002 m_Memory_size (eB dIx (eV 3) (eV 13)) eNil) eNil)))) (tO (tE (eB dNe (eMeth 3002 m_Memory_size (eB dIx (eV 3) (eV 13)) eNil) (eB dIx (eV 4) (eV 13)))) (tE (eB dNeK (eU (dFld 3002 2) (eB dIx (eV 3) (eV 13))) (eV 17))))) (sSeq (sRet (eC (.bl false)))
  sNx) sNx)
  sNx))))
def b_law : SS :=
  (sSeq (sA 1 (eF m_l_tape (eCons (eV 0) eNil)))
  (sSeq (sA 2 (eF m_l_draw (eCons (eV 1) (eCons (eC (.int 0)) (eCons (eC (.int 17)) eNil)))))
  (sSeq (sA 3 (eL (lD (eCons (eMake 3002 m_Memory___init__ (eCons (eV 2) (eCons (eC (.int 16)) eNil))) (eCons (eMake 3002 m_Memory___init__ (eCons (eC (.int 1)) (eCons (eC (.int 2)) eNil))) eNil)))))
  (sSeq (sA 4 (eL (lD (eCons (eB dMul (eV 2) (eC (.int 65536))) (eCons (eC (.int 65536)) eNil)))))
  (sSeq (sA 5 (eL (lD (eCons eDNew (eCons eDNew eNil)))))
  (sSeq (sA 6 (eC (.int 0)))
  (sSeq (sFor (iR1 (eCons (eF m_l_draw (eCons (eV 1) (eCons (eC (.int 1)) (eCons (eC (.int 13)) eNil)))) eNil)) (gN 7) b_law_3)
  (sSeq (sFor (iR1 (eCons (eC (.int 2)) eNil)) (gN 13) b_law_5)
  (sSeq (sRet (eC (.bl true)))
  sNx)))))))))
def m_law : List D → R D := defV 1 18 b_law
theorem e_law (x0 : D) : m_law [x0] = endV (b_law [.val x0, .un, .un, .un, .un, .un, .un, .un, .un, .un, .un, .un, .un, .un, .un, .un, .un, .un, .un]) := defV_ap rfl
end Lk40
set_option Elab.async false
set_option linter.all false
set_option checkBinderAnnotations false
set_option maxRecDepth 100000
set_option maxHeartbeats 4000000
namespace Lk40
open PySem L2 Dm
variable {xc : XC} {xd : XS}
/-! the tape -/
theorem app1 (F : List Int) (x : Int) : dI F ++ [D.int x] = dI (F ++ [x]) := by rw [dI, dI, List.map_append] <;> rfl
abbrev T1 (sc : D) (B : Nat) : Nat → Dm.Env → Prop := fun n env => ∃ (F : List Int) (c f : Int) (x4 x5 : Sl), env = [.val sc, .own (dI F), .val (.int c), .val (.int f), x4, x5] ∧ F.length ≤ B + n
theorem tape1 {sc : D} {B : Nat} (hB : B ≤ 5000) {F : List Int} (hF : F.length ≤ B) (c f : Int) (x4 x5 : Sl) : ∃ e, forGo (gN 4) b_l_tape_1 ((List.range 40).map fun (i : Nat) => D.int i) [.val sc, .own (dI F), .val (.int c), .val (.int f), x4, x5] = .nx e ∧ T1 sc B 40 e :=
  forGo_range (T1 sc B) 40 _ ⟨F, c, f, x4, x5, rfl, hF⟩ fun k env hk hI => by
    obtain ⟨F, c, f, x4, x5, rfl, hF⟩ := hI
    unfold b_l_tape_1
    by_cases h : 0 < f
    · simp only [ev0, ev1, ev2, ev3, ev4, ev5, ev6, ev7, ev8, ev9, ev10, ev11, ev12, ev13, ev14, ev15, ev16, ev17, ev18, ev19, ev20, ev21, ev22, ev23, ev24, ev25, ev26, ev27, ev28, ev29, ev30, ev31, ev32, ev33, ev34, ev35, ev36, ev37, ev38, eq0, eq1, eq2, eq3, ↓pa0, pa0, ↓pa1, pa1, ↓pa2, pa2, ↓pa3, pa3, ↓pa4, pa4, ↓pa5, pa5, ↓pa6, pa6, ↓pa7, pa7, ↓pa8, pa8, ↓pa9, pa9, ↓pa10, pa10, ↓pa11, pa11, ↓pa12, pa12, ↓pa13, pa13, ↓pa14, pa14, ↓ps0, ↓ps1, ↓ps2, ↓ps3, ↓reduceIte, Nat.reduceAdd, Nat.reduceLeDiff, Nat.reduceLT, Int.reduceLE, Int.reduceLT, Int.reduceNeg, Int.reduceAdd, Int.reduceSub, Int.reduceMul, Int.reduceDiv, Int.reduceMod, Int.reduceEq, Int.reduceToNat, Nat.reduceEqDiff, ↓nxP_nx, ↓h, ↓List.length_map, ↓app1, nxP_nx, h, List.length_map, show F.length < 100000 by omega, show CDivW f 1000 from ⟨by decide, by decide⟩, app1]
      exact ⟨F ++ [f % 1000], _, _, _, _, rfl, by rw [List.length_append, List.length_singleton]; omega⟩
    · simp only [ev0, ev1, ev2, ev3, ev4, ev5, ev6, ev7, ev8, ev9, ev10, ev11, ev12, ev13, ev14, ev15, ev16, ev17, ev18, ev19, ev20, ev21, ev22, ev23, ev24, ev25, ev26, ev27, ev28, ev29, ev30, ev31, ev32, ev33, ev34, ev35, ev36, ev37, ev38, eq0, eq1, eq2, eq3, ↓pa0, pa0, ↓pa1, pa1, ↓pa2, pa2, ↓pa3, pa3, ↓pa4, pa4, ↓pa5, pa5, ↓pa6, pa6, ↓pa7, pa7, ↓pa8, pa8, ↓pa9, pa9, ↓pa10, pa10, ↓pa11, pa11, ↓pa12, pa12, ↓pa13, pa13, ↓pa14, pa14, ↓ps0, ↓ps1, ↓ps2, ↓ps3, ↓reduceIte, Nat.reduceAdd, Nat.reduceLeDiff, Nat.reduceLT, Int.reduceLE, Int.reduceLT, Int.reduceNeg, Int.reduceAdd, Int.reduceSub, Int.reduceMul, Int.reduceDiv, Int.reduceMod, Int.reduceEq, Int.reduceToNat, Nat.reduceEqDiff, ↓nxP_nx, ↓h, nxP_nx, h]
      exact ⟨F, _, _, _, _, rfl, by omega⟩
theorem tape2 {sc : D} {B : Nat} (hB : B ≤ 5000) {F : List Int} (hF : F.length ≤ B) (c f : Int) (x4 x5 : Sl) : ∃ e, forGo (gN 4) b_l_tape_2 ((List.range 3).map fun (i : Nat) => D.int i) [.val sc, .own (dI F), .val (.int c), .val (.int f), x4, x5] = .nx e ∧ T1 sc B 3 e :=
  forGo_range (T1 sc B) 3 _ ⟨F, c, f, x4, x5, rfl, hF⟩ fun k env hk hI => by
    obtain ⟨F, c, f, x4, x5, rfl, hF⟩ := hI
    have m1 : ∀ x : Int, (CMulW x 48271 ∨ CMul x 48271) = True := fun x => eq_true (Or.inr (Or.inr ⟨by decide, by decide⟩))
    have m2 : ∀ x : Int, (CMulW x 40503 ∨ CMul x 40503) = True := fun x => eq_true (Or.inr (Or.inr ⟨by decide, by decide⟩))
    have m3 : ∀ x : Int, (CMulW x 69621 ∨ CMul x 69621) = True := fun x => eq_true (Or.inr (Or.inr ⟨by decide, by decide⟩))
    unfold b_l_tape_2
    simp only [ev0, ev1, ev2, ev3, ev4, ev5, ev6, ev7, ev8, ev9, ev10, ev11, ev12, ev13, ev14, ev15, ev16, ev17, ev18, ev19, ev20, ev21, ev22, ev23, ev24, ev25, ev26, ev27, ev28, ev29, ev30, ev31, ev32, ev33, ev34, ev35, ev36, ev37, ev38, eq0, eq1, eq2, eq3, ↓pa0, pa0, ↓pa1, pa1, ↓pa2, pa2, ↓pa3, pa3, ↓pa4, pa4, ↓pa5, pa5, ↓pa6, pa6, ↓pa7, pa7, ↓pa8, pa8, ↓pa9, pa9, ↓pa10, pa10, ↓pa11, pa11, ↓pa12, pa12, ↓pa13, pa13, ↓pa14, pa14, ↓ps0, ↓ps1, ↓ps2, ↓ps3, ↓reduceIte, Nat.reduceAdd, Nat.reduceLeDiff, Nat.reduceLT, Int.reduceLE, Int.reduceLT, Int.reduceNeg, Int.reduceAdd, Int.reduceSub, Int.reduceMul, Int.reduceDiv, Int.reduceMod, Int.reduceEq, Int.reduceToNat, Nat.reduceEqDiff, ↓nxP_nx, ↓List.length_map, ↓m1, ↓m2, ↓m3, ↓app1, nxP_nx, List.length_map, show F.length < 100000 by omega, m1, m2, m3, show ∀ x : Int, CDivW x 65536 from fun x => ⟨by decide, by decide⟩, app1]
    exact ⟨_, _, _, _, _, rfl, by rw [List.length_append, List.length_singleton]; omega⟩
abbrev T0 (sc : D) : Nat → Dm.Env → Prop := fun n env => ∃ (F : List Int) (x2 x3 x4 x5 : Sl), env = [.val sc, .own (dI F), x2, x3, x4, x5] ∧ F.length ≤ 40 * n
theorem tape_ok {ns : List Int} (hl : ns.length ≤ 63) : ∃ T : List Int, T.length ≤ 2520 ∧ m_l_tape [.scr (dI ns)] = .ok (.lst (dI T)) := by
  obtain ⟨e, q, F, x2, x3, x4, x5, rfl, hF⟩ := forGo_PN (i := 2) (b := b_l_tape_3) (T0 (.scr (dI ns))) (dI ns) 0 [.val (.scr (dI ns)), .own (dI []), .un, .un, .un, .un] ⟨[], _, _, _, _, rfl, Nat.le_refl _⟩ fun n d env hd _ hn hI => by
    obtain ⟨F, x2, x3, x4, x5, rfl, hF⟩ := hI
    obtain ⟨c, _, rfl⟩ := List.mem_map.mp hd
    rw [List.length_map] at hn
    have m1 : ∀ x : Int, (CMulW 2 x ∨ CMul 2 x) = True := fun x => eq_true (Or.inr (Or.inl ⟨by decide, by decide⟩))
    have cp : CPow 10 18 := ⟨by decide, by decide, by decide⟩
    have run : ∀ f : Int, ∃ e, (if (10 : Int) ^ 18 ≤ f then forGo (gN 4) b_l_tape_1 ((List.range 40).map fun (i : Nat) => D.int i) [.val (.scr (dI ns)), .own (dI F), .val (.int c), .val (.int f), x4, x5] else forGo (gN 4) b_l_tape_2 ((List.range 3).map fun (i : Nat) => D.int i) [.val (.scr (dI ns)), .own (dI F), .val (.int c), .val (.int f), x4, x5]) = .nx e ∧ T0 (.scr (dI ns)) (n + 1) e := fun f => by
      by_cases h : (10 : Int) ^ 18 ≤ f
      · rw [if_pos h]
        obtain ⟨e, q, G, c, f, x4, x5, rfl, hG⟩ := tape1 (sc := .scr (dI ns)) (B := 40 * n) (by omega) hF c f x4 x5
        exact ⟨_, q, G, _, _, _, _, rfl, by omega⟩
      · rw [if_neg h]
        obtain ⟨e, q, G, c, f, x4, x5, rfl, hG⟩ := tape2 (sc := .scr (dI ns)) (B := 40 * n) (by omega) hF c f x4 x5
        exact ⟨_, q, G, _, _, _, _, rfl, by omega⟩
    unfold b_l_tape_3
    by_cases h0 : 2 * c < 0
    · obtain ⟨e, q, hT⟩ := run (-1 - 2 * c)
      by_cases h : (10 : Int) ^ 18 ≤ -1 - 2 * c
      · rw [if_pos h] at q
        simp only [ev0, ev1, ev2, ev3, ev4, ev5, ev6, ev7, ev8, ev9, ev10, ev11, ev12, ev13, ev14, ev15, ev16, ev17, ev18, ev19, ev20, ev21, ev22, ev23, ev24, ev25, ev26, ev27, ev28, ev29, ev30, ev31, ev32, ev33, ev34, ev35, ev36, ev37, ev38, eq0, eq1, eq2, eq3, ↓pa0, pa0, ↓pa1, pa1, ↓pa2, pa2, ↓pa3, pa3, ↓pa4, pa4, ↓pa5, pa5, ↓pa6, pa6, ↓pa7, pa7, ↓pa8, pa8, ↓pa9, pa9, ↓pa10, pa10, ↓pa11, pa11, ↓pa12, pa12, ↓pa13, pa13, ↓pa14, pa14, ↓ps0, ↓ps1, ↓ps2, ↓ps3, ↓reduceIte, Nat.reduceAdd, Nat.reduceLeDiff, Nat.reduceLT, Int.reduceLE, Int.reduceLT, Int.reduceNeg, Int.reduceAdd, Int.reduceSub, Int.reduceMul, Int.reduceDiv, Int.reduceMod, Int.reduceEq, Int.reduceToNat, Nat.reduceEqDiff, ↓m1, ↓eq_true h0, ↓cp, ↓eq_true h, ↓q, ↓nxP_nx, m1, eq_true h0, cp, eq_true h, q, nxP_nx]
        exact hT
      · rw [if_neg h] at q
        simp only [ev0, ev1, ev2, ev3, ev4, ev5, ev6, ev7, ev8, ev9, ev10, ev11, ev12, ev13, ev14, ev15, ev16, ev17, ev18, ev19, ev20, ev21, ev22, ev23, ev24, ev25, ev26, ev27, ev28, ev29, ev30, ev31, ev32, ev33, ev34, ev35, ev36, ev37, ev38, eq0, eq1, eq2, eq3, ↓pa0, pa0, ↓pa1, pa1, ↓pa2, pa2, ↓pa3, pa3, ↓pa4, pa4, ↓pa5, pa5, ↓pa6, pa6, ↓pa7, pa7, ↓pa8, pa8, ↓pa9, pa9, ↓pa10, pa10, ↓pa11, pa11, ↓pa12, pa12, ↓pa13, pa13, ↓pa14, pa14, ↓ps0, ↓ps1, ↓ps2, ↓ps3, ↓reduceIte, Nat.reduceAdd, Nat.reduceLeDiff, Nat.reduceLT, Int.reduceLE, Int.reduceLT, Int.reduceNeg, Int.reduceAdd, Int.reduceSub, Int.reduceMul, Int.reduceDiv, Int.reduceMod, Int.reduceEq, Int.reduceToNat, Nat.reduceEqDiff, ↓m1, ↓eq_true h0, ↓cp, ↓eq_false h, ↓q, ↓nxP_nx, m1, eq_true h0, cp, eq_false h, q, nxP_nx]
        exact hT
    · obtain ⟨e, q, hT⟩ := run (2 * c)
      by_cases h : (10 : Int) ^ 18 ≤ 2 * c
      · rw [if_pos h] at q
        simp only [ev0, ev1, ev2, ev3, ev4, ev5, ev6, ev7, ev8, ev9, ev10, ev11, ev12, ev13, ev14, ev15, ev16, ev17, ev18, ev19, ev20, ev21, ev22, ev23, ev24, ev25, ev26, ev27, ev28, ev29, ev30, ev31, ev32, ev33, ev34, ev35, ev36, ev37, ev38, eq0, eq1, eq2, eq3, ↓pa0, pa0, ↓pa1, pa1, ↓pa2, pa2, ↓pa3, pa3, ↓pa4, pa4, ↓pa5, pa5, ↓pa6, pa6, ↓pa7, pa7, ↓pa8, pa8, ↓pa9, pa9, ↓pa10, pa10, ↓pa11, pa11, ↓pa12, pa12, ↓pa13, pa13, ↓pa14, pa14, ↓ps0, ↓ps1, ↓ps2, ↓ps3, ↓reduceIte, Nat.reduceAdd, Nat.reduceLeDiff, Nat.reduceLT, Int.reduceLE, Int.reduceLT, Int.reduceNeg, Int.reduceAdd, Int.reduceSub, Int.reduceMul, Int.reduceDiv, Int.reduceMod, Int.reduceEq, Int.reduceToNat, Nat.reduceEqDiff, ↓m1, ↓eq_false h0, ↓cp, ↓eq_true h, ↓q, ↓nxP_nx, m1, eq_false h0, cp, eq_true h, q, nxP_nx]
        exact hT
      · rw [if_neg h] at q
        simp only [ev0, ev1, ev2, ev3, ev4, ev5, ev6, ev7, ev8, ev9, ev10, ev11, ev12, ev13, ev14, ev15, ev16, ev17, ev18, ev19, ev20, ev21, ev22, ev23, ev24, ev25, ev26, ev27, ev28, ev29, ev30, ev31, ev32, ev33, ev34, ev35, ev36, ev37, ev38, eq0, eq1, eq2, eq3, ↓pa0, pa0, ↓pa1, pa1, ↓pa2, pa2, ↓pa3, pa3, ↓pa4, pa4, ↓pa5, pa5, ↓pa6, pa6, ↓pa7, pa7, ↓pa8, pa8, ↓pa9, pa9, ↓pa10, pa10, ↓pa11, pa11, ↓pa12, pa12, ↓pa13, pa13, ↓pa14, pa14, ↓ps0, ↓ps1, ↓ps2, ↓ps3, ↓reduceIte, Nat.reduceAdd, Nat.reduceLeDiff, Nat.reduceLT, Int.reduceLE, Int.reduceLT, Int.reduceNeg, Int.reduceAdd, Int.reduceSub, Int.reduceMul, Int.reduceDiv, Int.reduceMod, Int.reduceEq, Int.reduceToNat, Nat.reduceEqDiff, ↓m1, ↓eq_false h0, ↓cp, ↓eq_false h, ↓q, ↓nxP_nx, m1, eq_false h0, cp, eq_false h, q, nxP_nx]
        exact hT
  rw [List.length_map] at hF
  refine ⟨F, by omega, ?_⟩
  rw [e_l_tape]
  unfold b_l_tape
  simp only [ev0, ev1, ev2, ev3, ev4, ev5, ev6, ev7, ev8, ev9, ev10, ev11, ev12, ev13, ev14, ev15, ev16, ev17, ev18, ev19, ev20, ev21, ev22, ev23, ev24, ev25, ev26, ev27, ev28, ev29, ev30, ev31, ev32, ev33, ev34, ev35, ev36, ev37, ev38, eq0, eq1, eq2, eq3, ↓pa0, pa0, ↓pa1, pa1, ↓pa2, pa2, ↓pa3, pa3, ↓pa4, pa4, ↓pa5, pa5, ↓pa6, pa6, ↓pa7, pa7, ↓pa8, pa8, ↓pa9, pa9, ↓pa10, pa10, ↓pa11, pa11, ↓pa12, pa12, ↓pa13, pa13, ↓pa14, pa14, ↓ps0, ↓ps1, ↓ps2, ↓ps3, ↓reduceIte, Nat.reduceAdd, Nat.reduceLeDiff, Nat.reduceLT, Int.reduceLE, Int.reduceLT, Int.reduceNeg, Int.reduceAdd, Int.reduceSub, Int.reduceMul, Int.reduceDiv, Int.reduceMod, Int.reduceEq, Int.reduceToNat, Nat.reduceEqDiff]
  rw [show ([] : List D) = dI [] from rfl, q]
  simp only [ev0, ev1, ev2, ev3, ev4, ev5, ev6, ev7, ev8, ev9, ev10, ev11, ev12, ev13, ev14, ev15, ev16, ev17, ev18, ev19, ev20, ev21, ev22, ev23, ev24, ev25, ev26, ev27, ev28, ev29, ev30, ev31, ev32, ev33, ev34, ev35, ev36, ev37, ev38, eq0, eq1, eq2, eq3, ↓pa0, pa0, ↓pa1, pa1, ↓pa2, pa2, ↓pa3, pa3, ↓pa4, pa4, ↓pa5, pa5, ↓pa6, pa6, ↓pa7, pa7, ↓pa8, pa8, ↓pa9, pa9, ↓pa10, pa10, ↓pa11, pa11, ↓pa12, pa12, ↓pa13, pa13, ↓pa14, pa14, ↓ps0, ↓ps1, ↓ps2, ↓ps3, ↓reduceIte, Nat.reduceAdd, Nat.reduceLeDiff, Nat.reduceLT, Int.reduceLE, Int.reduceLT, Int.reduceNeg, Int.reduceAdd, Int.reduceSub, Int.reduceMul, Int.reduceDiv, Int.reduceMod, Int.reduceEq, Int.reduceToNat, Nat.reduceEqDiff]
theorem draw_ok {T : List Int} {a m : Int} (h0 : 0 ≤ a) (h1 : a ≤ 100000) (hm : 0 < m) : ∃ v, m_l_draw [.lst (dI T), .int a, .int m] = .ok (.int v) ∧ 0 ≤ v ∧ v < m := by
  have hin : ∀ x : Int, (0 ≤ x % m ∧ x % m < m) = True := fun x => eq_true ⟨Int.emod_nonneg _ (by omega), Int.emod_lt_of_pos _ hm⟩
  have m1 : ∀ x : Int, (CMulW x (a + 3) ∨ CMul x (a + 3)) = True := fun x => eq_true (Or.inr (Or.inr ⟨by omega, by omega⟩))
  have m2 : ∀ x : Int, (CMulW x 7919 ∨ CMul x 7919) = True := fun x => eq_true (Or.inr (Or.inr ⟨by decide, by decide⟩))
  have m3 : ∀ x : Int, (CMulW x 104729 ∨ CMul x 104729) = True := fun x => eq_true (Or.inr (Or.inr ⟨by decide, by decide⟩))
  refine OkP.ex (P := fun v => 0 ≤ v ∧ v < m) ?_
  rw [e_l_draw]
  unfold b_l_draw
  by_cases c : a < T.length
  · simp only [ev0, ev1, ev2, ev3, ev4, ev5, ev6, ev7, ev8, ev9, ev10, ev11, ev12, ev13, ev14, ev15, ev16, ev17, ev18, ev19, ev20, ev21, ev22, ev23, ev24, ev25, ev26, ev27, ev28, ev29, ev30, ev31, ev32, ev33, ev34, ev35, ev36, ev37, ev38, eq0, eq1, eq2, eq3, ↓pa0, pa0, ↓pa1, pa1, ↓pa2, pa2, ↓pa3, pa3, ↓pa4, pa4, ↓pa5, pa5, ↓pa6, pa6, ↓pa7, pa7, ↓pa8, pa8, ↓pa9, pa9, ↓pa10, pa10, ↓pa11, pa11, ↓pa12, pa12, ↓pa13, pa13, ↓pa14, pa14, ↓ps0, ↓ps1, ↓ps2, ↓ps3, ↓reduceIte, Nat.reduceAdd, Nat.reduceLeDiff, Nat.reduceLT, Int.reduceLE, Int.reduceLT, Int.reduceNeg, Int.reduceAdd, Int.reduceSub, Int.reduceMul, Int.reduceDiv, Int.reduceMod, Int.reduceEq, Int.reduceToNat, Nat.reduceEqDiff, ↓List.length_map, ↓c, ↓ixL_ints h0 c, ↓hm, ↓okP, List.length_map, c, ixL_ints h0 c, hm, okP]
    exact of_eq_true (hin _)
  · by_cases c2 : 0 < (T.length : Int)
    · have q := ixL_ints (ns := T) (Int.emod_nonneg a (show (T.length : Int) ≠ 0 by omega)) (Int.emod_lt_of_pos a c2)
      simp only [ev0, ev1, ev2, ev3, ev4, ev5, ev6, ev7, ev8, ev9, ev10, ev11, ev12, ev13, ev14, ev15, ev16, ev17, ev18, ev19, ev20, ev21, ev22, ev23, ev24, ev25, ev26, ev27, ev28, ev29, ev30, ev31, ev32, ev33, ev34, ev35, ev36, ev37, ev38, eq0, eq1, eq2, eq3, ↓pa0, pa0, ↓pa1, pa1, ↓pa2, pa2, ↓pa3, pa3, ↓pa4, pa4, ↓pa5, pa5, ↓pa6, pa6, ↓pa7, pa7, ↓pa8, pa8, ↓pa9, pa9, ↓pa10, pa10, ↓pa11, pa11, ↓pa12, pa12, ↓pa13, pa13, ↓pa14, pa14, ↓ps0, ↓ps1, ↓ps2, ↓ps3, ↓reduceIte, Nat.reduceAdd, Nat.reduceLeDiff, Nat.reduceLT, Int.reduceLE, Int.reduceLT, Int.reduceNeg, Int.reduceAdd, Int.reduceSub, Int.reduceMul, Int.reduceDiv, Int.reduceMod, Int.reduceEq, Int.reduceToNat, Nat.reduceEqDiff, ↓List.length_map, ↓c, ↓c2, ↓q, ↓hm, ↓m1, ↓m2, ↓m3, ↓okP, List.length_map, c, c2, q, hm, m1, m2, m3, okP]
      exact of_eq_true (hin _)
    · simp only [ev0, ev1, ev2, ev3, ev4, ev5, ev6, ev7, ev8, ev9, ev10, ev11, ev12, ev13, ev14, ev15, ev16, ev17, ev18, ev19, ev20, ev21, ev22, ev23, ev24, ev25, ev26, ev27, ev28, ev29, ev30, ev31, ev32, ev33, ev34, ev35, ev36, ev37, ev38, eq0, eq1, eq2, eq3, ↓pa0, pa0, ↓pa1, pa1, ↓pa2, pa2, ↓pa3, pa3, ↓pa4, pa4, ↓pa5, pa5, ↓pa6, pa6, ↓pa7, pa7, ↓pa8, pa8, ↓pa9, pa9, ↓pa10, pa10, ↓pa11, pa11, ↓pa12, pa12, ↓pa13, pa13, ↓pa14, pa14, ↓ps0, ↓ps1, ↓ps2, ↓ps3, ↓reduceIte, Nat.reduceAdd, Nat.reduceLeDiff, Nat.reduceLT, Int.reduceLE, Int.reduceLT, Int.reduceNeg, Int.reduceAdd, Int.reduceSub, Int.reduceMul, Int.reduceDiv, Int.reduceMod, Int.reduceEq, Int.reduceToNat, Nat.reduceEqDiff, ↓List.length_map, ↓c, ↓c2, ↓hm, ↓m1, ↓m2, ↓m3, ↓okP, List.length_map, c, c2, hm, m1, m2, m3, okP]
      exact of_eq_true (hin _)
def dv (T : List Int) (a m : Int) : Int := match m_l_draw [.lst (dI T), .int a, .int m] [] with
  | .ok (.int i) _ => i
  | _ => 0
theorem dv_ok {T : List Int} {a m : Int} (h0 : 0 ≤ a) (h1 : a ≤ 100000) (hm : 0 < m) : m_l_draw [.lst (dI T), .int a, .int m] = .ok (.int (dv T a m)) ∧ 0 ≤ dv T a m ∧ dv T a m < m := by
  obtain ⟨v, hv, v0, v1⟩ := draw_ok (T := T) h0 h1 hm
  unfold dv
  rw [hv]
  exact ⟨rfl, v0, v1⟩
/-! dicts -/
abbrev KV := List (Key × D)
theorem val_set {k z : Key} {d : D} (h : ¬ k = z) : ∀ kv : KV, valG (setG k d kv) z = valG kv z
  | [] => rfl
  | (y, x) :: r => by
    have ih := val_set (d := d) h r
    unfold setG
    by_cases c : y = k
    · rw [if_pos c]
      subst c
      unfold valG
      rw [if_neg h, if_neg h]
      exact ih
    · rw [if_neg c]
      unfold valG
      rw [ih]
theorem val_setE {k : Key} {d : D} : ∀ kv : KV, hasG kv k = true → valG (setG k d kv) k = some d
  | [], h => by cases h
  | (y, x) :: r, h => by
    unfold setG
    by_cases c : y = k
    · rw [if_pos c]
      unfold valG
      rw [if_pos c]
    · rw [if_neg c]
      unfold valG
      unfold hasG at h
      rw [if_neg c] at h ⊢
      exact val_setE r h
theorem val_app {k z : Key} {d : D} : ∀ kv : KV, hasG kv k = false → valG (kv ++ [(k, d)]) z = if k = z then some d else valG kv z
  | [], _ => rfl
  | (y, x) :: r, h => by
    unfold hasG at h
    by_cases c : y = k
    · rw [if_pos c] at h; cases h
    · rw [if_neg c] at h
      rw [List.cons_append]
      unfold valG
      rw [val_app r h]
      by_cases c2 : y = z
      · rw [if_pos c2, if_pos c2, if_neg (fun e => c (c2.trans e.symm))]
      · rw [if_neg c2, if_neg c2]
theorem val_put {k z : Key} {d : D} (kv : KV) : valG (putG kv k d) z = if k = z then some d else valG kv z := by
  unfold putG
  by_cases c : hasG kv k = true
  · rw [if_pos c]
    by_cases e : k = z
    · subst e
      rw [if_pos rfl, val_setE kv c]
    · rw [if_neg e, val_set e]
  · rw [if_neg c, val_app kv (by simpa using c)]
theorem val_drop {k z : Key} : ∀ kv : KV, valG (dropG kv k) z = if k = z then none else valG kv z
  | [] => by
    show none = _
    by_cases e : k = z
    · rw [if_pos e]
    · rw [if_neg e]; rfl
  | (y, x) :: r => by
    have ih := val_drop (k := k) (z := z) r
    unfold dropG
    by_cases c : y = k
    · rw [if_pos c, ih]
      by_cases e : k = z
      · rw [if_pos e, if_pos e]
      · rw [if_neg e, if_neg e]
        conv => rhs; unfold valG
        rw [if_neg (fun q => e (c.symm.trans q))]
    · rw [if_neg c]
      unfold valG
      rw [ih]
      by_cases c2 : y = z
      · rw [if_pos c2, if_pos c2, if_neg (fun q => c (c2.trans q.symm))]
      · rw [if_neg c2, if_neg c2]
theorem len_set {k : Key} {d : D} : ∀ kv : KV, (setG k d kv).length = kv.length
  | [] => rfl
  | (y, x) :: r => by
    unfold setG
    split <;> rw [List.length_cons, List.length_cons, len_set r]
theorem len_put {k : Key} {d : D} (kv : KV) : (putG kv k d).length ≤ kv.length + 1 := by
  unfold putG
  split
  · rw [len_set]; omega
  · rw [List.length_append, List.length_singleton]; omega
theorem len_drop {k : Key} : ∀ kv : KV, (dropG kv k).length ≤ kv.length
  | [] => Nat.le_refl _
  | (y, x) :: r => by
    have := len_drop (k := k) r
    unfold dropG
    split
    · rw [List.length_cons]; omega
    · rw [List.length_cons, List.length_cons]; omega
def gv (kv : KV) (k : Int) : D := (valG kv (.inl k)).getD (.int 0)
def stS (kv : KV) (k b : Int) : KV := if b = 0 then (if (valG kv (.inl k)).isSome = true then dropG kv (.inl k) else kv) else putG kv (.inl k) (.int b)
def stM (kv : KV) (k b : Int) : KV := putG kv (.inl k) (.int b)
theorem inl_eq {k z : Int} : ((.inl k : Key) = .inl z) = (k = z) := propext ⟨fun h => Sum.inl.inj h, fun h => h ▸ rfl⟩
def Stp (f : KV → Int → Int → KV) : Prop := ∀ kv k b, (∀ z, gv (f kv k b) z = if k = z then .int b else gv kv z) ∧ (f kv k b).length ≤ kv.length + 1
theorem stM_ok : Stp stM := fun kv k b => ⟨fun z => by
  unfold gv stM
  rw [val_put]
  by_cases c : k = z
  · rw [if_pos c, if_pos (by rw [c])]; rfl
  · rw [if_neg c, if_neg (by rw [inl_eq]; exact c)], len_put kv⟩
theorem stS_ok : Stp stS := fun kv k b => by
  unfold stS
  by_cases h : b = 0
  · rw [if_pos h]
    by_cases c : (valG kv (.inl k)).isSome = true
    · rw [if_pos c]
      refine ⟨fun z => ?_, Nat.le_succ_of_le (len_drop kv)⟩
      unfold gv
      rw [val_drop]
      by_cases e : k = z
      · rw [if_pos e, if_pos (by rw [e]), h]; rfl
      · rw [if_neg e, if_neg (by rw [inl_eq]; exact e)]
    · rw [if_neg c]
      refine ⟨fun z => ?_, Nat.le_succ _⟩
      by_cases e : k = z
      · rw [if_pos e, ← e, h]
        unfold gv
        cases q : valG kv (.inl k) with
        | none => rfl
        | some d => rw [q] at c; exact absurd rfl c
      · rw [if_neg e]
  · rw [if_neg h]
    exact stM_ok kv k b
def putA (f : KV → Int → Int → KV) : KV → Int → List Int → KV
  | kv, _, [] => kv
  | kv, a, b :: bs => putA f (f kv a b) (a + 1) bs
def IsI (kv : KV) : Prop := ∀ k, ∃ i, gv kv k = .int i
theorem putA_ok {f : KV → Int → Int → KV} (hf : Stp f) : ∀ (bs : List Int) (kv : KV) (a : Int), IsI kv → IsI (putA f kv a bs) ∧ (putA f kv a bs).length ≤ kv.length + bs.length
  | [], kv, a, h => ⟨h, Nat.le_refl _⟩
  | b :: bs, kv, a, h => by
    have q := putA_ok hf bs (f kv a b) (a + 1) fun z => by
      rw [(hf kv a b).1]
      by_cases e : a = z
      · rw [if_pos e]; exact ⟨_, rfl⟩
      · rw [if_neg e]; exact h z
    have l := (hf kv a b).2
    unfold putA
    rw [List.length_cons]
    exact ⟨q.1, by omega⟩
theorem putA_sim {f g : KV → Int → Int → KV} (hf : Stp f) (hg : Stp g) : ∀ (bs : List Int) (kv kw : KV) (a : Int), (∀ k, gv kv k = gv kw k) → ∀ k, gv (putA f kv a bs) k = gv (putA g kw a bs) k
  | [], kv, kw, a, h => h
  | b :: bs, kv, kw, a, h => putA_sim hf hg bs (f kv a b) (g kw a b) (a + 1) fun z => by rw [(hf kv a b).1, (hg kw a b).1, h z]
def rdV (kv : KV) (a : Int) (n : Nat) : List D := (List.range n).map fun (k : Nat) => gv kv (a + (k : Int))
theorem rdV_of {f : D → Option D} {kv : KV} {a : Int} {n : Nat} (h : ∀ k : Nat, f (.int (k : Int)) = some (gv kv (a + (k : Int)))) : ((List.range n).map fun (i : Nat) => D.int i).filterMap f = rdV kv a n := by
  unfold rdV
  generalize List.range n = ks
  induction ks with
  | nil => rfl
  | cons k ks ih => rw [List.map_cons, List.filterMap_cons, h k, List.map_cons, ih]
/-! well-formed dicts: numbers to numbers, each key once -/
structure Wf (kv : KV) : Prop where
  ki : ∀ p ∈ kv, ∃ i j : Int, p = (.inl i, .int j)
  nd : (kv.map (·.1)).Nodup
theorem has_mem {k : Key} : ∀ kv : KV, hasG kv k = true ↔ k ∈ kv.map (·.1)
  | [] => by simp [hasG]
  | (y, x) :: r => by
    unfold hasG
    rw [List.map_cons, List.mem_cons]
    by_cases c : y = k
    · rw [if_pos c]; simp [c]
    · rw [if_neg c, has_mem r]
      simp [Ne.symm c]
theorem set_keys {k : Key} {d : D} : ∀ kv : KV, (setG k d kv).map (·.1) = kv.map (·.1)
  | [] => rfl
  | (y, x) :: r => by
    unfold setG
    split <;> rw [List.map_cons, List.map_cons, set_keys r]
theorem set_mem {k : Key} {d : D} : ∀ (kv : KV), ∀ p ∈ setG k d kv, p ∈ kv ∨ p = (k, d)
  | [], p, h => by cases h
  | (y, x) :: r, p, h => by
    unfold setG at h
    split at h
    · rename_i c
      rcases List.mem_cons.mp h with rfl | h
      · exact Or.inr (by rw [c])
      · rcases set_mem r p h with h | h
        · exact Or.inl (List.mem_cons_of_mem _ h)
        · exact Or.inr h
    · rcases List.mem_cons.mp h with rfl | h
      · exact Or.inl List.mem_cons_self
      · rcases set_mem r p h with h | h
        · exact Or.inl (List.mem_cons_of_mem _ h)
        · exact Or.inr h
theorem put_mem {k : Key} {d : D} {kv : KV} : ∀ p ∈ putG kv k d, p ∈ kv ∨ p = (k, d) := fun p h => by
  unfold putG at h
  split at h
  · exact set_mem kv p h
  · rcases List.mem_append.mp h with h | h
    · exact Or.inl h
    · exact Or.inr (List.mem_singleton.mp h)
theorem drop_mem {k : Key} : ∀ (kv : KV), ∀ p ∈ dropG kv k, p ∈ kv ∧ p.1 ≠ k
  | [], p, h => by cases h
  | (y, x) :: r, p, h => by
    unfold dropG at h
    split at h
    · have := drop_mem r p h
      exact ⟨List.mem_cons_of_mem _ this.1, this.2⟩
    · rename_i c
      rcases List.mem_cons.mp h with rfl | h
      · exact ⟨List.mem_cons_self, c⟩
      · have := drop_mem r p h
        exact ⟨List.mem_cons_of_mem _ this.1, this.2⟩
theorem put_nd {k : Key} {d : D} {kv : KV} (h : (kv.map (·.1)).Nodup) : ((putG kv k d).map (·.1)).Nodup := by
  unfold putG
  by_cases c : hasG kv k = true
  · rw [if_pos c, set_keys]; exact h
  · rw [if_neg c, List.map_append, List.nodup_append]
    refine ⟨h, by simp, fun a ha b hb => ?_⟩
    rw [List.map_cons, List.map_nil, List.mem_singleton] at hb
    rintro rfl
    exact c ((has_mem kv).mpr (by rw [hb] at ha; exact ha))
theorem drop_nd {k : Key} : ∀ (kv : KV), (kv.map (·.1)).Nodup → ((dropG kv k).map (·.1)).Nodup
  | [], _ => List.Pairwise.nil
  | (y, x) :: r, h => by
    rw [List.map_cons, List.nodup_cons] at h
    unfold dropG
    split
    · exact drop_nd r h.2
    · rw [List.map_cons, List.nodup_cons]
      refine ⟨fun hm => h.1 ?_, drop_nd r h.2⟩
      obtain ⟨p, hp, e⟩ := List.mem_map.mp hm
      exact List.mem_map.mpr ⟨p, (drop_mem r p hp).1, e⟩
theorem Wf.put {kv : KV} (h : Wf kv) (i j : Int) : Wf (putG kv (.inl i) (.int j)) := by
  refine ⟨fun p hp => ?_, put_nd h.nd⟩
  rcases put_mem p hp with hp | rfl
  · exact h.ki p hp
  · exact ⟨i, j, rfl⟩
theorem Wf.drop {kv : KV} (h : Wf kv) (k : Key) : Wf (dropG kv k) := ⟨fun p hp => h.ki p (drop_mem kv p hp).1, drop_nd kv h.nd⟩
theorem Wf.nil : Wf [] := ⟨fun p h => (by cases h), List.Pairwise.nil⟩
def NZ (kv : KV) : Prop := ∀ p ∈ kv, p.2 ≠ .int 0
theorem val_mem {k : Key} {d : D} : ∀ kv : KV, valG kv k = some d → (k, d) ∈ kv
  | [], h => by cases h
  | (y, x) :: r, h => by
    unfold valG at h
    by_cases c : y = k
    · rw [if_pos c] at h
      cases h
      rw [c]
      exact List.mem_cons_self
    · rw [if_neg c] at h
      exact List.mem_cons_of_mem _ (val_mem r h)
theorem mem_val {k : Key} {d : D} : ∀ kv : KV, (kv.map (·.1)).Nodup → (k, d) ∈ kv → valG kv k = some d
  | [], _, h => by cases h
  | (y, x) :: r, n, h => by
    rw [List.map_cons, List.nodup_cons] at n
    unfold valG
    rcases List.mem_cons.mp h with e | h
    · cases e
      rw [if_pos rfl]
    · rw [if_neg (fun e => n.1 (List.mem_map.mpr ⟨_, h, e.symm⟩)), mem_val r n.2 h]
theorem Wf.stS {kv : KV} (h : Wf kv) (z : NZ kv) (k b : Int) : Wf (stS kv k b) ∧ NZ (Lk40.stS kv k b) := by
  unfold Lk40.stS
  split
  · split
    · exact ⟨h.drop _, fun p hp => z p (drop_mem kv p hp).1⟩
    · exact ⟨h, z⟩
  · rename_i hb
    refine ⟨h.put k b, fun p hp => ?_⟩
    rcases put_mem p hp with hp | rfl
    · exact z p hp
    · exact fun e => hb (D.int.inj e)
theorem Wf.putS : ∀ (bs : List Int) {kv : KV} (h : Wf kv) (z : NZ kv) (a : Int), Wf (putA Lk40.stS kv a bs) ∧ NZ (putA Lk40.stS kv a bs)
  | [], kv, h, z, a => ⟨h, z⟩
  | b :: bs, kv, h, z, a => Wf.putS bs (h.stS z a b).1 (h.stS z a b).2 (a + 1)
theorem Wf.putM : ∀ (bs : List Int) {kv : KV} (h : Wf kv) (a : Int), Wf (putA stM kv a bs)
  | [], kv, h, a => h
  | b :: bs, kv, h, a => Wf.putM bs (h.put a b) (a + 1)
theorem Wf.isI {kv : KV} (h : Wf kv) : IsI kv := fun k => by
  unfold gv
  cases c : valG kv (.inl k) with
  | none => exact ⟨0, rfl⟩
  | some d =>
    obtain ⟨i, j, e⟩ := h.ki _ (val_mem kv c)
    cases e
    exact ⟨j, rfl⟩
theorem nd_le {α : Type} [DecidableEq α] : ∀ (a b : List α), a.Nodup → (∀ x ∈ a, x ∈ b) → a.length ≤ b.length
  | [], b, _, _ => Nat.zero_le _
  | x :: a, b, n, h => by
    rw [List.nodup_cons] at n
    have hx := h x List.mem_cons_self
    have q := nd_le a (b.erase x) n.2 fun y hy => (List.mem_erase_of_ne (fun e => n.1 (by rw [← e]; exact hy))).mpr (h y (List.mem_cons_of_mem _ hy))
    rw [List.length_erase_of_mem hx] at q
    have : 0 < b.length := List.length_pos_of_mem hx
    rw [List.length_cons]
    omega
/-- two dicts that tell the same numbers, without noughts, are equal -/
theorem eqK_of {a b : KV} (ha : Wf a) (hb : Wf b) (za : NZ a) (zb : NZ b) (h : ∀ k, gv a k = gv b k) : eqK a b = true := by
  have go : ∀ {a b : KV}, Wf a → Wf b → NZ a → (∀ k, gv a k = gv b k) → ∀ i j : Int, (.inl i, .int j) ∈ a → valG b (.inl i) = some (.int j) := fun {a b} ha hb za h i j hm => by
    have e := mem_val a ha.nd hm
    have q := h i
    unfold gv at q
    rw [e] at q
    have nz := za _ hm
    cases c : valG b (.inl i) with
    | none =>
      rw [c] at q
      exact absurd q nz
    | some d =>
      rw [c] at q
      exact congrArg some q.symm
  have sub : ∀ {a b : KV}, Wf a → Wf b → NZ a → (∀ k, gv a k = gv b k) → a.length ≤ b.length := fun {a b} ha hb za h => by
    have := nd_le (a.map (·.1)) (b.map (·.1)) ha.nd fun x hx => by
      obtain ⟨p, hp, rfl⟩ := List.mem_map.mp hx
      obtain ⟨i, j, rfl⟩ := ha.ki p hp
      exact List.mem_map.mpr ⟨_, val_mem b (go ha hb za h i j hp), rfl⟩
    rw [List.length_map, List.length_map] at this
    exact this
  unfold eqK
  rw [Bool.and_eq_true, beq_iff_eq, List.all_eq_true]
  refine ⟨Nat.le_antisymm (sub ha hb za h) (sub hb ha zb fun k => (h k).symm), fun p hp => ?_⟩
  obtain ⟨i, j, rfl⟩ := ha.ki p hp
  rw [go ha hb za h i j hp]
  exact beq_self_eq_true j
theorem keys_ok : ∀ {kv : KV}, (∀ p ∈ kv, ∃ i j : Int, p = (.inl i, .int j)) → ∃ ks, keysI kv = some ks ∧ kv.map (·.1) = ks.map Sum.inl
  | [], _ => ⟨[], rfl, rfl⟩
  | p :: r, h => by
    obtain ⟨i, j, rfl⟩ := h p List.mem_cons_self
    obtain ⟨ks, h1, h2⟩ := keys_ok fun q hq => h q (List.mem_cons_of_mem _ hq)
    refine ⟨i :: ks, ?_, by rw [List.map_cons, h2]; rfl⟩
    show (keysI r).map (i :: ·) = _
    rw [h1]
    rfl
section
variable {s : Sto} {n k : Nat} {x y : D} {kv : KV} {a : Int} {q : Nat} {P : D → Sto → Prop}
theorem lc_read {x2 : Sl} {PL : List D → Sto → Prop} (hs : s[n]? = some (.ins 3002 [x, y, .mref k])) (hk : s[k]? = some (.dct kv)) : @At xc _ (lcGo (gN 3) tY (eGet2 (eU (dFld 3002 2) (eV 0)) (eB dAdd (eV 1) (eV 3)) (eC (.int 0))) [.val (.mref n), .val (.int a), x2, .un] ((List.range q).map fun (i : Nat) => D.int i) []) s PL = PL (rdV kv a q) s := by
  have := at_lc_map (xc := xc) (g := gN 3) (t := tY) (e := eGet2 (eU (dFld 3002 2) (eV 0)) (eB dAdd (eV 1) (eV 3)) (eC (.int 0))) (env := [.val (.mref n), .val (.int a), x2, .un]) (s := s) (fun x => match x with | .int k => some (gv kv (a + k)) | _ => none) ((List.range q).map fun (i : Nat) => D.int i) [] (fun x hx PK => by
    obtain ⟨k2, hk2, rfl⟩ := List.mem_map.mp hx
    simp (maxSteps := 1000000) (disch := omega) only [ev0, ev1, ev2, ev3, ev4, ev5, ev6, ev7, ev8, ev9, ev10, ev11, ev12, ev13, ev14, ev15, ev16, ev17, ev18, ev19, ev20, ev21, ev22, ev23, ev24, ev25, ev26, ev27, ev28, ev29, ev30, ev31, ev32, ev33, ev34, ev35, ev36, ev37, ev38, eq0, eq1, eq2, eq3, ↓pa0, pa0, ↓pa1, pa1, ↓pa2, pa2, ↓pa3, pa3, ↓pa4, pa4, ↓pa5, pa5, ↓pa6, pa6, ↓pa7, pa7, ↓pa8, pa8, ↓pa9, pa9, ↓pa10, pa10, ↓pa11, pa11, ↓pa12, pa12, ↓pa13, pa13, ↓pa14, pa14, ↓ps0, ↓ps1, ↓ps2, ↓ps3, ↓pw0, ↓pw1, ↓pw2, ↓pw3, ↓pl0, pl0, ↓pl1, pl1, ↓pl2, pl2, ↓reduceIte, Nat.reduceAdd, Nat.reduceLeDiff, Nat.reduceLT, Int.reduceLE, Int.reduceLT, Int.reduceNeg, Int.reduceAdd, Int.reduceSub, Int.reduceMul, Int.reduceDiv, Int.reduceMod, Int.reduceEq, Int.reduceToNat, Nat.reduceEqDiff, ↓hs, ↓hk, hs, hk]
    rfl) PL
  rw [this, List.nil_append, rdV_of fun k => rfl]
theorem read_ok (hs : s[n]? = some (.ins 3002 [x, y, .mref k])) (hk : s[k]? = some (.dct kv)) (hz : q ≤ 1000) : @At xc _ (m_Memory_read [.mref n, .int a, .int q]) s P = P (.mref s.length) (s ++ [.lst (rdV kv a q)]) := by
  rw [e_Memory_read]
  unfold b_Memory_read
  simp (maxSteps := 1000000) (disch := omega) only [ev0, ev1, ev2, ev3, ev4, ev5, ev6, ev7, ev8, ev9, ev10, ev11, ev12, ev13, ev14, ev15, ev16, ev17, ev18, ev19, ev20, ev21, ev22, ev23, ev24, ev25, ev26, ev27, ev28, ev29, ev30, ev31, ev32, ev33, ev34, ev35, ev36, ev37, ev38, eq0, eq1, eq2, eq3, ↓pa0, pa0, ↓pa1, pa1, ↓pa2, pa2, ↓pa3, pa3, ↓pa4, pa4, ↓pa5, pa5, ↓pa6, pa6, ↓pa7, pa7, ↓pa8, pa8, ↓pa9, pa9, ↓pa10, pa10, ↓pa11, pa11, ↓pa12, pa12, ↓pa13, pa13, ↓pa14, pa14, ↓ps0, ↓ps1, ↓ps2, ↓ps3, ↓reduceIte, Nat.reduceAdd, Nat.reduceLeDiff, Nat.reduceLT, Int.reduceLE, Int.reduceLT, Int.reduceNeg, Int.reduceAdd, Int.reduceSub, Int.reduceMul, Int.reduceDiv, Int.reduceMod, Int.reduceEq, Int.reduceToNat, Nat.reduceEqDiff, ↓hs, ↓hk, ↓at_lLc, ↓wp_nil, ↓wp_cons, ↓lc_read hs hk, ↓Int.toNat_natCast, ↓List.length_map, ↓List.length_range, hs, hk, at_lLc, wp_nil, wp_cons, lc_read hs hk, Int.toNat_natCast, show (q : Int) ≤ 100000 by omega, show -100000 ≤ (q : Int) by omega, List.length_map, List.length_range, show q ≤ 40000 by omega]
theorem same_ok {xs : List D} {m : Nat} (hm : s[m]? = some (.lst xs)) (hi : ∀ z ∈ xs, ∃ i : Int, z = .int i) (hz : xs.length ≤ 1000) : @At xc _ (m_l_same_ints [.mref m, .lst xs]) s P = P (.bl true) s := by
  refine at_det ?_ P
  rw [e_l_same_ints]
  unfold b_l_same_ints
  simp (maxSteps := 1000000) (disch := omega) only [ev0, ev1, ev2, ev3, ev4, ev5, ev6, ev7, ev8, ev9, ev10, ev11, ev12, ev13, ev14, ev15, ev16, ev17, ev18, ev19, ev20, ev21, ev22, ev23, ev24, ev25, ev26, ev27, ev28, ev29, ev30, ev31, ev32, ev33, ev34, ev35, ev36, ev37, ev38, eq0, eq1, eq2, eq3, ↓pa0, pa0, ↓pa1, pa1, ↓pa2, pa2, ↓pa3, pa3, ↓pa4, pa4, ↓pa5, pa5, ↓pa6, pa6, ↓pa7, pa7, ↓pa8, pa8, ↓pa9, pa9, ↓pa10, pa10, ↓pa11, pa11, ↓pa12, pa12, ↓pa13, pa13, ↓pa14, pa14, ↓ps0, ↓ps1, ↓ps2, ↓ps3, ↓pw0, ↓pw1, ↓pw2, ↓pw3, ↓pl0, pl0, ↓pl1, pl1, ↓pl2, pl2, ↓reduceIte, Nat.reduceAdd, Nat.reduceLeDiff, Nat.reduceLT, Int.reduceLE, Int.reduceLT, Int.reduceNeg, Int.reduceAdd, Int.reduceSub, Int.reduceMul, Int.reduceDiv, Int.reduceMod, Int.reduceEq, Int.reduceToNat, Nat.reduceEqDiff, ↓hm, ↓Int.toNat_natCast, hm, show (xs.length : Int) ≤ 100000 by omega, show -100000 ≤ (xs.length : Int) by omega, Int.toNat_natCast]
  refine AtS.mono (atS_range (fun k env st => ∃ y2, env = [.val (.mref m), .val (.lst xs), y2] ∧ st = s) xs.length _ _ ⟨_, rfl, rfl⟩ fun k env st hk hI => ?_) (fun env st hI => ?_) fun v st h => h
  · obtain ⟨y2, rfl, rfl⟩ := hI
    have hx : xs[k]? = some xs[k] := List.getElem?_eq_getElem hk
    obtain ⟨i, hi⟩ := hi xs[k] (List.getElem_mem hk)
    have ix := ixL_ok (Dm.atI_nat hx)
    rw [hi] at ix hx
    unfold b_l_same_ints_1
    simp (maxSteps := 1000000) (disch := omega) only [ev0, ev1, ev2, ev3, ev4, ev5, ev6, ev7, ev8, ev9, ev10, ev11, ev12, ev13, ev14, ev15, ev16, ev17, ev18, ev19, ev20, ev21, ev22, ev23, ev24, ev25, ev26, ev27, ev28, ev29, ev30, ev31, ev32, ev33, ev34, ev35, ev36, ev37, ev38, eq0, eq1, eq2, eq3, ↓pa0, pa0, ↓pa1, pa1, ↓pa2, pa2, ↓pa3, pa3, ↓pa4, pa4, ↓pa5, pa5, ↓pa6, pa6, ↓pa7, pa7, ↓pa8, pa8, ↓pa9, pa9, ↓pa10, pa10, ↓pa11, pa11, ↓pa12, pa12, ↓pa13, pa13, ↓pa14, pa14, ↓ps0, ↓ps1, ↓ps2, ↓ps3, ↓pw0, ↓pw1, ↓pw2, ↓pw3, ↓pl0, pl0, ↓pl1, pl1, ↓pl2, pl2, ↓reduceIte, Nat.reduceAdd, Nat.reduceLeDiff, Nat.reduceLT, Int.reduceLE, Int.reduceLT, Int.reduceNeg, Int.reduceAdd, Int.reduceSub, Int.reduceMul, Int.reduceDiv, Int.reduceMod, Int.reduceEq, Int.reduceToNat, Nat.reduceEqDiff, ↓hm, ↓Dm.atI_nat hx, ↓ix, ↓e_l_is_int, ↓b_l_is_int, hm, Dm.atI_nat hx, ix, e_l_is_int, b_l_is_int]
    exact ⟨_, rfl⟩
  · obtain ⟨y2, rfl, rfl⟩ := hI
    simp (maxSteps := 1000000) (disch := omega) only [ev0, ev1, ev2, ev3, ev4, ev5, ev6, ev7, ev8, ev9, ev10, ev11, ev12, ev13, ev14, ev15, ev16, ev17, ev18, ev19, ev20, ev21, ev22, ev23, ev24, ev25, ev26, ev27, ev28, ev29, ev30, ev31, ev32, ev33, ev34, ev35, ev36, ev37, ev38, eq0, eq1, eq2, eq3, ↓pa0, pa0, ↓pa1, pa1, ↓pa2, pa2, ↓pa3, pa3, ↓pa4, pa4, ↓pa5, pa5, ↓pa6, pa6, ↓pa7, pa7, ↓pa8, pa8, ↓pa9, pa9, ↓pa10, pa10, ↓pa11, pa11, ↓pa12, pa12, ↓pa13, pa13, ↓pa14, pa14, ↓ps0, ↓ps1, ↓ps2, ↓ps3, ↓pw0, ↓pw1, ↓pw2, ↓pw3, ↓pl0, pl0, ↓pl1, pl1, ↓pl2, pl2, ↓reduceIte, Nat.reduceAdd, Nat.reduceLeDiff, Nat.reduceLT, Int.reduceLE, Int.reduceLT, Int.reduceNeg, Int.reduceAdd, Int.reduceSub, Int.reduceMul, Int.reduceDiv, Int.reduceMod, Int.reduceEq, Int.reduceToNat, Nat.reduceEqDiff]
theorem enum_at : ∀ (xs : List D) (n i : Nat), (enumD n xs)[i]? = xs[i]?.map fun x => .tup [.int ((n + i : Nat) : Int), x]
  | [], _, _ => rfl
  | x :: xs, n, 0 => rfl
  | x :: xs, n, i + 1 => by
    show (enumD (n + 1) xs)[i]? = _
    rw [enum_at xs (n + 1) i, List.getElem?_cons_succ, show n + 1 + i = n + (i + 1) by omega]
theorem enum_len : ∀ (xs : List D) (n : Nat), (enumD n xs).length = xs.length
  | [], _ => rfl
  | x :: xs, n => congrArg (· + 1) (enum_len xs (n + 1))
theorem write_ok {bs : List Int} (hs : s[n]? = some (.ins 3002 [x, y, .mref k])) (hk : s[k]? = some (.dct kv)) (hz : kv.length + bs.length ≤ 90000) : @At xc _ (m_Memory_write [.mref n, .int a, .lst (dI bs)]) s P = P .non (s.set k (.dct (putA stS kv a bs))) := by
  have nk : k ≠ n := fun e => by
    subst e
    rw [hs] at hk
    cases hk
  have kl : k < s.length := (List.getElem?_eq_some_iff.mp hk).1
  refine at_det ?_ P
  rw [e_Memory_write]
  unfold b_Memory_write
  simp (maxSteps := 1000000) (disch := omega) only [ev0, ev1, ev2, ev3, ev4, ev5, ev6, ev7, ev8, ev9, ev10, ev11, ev12, ev13, ev14, ev15, ev16, ev17, ev18, ev19, ev20, ev21, ev22, ev23, ev24, ev25, ev26, ev27, ev28, ev29, ev30, ev31, ev32, ev33, ev34, ev35, ev36, ev37, ev38, eq0, eq1, eq2, eq3, ↓pa0, pa0, ↓pa1, pa1, ↓pa2, pa2, ↓pa3, pa3, ↓pa4, pa4, ↓pa5, pa5, ↓pa6, pa6, ↓pa7, pa7, ↓pa8, pa8, ↓pa9, pa9, ↓pa10, pa10, ↓pa11, pa11, ↓pa12, pa12, ↓pa13, pa13, ↓pa14, pa14, ↓ps0, ↓ps1, ↓ps2, ↓ps3, ↓pw0, ↓pw1, ↓pw2, ↓pw3, ↓pl0, pl0, ↓pl1, pl1, ↓pl2, pl2, ↓reduceIte, Nat.reduceAdd, Nat.reduceLeDiff, Nat.reduceLT, Int.reduceLE, Int.reduceLT, Int.reduceNeg, Int.reduceAdd, Int.reduceSub, Int.reduceMul, Int.reduceDiv, Int.reduceMod, Int.reduceEq, Int.reduceToNat, Nat.reduceEqDiff, ↓List.length_map, List.length_map, show bs.length ≤ 100000 by omega, show bs.length ≤ 40000 ∨ True from Or.inr True.intro]
  have q := atS_for (xd := fun c fs _ t => x0 c fs t) (T := EndP fun d t => d = .non ∧ t = s.set k (.dct (putA stS kv a bs))) (g := gT 2 (gC (gN 3) (gC (gN 4) gE))) (b := b_Memory_write_1) (fun j env st => ∃ (kv2 : KV) (x3 x4 : Sl), putA stS kv2 (a + (j : Int)) (bs.drop j) = putA stS kv a bs ∧ kv2.length ≤ kv.length + j ∧ env = [.val (.mref n), .val (.int a), .val (.lst (dI bs)), x3, x4] ∧ st = s.set k (.dct kv2)) (enumD 0 (dI bs)) 0 [.val (.mref n), .val (.int a), .val (.lst (dI bs)), .un, .un] s ⟨kv, _, _, by rw [Int.natCast_zero, Int.add_zero, List.drop_zero], Nat.le_refl _, rfl, by
    rw [← List.getElem?_eq_some_iff.mp hk |>.2, List.set_getElem_self]⟩ fun j d env st hd hI => by
      rw [Nat.zero_add] at hI ⊢
      obtain ⟨kv2, x3, x4, h1, h2, rfl, rfl⟩ := hI
      rw [enum_at, Nat.zero_add, dI, List.getElem?_map, Option.map_map, Option.map_eq_some_iff] at hd
      obtain ⟨z, hz2, rfl⟩ := hd
      have hj : j < bs.length := (List.getElem?_eq_some_iff.mp hz2).1
      obtain rfl : bs[j] = z := (List.getElem?_eq_some_iff.mp hz2).2
      rw [List.drop_eq_getElem_cons hj] at h1
      have g1 : (s.set k (.dct kv2))[n]? = some (.ins 3002 [x, y, .mref k]) := by rw [List.getElem?_set_ne nk]; exact hs
      have g2 : (s.set k (.dct kv2))[k]? = some (.dct kv2) := by simp [kl]
      have ss : ∀ c, (s.set k (.dct kv2)).set k c = s.set k c := fun c => List.set_set ..
      have l2 := (stS_ok kv2 (a + (j : Int)) bs[j]).2
      have nx : ∃ (kv3 : KV) (x3 x4 : Sl), putA stS kv3 (a + ((j + 1 : Nat) : Int)) (bs.drop (j + 1)) = putA stS kv a bs ∧ kv3.length ≤ kv.length + (j + 1) ∧ ([.val (.mref n), .val (.int a), .val (.lst (dI bs)), .val (.int (j : Int)), .val (.int bs[j])] : Dm.Env) = [.val (.mref n), .val (.int a), .val (.lst (dI bs)), x3, x4] ∧ s.set k (.dct (stS kv2 (a + (j : Int)) bs[j])) = s.set k (.dct kv3) :=
        ⟨stS kv2 (a + (j : Int)) bs[j], _, _, by rw [show a + ((j + 1 : Nat) : Int) = a + (j : Int) + 1 by omega]; exact h1, by omega, rfl, rfl⟩
      have lk : kv2.length < 100000 := by omega
      refine ⟨[.val (.mref n), .val (.int a), .val (.lst (dI bs)), .val (.int (j : Int)), .val (.int bs[j])], rfl, ?_⟩
      unfold b_Memory_write_1
      by_cases c1 : bs[j] = 0
      · by_cases c2 : (valG kv2 (.inl (a + (j : Int)))).isSome = true
        · rw [show stS kv2 (a + (j : Int)) bs[j] = dropG kv2 (.inl (a + (j : Int))) by unfold stS; rw [if_pos c1, if_pos c2]] at nx
          simp (maxSteps := 1000000) (disch := omega) only [ev0, ev1, ev2, ev3, ev4, ev5, ev6, ev7, ev8, ev9, ev10, ev11, ev12, ev13, ev14, ev15, ev16, ev17, ev18, ev19, ev20, ev21, ev22, ev23, ev24, ev25, ev26, ev27, ev28, ev29, ev30, ev31, ev32, ev33, ev34, ev35, ev36, ev37, ev38, eq0, eq1, eq2, eq3, ↓pa0, pa0, ↓pa1, pa1, ↓pa2, pa2, ↓pa3, pa3, ↓pa4, pa4, ↓pa5, pa5, ↓pa6, pa6, ↓pa7, pa7, ↓pa8, pa8, ↓pa9, pa9, ↓pa10, pa10, ↓pa11, pa11, ↓pa12, pa12, ↓pa13, pa13, ↓pa14, pa14, ↓ps0, ↓ps1, ↓ps2, ↓ps3, ↓pw0, ↓pw1, ↓pw2, ↓pw3, ↓pl0, pl0, ↓pl1, pl1, ↓pl2, pl2, ↓reduceIte, Nat.reduceAdd, Nat.reduceLeDiff, Nat.reduceLT, Int.reduceLE, Int.reduceLT, Int.reduceNeg, Int.reduceAdd, Int.reduceSub, Int.reduceMul, Int.reduceDiv, Int.reduceMod, Int.reduceEq, Int.reduceToNat, Nat.reduceEqDiff, ↓g1, ↓g2, ↓ss, ↓c1, ↓c2, g1, g2, ss, c1, c2]
          rw [c1] at nx
          exact nx
        · rw [show stS kv2 (a + (j : Int)) bs[j] = kv2 by unfold stS; rw [if_pos c1, if_neg c2]] at nx
          simp (maxSteps := 1000000) (disch := omega) only [ev0, ev1, ev2, ev3, ev4, ev5, ev6, ev7, ev8, ev9, ev10, ev11, ev12, ev13, ev14, ev15, ev16, ev17, ev18, ev19, ev20, ev21, ev22, ev23, ev24, ev25, ev26, ev27, ev28, ev29, ev30, ev31, ev32, ev33, ev34, ev35, ev36, ev37, ev38, eq0, eq1, eq2, eq3, ↓pa0, pa0, ↓pa1, pa1, ↓pa2, pa2, ↓pa3, pa3, ↓pa4, pa4, ↓pa5, pa5, ↓pa6, pa6, ↓pa7, pa7, ↓pa8, pa8, ↓pa9, pa9, ↓pa10, pa10, ↓pa11, pa11, ↓pa12, pa12, ↓pa13, pa13, ↓pa14, pa14, ↓ps0, ↓ps1, ↓ps2, ↓ps3, ↓pw0, ↓pw1, ↓pw2, ↓pw3, ↓pl0, pl0, ↓pl1, pl1, ↓pl2, pl2, ↓reduceIte, Nat.reduceAdd, Nat.reduceLeDiff, Nat.reduceLT, Int.reduceLE, Int.reduceLT, Int.reduceNeg, Int.reduceAdd, Int.reduceSub, Int.reduceMul, Int.reduceDiv, Int.reduceMod, Int.reduceEq, Int.reduceToNat, Nat.reduceEqDiff, ↓g1, ↓g2, ↓ss, ↓c1, ↓c2, g1, g2, ss, c1, c2]
          rw [c1] at nx
          exact nx
      · rw [show stS kv2 (a + (j : Int)) bs[j] = putG kv2 (.inl (a + (j : Int))) (.int bs[j]) by unfold stS; rw [if_neg c1]] at nx
        simp (maxSteps := 1000000) (disch := omega) only [ev0, ev1, ev2, ev3, ev4, ev5, ev6, ev7, ev8, ev9, ev10, ev11, ev12, ev13, ev14, ev15, ev16, ev17, ev18, ev19, ev20, ev21, ev22, ev23, ev24, ev25, ev26, ev27, ev28, ev29, ev30, ev31, ev32, ev33, ev34, ev35, ev36, ev37, ev38, eq0, eq1, eq2, eq3, ↓pa0, pa0, ↓pa1, pa1, ↓pa2, pa2, ↓pa3, pa3, ↓pa4, pa4, ↓pa5, pa5, ↓pa6, pa6, ↓pa7, pa7, ↓pa8, pa8, ↓pa9, pa9, ↓pa10, pa10, ↓pa11, pa11, ↓pa12, pa12, ↓pa13, pa13, ↓pa14, pa14, ↓ps0, ↓ps1, ↓ps2, ↓ps3, ↓pw0, ↓pw1, ↓pw2, ↓pw3, ↓pl0, pl0, ↓pl1, pl1, ↓pl2, pl2, ↓reduceIte, Nat.reduceAdd, Nat.reduceLeDiff, Nat.reduceLT, Int.reduceLE, Int.reduceLT, Int.reduceNeg, Int.reduceAdd, Int.reduceSub, Int.reduceMul, Int.reduceDiv, Int.reduceMod, Int.reduceEq, Int.reduceToNat, Nat.reduceEqDiff, ↓g1, ↓g2, ↓ss, ↓c1, ↓lk, g1, g2, ss, c1, lk]
        exact nx
  refine AtS.mono q (fun env st hI => ?_) fun v st h => h
  rw [Nat.zero_add, enum_len, dI, List.length_map, List.drop_length] at hI
  obtain ⟨kv2, x3, x4, h1, _, rfl, rfl⟩ := hI
  replace h1 : kv2 = putA stS kv a bs := h1
  subst h1
  simp (maxSteps := 1000000) (disch := omega) only [ev0, ev1, ev2, ev3, ev4, ev5, ev6, ev7, ev8, ev9, ev10, ev11, ev12, ev13, ev14, ev15, ev16, ev17, ev18, ev19, ev20, ev21, ev22, ev23, ev24, ev25, ev26, ev27, ev28, ev29, ev30, ev31, ev32, ev33, ev34, ev35, ev36, ev37, ev38, eq0, eq1, eq2, eq3, ↓pa0, pa0, ↓pa1, pa1, ↓pa2, pa2, ↓pa3, pa3, ↓pa4, pa4, ↓pa5, pa5, ↓pa6, pa6, ↓pa7, pa7, ↓pa8, pa8, ↓pa9, pa9, ↓pa10, pa10, ↓pa11, pa11, ↓pa12, pa12, ↓pa13, pa13, ↓pa14, pa14, ↓ps0, ↓ps1, ↓ps2, ↓ps3, ↓pw0, ↓pw1, ↓pw2, ↓pw3, ↓pl0, pl0, ↓pl1, pl1, ↓pl2, pl2, ↓reduceIte, Nat.reduceAdd, Nat.reduceLeDiff, Nat.reduceLT, Int.reduceLE, Int.reduceLT, Int.reduceNeg, Int.reduceAdd, Int.reduceSub, Int.reduceMul, Int.reduceDiv, Int.reduceMod, Int.reduceEq, Int.reduceToNat, Nat.reduceEqDiff]
theorem win_ok {m : KV} {mm : Nat} {at_ cnt size : Int} (hs : s[n]? = some (.ins 3002 [x, y, .mref k])) (hk : s[k]? = some (.dct kv)) (hm : s[mm]? = some (.dct m)) (h : ∀ z, gv kv z = gv m z) (hi : IsI m) (h0 : 0 ≤ at_) (h1 : at_ ≤ size) (hz : size ≤ 2000000) (h2 : 0 ≤ cnt) (h3 : cnt ≤ 20) :
    ∃ cs : Sto, ∀ (xc : XC) P, @At xc _ (m_l_window [.mref n, .mref mm, .int at_, .int cnt, .int size]) s P = P (.bl true) (s ++ cs) := by
  obtain ⟨f, hf, f0⟩ : ∃ f : Int, (if at_ - 5 > 0 then at_ - 5 else 0) = f ∧ 0 ≤ f := ⟨_, rfl, by split <;> omega⟩
  have rd : ∀ (q : Nat), rdV kv f q = rdV m f q := fun q => by
    unfold rdV
    refine List.map_congr_left fun z _ => h _
  obtain ⟨l, hl, l0, l1⟩ : ∃ l : Int, (if at_ + cnt + 5 < size then at_ + cnt + 5 else size) = l ∧ f ≤ l ∧ l ≤ f + 40 := ⟨_, rfl, by subst hf; split <;> split <;> omega, by subst hf; split <;> split <;> omega⟩
  obtain ⟨q, hq⟩ : ∃ q : Nat, l - f = (q : Int) := ⟨_, (Int.toNat_of_nonneg (by omega)).symm⟩
  have r1 := fun (xc : XC) P => read_ok (xc := xc) (a := f) (q := q) (P := P) hs hk (by omega)
  rw [rd] at r1
  have ix : ∀ z ∈ rdV m f q, ∃ i : Int, z = .int i := fun z hz => by
    obtain ⟨k, _, rfl⟩ := List.mem_map.mp hz
    exact hi _
  have ln : (rdV m f q).length = q := by unfold rdV; rw [List.length_map, List.length_range]
  refine ⟨[.lst ((rdV m f q ++ [D.int 7]).set 0 (D.int 77)), .lst (rdV m f q)], fun xc P => ?_⟩
  have g0 : (s ++ [Cell.lst (rdV m f q)])[mm]? = some (.dct m) := by
    rw [List.getElem?_append_left (List.getElem?_eq_some_iff.mp hm).1]; exact hm
  have g1 : (s ++ [Cell.lst (rdV m f q)])[s.length]? = some (.lst (rdV m f q)) := by simp
  have lc : ∀ (xc : XC) PL, @At xc _ (lcGo (gN 9) tY (eGet2 (eV 1) (eV 9) (eC (.int 0))) [.val (.mref n), .val (.mref mm), .val (.int at_), .val (.int cnt), .val (.int size), .val (.int f), .val (.int l), .val (.mref s.length), .un, .un] ((List.range q).map fun (i : Nat) => D.int (f + (i : Int))) []) (s ++ [.lst (rdV m f q)]) PL = PL (rdV m f q) (s ++ [.lst (rdV m f q)]) := fun xc PL => by
    have := at_lc_map (xc := xc) (g := gN 9) (t := tY) (e := eGet2 (eV 1) (eV 9) (eC (.int 0))) (env := [.val (.mref n), .val (.mref mm), .val (.int at_), .val (.int cnt), .val (.int size), .val (.int f), .val (.int l), .val (.mref s.length), .un, .un]) (s := s ++ [.lst (rdV m f q)]) (fun x => match x with | .int k => some (gv m k) | _ => none) ((List.range q).map fun (i : Nat) => D.int (f + (i : Int))) [] (fun x hx PK => by
      obtain ⟨k2, hk2, rfl⟩ := List.mem_map.mp hx
      simp (maxSteps := 1000000) (disch := omega) only [ev0, ev1, ev2, ev3, ev4, ev5, ev6, ev7, ev8, ev9, ev10, ev11, ev12, ev13, ev14, ev15, ev16, ev17, ev18, ev19, ev20, ev21, ev22, ev23, ev24, ev25, ev26, ev27, ev28, ev29, ev30, ev31, ev32, ev33, ev34, ev35, ev36, ev37, ev38, eq0, eq1, eq2, eq3, ↓pa0, pa0, ↓pa1, pa1, ↓pa2, pa2, ↓pa3, pa3, ↓pa4, pa4, ↓pa5, pa5, ↓pa6, pa6, ↓pa7, pa7, ↓pa8, pa8, ↓pa9, pa9, ↓pa10, pa10, ↓pa11, pa11, ↓pa12, pa12, ↓pa13, pa13, ↓pa14, pa14, ↓ps0, ↓ps1, ↓ps2, ↓ps3, ↓pw0, ↓pw1, ↓pw2, ↓pw3, ↓pl0, pl0, ↓pl1, pl1, ↓pl2, pl2, ↓reduceIte, Nat.reduceAdd, Nat.reduceLeDiff, Nat.reduceLT, Int.reduceLE, Int.reduceLT, Int.reduceNeg, Int.reduceAdd, Int.reduceSub, Int.reduceMul, Int.reduceDiv, Int.reduceMod, Int.reduceEq, Int.reduceToNat, Nat.reduceEqDiff, ↓g0, g0]
      rfl) PL
    rw [this, List.nil_append]
    congr 1
    unfold rdV
    generalize List.range q = ks
    induction ks with
    | nil => rfl
    | cons k ks ih => rw [List.map_cons, List.filterMap_cons, List.map_cons, ih]
  have sm := fun (xc : XC) P => same_ok (xc := xc) (P := P) g1 ix (by omega)
  rw [e_l_window]
  unfold b_l_window
  repeat (first | rw [sq_frz] | rw [sq_nx] | rw [sq_sq])
  first | rw [sq_a] | rw [sq_o] | rw [sq_x] | rw [sq_if] | rw [sq_ret] | rw [sq_retL] | rw [sq_retO] | rw [sq_app] | rw [sq_ext] | rw [sq_aug] | rw [sq_g] | rw [sq_br] | rw [sq_ct] | rw [sq_raise] | rw [sq_for] | rw [sq_wh] | rw [sq_set] | rw [sq_mset] | rw [sq_fd] | rw [sq_fdAug] | rw [sq_kput] | rw [sq_kdel] | rw [sq_putSl] | rw [sq_delSl] | rw [sq_forM] | rw [sq_tryN] | rw [sq_try]
  simp (maxSteps := 1000000) (disch := omega) only [ev0, ev1, ev2, ev3, ev4, ev5, ev6, ev7, ev8, ev9, ev10, ev11, ev12, ev13, ev14, ev15, ev16, ev17, ev18, ev19, ev20, ev21, ev22, ev23, ev24, ev25, ev26, ev27, ev28, ev29, ev30, ev31, ev32, ev33, ev34, ev35, ev36, ev37, ev38, ↓pa0, pa0, ↓pa1, pa1, ↓pa2, pa2, ↓pa3, pa3, ↓pa4, pa4, ↓pa5, pa5, ↓pa6, pa6, ↓pa7, pa7, ↓pa8, pa8, ↓pa9, pa9, ↓pa10, pa10, ↓pa11, pa11, ↓pa12, pa12, ↓pa13, pa13, ↓pa14, pa14, ↓reduceIte, Nat.reduceAdd, Nat.reduceLeDiff, Nat.reduceLT, Int.reduceLE, Int.reduceLT, Int.reduceNeg, Int.reduceAdd, Int.reduceSub, Int.reduceMul, Int.reduceDiv, Int.reduceMod, Int.reduceEq, Int.reduceToNat, Nat.reduceEqDiff]
  rw [hf]
  repeat (first | rw [sq_frz] | rw [sq_nx] | rw [sq_sq])
  first | rw [sq_a] | rw [sq_o] | rw [sq_x] | rw [sq_if] | rw [sq_ret] | rw [sq_retL] | rw [sq_retO] | rw [sq_app] | rw [sq_ext] | rw [sq_aug] | rw [sq_g] | rw [sq_br] | rw [sq_ct] | rw [sq_raise] | rw [sq_for] | rw [sq_wh] | rw [sq_set] | rw [sq_mset] | rw [sq_fd] | rw [sq_fdAug] | rw [sq_kput] | rw [sq_kdel] | rw [sq_putSl] | rw [sq_delSl] | rw [sq_forM] | rw [sq_tryN] | rw [sq_try]
  simp (maxSteps := 1000000) (disch := omega) only [ev0, ev1, ev2, ev3, ev4, ev5, ev6, ev7, ev8, ev9, ev10, ev11, ev12, ev13, ev14, ev15, ev16, ev17, ev18, ev19, ev20, ev21, ev22, ev23, ev24, ev25, ev26, ev27, ev28, ev29, ev30, ev31, ev32, ev33, ev34, ev35, ev36, ev37, ev38, ↓pa0, pa0, ↓pa1, pa1, ↓pa2, pa2, ↓pa3, pa3, ↓pa4, pa4, ↓pa5, pa5, ↓pa6, pa6, ↓pa7, pa7, ↓pa8, pa8, ↓pa9, pa9, ↓pa10, pa10, ↓pa11, pa11, ↓pa12, pa12, ↓pa13, pa13, ↓pa14, pa14, ↓reduceIte, Nat.reduceAdd, Nat.reduceLeDiff, Nat.reduceLT, Int.reduceLE, Int.reduceLT, Int.reduceNeg, Int.reduceAdd, Int.reduceSub, Int.reduceMul, Int.reduceDiv, Int.reduceMod, Int.reduceEq, Int.reduceToNat, Nat.reduceEqDiff]
  rw [hl]
  repeat (first | rw [sq_frz] | rw [sq_nx] | rw [sq_sq])
  first | rw [sq_a] | rw [sq_o] | rw [sq_x] | rw [sq_if] | rw [sq_ret] | rw [sq_retL] | rw [sq_retO] | rw [sq_app] | rw [sq_ext] | rw [sq_aug] | rw [sq_g] | rw [sq_br] | rw [sq_ct] | rw [sq_raise] | rw [sq_for] | rw [sq_wh] | rw [sq_set] | rw [sq_mset] | rw [sq_fd] | rw [sq_fdAug] | rw [sq_kput] | rw [sq_kdel] | rw [sq_putSl] | rw [sq_delSl] | rw [sq_forM] | rw [sq_tryN] | rw [sq_try]
  simp (maxSteps := 1000000) (disch := omega) only [ev0, ev1, ev2, ev3, ev4, ev5, ev6, ev7, ev8, ev9, ev10, ev11, ev12, ev13, ev14, ev15, ev16, ev17, ev18, ev19, ev20, ev21, ev22, ev23, ev24, ev25, ev26, ev27, ev28, ev29, ev30, ev31, ev32, ev33, ev34, ev35, ev36, ev37, ev38, ↓pa0, pa0, ↓pa1, pa1, ↓pa2, pa2, ↓pa3, pa3, ↓pa4, pa4, ↓pa5, pa5, ↓pa6, pa6, ↓pa7, pa7, ↓pa8, pa8, ↓pa9, pa9, ↓pa10, pa10, ↓pa11, pa11, ↓pa12, pa12, ↓pa13, pa13, ↓pa14, pa14, ↓reduceIte, Nat.reduceAdd, Nat.reduceLeDiff, Nat.reduceLT, Int.reduceLE, Int.reduceLT, Int.reduceNeg, Int.reduceAdd, Int.reduceSub, Int.reduceMul, Int.reduceDiv, Int.reduceMod, Int.reduceEq, Int.reduceToNat, Nat.reduceEqDiff, ↓hs, ↓hq, ↓r1, hs, hq, r1]
  repeat (first | rw [sq_frz] | rw [sq_nx] | rw [sq_sq])
  first | rw [sq_a] | rw [sq_o] | rw [sq_x] | rw [sq_if] | rw [sq_ret] | rw [sq_retL] | rw [sq_retO] | rw [sq_app] | rw [sq_ext] | rw [sq_aug] | rw [sq_g] | rw [sq_br] | rw [sq_ct] | rw [sq_raise] | rw [sq_for] | rw [sq_wh] | rw [sq_set] | rw [sq_mset] | rw [sq_fd] | rw [sq_fdAug] | rw [sq_kput] | rw [sq_kdel] | rw [sq_putSl] | rw [sq_delSl] | rw [sq_forM] | rw [sq_tryN] | rw [sq_try]
  simp (maxSteps := 1000000) (disch := omega) only [ev0, ev1, ev2, ev3, ev4, ev5, ev6, ev7, ev8, ev9, ev10, ev11, ev12, ev13, ev14, ev15, ev16, ev17, ev18, ev19, ev20, ev21, ev22, ev23, ev24, ev25, ev26, ev27, ev28, ev29, ev30, ev31, ev32, ev33, ev34, ev35, ev36, ev37, ev38, ↓pa0, pa0, ↓pa1, pa1, ↓pa2, pa2, ↓pa3, pa3, ↓pa4, pa4, ↓pa5, pa5, ↓pa6, pa6, ↓pa7, pa7, ↓pa8, pa8, ↓pa9, pa9, ↓pa10, pa10, ↓pa11, pa11, ↓pa12, pa12, ↓pa13, pa13, ↓pa14, pa14, ↓reduceIte, Nat.reduceAdd, Nat.reduceLeDiff, Nat.reduceLT, Int.reduceLE, Int.reduceLT, Int.reduceNeg, Int.reduceAdd, Int.reduceSub, Int.reduceMul, Int.reduceDiv, Int.reduceMod, Int.reduceEq, Int.reduceToNat, Nat.reduceEqDiff, ↓at_lLc, ↓wp_nil, ↓wp_cons, ↓ap_iR2W, ↓itR2W_i, ↓hq, ↓Int.toNat_natCast, ↓List.length_map, ↓List.length_range, ↓lc, at_lLc, wp_nil, wp_cons, ap_iR2W, itR2W_i, hq, Int.toNat_natCast, List.length_map, List.length_range, show q ≤ 40000 by omega, lc, show l ≤ 1000000000 by omega, show -1000000000 ≤ l by omega, show f ≤ 1000000000 by omega, show -1000000000 ≤ f by omega]
  have st1 : ∀ c, (s ++ [Cell.lst (rdV m f q)]).set s.length c = s ++ [c] := fun c => by simp
  have g2 : (s ++ [Cell.lst (rdV m f q ++ [D.int 7])])[s.length]? = some (.lst (rdV m f q ++ [D.int 7])) := by simp
  have st2 : ∀ c, (s ++ [Cell.lst (rdV m f q ++ [D.int 7])]).set s.length c = s ++ [c] := fun c => by simp
  have ln2 : (rdV m f q ++ [D.int 7]).length = q + 1 := by rw [List.length_append, ln]; rfl
  have h3 : (s ++ [Cell.lst ((rdV m f q ++ [D.int 7]).set 0 (D.int 77))])[n]? = some (.ins 3002 [x, y, .mref k]) := by
    rw [List.getElem?_append_left (List.getElem?_eq_some_iff.mp hs).1]; exact hs
  have h4 : (s ++ [Cell.lst ((rdV m f q ++ [D.int 7]).set 0 (D.int 77))])[k]? = some (.dct kv) := by
    rw [List.getElem?_append_left (List.getElem?_eq_some_iff.mp hk).1]; exact hk
  have r2 := fun (xc : XC) P => read_ok (xc := xc) (a := f) (q := q) (P := P) h3 h4 (by omega)
  rw [rd] at r2
  have g5 : (s ++ [Cell.lst ((rdV m f q ++ [D.int 7]).set 0 (D.int 77))] ++ [Cell.lst (rdV m f q)])[(s ++ [Cell.lst ((rdV m f q ++ [D.int 7]).set 0 (D.int 77))]).length]? = some (.lst (rdV m f q)) := by simp
  have sm2 := fun (xc : XC) P => same_ok (xc := xc) (P := P) g5 ix (by omega)
  have i0 : ixN (rdV m f q ++ [D.int 7]).length 0 = some 0 := ixN_ok (by decide) (by rw [ln2]; omega)
  have fin : s ++ [Cell.lst ((rdV m f q ++ [D.int 7]).set 0 (D.int 77))] ++ [Cell.lst (rdV m f q)] = s ++ [Cell.lst ((rdV m f q ++ [D.int 7]).set 0 (D.int 77)), Cell.lst (rdV m f q)] := by simp
  repeat (first | rw [sq_frz] | rw [sq_nx] | rw [sq_sq])
  first | rw [sq_a] | rw [sq_o] | rw [sq_x] | rw [sq_if] | rw [sq_ret] | rw [sq_retL] | rw [sq_retO] | rw [sq_app] | rw [sq_ext] | rw [sq_aug] | rw [sq_g] | rw [sq_br] | rw [sq_ct] | rw [sq_raise] | rw [sq_for] | rw [sq_wh] | rw [sq_set] | rw [sq_mset] | rw [sq_fd] | rw [sq_fdAug] | rw [sq_kput] | rw [sq_kdel] | rw [sq_putSl] | rw [sq_delSl] | rw [sq_forM] | rw [sq_tryN] | rw [sq_try]
  simp (maxSteps := 1000000) (disch := omega) only [ev0, ev1, ev2, ev3, ev4, ev5, ev6, ev7, ev8, ev9, ev10, ev11, ev12, ev13, ev14, ev15, ev16, ev17, ev18, ev19, ev20, ev21, ev22, ev23, ev24, ev25, ev26, ev27, ev28, ev29, ev30, ev31, ev32, ev33, ev34, ev35, ev36, ev37, ev38, ↓pa0, pa0, ↓pa1, pa1, ↓pa2, pa2, ↓pa3, pa3, ↓pa4, pa4, ↓pa5, pa5, ↓pa6, pa6, ↓pa7, pa7, ↓pa8, pa8, ↓pa9, pa9, ↓pa10, pa10, ↓pa11, pa11, ↓pa12, pa12, ↓pa13, pa13, ↓pa14, pa14, ↓reduceIte, Nat.reduceAdd, Nat.reduceLeDiff, Nat.reduceLT, Int.reduceLE, Int.reduceLT, Int.reduceNeg, Int.reduceAdd, Int.reduceSub, Int.reduceMul, Int.reduceDiv, Int.reduceMod, Int.reduceEq, Int.reduceToNat, Nat.reduceEqDiff, ↓sm, sm]
  repeat (first | rw [sq_frz] | rw [sq_nx] | rw [sq_sq])
  first | rw [sq_a] | rw [sq_o] | rw [sq_x] | rw [sq_if] | rw [sq_ret] | rw [sq_retL] | rw [sq_retO] | rw [sq_app] | rw [sq_ext] | rw [sq_aug] | rw [sq_g] | rw [sq_br] | rw [sq_ct] | rw [sq_raise] | rw [sq_for] | rw [sq_wh] | rw [sq_set] | rw [sq_mset] | rw [sq_fd] | rw [sq_fdAug] | rw [sq_kput] | rw [sq_kdel] | rw [sq_putSl] | rw [sq_delSl] | rw [sq_forM] | rw [sq_tryN] | rw [sq_try]
  simp (maxSteps := 1000000) (disch := omega) only [ev0, ev1, ev2, ev3, ev4, ev5, ev6, ev7, ev8, ev9, ev10, ev11, ev12, ev13, ev14, ev15, ev16, ev17, ev18, ev19, ev20, ev21, ev22, ev23, ev24, ev25, ev26, ev27, ev28, ev29, ev30, ev31, ev32, ev33, ev34, ev35, ev36, ev37, ev38, ↓pa0, pa0, ↓pa1, pa1, ↓pa2, pa2, ↓pa3, pa3, ↓pa4, pa4, ↓pa5, pa5, ↓pa6, pa6, ↓pa7, pa7, ↓pa8, pa8, ↓pa9, pa9, ↓pa10, pa10, ↓pa11, pa11, ↓pa12, pa12, ↓pa13, pa13, ↓pa14, pa14, ↓reduceIte, Nat.reduceAdd, Nat.reduceLeDiff, Nat.reduceLT, Int.reduceLE, Int.reduceLT, Int.reduceNeg, Int.reduceAdd, Int.reduceSub, Int.reduceMul, Int.reduceDiv, Int.reduceMod, Int.reduceEq, Int.reduceToNat, Nat.reduceEqDiff]
  repeat (first | rw [sq_frz] | rw [sq_nx] | rw [sq_sq])
  first | rw [sq_a] | rw [sq_o] | rw [sq_x] | rw [sq_if] | rw [sq_ret] | rw [sq_retL] | rw [sq_retO] | rw [sq_app] | rw [sq_ext] | rw [sq_aug] | rw [sq_g] | rw [sq_br] | rw [sq_ct] | rw [sq_raise] | rw [sq_for] | rw [sq_wh] | rw [sq_set] | rw [sq_mset] | rw [sq_fd] | rw [sq_fdAug] | rw [sq_kput] | rw [sq_kdel] | rw [sq_putSl] | rw [sq_delSl] | rw [sq_forM] | rw [sq_tryN] | rw [sq_try]
  simp (maxSteps := 1000000) (disch := omega) only [ev0, ev1, ev2, ev3, ev4, ev5, ev6, ev7, ev8, ev9, ev10, ev11, ev12, ev13, ev14, ev15, ev16, ev17, ev18, ev19, ev20, ev21, ev22, ev23, ev24, ev25, ev26, ev27, ev28, ev29, ev30, ev31, ev32, ev33, ev34, ev35, ev36, ev37, ev38, ↓pa0, pa0, ↓pa1, pa1, ↓pa2, pa2, ↓pa3, pa3, ↓pa4, pa4, ↓pa5, pa5, ↓pa6, pa6, ↓pa7, pa7, ↓pa8, pa8, ↓pa9, pa9, ↓pa10, pa10, ↓pa11, pa11, ↓pa12, pa12, ↓pa13, pa13, ↓pa14, pa14, ↓reduceIte, Nat.reduceAdd, Nat.reduceLeDiff, Nat.reduceLT, Int.reduceLE, Int.reduceLT, Int.reduceNeg, Int.reduceAdd, Int.reduceSub, Int.reduceMul, Int.reduceDiv, Int.reduceMod, Int.reduceEq, Int.reduceToNat, Nat.reduceEqDiff, ↓g1, ↓ln, ↓st1, g1, ln, show q < 100000 by omega, st1]
  repeat (first | rw [sq_frz] | rw [sq_nx] | rw [sq_sq])
  first | rw [sq_a] | rw [sq_o] | rw [sq_x] | rw [sq_if] | rw [sq_ret] | rw [sq_retL] | rw [sq_retO] | rw [sq_app] | rw [sq_ext] | rw [sq_aug] | rw [sq_g] | rw [sq_br] | rw [sq_ct] | rw [sq_raise] | rw [sq_for] | rw [sq_wh] | rw [sq_set] | rw [sq_mset] | rw [sq_fd] | rw [sq_fdAug] | rw [sq_kput] | rw [sq_kdel] | rw [sq_putSl] | rw [sq_delSl] | rw [sq_forM] | rw [sq_tryN] | rw [sq_try]
  simp (maxSteps := 1000000) (disch := omega) only [ev0, ev1, ev2, ev3, ev4, ev5, ev6, ev7, ev8, ev9, ev10, ev11, ev12, ev13, ev14, ev15, ev16, ev17, ev18, ev19, ev20, ev21, ev22, ev23, ev24, ev25, ev26, ev27, ev28, ev29, ev30, ev31, ev32, ev33, ev34, ev35, ev36, ev37, ev38, ↓pa0, pa0, ↓pa1, pa1, ↓pa2, pa2, ↓pa3, pa3, ↓pa4, pa4, ↓pa5, pa5, ↓pa6, pa6, ↓pa7, pa7, ↓pa8, pa8, ↓pa9, pa9, ↓pa10, pa10, ↓pa11, pa11, ↓pa12, pa12, ↓pa13, pa13, ↓pa14, pa14, ↓reduceIte, Nat.reduceAdd, Nat.reduceLeDiff, Nat.reduceLT, Int.reduceLE, Int.reduceLT, Int.reduceNeg, Int.reduceAdd, Int.reduceSub, Int.reduceMul, Int.reduceDiv, Int.reduceMod, Int.reduceEq, Int.reduceToNat, Nat.reduceEqDiff, ↓g2, ↓i0, ↓st2, g2, i0, st2]
  simp (maxSteps := 1000000) (disch := omega) only [ev0, ev1, ev2, ev3, ev4, ev5, ev6, ev7, ev8, ev9, ev10, ev11, ev12, ev13, ev14, ev15, ev16, ev17, ev18, ev19, ev20, ev21, ev22, ev23, ev24, ev25, ev26, ev27, ev28, ev29, ev30, ev31, ev32, ev33, ev34, ev35, ev36, ev37, ev38, eq0, eq1, eq2, eq3, ↓pa0, pa0, ↓pa1, pa1, ↓pa2, pa2, ↓pa3, pa3, ↓pa4, pa4, ↓pa5, pa5, ↓pa6, pa6, ↓pa7, pa7, ↓pa8, pa8, ↓pa9, pa9, ↓pa10, pa10, ↓pa11, pa11, ↓pa12, pa12, ↓pa13, pa13, ↓pa14, pa14, ↓ps0, ↓ps1, ↓ps2, ↓ps3, ↓pw0, ↓pw1, ↓pw2, ↓pw3, ↓pl0, pl0, ↓pl1, pl1, ↓pl2, pl2, ↓reduceIte, Nat.reduceAdd, Nat.reduceLeDiff, Nat.reduceLT, Int.reduceLE, Int.reduceLT, Int.reduceNeg, Int.reduceAdd, Int.reduceSub, Int.reduceMul, Int.reduceDiv, Int.reduceMod, Int.reduceEq, Int.reduceToNat, Nat.reduceEqDiff, ↓h3, ↓hq, ↓r2, ↓sm2, h3, hq, r2, sm2]
  rw [fin]
end
--SPLIT
variable {xc : XC} {xd : XS}
theorem mk_Memory {s : Sto} {P : D → Sto → Prop} {z m : D} : @At xc _ (mkI 3002 m_Memory___init__ [z, m]) s P = P (.mref s.length) (s ++ [.ins 3002 [z, m, .mref (s.length + 1)], .dct []]) := by
  rw [at_mkI, e_Memory___init__]
  unfold b_Memory___init__
  repeat (first | rw [sq_frz] | rw [sq_nx] | rw [sq_sq])
  first | rw [sq_a] | rw [sq_o] | rw [sq_x] | rw [sq_if] | rw [sq_ret] | rw [sq_retL] | rw [sq_retO] | rw [sq_app] | rw [sq_ext] | rw [sq_aug] | rw [sq_g] | rw [sq_br] | rw [sq_ct] | rw [sq_raise] | rw [sq_for] | rw [sq_wh] | rw [sq_set] | rw [sq_mset] | rw [sq_fd] | rw [sq_fdAug] | rw [sq_kput] | rw [sq_kdel] | rw [sq_putSl] | rw [sq_delSl] | rw [sq_forM] | rw [sq_tryN] | rw [sq_try]
  simp (maxSteps := 1000000) (disch := omega) only [ev0, ev1, ev2, ev3, ev4, ev5, ev6, ev7, ev8, ev9, ev10, ev11, ev12, ev13, ev14, ev15, ev16, ev17, ev18, ev19, ev20, ev21, ev22, ev23, ev24, ev25, ev26, ev27, ev28, ev29, ev30, ev31, ev32, ev33, ev34, ev35, ev36, ev37, ev38, ↓pa0, pa0, ↓pa1, pa1, ↓pa2, pa2, ↓pa3, pa3, ↓pa4, pa4, ↓pa5, pa5, ↓pa6, pa6, ↓pa7, pa7, ↓pa8, pa8, ↓pa9, pa9, ↓pa10, pa10, ↓pa11, pa11, ↓pa12, pa12, ↓pa13, pa13, ↓pa14, pa14, ↓reduceIte, Nat.reduceAdd, Nat.reduceLeDiff, Nat.reduceLT, Int.reduceLE, Int.reduceLT, Int.reduceNeg, Int.reduceAdd, Int.reduceSub, Int.reduceMul, Int.reduceDiv, Int.reduceMod, Int.reduceEq, Int.reduceToNat, Nat.reduceEqDiff, gx0, gx1, gx2, gx3, gx4, gx5, gx6, sx0, sx1, sx2, sx3, sx4, sx_app, sx_len, sx_nil]
  repeat (first | rw [sq_frz] | rw [sq_nx] | rw [sq_sq])
  first | rw [sq_a] | rw [sq_o] | rw [sq_x] | rw [sq_if] | rw [sq_ret] | rw [sq_retL] | rw [sq_retO] | rw [sq_app] | rw [sq_ext] | rw [sq_aug] | rw [sq_g] | rw [sq_br] | rw [sq_ct] | rw [sq_raise] | rw [sq_for] | rw [sq_wh] | rw [sq_set] | rw [sq_mset] | rw [sq_fd] | rw [sq_fdAug] | rw [sq_kput] | rw [sq_kdel] | rw [sq_putSl] | rw [sq_delSl] | rw [sq_forM] | rw [sq_tryN] | rw [sq_try]
  simp (maxSteps := 1000000) (disch := omega) only [ev0, ev1, ev2, ev3, ev4, ev5, ev6, ev7, ev8, ev9, ev10, ev11, ev12, ev13, ev14, ev15, ev16, ev17, ev18, ev19, ev20, ev21, ev22, ev23, ev24, ev25, ev26, ev27, ev28, ev29, ev30, ev31, ev32, ev33, ev34, ev35, ev36, ev37, ev38, ↓pa0, pa0, ↓pa1, pa1, ↓pa2, pa2, ↓pa3, pa3, ↓pa4, pa4, ↓pa5, pa5, ↓pa6, pa6, ↓pa7, pa7, ↓pa8, pa8, ↓pa9, pa9, ↓pa10, pa10, ↓pa11, pa11, ↓pa12, pa12, ↓pa13, pa13, ↓pa14, pa14, ↓reduceIte, Nat.reduceAdd, Nat.reduceLeDiff, Nat.reduceLT, Int.reduceLE, Int.reduceLT, Int.reduceNeg, Int.reduceAdd, Int.reduceSub, Int.reduceMul, Int.reduceDiv, Int.reduceMod, Int.reduceEq, Int.reduceToNat, Nat.reduceEqDiff, gx0, gx1, gx2, gx3, gx4, gx5, gx6, sx0, sx1, sx2, sx3, sx4, sx_app, sx_len, sx_nil]
  repeat (first | rw [sq_frz] | rw [sq_nx] | rw [sq_sq])
  first | rw [sq_a] | rw [sq_o] | rw [sq_x] | rw [sq_if] | rw [sq_ret] | rw [sq_retL] | rw [sq_retO] | rw [sq_app] | rw [sq_ext] | rw [sq_aug] | rw [sq_g] | rw [sq_br] | rw [sq_ct] | rw [sq_raise] | rw [sq_for] | rw [sq_wh] | rw [sq_set] | rw [sq_mset] | rw [sq_fd] | rw [sq_fdAug] | rw [sq_kput] | rw [sq_kdel] | rw [sq_putSl] | rw [sq_delSl] | rw [sq_forM] | rw [sq_tryN] | rw [sq_try]
  simp (maxSteps := 1000000) (disch := omega) only [ev0, ev1, ev2, ev3, ev4, ev5, ev6, ev7, ev8, ev9, ev10, ev11, ev12, ev13, ev14, ev15, ev16, ev17, ev18, ev19, ev20, ev21, ev22, ev23, ev24, ev25, ev26, ev27, ev28, ev29, ev30, ev31, ev32, ev33, ev34, ev35, ev36, ev37, ev38, ↓pa0, pa0, ↓pa1, pa1, ↓pa2, pa2, ↓pa3, pa3, ↓pa4, pa4, ↓pa5, pa5, ↓pa6, pa6, ↓pa7, pa7, ↓pa8, pa8, ↓pa9, pa9, ↓pa10, pa10, ↓pa11, pa11, ↓pa12, pa12, ↓pa13, pa13, ↓pa14, pa14, ↓reduceIte, Nat.reduceAdd, Nat.reduceLeDiff, Nat.reduceLT, Int.reduceLE, Int.reduceLT, Int.reduceNeg, Int.reduceAdd, Int.reduceSub, Int.reduceMul, Int.reduceDiv, Int.reduceMod, Int.reduceEq, Int.reduceToNat, Nat.reduceEqDiff, gx0, gx1, gx2, gx3, gx4, gx5, gx6, sx0, sx1, sx2, sx3, sx4, sx_app, sx_len, sx_nil]
theorem fm_map {f : D → Option D} {g : Nat → Int} : ∀ ks : List Nat, (∀ k, k ∈ ks → f (.int (k : Int)) = some (.int (g k))) → (ks.map fun (i : Nat) => D.int i).filterMap f = dI (ks.map g)
  | [], _ => rfl
  | k :: ks, h => by
    rw [List.map_cons, List.filterMap_cons, h k List.mem_cons_self, List.map_cons, dI, List.map_cons, ← dI]
    exact congrArg _ (fm_map ks fun k hk => h k (List.mem_cons_of_mem _ hk))
theorem fm_range {f : D → Option D} {g : Nat → Int} {n : Nat} (h : ∀ k, k < n → f (.int (k : Int)) = some (.int (g k))) : ((List.range n).map fun (i : Nat) => D.int i).filterMap f = dI ((List.range n).map g) := fm_map _ fun k hk => h k (List.mem_range.mp hk)
/-! draws -/
def bt (T : List Int) (a : Int) : Int := if dv T a 1000 < 256 then dv T a 1000 else if dv T a 1000 < 600 then 0 else dv T a 1000 % 256
theorem byte_ok (T : List Int) {a : Int} (h0 : 0 ≤ a) (h1 : a ≤ 10000) : m_l_byte [.lst (dI T), .int a] = .ok (.int (bt T a)) := by
  have d := dv_ok (T := T) (a := a) (m := 1000) h0 (by omega) (by decide)
  have cd : CDivW (dv T a 1000) 256 := ⟨by decide, by decide⟩
  unfold bt
  rw [e_l_byte]
  unfold b_l_byte
  by_cases c1 : dv T a 1000 < 256
  · simp only [ev0, ev1, ev2, ev3, ev4, ev5, ev6, ev7, ev8, ev9, ev10, ev11, ev12, ev13, ev14, ev15, ev16, ev17, ev18, ev19, ev20, ev21, ev22, ev23, ev24, ev25, ev26, ev27, ev28, ev29, ev30, ev31, ev32, ev33, ev34, ev35, ev36, ev37, ev38, eq0, eq1, eq2, eq3, ↓pa0, pa0, ↓pa1, pa1, ↓pa2, pa2, ↓pa3, pa3, ↓pa4, pa4, ↓pa5, pa5, ↓pa6, pa6, ↓pa7, pa7, ↓pa8, pa8, ↓pa9, pa9, ↓pa10, pa10, ↓pa11, pa11, ↓pa12, pa12, ↓pa13, pa13, ↓pa14, pa14, ↓ps0, ↓ps1, ↓ps2, ↓ps3, ↓reduceIte, Nat.reduceAdd, Nat.reduceLeDiff, Nat.reduceLT, Int.reduceLE, Int.reduceLT, Int.reduceNeg, Int.reduceAdd, Int.reduceSub, Int.reduceMul, Int.reduceDiv, Int.reduceMod, Int.reduceEq, Int.reduceToNat, Nat.reduceEqDiff, ↓d.1, ↓c1, d.1, c1]
  · by_cases c2 : dv T a 1000 < 600
    · simp only [ev0, ev1, ev2, ev3, ev4, ev5, ev6, ev7, ev8, ev9, ev10, ev11, ev12, ev13, ev14, ev15, ev16, ev17, ev18, ev19, ev20, ev21, ev22, ev23, ev24, ev25, ev26, ev27, ev28, ev29, ev30, ev31, ev32, ev33, ev34, ev35, ev36, ev37, ev38, eq0, eq1, eq2, eq3, ↓pa0, pa0, ↓pa1, pa1, ↓pa2, pa2, ↓pa3, pa3, ↓pa4, pa4, ↓pa5, pa5, ↓pa6, pa6, ↓pa7, pa7, ↓pa8, pa8, ↓pa9, pa9, ↓pa10, pa10, ↓pa11, pa11, ↓pa12, pa12, ↓pa13, pa13, ↓pa14, pa14, ↓ps0, ↓ps1, ↓ps2, ↓ps3, ↓reduceIte, Nat.reduceAdd, Nat.reduceLeDiff, Nat.reduceLT, Int.reduceLE, Int.reduceLT, Int.reduceNeg, Int.reduceAdd, Int.reduceSub, Int.reduceMul, Int.reduceDiv, Int.reduceMod, Int.reduceEq, Int.reduceToNat, Nat.reduceEqDiff, ↓d.1, ↓c1, ↓c2, d.1, c1, c2]
    · simp only [ev0, ev1, ev2, ev3, ev4, ev5, ev6, ev7, ev8, ev9, ev10, ev11, ev12, ev13, ev14, ev15, ev16, ev17, ev18, ev19, ev20, ev21, ev22, ev23, ev24, ev25, ev26, ev27, ev28, ev29, ev30, ev31, ev32, ev33, ev34, ev35, ev36, ev37, ev38, eq0, eq1, eq2, eq3, ↓pa0, pa0, ↓pa1, pa1, ↓pa2, pa2, ↓pa3, pa3, ↓pa4, pa4, ↓pa5, pa5, ↓pa6, pa6, ↓pa7, pa7, ↓pa8, pa8, ↓pa9, pa9, ↓pa10, pa10, ↓pa11, pa11, ↓pa12, pa12, ↓pa13, pa13, ↓pa14, pa14, ↓ps0, ↓ps1, ↓ps2, ↓ps3, ↓reduceIte, Nat.reduceAdd, Nat.reduceLeDiff, Nat.reduceLT, Int.reduceLE, Int.reduceLT, Int.reduceNeg, Int.reduceAdd, Int.reduceSub, Int.reduceMul, Int.reduceDiv, Int.reduceMod, Int.reduceEq, Int.reduceToNat, Nat.reduceEqDiff, ↓d.1, ↓c1, ↓c2, ↓cd, d.1, c1, c2, cd]
theorem place_ok (T : List Int) {a most last : Int} (h0 : 0 ≤ a) (h1 : a ≤ 9000) (hm : 0 ≤ most) (hm2 : most ≤ 2000000) : ∃ v : Int, 0 ≤ v ∧ v ≤ most ∧ m_l_place [.lst (dI T), .int a, .int most, .int last] = .ok (.int v) := by
  have d := dv_ok (T := T) (a := a) (m := 8) h0 (by omega) (by decide)
  have d1 := dv_ok (T := T) (a := a + 1) (m := 41) (by omega) (by omega) (by decide)
  have d2 := dv_ok (T := T) (a := a + 1) (m := 1000) (by omega) (by omega) (by decide)
  have d3 := dv_ok (T := T) (a := a + 2) (m := 1000) (by omega) (by omega) (by decide)
  generalize dv T a 8 = u at *
  generalize dv T (a + 1) 41 = u1 at *
  generalize dv T (a + 1) 1000 = u2 at *
  generalize dv T (a + 2) 1000 = u3 at *
  have md : ∀ z : Int, (CMulW z 1000 ∨ CMul z 1000) = True := fun z => eq_true (Or.inr (Or.inr ⟨by decide, by decide⟩))
  have cd : CDivW (u2 * 1000 + u3) (most + 1) := ⟨by omega, by
    have : (most + 1).natAbs.log2 < 64 := by
      rw [Nat.log2_lt (by omega)]
      omega
    omega⟩
  rw [e_l_place]
  unfold b_l_place
  by_cases c0 : u = 0
  · exact ⟨0, by omega, by omega, by simp only [ev0, ev1, ev2, ev3, ev4, ev5, ev6, ev7, ev8, ev9, ev10, ev11, ev12, ev13, ev14, ev15, ev16, ev17, ev18, ev19, ev20, ev21, ev22, ev23, ev24, ev25, ev26, ev27, ev28, ev29, ev30, ev31, ev32, ev33, ev34, ev35, ev36, ev37, ev38, eq0, eq1, eq2, eq3, ↓pa0, pa0, ↓pa1, pa1, ↓pa2, pa2, ↓pa3, pa3, ↓pa4, pa4, ↓pa5, pa5, ↓pa6, pa6, ↓pa7, pa7, ↓pa8, pa8, ↓pa9, pa9, ↓pa10, pa10, ↓pa11, pa11, ↓pa12, pa12, ↓pa13, pa13, ↓pa14, pa14, ↓ps0, ↓ps1, ↓ps2, ↓ps3, ↓reduceIte, Nat.reduceAdd, Nat.reduceLeDiff, Nat.reduceLT, Int.reduceLE, Int.reduceLT, Int.reduceNeg, Int.reduceAdd, Int.reduceSub, Int.reduceMul, Int.reduceDiv, Int.reduceMod, Int.reduceEq, Int.reduceToNat, Nat.reduceEqDiff, ↓d.1, ↓c0, d.1, c0]⟩
  · by_cases c1 : u = 1
    · exact ⟨most, by omega, by omega, by simp only [ev0, ev1, ev2, ev3, ev4, ev5, ev6, ev7, ev8, ev9, ev10, ev11, ev12, ev13, ev14, ev15, ev16, ev17, ev18, ev19, ev20, ev21, ev22, ev23, ev24, ev25, ev26, ev27, ev28, ev29, ev30, ev31, ev32, ev33, ev34, ev35, ev36, ev37, ev38, eq0, eq1, eq2, eq3, ↓pa0, pa0, ↓pa1, pa1, ↓pa2, pa2, ↓pa3, pa3, ↓pa4, pa4, ↓pa5, pa5, ↓pa6, pa6, ↓pa7, pa7, ↓pa8, pa8, ↓pa9, pa9, ↓pa10, pa10, ↓pa11, pa11, ↓pa12, pa12, ↓pa13, pa13, ↓pa14, pa14, ↓ps0, ↓ps1, ↓ps2, ↓ps3, ↓reduceIte, Nat.reduceAdd, Nat.reduceLeDiff, Nat.reduceLT, Int.reduceLE, Int.reduceLT, Int.reduceNeg, Int.reduceAdd, Int.reduceSub, Int.reduceMul, Int.reduceDiv, Int.reduceMod, Int.reduceEq, Int.reduceToNat, Nat.reduceEqDiff, ↓d.1, ↓c0, ↓c1, d.1, c0, c1]⟩
    · by_cases c2 : u = 2
      · refine ⟨if 65536 - 3 < most then 65536 - 3 else most, by split <;> omega, by split <;> omega, ?_⟩
        simp only [ev0, ev1, ev2, ev3, ev4, ev5, ev6, ev7, ev8, ev9, ev10, ev11, ev12, ev13, ev14, ev15, ev16, ev17, ev18, ev19, ev20, ev21, ev22, ev23, ev24, ev25, ev26, ev27, ev28, ev29, ev30, ev31, ev32, ev33, ev34, ev35, ev36, ev37, ev38, eq0, eq1, eq2, eq3, ↓pa0, pa0, ↓pa1, pa1, ↓pa2, pa2, ↓pa3, pa3, ↓pa4, pa4, ↓pa5, pa5, ↓pa6, pa6, ↓pa7, pa7, ↓pa8, pa8, ↓pa9, pa9, ↓pa10, pa10, ↓pa11, pa11, ↓pa12, pa12, ↓pa13, pa13, ↓pa14, pa14, ↓ps0, ↓ps1, ↓ps2, ↓ps3, ↓reduceIte, Nat.reduceAdd, Nat.reduceLeDiff, Nat.reduceLT, Int.reduceLE, Int.reduceLT, Int.reduceNeg, Int.reduceAdd, Int.reduceSub, Int.reduceMul, Int.reduceDiv, Int.reduceMod, Int.reduceEq, Int.reduceToNat, Nat.reduceEqDiff, ↓d.1, ↓c0, ↓c1, ↓c2, d.1, c0, c1, c2]
      · by_cases c3 : u < 6
        · refine ⟨if (if last + u1 - 20 < most then last + u1 - 20 else most) > 0 then (if last + u1 - 20 < most then last + u1 - 20 else most) else 0, by split <;> (try split) <;> omega, by split <;> (try split) <;> omega, ?_⟩
          simp only [ev0, ev1, ev2, ev3, ev4, ev5, ev6, ev7, ev8, ev9, ev10, ev11, ev12, ev13, ev14, ev15, ev16, ev17, ev18, ev19, ev20, ev21, ev22, ev23, ev24, ev25, ev26, ev27, ev28, ev29, ev30, ev31, ev32, ev33, ev34, ev35, ev36, ev37, ev38, eq0, eq1, eq2, eq3, ↓pa0, pa0, ↓pa1, pa1, ↓pa2, pa2, ↓pa3, pa3, ↓pa4, pa4, ↓pa5, pa5, ↓pa6, pa6, ↓pa7, pa7, ↓pa8, pa8, ↓pa9, pa9, ↓pa10, pa10, ↓pa11, pa11, ↓pa12, pa12, ↓pa13, pa13, ↓pa14, pa14, ↓ps0, ↓ps1, ↓ps2, ↓ps3, ↓reduceIte, Nat.reduceAdd, Nat.reduceLeDiff, Nat.reduceLT, Int.reduceLE, Int.reduceLT, Int.reduceNeg, Int.reduceAdd, Int.reduceSub, Int.reduceMul, Int.reduceDiv, Int.reduceMod, Int.reduceEq, Int.reduceToNat, Nat.reduceEqDiff, ↓d.1, ↓c0, ↓c1, ↓c2, ↓c3, ↓d1.1, d.1, c0, c1, c2, c3, d1.1]
        · refine ⟨(u2 * 1000 + u3) % (most + 1), Int.emod_nonneg _ (by omega), by have := Int.emod_lt_of_pos (u2 * 1000 + u3) (show 0 < most + 1 by omega); omega, ?_⟩
          simp only [ev0, ev1, ev2, ev3, ev4, ev5, ev6, ev7, ev8, ev9, ev10, ev11, ev12, ev13, ev14, ev15, ev16, ev17, ev18, ev19, ev20, ev21, ev22, ev23, ev24, ev25, ev26, ev27, ev28, ev29, ev30, ev31, ev32, ev33, ev34, ev35, ev36, ev37, ev38, eq0, eq1, eq2, eq3, ↓pa0, pa0, ↓pa1, pa1, ↓pa2, pa2, ↓pa3, pa3, ↓pa4, pa4, ↓pa5, pa5, ↓pa6, pa6, ↓pa7, pa7, ↓pa8, pa8, ↓pa9, pa9, ↓pa10, pa10, ↓pa11, pa11, ↓pa12, pa12, ↓pa13, pa13, ↓pa14, pa14, ↓ps0, ↓ps1, ↓ps2, ↓ps3, ↓reduceIte, Nat.reduceAdd, Nat.reduceLeDiff, Nat.reduceLT, Int.reduceLE, Int.reduceLT, Int.reduceNeg, Int.reduceAdd, Int.reduceSub, Int.reduceMul, Int.reduceDiv, Int.reduceMod, Int.reduceEq, Int.reduceToNat, Nat.reduceEqDiff, ↓d.1, ↓c0, ↓c1, ↓c2, ↓c3, ↓d2.1, ↓d3.1, ↓md, ↓cd, d.1, c0, c1, c2, c3, d2.1, d3.1, md, cd, show 0 < most + 1 by omega]
/-! the state -/
def SK (p : Int) (c0 c1 m0 m1 : KV) (R : Sto) : Sto := .ins 3002 [.int p, .int 16, .mref 1] :: .dct c0 :: .ins 3002 [.int 1, .int 2, .mref 3] :: .dct c1 :: .dct m0 :: .dct m1 :: R
section
variable {p : Int} {c0 c1 m0 m1 : KV} {R : Sto}
theorem sk : (SK p c0 c1 m0 m1 R)[0]? = some (.ins 3002 [.int p, .int 16, .mref 1]) ∧ (SK p c0 c1 m0 m1 R)[1]? = some (.dct c0) ∧ (SK p c0 c1 m0 m1 R)[2]? = some (.ins 3002 [.int 1, .int 2, .mref 3]) ∧ (SK p c0 c1 m0 m1 R)[3]? = some (.dct c1) ∧ (SK p c0 c1 m0 m1 R)[4]? = some (.dct m0) ∧ (SK p c0 c1 m0 m1 R)[5]? = some (.dct m1) := ⟨rfl, rfl, rfl, rfl, rfl, rfl⟩
theorem sw {kv : KV} : (SK p c0 c1 m0 m1 R).set 1 (.dct kv) = SK p kv c1 m0 m1 R ∧ (SK p c0 c1 m0 m1 R).set 3 (.dct kv) = SK p c0 kv m0 m1 R ∧ (SK p c0 c1 m0 m1 R).set 4 (.dct kv) = SK p c0 c1 kv m1 R ∧ (SK p c0 c1 m0 m1 R).set 5 (.dct kv) = SK p c0 c1 m0 kv R := ⟨rfl, rfl, rfl, rfl⟩
theorem sk_app {Q : Sto} : SK p c0 c1 m0 m1 R ++ Q = SK p c0 c1 m0 m1 (R ++ Q) := rfl
end
structure Rel (c m : KV) : Prop where
  w : Wf c
  z : NZ c
  v : Wf m
  e : ∀ k, gv c k = gv m k
theorem Rel.put {c m : KV} (h : Rel c m) (a : Int) (bs : List Int) : Rel (putA stS c a bs) (putA stM m a bs) := ⟨(Wf.putS bs h.w h.z a).1, (Wf.putS bs h.w h.z a).2, Wf.putM bs h.v a, putA_sim stS_ok stM_ok bs c m a h.e⟩
/-- the model's loop -/
theorem md_ok {s : Sto} {mm : Nat} {m : KV} {bs : List Int} {a : Int} {a0 a1 a2 a3 a4 a5 a7 a8 a9 a10 a11 a13 a14 a16 a17 a18 : Sl} {T : Sl → Sto → Prop} {N : Dm.Env → Sto → Prop} (hm : s[mm]? = some (.dct m)) (hz : m.length + bs.length ≤ 90000)
    (hN : ∀ a13, N [a0, a1, a2, a3, a4, a5, .val (.int a), a7, a8, a9, a10, a11, .val (.lst (dI bs)), a13, a14, .val (.mref mm), a16, a17, a18] (s.set mm (.dct (putA stM m a bs)))) :
    @AtS xd (forGo (gN 13) b_law_1 ((List.range bs.length).map fun (i : Nat) => D.int i) [a0, a1, a2, a3, a4, a5, .val (.int a), a7, a8, a9, a10, a11, .val (.lst (dI bs)), a13, a14, .val (.mref mm), a16, a17, a18]) s N T := by
  have ml : mm < s.length := (List.getElem?_eq_some_iff.mp hm).1
  refine AtS.mono (atS_range (fun j env st => ∃ (kv2 : KV) (x13 : Sl), putA stM kv2 (a + (j : Int)) (bs.drop j) = putA stM m a bs ∧ kv2.length ≤ m.length + j ∧ env = [a0, a1, a2, a3, a4, a5, .val (.int a), a7, a8, a9, a10, a11, .val (.lst (dI bs)), x13, a14, .val (.mref mm), a16, a17, a18] ∧ st = s.set mm (.dct kv2)) bs.length _ _ ⟨m, _, by rw [Int.natCast_zero, Int.add_zero, List.drop_zero], Nat.le_refl _, rfl, by
    rw [← List.getElem?_eq_some_iff.mp hm |>.2, List.set_getElem_self]⟩ fun j env st hj hI => ?_) (fun env st hI => ?_) fun v st h => h
  · obtain ⟨kv2, x13, h1, h2, rfl, rfl⟩ := hI
    rw [List.drop_eq_getElem_cons hj] at h1
    have g2 : (s.set mm (.dct kv2))[mm]? = some (.dct kv2) := by simp [ml]
    have ss : ∀ c, (s.set mm (.dct kv2)).set mm c = s.set mm c := fun c => List.set_set ..
    have l2 := (stM_ok kv2 (a + (j : Int)) bs[j]).2
    have ix : ixL (dI bs) (j : Int) = .ok (.int bs[j]) := ixL_ok (Dm.atI_nat (by rw [dI, List.getElem?_map, List.getElem?_eq_getElem hj]; rfl))
    unfold b_law_1
    simp (maxSteps := 1000000) (disch := omega) only [ev0, ev1, ev2, ev3, ev4, ev5, ev6, ev7, ev8, ev9, ev10, ev11, ev12, ev13, ev14, ev15, ev16, ev17, ev18, ev19, ev20, ev21, ev22, ev23, ev24, ev25, ev26, ev27, ev28, ev29, ev30, ev31, ev32, ev33, ev34, ev35, ev36, ev37, ev38, eq0, eq1, eq2, eq3, ↓pa0, pa0, ↓pa1, pa1, ↓pa2, pa2, ↓pa3, pa3, ↓pa4, pa4, ↓pa5, pa5, ↓pa6, pa6, ↓pa7, pa7, ↓pa8, pa8, ↓pa9, pa9, ↓pa10, pa10, ↓pa11, pa11, ↓pa12, pa12, ↓pa13, pa13, ↓pa14, pa14, ↓ps0, ↓ps1, ↓ps2, ↓ps3, ↓pw0, ↓pw1, ↓pw2, ↓pw3, ↓pl0, pl0, ↓pl1, pl1, ↓pl2, pl2, ↓reduceIte, Nat.reduceAdd, Nat.reduceLeDiff, Nat.reduceLT, Int.reduceLE, Int.reduceLT, Int.reduceNeg, Int.reduceAdd, Int.reduceSub, Int.reduceMul, Int.reduceDiv, Int.reduceMod, Int.reduceEq, Int.reduceToNat, Nat.reduceEqDiff, ↓g2, ↓ss, ↓ix, g2, ss, ix, show kv2.length < 100000 by omega]
    exact ⟨stM kv2 (a + (j : Int)) bs[j], _, by rw [show a + ((j + 1 : Nat) : Int) = a + (j : Int) + 1 by omega]; exact h1, by omega, rfl, rfl⟩
  · obtain ⟨kv2, x13, h1, _, rfl, rfl⟩ := hI
    rw [List.drop_length] at h1
    replace h1 : kv2 = putA stM m a bs := h1
    subst h1
    exact hN _
def lwR : SS :=
  (sSeq (sA 12 (eL (lLc (iR1 (eCons (eV 11) eNil)) (gN 13) tY (eF m_l_byte (eCons (eV 1) (eCons (eB dAdd (eB dAdd (eV 8) (eC (.int 5))) (eV 13)) eNil))) [13])))
  (sSeq (sA 14 (eL (lF fList (eCons (eV 12) eNil))))
  (sSeq (sX (eMeth 3002 m_Memory_write (eB dIx (eV 3) (eV 9)) (eCons (eV 6) (eCons (eV 14) eNil))))
  (sSeq (sIf (tE (eB dNe (eV 14) (eV 12))) (sSeq (sRet (eC (.bl false)))
  sNx) sNx)
  (sSeq (sA 15 (eB dIx (eV 5) (eV 9)))
  (sSeq (sFor (iR1 (eCons (eV 11) eNil)) (gN 13) b_law_1)
  (sSeq (sFor (iR1 (eCons (eC (.int 2)) eNil)) (gN 13) b_law_2)
  sNx)))))))
def LI (T : List Int) (p : Int) (k : Nat) (env : Dm.Env) (st : Sto) : Prop := ∃ (c0 c1 m0 m1 : KV) (R : Sto) (last : Int) (a0 a7 a8 a9 a10 a11 a12 a13 a14 a15 a16 a17 a18 : Sl), Rel c0 m0 ∧ Rel c1 m1 ∧ c0.length ≤ 30 * k ∧ c1.length ≤ 30 * k ∧ m0.length ≤ 30 * k ∧ m1.length ≤ 30 * k ∧
  env = [a0, .val (.lst (dI T)), .val (.int p), .val (.lst [.mref 0, .mref 2]), .val (.lst [.int (p * 65536), .int 65536]), .val (.lst [.mref 4, .mref 5]), .val (.int last), a7, a8, a9, a10, a11, a12, a13, a14, a15, a16, a17, a18] ∧ st = SK p c0 c1 m0 m1 R
theorem ne_self (bs : List Int) : dNe (.lst (dI bs)) (.lst (dI bs)) = .ok (.bl false) := by
  have h : (D.lst (dI bs)).shp 64 = true := by
    show shpAll 63 (dI bs) = true
    induction bs with
    | nil => rfl
    | cons b bs ih =>
      show (true && shpAll 63 (dI bs)) = true
      rw [ih]
      rfl
  show (dEq _ _).bind dNot = _
  rw [dEq_self h]
  rfl
theorem lw_R0 {T : List Int} {p : Int} {c0 c1 m0 m1 : KV} {R : Sto} {k q : Nat} {last size : Int} {a0 a12 a13 a14 a15 a16 a17 a18 : Sl} {T2 : Sl → Sto → Prop} (hp : 0 ≤ p) (hp2 : p ≤ 16) (r0 : Rel c0 m0) (r1 : Rel c1 m1) (l0 : c0.length ≤ 30 * k) (l1 : c1.length ≤ 30 * k) (l2 : m0.length ≤ 30 * k) (l3 : m1.length ≤ 30 * k) (hk : k ≤ 20) (hq : q ≤ 20) (h0 : 0 ≤ last) (hz : size = p * 65536) (h1 : last ≤ size) :
    @AtS xd (lwR [a0, .val (.lst (dI T)), .val (.int p), .val (.lst [.mref 0, .mref 2]), .val (.lst [.int (p * 65536), .int 65536]), .val (.lst [.mref 4, .mref 5]), .val (.int last), .val (.int (k : Int)), .val (.int (2 + 26 * (k : Int))), .val (.int 0), .val (.int size), .val (.int (q : Int)), a12, a13, a14, a15, a16, a17, a18]) (SK p c0 c1 m0 m1 R) (LI T p (k + 1)) T2 := by
  have lc : ∃ bs : List Int, bs.length = q ∧ ∀ (xc : XC) s PL, @At xc _ (lcGo (gN 13) tY (eF m_l_byte (eCons (eV 1) (eCons (eB dAdd (eB dAdd (eV 8) (eC (.int 5))) (eV 13)) eNil))) [a0, .val (.lst (dI T)), .val (.int p), .val (.lst [.mref 0, .mref 2]), .val (.lst [.int (p * 65536), .int 65536]), .val (.lst [.mref 4, .mref 5]), .val (.int last), .val (.int (k : Int)), .val (.int (2 + 26 * (k : Int))), .val (.int 0), .val (.int size), .val (.int (q : Int)), a12, .un, a14, a15, a16, a17, a18] ((List.range q).map fun (i : Nat) => D.int i) []) s PL = PL (dI bs) s := by
    refine ⟨(List.range q).map fun (j : Nat) => bt T (2 + 26 * (k : Int) + 5 + (j : Int)), by rw [List.length_map, List.length_range], fun xc s PL => ?_⟩
    have := at_lc_map (xc := xc) (g := gN 13) (t := tY) (e := eF m_l_byte (eCons (eV 1) (eCons (eB dAdd (eB dAdd (eV 8) (eC (.int 5))) (eV 13)) eNil))) (env := [a0, .val (.lst (dI T)), .val (.int p), .val (.lst [.mref 0, .mref 2]), .val (.lst [.int (p * 65536), .int 65536]), .val (.lst [.mref 4, .mref 5]), .val (.int last), .val (.int (k : Int)), .val (.int (2 + 26 * (k : Int))), .val (.int 0), .val (.int size), .val (.int (q : Int)), a12, .un, a14, a15, a16, a17, a18]) (s := s) (fun x => match x with | .int j => some (.int (bt T (2 + 26 * (k : Int) + 5 + j))) | _ => none) ((List.range q).map fun (i : Nat) => D.int i) [] (fun x hx PK => by
      obtain ⟨j, hj, rfl⟩ := List.mem_map.mp hx
      have hj := List.mem_range.mp hj
      have b := byte_ok T (a := 2 + 26 * (k : Int) + 5 + (j : Int)) (by omega) (by omega)
      simp (maxSteps := 1000000) (disch := omega) only [ev0, ev1, ev2, ev3, ev4, ev5, ev6, ev7, ev8, ev9, ev10, ev11, ev12, ev13, ev14, ev15, ev16, ev17, ev18, ev19, ev20, ev21, ev22, ev23, ev24, ev25, ev26, ev27, ev28, ev29, ev30, ev31, ev32, ev33, ev34, ev35, ev36, ev37, ev38, eq0, eq1, eq2, eq3, ↓pa0, pa0, ↓pa1, pa1, ↓pa2, pa2, ↓pa3, pa3, ↓pa4, pa4, ↓pa5, pa5, ↓pa6, pa6, ↓pa7, pa7, ↓pa8, pa8, ↓pa9, pa9, ↓pa10, pa10, ↓pa11, pa11, ↓pa12, pa12, ↓pa13, pa13, ↓pa14, pa14, ↓ps0, ↓ps1, ↓ps2, ↓ps3, ↓pw0, ↓pw1, ↓pw2, ↓pw3, ↓pl0, pl0, ↓pl1, pl1, ↓pl2, pl2, ↓reduceIte, Nat.reduceAdd, Nat.reduceLeDiff, Nat.reduceLT, Int.reduceLE, Int.reduceLT, Int.reduceNeg, Int.reduceAdd, Int.reduceSub, Int.reduceMul, Int.reduceDiv, Int.reduceMod, Int.reduceEq, Int.reduceToNat, Nat.reduceEqDiff, ↓b, b]) PL
    rw [this, List.nil_append, fm_range (g := fun (j : Nat) => bt T (2 + 26 * (k : Int) + 5 + (j : Int))) fun j hj => rfl]
  obtain ⟨bs, lb, lc⟩ := lc
  have w1 := fun (xc : XC) P => write_ok (xc := xc) (s := SK p c0 c1 m0 m1 R) (n := 0) (k := 1) (a := last) (bs := bs) (P := P) sk.1 sk.2.1 (by omega)
  rw [sw.1] at w1
  unfold lwR
  repeat (first | rw [sq_frz] | rw [sq_nx] | rw [sq_sq])
  first | rw [sq_a] | rw [sq_o] | rw [sq_x] | rw [sq_if] | rw [sq_ret] | rw [sq_retL] | rw [sq_retO] | rw [sq_app] | rw [sq_ext] | rw [sq_aug] | rw [sq_g] | rw [sq_br] | rw [sq_ct] | rw [sq_raise] | rw [sq_for] | rw [sq_wh] | rw [sq_set] | rw [sq_mset] | rw [sq_fd] | rw [sq_fdAug] | rw [sq_kput] | rw [sq_kdel] | rw [sq_putSl] | rw [sq_delSl] | rw [sq_forM] | rw [sq_tryN] | rw [sq_try]
  simp (maxSteps := 1000000) (disch := omega) only [ev0, ev1, ev2, ev3, ev4, ev5, ev6, ev7, ev8, ev9, ev10, ev11, ev12, ev13, ev14, ev15, ev16, ev17, ev18, ev19, ev20, ev21, ev22, ev23, ev24, ev25, ev26, ev27, ev28, ev29, ev30, ev31, ev32, ev33, ev34, ev35, ev36, ev37, ev38, ↓pa0, pa0, ↓pa1, pa1, ↓pa2, pa2, ↓pa3, pa3, ↓pa4, pa4, ↓pa5, pa5, ↓pa6, pa6, ↓pa7, pa7, ↓pa8, pa8, ↓pa9, pa9, ↓pa10, pa10, ↓pa11, pa11, ↓pa12, pa12, ↓pa13, pa13, ↓pa14, pa14, ↓reduceIte, Nat.reduceAdd, Nat.reduceLeDiff, Nat.reduceLT, Int.reduceLE, Int.reduceLT, Int.reduceNeg, Int.reduceAdd, Int.reduceSub, Int.reduceMul, Int.reduceDiv, Int.reduceMod, Int.reduceEq, Int.reduceToNat, Nat.reduceEqDiff, ↓at_lLc, ↓wp_nil, ↓wp_cons, ↓Int.toNat_natCast, ↓List.length_map, ↓List.length_range, ↓lc, at_lLc, wp_nil, wp_cons, Int.toNat_natCast, show (q : Int) ≤ 100000 by omega, show -100000 ≤ (q : Int) by omega, List.length_map, List.length_range, show q ≤ 40000 by omega, lc]
  repeat (first | rw [sq_frz] | rw [sq_nx] | rw [sq_sq])
  first | rw [sq_a] | rw [sq_o] | rw [sq_x] | rw [sq_if] | rw [sq_ret] | rw [sq_retL] | rw [sq_retO] | rw [sq_app] | rw [sq_ext] | rw [sq_aug] | rw [sq_g] | rw [sq_br] | rw [sq_ct] | rw [sq_raise] | rw [sq_for] | rw [sq_wh] | rw [sq_set] | rw [sq_mset] | rw [sq_fd] | rw [sq_fdAug] | rw [sq_kput] | rw [sq_kdel] | rw [sq_putSl] | rw [sq_delSl] | rw [sq_forM] | rw [sq_tryN] | rw [sq_try]
  simp (maxSteps := 1000000) (disch := omega) only [ev0, ev1, ev2, ev3, ev4, ev5, ev6, ev7, ev8, ev9, ev10, ev11, ev12, ev13, ev14, ev15, ev16, ev17, ev18, ev19, ev20, ev21, ev22, ev23, ev24, ev25, ev26, ev27, ev28, ev29, ev30, ev31, ev32, ev33, ev34, ev35, ev36, ev37, ev38, ↓pa0, pa0, ↓pa1, pa1, ↓pa2, pa2, ↓pa3, pa3, ↓pa4, pa4, ↓pa5, pa5, ↓pa6, pa6, ↓pa7, pa7, ↓pa8, pa8, ↓pa9, pa9, ↓pa10, pa10, ↓pa11, pa11, ↓pa12, pa12, ↓pa13, pa13, ↓pa14, pa14, ↓reduceIte, Nat.reduceAdd, Nat.reduceLeDiff, Nat.reduceLT, Int.reduceLE, Int.reduceLT, Int.reduceNeg, Int.reduceAdd, Int.reduceSub, Int.reduceMul, Int.reduceDiv, Int.reduceMod, Int.reduceEq, Int.reduceToNat, Nat.reduceEqDiff]
  repeat (first | rw [sq_frz] | rw [sq_nx] | rw [sq_sq])
  first | rw [sq_a] | rw [sq_o] | rw [sq_x] | rw [sq_if] | rw [sq_ret] | rw [sq_retL] | rw [sq_retO] | rw [sq_app] | rw [sq_ext] | rw [sq_aug] | rw [sq_g] | rw [sq_br] | rw [sq_ct] | rw [sq_raise] | rw [sq_for] | rw [sq_wh] | rw [sq_set] | rw [sq_mset] | rw [sq_fd] | rw [sq_fdAug] | rw [sq_kput] | rw [sq_kdel] | rw [sq_putSl] | rw [sq_delSl] | rw [sq_forM] | rw [sq_tryN] | rw [sq_try]
  simp (maxSteps := 1000000) (disch := omega) only [ev0, ev1, ev2, ev3, ev4, ev5, ev6, ev7, ev8, ev9, ev10, ev11, ev12, ev13, ev14, ev15, ev16, ev17, ev18, ev19, ev20, ev21, ev22, ev23, ev24, ev25, ev26, ev27, ev28, ev29, ev30, ev31, ev32, ev33, ev34, ev35, ev36, ev37, ev38, ↓pa0, pa0, ↓pa1, pa1, ↓pa2, pa2, ↓pa3, pa3, ↓pa4, pa4, ↓pa5, pa5, ↓pa6, pa6, ↓pa7, pa7, ↓pa8, pa8, ↓pa9, pa9, ↓pa10, pa10, ↓pa11, pa11, ↓pa12, pa12, ↓pa13, pa13, ↓pa14, pa14, ↓reduceIte, Nat.reduceAdd, Nat.reduceLeDiff, Nat.reduceLT, Int.reduceLE, Int.reduceLT, Int.reduceNeg, Int.reduceAdd, Int.reduceSub, Int.reduceMul, Int.reduceDiv, Int.reduceMod, Int.reduceEq, Int.reduceToNat, Nat.reduceEqDiff, ↓sk, ↓w1, sk, w1]
  repeat (first | rw [sq_frz] | rw [sq_nx] | rw [sq_sq])
  first | rw [sq_a] | rw [sq_o] | rw [sq_x] | rw [sq_if] | rw [sq_ret] | rw [sq_retL] | rw [sq_retO] | rw [sq_app] | rw [sq_ext] | rw [sq_aug] | rw [sq_g] | rw [sq_br] | rw [sq_ct] | rw [sq_raise] | rw [sq_for] | rw [sq_wh] | rw [sq_set] | rw [sq_mset] | rw [sq_fd] | rw [sq_fdAug] | rw [sq_kput] | rw [sq_kdel] | rw [sq_putSl] | rw [sq_delSl] | rw [sq_forM] | rw [sq_tryN] | rw [sq_try]
  simp (maxSteps := 1000000) (disch := omega) only [ev0, ev1, ev2, ev3, ev4, ev5, ev6, ev7, ev8, ev9, ev10, ev11, ev12, ev13, ev14, ev15, ev16, ev17, ev18, ev19, ev20, ev21, ev22, ev23, ev24, ev25, ev26, ev27, ev28, ev29, ev30, ev31, ev32, ev33, ev34, ev35, ev36, ev37, ev38, ↓pa0, pa0, ↓pa1, pa1, ↓pa2, pa2, ↓pa3, pa3, ↓pa4, pa4, ↓pa5, pa5, ↓pa6, pa6, ↓pa7, pa7, ↓pa8, pa8, ↓pa9, pa9, ↓pa10, pa10, ↓pa11, pa11, ↓pa12, pa12, ↓pa13, pa13, ↓pa14, pa14, ↓reduceIte, Nat.reduceAdd, Nat.reduceLeDiff, Nat.reduceLT, Int.reduceLE, Int.reduceLT, Int.reduceNeg, Int.reduceAdd, Int.reduceSub, Int.reduceMul, Int.reduceDiv, Int.reduceMod, Int.reduceEq, Int.reduceToNat, Nat.reduceEqDiff, ↓ne_self, ne_self]
  repeat (first | rw [sq_frz] | rw [sq_nx] | rw [sq_sq])
  first | rw [sq_a] | rw [sq_o] | rw [sq_x] | rw [sq_if] | rw [sq_ret] | rw [sq_retL] | rw [sq_retO] | rw [sq_app] | rw [sq_ext] | rw [sq_aug] | rw [sq_g] | rw [sq_br] | rw [sq_ct] | rw [sq_raise] | rw [sq_for] | rw [sq_wh] | rw [sq_set] | rw [sq_mset] | rw [sq_fd] | rw [sq_fdAug] | rw [sq_kput] | rw [sq_kdel] | rw [sq_putSl] | rw [sq_delSl] | rw [sq_forM] | rw [sq_tryN] | rw [sq_try]
  simp (maxSteps := 1000000) (disch := omega) only [ev0, ev1, ev2, ev3, ev4, ev5, ev6, ev7, ev8, ev9, ev10, ev11, ev12, ev13, ev14, ev15, ev16, ev17, ev18, ev19, ev20, ev21, ev22, ev23, ev24, ev25, ev26, ev27, ev28, ev29, ev30, ev31, ev32, ev33, ev34, ev35, ev36, ev37, ev38, ↓pa0, pa0, ↓pa1, pa1, ↓pa2, pa2, ↓pa3, pa3, ↓pa4, pa4, ↓pa5, pa5, ↓pa6, pa6, ↓pa7, pa7, ↓pa8, pa8, ↓pa9, pa9, ↓pa10, pa10, ↓pa11, pa11, ↓pa12, pa12, ↓pa13, pa13, ↓pa14, pa14, ↓reduceIte, Nat.reduceAdd, Nat.reduceLeDiff, Nat.reduceLT, Int.reduceLE, Int.reduceLT, Int.reduceNeg, Int.reduceAdd, Int.reduceSub, Int.reduceMul, Int.reduceDiv, Int.reduceMod, Int.reduceEq, Int.reduceToNat, Nat.reduceEqDiff]
  repeat (first | rw [sq_frz] | rw [sq_nx] | rw [sq_sq])
  first | rw [sq_a] | rw [sq_o] | rw [sq_x] | rw [sq_if] | rw [sq_ret] | rw [sq_retL] | rw [sq_retO] | rw [sq_app] | rw [sq_ext] | rw [sq_aug] | rw [sq_g] | rw [sq_br] | rw [sq_ct] | rw [sq_raise] | rw [sq_for] | rw [sq_wh] | rw [sq_set] | rw [sq_mset] | rw [sq_fd] | rw [sq_fdAug] | rw [sq_kput] | rw [sq_kdel] | rw [sq_putSl] | rw [sq_delSl] | rw [sq_forM] | rw [sq_tryN] | rw [sq_try]
  simp (maxSteps := 1000000) (disch := omega) only [ev0, ev1, ev2, ev3, ev4, ev5, ev6, ev7, ev8, ev9, ev10, ev11, ev12, ev13, ev14, ev15, ev16, ev17, ev18, ev19, ev20, ev21, ev22, ev23, ev24, ev25, ev26, ev27, ev28, ev29, ev30, ev31, ev32, ev33, ev34, ev35, ev36, ev37, ev38, ↓pa0, pa0, ↓pa1, pa1, ↓pa2, pa2, ↓pa3, pa3, ↓pa4, pa4, ↓pa5, pa5, ↓pa6, pa6, ↓pa7, pa7, ↓pa8, pa8, ↓pa9, pa9, ↓pa10, pa10, ↓pa11, pa11, ↓pa12, pa12, ↓pa13, pa13, ↓pa14, pa14, ↓reduceIte, Nat.reduceAdd, Nat.reduceLeDiff, Nat.reduceLT, Int.reduceLE, Int.reduceLT, Int.reduceNeg, Int.reduceAdd, Int.reduceSub, Int.reduceMul, Int.reduceDiv, Int.reduceMod, Int.reduceEq, Int.reduceToNat, Nat.reduceEqDiff, ↓Int.toNat_natCast, Int.toNat_natCast, show (q : Int) ≤ 100000 by omega, show -100000 ≤ (q : Int) by omega]
  rw [← lb]
  refine md_ok (s := SK p (putA stS c0 last bs) c1 m0 m1 R) (mm := 4) sk.2.2.2.2.1 (by omega) fun x13 => ?_
  rw [sw.2.2.1]
  have rr0 : Rel (putA stS c0 last bs) (putA stM m0 last bs) := r0.put last bs
  have rr1 : Rel c1 m1 := r1
  obtain ⟨A0, hA0, A00, A01⟩ : ∃ A0 : Int, (if p * 65536 < last then p * 65536 else last) = A0 ∧ 0 ≤ A0 ∧ A0 ≤ p * 65536 := ⟨_, rfl, by split <;> omega, by split <;> omega⟩
  obtain ⟨A1, hA1, A10, A11⟩ : ∃ A1 : Int, (if 65536 < last then 65536 else last) = A1 ∧ 0 ≤ A1 ∧ A1 ≤ 65536 := ⟨_, rfl, by split <;> omega, by split <;> omega⟩
  obtain ⟨cs0, w2⟩ := win_ok (s := SK p (putA stS c0 last bs) c1 (putA stM m0 last bs) m1 R) (n := 0) (k := 1) (mm := 4) (at_ := A0) (cnt := (bs.length : Int)) (size := p * 65536) sk.1 sk.2.1 sk.2.2.2.2.1 rr0.e rr0.v.isI A00 A01 (by omega) (by omega) (by omega)
  rw [sk_app] at w2
  obtain ⟨cs1, w3⟩ := win_ok (s := SK p (putA stS c0 last bs) c1 (putA stM m0 last bs) m1 (R ++ cs0)) (n := 2) (k := 3) (mm := 5) (at_ := A1) (cnt := (bs.length : Int)) (size := 65536) sk.2.2.1 sk.2.2.2.1 sk.2.2.2.2.2 rr1.e rr1.v.isI A10 A11 (by omega) (by omega) (by omega)
  rw [sk_app] at w3
  have t0 : ∀ (x16 : Sl) (N2 : Dm.Env → Sto → Prop) (B C : Dm.Env → Sto → Prop) (T2 : Sl → Sto → Prop), @AtW xd (b_law_2 [a0, .val (.lst (dI T)), .val (.int p), .val (.lst [.mref 0, .mref 2]), .val (.lst [.int (p * 65536), .int 65536]), .val (.lst [.mref 4, .mref 5]), .val (.int last), .val (.int (k : Int)), .val (.int (2 + 26 * (k : Int))), .val (.int 0), .val (.int size), .val (.int (bs.length : Int)), .val (.lst (dI bs)), .val (.int 0), .val (.lst (dI bs)), .val (.mref 4), x16, a17, a18]) (SK p (putA stS c0 last bs) c1 (putA stM m0 last bs) m1 R) N2 B C T2 = N2 [a0, .val (.lst (dI T)), .val (.int p), .val (.lst [.mref 0, .mref 2]), .val (.lst [.int (p * 65536), .int 65536]), .val (.lst [.mref 4, .mref 5]), .val (.int last), .val (.int (k : Int)), .val (.int (2 + 26 * (k : Int))), .val (.int 0), .val (.int size), .val (.int (bs.length : Int)), .val (.lst (dI bs)), .val (.int 0), .val (.lst (dI bs)), .val (.mref 4), .val (.int A0), a17, a18] (SK p (putA stS c0 last bs) c1 (putA stM m0 last bs) m1 (R ++ cs0)) := fun x16 N2 B C T2 => by
    unfold b_law_2
    repeat (first | rw [sq_frz] | rw [sq_nx] | rw [sq_sq])
    first | rw [sq_a] | rw [sq_o] | rw [sq_x] | rw [sq_if] | rw [sq_ret] | rw [sq_retL] | rw [sq_retO] | rw [sq_app] | rw [sq_ext] | rw [sq_aug] | rw [sq_g] | rw [sq_br] | rw [sq_ct] | rw [sq_raise] | rw [sq_for] | rw [sq_wh] | rw [sq_set] | rw [sq_mset] | rw [sq_fd] | rw [sq_fdAug] | rw [sq_kput] | rw [sq_kdel] | rw [sq_putSl] | rw [sq_delSl] | rw [sq_forM] | rw [sq_tryN] | rw [sq_try]
    simp (maxSteps := 1000000) (disch := omega) only [ev0, ev1, ev2, ev3, ev4, ev5, ev6, ev7, ev8, ev9, ev10, ev11, ev12, ev13, ev14, ev15, ev16, ev17, ev18, ev19, ev20, ev21, ev22, ev23, ev24, ev25, ev26, ev27, ev28, ev29, ev30, ev31, ev32, ev33, ev34, ev35, ev36, ev37, ev38, ↓pa0, pa0, ↓pa1, pa1, ↓pa2, pa2, ↓pa3, pa3, ↓pa4, pa4, ↓pa5, pa5, ↓pa6, pa6, ↓pa7, pa7, ↓pa8, pa8, ↓pa9, pa9, ↓pa10, pa10, ↓pa11, pa11, ↓pa12, pa12, ↓pa13, pa13, ↓pa14, pa14, ↓reduceIte, Nat.reduceAdd, Nat.reduceLeDiff, Nat.reduceLT, Int.reduceLE, Int.reduceLT, Int.reduceNeg, Int.reduceAdd, Int.reduceSub, Int.reduceMul, Int.reduceDiv, Int.reduceMod, Int.reduceEq, Int.reduceToNat, Nat.reduceEqDiff]
    rw [hA0]
    simp (maxSteps := 1000000) (disch := omega) only [ev0, ev1, ev2, ev3, ev4, ev5, ev6, ev7, ev8, ev9, ev10, ev11, ev12, ev13, ev14, ev15, ev16, ev17, ev18, ev19, ev20, ev21, ev22, ev23, ev24, ev25, ev26, ev27, ev28, ev29, ev30, ev31, ev32, ev33, ev34, ev35, ev36, ev37, ev38, eq0, eq1, eq2, eq3, ↓pa0, pa0, ↓pa1, pa1, ↓pa2, pa2, ↓pa3, pa3, ↓pa4, pa4, ↓pa5, pa5, ↓pa6, pa6, ↓pa7, pa7, ↓pa8, pa8, ↓pa9, pa9, ↓pa10, pa10, ↓pa11, pa11, ↓pa12, pa12, ↓pa13, pa13, ↓pa14, pa14, ↓ps0, ↓ps1, ↓ps2, ↓ps3, ↓pw0, ↓pw1, ↓pw2, ↓pw3, ↓pl0, pl0, ↓pl1, pl1, ↓pl2, pl2, ↓reduceIte, Nat.reduceAdd, Nat.reduceLeDiff, Nat.reduceLT, Int.reduceLE, Int.reduceLT, Int.reduceNeg, Int.reduceAdd, Int.reduceSub, Int.reduceMul, Int.reduceDiv, Int.reduceMod, Int.reduceEq, Int.reduceToNat, Nat.reduceEqDiff, ↓w2, w2]
  have t1 : ∀ (x16 : Sl) (N2 : Dm.Env → Sto → Prop) (B C : Dm.Env → Sto → Prop) (T2 : Sl → Sto → Prop), @AtW xd (b_law_2 [a0, .val (.lst (dI T)), .val (.int p), .val (.lst [.mref 0, .mref 2]), .val (.lst [.int (p * 65536), .int 65536]), .val (.lst [.mref 4, .mref 5]), .val (.int last), .val (.int (k : Int)), .val (.int (2 + 26 * (k : Int))), .val (.int 0), .val (.int size), .val (.int (bs.length : Int)), .val (.lst (dI bs)), .val (.int 1), .val (.lst (dI bs)), .val (.mref 4), x16, a17, a18]) (SK p (putA stS c0 last bs) c1 (putA stM m0 last bs) m1 (R ++ cs0)) N2 B C T2 = N2 [a0, .val (.lst (dI T)), .val (.int p), .val (.lst [.mref 0, .mref 2]), .val (.lst [.int (p * 65536), .int 65536]), .val (.lst [.mref 4, .mref 5]), .val (.int last), .val (.int (k : Int)), .val (.int (2 + 26 * (k : Int))), .val (.int 0), .val (.int size), .val (.int (bs.length : Int)), .val (.lst (dI bs)), .val (.int 1), .val (.lst (dI bs)), .val (.mref 4), .val (.int A1), a17, a18] (SK p (putA stS c0 last bs) c1 (putA stM m0 last bs) m1 (R ++ cs0 ++ cs1)) := fun x16 N2 B C T2 => by
    unfold b_law_2
    repeat (first | rw [sq_frz] | rw [sq_nx] | rw [sq_sq])
    first | rw [sq_a] | rw [sq_o] | rw [sq_x] | rw [sq_if] | rw [sq_ret] | rw [sq_retL] | rw [sq_retO] | rw [sq_app] | rw [sq_ext] | rw [sq_aug] | rw [sq_g] | rw [sq_br] | rw [sq_ct] | rw [sq_raise] | rw [sq_for] | rw [sq_wh] | rw [sq_set] | rw [sq_mset] | rw [sq_fd] | rw [sq_fdAug] | rw [sq_kput] | rw [sq_kdel] | rw [sq_putSl] | rw [sq_delSl] | rw [sq_forM] | rw [sq_tryN] | rw [sq_try]
    simp (maxSteps := 1000000) (disch := omega) only [ev0, ev1, ev2, ev3, ev4, ev5, ev6, ev7, ev8, ev9, ev10, ev11, ev12, ev13, ev14, ev15, ev16, ev17, ev18, ev19, ev20, ev21, ev22, ev23, ev24, ev25, ev26, ev27, ev28, ev29, ev30, ev31, ev32, ev33, ev34, ev35, ev36, ev37, ev38, ↓pa0, pa0, ↓pa1, pa1, ↓pa2, pa2, ↓pa3, pa3, ↓pa4, pa4, ↓pa5, pa5, ↓pa6, pa6, ↓pa7, pa7, ↓pa8, pa8, ↓pa9, pa9, ↓pa10, pa10, ↓pa11, pa11, ↓pa12, pa12, ↓pa13, pa13, ↓pa14, pa14, ↓reduceIte, Nat.reduceAdd, Nat.reduceLeDiff, Nat.reduceLT, Int.reduceLE, Int.reduceLT, Int.reduceNeg, Int.reduceAdd, Int.reduceSub, Int.reduceMul, Int.reduceDiv, Int.reduceMod, Int.reduceEq, Int.reduceToNat, Nat.reduceEqDiff]
    rw [hA1]
    simp (maxSteps := 1000000) (disch := omega) only [ev0, ev1, ev2, ev3, ev4, ev5, ev6, ev7, ev8, ev9, ev10, ev11, ev12, ev13, ev14, ev15, ev16, ev17, ev18, ev19, ev20, ev21, ev22, ev23, ev24, ev25, ev26, ev27, ev28, ev29, ev30, ev31, ev32, ev33, ev34, ev35, ev36, ev37, ev38, eq0, eq1, eq2, eq3, ↓pa0, pa0, ↓pa1, pa1, ↓pa2, pa2, ↓pa3, pa3, ↓pa4, pa4, ↓pa5, pa5, ↓pa6, pa6, ↓pa7, pa7, ↓pa8, pa8, ↓pa9, pa9, ↓pa10, pa10, ↓pa11, pa11, ↓pa12, pa12, ↓pa13, pa13, ↓pa14, pa14, ↓ps0, ↓ps1, ↓ps2, ↓ps3, ↓pw0, ↓pw1, ↓pw2, ↓pw3, ↓pl0, pl0, ↓pl1, pl1, ↓pl2, pl2, ↓reduceIte, Nat.reduceAdd, Nat.reduceLeDiff, Nat.reduceLT, Int.reduceLE, Int.reduceLT, Int.reduceNeg, Int.reduceAdd, Int.reduceSub, Int.reduceMul, Int.reduceDiv, Int.reduceMod, Int.reduceEq, Int.reduceToNat, Nat.reduceEqDiff, ↓w3, w3]
  repeat (first | rw [sq_frz] | rw [sq_nx] | rw [sq_sq])
  first | rw [sq_a] | rw [sq_o] | rw [sq_x] | rw [sq_if] | rw [sq_ret] | rw [sq_retL] | rw [sq_retO] | rw [sq_app] | rw [sq_ext] | rw [sq_aug] | rw [sq_g] | rw [sq_br] | rw [sq_ct] | rw [sq_raise] | rw [sq_for] | rw [sq_wh] | rw [sq_set] | rw [sq_mset] | rw [sq_fd] | rw [sq_fdAug] | rw [sq_kput] | rw [sq_kdel] | rw [sq_putSl] | rw [sq_delSl] | rw [sq_forM] | rw [sq_tryN] | rw [sq_try]
  simp (maxSteps := 1000000) (disch := omega) only [ev0, ev1, ev2, ev3, ev4, ev5, ev6, ev7, ev8, ev9, ev10, ev11, ev12, ev13, ev14, ev15, ev16, ev17, ev18, ev19, ev20, ev21, ev22, ev23, ev24, ev25, ev26, ev27, ev28, ev29, ev30, ev31, ev32, ev33, ev34, ev35, ev36, ev37, ev38, ↓pa0, pa0, ↓pa1, pa1, ↓pa2, pa2, ↓pa3, pa3, ↓pa4, pa4, ↓pa5, pa5, ↓pa6, pa6, ↓pa7, pa7, ↓pa8, pa8, ↓pa9, pa9, ↓pa10, pa10, ↓pa11, pa11, ↓pa12, pa12, ↓pa13, pa13, ↓pa14, pa14, ↓reduceIte, Nat.reduceAdd, Nat.reduceLeDiff, Nat.reduceLT, Int.reduceLE, Int.reduceLT, Int.reduceNeg, Int.reduceAdd, Int.reduceSub, Int.reduceMul, Int.reduceDiv, Int.reduceMod, Int.reduceEq, Int.reduceToNat, Nat.reduceEqDiff, show (2 : Int) ≤ 100000 by omega, show (-100000 : Int) ≤ 2 by omega, show ((2 : Int)).toNat = 2 from rfl]
  rw [show (List.range 2).map (fun (i : Nat) => D.int i) = [.int 0, .int 1] from rfl]
  simp (maxSteps := 1000000) (disch := omega) only [ev0, ev1, ev2, ev3, ev4, ev5, ev6, ev7, ev8, ev9, ev10, ev11, ev12, ev13, ev14, ev15, ev16, ev17, ev18, ev19, ev20, ev21, ev22, ev23, ev24, ev25, ev26, ev27, ev28, ev29, ev30, ev31, ev32, ev33, ev34, ev35, ev36, ev37, ev38, eq0, eq1, eq2, eq3, ↓pa0, pa0, ↓pa1, pa1, ↓pa2, pa2, ↓pa3, pa3, ↓pa4, pa4, ↓pa5, pa5, ↓pa6, pa6, ↓pa7, pa7, ↓pa8, pa8, ↓pa9, pa9, ↓pa10, pa10, ↓pa11, pa11, ↓pa12, pa12, ↓pa13, pa13, ↓pa14, pa14, ↓ps0, ↓ps1, ↓ps2, ↓ps3, ↓pw0, ↓pw1, ↓pw2, ↓pw3, ↓pl0, pl0, ↓pl1, pl1, ↓pl2, pl2, ↓reduceIte, Nat.reduceAdd, Nat.reduceLeDiff, Nat.reduceLT, Int.reduceLE, Int.reduceLT, Int.reduceNeg, Int.reduceAdd, Int.reduceSub, Int.reduceMul, Int.reduceDiv, Int.reduceMod, Int.reduceEq, Int.reduceToNat, Nat.reduceEqDiff, ↓t0, ↓t1, t0, t1]
  have L0 := (putA_ok stS_ok bs c0 last r0.w.isI).2
  have L1 := (putA_ok stM_ok bs m0 last r0.v.isI).2
  exact ⟨_, _, _, _, _, last, _, _, _, _, _, _, _, _, _, _, _, _, _, rr0, rr1, by omega, by omega, by omega, by omega, rfl, rfl⟩
theorem lw_R1 {T : List Int} {p : Int} {c0 c1 m0 m1 : KV} {R : Sto} {k q : Nat} {last size : Int} {a0 a12 a13 a14 a15 a16 a17 a18 : Sl} {T2 : Sl → Sto → Prop} (hp : 0 ≤ p) (hp2 : p ≤ 16) (r0 : Rel c0 m0) (r1 : Rel c1 m1) (l0 : c0.length ≤ 30 * k) (l1 : c1.length ≤ 30 * k) (l2 : m0.length ≤ 30 * k) (l3 : m1.length ≤ 30 * k) (hk : k ≤ 20) (hq : q ≤ 20) (h0 : 0 ≤ last) (hz : size = 65536) (h1 : last ≤ size) :
    @AtS xd (lwR [a0, .val (.lst (dI T)), .val (.int p), .val (.lst [.mref 0, .mref 2]), .val (.lst [.int (p * 65536), .int 65536]), .val (.lst [.mref 4, .mref 5]), .val (.int last), .val (.int (k : Int)), .val (.int (2 + 26 * (k : Int))), .val (.int 1), .val (.int size), .val (.int (q : Int)), a12, a13, a14, a15, a16, a17, a18]) (SK p c0 c1 m0 m1 R) (LI T p (k + 1)) T2 := by
  have lc : ∃ bs : List Int, bs.length = q ∧ ∀ (xc : XC) s PL, @At xc _ (lcGo (gN 13) tY (eF m_l_byte (eCons (eV 1) (eCons (eB dAdd (eB dAdd (eV 8) (eC (.int 5))) (eV 13)) eNil))) [a0, .val (.lst (dI T)), .val (.int p), .val (.lst [.mref 0, .mref 2]), .val (.lst [.int (p * 65536), .int 65536]), .val (.lst [.mref 4, .mref 5]), .val (.int last), .val (.int (k : Int)), .val (.int (2 + 26 * (k : Int))), .val (.int 1), .val (.int size), .val (.int (q : Int)), a12, .un, a14, a15, a16, a17, a18] ((List.range q).map fun (i : Nat) => D.int i) []) s PL = PL (dI bs) s := by
    refine ⟨(List.range q).map fun (j : Nat) => bt T (2 + 26 * (k : Int) + 5 + (j : Int)), by rw [List.length_map, List.length_range], fun xc s PL => ?_⟩
    have := at_lc_map (xc := xc) (g := gN 13) (t := tY) (e := eF m_l_byte (eCons (eV 1) (eCons (eB dAdd (eB dAdd (eV 8) (eC (.int 5))) (eV 13)) eNil))) (env := [a0, .val (.lst (dI T)), .val (.int p), .val (.lst [.mref 0, .mref 2]), .val (.lst [.int (p * 65536), .int 65536]), .val (.lst [.mref 4, .mref 5]), .val (.int last), .val (.int (k : Int)), .val (.int (2 + 26 * (k : Int))), .val (.int 1), .val (.int size), .val (.int (q : Int)), a12, .un, a14, a15, a16, a17, a18]) (s := s) (fun x => match x with | .int j => some (.int (bt T (2 + 26 * (k : Int) + 5 + j))) | _ => none) ((List.range q).map fun (i : Nat) => D.int i) [] (fun x hx PK => by
      obtain ⟨j, hj, rfl⟩ := List.mem_map.mp hx
      have hj := List.mem_range.mp hj
      have b := byte_ok T (a := 2 + 26 * (k : Int) + 5 + (j : Int)) (by omega) (by omega)
      simp (maxSteps := 1000000) (disch := omega) only [ev0, ev1, ev2, ev3, ev4, ev5, ev6, ev7, ev8, ev9, ev10, ev11, ev12, ev13, ev14, ev15, ev16, ev17, ev18, ev19, ev20, ev21, ev22, ev23, ev24, ev25, ev26, ev27, ev28, ev29, ev30, ev31, ev32, ev33, ev34, ev35, ev36, ev37, ev38, eq0, eq1, eq2, eq3, ↓pa0, pa0, ↓pa1, pa1, ↓pa2, pa2, ↓pa3, pa3, ↓pa4, pa4, ↓pa5, pa5, ↓pa6, pa6, ↓pa7, pa7, ↓pa8, pa8, ↓pa9, pa9, ↓pa10, pa10, ↓pa11, pa11, ↓pa12, pa12, ↓pa13, pa13, ↓pa14, pa14, ↓ps0, ↓ps1, ↓ps2, ↓ps3, ↓pw0, ↓pw1, ↓pw2, ↓pw3, ↓pl0, pl0, ↓pl1, pl1, ↓pl2, pl2, ↓reduceIte, Nat.reduceAdd, Nat.reduceLeDiff, Nat.reduceLT, Int.reduceLE, Int.reduceLT, Int.reduceNeg, Int.reduceAdd, Int.reduceSub, Int.reduceMul, Int.reduceDiv, Int.reduceMod, Int.reduceEq, Int.reduceToNat, Nat.reduceEqDiff, ↓b, b]) PL
    rw [this, List.nil_append, fm_range (g := fun (j : Nat) => bt T (2 + 26 * (k : Int) + 5 + (j : Int))) fun j hj => rfl]
  obtain ⟨bs, lb, lc⟩ := lc
  have w1 := fun (xc : XC) P => write_ok (xc := xc) (s := SK p c0 c1 m0 m1 R) (n := 2) (k := 3) (a := last) (bs := bs) (P := P) sk.2.2.1 sk.2.2.2.1 (by omega)
  rw [sw.2.1] at w1
  unfold lwR
  repeat (first | rw [sq_frz] | rw [sq_nx] | rw [sq_sq])
  first | rw [sq_a] | rw [sq_o] | rw [sq_x] | rw [sq_if] | rw [sq_ret] | rw [sq_retL] | rw [sq_retO] | rw [sq_app] | rw [sq_ext] | rw [sq_aug] | rw [sq_g] | rw [sq_br] | rw [sq_ct] | rw [sq_raise] | rw [sq_for] | rw [sq_wh] | rw [sq_set] | rw [sq_mset] | rw [sq_fd] | rw [sq_fdAug] | rw [sq_kput] | rw [sq_kdel] | rw [sq_putSl] | rw [sq_delSl] | rw [sq_forM] | rw [sq_tryN] | rw [sq_try]
  simp (maxSteps := 1000000) (disch := omega) only [ev0, ev1, ev2, ev3, ev4, ev5, ev6, ev7, ev8, ev9, ev10, ev11, ev12, ev13, ev14, ev15, ev16, ev17, ev18, ev19, ev20, ev21, ev22, ev23, ev24, ev25, ev26, ev27, ev28, ev29, ev30, ev31, ev32, ev33, ev34, ev35, ev36, ev37, ev38, ↓pa0, pa0, ↓pa1, pa1, ↓pa2, pa2, ↓pa3, pa3, ↓pa4, pa4, ↓pa5, pa5, ↓pa6, pa6, ↓pa7, pa7, ↓pa8, pa8, ↓pa9, pa9, ↓pa10, pa10, ↓pa11, pa11, ↓pa12, pa12, ↓pa13, pa13, ↓pa14, pa14, ↓reduceIte, Nat.reduceAdd, Nat.reduceLeDiff, Nat.reduceLT, Int.reduceLE, Int.reduceLT, Int.reduceNeg, Int.reduceAdd, Int.reduceSub, Int.reduceMul, Int.reduceDiv, Int.reduceMod, Int.reduceEq, Int.reduceToNat, Nat.reduceEqDiff, ↓at_lLc, ↓wp_nil, ↓wp_cons, ↓Int.toNat_natCast, ↓List.length_map, ↓List.length_range, ↓lc, at_lLc, wp_nil, wp_cons, Int.toNat_natCast, show (q : Int) ≤ 100000 by omega, show -100000 ≤ (q : Int) by omega, List.length_map, List.length_range, show q ≤ 40000 by omega, lc]
  repeat (first | rw [sq_frz] | rw [sq_nx] | rw [sq_sq])
  first | rw [sq_a] | rw [sq_o] | rw [sq_x] | rw [sq_if] | rw [sq_ret] | rw [sq_retL] | rw [sq_retO] | rw [sq_app] | rw [sq_ext] | rw [sq_aug] | rw [sq_g] | rw [sq_br] | rw [sq_ct] | rw [sq_raise] | rw [sq_for] | rw [sq_wh] | rw [sq_set] | rw [sq_mset] | rw [sq_fd] | rw [sq_fdAug] | rw [sq_kput] | rw [sq_kdel] | rw [sq_putSl] | rw [sq_delSl] | rw [sq_forM] | rw [sq_tryN] | rw [sq_try]
  simp (maxSteps := 1000000) (disch := omega) only [ev0, ev1, ev2, ev3, ev4, ev5, ev6, ev7, ev8, ev9, ev10, ev11, ev12, ev13, ev14, ev15, ev16, ev17, ev18, ev19, ev20, ev21, ev22, ev23, ev24, ev25, ev26, ev27, ev28, ev29, ev30, ev31, ev32, ev33, ev34, ev35, ev36, ev37, ev38, ↓pa0, pa0, ↓pa1, pa1, ↓pa2, pa2, ↓pa3, pa3, ↓pa4, pa4, ↓pa5, pa5, ↓pa6, pa6, ↓pa7, pa7, ↓pa8, pa8, ↓pa9, pa9, ↓pa10, pa10, ↓pa11, pa11, ↓pa12, pa12, ↓pa13, pa13, ↓pa14, pa14, ↓reduceIte, Nat.reduceAdd, Nat.reduceLeDiff, Nat.reduceLT, Int.reduceLE, Int.reduceLT, Int.reduceNeg, Int.reduceAdd, Int.reduceSub, Int.reduceMul, Int.reduceDiv, Int.reduceMod, Int.reduceEq, Int.reduceToNat, Nat.reduceEqDiff]
  repeat (first | rw [sq_frz] | rw [sq_nx] | rw [sq_sq])
  first | rw [sq_a] | rw [sq_o] | rw [sq_x] | rw [sq_if] | rw [sq_ret] | rw [sq_retL] | rw [sq_retO] | rw [sq_app] | rw [sq_ext] | rw [sq_aug] | rw [sq_g] | rw [sq_br] | rw [sq_ct] | rw [sq_raise] | rw [sq_for] | rw [sq_wh] | rw [sq_set] | rw [sq_mset] | rw [sq_fd] | rw [sq_fdAug] | rw [sq_kput] | rw [sq_kdel] | rw [sq_putSl] | rw [sq_delSl] | rw [sq_forM] | rw [sq_tryN] | rw [sq_try]
  simp (maxSteps := 1000000) (disch := omega) only [ev0, ev1, ev2, ev3, ev4, ev5, ev6, ev7, ev8, ev9, ev10, ev11, ev12, ev13, ev14, ev15, ev16, ev17, ev18, ev19, ev20, ev21, ev22, ev23, ev24, ev25, ev26, ev27, ev28, ev29, ev30, ev31, ev32, ev33, ev34, ev35, ev36, ev37, ev38, ↓pa0, pa0, ↓pa1, pa1, ↓pa2, pa2, ↓pa3, pa3, ↓pa4, pa4, ↓pa5, pa5, ↓pa6, pa6, ↓pa7, pa7, ↓pa8, pa8, ↓pa9, pa9, ↓pa10, pa10, ↓pa11, pa11, ↓pa12, pa12, ↓pa13, pa13, ↓pa14, pa14, ↓reduceIte, Nat.reduceAdd, Nat.reduceLeDiff, Nat.reduceLT, Int.reduceLE, Int.reduceLT, Int.reduceNeg, Int.reduceAdd, Int.reduceSub, Int.reduceMul, Int.reduceDiv, Int.reduceMod, Int.reduceEq, Int.reduceToNat, Nat.reduceEqDiff, ↓sk, ↓w1, sk, w1]
  repeat (first | rw [sq_frz] | rw [sq_nx] | rw [sq_sq])
  first | rw [sq_a] | rw [sq_o] | rw [sq_x] | rw [sq_if] | rw [sq_ret] | rw [sq_retL] | rw [sq_retO] | rw [sq_app] | rw [sq_ext] | rw [sq_aug] | rw [sq_g] | rw [sq_br] | rw [sq_ct] | rw [sq_raise] | rw [sq_for] | rw [sq_wh] | rw [sq_set] | rw [sq_mset] | rw [sq_fd] | rw [sq_fdAug] | rw [sq_kput] | rw [sq_kdel] | rw [sq_putSl] | rw [sq_delSl] | rw [sq_forM] | rw [sq_tryN] | rw [sq_try]
  simp (maxSteps := 1000000) (disch := omega) only [ev0, ev1, ev2, ev3, ev4, ev5, ev6, ev7, ev8, ev9, ev10, ev11, ev12, ev13, ev14, ev15, ev16, ev17, ev18, ev19, ev20, ev21, ev22, ev23, ev24, ev25, ev26, ev27, ev28, ev29, ev30, ev31, ev32, ev33, ev34, ev35, ev36, ev37, ev38, ↓pa0, pa0, ↓pa1, pa1, ↓pa2, pa2, ↓pa3, pa3, ↓pa4, pa4, ↓pa5, pa5, ↓pa6, pa6, ↓pa7, pa7, ↓pa8, pa8, ↓pa9, pa9, ↓pa10, pa10, ↓pa11, pa11, ↓pa12, pa12, ↓pa13, pa13, ↓pa14, pa14, ↓reduceIte, Nat.reduceAdd, Nat.reduceLeDiff, Nat.reduceLT, Int.reduceLE, Int.reduceLT, Int.reduceNeg, Int.reduceAdd, Int.reduceSub, Int.reduceMul, Int.reduceDiv, Int.reduceMod, Int.reduceEq, Int.reduceToNat, Nat.reduceEqDiff, ↓ne_self, ne_self]
  repeat (first | rw [sq_frz] | rw [sq_nx] | rw [sq_sq])
  first | rw [sq_a] | rw [sq_o] | rw [sq_x] | rw [sq_if] | rw [sq_ret] | rw [sq_retL] | rw [sq_retO] | rw [sq_app] | rw [sq_ext] | rw [sq_aug] | rw [sq_g] | rw [sq_br] | rw [sq_ct] | rw [sq_raise] | rw [sq_for] | rw [sq_wh] | rw [sq_set] | rw [sq_mset] | rw [sq_fd] | rw [sq_fdAug] | rw [sq_kput] | rw [sq_kdel] | rw [sq_putSl] | rw [sq_delSl] | rw [sq_forM] | rw [sq_tryN] | rw [sq_try]
  simp (maxSteps := 1000000) (disch := omega) only [ev0, ev1, ev2, ev3, ev4, ev5, ev6, ev7, ev8, ev9, ev10, ev11, ev12, ev13, ev14, ev15, ev16, ev17, ev18, ev19, ev20, ev21, ev22, ev23, ev24, ev25, ev26, ev27, ev28, ev29, ev30, ev31, ev32, ev33, ev34, ev35, ev36, ev37, ev38, ↓pa0, pa0, ↓pa1, pa1, ↓pa2, pa2, ↓pa3, pa3, ↓pa4, pa4, ↓pa5, pa5, ↓pa6, pa6, ↓pa7, pa7, ↓pa8, pa8, ↓pa9, pa9, ↓pa10, pa10, ↓pa11, pa11, ↓pa12, pa12, ↓pa13, pa13, ↓pa14, pa14, ↓reduceIte, Nat.reduceAdd, Nat.reduceLeDiff, Nat.reduceLT, Int.reduceLE, Int.reduceLT, Int.reduceNeg, Int.reduceAdd, Int.reduceSub, Int.reduceMul, Int.reduceDiv, Int.reduceMod, Int.reduceEq, Int.reduceToNat, Nat.reduceEqDiff]
  repeat (first | rw [sq_frz] | rw [sq_nx] | rw [sq_sq])
  first | rw [sq_a] | rw [sq_o] | rw [sq_x] | rw [sq_if] | rw [sq_ret] | rw [sq_retL] | rw [sq_retO] | rw [sq_app] | rw [sq_ext] | rw [sq_aug] | rw [sq_g] | rw [sq_br] | rw [sq_ct] | rw [sq_raise] | rw [sq_for] | rw [sq_wh] | rw [sq_set] | rw [sq_mset] | rw [sq_fd] | rw [sq_fdAug] | rw [sq_kput] | rw [sq_kdel] | rw [sq_putSl] | rw [sq_delSl] | rw [sq_forM] | rw [sq_tryN] | rw [sq_try]
  simp (maxSteps := 1000000) (disch := omega) only [ev0, ev1, ev2, ev3, ev4, ev5, ev6, ev7, ev8, ev9, ev10, ev11, ev12, ev13, ev14, ev15, ev16, ev17, ev18, ev19, ev20, ev21, ev22, ev23, ev24, ev25, ev26, ev27, ev28, ev29, ev30, ev31, ev32, ev33, ev34, ev35, ev36, ev37, ev38, ↓pa0, pa0, ↓pa1, pa1, ↓pa2, pa2, ↓pa3, pa3, ↓pa4, pa4, ↓pa5, pa5, ↓pa6, pa6, ↓pa7, pa7, ↓pa8, pa8, ↓pa9, pa9, ↓pa10, pa10, ↓pa11, pa11, ↓pa12, pa12, ↓pa13, pa13, ↓pa14, pa14, ↓reduceIte, Nat.reduceAdd, Nat.reduceLeDiff, Nat.reduceLT, Int.reduceLE, Int.reduceLT, Int.reduceNeg, Int.reduceAdd, Int.reduceSub, Int.reduceMul, Int.reduceDiv, Int.reduceMod, Int.reduceEq, Int.reduceToNat, Nat.reduceEqDiff, ↓Int.toNat_natCast, Int.toNat_natCast, show (q : Int) ≤ 100000 by omega, show -100000 ≤ (q : Int) by omega]
  rw [← lb]
  refine md_ok (s := SK p c0 (putA stS c1 last bs) m0 m1 R) (mm := 5) sk.2.2.2.2.2 (by omega) fun x13 => ?_
  rw [sw.2.2.2]
  have rr0 : Rel c0 m0 := r0
  have rr1 : Rel (putA stS c1 last bs) (putA stM m1 last bs) := r1.put last bs
  obtain ⟨A0, hA0, A00, A01⟩ : ∃ A0 : Int, (if p * 65536 < last then p * 65536 else last) = A0 ∧ 0 ≤ A0 ∧ A0 ≤ p * 65536 := ⟨_, rfl, by split <;> omega, by split <;> omega⟩
  obtain ⟨A1, hA1, A10, A11⟩ : ∃ A1 : Int, (if 65536 < last then 65536 else last) = A1 ∧ 0 ≤ A1 ∧ A1 ≤ 65536 := ⟨_, rfl, by split <;> omega, by split <;> omega⟩
  obtain ⟨cs0, w2⟩ := win_ok (s := SK p c0 (putA stS c1 last bs) m0 (putA stM m1 last bs) R) (n := 0) (k := 1) (mm := 4) (at_ := A0) (cnt := (bs.length : Int)) (size := p * 65536) sk.1 sk.2.1 sk.2.2.2.2.1 rr0.e rr0.v.isI A00 A01 (by omega) (by omega) (by omega)
  rw [sk_app] at w2
  obtain ⟨cs1, w3⟩ := win_ok (s := SK p c0 (putA stS c1 last bs) m0 (putA stM m1 last bs) (R ++ cs0)) (n := 2) (k := 3) (mm := 5) (at_ := A1) (cnt := (bs.length : Int)) (size := 65536) sk.2.2.1 sk.2.2.2.1 sk.2.2.2.2.2 rr1.e rr1.v.isI A10 A11 (by omega) (by omega) (by omega)
  rw [sk_app] at w3
  have t0 : ∀ (x16 : Sl) (N2 : Dm.Env → Sto → Prop) (B C : Dm.Env → Sto → Prop) (T2 : Sl → Sto → Prop), @AtW xd (b_law_2 [a0, .val (.lst (dI T)), .val (.int p), .val (.lst [.mref 0, .mref 2]), .val (.lst [.int (p * 65536), .int 65536]), .val (.lst [.mref 4, .mref 5]), .val (.int last), .val (.int (k : Int)), .val (.int (2 + 26 * (k : Int))), .val (.int 1), .val (.int size), .val (.int (bs.length : Int)), .val (.lst (dI bs)), .val (.int 0), .val (.lst (dI bs)), .val (.mref 5), x16, a17, a18]) (SK p c0 (putA stS c1 last bs) m0 (putA stM m1 last bs) R) N2 B C T2 = N2 [a0, .val (.lst (dI T)), .val (.int p), .val (.lst [.mref 0, .mref 2]), .val (.lst [.int (p * 65536), .int 65536]), .val (.lst [.mref 4, .mref 5]), .val (.int last), .val (.int (k : Int)), .val (.int (2 + 26 * (k : Int))), .val (.int 1), .val (.int size), .val (.int (bs.length : Int)), .val (.lst (dI bs)), .val (.int 0), .val (.lst (dI bs)), .val (.mref 5), .val (.int A0), a17, a18] (SK p c0 (putA stS c1 last bs) m0 (putA stM m1 last bs) (R ++ cs0)) := fun x16 N2 B C T2 => by
    unfold b_law_2
    repeat (first | rw [sq_frz] | rw [sq_nx] | rw [sq_sq])
    first | rw [sq_a] | rw [sq_o] | rw [sq_x] | rw [sq_if] | rw [sq_ret] | rw [sq_retL] | rw [sq_retO] | rw [sq_app] | rw [sq_ext] | rw [sq_aug] | rw [sq_g] | rw [sq_br] | rw [sq_ct] | rw [sq_raise] | rw [sq_for] | rw [sq_wh] | rw [sq_set] | rw [sq_mset] | rw [sq_fd] | rw [sq_fdAug] | rw [sq_kput] | rw [sq_kdel] | rw [sq_putSl] | rw [sq_delSl] | rw [sq_forM] | rw [sq_tryN] | rw [sq_try]
    simp (maxSteps := 1000000) (disch := omega) only [ev0, ev1, ev2, ev3, ev4, ev5, ev6, ev7, ev8, ev9, ev10, ev11, ev12, ev13, ev14, ev15, ev16, ev17, ev18, ev19, ev20, ev21, ev22, ev23, ev24, ev25, ev26, ev27, ev28, ev29, ev30, ev31, ev32, ev33, ev34, ev35, ev36, ev37, ev38, ↓pa0, pa0, ↓pa1, pa1, ↓pa2, pa2, ↓pa3, pa3, ↓pa4, pa4, ↓pa5, pa5, ↓pa6, pa6, ↓pa7, pa7, ↓pa8, pa8, ↓pa9, pa9, ↓pa10, pa10, ↓pa11, pa11, ↓pa12, pa12, ↓pa13, pa13, ↓pa14, pa14, ↓reduceIte, Nat.reduceAdd, Nat.reduceLeDiff, Nat.reduceLT, Int.reduceLE, Int.reduceLT, Int.reduceNeg, Int.reduceAdd, Int.reduceSub, Int.reduceMul, Int.reduceDiv, Int.reduceMod, Int.reduceEq, Int.reduceToNat, Nat.reduceEqDiff]
    rw [hA0]
    simp (maxSteps := 1000000) (disch := omega) only [ev0, ev1, ev2, ev3, ev4, ev5, ev6, ev7, ev8, ev9, ev10, ev11, ev12, ev13, ev14, ev15, ev16, ev17, ev18, ev19, ev20, ev21, ev22, ev23, ev24, ev25, ev26, ev27, ev28, ev29, ev30, ev31, ev32, ev33, ev34, ev35, ev36, ev37, ev38, eq0, eq1, eq2, eq3, ↓pa0, pa0, ↓pa1, pa1, ↓pa2, pa2, ↓pa3, pa3, ↓pa4, pa4, ↓pa5, pa5, ↓pa6, pa6, ↓pa7, pa7, ↓pa8, pa8, ↓pa9, pa9, ↓pa10, pa10, ↓pa11, pa11, ↓pa12, pa12, ↓pa13, pa13, ↓pa14, pa14, ↓ps0, ↓ps1, ↓ps2, ↓ps3, ↓pw0, ↓pw1, ↓pw2, ↓pw3, ↓pl0, pl0, ↓pl1, pl1, ↓pl2, pl2, ↓reduceIte, Nat.reduceAdd, Nat.reduceLeDiff, Nat.reduceLT, Int.reduceLE, Int.reduceLT, Int.reduceNeg, Int.reduceAdd, Int.reduceSub, Int.reduceMul, Int.reduceDiv, Int.reduceMod, Int.reduceEq, Int.reduceToNat, Nat.reduceEqDiff, ↓w2, w2]
  have t1 : ∀ (x16 : Sl) (N2 : Dm.Env → Sto → Prop) (B C : Dm.Env → Sto → Prop) (T2 : Sl → Sto → Prop), @AtW xd (b_law_2 [a0, .val (.lst (dI T)), .val (.int p), .val (.lst [.mref 0, .mref 2]), .val (.lst [.int (p * 65536), .int 65536]), .val (.lst [.mref 4, .mref 5]), .val (.int last), .val (.int (k : Int)), .val (.int (2 + 26 * (k : Int))), .val (.int 1), .val (.int size), .val (.int (bs.length : Int)), .val (.lst (dI bs)), .val (.int 1), .val (.lst (dI bs)), .val (.mref 5), x16, a17, a18]) (SK p c0 (putA stS c1 last bs) m0 (putA stM m1 last bs) (R ++ cs0)) N2 B C T2 = N2 [a0, .val (.lst (dI T)), .val (.int p), .val (.lst [.mref 0, .mref 2]), .val (.lst [.int (p * 65536), .int 65536]), .val (.lst [.mref 4, .mref 5]), .val (.int last), .val (.int (k : Int)), .val (.int (2 + 26 * (k : Int))), .val (.int 1), .val (.int size), .val (.int (bs.length : Int)), .val (.lst (dI bs)), .val (.int 1), .val (.lst (dI bs)), .val (.mref 5), .val (.int A1), a17, a18] (SK p c0 (putA stS c1 last bs) m0 (putA stM m1 last bs) (R ++ cs0 ++ cs1)) := fun x16 N2 B C T2 => by
    unfold b_law_2
    repeat (first | rw [sq_frz] | rw [sq_nx] | rw [sq_sq])
    first | rw [sq_a] | rw [sq_o] | rw [sq_x] | rw [sq_if] | rw [sq_ret] | rw [sq_retL] | rw [sq_retO] | rw [sq_app] | rw [sq_ext] | rw [sq_aug] | rw [sq_g] | rw [sq_br] | rw [sq_ct] | rw [sq_raise] | rw [sq_for] | rw [sq_wh] | rw [sq_set] | rw [sq_mset] | rw [sq_fd] | rw [sq_fdAug] | rw [sq_kput] | rw [sq_kdel] | rw [sq_putSl] | rw [sq_delSl] | rw [sq_forM] | rw [sq_tryN] | rw [sq_try]
    simp (maxSteps := 1000000) (disch := omega) only [ev0, ev1, ev2, ev3, ev4, ev5, ev6, ev7, ev8, ev9, ev10, ev11, ev12, ev13, ev14, ev15, ev16, ev17, ev18, ev19, ev20, ev21, ev22, ev23, ev24, ev25, ev26, ev27, ev28, ev29, ev30, ev31, ev32, ev33, ev34, ev35, ev36, ev37, ev38, ↓pa0, pa0, ↓pa1, pa1, ↓pa2, pa2, ↓pa3, pa3, ↓pa4, pa4, ↓pa5, pa5, ↓pa6, pa6, ↓pa7, pa7, ↓pa8, pa8, ↓pa9, pa9, ↓pa10, pa10, ↓pa11, pa11, ↓pa12, pa12, ↓pa13, pa13, ↓pa14, pa14, ↓reduceIte, Nat.reduceAdd, Nat.reduceLeDiff, Nat.reduceLT, Int.reduceLE, Int.reduceLT, Int.reduceNeg, Int.reduceAdd, Int.reduceSub, Int.reduceMul, Int.reduceDiv, Int.reduceMod, Int.reduceEq, Int.reduceToNat, Nat.reduceEqDiff]
    rw [hA1]
    simp (maxSteps := 1000000) (disch := omega) only [ev0, ev1, ev2, ev3, ev4, ev5, ev6, ev7, ev8, ev9, ev10, ev11, ev12, ev13, ev14, ev15, ev16, ev17, ev18, ev19, ev20, ev21, ev22, ev23, ev24, ev25, ev26, ev27, ev28, ev29, ev30, ev31, ev32, ev33, ev34, ev35, ev36, ev37, ev38, eq0, eq1, eq2, eq3, ↓pa0, pa0, ↓pa1, pa1, ↓pa2, pa2, ↓pa3, pa3, ↓pa4, pa4, ↓pa5, pa5, ↓pa6, pa6, ↓pa7, pa7, ↓pa8, pa8, ↓pa9, pa9, ↓pa10, pa10, ↓pa11, pa11, ↓pa12, pa12, ↓pa13, pa13, ↓pa14, pa14, ↓ps0, ↓ps1, ↓ps2, ↓ps3, ↓pw0, ↓pw1, ↓pw2, ↓pw3, ↓pl0, pl0, ↓pl1, pl1, ↓pl2, pl2, ↓reduceIte, Nat.reduceAdd, Nat.reduceLeDiff, Nat.reduceLT, Int.reduceLE, Int.reduceLT, Int.reduceNeg, Int.reduceAdd, Int.reduceSub, Int.reduceMul, Int.reduceDiv, Int.reduceMod, Int.reduceEq, Int.reduceToNat, Nat.reduceEqDiff, ↓w3, w3]
  repeat (first | rw [sq_frz] | rw [sq_nx] | rw [sq_sq])
  first | rw [sq_a] | rw [sq_o] | rw [sq_x] | rw [sq_if] | rw [sq_ret] | rw [sq_retL] | rw [sq_retO] | rw [sq_app] | rw [sq_ext] | rw [sq_aug] | rw [sq_g] | rw [sq_br] | rw [sq_ct] | rw [sq_raise] | rw [sq_for] | rw [sq_wh] | rw [sq_set] | rw [sq_mset] | rw [sq_fd] | rw [sq_fdAug] | rw [sq_kput] | rw [sq_kdel] | rw [sq_putSl] | rw [sq_delSl] | rw [sq_forM] | rw [sq_tryN] | rw [sq_try]
  simp (maxSteps := 1000000) (disch := omega) only [ev0, ev1, ev2, ev3, ev4, ev5, ev6, ev7, ev8, ev9, ev10, ev11, ev12, ev13, ev14, ev15, ev16, ev17, ev18, ev19, ev20, ev21, ev22, ev23, ev24, ev25, ev26, ev27, ev28, ev29, ev30, ev31, ev32, ev33, ev34, ev35, ev36, ev37, ev38, ↓pa0, pa0, ↓pa1, pa1, ↓pa2, pa2, ↓pa3, pa3, ↓pa4, pa4, ↓pa5, pa5, ↓pa6, pa6, ↓pa7, pa7, ↓pa8, pa8, ↓pa9, pa9, ↓pa10, pa10, ↓pa11, pa11, ↓pa12, pa12, ↓pa13, pa13, ↓pa14, pa14, ↓reduceIte, Nat.reduceAdd, Nat.reduceLeDiff, Nat.reduceLT, Int.reduceLE, Int.reduceLT, Int.reduceNeg, Int.reduceAdd, Int.reduceSub, Int.reduceMul, Int.reduceDiv, Int.reduceMod, Int.reduceEq, Int.reduceToNat, Nat.reduceEqDiff, show (2 : Int) ≤ 100000 by omega, show (-100000 : Int) ≤ 2 by omega, show ((2 : Int)).toNat = 2 from rfl]
  rw [show (List.range 2).map (fun (i : Nat) => D.int i) = [.int 0, .int 1] from rfl]
  simp (maxSteps := 1000000) (disch := omega) only [ev0, ev1, ev2, ev3, ev4, ev5, ev6, ev7, ev8, ev9, ev10, ev11, ev12, ev13, ev14, ev15, ev16, ev17, ev18, ev19, ev20, ev21, ev22, ev23, ev24, ev25, ev26, ev27, ev28, ev29, ev30, ev31, ev32, ev33, ev34, ev35, ev36, ev37, ev38, eq0, eq1, eq2, eq3, ↓pa0, pa0, ↓pa1, pa1, ↓pa2, pa2, ↓pa3, pa3, ↓pa4, pa4, ↓pa5, pa5, ↓pa6, pa6, ↓pa7, pa7, ↓pa8, pa8, ↓pa9, pa9, ↓pa10, pa10, ↓pa11, pa11, ↓pa12, pa12, ↓pa13, pa13, ↓pa14, pa14, ↓ps0, ↓ps1, ↓ps2, ↓ps3, ↓pw0, ↓pw1, ↓pw2, ↓pw3, ↓pl0, pl0, ↓pl1, pl1, ↓pl2, pl2, ↓reduceIte, Nat.reduceAdd, Nat.reduceLeDiff, Nat.reduceLT, Int.reduceLE, Int.reduceLT, Int.reduceNeg, Int.reduceAdd, Int.reduceSub, Int.reduceMul, Int.reduceDiv, Int.reduceMod, Int.reduceEq, Int.reduceToNat, Nat.reduceEqDiff, ↓t0, ↓t1, t0, t1]
  have L0 := (putA_ok stS_ok bs c1 last r1.w.isI).2
  have L1 := (putA_ok stM_ok bs m1 last r1.v.isI).2
  exact ⟨_, _, _, _, _, last, _, _, _, _, _, _, _, _, _, _, _, _, _, rr0, rr1, by omega, by omega, by omega, by omega, rfl, rfl⟩
theorem turn_ok {T : List Int} {p : Int} {k : Nat} {env : Dm.Env} {st : Sto} {T2 : Sl → Sto → Prop} (hp : 0 ≤ p) (hp2 : p ≤ 16) (hk : k ≤ 20) (hI : LI T p k env st) : @AtS xd (b_law_3 (env.set 7 (.val (.int (k : Int))))) st (LI T p (k + 1)) T2 := by
  obtain ⟨c0, c1, m0, m1, R, last, a0, a7, a8, a9, a10, a11, a12, a13, a14, a15, a16, a17, a18, r0, r1, l0, l1, l2, l3, rfl, rfl⟩ := hI
  have cm : (CMulW 26 (k : Int) ∨ CMul 26 (k : Int)) = True := eq_true (Or.inr (Or.inr ⟨by omega, by omega⟩))
  have d1 := dv_ok (T := T) (a := 2 + 26 * (k : Int)) (m := 4) (by omega) (by omega) (by decide)
  have d2 := dv_ok (T := T) (a := 2 + 26 * (k : Int) + 1) (m := 21) (by omega) (by omega) (by decide)
  generalize dv T (2 + 26 * (k : Int)) 4 = w at *
  generalize dv T (2 + 26 * (k : Int) + 1) 21 = n at *
  unfold b_law_3
  repeat (first | rw [sq_frz] | rw [sq_nx] | rw [sq_sq])
  first | rw [sq_a] | rw [sq_o] | rw [sq_x] | rw [sq_if] | rw [sq_ret] | rw [sq_retL] | rw [sq_retO] | rw [sq_app] | rw [sq_ext] | rw [sq_aug] | rw [sq_g] | rw [sq_br] | rw [sq_ct] | rw [sq_raise] | rw [sq_for] | rw [sq_wh] | rw [sq_set] | rw [sq_mset] | rw [sq_fd] | rw [sq_fdAug] | rw [sq_kput] | rw [sq_kdel] | rw [sq_putSl] | rw [sq_delSl] | rw [sq_forM] | rw [sq_tryN] | rw [sq_try]
  simp (maxSteps := 1000000) (disch := omega) only [ev0, ev1, ev2, ev3, ev4, ev5, ev6, ev7, ev8, ev9, ev10, ev11, ev12, ev13, ev14, ev15, ev16, ev17, ev18, ev19, ev20, ev21, ev22, ev23, ev24, ev25, ev26, ev27, ev28, ev29, ev30, ev31, ev32, ev33, ev34, ev35, ev36, ev37, ev38, ↓pa0, pa0, ↓pa1, pa1, ↓pa2, pa2, ↓pa3, pa3, ↓pa4, pa4, ↓pa5, pa5, ↓pa6, pa6, ↓pa7, pa7, ↓pa8, pa8, ↓pa9, pa9, ↓pa10, pa10, ↓pa11, pa11, ↓pa12, pa12, ↓pa13, pa13, ↓pa14, pa14, ↓reduceIte, Nat.reduceAdd, Nat.reduceLeDiff, Nat.reduceLT, Int.reduceLE, Int.reduceLT, Int.reduceNeg, Int.reduceAdd, Int.reduceSub, Int.reduceMul, Int.reduceDiv, Int.reduceMod, Int.reduceEq, Int.reduceToNat, Nat.reduceEqDiff, ↓cm, cm]
  by_cases c : w = 0
  · repeat (first | rw [sq_frz] | rw [sq_nx] | rw [sq_sq])
    first | rw [sq_a] | rw [sq_o] | rw [sq_x] | rw [sq_if] | rw [sq_ret] | rw [sq_retL] | rw [sq_retO] | rw [sq_app] | rw [sq_ext] | rw [sq_aug] | rw [sq_g] | rw [sq_br] | rw [sq_ct] | rw [sq_raise] | rw [sq_for] | rw [sq_wh] | rw [sq_set] | rw [sq_mset] | rw [sq_fd] | rw [sq_fdAug] | rw [sq_kput] | rw [sq_kdel] | rw [sq_putSl] | rw [sq_delSl] | rw [sq_forM] | rw [sq_tryN] | rw [sq_try]
    simp (maxSteps := 1000000) (disch := omega) only [ev0, ev1, ev2, ev3, ev4, ev5, ev6, ev7, ev8, ev9, ev10, ev11, ev12, ev13, ev14, ev15, ev16, ev17, ev18, ev19, ev20, ev21, ev22, ev23, ev24, ev25, ev26, ev27, ev28, ev29, ev30, ev31, ev32, ev33, ev34, ev35, ev36, ev37, ev38, ↓pa0, pa0, ↓pa1, pa1, ↓pa2, pa2, ↓pa3, pa3, ↓pa4, pa4, ↓pa5, pa5, ↓pa6, pa6, ↓pa7, pa7, ↓pa8, pa8, ↓pa9, pa9, ↓pa10, pa10, ↓pa11, pa11, ↓pa12, pa12, ↓pa13, pa13, ↓pa14, pa14, ↓reduceIte, Nat.reduceAdd, Nat.reduceLeDiff, Nat.reduceLT, Int.reduceLE, Int.reduceLT, Int.reduceNeg, Int.reduceAdd, Int.reduceSub, Int.reduceMul, Int.reduceDiv, Int.reduceMod, Int.reduceEq, Int.reduceToNat, Nat.reduceEqDiff, ↓d1.1, ↓c, d1.1, c]
    repeat (first | rw [sq_frz] | rw [sq_nx] | rw [sq_sq])
    first | rw [sq_a] | rw [sq_o] | rw [sq_x] | rw [sq_if] | rw [sq_ret] | rw [sq_retL] | rw [sq_retO] | rw [sq_app] | rw [sq_ext] | rw [sq_aug] | rw [sq_g] | rw [sq_br] | rw [sq_ct] | rw [sq_raise] | rw [sq_for] | rw [sq_wh] | rw [sq_set] | rw [sq_mset] | rw [sq_fd] | rw [sq_fdAug] | rw [sq_kput] | rw [sq_kdel] | rw [sq_putSl] | rw [sq_delSl] | rw [sq_forM] | rw [sq_tryN] | rw [sq_try]
    simp (maxSteps := 1000000) (disch := omega) only [ev0, ev1, ev2, ev3, ev4, ev5, ev6, ev7, ev8, ev9, ev10, ev11, ev12, ev13, ev14, ev15, ev16, ev17, ev18, ev19, ev20, ev21, ev22, ev23, ev24, ev25, ev26, ev27, ev28, ev29, ev30, ev31, ev32, ev33, ev34, ev35, ev36, ev37, ev38, ↓pa0, pa0, ↓pa1, pa1, ↓pa2, pa2, ↓pa3, pa3, ↓pa4, pa4, ↓pa5, pa5, ↓pa6, pa6, ↓pa7, pa7, ↓pa8, pa8, ↓pa9, pa9, ↓pa10, pa10, ↓pa11, pa11, ↓pa12, pa12, ↓pa13, pa13, ↓pa14, pa14, ↓reduceIte, Nat.reduceAdd, Nat.reduceLeDiff, Nat.reduceLT, Int.reduceLE, Int.reduceLT, Int.reduceNeg, Int.reduceAdd, Int.reduceSub, Int.reduceMul, Int.reduceDiv, Int.reduceMod, Int.reduceEq, Int.reduceToNat, Nat.reduceEqDiff]
    obtain ⟨q, hq⟩ : ∃ q : Nat, (if n < 65536 then n else 65536) = (q : Int) := ⟨_, (Int.toNat_of_nonneg (by split <;> omega)).symm⟩
    have q20 : q ≤ 20 := by split at hq <;> omega
    have qs : (q : Int) ≤ 65536 := by split at hq <;> omega
    repeat (first | rw [sq_frz] | rw [sq_nx] | rw [sq_sq])
    first | rw [sq_a] | rw [sq_o] | rw [sq_x] | rw [sq_if] | rw [sq_ret] | rw [sq_retL] | rw [sq_retO] | rw [sq_app] | rw [sq_ext] | rw [sq_aug] | rw [sq_g] | rw [sq_br] | rw [sq_ct] | rw [sq_raise] | rw [sq_for] | rw [sq_wh] | rw [sq_set] | rw [sq_mset] | rw [sq_fd] | rw [sq_fdAug] | rw [sq_kput] | rw [sq_kdel] | rw [sq_putSl] | rw [sq_delSl] | rw [sq_forM] | rw [sq_tryN] | rw [sq_try]
    simp (maxSteps := 1000000) (disch := omega) only [ev0, ev1, ev2, ev3, ev4, ev5, ev6, ev7, ev8, ev9, ev10, ev11, ev12, ev13, ev14, ev15, ev16, ev17, ev18, ev19, ev20, ev21, ev22, ev23, ev24, ev25, ev26, ev27, ev28, ev29, ev30, ev31, ev32, ev33, ev34, ev35, ev36, ev37, ev38, ↓pa0, pa0, ↓pa1, pa1, ↓pa2, pa2, ↓pa3, pa3, ↓pa4, pa4, ↓pa5, pa5, ↓pa6, pa6, ↓pa7, pa7, ↓pa8, pa8, ↓pa9, pa9, ↓pa10, pa10, ↓pa11, pa11, ↓pa12, pa12, ↓pa13, pa13, ↓pa14, pa14, ↓reduceIte, Nat.reduceAdd, Nat.reduceLeDiff, Nat.reduceLT, Int.reduceLE, Int.reduceLT, Int.reduceNeg, Int.reduceAdd, Int.reduceSub, Int.reduceMul, Int.reduceDiv, Int.reduceMod, Int.reduceEq, Int.reduceToNat, Nat.reduceEqDiff, ↓d2.1, d2.1]
    rw [hq]
    obtain ⟨v, v0, v1, hv⟩ := place_ok T (a := 2 + 26 * (k : Int) + 2) (most := 65536 - (q : Int)) (last := last) (by omega) (by omega) (by omega) (by omega)
    repeat (first | rw [sq_frz] | rw [sq_nx] | rw [sq_sq])
    first | rw [sq_a] | rw [sq_o] | rw [sq_x] | rw [sq_if] | rw [sq_ret] | rw [sq_retL] | rw [sq_retO] | rw [sq_app] | rw [sq_ext] | rw [sq_aug] | rw [sq_g] | rw [sq_br] | rw [sq_ct] | rw [sq_raise] | rw [sq_for] | rw [sq_wh] | rw [sq_set] | rw [sq_mset] | rw [sq_fd] | rw [sq_fdAug] | rw [sq_kput] | rw [sq_kdel] | rw [sq_putSl] | rw [sq_delSl] | rw [sq_forM] | rw [sq_tryN] | rw [sq_try]
    simp (maxSteps := 1000000) (disch := omega) only [ev0, ev1, ev2, ev3, ev4, ev5, ev6, ev7, ev8, ev9, ev10, ev11, ev12, ev13, ev14, ev15, ev16, ev17, ev18, ev19, ev20, ev21, ev22, ev23, ev24, ev25, ev26, ev27, ev28, ev29, ev30, ev31, ev32, ev33, ev34, ev35, ev36, ev37, ev38, ↓pa0, pa0, ↓pa1, pa1, ↓pa2, pa2, ↓pa3, pa3, ↓pa4, pa4, ↓pa5, pa5, ↓pa6, pa6, ↓pa7, pa7, ↓pa8, pa8, ↓pa9, pa9, ↓pa10, pa10, ↓pa11, pa11, ↓pa12, pa12, ↓pa13, pa13, ↓pa14, pa14, ↓reduceIte, Nat.reduceAdd, Nat.reduceLeDiff, Nat.reduceLT, Int.reduceLE, Int.reduceLT, Int.reduceNeg, Int.reduceAdd, Int.reduceSub, Int.reduceMul, Int.reduceDiv, Int.reduceMod, Int.reduceEq, Int.reduceToNat, Nat.reduceEqDiff, ↓hv, hv]
    exact lw_R1 hp hp2 r0 r1 l0 l1 l2 l3 hk q20 v0 rfl (by omega)
  · repeat (first | rw [sq_frz] | rw [sq_nx] | rw [sq_sq])
    first | rw [sq_a] | rw [sq_o] | rw [sq_x] | rw [sq_if] | rw [sq_ret] | rw [sq_retL] | rw [sq_retO] | rw [sq_app] | rw [sq_ext] | rw [sq_aug] | rw [sq_g] | rw [sq_br] | rw [sq_ct] | rw [sq_raise] | rw [sq_for] | rw [sq_wh] | rw [sq_set] | rw [sq_mset] | rw [sq_fd] | rw [sq_fdAug] | rw [sq_kput] | rw [sq_kdel] | rw [sq_putSl] | rw [sq_delSl] | rw [sq_forM] | rw [sq_tryN] | rw [sq_try]
    simp (maxSteps := 1000000) (disch := omega) only [ev0, ev1, ev2, ev3, ev4, ev5, ev6, ev7, ev8, ev9, ev10, ev11, ev12, ev13, ev14, ev15, ev16, ev17, ev18, ev19, ev20, ev21, ev22, ev23, ev24, ev25, ev26, ev27, ev28, ev29, ev30, ev31, ev32, ev33, ev34, ev35, ev36, ev37, ev38, ↓pa0, pa0, ↓pa1, pa1, ↓pa2, pa2, ↓pa3, pa3, ↓pa4, pa4, ↓pa5, pa5, ↓pa6, pa6, ↓pa7, pa7, ↓pa8, pa8, ↓pa9, pa9, ↓pa10, pa10, ↓pa11, pa11, ↓pa12, pa12, ↓pa13, pa13, ↓pa14, pa14, ↓reduceIte, Nat.reduceAdd, Nat.reduceLeDiff, Nat.reduceLT, Int.reduceLE, Int.reduceLT, Int.reduceNeg, Int.reduceAdd, Int.reduceSub, Int.reduceMul, Int.reduceDiv, Int.reduceMod, Int.reduceEq, Int.reduceToNat, Nat.reduceEqDiff, ↓d1.1, ↓c, d1.1, c]
    repeat (first | rw [sq_frz] | rw [sq_nx] | rw [sq_sq])
    first | rw [sq_a] | rw [sq_o] | rw [sq_x] | rw [sq_if] | rw [sq_ret] | rw [sq_retL] | rw [sq_retO] | rw [sq_app] | rw [sq_ext] | rw [sq_aug] | rw [sq_g] | rw [sq_br] | rw [sq_ct] | rw [sq_raise] | rw [sq_for] | rw [sq_wh] | rw [sq_set] | rw [sq_mset] | rw [sq_fd] | rw [sq_fdAug] | rw [sq_kput] | rw [sq_kdel] | rw [sq_putSl] | rw [sq_delSl] | rw [sq_forM] | rw [sq_tryN] | rw [sq_try]
    simp (maxSteps := 1000000) (disch := omega) only [ev0, ev1, ev2, ev3, ev4, ev5, ev6, ev7, ev8, ev9, ev10, ev11, ev12, ev13, ev14, ev15, ev16, ev17, ev18, ev19, ev20, ev21, ev22, ev23, ev24, ev25, ev26, ev27, ev28, ev29, ev30, ev31, ev32, ev33, ev34, ev35, ev36, ev37, ev38, ↓pa0, pa0, ↓pa1, pa1, ↓pa2, pa2, ↓pa3, pa3, ↓pa4, pa4, ↓pa5, pa5, ↓pa6, pa6, ↓pa7, pa7, ↓pa8, pa8, ↓pa9, pa9, ↓pa10, pa10, ↓pa11, pa11, ↓pa12, pa12, ↓pa13, pa13, ↓pa14, pa14, ↓reduceIte, Nat.reduceAdd, Nat.reduceLeDiff, Nat.reduceLT, Int.reduceLE, Int.reduceLT, Int.reduceNeg, Int.reduceAdd, Int.reduceSub, Int.reduceMul, Int.reduceDiv, Int.reduceMod, Int.reduceEq, Int.reduceToNat, Nat.reduceEqDiff]
    obtain ⟨q, hq⟩ : ∃ q : Nat, (if n < p * 65536 then n else p * 65536) = (q : Int) := ⟨_, (Int.toNat_of_nonneg (by split <;> omega)).symm⟩
    have q20 : q ≤ 20 := by split at hq <;> omega
    have qs : (q : Int) ≤ p * 65536 := by split at hq <;> omega
    repeat (first | rw [sq_frz] | rw [sq_nx] | rw [sq_sq])
    first | rw [sq_a] | rw [sq_o] | rw [sq_x] | rw [sq_if] | rw [sq_ret] | rw [sq_retL] | rw [sq_retO] | rw [sq_app] | rw [sq_ext] | rw [sq_aug] | rw [sq_g] | rw [sq_br] | rw [sq_ct] | rw [sq_raise] | rw [sq_for] | rw [sq_wh] | rw [sq_set] | rw [sq_mset] | rw [sq_fd] | rw [sq_fdAug] | rw [sq_kput] | rw [sq_kdel] | rw [sq_putSl] | rw [sq_delSl] | rw [sq_forM] | rw [sq_tryN] | rw [sq_try]
    simp (maxSteps := 1000000) (disch := omega) only [ev0, ev1, ev2, ev3, ev4, ev5, ev6, ev7, ev8, ev9, ev10, ev11, ev12, ev13, ev14, ev15, ev16, ev17, ev18, ev19, ev20, ev21, ev22, ev23, ev24, ev25, ev26, ev27, ev28, ev29, ev30, ev31, ev32, ev33, ev34, ev35, ev36, ev37, ev38, ↓pa0, pa0, ↓pa1, pa1, ↓pa2, pa2, ↓pa3, pa3, ↓pa4, pa4, ↓pa5, pa5, ↓pa6, pa6, ↓pa7, pa7, ↓pa8, pa8, ↓pa9, pa9, ↓pa10, pa10, ↓pa11, pa11, ↓pa12, pa12, ↓pa13, pa13, ↓pa14, pa14, ↓reduceIte, Nat.reduceAdd, Nat.reduceLeDiff, Nat.reduceLT, Int.reduceLE, Int.reduceLT, Int.reduceNeg, Int.reduceAdd, Int.reduceSub, Int.reduceMul, Int.reduceDiv, Int.reduceMod, Int.reduceEq, Int.reduceToNat, Nat.reduceEqDiff, ↓d2.1, d2.1]
    rw [hq]
    obtain ⟨v, v0, v1, hv⟩ := place_ok T (a := 2 + 26 * (k : Int) + 2) (most := p * 65536 - (q : Int)) (last := last) (by omega) (by omega) (by omega) (by omega)
    repeat (first | rw [sq_frz] | rw [sq_nx] | rw [sq_sq])
    first | rw [sq_a] | rw [sq_o] | rw [sq_x] | rw [sq_if] | rw [sq_ret] | rw [sq_retL] | rw [sq_retO] | rw [sq_app] | rw [sq_ext] | rw [sq_aug] | rw [sq_g] | rw [sq_br] | rw [sq_ct] | rw [sq_raise] | rw [sq_for] | rw [sq_wh] | rw [sq_set] | rw [sq_mset] | rw [sq_fd] | rw [sq_fdAug] | rw [sq_kput] | rw [sq_kdel] | rw [sq_putSl] | rw [sq_delSl] | rw [sq_forM] | rw [sq_tryN] | rw [sq_try]
    simp (maxSteps := 1000000) (disch := omega) only [ev0, ev1, ev2, ev3, ev4, ev5, ev6, ev7, ev8, ev9, ev10, ev11, ev12, ev13, ev14, ev15, ev16, ev17, ev18, ev19, ev20, ev21, ev22, ev23, ev24, ev25, ev26, ev27, ev28, ev29, ev30, ev31, ev32, ev33, ev34, ev35, ev36, ev37, ev38, ↓pa0, pa0, ↓pa1, pa1, ↓pa2, pa2, ↓pa3, pa3, ↓pa4, pa4, ↓pa5, pa5, ↓pa6, pa6, ↓pa7, pa7, ↓pa8, pa8, ↓pa9, pa9, ↓pa10, pa10, ↓pa11, pa11, ↓pa12, pa12, ↓pa13, pa13, ↓pa14, pa14, ↓reduceIte, Nat.reduceAdd, Nat.reduceLeDiff, Nat.reduceLT, Int.reduceLE, Int.reduceLT, Int.reduceNeg, Int.reduceAdd, Int.reduceSub, Int.reduceMul, Int.reduceDiv, Int.reduceMod, Int.reduceEq, Int.reduceToNat, Nat.reduceEqDiff, ↓hv, hv]
    exact lw_R0 hp hp2 r0 r1 l0 l1 l2 l3 hk q20 v0 rfl (by omega)
theorem srtK_ap {s : Sto} {n : Nat} {kv : KV} (hs : s[n]? = some (.dct kv)) {ks : List Int} (hk : keysI kv = some ks) {PL : List D → Sto → Prop} : @At xc _ (lSortK [.mref n]) s PL = PL ((srtI ks).map .int) s := by
  unfold lSortK
  rw [at_onK', hs]
  show @rsA xc _ (match keysI kv with | some ks => Rs.ok ((srtI ks).map .int) s | none => Rs.bad) PL = _
  rw [hk]
  rfl
theorem val_key {m : KV} (h : Wf m) {i : Int} (hm : (.inl i) ∈ m.map (·.1)) : ∃ v : Int, valG m (.inl i) = some (.int v) ∧ gv m i = .int v := by
  obtain ⟨p, hp, e⟩ := List.mem_map.mp hm
  obtain ⟨i2, v, rfl⟩ := h.ki p hp
  cases e
  have q := mem_val m h.nd hp
  refine ⟨v, q, ?_⟩
  unfold gv
  rw [q]
  rfl
theorem gv_none {m : KV} {i : Int} (hm : (.inl i) ∉ m.map (·.1)) : gv m i = .int 0 := by
  unfold gv
  cases c : valG m (.inl i) with
  | none => rfl
  | some d => exact absurd (List.mem_map.mpr ⟨_, val_mem m c, rfl⟩) hm
theorem NZ.put {kv : KV} (h : NZ kv) {i j : Int} (hj : j ≠ 0) : NZ (putG kv (.inl i) (.int j)) := fun p hp => by
  rcases put_mem p hp with hp | rfl
  · exact h p hp
  · exact fun e => hj (D.int.inj e)
theorem gv_put {kv : KV} {k : Int} {b : D} {z : Int} : gv (putG kv (.inl k) b) z = if k = z then b else gv kv z := by
  unfold gv
  rw [val_put]
  by_cases c : k = z
  · rw [if_pos c, if_pos (by rw [c])]; rfl
  · rw [if_neg c, if_neg (by rw [inl_eq]; exact c)]
theorem due_ok {s : Sto} {mm : Nat} {m : KV} {ks : List Int} {a0 a1 a2 a3 a4 a5 a6 a7 a8 a9 a10 a11 a12 a13 a14 a16 a18 : Sl} {T : Sl → Sto → Prop} {N : Dm.Env → Sto → Prop} (hm : s[mm]? = some (.dct m)) (w : Wf m) (hk : m.map (·.1) = ks.map Sum.inl) (hz : m.length ≤ 90000)
    (hN : ∀ due a18, Wf due → NZ due → (∀ k, gv m k = gv due k) → N [a0, a1, a2, a3, a4, a5, a6, a7, a8, a9, a10, a11, a12, a13, a14, .val (.mref mm), a16, .val (.mref s.length), a18] (s ++ [.dct due])) :
    @AtS xd (forGo (gN 18) b_law_4 ((srtI ks).map .int) [a0, a1, a2, a3, a4, a5, a6, a7, a8, a9, a10, a11, a12, a13, a14, .val (.mref mm), a16, .val (.mref s.length), a18]) (s ++ [.dct []]) N T := by
  have lk : ks.length = m.length := by rw [← List.length_map (f := Sum.inl (β := Str)), ← hk, List.length_map]
  refine AtS.mono (atS_for (fun j env st => ∃ (due : KV) (x18 : Sl), Wf due ∧ NZ due ∧ due.length ≤ j ∧ (∀ z, gv due z = if z ∈ (srtI ks).take j then gv m z else .int 0) ∧ env = [a0, a1, a2, a3, a4, a5, a6, a7, a8, a9, a10, a11, a12, a13, a14, .val (.mref mm), a16, .val (.mref s.length), x18] ∧ st = s ++ [.dct due]) _ 0 _ _ ⟨[], a18, Wf.nil, fun p h => (by cases h), Nat.le_refl _, fun z => rfl, rfl, rfl⟩ fun j d env st hj hI => ?_) (fun env st hI => ?_) fun v st h => h
  · obtain ⟨due, x18, dw, dz, dl, dg, rfl, rfl⟩ := hI
    rw [Nat.zero_add] at *
    rw [List.getElem?_map] at hj
    obtain ⟨i, hi, rfl⟩ := Option.map_eq_some_iff.mp hj
    have hmem : i ∈ ks := (srtI_perm ks).mem_iff.mp (List.mem_of_getElem? hi)
    obtain ⟨v, v1, v2⟩ := val_key w (i := i) (by rw [hk]; exact List.mem_map.mpr ⟨i, hmem, rfl⟩)
    have jl : j < m.length := by
      have := (List.getElem?_eq_some_iff.mp hi).1
      rw [(srtI_perm ks).length_eq] at this
      omega
    have tk : (srtI ks).take (j + 1) = (srtI ks).take j ++ [i] := by rw [List.take_succ, hi]; rfl
    have g0 : (s ++ [Cell.dct due])[mm]? = some (.dct m) := by
      rw [List.getElem?_append_left (List.getElem?_eq_some_iff.mp hm).1]; exact hm
    have g1 : (s ++ [Cell.dct due])[s.length]? = some (.dct due) := by simp
    have st : ∀ c, (s ++ [Cell.dct due]).set s.length c = s ++ [c] := fun c => by simp
    refine ⟨_, rfl, ?_⟩
    unfold b_law_4
    by_cases c : v = 0
    · simp (maxSteps := 1000000) (disch := omega) only [ev0, ev1, ev2, ev3, ev4, ev5, ev6, ev7, ev8, ev9, ev10, ev11, ev12, ev13, ev14, ev15, ev16, ev17, ev18, ev19, ev20, ev21, ev22, ev23, ev24, ev25, ev26, ev27, ev28, ev29, ev30, ev31, ev32, ev33, ev34, ev35, ev36, ev37, ev38, eq0, eq1, eq2, eq3, ↓pa0, pa0, ↓pa1, pa1, ↓pa2, pa2, ↓pa3, pa3, ↓pa4, pa4, ↓pa5, pa5, ↓pa6, pa6, ↓pa7, pa7, ↓pa8, pa8, ↓pa9, pa9, ↓pa10, pa10, ↓pa11, pa11, ↓pa12, pa12, ↓pa13, pa13, ↓pa14, pa14, ↓ps0, ↓ps1, ↓ps2, ↓ps3, ↓pw0, ↓pw1, ↓pw2, ↓pw3, ↓pl0, pl0, ↓pl1, pl1, ↓pl2, pl2, ↓reduceIte, Nat.reduceAdd, Nat.reduceLeDiff, Nat.reduceLT, Int.reduceLE, Int.reduceLT, Int.reduceNeg, Int.reduceAdd, Int.reduceSub, Int.reduceMul, Int.reduceDiv, Int.reduceMod, Int.reduceEq, Int.reduceToNat, Nat.reduceEqDiff, ↓g0, ↓v1, ↓c, g0, v1, c]
      refine ⟨due, _, dw, dz, by omega, fun z => ?_, rfl, rfl⟩
      rw [tk, dg z]
      by_cases e : z ∈ (srtI ks).take j
      · rw [if_pos e, if_pos (List.mem_append_left _ e)]
      · rw [if_neg e]
        split
        · rename_i h
          rcases List.mem_append.mp h with h | h
          · exact absurd h e
          · rw [List.mem_singleton.mp h, v2, c]
        · rfl
    · simp (maxSteps := 1000000) (disch := omega) only [ev0, ev1, ev2, ev3, ev4, ev5, ev6, ev7, ev8, ev9, ev10, ev11, ev12, ev13, ev14, ev15, ev16, ev17, ev18, ev19, ev20, ev21, ev22, ev23, ev24, ev25, ev26, ev27, ev28, ev29, ev30, ev31, ev32, ev33, ev34, ev35, ev36, ev37, ev38, eq0, eq1, eq2, eq3, ↓pa0, pa0, ↓pa1, pa1, ↓pa2, pa2, ↓pa3, pa3, ↓pa4, pa4, ↓pa5, pa5, ↓pa6, pa6, ↓pa7, pa7, ↓pa8, pa8, ↓pa9, pa9, ↓pa10, pa10, ↓pa11, pa11, ↓pa12, pa12, ↓pa13, pa13, ↓pa14, pa14, ↓ps0, ↓ps1, ↓ps2, ↓ps3, ↓pw0, ↓pw1, ↓pw2, ↓pw3, ↓pl0, pl0, ↓pl1, pl1, ↓pl2, pl2, ↓reduceIte, Nat.reduceAdd, Nat.reduceLeDiff, Nat.reduceLT, Int.reduceLE, Int.reduceLT, Int.reduceNeg, Int.reduceAdd, Int.reduceSub, Int.reduceMul, Int.reduceDiv, Int.reduceMod, Int.reduceEq, Int.reduceToNat, Nat.reduceEqDiff, ↓g0, ↓v1, ↓c, ↓g1, ↓st, g0, v1, c, g1, st, show due.length < 100000 by omega]
      refine ⟨_, _, dw.put i v, dz.put c, by have := len_put (k := .inl i) (d := .int v) due; omega, fun z => ?_, rfl, rfl⟩
      rw [tk, gv_put, dg z]
      by_cases q : i = z
      · subst q
        rw [if_pos rfl, if_pos (List.mem_append_right _ (List.mem_singleton.mpr rfl)), v2]
      · rw [if_neg q]
        by_cases e : z ∈ (srtI ks).take j
        · rw [if_pos e, if_pos (List.mem_append_left _ e)]
        · rw [if_neg e, if_neg fun h => (List.mem_append.mp h).elim e fun h => q (List.mem_singleton.mp h).symm]
  · obtain ⟨due, x18, dw, dz, dl, dg, rfl, rfl⟩ := hI
    refine hN due x18 dw dz fun z => ?_
    rw [dg z]
    rw [Nat.zero_add, List.length_map, List.take_length]
    split
    · rfl
    · rename_i h
      refine gv_none fun hz => h ((srtI_perm ks).mem_iff.mpr ?_)
      rw [hk] at hz
      obtain ⟨i, hi, e⟩ := List.mem_map.mp hz
      cases e
      exact hi
theorem size_ok {s : Sto} {n : Nat} {y z : D} {p : Int} (hs : s[n]? = some (.ins 3002 [.int p, y, z])) (h0 : 0 ≤ p) (h1 : p ≤ 16) {P : D → Sto → Prop} : @At xc _ (m_Memory_size [.mref n]) s P = P (.int (p * 65536)) s := by
  have cm : (CMulW p 65536 ∨ CMul p 65536) = True := eq_true (Or.inr (Or.inr ⟨by decide, by decide⟩))
  rw [e_Memory_size]
  unfold b_Memory_size
  simp (maxSteps := 1000000) (disch := omega) only [ev0, ev1, ev2, ev3, ev4, ev5, ev6, ev7, ev8, ev9, ev10, ev11, ev12, ev13, ev14, ev15, ev16, ev17, ev18, ev19, ev20, ev21, ev22, ev23, ev24, ev25, ev26, ev27, ev28, ev29, ev30, ev31, ev32, ev33, ev34, ev35, ev36, ev37, ev38, eq0, eq1, eq2, eq3, ↓pa0, pa0, ↓pa1, pa1, ↓pa2, pa2, ↓pa3, pa3, ↓pa4, pa4, ↓pa5, pa5, ↓pa6, pa6, ↓pa7, pa7, ↓pa8, pa8, ↓pa9, pa9, ↓pa10, pa10, ↓pa11, pa11, ↓pa12, pa12, ↓pa13, pa13, ↓pa14, pa14, ↓ps0, ↓ps1, ↓ps2, ↓ps3, ↓pw0, ↓pw1, ↓pw2, ↓pw3, ↓pl0, pl0, ↓pl1, pl1, ↓pl2, pl2, ↓reduceIte, Nat.reduceAdd, Nat.reduceLeDiff, Nat.reduceLT, Int.reduceLE, Int.reduceLT, Int.reduceNeg, Int.reduceAdd, Int.reduceSub, Int.reduceMul, Int.reduceDiv, Int.reduceMod, Int.reduceEq, Int.reduceToNat, Nat.reduceEqDiff, ↓hs, ↓cm, ↓d_PAGE, hs, cm, d_PAGE]
theorem nek_ok {s : Sto} {n m : Nat} {a b : KV} (h1 : s[n]? = some (.dct a)) (h2 : s[m]? = some (.dct b)) (h : eqK a b = true) {P : D → Sto → Prop} : @At xc _ (dNeK (.mref n) (.mref m)) s P = P (.bl false) s := by
  have e : dNeK (.mref n) (.mref m) s = Rs.ok (.bl false) s := by
    unfold dNeK onK
    simp only [h1, h2, h, if_true]
  unfold At
  rw [e]
theorem ed0 {p : Int} {c0 c1 m0 m1 : KV} {R : Sto} {a0 a1 a2 a6 a7 a8 a9 a10 a11 a12 a14 a15 a16 a17 a18 : Sl} {T : Sl → Sto → Prop} {N : Dm.Env → Sto → Prop} (hp : 0 ≤ p) (hp2 : p ≤ 16) (r : Rel c0 m0) (hz : m0.length ≤ 90000)
    (hN : ∀ a15 a17 a18 Q, N [a0, a1, a2, .val (.lst [.mref 0, .mref 2]), .val (.lst [.int (p * 65536), .int 65536]), .val (.lst [.mref 4, .mref 5]), a6, a7, a8, a9, a10, a11, a12, .val (.int 0), a14, a15, a16, a17, a18] (SK p c0 c1 m0 m1 Q)) :
    @AtS xd (b_law_5 [a0, a1, a2, .val (.lst [.mref 0, .mref 2]), .val (.lst [.int (p * 65536), .int 65536]), .val (.lst [.mref 4, .mref 5]), a6, a7, a8, a9, a10, a11, a12, .val (.int 0), a14, a15, a16, a17, a18]) (SK p c0 c1 m0 m1 R) N T := by
  obtain ⟨ks, k1, k2⟩ := keys_ok r.v.ki
  have so := fun (xc : XC) PL => srtK_ap (xc := xc) (s := SK p c0 c1 m0 m1 R ++ [.dct []]) (n := 4) (kv := m0) rfl k1 (PL := PL)
  unfold b_law_5
  repeat (first | rw [sq_frz] | rw [sq_nx] | rw [sq_sq])
  first | rw [sq_a] | rw [sq_o] | rw [sq_x] | rw [sq_if] | rw [sq_ret] | rw [sq_retL] | rw [sq_retO] | rw [sq_app] | rw [sq_ext] | rw [sq_aug] | rw [sq_g] | rw [sq_br] | rw [sq_ct] | rw [sq_raise] | rw [sq_for] | rw [sq_wh] | rw [sq_set] | rw [sq_mset] | rw [sq_fd] | rw [sq_fdAug] | rw [sq_kput] | rw [sq_kdel] | rw [sq_putSl] | rw [sq_delSl] | rw [sq_forM] | rw [sq_tryN] | rw [sq_try]
  simp (maxSteps := 1000000) (disch := omega) only [ev0, ev1, ev2, ev3, ev4, ev5, ev6, ev7, ev8, ev9, ev10, ev11, ev12, ev13, ev14, ev15, ev16, ev17, ev18, ev19, ev20, ev21, ev22, ev23, ev24, ev25, ev26, ev27, ev28, ev29, ev30, ev31, ev32, ev33, ev34, ev35, ev36, ev37, ev38, ↓pa0, pa0, ↓pa1, pa1, ↓pa2, pa2, ↓pa3, pa3, ↓pa4, pa4, ↓pa5, pa5, ↓pa6, pa6, ↓pa7, pa7, ↓pa8, pa8, ↓pa9, pa9, ↓pa10, pa10, ↓pa11, pa11, ↓pa12, pa12, ↓pa13, pa13, ↓pa14, pa14, ↓reduceIte, Nat.reduceAdd, Nat.reduceLeDiff, Nat.reduceLT, Int.reduceLE, Int.reduceLT, Int.reduceNeg, Int.reduceAdd, Int.reduceSub, Int.reduceMul, Int.reduceDiv, Int.reduceMod, Int.reduceEq, Int.reduceToNat, Nat.reduceEqDiff]
  repeat (first | rw [sq_frz] | rw [sq_nx] | rw [sq_sq])
  first | rw [sq_a] | rw [sq_o] | rw [sq_x] | rw [sq_if] | rw [sq_ret] | rw [sq_retL] | rw [sq_retO] | rw [sq_app] | rw [sq_ext] | rw [sq_aug] | rw [sq_g] | rw [sq_br] | rw [sq_ct] | rw [sq_raise] | rw [sq_for] | rw [sq_wh] | rw [sq_set] | rw [sq_mset] | rw [sq_fd] | rw [sq_fdAug] | rw [sq_kput] | rw [sq_kdel] | rw [sq_putSl] | rw [sq_delSl] | rw [sq_forM] | rw [sq_tryN] | rw [sq_try]
  simp (maxSteps := 1000000) (disch := omega) only [ev0, ev1, ev2, ev3, ev4, ev5, ev6, ev7, ev8, ev9, ev10, ev11, ev12, ev13, ev14, ev15, ev16, ev17, ev18, ev19, ev20, ev21, ev22, ev23, ev24, ev25, ev26, ev27, ev28, ev29, ev30, ev31, ev32, ev33, ev34, ev35, ev36, ev37, ev38, ↓pa0, pa0, ↓pa1, pa1, ↓pa2, pa2, ↓pa3, pa3, ↓pa4, pa4, ↓pa5, pa5, ↓pa6, pa6, ↓pa7, pa7, ↓pa8, pa8, ↓pa9, pa9, ↓pa10, pa10, ↓pa11, pa11, ↓pa12, pa12, ↓pa13, pa13, ↓pa14, pa14, ↓reduceIte, Nat.reduceAdd, Nat.reduceLeDiff, Nat.reduceLT, Int.reduceLE, Int.reduceLT, Int.reduceNeg, Int.reduceAdd, Int.reduceSub, Int.reduceMul, Int.reduceDiv, Int.reduceMod, Int.reduceEq, Int.reduceToNat, Nat.reduceEqDiff, gx0, gx1, gx2, gx3, gx4, gx5, gx6, sx0, sx1, sx2, sx3, sx4, sx_app, sx_len, sx_nil]
  repeat (first | rw [sq_frz] | rw [sq_nx] | rw [sq_sq])
  first | rw [sq_a] | rw [sq_o] | rw [sq_x] | rw [sq_if] | rw [sq_ret] | rw [sq_retL] | rw [sq_retO] | rw [sq_app] | rw [sq_ext] | rw [sq_aug] | rw [sq_g] | rw [sq_br] | rw [sq_ct] | rw [sq_raise] | rw [sq_for] | rw [sq_wh] | rw [sq_set] | rw [sq_mset] | rw [sq_fd] | rw [sq_fdAug] | rw [sq_kput] | rw [sq_kdel] | rw [sq_putSl] | rw [sq_delSl] | rw [sq_forM] | rw [sq_tryN] | rw [sq_try]
  simp (maxSteps := 1000000) (disch := omega) only [ev0, ev1, ev2, ev3, ev4, ev5, ev6, ev7, ev8, ev9, ev10, ev11, ev12, ev13, ev14, ev15, ev16, ev17, ev18, ev19, ev20, ev21, ev22, ev23, ev24, ev25, ev26, ev27, ev28, ev29, ev30, ev31, ev32, ev33, ev34, ev35, ev36, ev37, ev38, ↓pa0, pa0, ↓pa1, pa1, ↓pa2, pa2, ↓pa3, pa3, ↓pa4, pa4, ↓pa5, pa5, ↓pa6, pa6, ↓pa7, pa7, ↓pa8, pa8, ↓pa9, pa9, ↓pa10, pa10, ↓pa11, pa11, ↓pa12, pa12, ↓pa13, pa13, ↓pa14, pa14, ↓reduceIte, Nat.reduceAdd, Nat.reduceLeDiff, Nat.reduceLT, Int.reduceLE, Int.reduceLT, Int.reduceNeg, Int.reduceAdd, Int.reduceSub, Int.reduceMul, Int.reduceDiv, Int.reduceMod, Int.reduceEq, Int.reduceToNat, Nat.reduceEqDiff, ↓so, so]
  refine due_ok (s := SK p c0 c1 m0 m1 R) (mm := 4) (m := m0) sk.2.2.2.2.1 r.v k2 hz fun due x18 dw dz de => ?_
  rw [sk_app]
  have gd : (SK p c0 c1 m0 m1 (R ++ [.dct due]))[(SK p c0 c1 m0 m1 R).length]? = some (.dct due) := by
    rw [← sk_app]; simp
  have sz := fun (xc : XC) P => size_ok (xc := xc) (P := P) (s := SK p c0 c1 m0 m1 (R ++ [.dct due])) (n := 0) sk.1 (by omega) (by omega)
  have ne := fun (xc : XC) P => nek_ok (xc := xc) (P := P) (s := SK p c0 c1 m0 m1 (R ++ [.dct due])) (n := 1) sk.2.1 gd (eqK_of r.w dw r.z dz fun k => (r.e k).trans (de k))
  simp (maxSteps := 1000000) (disch := omega) only [ev0, ev1, ev2, ev3, ev4, ev5, ev6, ev7, ev8, ev9, ev10, ev11, ev12, ev13, ev14, ev15, ev16, ev17, ev18, ev19, ev20, ev21, ev22, ev23, ev24, ev25, ev26, ev27, ev28, ev29, ev30, ev31, ev32, ev33, ev34, ev35, ev36, ev37, ev38, eq0, eq1, eq2, eq3, ↓pa0, pa0, ↓pa1, pa1, ↓pa2, pa2, ↓pa3, pa3, ↓pa4, pa4, ↓pa5, pa5, ↓pa6, pa6, ↓pa7, pa7, ↓pa8, pa8, ↓pa9, pa9, ↓pa10, pa10, ↓pa11, pa11, ↓pa12, pa12, ↓pa13, pa13, ↓pa14, pa14, ↓ps0, ↓ps1, ↓ps2, ↓ps3, ↓pw0, ↓pw1, ↓pw2, ↓pw3, ↓pl0, pl0, ↓pl1, pl1, ↓pl2, pl2, ↓reduceIte, Nat.reduceAdd, Nat.reduceLeDiff, Nat.reduceLT, Int.reduceLE, Int.reduceLT, Int.reduceNeg, Int.reduceAdd, Int.reduceSub, Int.reduceMul, Int.reduceDiv, Int.reduceMod, Int.reduceEq, Int.reduceToNat, Nat.reduceEqDiff, ↓sk, ↓sz, ↓ne, ↓e_l_is_int, ↓b_l_is_int, sk, sz, ne, e_l_is_int, b_l_is_int]
  exact hN _ _ _ _
theorem ed1 {p : Int} {c0 c1 m0 m1 : KV} {R : Sto} {a0 a1 a2 a6 a7 a8 a9 a10 a11 a12 a14 a15 a16 a17 a18 : Sl} {T : Sl → Sto → Prop} {N : Dm.Env → Sto → Prop} (hp : 0 ≤ p) (hp2 : p ≤ 16) (r : Rel c1 m1) (hz : m1.length ≤ 90000)
    (hN : ∀ a15 a17 a18 Q, N [a0, a1, a2, .val (.lst [.mref 0, .mref 2]), .val (.lst [.int (p * 65536), .int 65536]), .val (.lst [.mref 4, .mref 5]), a6, a7, a8, a9, a10, a11, a12, .val (.int 1), a14, a15, a16, a17, a18] (SK p c0 c1 m0 m1 Q)) :
    @AtS xd (b_law_5 [a0, a1, a2, .val (.lst [.mref 0, .mref 2]), .val (.lst [.int (p * 65536), .int 65536]), .val (.lst [.mref 4, .mref 5]), a6, a7, a8, a9, a10, a11, a12, .val (.int 1), a14, a15, a16, a17, a18]) (SK p c0 c1 m0 m1 R) N T := by
  obtain ⟨ks, k1, k2⟩ := keys_ok r.v.ki
  have so := fun (xc : XC) PL => srtK_ap (xc := xc) (s := SK p c0 c1 m0 m1 R ++ [.dct []]) (n := 5) (kv := m1) rfl k1 (PL := PL)
  unfold b_law_5
  repeat (first | rw [sq_frz] | rw [sq_nx] | rw [sq_sq])
  first | rw [sq_a] | rw [sq_o] | rw [sq_x] | rw [sq_if] | rw [sq_ret] | rw [sq_retL] | rw [sq_retO] | rw [sq_app] | rw [sq_ext] | rw [sq_aug] | rw [sq_g] | rw [sq_br] | rw [sq_ct] | rw [sq_raise] | rw [sq_for] | rw [sq_wh] | rw [sq_set] | rw [sq_mset] | rw [sq_fd] | rw [sq_fdAug] | rw [sq_kput] | rw [sq_kdel] | rw [sq_putSl] | rw [sq_delSl] | rw [sq_forM] | rw [sq_tryN] | rw [sq_try]
  simp (maxSteps := 1000000) (disch := omega) only [ev0, ev1, ev2, ev3, ev4, ev5, ev6, ev7, ev8, ev9, ev10, ev11, ev12, ev13, ev14, ev15, ev16, ev17, ev18, ev19, ev20, ev21, ev22, ev23, ev24, ev25, ev26, ev27, ev28, ev29, ev30, ev31, ev32, ev33, ev34, ev35, ev36, ev37, ev38, ↓pa0, pa0, ↓pa1, pa1, ↓pa2, pa2, ↓pa3, pa3, ↓pa4, pa4, ↓pa5, pa5, ↓pa6, pa6, ↓pa7, pa7, ↓pa8, pa8, ↓pa9, pa9, ↓pa10, pa10, ↓pa11, pa11, ↓pa12, pa12, ↓pa13, pa13, ↓pa14, pa14, ↓reduceIte, Nat.reduceAdd, Nat.reduceLeDiff, Nat.reduceLT, Int.reduceLE, Int.reduceLT, Int.reduceNeg, Int.reduceAdd, Int.reduceSub, Int.reduceMul, Int.reduceDiv, Int.reduceMod, Int.reduceEq, Int.reduceToNat, Nat.reduceEqDiff]
  repeat (first | rw [sq_frz] | rw [sq_nx] | rw [sq_sq])
  first | rw [sq_a] | rw [sq_o] | rw [sq_x] | rw [sq_if] | rw [sq_ret] | rw [sq_retL] | rw [sq_retO] | rw [sq_app] | rw [sq_ext] | rw [sq_aug] | rw [sq_g] | rw [sq_br] | rw [sq_ct] | rw [sq_raise] | rw [sq_for] | rw [sq_wh] | rw [sq_set] | rw [sq_mset] | rw [sq_fd] | rw [sq_fdAug] | rw [sq_kput] | rw [sq_kdel] | rw [sq_putSl] | rw [sq_delSl] | rw [sq_forM] | rw [sq_tryN] | rw [sq_try]
  simp (maxSteps := 1000000) (disch := omega) only [ev0, ev1, ev2, ev3, ev4, ev5, ev6, ev7, ev8, ev9, ev10, ev11, ev12, ev13, ev14, ev15, ev16, ev17, ev18, ev19, ev20, ev21, ev22, ev23, ev24, ev25, ev26, ev27, ev28, ev29, ev30, ev31, ev32, ev33, ev34, ev35, ev36, ev37, ev38, ↓pa0, pa0, ↓pa1, pa1, ↓pa2, pa2, ↓pa3, pa3, ↓pa4, pa4, ↓pa5, pa5, ↓pa6, pa6, ↓pa7, pa7, ↓pa8, pa8, ↓pa9, pa9, ↓pa10, pa10, ↓pa11, pa11, ↓pa12, pa12, ↓pa13, pa13, ↓pa14, pa14, ↓reduceIte, Nat.reduceAdd, Nat.reduceLeDiff, Nat.reduceLT, Int.reduceLE, Int.reduceLT, Int.reduceNeg, Int.reduceAdd, Int.reduceSub, Int.reduceMul, Int.reduceDiv, Int.reduceMod, Int.reduceEq, Int.reduceToNat, Nat.reduceEqDiff, gx0, gx1, gx2, gx3, gx4, gx5, gx6, sx0, sx1, sx2, sx3, sx4, sx_app, sx_len, sx_nil]
  repeat (first | rw [sq_frz] | rw [sq_nx] | rw [sq_sq])
  first | rw [sq_a] | rw [sq_o] | rw [sq_x] | rw [sq_if] | rw [sq_ret] | rw [sq_retL] | rw [sq_retO] | rw [sq_app] | rw [sq_ext] | rw [sq_aug] | rw [sq_g] | rw [sq_br] | rw [sq_ct] | rw [sq_raise] | rw [sq_for] | rw [sq_wh] | rw [sq_set] | rw [sq_mset] | rw [sq_fd] | rw [sq_fdAug] | rw [sq_kput] | rw [sq_kdel] | rw [sq_putSl] | rw [sq_delSl] | rw [sq_forM] | rw [sq_tryN] | rw [sq_try]
  simp (maxSteps := 1000000) (disch := omega) only [ev0, ev1, ev2, ev3, ev4, ev5, ev6, ev7, ev8, ev9, ev10, ev11, ev12, ev13, ev14, ev15, ev16, ev17, ev18, ev19, ev20, ev21, ev22, ev23, ev24, ev25, ev26, ev27, ev28, ev29, ev30, ev31, ev32, ev33, ev34, ev35, ev36, ev37, ev38, ↓pa0, pa0, ↓pa1, pa1, ↓pa2, pa2, ↓pa3, pa3, ↓pa4, pa4, ↓pa5, pa5, ↓pa6, pa6, ↓pa7, pa7, ↓pa8, pa8, ↓pa9, pa9, ↓pa10, pa10, ↓pa11, pa11, ↓pa12, pa12, ↓pa13, pa13, ↓pa14, pa14, ↓reduceIte, Nat.reduceAdd, Nat.reduceLeDiff, Nat.reduceLT, Int.reduceLE, Int.reduceLT, Int.reduceNeg, Int.reduceAdd, Int.reduceSub, Int.reduceMul, Int.reduceDiv, Int.reduceMod, Int.reduceEq, Int.reduceToNat, Nat.reduceEqDiff, ↓so, so]
  refine due_ok (s := SK p c0 c1 m0 m1 R) (mm := 5) (m := m1) sk.2.2.2.2.2 r.v k2 hz fun due x18 dw dz de => ?_
  rw [sk_app]
  have gd : (SK p c0 c1 m0 m1 (R ++ [.dct due]))[(SK p c0 c1 m0 m1 R).length]? = some (.dct due) := by
    rw [← sk_app]; simp
  have sz := fun (xc : XC) P => size_ok (xc := xc) (P := P) (s := SK p c0 c1 m0 m1 (R ++ [.dct due])) (n := 2) sk.2.2.1 (by omega) (by omega)
  have ne := fun (xc : XC) P => nek_ok (xc := xc) (P := P) (s := SK p c0 c1 m0 m1 (R ++ [.dct due])) (n := 3) sk.2.2.2.1 gd (eqK_of r.w dw r.z dz fun k => (r.e k).trans (de k))
  simp (maxSteps := 1000000) (disch := omega) only [ev0, ev1, ev2, ev3, ev4, ev5, ev6, ev7, ev8, ev9, ev10, ev11, ev12, ev13, ev14, ev15, ev16, ev17, ev18, ev19, ev20, ev21, ev22, ev23, ev24, ev25, ev26, ev27, ev28, ev29, ev30, ev31, ev32, ev33, ev34, ev35, ev36, ev37, ev38, eq0, eq1, eq2, eq3, ↓pa0, pa0, ↓pa1, pa1, ↓pa2, pa2, ↓pa3, pa3, ↓pa4, pa4, ↓pa5, pa5, ↓pa6, pa6, ↓pa7, pa7, ↓pa8, pa8, ↓pa9, pa9, ↓pa10, pa10, ↓pa11, pa11, ↓pa12, pa12, ↓pa13, pa13, ↓pa14, pa14, ↓ps0, ↓ps1, ↓ps2, ↓ps3, ↓pw0, ↓pw1, ↓pw2, ↓pw3, ↓pl0, pl0, ↓pl1, pl1, ↓pl2, pl2, ↓reduceIte, Nat.reduceAdd, Nat.reduceLeDiff, Nat.reduceLT, Int.reduceLE, Int.reduceLT, Int.reduceNeg, Int.reduceAdd, Int.reduceSub, Int.reduceMul, Int.reduceDiv, Int.reduceMod, Int.reduceEq, Int.reduceToNat, Nat.reduceEqDiff, ↓sk, ↓sz, ↓ne, ↓e_l_is_int, ↓b_l_is_int, sk, sz, ne, e_l_is_int, b_l_is_int]
  exact hN _ _ _ _
theorem law_true : ∀ ns : List Int, ns.length ≤ 63 → TrueAt (defV 1 18 b_law [.scr (ns.map .int)] []) := by
  intro ns hl
  obtain ⟨T, hT, hq⟩ := tape_ok hl
  have d0 := dv_ok (T := T) (a := 0) (m := 17) (by decide) (by decide) (by decide)
  have d1 := dv_ok (T := T) (a := 1) (m := 13) (by decide) (by decide) (by decide)
  refine trueAt ?_
  rw [show defV 1 18 b_law [D.scr (List.map D.int ns)] = m_law [.scr (ns.map .int)] from rfl, e_law]
  generalize dv T 0 17 = p at *
  generalize dv T 1 13 = w at *
  obtain ⟨q, rfl⟩ : ∃ q : Nat, w = (q : Int) := ⟨_, (Int.toNat_of_nonneg d1.2.1).symm⟩
  have cm : (CMulW p 65536 ∨ CMul p 65536) = True := eq_true (Or.inr (Or.inr ⟨by decide, by decide⟩))
  unfold b_law
  repeat (first | rw [sq_frz] | rw [sq_nx] | rw [sq_sq])
  first | rw [sq_a] | rw [sq_o] | rw [sq_x] | rw [sq_if] | rw [sq_ret] | rw [sq_retL] | rw [sq_retO] | rw [sq_app] | rw [sq_ext] | rw [sq_aug] | rw [sq_g] | rw [sq_br] | rw [sq_ct] | rw [sq_raise] | rw [sq_for] | rw [sq_wh] | rw [sq_set] | rw [sq_mset] | rw [sq_fd] | rw [sq_fdAug] | rw [sq_kput] | rw [sq_kdel] | rw [sq_putSl] | rw [sq_delSl] | rw [sq_forM] | rw [sq_tryN] | rw [sq_try]
  simp (maxSteps := 1000000) (disch := omega) only [ev0, ev1, ev2, ev3, ev4, ev5, ev6, ev7, ev8, ev9, ev10, ev11, ev12, ev13, ev14, ev15, ev16, ev17, ev18, ev19, ev20, ev21, ev22, ev23, ev24, ev25, ev26, ev27, ev28, ev29, ev30, ev31, ev32, ev33, ev34, ev35, ev36, ev37, ev38, ↓pa0, pa0, ↓pa1, pa1, ↓pa2, pa2, ↓pa3, pa3, ↓pa4, pa4, ↓pa5, pa5, ↓pa6, pa6, ↓pa7, pa7, ↓pa8, pa8, ↓pa9, pa9, ↓pa10, pa10, ↓pa11, pa11, ↓pa12, pa12, ↓pa13, pa13, ↓pa14, pa14, ↓reduceIte, Nat.reduceAdd, Nat.reduceLeDiff, Nat.reduceLT, Int.reduceLE, Int.reduceLT, Int.reduceNeg, Int.reduceAdd, Int.reduceSub, Int.reduceMul, Int.reduceDiv, Int.reduceMod, Int.reduceEq, Int.reduceToNat, Nat.reduceEqDiff, ↓hq, show (ns.map D.int) = dI ns from rfl, hq]
  repeat (first | rw [sq_frz] | rw [sq_nx] | rw [sq_sq])
  first | rw [sq_a] | rw [sq_o] | rw [sq_x] | rw [sq_if] | rw [sq_ret] | rw [sq_retL] | rw [sq_retO] | rw [sq_app] | rw [sq_ext] | rw [sq_aug] | rw [sq_g] | rw [sq_br] | rw [sq_ct] | rw [sq_raise] | rw [sq_for] | rw [sq_wh] | rw [sq_set] | rw [sq_mset] | rw [sq_fd] | rw [sq_fdAug] | rw [sq_kput] | rw [sq_kdel] | rw [sq_putSl] | rw [sq_delSl] | rw [sq_forM] | rw [sq_tryN] | rw [sq_try]
  simp (maxSteps := 1000000) (disch := omega) only [ev0, ev1, ev2, ev3, ev4, ev5, ev6, ev7, ev8, ev9, ev10, ev11, ev12, ev13, ev14, ev15, ev16, ev17, ev18, ev19, ev20, ev21, ev22, ev23, ev24, ev25, ev26, ev27, ev28, ev29, ev30, ev31, ev32, ev33, ev34, ev35, ev36, ev37, ev38, ↓pa0, pa0, ↓pa1, pa1, ↓pa2, pa2, ↓pa3, pa3, ↓pa4, pa4, ↓pa5, pa5, ↓pa6, pa6, ↓pa7, pa7, ↓pa8, pa8, ↓pa9, pa9, ↓pa10, pa10, ↓pa11, pa11, ↓pa12, pa12, ↓pa13, pa13, ↓pa14, pa14, ↓reduceIte, Nat.reduceAdd, Nat.reduceLeDiff, Nat.reduceLT, Int.reduceLE, Int.reduceLT, Int.reduceNeg, Int.reduceAdd, Int.reduceSub, Int.reduceMul, Int.reduceDiv, Int.reduceMod, Int.reduceEq, Int.reduceToNat, Nat.reduceEqDiff, ↓d0.1, d0.1]
  repeat (first | rw [sq_frz] | rw [sq_nx] | rw [sq_sq])
  first | rw [sq_a] | rw [sq_o] | rw [sq_x] | rw [sq_if] | rw [sq_ret] | rw [sq_retL] | rw [sq_retO] | rw [sq_app] | rw [sq_ext] | rw [sq_aug] | rw [sq_g] | rw [sq_br] | rw [sq_ct] | rw [sq_raise] | rw [sq_for] | rw [sq_wh] | rw [sq_set] | rw [sq_mset] | rw [sq_fd] | rw [sq_fdAug] | rw [sq_kput] | rw [sq_kdel] | rw [sq_putSl] | rw [sq_delSl] | rw [sq_forM] | rw [sq_tryN] | rw [sq_try]
  simp (maxSteps := 1000000) (disch := omega) only [ev0, ev1, ev2, ev3, ev4, ev5, ev6, ev7, ev8, ev9, ev10, ev11, ev12, ev13, ev14, ev15, ev16, ev17, ev18, ev19, ev20, ev21, ev22, ev23, ev24, ev25, ev26, ev27, ev28, ev29, ev30, ev31, ev32, ev33, ev34, ev35, ev36, ev37, ev38, ↓pa0, pa0, ↓pa1, pa1, ↓pa2, pa2, ↓pa3, pa3, ↓pa4, pa4, ↓pa5, pa5, ↓pa6, pa6, ↓pa7, pa7, ↓pa8, pa8, ↓pa9, pa9, ↓pa10, pa10, ↓pa11, pa11, ↓pa12, pa12, ↓pa13, pa13, ↓pa14, pa14, ↓reduceIte, Nat.reduceAdd, Nat.reduceLeDiff, Nat.reduceLT, Int.reduceLE, Int.reduceLT, Int.reduceNeg, Int.reduceAdd, Int.reduceSub, Int.reduceMul, Int.reduceDiv, Int.reduceMod, Int.reduceEq, Int.reduceToNat, Nat.reduceEqDiff, gx0, gx1, gx2, gx3, gx4, gx5, gx6, sx0, sx1, sx2, sx3, sx4, sx_app, sx_len, sx_nil, ↓mk_Memory, mk_Memory]
  repeat (first | rw [sq_frz] | rw [sq_nx] | rw [sq_sq])
  first | rw [sq_a] | rw [sq_o] | rw [sq_x] | rw [sq_if] | rw [sq_ret] | rw [sq_retL] | rw [sq_retO] | rw [sq_app] | rw [sq_ext] | rw [sq_aug] | rw [sq_g] | rw [sq_br] | rw [sq_ct] | rw [sq_raise] | rw [sq_for] | rw [sq_wh] | rw [sq_set] | rw [sq_mset] | rw [sq_fd] | rw [sq_fdAug] | rw [sq_kput] | rw [sq_kdel] | rw [sq_putSl] | rw [sq_delSl] | rw [sq_forM] | rw [sq_tryN] | rw [sq_try]
  simp (maxSteps := 1000000) (disch := omega) only [ev0, ev1, ev2, ev3, ev4, ev5, ev6, ev7, ev8, ev9, ev10, ev11, ev12, ev13, ev14, ev15, ev16, ev17, ev18, ev19, ev20, ev21, ev22, ev23, ev24, ev25, ev26, ev27, ev28, ev29, ev30, ev31, ev32, ev33, ev34, ev35, ev36, ev37, ev38, ↓pa0, pa0, ↓pa1, pa1, ↓pa2, pa2, ↓pa3, pa3, ↓pa4, pa4, ↓pa5, pa5, ↓pa6, pa6, ↓pa7, pa7, ↓pa8, pa8, ↓pa9, pa9, ↓pa10, pa10, ↓pa11, pa11, ↓pa12, pa12, ↓pa13, pa13, ↓pa14, pa14, ↓reduceIte, Nat.reduceAdd, Nat.reduceLeDiff, Nat.reduceLT, Int.reduceLE, Int.reduceLT, Int.reduceNeg, Int.reduceAdd, Int.reduceSub, Int.reduceMul, Int.reduceDiv, Int.reduceMod, Int.reduceEq, Int.reduceToNat, Nat.reduceEqDiff, ↓cm, cm]
  repeat (first | rw [sq_frz] | rw [sq_nx] | rw [sq_sq])
  first | rw [sq_a] | rw [sq_o] | rw [sq_x] | rw [sq_if] | rw [sq_ret] | rw [sq_retL] | rw [sq_retO] | rw [sq_app] | rw [sq_ext] | rw [sq_aug] | rw [sq_g] | rw [sq_br] | rw [sq_ct] | rw [sq_raise] | rw [sq_for] | rw [sq_wh] | rw [sq_set] | rw [sq_mset] | rw [sq_fd] | rw [sq_fdAug] | rw [sq_kput] | rw [sq_kdel] | rw [sq_putSl] | rw [sq_delSl] | rw [sq_forM] | rw [sq_tryN] | rw [sq_try]
  simp (maxSteps := 1000000) (disch := omega) only [ev0, ev1, ev2, ev3, ev4, ev5, ev6, ev7, ev8, ev9, ev10, ev11, ev12, ev13, ev14, ev15, ev16, ev17, ev18, ev19, ev20, ev21, ev22, ev23, ev24, ev25, ev26, ev27, ev28, ev29, ev30, ev31, ev32, ev33, ev34, ev35, ev36, ev37, ev38, ↓pa0, pa0, ↓pa1, pa1, ↓pa2, pa2, ↓pa3, pa3, ↓pa4, pa4, ↓pa5, pa5, ↓pa6, pa6, ↓pa7, pa7, ↓pa8, pa8, ↓pa9, pa9, ↓pa10, pa10, ↓pa11, pa11, ↓pa12, pa12, ↓pa13, pa13, ↓pa14, pa14, ↓reduceIte, Nat.reduceAdd, Nat.reduceLeDiff, Nat.reduceLT, Int.reduceLE, Int.reduceLT, Int.reduceNeg, Int.reduceAdd, Int.reduceSub, Int.reduceMul, Int.reduceDiv, Int.reduceMod, Int.reduceEq, Int.reduceToNat, Nat.reduceEqDiff, gx0, gx1, gx2, gx3, gx4, gx5, gx6, sx0, sx1, sx2, sx3, sx4, sx_app, sx_len, sx_nil]
  repeat (first | rw [sq_frz] | rw [sq_nx] | rw [sq_sq])
  first | rw [sq_a] | rw [sq_o] | rw [sq_x] | rw [sq_if] | rw [sq_ret] | rw [sq_retL] | rw [sq_retO] | rw [sq_app] | rw [sq_ext] | rw [sq_aug] | rw [sq_g] | rw [sq_br] | rw [sq_ct] | rw [sq_raise] | rw [sq_for] | rw [sq_wh] | rw [sq_set] | rw [sq_mset] | rw [sq_fd] | rw [sq_fdAug] | rw [sq_kput] | rw [sq_kdel] | rw [sq_putSl] | rw [sq_delSl] | rw [sq_forM] | rw [sq_tryN] | rw [sq_try]
  simp (maxSteps := 1000000) (disch := omega) only [ev0, ev1, ev2, ev3, ev4, ev5, ev6, ev7, ev8, ev9, ev10, ev11, ev12, ev13, ev14, ev15, ev16, ev17, ev18, ev19, ev20, ev21, ev22, ev23, ev24, ev25, ev26, ev27, ev28, ev29, ev30, ev31, ev32, ev33, ev34, ev35, ev36, ev37, ev38, ↓pa0, pa0, ↓pa1, pa1, ↓pa2, pa2, ↓pa3, pa3, ↓pa4, pa4, ↓pa5, pa5, ↓pa6, pa6, ↓pa7, pa7, ↓pa8, pa8, ↓pa9, pa9, ↓pa10, pa10, ↓pa11, pa11, ↓pa12, pa12, ↓pa13, pa13, ↓pa14, pa14, ↓reduceIte, Nat.reduceAdd, Nat.reduceLeDiff, Nat.reduceLT, Int.reduceLE, Int.reduceLT, Int.reduceNeg, Int.reduceAdd, Int.reduceSub, Int.reduceMul, Int.reduceDiv, Int.reduceMod, Int.reduceEq, Int.reduceToNat, Nat.reduceEqDiff]
  repeat (first | rw [sq_frz] | rw [sq_nx] | rw [sq_sq])
  first | rw [sq_a] | rw [sq_o] | rw [sq_x] | rw [sq_if] | rw [sq_ret] | rw [sq_retL] | rw [sq_retO] | rw [sq_app] | rw [sq_ext] | rw [sq_aug] | rw [sq_g] | rw [sq_br] | rw [sq_ct] | rw [sq_raise] | rw [sq_for] | rw [sq_wh] | rw [sq_set] | rw [sq_mset] | rw [sq_fd] | rw [sq_fdAug] | rw [sq_kput] | rw [sq_kdel] | rw [sq_putSl] | rw [sq_delSl] | rw [sq_forM] | rw [sq_tryN] | rw [sq_try]
  simp (maxSteps := 1000000) (disch := omega) only [ev0, ev1, ev2, ev3, ev4, ev5, ev6, ev7, ev8, ev9, ev10, ev11, ev12, ev13, ev14, ev15, ev16, ev17, ev18, ev19, ev20, ev21, ev22, ev23, ev24, ev25, ev26, ev27, ev28, ev29, ev30, ev31, ev32, ev33, ev34, ev35, ev36, ev37, ev38, ↓pa0, pa0, ↓pa1, pa1, ↓pa2, pa2, ↓pa3, pa3, ↓pa4, pa4, ↓pa5, pa5, ↓pa6, pa6, ↓pa7, pa7, ↓pa8, pa8, ↓pa9, pa9, ↓pa10, pa10, ↓pa11, pa11, ↓pa12, pa12, ↓pa13, pa13, ↓pa14, pa14, ↓reduceIte, Nat.reduceAdd, Nat.reduceLeDiff, Nat.reduceLT, Int.reduceLE, Int.reduceLT, Int.reduceNeg, Int.reduceAdd, Int.reduceSub, Int.reduceMul, Int.reduceDiv, Int.reduceMod, Int.reduceEq, Int.reduceToNat, Nat.reduceEqDiff, ↓d1.1, ↓Int.toNat_natCast, d1.1, show ((q : Int) ≤ 100000 ∧ -100000 ≤ (q : Int)) by omega, Int.toNat_natCast]
  refine AtS.mono (atS_range (fun k env st => LI T p k env st) q _ _ ⟨[], [], [], [], [], 0, _, _, _, _, _, _, _, _, _, _, _, _, _, ⟨Wf.nil, fun p h => (by cases h), Wf.nil, fun k => rfl⟩, ⟨Wf.nil, fun p h => (by cases h), Wf.nil, fun k => rfl⟩, Nat.zero_le _, Nat.zero_le _, Nat.zero_le _, Nat.zero_le _, rfl, rfl⟩ fun k env st hk hI => turn_ok d0.2.1 (by omega) (by omega) hI) (fun env st hI => ?_) fun v st h => h
  obtain ⟨c0, c1, m0, m1, R, last, a0, a7, a8, a9, a10, a11, a12, a13, a14, a15, a16, a17, a18, r0, r1, l0, l1, l2, l3, rfl, rfl⟩ := hI
  repeat (first | rw [sq_frz] | rw [sq_nx] | rw [sq_sq])
  first | rw [sq_a] | rw [sq_o] | rw [sq_x] | rw [sq_if] | rw [sq_ret] | rw [sq_retL] | rw [sq_retO] | rw [sq_app] | rw [sq_ext] | rw [sq_aug] | rw [sq_g] | rw [sq_br] | rw [sq_ct] | rw [sq_raise] | rw [sq_for] | rw [sq_wh] | rw [sq_set] | rw [sq_mset] | rw [sq_fd] | rw [sq_fdAug] | rw [sq_kput] | rw [sq_kdel] | rw [sq_putSl] | rw [sq_delSl] | rw [sq_forM] | rw [sq_tryN] | rw [sq_try]
  simp (maxSteps := 1000000) (disch := omega) only [ev0, ev1, ev2, ev3, ev4, ev5, ev6, ev7, ev8, ev9, ev10, ev11, ev12, ev13, ev14, ev15, ev16, ev17, ev18, ev19, ev20, ev21, ev22, ev23, ev24, ev25, ev26, ev27, ev28, ev29, ev30, ev31, ev32, ev33, ev34, ev35, ev36, ev37, ev38, ↓pa0, pa0, ↓pa1, pa1, ↓pa2, pa2, ↓pa3, pa3, ↓pa4, pa4, ↓pa5, pa5, ↓pa6, pa6, ↓pa7, pa7, ↓pa8, pa8, ↓pa9, pa9, ↓pa10, pa10, ↓pa11, pa11, ↓pa12, pa12, ↓pa13, pa13, ↓pa14, pa14, ↓reduceIte, Nat.reduceAdd, Nat.reduceLeDiff, Nat.reduceLT, Int.reduceLE, Int.reduceLT, Int.reduceNeg, Int.reduceAdd, Int.reduceSub, Int.reduceMul, Int.reduceDiv, Int.reduceMod, Int.reduceEq, Int.reduceToNat, Nat.reduceEqDiff, show (2 : Int) ≤ 100000 by omega, show (-100000 : Int) ≤ 2 by omega, show ((2 : Int)).toNat = 2 from rfl]
  refine AtS.mono (atS_range (fun k env st => ∃ (b13 b15 b17 b18 : Sl) (Q : Sto), env = [a0, .val (.lst (dI T)), .val (.int p), .val (.lst [.mref 0, .mref 2]), .val (.lst [.int (p * 65536), .int 65536]), .val (.lst [.mref 4, .mref 5]), .val (.int last), a7, a8, a9, a10, a11, a12, b13, a14, b15, a16, b17, b18] ∧ st = SK p c0 c1 m0 m1 Q) 2 _ _ ⟨_, _, _, _, _, rfl, rfl⟩ fun k env st hk hI => ?_) (fun env st hI => ?_) fun v st h => h
  · obtain ⟨b13, b15, b17, b18, Q, rfl, rfl⟩ := hI
    rcases (by omega : k = 0 ∨ k = 1) with rfl | rfl
    · exact ed0 d0.2.1 (by omega) r0 (by omega) fun _ _ _ _ => ⟨_, _, _, _, _, rfl, rfl⟩
    · exact ed1 d0.2.1 (by omega) r1 (by omega) fun _ _ _ _ => ⟨_, _, _, _, _, rfl, rfl⟩
  · obtain ⟨b13, b15, b17, b18, Q, rfl, rfl⟩ := hI
    simp (maxSteps := 1000000) (disch := omega) only [ev0, ev1, ev2, ev3, ev4, ev5, ev6, ev7, ev8, ev9, ev10, ev11, ev12, ev13, ev14, ev15, ev16, ev17, ev18, ev19, ev20, ev21, ev22, ev23, ev24, ev25, ev26, ev27, ev28, ev29, ev30, ev31, ev32, ev33, ev34, ev35, ev36, ev37, ev38, eq0, eq1, eq2, eq3, ↓pa0, pa0, ↓pa1, pa1, ↓pa2, pa2, ↓pa3, pa3, ↓pa4, pa4, ↓pa5, pa5, ↓pa6, pa6, ↓pa7, pa7, ↓pa8, pa8, ↓pa9, pa9, ↓pa10, pa10, ↓pa11, pa11, ↓pa12, pa12, ↓pa13, pa13, ↓pa14, pa14, ↓ps0, ↓ps1, ↓ps2, ↓ps3, ↓pw0, ↓pw1, ↓pw2, ↓pw3, ↓pl0, pl0, ↓pl1, pl1, ↓pl2, pl2, ↓reduceIte, Nat.reduceAdd, Nat.reduceLeDiff, Nat.reduceLT, Int.reduceLE, Int.reduceLT, Int.reduceNeg, Int.reduceAdd, Int.reduceSub, Int.reduceMul, Int.reduceDiv, Int.reduceMod, Int.reduceEq, Int.reduceToNat, Nat.reduceEqDiff]
end Lk40
set_option Elab.async false
set_option linter.all false
set_option maxRecDepth 100000
set_option maxHeartbeats 4000000

open PySem
namespace Lk40
open PySem L2 Evl RZ Wm Dm
def topS (i : Nat) : Stmt := PySem.Challenge.pw_wasmhost_k40_memory_is_an_array.main.body.getD i (.Pass ⟨0, 0, 0, 0⟩)
abbrev s_l_tape : Stmt := topS 4
abbrev s_l_draw : Stmt := topS 5
abbrev s_l_is_int : Stmt := topS 6
abbrev s_l_same_ints : Stmt := topS 7
abbrev s_l_place : Stmt := topS 8
abbrev s_l_byte : Stmt := topS 9
abbrev s_Memory_read : Stmt := (clsBodyW (topS 2)).getD 2 (.Pass ⟨0, 0, 0, 0⟩)
abbrev s_l_window : Stmt := topS 10
abbrev s_Memory_write : Stmt := (clsBodyW (topS 2)).getD 3 (.Pass ⟨0, 0, 0, 0⟩)
abbrev s_Memory_size : Stmt := (clsBodyW (topS 2)).getD 1 (.Pass ⟨0, 0, 0, 0⟩)
abbrev s_Memory___init__ : Stmt := (clsBodyW (topS 2)).getD 0 (.Pass ⟨0, 0, 0, 0⟩)
abbrev s_law : Stmt := topS 11
structure Tx (w : World) (K : PySem.W.Frag) (mg : Str → Option Value) (ad : Nat → Addr) : Prop where
  b_bool : mg "bool" = none
  b_enumerate : mg "enumerate" = none
  b_int : mg "int" = none
  b_isinstance : mg "isinstance" = none
  b_len : mg "len" = none
  b_list : mg "list" = none
  b_max : mg "max" = none
  b_min : mg "min" = none
  b_range : mg "range" = none
  b_sorted : mg "sorted" = none
  g_PAGE : ∃ v u, mg "PAGE" = some u ∧ RelV v u ∧ ∀ G, Rep K w ad G v d_PAGE
  I_Memory : InsC K (ad 3002) 3002
section
variable {P : Program} {w : World} {K : PySem.W.Frag} {mg : Str → Option Value} {base : Heap} {ad : Nat → Addr}
theorem sc_l_tape : FnScope ["_law_script", "_law_tape_here", "_law_cell", "_law_number", "_law_k", "_law_first"] ["_law_script"] (defScope s_l_tape) := ⟨rfl, rfl, rfl, by decide +kernel, rfl, by decide +kernel, by decide +kernel⟩
theorem ok_l_tape {f : Addr} {fd : FuncData} (F : Fun K "_law_tape" "_law_tape" s_l_tape f fd) (T : Tx w K mg ad) : FnOk P w K mg base (L2N.CX P w) 1 f fd ["_law_script"] (SpD ⟨K, w, ad⟩ m_l_tape) := by
  refine ok_defV (l := 0) (n := 1) (k := 5) (b := b_l_tape) F sc_l_tape rfl rfl (fun cdv A outer s H E hr => ⟨_, (pss_cons (ps_set (i := 1) sc_l_tape.nd rfl (Or.inl rfl) (pe_lst pa_nil)) (pss_cons (ps_for (passes_of rfl) rfl (pi_listK (K := K) rfl (pv 0)) (pg_name (i := 2) sc_l_tape.nd rfl (Or.inl rfl)) (pss_cons (ps_set (i := 3) sc_l_tape.nd rfl (Or.inl rfl) (pe_op or_mul pe_int (pe_callTy (r := rInt1) call_int1 (by rfl) T.b_int (by decide +kernel) (pa_cons (pv 2) pa_nil)))) (pss_cons (ps_if (pt_cmpR or_lt (pv 3) pe_int (nomark _)) (pss_cons (ps_set (i := 3) sc_l_tape.nd rfl (Or.inl rfl) (pe_op op_sub (pe_un un_neg pe_int) (pv 3))) pss_nil) pss_nil) (pss_cons (ps_if (pt_cmpR or_ge (pv 3) (pe_op op_pow pe_int pe_int) (nomark _)) (pss_cons (ps_for (passes_of rfl) rfl (pi_range1 (by rfl) T.b_range (pa_cons pe_int pa_nil)) (pg_name (i := 4) sc_l_tape.nd rfl (Or.inl rfl)) (pss_cons (ps_if (pt_cmpR or_gt (pv 3) pe_int (nomark _)) (pss_cons (ps_expr (pe_bm PySem.F.plainAttrs_list PySem.F.slot_list_append PySem.F.type_list_append mt_append (pv 1) (pa_cons (pe_op op_mod (pe_callTy (r := rInt1) call_int1 (by rfl) T.b_int (by decide +kernel) (pa_cons (pv 3) pa_nil)) pe_int) pa_nil))) (pss_cons (ps_set (i := 3) sc_l_tape.nd rfl (Or.inl rfl) (pe_op op_fdivW (pv 3) pe_int)) pss_nil)) pss_nil) pss_nil)) pss_nil) (pss_cons (ps_for (passes_of rfl) rfl (pi_range1 (by rfl) T.b_range (pa_cons pe_int pa_nil)) (pg_name (i := 4) sc_l_tape.nd rfl (Or.inl rfl)) (pss_cons (ps_set (i := 5) sc_l_tape.nd rfl (Or.inl rfl) (pe_op op_mod (pe_callTy (r := rInt1) call_int1 (by rfl) T.b_int (by decide +kernel) (pa_cons (pe_op (r := Dm.rAdd K) or_add (pe_op (r := Dm.rAdd K) or_add (pe_op or_mul (pv 3) pe_int) (pe_op or_mul (pv 4) pe_int)) pe_int) pa_nil)) pe_int)) (pss_cons (ps_expr (pe_bm PySem.F.plainAttrs_list PySem.F.slot_list_append PySem.F.type_list_append mt_append (pv 1) (pa_cons (pe_op op_mod (pe_callTy (r := rInt1) call_int1 (by rfl) T.b_int (by decide +kernel) (pa_cons (pe_op (r := Dm.rAdd K) or_add (pe_op or_mul (pv 5) pe_int) (pe_op op_fdivW (pv 5) pe_int)) pa_nil)) pe_int) pa_nil))) pss_nil))) pss_nil)) pss_nil)))) (pss_cons (ps_ret (pv 1)) pss_nil))), fun xo => ?_⟩)
  exact (cs_seq (cs_o (cn_lst ca_nil)) (cs_seq (cs_for (ci_list ce_var) cg_name (cs_seq (cs_a (ce_B od_mul (ce_c fun _ => .int _) (ce_F cd_int (ca_cons ce_var ca_nil)))) (cs_seq (cs_if (ct_test (ce_B od_lt ce_var (ce_c fun _ => .int _))) (cs_seq (cs_a (ce_B od_sub (ce_neg (ce_c fun _ => .int _)) ce_var)) cs_nx) cs_nx) (cs_seq (cs_if (ct_test (ce_B od_ge ce_var (ce_B od_pow (ce_c fun _ => .int _) (ce_c fun _ => .int _)))) (cs_seq (cs_for (ci_r1 (ca_cons (ce_c fun _ => .int _) ca_nil)) cg_name (cs_seq (cs_if (ct_test (ce_B od_gt ce_var (ce_c fun _ => .int _))) (cs_seq (cs_app rfl (ce_B od_mod (ce_F cd_int (ca_cons ce_var ca_nil)) (ce_c fun _ => .int _))) (cs_seq (cs_a (ce_B od_div ce_var (ce_c fun _ => .int _))) cs_nx)) cs_nx) cs_nx)) cs_nx) (cs_seq (cs_for (ci_r1 (ca_cons (ce_c fun _ => .int _) ca_nil)) cg_name (cs_seq (cs_a (ce_B od_mod (ce_F cd_int (ca_cons (ce_B od_add (ce_B od_add (ce_B od_mul ce_var (ce_c fun _ => .int _)) (ce_B od_mul ce_var (ce_c fun _ => .int _))) (ce_c fun _ => .int _)) ca_nil)) (ce_c fun _ => .int _))) (cs_seq (cs_app rfl (ce_B od_mod (ce_F cd_int (ca_cons (ce_B od_add (ce_B od_mul ce_var (ce_c fun _ => .int _)) (ce_B od_div ce_var (ce_c fun _ => .int _))) ca_nil)) (ce_c fun _ => .int _))) cs_nx))) cs_nx)) cs_nx)))) (cs_seq (cs_frz 1 (cs_ret ce_var)) cs_nx)))
theorem sc_l_draw : FnScope ["_law_tape_here", "_law_at", "_law_many", "_law_number"] ["_law_tape_here", "_law_at", "_law_many"] (defScope s_l_draw) := ⟨rfl, rfl, rfl, by decide +kernel, rfl, by decide +kernel, by decide +kernel⟩
theorem ok_l_draw {f : Addr} {fd : FuncData} (F : Fun K "_law_draw" "_law_draw" s_l_draw f fd) (T : Tx w K mg ad) : FnOk P w K mg base (L2N.CX P w) 1 f fd ["_law_tape_here", "_law_at", "_law_many"] (SpD ⟨K, w, ad⟩ m_l_draw) := by
  refine ok_defV (l := 0) (n := 3) (k := 1) (b := b_l_draw) F sc_l_draw rfl rfl (fun cdv A outer s H E hr => ⟨_, (pss_cons (ps_if (pt_cmpR or_lt (pv 1) (pe_callB (r := rLenX K) cr_len (by rfl) T.b_len (by decide +kernel) (pa_cons (pv 0) pa_nil)) (nomark _)) (pss_cons (ps_ret (pe_op op_mod (pe_callTy (r := rInt1) call_int1 (by rfl) T.b_int (by decide +kernel) (pa_cons (pe_ix (r := rIxX K w) ix_all (pv 0) (pv 1) (fun _ _ => rfl)) pa_nil)) (pv 2))) pss_nil) pss_nil) (pss_cons (ps_set (i := 3) sc_l_draw.nd rfl (Or.inl rfl) pe_int) (pss_cons (ps_if (pt_cmpR or_gt (pe_callB (r := rLenX K) cr_len (by rfl) T.b_len (by decide +kernel) (pa_cons (pv 0) pa_nil)) pe_int (nomark _)) (pss_cons (ps_set (i := 3) sc_l_draw.nd rfl (Or.inl rfl) (pe_ix (r := rIxX K w) ix_all (pv 0) (pe_op op_mod (pe_callTy (r := rInt1) call_int1 (by rfl) T.b_int (by decide +kernel) (pa_cons (pv 1) pa_nil)) (pe_callB (r := rLenX K) cr_len (by rfl) T.b_len (by decide +kernel) (pa_cons (pv 0) pa_nil))) (fun _ _ => rfl))) pss_nil) pss_nil) (pss_cons (ps_ret (pe_op op_mod (pe_op op_mod (pe_callTy (r := rInt1) call_int1 (by rfl) T.b_int (by decide +kernel) (pa_cons (pe_op (r := Dm.rAdd K) or_add (pe_op or_mul (pe_op or_mul (pe_op (r := Dm.rAdd K) or_add (pv 3) (pv 1)) (pe_op (r := Dm.rAdd K) or_add (pv 1) pe_int)) pe_int) (pe_op or_mul (pv 1) pe_int)) pa_nil)) pe_int) (pv 2))) pss_nil)))), fun xo => ?_⟩)
  exact (cs_seq (cs_if (ct_test (ce_B od_lt ce_var (ce_F cd_len (ca_cons ce_var ca_nil)))) (cs_seq (cs_ret (ce_B od_mod (ce_F cd_int (ca_cons (ce_B od_ix ce_var ce_var) ca_nil)) ce_var)) cs_nx) cs_nx) (cs_seq (cs_a (ce_c fun _ => .int _)) (cs_seq (cs_if (ct_test (ce_B od_gt (ce_F cd_len (ca_cons ce_var ca_nil)) (ce_c fun _ => .int _))) (cs_seq (cs_a (ce_B od_ix ce_var (ce_B od_mod (ce_F cd_int (ca_cons ce_var ca_nil)) (ce_F cd_len (ca_cons ce_var ca_nil))))) cs_nx) cs_nx) (cs_seq (cs_ret (ce_B od_mod (ce_B od_mod (ce_F cd_int (ca_cons (ce_B od_add (ce_B od_mul (ce_B od_mul (ce_B od_add ce_var ce_var) (ce_B od_add ce_var (ce_c fun _ => .int _))) (ce_c fun _ => .int _)) (ce_B od_mul ce_var (ce_c fun _ => .int _))) ca_nil)) (ce_c fun _ => .int _)) ce_var)) cs_nx))))
theorem sc_l_is_int : FnScope ["_law_actual"] ["_law_actual"] (defScope s_l_is_int) := ⟨rfl, rfl, rfl, by decide +kernel, rfl, by decide +kernel, by decide +kernel⟩
theorem ok_l_is_int {f : Addr} {fd : FuncData} (F : Fun K "_law_is_int" "_law_is_int" s_l_is_int f fd) (T : Tx w K mg ad) : FnOk P w K mg base (L2N.CX P w) 1 f fd ["_law_actual"] (SpD ⟨K, w, ad⟩ m_l_is_int) := by
  refine ok_defV (l := 0) (n := 1) (k := 0) (b := b_l_is_int) F sc_l_is_int rfl rfl (fun cdv A outer s H E hr => ⟨_, (pss_cons (ps_ret (pe_and (pe_callB (r := rIsi K) call_isi (by rfl) T.b_isinstance (by decide +kernel) (pa_cons (pv 0) (pa_cons (pe_bltn (v := .ty "int") (by rfl) T.b_int (by decide +kernel) rfl) pa_nil))) (pe_one (pe_not (pe_callB (r := rIsi K) call_isi (by rfl) T.b_isinstance (by decide +kernel) (pa_cons (pv 0) (pa_cons (pe_bltn (v := .ty "bool") (by rfl) T.b_bool (by decide +kernel) rfl) pa_nil))))))) pss_nil), fun xo => ?_⟩)
  exact (cs_seq (cs_ret (ce_and (ce_isi .int ce_var) (ce_not (ce_isi .bool ce_var)))) cs_nx)
theorem sc_l_same_ints : FnScope ["_law_actual", "_law_due", "_law_k"] ["_law_actual", "_law_due"] (defScope s_l_same_ints) := ⟨rfl, rfl, rfl, by decide +kernel, rfl, by decide +kernel, by decide +kernel⟩
theorem ok_l_same_ints {f : Addr} {fd : FuncData} {d_l_is_int : FuncData} (F : Fun K "_law_same_ints" "_law_same_ints" s_l_same_ints f fd) (T : Tx w K mg ad) (O_l_is_int : DfX P w K mg base 1 "_law_is_int" (ad 2) d_l_is_int ["_law_actual"] (SpD ⟨K, w, ad⟩ m_l_is_int)) : FnOk P w K mg base (L2N.CX P w) 2 f fd ["_law_actual", "_law_due"] (SpD ⟨K, w, ad⟩ m_l_same_ints) := by
  refine ok_defV (l := 1) (n := 2) (k := 1) (b := b_l_same_ints) F sc_l_same_ints rfl rfl (fun cdv A outer s H E hr => ⟨_, (pss_cons (ps_if (PW.pt (pw_or (pt_not (pt_val (pe_callB (r := rIsi K) call_isi (by rfl) T.b_isinstance (by decide +kernel) (pa_cons (pv 0) (pa_cons (pe_bltn (v := .ty "list") (by rfl) T.b_list (by decide +kernel) rfl) pa_nil))))) (pw_or1 (pt_cmpR (r := rNeX K) (or_ne hr.units) (pe_callB (r := rLenX K) cr_len (by rfl) T.b_len (by decide +kernel) (pa_cons (pv 0) pa_nil)) (pe_callB (r := rLenX K) cr_len (by rfl) T.b_len (by decide +kernel) (pa_cons (pv 1) pa_nil)) (nomark _))))) (pss_cons (ps_ret pe_bl) pss_nil) pss_nil) (pss_cons (ps_for (passes_of rfl) rfl (pi_range1 (by rfl) T.b_range (pa_cons (pe_callB (r := rLenX K) cr_len (by rfl) T.b_len (by decide +kernel) (pa_cons (pv 1) pa_nil)) pa_nil)) (pg_name (i := 2) sc_l_same_ints.nd rfl (Or.inl rfl)) (pss_cons (ps_if (PW.pt (pw_or (pt_not (pt_val (clS O_l_is_int (hr.mono (by decide)) rfl (fun σ => L2N.passAt (L2N.takes_of rfl rfl rfl rfl) σ) (pa_cons (pe_ix (r := rIxX K w) ix_all (pv 0) (pv 2) (fun _ _ => rfl)) pa_nil)))) (pw_or1 (pt_cmpR (r := rNeX K) (or_ne hr.units) (pe_ix (r := rIxX K w) ix_all (pv 0) (pv 2) (fun _ _ => rfl)) (pe_ix (r := rIxX K w) ix_all (pv 1) (pv 2) (fun _ _ => rfl)) (nomark _))))) (pss_cons (ps_ret pe_bl) pss_nil) pss_nil) pss_nil)) (pss_cons (ps_ret pe_bl) pss_nil))), fun xo => ?_⟩)
  exact (cs_seq (cs_if (ct_or (ct_not (ct_B (ce_isiM .list ce_var))) (ct_test (ce_B od_ne (ce_F cd_len (ca_cons ce_var ca_nil)) (ce_F cd_len (ca_cons ce_var ca_nil))))) (cs_seq (cs_ret (ce_c fun _ => .bl _)) cs_nx) cs_nx) (cs_seq (cs_for (ci_r1 (ca_cons (ce_F cd_len (ca_cons ce_var ca_nil)) ca_nil)) cg_name (cs_seq (cs_if (ct_or (ct_not (ct_B (ce_call (ca_cons (ce_B od_ix ce_var ce_var) ca_nil)))) (ct_test (ce_B od_ne (ce_B od_ix ce_var ce_var) (ce_B od_ix ce_var ce_var)))) (cs_seq (cs_ret (ce_c fun _ => .bl _)) cs_nx) cs_nx) cs_nx)) (cs_seq (cs_ret (ce_c fun _ => .bl _)) cs_nx)))
theorem sc_l_place : FnScope ["_law_tape_here", "_law_at", "_law_most", "_law_last", "_law_pick"] ["_law_tape_here", "_law_at", "_law_most", "_law_last"] (defScope s_l_place) := ⟨rfl, rfl, rfl, by decide +kernel, rfl, by decide +kernel, by decide +kernel⟩
theorem ok_l_place {f : Addr} {fd : FuncData} {d_l_draw : FuncData} (F : Fun K "_law_place" "_law_place" s_l_place f fd) (T : Tx w K mg ad) (O_l_draw : DfX P w K mg base 1 "_law_draw" (ad 1) d_l_draw ["_law_tape_here", "_law_at", "_law_many"] (SpD ⟨K, w, ad⟩ m_l_draw)) : FnOk P w K mg base (L2N.CX P w) 2 f fd ["_law_tape_here", "_law_at", "_law_most", "_law_last"] (SpD ⟨K, w, ad⟩ m_l_place) := by
  refine ok_defV (l := 1) (n := 4) (k := 1) (b := b_l_place) F sc_l_place rfl rfl (fun cdv A outer s H E hr => ⟨_, (pss_cons (ps_set (i := 4) sc_l_place.nd rfl (Or.inl rfl) (clS O_l_draw (hr.mono (by decide)) rfl (fun σ => L2N.passAt (L2N.takes_of rfl rfl rfl rfl) σ) (pa_cons (pv 0) (pa_cons (pv 1) (pa_cons pe_int pa_nil))))) (pss_cons (ps_if (pt_cmpR (r := rEqX K) (or_eq hr.units) (pv 4) pe_int (nomark _)) (pss_cons (ps_ret pe_int) pss_nil) pss_nil) (pss_cons (ps_if (pt_cmpR (r := rEqX K) (or_eq hr.units) (pv 4) pe_int (nomark _)) (pss_cons (ps_ret (pv 2)) pss_nil) pss_nil) (pss_cons (ps_if (pt_cmpR (r := rEqX K) (or_eq hr.units) (pv 4) pe_int (nomark _)) (pss_cons (ps_ret (pe_callB (r := rMin2) (call_min2 rfl) (by rfl) T.b_min (by decide +kernel) (pa_cons (pv 2) (pa_cons (pe_op op_sub pe_int pe_int) pa_nil)))) pss_nil) pss_nil) (pss_cons (ps_if (pt_cmpR or_lt (pv 4) pe_int (nomark _)) (pss_cons (ps_ret (pe_callB (r := rMax2) (call_max2 rfl) (by rfl) T.b_max (by decide +kernel) (pa_cons pe_int (pa_cons (pe_callB (r := rMin2) (call_min2 rfl) (by rfl) T.b_min (by decide +kernel) (pa_cons (pv 2) (pa_cons (pe_op op_sub (pe_op (r := Dm.rAdd K) or_add (pv 3) (clS O_l_draw (hr.mono (by decide)) rfl (fun σ => L2N.passAt (L2N.takes_of rfl rfl rfl rfl) σ) (pa_cons (pv 0) (pa_cons (pe_op (r := Dm.rAdd K) or_add (pv 1) pe_int) (pa_cons pe_int pa_nil))))) pe_int) pa_nil))) pa_nil)))) pss_nil) pss_nil) (pss_cons (ps_ret (pe_op op_mod (pe_callTy (r := rInt1) call_int1 (by rfl) T.b_int (by decide +kernel) (pa_cons (pe_op (r := Dm.rAdd K) or_add (pe_op or_mul (clS O_l_draw (hr.mono (by decide)) rfl (fun σ => L2N.passAt (L2N.takes_of rfl rfl rfl rfl) σ) (pa_cons (pv 0) (pa_cons (pe_op (r := Dm.rAdd K) or_add (pv 1) pe_int) (pa_cons pe_int pa_nil)))) pe_int) (clS O_l_draw (hr.mono (by decide)) rfl (fun σ => L2N.passAt (L2N.takes_of rfl rfl rfl rfl) σ) (pa_cons (pv 0) (pa_cons (pe_op (r := Dm.rAdd K) or_add (pv 1) pe_int) (pa_cons pe_int pa_nil))))) pa_nil)) (pe_op (r := Dm.rAdd K) or_add (pv 2) pe_int))) pss_nil)))))), fun xo => ?_⟩)
  exact (cs_seq (cs_a (ce_call (ca_cons ce_var (ca_cons ce_var (ca_cons (ce_c fun _ => .int _) ca_nil))))) (cs_seq (cs_if (ct_test (ce_B od_eq ce_var (ce_c fun _ => .int _))) (cs_seq (cs_ret (ce_c fun _ => .int _)) cs_nx) cs_nx) (cs_seq (cs_if (ct_test (ce_B od_eq ce_var (ce_c fun _ => .int _))) (cs_seq (cs_ret ce_var) cs_nx) cs_nx) (cs_seq (cs_if (ct_test (ce_B od_eq ce_var (ce_c fun _ => .int _))) (cs_seq (cs_ret (ce_F cd_min2 (ca_cons ce_var (ca_cons (ce_B od_sub (ce_c fun _ => .int _) (ce_c fun _ => .int _)) ca_nil)))) cs_nx) cs_nx) (cs_seq (cs_if (ct_test (ce_B od_lt ce_var (ce_c fun _ => .int _))) (cs_seq (cs_ret (ce_F cd_max2 (ca_cons (ce_c fun _ => .int _) (ca_cons (ce_F cd_min2 (ca_cons ce_var (ca_cons (ce_B od_sub (ce_B od_add ce_var (ce_call (ca_cons ce_var (ca_cons (ce_B od_add ce_var (ce_c fun _ => .int _)) (ca_cons (ce_c fun _ => .int _) ca_nil))))) (ce_c fun _ => .int _)) ca_nil))) ca_nil)))) cs_nx) cs_nx) (cs_seq (cs_ret (ce_B od_mod (ce_F cd_int (ca_cons (ce_B od_add (ce_B od_mul (ce_call (ca_cons ce_var (ca_cons (ce_B od_add ce_var (ce_c fun _ => .int _)) (ca_cons (ce_c fun _ => .int _) ca_nil)))) (ce_c fun _ => .int _)) (ce_call (ca_cons ce_var (ca_cons (ce_B od_add ce_var (ce_c fun _ => .int _)) (ca_cons (ce_c fun _ => .int _) ca_nil))))) ca_nil)) (ce_B od_add ce_var (ce_c fun _ => .int _)))) cs_nx))))))
theorem sc_l_byte : FnScope ["_law_tape_here", "_law_at", "_law_number"] ["_law_tape_here", "_law_at"] (defScope s_l_byte) := ⟨rfl, rfl, rfl, by decide +kernel, rfl, by decide +kernel, by decide +kernel⟩
theorem ok_l_byte {f : Addr} {fd : FuncData} {d_l_draw : FuncData} (F : Fun K "_law_byte" "_law_byte" s_l_byte f fd) (T : Tx w K mg ad) (O_l_draw : DfX P w K mg base 1 "_law_draw" (ad 1) d_l_draw ["_law_tape_here", "_law_at", "_law_many"] (SpD ⟨K, w, ad⟩ m_l_draw)) : FnOk P w K mg base (L2N.CX P w) 2 f fd ["_law_tape_here", "_law_at"] (SpD ⟨K, w, ad⟩ m_l_byte) := by
  refine ok_defV (l := 1) (n := 2) (k := 1) (b := b_l_byte) F sc_l_byte rfl rfl (fun cdv A outer s H E hr => ⟨_, (pss_cons (ps_set (i := 2) sc_l_byte.nd rfl (Or.inl rfl) (clS O_l_draw (hr.mono (by decide)) rfl (fun σ => L2N.passAt (L2N.takes_of rfl rfl rfl rfl) σ) (pa_cons (pv 0) (pa_cons (pv 1) (pa_cons pe_int pa_nil))))) (pss_cons (ps_if (pt_cmpR or_lt (pv 2) pe_int (nomark _)) (pss_cons (ps_ret (pv 2)) pss_nil) pss_nil) (pss_cons (ps_if (pt_cmpR or_lt (pv 2) pe_int (nomark _)) (pss_cons (ps_ret pe_int) pss_nil) pss_nil) (pss_cons (ps_ret (pe_op op_mod (pe_callTy (r := rInt1) call_int1 (by rfl) T.b_int (by decide +kernel) (pa_cons (pv 2) pa_nil)) pe_int)) pss_nil)))), fun xo => ?_⟩)
  exact (cs_seq (cs_a (ce_call (ca_cons ce_var (ca_cons ce_var (ca_cons (ce_c fun _ => .int _) ca_nil))))) (cs_seq (cs_if (ct_test (ce_B od_lt ce_var (ce_c fun _ => .int _))) (cs_seq (cs_ret ce_var) cs_nx) cs_nx) (cs_seq (cs_if (ct_test (ce_B od_lt ce_var (ce_c fun _ => .int _))) (cs_seq (cs_ret (ce_c fun _ => .int _)) cs_nx) cs_nx) (cs_seq (cs_ret (ce_B od_mod (ce_F cd_int (ca_cons ce_var ca_nil)) (ce_c fun _ => .int _))) cs_nx))))
theorem sc_Memory_read : FnScope ["self", "at", "count", "k"] ["self", "at", "count"] (defScope s_Memory_read) := ⟨rfl, rfl, rfl, by decide +kernel, rfl, by decide +kernel, by decide +kernel⟩
theorem ok_Memory_read {f : Addr} {fd : FuncData} (F : Fun K "read" "Memory.read" s_Memory_read f fd) (T : Tx w K mg ad) : FnOk P w K mg base (L2N.CX P w) 1 f fd ["self", "at", "count"] (SpD ⟨K, w, ad⟩ m_Memory_read) := by
  refine ok_defV (l := 0) (n := 3) (k := 1) (b := b_Memory_read) F sc_Memory_read rfl rfl (fun cdv A outer s H E hr => ⟨_, (pss_cons (ps_ret (pe_lc (own := [("k", 3)]) (tt := tYes) rfl sc_Memory_read.nd (pi_range1 (by rfl) T.b_range (pa_cons (pv 2) pa_nil)) (blkOk_by (N := ["self", "at", "count", "k"]) (sc := defScope s_Memory_read) (by decide +kernel)) (fun _ _ _ _ _ => (pg_name (i := 3) sc_Memory_read.nd rfl (Or.inl rfl))) (fun _ _ _ _ _ => pts_nil) (fun _ _ _ _ _ => (pe_dget2 (hu1 hr) (pe_fldK K (pv 0) rfl) (pe_op (r := Dm.rAdd K) or_add (pv 1) (pv 3)) pe_int ⟨rfl, rfl, rfl, rfl⟩)))) pss_nil), fun xo => ?_⟩)
  exact (cs_seq (cs_ret (ce_cell (cn_lc (ci_r1 (ca_cons ce_var ca_nil)) cg_name (by decide) ct_yes (ce_get2 (ce_fld T.I_Memory rfl ce_var) (ce_B od_add ce_var ce_var) (ce_c fun _ => .int _))))) cs_nx)
theorem sc_l_window : FnScope ["_law_memory", "_law_model", "_law_at", "_law_count", "_law_size", "_law_first", "_law_last", "_law_actual", "_law_due", "_law_place_here"] ["_law_memory", "_law_model", "_law_at", "_law_count", "_law_size"] (defScope s_l_window) := ⟨rfl, rfl, rfl, by decide +kernel, rfl, by decide +kernel, by decide +kernel⟩
theorem ok_l_window {f : Addr} {fd : FuncData} {d_l_same_ints : FuncData} {d_Memory_read : FuncData} (F : Fun K "_law_window" "_law_window" s_l_window f fd) (T : Tx w K mg ad) (O_l_same_ints : DfX P w K mg base 2 "_law_same_ints" (ad 3) d_l_same_ints ["_law_actual", "_law_due"] (SpD ⟨K, w, ad⟩ m_l_same_ints)) (O_Memory_read : DfM P w K mg base 1 (ad 3002) "read" (ad 10) d_Memory_read ["self", "at", "count"] (SpD ⟨K, w, ad⟩ m_Memory_read)) : FnOk P w K mg base (L2N.CX P w) 3 f fd ["_law_memory", "_law_model", "_law_at", "_law_count", "_law_size"] (SpD ⟨K, w, ad⟩ m_l_window) := by
  refine ok_defV (l := 2) (n := 5) (k := 5) (b := b_l_window) F sc_l_window rfl rfl (fun cdv A outer s H E hr => ⟨_, (pss_cons (ps_set (i := 5) sc_l_window.nd rfl (Or.inl rfl) (pe_callB (r := rMax2) (call_max2 rfl) (by rfl) T.b_max (by decide +kernel) (pa_cons pe_int (pa_cons (pe_op op_sub (pv 2) pe_int) pa_nil)))) (pss_cons (ps_set (i := 6) sc_l_window.nd rfl (Or.inl rfl) (pe_callB (r := rMin2) (call_min2 rfl) (by rfl) T.b_min (by decide +kernel) (pa_cons (pv 4) (pa_cons (pe_op (r := Dm.rAdd K) or_add (pe_op (r := Dm.rAdd K) or_add (pv 2) (pv 3)) pe_int) pa_nil)))) (pss_cons (ps_set (i := 7) sc_l_window.nd rfl (Or.inl rfl) (pe_methS (pv 0) O_Memory_read (hr.mono (by decide)) (fun σ => L2N.passAt (L2N.takes_of rfl rfl rfl rfl) σ) (pa_cons (pv 5) (pa_cons (pe_op op_sub (pv 6) (pv 5)) pa_nil)))) (pss_cons (ps_setLc (i := 8) (own := [("_law_place_here", 9)]) (tt := tYes) rfl sc_l_window.nd rfl rfl (sw_true rfl rfl rfl (by decide +kernel)) (pi_range2 (by rfl) T.b_range (pa_cons (pv 5) (pa_cons (pv 6) pa_nil))) (blkOk_by (N := ["_law_memory", "_law_model", "_law_at", "_law_count", "_law_size", "_law_first", "_law_last", "_law_actual", "_law_due", "_law_place_here"]) (sc := defScope s_l_window) (by decide +kernel)) (fun _ _ _ _ _ => (pg_name (i := 9) sc_l_window.nd rfl (Or.inl rfl))) (fun _ _ _ _ _ => pts_nil) (fun _ _ _ _ _ => (pe_dget2 (hu1 hr) (pv 1) (pv 9) pe_int ⟨rfl, rfl, rfl, rfl⟩))) (pss_cons (ps_if (pt_not (pt_val (clS O_l_same_ints (hr.mono (by decide)) rfl (fun σ => L2N.passAt (L2N.takes_of rfl rfl rfl rfl) σ) (pa_cons (pv 7) (pa_cons (pv 8) pa_nil))))) (pss_cons (ps_ret pe_bl) pss_nil) pss_nil) (pss_cons (ps_expr (pe_bm (r := rAppend) PySem.F.plainAttrs_list PySem.F.slot_list_append PySem.F.type_list_append mt_append (pv 7) (pa_cons pe_int pa_nil))) (pss_cons (ps_asg pe_int (pg_sub (pv 7) pe_int set_list)) (pss_cons (ps_ret (clS O_l_same_ints (hr.mono (by decide)) rfl (fun σ => L2N.passAt (L2N.takes_of rfl rfl rfl rfl) σ) (pa_cons (pe_methS (pv 0) O_Memory_read (hr.mono (by decide)) (fun σ => L2N.passAt (L2N.takes_of rfl rfl rfl rfl) σ) (pa_cons (pv 5) (pa_cons (pe_op op_sub (pv 6) (pv 5)) pa_nil))) (pa_cons (pv 8) pa_nil)))) pss_nil)))))))), fun xo => ?_⟩)
  exact (cs_seq (cs_a (ce_F cd_max2 (ca_cons (ce_c fun _ => .int _) (ca_cons (ce_B od_sub ce_var (ce_c fun _ => .int _)) ca_nil)))) (cs_seq (cs_a (ce_F cd_min2 (ca_cons ce_var (ca_cons (ce_B od_add (ce_B od_add ce_var ce_var) (ce_c fun _ => .int _)) ca_nil)))) (cs_seq (cs_a (ce_meth (by decide +kernel) ce_var (ca_cons ce_var (ca_cons (ce_B od_sub ce_var ce_var) ca_nil)))) (cs_seq (cs_a (ce_L (cn_lc (ci_r2W (ca_cons ce_var (ca_cons ce_var ca_nil))) cg_name (by decide) ct_yes (ce_get2 ce_var ce_var (ce_c fun _ => .int _))))) (cs_seq (cs_if (ct_not (ct_B (ce_call (ca_cons ce_var (ca_cons ce_var ca_nil))))) (cs_seq (cs_ret (ce_c fun _ => .bl _)) cs_nx) cs_nx) (cs_seq (cs_x (ce_MM md_mapp ce_var (ca_cons (ce_c fun _ => .int _) ca_nil))) (cs_seq (cs_mset ce_var (ce_c fun _ => .int _) (ce_c fun _ => .int _)) (cs_seq (cs_ret (ce_call (ca_cons (ce_meth (by decide +kernel) ce_var (ca_cons ce_var (ca_cons (ce_B od_sub ce_var ce_var) ca_nil))) (ca_cons ce_var ca_nil)))) cs_nx))))))))
theorem sc_Memory_write : FnScope ["self", "at", "data", "k", "byte"] ["self", "at", "data"] (defScope s_Memory_write) := ⟨rfl, rfl, rfl, by decide +kernel, rfl, by decide +kernel, by decide +kernel⟩
theorem ok_Memory_write {f : Addr} {fd : FuncData} (F : Fun K "write" "Memory.write" s_Memory_write f fd) (T : Tx w K mg ad) : FnOk P w K mg base (L2N.CX P w) 1 f fd ["self", "at", "data"] (SpD ⟨K, w, ad⟩ m_Memory_write) := by
  refine ok_defV (l := 0) (n := 3) (k := 2) (b := b_Memory_write) F sc_Memory_write rfl rfl (fun cdv A outer s H E hr => ⟨_, (pss_cons (ps_for (passes_of rfl) rfl (pi_enumK (K := K) rfl (by rfl) T.b_enumerate (pa_cons (pv 2) pa_nil)) (pg_tup rfl (pgs_cons (pg_name (i := 3) sc_Memory_write.nd rfl (Or.inl rfl)) (pgs_cons (pg_name (i := 4) sc_Memory_write.nd rfl (Or.inl rfl)) pgs_nil))) (pss_cons (ps_if (pt_cmpR (r := rNeX K) (or_ne hr.units) (pv 4) pe_int (nomark _)) (pss_cons (ps_dput (hu1 hr) (pe_fldK K (pv 0) rfl) (pe_op (r := Dm.rAdd K) or_add (pv 1) (pv 3)) (pv 4) rfl) pss_nil) (pss_cons (ps_if (pt_cmp (pc_din (hu1 hr) (pe_op (r := Dm.rAdd K) or_add (pv 1) (pv 3)) (pe_fldK K (pv 0) rfl))) (pss_cons (ps_ddel (pe_fldK K (pv 0) rfl) (pe_op (r := Dm.rAdd K) or_add (pv 1) (pv 3))) pss_nil) pss_nil) pss_nil)) pss_nil)) pss_nil), fun xo => ?_⟩)
  exact (cs_seq (cs_for (ci_enum ce_var) (cg_tup (cgs_cons cg_name (cgs_cons cg_name cgs_nil))) (cs_seq (cs_if (ct_test (ce_B od_ne ce_var (ce_c fun _ => .int _))) (cs_seq (cs_kput (ce_fld T.I_Memory rfl ce_var) (ce_B od_add ce_var ce_var) ce_var) cs_nx) (cs_seq (cs_if (ct_test (ce_din (ce_B od_add ce_var ce_var) (ce_fld T.I_Memory rfl ce_var))) (cs_seq (cs_kdel (ce_fld T.I_Memory rfl ce_var) (ce_B od_add ce_var ce_var)) cs_nx) cs_nx) cs_nx)) cs_nx)) cs_nx)
theorem sc_Memory_size : FnScope ["self"] ["self"] (defScope s_Memory_size) := ⟨rfl, rfl, rfl, by decide +kernel, rfl, by decide +kernel, by decide +kernel⟩
theorem ok_Memory_size {f : Addr} {fd : FuncData} (F : Fun K "size" "Memory.size" s_Memory_size f fd) (T : Tx w K mg ad) : FnOk P w K mg base (L2N.CX P w) 1 f fd ["self"] (SpD ⟨K, w, ad⟩ m_Memory_size) := by
  obtain ⟨v_PAGE, u_PAGE, g_PAGE, r_PAGE, k_PAGE⟩ := T.g_PAGE
  refine ok_defV (l := 0) (n := 1) (k := 0) (b := b_Memory_size) F sc_Memory_size rfl rfl (fun cdv A outer s H E hr => ⟨_, (pss_cons (ps_ret (pe_op or_mul (pe_fldK K (pv 0) rfl) (pe_glob rfl g_PAGE r_PAGE))) pss_nil), fun xo => ?_⟩)
  exact (cs_seq (cs_ret (ce_B od_mul (ce_fld T.I_Memory rfl ce_var) (ce_c k_PAGE))) cs_nx)
theorem sc_Memory___init__ : FnScope ["self", "pages", "most"] ["self", "pages", "most"] (defScope s_Memory___init__) := ⟨rfl, rfl, rfl, by decide +kernel, rfl, by decide +kernel, by decide +kernel⟩
theorem ok_Memory___init__ {f : Addr} {fd : FuncData} (F : Fun K "__init__" "Memory.__init__" s_Memory___init__ f fd) (T : Tx w K mg ad) : FnOk P w K mg base (L2N.CX P w) 1 f fd ["self", "pages", "most"] (SpD ⟨K, w, ad⟩ m_Memory___init__) := by
  refine ok_defV (l := 0) (n := 3) (k := 0) (b := b_Memory___init__) F sc_Memory___init__ rfl rfl (fun cdv A outer s H E hr => ⟨_, (pss_cons (ps_fld (pv 0) (pv 1) rfl) (pss_cons (ps_fld (pv 0) (pv 2) rfl) (pss_cons (ps_fld (pv 0) pe_dnewK rfl) pss_nil))), fun xo => ?_⟩)
  exact (cs_seq (cs_fd T.I_Memory rfl ce_var ce_var) (cs_seq (cs_fd T.I_Memory rfl ce_var ce_var) (cs_seq (cs_fd T.I_Memory rfl ce_var ce_dnew) cs_nx)))
theorem sc_law : FnScope ["_law_script", "_law_tape_here", "_law_pages", "_law_memories", "_law_sizes", "_law_models", "_law_last", "_law_k", "_law_base", "_law_which", "_law_size", "_law_count", "_law_data", "_law_j", "_law_passed", "_law_model", "_law_at", "_law_due", "_law_place_here"] ["_law_script"] (defScope s_law) := ⟨rfl, rfl, rfl, by decide +kernel, rfl, by decide +kernel, by decide +kernel⟩
theorem ok_law {f : Addr} {fd : FuncData} {d_l_tape : FuncData} {d_l_draw : FuncData} {d_l_is_int : FuncData} {d_l_place : FuncData} {d_l_byte : FuncData} {d_l_window : FuncData} {d_Memory___init__ : FuncData} {d_Memory_size : FuncData} {d_Memory_write : FuncData} (F : Fun K "law" "law" s_law f fd) (T : Tx w K mg ad) (O_l_tape : DfX P w K mg base 1 "_law_tape" (ad 0) d_l_tape ["_law_script"] (SpD ⟨K, w, ad⟩ m_l_tape)) (O_l_draw : DfX P w K mg base 1 "_law_draw" (ad 1) d_l_draw ["_law_tape_here", "_law_at", "_law_many"] (SpD ⟨K, w, ad⟩ m_l_draw)) (O_l_is_int : DfX P w K mg base 1 "_law_is_int" (ad 2) d_l_is_int ["_law_actual"] (SpD ⟨K, w, ad⟩ m_l_is_int)) (O_l_place : DfX P w K mg base 2 "_law_place" (ad 4) d_l_place ["_law_tape_here", "_law_at", "_law_most", "_law_last"] (SpD ⟨K, w, ad⟩ m_l_place)) (O_l_byte : DfX P w K mg base 2 "_law_byte" (ad 5) d_l_byte ["_law_tape_here", "_law_at"] (SpD ⟨K, w, ad⟩ m_l_byte)) (O_l_window : DfX P w K mg base 3 "_law_window" (ad 6) d_l_window ["_law_memory", "_law_model", "_law_at", "_law_count", "_law_size"] (SpD ⟨K, w, ad⟩ m_l_window)) (O_Memory___init__ : DfI P w K mg base 1 "Memory" (ad 3002) (ad 8) d_Memory___init__ ["self", "pages", "most"] (SpD ⟨K, w, ad⟩ m_Memory___init__)) (O_Memory_size : DfM P w K mg base 1 (ad 3002) "size" (ad 9) d_Memory_size ["self"] (SpD ⟨K, w, ad⟩ m_Memory_size)) (O_Memory_write : DfM P w K mg base 1 (ad 3002) "write" (ad 11) d_Memory_write ["self", "at", "data"] (SpD ⟨K, w, ad⟩ m_Memory_write)) : FnOk P w K mg base CX0 4 f fd ["_law_script"] (Dm.sp_law K) := by
  refine Dm.ok_law (l := 3) (k := 18) (b := b_law) (ad := ad) F sc_law rfl rfl law_true (fun cdv A outer s H E hr => ⟨_, (pss_cons (ps_set (i := 1) sc_law.nd rfl (Or.inr rfl) (clS O_l_tape (hr.mono (by decide)) rfl (fun σ => L2N.passAt takesN σ) (pa_cons (pv 0) pa_nil))) (pss_cons (ps_set (i := 2) sc_law.nd rfl (Or.inl rfl) (clS O_l_draw (hr.mono (by decide)) rfl (fun σ => L2N.passAt takesN σ) (pa_cons (pv 1) (pa_cons pe_int (pa_cons pe_int pa_nil))))) (pss_cons (ps_set (i := 3) sc_law.nd rfl (Or.inl rfl) (pe_lst (pa_cons (pe_makeS O_Memory___init__ (hr.mono (by decide)) rfl (fun σ => L2N.passAt takesN σ) (pa_cons (pv 2) (pa_cons pe_int pa_nil))) (pa_cons (pe_makeS O_Memory___init__ (hr.mono (by decide)) rfl (fun σ => L2N.passAt takesN σ) (pa_cons pe_int (pa_cons pe_int pa_nil))) pa_nil)))) (pss_cons (ps_set (i := 4) sc_law.nd rfl (Or.inl rfl) (pe_lst (pa_cons (pe_op or_mul (pv 2) pe_int) (pa_cons pe_int pa_nil)))) (pss_cons (ps_set (i := 5) sc_law.nd rfl (Or.inl rfl) (pe_lst (pa_cons pe_dnewK (pa_cons pe_dnewK pa_nil)))) (pss_cons (ps_set (i := 6) sc_law.nd rfl (Or.inl rfl) pe_int) (pss_cons (ps_for PassesOwn.never rfl (pi_range1 (by rfl) T.b_range (pa_cons (clS O_l_draw (hr.mono (by decide)) rfl (fun σ => L2N.passAt takesN σ) (pa_cons (pv 1) (pa_cons pe_int (pa_cons pe_int pa_nil)))) pa_nil)) (pg_name (i := 7) sc_law.nd rfl (Or.inl rfl)) (pss_cons (ps_set (i := 8) sc_law.nd rfl (Or.inr rfl) (pe_op (r := Dm.rAdd K) or_add pe_int (pe_op or_mul pe_int (pv 7)))) (pss_cons (ps_set (i := 9) sc_law.nd rfl (Or.inl rfl) (pe_callTy (r := rInt1) call_int1 (by rfl) T.b_int (by decide +kernel) (pa_cons (pe_cmpR (r := rEqX K) (or_eq hr.units) (clS O_l_draw (hr.mono (by decide)) rfl (fun σ => L2N.passAt takesN σ) (pa_cons (pv 1) (pa_cons (pv 8) (pa_cons pe_int pa_nil)))) pe_int (nomark _)) pa_nil))) (pss_cons (ps_set (i := 10) sc_law.nd rfl (Or.inl rfl) (pe_ix (r := rIxX K w) ix_all (pv 4) (pv 9) (fun _ _ => rfl))) (pss_cons (ps_set (i := 11) sc_law.nd rfl (Or.inl rfl) (pe_callB (r := rMin2) (call_min2 rfl) (by rfl) T.b_min (by decide +kernel) (pa_cons (pv 10) (pa_cons (clS O_l_draw (hr.mono (by decide)) rfl (fun σ => L2N.passAt takesN σ) (pa_cons (pv 1) (pa_cons (pe_op (r := Dm.rAdd K) or_add (pv 8) pe_int) (pa_cons pe_int pa_nil)))) pa_nil)))) (pss_cons (ps_set (i := 6) sc_law.nd rfl (Or.inl rfl) (clS O_l_place (hr.mono (by decide)) rfl (fun σ => L2N.passAt takesN σ) (pa_cons (pv 1) (pa_cons (pe_op (r := Dm.rAdd K) or_add (pv 8) pe_int) (pa_cons (pe_op op_sub (pv 10) (pv 11)) (pa_cons (pv 6) pa_nil)))))) (pss_cons (ps_setLc (i := 12) (own := [("_law_j", 13)]) (tt := tYes) rfl sc_law.nd rfl rfl (sw_true rfl rfl rfl (by decide +kernel)) (pi_range1 (by rfl) T.b_range (pa_cons (pv 11) pa_nil)) (blkOk_by (N := ["_law_script", "_law_tape_here", "_law_pages", "_law_memories", "_law_sizes", "_law_models", "_law_last", "_law_k", "_law_base", "_law_which", "_law_size", "_law_count", "_law_data", "_law_j", "_law_passed", "_law_model", "_law_at", "_law_due", "_law_place_here"]) (sc := defScope s_law) (by decide +kernel)) (fun _ _ _ _ _ => (pg_name (i := 13) sc_law.nd rfl (Or.inl rfl))) (fun _ _ _ _ _ => pts_nil) (fun _ _ _ _ _ => (clS O_l_byte (hr.mono (by decide)) rfl (fun σ => L2N.passAt takesN σ) (pa_cons (pv 1) (pa_cons (pe_op (r := Dm.rAdd K) or_add (pe_op (r := Dm.rAdd K) or_add (pv 8) pe_int) (pv 13)) pa_nil))))) (pss_cons (ps_set (i := 14) sc_law.nd rfl (Or.inl rfl) (pe_callTy (r := rListS K) call_list_of (by rfl) T.b_list (by decide +kernel) (pa_cons (pv 12) pa_nil))) (pss_cons (ps_expr (pe_methS (pe_ix (r := rIxX K w) ix_all (pv 3) (pv 9) (fun _ _ => rfl)) O_Memory_write (hr.mono (by decide)) (fun σ => L2N.passAt takesN σ) (pa_cons (pv 6) (pa_cons (pv 14) pa_nil)))) (pss_cons (ps_if (pt_cmpR (r := rNeX K) (or_ne hr.units) (pv 14) (pv 12) (nomark _)) (pss_cons (ps_ret pe_bl) pss_nil) pss_nil) (pss_cons (ps_set (i := 15) sc_law.nd rfl (Or.inl rfl) (pe_ix (r := rIxX K w) ix_all (pv 5) (pv 9) (fun _ _ => rfl))) (pss_cons (ps_for PassesOwn.never rfl (pi_range1 (by rfl) T.b_range (pa_cons (pv 11) pa_nil)) (pg_name (i := 13) sc_law.nd rfl (Or.inl rfl)) (pss_cons (ps_dput (hu1 hr) (pv 15) (pe_op (r := Dm.rAdd K) or_add (pv 6) (pv 13)) (pe_ix (r := rIxX K w) ix_all (pv 12) (pv 13) (fun _ _ => rfl)) rfl) pss_nil)) (pss_cons (ps_for PassesOwn.never rfl (pi_range1 (by rfl) T.b_range (pa_cons pe_int pa_nil)) (pg_name (i := 13) sc_law.nd rfl (Or.inl rfl)) (pss_cons (ps_set (i := 16) sc_law.nd rfl (Or.inl rfl) (pe_callB (r := rMin2) (call_min2 rfl) (by rfl) T.b_min (by decide +kernel) (pa_cons (pv 6) (pa_cons (pe_ix (r := rIxX K w) ix_all (pv 4) (pv 13) (fun _ _ => rfl)) pa_nil)))) (pss_cons (ps_if (pt_not (pt_val (clS O_l_window (hr.mono (by decide)) rfl (fun σ => L2N.passAt takesN σ) (pa_cons (pe_ix (r := rIxX K w) ix_all (pv 3) (pv 13) (fun _ _ => rfl)) (pa_cons (pe_ix (r := rIxX K w) ix_all (pv 5) (pv 13) (fun _ _ => rfl)) (pa_cons (pv 16) (pa_cons (pv 11) (pa_cons (pe_ix (r := rIxX K w) ix_all (pv 4) (pv 13) (fun _ _ => rfl)) pa_nil)))))))) (pss_cons (ps_ret pe_bl) pss_nil) pss_nil) pss_nil))) pss_nil))))))))))))) (pss_cons (ps_for PassesOwn.never rfl (pi_range1 (by rfl) T.b_range (pa_cons pe_int pa_nil)) (pg_name (i := 13) sc_law.nd rfl (Or.inl rfl)) (pss_cons (ps_set (i := 15) sc_law.nd rfl (Or.inl rfl) (pe_ix (r := rIxX K w) ix_all (pv 5) (pv 13) (fun _ _ => rfl))) (pss_cons (ps_set (i := 17) sc_law.nd rfl (Or.inl rfl) pe_dnewK) (pss_cons (ps_for PassesOwn.never rfl (pi_listK (K := K) rfl (pe_callB (r := rSortedDN) (cr_sortedDN rfl) (by rfl) T.b_sorted (by decide +kernel) (pa_cons (pv 15) pa_nil))) (pg_name (i := 18) sc_law.nd rfl (Or.inl rfl)) (pss_cons (ps_if (pt_cmpR (r := rNeX K) (or_ne hr.units) (pe_dget (hu1 hr) (pv 15) (pv 18) (fun _ _ => rfl)) pe_int (nomark _)) (pss_cons (ps_dput (hu1 hr) (pv 17) (pv 18) (pe_dget (hu1 hr) (pv 15) (pv 18) (fun _ _ => rfl)) rfl) pss_nil) pss_nil) pss_nil)) (pss_cons (ps_if (PW.pt (pw_or (pt_not (pt_val (clS O_l_is_int (hr.mono (by decide)) rfl (fun σ => L2N.passAt takesN σ) (pa_cons (pe_methS0 (pe_ix (r := rIxX K w) ix_all (pv 3) (pv 13) (fun _ _ => rfl)) O_Memory_size (hr.mono (by decide)) (fun σ => L2N.passAt takesN σ)) pa_nil)))) (pw_or (pt_cmpR (r := rNeX K) (or_ne hr.units) (pe_methS0 (pe_ix (r := rIxX K w) ix_all (pv 3) (pv 13) (fun _ _ => rfl)) O_Memory_size (hr.mono (by decide)) (fun σ => L2N.passAt takesN σ)) (pe_ix (r := rIxX K w) ix_all (pv 4) (pv 13) (fun _ _ => rfl)) (nomark _)) (pw_or1 (pt_cmpR (r := rNeDA) (op_ne_dictA hr.units0) (pe_fldK K (pe_ix (r := rIxX K w) ix_all (pv 3) (pv 13) (fun _ _ => rfl)) rfl) (pv 17) (nomark _)))))) (pss_cons (ps_ret pe_bl) pss_nil) pss_nil) pss_nil))))) (pss_cons (ps_ret pe_bl) pss_nil))))))))), fun xo => ?_⟩)
  exact (cs_seq (cs_a (ce_call (ca_cons ce_var ca_nil))) (cs_seq (cs_a (ce_call (ca_cons ce_var (ca_cons (ce_c fun _ => .int _) (ca_cons (ce_c fun _ => .int _) ca_nil))))) (cs_seq (cs_a (ce_L (cn_lst (ca_cons (ce_make (ca_cons ce_var (ca_cons (ce_c fun _ => .int _) ca_nil))) (ca_cons (ce_make (ca_cons (ce_c fun _ => .int _) (ca_cons (ce_c fun _ => .int _) ca_nil))) ca_nil))))) (cs_seq (cs_a (ce_L (cn_lst (ca_cons (ce_B od_mul ce_var (ce_c fun _ => .int _)) (ca_cons (ce_c fun _ => .int _) ca_nil))))) (cs_seq (cs_a (ce_L (cn_lst (ca_cons ce_dnew (ca_cons ce_dnew ca_nil))))) (cs_seq (cs_a (ce_c fun _ => .int _)) (cs_seq (cs_for (ci_r1 (ca_cons (ce_call (ca_cons ce_var (ca_cons (ce_c fun _ => .int _) (ca_cons (ce_c fun _ => .int _) ca_nil)))) ca_nil)) cg_name (cs_seq (cs_a (ce_B od_add (ce_c fun _ => .int _) (ce_B od_mul (ce_c fun _ => .int _) ce_var))) (cs_seq (cs_a (ce_F cd_int (ca_cons (ce_B od_eq (ce_call (ca_cons ce_var (ca_cons ce_var (ca_cons (ce_c fun _ => .int _) ca_nil)))) (ce_c fun _ => .int _)) ca_nil))) (cs_seq (cs_a (ce_B od_ix ce_var ce_var)) (cs_seq (cs_a (ce_F cd_min2 (ca_cons ce_var (ca_cons (ce_call (ca_cons ce_var (ca_cons (ce_B od_add ce_var (ce_c fun _ => .int _)) (ca_cons (ce_c fun _ => .int _) ca_nil)))) ca_nil)))) (cs_seq (cs_a (ce_call (ca_cons ce_var (ca_cons (ce_B od_add ce_var (ce_c fun _ => .int _)) (ca_cons (ce_B od_sub ce_var ce_var) (ca_cons ce_var ca_nil)))))) (cs_seq (cs_a (ce_L (cn_lc (ci_r1 (ca_cons ce_var ca_nil)) cg_name (by decide) ct_yes (ce_call (ca_cons ce_var (ca_cons (ce_B od_add (ce_B od_add ce_var (ce_c fun _ => .int _)) ce_var) ca_nil)))))) (cs_seq (cs_a (ce_L (cn_list (ca_cons ce_var ca_nil)))) (cs_seq (cs_x (ce_meth (by decide +kernel) (ce_B od_ix ce_var ce_var) (ca_cons ce_var (ca_cons ce_var ca_nil)))) (cs_seq (cs_if (ct_test (ce_B od_ne ce_var ce_var)) (cs_seq (cs_ret (ce_c fun _ => .bl _)) cs_nx) cs_nx) (cs_seq (cs_a (ce_B od_ix ce_var ce_var)) (cs_seq (cs_for (ci_r1 (ca_cons ce_var ca_nil)) cg_name (cs_seq (cs_kput ce_var (ce_B od_add ce_var ce_var) (ce_B od_ix ce_var ce_var)) cs_nx)) (cs_seq (cs_for (ci_r1 (ca_cons (ce_c fun _ => .int _) ca_nil)) cg_name (cs_seq (cs_a (ce_F cd_min2 (ca_cons ce_var (ca_cons (ce_B od_ix ce_var ce_var) ca_nil)))) (cs_seq (cs_if (ct_not (ct_B (ce_call (ca_cons (ce_B od_ix ce_var ce_var) (ca_cons (ce_B od_ix ce_var ce_var) (ca_cons ce_var (ca_cons ce_var (ca_cons (ce_B od_ix ce_var ce_var) ca_nil)))))))) (cs_seq (cs_ret (ce_c fun _ => .bl _)) cs_nx) cs_nx) cs_nx))) cs_nx))))))))))))) (cs_seq (cs_for (ci_r1 (ca_cons (ce_c fun _ => .int _) ca_nil)) cg_name (cs_seq (cs_a (ce_B od_ix ce_var ce_var)) (cs_seq (cs_a ce_dnew) (cs_seq (cs_for (ci_list (ce_L (cn_sortK (ca_cons ce_var ca_nil)))) cg_name (cs_seq (cs_if (ct_test (ce_B od_ne (ce_dget ce_var ce_var) (ce_c fun _ => .int _))) (cs_seq (cs_kput ce_var ce_var (ce_dget ce_var ce_var)) cs_nx) cs_nx) cs_nx)) (cs_seq (cs_if (ct_or (ct_not (ct_B (ce_call (ca_cons (ce_meth (by decide +kernel) (ce_B od_ix ce_var ce_var) ca_nil) ca_nil)))) (ct_or (ct_test (ce_B od_ne (ce_meth (by decide +kernel) (ce_B od_ix ce_var ce_var) ca_nil) (ce_B od_ix ce_var ce_var))) (ct_test (ce_B od_neK (ce_fld T.I_Memory rfl (ce_B od_ix ce_var ce_var)) ce_var)))) (cs_seq (cs_ret (ce_c fun _ => .bl _)) cs_nx) cs_nx) cs_nx))))) (cs_seq (cs_ret (ce_c fun _ => .bl _)) cs_nx)))))))))
end
theorem all_mk {l : PySem.W.OpenLaw} {w : World} {K : PySem.W.Frag} {h : Heap} {mg : Str → Option Value} {fa : Addr} {f_l_tape f_l_draw f_l_is_int f_l_same_ints f_l_place f_l_byte f_l_window f_law f_Memory___init__ f_Memory_size f_Memory_read f_Memory_write c_Memory : Addr} (X : K.In h) (G : h.Ns mainGlobals mg) (hfa : mg "law" = some (.ref fa))
    {od_l_tape an_l_tape od_l_draw an_l_draw od_l_is_int an_l_is_int od_l_same_ints an_l_same_ints od_l_place an_l_place od_l_byte an_l_byte od_l_window an_l_window od_law an_law od_Memory___init__ an_Memory___init__ od_Memory_size an_Memory_size od_Memory_read an_Memory_read od_Memory_write an_Memory_write : Option Addr} {sl_l_tape sl_l_draw sl_l_is_int sl_l_same_ints sl_l_place sl_l_byte sl_l_window sl_law sl_Memory___init__ sl_Memory_size sl_Memory_read sl_Memory_write : Array (Option Value)}
    {oc_l_tape dc_l_tape pm_l_tape cd_l_tape ct_l_tape kV_l_tape oc_l_draw dc_l_draw pm_l_draw cd_l_draw ct_l_draw kV_l_draw oc_l_is_int dc_l_is_int pm_l_is_int cd_l_is_int ct_l_is_int kV_l_is_int oc_l_same_ints dc_l_same_ints pm_l_same_ints cd_l_same_ints ct_l_same_ints kV_l_same_ints oc_l_place dc_l_place pm_l_place cd_l_place ct_l_place kV_l_place oc_l_byte dc_l_byte pm_l_byte cd_l_byte ct_l_byte kV_l_byte oc_l_window dc_l_window pm_l_window cd_l_window ct_l_window kV_l_window oc_law dc_law pm_law cd_law ct_law kV_law oc_Memory___init__ dc_Memory___init__ pm_Memory___init__ cd_Memory___init__ ct_Memory___init__ kV_Memory___init__ oc_Memory_size dc_Memory_size pm_Memory_size cd_Memory_size ct_Memory_size kV_Memory_size oc_Memory_read dc_Memory_read pm_Memory_read cd_Memory_read ct_Memory_read kV_Memory_read oc_Memory_write dc_Memory_write pm_Memory_write cd_Memory_write ct_Memory_write kV_Memory_write : Value}
    (cg_Memory : PySem.W.nsIn K mainGlobals "Memory" = some (some (.ref c_Memory)))
    (a_l_tape : PySem.W.nsIn K mainGlobals "_law_tape" = some (some (.ref f_l_tape)))
    (l_l_tape : K.lookup f_l_tape = some ⟨oc_l_tape, od_l_tape, .func (PySem.W.fnOf "_law_tape" "_law_tape" (defArgs s_l_tape) (defBody s_l_tape) (defScope s_l_tape) .none kV_l_tape dc_l_tape pm_l_tape an_l_tape cd_l_tape ct_l_tape), sl_l_tape⟩)
    (c_l_tape : PySem.W.codeIn K cd_l_tape "_law_tape" = true)
    (k_l_tape : PySem.W.keepIn K (.ref f_l_tape) = true)
    (a_l_draw : PySem.W.nsIn K mainGlobals "_law_draw" = some (some (.ref f_l_draw)))
    (l_l_draw : K.lookup f_l_draw = some ⟨oc_l_draw, od_l_draw, .func (PySem.W.fnOf "_law_draw" "_law_draw" (defArgs s_l_draw) (defBody s_l_draw) (defScope s_l_draw) .none kV_l_draw dc_l_draw pm_l_draw an_l_draw cd_l_draw ct_l_draw), sl_l_draw⟩)
    (c_l_draw : PySem.W.codeIn K cd_l_draw "_law_draw" = true)
    (k_l_draw : PySem.W.keepIn K (.ref f_l_draw) = true)
    (a_l_is_int : PySem.W.nsIn K mainGlobals "_law_is_int" = some (some (.ref f_l_is_int)))
    (l_l_is_int : K.lookup f_l_is_int = some ⟨oc_l_is_int, od_l_is_int, .func (PySem.W.fnOf "_law_is_int" "_law_is_int" (defArgs s_l_is_int) (defBody s_l_is_int) (defScope s_l_is_int) .none kV_l_is_int dc_l_is_int pm_l_is_int an_l_is_int cd_l_is_int ct_l_is_int), sl_l_is_int⟩)
    (c_l_is_int : PySem.W.codeIn K cd_l_is_int "_law_is_int" = true)
    (k_l_is_int : PySem.W.keepIn K (.ref f_l_is_int) = true)
    (a_l_same_ints : PySem.W.nsIn K mainGlobals "_law_same_ints" = some (some (.ref f_l_same_ints)))
    (l_l_same_ints : K.lookup f_l_same_ints = some ⟨oc_l_same_ints, od_l_same_ints, .func (PySem.W.fnOf "_law_same_ints" "_law_same_ints" (defArgs s_l_same_ints) (defBody s_l_same_ints) (defScope s_l_same_ints) .none kV_l_same_ints dc_l_same_ints pm_l_same_ints an_l_same_ints cd_l_same_ints ct_l_same_ints), sl_l_same_ints⟩)
    (c_l_same_ints : PySem.W.codeIn K cd_l_same_ints "_law_same_ints" = true)
    (k_l_same_ints : PySem.W.keepIn K (.ref f_l_same_ints) = true)
    (a_l_place : PySem.W.nsIn K mainGlobals "_law_place" = some (some (.ref f_l_place)))
    (l_l_place : K.lookup f_l_place = some ⟨oc_l_place, od_l_place, .func (PySem.W.fnOf "_law_place" "_law_place" (defArgs s_l_place) (defBody s_l_place) (defScope s_l_place) .none kV_l_place dc_l_place pm_l_place an_l_place cd_l_place ct_l_place), sl_l_place⟩)
    (c_l_place : PySem.W.codeIn K cd_l_place "_law_place" = true)
    (k_l_place : PySem.W.keepIn K (.ref f_l_place) = true)
    (a_l_byte : PySem.W.nsIn K mainGlobals "_law_byte" = some (some (.ref f_l_byte)))
    (l_l_byte : K.lookup f_l_byte = some ⟨oc_l_byte, od_l_byte, .func (PySem.W.fnOf "_law_byte" "_law_byte" (defArgs s_l_byte) (defBody s_l_byte) (defScope s_l_byte) .none kV_l_byte dc_l_byte pm_l_byte an_l_byte cd_l_byte ct_l_byte), sl_l_byte⟩)
    (c_l_byte : PySem.W.codeIn K cd_l_byte "_law_byte" = true)
    (k_l_byte : PySem.W.keepIn K (.ref f_l_byte) = true)
    (a_l_window : PySem.W.nsIn K mainGlobals "_law_window" = some (some (.ref f_l_window)))
    (l_l_window : K.lookup f_l_window = some ⟨oc_l_window, od_l_window, .func (PySem.W.fnOf "_law_window" "_law_window" (defArgs s_l_window) (defBody s_l_window) (defScope s_l_window) .none kV_l_window dc_l_window pm_l_window an_l_window cd_l_window ct_l_window), sl_l_window⟩)
    (c_l_window : PySem.W.codeIn K cd_l_window "_law_window" = true)
    (k_l_window : PySem.W.keepIn K (.ref f_l_window) = true)
    (a_law : PySem.W.nsIn K mainGlobals "law" = some (some (.ref f_law)))
    (l_law : K.lookup f_law = some ⟨oc_law, od_law, .func (PySem.W.fnOf "law" "law" (defArgs s_law) (defBody s_law) (defScope s_law) .none kV_law dc_law pm_law an_law cd_law ct_law), sl_law⟩)
    (c_law : PySem.W.codeIn K cd_law "law" = true)
    (k_law : PySem.W.keepIn K (.ref f_law) = true)
    (a_Memory___init__ : PySem.W.findIn K (.ref c_Memory) "__init__" = some (some (.ref f_Memory___init__)))
    (i_Memory___init__ : PySem.W.isFn K (.ref f_Memory___init__) = true)
    (l_Memory___init__ : K.lookup f_Memory___init__ = some ⟨oc_Memory___init__, od_Memory___init__, .func (PySem.W.fnOf "__init__" "Memory.__init__" (defArgs s_Memory___init__) (defBody s_Memory___init__) (defScope s_Memory___init__) .none kV_Memory___init__ dc_Memory___init__ pm_Memory___init__ an_Memory___init__ cd_Memory___init__ ct_Memory___init__), sl_Memory___init__⟩)
    (c_Memory___init__ : PySem.W.codeIn K cd_Memory___init__ "Memory.__init__" = true)
    (k_Memory___init__ : PySem.W.keepIn K (.ref f_Memory___init__) = true)
    (a_Memory_size : PySem.W.findIn K (.ref c_Memory) "size" = some (some (.ref f_Memory_size)))
    (i_Memory_size : PySem.W.isFn K (.ref f_Memory_size) = true)
    (l_Memory_size : K.lookup f_Memory_size = some ⟨oc_Memory_size, od_Memory_size, .func (PySem.W.fnOf "size" "Memory.size" (defArgs s_Memory_size) (defBody s_Memory_size) (defScope s_Memory_size) .none kV_Memory_size dc_Memory_size pm_Memory_size an_Memory_size cd_Memory_size ct_Memory_size), sl_Memory_size⟩)
    (c_Memory_size : PySem.W.codeIn K cd_Memory_size "Memory.size" = true)
    (k_Memory_size : PySem.W.keepIn K (.ref f_Memory_size) = true)
    (a_Memory_read : PySem.W.findIn K (.ref c_Memory) "read" = some (some (.ref f_Memory_read)))
    (i_Memory_read : PySem.W.isFn K (.ref f_Memory_read) = true)
    (l_Memory_read : K.lookup f_Memory_read = some ⟨oc_Memory_read, od_Memory_read, .func (PySem.W.fnOf "read" "Memory.read" (defArgs s_Memory_read) (defBody s_Memory_read) (defScope s_Memory_read) .none kV_Memory_read dc_Memory_read pm_Memory_read an_Memory_read cd_Memory_read ct_Memory_read), sl_Memory_read⟩)
    (c_Memory_read : PySem.W.codeIn K cd_Memory_read "Memory.read" = true)
    (k_Memory_read : PySem.W.keepIn K (.ref f_Memory_read) = true)
    (a_Memory_write : PySem.W.findIn K (.ref c_Memory) "write" = some (some (.ref f_Memory_write)))
    (i_Memory_write : PySem.W.isFn K (.ref f_Memory_write) = true)
    (l_Memory_write : K.lookup f_Memory_write = some ⟨oc_Memory_write, od_Memory_write, .func (PySem.W.fnOf "write" "Memory.write" (defArgs s_Memory_write) (defBody s_Memory_write) (defScope s_Memory_write) .none kV_Memory_write dc_Memory_write pm_Memory_write an_Memory_write cd_Memory_write ct_Memory_write), sl_Memory_write⟩)
    (c_Memory_write : PySem.W.codeIn K cd_Memory_write "Memory.write" = true)
    (k_Memory_write : PySem.W.keepIn K (.ref f_Memory_write) = true)
    (z_bool : PySem.W.nsIn K mainGlobals "bool" = some none)
    (z_enumerate : PySem.W.nsIn K mainGlobals "enumerate" = some none)
    (z_int : PySem.W.nsIn K mainGlobals "int" = some none)
    (z_isinstance : PySem.W.nsIn K mainGlobals "isinstance" = some none)
    (z_len : PySem.W.nsIn K mainGlobals "len" = some none)
    (z_list : PySem.W.nsIn K mainGlobals "list" = some none)
    (z_max : PySem.W.nsIn K mainGlobals "max" = some none)
    (z_min : PySem.W.nsIn K mainGlobals "min" = some none)
    (z_range : PySem.W.nsIn K mainGlobals "range" = some none)
    (z_sorted : PySem.W.nsIn K mainGlobals "sorted" = some none)
    {t_PAGE : Tok}
    (v_PAGE : PySem.W.nsIn K mainGlobals "PAGE" = some (some (.int (65536) t_PAGE)))
    (pg_Memory : PySem.W.plainGet K c_Memory Str.empty = true)
    (hd_Memory : PySem.W.hasDictIn K c_Memory = true)
    (po_Memory : PySem.W.plainOver K c_Memory = true)
    (sa_Memory : PySem.W.findIn K (.ref c_Memory) "__setattr__" = some (some (.builtin "object.__setattr__")))
    (mk_Memory : PySem.W.makesIn K c_Memory = true)
    (kc_Memory : PySem.W.keepIn K (.ref c_Memory) = true)
    (na0_Memory : PySem.W.findIn K (.ref c_Memory) "pages" = some none)
    (na1_Memory : PySem.W.findIn K (.ref c_Memory) "most" = some none)
    (na2_Memory : PySem.W.findIn K (.ref c_Memory) "cells" = some none)
    : ∃ fd : FuncData, (∀ (s : Shared) (v : Value), BindsTo s fd ⟨[v], []⟩ [("_law_script", v)]) ∧ ∀ base : Heap, K.In base → base.Ns mainGlobals mg → FnOk l.prog w K mg base CX0 4 fa fd ["_law_script"] (Dm.sp_law K) := by
  have e := hfa.symm.trans (PySem.W.mg_of X G a_law)
  cases e
  have T : Tx w K mg (fun n => match n with | 0 => f_l_tape | 1 => f_l_draw | 2 => f_l_is_int | 3 => f_l_same_ints | 4 => f_l_place | 5 => f_l_byte | 6 => f_l_window | 8 => f_Memory___init__ | 9 => f_Memory_size | 10 => f_Memory_read | 11 => f_Memory_write | 3002 => c_Memory | _ => 0) := ⟨PySem.W.mg_none_of X G z_bool,
    PySem.W.mg_none_of X G z_enumerate,
    PySem.W.mg_none_of X G z_int,
    PySem.W.mg_none_of X G z_isinstance,
    PySem.W.mg_none_of X G z_len,
    PySem.W.mg_none_of X G z_list,
    PySem.W.mg_none_of X G z_max,
    PySem.W.mg_none_of X G z_min,
    PySem.W.mg_none_of X G z_range,
    PySem.W.mg_none_of X G z_sorted,
    ⟨.int (65536), _, PySem.W.mg_of X G v_PAGE, ⟨_, rfl⟩, fun _ => .int _⟩,
    ⟨⟨pg_Memory, hd_Memory, po_Memory, sa_Memory⟩, by intro f hf; rw [show fl 3002 = (["pages", "most", "cells"] : List Str) from rfl] at hf; simp only [List.mem_cons, List.not_mem_nil, or_false] at hf; rcases hf with rfl | rfl | rfl; exact na0_Memory; exact na1_Memory; exact na2_Memory⟩⟩
  have F_l_tape := fun_mk (st := s_l_tape) l_l_tape c_l_tape k_l_tape
  have b_l_tape := F_l_tape.binds (ps := ["_law_script"]) fun _ _ _ _ _ _ us hl => match us, hl with | [_], _ => rfl
  have F_l_draw := fun_mk (st := s_l_draw) l_l_draw c_l_draw k_l_draw
  have b_l_draw := F_l_draw.binds (ps := ["_law_tape_here", "_law_at", "_law_many"]) fun _ _ _ _ _ _ us hl => match us, hl with | [_, _, _], _ => rfl
  have F_l_is_int := fun_mk (st := s_l_is_int) l_l_is_int c_l_is_int k_l_is_int
  have b_l_is_int := F_l_is_int.binds (ps := ["_law_actual"]) fun _ _ _ _ _ _ us hl => match us, hl with | [_], _ => rfl
  have F_l_same_ints := fun_mk (st := s_l_same_ints) l_l_same_ints c_l_same_ints k_l_same_ints
  have b_l_same_ints := F_l_same_ints.binds (ps := ["_law_actual", "_law_due"]) fun _ _ _ _ _ _ us hl => match us, hl with | [_, _], _ => rfl
  have F_l_place := fun_mk (st := s_l_place) l_l_place c_l_place k_l_place
  have b_l_place := F_l_place.binds (ps := ["_law_tape_here", "_law_at", "_law_most", "_law_last"]) fun _ _ _ _ _ _ us hl => match us, hl with | [_, _, _, _], _ => rfl
  have F_l_byte := fun_mk (st := s_l_byte) l_l_byte c_l_byte k_l_byte
  have b_l_byte := F_l_byte.binds (ps := ["_law_tape_here", "_law_at"]) fun _ _ _ _ _ _ us hl => match us, hl with | [_, _], _ => rfl
  have F_l_window := fun_mk (st := s_l_window) l_l_window c_l_window k_l_window
  have b_l_window := F_l_window.binds (ps := ["_law_memory", "_law_model", "_law_at", "_law_count", "_law_size"]) fun _ _ _ _ _ _ us hl => match us, hl with | [_, _, _, _, _], _ => rfl
  have F_law := fun_mk (st := s_law) l_law c_law k_law
  have F_Memory___init__ := fun_mk (st := s_Memory___init__) l_Memory___init__ c_Memory___init__ k_Memory___init__
  have b_Memory___init__ := F_Memory___init__.binds (ps := ["self", "pages", "most"]) fun _ _ _ _ _ _ us hl => match us, hl with | [_, _, _], _ => rfl
  have F_Memory_size := fun_mk (st := s_Memory_size) l_Memory_size c_Memory_size k_Memory_size
  have b_Memory_size := F_Memory_size.binds (ps := ["self"]) fun _ _ _ _ _ _ us hl => match us, hl with | [_], _ => rfl
  have F_Memory_read := fun_mk (st := s_Memory_read) l_Memory_read c_Memory_read k_Memory_read
  have b_Memory_read := F_Memory_read.binds (ps := ["self", "at", "count"]) fun _ _ _ _ _ _ us hl => match us, hl with | [_, _, _], _ => rfl
  have F_Memory_write := fun_mk (st := s_Memory_write) l_Memory_write c_Memory_write k_Memory_write
  have b_Memory_write := F_Memory_write.binds (ps := ["self", "at", "data"]) fun _ _ _ _ _ _ us hl => match us, hl with | [_, _, _], _ => rfl
  refine ⟨PySem.W.fnOf "law" "law" (defArgs s_law) (defBody s_law) (defScope s_law) .none kV_law dc_law pm_law an_law cd_law ct_law, fun s v => .of_eq rfl, fun base _ _ => ?_⟩
  have O_l_tape : DfX l.prog w K mg base 1 "_law_tape" f_l_tape _ ["_law_script"] (SpD ⟨K, w, (fun n => match n with | 0 => f_l_tape | 1 => f_l_draw | 2 => f_l_is_int | 3 => f_l_same_ints | 4 => f_l_place | 5 => f_l_byte | 6 => f_l_window | 8 => f_Memory___init__ | 9 => f_Memory_size | 10 => f_Memory_read | 11 => f_Memory_write | 3002 => c_Memory | _ => 0)⟩ m_l_tape) := ⟨ok_l_tape (ad := (fun n => match n with | 0 => f_l_tape | 1 => f_l_draw | 2 => f_l_is_int | 3 => f_l_same_ints | 4 => f_l_place | 5 => f_l_byte | 6 => f_l_window | 8 => f_Memory___init__ | 9 => f_Memory_size | 10 => f_Memory_read | 11 => f_Memory_write | 3002 => c_Memory | _ => 0)) F_l_tape T, PySem.W.mg_of X G a_l_tape, F_l_tape.kp, b_l_tape⟩
  have O_l_draw : DfX l.prog w K mg base 1 "_law_draw" f_l_draw _ ["_law_tape_here", "_law_at", "_law_many"] (SpD ⟨K, w, (fun n => match n with | 0 => f_l_tape | 1 => f_l_draw | 2 => f_l_is_int | 3 => f_l_same_ints | 4 => f_l_place | 5 => f_l_byte | 6 => f_l_window | 8 => f_Memory___init__ | 9 => f_Memory_size | 10 => f_Memory_read | 11 => f_Memory_write | 3002 => c_Memory | _ => 0)⟩ m_l_draw) := ⟨ok_l_draw (ad := (fun n => match n with | 0 => f_l_tape | 1 => f_l_draw | 2 => f_l_is_int | 3 => f_l_same_ints | 4 => f_l_place | 5 => f_l_byte | 6 => f_l_window | 8 => f_Memory___init__ | 9 => f_Memory_size | 10 => f_Memory_read | 11 => f_Memory_write | 3002 => c_Memory | _ => 0)) F_l_draw T, PySem.W.mg_of X G a_l_draw, F_l_draw.kp, b_l_draw⟩
  have O_l_is_int : DfX l.prog w K mg base 1 "_law_is_int" f_l_is_int _ ["_law_actual"] (SpD ⟨K, w, (fun n => match n with | 0 => f_l_tape | 1 => f_l_draw | 2 => f_l_is_int | 3 => f_l_same_ints | 4 => f_l_place | 5 => f_l_byte | 6 => f_l_window | 8 => f_Memory___init__ | 9 => f_Memory_size | 10 => f_Memory_read | 11 => f_Memory_write | 3002 => c_Memory | _ => 0)⟩ m_l_is_int) := ⟨ok_l_is_int (ad := (fun n => match n with | 0 => f_l_tape | 1 => f_l_draw | 2 => f_l_is_int | 3 => f_l_same_ints | 4 => f_l_place | 5 => f_l_byte | 6 => f_l_window | 8 => f_Memory___init__ | 9 => f_Memory_size | 10 => f_Memory_read | 11 => f_Memory_write | 3002 => c_Memory | _ => 0)) F_l_is_int T, PySem.W.mg_of X G a_l_is_int, F_l_is_int.kp, b_l_is_int⟩
  have O_l_same_ints : DfX l.prog w K mg base 2 "_law_same_ints" f_l_same_ints _ ["_law_actual", "_law_due"] (SpD ⟨K, w, (fun n => match n with | 0 => f_l_tape | 1 => f_l_draw | 2 => f_l_is_int | 3 => f_l_same_ints | 4 => f_l_place | 5 => f_l_byte | 6 => f_l_window | 8 => f_Memory___init__ | 9 => f_Memory_size | 10 => f_Memory_read | 11 => f_Memory_write | 3002 => c_Memory | _ => 0)⟩ m_l_same_ints) := ⟨ok_l_same_ints (ad := (fun n => match n with | 0 => f_l_tape | 1 => f_l_draw | 2 => f_l_is_int | 3 => f_l_same_ints | 4 => f_l_place | 5 => f_l_byte | 6 => f_l_window | 8 => f_Memory___init__ | 9 => f_Memory_size | 10 => f_Memory_read | 11 => f_Memory_write | 3002 => c_Memory | _ => 0)) F_l_same_ints T O_l_is_int, PySem.W.mg_of X G a_l_same_ints, F_l_same_ints.kp, b_l_same_ints⟩
  have O_l_place : DfX l.prog w K mg base 2 "_law_place" f_l_place _ ["_law_tape_here", "_law_at", "_law_most", "_law_last"] (SpD ⟨K, w, (fun n => match n with | 0 => f_l_tape | 1 => f_l_draw | 2 => f_l_is_int | 3 => f_l_same_ints | 4 => f_l_place | 5 => f_l_byte | 6 => f_l_window | 8 => f_Memory___init__ | 9 => f_Memory_size | 10 => f_Memory_read | 11 => f_Memory_write | 3002 => c_Memory | _ => 0)⟩ m_l_place) := ⟨ok_l_place (ad := (fun n => match n with | 0 => f_l_tape | 1 => f_l_draw | 2 => f_l_is_int | 3 => f_l_same_ints | 4 => f_l_place | 5 => f_l_byte | 6 => f_l_window | 8 => f_Memory___init__ | 9 => f_Memory_size | 10 => f_Memory_read | 11 => f_Memory_write | 3002 => c_Memory | _ => 0)) F_l_place T O_l_draw, PySem.W.mg_of X G a_l_place, F_l_place.kp, b_l_place⟩
  have O_l_byte : DfX l.prog w K mg base 2 "_law_byte" f_l_byte _ ["_law_tape_here", "_law_at"] (SpD ⟨K, w, (fun n => match n with | 0 => f_l_tape | 1 => f_l_draw | 2 => f_l_is_int | 3 => f_l_same_ints | 4 => f_l_place | 5 => f_l_byte | 6 => f_l_window | 8 => f_Memory___init__ | 9 => f_Memory_size | 10 => f_Memory_read | 11 => f_Memory_write | 3002 => c_Memory | _ => 0)⟩ m_l_byte) := ⟨ok_l_byte (ad := (fun n => match n with | 0 => f_l_tape | 1 => f_l_draw | 2 => f_l_is_int | 3 => f_l_same_ints | 4 => f_l_place | 5 => f_l_byte | 6 => f_l_window | 8 => f_Memory___init__ | 9 => f_Memory_size | 10 => f_Memory_read | 11 => f_Memory_write | 3002 => c_Memory | _ => 0)) F_l_byte T O_l_draw, PySem.W.mg_of X G a_l_byte, F_l_byte.kp, b_l_byte⟩
  have O_Memory_read : DfM l.prog w K mg base 1 c_Memory "read" f_Memory_read _ ["self", "at", "count"] (SpD ⟨K, w, (fun n => match n with | 0 => f_l_tape | 1 => f_l_draw | 2 => f_l_is_int | 3 => f_l_same_ints | 4 => f_l_place | 5 => f_l_byte | 6 => f_l_window | 8 => f_Memory___init__ | 9 => f_Memory_size | 10 => f_Memory_read | 11 => f_Memory_write | 3002 => c_Memory | _ => 0)⟩ m_Memory_read) := ⟨ok_Memory_read (ad := (fun n => match n with | 0 => f_l_tape | 1 => f_l_draw | 2 => f_l_is_int | 3 => f_l_same_ints | 4 => f_l_place | 5 => f_l_byte | 6 => f_l_window | 8 => f_Memory___init__ | 9 => f_Memory_size | 10 => f_Memory_read | 11 => f_Memory_write | 3002 => c_Memory | _ => 0)) F_Memory_read T, ⟨a_Memory_read, i_Memory_read, F_Memory_read.kp⟩, b_Memory_read, ⟨pg_Memory, hd_Memory, po_Memory, sa_Memory⟩⟩
  have O_l_window : DfX l.prog w K mg base 3 "_law_window" f_l_window _ ["_law_memory", "_law_model", "_law_at", "_law_count", "_law_size"] (SpD ⟨K, w, (fun n => match n with | 0 => f_l_tape | 1 => f_l_draw | 2 => f_l_is_int | 3 => f_l_same_ints | 4 => f_l_place | 5 => f_l_byte | 6 => f_l_window | 8 => f_Memory___init__ | 9 => f_Memory_size | 10 => f_Memory_read | 11 => f_Memory_write | 3002 => c_Memory | _ => 0)⟩ m_l_window) := ⟨ok_l_window (ad := (fun n => match n with | 0 => f_l_tape | 1 => f_l_draw | 2 => f_l_is_int | 3 => f_l_same_ints | 4 => f_l_place | 5 => f_l_byte | 6 => f_l_window | 8 => f_Memory___init__ | 9 => f_Memory_size | 10 => f_Memory_read | 11 => f_Memory_write | 3002 => c_Memory | _ => 0)) F_l_window T O_l_same_ints O_Memory_read, PySem.W.mg_of X G a_l_window, F_l_window.kp, b_l_window⟩
  have O_Memory_write : DfM l.prog w K mg base 1 c_Memory "write" f_Memory_write _ ["self", "at", "data"] (SpD ⟨K, w, (fun n => match n with | 0 => f_l_tape | 1 => f_l_draw | 2 => f_l_is_int | 3 => f_l_same_ints | 4 => f_l_place | 5 => f_l_byte | 6 => f_l_window | 8 => f_Memory___init__ | 9 => f_Memory_size | 10 => f_Memory_read | 11 => f_Memory_write | 3002 => c_Memory | _ => 0)⟩ m_Memory_write) := ⟨ok_Memory_write (ad := (fun n => match n with | 0 => f_l_tape | 1 => f_l_draw | 2 => f_l_is_int | 3 => f_l_same_ints | 4 => f_l_place | 5 => f_l_byte | 6 => f_l_window | 8 => f_Memory___init__ | 9 => f_Memory_size | 10 => f_Memory_read | 11 => f_Memory_write | 3002 => c_Memory | _ => 0)) F_Memory_write T, ⟨a_Memory_write, i_Memory_write, F_Memory_write.kp⟩, b_Memory_write, ⟨pg_Memory, hd_Memory, po_Memory, sa_Memory⟩⟩
  have O_Memory_size : DfM l.prog w K mg base 1 c_Memory "size" f_Memory_size _ ["self"] (SpD ⟨K, w, (fun n => match n with | 0 => f_l_tape | 1 => f_l_draw | 2 => f_l_is_int | 3 => f_l_same_ints | 4 => f_l_place | 5 => f_l_byte | 6 => f_l_window | 8 => f_Memory___init__ | 9 => f_Memory_size | 10 => f_Memory_read | 11 => f_Memory_write | 3002 => c_Memory | _ => 0)⟩ m_Memory_size) := ⟨ok_Memory_size (ad := (fun n => match n with | 0 => f_l_tape | 1 => f_l_draw | 2 => f_l_is_int | 3 => f_l_same_ints | 4 => f_l_place | 5 => f_l_byte | 6 => f_l_window | 8 => f_Memory___init__ | 9 => f_Memory_size | 10 => f_Memory_read | 11 => f_Memory_write | 3002 => c_Memory | _ => 0)) F_Memory_size T, ⟨a_Memory_size, i_Memory_size, F_Memory_size.kp⟩, b_Memory_size, ⟨pg_Memory, hd_Memory, po_Memory, sa_Memory⟩⟩
  have O_Memory___init__ : DfI l.prog w K mg base 1 "Memory" c_Memory f_Memory___init__ _ ["self", "pages", "most"] (SpD ⟨K, w, (fun n => match n with | 0 => f_l_tape | 1 => f_l_draw | 2 => f_l_is_int | 3 => f_l_same_ints | 4 => f_l_place | 5 => f_l_byte | 6 => f_l_window | 8 => f_Memory___init__ | 9 => f_Memory_size | 10 => f_Memory_read | 11 => f_Memory_write | 3002 => c_Memory | _ => 0)⟩ m_Memory___init__) := ⟨ok_Memory___init__ (ad := (fun n => match n with | 0 => f_l_tape | 1 => f_l_draw | 2 => f_l_is_int | 3 => f_l_same_ints | 4 => f_l_place | 5 => f_l_byte | 6 => f_l_window | 8 => f_Memory___init__ | 9 => f_Memory_size | 10 => f_Memory_read | 11 => f_Memory_write | 3002 => c_Memory | _ => 0)) F_Memory___init__ T, ⟨mk_Memory, a_Memory___init__, i_Memory___init__, kc_Memory⟩, PySem.W.mg_of X G cg_Memory, b_Memory___init__⟩
  exact Lk40.ok_law (ad := (fun n => match n with | 0 => f_l_tape | 1 => f_l_draw | 2 => f_l_is_int | 3 => f_l_same_ints | 4 => f_l_place | 5 => f_l_byte | 6 => f_l_window | 8 => f_Memory___init__ | 9 => f_Memory_size | 10 => f_Memory_read | 11 => f_Memory_write | 3002 => c_Memory | _ => 0)) F_law T O_l_tape O_l_draw O_l_is_int O_l_place O_l_byte O_l_window O_Memory___init__ O_Memory_size O_Memory_write
end Lk40
set_option Elab.async false
set_option linter.all false
set_option maxRecDepth 100000
set_option maxHeartbeats 4000000

open PySem PySem.W PyProof.Rows
local macro_rules | `(tactic| walk_at "keysLit3") => `(tactic| first | exact True.intro | (refine ⟨⟨_, rfl⟩, rfl, ?_, ?_⟩; (first | exact ⟨_, rfl⟩ | exact rfl); walk_at "keysLit3"))
set_option maxRecDepth 100000 in
set_option maxHeartbeats 0 in
theorem PySem.Challenge.cw_wasmhost_k40_memory_is_an_array_holds : PySem.Challenge.rw_wasmhost_k40_memory_is_an_array.Holds := by
  w_on; o_law; k_head; (case hw => w_witness2)
  k_fill
  refine L2.walk_ofK (l := PySem.Challenge.rw_wasmhost_k40_memory_is_an_array) (n := 63) (k := 4) (x := "_law_script") (CX := L2.CX0) (sp := Dm.sp_law) rfl (by decide) rfl ⟨rfl, by decide, by decide⟩ (fun w h Y => PySem.W.kIn_of Y) ?F (fun K H a ns hl _ hS => Dm.law_in hl hS) (fun _ _ _ _ h => h)
  case F =>
    intro w mg fa h KX G hmg
    refine' Lk40.all_mk KX G hmg ?cg_Memory ?a_l_tape ?l_l_tape ?c_l_tape ?k_l_tape ?a_l_draw ?l_l_draw ?c_l_draw ?k_l_draw ?a_l_is_int ?l_l_is_int ?c_l_is_int ?k_l_is_int ?a_l_same_ints ?l_l_same_ints ?c_l_same_ints ?k_l_same_ints ?a_l_place ?l_l_place ?c_l_place ?k_l_place ?a_l_byte ?l_l_byte ?c_l_byte ?k_l_byte ?a_l_window ?l_l_window ?c_l_window ?k_l_window ?a_law ?l_law ?c_law ?k_law ?a_Memory___init__ ?i_Memory___init__ ?l_Memory___init__ ?c_Memory___init__ ?k_Memory___init__ ?a_Memory_size ?i_Memory_size ?l_Memory_size ?c_Memory_size ?k_Memory_size ?a_Memory_read ?i_Memory_read ?l_Memory_read ?c_Memory_read ?k_Memory_read ?a_Memory_write ?i_Memory_write ?l_Memory_write ?c_Memory_write ?k_Memory_write ?z_bool ?z_enumerate ?z_int ?z_isinstance ?z_len ?z_list ?z_max ?z_min ?z_range ?z_sorted ?v_PAGE ?pg_Memory ?hd_Memory ?po_Memory ?sa_Memory ?mk_Memory ?kc_Memory ?na0_Memory ?na1_Memory ?na2_Memory
    (case cg_Memory => k_is)
    (case a_l_tape => k_is)
    (case l_l_tape => k_is)
    (case c_l_tape => k_is)
    (case k_l_tape => k_is)
    (case a_l_draw => k_is)
    (case l_l_draw => k_is)
    (case c_l_draw => k_is)
    (case k_l_draw => k_is)
    (case a_l_is_int => k_is)
    (case l_l_is_int => k_is)
    (case c_l_is_int => k_is)
    (case k_l_is_int => k_is)
    (case a_l_same_ints => k_is)
    (case l_l_same_ints => k_is)
    (case c_l_same_ints => k_is)
    (case k_l_same_ints => k_is)
    (case a_l_place => k_is)
    (case l_l_place => k_is)
    (case c_l_place => k_is)
    (case k_l_place => k_is)
    (case a_l_byte => k_is)
    (case l_l_byte => k_is)
    (case c_l_byte => k_is)
    (case k_l_byte => k_is)
    (case a_l_window => k_is)
    (case l_l_window => k_is)
    (case c_l_window => k_is)
    (case k_l_window => k_is)
    (case a_law => k_is)
    (case l_law => k_is)
    (case c_law => k_is)
    (case k_law => k_is)
    (case a_Memory___init__ => k_is)
    (case i_Memory___init__ => k_is)
    (case l_Memory___init__ => k_is)
    (case c_Memory___init__ => k_is)
    (case k_Memory___init__ => k_is)
    (case a_Memory_size => k_is)
    (case i_Memory_size => k_is)
    (case l_Memory_size => k_is)
    (case c_Memory_size => k_is)
    (case k_Memory_size => k_is)
    (case a_Memory_read => k_is)
    (case i_Memory_read => k_is)
    (case l_Memory_read => k_is)
    (case c_Memory_read => k_is)
    (case k_Memory_read => k_is)
    (case a_Memory_write => k_is)
    (case i_Memory_write => k_is)
    (case l_Memory_write => k_is)
    (case c_Memory_write => k_is)
    (case k_Memory_write => k_is)
    (case z_bool => k_is)
    (case z_enumerate => k_is)
    (case z_int => k_is)
    (case z_isinstance => k_is)
    (case z_len => k_is)
    (case z_list => k_is)
    (case z_max => k_is)
    (case z_min => k_is)
    (case z_range => k_is)
    (case z_sorted => k_is)
    (case v_PAGE => k_is)
    (case pg_Memory => k_is)
    (case hd_Memory => k_is)
    (case po_Memory => k_is)
    (case sa_Memory => k_is)
    (case mk_Memory => k_is)
    (case kc_Memory => k_is)
    (case na0_Memory => k_is)
    (case na1_Memory => k_is)
    (case na2_Memory => k_is)
