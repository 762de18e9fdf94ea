import PyProof.Rows.All
import Wide.All
import OpenK.AllK
import Wide.FinOn
import HandS.ForMost
import HandS.Evl
import HandS.IsInst
import HandS.Flow
import HandS.More
import HandS.Zip
import HandS.CallLocal
import HandS.Style
import HandS.Wide
import HandS.ForExc
import HandS.ExcInit
import HandS.ExcField
import HandS.StrMore
import HandS.WideBits
import HandS.TupAny
import HandS.Walk
import HandS.Rev
import KE.KExcIs
import HandS.Strs
import PyProof.Rows.SortShellAny
import KE.KBits
import KE.BitLaws
import PySem.Challenge.RW_wasmhost_k09_whole_long_words_in_halves
set_option Elab.async false
set_option linter.all false
set_option maxRecDepth 100000
set_option maxHeartbeats 4000000
/-! My own layer over HandS.Evl: statements relative to a ground heap, tests as propositions. -/
namespace Wm
open PySem L2 Evl RZ
/-- a call's promise of a new tuple -/
def SpU (sp : Sp) (vs : List V) (H : Hp) (xs : List V) : Prop := ∀ H1, Ex H H1 → ∀ Q : VK, (∀ p H2, H1 p = none → Ex H1 H2 → H2 p = some (.tup xs) → Q (.ref p) H2) → ∀ E : XK, sp vs H1 Q E
/-- a test, told by a proposition -/
def EtP (t : TT) (σ : L2.St) (H : Hp) (p : Prop) : Prop := ∃ b : Bool, (b = true ↔ p) ∧ EvT t σ H b
section
variable {K : PySem.W.Frag} {σ : L2.St} {H H0 H1 H' : Hp} {ta tb tc te tx : TE} {t u : TT} {x y z v : V} {r : R2} {D : Ends} {tu tw tz : TS} {p q : Prop} {g : TG}
theorem EtP.mono (e : Ex H H') (h : EtP t σ H p) : EtP t σ H' p := by
  obtain ⟨b, hb, h⟩ := h
  exact ⟨b, hb, h.mono e⟩
theorem EtP.to (h : EtP t σ H p) (e : p ↔ q) : EtP t σ H q := by
  obtain ⟨b, hb, h⟩ := h
  exact ⟨b, hb.trans e, h⟩
theorem ep_val {b : Bool} (h : Ev te σ H (.bl b)) : EtP (tB te) σ H (b = true) := ⟨b, Iff.rfl, et_B h⟩
theorem ep_test {b : Bool} (h : Ev te σ H (.bl b)) : EtP (tTest te) σ H (b = true) := ⟨b, Iff.rfl, et_test h⟩
theorem ep_dec {p : Prop} [Decidable p] (h : Ev te σ H (.bl (decide p))) : EtP (tTest te) σ H p := ⟨decide p, decide_eq_true_iff, et_test h⟩
theorem ep_ndec {p : Prop} [Decidable p] (h : Ev te σ H (.bl (!decide p))) : EtP (tTest te) σ H (¬ p) := ⟨!decide p, by simp, et_test h⟩
theorem ep_and (h1 : EtP t σ H p) (h2 : p → EtP u σ H q) : EtP (tAnd t u) σ H (p ∧ q) := by
  obtain ⟨a, ha, h1⟩ := h1
  by_cases hp : p
  · obtain ⟨b, hb, h2⟩ := h2 hp
    exact ⟨a && b, by rw [Bool.and_eq_true, ha, hb], et_and h1 fun _ => h2⟩
  · have e : a = false := by
      cases a with
      | true => exact absurd (ha.mp rfl) hp
      | false => rfl
    subst e
    refine ⟨false && false, ⟨fun z => (by cases z), fun z => absurd z.1 hp⟩, et_and h1 fun z => (by cases z)⟩
theorem ep_or (h1 : EtP t σ H p) (h2 : ¬ p → EtP u σ H q) : EtP (tOr t u) σ H (p ∨ q) := by
  obtain ⟨a, ha, h1⟩ := h1
  by_cases hp : p
  · have e : a = true := ha.mpr hp
    subst e
    refine ⟨true || false, ⟨fun _ => Or.inl hp, fun _ => rfl⟩, et_or h1 fun z => (by cases z)⟩
  · obtain ⟨b, hb, h2⟩ := h2 hp
    exact ⟨a || b, by rw [Bool.or_eq_true, ha, hb], et_or h1 fun _ => h2⟩
theorem ep_not (h1 : EtP t σ H p) : EtP (tNot t) σ H (¬ p) := by
  obtain ⟨a, ha, h1⟩ := h1
  refine ⟨!a, ?_, et_not h1⟩
  rw [← ha]
  cases a <;> simp
/-! values -/
theorem rv_eqI {i j : Int} : RV rEq (.int i) (.int j) H (.bl (decide (i = j))) := fun H1 _ Q q => ⟨rfl, by
  have e : decide (V.int i = V.int j) = decide (i = j) := by
    by_cases h : i = j
    · subst h; simp
    · rw [decide_eq_false h, decide_eq_false fun z => h (V.int.inj z)]
  rw [e]
  exact q H1 (Ex.refl H1)⟩
theorem rv_neI {i j : Int} : RV rNe (.int i) (.int j) H (.bl (!decide (i = j))) := fun H1 _ Q q => ⟨rfl, by
  have e : decide (V.int i = V.int j) = decide (i = j) := by
    by_cases h : i = j
    · subst h; simp
    · rw [decide_eq_false h, decide_eq_false fun z => h (V.int.inj z)]
  rw [e]
  exact q H1 (Ex.refl H1)⟩
theorem rv_eqS {i j : Str} : RV rEq (.str i) (.str j) H (.bl (decide (i = j))) := fun H1 _ Q q => ⟨rfl, by
  have e : decide (V.str i = V.str j) = decide (i = j) := by
    by_cases h : i = j
    · subst h; simp
    · rw [decide_eq_false h, decide_eq_false fun z => h (V.str.inj z)]
  rw [e]
  exact q H1 (Ex.refl H1)⟩
theorem rv_neS {i j : Str} : RV rNe (.str i) (.str j) H (.bl (!decide (i = j))) := fun H1 _ Q q => ⟨rfl, by
  have e : decide (V.str i = V.str j) = decide (i = j) := by
    by_cases h : i = j
    · subst h; simp
    · rw [decide_eq_false h, decide_eq_false fun z => h (V.str.inj z)]
  rw [e]
  exact q H1 (Ex.refl H1)⟩
theorem rv_eqB {i j : Bool} : RV rEq (.bl i) (.bl j) H (.bl (decide (i = j))) := fun H1 _ Q q => ⟨rfl, by
  have e : decide (V.bl i = V.bl j) = decide (i = j) := by
    by_cases h : i = j
    · subst h; simp
    · rw [decide_eq_false h, decide_eq_false fun z => h (V.bl.inj z)]
  rw [e]
  exact q H1 (Ex.refl H1)⟩
def rAddS2 : R2 := fun x y H Q => ∃ i j, x = .str i ∧ y = .str j ∧ i.length + j.length ≤ sizeLine ∧ Q (.str (i ++ j)) H
theorem rv_addS {i j : Str} (h : i.length + j.length ≤ 100000) : RV rAddS2 (.str i) (.str j) H (.str (i ++ j)) := fun H1 _ Q q => ⟨i, j, rfl, rfl, sz_of h, q H1 (Ex.refl H1)⟩
theorem flat_strs : ∀ l : List Str, (l.map V.str).all flatV = true
  | [] => rfl
  | _ :: r => by
    show (true && (r.map V.str).all flatV) = true
    rw [flat_strs r]
    rfl
theorem inV_strs (z : Str) : ∀ l : List Str, inV (.str z) (l.map V.str) = decide (z ∈ l)
  | [] => rfl
  | y :: r => by
    have ih := inV_strs z r
    unfold inV at ih ⊢
    rw [List.map_cons, List.any_cons, ih]
    have e : eqV (.str y) (.str z) = decide (y = z) := by
      unfold eqV
      first | rfl | simp
    rw [e]
    by_cases h : y = z
    · subst h; simp
    · have h2 : ¬ z = y := fun q => h q.symm
      simp [h, h2]
theorem rv_inTS {p : Addr} {z : Str} {ns : List Str} (h : SqT K H p (ns.map V.str)) : RV (rIn K false) (.str z) (.ref p) H (.bl (decide (z ∈ ns))) := by
  have q := rv_isT (x := .str z) h rfl (flat_strs ns)
  rw [inV_strs] at q
  exact q
theorem rv_niTS {p : Addr} {z : Str} {ns : List Str} (h : SqT K H p (ns.map V.str)) : RV (rIn K true) (.str z) (.ref p) H (.bl (!decide (z ∈ ns))) := by
  have q := rv_niT (x := .str z) h rfl (flat_strs ns)
  rw [inV_strs] at q
  exact q
theorem rv_inLS {p : Addr} {z : Str} {ns : List Str} (h : SqL K H p (ns.map V.str)) : RV (rIn K false) (.str z) (.ref p) H (.bl (decide (z ∈ ns))) := by
  have q := rv_isL (x := .str z) h rfl (flat_strs ns)
  rw [inV_strs] at q
  exact q
/-- if-expressions, chains -/
theorem ev_ifP {a b : V} (h : EtP t σ H p) (h1 : p → Ev ta σ H a) (h2 : ¬ p → Ev tb σ H b) [Decidable p] : Ev (tIf t ta tb) σ H (if p then a else b) := by
  obtain ⟨c, hc, h⟩ := h
  refine ev_if h (fun e => ?_) (fun e => ?_)
  · rw [if_pos (hc.mp e)]
    exact h1 (hc.mp e)
  · have hp : ¬ p := fun z => by
      have := hc.mpr z
      rw [e] at this
      cases this
    rw [if_neg hp]
    exact h2 hp
theorem ev_chain {r r' : R2} {a b : Bool} (ha : Ev ta σ H x) (hb : Ev tb σ H y) (hr : RV r x y H (.bl a)) (hc : a = true → Ev tc σ H z) (hr' : a = true → RV r' y z H (.bl b)) : Ev (tChain r r' ta tb tc) σ H (.bl (a && b)) := fun H1 e Q q =>
  ha H1 e _ fun H2 e2 => hb H2 (e.trans e2) _ fun H3 e3 => hr H3 ((e.trans e2).trans e3) _ fun H4 e4 => ⟨a, rfl, by
    cases a with
    | true =>
      rw [if_pos rfl]
      exact hc rfl H4 (((e.trans e2).trans e3).trans e4) _ fun H5 e5 => hr' rfl H5 ((((e.trans e2).trans e3).trans e4).trans e5) Q fun H6 e6 => q H6 ((((e2.trans e3).trans e4).trans e5).trans e6)
    | false =>
      rw [if_neg Bool.false_ne_true]
      exact q H4 ((e2.trans e3).trans e4)⟩
theorem ep_chain {r r' : R2} {p q : Prop} [Decidable p] [Decidable q] (ha : Ev ta σ H x) (hb : Ev tb σ H y) (hr : RV r x y H (.bl (decide p))) (hc : p → Ev tc σ H z) (hr' : p → RV r' y z H (.bl (decide q))) : EtP (tTest (tChain r r' ta tb tc)) σ H (p ∧ q) :=
  ⟨decide p && decide q, by simp, et_test (ev_chain ha hb hr (fun e => hc (of_decide_eq_true e)) (fun e => hr' (of_decide_eq_true e)))⟩
/-! built-ins -/
def rInt1 : List V → Hp → VK → Prop := fun xs H Q => (∃ i, xs = [.int i] ∧ Q (.int i) H) ∨ ∃ k, xs = [.bl k] ∧ Q (.int (if k then 1 else 0)) H
theorem ev_int {i : Int} (h : Ev ta σ H (.int i)) : Ev (tCB rInt1 (tCons ta tNil)) σ H (.int i) := fun H1 e Q q => h H1 e _ fun H2 e2 => Or.inl ⟨i, rfl, q H2 e2⟩
theorem ev_intB {b : Bool} (h : Ev ta σ H (.bl b)) : Ev (tCB rInt1 (tCons ta tNil)) σ H (.int (if b then 1 else 0)) := fun H1 e Q q => h H1 e _ fun H2 e2 => Or.inr ⟨b, rfl, q H2 e2⟩
def rStrI : List V → Hp → VK → Prop := fun xs H Q => ∃ i, xs = [.int i] ∧ i.natAbs.log2 < 1920 ∧ Q (.str (toString i)) H
theorem ev_str {i : Int} (h : Ev ta σ H (.int i)) (hz : i.natAbs.log2 < 1920) : Ev (tCB rStrI (tCons ta tNil)) σ H (.str (toString i)) := fun H1 e Q q => h H1 e _ fun H2 e2 => ⟨i, rfl, hz, q H2 e2⟩
def rAbs1 : List V → Hp → VK → Prop := fun xs H Q => ∃ i, xs = [.int i] ∧ Q (.int (if i < 0 then -i else i)) H
theorem ev_abs {i : Int} (h : Ev ta σ H (.int i)) : Ev (tCB rAbs1 (tCons ta tNil)) σ H (.int (if i < 0 then -i else i)) := fun H1 e Q q => h H1 e _ fun H2 e2 => ⟨i, rfl, q H2 e2⟩
def rMin2 : List V → Hp → VK → Prop := fun xs H Q => ∃ i j, xs = [.int i, .int j] ∧ Q (.int (if j < i then j else i)) H
theorem ev_min2 {i j : Int} (ha : Ev ta σ H (.int i)) (hb : Ev tb σ H (.int j)) : Ev (tCB rMin2 (tCons ta (tCons tb tNil))) σ H (.int (if j < i then j else i)) := fun H1 e Q q =>
  ha H1 e _ fun H2 e2 => hb H2 (e.trans e2) _ fun H3 e3 => ⟨i, j, rfl, q H3 (e2.trans e3)⟩
def rLenS1 : List V → Hp → VK → Prop := fun xs H Q => ∃ z, xs = [.str z] ∧ z.length ≤ sizeLine ∧ Q (.int z.length) H
theorem ev_lenS {z : Str} (h : Ev ta σ H (.str z)) (hz : z.length ≤ 100000) : Ev (tCB rLenS1 (tCons ta tNil)) σ H (.int z.length) := fun H1 e Q q => h H1 e _ fun H2 e2 => ⟨z, rfl, sz_of hz, q H2 e2⟩
theorem ev_lenT {p : Addr} {xs : List V} (ha : Ev ta σ H (.ref p)) (h : SqT K H p xs) : Ev (tCB (rLenS K) (tCons ta tNil)) σ H (.int (xs.length : Int)) := fun H1 e Q q =>
  ha H1 e _ fun H2 e2 => ⟨p, xs, rfl, Or.inr (ex_t (e.trans e2) h), q H2 e2⟩
/-- isinstance of a value and a class -/
theorem ev_isi {c : V} {ty u : Value} {b : Bool} (ha : Ev ta σ H x) (hb : Ev tb σ H c) (k : ClsV c u) (ht : ∀ H1, Ex H H1 → TyX K H1 x ty) (hk : PySem.W.kitOne K ty u = some b) : Ev (tCB (rIsi K) (tCons ta (tCons tb tNil))) σ H (.bl b) := fun H1 e Q q =>
  ha H1 e _ fun H2 e2 => hb H2 (e.trans e2) _ fun H3 e3 => ⟨x, c, ty, u, b, rfl, k, ht H3 ((e.trans e2).trans e3), hk, q H3 (e2.trans e3)⟩
theorem ty_int {i : Int} : ∀ H1, Ex H H1 → TyX K H1 (.int i) (.type "int") := fun _ _ => .base (.int i)
theorem ty_bl {b : Bool} : ∀ H1, Ex H H1 → TyX K H1 (.bl b) (.type "bool") := fun _ _ => .base (.bl b)
theorem ty_str {i : Str} : ∀ H1, Ex H H1 → TyX K H1 (.str i) (.type "str") := fun _ _ => .base (.str i)
theorem ty_non : ∀ H1, Ex H H1 → TyX K H1 .non (.type "NoneType") := fun _ _ => .base .non
theorem ev_lenI {p : Addr} {ns : List Int} (ha : Ev ta σ H (.ref p)) (h : SqL K H p (ns.map V.int)) : Ev (tCB (rLenS K) (tCons ta tNil)) σ H (.int (ns.length : Int)) := by
  have q := ev_len ha h
  rw [List.length_map] at q
  exact q
theorem ev_lenTI {p : Addr} {ns : List Int} (ha : Ev ta σ H (.ref p)) (h : SqT K H p (ns.map V.int)) : Ev (tCB (rLenS K) (tCons ta tNil)) σ H (.int (ns.length : Int)) := by
  have q := ev_lenT ha h
  rw [List.length_map] at q
  exact q
/-! lists of ints compared -/
theorem lay_ints : ∀ ns : List Int, PyData.canLayAll0 (ns.map PyData.int) = true
  | [] => rfl
  | n :: r => by
    show (PyData.canLay0 (.int n) && PyData.canLayAll0 (r.map PyData.int)) = true
    rw [lay_ints r]
    rfl
theorem depth_ints : ∀ ns : List Int, PyData.depthAll (ns.map PyData.int) = 0
  | [] => rfl
  | n :: r => by
    show max (PyData.depth (.int n)) (PyData.depthAll (r.map PyData.int)) = 0
    rw [depth_ints r]
    rfl
theorem eqv_ints : ∀ ns ms : List Int, PyData.eqvAll (ns.map PyData.int) (ms.map PyData.int) = decide (ns = ms)
  | [], [] => rfl
  | [], _ :: _ => rfl
  | _ :: _, [] => rfl
  | n :: r, m :: t => by
    show (n == m && PyData.eqvAll (r.map PyData.int) (t.map PyData.int)) = _
    rw [eqv_ints r t]
    by_cases h : n = m
    · subst h; simp
    · simp [h]
theorem shaped_ints (ns : List Int) : SeqAt.shaped (.list (ns.map PyData.int)) = true := by
  unfold SeqAt.shaped
  rw [Bool.and_eq_true]
  refine ⟨lay_ints ns, decide_eq_true ?_⟩
  show PyData.depthAll (ns.map PyData.int) + 1 ≤ 64
  rw [depth_ints]
  decide
theorem dp_ints : ∀ ns : List Int, DpAll K H (ns.map V.int) (ns.map PyData.int)
  | [] => .nil
  | n :: r => .cons (.int n) (dp_ints r)
theorem rv_eqDI {p q : Addr} {ns ms : List Int} (h1 : SqL K H p (ns.map V.int)) (h2 : SqL K H q (ms.map V.int)) : RV (rEqD K) (.ref p) (.ref q) H (.bl (decide (ns = ms))) := fun H1 e Q k =>
  ⟨_, _, .lst (ex_l e h1) (dp_ints ns), .lst (ex_l e h2) (dp_ints ms), shaped_ints ns, shaped_ints ms, by
    show Q (.bl (PyData.eqvAll _ _)) H1
    rw [eqv_ints]
    exact k H1 (Ex.refl H1)⟩
theorem rv_neDI {p q : Addr} {ns ms : List Int} (h1 : SqL K H p (ns.map V.int)) (h2 : SqL K H q (ms.map V.int)) : RV (rNeD K) (.ref p) (.ref q) H (.bl (!decide (ns = ms))) := fun H1 e Q k =>
  ⟨_, _, .lst (ex_l e h1) (dp_ints ns), .lst (ex_l e h2) (dp_ints ms), shaped_ints ns, shaped_ints ms, by
    show Q (.bl (!PyData.eqvAll _ _)) H1
    rw [eqv_ints]
    exact k H1 (Ex.refl H1)⟩
theorem cutV_mid (xs : List V) (a b : Nat) : cutV xs (some (a : Int)) (some (b : Int)) = (xs.drop a).take (b - a) := by
  unfold cutV
  rw [HT.sIx_nat, HT.sIx_nat]
  by_cases h : a ≤ xs.length
  · have e1 : min a xs.length = a := by omega
    rw [e1]
    by_cases g : b ≤ xs.length
    · have e2 : min b xs.length = b := by omega
      rw [e2]
    · have e2 : min b xs.length = xs.length := by omega
      rw [e2, List.take_of_length_le (by rw [List.length_drop]; omega), List.take_of_length_le (by rw [List.length_drop]; omega)]
  · have e1 : min a xs.length = xs.length := by omega
    rw [e1, List.drop_of_length_le (Nat.le_refl _), List.drop_of_length_le (show xs.length ≤ a by omega), List.take_nil, List.take_nil]
/-! a list or a tuple -/
theorem q_mv {P : Hp → Prop} (e : Ex H H') (q : ∀ H1, Ex H H1 → P H1) : ∀ H1, Ex H' H1 → P H1 := fun H1 e1 => q H1 (e.trans e1)
theorem q_mvL {P : Addr → Hp → Prop} {o : HO} (e : Ex H H') (q : ∀ p H1, H p = none → Ex H H1 → H1 p = some o → P p H1) : ∀ p H1, H' p = none → Ex H' H1 → H1 p = some o → P p H1 := fun p H1 hp e1 h1 => q p H1 (fresh_back e hp) (e.trans e1) h1
theorem ty_list {a : Addr} {xs : List V} (h : H a = some (.lst xs)) : ∀ H1, Ex H H1 → TyX K H1 (.ref a) (.type "list") := fun H1 e => .base (.lst (e a _ h))
theorem ty_tup {a : Addr} {xs : List V} (h : H a = some (.tup xs)) : ∀ H1, Ex H H1 → TyX K H1 (.ref a) (.type "tuple") := fun H1 e => .base (.tup (e a _ h))
def SqQ (K : PySem.W.Frag) (H : Hp) (a : Addr) (xs : List V) : Prop := SqL K H a xs ∨ SqT K H a xs
theorem ex_q {a : Addr} {xs : List V} (e : Ex H H') (h : SqQ K H a xs) : SqQ K H' a xs := h.elim (fun z => Or.inl (ex_l e z)) fun z => Or.inr (ex_t e z)
theorem at_ints {ns : List Int} {i : Int} (h0 : 0 ≤ i) (h1 : i < (ns.length : Int)) : atI (ns.map V.int) i = some (.int (ns.getD i.toNat 0)) := by
  obtain ⟨j, rfl⟩ : ∃ j : Nat, i = (j : Int) := ⟨i.toNat, by omega⟩
  have hj : j < ns.length := by omega
  refine atI_nat ?_
  rw [List.getElem?_map, List.getElem?_eq_getElem hj]
  show some (V.int ns[j]) = some (V.int (ns.getD ((j : Int).toNat) 0))
  rw [Int.toNat_natCast, List.getD_eq_getElem?_getD, List.getElem?_eq_getElem hj]
  rfl
theorem rv_ixQI {p : Addr} {ns : List Int} {i : Int} (h : SqQ K H p (ns.map V.int)) (h0 : 0 ≤ i) (h1 : i < (ns.length : Int)) : RV (rIx K) (.ref p) (.int i) H (.int (ns.getD i.toNat 0)) := fun H1 e Q q =>
  h.elim (fun z => Or.inl ⟨p, _, i, _, rfl, rfl, ex_l e z, at_ints h0 h1, q H1 (Ex.refl H1)⟩) fun z => Or.inr (Or.inl ⟨p, _, i, _, rfl, rfl, ex_t e z, at_ints h0 h1, q H1 (Ex.refl H1)⟩)
theorem ev_lenQ {p : Addr} {xs : List V} (ha : Ev ta σ H (.ref p)) (h : SqQ K H p xs) : Ev (tCB (rLenS K) (tCons ta tNil)) σ H (.int (xs.length : Int)) := fun H1 e Q q =>
  ha H1 e _ fun H2 e2 => ⟨p, xs, rfl, h.elim (fun z => Or.inl (ex_l (e.trans e2) z)) fun z => Or.inr (ex_t (e.trans e2) z), q H2 e2⟩
theorem ev_lenQI {p : Addr} {ns : List Int} (ha : Ev ta σ H (.ref p)) (h : SqQ K H p (ns.map V.int)) : Ev (tCB (rLenS K) (tCons ta tNil)) σ H (.int (ns.length : Int)) := by
  have q := ev_lenQ ha h
  rw [List.length_map] at q
  exact q
theorem el_listQ {p : Addr} {xs : List V} (ha : Ev ta σ H (.ref p)) (h : SqQ K H p xs) : EvL (tCB (rListS K) (tCons ta tNil)) σ H xs := fun H1 e Q q =>
  ha H1 e _ fun H2 e2 => ⟨p, xs, rfl, h.elim (fun z => Or.inl (ex_l (e.trans e2) z)) fun z => Or.inr (ex_t (e.trans e2) z), fun l hl => q l _ (fresh_back e2 hl) (e2.trans (Ex.new hl)) upd_same⟩
def rTupS (K : PySem.W.Frag) : List V → Hp → VK → Prop := fun xs H Q => ∃ p ys, xs = [.ref p] ∧ ((SqL K H p ys ∧ ∀ l, H l = none → Q (.ref l) (upd H l (.tup ys))) ∨ (SqT K H p ys ∧ Q (.ref p) H))
theorem eu_tupL {p : Addr} {xs : List V} (ha : Ev ta σ H (.ref p)) (h : SqL K H p xs) : EvU (tCB (rTupS K) (tCons ta tNil)) σ H xs := fun H1 e Q q =>
  ha H1 e _ fun H2 e2 => ⟨p, xs, rfl, Or.inl ⟨ex_l (e.trans e2) h, fun l hl => q l _ (fresh_back e2 hl) (e2.trans (Ex.new hl)) upd_same⟩⟩
theorem eu_tupN {xs : List V} (ha : EvL ta σ H xs) : EvU (tCB (rTupS K) (tCons ta tNil)) σ H xs := fun H1 e Q q =>
  ha H1 e _ fun p H2 _ e2 hp => ⟨p, xs, rfl, Or.inl ⟨sq_of hp, fun l hl => q l _ (fresh_back e2 hl) (e2.trans (Ex.new hl)) upd_same⟩⟩
theorem el_listN {xs : List V} (ha : EvL ta σ H xs) : EvL (tCB (rListS K) (tCons ta tNil)) σ H xs := fun H1 e Q q =>
  ha H1 e _ fun p H2 _ e2 hp => ⟨p, xs, rfl, Or.inl (sq_of hp), fun l hl => q l _ (fresh_back e2 hl) (e2.trans (Ex.new hl)) upd_same⟩
/-- a call whose one argument is a new list, a new tuple -/
theorem ev_call1L {sp : Sp} {xs : List V} {E : XK} (h : EvL ta σ H xs) (hs : ∀ p H1, Ex H H1 → H1 p = some (.lst xs) → SpV sp [.ref p] H1 z) : Ev (tCall sp [] E (tCons ta tNil)) σ H z := fun H1 e Q q =>
  h H1 e _ fun p H2 _ e2 hp => hs p H2 (e.trans e2) hp H2 (Ex.refl H2) Q (fun H3 e3 => q H3 (e2.trans e3)) E
theorem ev_call1U {sp : Sp} {xs : List V} {E : XK} (h : EvU ta σ H xs) (hs : ∀ p H1, Ex H H1 → H1 p = some (.tup xs) → SpV sp [.ref p] H1 z) : Ev (tCall sp [] E (tCons ta tNil)) σ H z := fun H1 e Q q =>
  h H1 e _ fun p H2 _ e2 hp => hs p H2 (e.trans e2) hp H2 (Ex.refl H2) Q (fun H3 e3 => q H3 (e2.trans e3)) E
/-- arguments some of which are new objects -/
def EvAX (ta : TA) (σ : L2.St) (H : Hp) (P : List V → Hp → Prop) : Prop := ∀ H1, Ex H H1 → ∀ Q : List V → Hp → Prop, (∀ vs H2, Ex H1 H2 → P vs H2 → Q vs H2) → ta σ H1 Q
theorem eax_nil : EvAX tNil σ H (fun vs _ => vs = []) := fun H1 _ _ q => q [] H1 (Ex.refl H1) rfl
theorem eax_V {tr : TA} {P : List V → Hp → Prop} (h : Ev ta σ H v) (hr : EvAX tr σ H P) : EvAX (tCons ta tr) σ H (fun vs H => ∃ r, vs = v :: r ∧ P r H) := fun H1 e Q q =>
  h H1 e _ fun H2 e2 => hr H2 (e.trans e2) _ fun vs H3 e3 hp => q _ H3 (e2.trans e3) ⟨vs, rfl, hp⟩
theorem eax_L {tr : TA} {P : List V → Hp → Prop} {xs : List V} (h : EvL ta σ H xs) (hr : EvAX tr σ H P) : EvAX (tCons ta tr) σ H (fun vs H => ∃ p r, vs = .ref p :: r ∧ H p = some (.lst xs) ∧ P r H) := fun H1 e Q q =>
  h H1 e _ fun p H2 _ e2 h2 => hr H2 (e.trans e2) _ fun vs H3 e3 hp => q _ H3 (e2.trans e3) ⟨p, vs, rfl, e3 _ _ h2, hp⟩
theorem eax_U {tr : TA} {P : List V → Hp → Prop} {xs : List V} (h : EvU ta σ H xs) (hr : EvAX tr σ H P) : EvAX (tCons ta tr) σ H (fun vs H => ∃ p r, vs = .ref p :: r ∧ H p = some (.tup xs) ∧ P r H) := fun H1 e Q q =>
  h H1 e _ fun p H2 _ e2 h2 => hr H2 (e.trans e2) _ fun vs H3 e3 hp => q _ H3 (e2.trans e3) ⟨p, vs, rfl, e3 _ _ h2, hp⟩
theorem ev_callX {sp : Sp} {P : List V → Hp → Prop} {E : XK} {tr : TA} (h : EvAX tr σ H P) (hs : ∀ vs H1, Ex H H1 → P vs H1 → SpV sp vs H1 z) : Ev (tCall sp [] E tr) σ H z := fun H1 e Q q =>
  h H1 e _ fun vs H2 e2 hp => by
    rw [List.append_nil]
    exact hs vs H2 (e.trans e2) hp H2 (Ex.refl H2) Q (fun H3 e3 => q H3 (e2.trans e3)) E
theorem el_callX {sp : Sp} {P : List V → Hp → Prop} {E : XK} {tr : TA} {xs : List V} (h : EvAX tr σ H P) (hs : ∀ vs H1, Ex H H1 → P vs H1 → SpL sp vs H1 xs) : EvL (tCall sp [] E tr) σ H xs := fun H1 e Q q =>
  h H1 e _ fun vs H2 e2 hp => by
    rw [List.append_nil]
    exact hs vs H2 (e.trans e2) hp H2 (Ex.refl H2) Q (fun p H3 h3 e3 g => q p H3 (fresh_back e2 h3) (e2.trans e3) g) E
theorem eu_callX {sp : Sp} {P : List V → Hp → Prop} {E : XK} {tr : TA} {xs : List V} (h : EvAX tr σ H P) (hs : ∀ vs H1, Ex H H1 → P vs H1 → SpU sp vs H1 xs) : EvU (tCall sp [] E tr) σ H xs := fun H1 e Q q =>
  h H1 e _ fun vs H2 e2 hp => by
    rw [List.append_nil]
    exact hs vs H2 (e.trans e2) hp H2 (Ex.refl H2) Q (fun p H3 h3 e3 g => q p H3 (fresh_back e2 h3) (e2.trans e3) g) E
/-! new tuples and lists from calls -/
theorem eu_call {sp : Sp} {dvs vs xs : List V} {E : XK} {ta : TA} (h : EvA ta σ H vs) (hs : SpU sp (vs ++ dvs) H xs) : EvU (tCall sp dvs E ta) σ H xs := fun H1 e Q q =>
  h H1 e _ fun H2 e2 => hs H2 (e.trans e2) Q (fun p H3 hp e3 h3 => q p H3 (fresh_back e2 hp) (e2.trans e3) h3) E
/-! ### statements relative to a ground heap H0 -/
theorem r_asg {i : Nat} (e : Ex H0 H1) (h : Ev te σ H0 v) (k : ∀ H2, Ex H0 H2 → Ex H1 H2 → tz D (σ.set i (some v)) H2) : tSeq (tAsg te (gName i)) tz D σ H1 := h H1 e _ fun H2 e2 => k H2 (e.trans e2) e2
/-- the value as a letter -/
theorem r_asgI {i : Nat} {z : Int} (e : Ex H0 H1) (h : Ev te σ H0 (.int z)) (k : ∀ n, n = z → ∀ H2, Ex H0 H2 → Ex H1 H2 → tz D (σ.set i (some (.int n))) H2) : tSeq (tAsg te (gName i)) tz D σ H1 := r_asg e h (k z rfl)
theorem r_asgS {i : Nat} {z : Str} (e : Ex H0 H1) (h : Ev te σ H0 (.str z)) (k : ∀ n, n = z → ∀ H2, Ex H0 H2 → Ex H1 H2 → tz D (σ.set i (some (.str n))) H2) : tSeq (tAsg te (gName i)) tz D σ H1 := r_asg e h (k z rfl)
theorem r_asgB {i : Nat} {z : Bool} (e : Ex H0 H1) (h : Ev te σ H0 (.bl z)) (k : ∀ n, n = z → ∀ H2, Ex H0 H2 → Ex H1 H2 → tz D (σ.set i (some (.bl n))) H2) : tSeq (tAsg te (gName i)) tz D σ H1 := r_asg e h (k z rfl)
/-- a new list, a new tuple: the ground moves on -/
theorem r_asgL {i : Nat} {xs : List V} (e : Ex H0 H1) (h : EvL te σ H0 xs) (k : ∀ p H2, H0 p = none → Ex H0 H2 → Ex H1 H2 → H2 p = some (.lst xs) → tz D (σ.set i (some (.ref p))) H2) : tSeq (tAsg te (gName i)) tz D σ H1 :=
  h H1 e _ fun p H2 hp e2 h2 => k p H2 (fresh_back e hp) (e.trans e2) e2 h2
theorem r_asgU {i : Nat} {xs : List V} (e : Ex H0 H1) (h : EvU te σ H0 xs) (k : ∀ p H2, H0 p = none → Ex H0 H2 → Ex H1 H2 → H2 p = some (.tup xs) → tz D (σ.set i (some (.ref p))) H2) : tSeq (tAsg te (gName i)) tz D σ H1 :=
  h H1 e _ fun p H2 hp e2 h2 => k p H2 (fresh_back e hp) (e.trans e2) e2 h2
theorem r_aug {i : Nat} {f : Int → Int → Int} {a b : Int} (e : Ex H0 H1) (hx : σ[i]? = some (some (.int a))) (h : Ev te σ H0 (.int b)) (k : ∀ H2, Ex H0 H2 → Ex H1 H2 → tz D (σ.set i (some (.int (f a b)))) H2) : tSeq (tAug i te (ipI f)) tz D σ H1 :=
  ⟨.int a, hx, h H1 e _ fun H2 e2 => ⟨a, b, rfl, rfl, k H2 (e.trans e2) e2⟩⟩
theorem r_if (e : Ex H0 H1) (h : EtP t σ H0 p) (h1 : p → ∀ H2, Ex H0 H2 → Ex H1 H2 → tu { D with nx := tz D } σ H2) (h2 : ¬ p → ∀ H2, Ex H0 H2 → Ex H1 H2 → tw { D with nx := tz D } σ H2) : tSeq (tIfS t tu tw) tz D σ H1 := by
  obtain ⟨b, hb, h⟩ := h
  refine h H1 e _ fun H2 e2 => ?_
  cases b with
  | true => exact h1 (hb.mp rfl) H2 (e.trans e2) e2
  | false => exact h2 (fun z => nomatch hb.mpr z) H2 (e.trans e2) e2
/-- an if without else whose way ends -/
theorem r_when (e : Ex H0 H1) (h : EtP t σ H0 p) (h1 : p → ∀ H2, Ex H0 H2 → Ex H1 H2 → tu { D with nx := tz D } σ H2) (h2 : ¬ p → ∀ H2, Ex H0 H2 → Ex H1 H2 → tz D σ H2) : tSeq (tIfS t tu tNext) tz D σ H1 := r_if e h h1 h2
/-- an if both of whose ways go on (its term: pss_cut): J tells the slots and the heap behind it -/
theorem r_ifJ (e : Ex H0 H1) (h : EtP t σ H0 p) (J : L2.St → Hp → Prop) (h1 : p → ∀ H2, Ex H0 H2 → Ex H1 H2 → tu { D with nx := J } σ H2) (h2 : ¬ p → ∀ H2, Ex H0 H2 → Ex H1 H2 → tw { D with nx := J } σ H2) (hd : ∀ σ' H', J σ' H' → tz D σ' H') : tCut (tIfS t tu tw) tz D σ H1 := by
  refine ⟨J, ?_, hd⟩
  obtain ⟨b, hb, h⟩ := h
  refine h H1 e _ fun H2 e2 => ?_
  cases b with
  | true => exact h1 (hb.mp rfl) H2 (e.trans e2) e2
  | false => exact h2 (fun z => nomatch hb.mpr z) H2 (e.trans e2) e2
theorem r_ret (e : Ex H0 H1) (h : Ev te σ H0 v) (k : ∀ H2, Ex H0 H2 → D.rt v H2) : tSeq (tRet te) tz D σ H1 := h H1 e _ fun H2 e2 => k H2 (e.trans e2)
theorem r_retL {xs : List V} (e : Ex H0 H1) (h : EvL te σ H0 xs) (k : ∀ p H2, H0 p = none → Ex H0 H2 → H2 p = some (.lst xs) → D.rt (.ref p) H2) : tSeq (tRet te) tz D σ H1 := h H1 e _ fun p H2 hp e2 h2 => k p H2 (fresh_back e hp) (e.trans e2) h2
theorem r_retU {xs : List V} (e : Ex H0 H1) (h : EvU te σ H0 xs) (k : ∀ p H2, H0 p = none → Ex H0 H2 → H2 p = some (.tup xs) → D.rt (.ref p) H2) : tSeq (tRet te) tz D σ H1 := h H1 e _ fun p H2 hp e2 h2 => k p H2 (fresh_back e hp) (e.trans e2) h2
/-- return of a new tuple some of whose items are new -/
theorem r_retT {ta : TA} {P : List V → Hp → Prop} (e : Ex H0 H1) (h : EvAX ta σ H0 P) (hz : ∀ vs H, P vs H → vs.length ≤ 100000) (k : ∀ vs p H2 H3, P vs H2 → Ex H0 H2 → Ex H2 H3 → H0 p = none → H3 p = some (.tup vs) → D.rt (.ref p) H3) : tSeq (tRet (tTup ta)) tz D σ H1 :=
  h H1 e _ fun vs H2 e2 hp => ⟨sz_of (hz vs H2 hp), fun p hn => k vs p H2 _ hp (e.trans e2) (Ex.new hn) (fresh_back (e.trans e2) hn) upd_same⟩
theorem r_drop (e : Ex H0 H1) (h : Ev te σ H0 v) (k : ∀ H2, Ex H0 H2 → Ex H1 H2 → tz D σ H2) : tSeq (tDrop te) tz D σ H1 := h H1 e _ fun H2 e2 => k H2 (e.trans e2) e2
theorem r_next (h : D.nx σ H) : tNext D σ H := h
theorem r_seq {t1 : TS} (h : t1 { D with nx := tz D } σ H) : tSeq t1 tz D σ H := h
/-- xs.append(e): the list is not in the ground -/
theorem r_app {l : Addr} {xs : List V} (e : Ex H0 H1) (hn : H0 l = none) (hl : H1 l = some (.lst xs)) (ha : Ev ta σ H0 (.ref l)) (h : Ev te σ H0 v) (hz : xs.length < 100000)
    (k : ∀ H2, Ex H0 H2 → H2 l = some (.lst (xs ++ [v])) → (∀ a o, a ≠ l → H1 a = some o → H2 a = some o) → tz D σ H2) : tSeq (tDrop (tBM K "list" rAppend ta (tCons te tNil))) tz D σ H1 := ha H1 e _ fun H2 e1 =>
  ⟨Or.inl ⟨rfl, xs, sq_of (e1 l _ hl)⟩, h H2 (e.trans e1) _ fun H3 e2 => ⟨l, xs, v, rfl, rfl, e2 l _ (e1 l _ hl), sz_lt hz, k _ (Ex.mut ((e.trans e1).trans e2) hn) upd_same fun a o ne ho => by
    rw [upd_ne ne]
    exact e2 a o (e1 a o ho)⟩⟩
theorem r_appM {α : Type} {f : α → V} {l : Addr} {ms : List α} {n : α} (e : Ex H0 H1) (hn : H0 l = none) (hl : H1 l = some (.lst (ms.map f))) (ha : Ev ta σ H0 (.ref l)) (h : Ev te σ H0 (f n)) (hz : ms.length < 100000)
    (k : ∀ H2, Ex H0 H2 → H2 l = some (.lst ((ms ++ [n]).map f)) → (∀ a o, a ≠ l → H1 a = some o → H2 a = some o) → tz D σ H2) : tSeq (tDrop (tBM K "list" rAppend ta (tCons te tNil))) tz D σ H1 :=
  r_app e hn hl ha h (by rw [List.length_map]; exact hz) fun H2 e2 h2 hk => k H2 e2 (by rw [List.map_append]; exact h2) hk
theorem r_appU {l : Addr} {xs ys : List V} (e : Ex H0 H1) (hn : H0 l = none) (hl : H1 l = some (.lst xs)) (ha : Ev ta σ H0 (.ref l)) (h : EvU te σ H0 ys) (hz : xs.length < 100000)
    (k : ∀ p H2, H1 p = none → p ≠ l → Ex H0 H2 → H2 l = some (.lst (xs ++ [.ref p])) → H2 p = some (.tup ys) → (∀ a o, a ≠ l → H1 a = some o → H2 a = some o) → tz D σ H2) : tSeq (tDrop (tBM K "list" rAppend ta (tCons te tNil))) tz D σ H1 := ha H1 e _ fun H2 e1 =>
  ⟨Or.inl ⟨rfl, xs, sq_of (e1 l _ hl)⟩, h H2 (e.trans e1) _ fun p H3 hp e2 h2 => by
    have ne : p ≠ l := fun z => by
      rw [z, e1 l _ hl] at hp
      cases hp
    refine ⟨l, xs, .ref p, rfl, rfl, e2 l _ (e1 l _ hl), sz_lt hz, k p _ (fresh_back e1 hp) ne (Ex.mut ((e.trans e1).trans e2) hn) upd_same (by rw [upd_ne ne]; exact h2) fun a o ne ho => ?_⟩
    rw [upd_ne ne]
    exact e2 a o (e1 a o ho)⟩
/-- a call that hands back a new list of which P holds -/
def EvLE (te : TE) (σ : L2.St) (H : Hp) (P : List V → Prop) : Prop := ∀ H1, Ex H H1 → ∀ Q : VK, (∀ p H2 xs, P xs → H1 p = none → Ex H1 H2 → H2 p = some (.lst xs) → Q (.ref p) H2) → te σ H1 Q
def SpLE (sp : Sp) (vs : List V) (H : Hp) (P : List V → Prop) : Prop := ∀ H1, Ex H H1 → ∀ Q : VK, (∀ p H2 xs, P xs → H1 p = none → Ex H1 H2 → H2 p = some (.lst xs) → Q (.ref p) H2) → ∀ E : XK, sp vs H1 Q E
theorem ele_call {sp : Sp} {dvs vs : List V} {P : List V → Prop} {E : XK} {ta : TA} (h : EvA ta σ H vs) (hs : SpLE sp (vs ++ dvs) H P) : EvLE (tCall sp dvs E ta) σ H P := fun H1 e Q q =>
  h H1 e _ fun H2 e2 => hs H2 (e.trans e2) Q (fun p H3 xs hx hp e3 h3 => q p H3 xs hx (fresh_back e2 hp) (e2.trans e3) h3) E
theorem r_asgLE {i : Nat} {P : List V → Prop} (e : Ex H0 H1) (h : EvLE te σ H0 P) (k : ∀ p H2 xs, P xs → H0 p = none → Ex H0 H2 → Ex H1 H2 → H2 p = some (.lst xs) → tz D (σ.set i (some (.ref p))) H2) : tSeq (tAsg te (gName i)) tz D σ H1 :=
  h H1 e _ fun p H2 xs hx hp e2 h2 => k p H2 xs hx (fresh_back e hp) (e.trans e2) e2 h2
/-- for a, b in zip(t, u) over two tuples -/
theorem r_forZT {a b : Addr} {xs ys : List V} {ta : TA} {j k : Nat} (e : Ex H0 H1) (h : EvA ta σ H0 [.ref a, .ref b]) (hl : xs.length = ys.length) (hx : SqT K H0 a xs) (hy : SqT K H0 b ys) (I : Nat → L2.St → Prop) (h0 : I 0 σ)
    (hs : ∀ (i : Nat) x y σ' H', xs[i]? = some x → ys[i]? = some y → I i σ' → Ex H0 H' → tu { D with nx := fun σ2 H2 => I (i + 1) σ2 ∧ Ex H0 H2, ct := fun σ2 H2 => I (i + 1) σ2 ∧ Ex H0 H2, bk := tz D } ((σ'.set j (some x)).set k (some y)) H')
    (hd : ∀ σ' H', I xs.length σ' → Ex H0 H' → tz D σ' H') : tSeq (tFor (iZipA K ta) (gTup K 2 (gCons (gName j) (gCons (gName k) gNil))) tu) tz D σ H1 :=
  h H1 e _ fun H2 e2 => ⟨a, b, xs, ys, rfl, Or.inr ⟨ex_t (e.trans e2) hx, ex_t (e.trans e2) hy, for_zipT (D := { D with nx := tz D }) hl (fun i σ' H' => I i σ' ∧ Ex H0 H') ⟨h0, e.trans e2⟩ (fun i σ' H' p => ⟨ex_t p.2 hx, ex_t p.2 hy⟩)
    (fun i x y T σ' H' hi hj p hT => ⟨T, [x, y], rfl, st_of upd_same, rfl, x, [y], rfl, y, [], rfl, rfl, hs i x y σ' _ hi hj p.1 (p.2.trans (Ex.new hT))⟩) fun σ' H' p => hd σ' H' p.1 p.2⟩⟩
theorem r_forZTM {α β : Type} {f : α → V} {g : β → V} {a b : Addr} {xs : List α} {ys : List β} {ta : TA} {j k : Nat} (e : Ex H0 H1) (h : EvA ta σ H0 [.ref a, .ref b]) (hl : xs.length = ys.length) (hx : SqT K H0 a (xs.map f)) (hy : SqT K H0 b (ys.map g)) (I : Nat → L2.St → Prop) (h0 : I 0 σ)
    (hs : ∀ (i : Nat) x y σ' H', xs[i]? = some x → ys[i]? = some y → I i σ' → Ex H0 H' → tu { D with nx := fun σ2 H2 => I (i + 1) σ2 ∧ Ex H0 H2, ct := fun σ2 H2 => I (i + 1) σ2 ∧ Ex H0 H2, bk := tz D } ((σ'.set j (some (f x))).set k (some (g y))) H')
    (hd : ∀ σ' H', I xs.length σ' → Ex H0 H' → tz D σ' H') : tSeq (tFor (iZipA K ta) (gTup K 2 (gCons (gName j) (gCons (gName k) gNil))) tu) tz D σ H1 :=
  r_forZT e h (by rw [List.length_map, List.length_map]; exact hl) hx hy I h0 (fun i x y σ' H' hi hj p e => by
    rw [List.getElem?_map] at hi hj
    cases c : xs[i]? with
    | none => rw [c] at hi; cases hi
    | some u =>
      cases d : ys[i]? with
      | none => rw [d] at hj; cases hj
      | some v =>
        rw [c] at hi
        rw [d] at hj
        obtain rfl : f u = x := Option.some.inj hi
        obtain rfl : g v = y := Option.some.inj hj
        exact hs i u v σ' H' c d p e) fun σ' H' p e => hd σ' H' (by rw [List.length_map] at p; exact p) e
/-- xs.pop() as a statement -/
theorem r_pop {l : Addr} {xs : List V} {y : V} (e : Ex H0 H1) (hn : H0 l = none) (hl : H1 l = some (.lst xs)) (ha : Ev ta σ H0 (.ref l)) (hy : xs[xs.length - 1]? = some y)
    (k : ∀ H2, Ex H0 H2 → H2 l = some (.lst xs.dropLast) → (∀ a o, a ≠ l → H1 a = some o → H2 a = some o) → tz D σ H2) : tSeq (tDrop (tBM0 K "list" rPop ta)) tz D σ H1 := ha H1 e _ fun H2 e1 =>
  ⟨Or.inl ⟨rfl, xs, sq_of (e1 l _ hl)⟩, l, xs, y, rfl, rfl, e1 l _ hl, hy, k _ (Ex.mut (e.trans e1) hn) upd_same fun a o ne ho => by
    rw [upd_ne ne]
    exact e1 a o ho⟩
/-- for over range(n), by a word of the slots; the heap only grows -/
theorem r_forR {ta : TA} {j : Nat} {n : Int} (e : Ex H0 H1) (h : EvA ta σ H0 [.int n]) (hn : -100000 ≤ n ∧ n ≤ 100000) (I : Nat → L2.St → Prop) (h0 : I 0 σ)
    (hs : ∀ (i : Nat) σ' H', (i : Int) < n → I i σ' → Ex H0 H' → tu { D with nx := fun σ2 H2 => I (i + 1) σ2 ∧ Ex H0 H2, ct := fun σ2 H2 => I (i + 1) σ2 ∧ Ex H0 H2, bk := tz D } (σ'.set j (some (.int (i : Int)))) H')
    (hd : ∀ σ' H', I n.toNat σ' → Ex H0 H' → tz D σ' H') : tSeq (tFor (iRng1 ta) (gName j) tu) tz D σ H1 :=
  h H1 e _ fun H2 e2 => ⟨n, rfl, by omega, by omega, for_range (lo := 0) (n := n.toNat) (D := { D with nx := tz D }) (fun i σ' H' => I i σ' ∧ Ex H0 H') ⟨h0, e.trans e2⟩ (fun i σ' H' hi p => by
    have e0 : (0 : Int) + (i : Int) = (i : Int) := Int.zero_add _
    show tu { D with nx := fun σ2 H2 => I (i + 1) σ2 ∧ Ex H0 H2, ct := fun σ2 H2 => I (i + 1) σ2 ∧ Ex H0 H2, bk := tz D } (σ'.set j (some (.int ((0 : Int) + (i : Int))))) H'
    rw [e0]
    exact hs i σ' H' (by omega) p.1 p.2) fun σ' H' p => hd σ' H' p.1 p.2⟩
/-- .. by a word of the slots and the heap -/
theorem r_forRH {ta : TA} {j : Nat} {n : Int} (e : Ex H0 H1) (h : EvA ta σ H0 [.int n]) (hn : -100000 ≤ n ∧ n ≤ 100000) (I : Nat → L2.St → Hp → Prop) (h0 : ∀ H2, Ex H1 H2 → I 0 σ H2)
    (hs : ∀ (i : Nat) σ' H', (i : Int) < n → I i σ' H' → tu { D with nx := I (i + 1), ct := I (i + 1), bk := tz D } (σ'.set j (some (.int (i : Int)))) H')
    (hd : ∀ σ' H', I n.toNat σ' H' → tz D σ' H') : tSeq (tFor (iRng1 ta) (gName j) tu) tz D σ H1 :=
  h H1 e _ fun H2 e2 => ⟨n, rfl, by omega, by omega, for_range (lo := 0) (n := n.toNat) (D := { D with nx := tz D }) I (h0 H2 e2) (fun i σ' H' hi p => by
    have e0 : (0 : Int) + (i : Int) = (i : Int) := Int.zero_add _
    show tu { D with nx := I (i + 1), ct := I (i + 1), bk := tz D } (σ'.set j (some (.int ((0 : Int) + (i : Int))))) H'
    rw [e0]
    exact hs i σ' H' (by omega) p) hd⟩
/-- for over a list of ints that stands -/
theorem r_forLI {a : Addr} {ns : List Int} {tl : TE} {j : Nat} (e : Ex H0 H1) (h : Ev tl σ H0 (.ref a)) (hx : SqL K H0 a (ns.map V.int)) (I : Nat → L2.St → Hp → Prop) (hw : ∀ i σ' H', I i σ' H' → Ex H0 H') (h0 : ∀ H2, Ex H1 H2 → I 0 σ H2)
    (hs : ∀ (i : Nat) (n : Int) σ' H', ns[i]? = some n → I i σ' H' → tu { D with nx := I (i + 1), ct := I (i + 1), bk := tz D } (σ'.set j (some (.int n))) H')
    (hd : ∀ σ' H', I ns.length σ' H' → tz D σ' H') : tSeq (tFor (iList K tl) (gName j) tu) tz D σ H1 :=
  h H1 e _ fun H2 e2 => ⟨a, rfl, ⟨_, ex_l (e.trans e2) hx⟩, for_list (D := { D with nx := tz D }) I (h0 H2 e2) (fun i σ' H' _ p => ex_l (hw i σ' H' p) hx) (fun i x σ' H' hi p => by
    rw [List.getElem?_map] at hi
    cases g : ns[i]? with
    | none => rw [g] at hi; cases hi
    | some n =>
      rw [g] at hi
      obtain rfl : V.int n = x := Option.some.inj hi
      exact hs i n σ' H' g p) fun σ' H' p => hd σ' H' (by rw [List.length_map] at p; exact p)⟩
/-- .. of anything -/
theorem r_forLM {α : Type} {f : α → V} {a : Addr} {ns : List α} {tl : TE} {j : Nat} (e : Ex H0 H1) (h : Ev tl σ H0 (.ref a)) (hx : SqL K H0 a (ns.map f)) (I : Nat → L2.St → Hp → Prop) (hw : ∀ i σ' H', I i σ' H' → Ex H0 H') (h0 : ∀ H2, Ex H1 H2 → I 0 σ H2)
    (hs : ∀ (i : Nat) (n : α) σ' H', ns[i]? = some n → I i σ' H' → tu { D with nx := I (i + 1), ct := I (i + 1), bk := tz D } (σ'.set j (some (f n))) H')
    (hd : ∀ σ' H', I ns.length σ' H' → tz D σ' H') : tSeq (tFor (iList K tl) (gName j) tu) tz D σ H1 :=
  h H1 e _ fun H2 e2 => ⟨a, rfl, ⟨_, ex_l (e.trans e2) hx⟩, for_list (D := { D with nx := tz D }) I (h0 H2 e2) (fun i σ' H' _ p => ex_l (hw i σ' H' p) hx) (fun i x σ' H' hi p => by
    rw [List.getElem?_map] at hi
    cases g : ns[i]? with
    | none => rw [g] at hi; cases hi
    | some n =>
      rw [g] at hi
      obtain rfl : f n = x := Option.some.inj hi
      exact hs i n σ' H' g p) fun σ' H' p => hd σ' H' (by rw [List.length_map] at p; exact p)⟩
/-- .. over a displayed or called, new list -/
theorem r_forNM {α : Type} {f : α → V} {ns : List α} {tl : TE} {j : Nat} (e : Ex H0 H1) (h : EvL tl σ H0 (ns.map f)) (I : Hp → Nat → L2.St → Hp → Prop) (hw : ∀ G i σ' H', I G i σ' H' → Ex G H') (h0 : ∀ G, Ex H0 G → Ex H1 G → I G 0 σ G)
    (hs : ∀ G, Ex H0 G → ∀ (i : Nat) (n : α) σ' H', ns[i]? = some n → I G i σ' H' → tu { D with nx := I G (i + 1), ct := I G (i + 1), bk := tz D } (σ'.set j (some (f n))) H')
    (hd : ∀ G, Ex H0 G → ∀ σ' H', I G ns.length σ' H' → tz D σ' H') : tSeq (tFor (iList K tl) (gName j) tu) tz D σ H1 :=
  h H1 e _ fun a G ha e2 h2 => ⟨a, rfl, ⟨_, sq_of h2⟩, for_list (D := { D with nx := tz D }) (I G) (h0 G (e.trans e2) e2) (fun i σ' H' _ p => ex_l (hw G i σ' H' p) (sq_of h2)) (fun i x σ' H' hi p => by
    rw [List.getElem?_map] at hi
    cases g : ns[i]? with
    | none => rw [g] at hi; cases hi
    | some n =>
      rw [g] at hi
      obtain rfl : f n = x := Option.some.inj hi
      exact hs G (e.trans e2) i n σ' H' g p) fun σ' H' p => hd G (e.trans e2) σ' H' (by rw [List.length_map] at p; exact p)⟩
/-- while, by a word of the measure, the slots and the heap -/
theorem r_whileH (e : Ex H0 H1) (W : Nat → L2.St → Hp → Prop) (m0 : Nat) (hw : ∀ m σ' H', W m σ' H' → Ex H0 H') (h0 : W m0 σ H1)
    (hs : ∀ m σ' H', W m σ' H' → ∃ p, EtP t σ' H0 p ∧ (p → ∀ H2, Ex H0 H2 → Ex H' H2 → tu { D with nx := fun σ2 H3 => ∃ m', m' < m ∧ W m' σ2 H3, ct := fun σ2 H3 => ∃ m', m' < m ∧ W m' σ2 H3, bk := tz D } σ' H2) ∧ (¬ p → ∀ H2, Ex H0 H2 → Ex H' H2 → tz D σ' H2)) :
    tSeq (tWhile t tu) tz D σ H1 := by
  refine q_while W m0 h0 ?_
  intro m σ' H' hwm
  have e' := hw m σ' H' hwm
  obtain ⟨p, ⟨b, hb, ht⟩, h1, h2⟩ := hs m σ' H' hwm
  refine ⟨b, ht.mono e', fun eb H2 e2 => ?_, fun eb H2 e2 => ?_⟩
  · exact ⟨_, fun σ2 H3 z => z, h1 (hb.mp eb) H2 (e'.trans e2) e2⟩
  · refine h2 (fun z => ?_) H2 (e'.trans e2) e2
    have := hb.mpr z
    rw [eb] at this
    cases this
/-- for over a list that stands -/
theorem r_forL {a : Addr} {xs : List V} {tl : TE} {j : Nat} (e : Ex H0 H1) (h : Ev tl σ H0 (.ref a)) (hx : SqL K H0 a xs) (I : Nat → L2.St → Prop) (h0 : I 0 σ)
    (hs : ∀ (i : Nat) x σ' H', xs[i]? = some x → I i σ' → Ex H0 H' → tu { D with nx := fun σ2 H2 => I (i + 1) σ2 ∧ Ex H0 H2, ct := fun σ2 H2 => I (i + 1) σ2 ∧ Ex H0 H2, bk := tz D } (σ'.set j (some x)) H')
    (hd : ∀ σ' H', I xs.length σ' → Ex H0 H' → tz D σ' H') : tSeq (tFor (iList K tl) (gName j) tu) tz D σ H1 :=
  h H1 e _ fun H2 e2 => ⟨a, rfl, ⟨xs, ex_l (e.trans e2) hx⟩, for_list (D := { D with nx := tz D }) (fun i σ' H' => I i σ' ∧ Ex H0 H') ⟨h0, e.trans e2⟩ (fun i σ' H' _ p => ex_l p.2 hx) (fun i x σ' H' hi p => hs i x σ' H' hi p.1 p.2) fun σ' H' p => hd σ' H' p.1 p.2⟩
/-- .. over a new list -/
theorem r_forNL {xs : List V} {tl : TE} {j : Nat} (e : Ex H0 H1) (h : EvL tl σ H0 xs) (I : Nat → L2.St → Prop) (h0 : I 0 σ)
    (hs : ∀ G, Ex H0 G → ∀ (i : Nat) x σ' H', xs[i]? = some x → I i σ' → Ex G H' → tu { D with nx := fun σ2 H2 => I (i + 1) σ2 ∧ Ex G H2, ct := fun σ2 H2 => I (i + 1) σ2 ∧ Ex G H2, bk := tz D } (σ'.set j (some x)) H')
    (hd : ∀ G, Ex H0 G → ∀ σ' H', I xs.length σ' → Ex G H' → tz D σ' H') : tSeq (tFor (iList K tl) (gName j) tu) tz D σ H1 :=
  h H1 e _ fun a H2 ha e2 h2 => ⟨a, rfl, ⟨xs, sq_of h2⟩, for_list (D := { D with nx := tz D }) (fun i σ' H' => I i σ' ∧ Ex H2 H') ⟨h0, Ex.refl _⟩ (fun i σ' H' _ p => ex_l p.2 (sq_of h2)) (fun i x σ' H' hi p => hs H2 (e.trans e2) i x σ' H' hi p.1 p.2) fun σ' H' p => hd H2 (e.trans e2) σ' H' p.1 p.2⟩
/-- an int of a list of ints -/
theorem rv_ixI {p : Addr} {ns : List Int} {i : Int} (h : SqL K H p (ns.map V.int)) (h0 : 0 ≤ i) (h1 : i < (ns.length : Int)) : RV (rIxL K) (.ref p) (.int i) H (.int (ns.getD i.toNat 0)) := by
  refine rv_ixL h ?_
  obtain ⟨j, rfl⟩ : ∃ j : Nat, i = (j : Int) := ⟨i.toNat, by omega⟩
  have hj : j < ns.length := by omega
  refine atI_nat ?_
  rw [List.getElem?_map, List.getElem?_eq_getElem hj]
  show some (V.int ns[j]) = some (V.int (ns.getD ((j : Int).toNat) 0))
  rw [Int.toNat_natCast, List.getD_eq_getElem?_getD, List.getElem?_eq_getElem hj]
  rfl
theorem cutV_to (xs : List V) (k : Nat) : cutV xs none (some (k : Int)) = xs.take k := by
  unfold cutV
  rw [HT.sIx_none, HT.sIx_nat, List.drop_zero, Nat.sub_zero]
  by_cases h : k ≤ xs.length
  · rw [Nat.min_eq_left h]
  · rw [Nat.min_eq_right (by omega), List.take_of_length_le (Nat.le_refl _), List.take_of_length_le (by omega)]
theorem cutV_all {xs : List V} (k : Nat) (h : xs.length ≤ k) : cutV xs none (some (k : Int)) = xs := by
  rw [cutV_to, List.take_of_length_le h]
theorem cutV_from (xs : List V) (k : Nat) : cutV xs (some (k : Int)) none = xs.drop k := by
  unfold cutV
  rw [HT.sIx_none, HT.sIx_nat]
  by_cases h : k ≤ xs.length
  · rw [Nat.min_eq_left h, List.take_of_length_le (by rw [List.length_drop]; omega)]
  · rw [Nat.min_eq_right (by omega), List.take_of_length_le (by rw [List.length_drop]; omega), List.drop_of_length_le (Nat.le_refl _), List.drop_of_length_le (by omega)]
theorem rv_kd {w : World} {p : Addr} {z : Str} {v : V} (h : KDct K w p z v) : RV (rIxD K w) (.ref p) (.str z) H v := fun H1 _ Q q => ⟨p, z, v, rfl, rfl, h, q H1 (Ex.refl H1)⟩
theorem rv_isN {x : V} : RV (fun x y H Q => y = .non ∧ Q (.bl (decide (x = .non))) H) x .non H (.bl (decide (x = .non))) := fun H1 _ Q q => ⟨rfl, q H1 (Ex.refl H1)⟩
theorem rv_notN {x : V} : RV (fun x y H Q => y = .non ∧ Q (.bl (!decide (x = .non))) H) x .non H (.bl (!decide (x = .non))) := fun H1 _ Q q => ⟨rfl, q H1 (Ex.refl H1)⟩
theorem ev_slS {tl th : TO} {zs : Str} {lo hi : Option Int} (h : Ev te σ H (.str zs)) (h1 : EvO tl σ H lo) (h2 : EvO th σ H hi) (hz : zs.length ≤ 100000) : Ev (tSl rSlS te tl th) σ H (.str (cutS zs lo hi)) := fun H1 e _ q =>
  h H1 e _ fun H2 e2 => h1 H2 (e.trans e2) _ fun H3 e3 => h2 H3 ((e.trans e2).trans e3) _ fun H4 e4 => ⟨zs, rfl, sz_of hz, q H4 ((e2.trans e3).trans e4)⟩
/-- [f(x) for x in xs] over a list of ints, each an int -/
theorem given_all {n : Nat} {v : Nat → V} : given n (fun _ => true) v = (List.range n).map v := by
  unfold given
  rw [List.filter_eq_self.mpr (fun _ _ => rfl)]
theorem et_yes {σ : L2.St} {H : Hp} : EvT tYes σ H true := fun H1 _ _ q => q H1 (Ex.refl H1)
theorem map_range {α : Type} {ns : List α} {d : α} {f : α → V} : (List.range ns.length).map (fun i => f (ns.getD i d)) = ns.map f := by
  apply List.ext_getElem?
  intro i
  rw [List.getElem?_map, List.getElem?_map]
  by_cases h : i < ns.length
  · rw [List.getElem?_range h, List.getElem?_eq_getElem h]
    show some (f (ns.getD i d)) = some (f ns[i])
    rw [List.getD_eq_getElem?_getD, List.getElem?_eq_getElem h]
    rfl
  · rw [List.getElem?_eq_none (by rw [List.length_range]; omega), List.getElem?_eq_none (by omega)]
    rfl
theorem el_lcI {a : Addr} {ns : List Int} {tl : TE} {j : Nat} {vs : List Nat} (f : Int → V) (h : Ev tl σ H (.ref a)) (hx : SqL K H a (ns.map V.int)) (hz : ns.length ≤ 40000) (hw : ∀ x, wipe ((wipe σ vs).set j (some x)) vs = wipe σ vs)
    (he : ∀ (n : Int), n ∈ ns → Ev te ((wipe σ vs).set j (some (.int n))) H (f n)) : EvL (tLc (iList K tl) (gName j) tYes te vs) σ H (ns.map f) := by
  have q := el_lcL (K := K) (t := tYes) (te := te) (j := j) (vs := vs) (fun _ => true) (fun i => f (ns.getD i 0)) h hx (by rw [List.length_map]; exact hz) hw (fun _ _ _ _ _ => et_yes) (fun i x H1 e hi _ => by
    rw [List.getElem?_map] at hi
    cases g : ns[i]? with
    | none => rw [g] at hi; cases hi
    | some n =>
      rw [g] at hi
      obtain rfl : V.int n = x := Option.some.inj hi
      have d : ns.getD i 0 = n := by rw [List.getD_eq_getElem?_getD, g]; rfl
      rw [d]
      exact (he n (List.mem_of_getElem? g)).mono e)
  rw [given_all, List.length_map, map_range] at q
  exact q
/-- .. over a new list -/
theorem el_lcNI {ns : List Int} {tl : TE} {j : Nat} {vs : List Nat} (f : Int → V) (h : EvL tl σ H (ns.map V.int)) (hz : ns.length ≤ 40000) (hw : ∀ x, wipe ((wipe σ vs).set j (some x)) vs = wipe σ vs)
    (he : ∀ (n : Int), n ∈ ns → Ev te ((wipe σ vs).set j (some (.int n))) H (f n)) : EvL (tLc (iList K tl) (gName j) tYes te vs) σ H (ns.map f) := by
  have q := el_lcNL (K := K) (t := tYes) (te := te) (j := j) (vs := vs) (fun _ => true) (fun i => f (ns.getD i 0)) h (by rw [List.length_map]; exact hz) hw (fun _ _ _ _ _ => et_yes) (fun i x H1 e hi _ => by
    rw [List.getElem?_map] at hi
    cases g : ns[i]? with
    | none => rw [g] at hi; cases hi
    | some n =>
      rw [g] at hi
      obtain rfl : V.int n = x := Option.some.inj hi
      have d : ns.getD i 0 = n := by rw [List.getD_eq_getElem?_getD, g]; rfl
      rw [d]
      exact (he n (List.mem_of_getElem? g)).mono e)
  rw [given_all, List.length_map, map_range] at q
  exact q
/-- [e for k in range(n)] -/
theorem given_list (ns : List Int) (p : Int → Bool) (f : Int → V) : given ns.length (fun i => p (ns.getD i 0)) (fun i => f (ns.getD i 0)) = (ns.filter p).map f := by
  have h : ns = (List.range ns.length).map fun i => ns.getD i 0 := by
    apply List.ext_getElem?
    intro i
    rw [List.getElem?_map]
    by_cases g : i < ns.length
    · rw [List.getElem?_range g, List.getElem?_eq_getElem g]
      show some ns[i] = some (ns.getD i 0)
      rw [List.getD_eq_getElem?_getD, List.getElem?_eq_getElem g]
      rfl
    · rw [List.getElem?_eq_none (show ns.length ≤ i by omega), List.getElem?_eq_none (show (List.range ns.length).length ≤ i by rw [List.length_range]; omega)]
      rfl
  unfold given
  generalize hn : ns.length = n
  rw [hn] at h
  generalize hg : (fun i => ns.getD i 0) = g at h
  have e1 : (fun i => p (ns.getD i 0)) = p ∘ g := by rw [← hg]; rfl
  have e2 : (fun i => f (ns.getD i 0)) = f ∘ g := by rw [← hg]; rfl
  rw [e1, e2, h, List.filter_map, List.map_map]
/-- .. some of them -/
theorem el_lcIF {a : Addr} {ns : List Int} {t : TT} {tl : TE} {j : Nat} {vs : List Nat} (p : Int → Bool) (f : Int → V) (h : Ev tl σ H (.ref a)) (hx : SqL K H a (ns.map V.int)) (hz : ns.length ≤ 40000) (hw : ∀ x, wipe ((wipe σ vs).set j (some x)) vs = wipe σ vs)
    (ht : ∀ (n : Int), n ∈ ns → EvT t ((wipe σ vs).set j (some (.int n))) H (p n)) (he : ∀ (n : Int), n ∈ ns → Ev te ((wipe σ vs).set j (some (.int n))) H (f n)) : EvL (tLc (iList K tl) (gName j) t te vs) σ H ((ns.filter p).map f) := by
  have hi : ∀ (i : Nat) (x : V), (ns.map V.int)[i]? = some x → ∃ n, n ∈ ns ∧ x = .int n ∧ ns.getD i 0 = n := fun i x hi => by
    rw [List.getElem?_map] at hi
    cases g : ns[i]? with
    | none => rw [g] at hi; cases hi
    | some n =>
      rw [g] at hi
      exact ⟨n, List.mem_of_getElem? g, (Option.some.inj hi).symm, by rw [List.getD_eq_getElem?_getD, g]; rfl⟩
  have q := el_lcL (K := K) (t := t) (te := te) (j := j) (vs := vs) (fun i => p (ns.getD i 0)) (fun i => f (ns.getD i 0)) h hx (by rw [List.length_map]; exact hz) hw
    (fun i x H1 e hx => by obtain ⟨n, hm, rfl, d⟩ := hi i x hx; show EvT _ _ _ (p (ns.getD i 0)); rw [d]; exact (ht n hm).mono e)
    (fun i x H1 e hx _ => by obtain ⟨n, hm, rfl, d⟩ := hi i x hx; show Ev _ _ _ (f (ns.getD i 0)); rw [d]; exact (he n hm).mono e)
  rw [List.length_map, given_list] at q
  exact q
theorem ev_sumN {ns : List Int} (h : EvL ta σ H (ns.map V.int)) : Ev (tCB (rSum K) (tCons ta tNil)) σ H (.int ns.sum) := fun H1 e Q q =>
  h H1 e _ fun p H2 _ e2 hp => ⟨p, ns, rfl, sq_of hp, q H2 e2⟩
theorem ev_sumR {n : Nat} {f : Nat → Int} (h : EvL ta σ H ((List.range n).map fun i => V.int (f i))) : Ev (tCB (rSum K) (tCons ta tNil)) σ H (.int ((List.range n).map f).sum) :=
  ev_sumN (by rw [List.map_map]; exact h)
theorem et_p {p : Prop} [Decidable p] (h : EtP t σ H p) : EvT t σ H (decide p) := by
  obtain ⟨b, hb, h⟩ := h
  refine et_is h ?_
  cases b with
  | true => exact (decide_eq_true (hb.mp rfl)).symm
  | false => exact (decide_eq_false fun z => nomatch hb.mpr z).symm
theorem el_revL {p : Addr} {xs : List V} (ha : Ev ta σ H (.ref p)) (h : SqL K H p xs) : EvL (tRevL K ta) σ H xs.reverse := fun H1 e Q q =>
  ha H1 e _ fun H2 e2 => ⟨p, xs, rfl, ex_l (e.trans e2) h, fun l hl => q l _ (fresh_back e2 hl) (e2.trans (Ex.new hl)) upd_same⟩
theorem el_revI {p : Addr} {ns : List Int} (ha : Ev ta σ H (.ref p)) (h : SqL K H p (ns.map V.int)) : EvL (tRevL K ta) σ H (ns.reverse.map V.int) := by
  rw [List.map_reverse]
  exact el_revL ha h
theorem el_lcR {ta : TA} {j : Nat} {vs : List Nat} {n : Int} (v : Nat → V) (h : EvA ta σ H [.int n]) (hn : 0 ≤ n ∧ n ≤ 40000) (hw : ∀ x, wipe ((wipe σ vs).set j (some x)) vs = wipe σ vs)
    (he : ∀ (i : Nat), (i : Int) < n → Ev te ((wipe σ vs).set j (some (.int (i : Int)))) H (v i)) : EvL (tLc (iRng1 ta) (gName j) tYes te vs) σ H ((List.range n.toNat).map v) := by
  have q := el_lcR1 (te := te) (j := j) (vs := vs) (fun _ => true) v h hn hw (t := tYes) (fun _ _ _ _ => et_yes) (fun i H1 e hi _ => (he i hi).mono e)
  rw [given_all] at q
  exact q
/-- an item of a displayed list -/
theorem ev_ixD {ns : List Int} {i : Int} (ha : EvL ta σ H (ns.map V.int)) (hb : Ev tb σ H (.int i)) (h0 : 0 ≤ i) (h1 : i < (ns.length : Int)) : Ev (tOp (rIxL K) ta tb) σ H (.int (ns.getD i.toNat 0)) :=
  ev_opL1 ha (fun _ e => hb.mono e) fun p H1 h _ => rv_ixL (sq_of h) (by
    obtain ⟨j, rfl⟩ : ∃ j : Nat, i = (j : Int) := ⟨i.toNat, by omega⟩
    have hj : j < ns.length := by omega
    refine atI_nat ?_
    rw [List.getElem?_map, List.getElem?_eq_getElem hj, List.getD_eq_getElem?_getD, Int.toNat_natCast, List.getElem?_eq_getElem hj]
    rfl)
theorem at_strs {ns : List Str} {i : Int} (h0 : 0 ≤ i) (h1 : i < (ns.length : Int)) : atI (ns.map V.str) i = some (.str (ns.getD i.toNat "")) := by
  obtain ⟨j, rfl⟩ : ∃ j : Nat, i = (j : Int) := ⟨i.toNat, by omega⟩
  have hj : j < ns.length := by omega
  refine atI_nat ?_
  rw [List.getElem?_map, List.getElem?_eq_getElem hj, List.getD_eq_getElem?_getD, Int.toNat_natCast, List.getElem?_eq_getElem hj]
  rfl
theorem ev_ixDS {ns : List Str} {i : Int} (ha : EvL ta σ H (ns.map V.str)) (hb : Ev tb σ H (.int i)) (h0 : 0 ≤ i) (h1 : i < (ns.length : Int)) : Ev (tOp (rIxL K) ta tb) σ H (.str (ns.getD i.toNat "")) :=
  ev_opL1 ha (fun _ e => hb.mono e) fun p H1 h _ => rv_ixL (sq_of h) (at_strs h0 h1)
theorem rv_ixStr {p : Addr} {ns : List Str} {i : Int} (h : SqL K H p (ns.map V.str)) (h0 : 0 ≤ i) (h1 : i < (ns.length : Int)) : RV (rIxL K) (.ref p) (.int i) H (.str (ns.getD i.toNat "")) := rv_ixL h (at_strs h0 h1)
theorem ev_lenM {α : Type} {f : α → V} {p : Addr} {ns : List α} (ha : Ev ta σ H (.ref p)) (h : SqL K H p (ns.map f)) : Ev (tCB (rLenS K) (tCons ta tNil)) σ H (.int (ns.length : Int)) := by
  have q := ev_len ha h
  rw [List.length_map] at q
  exact q
theorem ev_lenTM {α : Type} {f : α → V} {p : Addr} {ns : List α} (ha : Ev ta σ H (.ref p)) (h : SqT K H p (ns.map f)) : Ev (tCB (rLenS K) (tCons ta tNil)) σ H (.int (ns.length : Int)) := by
  have q := ev_lenT ha h
  rw [List.length_map] at q
  exact q
theorem el_to {xs ys : List V} (h : EvL te σ H xs) (e : xs = ys) : EvL te σ H ys := by rw [← e]; exact h
theorem r_retI {i j : Int} (e : Ex H0 H1) (h : Ev te σ H0 (.int i)) (hi : i = j) (k : ∀ H2, Ex H0 H2 → D.rt (.int j) H2) : tSeq (tRet te) tz D σ H1 := by
  subst hi
  exact h H1 e _ fun H2 e2 => k H2 (e.trans e2)
theorem r_retB {i j : Bool} (e : Ex H0 H1) (h : Ev te σ H0 (.bl i)) (hi : i = j) (k : ∀ H2, Ex H0 H2 → D.rt (.bl j) H2) : tSeq (tRet te) tz D σ H1 := by
  subst hi
  exact h H1 e _ fun H2 e2 => k H2 (e.trans e2)
theorem r_retS {i j : Str} (e : Ex H0 H1) (h : Ev te σ H0 (.str i)) (hi : i = j) (k : ∀ H2, Ex H0 H2 → D.rt (.str j) H2) : tSeq (tRet te) tz D σ H1 := by
  subst hi
  exact h H1 e _ fun H2 e2 => k H2 (e.trans e2)
/-- while; the heap only grows; W: by a measure and the slots -/
theorem r_while (e : Ex H0 H1) (W : Nat → L2.St → Prop) (m0 : Nat) (h0 : W m0 σ)
    (hs : ∀ m σ' H', W m σ' → Ex H0 H' → ∃ p, EtP t σ' H0 p ∧ (p → ∀ H2, Ex H0 H2 → tu { D with nx := fun σ2 H3 => (∃ m', m' < m ∧ W m' σ2) ∧ Ex H0 H3, ct := fun σ2 H3 => (∃ m', m' < m ∧ W m' σ2) ∧ Ex H0 H3, bk := tz D } σ' H2) ∧ (¬ p → ∀ H2, Ex H0 H2 → tz D σ' H2)) :
    tSeq (tWhile t tu) tz D σ H1 := by
  refine q_while (fun m σ' H' => W m σ' ∧ Ex H0 H') m0 ⟨h0, e⟩ ?_
  rintro m σ' H' ⟨hw, e'⟩
  obtain ⟨p, ⟨b, hb, ht⟩, h1, h2⟩ := hs m σ' H' hw e'
  refine ⟨b, ht.mono e', fun eb H2 e2 => ?_, fun eb H2 e2 => ?_⟩
  · exact ⟨_, fun σ2 H3 ⟨⟨m', l, w⟩, e3⟩ => ⟨m', l, w, e3⟩, h1 (hb.mp eb) H2 (e'.trans e2)⟩
  · refine h2 (fun z => ?_) H2 (e'.trans e2)
    have := hb.mpr z
    rw [eb] at this
    cases this
end

/-! ### written dicts with text keys, told by their pairs -/
def EntsK (P : Params) : List (Str × V) → List DictEntry → Prop
  | [], [] => True
  | (k, v) :: r, e :: l => (∃ t, e.key = .str k t) ∧ e.hash = PyData.keyHash P k ∧ RelV v e.val ∧ EntsK P r l
  | _, _ => False
theorem EntsK.lit {P : Params} : ∀ {r : List (Str × V)} {l : List DictEntry}, EntsK P r l → PySem.W.KeysLit P l
  | [], [], _ => True.intro
  | (k, v) :: r, e :: l, h => by
    obtain ⟨⟨t, h1⟩, h2, _, h4⟩ := h
    exact ⟨⟨k, t, h1, h2⟩, EntsK.lit h4⟩
  | [], _ :: _, h => h.elim
  | _ :: _, [], h => h.elim
theorem isStr_str (k z : Str) (t : Tok) : (Value.str k t).isStr z = decide (k = z) := by
  rw [PySem.W.isStr_of]
  by_cases h : k = z
  · subst h
    rw [decide_eq_true rfl]
    exact keyIs_str k t
  · rw [decide_eq_false h]
    cases e : Value.isStrOf z (.str k t) with
    | false => rfl
    | true =>
      obtain ⟨t2, e2⟩ := Value.isStrOf_shape (x := z) (v := .str k t) e
      injection e2 with e3 _
      exact absurd e3 h
theorem EntsK.find {P : Params} (z : Str) : ∀ {r : List (Str × V)} {l : List DictEntry}, EntsK P r l →
    (match l.find? (fun e => e.key.isStr z) with | some e => ∃ v, r.lookup z = some v ∧ RelV v e.val | none => r.lookup z = none ∧ l.any (·.refKey) = false)
  | [], [], _ => ⟨rfl, rfl⟩
  | (k, v) :: r, e :: l, h => by
    obtain ⟨⟨t, h1⟩, _, h3, h4⟩ := h
    have ih := EntsK.find z h4
    have hk : e.key.isStr z = decide (k = z) := by rw [h1]; exact isStr_str k z t
    by_cases hz : k = z
    · subst hz
      have q : (e :: l).find? (fun e => e.key.isStr k) = some e := by
        rw [List.find?_cons, hk, decide_eq_true rfl]
      rw [q]
      refine ⟨v, ?_, h3⟩
      rw [List.lookup_cons, beq_self_eq_true]
    · have q : (e :: l).find? (fun e => e.key.isStr z) = l.find? (fun e => e.key.isStr z) := by
        rw [List.find?_cons, hk, decide_eq_false hz]
      have g : ((k, v) :: r).lookup z = r.lookup z := by
        rw [List.lookup_cons, beq_eq_false_iff_ne.mpr (Ne.symm hz)]
      rw [q, g]
      cases c : l.find? (fun e => e.key.isStr z) with
      | some e2 =>
        rw [c] at ih
        exact ih
      | none =>
        rw [c] at ih
        refine ⟨ih.1, ?_⟩
        rw [List.any_cons, ih.2, Bool.or_false]
        unfold DictEntry.refKey
        rw [h1]
  | [], _ :: _, h => h.elim
  | _ :: _, [], h => h.elim
/-- at d stands a written dict of these pairs -/
structure SD (K : PySem.W.Frag) (w : World) (d : Addr) (kvs : List (Str × V)) : Prop where
  ex : ∃ es n, K.lookup d = some ⟨.type "dict", none, .dict es n, #[]⟩ ∧ EntsK w.params kvs es.toList
  low : (d == sysModules) = false
section
variable {K : PySem.W.Frag} {w : World} {d : Addr} {kvs : List (Str × V)} {H : Hp}
theorem SD.some (D : SD K w d kvs) {z : Str} {v : V} (h : kvs.lookup z = .some v) : KDct K w d z v := by
  obtain ⟨es, n, hl, he⟩ := D.ex
  have f := he.find z
  cases c : es.toList.find? (fun e => e.key.isStr z) with
  | none => rw [c] at f; rw [f.1] at h; cases h
  | some e =>
    rw [c] at f
    obtain ⟨v2, h2, h3⟩ := f
    rw [h] at h2
    cases h2
    refine ⟨es, n, e.val, hl, he.lit, ?_, h3⟩
    unfold PySem.W.nsIn
    rw [hl]
    dsimp only
    rw [c]
theorem SD.ns (D : SD K w d kvs) (z : Str) : ∃ r, PySem.W.nsIn K d z = .some r ∧ r.isSome = (kvs.lookup z).isSome := by
  obtain ⟨es, n, hl, he⟩ := D.ex
  have f := he.find z
  unfold PySem.W.nsIn
  rw [hl]
  dsimp only
  cases c : es.toList.find? (fun e => e.key.isStr z) with
  | none =>
    rw [c] at f
    rw [f.1]
    dsimp only
    rw [f.2]
    exact ⟨none, rfl, rfl⟩
  | some e =>
    rw [c] at f
    obtain ⟨v2, h2, h3⟩ := f
    rw [h2]
    exact ⟨_, rfl, rfl⟩
def rInSD (d : Addr) (kvs : List (Str × V)) (neg : Bool) : R2 := fun x y H Q => ∃ (z : Str), x = .str z ∧ y = .ref d ∧ Q (.bl (if neg then !(kvs.lookup z).isSome else (kvs.lookup z).isSome)) H
theorem op_in_sd {X : Cx} (D : SD X.K X.w d kvs) : OpR X (compareOp .In) (rInSD d kvs false) := by
  intro pins s σ H x y v u Q I rx ry h
  obtain ⟨z, rfl, rfl, q⟩ := h
  obtain ⟨es, n, hl, he⟩ := D.ex
  obtain ⟨r, hr, hs⟩ := D.ns z
  refine op_in_kd ⟨hl, he.lit, D.low⟩ pins s σ H (.str z) (.ref d) v u Q I rx ry ⟨z, r, rfl, rfl, hr, ?_⟩
  rw [hs]
  exact q
theorem op_notIn_sd {X : Cx} (D : SD X.K X.w d kvs) : OpR X (compareOp .NotIn) (rInSD d kvs true) := by
  intro pins s σ H x y v u Q I rx ry h
  obtain ⟨z, rfl, rfl, q⟩ := h
  obtain ⟨es, n, hl, he⟩ := D.ex
  obtain ⟨r, hr, hs⟩ := D.ns z
  refine op_notIn_kd ⟨hl, he.lit, D.low⟩ pins s σ H (.str z) (.ref d) v u Q I rx ry ⟨z, r, rfl, rfl, hr, ?_⟩
  rw [hs]
  exact q
theorem rv_inSD {z : Str} : RV (rInSD d kvs false) (.str z) (.ref d) H (.bl ((kvs.lookup z).isSome)) := fun H1 _ Q q => ⟨z, rfl, rfl, q H1 (Ex.refl H1)⟩
theorem rv_niSD {z : Str} : RV (rInSD d kvs true) (.str z) (.ref d) H (.bl (!(kvs.lookup z).isSome)) := fun H1 _ Q q => ⟨z, rfl, rfl, q H1 (Ex.refl H1)⟩
theorem lookup_keys (z : Str) : ∀ kvs : List (Str × V), (kvs.lookup z).isSome = decide (z ∈ kvs.map (·.1))
  | [] => rfl
  | (k, v) :: r => by
    have ih := lookup_keys z r
    by_cases h : z = k
    · subst h
      rw [List.lookup_cons, beq_self_eq_true]
      simp
    · rw [List.lookup_cons, beq_eq_false_iff_ne.mpr h]
      show (r.lookup z).isSome = _
      rw [ih]
      simp [h]
theorem rv_inSDk {z : Str} {keys : List Str} (hk : kvs.map (·.1) = keys) : RV (rInSD d kvs false) (.str z) (.ref d) H (.bl (decide (z ∈ keys))) := by
  have q := rv_inSD (d := d) (kvs := kvs) (H := H) (z := z)
  rw [lookup_keys, hk] at q
  exact q
theorem rv_niSDk {z : Str} {keys : List Str} (hk : kvs.map (·.1) = keys) : RV (rInSD d kvs true) (.str z) (.ref d) H (.bl (!decide (z ∈ keys))) := by
  have q := rv_niSD (d := d) (kvs := kvs) (H := H) (z := z)
  rw [lookup_keys, hk] at q
  exact q
/-- a written tuple of flat values -/
theorem sqt_k {a : Addr} {od : Option Addr} {its : Array Value} {n : Nat} {sl : Array (Option Value)} {xs : List V} (l : K.lookup a = some ⟨.type "tuple", od, .seq its n, sl⟩) (hz : its.size ≤ 100000) (r : Vals xs its.toList) : ∀ H : Hp, SqT K H a xs :=
  fun _ => Or.inr ⟨_, its, n, l, rfl, rfl, Nat.le_trans hz (by decide), r⟩
end
/-! ### a call of a local name that holds one of several defs -/
def tCallR (i : Nat) (S : Addr → Sp → Prop) (t : TA) : TE := fun σ H Q => ∃ f sp, σ[i]? = some (some (.ref f)) ∧ S f sp ∧ t σ H fun vs H1 => sp vs H1 Q (fun _ _ _ => False)
theorem pe_callR {X : Cx} {k i : Nat} {x : Str} {p pos : Pos} {e : Expr} {es : List Expr} {t : TA} {S : Addr → Sp → Prop} (A : ∀ f sp, S f sp → Held X.prog X.w X.K X.mg X.base k f sp) (hr : Room k X.A) (hN : X.N[i]? = some x) (hv : Vis X.env.scope x) (ha : PA X (e :: es) t)
    (hdb : (x == ("__debug__" : Str)) = false := by decide) (hcd : (x == ("__classdict__" : Str)) = false := by decide)
    (he : starEach (e :: es) X.env = (false, eval e X.env) :: starEach es X.env := by rfl) (hpl : (backTo pos (starEach es X.env)).any (·.1) = false := by rfl) : PE X (.Call (.Name x p) (e :: es) [] pos) (tCallR i S t) := by
  refine ⟨fun pins s σ H Q I h => ?_⟩
  obtain ⟨f, sp, hs, hS, ht⟩ := h
  obtain ⟨fd, ps, F, hk, hb⟩ := (A f sp hS).ex
  refine (pe_callL (i := i) (f := f) (sp := sp) (dvs := []) (E := fun _ _ _ => False) F hr hN hv hk hb .nil (fun _ _ _ _ _ _ _ z => z.elim) ha hdb hcd he hpl).run pins s σ H Q I ⟨hs, ?_⟩
  have e0 : (fun (vs : List V) (H1 : Hp) => sp (vs ++ []) H1 Q (fun _ _ _ => False)) = fun vs H1 => sp vs H1 Q (fun _ _ _ => False) := by
    funext vs H1
    rw [List.append_nil]
  show t σ H (fun vs H1 => sp (vs ++ []) H1 Q (fun _ _ _ => False))
  rw [e0]
  exact ht
theorem ev_callR {i : Nat} {S : Addr → Sp → Prop} {ta : TA} {σ : L2.St} {H : Hp} {f : Addr} {sp : Sp} {vs : List V} {z : V} (hs : σ[i]? = some (some (.ref f))) (hS : S f sp) (h : EvA ta σ H vs) (hp : SpV sp vs H z) : Ev (tCallR i S ta) σ H z := fun H1 e Q q =>
  ⟨f, sp, hs, hS, h H1 e _ fun H2 e2 => hp H2 (e.trans e2) Q (fun H3 e3 => q H3 (e2.trans e3)) _⟩
/-! ### a def that stands, and its calls -/
structure Df (P : Program) (w : World) (K : PySem.W.Frag) (mg : Str → Option Value) (base : Heap) (k : Nat) (x : Str) (a : Addr) (fd : FuncData) (ps : List Str) (sp : Sp) : Prop where
  ok : FnOk P w K mg base CX0 k a fd ps sp
  g : mg x = some (.ref a)
  kp : PySem.W.keepIn K (.ref a) = true
  b : Binds K fd ps []
theorem Df.held {P : Program} {w : World} {K : PySem.W.Frag} {mg : Str → Option Value} {base : Heap} {k : Nat} {x : Str} {a : Addr} {fd : FuncData} {ps : List Str} {sp : Sp} (D : Df P w K mg base k x a fd ps sp) : Held P w K mg base k a sp := ⟨⟨fd, ps, D.ok, D.kp, D.b⟩⟩
theorem Df.heldM {P : Program} {w : World} {K : PySem.W.Frag} {mg : Str → Option Value} {base : Heap} {k m : Nat} {x : Str} {a : Addr} {fd : FuncData} {ps : List Str} {sp : Sp} (D : Df P w K mg base k x a fd ps sp) (h : k ≤ m) : Held P w K mg base m a sp := ⟨⟨fd, ps, D.ok.mono h, D.kp, D.b⟩⟩
section
variable {X : Cx} {k : Nat} {x : Str} {a : Addr} {fd : FuncData} {ps : List Str} {sp : Sp} {e : Expr} {es : List Expr} {t : TA} {p pos : Pos}
theorem cl (O : Df X.prog X.w X.K X.mg X.base k x a fd ps sp) (hr : Room k X.A) (hg : Gl X x) (ha : PA X (e :: es) t) (hdb : (x == ("__debug__" : Str)) = false := by decide)
    (he : starEach (e :: es) X.env = (false, eval e X.env) :: starEach es X.env := by rfl) (hpl : (backTo pos (starEach es X.env)).any (·.1) = false := by rfl) : PE X (.Call (.Name x p) (e :: es) [] pos) (tCall sp [] E0 t) :=
  pe_call O.ok hr hg O.g O.kp O.b .nil pass0 ha hdb he hpl
theorem cl0 (O : Df X.prog X.w X.K X.mg X.base k x a fd ps sp) (hr : Room k X.A) (hg : Gl X x) (hdb : (x == ("__debug__" : Str)) = false := by decide) : PE X (.Call (.Name x p) [] [] pos) (tCall sp [] E0 tNil) :=
  pe_call0 O.ok hr hg O.g O.kp O.b .nil pass0 hdb
end
/-! ### exceptions -/
/-- an exception: the class (its number), its fields -/
structure Exn where
  c : Nat
  fs : Option (List (Str × V))
def Exn.Is (x : Exn) (d : Option Addr) (H : Hp) : Prop := match x.fs with
  | none => d = none
  | some fs => ∃ a, d = some a ∧ H a = some (.xd fs)
/-- what a def that may raise comes to -/
def Outc {α : Type} (ad : Nat → Addr) (H : Hp) (Q : VK) (E : XK) (val : α → V) : Except Exn α → Prop
  | .ok z => ∀ H1, Ex H H1 → Q (val z) H1
  | .error x => ∀ d H1, Ex H H1 → x.Is d H1 → E (.ref (ad x.c)) d H1
theorem Outc.mono {α : Type} {ad : Nat → Addr} {H H' : Hp} {Q : VK} {E : XK} {val : α → V} {r : Except Exn α} (e : Ex H H') (q : Outc ad H Q E val r) : Outc ad H' Q E val r := by
  cases r with
  | ok z => exact fun H1 e1 => q H1 (e.trans e1)
  | error x => exact fun d H1 e1 => q d H1 (e.trans e1)
structure DfX (P : Program) (w : World) (K : PySem.W.Frag) (mg : Str → Option Value) (base : Heap) (k : Nat) (x : Str) (a : Addr) (fd : FuncData) (ps : List Str) (sp : Sp) : Prop where
  ok : FnOk P w K mg base (L2.CX P w) k a fd ps sp
  g : mg x = some (.ref a)
  kp : PySem.W.keepIn K (.ref a) = true
  b : Binds K fd ps []
/-- the class of an exception whose __init__ keeps one field f -/
structure ExK (K : PySem.W.Frag) (mg : Str → Option Value) (x : Str) (C I : Addr) (f : Str) : Prop where
  g : mg x = some (.ref C)
  o : OexC K C
  i : PySem.W.findIn K (.ref C) "__init__" = some (some (.ref I))
  t : PySem.W.typeIn K (.ref I) = some (.type "function")
  n : PySem.W.findIn K (.ref C) f = some none
  xf : XfC K C
def sp_init1 (K : PySem.W.Frag) (f : Str) : Sp := fun vs H Q _ => ∃ (a C : Addr) (y : V), vs = [.ref a, y] ∧ (OexC K C ∧ PySem.W.findIn K (.ref C) f = some none ∧ H a = some (exo a C none)) ∧
  ∀ dx, H dx = none → dx ≠ a → Q .non (upd (upd H dx (exd dx [(f, y)])) a (exo a C (some dx)))
/-- the exception x in the air with the slots σ -/
def EvE (te : TE) (σ : L2.St) (H : Hp) (P : Value → Option Addr → Hp → Prop) (W : WX) : Prop := ∀ H1, Ex H H1 → ∀ Q : VK, (∀ cls d H2, Ex H1 H2 → P cls d H2 → W cls d σ H2) → te σ H1 Q
def SpE (sp : Sp) (vs : List V) (H : Hp) (P : Value → Option Addr → Hp → Prop) : Prop := ∀ H1, Ex H H1 → ∀ (Q : VK) (E : XK), (∀ cls d H2, Ex H1 H2 → P cls d H2 → E cls d H2) → sp vs H1 Q E
def XIs (ad : Nat → Addr) (x : Exn) : Value → Option Addr → Hp → Prop := fun cls d H => cls = .ref (ad x.c) ∧ x.Is d H
section
variable {X : Cx} {K : PySem.W.Frag} {σ : L2.St} {H H0 H1 H' : Hp} {ta tb te : TE} {t : TA} {v z : V} {vs : List V} {D : Ends} {tz : TS} {W : WX} {sp : Sp} {P : Value → Option Addr → Hp → Prop}
theorem ev_callS {E : L2.St → XK} (h : EvA t σ H vs) (hs : SpV sp vs H z) : Ev (tCallS sp E t) σ H z := fun H1 e Q q =>
  h H1 e _ fun H2 e2 => hs H2 (e.trans e2) Q (fun H3 e3 => q H3 (e2.trans e3)) _
theorem ee_callS (h : EvA t σ H vs) (hs : SpE sp vs H P) : EvE (tCallS sp (WE W) t) σ H P W := fun H1 e Q q =>
  h H1 e _ fun H2 e2 => hs H2 (e.trans e2) Q _ fun cls d H3 e3 hp => q cls d H3 (e2.trans e3) hp
theorem ev_callSX {E : L2.St → XK} {R : List V → Hp → Prop} (h : EvAX t σ H R) (hs : ∀ vs H1, Ex H H1 → R vs H1 → SpV sp vs H1 z) : Ev (tCallS sp E t) σ H z := fun H1 e Q q =>
  h H1 e _ fun vs H2 e2 hp => hs vs H2 (e.trans e2) hp H2 (Ex.refl H2) Q (fun H3 e3 => q H3 (e2.trans e3)) _
theorem ee_callSX {R : List V → Hp → Prop} (h : EvAX t σ H R) (hs : ∀ vs H1, Ex H H1 → R vs H1 → SpE sp vs H1 P) : EvE (tCallS sp (WE W) t) σ H P W := fun H1 e Q q =>
  h H1 e _ fun vs H2 e2 hr => hs vs H2 (e.trans e2) hr H2 (Ex.refl H2) Q _ fun cls d H3 e3 hp => q cls d H3 (e2.trans e3) hp
theorem r_retE (e : Ex H0 H1) (h : EvE te σ H0 P W) (k : ∀ cls d H2, Ex H0 H2 → P cls d H2 → W cls d σ H2) : tSeq (tRet te) tz D σ H1 := h H1 e _ fun cls d H2 e2 hp => k cls d H2 (e.trans e2) hp
theorem r_asgE {i : Nat} (e : Ex H0 H1) (h : EvE te σ H0 P W) (k : ∀ cls d H2, Ex H0 H2 → P cls d H2 → W cls d σ H2) : tSeq (tAsg te (gName i)) tz D σ H1 := h H1 e _ fun cls d H2 e2 hp => k cls d H2 (e.trans e2) hp
theorem r_dropE (e : Ex H0 H1) (h : EvE te σ H0 P W) (k : ∀ cls d H2, Ex H0 H2 → P cls d H2 → W cls d σ H2) : tSeq (tDrop te) tz D σ H1 := h H1 e _ fun cls d H2 e2 hp => k cls d H2 (e.trans e2) hp
/-- raise C(y), C with one field -/
theorem r_raise1 {mg : Str → Option Value} {x f : Str} {C I : Addr} {y : V} (e : Ex H0 H1) (T : ExK K mg x C I f) (h : EvA t σ H0 [y]) (k : ∀ d H2, Ex H0 H2 → (∃ a, d = some a ∧ H2 a = some (.xd [(f, y)])) → W (.ref C) d σ H2) :
    tSeq (fun _ σ H => tMkO C (sp_init1 K f) [] t σ H fun cls d H' => W cls d σ H') tz D σ H1 :=
  h H1 e _ fun H2 e2 => ⟨by show 1 ≤ 1000; decide, fun a hn => ⟨a, C, y, rfl, ⟨T.o, T.n, upd_same⟩, fun dx h1 h2 => by
    have hd : H2 dx = none := by
      rw [upd_ne h2] at h1
      exact h1
    refine ⟨rfl, dx, [(f, y)], upd_same, by rw [upd_ne h2]; exact upd_same, hd, k _ _ ?_ ⟨dx, rfl, upd_same⟩⟩
    refine (e.trans e2).trans fun b o hb => ?_
    have nb1 : b ≠ dx := fun z => by rw [z, hd] at hb; cases hb
    have nb2 : b ≠ a := fun z => by rw [z, hn] at hb; cases hb
    rw [upd_ne nb1, del_ne nb2, upd_ne nb2, upd_ne nb1, upd_ne nb2]
    exact hb⟩⟩
theorem clS {k : Nat} {x : Str} {a : Addr} {fd : FuncData} {ps : List Str} {e : Expr} {es : List Expr} {p pos : Pos} {E : L2.St → XK} (O : DfX X.prog X.w X.K X.mg X.base k x a fd ps sp) (hr : Room k X.A) (hg : Gl X x) (hx : ∀ σ, PassesAt (L2.CX X.prog X.w) X σ (E σ)) (ha : PA X (e :: es) t)
    (hdb : (x == ("__debug__" : Str)) = false := by decide) (he : starEach (e :: es) X.env = (false, eval e X.env) :: starEach es X.env := by rfl) (hpl : (backTo pos (starEach es X.env)).any (·.1) = false := by rfl) : PE X (.Call (.Name x p) (e :: es) [] pos) (tCallS sp E t) :=
  pe_callS O.ok hr hg O.g O.kp O.b hx ha hdb he hpl
theorem clL {k : Nat} {x : Str} {a : Addr} {fd : FuncData} {ps : List Str} {e : Expr} {es : List Expr} {p pos : Pos} (O : DfX X.prog X.w X.K X.mg X.base k x a fd ps sp) (hr : Room k X.A) (hg : Gl X x) (ha : PA X (e :: es) t)
    (hdb : (x == ("__debug__" : Str)) = false := by decide) (he : starEach (e :: es) X.env = (false, eval e X.env) :: starEach es X.env := by rfl) (hpl : (backTo pos (starEach es X.env)).any (·.1) = false := by rfl) : PE X (.Call (.Name x p) (e :: es) [] pos) (tCall sp [] E0 t) :=
  pe_call O.ok hr hg O.g O.kp O.b .nil passL ha hdb he hpl
end
/-- a local name that holds one of several defs that may raise -/
structure HeldX (P : Program) (w : World) (K : PySem.W.Frag) (mg : Str → Option Value) (base : Heap) (k : Nat) (a : Addr) (sp : Sp) : Prop where
  ex : ∃ fd ps, FnOk P w K mg base (L2.CX P w) k a fd ps sp ∧ PySem.W.keepIn K (.ref a) = true ∧ Binds K fd ps []
theorem DfX.heldM {P : Program} {w : World} {K : PySem.W.Frag} {mg : Str → Option Value} {base : Heap} {k m : Nat} {x : Str} {a : Addr} {fd : FuncData} {ps : List Str} {sp : Sp} (D : DfX P w K mg base k x a fd ps sp) (h : k ≤ m) : HeldX P w K mg base m a sp := ⟨⟨fd, ps, D.ok.mono h, D.kp, D.b⟩⟩
theorem exm_of {K : PySem.W.Frag} {S B : Addr} {b : Bool} (h1 : PySem.W.subIn K (.ref S) (.type "BaseException") = some true) (h1' : PySem.W.subIn K (.ref B) (.type "BaseException") = some true) (h2 : PySem.W.isClsIn K B = true) (h3 : PySem.W.typeIn K (.ref B) = some (.type "type")) (h4 : PySem.W.subIn K (.ref S) (.ref B) = some b) :
    PySem.W.exmOne K (.ref S) (.ref B) = some b := by
  have e1 : (PySem.W.subIn K (.ref B) (.type "BaseException") == some true) = true := by rw [h1'] <;> rfl
  have e2 : ((PySem.W.clsIn K B).isSome && PySem.W.typeIn K (.ref B) == some (.type "type")) = true := by
    have h2' : (PySem.W.clsIn K B).isSome = true := h2
    rw [h2', h3] <;> rfl
  show (if (PySem.W.subIn K (.ref B) (.type "BaseException") == some true) = true then (if ((PySem.W.clsIn K B).isSome && PySem.W.typeIn K (.ref B) == some (.type "type")) = true then PySem.W.subIn K (.ref S) (.ref B) else none) else none) = some b
  rw [if_pos e1, if_pos e2]
  exact h4
structure InitOk (P : Program) (w : World) (K : PySem.W.Frag) (mg : Str → Option Value) (base : Heap) (a : Addr) (fd : FuncData) (ps : List Str) (sp : Sp) : Prop where
  ok : FnOk P w K mg base CX0 1 a fd ps sp
  b : Binds K fd ps []
def tCallRX (i : Nat) (S : Addr → Sp → Prop) (E : XK) (t : TA) : TE := fun σ H Q => ∃ f sp, σ[i]? = some (some (.ref f)) ∧ S f sp ∧ t σ H fun vs H1 => sp vs H1 Q E
theorem pe_callRX {X : Cx} {k i : Nat} {x : Str} {p pos : Pos} {e : Expr} {es : List Expr} {t : TA} {E : XK} {S : Addr → Sp → Prop} (A : ∀ f sp, S f sp → HeldX X.prog X.w X.K X.mg X.base k f sp) (hr : Room k X.A) (hN : X.N[i]? = some x) (hv : Vis X.env.scope x) (hx : Passes (L2.CX X.prog X.w) X E) (ha : PA X (e :: es) t)
    (hdb : (x == ("__debug__" : Str)) = false := by decide) (hcd : (x == ("__classdict__" : Str)) = false := by decide)
    (he : starEach (e :: es) X.env = (false, eval e X.env) :: starEach es X.env := by rfl) (hpl : (backTo pos (starEach es X.env)).any (·.1) = false := by rfl) : PE X (.Call (.Name x p) (e :: es) [] pos) (tCallRX i S E t) := by
  refine ⟨fun pins s σ H Q I h => ?_⟩
  obtain ⟨f, sp, hs, hS, ht⟩ := h
  obtain ⟨fd, ps, F, hk, hb⟩ := (A f sp hS).ex
  refine (pe_callL (i := i) (f := f) (sp := sp) (dvs := []) (E := E) F hr hN hv hk hb .nil hx ha hdb hcd he hpl).run pins s σ H Q I ⟨hs, ?_⟩
  have e0 : (fun (vs : List V) (H1 : Hp) => sp (vs ++ []) H1 Q E) = fun vs H1 => sp vs H1 Q E := by
    funext vs H1
    rw [List.append_nil]
  show t σ H (fun vs H1 => sp (vs ++ []) H1 Q E)
  rw [e0]
  exact ht
theorem ev_callRX {i : Nat} {S : Addr → Sp → Prop} {E : XK} {ta : TA} {σ : L2.St} {H : Hp} {f : Addr} {sp : Sp} {vs : List V} {z : V} (hs : σ[i]? = some (some (.ref f))) (hS : S f sp) (h : EvA ta σ H vs) (hp : SpV sp vs H z) : Ev (tCallRX i S E ta) σ H z := fun H1 e Q q =>
  ⟨f, sp, hs, hS, h H1 e _ fun H2 e2 => hp H2 (e.trans e2) Q (fun H3 e3 => q H3 (e2.trans e3)) _⟩
theorem ee_callRX {i : Nat} {S : Addr → Sp → Prop} {E : XK} {ta : TA} {σ : L2.St} {H : Hp} {f : Addr} {sp : Sp} {vs : List V} {P : Value → Option Addr → Hp → Prop} (hs : σ[i]? = some (some (.ref f))) (hS : S f sp) (h : EvA ta σ H vs) (hp : SpE sp vs H P) : EvE (tCallRX i S E ta) σ H P (fun cls d _ H => E cls d H) := fun H1 e Q q =>
  ⟨f, sp, hs, hS, h H1 e _ fun H2 e2 => hp H2 (e.trans e2) Q _ fun cls d H3 e3 h3 => q cls d H3 (e2.trans e3) h3⟩
/-- a promise by outcome, taken apart -/
theorem spv_of {α : Type} {ad : Nat → Addr} {sp : Sp} {vs : List V} {H : Hp} {val : α → V} {r : Except Exn α} {z : α} (h : ∀ H1, Ex H H1 → ∀ Q E, Outc ad H1 Q E val r → sp vs H1 Q E) (hr : r = .ok z) : SpV sp vs H (val z) := by
  subst hr
  exact fun H1 e Q q E => h H1 e Q E q
theorem spe_of {α : Type} {ad : Nat → Addr} {sp : Sp} {vs : List V} {H : Hp} {val : α → V} {r : Except Exn α} {x : Exn} (h : ∀ H1, Ex H H1 → ∀ Q E, Outc ad H1 Q E val r → sp vs H1 Q E) (hr : r = .error x) : SpE sp vs H (XIs ad x) := by
  subst hr
  exact fun H1 e Q E q => h H1 e Q E fun d H2 e2 hx => q _ d H2 e2 ⟨rfl, hx⟩
def EvAE (ta : TA) (σ : L2.St) (H : Hp) (P : Value → Option Addr → Hp → Prop) (W : WX) : Prop := ∀ H1, Ex H H1 → ∀ Q : List V → Hp → Prop, (∀ cls d H2, Ex H1 H2 → P cls d H2 → W cls d σ H2) → ta σ H1 Q
theorem eae_0 {te : TE} {tr : TA} {σ : L2.St} {H : Hp} {P : Value → Option Addr → Hp → Prop} {W : WX} (h : EvE te σ H P W) : EvAE (tCons te tr) σ H P W := fun H1 e Q q => h H1 e _ q
theorem eae_1 {te : TE} {tr : TA} {σ : L2.St} {H : Hp} {v : V} {P : Value → Option Addr → Hp → Prop} {W : WX} (h : Ev te σ H v) (hr : EvAE tr σ H P W) : EvAE (tCons te tr) σ H P W := fun H1 e Q q =>
  h H1 e _ fun H2 e2 => hr H2 (e.trans e2) _ fun cls d H3 e3 hp => q cls d H3 (e2.trans e3) hp
theorem ee_tup {ta : TA} {σ : L2.St} {H : Hp} {P : Value → Option Addr → Hp → Prop} {W : WX} (h : EvAE ta σ H P W) : EvE (tTup ta) σ H P W := fun H1 e _ q => h H1 e _ q
theorem ev_xf {te : TE} {σ : L2.St} {H : Hp} {a dd C : Addr} {f : Str} {fs : List (Str × V)} {v : V} (h : Ev te σ H (.ref a)) (hd : H dd = some (.xd fs)) (hl : fs.lookup f = some v) : Ev (tXf a (.ref C) (some dd) C f te) σ H v := fun H1 e Q q =>
  h H1 e _ fun H2 e2 => ⟨rfl, rfl, dd, fs, v, rfl, (e.trans e2) _ _ hd, hl, q H2 e2⟩
theorem lk1 (f : Str) (v : V) : [(f, v)].lookup f = some v := by simp [List.lookup]
def clsBodyW : Stmt → List Stmt
  | .ClassDef _ _ _ body _ _ _ _ _ _ _ => body
  | _ => []
theorem w_div {i j : Int} (h0 : 0 < j) (h1 : j ≤ 2 ^ 64) : CDivW i j := by
  refine ⟨h0, ?_⟩
  have h2 : j.natAbs < 2 ^ 65 := by omega
  have h3 := (Nat.log2_lt (by omega)).mpr h2
  omega
end Wm
set_option Elab.async false
set_option linter.all false
set_option maxRecDepth 100000
set_option maxHeartbeats 4000000
/-! Dm: a program's text as a total Lean function over plain data. No heap here: what a def returns, raises, or (bad) that nothing is said. -/
namespace Dm
open PySem L2
/-- data: scr is a list that is only read, ktp a tuple of the module -/
inductive D where
  | non | bl (b : Bool) | int (i : Int) | str (s : Str) | tup (xs : List D) | lst (xs : List D) | scr (xs : List D) | ktp (xs : List D) | fn (n : Nat) | dct (ks : List Str) (xs : List D)
instance : Inhabited D := ⟨.non⟩
inductive R (α : Type) where
  | ok (a : α) | exc (c : Nat) (fs : List (Str × D)) | bad
def R.bind {α β : Type} : R α → (α → R β) → R β
  | .ok a, k => k a
  | .exc c fs, _ => .exc c fs
  | .bad, _ => .bad
instance : Monad R where
  pure := .ok
  bind := R.bind
/-- a slot: nothing known, data, a list of one's own, the exception in the hand -/
inductive Sl where
  | un | val (d : D) | own (xs : List D) | exn (c : Nat) (fs : List (Str × D))
instance : Inhabited Sl := ⟨.un⟩
abbrev Env := List Sl
abbrev SE := Env → R D
abbrev SA := Env → R (List D)
abbrev ST := Env → R Bool
inductive RS where
  | nx (e : Env) | rt (v : Sl) | bk (e : Env) | ct (e : Env) | exc (c : Nat) (fs : List (Str × D)) (e : Env) | bad
abbrev SS := Env → RS

/-! data -/
def cutG {α : Type} (xs : List α) (lo hi : Option Int) : List α := (xs.drop (HT.sIx xs.length 0 lo)).take (HT.sIx xs.length xs.length hi - HT.sIx xs.length 0 lo)
mutual
def D.eqv : D → D → Bool
  | .non, .non => true
  | .bl a, .bl b => a == b
  | .bl a, .int j => (if a then 1 else 0) == j
  | .int i, .bl b => i == (if b then 1 else 0)
  | .int i, .int j => i == j
  | .str x, .str y => x == y
  | .lst xs, .lst ys => eqvAll xs ys
  | .lst xs, .scr ys => eqvAll xs ys
  | .scr xs, .lst ys => eqvAll xs ys
  | .scr xs, .scr ys => eqvAll xs ys
  | .tup xs, .tup ys => eqvAll xs ys
  | .ktp xs, .tup ys => eqvAll xs ys
  | .tup xs, .ktp ys => eqvAll xs ys
  | .ktp xs, .ktp ys => eqvAll xs ys
  | _, _ => false
def eqvAll : List D → List D → Bool
  | [], [] => true
  | x :: xs, y :: ys => D.eqv x y && eqvAll xs ys
  | _, _ => false
end
mutual
/-- plain data, at most so deep -/
def D.shp : Nat → D → Bool
  | _, .non | _, .bl _ | _, .int _ => true
  | _, .str x => x.cps.all (· < 0x110000)
  | n + 1, .lst xs | n + 1, .scr xs | n + 1, .tup xs | n + 1, .ktp xs => shpAll n xs
  | _, _ => false
def shpAll : Nat → List D → Bool
  | _, [] => true
  | n, x :: xs => D.shp n x && shpAll n xs
end
def flatD : D → Bool
  | .non | .bl _ | .int _ | .str _ => true
  | _ => false
def lkp : List Str → List D → Str → Option D
  | k :: ks, d :: ds, z => if z = k then some d else lkp ks ds z
  | _, _, _ => none
def seqOf : D → Option (List D)
  | .lst xs | .scr xs | .tup xs | .ktp xs => some xs
  | _ => none

/-! operations -/
abbrev Z : Nat := 100000
def dAdd : D → D → R D
  | .int i, .int j => .ok (.int (i + j))
  | .str a, .str b => if a.length + b.length ≤ Z then .ok (.str (a ++ b)) else .bad
  | .lst a, .lst b => if a.length + b.length ≤ Z then .ok (.lst (a ++ b)) else .bad
  | .tup a, .tup b => if a.length + b.length ≤ Z then .ok (.tup (a ++ b)) else .bad
  | _, _ => .bad
/-- of += -/
def dAddX : D → D → R D
  | .int i, .int j => .ok (.int (i + j))
  | .str a, .str b => if a.length + b.length ≤ Z then .ok (.str (a ++ b)) else .bad
  | _, _ => .bad
def dSub : D → D → R D
  | .int i, .int j => .ok (.int (i - j))
  | _, _ => .bad
instance (i j : Int) : Decidable (CMulW i j) := inferInstanceAs (Decidable (_ < _))
instance (i j : Int) : Decidable (CMul i j) := inferInstanceAs (Decidable (_ ∨ _))
instance (i j : Int) : Decidable (CShl i j) := inferInstanceAs (Decidable (_ ∧ _))
instance (i j : Int) : Decidable (CPow i j) := inferInstanceAs (Decidable (_ ∧ _))
instance (i j : Int) : Decidable (CDivW i j) := inferInstanceAs (Decidable (_ ∧ _))
def dMul : D → D → R D
  | .int i, .int j => if CMulW i j ∨ CMul i j then .ok (.int (i * j)) else .bad
  | .lst xs, .int k => if xs.length * k.toNat ≤ Z ∧ -(2 ^ 63) ≤ k ∧ k < 2 ^ 63 then .ok (.lst (List.replicate k.toNat xs).flatten) else .bad
  | _, _ => .bad
def dDiv : D → D → R D
  | .int i, .int j => if CDivW i j then .ok (.int (i / j)) else .bad
  | _, _ => .bad
def dMod : D → D → R D
  | .int i, .int j => if 0 < j then .ok (.int (i % j)) else .bad
  | _, _ => .bad
def dPow : D → D → R D
  | .int i, .int j => if CPow i j then .ok (.int (i ^ j.toNat)) else .bad
  | _, _ => .bad
def dShl : D → D → R D
  | .int i, .int j => if CShl i j ∨ CPow i j then .ok (.int (i * 2 ^ j.toNat)) else .bad
  | _, _ => .bad
def dShr : D → D → R D
  | .int i, .int j => if 0 ≤ j then .ok (.int (i / 2 ^ j.toNat)) else .bad
  | _, _ => .bad
def dAnd : D → D → R D
  | .int i, .int j => .ok (.int (Builtin.bitAnd i j))
  | _, _ => .bad
def dOr : D → D → R D
  | .int i, .int j => .ok (.int (Builtin.bitOr i j))
  | _, _ => .bad
def dXor : D → D → R D
  | .int i, .int j => .ok (.int (Builtin.bitXor i j))
  | _, _ => .bad
def dNeg : D → R D
  | .int i => .ok (.int (-i))
  | _ => .bad
def dNot : D → R D
  | .bl b => .ok (.bl !b)
  | _ => .bad
def dLt : D → D → R D
  | .int i, .int j => .ok (.bl (decide (i < j)))
  | .str a, .str b => .ok (.bl (decide (a.cps.toList < b.cps.toList)))
  | _, _ => .bad
def dLe : D → D → R D
  | .int i, .int j => .ok (.bl (decide (i ≤ j)))
  | .str a, .str b => .ok (.bl (!decide (b.cps.toList < a.cps.toList)))
  | _, _ => .bad
def dGt : D → D → R D
  | .int i, .int j => .ok (.bl (decide (j < i)))
  | .str a, .str b => .ok (.bl (decide (b.cps.toList < a.cps.toList)))
  | _, _ => .bad
def dGe : D → D → R D
  | .int i, .int j => .ok (.bl (decide (j ≤ i)))
  | .str a, .str b => .ok (.bl (!decide (a.cps.toList < b.cps.toList)))
  | _, _ => .bad
/-- ==: of texts without a look at their signs -/
def dEq : D → D → R D
  | .int i, .int j => .ok (.bl (decide (i = j)))
  | .str a, .str b => .ok (.bl (decide (a = b)))
  | .non, .str _ => .ok (.bl false)
  | .str _, .non => .ok (.bl false)
  | x, y => if x.shp 64 && y.shp 64 then .ok (.bl (x.eqv y)) else .bad
def dNe : D → D → R D := fun x y => (dEq x y).bind dNot
def inD (x : D) (xs : List D) : Bool := xs.any fun y => y.eqv x
def dIn : D → D → R D
  | .str a, .str b => .ok (.bl (!(Builtin.Str.occurrences b a 0 b.length 1).isEmpty))
  | .str a, .dct ks ds => .ok (.bl (lkp ks ds a).isSome)
  | x, y => match seqOf y with
    | some xs => if flatD x && xs.all flatD then .ok (.bl (inD x xs)) else .bad
    | none => .bad
def dNotIn : D → D → R D := fun x y => (dIn x y).bind dNot
def dIsN : D → R D
  | .non => .ok (.bl true)
  | _ => .ok (.bl false)
def dIsNot : D → R D := fun x => (dIsN x).bind dNot
def dIs : D → D → R D
  | x, .non => dIsN x
  | _, _ => .bad
def dIsnt : D → D → R D
  | x, .non => dIsNot x
  | _, _ => .bad
def dIx : D → D → R D
  | .str z, .int i => if z.length ≤ Z then (match atI z.cps.toList i with | some c => .ok (.str ⟨#[c]⟩) | none => .bad) else .bad
  | .dct ks ds, .str z => match lkp ks ds z with | some d => .ok d | none => .bad
  | .lst xs, .int i | .scr xs, .int i | .tup xs, .int i | .ktp xs, .int i => match atI xs i with | some d => .ok d | none => .bad
  | _, _ => .bad
def dSl : D → Option Int → Option Int → R D
  | .str z, lo, hi => if z.length ≤ Z then .ok (.str (cutS z lo hi)) else .bad
  | .lst xs, lo, hi | .scr xs, lo, hi => .ok (.lst (cutG xs lo hi))
  | .tup xs, lo, hi | .ktp xs, lo, hi => .ok (.tup (cutG xs lo hi))
  | _, _, _ => .bad
def toBl : D → R Bool
  | .bl b => .ok b
  | _ => .bad
def toIn : D → R Int
  | .int i => .ok i
  | _ => .bad
/-! built-ins, by their arguments -/
def fLen : List D → R D
  | [.str z] => if z.length ≤ Z then .ok (.int z.length) else .bad
  | [.lst xs] | [.scr xs] | [.tup xs] | [.ktp xs] => .ok (.int xs.length)
  | _ => .bad
def fInt : List D → R D
  | [.int i] => .ok (.int i)
  | [.bl b] => .ok (.int (if b then 1 else 0))
  | _ => .bad
def fStr : List D → R D
  | [.int i] => if i.natAbs.log2 < 1920 then .ok (.str (Str.ofString (toString i))) else .bad
  | _ => .bad
def fAbs : List D → R D
  | [.int i] => .ok (.int (if i < 0 then -i else i))
  | _ => .bad
def fMin2 : List D → R D
  | [.int i, .int j] => .ok (.int (if j < i then j else i))
  | _ => .bad
def fMax2 : List D → R D
  | [.int i, .int j] => .ok (.int (if j > i then j else i))
  | _ => .bad
def fOrd : List D → R D
  | [.str x] => if x.length = 1 then .ok (.int (x.cps.getD 0 0 : Nat)) else .bad
  | _ => .bad
def intsOf : List D → Option (List Int)
  | [] => some []
  | .int i :: r => (intsOf r).map (i :: ·)
  | _ => none
def strsOf : List D → Option (List Str)
  | [] => some []
  | .str i :: r => (strsOf r).map (i :: ·)
  | _ => none
def fSum : List D → R D
  | [.lst xs] | [.scr xs] => match intsOf xs with | some ns => .ok (.int ns.sum) | none => .bad
  | _ => .bad
def fTuple : List D → R D
  | [.lst xs] | [.scr xs] | [.tup xs] => .ok (.tup xs)
  | _ => .bad
/-- list(..): a new list -/
def fList : List D → R (List D)
  | [.lst xs] | [.scr xs] | [.tup xs] => .ok xs
  | _ => .bad
inductive Ty where | int | bool | str | list | tuple | dict
/-- isinstance(x, a built-in type) -/
def isTy : Ty → D → Bool
  | .int, .int _ | .int, .bl _ | .bool, .bl _ | .str, .str _ | .list, .lst _ | .list, .scr _ | .tuple, .tup _ | .tuple, .ktp _ | .dict, .dct _ _ => true
  | _, _ => false
def dIsi (t : Ty) : D → R D
  | .fn _ => .bad
  | x => .ok (.bl (isTy t x))
/-! methods -/
def mFind : D → List D → R D
  | .str a, [.str b] => .ok (.int (Txt.find a b))
  | _, _ => .bad
def mRfind : D → List D → R D
  | .str a, [.str b] => .ok (.int (Txt.rfind a b))
  | _, _ => .bad
def mCount : D → List D → R D
  | .str a, [.str b] => .ok (.int (Txt.count a b))
  | _, _ => .bad
def mLower : D → List D → R D
  | .str a, [] => if a.length ≤ Z then .ok (.str (Txt.lower a)) else .bad
  | _, _ => .bad
def mStarts : D → List D → R D
  | .str a, [.str b] => .ok (.bl (Txt.startswith a b))
  | _, _ => .bad
def mJoin : D → List D → R D
  | .str a, [.lst xs] | .str a, [.scr xs] | .str a, [.tup xs] => match strsOf xs with
    | some ys => if (ys.map (·.length)).sum + ys.length * a.length ≤ 16777216 then .ok (.str (Txt.join a ys)) else .bad
    | none => .bad
  | _, _ => .bad
/-- names.index(z) of a tuple of texts, where it is -/
def mTIndex : D → List D → R D
  | .ktp xs, [.str z] => match strsOf xs with
    | some ys => if z ∈ ys then .ok (.int (ys.idxOf z : Nat)) else .bad
    | none => .bad
  | _, _ => .bad

/-! ### expressions -/
def eC (d : D) : SE := fun _ => .ok d
def eV (i : Nat) : SE := fun env => match env[i]? with
  | some (.val d) => .ok d
  | _ => .bad
/-- len(xs), xs[k] of a list of one's own that still grows -/
def eLenO (i : Nat) : SE := fun env => match env[i]? with
  | some (.own xs) => .ok (.int xs.length)
  | _ => .bad
def eIxO (i : Nat) (b : SE) : SE := fun env => match env[i]? with
  | some (.own xs) => (b env).bind fun k => match k with
    | .int j => match atI xs j with
      | some d => .ok d
      | none => .bad
    | _ => .bad
  | _ => .bad
def eNil : SA := fun _ => .ok []
def eCons (a : SE) (r : SA) : SA := fun env => (a env).bind fun x => (r env).bind fun xs => .ok (x :: xs)
def eU (f : D → R D) (a : SE) : SE := fun env => (a env).bind f
def eB (f : D → D → R D) (a b : SE) : SE := fun env => (a env).bind fun x => (b env).bind fun y => f x y
def eChain (f g : D → D → R D) (a b c : SE) : SE := fun env => (a env).bind fun x => (b env).bind fun y => (f x y).bind fun r => (toBl r).bind fun k => if k = true then (c env).bind fun z => (g y z).bind fun r2 => (toBl r2).bind fun k2 => .ok (.bl k2) else .ok (.bl false)
def eAnd (a b : SE) : SE := fun env => (a env).bind fun x => (toBl x).bind fun k => if k = true then b env else .ok (.bl false)
def eOr (a b : SE) : SE := fun env => (a env).bind fun x => (toBl x).bind fun k => if k = true then .ok (.bl true) else b env
def eTup (a : SA) : SE := fun env => (a env).bind fun xs => if xs.length ≤ Z then .ok (.tup xs) else .bad
def eF (f : List D → R D) (a : SA) : SE := fun env => (a env).bind f
def eM (t : Ty) (f : D → List D → R D) (o : SE) (a : SA) : SE := fun env => (o env).bind fun x => if isTy t x = true then (a env).bind fun xs => f x xs else .bad
/-- the receiver is a tuple of the module: seen ahead of the arguments -/
def eTIx (o : SE) (a : SA) : SE := fun env => (o env).bind fun x => match x with
  | .ktp xs => (a env).bind fun ds => mTIndex (.ktp xs) ds
  | _ => .bad
def eSl (o : SE) (lo hi : Env → R (Option Int)) : SE := fun env => (o env).bind fun x => (lo env).bind fun l => (hi env).bind fun h => dSl x l h
def pN : Env → R (Option Int) := fun _ => .ok none
def pS (a : SE) : Env → R (Option Int) := fun env => (a env).bind fun x => (toIn x).bind fun i => .ok (some i)
/-- a new list as a value -/
def eL (a : SA) : SE := fun env => (a env).bind fun xs => .ok (.lst xs)
/-- tests -/
def tE (a : SE) : ST := fun env => (a env).bind toBl
def tAn (t u : ST) : ST := fun env => (t env).bind fun k => if k = true then u env else .ok false
def tO (t u : ST) : ST := fun env => (t env).bind fun k => if k = true then .ok true else u env
def tN (t : ST) : ST := fun env => (t env).bind fun k => .ok !k
def eIf (t : ST) (a b : SE) : SE := fun env => (t env).bind fun k => if k = true then a env else b env
/-! new lists -/
def lD (a : SA) : SA := fun env => (a env).bind fun xs => if xs.length ≤ Z then .ok xs else .bad
def toL : D → R (List D)
  | .lst xs => .ok xs
  | _ => .bad
/-- a + b, a * k, a[lo:hi] of lists, as new lists -/
def lCat (a b : SE) : SA := fun env => (a env).bind fun x => (b env).bind fun y => match x, y with
  | .lst xs, .lst ys => if xs.length + ys.length ≤ Z then .ok (xs ++ ys) else .bad
  | _, _ => .bad
def lRep (a b : SE) : SA := fun env => (a env).bind fun x => (b env).bind fun y => match x, y with
  | .lst xs, .int k => if xs.length * k.toNat ≤ Z ∧ -(2 ^ 63) ≤ k ∧ k < 2 ^ 63 then .ok (List.replicate k.toNat xs).flatten else .bad
  | _, _ => .bad
def lSl (o : SE) (lo hi : Env → R (Option Int)) : SA := fun env => (o env).bind fun x => (lo env).bind fun l => (hi env).bind fun h => match x with
  | .lst xs => .ok (cutG xs l h)
  | .scr xs => .ok (cutG xs l h)
  | _ => .bad
def lF (f : List D → R (List D)) (a : SA) : SA := fun env => (a env).bind f
def lRev (o : SE) : SA := fun env => (o env).bind fun x => match x with
  | .lst xs => .ok xs.reverse
  | .scr xs => .ok xs.reverse
  | _ => .bad
/-! what is walked -/
def iD (o : SE) : SA := fun env => (o env).bind fun x => match x with
  | .lst xs => .ok xs
  | .scr xs => .ok xs
  | _ => .bad
def iT (o : SE) : SA := fun env => (o env).bind fun x => match x with
  | .tup xs => .ok xs
  | .ktp xs => .ok xs
  | _ => .bad
def iS (o : SE) : SA := fun env => (o env).bind fun x => match x with
  | .str z => .ok (z.cps.toList.map fun c => .str ⟨#[c]⟩)
  | _ => .bad
def iR1 (a : SA) : SA := fun env => (a env).bind fun x => match x with
  | [.int n] => if n ≤ Z ∧ -Z ≤ n then .ok ((List.range n.toNat).map fun (i : Nat) => .int i) else .bad
  | _ => .bad
def iR2 (a : SA) : SA := fun env => (a env).bind fun x => match x with
  | [.int m, .int n] => if n ≤ Z ∧ -Z ≤ n ∧ m ≤ Z ∧ -Z ≤ m then .ok ((List.range (n - m).toNat).map fun (i : Nat) => .int (m + (i : Int))) else .bad
  | _ => .bad
def zipD : List D → List D → List D
  | x :: xs, y :: ys => .tup [x, y] :: zipD xs ys
  | _, _ => []
def iZT (a : SA) : SA := fun env => (a env).bind fun x => match x with
  | [.tup xs, .tup ys] => .ok (zipD xs ys)
  | _ => .bad
def iZL (a : SA) : SA := fun env => (a env).bind fun x => match x with
  | [.lst xs, .lst ys] => .ok (zipD xs ys)
  | _ => .bad
def enumD : Nat → List D → List D
  | n, x :: xs => .tup [.int n, x] :: enumD (n + 1) xs
  | _, [] => []
def iEn (o : SE) : SA := fun env => (o env).bind fun x => match x with
  | .lst xs => .ok (enumD 0 xs)
  | _ => .bad
/-! ### targets -/
abbrev SG := D → Env → Option Env
def gN (i : Nat) : SG := fun d env => some (env.set i (.val d))
abbrev SGs := List D → Env → Option Env
def gE : SGs := fun ds env => match ds with
  | [] => some env
  | _ => none
def gC (g : SG) (r : SGs) : SGs := fun ds env => match ds with
  | d :: ds => match g d env with
    | some env2 => r ds env2
    | none => none
  | _ => none
def gT (n : Nat) (r : SGs) : SG := fun d env => match d with
  | .tup ds | .ktp ds => if ds.length = n then r ds env else none
  | _ => none
/-! comprehensions -/
def wipeS (env : Env) : List Nat → Env
  | [] => env
  | v :: vs => (wipeS env vs).set v .un
/-- no exception comes -/
def noX {α : Type} : R α → R α
  | .ok a => .ok a
  | _ => .bad
def lcGo (g : SG) (t : ST) (e : SE) (env : Env) : List D → List D → R (List D)
  | [], acc => .ok acc
  | d :: ds, acc => match g d env with
    | some env2 => (noX (t env2)).bind fun k => if k = true then (noX (e env2)).bind fun x => lcGo g t e env ds (acc ++ [x]) else lcGo g t e env ds acc
    | none => .bad
def lLc (it : SA) (g : SG) (t : ST) (e : SE) (vs : List Nat) : SA := fun env => (it env).bind fun ds => if ds.length ≤ 40000 then lcGo g t e (wipeS env vs) ds [] else .bad
def tY : ST := fun _ => .ok true
/-! ### statements -/
def ofE {α : Type} (r : R α) (env : Env) (k : α → RS) : RS := match r with
  | .ok a => k a
  | .exc c fs => .exc c fs env
  | .bad => .bad
def sNx : SS := fun env => .nx env
def sSeq (a b : SS) : SS := fun env => match a env with
  | .nx e => b e
  | r => r
def ofG (r : Option Env) (k : Env → RS) : RS := match r with
  | some e => k e
  | none => .bad
def sG (e : SE) (g : SG) : SS := fun env => ofE (e env) env fun d => ofG (g d env) fun e2 => .nx e2
def sA (i : Nat) (e : SE) : SS := fun env => ofE (e env) env fun d => .nx (env.set i (.val d))
/-- a new list of one's own -/
def sO (i : Nat) (e : SA) : SS := fun env => ofE (e env) env fun ds => .nx (env.set i (.own ds))
def frz (i : Nat) (env : Env) : Env := match env[i]? with
  | some (.own ds) => env.set i (.val (.lst ds))
  | _ => env
def sFrz (i : Nat) (s : SS) : SS := fun env => s (frz i env)
def sApp (i : Nat) (e : SE) : SS := fun env => match env[i]? with
  | some (.own xs) => ofE (e env) env fun d => if xs.length < Z then .nx (env.set i (.own (xs ++ [d]))) else .bad
  | _ => .bad
def sExt (i : Nat) (e : SE) : SS := fun env => match env[i]? with
  | some (.own xs) => ofE (e env) env fun d => match d with
    | .lst ys => if xs.length + ys.length ≤ Z then .nx (env.set i (.own (xs ++ ys))) else .bad
    | _ => .bad
  | _ => .bad
/-- xs.pop() as a statement -/
def sPop (i : Nat) : SS := fun env => match env[i]? with
  | some (.own xs) => if xs = [] then .bad else .nx (env.set i (.own xs.dropLast))
  | _ => .bad
/-- xs[k] = e -/
def sSet (i : Nat) (k e : SE) : SS := fun env => match env[i]? with
  | some (.own xs) => ofE (e env) env fun d => ofE (k env) env fun j => match j with
    | .int j => match ixN xs.length j with
      | some n => .nx (env.set i (.own (xs.set n d)))
      | none => .bad
    | _ => .bad
  | _ => .bad
def sAug (i : Nat) (f : D → D → R D) (e : SE) : SS := fun env => match env[i]? with
  | some (.val x) => ofE (e env) env fun y => ofE (f x y) env fun z => .nx (env.set i (.val z))
  | _ => .bad
def sX (e : SE) : SS := fun env => ofE (e env) env fun _ => .nx env
def sIf (t : ST) (a b : SS) : SS := fun env => ofE (t env) env fun k => if k = true then a env else b env
def sRet (e : SE) : SS := fun env => ofE (e env) env fun d => .rt (.val d)
/-- a new list handed back; a list of one's own handed back -/
def sRetL (e : SA) : SS := fun env => ofE (e env) env fun ds => .rt (.own ds)
def sRetO (i : Nat) : SS := fun env => match env[i]? with
  | some (.own xs) => .rt (.own xs)
  | _ => .bad
def sRetN : SS := fun _ => .rt (.val .non)
def sBr : SS := fun env => .bk env
def sCt : SS := fun env => .ct env
def sNever : SS := fun _ => .bad
def forGo (g : SG) (b : SS) : List D → Env → RS
  | [], env => .nx env
  | d :: ds, env => ofG (g d env) fun e2 => match b e2 with
    | .nx e3 | .ct e3 => forGo g b ds e3
    | .bk e3 => .nx e3
    | r => r
def sFor (it : SA) (g : SG) (b : SS) : SS := fun env => ofE (it env) env fun ds => forGo g b ds env
def whGo (t : ST) (b : SS) : Nat → Env → RS
  | 0, _ => .bad
  | n + 1, env => ofE (t env) env fun k => if k = true then (match b env with
    | .nx e3 | .ct e3 => whGo t b n e3
    | .bk e3 => .nx e3
    | r => r) else .nx env
/-- while, at most so many turns -/
def sWh (n : Nat) (t : ST) (b : SS) : SS := fun env => whGo t b n env
def sRaise (c : Nat) (nm : List Str) (a : SA) : SS := fun env => ofE (a env) env fun ds => if ds.length = nm.length then .exc c (nm.zip ds) env else .bad
def noExn (env : Env) : Bool := env.all fun s => match s with
  | .exn _ _ => false
  | _ => true
def ifB (b : Bool) (r : RS) : RS := if b = true then r else .bad
def sTry (b : SS) (i : Nat) (cs : Nat → Option Bool) (h : SS) : SS := fun env => match b env with
  | .exc c fs e2 => match cs c with
    | some true => ifB (noExn e2) (match h (e2.set i (.exn c fs)) with
      | .nx e3 => ifB (noExn (e3.set i .un)) (.nx (e3.set i .un))
      | .bk e3 => ifB (noExn (e3.set i .un)) (.bk (e3.set i .un))
      | .ct e3 => ifB (noExn (e3.set i .un)) (.ct (e3.set i .un))
      | .rt v => .rt v
      | _ => .bad)
    | some false => .exc c fs e2
    | none => .bad
  | r => r
/-- e.f of the exception in the hand -/
def eXf (i : Nat) (c : Nat) (f : Str) : SE := fun env => match env[i]? with
  | some (.exn c2 fs) => if c2 = c then (match fs.lookup f with | some d => .ok d | none => .bad) else .bad
  | _ => .bad
/-! ### defs -/
/-- a def of n parameters, with k further names -/
def defV (n k : Nat) (b : SS) (ds : List D) : R D := if ds.length = n then (match b (ds.map .val ++ List.replicate k .un) with
  | .rt (.val d) => .ok d
  | .rt (.own xs) => .ok (.lst xs)
  | .nx _ => .ok .non
  | .exc c fs _ => .exc c fs
  | _ => .bad) else .bad
/-- .. that hands back a new list -/
def defL (n k : Nat) (b : SS) (ds : List D) : R (List D) := if ds.length = n then (match b (ds.map .val ++ List.replicate k .un) with
  | .rt (.own xs) => .ok xs
  | .exc c fs _ => .exc c fs
  | _ => .bad) else .bad
/-- a call of a name that holds a def -/
def eP (tb : Nat → Option (List D → R D)) (i : Nat) (a : SA) : SE := fun env => match env[i]? with
  | some (.val (.fn n)) => match tb n with
    | some m => (a env).bind m
    | none => .bad
  | _ => .bad
end Dm
set_option Elab.async false
set_option linter.all false
set_option maxRecDepth 100000
set_option maxHeartbeats 4000000
/-! Ds: that the text's run follows Dm's function: JE, JT, JA, JS, .. say of a piece of the text that it runs as a function of Dm tells. -/
namespace Dm
open PySem L2 Evl RZ Wm
mutual
/-- v is the datum d in the heap H -/
inductive Rep (K : PySem.W.Frag) (w : World) (ad : Nat → Addr) (H : Hp) : V → D → Prop
  | non : Rep K w ad H .non .non
  | bl (b : Bool) : Rep K w ad H (.bl b) (.bl b)
  | int (i : Int) : Rep K w ad H (.int i) (.int i)
  | str (x : Str) : Rep K w ad H (.str x) (.str x)
  | lst {a : Addr} {vs : List V} {ds : List D} : H a = some (.lst vs) → RepL K w ad H vs ds → Rep K w ad H (.ref a) (.lst ds)
  | scr {a : Addr} {vs : List V} {ds : List D} : SqL K H a vs → RepL K w ad H vs ds → Rep K w ad H (.ref a) (.scr ds)
  | tup {a : Addr} {vs : List V} {ds : List D} : SqT K H a vs → RepL K w ad H vs ds → Rep K w ad H (.ref a) (.tup ds)
  | ktp {a : Addr} {vs : List V} {ds : List D} : SqT K H a vs → (∃ o, K.lookup a = some o ∧ o.cls = .type "tuple" ∧ o.dict = none) → RepL K w ad H vs ds → Rep K w ad H (.ref a) (.ktp ds)
  | fn (n : Nat) : Rep K w ad H (.ref (ad n)) (.fn n)
  | dct {a : Addr} {ks : List Str} {vs : List V} {ds : List D} : ks.length = vs.length → SD K w a (ks.zip vs) → RepL K w ad H vs ds → Rep K w ad H (.ref a) (.dct ks ds)
inductive RepL (K : PySem.W.Frag) (w : World) (ad : Nat → Addr) (H : Hp) : List V → List D → Prop
  | nil : RepL K w ad H [] []
  | cons {v : V} {d : D} {vs : List V} {ds : List D} : Rep K w ad H v d → RepL K w ad H vs ds → RepL K w ad H (v :: vs) (d :: ds)
end
section
variable {K : PySem.W.Frag} {w : World} {ad : Nat → Addr} {G G' G1 G2 H H' H1 H2 H0 G0 : Hp}
mutual
theorem Rep.mono (e : Ex H H') : ∀ {v : V} {d : D}, Rep K w ad H v d → Rep K w ad H' v d
  | _, _, .non => .non
  | _, _, .bl b => .bl b
  | _, _, .int i => .int i
  | _, _, .str i => .str i
  | _, _, .lst h r => .lst (e _ _ h) (RepL.mono e r)
  | _, _, .scr h r => .scr (ex_l e h) (RepL.mono e r)
  | _, _, .tup h r => .tup (ex_t e h) (RepL.mono e r)
  | _, _, .ktp h k r => .ktp (ex_t e h) k (RepL.mono e r)
  | _, _, .fn n => .fn n
  | _, _, .dct hl h r => .dct hl h (RepL.mono e r)
theorem RepL.mono (e : Ex H H') : ∀ {v : List V} {d : List D}, RepL K w ad H v d → RepL K w ad H' v d
  | _, _, .nil => .nil
  | _, _, .cons h r => .cons (Rep.mono e h) (RepL.mono e r)
end
theorem RepL.length : ∀ {v : List V} {d : List D}, RepL K w ad H v d → v.length = d.length
  | _, _, .nil => rfl
  | _, _, .cons _ r => congrArg (· + 1) r.length
theorem RepL.append : ∀ {v v2 : List V} {d d2 : List D}, RepL K w ad H v d → RepL K w ad H v2 d2 → RepL K w ad H (v ++ v2) (d ++ d2)
  | _, _, _, _, .nil, h => h
  | _, _, _, _, .cons h r, h2 => .cons h (r.append h2)
theorem RepL.get : ∀ {v : List V} {d : List D} {i : Nat} {x : D}, RepL K w ad H v d → d[i]? = some x → ∃ u, v[i]? = some u ∧ Rep K w ad H u x
  | _, _, _, _, .nil, h => by cases h
  | _, _, 0, _, .cons h r, e => by cases e; exact ⟨_, rfl, h⟩
  | _, _, i + 1, _, .cons h r, e => RepL.get (i := i) r e
theorem RepL.getV : ∀ {v : List V} {d : List D} {i : Nat} {u : V}, RepL K w ad H v d → v[i]? = some u → ∃ x, d[i]? = some x ∧ Rep K w ad H u x
  | _, _, _, _, .nil, h => by cases h
  | _, _, 0, _, .cons h r, e => by cases e; exact ⟨_, rfl, h⟩
  | _, _, i + 1, _, .cons h r, e => RepL.getV (i := i) r e
theorem RepL.take : ∀ {v : List V} {d : List D} (n : Nat), RepL K w ad H v d → RepL K w ad H (v.take n) (d.take n)
  | _, _, 0, _ => by simp only [List.take_zero]; exact .nil
  | _, _, n + 1, .nil => .nil
  | _, _, n + 1, .cons h r => .cons h (r.take n)
theorem RepL.drop : ∀ {v : List V} {d : List D} (n : Nat), RepL K w ad H v d → RepL K w ad H (v.drop n) (d.drop n)
  | _, _, 0, h => h
  | _, _, n + 1, .nil => .nil
  | _, _, n + 1, .cons h r => r.drop n
theorem RepL.set {x : V} {y : D} (q : Rep K w ad H x y) : ∀ {v : List V} {d : List D} (n : Nat), RepL K w ad H v d → RepL K w ad H (v.set n x) (d.set n y)
  | _, _, _, .nil => .nil
  | _, _, 0, .cons h r => .cons q r
  | _, _, n + 1, .cons h r => .cons h (r.set q n)
theorem RepL.dropLast : ∀ {v : List V} {d : List D}, RepL K w ad H v d → RepL K w ad H v.dropLast d.dropLast
  | _, _, .nil => .nil
  | _, _, .cons h .nil => .nil
  | _, _, .cons h (.cons h2 r) => .cons h (RepL.dropLast (.cons h2 r))
theorem RepL.reverse : ∀ {v : List V} {d : List D}, RepL K w ad H v d → RepL K w ad H v.reverse d.reverse
  | _, _, .nil => .nil
  | _, _, .cons h r => by
    rw [List.reverse_cons, List.reverse_cons]
    exact r.reverse.append (.cons h .nil)
theorem RepL.rep {v : List V} {d : List D} (h : RepL K w ad H v d) : ∀ k : Nat, RepL K w ad H (List.replicate k v).flatten (List.replicate k d).flatten
  | 0 => .nil
  | k + 1 => by
    rw [List.replicate_succ, List.replicate_succ, List.flatten_cons, List.flatten_cons]
    exact h.append (RepL.rep h k)
theorem RepL.cut {v : List V} {d : List D} (h : RepL K w ad H v d) (lo hi : Option Int) : RepL K w ad H (cutV v lo hi) (cutG d lo hi) := by
  unfold cutV cutG
  rw [h.length]
  exact (h.drop _).take _
theorem RepL.ints : ∀ {v : List V} {d : List D} {ns : List Int}, RepL K w ad H v d → intsOf d = some ns → v = ns.map V.int
  | _, _, _, .nil, e => by cases e; rfl
  | _, _, _, .cons h r, e => by
    cases h with
    | int i =>
      unfold intsOf at e
      cases q : intsOf _ with
      | none => rw [q] at e; cases e
      | some ms =>
        rw [q] at e
        cases e
        rw [RepL.ints r q]
        rfl
    | _ => cases e
theorem RepL.strs : ∀ {v : List V} {d : List D} {ns : List Str}, RepL K w ad H v d → strsOf d = some ns → v = ns.map V.str
  | _, _, _, .nil, e => by cases e; rfl
  | _, _, _, .cons h r, e => by
    cases h with
    | str i =>
      unfold strsOf at e
      cases q : strsOf _ with
      | none => rw [q] at e; cases e
      | some ms =>
        rw [q] at e
        cases e
        rw [RepL.strs r q]
        rfl
    | _ => cases e
theorem RepL.atI {v : List V} {d : List D} {i : Int} {x : D} (h : RepL K w ad H v d) (e : L2.atI d i = some x) : ∃ u, L2.atI v i = some u ∧ Rep K w ad H u x := by
  unfold L2.atI at e ⊢
  rw [h.length]
  cases c : ixN d.length i with
  | none => rw [c] at e; cases e
  | some j =>
    rw [c] at e
    exact h.get e
/-! ### steps: the ground G grows, the heap H grows, and what H knew beyond the ground stays beyond it -/
structure Step (G H G' H' : Hp) : Prop where
  g : Ex G G'
  gh : Ex G' H'
  h : Ex H H'
  out : ∀ p, G p = none → H p ≠ none → G' p = none
theorem Step.refl (e : Ex G H) : Step G H G H := ⟨Ex.refl G, e, Ex.refl H, fun _ h _ => h⟩
theorem Step.trans (a : Step G H G1 H1) (b : Step G1 H1 G2 H2) : Step G H G2 H2 := ⟨a.g.trans b.g, b.gh, a.h.trans b.h, fun p h1 h2 => b.out p (a.out p h1 h2) fun z => by
  cases q : H p with
  | none => exact h2 q
  | some o => rw [a.h p o q] at z; cases z⟩
theorem Step.new {p : Addr} {o : HO} (e : Ex G H) (hp : H p = none) : Step G H (upd G p o) (upd H p o) := by
  have hg : G p = none := fresh_back e hp
  refine ⟨Ex.new hg, fun a u h => ?_, Ex.new hp, fun q h1 h2 => ?_⟩
  · by_cases z : a = p
    · subst z; rw [upd_same] at h ⊢; exact h
    · rw [upd_ne z] at h ⊢; exact e a u h
  · by_cases z : q = p
    · subst z; exact absurd hp h2
    · rw [upd_ne z]; exact h1
theorem Step.ofH (e : Ex G H) (h : Ex H H') : Step G H G H' := ⟨Ex.refl G, e.trans h, h, fun _ h _ => h⟩
end
/-- the exception's dict holds these fields -/
def XRep (K : PySem.W.Frag) (w : World) (ad : Nat → Addr) (H : Hp) (fs : List (Str × D)) (dd : Option Addr) : Prop :=
  match fs with
  | [] => dd = none
  | fs => ∃ q vfs, dd = some q ∧ H q = some (.xd vfs) ∧ ∀ f d, fs.lookup f = some d → ∃ v, vfs.lookup f = some v ∧ Rep K w ad H v d
theorem XRep.mono {K : PySem.W.Frag} {w : World} {ad : Nat → Addr} {H H' : Hp} {fs : List (Str × D)} {dd : Option Addr} (e : Ex H H') (h : XRep K w ad H fs dd) : XRep K w ad H' fs dd := by
  unfold XRep at h ⊢
  cases fs with
  | nil => exact h
  | cons f fs =>
    obtain ⟨q, vfs, h1, h2, h3⟩ := h
    exact ⟨q, vfs, h1, e _ _ h2, fun f d l => by
      obtain ⟨v, a, b⟩ := h3 f d l
      exact ⟨v, a, b.mono e⟩⟩
/-- the exception that a suite holds -/
structure Xo where
  a : Addr
  cls : Value
  d : Option Addr
/-- what is the same throughout -/
structure Cc where
  K : PySem.W.Frag
  w : World
  ad : Nat → Addr
/-- the slots σ are the environment env -/
structure Fit (C : Cc) (xo : Xo) (G H : Hp) (σ : L2.St) (env : Env) : Prop where
  ex : Ex G H
  len : σ.length = env.length
  val : ∀ (i : Nat) d, env[i]? = some (.val d) → ∃ v, σ[i]? = some (some v) ∧ Rep C.K C.w C.ad G v d
  own : ∀ (i : Nat) ds, env[i]? = some (.own ds) → ∃ p vs, σ[i]? = some (some (.ref p)) ∧ G p = none ∧ H p = some (.lst vs) ∧ RepL C.K C.w C.ad G vs ds
  sep : ∀ (i j : Nat) p ds es, env[i]? = some (.own ds) → env[j]? = some (.own es) → σ[i]? = some (some (.ref p)) → σ[j]? = some (some (.ref p)) → i = j
  exn : ∀ (i : Nat) c fs, env[i]? = some (.exn c fs) → σ[i]? = some (some (.ref xo.a)) ∧ xo.cls = .ref (C.ad c) ∧ XRep C.K C.w C.ad G fs xo.d
/-- .. since the def was entered with (G0, H0) -/
structure Fit0 (C : Cc) (xo : Xo) (G0 H0 G H : Hp) (σ : L2.St) (env : Env) : Prop where
  f : Fit C xo G H σ env
  s : Step G0 H0 G H
  new : ∀ (i : Nat) ds p, env[i]? = some (.own ds) → σ[i]? = some (some (.ref p)) → H0 p = none
section
variable {C : Cc} {xo : Xo} {G H G' H' G0 H0 G1 H1 : Hp} {σ : L2.St} {env : Env}
theorem Fit.step (f : Fit C xo G H σ env) (s : Step G H G' H') : Fit C xo G' H' σ env where
  ex := s.gh
  len := f.len
  val := fun i d h => by
    obtain ⟨v, h1, h2⟩ := f.val i d h
    exact ⟨v, h1, h2.mono s.g⟩
  own := fun i ds h => by
    obtain ⟨p, vs, h1, h2, h3, h4⟩ := f.own i ds h
    exact ⟨p, vs, h1, s.out p h2 (by rw [h3]; exact nofun), s.h _ _ h3, h4.mono s.g⟩
  sep := f.sep
  exn := fun i c fs h => by
    obtain ⟨h1, h2, h3⟩ := f.exn i c fs h
    exact ⟨h1, h2, h3.mono s.g⟩
theorem Fit0.step (f : Fit0 C xo G0 H0 G H σ env) (s : Step G H G' H') : Fit0 C xo G0 H0 G' H' σ env := ⟨f.f.step s, f.s.trans s, f.new⟩
theorem Fit0.ex (f : Fit0 C xo G0 H0 G H σ env) : Ex G H := f.f.ex
end
/-! ### outcomes -/
/-- a wish about exceptions, with the slots -/
def Out {α β : Type} (C : Cc) (rep : Hp → Hp → β → α → Prop) (E : XK) (G H : Hp) (Q : β → Hp → Prop) : R α → Prop
  | .ok d => ∀ v G' H', Step G H G' H' → rep G' H' v d → Q v H'
  | .exc c fs => ∀ dd G' H', Step G H G' H' → XRep C.K C.w C.ad G' fs dd → E (.ref (C.ad c)) dd H'
  | .bad => False
section
variable {α β γ δ : Type} {C : Cc} {rep : Hp → Hp → β → α → Prop} {rep2 : Hp → Hp → δ → γ → Prop} {E : XK} {G H G' H' : Hp} {Q : β → Hp → Prop} {Q2 : δ → Hp → Prop}
theorem Out.step {r : R α} (s : Step G H G' H') (h : Out C rep E G H Q r) : Out C rep E G' H' Q r := by
  cases r with
  | ok d => exact fun v G2 H2 s2 r2 => h v G2 H2 (s.trans s2) r2
  | exc c fs => exact fun dd G2 H2 s2 x => h dd G2 H2 (s.trans s2) x
  | bad => exact h
theorem Out.bind {r : R α} {k : α → R γ} (h : Out C rep2 E G H Q2 (r.bind k)) (q : ∀ d v G' H', r = .ok d → Step G H G' H' → rep G' H' v d → Out C rep2 E G' H' Q2 (k d) → Q v H') : Out C rep E G H Q r := by
  cases r with
  | ok d => exact fun v G' H' s r2 => q d v G' H' rfl s r2 (Out.step s h)
  | exc c fs => exact h
  | bad => exact h
end
abbrev rV (C : Cc) : Hp → Hp → V → D → Prop := fun G _ v d => Rep C.K C.w C.ad G v d
abbrev rA (C : Cc) : Hp → Hp → List V → List D → Prop := fun G _ v d => RepL C.K C.w C.ad G v d
abbrev rB : Hp → Hp → Bool → Bool → Prop := fun _ _ a b => a = b
abbrev rO : Hp → Hp → Option Int → Option Int → Prop := fun _ _ a b => a = b
/-- a new list, beyond the ground -/
abbrev rN (C : Cc) : Hp → Hp → V → List D → Prop := fun G H v ds => ∃ p vs, v = .ref p ∧ G p = none ∧ H p = some (.lst vs) ∧ RepL C.K C.w C.ad G vs ds
/-! ### what terms come to -/
section
variable (C : Cc) (xo : Xo) (W : WX)
def CE (te : TE) (f : SE) : Prop := ∀ σ G H env, Fit C xo G H σ env → ∀ Q, Out C (rV C) (WE W σ) G H Q (f env) → te σ H Q
def CT (te : TT) (f : ST) : Prop := ∀ σ G H env, Fit C xo G H σ env → ∀ Q, Out C rB (WE W σ) G H Q (f env) → te σ H Q
def CA (te : TA) (f : SA) : Prop := ∀ σ G H env, Fit C xo G H σ env → ∀ Q, Out C (rA C) (WE W σ) G H Q (f env) → te σ H Q
def CO (te : TO) (f : Env → R (Option Int)) : Prop := ∀ σ G H env, Fit C xo G H σ env → ∀ Q, Out C rO (WE W σ) G H Q (f env) → te σ H Q
/-- a new list: at p, which neither the ground nor the heap knew -/
def CN (te : TE) (f : SA) : Prop := ∀ σ G H env, Fit C xo G H σ env → ∀ Q, Out C (fun G' H' v ds => rN C G' H' v ds ∧ ∀ p, v = .ref p → H p = none) (WE W σ) G H Q (f env) → te σ H Q
end
end Dm
set_option Elab.async false
set_option linter.all false
set_option maxRecDepth 100000
set_option maxHeartbeats 4000000
namespace Dm
open PySem L2 Evl RZ Wm
def D.toP : D → PyData
  | .non => .none
  | .bl b => .bool b
  | .int i => .int i
  | .str s => .str s
  | .lst xs => .list (go xs)
  | .scr xs => .list (go xs)
  | .tup xs => .tuple (go xs)
  | .ktp xs => .tuple (go xs)
  | .fn _ => .none
  | .dct _ _ => .none
where go : List D → List PyData
  | [] => []
  | x :: xs => x.toP :: go xs
section
variable {C : Cc} {xo : Xo} {W : WX} {G H G' H' : Hp} {σ : L2.St} {env : Env} {E : XK}
mutual
theorem Rep.dp {K : PySem.W.Frag} {w : World} {ad : Nat → Addr} : ∀ {v : V} {d : D} {n : Nat}, Rep K w ad H v d → d.shp n = true → Dp K H v d.toP ∧ d.toP.canLay0 = true ∧ d.toP.depth ≤ n
  | _, _, _, .non, _ => ⟨.non, rfl, Nat.zero_le _⟩
  | _, _, _, .bl b, _ => ⟨.bl b, rfl, Nat.zero_le _⟩
  | _, _, _, .int b, _ => ⟨.int b, rfl, Nat.zero_le _⟩
  | _, _, n, .str b, h => ⟨.str b, (by cases n <;> exact h), Nat.zero_le _⟩
  | _, _, 0, .lst _ _, h => by cases h
  | _, _, n + 1, .lst h r, q => by
    have z := RepL.dp r (show shpAll n _ = true from q)
    exact ⟨.lst (sq_of h) z.1, z.2.1, Nat.succ_le_succ z.2.2⟩
  | _, _, 0, .scr _ _, h => by cases h
  | _, _, n + 1, .scr h r, q => by
    have z := RepL.dp r (show shpAll n _ = true from q)
    exact ⟨.lst h z.1, z.2.1, Nat.succ_le_succ z.2.2⟩
  | _, _, 0, .tup _ _, h => by cases h
  | _, _, n + 1, .tup h r, q => by
    have z := RepL.dp r (show shpAll n _ = true from q)
    exact ⟨.tup h z.1, z.2.1, Nat.succ_le_succ z.2.2⟩
  | _, _, 0, .ktp _ _ _, h => by cases h
  | _, _, n + 1, .ktp h _ r, q => by
    have z := RepL.dp r (show shpAll n _ = true from q)
    exact ⟨.tup h z.1, z.2.1, Nat.succ_le_succ z.2.2⟩
  | _, _, 0, .fn _, h => by cases h
  | _, _, _ + 1, .fn _, h => by cases h
  | _, _, 0, .dct _ _ _, h => by cases h
  | _, _, _ + 1, .dct _ _ _, h => by cases h
theorem RepL.dp {K : PySem.W.Frag} {w : World} {ad : Nat → Addr} : ∀ {v : List V} {d : List D} {n : Nat}, RepL K w ad H v d → shpAll n d = true → DpAll K H v (D.toP.go d) ∧ PyData.canLayAll0 (D.toP.go d) = true ∧ PyData.depthAll (D.toP.go d) ≤ n
  | _, _, _, .nil, _ => ⟨.nil, rfl, Nat.zero_le _⟩
  | _, _, n, .cons h r, q => by
    unfold shpAll at q
    rw [Bool.and_eq_true] at q
    have z1 := Rep.dp h q.1
    have z2 := RepL.dp r q.2
    refine ⟨.cons z1.1 z2.1, ?_, ?_⟩
    · show (PyData.canLay0 _ && PyData.canLayAll0 _) = true
      rw [z1.2.1, z2.2.1]
      rfl
    · show max _ _ ≤ n
      exact Nat.max_le.mpr ⟨z1.2.2, z2.2.2⟩
end
theorem Rep.shaped {K : PySem.W.Frag} {w : World} {ad : Nat → Addr} {v : V} {d : D} (r : Rep K w ad H v d) (h : d.shp 64 = true) : Dp K H v d.toP ∧ SeqAt.shaped d.toP = true := by
  have z := r.dp h
  refine ⟨z.1, ?_⟩
  unfold SeqAt.shaped
  rw [z.2.1, decide_eq_true z.2.2]
  rfl
mutual
theorem eqv_toP : ∀ (d e : D) {n m : Nat}, d.shp n = true → e.shp m = true → PyData.eqv d.toP e.toP = d.eqv e
  | .lst xs, e, 0, m, h, _ => by cases h
  | .scr xs, e, 0, m, h, _ => by cases h
  | .ktp xs, e, 0, m, h, _ => by cases h
  | .tup xs, e, 0, m, h, _ => by cases h
  | .fn k, e, 0, m, h, _ => by cases h
  | .fn k, e, n + 1, m, h, _ => by cases h
  | .dct k _, e, 0, m, h, _ => by cases h
  | .dct k _, e, n + 1, m, h, _ => by cases h
  | .lst xs, e, n + 1, m, h, h2 => by
    cases m <;> cases e <;> first | (exact absurd (show false = true from h2) Bool.false_ne_true) | (unfold D.toP PyData.eqv D.eqv; first | rfl | exact eqvAll_toP xs _ (show shpAll n _ = true from h) (show shpAll _ _ = true from h2))
  | .scr xs, e, n + 1, m, h, h2 => by
    cases m <;> cases e <;> first | (exact absurd (show false = true from h2) Bool.false_ne_true) | (unfold D.toP PyData.eqv D.eqv; first | rfl | exact eqvAll_toP xs _ (show shpAll n _ = true from h) (show shpAll _ _ = true from h2))
  | .tup xs, e, n + 1, m, h, h2 => by
    cases m <;> cases e <;> first | (exact absurd (show false = true from h2) Bool.false_ne_true) | (unfold D.toP PyData.eqv D.eqv; first | rfl | exact eqvAll_toP xs _ (show shpAll n _ = true from h) (show shpAll _ _ = true from h2))
  | .ktp xs, e, n + 1, m, h, h2 => by
    cases m <;> cases e <;> first | (exact absurd (show false = true from h2) Bool.false_ne_true) | (unfold D.toP PyData.eqv D.eqv; first | rfl | exact eqvAll_toP xs _ (show shpAll n _ = true from h) (show shpAll _ _ = true from h2))
  | .non, e, n, m, _, h2 => by cases m <;> cases e <;> first | (exact absurd (show false = true from h2) Bool.false_ne_true) | (unfold D.toP PyData.eqv D.eqv; rfl)
  | .bl b, e, n, m, _, h2 => by cases m <;> cases e <;> first | (exact absurd (show false = true from h2) Bool.false_ne_true) | (unfold D.toP PyData.eqv D.eqv; rfl)
  | .int b, e, n, m, _, h2 => by cases m <;> cases e <;> first | (exact absurd (show false = true from h2) Bool.false_ne_true) | (unfold D.toP PyData.eqv D.eqv; rfl)
  | .str b, e, n, m, _, h2 => by cases m <;> cases e <;> first | (exact absurd (show false = true from h2) Bool.false_ne_true) | (unfold D.toP PyData.eqv D.eqv; rfl)
theorem eqvAll_toP : ∀ (d e : List D) {n m : Nat}, shpAll n d = true → shpAll m e = true → PyData.eqvAll (D.toP.go d) (D.toP.go e) = eqvAll d e
  | [], [], _, _, _, _ => by unfold D.toP.go PyData.eqvAll eqvAll; rfl
  | [], _ :: _, _, _, _, _ => by unfold D.toP.go PyData.eqvAll eqvAll; rfl
  | _ :: _, [], _, _, _, _ => by unfold D.toP.go PyData.eqvAll eqvAll; rfl
  | x :: xs, y :: ys, n, m, h, h2 => by
    unfold shpAll at h h2
    rw [Bool.and_eq_true] at h h2
    unfold D.toP.go PyData.eqvAll eqvAll
    rw [eqv_toP x y h.1 h2.1, eqvAll_toP xs ys h.2 h2.2]
end
/-! ### a two-place operation on data -/
def OpD (C : Cc) (r : R2) (op : D → D → R D) : Prop := ∀ G H x y dx dy, Ex G H → Rep C.K C.w C.ad G x dx → Rep C.K C.w C.ad G y dy → ∀ E Q, Out C (rV C) E G H Q (op dx dy) → r x y H Q
theorem ce_B {r : R2} {op : D → D → R D} {ta tb : TE} {fa fb : SE} (h : OpD C r op) (ha : CE C xo W ta fa) (hb : CE C xo W tb fb) : CE C xo W (tOp r ta tb) (eB op fa fb) := fun σ G H env f Q o =>
  ha σ G H env f _ (Out.bind o fun d v G1 H1 _ s1 r1 o1 => hb σ G1 H1 env (f.step s1) _ (Out.bind o1 fun d2 v2 G2 H2 _ s2 r2 o2 => h G2 H2 v v2 d d2 s2.gh (r1.mono s2.g) r2 _ _ o2))
theorem ce_c {v : V} {d : D} (h : ∀ G, Rep C.K C.w C.ad G v d) : CE C xo W (tC v) (eC d) := fun σ G H env f Q o => o v G H (Step.refl f.ex) (h G)
theorem ce_var {i : Nat} : CE C xo W (tVar i) (eV i) := fun σ G H env f Q o => by
  unfold eV at o
  cases c : env[i]? with
  | none => rw [c] at o; exact o.elim
  | some s =>
    cases s with
    | val d =>
      rw [c] at o
      obtain ⟨v, h1, h2⟩ := f.val i d c
      exact ⟨v, h1, o v G H (Step.refl f.ex) h2⟩
    | un => rw [c] at o; exact o.elim
    | own _ => rw [c] at o; exact o.elim
    | exn _ _ => rw [c] at o; exact o.elim
/-- an int rule -/
theorem od_I0 {g : Int → Int → V} {op : D → D → R D} (h : ∀ x y E G H Q, Out C (rV C) E G H Q (op x y) → ∃ i j d, x = .int i ∧ y = .int j ∧ op x y = .ok d ∧ ∀ G, Rep C.K C.w C.ad G (g i j) d) : OpD C (rI0 g) op := by
  intro G H x y dx dy e rx ry E Q o
  obtain ⟨i, j, d, rfl, rfl, h1, h2⟩ := h dx dy E G H Q o
  cases rx
  cases ry
  rw [h1] at o
  exact ⟨i, j, rfl, rfl, o _ G H (Step.refl e) (h2 G)⟩
def rAdd (K : PySem.W.Frag) : R2 := fun x y H Q => rI0 (fun i j => .int (i + j)) x y H Q ∨ ((fun (x y : V) H Q => ∃ i j, x = .str i ∧ y = .str j ∧ i.length + j.length ≤ sizeLine ∧ Q (V.str (i ++ j)) H) : R2) x y H Q ∨ rCat x y H Q ∨ rCatA K x y H Q
theorem or_add {X : Cx} : OpR X (binaryOp .Add) (rAdd X.K) := op_add.or (op_add_str.or (op_cat.or op_catA))
theorem od_add : OpD C (rAdd C.K) dAdd := by
  intro G H x y dx dy e rx ry E Q o
  cases rx with
  | int i => cases ry with
    | int j => exact Or.inl ⟨i, j, rfl, rfl, o _ G H (Step.refl e) (.int _)⟩
    | _ => exact False.elim o
  | str a => cases ry with
    | str b =>
      have o2 : Out C (rV C) E G H Q (if a.length + b.length ≤ Z then .ok (.str (a ++ b)) else .bad) := o
      by_cases hz : a.length + b.length ≤ Z
      · rw [if_pos hz] at o2
        exact Or.inr (Or.inl ⟨a, b, rfl, rfl, sz_of hz, o2 _ G H (Step.refl e) (.str _)⟩)
      · rw [if_neg hz] at o2; exact o2.elim
    | _ => exact False.elim o
  | @lst a vs ds h1 r1 => cases ry with
    | @lst b ws es h2 r2 =>
      have o2 : Out C (rV C) E G H Q (if ds.length + es.length ≤ Z then .ok (.lst (ds ++ es)) else .bad) := o
      by_cases hz : ds.length + es.length ≤ Z
      · rw [if_pos hz] at o2
        refine Or.inr (Or.inr (Or.inl ⟨a, b, vs, ws, rfl, rfl, e _ _ h1, e _ _ h2, sz_of (by rw [r1.length, r2.length]; exact hz), fun p hp => ?_⟩))
        exact o2 _ _ _ (Step.new e hp) (.lst upd_same ((r1.append r2).mono (Ex.new (fresh_back e hp))))
      · rw [if_neg hz] at o2; exact o2.elim
    | _ => exact False.elim o
  | @tup a vs ds h1 r1 => cases ry with
    | @tup b ws es h2 r2 =>
      have o2 : Out C (rV C) E G H Q (if ds.length + es.length ≤ Z then .ok (.tup (ds ++ es)) else .bad) := o
      by_cases hz : ds.length + es.length ≤ Z
      · rw [if_pos hz] at o2
        refine Or.inr (Or.inr (Or.inr ⟨a, b, vs, ws, rfl, rfl, ex_t e h1, ex_t e h2, sz_of (by rw [r1.length, r2.length]; exact hz), fun z => ?_, fun _ z => ?_, fun _ _ p hp => ?_⟩))
        · subst z
          cases r1
          exact o2 _ G H (Step.refl e) (.tup h2 r2)
        · subst z
          cases r2
          rw [List.append_nil] at o2
          exact o2 _ G H (Step.refl e) (.tup h1 r1)
        · exact o2 _ _ _ (Step.new e hp) (.tup (st_of upd_same) ((r1.append r2).mono (Ex.new (fresh_back e hp))))
      · rw [if_neg hz] at o2; exact o2.elim
    | _ => exact False.elim o
  | _ => exact False.elim o
local macro_rules | `(tactic| walk_at "intop") => `(tactic| (
  intro G H x y dx dy e rx ry E Q o
  cases rx with
  | int i => cases ry with
    | int j => exact ⟨i, j, rfl, rfl, o _ G H (Step.refl e) (.int _)⟩
    | _ => exact False.elim o
  | _ => exact False.elim o))
theorem od_sub : OpD C (rI0 fun i j => .int (i - j)) dSub := by walk_at "intop"
theorem od_and : OpD C (rI0 fun i j => .int (Builtin.bitAnd i j)) dAnd := by walk_at "intop"
theorem od_or : OpD C (rI0 fun i j => .int (Builtin.bitOr i j)) dOr := by walk_at "intop"
theorem od_xor : OpD C (rI0 fun i j => .int (Builtin.bitXor i j)) dXor := by walk_at "intop"
theorem out_if {p : Prop} [Decidable p] {α β : Type} {rep : Hp → Hp → β → α → Prop} {Q : β → Hp → Prop} {r : R α} (o : Out C rep E G H Q (if p then r else .bad)) : p ∧ Out C rep E G H Q r := by
  by_cases h : p
  · rw [if_pos h] at o; exact ⟨h, o⟩
  · rw [if_neg h] at o; exact o.elim
theorem out_ifE {p : Prop} [Decidable p] {d : D} {Q : VK} (o : Out C (rV C) E G H Q (if p then .ok d else .bad)) : p ∧ ∀ v G' H', Step G H G' H' → Rep C.K C.w C.ad G' v d → Q v H' := by
  by_cases h : p
  · rw [if_pos h] at o; exact ⟨h, o⟩
  · rw [if_neg h] at o; exact o.elim
local macro_rules | `(tactic| walk_at "intopD") => `(tactic| (
  intro G H x y dx dy e rx ry E Q o
  cases rx with
  | int i => cases ry with
    | int j =>
      obtain ⟨hc, o⟩ := out_ifE o
      exact ⟨i, j, rfl, rfl, hc, o _ G H (Step.refl e) (.int _)⟩
    | _ => exact False.elim o
  | _ => exact False.elim o))
theorem od_div : OpD C (rI CDivW fun i j => .int (i / j)) dDiv := by walk_at "intopD"
theorem od_mod : OpD C (rI (fun _ j => 0 < j) fun i j => .int (i % j)) dMod := by walk_at "intopD"
theorem od_pow : OpD C (rI CPow fun i j => .int (i ^ j.toNat)) dPow := by walk_at "intopD"
theorem od_shr : OpD C (rI (fun _ j => 0 ≤ j) fun i j => .int (i / 2 ^ j.toNat)) dShr := by walk_at "intopD"
def rShl : R2 := fun x y H Q => rI CShl (fun i j => .int (i * 2 ^ j.toNat)) x y H Q ∨ rI CPow (fun i j => .int (i * 2 ^ j.toNat)) x y H Q
theorem or_shl {X : Cx} : OpR X (binaryOp .LShift) rShl := op_shlW.or op_shl
theorem od_shl : OpD C rShl dShl := by
  intro G H x y dx dy e rx ry E Q o
  cases rx with
  | int i => cases ry with
    | int j =>
      obtain ⟨hc, o⟩ := out_ifE o
      exact hc.elim (fun hc => Or.inl ⟨i, j, rfl, rfl, hc, o _ G H (Step.refl e) (.int _)⟩) fun hc => Or.inr ⟨i, j, rfl, rfl, hc, o _ G H (Step.refl e) (.int _)⟩
    | _ => exact False.elim o
  | _ => exact False.elim o
def rMul : R2 := fun x y H Q => rI CMulW (fun i j => .int (i * j)) x y H Q ∨ rI CMul (fun i j => .int (i * j)) x y H Q ∨ rRep x y H Q
theorem or_mul {X : Cx} : OpR X (binaryOp .Mult) rMul := op_mulW.or (op_mul.or op_rep)
theorem od_mul : OpD C rMul dMul := by
  intro G H x y dx dy e rx ry E Q o
  cases rx with
  | int i => cases ry with
    | int j =>
      obtain ⟨hc, o⟩ := out_ifE o
      exact hc.elim (fun hc => Or.inl ⟨i, j, rfl, rfl, hc, o _ G H (Step.refl e) (.int _)⟩) fun hc => Or.inr (Or.inl ⟨i, j, rfl, rfl, hc, o _ G H (Step.refl e) (.int _)⟩)
    | _ => exact False.elim o
  | @lst a vs ds h1 r1 => cases ry with
    | int k =>
      obtain ⟨hc, o⟩ := out_ifE o
      refine Or.inr (Or.inr ⟨a, k, vs, rfl, rfl, e _ _ h1, hc.2.1, hc.2.2, sz_of (by rw [r1.length]; exact hc.1), fun p hp => ?_⟩)
      exact o _ _ _ (Step.new e hp) (.lst upd_same ((r1.rep _).mono (Ex.new (fresh_back e hp))))
    | _ => exact False.elim o
  | _ => exact False.elim o
/-! comparisons -/
def rLt : R2 := fun x y H Q => rI0 (fun i j => .bl (decide (i < j))) x y H Q ∨ ((fun (x y : V) H Q => ∃ i j, x = .str i ∧ y = .str j ∧ Q (V.bl (decide (i.cps.toList < j.cps.toList))) H) : R2) x y H Q
def rLe : R2 := fun x y H Q => rI0 (fun i j => .bl (decide (i ≤ j))) x y H Q ∨ ((fun (x y : V) H Q => ∃ i j, x = .str i ∧ y = .str j ∧ Q (V.bl (!decide (j.cps.toList < i.cps.toList))) H) : R2) x y H Q
def rGt : R2 := fun x y H Q => rI0 (fun i j => .bl (decide (j < i))) x y H Q ∨ ((fun (x y : V) H Q => ∃ i j, x = .str i ∧ y = .str j ∧ Q (V.bl (decide (j.cps.toList < i.cps.toList))) H) : R2) x y H Q
def rGe : R2 := fun x y H Q => rI0 (fun i j => .bl (decide (j ≤ i))) x y H Q ∨ ((fun (x y : V) H Q => ∃ i j, x = .str i ∧ y = .str j ∧ Q (V.bl (!decide (i.cps.toList < j.cps.toList))) H) : R2) x y H Q
theorem or_lt {X : Cx} : OpR X (compareOp .Lt) rLt := op_lt.or op_lt_str
theorem or_le {X : Cx} : OpR X (compareOp .LtE) rLe := op_le.or op_le_str
theorem or_gt {X : Cx} : OpR X (compareOp .Gt) rGt := op_gt.or op_gt_str
theorem or_ge {X : Cx} : OpR X (compareOp .GtE) rGe := op_ge.or op_ge_str
local macro_rules | `(tactic| walk_at "cmpop") => `(tactic| (
  intro G H x y dx dy e rx ry E Q o
  cases rx with
  | int i => cases ry with
    | int j => exact Or.inl ⟨i, j, rfl, rfl, o _ G H (Step.refl e) (.bl _)⟩
    | _ => exact False.elim o
  | str i => cases ry with
    | str j => exact Or.inr ⟨i, j, rfl, rfl, o _ G H (Step.refl e) (.bl _)⟩
    | _ => exact False.elim o
  | _ => exact False.elim o))
theorem od_lt : OpD C rLt dLt := by walk_at "cmpop"
theorem od_le : OpD C rLe dLe := by walk_at "cmpop"
theorem od_gt : OpD C rGt dGt := by walk_at "cmpop"
theorem od_ge : OpD C rGe dGe := by walk_at "cmpop"
end
end Dm
set_option Elab.async false
set_option linter.all false
set_option maxRecDepth 100000
set_option maxHeartbeats 4000000
namespace Dm
open PySem L2 Evl RZ Wm
section
variable {C : Cc} {xo : Xo} {W : WX} {G H G' H' : Hp} {σ : L2.St} {env : Env} {E : XK}
/-! == -/
def rEqX (K : PySem.W.Frag) : R2 := fun x y H Q => rEq x y H Q ∨ rEqD K x y H Q
def rNeX (K : PySem.W.Frag) : R2 := fun x y H Q => rNe x y H Q ∨ rNeD K x y H Q
theorem or_eq {X : Cx} (hu : X.A.units + 64 < cLine) : OpR X (compareOp .Eq) (rEqX X.K) := op_eq.or (op_eqD hu)
theorem or_ne {X : Cx} (hu : X.A.units + 64 < cLine) : OpR X (compareOp .NotEq) (rNeX X.K) := op_ne.or (op_neD hu)
theorem dEq_ok {x y : D} {E : XK} {Q : VK} (o : Out C (rV C) E G H Q (dEq x y)) : (∃ i j, x = .int i ∧ y = .int j) ∨ (∃ a b, x = .str a ∧ y = .str b) ∨ (∃ b, x = .non ∧ y = .str b) ∨ (∃ b, x = .str b ∧ y = .non) ∨ (dEq x y = .ok (.bl (x.eqv y)) ∧ x.shp 64 = true ∧ y.shp 64 = true) := by
  unfold dEq at o ⊢
  split at o
  · exact Or.inl ⟨_, _, rfl, rfl⟩
  · exact Or.inr (Or.inl ⟨_, _, rfl, rfl⟩)
  · exact Or.inr (Or.inr (Or.inl ⟨_, rfl, rfl⟩))
  · exact Or.inr (Or.inr (Or.inr (Or.inl ⟨_, rfl, rfl⟩)))
  · obtain ⟨h, _⟩ := out_ifE o
    have h2 := h
    rw [Bool.and_eq_true] at h
    exact Or.inr (Or.inr (Or.inr (Or.inr ⟨if_pos h2, h.1, h.2⟩)))
theorem dec_V {i j : Int} : decide (V.int i = V.int j) = decide (i = j) := by
  by_cases h : i = j
  · subst h; simp
  · rw [decide_eq_false h, decide_eq_false fun z => h (V.int.inj z)]
theorem dec_S {i j : Str} : decide (V.str i = V.str j) = decide (i = j) := by
  by_cases h : i = j
  · subst h; simp
  · rw [decide_eq_false h, decide_eq_false fun z => h (V.str.inj z)]
theorem od_eq : OpD C (rEqX C.K) dEq := by
  intro G H x y dx dy e rx ry E Q o
  rcases dEq_ok o with ⟨i, j, rfl, rfl⟩ | ⟨i, j, rfl, rfl⟩ | ⟨j, rfl, rfl⟩ | ⟨j, rfl, rfl⟩ | ⟨h, h1, h2⟩
  · cases rx; cases ry
    refine Or.inl ⟨rfl, ?_⟩
    rw [dec_V]
    exact o _ G H (Step.refl e) (.bl _)
  · cases rx; cases ry
    refine Or.inl ⟨rfl, ?_⟩
    rw [dec_S]
    exact o _ G H (Step.refl e) (.bl _)
  · cases rx; cases ry
    exact Or.inl ⟨rfl, o _ G H (Step.refl e) (.bl _)⟩
  · cases rx; cases ry
    exact Or.inl ⟨rfl, o _ G H (Step.refl e) (.bl _)⟩
  · rw [h] at o
    have a1 := (rx.mono e).shaped h1
    have a2 := (ry.mono e).shaped h2
    refine Or.inr ⟨_, _, a1.1, a2.1, a1.2, a2.2, ?_⟩
    rw [eqv_toP dx dy h1 h2]
    exact o _ G H (Step.refl e) (.bl _)
theorem od_ne : OpD C (rNeX C.K) dNe := by
  intro G H x y dx dy e rx ry E Q o
  have o1 : Out C (rV C) E G H (fun v H' => ∀ b, v = .bl b → ∀ G', Step G H G' H' → Q (.bl !b) H') (dEq dx dy) := Out.bind o fun d v G' H' _ s r o2 b hb G2 s2 => by
    subst hb
    cases r
    exact o2 _ G' H' (Step.refl s.gh) (.bl _)
  rcases dEq_ok o1 with ⟨i, j, rfl, rfl⟩ | ⟨i, j, rfl, rfl⟩ | ⟨j, rfl, rfl⟩ | ⟨j, rfl, rfl⟩ | ⟨h, h1, h2⟩
  · cases rx; cases ry
    refine Or.inl ⟨rfl, ?_⟩
    rw [dec_V]
    exact o1 _ G H (Step.refl e) (.bl _) _ rfl G (Step.refl e)
  · cases rx; cases ry
    refine Or.inl ⟨rfl, ?_⟩
    rw [dec_S]
    exact o1 _ G H (Step.refl e) (.bl _) _ rfl G (Step.refl e)
  · cases rx; cases ry
    exact Or.inl ⟨rfl, o1 _ G H (Step.refl e) (.bl _) _ rfl G (Step.refl e)⟩
  · cases rx; cases ry
    exact Or.inl ⟨rfl, o1 _ G H (Step.refl e) (.bl _) _ rfl G (Step.refl e)⟩
  · rw [h] at o1
    have a1 := (rx.mono e).shaped h1
    have a2 := (ry.mono e).shaped h2
    refine Or.inr ⟨_, _, a1.1, a2.1, a1.2, a2.2, ?_⟩
    rw [eqv_toP dx dy h1 h2]
    exact o1 _ G H (Step.refl e) (.bl _) _ rfl G (Step.refl e)
/-! in -/
theorem flat_V {v : V} {d : D} (r : Rep C.K C.w C.ad G v d) (h : flatD d = true) : flatV v = true := by
  cases r <;> first | rfl | cases h
theorem eqV_D {v u : V} {d e : D} (r : Rep C.K C.w C.ad G v d) (r2 : Rep C.K C.w C.ad G u e) (h : flatD d = true) (h2 : flatD e = true) : eqV v u = d.eqv e := by
  cases r <;> (try cases h) <;> cases r2 <;> (try cases h2) <;> unfold eqV D.eqv <;> rfl
theorem flat_all : ∀ {vs : List V} {ds : List D}, RepL C.K C.w C.ad G vs ds → ds.all flatD = true → vs.all flatV = true
  | _, _, .nil, _ => rfl
  | _, _, .cons h r, q => by
    rw [List.all_cons, Bool.and_eq_true] at q ⊢
    exact ⟨flat_V h q.1, flat_all r q.2⟩
theorem inV_D {v : V} {d : D} (hv : Rep C.K C.w C.ad G v d) (hd : flatD d = true) : ∀ {vs : List V} {ds : List D}, RepL C.K C.w C.ad G vs ds → ds.all flatD = true → inV v vs = inD d ds
  | _, _, .nil, _ => rfl
  | _, _, .cons h r, q => by
    rw [List.all_cons, Bool.and_eq_true] at q
    unfold inV inD
    rw [List.any_cons, List.any_cons, eqV_D h hv q.1 hd]
    congr 1
    exact inV_D hv hd r q.2
def rInS (neg : Bool) : R2 := fun x y H Q => ∃ i j, x = .str i ∧ y = .str j ∧ Q (.bl (if neg then !(!(Builtin.Str.occurrences j i 0 j.length 1).isEmpty) else !(Builtin.Str.occurrences j i 0 j.length 1).isEmpty)) H
def rInDc (K : PySem.W.Frag) (w : World) (neg : Bool) : R2 := fun x y H Q => ∃ d kvs, SD K w d kvs ∧ rInSD d kvs neg x y H Q
def rInX (K : PySem.W.Frag) (w : World) (neg : Bool) : R2 := fun x y H Q => rInS neg x y H Q ∨ rInDc K w neg x y H Q ∨ rIn K neg x y H Q
theorem or_in {X : Cx} : OpR X (compareOp .In) (rInX X.K X.w false) :=
  OpR.or (r := rInS false) op_in_str (OpR.or (r := rInDc X.K X.w false) (fun pins s σ H x y v u Q I rx ry h => by
    obtain ⟨d, kvs, h1, h2⟩ := h
    exact op_in_sd h1 pins s σ H x y v u Q I rx ry h2) op_in_seq)
theorem or_notIn {X : Cx} : OpR X (compareOp .NotIn) (rInX X.K X.w true) :=
  OpR.or (r := rInS true) op_notin_str (OpR.or (r := rInDc X.K X.w true) (fun pins s σ H x y v u Q I rx ry h => by
    obtain ⟨d, kvs, h1, h2⟩ := h
    exact op_notIn_sd h1 pins s σ H x y v u Q I rx ry h2) op_notIn_seq)
theorem lkp_zip : ∀ {ks : List Str} {vs : List V} {ds : List D} {z : Str}, ks.length = vs.length → RepL C.K C.w C.ad G vs ds → (match lkp ks ds z with
  | some d => ∃ v, (ks.zip vs).lookup z = some v ∧ Rep C.K C.w C.ad G v d
  | none => (ks.zip vs).lookup z = none) := by
  intro ks
  induction ks with
  | nil => intro vs ds z _ r; unfold lkp; rfl
  | cons k ks ih =>
    intro vs ds z h r
    cases r with
    | nil => cases h
    | @cons v d vs ds hv r =>
      unfold lkp
      by_cases hz : z = k
      · subst hz
        rw [if_pos rfl]
        refine ⟨v, ?_, hv⟩
        rw [List.zip_cons_cons, List.lookup_cons, beq_self_eq_true]
      · rw [if_neg hz]
        have ih := ih (z := z) (Nat.succ.inj h) r
        rw [List.zip_cons_cons, List.lookup_cons, beq_eq_false_iff_ne.mpr hz]
        exact ih
theorem dIn_ok {x y : D} {E : XK} {Q : VK} (o : Out C (rV C) E G H Q (dIn x y)) : (∃ a b, x = .str a ∧ y = .str b) ∨ (∃ a ks ds, x = .str a ∧ y = .dct ks ds) ∨ (∃ xs, seqOf y = some xs ∧ dIn x y = .ok (.bl (inD x xs)) ∧ flatD x = true ∧ xs.all flatD = true) := by
  unfold dIn at o ⊢
  split at o
  · exact Or.inl ⟨_, _, rfl, rfl⟩
  · exact Or.inr (Or.inl ⟨_, _, _, rfl, rfl⟩)
  · cases c : seqOf y with
    | none => rw [c] at o; exact o.elim
    | some xs =>
      rw [c] at o
      dsimp only at o
      obtain ⟨h, _⟩ := out_ifE o
      have h2 := h
      rw [Bool.and_eq_true] at h
      refine Or.inr (Or.inr ⟨xs, rfl, ?_, h.1, h.2⟩)
      dsimp only
      rw [if_pos h2]
theorem in_run {neg : Bool} {x y : V} {dx dy : D} {E : XK} {Q Q2 : VK} (e : Ex G H) (rx : Rep C.K C.w C.ad G x dx) (ry : Rep C.K C.w C.ad G y dy) (o : Out C (rV C) E G H Q (dIn dx dy)) (q : ∀ b, Q (.bl b) H → Q2 (.bl (if neg then !b else b)) H) : rInX C.K C.w neg x y H Q2 := by
  rcases dIn_ok o with ⟨i, j, rfl, rfl⟩ | ⟨a, ks, ds, rfl, rfl⟩ | ⟨xs, h, h1, h2, h3⟩
  · cases rx; cases ry
    refine Or.inl ⟨i, j, rfl, rfl, ?_⟩
    exact q _ (o _ G H (Step.refl e) (.bl _))
  · cases rx
    cases ry with
    | dct hl hs r =>
      refine Or.inr (Or.inl ⟨_, _, hs, a, rfl, rfl, ?_⟩)
      have z := lkp_zip (z := a) hl r
      have o2 : Out C (rV C) E G H Q (.ok (.bl (lkp ks ds a).isSome)) := o
      cases c : lkp ks ds a with
      | none =>
        rw [c] at z o2
        dsimp only at z
        rw [z]
        exact q _ (o2 _ G H (Step.refl e) (.bl _))
      | some d =>
        rw [c] at z o2
        obtain ⟨v, z, _⟩ := z
        rw [z]
        exact q _ (o2 _ G H (Step.refl e) (.bl _))
  · rw [h1] at o
    have fin : ∀ {vs : List V}, RepL C.K C.w C.ad G vs xs → Q2 (.bl (if neg then !inV x vs else inV x vs)) H := fun {vs} r => by
      rw [inV_D rx h2 r h3]
      exact q _ (o _ G H (Step.refl e) (.bl _))
    cases ry with
    | lst hl r => cases h; exact Or.inr (Or.inr ⟨_, _, rfl, Or.inl (sq_of (e _ _ hl)), flat_V rx h2, flat_all r h3, fin r⟩)
    | scr hl r => cases h; exact Or.inr (Or.inr ⟨_, _, rfl, Or.inl (ex_l e hl), flat_V rx h2, flat_all r h3, fin r⟩)
    | tup hl r => cases h; exact Or.inr (Or.inr ⟨_, _, rfl, Or.inr (ex_t e hl), flat_V rx h2, flat_all r h3, fin r⟩)
    | ktp hl _ r => cases h; exact Or.inr (Or.inr ⟨_, _, rfl, Or.inr (ex_t e hl), flat_V rx h2, flat_all r h3, fin r⟩)
    | _ => cases h
theorem od_in : OpD C (rInX C.K C.w false) dIn := fun G H x y dx dy e rx ry E Q o => in_run e rx ry o fun b h => h
theorem od_notIn : OpD C (rInX C.K C.w true) dNotIn := fun G H x y dx dy e rx ry E Q o =>
  in_run (Q := fun v H' => ∀ b, v = .bl b → ∀ G', Step G H G' H' → Q (.bl !b) H') e rx ry (Out.bind o fun d v G' H' _ s r o2 b hb G2 s2 => by
    subst hb
    cases r
    exact o2 _ G' H' (Step.refl s.gh) (.bl _)) fun b h => h b rfl G (Step.refl e)
/-! is None -/
theorem od_is : OpD C (fun x y H Q => y = .non ∧ Q (.bl (decide (x = .non))) H) dIs := by
  intro G H x y dx dy e rx ry E Q o
  cases ry with
  | non => cases rx <;> exact ⟨rfl, o _ G H (Step.refl e) (.bl _)⟩
  | _ => cases rx <;> exact False.elim o
theorem od_isnt : OpD C (fun x y H Q => y = .non ∧ Q (.bl (!decide (x = .non))) H) dIsnt := by
  intro G H x y dx dy e rx ry E Q o
  cases ry with
  | non => cases rx <;> exact ⟨rfl, o _ G H (Step.refl e) (.bl _)⟩
  | _ => cases rx <;> exact False.elim o
/-! x[i] -/
def rIxX (K : PySem.W.Frag) (w : World) : R2 := fun x y H Q => rIx K x y H Q ∨ rIxD K w x y H Q
theorem ix_all {X : Cx} : IxR X (rIxX X.K X.w) := ix_seq.or ix_kdict
theorem od_ix : OpD C (rIxX C.K C.w) dIx := by
  intro G H x y dx dy e rx ry E Q o
  cases rx with
  | str z => cases ry with
    | int i =>
      have o2 : Out C (rV C) E G H Q (if z.length ≤ Z then (match L2.atI z.cps.toList i with | some c => .ok (.str ⟨#[c]⟩) | none => .bad) else .bad) := o
      obtain ⟨hz, o2⟩ := out_if o2
      cases c : L2.atI z.cps.toList i with
      | none => rw [c] at o2; exact o2.elim
      | some k =>
        rw [c] at o2
        exact Or.inl (Or.inr (Or.inr ⟨z, i, k, rfl, rfl, sz_of hz, c, o2 _ G H (Step.refl e) (.str _)⟩))
    | _ => exact False.elim o
  | @lst a vs ds h r => cases ry with
    | int i =>
      have o2 : Out C (rV C) E G H Q (match L2.atI ds i with | some d => .ok d | none => .bad) := o
      cases c : L2.atI ds i with
      | none => rw [c] at o2; exact o2.elim
      | some d =>
        rw [c] at o2
        obtain ⟨u, hu, ru⟩ := r.atI c
        exact Or.inl (Or.inl ⟨a, vs, i, u, rfl, rfl, sq_of (e _ _ h), hu, o2 _ G H (Step.refl e) ru⟩)
    | _ => exact False.elim o
  | @scr a vs ds h r => cases ry with
    | int i =>
      have o2 : Out C (rV C) E G H Q (match L2.atI ds i with | some d => .ok d | none => .bad) := o
      cases c : L2.atI ds i with
      | none => rw [c] at o2; exact o2.elim
      | some d =>
        rw [c] at o2
        obtain ⟨u, hu, ru⟩ := r.atI c
        exact Or.inl (Or.inl ⟨a, vs, i, u, rfl, rfl, ex_l e h, hu, o2 _ G H (Step.refl e) ru⟩)
    | _ => exact False.elim o
  | @tup a vs ds h r => cases ry with
    | int i =>
      have o2 : Out C (rV C) E G H Q (match L2.atI ds i with | some d => .ok d | none => .bad) := o
      cases c : L2.atI ds i with
      | none => rw [c] at o2; exact o2.elim
      | some d =>
        rw [c] at o2
        obtain ⟨u, hu, ru⟩ := r.atI c
        exact Or.inl (Or.inr (Or.inl ⟨a, vs, i, u, rfl, rfl, ex_t e h, hu, o2 _ G H (Step.refl e) ru⟩))
    | _ => exact False.elim o
  | @ktp a vs ds h _ r => cases ry with
    | int i =>
      have o2 : Out C (rV C) E G H Q (match L2.atI ds i with | some d => .ok d | none => .bad) := o
      cases c : L2.atI ds i with
      | none => rw [c] at o2; exact o2.elim
      | some d =>
        rw [c] at o2
        obtain ⟨u, hu, ru⟩ := r.atI c
        exact Or.inl (Or.inr (Or.inl ⟨a, vs, i, u, rfl, rfl, ex_t e h, hu, o2 _ G H (Step.refl e) ru⟩))
    | _ => exact False.elim o
  | @dct a ks vs ds hl hs r => cases ry with
    | str z =>
      have o2 : Out C (rV C) E G H Q (match lkp ks ds z with | some d => .ok d | none => .bad) := o
      have l := lkp_zip (z := z) hl r
      cases c : lkp ks ds z with
      | none => rw [c] at o2; exact o2.elim
      | some d =>
        rw [c] at o2 l
        obtain ⟨v, l, rv⟩ := l
        exact Or.inr ⟨a, z, v, rfl, rfl, hs.some l, o2 _ G H (Step.refl e) rv⟩
    | _ => exact False.elim o
  | _ => cases ry <;> exact False.elim o
/-! slices -/
theorem co_none : CO C xo W tNoPart pN := fun σ G H env f Q o => o none G H (Step.refl f.ex) rfl
theorem co_some {te : TE} {f : SE} (h : CE C xo W te f) : CO C xo W (tPart te) (pS f) := fun σ G H env ft Q o =>
  h σ G H env ft _ (Out.bind o fun d v G1 H1 _ s r o1 => by
    cases r with
    | int i => exact ⟨i, rfl, o1 (some i) G1 H1 (Step.refl s.gh) rfl⟩
    | _ => exact False.elim o1)
def rSlX2 (K : PySem.W.Frag) : V → Option Int → Option Int → Hp → VK → Prop := fun x lo hi H Q => rSlS x lo hi H Q ∨ rSlL K x lo hi H Q ∨ rSlA K x lo hi H Q
theorem sl_all {X : Cx} : SlR X (rSlX2 X.K) := sl_str.or (sl_list.or sl_tupA)
theorem ce_sl {te : TE} {tl th : TO} {f : SE} {lo hi : Env → R (Option Int)} (h : CE C xo W te f) (h1 : CO C xo W tl lo) (h2 : CO C xo W th hi) : CE C xo W (tSl (rSlX2 C.K) te tl th) (eSl f lo hi) := fun σ G H env ft Q o =>
  h σ G H env ft _ (Out.bind o fun d v G1 H1 _ s1 r1 o1 => h1 σ G1 H1 env (ft.step s1) _ (Out.bind o1 fun l l' G2 H2 _ s2 r2 o2 => h2 σ G2 H2 env ((ft.step s1).step s2) _ (Out.bind o2 fun u u' G3 H3 _ s3 r3 o3 => by
    subst r2 r3
    have r := r1.mono (s2.g.trans s3.g)
    have e := s3.gh
    cases r with
    | str z =>
      have o4 : Out C (rV C) _ G3 H3 Q (if z.length ≤ Z then .ok (.str (cutS z l' u')) else .bad) := o3
      obtain ⟨hz, o4⟩ := out_ifE o4
      exact Or.inl ⟨z, rfl, sz_of hz, o4 _ G3 H3 (Step.refl e) (.str _)⟩
    | @lst a vs ds h r =>
      exact Or.inr (Or.inl ⟨a, vs, rfl, sq_of (e _ _ h), fun p hp => o3 _ _ _ (Step.new e hp) (.lst upd_same ((r.cut l' u').mono (Ex.new (fresh_back e hp))))⟩)
    | @scr a vs ds h r =>
      exact Or.inr (Or.inl ⟨a, vs, rfl, ex_l e h, fun p hp => o3 _ _ _ (Step.new e hp) (.lst upd_same ((r.cut l' u').mono (Ex.new (fresh_back e hp))))⟩)
    | @tup a vs ds h r =>
      refine Or.inr (Or.inr ⟨a, vs, rfl, ex_t e h, fun z => ?_, fun _ p hp => o3 _ _ _ (Step.new e hp) (.tup (st_of upd_same) ((r.cut l' u').mono (Ex.new (fresh_back e hp))))⟩)
      have q : cutG ds l' u' = ds := by
        unfold cutG
        rw [← r.length, z.1, z.2, List.drop_zero, Nat.sub_zero, r.length, List.take_length]
      have o4 : Out C (rV C) _ G3 H3 Q (.ok (.tup (cutG ds l' u'))) := o3
      rw [q] at o4
      exact o4 _ G3 H3 (Step.refl e) (.tup h r)
    | @ktp a vs ds h kk r =>
      refine Or.inr (Or.inr ⟨a, vs, rfl, ex_t e h, fun z => ?_, fun _ p hp => o3 _ _ _ (Step.new e hp) (.tup (st_of upd_same) ((r.cut l' u').mono (Ex.new (fresh_back e hp))))⟩)
      have q : cutG ds l' u' = ds := by
        unfold cutG
        rw [← r.length, z.1, z.2, List.drop_zero, Nat.sub_zero, r.length, List.take_length]
      have o4 : Out C (rV C) _ G3 H3 Q (.ok (.tup (cutG ds l' u'))) := o3
      rw [q] at o4
      exact o4 _ G3 H3 (Step.refl e) (.tup h r)
    | _ => exact False.elim o3)))
end
end Dm
set_option Elab.async false
set_option linter.all false
set_option maxRecDepth 100000
set_option maxHeartbeats 4000000
namespace Dm
open PySem L2 Evl RZ Wm
section
variable {C : Cc} {xo : Xo} {W : WX} {G H G' H' : Hp} {σ : L2.St} {env : Env} {E : XK}
/-! arguments -/
theorem ca_nil : CA C xo W tNil eNil := fun σ G H env f Q o => o [] G H (Step.refl f.ex) .nil
theorem ca_cons {te : TE} {tr : TA} {a : SE} {r : SA} (ha : CE C xo W te a) (hr : CA C xo W tr r) : CA C xo W (tCons te tr) (eCons a r) := fun σ G H env f Q o =>
  ha σ G H env f _ (Out.bind o fun d v G1 H1 _ s1 r1 o1 => hr σ G1 H1 env (f.step s1) _ (Out.bind o1 fun ds vs G2 H2 _ s2 r2 o2 => o2 (v :: vs) G2 H2 (Step.refl s2.gh) (.cons (r1.mono s2.g) r2)))
theorem ce_tup {ta : TA} {a : SA} (h : CA C xo W ta a) : CE C xo W (tTup ta) (eTup a) := fun σ G H env f Q o =>
  h σ G H env f _ (Out.bind o fun ds vs G1 H1 _ s1 r1 o1 => by
    obtain ⟨hz, o1⟩ := out_ifE o1
    exact ⟨sz_of (by rw [r1.length]; exact hz), fun p hp => o1 _ _ _ (Step.new s1.gh hp) (.tup (st_of upd_same) (r1.mono (Ex.new (fresh_back s1.gh hp))))⟩)
/-! tests -/
theorem ct_test {te : TE} {f : SE} (h : CE C xo W te f) : CT C xo W (tTest te) (tE f) := fun σ G H env ft Q o =>
  h σ G H env ft _ (Out.bind o fun d v G1 H1 _ s r o1 => by
    cases r with
    | bl b => exact ⟨b, rfl, o1 b G1 H1 (Step.refl s.gh) rfl⟩
    | _ => exact False.elim o1)
theorem ct_B {te : TE} {f : SE} (h : CE C xo W te f) : CT C xo W (tB te) (tE f) := ct_test h
theorem ct_and {t u : TT} {f g : ST} (h : CT C xo W t f) (h2 : CT C xo W u g) : CT C xo W (tAnd t u) (tAn f g) := fun σ G H env ft Q o =>
  h σ G H env ft _ (Out.bind o fun d v G1 H1 _ s r o1 => by
    subst r
    cases v with
    | true => exact h2 σ G1 H1 env (ft.step s) Q o1
    | false => exact o1 false G1 H1 (Step.refl s.gh) rfl)
theorem ct_or {t u : TT} {f g : ST} (h : CT C xo W t f) (h2 : CT C xo W u g) : CT C xo W (tOr t u) (tO f g) := fun σ G H env ft Q o =>
  h σ G H env ft _ (Out.bind o fun d v G1 H1 _ s r o1 => by
    subst r
    cases v with
    | false => exact h2 σ G1 H1 env (ft.step s) Q o1
    | true => exact o1 true G1 H1 (Step.refl s.gh) rfl)
theorem ct_not {t : TT} {f : ST} (h : CT C xo W t f) : CT C xo W (tNot t) (tN f) := fun σ G H env ft Q o =>
  h σ G H env ft _ (Out.bind o fun d v G1 H1 _ s r o1 => by
    subst r
    exact o1 (!v) G1 H1 (Step.refl s.gh) rfl)
theorem ct_yes : CT C xo W tYes tY := fun σ G H env ft Q o => o true G H (Step.refl ft.ex) rfl
theorem ce_and {ta tb : TE} {f g : SE} (h : CE C xo W ta f) (h2 : CE C xo W tb g) : CE C xo W (tAndV ta tb) (eAnd f g) := fun σ G H env ft Q o =>
  h σ G H env ft _ (Out.bind o fun d v G1 H1 _ s r o1 => by
    cases r with
    | bl b =>
      cases b with
      | true => exact ⟨true, rfl, h2 σ G1 H1 env (ft.step s) Q o1⟩
      | false => exact ⟨false, rfl, o1 _ G1 H1 (Step.refl s.gh) (.bl _)⟩
    | _ => exact False.elim o1)
theorem ce_or {ta tb : TE} {f g : SE} (h : CE C xo W ta f) (h2 : CE C xo W tb g) : CE C xo W (tOrV ta tb) (eOr f g) := fun σ G H env ft Q o =>
  h σ G H env ft _ (Out.bind o fun d v G1 H1 _ s r o1 => by
    cases r with
    | bl b =>
      cases b with
      | false => exact ⟨false, rfl, h2 σ G1 H1 env (ft.step s) Q o1⟩
      | true => exact ⟨true, rfl, o1 _ G1 H1 (Step.refl s.gh) (.bl _)⟩
    | _ => exact False.elim o1)
theorem ce_not {ta : TE} {f : SE} (h : CE C xo W ta f) : CE C xo W (tNotV ta) (eU dNot f) := fun σ G H env ft Q o =>
  h σ G H env ft _ (Out.bind o fun d v G1 H1 _ s r o1 => by
    cases r with
    | bl b => exact ⟨b, rfl, o1 _ G1 H1 (Step.refl s.gh) (.bl _)⟩
    | _ => exact False.elim o1)
theorem ce_neg {ta : TE} {f : SE} (h : CE C xo W ta f) : CE C xo W (tUn (rU fun i => .int (-i)) ta) (eU dNeg f) := fun σ G H env ft Q o =>
  h σ G H env ft _ (Out.bind o fun d v G1 H1 _ s r o1 => by
    cases r with
    | int b => exact ⟨b, rfl, o1 _ G1 H1 (Step.refl s.gh) (.int _)⟩
    | _ => exact False.elim o1)
theorem ce_if {t : TT} {ta tb : TE} {c : ST} {f g : SE} (h : CT C xo W t c) (h1 : CE C xo W ta f) (h2 : CE C xo W tb g) : CE C xo W (tIf t ta tb) (eIf c f g) := fun σ G H env ft Q o =>
  h σ G H env ft _ (Out.bind o fun d v G1 H1 _ s r o1 => by
    subst r
    cases v with
    | true => exact h1 σ G1 H1 env (ft.step s) Q o1
    | false => exact h2 σ G1 H1 env (ft.step s) Q o1)
theorem ce_chain {r r' : R2} {op op' : D → D → R D} {ta tb tc : TE} {fa fb fc : SE} (h : OpD C r op) (h' : OpD C r' op') (ha : CE C xo W ta fa) (hb : CE C xo W tb fb) (hc : CE C xo W tc fc) : CE C xo W (tChain r r' ta tb tc) (eChain op op' fa fb fc) := fun σ G H env f Q o =>
  ha σ G H env f _ (Out.bind o fun d v G1 H1 _ s1 r1 o1 => hb σ G1 H1 env (f.step s1) _ (Out.bind o1 fun d2 v2 G2 H2 _ s2 r2 o2 => h G2 H2 v v2 d d2 s2.gh (r1.mono s2.g) r2 (WE W σ) _ (Out.bind o2 fun d3 v3 G3 H3 _ s3 r3 o3 => by
    cases r3 with
    | bl b =>
      refine ⟨b, rfl, ?_⟩
      cases b with
      | false => exact o3 _ G3 H3 (Step.refl s3.gh) (.bl _)
      | true =>
        have f3 := ((f.step s1).step s2).step s3
        refine hc σ G3 H3 env f3 _ (Out.bind (show Out C (rV C) (WE W σ) G3 H3 Q ((fc env).bind fun z => (op' d2 z).bind fun r2 => (toBl r2).bind fun k2 => R.ok (D.bl k2)) from o3) fun d4 v4 G4 H4 _ s4 r4 o4 => h' G4 H4 v2 v4 d2 d4 s4.gh (r2.mono (s3.g.trans s4.g)) r4 (WE W σ) _ (Out.bind o4 fun d5 v5 G5 H5 _ s5 r5 o5 => ?_))
        cases r5 with
        | bl b2 => exact o5 _ G5 H5 (Step.refl s5.gh) (.bl _)
        | _ => exact False.elim o5
    | _ => exact False.elim o3)))
/-! built-ins -/
def CallD (C : Cc) (r : List V → Hp → VK → Prop) (f : List D → R D) : Prop := ∀ G H vs ds, Ex G H → RepL C.K C.w C.ad G vs ds → ∀ E Q, Out C (rV C) E G H Q (f ds) → r vs H Q
theorem ce_F {r : List V → Hp → VK → Prop} {f : List D → R D} {ta : TA} {a : SA} (h : CallD C r f) (ha : CA C xo W ta a) : CE C xo W (tCB r ta) (eF f a) := fun σ G H env ft Q o =>
  ha σ G H env ft _ (Out.bind o fun ds vs G1 H1 _ s1 r1 o1 => h G1 H1 vs ds s1.gh r1 _ _ o1)
theorem CallRor {X : Cx} {f : Value} {r r' : List V → Hp → VK → Prop} (h : CallR X f r) (h' : CallR X f r') : CallR X f (fun xs H Q => r xs H Q ∨ r' xs H Q) := by
  intro pins s σ H xs us Q I rx q
  rcases q with q | q
  · exact h pins s σ H xs us Q I rx q
  · exact h' pins s σ H xs us Q I rx q
def rLenX (K : PySem.W.Frag) : List V → Hp → VK → Prop := fun xs H Q => rLenS1 xs H Q ∨ rLenS K xs H Q
theorem cr_len {X : Cx} : CallR X (.builtin "len") (rLenX X.K) := CallRor (r := rLenS1) call_len_str (r' := rLenS X.K) call_len_seq
theorem cd_len : CallD C (rLenX C.K) fLen := by
  intro G H vs ds e r E Q o
  cases r with
  | nil => exact False.elim o
  | cons h r =>
    cases r with
    | cons h2 r => cases h <;> exact False.elim o
    | nil =>
      cases h with
      | str z =>
        obtain ⟨hz, o⟩ := out_ifE (d := .int z.length) o
        exact Or.inl ⟨z, rfl, sz_of hz, o _ G H (Step.refl e) (.int _)⟩
      | @lst a vs ds h r =>
        refine Or.inr ⟨a, vs, rfl, Or.inl (sq_of (e _ _ h)), ?_⟩
        rw [r.length]
        exact o _ G H (Step.refl e) (.int _)
      | @scr a vs ds h r =>
        refine Or.inr ⟨a, vs, rfl, Or.inl (ex_l e h), ?_⟩
        rw [r.length]
        exact o _ G H (Step.refl e) (.int _)
      | @tup a vs ds h r =>
        refine Or.inr ⟨a, vs, rfl, Or.inr (ex_t e h), ?_⟩
        rw [r.length]
        exact o _ G H (Step.refl e) (.int _)
      | @ktp a vs ds h _ r =>
        refine Or.inr ⟨a, vs, rfl, Or.inr (ex_t e h), ?_⟩
        rw [r.length]
        exact o _ G H (Step.refl e) (.int _)
      | _ => exact False.elim o
theorem cd_int : CallD C rInt1 fInt := by
  intro G H vs ds e r E Q o
  cases r with
  | nil => exact False.elim o
  | cons h r =>
    cases r with
    | cons h2 r => cases h <;> exact False.elim o
    | nil =>
      cases h with
      | int i => exact Or.inl ⟨i, rfl, o _ G H (Step.refl e) (.int _)⟩
      | bl i => exact Or.inr ⟨i, rfl, o _ G H (Step.refl e) (.int _)⟩
      | _ => exact False.elim o
theorem cd_str : CallD C rStrI fStr := by
  intro G H vs ds e r E Q o
  cases r with
  | nil => exact False.elim o
  | cons h r =>
    cases r with
    | cons h2 r => cases h <;> exact False.elim o
    | nil =>
      cases h with
      | int i =>
        obtain ⟨hz, o⟩ := out_ifE (p := i.natAbs.log2 < 1920) o
        exact ⟨i, rfl, hz, o _ G H (Step.refl e) (.str _)⟩
      | _ => exact False.elim o
theorem cd_abs : CallD C rAbs1 fAbs := by
  intro G H vs ds e r E Q o
  cases r with
  | nil => exact False.elim o
  | cons h r =>
    cases r with
    | cons h2 r => cases h <;> exact False.elim o
    | nil =>
      cases h with
      | int i => exact ⟨i, rfl, o _ G H (Step.refl e) (.int _)⟩
      | _ => exact False.elim o
theorem cd_min2 : CallD C rMin2 fMin2 := by
  intro G H vs ds e r E Q o
  cases r with
  | nil => exact False.elim o
  | cons h r =>
    cases r with
    | nil => cases h <;> exact False.elim o
    | cons h2 r =>
      cases r with
      | cons _ _ => cases h <;> cases h2 <;> exact False.elim o
      | nil =>
        cases h with
        | int i => cases h2 with
          | int j => exact ⟨i, j, rfl, o _ G H (Step.refl e) (.int _)⟩
          | _ => exact False.elim o
        | _ => cases h2 <;> exact False.elim o
theorem cd_max2 : CallD C rMax2 fMax2 := by
  intro G H vs ds e r E Q o
  cases r with
  | nil => exact False.elim o
  | cons h r =>
    cases r with
    | nil => cases h <;> exact False.elim o
    | cons h2 r =>
      cases r with
      | cons _ _ => cases h <;> cases h2 <;> exact False.elim o
      | nil =>
        cases h with
        | int i => cases h2 with
          | int j => exact ⟨i, j, rfl, o _ G H (Step.refl e) (.int _)⟩
          | _ => exact False.elim o
        | _ => cases h2 <;> exact False.elim o
theorem cd_ord : CallD C (fun xs H Q => ∃ x, xs = [.str x] ∧ x.length = 1 ∧ Q (.int (x.cps.getD 0 0 : Nat)) H) fOrd := by
  intro G H vs ds e r E Q o
  cases r with
  | nil => exact False.elim o
  | cons h r =>
    cases r with
    | cons h2 r => cases h <;> exact False.elim o
    | nil =>
      cases h with
      | str x =>
        obtain ⟨hz, o⟩ := out_ifE (p := x.length = 1) o
        exact ⟨x, rfl, hz, o _ G H (Step.refl e) (.int _)⟩
      | _ => exact False.elim o
theorem cd_sum : CallD C (rSum C.K) fSum := by
  intro G H vs ds e r E Q o
  cases r with
  | nil => exact False.elim o
  | cons h r =>
    cases r with
    | cons h2 r => cases h <;> exact False.elim o
    | nil =>
      cases h with
      | @lst a vs ds h r =>
        have o2 : Out C (rV C) E G H Q (match intsOf ds with | some ns => .ok (.int ns.sum) | none => .bad) := o
        cases c : intsOf ds with
        | none => rw [c] at o2; exact o2.elim
        | some ns =>
          rw [c] at o2
          have z := r.ints c
          subst z
          exact ⟨a, ns, rfl, sq_of (e _ _ h), o2 _ G H (Step.refl e) (.int _)⟩
      | @scr a vs ds h r =>
        have o2 : Out C (rV C) E G H Q (match intsOf ds with | some ns => .ok (.int ns.sum) | none => .bad) := o
        cases c : intsOf ds with
        | none => rw [c] at o2; exact o2.elim
        | some ns =>
          rw [c] at o2
          have z := r.ints c
          subst z
          exact ⟨a, ns, rfl, ex_l e h, o2 _ G H (Step.refl e) (.int _)⟩
      | _ => exact False.elim o
theorem cd_tuple : CallD C (rTupS C.K) fTuple := by
  intro G H vs ds e r E Q o
  cases r with
  | nil => exact False.elim o
  | cons h r =>
    cases r with
    | cons h2 r => cases h <;> exact False.elim o
    | nil =>
      cases h with
      | @lst a vs ds h r => exact ⟨a, vs, rfl, Or.inl ⟨sq_of (e _ _ h), fun p hp => o _ _ _ (Step.new e hp) (.tup (st_of upd_same) (r.mono (Ex.new (fresh_back e hp))))⟩⟩
      | @scr a vs ds h r => exact ⟨a, vs, rfl, Or.inl ⟨ex_l e h, fun p hp => o _ _ _ (Step.new e hp) (.tup (st_of upd_same) (r.mono (Ex.new (fresh_back e hp))))⟩⟩
      | @tup a vs ds h r => exact ⟨a, vs, rfl, Or.inr ⟨ex_t e h, o _ G H (Step.refl e) (.tup h r)⟩⟩
      | _ => exact False.elim o
/-! isinstance -/
def tyN : Ty → String
  | .int => "int" | .bool => "bool" | .str => "str" | .list => "list" | .tuple => "tuple" | .dict => "dict"
theorem ty_rd {K : PySem.W.Frag} {a : Addr} {vs : List V} (h : SqL K H a vs) : TyX K H (.ref a) (.type "list") := by
  rcases h with (h | ⟨o, h⟩) | ⟨o, its, n, h1, h2, _⟩
  · exact .base (.lst h)
  · exact .base (.frz h)
  · exact .kList h1 h2
theorem ty_rt {K : PySem.W.Frag} {a : Addr} {vs : List V} (h : SqT K H a vs) : TyX K H (.ref a) (.type "tuple") := by
  rcases h with (h | ⟨o, h⟩) | ⟨o, its, n, h1, h2, _⟩
  · exact .base (.tup h)
  · exact .fTuple h
  · exact .kTuple h1 h2
theorem ce_isi {ta : TE} {a : SE} (t : Ty) (ha : CE C xo W ta a) : CE C xo W (tCB (rIsi C.K) (tCons ta (tCons (tC (.ty (tyN t))) tNil))) (eU (dIsi t) a) := fun σ G H env ft Q o =>
  ha σ G H env ft _ (Out.bind o fun d v G1 H1 _ s r o1 => by
    have e := s.gh
    cases r with
    | non => exact ⟨_, _, _, _, isTy t .non, rfl, .ty _, .base .non, kit_ty (by cases t <;> first | (show kitB _ _ = some true; decide +kernel) | (show kitB _ _ = some false; decide +kernel)), o1 _ G1 H1 (Step.refl e) (.bl _)⟩
    | bl b => exact ⟨_, _, _, _, isTy t (.bl b), rfl, .ty _, .base (.bl b), kit_ty (by cases t <;> first | (show kitB _ _ = some true; decide +kernel) | (show kitB _ _ = some false; decide +kernel)), o1 _ G1 H1 (Step.refl e) (.bl _)⟩
    | int b => exact ⟨_, _, _, _, isTy t (.int b), rfl, .ty _, .base (.int b), kit_ty (by cases t <;> first | (show kitB _ _ = some true; decide +kernel) | (show kitB _ _ = some false; decide +kernel)), o1 _ G1 H1 (Step.refl e) (.bl _)⟩
    | str b => exact ⟨_, _, _, _, isTy t (.str b), rfl, .ty _, .base (.str b), kit_ty (by cases t <;> first | (show kitB _ _ = some true; decide +kernel) | (show kitB _ _ = some false; decide +kernel)), o1 _ G1 H1 (Step.refl e) (.bl _)⟩
    | @lst a vs ds h r => exact ⟨_, _, _, _, isTy t (.lst ds), rfl, .ty _, .base (.lst (e _ _ h)), kit_ty (by cases t <;> first | (show kitB _ _ = some true; decide +kernel) | (show kitB _ _ = some false; decide +kernel)), o1 _ G1 H1 (Step.refl e) (.bl _)⟩
    | @scr a vs ds h r => exact ⟨_, _, _, _, isTy t (.scr ds), rfl, .ty _, ty_rd (ex_l e h), kit_ty (by cases t <;> first | (show kitB _ _ = some true; decide +kernel) | (show kitB _ _ = some false; decide +kernel)), o1 _ G1 H1 (Step.refl e) (.bl _)⟩
    | @tup a vs ds h r => exact ⟨_, _, _, _, isTy t (.tup ds), rfl, .ty _, ty_rt (ex_t e h), kit_ty (by cases t <;> first | (show kitB _ _ = some true; decide +kernel) | (show kitB _ _ = some false; decide +kernel)), o1 _ G1 H1 (Step.refl e) (.bl _)⟩
    | @ktp a vs ds h _ r => exact ⟨_, _, _, _, isTy t (.ktp ds), rfl, .ty _, ty_rt (ex_t e h), kit_ty (by cases t <;> first | (show kitB _ _ = some true; decide +kernel) | (show kitB _ _ = some false; decide +kernel)), o1 _ G1 H1 (Step.refl e) (.bl _)⟩
    | fn n => exact False.elim o1
    | @dct a ks vs ds hl hs r =>
      obtain ⟨es, n, hk, _⟩ := hs.ex
      exact ⟨_, _, _, _, isTy t (.dct ks ds), rfl, .ty _, .kDict hk rfl, kit_ty (by cases t <;> first | (show kitB _ _ = some true; decide +kernel) | (show kitB _ _ = some false; decide +kernel)), o1 _ G1 H1 (Step.refl e) (.bl _)⟩)
/-! new lists -/
theorem cn_lst {ta : TA} {a : SA} (h : CA C xo W ta a) : CN C xo W (tLst ta) (lD a) := fun σ G H env f Q o =>
  h σ G H env f _ (Out.bind o fun ds vs G1 H1 _ s1 r1 o1 => by
    obtain ⟨hz, o1⟩ := out_if o1
    exact ⟨sz_of (by rw [r1.length]; exact hz), fun p hp => o1 _ G1 _ (Step.ofH s1.gh (Ex.new hp)) ⟨⟨p, vs, rfl, fresh_back s1.gh hp, upd_same, r1⟩, fun q hq => by cases hq; exact fresh_back s1.h hp⟩⟩)
theorem cn_list {ta : TA} {a : SA} (h : CA C xo W ta a) : CN C xo W (tCB (rListS C.K) ta) (lF fList a) := fun σ G H env f Q o =>
  h σ G H env f _ (Out.bind o fun ds vs G1 H1 _ s1 r1 o1 => by
    have e := s1.gh
    cases r1 with
    | nil => exact False.elim o1
    | cons h r =>
      cases r with
      | cons h2 r => cases h <;> exact False.elim o1
      | nil =>
        cases h with
        | @lst a vs ds h r => exact ⟨a, vs, rfl, Or.inl (sq_of (e _ _ h)), fun p hp => o1 _ G1 _ (Step.ofH e (Ex.new hp)) ⟨⟨p, vs, rfl, fresh_back e hp, upd_same, r⟩, fun q hq => by cases hq; exact fresh_back s1.h hp⟩⟩
        | @scr a vs ds h r => exact ⟨a, vs, rfl, Or.inl (ex_l e h), fun p hp => o1 _ G1 _ (Step.ofH e (Ex.new hp)) ⟨⟨p, vs, rfl, fresh_back e hp, upd_same, r⟩, fun q hq => by cases hq; exact fresh_back s1.h hp⟩⟩
        | @tup a vs ds h r => exact ⟨a, vs, rfl, Or.inr (ex_t e h), fun p hp => o1 _ G1 _ (Step.ofH e (Ex.new hp)) ⟨⟨p, vs, rfl, fresh_back e hp, upd_same, r⟩, fun q hq => by cases hq; exact fresh_back s1.h hp⟩⟩
        | _ => exact False.elim o1)
theorem cn_cat {ta tb : TE} {a b : SE} (ha : CE C xo W ta a) (hb : CE C xo W tb b) : CN C xo W (tOp rCat ta tb) (lCat a b) := fun σ G H env f Q o =>
  ha σ G H env f _ (Out.bind o fun d v G1 H1 _ s1 r1 o1 => hb σ G1 H1 env (f.step s1) _ (Out.bind o1 fun d2 v2 G2 H2 _ s2 r2 o2 => by
    have r3 := r1.mono s2.g
    have e := s2.gh
    cases r3 with
    | @lst a vs ds h r4 => cases r2 with
      | @lst b ws es h2 r2 =>
        obtain ⟨hz, o2⟩ := out_if (p := ds.length + es.length ≤ Z) o2
        exact ⟨a, b, vs, ws, rfl, rfl, e _ _ h, e _ _ h2, sz_of (by rw [r4.length, r2.length]; exact hz), fun p hp => o2 _ G2 _ (Step.ofH e (Ex.new hp)) ⟨⟨p, _, rfl, fresh_back e hp, upd_same, r4.append r2⟩, fun q hq => by cases hq; exact fresh_back (s1.h.trans s2.h) hp⟩⟩
      | _ => exact False.elim o2
    | _ => cases r2 <;> exact False.elim o2))
theorem cn_rep {ta tb : TE} {a b : SE} (ha : CE C xo W ta a) (hb : CE C xo W tb b) : CN C xo W (tOp rRep ta tb) (lRep a b) := fun σ G H env f Q o =>
  ha σ G H env f _ (Out.bind o fun d v G1 H1 _ s1 r1 o1 => hb σ G1 H1 env (f.step s1) _ (Out.bind o1 fun d2 v2 G2 H2 _ s2 r2 o2 => by
    have r3 := r1.mono s2.g
    have e := s2.gh
    cases r3 with
    | @lst a vs ds h r4 => cases r2 with
      | int k =>
        obtain ⟨hz, o2⟩ := out_if (p := ds.length * k.toNat ≤ Z ∧ -(2 ^ 63) ≤ k ∧ k < 2 ^ 63) o2
        exact ⟨a, k, vs, rfl, rfl, e _ _ h, hz.2.1, hz.2.2, sz_of (by rw [r4.length]; exact hz.1), fun p hp => o2 _ G2 _ (Step.ofH e (Ex.new hp)) ⟨⟨p, _, rfl, fresh_back e hp, upd_same, r4.rep _⟩, fun q hq => by cases hq; exact fresh_back (s1.h.trans s2.h) hp⟩⟩
      | _ => exact False.elim o2
    | _ => cases r2 <;> exact False.elim o2))
theorem cn_sl {te : TE} {tl th : TO} {f : SE} {lo hi : Env → R (Option Int)} (h : CE C xo W te f) (h1 : CO C xo W tl lo) (h2 : CO C xo W th hi) : CN C xo W (tSl (rSlL C.K) te tl th) (lSl f lo hi) := fun σ G H env ft Q o =>
  h σ G H env ft _ (Out.bind o fun d v G1 H1 _ s1 r1 o1 => h1 σ G1 H1 env (ft.step s1) _ (Out.bind o1 fun l l' G2 H2 _ s2 r2 o2 => h2 σ G2 H2 env ((ft.step s1).step s2) _ (Out.bind o2 fun u u' G3 H3 _ s3 r3 o3 => by
    subst r2 r3
    have r := r1.mono (s2.g.trans s3.g)
    have e := s3.gh
    have hh := (s1.h.trans s2.h).trans s3.h
    cases r with
    | @lst a vs ds h r => exact ⟨a, vs, rfl, sq_of (e _ _ h), fun p hp => o3 _ G3 _ (Step.ofH e (Ex.new hp)) ⟨⟨p, _, rfl, fresh_back e hp, upd_same, r.cut _ _⟩, fun q hq => by cases hq; exact fresh_back hh hp⟩⟩
    | @scr a vs ds h r => exact ⟨a, vs, rfl, ex_l e h, fun p hp => o3 _ G3 _ (Step.ofH e (Ex.new hp)) ⟨⟨p, _, rfl, fresh_back e hp, upd_same, r.cut _ _⟩, fun q hq => by cases hq; exact fresh_back hh hp⟩⟩
    | _ => exact False.elim o3)))
theorem cn_rev {te : TE} {f : SE} (h : CE C xo W te f) : CN C xo W (tRevL C.K te) (lRev f) := fun σ G H env ft Q o =>
  h σ G H env ft _ (Out.bind o fun d v G1 H1 _ s r o1 => by
    have e := s.gh
    cases r with
    | @lst a vs ds h r => exact ⟨a, vs, rfl, sq_of (e _ _ h), fun p hp => o1 _ G1 _ (Step.ofH e (Ex.new hp)) ⟨⟨p, _, rfl, fresh_back e hp, upd_same, r.reverse⟩, fun q hq => by cases hq; exact fresh_back s.h hp⟩⟩
    | @scr a vs ds h r => exact ⟨a, vs, rfl, ex_l e h, fun p hp => o1 _ G1 _ (Step.ofH e (Ex.new hp)) ⟨⟨p, _, rfl, fresh_back e hp, upd_same, r.reverse⟩, fun q hq => by cases hq; exact fresh_back s.h hp⟩⟩
    | _ => exact False.elim o1)
/-- a new list is a value -/
theorem Step.take {p : Addr} {vs : List V} (s : Step G H G' H') (h1 : G' p = none) (h2 : H' p = some (.lst vs)) (h3 : H p = none) : Step G H (upd G' p (.lst vs)) H' := by
  refine ⟨s.g.trans (Ex.new h1), fun a o h => ?_, s.h, fun q hq hn => ?_⟩
  · by_cases z : a = p
    · subst z; rw [upd_same] at h; rw [h2]; exact h
    · rw [upd_ne z] at h; exact s.gh a o h
  · have ne : q ≠ p := fun z => by rw [z] at hn; exact hn h3
    rw [upd_ne ne]
    exact s.out q hq hn
theorem ce_L {te : TE} {f : SA} (h : CN C xo W te f) : CE C xo W te (eL f) := fun σ G H env ft Q o => by
  refine h σ G H env ft Q ?_
  unfold eL at o
  cases c : f env with
  | bad => rw [c] at o; exact o
  | exc k fs => rw [c] at o; exact o
  | ok ds =>
    rw [c] at o
    intro v G' H' s q
    obtain ⟨⟨p, vs, rfl, h1, h2, h3⟩, h4⟩ := q
    exact o (.ref p) _ H' (s.take h1 h2 (h4 p rfl)) (.lst upd_same (h3.mono (Ex.new h1)))
end
end Dm
set_option Elab.async false
set_option linter.all false
set_option maxRecDepth 100000
set_option maxHeartbeats 4000000
namespace Dm
open PySem L2 Evl RZ Wm
section
variable {C : Cc} {xo : Xo} {W : WX} {G H G' H' : Hp} {σ : L2.St} {env : Env} {E : XK}
/-! methods -/
theorem ty_V {K : PySem.W.Frag} {w : World} {ad : Nat → Addr} {v : V} {d : D} {t : Ty} (r : Rep K w ad H v d) (h : isTy t d = true) (ht : t = .str ∨ t = .list ∨ (t = .tuple ∧ ∃ xs, d = .ktp xs)) : tyV K (tyN t) v H := by
  rcases ht with rfl | rfl | ⟨rfl, xs, rfl⟩
  · cases r <;> first | rfl | cases h
  · cases r with
    | lst h1 _ => exact Or.inl ⟨rfl, _, sq_of h1⟩
    | scr h1 _ => exact Or.inl ⟨rfl, _, h1⟩
    | _ => cases h
  · cases r with
    | ktp _ k _ => exact Or.inr (Or.inl ⟨rfl, k⟩)
def MetD (C : Cc) (r : V → List V → Hp → VK → Prop) (f : D → List D → R D) : Prop := ∀ G H x vs dx ds, Ex G H → Rep C.K C.w C.ad G x dx → RepL C.K C.w C.ad G vs ds → ∀ E Q, Out C (rV C) E G H Q (f dx ds) → r x vs H Q
theorem ce_M {r : V → List V → Hp → VK → Prop} {f : D → List D → R D} {t : Ty} {to : TE} {ta : TA} {o : SE} {a : SA} (h : MetD C r f) (ht : t = .str ∨ t = .list) (ho : CE C xo W to o) (ha : CA C xo W ta a) : CE C xo W (tBM C.K (tyN t) r to ta) (eM t f o a) := fun σ G H env ft Q q =>
  ho σ G H env ft _ (Out.bind q fun d v G1 H1 _ s1 r1 o1 => by
    obtain ⟨hz, o1⟩ := out_if o1
    exact ⟨ty_V (r1.mono s1.gh) hz (ht.imp id Or.inl), ha σ G1 H1 env (ft.step s1) _ (Out.bind o1 fun ds vs G2 H2 _ s2 r2 o2 => h G2 H2 v vs d ds s2.gh (r1.mono s2.g) r2 _ _ o2)⟩)
theorem ce_M0 {r : V → List V → Hp → VK → Prop} {f : D → List D → R D} {t : Ty} {to : TE} {o : SE} (h : MetD C r f) (ht : t = .str ∨ t = .list) (ho : CE C xo W to o) : CE C xo W (tBM0 C.K (tyN t) r to) (eM t f o eNil) := fun σ G H env ft Q q =>
  ho σ G H env ft _ (Out.bind q fun d v G1 H1 _ s1 r1 o1 => by
    obtain ⟨hz, o1⟩ := out_if o1
    exact ⟨ty_V (r1.mono s1.gh) hz (ht.imp id Or.inl), h G1 H1 v [] d [] s1.gh r1 .nil (WE W σ) _ o1⟩)
local macro_rules | `(tactic| walk_at "strmet") => `(tactic| (
  intro G H x vs dx ds e rx r E Q o
  cases rx with
  | str a =>
    cases r with
    | nil => exact False.elim o
    | cons h r =>
      cases r with
      | cons h2 r => cases h <;> exact False.elim o
      | nil =>
        cases h with
        | str b => exact ⟨a, b, rfl, rfl, o _ G H (Step.refl e) (by constructor)⟩
        | _ => exact False.elim o
  | _ => exact False.elim o))
theorem md_find : MetD C (fun x xs H Q => ∃ a b, x = .str a ∧ xs = [.str b] ∧ Q (.int (Txt.find a b)) H) mFind := by walk_at "strmet"
theorem md_rfind : MetD C (fun x xs H Q => ∃ a b, x = .str a ∧ xs = [.str b] ∧ Q (.int (Txt.rfind a b)) H) mRfind := by walk_at "strmet"
theorem md_count : MetD C (fun x xs H Q => ∃ a b, x = .str a ∧ xs = [.str b] ∧ Q (.int (Txt.count a b)) H) mCount := by walk_at "strmet"
theorem md_starts : MetD C (fun x xs H Q => ∃ a b, x = .str a ∧ xs = [.str b] ∧ Q (.bl (Txt.startswith a b)) H) mStarts := by walk_at "strmet"
theorem md_lower : MetD C (fun x xs H Q => ∃ a, x = .str a ∧ xs = [] ∧ a.length ≤ 5592405 ∧ Q (.str (Txt.lower a)) H) mLower := by
  intro G H x vs dx ds e rx r E Q o
  cases rx with
  | str a =>
    cases r with
    | nil =>
      obtain ⟨hz, o⟩ := out_ifE (p := a.length ≤ Z) o
      exact ⟨a, rfl, rfl, Nat.le_trans hz (by decide), o _ G H (Step.refl e) (.str _)⟩
    | cons h r => exact False.elim o
  | _ => exact False.elim o
def rJoin (K : PySem.W.Frag) : V → List V → Hp → VK → Prop := fun x xs H Q => ∃ a p, ∃ ys : List Str, x = .str a ∧ xs = [.ref p] ∧ (SqL K H p (ys.map V.str) ∨ SqT K H p (ys.map V.str)) ∧
    (ys.map (·.length)).sum + ys.length * a.length ≤ 16777216 ∧ Q (.str (Txt.join a ys)) H
theorem md_join : MetD C (rJoin C.K) mJoin := by
  intro G H x vs dx ds e rx r E Q o
  cases rx with
  | str a =>
    cases r with
    | nil => exact False.elim o
    | cons h r =>
      cases r with
      | cons h2 r => cases h <;> exact False.elim o
      | nil =>
        have fin : ∀ {p : Addr} {vs : List V} {xs : List D}, (SqL C.K H p vs ∨ SqT C.K H p vs) → RepL C.K C.w C.ad G vs xs → Out C (rV C) E G H Q (match strsOf xs with
            | some ys => if (ys.map (·.length)).sum + ys.length * a.length ≤ 16777216 then .ok (.str (Txt.join a ys)) else .bad
            | none => .bad) → rJoin C.K (.str a) [.ref p] H Q := fun {p vs xs} hs r o2 => by
          cases c : strsOf xs with
          | none => rw [c] at o2; exact o2.elim
          | some ys =>
            rw [c] at o2
            have z := r.strs c
            subst z
            obtain ⟨hz, o2⟩ := out_ifE (p := (ys.map (·.length)).sum + ys.length * a.length ≤ 16777216) o2
            exact ⟨a, p, ys, rfl, rfl, hs, hz, o2 _ G H (Step.refl e) (.str _)⟩
        cases h with
        | lst h1 r1 => exact fin (Or.inl (sq_of (e _ _ h1))) r1 o
        | scr h1 r1 => exact fin (Or.inl (ex_l e h1)) r1 o
        | tup h1 r1 => exact fin (Or.inr (ex_t e h1)) r1 o
        | _ => exact False.elim o
  | _ => exact False.elim o
/-- names.index(z), names a tuple of the module -/
def rTIx (K : PySem.W.Frag) : V → List V → Hp → VK → Prop := fun x xs H Q => ∃ p, ∃ ys : List Str, ∃ z j, x = .ref p ∧ xs = [.str z] ∧ SqT K H p (ys.map V.str) ∧ ys[j]? = some z ∧ (∀ m, m < j → ys[m]? ≠ some z) ∧ Q (.int (j : Nat)) H
theorem idx_at : ∀ {ys : List Str} {z : Str}, z ∈ ys → ys[ys.idxOf z]? = some z ∧ ∀ m, m < ys.idxOf z → ys[m]? ≠ some z := by
  intro ys z h
  have hl := List.idxOf_lt_length_of_mem h
  refine ⟨?_, fun m hm q => ?_⟩
  · rw [List.getElem?_eq_getElem hl]
    exact congrArg some (List.getElem_idxOf hl)
  · have hm2 : m < ys.length := Nat.lt_trans hm hl
    rw [List.getElem?_eq_getElem hm2] at q
    have e := Option.some.inj q
    have := List.not_of_lt_findIdx (p := (· == z)) (xs := ys) hm
    rw [e, beq_self_eq_true] at this
    cases this
theorem ce_tix {to : TE} {ta : TA} {o : SE} {a : SA} (ho : CE C xo W to o) (ha : CA C xo W ta a) : CE C xo W (tBM C.K "tuple" (rTIx C.K) to ta) (eTIx o a) := fun σ G H env ft Q q =>
  ho σ G H env ft _ (Out.bind q fun d v G1 H1 _ s1 r1 o1 => by
    cases r1 with
    | @ktp p vs xs h1 k r1 =>
      refine ⟨Or.inr (Or.inl ⟨rfl, k⟩), ha σ G1 H1 env (ft.step s1) _ (Out.bind o1 fun ds ws G2 H2 _ s2 r2 o2 => ?_)⟩
      cases r2 with
      | nil => exact False.elim o2
      | cons h r =>
        cases r with
        | cons _ _ => cases h <;> exact False.elim o2
        | nil =>
          cases h with
          | str z =>
            have o3 : Out C (rV C) (WE W σ) G2 H2 Q (match strsOf xs with
              | some ys => if z ∈ ys then .ok (.int (ys.idxOf z : Nat)) else .bad
              | none => .bad) := o2
            cases c : strsOf xs with
            | none => rw [c] at o3; exact o3.elim
            | some ys =>
              rw [c] at o3
              obtain ⟨hz, o3⟩ := out_ifE (p := z ∈ ys) o3
              have q := r1.strs c
              subst q
              have i := idx_at hz
              exact ⟨p, ys, z, _, rfl, rfl, ex_t (s2.g.trans s2.gh) h1, i.1, i.2, o3 _ G2 H2 (Step.refl s2.gh) (.int _)⟩
          | _ => exact False.elim o2
    | _ => exact False.elim o1)
/-! calls of defs -/
def SpD (C : Cc) (m : List D → R D) : Sp := fun vs H Q E => ∃ G ds, Ex G H ∧ RepL C.K C.w C.ad G vs ds ∧ Out C (rV C) E G H Q (m ds)
abbrev rF (C : Cc) (H : Hp) : Hp → Hp → V → List D → Prop := fun G' H' v ds => rN C G' H' v ds ∧ ∀ p, v = .ref p → H p = none
def SpL (C : Cc) (m : List D → R (List D)) : Sp := fun vs H Q E => ∃ G ds, Ex G H ∧ RepL C.K C.w C.ad G vs ds ∧ Out C (rF C H) E G H Q (m ds)
theorem ce_call {m : List D → R D} {t : TA} {a : SA} (ha : CA C xo W t a) : CE C xo W (tCallS (SpD C m) (WE W) t) (eF m a) := fun σ G H env ft Q o =>
  ha σ G H env ft _ (Out.bind o fun ds vs G1 H1 _ s r o1 => ⟨G1, ds, s.gh, r, o1⟩)
theorem cn_call {m : List D → R (List D)} {t : TA} {a : SA} (ha : CA C xo W t a) : CN C xo W (tCallS (SpL C m) (WE W) t) (lF m a) := fun σ G H env ft Q o =>
  ha σ G H env ft _ (Out.bind o fun ds vs G1 H1 _ s r o1 => ⟨G1, ds, s.gh, r, by
    cases c : m ds with
    | bad => rw [c] at o1; exact o1
    | exc k fs => rw [c] at o1; exact o1
    | ok xs =>
      rw [c] at o1
      intro v G2 H2 s2 q
      exact o1 v G2 H2 s2 ⟨q.1, fun p hp => fresh_back s.h (q.2 p hp)⟩⟩)
theorem ce_call0 {m : List D → R D} : CE C xo W (tCall (SpD C m) [] E0 tNil) (fun _ => noX (m [])) := fun σ G H env ft Q o => ⟨G, [], ft.ex, .nil, by
  cases c : m [] with
  | bad => rw [c] at o; exact o
  | exc k fs => rw [c] at o; exact o.elim
  | ok xs => rw [c] at o; exact fun v G2 H2 s2 q => o v G2 H2 s2 q⟩
theorem cn_call0 {m : List D → R (List D)} : CN C xo W (tCall (SpL C m) [] E0 tNil) (fun _ => noX (m [])) := fun σ G H env ft Q o => ⟨G, [], ft.ex, .nil, by
  cases c : m [] with
  | bad => rw [c] at o; exact o
  | exc k fs => rw [c] at o; exact o.elim
  | ok xs => rw [c] at o; exact fun v G2 H2 s2 q => o v G2 H2 s2 q⟩
/-- a call of a local name that holds a def; what is raised goes by the def's own wish -/
def tCallRS (i : Nat) (S : Addr → Sp → Prop) (E : L2.St → XK) (t : TA) : TE := fun σ H Q => ∃ f sp, σ[i]? = some (some (.ref f)) ∧ S f sp ∧ t σ H fun vs H1 => sp vs H1 Q (E σ)
def STb (C : Cc) (tb : Nat → Option (List D → R D)) : Addr → Sp → Prop := fun f sp => ∃ n m, f = C.ad n ∧ tb n = some m ∧ sp = SpD C m
theorem ce_P {tb : Nat → Option (List D → R D)} {i : Nat} {t : TA} {a : SA} (ha : CA C xo W t a) : CE C xo W (tCallRS i (STb C tb) (WE W) t) (eP tb i a) := fun σ G H env ft Q o => by
  unfold eP at o
  cases c : env[i]? with
  | none => rw [c] at o; exact o.elim
  | some s =>
    rw [c] at o
    cases s with
    | val d =>
      cases d with
      | fn n =>
        dsimp only at o
        cases c2 : tb n with
        | none => rw [c2] at o; exact o.elim
        | some m =>
          rw [c2] at o
          obtain ⟨v, h1, h2⟩ := ft.val i _ c
          cases h2
          exact ⟨_, _, h1, ⟨n, m, rfl, c2, rfl⟩, ha σ G H env ft _ (Out.bind o fun ds vs G1 H1 _ s r o1 => ⟨G1, ds, s.gh, r, o1⟩)⟩
      | _ => exact o.elim
    | _ => exact o.elim
/-! ### what is walked -/
def Srv (C : Cc) (J : It) (G : Hp) (ds : List D) : Prop := ∃ (GP : Hp → Prop) (Y : Nat → Hp → V → Hp → Prop), Walk J ds.length GP Y ∧ (∀ H, Ex G H → GP H) ∧
  ∀ (i : Nat) H x H' G1, i < ds.length → Ex G G1 → Ex G1 H → Y i H x H' → ∃ G' d, ds[i]? = some d ∧ Step G1 H G' H' ∧ Rep C.K C.w C.ad G' x d
def CI (C : Cc) (xo : Xo) (W : WX) (wi : TI) (f : SA) : Prop := ∀ σ G H env, Fit C xo G H σ env → ∀ R : It → Hp → Prop, Out C (fun G' _ J ds => Srv C J G' ds) (WE W σ) G H R (f env) → wi σ H R
theorem srv_at {J : It} {vs : List V} {ds : List D} {GP : Hp → Prop} (w : Walk J vs.length GP (YAt vs)) (r : RepL C.K C.w C.ad G vs ds) (hg : ∀ H, Ex G H → GP H) : Srv C J G ds :=
  ⟨GP, YAt vs, by rw [← r.length]; exact w, hg, fun i H x H' G1 hi e1 e2 y => by
    obtain ⟨rfl, h⟩ := y
    obtain ⟨d, h1, h2⟩ := r.getV h
    exact ⟨G1, d, h1, Step.refl e2, h2.mono e1⟩⟩
theorem ci_list {te : TE} {f : SE} (h : CE C xo W te f) : CI C xo W (iList C.K te) (iD f) := fun σ G H env ft R o =>
  h σ G H env ft _ (Out.bind o fun d v G1 H1 _ s r o1 => by
    cases r with
    | @lst a vs ds h1 r => exact ⟨a, rfl, ⟨vs, sq_of (s.gh _ _ h1)⟩, o1 _ G1 H1 (Step.refl s.gh) (srv_at walk_list r fun H e => sq_of (e _ _ h1))⟩
    | @scr a vs ds h1 r => exact ⟨a, rfl, ⟨vs, ex_l s.gh h1⟩, o1 _ G1 H1 (Step.refl s.gh) (srv_at walk_list r fun H e => ex_l e h1)⟩
    | _ => exact False.elim o1)
theorem ci_tup {te : TE} {f : SE} (h : CE C xo W te f) : CI C xo W (iTup C.K te) (iT f) := fun σ G H env ft R o =>
  h σ G H env ft _ (Out.bind o fun d v G1 H1 _ s r o1 => by
    cases r with
    | @tup a vs ds h1 r => exact ⟨a, rfl, ⟨vs, ex_t s.gh h1⟩, o1 _ G1 H1 (Step.refl s.gh) (srv_at walk_tup r fun H e => ex_t e h1)⟩
    | @ktp a vs ds h1 _ r => exact ⟨a, rfl, ⟨vs, ex_t s.gh h1⟩, o1 _ G1 H1 (Step.refl s.gh) (srv_at walk_tup r fun H e => ex_t e h1)⟩
    | _ => exact False.elim o1)
theorem ci_str {te : TE} {f : SE} (h : CE C xo W te f) : CI C xo W (iStr te) (iS f) := fun σ G H env ft R o =>
  h σ G H env ft _ (Out.bind o fun d v G1 H1 _ s r o1 => by
    cases r with
    | str z =>
      refine ⟨z, rfl, o1 _ G1 H1 (Step.refl s.gh) ⟨_, _, by rw [List.length_map, Array.length_toList]; exact walk_str, fun _ _ => True.intro, fun i H x H' G1 hi e1 e2 y => ?_⟩⟩
      obtain ⟨rfl, c, h1, rfl⟩ := y
      refine ⟨G1, _, ?_, Step.refl e2, .str _⟩
      rw [List.getElem?_map, Array.getElem?_toList, h1]
      rfl
    | _ => exact False.elim o1)
theorem ci_r1 {ta : TA} {a : SA} (h : CA C xo W ta a) : CI C xo W (iRng1 ta) (iR1 a) := fun σ G H env ft R o =>
  h σ G H env ft _ (Out.bind o fun ds vs G1 H1 _ s r o1 => by
    cases r with
    | nil => exact False.elim o1
    | cons h r =>
      cases r with
      | cons _ _ => cases h <;> exact False.elim o1
      | nil =>
        cases h with
        | int n =>
          obtain ⟨hz, o1⟩ := out_if (p := n ≤ Z ∧ -Z ≤ n) o1
          have hz1 : n ≤ 100000 := hz.1
          have hz2 : -100000 ≤ n := hz.2
          refine ⟨n, rfl, by omega, by omega, o1 _ G1 H1 (Step.refl s.gh) ⟨_, _, by rw [List.length_map, List.length_range]; exact walk_range, fun _ _ => True.intro, fun i H x H' G1 hi e1 e2 y => ?_⟩⟩
          obtain ⟨rfl, rfl⟩ := y
          rw [List.length_map, List.length_range] at hi
          refine ⟨G1, _, ?_, Step.refl e2, .int _⟩
          rw [List.getElem?_map, List.getElem?_range hi, Int.zero_add]
          rfl
        | _ => exact False.elim o1)
theorem ci_r2 {ta : TA} {a : SA} (h : CA C xo W ta a) : CI C xo W (iRng2 ta) (iR2 a) := fun σ G H env ft R o =>
  h σ G H env ft _ (Out.bind o fun ds vs G1 H1 _ s r o1 => by
    cases r with
    | nil => exact False.elim o1
    | cons h r =>
      cases r with
      | nil => cases h <;> exact False.elim o1
      | cons h2 r =>
        cases r with
        | cons _ _ => cases h <;> cases h2 <;> exact False.elim o1
        | nil =>
          cases h with
          | int m => cases h2 with
            | int n =>
              obtain ⟨hz, o1⟩ := out_if (p := n ≤ Z ∧ -Z ≤ n ∧ m ≤ Z ∧ -Z ≤ m) o1
              have hz1 : n ≤ 100000 := hz.1
              have hz2 : -100000 ≤ n := hz.2.1
              have hz3 : m ≤ 100000 := hz.2.2.1
              have hz4 : -100000 ≤ m := hz.2.2.2
              refine ⟨m, n, rfl, by omega, o1 _ G1 H1 (Step.refl s.gh) ⟨_, _, by rw [List.length_map, List.length_range]; exact walk_range, fun _ _ => True.intro, fun i H x H' G1 hi e1 e2 y => ?_⟩⟩
              obtain ⟨rfl, rfl⟩ := y
              rw [List.length_map, List.length_range] at hi
              refine ⟨G1, _, ?_, Step.refl e2, .int _⟩
              rw [List.getElem?_map, List.getElem?_range hi]
              rfl
            | _ => exact False.elim o1
          | _ => cases h2 <;> exact False.elim o1)
theorem zipD_at : ∀ {xs ys : List D} {i : Nat} {x y : D}, xs[i]? = some x → ys[i]? = some y → (zipD xs ys)[i]? = some (.tup [x, y])
  | [], _, _, _, _, h, _ => by cases h
  | _ :: _, [], _, _, _, _, h => by cases h
  | x :: xs, y :: ys, 0, _, _, h, h2 => by cases h; cases h2; rfl
  | x :: xs, y :: ys, i + 1, _, _, h, h2 => zipD_at (xs := xs) (ys := ys) (i := i) h h2
theorem zipD_length : ∀ {xs ys : List D}, (zipD xs ys).length = min xs.length ys.length
  | [], ys => by unfold zipD; simp
  | _ :: _, [] => by unfold zipD; simp
  | x :: xs, y :: ys => by
    unfold zipD
    rw [List.length_cons, zipD_length, List.length_cons, List.length_cons]
    omega
/-- a new pair of what stands -/
theorem pair_step {T : Addr} {x y : V} {d e : D} {G1 : Hp} (ex : Ex G1 H) (hT : H T = none) (rx : Rep C.K C.w C.ad G1 x d) (ry : Rep C.K C.w C.ad G1 y e) : ∃ G', Step G1 H G' (upd H T (.tup [x, y])) ∧ Rep C.K C.w C.ad G' (.ref T) (.tup [d, e]) := by
  have hn := fresh_back ex hT
  exact ⟨_, Step.new ex hT, .tup (st_of upd_same) (.cons (rx.mono (Ex.new hn)) (.cons (ry.mono (Ex.new hn)) .nil))⟩
theorem srv_pair {J : It} {vs ws : List V} {ds es : List D} {n : Nat} {GP : Hp → Prop} (w : Walk J n GP (YPair (fun i => vs[i]?) (fun i => ws[i]?))) (hn : n = min vs.length ws.length) (r : RepL C.K C.w C.ad G vs ds) (r2 : RepL C.K C.w C.ad G ws es) (hg : ∀ H, Ex G H → GP H) : Srv C J G (zipD ds es) :=
  ⟨GP, _, by rw [zipD_length, ← r.length, ← r2.length, ← hn]; exact w, hg, fun i H x H' G1 hi e1 e2 y => by
    obtain ⟨T, a, b, rfl, hT, rfl, h1, h2⟩ := y
    obtain ⟨d, q1, q2⟩ := r.getV h1
    obtain ⟨e, q3, q4⟩ := r2.getV h2
    obtain ⟨G', s, rr⟩ := pair_step e2 hT (q2.mono e1) (q4.mono e1)
    exact ⟨G', _, zipD_at q1 q3, s, rr⟩⟩
theorem ci_zipL {ta : TA} {a : SA} (h : CA C xo W ta a) : CI C xo W (iZip C.K ta) (iZL a) := fun σ G H env ft R o =>
  h σ G H env ft _ (Out.bind o fun ds vs G1 H1 _ s r o1 => by
    cases r with
    | nil => exact False.elim o1
    | cons h r =>
      cases r with
      | nil => cases h <;> exact False.elim o1
      | cons h2 r =>
        cases r with
        | cons _ _ => cases h <;> cases h2 <;> exact False.elim o1
        | nil =>
          cases h with
          | @lst a vs ds h1 r1 => cases h2 with
            | @lst b ws es h2 r2 =>
              exact ⟨a, b, vs, ws, rfl, sq_of (s.gh _ _ h1), sq_of (s.gh _ _ h2), o1 _ G1 H1 (Step.refl s.gh) (srv_pair (walk_zip rfl) rfl r1 r2 fun H e => ⟨sq_of (e _ _ h1), sq_of (e _ _ h2)⟩)⟩
            | _ => exact False.elim o1
          | _ => cases h2 <;> exact False.elim o1)
theorem walk_zipT {K : PySem.W.Frag} {a b : Addr} {xs ys : List V} {n : Nat} (hn : n = min xs.length ys.length) : Walk (ItzT K a b) n (fun H => SqT K H a xs ∧ SqT K H b ys) (YPair (fun i => xs[i]?) (fun i => ys[i]?)) := by
  subst hn
  refine ⟨fun i _ hi q => ?_, fun _ q => ⟨xs, ys, q.1, q.2, by omega⟩, fun i H v H' _ q y => ?_⟩
  · have h1 : i < xs.length := by omega
    have h2 : i < ys.length := by omega
    exact ⟨xs, ys, xs[i], ys[i], q.1, q.2, by simp [h1], by simp [h2]⟩
  · obtain ⟨T, x, z, h1, h2, h3, h4, h5⟩ := y
    exact ⟨T, x, z, h1, h2, h3, h4 xs q.1, h5 ys q.2⟩
theorem ci_zipT {ta : TA} {a : SA} (h : CA C xo W ta a) : CI C xo W (iZipA C.K ta) (iZT a) := fun σ G H env ft R o =>
  h σ G H env ft _ (Out.bind o fun ds vs G1 H1 _ s r o1 => by
    cases r with
    | nil => exact False.elim o1
    | cons h r =>
      cases r with
      | nil => cases h <;> exact False.elim o1
      | cons h2 r =>
        cases r with
        | cons _ _ => cases h <;> cases h2 <;> exact False.elim o1
        | nil =>
          cases h with
          | @tup a vs ds h1 r1 => cases h2 with
            | @tup b ws es h2 r2 =>
              exact ⟨a, b, vs, ws, rfl, Or.inr ⟨ex_t s.gh h1, ex_t s.gh h2, o1 _ G1 H1 (Step.refl s.gh) (srv_pair (walk_zipT rfl) rfl r1 r2 fun H e => ⟨ex_t e h1, ex_t e h2⟩)⟩⟩
            | _ => exact False.elim o1
          | _ => cases h2 <;> exact False.elim o1)
theorem enumD_at : ∀ {xs : List D} {i n : Nat} {x : D}, xs[i]? = some x → (enumD n xs)[i]? = some (.tup [.int ((n + i : Nat) : Int), x])
  | [], _, _, _, h => by cases h
  | x :: xs, 0, _, _, h => by cases h; rfl
  | x :: xs, i + 1, n, _, h => by
    have q := enumD_at (xs := xs) (i := i) (n := n + 1) h
    rw [show n + (i + 1) = n + 1 + i by omega]
    exact q
theorem enumD_length : ∀ {xs : List D} {n : Nat}, (enumD n xs).length = xs.length
  | [], _ => rfl
  | _ :: xs, n => congrArg (· + 1) (enumD_length (xs := xs) (n := n + 1))
theorem ci_enum {te : TE} {f : SE} (h : CE C xo W te f) : CI C xo W (iEnum C.K (tCons te tNil)) (iEn f) := fun σ G H env ft R o =>
  h σ G H env ft _ (Out.bind o fun d v G1 H1 _ s r o1 => by
    cases r with
    | @lst a vs ds h1 r =>
      refine ⟨a, vs, rfl, sq_of (s.gh _ _ h1), o1 _ G1 H1 (Step.refl s.gh) ⟨_, _, by rw [enumD_length, ← r.length]; exact walk_enum, fun H e => sq_of (e _ _ h1), fun i H x H' G1 hi e1 e2 y => ?_⟩⟩
      obtain ⟨T, p, q, rfl, hT, rfl, h1, h2⟩ := y
      obtain rfl : V.int (i : Nat) = p := Option.some.inj h1
      obtain ⟨d, q1, q2⟩ := r.getV h2
      obtain ⟨G', s, rr⟩ := pair_step (x := .int (i : Nat)) e2 hT (.int _) (q2.mono e1)
      refine ⟨G', _, enumD_at (n := 0) q1, s, ?_⟩
      rw [Nat.zero_add]
      exact rr
    | _ => exact False.elim o1)
end
end Dm
set_option Elab.async false
set_option linter.all false
set_option maxRecDepth 100000
set_option maxHeartbeats 4000000
namespace Dm
open PySem L2 Evl RZ Wm
section
variable {C : Cc} {xo : Xo} {W : WX} {G H G' H' G0 H0 : Hp} {σ : L2.St} {env : Env} {E : XK}
/-! ### environments that change -/
theorem get_set {α : Type} {l : List α} {i j : Nat} {a b : α} (h : (l.set j a)[i]? = some b) : (i = j ∧ j < l.length ∧ b = a) ∨ (i ≠ j ∧ l[i]? = some b) := by
  rw [List.getElem?_set] at h
  by_cases e : j = i
  · rw [if_pos e] at h
    split at h
    · cases h; exact Or.inl ⟨e.symm, by omega, rfl⟩
    · cases h
  · rw [if_neg e] at h
    exact Or.inr ⟨fun z => e z.symm, h⟩
theorem set_at {α : Type} {l : List α} {j : Nat} {a : α} (h : j < l.length) : (l.set j a)[j]? = some a := by rw [List.getElem?_set, if_pos rfl, if_pos h]
theorem set_off {α : Type} {l : List α} {i j : Nat} {a : α} (h : i ≠ j) : (l.set j a)[i]? = l[i]? := by rw [List.getElem?_set, if_neg fun z => h z.symm]
/-- slot j gets what says nothing of other slots -/
theorem Fit0.put {j : Nat} {s : Sl} {o : Option V} (f : Fit0 C xo G0 H0 G H σ env)
    (hv : ∀ d, s = .val d → ∃ v, o = some v ∧ Rep C.K C.w C.ad G v d) (ho : ∀ ds, s ≠ .own ds) (hx : ∀ c fs, s = .exn c fs → o = some (.ref xo.a) ∧ xo.cls = .ref (C.ad c) ∧ XRep C.K C.w C.ad G fs xo.d) : Fit0 C xo G0 H0 G H (σ.set j o) (env.set j s) where
  s := f.s
  f := {
    ex := f.f.ex
    len := by rw [List.length_set, List.length_set]; exact f.f.len
    val := fun i d h => by
      rcases get_set h with ⟨rfl, hl, rfl⟩ | ⟨hn, h⟩
      · obtain ⟨v, rfl, r⟩ := hv _ rfl
        exact ⟨v, set_at (by rw [f.f.len]; exact hl), r⟩
      · rw [set_off hn]
        exact f.f.val i d h
    own := fun i ds h => by
      rcases get_set h with ⟨rfl, hl, rfl⟩ | ⟨hn, h⟩
      · exact absurd rfl (ho ds)
      · rw [set_off hn]
        exact f.f.own i ds h
    sep := fun i k p ds es h1 h2 => by
      rcases get_set h1 with ⟨_, _, rfl⟩ | ⟨hn, h1⟩
      · exact absurd rfl (ho ds)
      rcases get_set h2 with ⟨_, _, rfl⟩ | ⟨hn2, h2⟩
      · exact absurd rfl (ho es)
      rw [set_off hn, set_off hn2]
      exact f.f.sep i k p ds es h1 h2
    exn := fun i c fs h => by
      rcases get_set h with ⟨rfl, hl, rfl⟩ | ⟨hn, h⟩
      · obtain ⟨rfl, h1, h2⟩ := hx c fs rfl
        exact ⟨set_at (by rw [f.f.len]; exact hl), h1, h2⟩
      · rw [set_off hn]
        exact f.f.exn i c fs h }
  new := fun i ds p h => by
    rcases get_set h with ⟨_, _, rfl⟩ | ⟨hn, h⟩
    · exact absurd rfl (ho ds)
    · rw [set_off hn]
      exact f.new i ds p h
theorem Fit0.setV {j : Nat} {v : V} {d : D} (f : Fit0 C xo G0 H0 G H σ env) (r : Rep C.K C.w C.ad G v d) : Fit0 C xo G0 H0 G H (σ.set j (some v)) (env.set j (.val d)) :=
  f.put (fun e h => by cases h; exact ⟨v, rfl, r⟩) (fun _ => nofun) (fun _ _ => nofun)
theorem Fit0.setU {j : Nat} {o : Option V} (f : Fit0 C xo G0 H0 G H σ env) : Fit0 C xo G0 H0 G H (σ.set j o) (env.set j .un) :=
  f.put (fun _ => nofun) (fun _ => nofun) (fun _ _ => nofun)
/-- a list of one's own comes into slot j: new, or the one that was there, changed -/
theorem Fit0.setO {j : Nat} {p : Addr} {vs : List V} {ds : List D} (f : Fit0 C xo G0 H0 G H σ env) (hG : G p = none) (h0 : H0 p = none) (hH : H p = some (.lst vs)) (r : RepL C.K C.w C.ad G vs ds)
    (hs : ∀ (i : Nat) es, i ≠ j → env[i]? = some (.own es) → σ[i]? ≠ some (some (.ref p))) : Fit0 C xo G0 H0 G H (σ.set j (some (.ref p))) (env.set j (.own ds)) where
  s := f.s
  f := {
    ex := f.f.ex
    len := by rw [List.length_set, List.length_set]; exact f.f.len
    val := fun i d h => by
      rcases get_set h with ⟨_, _, e⟩ | ⟨hn, h⟩
      · cases e
      · rw [set_off hn]
        exact f.f.val i d h
    own := fun i es h => by
      rcases get_set h with ⟨rfl, hl, e⟩ | ⟨hn, h⟩
      · cases e
        exact ⟨p, vs, set_at (by rw [f.f.len]; exact hl), hG, hH, r⟩
      · rw [set_off hn]
        exact f.f.own i es h
    sep := fun i k q es us h1 h2 => by
      rcases get_set h1 with ⟨hi, hl, e⟩ | ⟨hn, g1⟩
      · rcases get_set h2 with ⟨hk, _, e2⟩ | ⟨hn2, g2⟩
        · exact fun _ _ => hi.trans hk.symm
        · rw [hi, set_at (by rw [f.f.len]; exact hl), set_off hn2]
          intro a b
          cases a
          exact absurd b (hs k us hn2 g2)
      · rcases get_set h2 with ⟨hk, hl2, e2⟩ | ⟨hn2, g2⟩
        · rw [set_off hn, hk, set_at (by rw [f.f.len]; exact hl2)]
          intro a b
          cases b
          exact absurd a (hs i es hn g1)
        · rw [set_off hn, set_off hn2]
          exact f.f.sep i k q es us g1 g2
    exn := fun i c fs h => by
      rcases get_set h with ⟨_, _, e⟩ | ⟨hn, h⟩
      · cases e
      · rw [set_off hn]
        exact f.f.exn i c fs h }
  new := fun i es q h => by
    rcases get_set h with ⟨rfl, hl, e⟩ | ⟨hn, h⟩
    · rw [set_at (by rw [f.f.len]; exact hl)]
      intro z
      cases z
      exact h0
    · rw [set_off hn]
      exact f.new i es q h
/-- the list of slot j is changed where it stands -/
theorem Fit0.chg {j : Nat} {p : Addr} {vs ws : List V} {ds es : List D} (f : Fit0 C xo G0 H0 G H σ env) (hj : env[j]? = some (.own ds)) (hp : σ[j]? = some (some (.ref p))) (hG : G p = none) (r : RepL C.K C.w C.ad G ws es) :
    Fit0 C xo G0 H0 G (upd H p (.lst ws)) σ (env.set j (.own es)) where
  s := ⟨f.s.g, Ex.mut f.f.ex hG, Ex.mut f.s.h (f.new j ds p hj hp), f.s.out⟩
  f := {
    ex := Ex.mut f.f.ex hG
    len := by rw [List.length_set]; exact f.f.len
    val := fun i d h => by
      rcases get_set h with ⟨_, _, e⟩ | ⟨hn, h⟩
      · cases e
      · exact f.f.val i d h
    own := fun i us h => by
      rcases get_set h with ⟨rfl, hl, e⟩ | ⟨hn, h⟩
      · cases e
        exact ⟨p, ws, hp, hG, upd_same, r⟩
      · obtain ⟨q, zs, h1, h2, h3, h4⟩ := f.f.own i us h
        refine ⟨q, zs, h1, h2, ?_, h4⟩
        rw [upd_ne fun z => hn (f.f.sep i j p us ds h hj (by rw [h1, z]) hp)]
        exact h3
    sep := fun i k q us xs h1 h2 => by
      rcases get_set h1 with ⟨hi, hl, e⟩ | ⟨hn, g1⟩
      · rcases get_set h2 with ⟨hk, _, e2⟩ | ⟨hn2, g2⟩
        · exact fun _ _ => hi.trans hk.symm
        · rw [hi]
          exact f.f.sep j k q _ _ hj g2
      · rcases get_set h2 with ⟨hk, _, e2⟩ | ⟨hn2, g2⟩
        · rw [hk]
          exact f.f.sep i j q _ _ g1 hj
        · exact f.f.sep i k q _ _ g1 g2
    exn := fun i c fs h => by
      rcases get_set h with ⟨_, _, e⟩ | ⟨hn, h⟩
      · cases e
      · exact f.f.exn i c fs h }
  new := fun i us q h => by
    rcases get_set h with ⟨rfl, hl, e⟩ | ⟨hn, h⟩
    · exact f.new i ds q hj
    · exact f.new i us q h
/-- the list of slot j becomes data -/
theorem Fit0.frz {j : Nat} (f : Fit0 C xo G0 H0 G H σ env) : ∃ G', Ex G G' ∧ Fit0 C xo G0 H0 G' H σ (Dm.frz j env) := by
  unfold Dm.frz
  cases c : env[j]? with
  | none => exact ⟨G, Ex.refl G, f⟩
  | some s =>
    cases s with
    | own ds =>
      obtain ⟨p, vs, h1, h2, h3, h4⟩ := f.f.own j ds c
      have e1 : Ex G (upd G p (.lst vs)) := Ex.new h2
      have e2 : Ex (upd G p (.lst vs)) H := fun a o h => by
        by_cases z : a = p
        · subst z; rw [upd_same] at h; rw [h3]; exact h
        · rw [upd_ne z] at h; exact f.f.ex a o h
      refine ⟨_, e1, ?_⟩
      have s1 : Step G0 H0 (upd G p (.lst vs)) H := ⟨f.s.g.trans e1, e2, f.s.h, fun q hq hn => by
        rw [upd_ne fun z => hn (by rw [z]; exact f.new j ds p c h1)]
        exact f.s.out q hq hn⟩
      refine ⟨⟨e2, by rw [List.length_set]; exact f.f.len, fun i d h => ?_, fun i es h => ?_, fun i k q es us k1 k2 => ?_, fun i c2 fs h => ?_⟩, s1, fun i es q h => ?_⟩
      · rcases get_set h with ⟨rfl, hl, e⟩ | ⟨hn, h⟩
        · cases e
          exact ⟨.ref p, h1, .lst upd_same (h4.mono e1)⟩
        · obtain ⟨v, a, b⟩ := f.f.val i d h
          exact ⟨v, a, b.mono e1⟩
      · rcases get_set h with ⟨rfl, hl, e⟩ | ⟨hn, h⟩
        · cases e
        · obtain ⟨q, ws, k1, k2, k3, k4⟩ := f.f.own i es h
          refine ⟨q, ws, k1, ?_, k3, k4.mono e1⟩
          rw [upd_ne fun z => hn (f.f.sep i j p es ds h c (by rw [k1, z]) h1)]
          exact k2
      · rcases get_set k1 with ⟨_, _, e⟩ | ⟨hn, k1⟩
        · cases e
        rcases get_set k2 with ⟨_, _, e⟩ | ⟨hn2, k2⟩
        · cases e
        exact f.f.sep i k q es us k1 k2
      · rcases get_set h with ⟨_, _, e⟩ | ⟨hn, h⟩
        · cases e
        · obtain ⟨a, b, d⟩ := f.f.exn i c2 fs h
          exact ⟨a, b, d.mono e1⟩
      · rcases get_set h with ⟨_, _, e⟩ | ⟨hn, h⟩
        · cases e
        · exact f.new i es q h
    | un => exact ⟨G, Ex.refl G, f⟩
    | val _ => exact ⟨G, Ex.refl G, f⟩
    | exn _ _ => exact ⟨G, Ex.refl G, f⟩
/-- nothing is asked of the ground ahead -/
theorem Fit.zero (f : Fit C xo G H σ env) : Fit0 C xo (fun _ => none) (fun _ => none) G H σ env := ⟨f, ⟨fun _ _ h => (by cases h), f.ex, fun _ _ h => (by cases h), fun _ _ h => absurd rfl h⟩, fun _ _ _ _ _ => rfl⟩
/-! ### targets -/
def CG (C : Cc) (xo : Xo) (g : TG) (js : List Nat) (f : SG) : Prop := ∀ G0 H0 σ G H env, Fit0 C xo G0 H0 G H σ env → ∀ v d env2, Rep C.K C.w C.ad G v d → f d env = some env2 → ∀ Q : L2.St → Hp → Prop,
  (∀ σ', σ'.length = σ.length → (∀ i, i ∉ js → σ'[i]? = σ[i]?) → Fit0 C xo G0 H0 G H σ' env2 → Q σ' H) → g v σ H Q
def CGs (C : Cc) (xo : Xo) (g : TGs) (js : List Nat) (f : SGs) : Prop := ∀ G0 H0 σ G H env, Fit0 C xo G0 H0 G H σ env → ∀ vs ds env2, RepL C.K C.w C.ad G vs ds → f ds env = some env2 → ∀ Q : L2.St → Hp → Prop,
  (∀ σ', σ'.length = σ.length → (∀ i, i ∉ js → σ'[i]? = σ[i]?) → Fit0 C xo G0 H0 G H σ' env2 → Q σ' H) → g vs σ H Q
theorem cg_name {i : Nat} : CG C xo (gName i) [i] (gN i) := fun G0 H0 σ G H env f v d env2 r h Q q => by
  cases h
  exact q _ (List.length_set ..) (fun k hk => set_off fun z => hk (by rw [z]; exact List.mem_singleton.mpr rfl)) (f.setV r)
theorem cgs_nil : CGs C xo gNil [] gE := fun G0 H0 σ G H env f vs ds env2 r h Q q => by
  cases r with
  | nil => cases h; exact ⟨rfl, q σ rfl (fun _ _ => rfl) f⟩
  | cons _ _ => cases h
theorem cgs_cons {g : TG} {gs : TGs} {js ks : List Nat} {f : SG} {fs : SGs} (h1 : CG C xo g js f) (h2 : CGs C xo gs ks fs) : CGs C xo (gCons g gs) (js ++ ks) (gC f fs) := fun G0 H0 σ G H env ft vs ds env2 r h Q q => by
  cases r with
  | nil => cases h
  | @cons v d vs ds hv r =>
    unfold gC at h
    dsimp only at h
    cases c : f d env with
    | none => rw [c] at h; cases h
    | some env1 =>
      rw [c] at h
      refine ⟨v, vs, rfl, h1 G0 H0 σ G H env ft v d env1 hv c _ fun σ1 l1 k1 f1 => ?_⟩
      exact h2 G0 H0 σ1 G H env1 f1 vs ds env2 r h Q fun σ2 l2 k2 f2 => q σ2 (l2.trans l1) (fun i hi => (k2 i fun z => hi (List.mem_append_right _ z)).trans (k1 i fun z => hi (List.mem_append_left _ z))) f2
theorem cg_tup {gs : TGs} {js : List Nat} {fs : SGs} {n : Nat} (h : CGs C xo gs js fs) : CG C xo (gTup C.K n gs) js (gT n fs) := fun G0 H0 σ G H env ft v d env2 r q Q k => by
  have fin : ∀ {a : Addr} {vs : List V} {ds : List D}, SqT C.K G a vs → RepL C.K C.w C.ad G vs ds → (if ds.length = n then fs ds env else none) = some env2 → gTup C.K n gs (.ref a) σ H Q := fun {a vs ds} hs r q => by
    by_cases hn : ds.length = n
    · rw [if_pos hn] at q
      exact ⟨a, vs, rfl, ex_t ft.ex hs, r.length.trans hn, h G0 H0 σ G H env ft vs ds env2 r q Q k⟩
    · rw [if_neg hn] at q; cases q
  cases r with
  | tup hs r => exact fin hs r q
  | ktp hs _ r => exact fin hs r q
  | _ => cases q
/-! ### statements -/
def OutS (C : Cc) (xo : Xo) (W : WX) (G0 H0 G : Hp) (D : Ends) : RS → Prop
  | .nx env => ∀ σ G' H', Ex G G' → Fit0 C xo G0 H0 G' H' σ env → D.nx σ H'
  | .rt (.val d) => ∀ v G' H', Step G0 H0 G' H' → Rep C.K C.w C.ad G' v d → D.rt v H'
  | .rt (.own ds) => ∀ v G' H', Step G0 H0 G' H' → rF C H0 G' H' v ds → D.rt v H'
  | .rt _ => False
  | .bk env => ∀ σ G' H', Ex G G' → Fit0 C xo G0 H0 G' H' σ env → D.bk σ H'
  | .ct env => ∀ σ G' H', Ex G G' → Fit0 C xo G0 H0 G' H' σ env → D.ct σ H'
  | .exc c fs env => ∀ dd σ G' H', Ex G G' → Fit0 C xo G0 H0 G' H' σ env → XRep C.K C.w C.ad G' fs dd → W (.ref (C.ad c)) dd σ H'
  | .bad => False
theorem OutS.mono {D : Ends} {r : RS} (e : Ex G G') (h : OutS C xo W G0 H0 G D r) : OutS C xo W G0 H0 G' D r := by
  cases r with
  | nx env => exact fun σ G2 H2 e2 => h σ G2 H2 (e.trans e2)
  | rt s => cases s <;> exact h
  | bk env => exact fun σ G2 H2 e2 => h σ G2 H2 (e.trans e2)
  | ct env => exact fun σ G2 H2 e2 => h σ G2 H2 (e.trans e2)
  | exc c fs env => exact fun dd σ G2 H2 e2 => h dd σ G2 H2 (e.trans e2)
  | bad => exact h
/-- as a wish for the rest -/
theorem OutS.of {D D' : Ends} {r : RS} (h : OutS C xo W G0 H0 G D r) (h1 : ∀ env, r = .nx env → OutS C xo W G0 H0 G D' (.nx env)) (h2 : ∀ env, r = .bk env → OutS C xo W G0 H0 G D' (.bk env)) (h3 : ∀ env, r = .ct env → OutS C xo W G0 H0 G D' (.ct env))
    (h4 : D'.rt = D.rt) : OutS C xo W G0 H0 G D' r := by
  cases r with
  | nx env => exact h1 env rfl
  | rt s =>
    cases s with
    | val d => intro v G1 H1 s1 r1; rw [h4]; exact h v G1 H1 s1 r1
    | own d => intro v G1 H1 s1 r1; rw [h4]; exact h v G1 H1 s1 r1
    | un => exact h
    | exn _ _ => exact h
  | bk env => exact h2 env rfl
  | ct env => exact h3 env rfl
  | exc c fs env => exact h
  | bad => exact h
def CS (C : Cc) (xo : Xo) (W : WX) (t : TS) (s : SS) : Prop := ∀ G0 H0 σ G H env, Fit0 C xo G0 H0 G H σ env → ∀ D, OutS C xo W G0 H0 G D (s env) → t D σ H
theorem ofE_out {α β : Type} {rep : Hp → Hp → β → α → Prop} {r : R α} {k : α → RS} {D : Ends} {Q : β → Hp → Prop} (f : Fit0 C xo G0 H0 G H σ env) (o : OutS C xo W G0 H0 G D (ofE r env k))
    (q : ∀ d v G' H', Step G H G' H' → rep G' H' v d → Fit0 C xo G0 H0 G' H' σ env → OutS C xo W G0 H0 G' D (k d) → Q v H') : Out C rep (WE W σ) G H Q r := by
  cases r with
  | ok d => exact fun v G' H' s r => q d v G' H' s r (f.step s) (OutS.mono s.g o)
  | exc c fs => exact fun dd G' H' s x => o dd σ G' H' s.g (f.step s) x
  | bad => exact o
theorem cs_nx : CS C xo W tNext sNx := fun G0 H0 σ G H env f D o => o σ G H (Ex.refl G) f
theorem cs_seq {t u : TS} {a b : SS} (h1 : CS C xo W t a) (h2 : CS C xo W u b) : CS C xo W (tSeq t u) (sSeq a b) := fun G0 H0 σ G H env f D o => by
  refine h1 G0 H0 σ G H env f _ ?_
  unfold sSeq at o
  cases c : a env with
  | nx env2 => rw [c] at o; exact fun σ' G' H' e f' => h2 G0 H0 σ' G' H' env2 f' D (OutS.mono e o)
  | rt s => rw [c] at o; cases s <;> exact o
  | bk env => rw [c] at o; exact o
  | ct env => rw [c] at o; exact o
  | exc k fs env => rw [c] at o; exact o
  | bad => rw [c] at o; exact o
theorem cs_frz {t : TS} {s : SS} (i : Nat) (h : CS C xo W t s) : CS C xo W t (sFrz i s) := fun G0 H0 σ G H env f D o => by
  obtain ⟨G', e, f'⟩ := f.frz (j := i)
  exact h G0 H0 σ G' H _ f' D (OutS.mono e o)
theorem cs_g {te : TE} {g : TG} {js : List Nat} {a : SE} {gs : SG} (h : CE C xo W te a) (hg : CG C xo g js gs) : CS C xo W (tAsg te g) (sG a gs) := fun G0 H0 σ G H env f D o =>
  h σ G H env f.f _ (ofE_out f o fun d v G1 H1 s r f1 o1 => by
    unfold ofG at o1
    cases c : gs d env with
    | none => rw [c] at o1; exact o1.elim
    | some env2 =>
      rw [c] at o1
      exact hg G0 H0 σ G1 H1 env f1 v d env2 r c _ fun σ2 _ _ f2 => o1 σ2 G1 H1 (Ex.refl _) f2)
theorem cs_a {te : TE} {i : Nat} {a : SE} (h : CE C xo W te a) : CS C xo W (tAsg te (gName i)) (sA i a) := fun G0 H0 σ G H env f D o =>
  h σ G H env f.f _ (ofE_out f o fun d v G1 H1 s r f1 o1 => o1 _ G1 H1 (Ex.refl _) (f1.setV r))
theorem cs_o {te : TE} {i : Nat} {a : SA} (h : CN C xo W te a) : CS C xo W (tAsg te (gName i)) (sO i a) := fun G0 H0 σ G H env f D o =>
  h σ G H env f.f _ (ofE_out f o fun ds v G1 H1 s r f1 o1 => by
    obtain ⟨⟨p, vs, rfl, h1, h2, h3⟩, h4⟩ := r
    refine o1 _ G1 H1 (Ex.refl _) (f1.setO h1 (fresh_back f.s.h (h4 p rfl)) h2 h3 fun k es hk hke hs => ?_)
    obtain ⟨q, ws, k1, k2, k3, _⟩ := f.f.own k es hke
    rw [hs] at k1
    cases k1
    rw [h4 p rfl] at k3
    cases k3)
theorem cs_app {ta te : TE} {i : Nat} {a : SE} (hv : ta = tVar i) (h : CE C xo W te a) : CS C xo W (tDrop (tBM C.K "list" rAppend ta (tCons te tNil))) (sApp i a) := fun G0 H0 σ G H env f D o => by
  subst hv
  unfold sApp at o
  cases c : env[i]? with
  | none => rw [c] at o; exact o.elim
  | some s =>
    rw [c] at o
    cases s with
    | own xs =>
      obtain ⟨p, vs, h1, h2, h3, h4⟩ := f.f.own i xs c
      refine ⟨.ref p, h1, Or.inl ⟨rfl, vs, sq_of h3⟩, h σ G H env f.f _ (ofE_out f o fun d v G1 H1 s1 r f1 o1 => ?_)⟩
      by_cases hz : xs.length < Z
      · rw [if_pos hz] at o1
        exact ⟨p, vs, v, rfl, rfl, s1.h _ _ h3, sz_lt (by rw [h4.length]; exact hz), o1 σ G1 _ (Ex.refl _) (f1.chg (vs := vs) c h1 (s1.out p h2 (by rw [h3]; exact nofun)) ((h4.mono s1.g).append (.cons r .nil)))⟩
      · rw [if_neg hz] at o1; exact o1.elim
    | un => exact o.elim
    | val _ => exact o.elim
    | exn _ _ => exact o.elim
theorem cs_ext {ta te : TE} {i : Nat} {a : SE} (hv : ta = tVar i) (h : CE C xo W te a) : CS C xo W (tDrop (tBM C.K "list" rExtend ta (tCons te tNil))) (sExt i a) := fun G0 H0 σ G H env f D o => by
  subst hv
  unfold sExt at o
  cases c : env[i]? with
  | none => rw [c] at o; exact o.elim
  | some s =>
    rw [c] at o
    cases s with
    | own xs =>
      obtain ⟨p, vs, h1, h2, h3, h4⟩ := f.f.own i xs c
      refine ⟨.ref p, h1, Or.inl ⟨rfl, vs, sq_of h3⟩, h σ G H env f.f _ (ofE_out f o fun d v G1 H1 s1 r f1 o1 => ?_)⟩
      cases r with
      | @lst b ws es hb r =>
        dsimp only at o1
        by_cases hz : xs.length + es.length ≤ Z
        · rw [if_pos hz] at o1
          exact ⟨p, b, vs, ws, rfl, rfl, s1.h _ _ h3, s1.gh _ _ hb, sz_of (by rw [h4.length, r.length]; exact hz), o1 σ G1 _ (Ex.refl _) (f1.chg (vs := vs) c h1 (s1.out p h2 (by rw [h3]; exact nofun)) ((h4.mono s1.g).append r))⟩
        · rw [if_neg hz] at o1; exact o1.elim
      | _ => exact o1.elim
    | un => exact o.elim
    | val _ => exact o.elim
    | exn _ _ => exact o.elim
theorem cs_pop {ta : TE} {i : Nat} (hv : ta = tVar i) : CS C xo W (tDrop (tBM0 C.K "list" rPop ta)) (sPop i) := fun G0 H0 σ G H env f D o => by
  subst hv
  unfold sPop at o
  cases c : env[i]? with
  | none => rw [c] at o; exact o.elim
  | some s =>
    rw [c] at o
    cases s with
    | own xs =>
      obtain ⟨p, vs, h1, h2, h3, h4⟩ := f.f.own i xs c
      dsimp only at o
      by_cases hz : xs = []
      · rw [if_pos hz] at o; exact o.elim
      · rw [if_neg hz] at o
        have hl : 0 < xs.length := List.length_pos_iff.mpr hz
        obtain ⟨u, hu, _⟩ := h4.get (i := vs.length - 1) (List.getElem?_eq_getElem (by rw [h4.length]; omega))
        exact ⟨.ref p, h1, Or.inl ⟨rfl, vs, sq_of h3⟩, p, vs, u, rfl, rfl, h3, hu, o σ G _ (Ex.refl _) (f.chg (vs := vs) c h1 h2 h4.dropLast)⟩
    | un => exact o.elim
    | val _ => exact o.elim
    | exn _ _ => exact o.elim
theorem cs_set {to ti te : TE} {i : Nat} {k a : SE} (hv : to = tVar i) (hk : CE C xo W ti k) (h : CE C xo W te a) : CS C xo W (tAsg te (gSub to ti rSetL)) (sSet i k a) := fun G0 H0 σ G H env f D o => by
  subst hv
  unfold sSet at o
  cases c : env[i]? with
  | none => rw [c] at o; exact o.elim
  | some s =>
    rw [c] at o
    cases s with
    | own xs =>
      obtain ⟨p, vs, h1, h2, h3, h4⟩ := f.f.own i xs c
      refine h σ G H env f.f _ (ofE_out f o fun d v G1 H1 s1 r f1 o1 => ⟨.ref p, h1, hk σ G1 H1 env f1.f _ (ofE_out f1 o1 fun j u G2 H2 s2 r2 f2 o2 => ?_)⟩)
      cases r2 with
      | int j =>
        dsimp only at o2
        cases cn : ixN xs.length j with
        | none => rw [cn] at o2; exact o2.elim
        | some n =>
          rw [cn] at o2
          have hp1 := s1.out p h2 (by rw [h3]; exact nofun)
          have hp3 := s1.h _ _ h3
          refine ⟨p, vs, j, n, rfl, rfl, s2.h _ _ hp3, by rw [h4.length]; exact cn, ?_⟩
          exact o2 σ G2 _ (Ex.refl _) (f2.chg (vs := vs) c h1 (s2.out p hp1 (by rw [hp3]; exact nofun)) ((h4.mono (s1.g.trans s2.g)).set (r.mono s2.g) n))
      | _ => exact o2.elim
    | un => exact o.elim
    | val _ => exact o.elim
    | exn _ _ => exact o.elim
theorem cs_aug {te : TE} {i : Nat} {r : R2} {op : D → D → R D} {a : SE} (ho : OpD C r op) (h : CE C xo W te a) : CS C xo W (tAug i te r) (sAug i op a) := fun G0 H0 σ G H env f D o => by
  unfold sAug at o
  cases c : env[i]? with
  | none => rw [c] at o; exact o.elim
  | some s =>
    rw [c] at o
    cases s with
    | val x =>
      obtain ⟨u, h1, h2⟩ := f.f.val i x c
      exact ⟨u, h1, h σ G H env f.f _ (ofE_out f o fun d v G1 H1 s1 r f1 o1 => ho G1 H1 u v x d s1.gh (h2.mono s1.g) r (WE W σ) _ (ofE_out f1 o1 fun z w G2 H2 s2 r2 f2 o2 => o2 _ G2 H2 (Ex.refl _) (f2.setV r2)))⟩
    | un => exact o.elim
    | own _ => exact o.elim
    | exn _ _ => exact o.elim
theorem cs_x {te : TE} {a : SE} (h : CE C xo W te a) : CS C xo W (tDrop te) (sX a) := fun G0 H0 σ G H env f D o =>
  h σ G H env f.f _ (ofE_out f o fun d v G1 H1 s r f1 o1 => o1 σ G1 H1 (Ex.refl _) f1)
theorem cs_if {c : TT} {t u : TS} {k : ST} {a b : SS} (h : CT C xo W c k) (h1 : CS C xo W t a) (h2 : CS C xo W u b) : CS C xo W (tIfS c t u) (sIf k a b) := fun G0 H0 σ G H env f D o =>
  h σ G H env f.f _ (ofE_out f o fun d v G1 H1 s r f1 o1 => by
    subst r
    cases v with
    | true => exact h1 G0 H0 σ G1 H1 env f1 D o1
    | false => exact h2 G0 H0 σ G1 H1 env f1 D o1)
theorem cs_ret {te : TE} {a : SE} (h : CE C xo W te a) : CS C xo W (tRet te) (sRet a) := fun G0 H0 σ G H env f D o =>
  h σ G H env f.f _ (ofE_out f o fun d v G1 H1 s r f1 o1 => o1 v G1 H1 f1.s r)
theorem cs_retL {te : TE} {a : SA} (h : CN C xo W te a) : CS C xo W (tRet te) (sRetL a) := fun G0 H0 σ G H env f D o =>
  h σ G H env f.f _ (ofE_out f o fun d v G1 H1 s r f1 o1 => o1 v G1 H1 f1.s ⟨r.1, fun p hp => fresh_back f.s.h (r.2 p hp)⟩)
theorem cs_retO {te : TE} {i : Nat} (hv : te = tVar i) : CS C xo W (tRet te) (sRetO i) := fun G0 H0 σ G H env f D o => by
  subst hv
  unfold sRetO at o
  cases c : env[i]? with
  | none => rw [c] at o; exact o.elim
  | some s =>
    rw [c] at o
    cases s with
    | own xs =>
      obtain ⟨p, vs, h1, h2, h3, h4⟩ := f.f.own i xs c
      exact ⟨.ref p, h1, o (.ref p) G H f.s ⟨⟨p, vs, rfl, h2, h3, h4⟩, fun q hq => by cases hq; exact f.new i xs p c h1⟩⟩
    | un => exact o.elim
    | val _ => exact o.elim
    | exn _ _ => exact o.elim
theorem cs_retN : CS C xo W tRetN sRetN := fun G0 H0 σ G H env f D o => o .non G H f.s .non
theorem cs_br : CS C xo W tBreak sBr := fun G0 H0 σ G H env f D o => o σ G H (Ex.refl G) f
theorem cs_ct : CS C xo W tCont sCt := fun G0 H0 σ G H env f D o => o σ G H (Ex.refl G) f
theorem cs_never : CS C xo W tNever sNever := fun G0 H0 σ G H env f D o => o
theorem cs_wh {c : TT} {t : TS} {k : ST} {b : SS} (n : Nat) (h : CT C xo W c k) (h1 : CS C xo W t b) : CS C xo W (tWhile c t) (sWh n k b) := fun G0 H0 σ G H env f D o => by
  refine ⟨fun m σ H => ∃ env G, Fit0 C xo G0 H0 G H σ env ∧ OutS C xo W G0 H0 G D (whGo k b m env), ⟨n, env, G, f, o⟩, ?_⟩
  rintro m σ H ⟨env, G, f, o⟩
  cases m with
  | zero => exact o.elim
  | succ m =>
    refine h σ G H env f.f _ (ofE_out f o fun d v G1 H1 s r f1 o1 => ?_)
    subst r
    cases v with
    | false => exact o1 σ G1 H1 (Ex.refl _) f1
    | true =>
      rw [if_pos rfl] at o1 ⊢
      refine ⟨fun σ H => ∃ env G, Fit0 C xo G0 H0 G H σ env ∧ OutS C xo W G0 H0 G D (whGo k b m env), fun σ' H' q => ⟨m, Nat.lt_succ_self m, q⟩, ?_⟩
      refine h1 G0 H0 σ G1 H1 env f1 _ ?_
      cases c2 : b env with
      | nx e3 => rw [c2] at o1; exact fun σ' G' H' e f' => ⟨e3, G', f', OutS.mono e o1⟩
      | ct e3 => rw [c2] at o1; exact fun σ' G' H' e f' => ⟨e3, G', f', OutS.mono e o1⟩
      | bk e3 => rw [c2] at o1; exact o1
      | rt s => rw [c2] at o1; cases s <;> exact o1
      | exc q fs e3 => rw [c2] at o1; exact o1
      | bad => rw [c2] at o1; exact o1
theorem cs_for {wi : TI} {g : TG} {js : List Nat} {t : TS} {it : SA} {gs : SG} {b : SS} (hi : CI C xo W wi it) (hg : CG C xo g js gs) (h1 : CS C xo W t b) : CS C xo W (tFor wi g t) (sFor it gs b) := fun G0 H0 σ G H env f D o =>
  hi σ G H env f.f _ (ofE_out f o fun ds J G1 H1 s r f1 o1 => by
    obtain ⟨GP, Y, w, hgp, hy⟩ := r
    refine for_it w (fun i σ H => ∃ env G, Ex G1 G ∧ Fit0 C xo G0 H0 G H σ env ∧ OutS C xo W G0 H0 G D (forGo gs b (ds.drop i) env)) ⟨env, G1, Ex.refl _, f1, o1⟩ ?_ ?_ ?_
    · rintro i σ H _ ⟨env, G, e, f, _⟩
      exact hgp H (e.trans f.ex)
    · rintro i x σ H H' hlt ⟨env, G, e, f, o⟩ y
      obtain ⟨G', d, hd, s2, rd⟩ := hy i H x H' G hlt e f.ex y
      have hdr : ds.drop i = d :: ds.drop (i + 1) := by
        rw [List.getElem?_eq_getElem hlt] at hd
        rw [List.drop_eq_getElem_cons hlt, Option.some.inj hd]
      rw [hdr] at o
      have o := OutS.mono s2.g o
      have f := f.step s2
      unfold forGo ofG at o
      cases c : gs d env with
      | none => rw [c] at o; exact o.elim
      | some env2 =>
        rw [c] at o
        refine hg G0 H0 σ G' H' env f x d env2 rd c _ fun σ2 _ _ f2 => h1 G0 H0 σ2 G' H' env2 f2 _ ?_
        dsimp only at o
        cases c2 : b env2 with
        | nx e3 => rw [c2] at o; exact fun σ3 G3 H3 e3' f3 => ⟨e3, G3, (e.trans s2.g).trans e3', f3, OutS.mono e3' o⟩
        | ct e3 => rw [c2] at o; exact fun σ3 G3 H3 e3' f3 => ⟨e3, G3, (e.trans s2.g).trans e3', f3, OutS.mono e3' o⟩
        | bk e3 => rw [c2] at o; exact o
        | rt s => rw [c2] at o; cases s <;> exact o
        | exc q fs e3 => rw [c2] at o; exact o
        | bad => rw [c2] at o; exact o
    · rintro σ H ⟨env, G, e, f, o⟩
      rw [List.drop_length] at o
      exact o σ G H (Ex.refl _) f)
end
end Dm
set_option Elab.async false
set_option linter.all false
set_option maxRecDepth 100000
set_option maxHeartbeats 4000000
namespace Dm
open PySem L2 Evl RZ Wm
abbrev W0 : WX := fun _ _ _ _ => False
section
variable {C : Cc} {xo : Xo} {W : WX} {G H G' H' G0 H0 : Hp} {σ : L2.St} {env : Env} {E : XK}
/-! comprehensions -/
theorem wipe_get (σ : L2.St) : ∀ (vs : List Nat) (i : Nat), (wipe σ vs)[i]? = if i ∈ vs ∧ i < σ.length then some none else σ[i]?
  | [], i => by
    unfold wipe
    rw [if_neg fun z => by cases z.1]
  | v :: vs, i => by
    unfold wipe
    have hl : (wipe σ vs).length = σ.length := wipe_length σ vs
    rw [List.getElem?_set, wipe_get σ vs i, hl]
    by_cases h : v = i
    · subst h
      rw [if_pos rfl]
      by_cases hi : v < σ.length
      · rw [if_pos hi, if_pos ⟨List.mem_cons_self, hi⟩]
      · rw [if_neg hi, if_neg fun z => hi z.2, List.getElem?_eq_none (Nat.le_of_not_lt hi)]
    · rw [if_neg h]
      by_cases hi : i ∈ vs ∧ i < σ.length
      · rw [if_pos hi, if_pos ⟨List.mem_cons_of_mem _ hi.1, hi.2⟩]
      · rw [if_neg hi, if_neg fun z => hi ⟨(List.mem_cons.mp z.1).resolve_left fun q => h q.symm, z.2⟩]
theorem Fit.wipe (f : Fit C xo G H σ env) : ∀ vs, Fit C xo G H (wipe σ vs) (wipeS env vs)
  | [] => f
  | v :: vs => ((Fit.wipe f vs).zero.setU (j := v) (o := none)).f
theorem wipe_same {σ2 : L2.St} {vs js : List Nat} (hl : σ2.length = (wipe σ vs).length) (hk : ∀ i, i ∉ js → σ2[i]? = (wipe σ vs)[i]?) (hj : ∀ i, i ∈ js → i ∈ vs) : wipe σ2 vs = wipe σ vs := by
  apply List.ext_getElem?
  intro i
  have hl2 : σ2.length = σ.length := hl.trans (wipe_length σ vs)
  rw [wipe_get, wipe_get, hl2]
  by_cases h : i ∈ vs ∧ i < σ.length
  · rw [if_pos h, if_pos h]
  · rw [if_neg h, if_neg h]
    by_cases hi : i ∈ js
    · have hge : σ.length ≤ i := Nat.le_of_not_lt fun z => h ⟨hj i hi, z⟩
      rw [List.getElem?_eq_none (by omega), List.getElem?_eq_none hge]
    · rw [hk i hi, wipe_get, if_neg h]
theorem noX_ok {α β γ δ : Type} {rep : Hp → Hp → β → α → Prop} {rep2 : Hp → Hp → δ → γ → Prop} {r : R α} {k : α → R γ} {Q : β → Hp → Prop} {Q2 : δ → Hp → Prop} {E2 : XK} {Gb Hb : Hp} (h : Out C rep2 E2 Gb Hb Q2 ((noX r).bind k))
    (q : ∀ d v G' H', r = .ok d → Step G H G' H' → rep G' H' v d → Out C rep2 E2 Gb Hb Q2 (k d) → Q v H') : Out C rep E G H Q r := by
  cases r with
  | ok d => exact fun v G' H' s r2 => q d v G' H' rfl s r2 h
  | exc c fs => exact h.elim
  | bad => exact h
theorem Out.base {α β : Type} {rep : Hp → Hp → β → α → Prop} {r : R α} {Q : β → Hp → Prop} (e : Ex G G') (k : ∀ p, G p = none → H p ≠ none → G' p = none) (h : Out C rep E G H Q r) : Out C rep E G' H Q r := by
  have z : ∀ {G2 H2}, Step G' H G2 H2 → Step G H G2 H2 := fun s => ⟨e.trans s.g, s.gh, s.h, fun p h1 h2 => s.out p (k p h1 h2) h2⟩
  cases r with
  | ok d => exact fun v G2 H2 s r2 => h v G2 H2 (z s) r2
  | exc c fs => exact fun dd G2 H2 s x => h dd G2 H2 (z s) x
  | bad => exact h
theorem cn_lc {wi : TI} {g : TG} {js vs : List Nat} {tt : TT} {te : TE} {it : SA} {gs : SG} {t : ST} {e : SE} (hi : CI C xo W wi it) (hg : CG C xo g js gs) (hj : ∀ i, i ∈ js → i ∈ vs) (ht : CT C xo W0 tt t) (he : CE C xo W0 te e) :
    CN C xo W (tLc wi g tt te vs) (lLc it gs t e vs) := fun σ G H env f Q o =>
  hi σ G H env f _ (Out.bind o fun ds J G1 H1 _ s r o1 => by
    obtain ⟨hz, o1⟩ := out_if o1
    obtain ⟨GP, Y, w, hgp, hy⟩ := r
    intro Dl hDl
    have f1 := (f.step s).wipe vs
    have hDH := fresh_back s.h hDl
    refine lc_it w (fun i H2 => ∃ G ws acc, Ex G1 G ∧ Step G1 H1 G H2 ∧ G Dl = none ∧ H2 Dl = some (.lst ws) ∧ ws.length ≤ i ∧ RepL C.K C.w C.ad G ws acc ∧
      Out C (rF C H) (WE W σ) G H1 Q (lcGo gs t e (wipeS env vs) (ds.drop i) acc)) ?_ ?_ ?_ ?_
    · exact ⟨G1, [], [], Ex.refl _, Step.ofH s.gh (Ex.new hDl), fresh_back s.gh hDl, upd_same, Nat.le_refl _, .nil, o1⟩
    · rintro i H _ ⟨G, ws, acc, e1, s1, _⟩
      exact hgp H (e1.trans s1.gh)
    · rintro i x H2 H' hlt ⟨G, ws, acc, e1, s1, hG, hH, hw, rl, o⟩ y
      obtain ⟨G', d, hd, s2, rd⟩ := hy i H2 x H' G hlt e1 s1.gh y
      have hdr : ds.drop i = d :: ds.drop (i + 1) := by
        rw [List.getElem?_eq_getElem hlt] at hd
        rw [List.drop_eq_getElem_cons hlt, Option.some.inj hd]
      rw [hdr] at o
      have up : ∀ {Ga Gc Ha Hc : Hp}, Step G1 H1 Ga Ha → Step Ga Ha Gc Hc → ∀ p, Ga p = none → H1 p ≠ none → Gc p = none := fun a b p h1 h2 => b.out p h1 fun z => by
        cases q : H1 p with
        | none => exact h2 q
        | some o => rw [a.h p o q] at z; cases z
      have o := Out.base s2.g (up s1 s2) o
      have s12 := s1.trans s2
      have f2 := f1.step s12
      unfold lcGo at o
      cases c : gs d (wipeS env vs) with
      | none => rw [c] at o; exact o.elim
      | some env2 =>
        rw [c] at o
        dsimp only at o
        refine hg _ _ _ G' H' _ f2.zero x d env2 rd c _ fun σ2 l2 k2 f3 => ⟨wipe_same l2 k2 hj, ?_⟩
        have hG2 := s2.out Dl hG (by rw [hH]; exact nofun)
        have hH2 := s2.h _ _ hH
        refine ht σ2 G' H' env2 f3.f _ (noX_ok o fun k v G3 H3 _ s3 r3 o3 => ?_)
        subst r3
        have o3 := Out.base s3.g (up s12 s3) o3
        have s13 := s12.trans s3
        have hG3 := s3.out Dl hG2 (by rw [hH2]; exact nofun)
        have hH3 := s3.h _ _ hH2
        cases v with
        | false => exact ⟨G3, ws, acc, (e1.trans s2.g).trans s3.g, s13, hG3, hH3, Nat.le_succ_of_le hw, rl.mono (s2.g.trans s3.g), o3⟩
        | true =>
          rw [if_pos rfl]
          refine he σ2 G3 H3 env2 (f3.f.step s3) _ (noX_ok o3 fun z u G4 H4 _ s4 r4 o4 => ?_)
          have o4 := Out.base s4.g (up s13 s4) o4
          have hG4 := s4.out Dl hG3 (by rw [hH3]; exact nofun)
          have hH4 := s4.h _ _ hH3
          have s5 := s13.trans s4
          exact ⟨ws, hH4, sz_lt (by omega), G4, ws ++ [u], acc ++ [z], ((e1.trans s2.g).trans s3.g).trans s4.g, ⟨s5.g, Ex.mut s5.gh hG4, Ex.mut s5.h hDl, s5.out⟩, hG4, upd_same, by rw [List.length_append]; exact Nat.succ_le_succ hw, (rl.mono ((s2.g.trans s3.g).trans s4.g)).append (.cons r4 .nil), o4⟩
    · rintro H2 ⟨G, ws, acc, e1, s1, hG, hH, hw, rl, o⟩
      rw [List.drop_length] at o
      exact o (.ref Dl) G H2 ⟨Ex.refl _, s1.gh, s1.h, fun p h1 _ => h1⟩ ⟨⟨Dl, ws, rfl, hG, hH, rl⟩, fun p hp => by cases hp; exact hDH⟩)
end
end Dm
set_option Elab.async false
set_option linter.all false
set_option maxRecDepth 100000
set_option maxHeartbeats 4000000
namespace Dm
open PySem L2 Evl RZ Wm
section
variable {C : Cc} {xo : Xo} {W : WX} {G H G' H' G0 H0 : Hp} {σ : L2.St} {env : Env} {E : XK}
/-! ### try .. except X as n -/
theorem noExn_at {env : Env} (h : noExn env = true) (i : Nat) (c : Nat) (fs : List (Str × D)) : env[i]? ≠ some (.exn c fs) := fun q => by
  have m := List.mem_of_getElem? q
  have := List.all_eq_true.mp h _ m
  cases this
theorem Fit0.oth {xo2 : Xo} (f : Fit0 C xo G0 H0 G H σ env) (h : noExn env = true) : Fit0 C xo2 G0 H0 G H σ env :=
  ⟨⟨f.f.ex, f.f.len, f.f.val, f.f.own, f.f.sep, fun i c fs q => absurd q (noExn_at h i c fs)⟩, f.s, f.new⟩
theorem ifB_out {b : Bool} {r : RS} {D : Ends} (o : OutS C xo W G0 H0 G D (ifB b r)) : b = true ∧ OutS C xo W G0 H0 G D r := by
  unfold ifB at o
  by_cases h : b = true
  · rw [if_pos h] at o; exact ⟨h, o⟩
  · rw [if_neg h] at o; exact o.elim
theorem cs_try {tb : WX → TS} {ts : Addr → Value → Option Addr → TS} {hc : Value} {i : Nat} {cs : Nat → Option Bool} {b h : SS} (hx : ∀ c k, cs c = some k → PySem.W.exmOne C.K (.ref (C.ad c)) hc = some k) (hb : ∀ W2, CS C xo W2 (tb W2) b)
    (hs : ∀ a cls d, CS C ⟨a, cls, d⟩ W0 (ts a cls d) h) : CS C xo W (fun D σ H => tb (wAs C.K hc i ts W D) D σ H) (sTry b i cs h) := fun G0 H0 σ G H env f D o => by
  refine hb (wAs C.K hc i ts W D) G0 H0 σ G H env f D ?_
  unfold sTry at o
  cases c : b env with
  | nx e2 => rw [c] at o; exact o
  | rt s => rw [c] at o; cases s <;> exact o
  | bk e2 => rw [c] at o; exact o
  | ct e2 => rw [c] at o; exact o
  | bad => rw [c] at o; exact o
  | exc k fs e2 =>
    rw [c] at o
    dsimp only at o
    intro dd σ' G' H' e f' x
    cases ck : cs k with
    | none => rw [ck] at o; exact o.elim
    | some kk =>
      rw [ck] at o
      refine ⟨kk, hx k kk ck, fun hk a ha => ?_, fun hk => ?_⟩
      · subst hk
        dsimp only at o
        obtain ⟨hn, o⟩ := ifB_out o
        have o := OutS.mono e o
        have f2 := (f'.oth (xo2 := ⟨a, .ref (C.ad k), dd⟩) hn).put (j := i) (s := .exn k fs) (o := some (.ref a)) (fun _ => nofun) (fun _ => nofun) (fun c2 fs2 q => by cases q; exact ⟨rfl, rfl, x⟩)
        refine hs a _ dd G0 H0 _ G' H' _ f2 _ ?_
        cases c2 : h (e2.set i (.exn k fs)) with
        | nx e3 =>
          rw [c2] at o
          obtain ⟨hn3, o⟩ := ifB_out o
          exact fun σ3 G3 H3 ee f3 => o _ G3 H3 ee ((f3.setU (j := i) (o := none)).oth hn3)
        | bk e3 =>
          rw [c2] at o
          obtain ⟨hn3, o⟩ := ifB_out o
          exact fun σ3 G3 H3 ee f3 => o _ G3 H3 ee ((f3.setU (j := i) (o := none)).oth hn3)
        | ct e3 =>
          rw [c2] at o
          obtain ⟨hn3, o⟩ := ifB_out o
          exact fun σ3 G3 H3 ee f3 => o _ G3 H3 ee ((f3.setU (j := i) (o := none)).oth hn3)
        | rt s => rw [c2] at o; cases s <;> exact o
        | exc _ _ _ => rw [c2] at o; exact o.elim
        | bad => rw [c2] at o; exact o.elim
      · subst hk
        exact o dd σ' G' H' e f' x
/-- e.f in the suite -/
theorem ce_xf {i c : Nat} {f : Str} : CE C xo W (tXf xo.a xo.cls xo.d (C.ad c) f (tVar i)) (eXf i c f) := fun σ G H env ft Q o => by
  unfold eXf at o
  cases c1 : env[i]? with
  | none => rw [c1] at o; exact o.elim
  | some s =>
    rw [c1] at o
    cases s with
    | exn c2 fs =>
      obtain ⟨h1, h2, h3⟩ := ft.exn i c2 fs c1
      dsimp only at o
      by_cases hc : c2 = c
      · rw [if_pos hc] at o
        subst hc
        cases hl : fs.lookup f with
        | none => rw [hl] at o; exact o.elim
        | some d =>
          rw [hl] at o
          cases fs with
          | nil => cases hl
          | cons p fs =>
            obtain ⟨q, vfs, k1, k2, k3⟩ := h3
            obtain ⟨v, l, r⟩ := k3 f d hl
            exact ⟨_, h1, rfl, h2, q, vfs, v, k1, ft.ex _ _ k2, l, o v G H (Step.refl ft.ex) r⟩
      · rw [if_neg hc] at o; exact o.elim
    | un => exact o.elim
    | val _ => exact o.elim
    | own _ => exact o.elim
/-! ### raise C(e, ..), C's __init__ keeping its arguments as fields -/
def sp_initN (K : PySem.W.Frag) (nm : List Str) : Sp := fun vs H Q _ => ∃ (a C : Addr) (ys : List V), vs = .ref a :: ys ∧ ys.length = nm.length ∧ (OexC K C ∧ (∀ f, f ∈ nm → PySem.W.findIn K (.ref C) f = some none) ∧ H a = some (exo a C none)) ∧
  ∀ dx, H dx = none → dx ≠ a → Q .non (upd (upd H dx (exd dx (nm.zip ys).reverse)) a (exo a C (some dx)))
theorem lk_rev {ys : List V} : ∀ {nm : List Str} {ds : List D}, nm.length ≤ 3 → nm.Nodup → ys.length = nm.length → RepL C.K C.w C.ad G ys ds → ∀ f d, (nm.zip ds).lookup f = some d → ∃ v, (nm.zip ys).reverse.lookup f = some v ∧ Rep C.K C.w C.ad G v d := by
  intro nm ds h3 hn hl r f d h
  match nm, ys, ds, hl, r, h with
  | [], [], [], _, .nil, h => cases h
  | [a], [x], [u], _, .cons r1 .nil, h =>
    simp only [List.zip_cons_cons, List.zip_nil_left, List.reverse_cons, List.reverse_nil, List.nil_append, List.lookup_cons] at h ⊢
    split at h
    · cases h; exact ⟨x, rfl, r1⟩
    · cases h
  | [a, b], [x, y], [u, w], _, .cons r1 (.cons r2 .nil), h =>
    have hab : a ≠ b := fun z => by simp [z] at hn
    simp only [List.zip_cons_cons, List.zip_nil_left, List.reverse_cons, List.reverse_nil, List.nil_append, List.cons_append, List.lookup_cons] at h ⊢
    by_cases q1 : f = a
    · subst q1
      rw [beq_self_eq_true] at h ⊢
      cases h
      rw [beq_eq_false_iff_ne.mpr hab]
      exact ⟨x, rfl, r1⟩
    · rw [beq_eq_false_iff_ne.mpr q1] at h ⊢
      dsimp only at h ⊢
      by_cases q2 : f = b
      · subst q2
        rw [beq_self_eq_true] at h ⊢
        cases h
        exact ⟨y, rfl, r2⟩
      · rw [beq_eq_false_iff_ne.mpr q2] at h
        cases h
  | [a, b, c], [x, y, z], [u, w, t], _, .cons r1 (.cons r2 (.cons r3 .nil)), h =>
    have hab : a ≠ b := fun z => by simp [z] at hn
    have hac : a ≠ c := fun z => by simp [z] at hn
    have hbc : b ≠ c := fun z => by simp [z] at hn
    simp only [List.zip_cons_cons, List.zip_nil_left, List.reverse_cons, List.reverse_nil, List.nil_append, List.cons_append, List.lookup_cons] at h ⊢
    by_cases q1 : f = a
    · subst q1
      rw [beq_self_eq_true] at h ⊢
      cases h
      rw [beq_eq_false_iff_ne.mpr hab, beq_eq_false_iff_ne.mpr hac]
      exact ⟨x, rfl, r1⟩
    · rw [beq_eq_false_iff_ne.mpr q1] at h ⊢
      dsimp only at h ⊢
      by_cases q2 : f = b
      · subst q2
        rw [beq_self_eq_true] at h ⊢
        cases h
        rw [beq_eq_false_iff_ne.mpr hbc]
        exact ⟨y, rfl, r2⟩
      · rw [beq_eq_false_iff_ne.mpr q2] at h ⊢
        dsimp only at h ⊢
        by_cases q3 : f = c
        · subst q3
          rw [beq_self_eq_true] at h ⊢
          cases h
          exact ⟨z, rfl, r3⟩
        · rw [beq_eq_false_iff_ne.mpr q3] at h
          cases h
  | _ :: _ :: _ :: _ :: _, _, _, _, _, _ => exact absurd h3 (by simp)
theorem cs_raise {ta : TA} {a : SA} {c : Nat} {nm : List Str} (T : OexC C.K (C.ad c)) (hf : ∀ f, f ∈ nm → PySem.W.findIn C.K (.ref (C.ad c)) f = some none) (h3 : nm.length ≤ 3) (h1 : nm ≠ []) (hn : nm.Nodup) (h : CA C xo W ta a) :
    CS C xo W (fun _ σ H => tMkO (C.ad c) (sp_initN C.K nm) [] ta σ H fun cls d H' => W cls d σ H') (sRaise c nm a) := fun G0 H0 σ G H env f D o =>
  h σ G H env f.f _ (ofE_out f o fun ds vs G1 H1 s r f1 o1 => by
    by_cases hl : ds.length = nm.length
    · rw [if_pos hl] at o1
      have hlv : vs.length = nm.length := r.length.trans hl
      refine ⟨by omega, fun e he => ?_⟩
      rw [List.append_nil]
      refine ⟨e, C.ad c, vs, rfl, hlv, ⟨T, hf, upd_same⟩, fun dx k1 k2 => ?_⟩
      have hd : H1 dx = none := by
        rw [upd_ne k2] at k1
        exact k1
      refine ⟨rfl, dx, _, upd_same, by rw [upd_ne k2]; exact upd_same, hd, ?_⟩
      have eh : Ex H1 (upd (del (upd (upd (upd H1 e (exo e (C.ad c) none)) dx (exd dx (nm.zip vs).reverse)) e (exo e (C.ad c) (some dx))) e) dx (.xd (nm.zip vs).reverse)) := fun b o hb => by
        have nb1 : b ≠ dx := fun z => by rw [z, hd] at hb; cases hb
        have nb2 : b ≠ e := fun z => by rw [z, he] at hb; cases hb
        rw [upd_ne nb1, del_ne nb2, upd_ne nb2, upd_ne nb1, upd_ne nb2]
        exact hb
      have hg : G1 dx = none := fresh_back s.gh hd
      have st : Step G1 H1 (upd G1 dx (.xd (nm.zip vs).reverse)) (upd (del (upd (upd (upd H1 e (exo e (C.ad c) none)) dx (exd dx (nm.zip vs).reverse)) e (exo e (C.ad c) (some dx))) e) dx (.xd (nm.zip vs).reverse)) := by
        refine ⟨Ex.new hg, fun b o hb => ?_, eh, fun q h1 h2 => ?_⟩
        · by_cases z : b = dx
          · subst z; rw [upd_same] at hb ⊢; exact hb
          · rw [upd_ne z] at hb
            exact eh b o (s.gh b o hb)
        · rw [upd_ne fun z => h2 (by rw [z]; exact hd)]
          exact h1
      refine o1 (some dx) σ _ _ st.g (f1.step st) ?_
      unfold XRep
      have r2 := r.mono (Ex.new (o := .xd (nm.zip vs).reverse) hg)
      cases hz : nm.zip ds with
      | nil =>
        cases nm with
        | nil => exact absurd rfl h1
        | cons _ _ =>
          cases ds with
          | nil => cases hl
          | cons _ _ => cases hz
      | cons p ps =>
        dsimp only
        rw [← hz]
        exact ⟨dx, _, rfl, upd_same, lk_rev h3 hn hlv r2⟩
    · rw [if_neg hl] at o1; exact o1.elim)
end
/-! ### a def -/
section
variable {P : Program} {w : World} {K : PySem.W.Frag} {mg : Str → Option Value} {base : Heap} {ad : Nat → Addr}
theorem start_fit {C : Cc} {xo : Xo} {G H : Hp} {N : List Str} {vs : List V} {ds : List D} {n k : Nat} (e : Ex G H) (r : RepL C.K C.w C.ad G vs ds) (hd : ds.length = n) (hN : N.length = n + k) :
    Fit0 C xo G H G H (L2.start N vs) (ds.map .val ++ List.replicate k .un) := by
  have hl : vs.length = n := r.length.trans hd
  have er : List.replicate (N.length - vs.length) (none : Option V) = List.replicate k none := by rw [show N.length - vs.length = k by omega]
  have low : ∀ (i : Nat) s, (ds.map Sl.val ++ List.replicate k Sl.un)[i]? = some s → (∃ d, s = .val d ∧ ds[i]? = some d) ∨ s = .un := fun i s h => by
    rcases Nat.lt_or_ge i (ds.map Sl.val).length with hi | hi
    · rw [List.getElem?_append_left hi, List.getElem?_map] at h
      cases q : ds[i]? with
      | none => rw [q] at h; cases h
      | some d => rw [q] at h; cases h; exact Or.inl ⟨d, rfl, rfl⟩
    · rw [List.getElem?_append_right hi] at h
      exact Or.inr (List.eq_of_mem_replicate (List.mem_of_getElem? h))
  refine ⟨⟨e, ?_, fun i d h => ?_, fun i ds h => ?_, fun i j p es us h1 h2 => ?_, fun i c fs h => ?_⟩, Step.refl e, fun i es p h => ?_⟩
  · unfold L2.start
    rw [er]
    simp [hl, hd]
  · rcases low i _ h with ⟨d', q, hd'⟩ | q
    · cases q
      obtain ⟨u, hu, ru⟩ := r.get hd'
      refine ⟨u, ?_, ru⟩
      unfold L2.start
      have hi := (List.getElem?_eq_some_iff.mp hu).1
      rw [List.getElem?_append_left (by rw [List.length_map]; exact hi), List.getElem?_map, hu]
      rfl
    · cases q
  · rcases low i _ h with ⟨_, q, _⟩ | q <;> cases q
  · rcases low i _ h1 with ⟨_, q, _⟩ | q <;> cases q
  · rcases low i _ h with ⟨_, q, _⟩ | q <;> cases q
  · rcases low i _ h with ⟨_, q, _⟩ | q <;> cases q
abbrev WF (E : XK) : WX := fun cls d _ H => E cls d H
theorem ok_defV {x qual : Str} {st : Stmt} {f : Addr} {fd : FuncData} {N ps : List Str} {l n k : Nat} {b : SS} (F : Fun K x qual st f fd) (S : FnScope N ps (defScope st)) (hn : ps.length = n) (hN : N.length = n + k)
    (h : ∀ (cdv : Value) (A : Around) (outer : List PySem.Env) (s : Shared) (H : Hp) (E : XK), Room l (A.deeper (PyProof.Rows.envOfC qual (defScope st) s.heap.objs.size f cdv)) →
      ∃ t, PSs (cxOf (L2.CX P w) P w K mg base N qual (defScope st) f cdv A outer s H E) (defBody st) t ∧ ∀ xo, CS ⟨K, w, ad⟩ xo (WF E) t b) : FnOk P w K mg base (L2.CX P w) (l + 1) f fd ps (SpD ⟨K, w, ad⟩ (defV n k b)) := by
  refine F.okX S (fun vs H Q E h => ?_) (fun cdv A outer s H vs Q E hr hs => ?_)
  · obtain ⟨G, ds, e, r, o⟩ := h
    rw [hn, r.length]
    exact (out_if o).1
  · obtain ⟨t, ht, hc⟩ := h cdv A outer s H E hr
    obtain ⟨G, ds, e, r, o⟩ := hs
    obtain ⟨hd, o⟩ := out_if o
    have f0 := start_fit (xo := ⟨0, .none, none⟩) (C := ⟨K, w, ad⟩) e r hd hN
    refine ⟨t, ht, hc ⟨0, .none, none⟩ G H _ G H _ f0 _ ?_⟩
    cases c : b (ds.map .val ++ List.replicate k .un) with
    | rt s =>
      rw [c] at o
      cases s with
      | val d => exact o
      | own xs =>
        intro v G' H' st q
        obtain ⟨⟨p, vs, rfl, h1, h2, h3⟩, h4⟩ := q
        exact o (.ref p) _ H' (st.take h1 h2 (h4 p rfl)) (.lst upd_same (h3.mono (Ex.new h1)))
      | un => exact o.elim
      | exn _ _ => exact o.elim
    | nx e2 =>
      rw [c] at o
      exact fun σ G' H' e f' => o .non G' H' f'.s .non
    | exc q fs e2 =>
      rw [c] at o
      exact fun dd σ G' H' e f' x => o dd G' H' f'.s x
    | bk e2 => rw [c] at o; exact o.elim
    | ct e2 => rw [c] at o; exact o.elim
    | bad => rw [c] at o; exact o.elim
theorem ok_defL {x qual : Str} {st : Stmt} {f : Addr} {fd : FuncData} {N ps : List Str} {l n k : Nat} {b : SS} (F : Fun K x qual st f fd) (S : FnScope N ps (defScope st)) (hn : ps.length = n) (hN : N.length = n + k)
    (h : ∀ (cdv : Value) (A : Around) (outer : List PySem.Env) (s : Shared) (H : Hp) (E : XK), Room l (A.deeper (PyProof.Rows.envOfC qual (defScope st) s.heap.objs.size f cdv)) →
      ∃ t, PSs (cxOf (L2.CX P w) P w K mg base N qual (defScope st) f cdv A outer s H E) (defBody st) t ∧ ∀ xo, CS ⟨K, w, ad⟩ xo (WF E) t b) : FnOk P w K mg base (L2.CX P w) (l + 1) f fd ps (SpL ⟨K, w, ad⟩ (defL n k b)) := by
  refine F.okX S (fun vs H Q E h => ?_) (fun cdv A outer s H vs Q E hr hs => ?_)
  · obtain ⟨G, ds, e, r, o⟩ := h
    rw [hn, r.length]
    exact (out_if o).1
  · obtain ⟨t, ht, hc⟩ := h cdv A outer s H E hr
    obtain ⟨G, ds, e, r, o⟩ := hs
    obtain ⟨hd, o⟩ := out_if o
    have f0 := start_fit (xo := ⟨0, .none, none⟩) (C := ⟨K, w, ad⟩) e r hd hN
    refine ⟨t, ht, hc ⟨0, .none, none⟩ G H _ G H _ f0 _ ?_⟩
    cases c : b (ds.map .val ++ List.replicate k .un) with
    | rt s =>
      rw [c] at o
      cases s with
      | own xs => exact o
      | val d => exact o.elim
      | un => exact o.elim
      | exn _ _ => exact o.elim
    | exc q fs e2 =>
      rw [c] at o
      exact fun dd σ G' H' e f' x => o dd G' H' f'.s x
    | nx e2 => rw [c] at o; exact o.elim
    | bk e2 => rw [c] at o; exact o.elim
    | ct e2 => rw [c] at o; exact o.elim
    | bad => rw [c] at o; exact o.elim
/-! ### the law -/
def sp_law (K : PySem.W.Frag) : Sp := fun vs H Q _ => ∃ (a : Addr) (ns : List Int), vs = [.ref a] ∧ (SqL K H a (ns.map V.int) ∧ ns.length ≤ 63) ∧ ∀ H1, Q (.bl true) H1
theorem law_in {K : PySem.W.Frag} {H : Hp} {a : Addr} {ns : List Int} (hl : ns.length ≤ 63) (hS : SqL K H a (ns.map V.int)) : sp_law K [.ref a] H (fun v _ => v = .bl true) (fun _ _ _ => False) := ⟨a, ns, rfl, ⟨hS, hl⟩, fun _ => rfl⟩
theorem rep_ints {C : Cc} {G : Hp} : ∀ ns : List Int, RepL C.K C.w C.ad G (ns.map V.int) (ns.map D.int)
  | [] => .nil
  | n :: ns => .cons (.int n) (rep_ints ns)
theorem ok_law {x qual : Str} {st : Stmt} {f : Addr} {fd : FuncData} {N ps : List Str} {l k : Nat} {b : SS} (F : Fun K x qual st f fd) (S : FnScope N ps (defScope st)) (hn : ps.length = 1) (hN : N.length = 1 + k)
    (hm : ∀ ns : List Int, ns.length ≤ 63 → defV 1 k b [.scr (ns.map .int)] = .ok (.bl true))
    (h : ∀ (cdv : Value) (A : Around) (outer : List PySem.Env) (s : Shared) (H : Hp) (E : XK), Room l (A.deeper (PyProof.Rows.envOfC qual (defScope st) s.heap.objs.size f cdv)) →
      ∃ t, PSs (cxOf CX0 P w K mg base N qual (defScope st) f cdv A outer s H E).nox (defBody st) t ∧ ∀ xo, CS ⟨K, w, ad⟩ xo W0 t b) : FnOk P w K mg base CX0 (l + 1) f fd ps (sp_law K) := by
  refine F.ok S (fun vs H Q E h => ?_) (fun cdv A outer s H vs Q E hr hs => ?_)
  · obtain ⟨a, ns, rfl, _⟩ := h
    exact hn.symm
  · obtain ⟨t, ht, hc⟩ := h cdv A outer s H E hr
    obtain ⟨a, ns, rfl, ⟨hS, hl⟩, q⟩ := hs
    have e : Ex H H := Ex.refl H
    have m := hm ns hl
    have r : RepL K w ad H [.ref a] [.scr (ns.map D.int)] := .cons (.scr hS (rep_ints (C := ⟨K, w, ad⟩) ns)) .nil
    have f0 := start_fit (xo := ⟨0, .none, none⟩) (C := ⟨K, w, ad⟩) (n := 1) e r rfl hN
    refine ⟨t, ht, hc ⟨0, .none, none⟩ H H _ H H _ f0 _ ?_⟩
    unfold defV at m
    rw [if_pos (show [D.scr (List.map D.int ns)].length = 1 from rfl)] at m
    cases c : b ([D.scr (ns.map .int)].map .val ++ List.replicate k .un) with
    | rt s =>
      rw [c] at m
      cases s with
      | val d =>
        cases m
        intro v G' H' st r
        cases r
        exact q H'
      | own xs => cases m
      | un => cases m
      | exn _ _ => cases m
    | nx e2 => rw [c] at m; cases m
    | exc _ _ _ => rw [c] at m; cases m
    | bk _ => rw [c] at m; cases m
    | ct _ => rw [c] at m; cases m
    | bad => rw [c] at m; cases m
end
end Dm
set_option Elab.async false
set_option linter.all false
set_option maxRecDepth 100000
set_option maxHeartbeats 4000000
namespace Dm
open PySem L2 Evl RZ Wm
section
variable {C : Cc} {xo : Xo} {W : WX} {G H G' H' G0 H0 : Hp} {σ : L2.St} {env : Env} {E : XK}
/-! a list of one's own, looked at while it grows -/
theorem ce_lenO {i : Nat} : CE C xo W (tCB (rLenX C.K) (tCons (tVar i) tNil)) (eLenO i) := fun σ G H env ft Q o => by
  unfold eLenO at o
  cases c : env[i]? with
  | none => rw [c] at o; exact o.elim
  | some s =>
    rw [c] at o
    cases s with
    | own xs =>
      obtain ⟨p, vs, h1, h2, h3, h4⟩ := ft.own i xs c
      refine ⟨.ref p, h1, Or.inr ⟨p, vs, rfl, Or.inl (sq_of h3), ?_⟩⟩
      rw [h4.length]
      exact o _ G H (Step.refl ft.ex) (.int _)
    | un => exact o.elim
    | val _ => exact o.elim
    | exn _ _ => exact o.elim
theorem ce_ixO {i : Nat} {tb : TE} {b : SE} (h : CE C xo W tb b) : CE C xo W (tOp (rIxX C.K C.w) (tVar i) tb) (eIxO i b) := fun σ G H env ft Q o => by
  unfold eIxO at o
  cases c : env[i]? with
  | none => rw [c] at o; exact o.elim
  | some s =>
    rw [c] at o
    cases s with
    | own xs =>
      obtain ⟨p, vs, h1, h2, h3, h4⟩ := ft.own i xs c
      refine ⟨.ref p, h1, h σ G H env ft _ (Out.bind o fun d v G1 H1 _ s1 r1 o1 => ?_)⟩
      cases r1 with
      | int k =>
        dsimp only at o1
        cases ck : L2.atI xs k with
        | none => rw [ck] at o1; exact o1.elim
        | some d =>
          rw [ck] at o1
          obtain ⟨u, hu, ru⟩ := h4.atI ck
          exact Or.inl (Or.inl ⟨p, vs, k, u, rfl, rfl, sq_of (s1.h _ _ h3), hu, o1 _ G1 H1 (Step.refl s1.gh) (ru.mono s1.g)⟩)
      | _ => exact o1.elim
    | un => exact o.elim
    | val _ => exact o.elim
    | exn _ _ => exact o.elim
end
/-! x += e -/
theorem pip_of {X : Cx} {op : Operator} {r : R2} (ho : OpR X (inplaceOp op) r) : PIp X op r := fun pins s σ H x y v u Q I rx ry h => augR ho I rx ry h
def rAddX : R2 := fun x y H Q => rI0 (fun i j => .int (i + j)) x y H Q ∨ ((fun (x y : V) H Q => ∃ i j, x = .str i ∧ y = .str j ∧ i.length + j.length ≤ sizeLine ∧ Q (V.str (i ++ j)) H) : R2) x y H Q
theorem ip_addX {X : Cx} : PIp X .Add rAddX := pip_of (iop_add.or iop_add_str)
theorem od_addX {C : Cc} : OpD C rAddX dAddX := by
  intro G H x y dx dy e rx ry E Q o
  cases rx with
  | int i => cases ry with
    | int j => exact Or.inl ⟨i, j, rfl, rfl, o _ G H (Step.refl e) (.int _)⟩
    | _ => exact False.elim o
  | str a => cases ry with
    | str b =>
      obtain ⟨hz, o⟩ := out_ifE (p := a.length + b.length ≤ Z) o
      exact Or.inr ⟨a, b, rfl, rfl, sz_of hz, o _ G H (Step.refl e) (.str _)⟩
    | _ => exact False.elim o
  | _ => exact False.elim o
theorem ip_subX {X : Cx} : PIp X .Sub (rI0 fun i j => .int (i - j)) := pip_of iop_sub
/-! exceptions with fields -/
structure ExN (K : PySem.W.Frag) (mg : Str → Option Value) (x : Str) (C I : Addr) (nm : List Str) : Prop where
  g : mg x = some (.ref C)
  o : OexC K C
  i : PySem.W.findIn K (.ref C) "__init__" = some (some (.ref I))
  t : PySem.W.typeIn K (.ref I) = some (.type "function")
  n : ∀ f, f ∈ nm → PySem.W.findIn K (.ref C) f = some none
  xf : XfC K C
structure InitN (P : Program) (w : World) (K : PySem.W.Frag) (mg : Str → Option Value) (base : Heap) (a : Addr) (fd : FuncData) (ps nm : List Str) : Prop where
  ok : FnOk P w K mg base CX0 1 a fd ps (sp_initN K nm)
  b : Binds K fd ps []
theorem initN_len {K : PySem.W.Frag} {nm : List Str} {vs : List V} {H : Hp} {Q : VK} {E : XK} (h : sp_initN K nm vs H Q E) : vs.length = nm.length + 1 := by
  obtain ⟨a, C, ys, rfl, h2, _⟩ := h
  rw [List.length_cons, h2]
theorem init1 {K : PySem.W.Frag} {f : Str} {vs : List V} {H : Hp} {Q : VK} {E : XK} (h : sp_initN K [f] vs H Q E) : tSeq (tOst K f (tVar 0) (tVar 1)) tNext { nx := fun _ H' => Q .non H', rt := Q } (L2.start ["self", f] vs) H := by
  obtain ⟨a, C, ys, rfl, hl, ⟨T, hf, ha⟩, q⟩ := h
  match ys, hl with
  | [y], _ => exact ⟨_, rfl, _, rfl, a, C, rfl, T, hf f (List.mem_singleton.mpr rfl), Or.inl ⟨ha, fun dx h1 h2 => q dx h1 h2⟩⟩
theorem upd_swap {H : Hp} {a b : Addr} {o u : HO} (h : a ≠ b) : upd (upd H a o) b u = upd (upd H b u) a o := by
  funext c
  unfold upd
  by_cases h1 : c = b
  · subst h1
    rw [if_pos rfl, if_neg (Ne.symm h), if_pos rfl]
  · rw [if_neg h1]
    by_cases h2 : c = a
    · subst h2
      rw [if_pos rfl, if_pos rfl]
    · rw [if_neg h2, if_neg h2, if_neg h1]
theorem ost_fold {H : Hp} {a dx C : Addr} {f1 f2 : List (Str × V)} (h : dx ≠ a) : upd (upd (upd H dx (exd dx f1)) a (exo a C (some dx))) dx (exd dx f2) = upd (upd H dx (exd dx f2)) a (exo a C (some dx)) := by
  rw [upd_swap h, upd_upd, ← upd_swap h]
theorem init2 {K : PySem.W.Frag} {f g : Str} {vs : List V} {H : Hp} {Q : VK} {E : XK} (h : sp_initN K [f, g] vs H Q E) : tSeq (tOst K f (tVar 0) (tVar 1)) (tSeq (tOst K g (tVar 0) (tVar 2)) tNext) { nx := fun _ H' => Q .non H', rt := Q } (L2.start ["self", f, g] vs) H := by
  obtain ⟨a, C, ys, rfl, hl, ⟨T, hf, ha⟩, q⟩ := h
  match ys, hl with
  | [y, z], _ =>
    refine ⟨_, rfl, _, rfl, a, C, rfl, T, hf f List.mem_cons_self, Or.inl ⟨ha, fun dx h1 h2 => ?_⟩⟩
    refine ⟨_, rfl, _, rfl, a, C, rfl, T, hf g (List.mem_cons_of_mem _ List.mem_cons_self), Or.inr ⟨dx, [(f, y)], upd_same, by rw [upd_ne h2]; exact upd_same, Nat.le_of_ble_eq_true rfl, ?_⟩⟩
    rw [ost_fold h2]
    exact q dx h1 h2
theorem init3 {K : PySem.W.Frag} {f g k : Str} {vs : List V} {H : Hp} {Q : VK} {E : XK} (h : sp_initN K [f, g, k] vs H Q E) :
    tSeq (tOst K f (tVar 0) (tVar 1)) (tSeq (tOst K g (tVar 0) (tVar 2)) (tSeq (tOst K k (tVar 0) (tVar 3)) tNext)) { nx := fun _ H' => Q .non H', rt := Q } (L2.start ["self", f, g, k] vs) H := by
  obtain ⟨a, C, ys, rfl, hl, ⟨T, hf, ha⟩, q⟩ := h
  match ys, hl with
  | [y, z, u], _ =>
    refine ⟨_, rfl, _, rfl, a, C, rfl, T, hf f List.mem_cons_self, Or.inl ⟨ha, fun dx h1 h2 => ?_⟩⟩
    refine ⟨_, rfl, _, rfl, a, C, rfl, T, hf g (List.mem_cons_of_mem _ List.mem_cons_self), Or.inr ⟨dx, [(f, y)], upd_same, by rw [upd_ne h2]; exact upd_same, Nat.le_of_ble_eq_true rfl, ?_⟩⟩
    rw [ost_fold h2]
    refine ⟨_, rfl, _, rfl, a, C, rfl, T, hf k (List.mem_cons_of_mem _ (List.mem_cons_of_mem _ List.mem_cons_self)), Or.inr ⟨dx, [(g, z), (f, y)], upd_same, by rw [upd_ne h2]; exact upd_same, Nat.le_of_ble_eq_true rfl, ?_⟩⟩
    rw [ost_fold h2]
    exact q dx h1 h2
/-! constants of the module, seen in its objects -/
def allP {α β : Type} (f : α → β → Bool) : List α → List β → Bool
  | [], [] => true
  | u :: us, d :: ds => f u d && allP f us ds
  | _, _ => false
def isDv (K : PySem.W.Frag) (fns : List (Nat × Addr)) (f : List Value → List D → Bool) : Value → D → Bool
  | .none, .non => true
  | .bool a, .bl b => a == b
  | .int i _, .int j => decide (i = j)
  | .str i _, .str j => decide (i = j)
  | .ref a, .fn k => match fns.lookup k with
    | some b => Nat.beq a b
    | none => false
  | .ref a, .tup ds => match K.lookup a with
    | some ⟨.type c, _, .seq its _, _⟩ => c == "tuple" && Nat.ble its.size 100000 && f its.toList ds
    | _ => false
  | .ref a, .ktp ds => match K.lookup a with
    | some ⟨.type c, none, .seq its _, _⟩ => c == "tuple" && Nat.ble its.size 100000 && f its.toList ds
    | _ => false
  | .ref a, .scr ds => match K.lookup a with
    | some ⟨.type c, none, .seq its _, _⟩ => c == "list" && Nat.ble its.size 100000 && f its.toList ds
    | _ => false
  | _, _ => false
def isD (K : PySem.W.Frag) (fns : List (Nat × Addr)) : Nat → Value → D → Bool
  | 0 => fun _ _ => false
  | n + 1 => isDv K fns (allP (isD K fns n))
section
variable {K : PySem.W.Frag} {w : World} {ad : Nat → Addr} {fns : List (Nat × Addr)}
theorem allP_ok {f : Value → D → Bool} (h : ∀ u d, f u d = true → ∃ v, RelV v u ∧ ∀ G, Rep K w ad G v d) : ∀ (us : List Value) (ds : List D), allP f us ds = true → ∃ vs, Vals vs us ∧ ∀ G, RepL K w ad G vs ds
  | [], [], _ => ⟨[], .nil, fun _ => .nil⟩
  | u :: us, d :: ds, q => by
    unfold allP at q
    rw [Bool.and_eq_true] at q
    obtain ⟨v, r1, q1⟩ := h u d q.1
    obtain ⟨vs, r2, q2⟩ := allP_ok h us ds q.2
    exact ⟨v :: vs, .cons r1 r2, fun G => .cons (q1 G) (q2 G)⟩
  | [], _ :: _, q => by unfold allP at q; cases q
  | _ :: _, [], q => by unfold allP at q; cases q
theorem isDv_ok (hf : ∀ k b, fns.lookup k = some b → ad k = b) {f : List Value → List D → Bool} (hl : ∀ us ds, f us ds = true → ∃ vs, Vals vs us ∧ ∀ G, RepL K w ad G vs ds) : ∀ (u : Value) (d : D), isDv K fns f u d = true → ∃ v, RelV v u ∧ ∀ G, Rep K w ad G v d := by
  intro u d h
  unfold isDv at h
  split at h
  · exact ⟨.non, rfl, fun _ => .non⟩
  · rename_i a b
    obtain rfl : a = b := beq_iff_eq.mp h
    exact ⟨.bl a, rfl, fun _ => .bl a⟩
  · rename_i i _ j
    obtain rfl : i = j := of_decide_eq_true h
    exact ⟨.int i, ⟨_, rfl⟩, fun _ => .int i⟩
  · rename_i i _ j
    obtain rfl : i = j := of_decide_eq_true h
    exact ⟨.str i, ⟨_, rfl⟩, fun _ => .str i⟩
  · rename_i a k
    split at h
    · rename_i b hb
      have e : a = b := Nat.eq_of_beq_eq_true h
      subst e
      rw [← hf k a hb]
      exact ⟨.ref (ad k), rfl, fun _ => .fn k⟩
    · cases h
  · rename_i a ds
    split at h
    · rename_i c dd its z sl hk
      simp only [Bool.and_eq_true] at h
      obtain ⟨⟨h1, h2⟩, h3⟩ := h
      have e : c = "tuple" := eq_of_beq h1
      subst e
      obtain ⟨vs, r, q⟩ := hl its.toList ds h3
      exact ⟨.ref a, rfl, fun G => .tup (Or.inr ⟨_, its, z, hk, rfl, rfl, Nat.le_trans (Nat.le_of_ble_eq_true h2) (by decide), r⟩) (q G)⟩
    · cases h
  · rename_i a ds
    split at h
    · rename_i c its z sl hk
      simp only [Bool.and_eq_true] at h
      obtain ⟨⟨h1, h2⟩, h3⟩ := h
      have e : c = "tuple" := eq_of_beq h1
      subst e
      obtain ⟨vs, r, q⟩ := hl its.toList ds h3
      exact ⟨.ref a, rfl, fun G => .ktp (Or.inr ⟨_, its, z, hk, rfl, rfl, Nat.le_trans (Nat.le_of_ble_eq_true h2) (by decide), r⟩) ⟨_, hk, rfl, rfl⟩ (q G)⟩
    · cases h
  · rename_i a ds
    split at h
    · rename_i c its z sl hk
      simp only [Bool.and_eq_true] at h
      obtain ⟨⟨h1, h2⟩, h3⟩ := h
      have e : c = "list" := eq_of_beq h1
      subst e
      obtain ⟨vs, r, q⟩ := hl its.toList ds h3
      exact ⟨.ref a, rfl, fun G => .scr (Or.inr ⟨_, its, z, hk, rfl, rfl, rfl, Nat.le_trans (Nat.le_of_ble_eq_true h2) (by decide), r⟩) (q G)⟩
    · cases h
  · cases h
theorem isD_ok (hf : ∀ k b, fns.lookup k = some b → ad k = b) : ∀ (n : Nat) (u : Value) (d : D), isD K fns n u d = true → ∃ v, RelV v u ∧ ∀ G, Rep K w ad G v d
  | 0, _, _, h => by cases h
  | n + 1, u, d, h => isDv_ok hf (allP_ok (isD_ok hf n)) u d h
theorem isD_rep {mg : Str → Option Value} {x : Str} {n : Nat} {u : Value} {d : D} (hf : ∀ k b, fns.lookup k = some b → ad k = b) (hm : mg x = some u) (h : isD K fns n u d = true) : ∃ v u, mg x = some u ∧ RelV v u ∧ ∀ G, Rep K w ad G v d := by
  obtain ⟨v, r, q⟩ := isD_ok (w := w) hf n u d h
  exact ⟨v, u, hm, r, q⟩
/-- a written dict with text keys -/
theorem dct_rep {mg : Str → Option Value} {x : Str} {a : Addr} {es : Array DictEntry} {n : Nat} {ks : List Str} {vs : List V} {ds : List D} (hm : mg x = some (.ref a)) (hk : K.lookup a = some ⟨.type "dict", none, .dict es n, #[]⟩) (he : EntsK w.params (ks.zip vs) es.toList) (hl : (a == sysModules) = false)
    (hz : ks.length = vs.length) (r : ∀ G, RepL K w ad G vs ds) : ∃ v u, mg x = some u ∧ RelV v u ∧ ∀ G, Rep K w ad G v (.dct ks ds) :=
  ⟨.ref a, .ref a, hm, rfl, fun G => .dct hz ⟨⟨es, n, hk, he⟩, hl⟩ (r G)⟩
end
end Dm
set_option Elab.async false
set_option linter.all false
set_option maxRecDepth 100000
set_option maxHeartbeats 4000000
namespace Dm
open PySem L2 Evl RZ Wm
/-! exceptions without fields -/
structure Ex0 (K : PySem.W.Frag) (mg : Str → Option Value) (x : Str) (C : Addr) : Prop where
  g : mg x = some (.ref C)
  q : ∃ B newId initId bmB, ExcBaseFacts B newId initId bmB ∧ PySem.W.excIn K C bmB newId = true
  k : PySem.W.keepIn K (.ref C) = true
  s : PySem.W.subIn K (.ref C) (.type "BaseException") = some true
  t : PySem.W.typeIn K (.ref C) = some (.type "type")
theorem pmk_ex0 {X : Cx} {C : Addr} {x : Str} {p pos : Pos} (T : Ex0 X.K X.mg x C) (hg : Gl X x) (hdb : (x == ("__debug__" : Str)) = false := by decide) : PMk X (.Call (.Name x p) [] [] pos) (fun _ H Q => Q (.ref C) none H) := by
  intro pins s σ H Q I h
  obtain ⟨B, newId, initId, bmB, F, q⟩ := T.q
  have r : Raises X (.ref C) := fun M h XX => ⟨PySem.W.looks_subIn XX T.s, PySem.W.looks_typeIn XX T.t⟩
  refine wpAny_Call_Name_kw (ld_glob I hg T.g ?_ hdb)
  refine PySem.W.callWith_K0 I.kIn T.k ?_
  show wpAny _ _ (call (.ref C) []) _ _ _
  obtain ⟨bm, N, nm, qn, bs, hdct, sn, sub, ab, col, dd, k0, k1, k2, k3, k5, mN, hC, hN, hni, TT⟩ := exc_obj I.kIn q
  refine wpAny_call_exc_subT F TT hC hN hni (fun h' e hm => ?_) (by show 0 ≤ sizeLine; rw [sizeLine_eq]; omega)
  exact mk_of I hm r h (I.hok.gone hm.new)
section
variable {C : Cc} {xo : Xo} {W : WX} {G H G' H' G0 H0 : Hp} {σ : L2.St} {env : Env} {E : XK}
theorem cs_raise0 {c : Nat} : CS C xo W (fun _ σ H => W (.ref (C.ad c)) none σ H) (sRaise c [] eNil) := fun G0 H0 σ G H env f D o => by
  have o1 : OutS C xo W G0 H0 G D (.exc c [] env) := o
  exact o1 none σ G H (Ex.refl G) f rfl
end
theorem passN {X : Cx} : Passes (L2.CX X.prog X.w) X E0 := fun _ _ _ _ _ _ _ h => by
  obtain ⟨_, _, _, _, _, _, _, _, _, _, _, _, h⟩ := h
  exact h.elim
theorem cl0X {X : Cx} {k : Nat} {x : Str} {a : Addr} {fd : FuncData} {ps : List Str} {sp : Sp} {p pos : Pos} (O : DfX X.prog X.w X.K X.mg X.base k x a fd ps sp) (hr : Room k X.A) (hg : Gl X x) (hdb : (x == ("__debug__" : Str)) = false := by decide) : PE X (.Call (.Name x p) [] [] pos) (tCall sp [] E0 tNil) :=
  pe_call0 O.ok hr hg O.g O.kp O.b .nil passN hdb
theorem rep_fn {K : PySem.W.Frag} {w : World} {ad : Nat → Addr} {H : Hp} (n : Nat) {f : Addr} (h : ad n = f) : Rep K w ad H (.ref f) (.fn n) := by
  subst h
  exact .fn n
/-! a call of a local name -/
theorem pe_callRS {X : Cx} {k i : Nat} {x : Str} {p pos : Pos} {e : Expr} {es : List Expr} {t : TA} {E : L2.St → XK} {S : Addr → Sp → Prop} (A : ∀ f sp, S f sp → HeldX X.prog X.w X.K X.mg X.base k f sp) (hr : Room k X.A) (hN : X.N[i]? = some x) (hv : Vis X.env.scope x) (hx : ∀ σ, PassesAt (L2.CX X.prog X.w) X σ (E σ)) (ha : PA X (e :: es) t)
    (hdb : (x == ("__debug__" : Str)) = false := by decide) (hcd : (x == ("__classdict__" : Str)) = false := by decide)
    (he : starEach (e :: es) X.env = (false, eval e X.env) :: starEach es X.env := by rfl) (hpl : (backTo pos (starEach es X.env)).any (·.1) = false := by rfl) : PE X (.Call (.Name x p) (e :: es) [] pos) (tCallRS i S E t) := by
  refine ⟨fun pins s σ H Q I h => ?_⟩
  obtain ⟨f, sp, hs, hS, ht⟩ := h
  obtain ⟨fd, ps, F, hk, hb⟩ := (A f sp hS).ex
  refine wpAny_Call_Name_kw (thn ((pe_var (pos := p) hN hv hdb hcd).run pins s σ H (fun v H1 => v = .ref f ∧ H1 = H) I ⟨.ref f, hs, rfl, rfl⟩) fun u s1 ⟨v, H1, I1, r1, q1⟩ => ?_)
  obtain ⟨rfl, rfl⟩ := q1
  cases r1
  refine PySem.W.callWith_K (h₀ := X.base) I.ok.mod.kin hk (thn (ha.run pos pins s1 σ _ _ I1 ht) fun us s2 ⟨vs, H2, I2, r, q⟩ => ⟨I2.kIn, ?_⟩) he hpl
  exact run_fnS F hr hb (hx σ) I2 r q
/-! isinstance of the exception in the hand -/
structure IsC (K : PySem.W.Frag) (D : Addr) : Prop where
  hg : PySem.W.findIn K (.ref D) "__getattribute__" = some (some (.builtin "BaseException.__getattribute__"))
  hk : PySem.W.findIn K (.ref D) "__getattr__" = some none
  hs : PySem.W.subIn K (.ref D) (.type "BaseException") = some true
  hc : (PySem.W.clsIn K D).isSome = true
  ha : PySem.W.findIn K (.ref D) "__class__" = some (some (.builtin "object.__class__"))
  hn : PySem.W.specialIn K (.builtin "object.__class__") "__get__" = some (some (.builtin "getset_descriptor.__get__"))
  ht : PySem.W.takesIn K (.builtin "object.__class__") = some true
  hm : PySem.W.mroIn K D (.type "object") = some true
theorem clsSome {K : PySem.W.Frag} {D : Addr} (h : PySem.W.hasDictIn K D = true) : (PySem.W.clsIn K D).isSome = true := by
  obtain ⟨cd, hc, _⟩ := PySem.W.any_some h
  rw [hc]
  rfl
/-- isinstance(e, c), e the exception that the suite holds, c a class of the text or a built-in one -/
def rIsX (K : PySem.W.Frag) (cls : Value) (d : Option Addr) (a : Addr) : List V → Hp → VK → Prop := fun xs H Q => ∃ (D : Addr) (c : V) (cv : Value) (b : Bool), cls = .ref D ∧ IsC K D ∧ xs = [.ref a, c] ∧ ClsV c cv ∧ PySem.W.kitOne K (.ref D) cv = some b ∧ (d = none ∨ ∃ q fs, d = some q ∧ H q = some (.xd fs)) ∧ Q (.bl b) H
theorem call_isX {X : Cx} {a : Addr} {cls : Value} {d : Option Addr} {oe : Obj} {pn : List (Addr × Obj)} (hz : Zc cls d oe) (hf : ∃ vs, oe.data = .fields vs) : CallR (X.suite a ((a, oe) :: pn)) (.builtin "isinstance") (rIsX X.K cls d a) := by
  intro pins s σ H xs us Q I r h
  obtain ⟨D, c, cv, b, rfl, CC, rfl, k, e, hd, q⟩ := h
  obtain ⟨u1, u2, rfl, r1, r2⟩ := vals2 r
  cases r1
  have ec := k.eq r2
  subst ec
  obtain ⟨hget, _⟩ := I.pin (a, oe) (List.mem_append.mpr (.inl List.mem_cons_self))
  obtain ⟨vs, hv⟩ := hf
  obtain ⟨od, J⟩ : ∃ od, PySem.W.InstAt s.heap a oe D od := by
    obtain ⟨oc, odd, oda, osl⟩ := oe
    obtain ⟨h1, h2⟩ := hz
    dsimp only at h1 h2 hv
    subst h1 h2 hv
    rcases hd with rfl | ⟨p, fs, rfl, hp⟩
    · exact ⟨none, hget, rfl, rfl, trivial⟩
    · obtain ⟨o, ho⟩ := objOk_get (I.hok p _ hp)
      exact ⟨some o, hget, rfl, rfl, ho⟩
  exact PySem.W.kia_one (PySem.W.kitx_exc CC.hc CC.hg CC.hk CC.hs CC.ha CC.hn CC.ht CC.hm) I.kIn J e (fun z => nomatch z) fun tk => ⟨.bl b, H, I.kept (t' := tk) fun _ _ z => z, rfl, q⟩
/-- isinstance(e, ..): what the table says of e's class -/
def eIsx (i : Nat) (tab : Nat → Option Bool) : SE := fun env => match env[i]? with
  | some (.exn c _) => match tab c with
    | some b => .ok (.bl b)
    | none => .bad
  | _ => .bad
section
variable {C : Cc} {xo : Xo} {W : WX} {G H G' H' G0 H0 : Hp} {σ : L2.St} {env : Env} {E : XK}
theorem ce_isx {i : Nat} {tab : Nat → Option Bool} {c : V} {cv : Value} (k : ClsV c cv) (ht : ∀ m b, tab m = some b → IsC C.K (C.ad m) ∧ PySem.W.kitOne C.K (.ref (C.ad m)) cv = some b) :
    CE C xo W (tCB (rIsX C.K xo.cls xo.d xo.a) (tCons (tVar i) (tCons (tC c) tNil))) (eIsx i tab) := fun σ G H env ft Q o => by
  unfold eIsx at o
  cases c1 : env[i]? with
  | none => rw [c1] at o; exact o.elim
  | some s =>
    rw [c1] at o
    cases s with
    | exn c2 fs =>
      obtain ⟨h1, h2, h3⟩ := ft.exn i c2 fs c1
      dsimp only at o
      cases hb : tab c2 with
      | none => rw [hb] at o; exact o.elim
      | some b =>
        rw [hb] at o
        obtain ⟨t1, t2⟩ := ht c2 b hb
        refine ⟨_, h1, ?_⟩
        refine ⟨_, c, cv, b, h2, t1, rfl, k, t2, ?_, o _ G H (Step.refl ft.ex) (.bl _)⟩
        cases fs with
        | nil => exact Or.inl h3
        | cons f fs =>
          obtain ⟨q, vfs, k1, k2, _⟩ := h3
          exact Or.inr ⟨q, vfs, k1, ft.ex _ _ k2⟩
    | un => exact o.elim
    | val _ => exact o.elim
    | own _ => exact o.elim
end
/-! int(a text of digits) -/
def fIntS : List D → R D
  | [.str a] => match PySem.intText? a with
    | some n => if a.length ≤ 640 then .ok (.int n) else .bad
    | none => .bad
  | _ => .bad
def rIntS : List V → Hp → VK → Prop := fun xs H Q => ∃ a n, xs = [.str a] ∧ PySem.intText? a = some n ∧ a.length ≤ 640 ∧ Q (.int n) H
theorem call_intS {X : Cx} : CallR X (.type "int") rIntS := call_int_str
section
variable {C : Cc}
theorem cd_intS : CallD C rIntS fIntS := by
  intro G H vs ds e r E Q o
  cases r with
  | nil => exact False.elim o
  | cons h r =>
    cases r with
    | cons _ _ => cases h <;> exact False.elim o
    | nil =>
      cases h with
      | str a =>
        have o2 : Out C (rV C) E G H Q (match PySem.intText? a with
          | some n => if a.length ≤ 640 then .ok (.int n) else .bad
          | none => .bad) := o
        cases c : PySem.intText? a with
        | none => rw [c] at o2; exact o2.elim
        | some n =>
          rw [c] at o2
          obtain ⟨hz, o2⟩ := out_ifE o2
          exact ⟨a, n, rfl, c, hz, o2 _ G H (Step.refl e) (.int _)⟩
      | _ => exact False.elim o
end
/-! xs.index(y) of a list of flat data, where it is -/
def idxD (y : D) : List D → Option Nat
  | [] => none
  | x :: xs => if x.eqv y = true then some 0 else (idxD y xs).map (· + 1)
def lIdx (xs : List D) : List D → R D
  | [y] => if flatD y = true ∧ xs.all flatD = true then (match idxD y xs with | some j => .ok (.int (j : Nat)) | none => .bad) else .bad
  | _ => .bad
def mLIndex : D → List D → R D
  | .lst xs, ds | .scr xs, ds => lIdx xs ds
  | _, _ => .bad
section
variable {C : Cc} {xo : Xo} {W : WX} {G H G' H' G0 H0 : Hp} {σ : L2.St} {env : Env} {E : XK}
theorem idx_V {y : D} {u : V} (hy : Rep C.K C.w C.ad G u y) (fy : flatD y = true) : ∀ {vs : List V} {xs : List D} {j : Nat}, RepL C.K C.w C.ad G vs xs → xs.all flatD = true → idxD y xs = some j → ∃ z, vs[j]? = some z ∧ eqV z u = true ∧ ∀ m z', m < j → vs[m]? = some z' → eqV z' u = false
  | _, _, _, .nil, _, h => by cases h
  | _, _, j, .cons (v := v) (d := d) hv r, q, h => by
    rw [List.all_cons, Bool.and_eq_true] at q
    unfold idxD at h
    have e := eqV_D hv hy q.1 fy
    by_cases c : d.eqv y = true
    · rw [if_pos c] at h
      cases h
      exact ⟨v, rfl, by rw [e]; exact c, fun m z' hm => absurd hm (Nat.not_lt_zero m)⟩
    · rw [if_neg c] at h
      cases c2 : idxD y _ with
      | none => rw [c2] at h; cases h
      | some i =>
        rw [c2] at h
        cases h
        obtain ⟨z, h1, h2, h3⟩ := idx_V hy fy r q.2 c2
        refine ⟨z, h1, h2, fun m z' hm hz => ?_⟩
        cases m with
        | zero =>
          cases hz
          rw [e]
          exact Bool.eq_false_iff.mpr c
        | succ m => exact h3 m z' (Nat.lt_of_succ_lt_succ hm) hz
theorem md_lindex : MetD C (rIndex C.K) mLIndex := by
  intro G H x vs dx ds e rx r E Q o
  have fin : ∀ {p : Addr} {ws : List V} {xs : List D}, SqL C.K H p ws → RepL C.K C.w C.ad G ws xs → Out C (rV C) E G H Q (lIdx xs ds) → rIndex C.K (.ref p) vs H Q := fun {p ws xs} hs rr o2 => by
    cases r with
    | nil => exact False.elim o2
    | cons h r =>
      cases r with
      | cons _ _ => exact False.elim o2
      | nil =>
        unfold lIdx at o2
        obtain ⟨hz, o2⟩ := out_if o2
        cases c : idxD _ xs with
        | none => rw [c] at o2; exact o2.elim
        | some j =>
          rw [c] at o2
          obtain ⟨z, h1, h2, h3⟩ := idx_V h hz.1 rr hz.2 c
          exact ⟨p, ws, _, j, z, rfl, rfl, hs, flat_V h hz.1, flat_all rr hz.2, h1, h2, h3, o2 _ G H (Step.refl e) (.int _)⟩
  cases rx with
  | lst h r1 => exact fin (sq_of (e _ _ h)) r1 o
  | scr h r1 => exact fin (ex_l e h) r1 o
  | _ => exact False.elim o
end
/-! sorted(texts) -/
def leS (a b : Str) : Bool := decide (a.cps.toList ≤ b.cps.toList)
theorem leS_trans (a b c : Str) (h1 : leS a b = true) (h2 : leS b c = true) : leS a c = true := decide_eq_true (List.le_trans (of_decide_eq_true h1) (of_decide_eq_true h2))
theorem leS_total (a b : Str) : (leS a b || leS b a) = true := by
  rcases List.le_total a.cps.toList b.cps.toList with h | h
  · rw [show leS a b = true from decide_eq_true h] <;> rfl
  · rw [show leS b a = true from decide_eq_true h, Bool.or_true]
theorem leS_anti {a b : Str} (h1 : leS a b = true) (h2 : leS b a = true) : a = b := by
  have h := List.le_antisymm (of_decide_eq_true h1) (of_decide_eq_true h2)
  have h := Array.toList_inj.mp h
  cases a
  cases b
  exact congrArg Str.mk h
def srt (zs : List Str) : List Str := zs.mergeSort leS
theorem rising_le : ∀ (l : List Str) (p : Str), PyProof.Rows.risingS p l = true → (p :: l).Pairwise fun a b => leS a b = true
  | [], p, _ => List.pairwise_singleton _ _
  | x :: r, p, h => by
    have h' : (!PySem.Spec.ltCps x.cps.toList p.cps.toList && PyProof.Rows.risingS x r) = true := h
    rw [Bool.and_eq_true] at h'
    have ih := rising_le r x h'.2
    have hx : leS p x = true := by
      have q := h'.1
      rw [PyProof.Rows.ltCps_eq] at q
      refine decide_eq_true ?_
      rw [Bool.not_eq_eq_eq_not, Bool.not_true, decide_eq_false_iff_not] at q
      exact List.not_lt.mp q
    refine List.pairwise_cons.mpr ⟨fun y hy => ?_, ih⟩
    rcases List.mem_cons.mp hy with rfl | hy
    · exact hx
    · exact leS_trans _ _ _ hx ((List.pairwise_cons.mp ih).1 y hy)
theorem sorted_le {l : List Str} (h : PyProof.Rows.sortedS l = true) : l.Pairwise fun a b => leS a b = true := by
  cases l with
  | nil => exact List.Pairwise.nil
  | cons x r => exact rising_le r x h
theorem srt_of {ys zs : List Str} (hp : ys.Perm zs) (h : PyProof.Rows.sortedS ys = true) : ys = srt zs :=
  List.Perm.eq_of_pairwise (fun a b _ _ h1 h2 => leS_anti h1 h2) (sorted_le h) (List.pairwise_mergeSort leS_trans leS_total zs) (hp.trans (List.mergeSort_perm zs leS).symm)
/-- two rows of the same texts, sorted -/
theorem srt_perm {ys zs : List Str} (hp : ys.Perm zs) : srt ys = srt zs :=
  List.Perm.eq_of_pairwise (fun a b _ _ h1 h2 => leS_anti h1 h2) (List.pairwise_mergeSort leS_trans leS_total ys) (List.pairwise_mergeSort leS_trans leS_total zs) ((List.mergeSort_perm ys leS).trans (hp.trans (List.mergeSort_perm zs leS).symm))
def lSort : List D → R (List D)
  | [.lst xs] | [.scr xs] => match strsOf xs with
    | some zs => .ok ((srt zs).map .str)
    | none => .bad
  | _ => .bad
def rSortedSA (K : PySem.W.Frag) : List V → Hp → VK → Prop := fun vs H Q => ∃ (a : Addr) (xs : List Str), vs = [V.ref a] ∧ SqL K H a (xs.map V.str) ∧ ∀ p : Addr, H p = none → Q (.ref p) (upd H p (.lst ((srt xs).map V.str)))
theorem cr_sortedSA {X : Cx} : CallR X (.builtin "sorted") (rSortedSA X.K) := by
  intro pins s σ H vs us Q I r h
  obtain ⟨a, xs, rfl, hs, q⟩ := h
  obtain ⟨its, rv, hl, hz⟩ := I.list hs
  rw [Vals.ref1 r]
  have hlen0 := rv.length
  refine PyProof.Rows.sorted_strsAny hl.isList rv.strs (by rw [← hlen0]; exact hz) fun out ys h1 h2 h3 => ?_
  obtain ⟨ep, he'⟩ := PyProof.Rows.sortedAll_at s.heap its out
  rw [List.length_map] at hz
  have hlen : (ys.map V.str).length ≤ sizeLine := by rw [List.length_map, h2.length_eq]; exact hz
  have e := srt_of h2 h3
  refine ⟨.ref _, upd H (s.heap.objs.size + 1) (.lst (ys.map V.str)), I.laid (t' := s.toks) (fun _ _ => PyProof.Rows.sortedAll_old) (Nat.le_succ _) ⟨hlen, out.toList, ep, vals_of_strs h1, he'⟩, rfl, ?_⟩
  rw [e]
  exact q _ (I.hok.fresh (Nat.le_succ _))
theorem rep_strs {K : PySem.W.Frag} {w : World} {ad : Nat → Addr} {H : Hp} : ∀ zs : List Str, RepL K w ad H (zs.map V.str) (zs.map D.str)
  | [] => .nil
  | z :: zs => .cons (.str z) (rep_strs zs)
section
variable {C : Cc} {xo : Xo} {W : WX}
theorem cn_sort {ta : TA} {a : SA} (h : CA C xo W ta a) : CN C xo W (tCB (rSortedSA C.K) ta) (lF lSort a) := fun σ G H env f Q o =>
  h σ G H env f _ (Out.bind o fun ds vs G1 H1 _ s1 r1 o1 => by
    have e := s1.gh
    have fin : ∀ {p : Addr} {ws : List V} {xs : List D}, SqL C.K H1 p ws → RepL C.K C.w C.ad G1 ws xs → Out C (fun G' H' v ds => rN C G' H' v ds ∧ ∀ p, v = .ref p → H p = none) (WE W σ) G1 H1 Q (match strsOf xs with
        | some zs => .ok ((srt zs).map .str)
        | none => .bad) → rSortedSA C.K [.ref p] H1 Q := fun {p ws xs} hs r o2 => by
      cases c : strsOf xs with
      | none => rw [c] at o2; exact o2.elim
      | some zs =>
        rw [c] at o2
        have z := r.strs c
        subst z
        exact ⟨p, zs, rfl, hs, fun q hq => o2 _ G1 _ (Step.ofH e (Ex.new hq)) ⟨⟨q, _, rfl, fresh_back e hq, upd_same, rep_strs _⟩, fun q2 hq2 => by cases hq2; exact fresh_back s1.h hq⟩⟩
    cases r1 with
    | nil => exact False.elim o1
    | cons h r =>
      cases r with
      | cons h2 r => cases h <;> exact False.elim o1
      | nil =>
        cases h with
        | lst h r => exact fin (sq_of (e _ _ h)) r o1
        | scr h r => exact fin (ex_l e h) r o1
        | _ => exact False.elim o1)
end
section
variable {P : Program} {w : World} {K : PySem.W.Frag} {mg : Str → Option Value} {base : Heap} {ad : Nat → Addr}
/-- of a def that calls itself: no turn left, nothing said -/
theorem ok_bad {x qual : Str} {st : Stmt} {f : Addr} {fd : FuncData} {N ps : List Str} {l : Nat} (F : Fun K x qual st f fd) (S : FnScope N ps (defScope st)) : FnOk P w K mg base (L2.CX P w) (l + 1) f fd ps (SpD ⟨K, w, ad⟩ fun _ => .bad) := by
  refine F.okX S (fun vs H Q E h => ?_) (fun cdv A outer s H vs Q E hr hs => ?_)
  · obtain ⟨G, ds, e, r, o⟩ := h
    exact o.elim
  · obtain ⟨G, ds, e, r, o⟩ := hs
    exact o.elim
end
end Dm
set_option Elab.async false
set_option linter.all false
set_option maxRecDepth 100000
set_option maxHeartbeats 4000000
/-! Dp: facts for reasoning over Dm's functions. -/
namespace Dm
open PySem L2
/-- a walk whose turns all go on -/
theorem forGo_nx {g : SG} {b : SS} (I : Nat → Env → Prop) : ∀ (ds : List D) (k : Nat) (env : Env), I k env →
    (∀ i d env, ds[i]? = some d → I (k + i) env → ∃ e2 e3, g d env = some e2 ∧ (b e2 = .nx e3 ∨ b e2 = .ct e3) ∧ I (k + i + 1) e3) → ∃ e, forGo g b ds env = .nx e ∧ I (k + ds.length) e
  | [], k, env, h, _ => ⟨env, rfl, h⟩
  | d :: ds, k, env, h, hs => by
    obtain ⟨e2, e3, h1, h2, h3⟩ := hs 0 d env rfl h
    obtain ⟨e, q1, q2⟩ := forGo_nx I ds (k + 1) e3 h3 fun i d env hi hI => by
      have := hs (i + 1) d env hi (by rw [show k + (i + 1) = k + 1 + i by omega]; exact hI)
      rw [show k + (i + 1) = k + 1 + i by omega] at this
      exact this
    refine ⟨e, ?_, by rw [List.length_cons, show k + (ds.length + 1) = k + 1 + ds.length by omega]; exact q2⟩
    unfold forGo ofG
    rw [h1]
    dsimp only
    rcases h2 with h2 | h2 <;> rw [h2] <;> exact q1
/-- .. or hand something back -/
theorem forGo_or {g : SG} {b : SS} (I : Nat → Env → Prop) (P : Sl → Prop) : ∀ (ds : List D) (k : Nat) (env : Env), I k env →
    (∀ i d env, ds[i]? = some d → I (k + i) env → ∃ e2, g d env = some e2 ∧ ((∃ e3, (b e2 = .nx e3 ∨ b e2 = .ct e3) ∧ I (k + i + 1) e3) ∨ ∃ v, b e2 = .rt v ∧ P v)) → (∃ e, forGo g b ds env = .nx e ∧ I (k + ds.length) e) ∨ ∃ v, forGo g b ds env = .rt v ∧ P v
  | [], k, env, h, _ => Or.inl ⟨env, rfl, h⟩
  | d :: ds, k, env, h, hs => by
    obtain ⟨e2, h1, h2⟩ := hs 0 d env rfl h
    have e : forGo g b (d :: ds) env = match b e2 with
      | .nx e3 | .ct e3 => forGo g b ds e3
      | .bk e3 => .nx e3
      | r => r := by
      conv => lhs; unfold forGo ofG
      rw [h1] <;> rfl
    rcases h2 with ⟨e3, h2, h3⟩ | ⟨v, h2, h3⟩
    · have q := forGo_or I P ds (k + 1) e3 h3 fun i d env hi hI => by
        have := hs (i + 1) d env hi (by rw [show k + (i + 1) = k + 1 + i by omega]; exact hI)
        rw [show k + (i + 1) = k + 1 + i by omega] at this
        exact this
      have e4 : forGo g b (d :: ds) env = forGo g b ds e3 := by
        rw [e]
        rcases h2 with h2 | h2 <;> rw [h2]
      rw [e4, List.length_cons, show k + (ds.length + 1) = k + 1 + ds.length by omega]
      exact q
    · exact Or.inr ⟨v, by rw [e, h2], h3⟩
theorem ixN_ok {n : Nat} {i : Int} (h0 : 0 ≤ i) (h1 : i < n) : ixN n i = some i.toNat := by
  unfold ixN
  rw [if_pos h0, if_pos h1]
theorem range_at {n i : Nat} {d : D} (h : ((List.range n).map fun (i : Nat) => D.int i)[i]? = some d) : i < n ∧ d = .int i := by
  rw [List.getElem?_map] at h
  by_cases hi : i < n
  · rw [List.getElem?_range hi] at h
    exact ⟨hi, (Option.some.inj h).symm⟩
  · rw [List.getElem?_eq_none (by rw [List.length_range]; omega)] at h
    cases h
theorem forGo_cons {g : SG} {b : SS} {d : D} {ds : List D} {env e2 : Env} (h : g d env = some e2) : forGo g b (d :: ds) env = match b e2 with
    | .nx e3 | .ct e3 => forGo g b ds e3
    | .bk e3 => .nx e3
    | r => r := by
  conv => lhs; unfold forGo ofG
  rw [h] <;> rfl
theorem whGo_succ {t : ST} {b : SS} {n : Nat} {env : Env} {k : Bool} (h : t env = .ok k) : whGo t b (n + 1) env = if k = true then (match b env with
    | .nx e3 | .ct e3 => whGo t b n e3
    | .bk e3 => .nx e3
    | r => r) else .nx env := by
  conv => lhs; unfold whGo ofE
  rw [h] <;> rfl
/-! ### one step at a time (for simp only: EV) -/
section
variable {α β : Type} {r r' : R α} {k : α → R β} {env e2 : Env} {kS : α → RS} {i j n : Nat} {d x y : D} {xs ys : List D} {a b c : SE} {la lb : SA} {t u : ST} {p q s : SS} {f : D → D → R D} {g : SG}
theorem bind_cg (h : r = r') : r.bind k = r'.bind k := by rw [h]
theorem ofE_cg (h : r = r') : ofE r env kS = ofE r' env kS := by rw [h]
theorem bind_ok {a : α} : (R.ok a).bind k = k a := rfl
theorem bind_exc {c : Nat} {fs : List (Str × D)} : (R.exc c fs : R α).bind k = .exc c fs := rfl
theorem bind_bad : (R.bad : R α).bind k = .bad := rfl
theorem ofE_ok {a : α} : ofE (.ok a) env kS = kS a := rfl
theorem ofE_exc {c : Nat} {fs : List (Str × D)} : ofE (.exc c fs : R α) env kS = .exc c fs env := rfl
/-- what a slot gives -/
def vOf : Option Sl → R D
  | some (.val d) => .ok d
  | _ => .bad
theorem vOf_v : vOf (some (.val d)) = .ok d := rfl
theorem ap_C : eC d env = .ok d := rfl
theorem ap_V : eV i env = vOf env[i]? := rfl
theorem ap_nil : eNil env = .ok [] := rfl
theorem ap_cons : eCons a la env = (a env).bind fun x => (la env).bind fun xs => .ok (x :: xs) := rfl
theorem ap_U {f : D → R D} : eU f a env = (a env).bind f := rfl
theorem ap_B : eB f a b env = (a env).bind fun x => (b env).bind fun y => f x y := rfl
theorem ap_chain {f g : D → D → R D} : eChain f g a b c env = (a env).bind fun x => (b env).bind fun y => (f x y).bind fun r => (toBl r).bind fun k => if k = true then (c env).bind fun z => (g y z).bind fun r2 => (toBl r2).bind fun k2 => .ok (.bl k2) else .ok (.bl false) := rfl
theorem ap_and : eAnd a b env = (a env).bind fun x => (toBl x).bind fun k => if k = true then b env else .ok (.bl false) := rfl
theorem ap_or : eOr a b env = (a env).bind fun x => (toBl x).bind fun k => if k = true then .ok (.bl true) else b env := rfl
theorem ap_tup : eTup la env = (la env).bind fun xs => if xs.length ≤ 100000 then .ok (.tup xs) else .bad := rfl
theorem ap_F {f : List D → R D} : eF f la env = (la env).bind f := rfl
theorem ap_M {t : Ty} {f : D → List D → R D} : eM t f a la env = (a env).bind fun x => if isTy t x = true then (la env).bind fun xs => f x xs else .bad := rfl
theorem ap_sl {lo hi : Env → R (Option Int)} : eSl a lo hi env = (a env).bind fun x => (lo env).bind fun l => (hi env).bind fun h => dSl x l h := rfl
theorem ap_pN : pN env = .ok none := rfl
theorem ap_pS : pS a env = (a env).bind fun x => (toIn x).bind fun i => .ok (some i) := rfl
theorem ap_L : eL la env = (la env).bind fun xs => .ok (.lst xs) := rfl
theorem ap_tE : tE a env = (a env).bind toBl := rfl
theorem ap_tAn : tAn t u env = (t env).bind fun k => if k = true then u env else .ok false := rfl
theorem ap_tO : tO t u env = (t env).bind fun k => if k = true then .ok true else u env := rfl
theorem ap_tN : tN t env = (t env).bind fun k => .ok !k := rfl
theorem ap_tY : tY env = .ok true := rfl
theorem ap_if : eIf t a b env = (t env).bind fun k => if k = true then a env else b env := rfl
theorem ap_lD : lD la env = (la env).bind fun xs => if xs.length ≤ 100000 then .ok xs else .bad := rfl
theorem ap_lF {f : List D → R (List D)} : lF f la env = (la env).bind f := rfl
def catL : D → D → R (List D)
  | .lst xs, .lst ys => if xs.length + ys.length ≤ 100000 then .ok (xs ++ ys) else .bad
  | _, _ => .bad
theorem ap_lCat : lCat a b env = (a env).bind fun x => (b env).bind fun y => catL x y := rfl
theorem catL_ok : catL (.lst xs) (.lst ys) = if xs.length + ys.length ≤ 100000 then .ok (xs ++ ys) else .bad := rfl
def repL : D → D → R (List D)
  | .lst xs, .int k => if xs.length * k.toNat ≤ 100000 ∧ -(2 ^ 63) ≤ k ∧ k < 2 ^ 63 then .ok (List.replicate k.toNat xs).flatten else .bad
  | _, _ => .bad
theorem ap_lRep : lRep a b env = (a env).bind fun x => (b env).bind fun y => repL x y := rfl
theorem repL_ok {k : Int} : repL (.lst xs) (.int k) = if xs.length * k.toNat ≤ 100000 ∧ -(2 ^ 63) ≤ k ∧ k < 2 ^ 63 then .ok (List.replicate k.toNat xs).flatten else .bad := rfl
def slL : D → Option Int → Option Int → R (List D)
  | .lst xs, l, h => .ok (cutG xs l h)
  | .scr xs, l, h => .ok (cutG xs l h)
  | _, _, _ => .bad
theorem ap_lSl {lo hi : Env → R (Option Int)} : lSl a lo hi env = (a env).bind fun x => (lo env).bind fun l => (hi env).bind fun h => slL x l h := by
  unfold lSl slL
  congr 1
  funext x
  congr 1
  funext l
  congr 1
  funext h
  cases x <;> rfl
theorem slL_lst {l h : Option Int} : slL (.lst xs) l h = .ok (cutG xs l h) := rfl
theorem slL_scr {l h : Option Int} : slL (.scr xs) l h = .ok (cutG xs l h) := rfl
def itL : D → R (List D)
  | .lst xs => .ok xs
  | .scr xs => .ok xs
  | _ => .bad
theorem ap_iD : iD a env = (a env).bind itL := rfl
theorem itL_lst : itL (.lst xs) = .ok xs := rfl
theorem itL_scr : itL (.scr xs) = .ok xs := rfl
def itT : D → R (List D)
  | .tup xs => .ok xs
  | .ktp xs => .ok xs
  | _ => .bad
theorem ap_iT : iT a env = (a env).bind itT := rfl
theorem itT_tup : itT (.tup xs) = .ok xs := rfl
theorem itT_ktp : itT (.ktp xs) = .ok xs := rfl
def itS : D → R (List D)
  | .str z => .ok (z.cps.toList.map fun c => .str ⟨#[c]⟩)
  | _ => .bad
theorem ap_iS : iS a env = (a env).bind itS := rfl
theorem itS_str {z : Str} : itS (.str z) = .ok (z.cps.toList.map fun c => .str ⟨#[c]⟩) := rfl
def itR1 : List D → R (List D)
  | [.int n] => if n ≤ Z ∧ -Z ≤ n then .ok ((List.range n.toNat).map fun (i : Nat) => .int i) else .bad
  | _ => .bad
theorem ap_iR1 : iR1 la env = (la env).bind itR1 := rfl
theorem itR1_ok {n : Int} : itR1 [.int n] = if n ≤ 100000 ∧ -100000 ≤ n then .ok ((List.range n.toNat).map fun (i : Nat) => .int i) else .bad := rfl
/-! operations on data in the hand -/
theorem add_i {i j : Int} : dAdd (.int i) (.int j) = .ok (.int (i + j)) := rfl
theorem add_s {a b : Str} : dAdd (.str a) (.str b) = if a.length + b.length ≤ 100000 then .ok (.str (a ++ b)) else .bad := rfl
theorem add_l : dAdd (.lst xs) (.lst ys) = if xs.length + ys.length ≤ 100000 then .ok (.lst (xs ++ ys)) else .bad := rfl
theorem addX_i {i j : Int} : dAddX (.int i) (.int j) = .ok (.int (i + j)) := rfl
theorem addX_s {a b : Str} : dAddX (.str a) (.str b) = if a.length + b.length ≤ 100000 then .ok (.str (a ++ b)) else .bad := rfl
theorem sub_i {i j : Int} : dSub (.int i) (.int j) = .ok (.int (i - j)) := rfl
theorem mul_i {i j : Int} : dMul (.int i) (.int j) = if CMulW i j ∨ CMul i j then .ok (.int (i * j)) else .bad := rfl
theorem div_i {i j : Int} : dDiv (.int i) (.int j) = if CDivW i j then .ok (.int (i / j)) else .bad := rfl
theorem mod_i {i j : Int} : dMod (.int i) (.int j) = if 0 < j then .ok (.int (i % j)) else .bad := rfl
theorem pow_i {i j : Int} : dPow (.int i) (.int j) = if CPow i j then .ok (.int (i ^ j.toNat)) else .bad := rfl
theorem shl_i {i j : Int} : dShl (.int i) (.int j) = if CShl i j ∨ CPow i j then .ok (.int (i * 2 ^ j.toNat)) else .bad := rfl
theorem shr_i {i j : Int} : dShr (.int i) (.int j) = if 0 ≤ j then .ok (.int (i / 2 ^ j.toNat)) else .bad := rfl
theorem and_i {i j : Int} : dAnd (.int i) (.int j) = .ok (.int (Builtin.bitAnd i j)) := rfl
theorem or_i {i j : Int} : dOr (.int i) (.int j) = .ok (.int (Builtin.bitOr i j)) := rfl
theorem xor_i {i j : Int} : dXor (.int i) (.int j) = .ok (.int (Builtin.bitXor i j)) := rfl
theorem neg_i {i : Int} : dNeg (.int i) = .ok (.int (-i)) := rfl
theorem not_b {b : Bool} : dNot (.bl b) = .ok (.bl !b) := rfl
theorem lt_i {i j : Int} : dLt (.int i) (.int j) = .ok (.bl (decide (i < j))) := rfl
theorem le_i {i j : Int} : dLe (.int i) (.int j) = .ok (.bl (decide (i ≤ j))) := rfl
theorem gt_i {i j : Int} : dGt (.int i) (.int j) = .ok (.bl (decide (j < i))) := rfl
theorem ge_i {i j : Int} : dGe (.int i) (.int j) = .ok (.bl (decide (j ≤ i))) := rfl
theorem eq_i {i j : Int} : dEq (.int i) (.int j) = .ok (.bl (decide (i = j))) := rfl
theorem eq_s {i j : Str} : dEq (.str i) (.str j) = .ok (.bl (decide (i = j))) := rfl
theorem ne_i {i j : Int} : dNe (.int i) (.int j) = .ok (.bl !(decide (i = j))) := rfl
theorem ne_s {i j : Str} : dNe (.str i) (.str j) = .ok (.bl !(decide (i = j))) := rfl
theorem ne_of {b : Bool} (h : dEq x y = .ok (.bl b)) : dNe x y = .ok (.bl !b) := by
  unfold dNe
  rw [h]
  rfl
theorem is_non : dIs .non .non = .ok (.bl true) := rfl
theorem is_int {i : Int} : dIs (.int i) .non = .ok (.bl false) := rfl
theorem is_str {i : Str} : dIs (.str i) .non = .ok (.bl false) := rfl
theorem is_tup : dIs (.tup xs) .non = .ok (.bl false) := rfl
theorem is_lst : dIs (.lst xs) .non = .ok (.bl false) := rfl
theorem isnt_non : dIsnt .non .non = .ok (.bl false) := rfl
theorem isnt_int {i : Int} : dIsnt (.int i) .non = .ok (.bl true) := rfl
theorem isnt_str {i : Str} : dIsnt (.str i) .non = .ok (.bl true) := rfl
theorem isnt_tup : dIsnt (.tup xs) .non = .ok (.bl true) := rfl
theorem toBl_b {b : Bool} : toBl (.bl b) = .ok b := rfl
theorem toIn_i {i : Int} : toIn (.int i) = .ok i := rfl
/-- an item -/
def ixS (z : Str) (i : Int) : R D := match atI z.cps.toList i with | some c => .ok (.str ⟨#[c]⟩) | none => .bad
def ixL (xs : List D) (i : Int) : R D := match atI xs i with | some d => .ok d | none => .bad
theorem ix_s {z : Str} {i : Int} : dIx (.str z) (.int i) = if z.length ≤ 100000 then ixS z i else .bad := rfl
theorem ix_l {i : Int} : dIx (.lst xs) (.int i) = ixL xs i := rfl
theorem ix_r {i : Int} : dIx (.scr xs) (.int i) = ixL xs i := rfl
theorem ix_t {i : Int} : dIx (.tup xs) (.int i) = ixL xs i := rfl
theorem ix_k {i : Int} : dIx (.ktp xs) (.int i) = ixL xs i := rfl
theorem sl_s {z : Str} {lo hi : Option Int} : dSl (.str z) lo hi = if z.length ≤ 100000 then .ok (.str (cutS z lo hi)) else .bad := rfl
theorem sl_l {lo hi : Option Int} : dSl (.lst xs) lo hi = .ok (.lst (cutG xs lo hi)) := rfl
theorem sl_r {lo hi : Option Int} : dSl (.scr xs) lo hi = .ok (.lst (cutG xs lo hi)) := rfl
theorem sl_t {lo hi : Option Int} : dSl (.tup xs) lo hi = .ok (.tup (cutG xs lo hi)) := rfl
theorem len_s {z : Str} : fLen [.str z] = if z.length ≤ 100000 then .ok (.int z.length) else .bad := rfl
theorem len_l : fLen [.lst xs] = .ok (.int xs.length) := rfl
theorem len_r : fLen [.scr xs] = .ok (.int xs.length) := rfl
theorem len_t : fLen [.tup xs] = .ok (.int xs.length) := rfl
theorem len_k : fLen [.ktp xs] = .ok (.int xs.length) := rfl
theorem int_i {i : Int} : fInt [.int i] = .ok (.int i) := rfl
theorem int_b {b : Bool} : fInt [.bl b] = .ok (.int (if b then 1 else 0)) := rfl
theorem abs_i {i : Int} : fAbs [.int i] = .ok (.int (if i < 0 then -i else i)) := rfl
theorem min_i {i j : Int} : fMin2 [.int i, .int j] = .ok (.int (if j < i then j else i)) := rfl
theorem max_i {i j : Int} : fMax2 [.int i, .int j] = .ok (.int (if j > i then j else i)) := rfl
theorem tup_l : fTuple [.lst xs] = .ok (.tup xs) := rfl
theorem tup_t : fTuple [.tup xs] = .ok (.tup xs) := rfl
theorem list_l : fList [.lst xs] = .ok xs := rfl
theorem list_r : fList [.scr xs] = .ok xs := rfl
theorem list_t : fList [.tup xs] = .ok xs := rfl
theorem isi_i {t : Ty} {i : Int} : dIsi t (.int i) = .ok (.bl (isTy t (.int i))) := rfl
theorem isi_b {t : Ty} {i : Bool} : dIsi t (.bl i) = .ok (.bl (isTy t (.bl i))) := rfl
theorem isi_s {t : Ty} {i : Str} : dIsi t (.str i) = .ok (.bl (isTy t (.str i))) := rfl
theorem isi_l {t : Ty} : dIsi t (.lst xs) = .ok (.bl (isTy t (.lst xs))) := rfl
theorem isi_t {t : Ty} : dIsi t (.tup xs) = .ok (.bl (isTy t (.tup xs))) := rfl
theorem isi_n {t : Ty} : dIsi t .non = .ok (.bl (isTy t .non)) := rfl
theorem ty_ii {i : Int} : isTy .int (.int i) = true := rfl
theorem ty_bi {i : Int} : isTy .bool (.int i) = false := rfl
theorem ty_ss {i : Str} : isTy .str (.str i) = true := rfl
theorem ty_ll : isTy .list (.lst xs) = true := rfl
theorem ty_tt : isTy .tuple (.tup xs) = true := rfl
theorem ty_tl : isTy .tuple (.lst xs) = false := rfl
theorem ty_lt : isTy .list (.tup xs) = false := rfl
theorem ty_tn : isTy .tuple .non = false := rfl
theorem find_s {z w : Str} : mFind (.str z) [.str w] = .ok (.int (Txt.find z w)) := rfl
theorem lower_s {z : Str} : mLower (.str z) [] = if z.length ≤ 100000 then .ok (.str (Txt.lower z)) else .bad := rfl
/-! statements, with what follows -/
theorem sq_nx : sSeq sNx p env = p env := rfl
theorem sq_sq : sSeq (sSeq p q) s env = sSeq p (sSeq q s) env := by
  unfold sSeq
  cases p env <;> rfl
theorem sq_a : sSeq (sA i a) p env = ofE (a env) env fun d => p (env.set i (.val d)) := by
  unfold sSeq sA ofE
  cases a env <;> rfl
theorem sq_o : sSeq (sO i la) p env = ofE (la env) env fun d => p (env.set i (.own d)) := by
  unfold sSeq sO ofE
  cases la env <;> rfl
theorem sq_x : sSeq (sX a) p env = ofE (a env) env fun _ => p env := by
  unfold sSeq sX ofE
  cases a env <;> rfl
theorem sq_if : sSeq (sIf t p q) s env = ofE (t env) env fun k => if k = true then sSeq p s env else sSeq q s env := by
  unfold sSeq sIf ofE
  cases t env with
  | ok k => cases k <;> rfl
  | _ => rfl
theorem sq_ret : sSeq (sRet a) p env = ofE (a env) env fun d => .rt (.val d) := by
  unfold sSeq sRet ofE
  cases a env <;> rfl
theorem sq_retL : sSeq (sRetL la) p env = ofE (la env) env fun d => .rt (.own d) := by
  unfold sSeq sRetL ofE
  cases la env <;> rfl
/-- what slot i owns -/
def oOf : Option Sl → (List D → RS) → RS
  | some (.own ds), k => k ds
  | _, _ => .bad
theorem oOf_o {k : List D → RS} : oOf (some (.own xs)) k = k xs := rfl
theorem sq_retO : sSeq (sRetO i) p env = oOf env[i]? fun xs => .rt (.own xs) := by
  unfold sSeq sRetO oOf
  cases env[i]? with
  | none => rfl
  | some s => cases s <;> rfl
theorem sq_app : sSeq (sApp i a) p env = oOf env[i]? fun xs => ofE (a env) env fun d => if xs.length < 100000 then p (env.set i (.own (xs ++ [d]))) else .bad := by
  unfold sSeq sApp oOf
  cases env[i]? with
  | none => rfl
  | some s =>
    cases s with
    | own xs =>
      unfold ofE
      cases a env with
      | ok d =>
        by_cases h : xs.length < 100000
        · have h2 : xs.length < Z := h
          simp only [h, h2, if_true]
        · have h2 : ¬ xs.length < Z := h
          simp only [h, h2, if_false]
      | _ => rfl
    | _ => rfl
/-- data that is a list -/
def lstK : D → (List D → RS) → RS
  | .lst ys, k => k ys
  | _, _ => .bad
theorem lstK_l {k : List D → RS} : lstK (.lst xs) k = k xs := rfl
theorem sq_ext : sSeq (sExt i a) p env = oOf env[i]? fun xs => ofE (a env) env fun d => lstK d fun ys => if xs.length + ys.length ≤ 100000 then p (env.set i (.own (xs ++ ys))) else .bad := by
  unfold sSeq sExt oOf
  cases env[i]? with
  | none => rfl
  | some s =>
    cases s with
    | own xs =>
      unfold ofE
      cases a env with
      | ok d =>
        cases d with
        | lst ys =>
          by_cases h : xs.length + ys.length ≤ 100000
          · have h2 : xs.length + ys.length ≤ Z := h
            simp only [lstK, h, h2, if_true]
          · have h2 : ¬ xs.length + ys.length ≤ Z := h
            simp only [lstK, h, h2, if_false]
        | _ => rfl
      | _ => rfl
    | _ => rfl
theorem sq_aug : sSeq (sAug i f a) p env = ofE (vOf env[i]?) env fun x => ofE (a env) env fun y => ofE (f x y) env fun z => p (env.set i (.val z)) := by
  unfold sSeq sAug vOf ofE
  cases env[i]? with
  | none => rfl
  | some s =>
    cases s with
    | val x =>
      cases a env with
      | ok y => dsimp only; cases f x y <;> rfl
      | _ => rfl
    | _ => rfl
theorem sq_g : sSeq (sG a g) p env = ofE (a env) env fun d => ofG (g d env) p := by
  unfold sSeq sG ofE ofG
  cases a env with
  | ok d => dsimp only; cases g d env <;> rfl
  | _ => rfl
theorem sq_frz : sSeq (sFrz i p) q env = sSeq p q (frz i env) := rfl
theorem sq_br : sSeq sBr p env = .bk env := rfl
theorem sq_ct : sSeq sCt p env = .ct env := rfl
theorem sq_raise {c : Nat} {nm : List Str} : sSeq (sRaise c nm la) p env = ofE (la env) env fun ds => if ds.length = nm.length then .exc c (nm.zip ds) env else .bad := by
  unfold sSeq sRaise ofE
  cases la env with
  | ok ds =>
    by_cases h : ds.length = nm.length
    · simp only [h, if_true]
    · simp only [h, if_false]
  | _ => rfl
theorem ofG_some {k : Env → RS} : ofG (some env) k = k env := rfl
theorem nx_ap : sNx env = .nx env := rfl
/-- a walk: what its turns come to, then the rest -/
def thenS (r : RS) (p : SS) : RS := match r with
  | .nx e => p e
  | r => r
theorem thenS_nx : thenS (.nx env) p = p env := rfl
theorem thenS_rt {v : Sl} : thenS (.rt v) p = .rt v := rfl
theorem thenS_exc {c : Nat} {fs : List (Str × D)} : thenS (.exc c fs env) p = .exc c fs env := rfl
theorem thenS_cg {r r' : RS} (h : r = r') : thenS r p = thenS r' p := by rw [h]
theorem sq_for : sSeq (sFor la g q) p env = ofE (la env) env fun ds => thenS (forGo g q ds env) p := by
  unfold sSeq sFor ofE thenS
  cases la env <;> rfl
theorem sq_wh : sSeq (sWh n t q) p env = thenS (whGo t q n env) p := rfl
/-- the end of a def -/
def endV : RS → R D
  | .rt (.val d) => .ok d
  | .rt (.own xs) => .ok (.lst xs)
  | .nx _ => .ok .non
  | .exc c fs _ => .exc c fs
  | _ => .bad
def endL : RS → R (List D)
  | .rt (.own xs) => .ok xs
  | .exc c fs _ => .exc c fs
  | _ => .bad
theorem defV_ap {n k : Nat} {ds : List D} (h : ds.length = n) : defV n k p ds = endV (p (ds.map .val ++ List.replicate k .un)) := by
  unfold defV
  rw [if_pos h]
  rfl
theorem defL_ap {n k : Nat} {ds : List D} (h : ds.length = n) : defL n k p ds = endL (p (ds.map .val ++ List.replicate k .un)) := by
  unfold defL
  rw [if_pos h]
  rfl
theorem endV_v : endV (.rt (.val d)) = .ok d := rfl
theorem endV_o : endV (.rt (.own xs)) = .ok (.lst xs) := rfl
theorem endV_n : endV (.nx env) = .ok .non := rfl
theorem endV_x {c : Nat} {fs : List (Str × D)} : endV (.exc c fs env) = .exc c fs := rfl
theorem endL_o : endL (.rt (.own xs)) = .ok xs := rfl
theorem endL_x {c : Nat} {fs : List (Str × D)} : endL (.exc c fs env) = .exc c fs := rfl
theorem frz_at {i : Nat} {ds : List D} (h : env[i]? = some (.own ds)) : frz i env = env.set i (.val (.lst ds)) := by
  unfold frz
  rw [h]
theorem gN_ap : gN i d env = some (env.set i (.val d)) := rfl
end
theorem len_cps_ (a : Str) : a.length = a.cps.toList.length := by rw [Array.length_toList]; rfl
theorem ixL_ints {ns : List Int} {i : Int} (h0 : 0 ≤ i) (h1 : i < ns.length) : ixL (ns.map .int) i = .ok (.int (ns.getD i.toNat 0)) := by
  unfold ixL atI
  rw [List.length_map, ixN_ok h0 h1, Option.bind_some, List.getElem?_map, List.getD_eq_getElem?_getD, List.getElem?_eq_getElem (show i.toNat < ns.length by omega)]
  rfl
theorem ixS_ok {z : Str} {i : Int} (h0 : 0 ≤ i) (h1 : i < z.length) : ∃ c, c ∈ z.cps.toList ∧ ixS z i = .ok (.str ⟨#[c]⟩) := by
  have hl := len_cps_ z
  unfold ixS atI
  rw [← hl, ixN_ok h0 h1, Option.bind_some]
  have hi : i.toNat < z.cps.toList.length := by omega
  rw [List.getElem?_eq_getElem hi]
  exact ⟨_, List.getElem_mem hi, rfl⟩
theorem cps_app (a b : Str) : (a ++ b).cps.toList = a.cps.toList ++ b.cps.toList := by
  show (a.cps ++ b.cps).toList = _
  rw [Array.toList_append]
theorem len_app (a b : Str) : (a ++ b).length = a.length + b.length := by
  show (a.cps ++ b.cps).size = _
  rw [Array.size_append]
  rfl
theorem len_cps (a : Str) : a.length = a.cps.toList.length := by rw [Array.length_toList]; rfl
theorem cps_cut (z : Str) (lo hi : Option Int) : (cutS z lo hi).cps.toList = cutG z.cps.toList lo hi := by
  unfold cutS cutG
  rw [← len_cps]
theorem cut_mem {α : Type} {xs : List α} {lo hi : Option Int} {x : α} (h : x ∈ cutG xs lo hi) : x ∈ xs := List.mem_of_mem_drop (List.mem_of_mem_take h)
theorem cut_len {α : Type} (xs : List α) (lo hi : Option Int) : (cutG xs lo hi).length ≤ xs.length := by
  unfold cutG
  rw [List.length_take, List.length_drop]
  omega
theorem atI_mem {α : Type} {xs : List α} {i : Int} {x : α} (h : atI xs i = some x) : x ∈ xs := by
  unfold atI at h
  cases c : ixN xs.length i with
  | none => rw [c] at h; cases h
  | some j => rw [c] at h; exact List.mem_of_getElem? h
theorem atI_ok {α : Type} {xs : List α} {i : Int} (h0 : 0 ≤ i) (h1 : i < xs.length) : atI xs i = some (xs[i.toNat]'(by omega)) := by
  unfold atI ixN
  rw [if_pos h0, if_pos h1]
  exact List.getElem?_eq_getElem (by omega)
end Dm
set_option Elab.async false
set_option linter.all false
set_option maxRecDepth 100000
set_option maxHeartbeats 4000000
/-! Dq: more facts for reasoning over Dm's functions. -/
namespace Dm
open PySem L2
theorem frz_zero {ds : List D} {r : Env} : frz 0 (.own ds :: r) = .val (.lst ds) :: r := rfl
theorem frz_succ {i : Nat} {s : Sl} {r : Env} : frz (i + 1) (s :: r) = s :: frz i r := by
  unfold frz
  rw [List.getElem?_cons_succ]
  cases c : r[i]? with
  | none => rfl
  | some q => cases q <;> rfl
theorem cast_0 : ((0 : Nat) : Int) = 0 := rfl
theorem cast_1 : ((1 : Nat) : Int) = 1 := rfl
theorem cast_2 : ((2 : Nat) : Int) = 2 := rfl
theorem cast_3 : ((3 : Nat) : Int) = 3 := rfl
theorem cast_4 : ((4 : Nat) : Int) = 4 := rfl
theorem cast_5 : ((5 : Nat) : Int) = 5 := rfl
theorem cast_6 : ((6 : Nat) : Int) = 6 := rfl
theorem cast_7 : ((7 : Nat) : Int) = 7 := rfl
theorem cast_8 : ((8 : Nat) : Int) = 8 := rfl
theorem cast_9 : ((9 : Nat) : Int) = 9 := rfl
theorem frz_zeroV {d : D} {r : Dm.Env} : frz 0 (.val d :: r) = .val d :: r := rfl
def oOfR {α : Type} : Option Sl → (List D → R α) → R α
  | some (.own xs), k => k xs
  | _, _ => .bad
theorem oOfR_o {α : Type} {xs : List D} {k : List D → R α} : oOfR (some (.own xs)) k = k xs := rfl
def ixO (xs : List D) : D → R D
  | .int j => match atI xs j with
    | some d => .ok d
    | none => .bad
  | _ => .bad
theorem ap_lenO {i : Nat} {env : Dm.Env} : eLenO i env = oOfR env[i]? fun xs => .ok (.int xs.length) := by
  unfold eLenO oOfR
  cases env[i]? with
  | none => rfl
  | some s => cases s <;> rfl
theorem ap_ixO {i : Nat} {b : SE} {env : Dm.Env} : eIxO i b env = oOfR env[i]? fun xs => (b env).bind (ixO xs) := by
  unfold eIxO oOfR
  cases env[i]? with
  | none => rfl
  | some s =>
    cases s with
    | own xs =>
      dsimp only
      congr 1
    | _ => rfl
theorem ixO_ok {xs : List D} {j : Int} {d : D} (h : atI xs j = some d) : ixO xs (.int j) = .ok d := by unfold ixO; dsimp only; rw [h]
theorem ixL_ok {xs : List D} {j : Int} {d : D} (h : atI xs j = some d) : ixL xs j = .ok d := by unfold ixL; rw [h]
theorem atI_last (xs : List D) (d : D) : atI (xs ++ [d]) (-1) = some d := by
  unfold atI ixN
  rw [if_neg (by decide), if_pos (by rw [List.length_append, List.length_singleton]; omega), Option.bind_some]
  rw [show ((-1 : Int) + ((xs ++ [d]).length : Nat)).toNat = xs.length by rw [List.length_append, List.length_singleton]; omega]
  simp
theorem atI_nat {xs : List D} {k : Nat} {d : D} (h : xs[k]? = some d) : atI xs (k : Int) = some d := by
  have hl : k < xs.length := by
    rcases Nat.lt_or_ge k xs.length with h2 | h2
    · exact h2
    · rw [List.getElem?_eq_none h2] at h; cases h
  unfold atI
  rw [ixN_ok (by omega) (by omega), Option.bind_some, Int.toNat_natCast, h]
/-- texts as data -/
abbrev dS (zs : List Str) : List D := zs.map .str
theorem flat_strs (zs : List Str) : (dS zs).all flatD = true := by
  rw [List.all_eq_true]
  intro x hx
  obtain ⟨z, _, rfl⟩ := List.mem_map.mp hx
  rfl
theorem inD_strs {z : Str} : ∀ zs : List Str, inD (.str z) (dS zs) = decide (z ∈ zs)
  | [] => rfl
  | y :: zs => by
    have ih := inD_strs (z := z) zs
    unfold inD at ih ⊢
    rw [dS, List.map_cons, List.any_cons, ih]
    unfold D.eqv
    by_cases h : y = z
    · subst h
      simp
    · by_cases h2 : z ∈ zs
      · simp [h2]
      · simp [h, h2, Ne.symm h]
theorem in_strs {z : Str} {zs : List Str} : dIn (.str z) (.lst (dS zs)) = .ok (.bl (decide (z ∈ zs))) := by
  have q : dIn (.str z) (.lst (dS zs)) = if flatD (.str z) && (dS zs).all flatD then .ok (.bl (inD (.str z) (dS zs))) else .bad := rfl
  rw [q, flat_strs, inD_strs] <;> rfl
theorem in_strsK {z : Str} {zs : List Str} : dIn (.str z) (.ktp (dS zs)) = .ok (.bl (decide (z ∈ zs))) := by
  have q : dIn (.str z) (.ktp (dS zs)) = if flatD (.str z) && (dS zs).all flatD then .ok (.bl (inD (.str z) (dS zs))) else .bad := rfl
  rw [q, flat_strs, inD_strs] <;> rfl
theorem in_strsT {z : Str} {zs : List Str} : dIn (.str z) (.tup (dS zs)) = .ok (.bl (decide (z ∈ zs))) := by
  have q : dIn (.str z) (.tup (dS zs)) = if flatD (.str z) && (dS zs).all flatD then .ok (.bl (inD (.str z) (dS zs))) else .bad := rfl
  rw [q, flat_strs, inD_strs] <;> rfl
theorem notIn_of {x y : D} {b : Bool} (h : dIn x y = .ok (.bl b)) : dNotIn x y = .ok (.bl !b) := by unfold dNotIn; rw [h]; rfl
def tOf (r : Option (List D → R D)) (k : (List D → R D) → R D) : R D := match r with
  | some m => k m
  | none => .bad
def pOf (tb : Nat → Option (List D → R D)) (s : Option Sl) (k : (List D → R D) → R D) : R D := match s with
  | some (.val (.fn n)) => tOf (tb n) k
  | _ => .bad
theorem tOf_some {m : List D → R D} {k : (List D → R D) → R D} : tOf (some m) k = k m := rfl
theorem pOf_fn {tb : Nat → Option (List D → R D)} {n : Nat} {k : (List D → R D) → R D} : pOf tb (some (.val (.fn n))) k = tOf (tb n) k := rfl
theorem ap_P {tb : Nat → Option (List D → R D)} {i : Nat} {la : SA} {env : Dm.Env} : eP tb i la env = pOf tb env[i]? fun m => (la env).bind m := by
  unfold eP pOf tOf
  cases env[i]? with
  | none => rfl
  | some s =>
    cases s with
    | val d => cases d <;> rfl
    | _ => rfl
def itZT : List D → R (List D)
  | [.tup xs, .tup ys] => .ok (zipD xs ys)
  | _ => .bad
theorem ap_iZT {la : SA} {env : Dm.Env} : iZT la env = (la env).bind itZT := by
  unfold iZT
  congr 1
theorem itZT_ok {xs ys : List D} : itZT [.tup xs, .tup ys] = .ok (zipD xs ys) := rfl
theorem zipD_cons {x y : D} {xs ys : List D} : zipD (x :: xs) (y :: ys) = .tup [x, y] :: zipD xs ys := rfl
theorem zipD_nil {ys : List D} : zipD [] ys = [] := by unfold zipD; rfl
theorem forGo_nil {g : SG} {b : SS} {env : Dm.Env} : forGo g b [] env = .nx env := rfl
theorem str_i {i : Int} : fStr [.int i] = if i.natAbs.log2 < 1920 then .ok (.str (Str.ofString (toString i))) else .bad := rfl
/-- a number, where P -/
def OkP (P : Int → Prop) : R D → Prop
  | .ok (.int i) => P i
  | _ => False
theorem okP {P : Int → Prop} {i : Int} : OkP P (.ok (.int i)) = P i := rfl
theorem OkP.ex {P : Int → Prop} : ∀ {r : R D}, OkP P r → ∃ i, r = .ok (.int i) ∧ P i
  | .ok (.int i), h => ⟨i, rfl, h⟩
  | .ok .non, h | .ok (.str _), h | .ok (.bl _), h | .ok (.lst _), h | .ok (.scr _), h | .ok (.tup _), h | .ok (.ktp _), h | .ok (.fn _), h | .ok (.dct _ _), h | .exc _ _, h | .bad, h => h.elim
theorem gT_tup {n : Nat} {r : SGs} {ds : List D} {env : Env} : gT n r (.tup ds) env = if ds.length = n then r ds env else none := rfl
theorem gT_ktp {n : Nat} {r : SGs} {ds : List D} {env : Env} : gT n r (.ktp ds) env = if ds.length = n then r ds env else none := rfl
theorem gC_ap {i : Nat} {r : SGs} {d : D} {ds : List D} {env : Env} : gC (gN i) r (d :: ds) env = r ds (env.set i (.val d)) := rfl
theorem gE_nil {env : Env} : gE [] env = some env := rfl
theorem ixL_get {ns : List Int} {p : Nat} {x : Int} (h : ns[p]? = some x) : ixL (ns.map .int) p = .ok (.int x) := by
  have hl : p < ns.length := by
    rcases Nat.lt_or_ge p ns.length with h2 | h2
    · exact h2
    · rw [List.getElem?_eq_none h2] at h; cases h
  unfold ixL atI
  rw [List.length_map, ixN_ok (by omega) (by omega), Option.bind_some, Int.toNat_natCast, List.getElem?_map, h]
  rfl
theorem ipow_le {b k : Nat} (h : b ≤ k) : (2 : Int) ^ b ≤ 2 ^ k := by
  have q := Nat.pow_le_pow_right (show 0 < 2 by decide) h
  exact_mod_cast q
/-- a list of numbers as data -/
abbrev dI (ns : List Int) : List D := ns.map .int
theorem eqv_ints : ∀ ns ms : List Int, eqvAll (dI ns) (dI ms) = decide (ns = ms)
  | [], [] => rfl
  | [], _ :: _ => rfl
  | _ :: _, [] => rfl
  | n :: ns, m :: ms => by
    rw [dI, dI, List.map_cons, List.map_cons]
    unfold eqvAll
    rw [eqv_ints ns ms]
    unfold D.eqv
    by_cases h : n = m
    · subst h
      by_cases h2 : ns = ms <;> simp [h2]
    · simp [h]
theorem shp_ints (n : Nat) : ∀ ns : List Int, shpAll n (dI ns) = true
  | [] => rfl
  | m :: ns => by
    rw [dI, List.map_cons]
    unfold shpAll
    rw [shp_ints n ns]
    cases n <;> rfl
theorem eq_ints {ns ms : List Int} : dEq (.lst (dI ns)) (.lst (dI ms)) = .ok (.bl (decide (ns = ms))) := by
  unfold dEq
  dsimp only
  have e : ∀ xs : List Int, (D.lst (dI xs)).shp 64 = true := fun xs => shp_ints 63 xs
  rw [e, e, if_pos (show (true && true) = true from rfl)]
  unfold D.eqv
  rw [eqv_ints]
theorem ne_ints {ns ms : List Int} : dNe (.lst (dI ns)) (.lst (dI ms)) = .ok (.bl (!decide (ns = ms))) := ne_of eq_ints
theorem lcGo_map {g : SG} {e : SE} {env : Env} (f : D → D) : ∀ (ds acc : List D), (∀ d, d ∈ ds → ∃ env2, g d env = some env2 ∧ e env2 = .ok (f d)) → lcGo g tY e env ds acc = .ok (acc ++ ds.map f)
  | [], acc, _ => by unfold lcGo; rw [List.map_nil, List.append_nil]
  | d :: ds, acc, h => by
    obtain ⟨e2, h1, h2⟩ := h d List.mem_cons_self
    unfold lcGo
    rw [h1]
    dsimp only
    have z : noX (tY e2) = .ok true := rfl
    have z2 : noX (e e2) = .ok (f d) := by rw [h2]; rfl
    rw [z, bind_ok, if_pos rfl, z2, bind_ok, lcGo_map f ds _ fun d hd => h d (List.mem_cons_of_mem _ hd), List.append_assoc]
    rfl
/-- a comprehension without a test -/
theorem lc_map {it : SA} {g : SG} {e : SE} {vs : List Nat} {env : Env} {ds : List D} (f : D → D) (hi : it env = .ok ds) (hl : ds.length ≤ 40000) (h : ∀ d, d ∈ ds → ∃ env2, g d (wipeS env vs) = some env2 ∧ e env2 = .ok (f d)) : lLc it g tY e vs env = .ok (ds.map f) := by
  unfold lLc
  rw [hi, bind_ok, if_pos hl, lcGo_map f ds [] h, List.nil_append]
theorem wipe1_len (env : Dm.Env) (j : Nat) : (wipeS env [j]).length = env.length := by unfold wipeS wipeS; rw [List.length_set]
/-- [int(x) for x in xs] of numbers -/
theorem lc_ints {it : SA} {env : Dm.Env} {ns : List Int} {j : Nat} (h : it env = .ok (dI ns)) (hl : ns.length ≤ 40000) (hj : j < env.length) : lLc it (gN j) tY (eF fInt (eCons (eV j) eNil)) [j] env = .ok (dI ns) := by
  have e : (dI ns).map id = dI ns := List.map_id _
  rw [← e]
  refine lc_map id h (by rw [List.length_map]; exact hl) fun d hd => ⟨_, gN_ap, ?_⟩
  obtain ⟨n, _, rfl⟩ := List.mem_map.mp hd
  have q : ((wipeS env [j]).set j (.val (.int n)))[j]? = some (.val (.int n)) := by
    rw [List.getElem?_set, if_pos rfl, if_pos (by rw [wipe1_len]; exact hj)]
  unfold eF eCons eNil eV
  rw [q]
  rfl
mutual
theorem eqv_self : ∀ (d : D) (n : Nat), d.shp n = true → d.eqv d = true
  | .non, _, _ => rfl
  | .bl b, _, _ => by unfold D.eqv; exact beq_self_eq_true b
  | .int i, _, _ => by unfold D.eqv; exact beq_self_eq_true i
  | .str i, _, _ => by unfold D.eqv; exact beq_self_eq_true i
  | .lst xs, 0, h => by cases h
  | .lst xs, n + 1, h => by unfold D.eqv; exact eqvAll_self xs n h
  | .scr xs, 0, h => by cases h
  | .scr xs, n + 1, h => by unfold D.eqv; exact eqvAll_self xs n h
  | .tup xs, 0, h => by cases h
  | .tup xs, n + 1, h => by unfold D.eqv; exact eqvAll_self xs n h
  | .ktp xs, 0, h => by cases h
  | .ktp xs, n + 1, h => by unfold D.eqv; exact eqvAll_self xs n h
  | .fn _, 0, h => by cases h
  | .fn _, _ + 1, h => by cases h
  | .dct _ _, 0, h => by cases h
  | .dct _ _, _ + 1, h => by cases h
theorem eqvAll_self : ∀ (ds : List D) (n : Nat), shpAll n ds = true → eqvAll ds ds = true
  | [], _, _ => rfl
  | d :: ds, n, h => by
    unfold shpAll at h
    rw [Bool.and_eq_true] at h
    unfold eqvAll
    rw [eqv_self d n h.1, eqvAll_self ds n h.2] <;> rfl
end
theorem dEq_self {x : D} (h : x.shp 64 = true) : dEq x x = .ok (.bl true) := by
  have z : (x.shp 64 && x.shp 64) = true := by rw [h] <;> rfl
  cases x with
  | int i => unfold dEq; simp
  | str i => unfold dEq; simp
  | non => unfold dEq; dsimp only; rw [if_pos z, eqv_self _ 64 h]
  | bl b => unfold dEq; dsimp only; rw [if_pos z, eqv_self _ 64 h]
  | lst b => unfold dEq; dsimp only; rw [if_pos z, eqv_self _ 64 h]
  | scr b => unfold dEq; dsimp only; rw [if_pos z, eqv_self _ 64 h]
  | tup b => unfold dEq; dsimp only; rw [if_pos z, eqv_self _ 64 h]
  | ktp b => unfold dEq; dsimp only; rw [if_pos z, eqv_self _ 64 h]
  | fn n => cases h
  | dct a b => cases h
theorem dNe_self {x : D} (h : x.shp 64 = true) : dNe x x = .ok (.bl false) := ne_of (dEq_self h)
theorem sq_rt {a b : SS} {env : Dm.Env} {v : Sl} (h : a env = .rt v) : sSeq a b env = .rt v := by unfold sSeq; rw [h]
theorem sq_ofnx {a b : SS} {env e : Dm.Env} (h : a env = .nx e) : sSeq a b env = b e := by unfold sSeq; rw [h]
theorem sq_exc {a b : SS} {env e : Dm.Env} {c : Nat} {fs : List (Str × D)} (h : a env = .exc c fs e) : sSeq a b env = .exc c fs e := by unfold sSeq; rw [h]
theorem try_rt {b h : SS} {i : Nat} {cs : Nat → Option Bool} {env : Dm.Env} {v : Sl} (q : b env = .rt v) : sTry b i cs h env = .rt v := by unfold sTry; rw [q]
theorem try_nx {b h : SS} {i : Nat} {cs : Nat → Option Bool} {env e : Dm.Env} (q : b env = .nx e) : sTry b i cs h env = .nx e := by unfold sTry; rw [q]
theorem try_exc_rt {b h : SS} {i c : Nat} {fs : List (Str × D)} {cs : Nat → Option Bool} {env e2 : Dm.Env} {v : Sl} (q : b env = .exc c fs e2) (hc : cs c = some true) (hn : noExn e2 = true) (hh : h (e2.set i (.exn c fs)) = .rt v) : sTry b i cs h env = .rt v := by
  unfold sTry
  rw [q]
  dsimp only
  rw [hc]
  dsimp only
  rw [hn, hh]
  rfl
theorem try_exc_nx {b h : SS} {i c : Nat} {fs : List (Str × D)} {cs : Nat → Option Bool} {env e2 e3 : Dm.Env} (q : b env = .exc c fs e2) (hc : cs c = some true) (hn : noExn e2 = true) (hh : h (e2.set i (.exn c fs)) = .nx e3) (h3 : noExn (e3.set i .un) = true) : sTry b i cs h env = .nx (e3.set i .un) := by
  unfold sTry
  rw [q]
  dsimp only
  rw [hc]
  dsimp only
  rw [hn, hh]
  unfold ifB
  rw [if_pos rfl]
  dsimp only
  rw [if_pos h3]
theorem ty_bs {i : Str} : isTy .bool (.str i) = false := rfl
theorem ty_is {i : Str} : isTy .int (.str i) = false := rfl
/-- the run goes on, where P -/
def NxP (P : Dm.Env → Prop) : RS → Prop
  | .nx e | .ct e => P e
  | _ => False
theorem nxP_nx {P : Dm.Env → Prop} {e : Dm.Env} : NxP P (.nx e) = P e := rfl
theorem nxP_ct {P : Dm.Env → Prop} {e : Dm.Env} : NxP P (.ct e) = P e := rfl
theorem NxP.ex {P : Dm.Env → Prop} : ∀ {r : RS}, NxP P r → ∃ e, (r = .nx e ∨ r = .ct e) ∧ P e
  | .nx e, h => ⟨e, Or.inl rfl, h⟩
  | .ct e, h => ⟨e, Or.inr rfl, h⟩
  | .rt _, h | .bk _, h | .exc _ _ _, h | .bad, h => h.elim
/-- a walk of a row of numbers: every turn goes on, and keeps P -/
theorem forGo_P {i : Nat} {b : SS} {P : Dm.Env → Prop} : ∀ (ds : List D) (env : Dm.Env), P env → (∀ d env, d ∈ ds → P env → NxP P (b (env.set i (.val d)))) → ∃ e, forGo (gN i) b ds env = .nx e ∧ P e
  | [], env, h, _ => ⟨env, rfl, h⟩
  | d :: ds, env, h, hs => by
    obtain ⟨e, h1, h2⟩ := (hs d env List.mem_cons_self h).ex
    obtain ⟨e2, q1, q2⟩ := forGo_P ds e h2 fun d env hd => hs d env (List.mem_cons_of_mem _ hd)
    refine ⟨e2, ?_, q2⟩
    rw [forGo_cons gN_ap]
    rcases h1 with h1 | h1 <;> rw [h1] <;> exact q1
/-- .. with a count -/
theorem forGo_PN {i : Nat} {b : SS} (P : Nat → Dm.Env → Prop) : ∀ (ds : List D) (k : Nat) (env : Dm.Env), P k env → (∀ n d env, d ∈ ds → k ≤ n → n < k + ds.length → P n env → NxP (P (n + 1)) (b (env.set i (.val d)))) → ∃ e, forGo (gN i) b ds env = .nx e ∧ P (k + ds.length) e
  | [], k, env, h, _ => ⟨env, rfl, h⟩
  | d :: ds, k, env, h, hs => by
    obtain ⟨e, h1, h2⟩ := (hs k d env List.mem_cons_self (Nat.le_refl k) (by rw [List.length_cons]; omega) h).ex
    obtain ⟨e2, q1, q2⟩ := forGo_PN P ds (k + 1) e h2 fun n d env hd hn hm => hs n d env (List.mem_cons_of_mem _ hd) (by omega) (by rw [List.length_cons]; omega)
    refine ⟨e2, ?_, by rw [List.length_cons, show k + (ds.length + 1) = k + 1 + ds.length by omega]; exact q2⟩
    rw [forGo_cons gN_ap]
    rcases h1 with h1 | h1 <;> rw [h1] <;> exact q1
theorem mem_range {n : Nat} {d : D} (h : d ∈ (List.range n).map fun (i : Nat) => D.int i) : ∃ i : Nat, i < n ∧ d = .int i := by
  obtain ⟨i, h1, rfl⟩ := List.mem_map.mp h
  exact ⟨i, List.mem_range.mp h1, rfl⟩
/-- a walk of range(n) -/
theorem forGo_range {i : Nat} {b : SS} (P : Nat → Dm.Env → Prop) (n : Nat) (env : Dm.Env) (h : P 0 env) (hs : ∀ k env, k < n → P k env → NxP (P (k + 1)) (b (env.set i (.val (.int (k : Int)))))) : ∃ e, forGo (gN i) b ((List.range n).map fun (i : Nat) => D.int i) env = .nx e ∧ P n e := by
  obtain ⟨e, q1, q2⟩ := forGo_nx (g := gN i) (b := b) P ((List.range n).map fun (i : Nat) => D.int i) 0 env h fun k d env hk hI => by
    obtain ⟨hlt, rfl⟩ := range_at hk
    rw [Nat.zero_add] at hI
    obtain ⟨e3, h3, h4⟩ := (hs k env hlt hI).ex
    exact ⟨_, e3, gN_ap, h3, by rw [Nat.zero_add]; exact h4⟩
  rw [Nat.zero_add, List.length_map, List.length_range] at q2
  exact ⟨e, q1, q2⟩
theorem ne_self {ns : List Int} : dNe (.lst (dI ns)) (.lst (dI ns)) = .ok (.bl false) := by rw [ne_ints, decide_eq_true rfl] <;> rfl
theorem cutG_to {α : Type} (xs : List α) (n : Nat) : cutG xs none (some (n : Int)) = xs.take n := by
  unfold cutG
  rw [HT.sIx_none, HT.sIx_nat, List.drop_zero, Nat.sub_zero, List.take_eq_take_iff]
  omega
theorem map_take {α β : Type} (f : α → β) (xs : List α) (n : Nat) : (xs.map f).take n = (xs.take n).map f := by rw [List.map_take]
/-- an item assigned -/
def setX (xs : List D) (d : D) (k : List D → RS) : D → RS
  | .int j => match ixN xs.length j with
    | some n => k (xs.set n d)
    | none => .bad
  | _ => .bad
def oOfS : Option Sl → (List D → RS) → RS
  | some (.own xs), k => k xs
  | _, _ => .bad
theorem oOfS_o {xs : List D} {k : List D → RS} : oOfS (some (.own xs)) k = k xs := rfl
theorem sq_set {i : Nat} {k e : SE} {q : SS} {env : Dm.Env} : sSeq (sSet i k e) q env = oOfS env[i]? fun xs => ofE (e env) env fun d => ofE (k env) env fun j => setX xs d (fun ys => q (env.set i (.own ys))) j := by
  unfold sSeq sSet oOfS
  cases env[i]? with
  | none => rfl
  | some s =>
    cases s with
    | own xs =>
      dsimp only
      unfold ofE
      cases e env with
      | ok d =>
        dsimp only
        cases k env with
        | ok j =>
          dsimp only
          unfold setX
          cases j with
          | int j =>
            dsimp only
            cases ixN xs.length j <;> rfl
          | _ => rfl
        | _ => rfl
      | _ => rfl
    | _ => rfl
theorem setX_ok {xs : List D} {d : D} {k : List D → RS} {j : Int} (h0 : 0 ≤ j) (h1 : j < xs.length) : setX xs d k (.int j) = k (xs.set j.toNat d) := by
  unfold setX
  dsimp only
  rw [ixN_ok h0 h1]
theorem set_ints {ns : List Int} {p : Nat} {x : Int} : (dI ns).set p (.int x) = dI (ns.set p x) := by rw [dI, dI, List.map_set]
end Dm
set_option Elab.async false
set_option linter.all false
set_option maxRecDepth 100000
set_option maxHeartbeats 4000000

namespace Lk09
open PySem L2 Dm
def d_WIDTHS : D := .dct ["i32", "i64"] [.int (32), .int (64)]
def d_ARITHMETIC : D := .dct ["add", "sub", "mul", "div_s", "div_u", "rem_s", "rem_u", "and", "or", "xor", "shl", "shr_s", "shr_u", "rotl", "rotr"] [.fn 5, .fn 6, .fn 7, .fn 9, .fn 10, .fn 11, .fn 12, .fn 13, .fn 14, .fn 15, .fn 17, .fn 18, .fn 19, .fn 20, .fn 21]
def d_COMPARISONS : D := .dct ["eq", "ne", "lt_s", "lt_u", "gt_s", "gt_u", "le_s", "le_u", "ge_s", "ge_u"] [.fn 22, .fn 23, .fn 24, .fn 28, .fn 25, .fn 29, .fn 26, .fn 30, .fn 27, .fn 31]
def d_COUNTS : D := .dct ["clz", "ctz", "popcnt", "extend8_s", "extend16_s"] [.fn 33, .fn 34, .fn 35, .fn 36, .fn 37]
def d_CONVERSIONS : D := .dct ["i32.wrap_i64", "i64.extend_i32_s", "i64.extend_i32_u"] [.fn 38, .fn 38, .fn 39]
def d_INSTRUCTIONS : D := .tup [.str "i32.eqz", .str "i32.eq", .str "i32.ne", .str "i32.lt_s", .str "i32.lt_u", .str "i32.gt_s", .str "i32.gt_u", .str "i32.le_s", .str "i32.le_u", .str "i32.ge_s", .str "i32.ge_u", .str "i64.eqz", .str "i64.eq", .str "i64.ne", .str "i64.lt_s", .str "i64.lt_u", .str "i64.gt_s", .str "i64.gt_u", .str "i64.le_s", .str "i64.le_u", .str "i64.ge_s", .str "i64.ge_u", .str "i32.clz", .str "i32.ctz", .str "i32.popcnt", .str "i32.add", .str "i32.sub", .str "i32.mul", .str "i32.div_s", .str "i32.div_u", .str "i32.rem_s", .str "i32.rem_u", .str "i32.and", .str "i32.or", .str "i32.xor", .str "i32.shl", .str "i32.shr_s", .str "i32.shr_u", .str "i32.rotl", .str "i32.rotr", .str "i64.clz", .str "i64.ctz", .str "i64.popcnt", .str "i64.add", .str "i64.sub", .str "i64.mul", .str "i64.div_s", .str "i64.div_u", .str "i64.rem_s", .str "i64.rem_u", .str "i64.and", .str "i64.or", .str "i64.xor", .str "i64.shl", .str "i64.shr_s", .str "i64.shr_u", .str "i64.rotl", .str "i64.rotr", .str "i32.wrap_i64", .str "i64.extend_i32_s", .str "i64.extend_i32_u", .str "i32.extend8_s", .str "i32.extend16_s", .str "i64.extend8_s", .str "i64.extend16_s", .str "i64.extend32_s"]
def b_width : SS :=
  (sSeq (sRet (eB dIx (eC d_WIDTHS) (eV 0)))
  sNx)
def m_width : List D → R D := defV 1 0 b_width
theorem e_width (x0 : D) : m_width [x0] = endV (b_width [.val x0]) := defV_ap rfl
def b_unsigned : SS :=
  (sSeq (sRet (eB dAnd (eV 1) (eB dSub (eB dShl (eC (.int 1)) (eF m_width (eCons (eV 0) eNil))) (eC (.int 1)))))
  sNx)
def m_unsigned : List D → R D := defV 2 0 b_unsigned
theorem e_unsigned (x0 x1 : D) : m_unsigned [x0, x1] = endV (b_unsigned [.val x0, .val x1]) := defV_ap rfl
def b_extend : SS :=
  (sSeq (sA 2 (eB dAnd (eV 0) (eB dSub (eB dShl (eC (.int 1)) (eV 1)) (eC (.int 1)))))
  (sSeq (sIf (tE (eB dGe (eV 2) (eB dShl (eC (.int 1)) (eB dSub (eV 1) (eC (.int 1)))))) (sSeq (sRet (eB dSub (eV 2) (eB dShl (eC (.int 1)) (eV 1))))
  sNx) sNx)
  (sSeq (sRet (eV 2))
  sNx)))
def m_extend : List D → R D := defV 2 1 b_extend
theorem e_extend (x0 x1 : D) : m_extend [x0, x1] = endV (b_extend [.val x0, .val x1, .un]) := defV_ap rfl
def b_signed : SS :=
  (sSeq (sRet (eF m_extend (eCons (eV 1) (eCons (eF m_width (eCons (eV 0) eNil)) eNil))))
  sNx)
def m_signed : List D → R D := defV 2 0 b_signed
theorem e_signed (x0 x1 : D) : m_signed [x0, x1] = endV (b_signed [.val x0, .val x1]) := defV_ap rfl
def b_in_range : SS :=
  (sSeq (sRet (eB dEq (eF m_signed (eCons (eV 0) (eCons (eV 1) eNil))) (eV 1)))
  sNx)
def m_in_range : List D → R D := defV 2 0 b_in_range
theorem e_in_range (x0 x1 : D) : m_in_range [x0, x1] = endV (b_in_range [.val x0, .val x1]) := defV_ap rfl
def b_add : SS :=
  (sSeq (sRet (eF m_signed (eCons (eV 0) (eCons (eB dAdd (eV 1) (eV 2)) eNil))))
  sNx)
def m_add : List D → R D := defV 3 0 b_add
theorem e_add (x0 x1 x2 : D) : m_add [x0, x1, x2] = endV (b_add [.val x0, .val x1, .val x2]) := defV_ap rfl
def b_sub : SS :=
  (sSeq (sRet (eF m_signed (eCons (eV 0) (eCons (eB dSub (eV 1) (eV 2)) eNil))))
  sNx)
def m_sub : List D → R D := defV 3 0 b_sub
theorem e_sub (x0 x1 x2 : D) : m_sub [x0, x1, x2] = endV (b_sub [.val x0, .val x1, .val x2]) := defV_ap rfl
def b_mul : SS :=
  (sSeq (sRet (eF m_signed (eCons (eV 0) (eCons (eB dMul (eV 1) (eV 2)) eNil))))
  sNx)
def m_mul : List D → R D := defV 3 0 b_mul
theorem e_mul (x0 x1 x2 : D) : m_mul [x0, x1, x2] = endV (b_mul [.val x0, .val x1, .val x2]) := defV_ap rfl
def b_quotient : SS :=
  (sSeq (sA 2 (eB dDiv (eF fAbs (eCons (eV 0) eNil)) (eF fAbs (eCons (eV 1) eNil))))
  (sSeq (sIf (tE (eB dEq (eB dLt (eV 0) (eC (.int 0))) (eB dLt (eV 1) (eC (.int 0))))) (sSeq (sRet (eV 2))
  sNx) sNx)
  (sSeq (sRet (eU dNeg (eV 2)))
  sNx)))
def m_quotient : List D → R D := defV 2 1 b_quotient
theorem e_quotient (x0 x1 : D) : m_quotient [x0, x1] = endV (b_quotient [.val x0, .val x1, .un]) := defV_ap rfl
def b_div_s : SS :=
  (sSeq (sIf (tE (eB dEq (eV 2) (eC (.int 0)))) (sSeq (sRaise 1001 ["reason"] (eCons (eC (.str "integer divide by zero")) eNil))
  sNx) sNx)
  (sSeq (sA 3 (eF m_quotient (eCons (eV 1) (eCons (eV 2) eNil))))
  (sSeq (sIf (tN (tE (eF m_in_range (eCons (eV 0) (eCons (eV 3) eNil))))) (sSeq (sRaise 1001 ["reason"] (eCons (eC (.str "integer overflow")) eNil))
  sNx) sNx)
  (sSeq (sRet (eV 3))
  sNx))))
def m_div_s : List D → R D := defV 3 1 b_div_s
theorem e_div_s (x0 x1 x2 : D) : m_div_s [x0, x1, x2] = endV (b_div_s [.val x0, .val x1, .val x2, .un]) := defV_ap rfl
def b_div_u : SS :=
  (sSeq (sIf (tE (eB dEq (eV 2) (eC (.int 0)))) (sSeq (sRaise 1001 ["reason"] (eCons (eC (.str "integer divide by zero")) eNil))
  sNx) sNx)
  (sSeq (sRet (eF m_signed (eCons (eV 0) (eCons (eB dDiv (eF m_unsigned (eCons (eV 0) (eCons (eV 1) eNil))) (eF m_unsigned (eCons (eV 0) (eCons (eV 2) eNil)))) eNil))))
  sNx))
def m_div_u : List D → R D := defV 3 0 b_div_u
theorem e_div_u (x0 x1 x2 : D) : m_div_u [x0, x1, x2] = endV (b_div_u [.val x0, .val x1, .val x2]) := defV_ap rfl
def b_rem_s : SS :=
  (sSeq (sIf (tE (eB dEq (eV 2) (eC (.int 0)))) (sSeq (sRaise 1001 ["reason"] (eCons (eC (.str "integer divide by zero")) eNil))
  sNx) sNx)
  (sSeq (sRet (eB dSub (eV 1) (eB dMul (eV 2) (eF m_quotient (eCons (eV 1) (eCons (eV 2) eNil))))))
  sNx))
def m_rem_s : List D → R D := defV 3 0 b_rem_s
theorem e_rem_s (x0 x1 x2 : D) : m_rem_s [x0, x1, x2] = endV (b_rem_s [.val x0, .val x1, .val x2]) := defV_ap rfl
def b_rem_u : SS :=
  (sSeq (sIf (tE (eB dEq (eV 2) (eC (.int 0)))) (sSeq (sRaise 1001 ["reason"] (eCons (eC (.str "integer divide by zero")) eNil))
  sNx) sNx)
  (sSeq (sA 3 (eF m_unsigned (eCons (eV 0) (eCons (eV 1) eNil))))
  (sSeq (sA 4 (eF m_unsigned (eCons (eV 0) (eCons (eV 2) eNil))))
  (sSeq (sRet (eF m_signed (eCons (eV 0) (eCons (eB dSub (eV 3) (eB dMul (eV 4) (eB dDiv (eV 3) (eV 4)))) eNil))))
  sNx))))
def m_rem_u : List D → R D := defV 3 2 b_rem_u
theorem e_rem_u (x0 x1 x2 : D) : m_rem_u [x0, x1, x2] = endV (b_rem_u [.val x0, .val x1, .val x2, .un, .un]) := defV_ap rfl
def b_bit_and : SS :=
  (sSeq (sRet (eB dAnd (eV 1) (eV 2)))
  sNx)
def m_bit_and : List D → R D := defV 3 0 b_bit_and
theorem e_bit_and (x0 x1 x2 : D) : m_bit_and [x0, x1, x2] = endV (b_bit_and [.val x0, .val x1, .val x2]) := defV_ap rfl
def b_bit_or : SS :=
  (sSeq (sRet (eB dOr (eV 1) (eV 2)))
  sNx)
def m_bit_or : List D → R D := defV 3 0 b_bit_or
theorem e_bit_or (x0 x1 x2 : D) : m_bit_or [x0, x1, x2] = endV (b_bit_or [.val x0, .val x1, .val x2]) := defV_ap rfl
def b_bit_xor : SS :=
  (sSeq (sRet (eB dXor (eV 1) (eV 2)))
  sNx)
def m_bit_xor : List D → R D := defV 3 0 b_bit_xor
theorem e_bit_xor (x0 x1 x2 : D) : m_bit_xor [x0, x1, x2] = endV (b_bit_xor [.val x0, .val x1, .val x2]) := defV_ap rfl
def b_shift_count : SS :=
  (sSeq (sRet (eB dAnd (eV 1) (eB dSub (eF m_width (eCons (eV 0) eNil)) (eC (.int 1)))))
  sNx)
def m_shift_count : List D → R D := defV 2 0 b_shift_count
theorem e_shift_count (x0 x1 : D) : m_shift_count [x0, x1] = endV (b_shift_count [.val x0, .val x1]) := defV_ap rfl
def b_shl : SS :=
  (sSeq (sRet (eF m_signed (eCons (eV 0) (eCons (eB dShl (eV 1) (eF m_shift_count (eCons (eV 0) (eCons (eV 2) eNil)))) eNil))))
  sNx)
def m_shl : List D → R D := defV 3 0 b_shl
theorem e_shl (x0 x1 x2 : D) : m_shl [x0, x1, x2] = endV (b_shl [.val x0, .val x1, .val x2]) := defV_ap rfl
def b_shr_s : SS :=
  (sSeq (sRet (eB dShr (eV 1) (eF m_shift_count (eCons (eV 0) (eCons (eV 2) eNil)))))
  sNx)
def m_shr_s : List D → R D := defV 3 0 b_shr_s
theorem e_shr_s (x0 x1 x2 : D) : m_shr_s [x0, x1, x2] = endV (b_shr_s [.val x0, .val x1, .val x2]) := defV_ap rfl
def b_shr_u : SS :=
  (sSeq (sRet (eF m_signed (eCons (eV 0) (eCons (eB dShr (eF m_unsigned (eCons (eV 0) (eCons (eV 1) eNil))) (eF m_shift_count (eCons (eV 0) (eCons (eV 2) eNil)))) eNil))))
  sNx)
def m_shr_u : List D → R D := defV 3 0 b_shr_u
theorem e_shr_u (x0 x1 x2 : D) : m_shr_u [x0, x1, x2] = endV (b_shr_u [.val x0, .val x1, .val x2]) := defV_ap rfl
def b_rotl : SS :=
  (sSeq (sA 3 (eF m_shift_count (eCons (eV 0) (eCons (eV 2) eNil))))
  (sSeq (sA 4 (eF m_unsigned (eCons (eV 0) (eCons (eV 1) eNil))))
  (sSeq (sRet (eF m_signed (eCons (eV 0) (eCons (eB dOr (eB dShl (eV 4) (eV 3)) (eB dShr (eV 4) (eB dSub (eF m_width (eCons (eV 0) eNil)) (eV 3)))) eNil))))
  sNx)))
def m_rotl : List D → R D := defV 3 2 b_rotl
theorem e_rotl (x0 x1 x2 : D) : m_rotl [x0, x1, x2] = endV (b_rotl [.val x0, .val x1, .val x2, .un, .un]) := defV_ap rfl
def b_rotr : SS :=
  (sSeq (sA 3 (eF m_shift_count (eCons (eV 0) (eCons (eV 2) eNil))))
  (sSeq (sA 4 (eF m_unsigned (eCons (eV 0) (eCons (eV 1) eNil))))
  (sSeq (sRet (eF m_signed (eCons (eV 0) (eCons (eB dOr (eB dShr (eV 4) (eV 3)) (eB dShl (eV 4) (eB dSub (eF m_width (eCons (eV 0) eNil)) (eV 3)))) eNil))))
  sNx)))
def m_rotr : List D → R D := defV 3 2 b_rotr
theorem e_rotr (x0 x1 x2 : D) : m_rotr [x0, x1, x2] = endV (b_rotr [.val x0, .val x1, .val x2, .un, .un]) := defV_ap rfl
def b_eq : SS :=
  (sSeq (sRet (eF fInt (eCons (eB dEq (eV 1) (eV 2)) eNil)))
  sNx)
def m_eq : List D → R D := defV 3 0 b_eq
theorem e_eq (x0 x1 x2 : D) : m_eq [x0, x1, x2] = endV (b_eq [.val x0, .val x1, .val x2]) := defV_ap rfl
def b_ne : SS :=
  (sSeq (sRet (eF fInt (eCons (eB dNe (eV 1) (eV 2)) eNil)))
  sNx)
def m_ne : List D → R D := defV 3 0 b_ne
theorem e_ne (x0 x1 x2 : D) : m_ne [x0, x1, x2] = endV (b_ne [.val x0, .val x1, .val x2]) := defV_ap rfl
def b_lt_s : SS :=
  (sSeq (sRet (eF fInt (eCons (eB dLt (eV 1) (eV 2)) eNil)))
  sNx)
def m_lt_s : List D → R D := defV 3 0 b_lt_s
theorem e_lt_s (x0 x1 x2 : D) : m_lt_s [x0, x1, x2] = endV (b_lt_s [.val x0, .val x1, .val x2]) := defV_ap rfl
def b_gt_s : SS :=
  (sSeq (sRet (eF fInt (eCons (eB dGt (eV 1) (eV 2)) eNil)))
  sNx)
def m_gt_s : List D → R D := defV 3 0 b_gt_s
theorem e_gt_s (x0 x1 x2 : D) : m_gt_s [x0, x1, x2] = endV (b_gt_s [.val x0, .val x1, .val x2]) := defV_ap rfl
def b_le_s : SS :=
  (sSeq (sRet (eF fInt (eCons (eB dLe (eV 1) (eV 2)) eNil)))
  sNx)
def m_le_s : List D → R D := defV 3 0 b_le_s
theorem e_le_s (x0 x1 x2 : D) : m_le_s [x0, x1, x2] = endV (b_le_s [.val x0, .val x1, .val x2]) := defV_ap rfl
def b_ge_s : SS :=
  (sSeq (sRet (eF fInt (eCons (eB dGe (eV 1) (eV 2)) eNil)))
  sNx)
def m_ge_s : List D → R D := defV 3 0 b_ge_s
theorem e_ge_s (x0 x1 x2 : D) : m_ge_s [x0, x1, x2] = endV (b_ge_s [.val x0, .val x1, .val x2]) := defV_ap rfl
def b_lt_u : SS :=
  (sSeq (sRet (eF fInt (eCons (eB dLt (eF m_unsigned (eCons (eV 0) (eCons (eV 1) eNil))) (eF m_unsigned (eCons (eV 0) (eCons (eV 2) eNil)))) eNil)))
  sNx)
def m_lt_u : List D → R D := defV 3 0 b_lt_u
theorem e_lt_u (x0 x1 x2 : D) : m_lt_u [x0, x1, x2] = endV (b_lt_u [.val x0, .val x1, .val x2]) := defV_ap rfl
def b_gt_u : SS :=
  (sSeq (sRet (eF fInt (eCons (eB dGt (eF m_unsigned (eCons (eV 0) (eCons (eV 1) eNil))) (eF m_unsigned (eCons (eV 0) (eCons (eV 2) eNil)))) eNil)))
  sNx)
def m_gt_u : List D → R D := defV 3 0 b_gt_u
theorem e_gt_u (x0 x1 x2 : D) : m_gt_u [x0, x1, x2] = endV (b_gt_u [.val x0, .val x1, .val x2]) := defV_ap rfl
def b_le_u : SS :=
  (sSeq (sRet (eF fInt (eCons (eB dLe (eF m_unsigned (eCons (eV 0) (eCons (eV 1) eNil))) (eF m_unsigned (eCons (eV 0) (eCons (eV 2) eNil)))) eNil)))
  sNx)
def m_le_u : List D → R D := defV 3 0 b_le_u
theorem e_le_u (x0 x1 x2 : D) : m_le_u [x0, x1, x2] = endV (b_le_u [.val x0, .val x1, .val x2]) := defV_ap rfl
def b_ge_u : SS :=
  (sSeq (sRet (eF fInt (eCons (eB dGe (eF m_unsigned (eCons (eV 0) (eCons (eV 1) eNil))) (eF m_unsigned (eCons (eV 0) (eCons (eV 2) eNil)))) eNil)))
  sNx)
def m_ge_u : List D → R D := defV 3 0 b_ge_u
theorem e_ge_u (x0 x1 x2 : D) : m_ge_u [x0, x1, x2] = endV (b_ge_u [.val x0, .val x1, .val x2]) := defV_ap rfl
def b_eqz : SS :=
  (sSeq (sRet (eF fInt (eCons (eB dEq (eV 1) (eC (.int 0))) eNil)))
  sNx)
def m_eqz : List D → R D := defV 2 0 b_eqz
theorem e_eqz (x0 x1 : D) : m_eqz [x0, x1] = endV (b_eqz [.val x0, .val x1]) := defV_ap rfl
def b_clz_1 : SS :=
  (sSeq (sA 2 (eB dShr (eV 2) (eC (.int 1))))
  (sSeq (sAug 3 dSub (eC (.int 1)))
  sNx))
def b_clz : SS :=
  (sSeq (sA 2 (eF m_unsigned (eCons (eV 0) (eCons (eV 1) eNil))))
  (sSeq (sA 3 (eF m_width (eCons (eV 0) eNil)))
  (sSeq (sWh 100000 (tE (eB dGt (eV 2) (eC (.int 0)))) b_clz_1)
  (sSeq (sRet (eV 3))
  sNx))))
def m_clz : List D → R D := defV 2 2 b_clz
theorem e_clz (x0 x1 : D) : m_clz [x0, x1] = endV (b_clz [.val x0, .val x1, .un, .un]) := defV_ap rfl
def b_ctz_1 : SS :=
  (sSeq (sAug 2 dAddX (eC (.int 1)))
  sNx)
def b_ctz : SS :=
  (sSeq (sA 2 (eC (.int 0)))
  (sSeq (sWh 100000 (tAn (tE (eB dLt (eV 2) (eF m_width (eCons (eV 0) eNil)))) (tE (eB dEq (eB dAnd (eB dShr (eV 1) (eV 2)) (eC (.int 1))) (eC (.int 0))))) b_ctz_1)
  (sSeq (sRet (eV 2))
  sNx)))
def m_ctz : List D → R D := defV 2 1 b_ctz
theorem e_ctz (x0 x1 : D) : m_ctz [x0, x1] = endV (b_ctz [.val x0, .val x1, .un]) := defV_ap rfl
def b_popcnt : SS :=
  (sSeq (sRet (eF fSum (eCons (eL (lLc (iR1 (eCons (eF m_width (eCons (eV 0) eNil)) eNil)) (gN 2) tY (eB dAnd (eB dShr (eV 1) (eV 2)) (eC (.int 1))) [2])) eNil)))
  sNx)
def m_popcnt : List D → R D := defV 2 1 b_popcnt
theorem e_popcnt (x0 x1 : D) : m_popcnt [x0, x1] = endV (b_popcnt [.val x0, .val x1, .un]) := defV_ap rfl
def b_extend8_s : SS :=
  (sSeq (sRet (eF m_extend (eCons (eV 1) (eCons (eC (.int 8)) eNil))))
  sNx)
def m_extend8_s : List D → R D := defV 2 0 b_extend8_s
theorem e_extend8_s (x0 x1 : D) : m_extend8_s [x0, x1] = endV (b_extend8_s [.val x0, .val x1]) := defV_ap rfl
def b_extend16_s : SS :=
  (sSeq (sRet (eF m_extend (eCons (eV 1) (eCons (eC (.int 16)) eNil))))
  sNx)
def m_extend16_s : List D → R D := defV 2 0 b_extend16_s
theorem e_extend16_s (x0 x1 : D) : m_extend16_s [x0, x1] = endV (b_extend16_s [.val x0, .val x1]) := defV_ap rfl
def b_extend32_s : SS :=
  (sSeq (sRet (eF m_extend (eCons (eV 1) (eCons (eC (.int 32)) eNil))))
  sNx)
def m_extend32_s : List D → R D := defV 2 0 b_extend32_s
theorem e_extend32_s (x0 x1 : D) : m_extend32_s [x0, x1] = endV (b_extend32_s [.val x0, .val x1]) := defV_ap rfl
def b_extend_u : SS :=
  (sSeq (sRet (eF m_unsigned (eCons (eC (.str "i32")) (eCons (eV 1) eNil))))
  sNx)
def m_extend_u : List D → R D := defV 2 0 b_extend_u
theorem e_extend_u (x0 x1 : D) : m_extend_u [x0, x1] = endV (b_extend_u [.val x0, .val x1]) := defV_ap rfl
def b_signature_of : SS :=
  (sSeq (sIf (tE (eB dNotIn (eV 0) (eC d_INSTRUCTIONS))) (sSeq (sRaise 1002 ["name"] (eCons (eV 0) eNil))
  sNx) sNx)
  (sSeq (sA 1 (eSl (eV 0) pN (pS (eC (.int 3)))))
  (sSeq (sA 2 (eSl (eV 0) (pS (eC (.int 4))) pN))
  (sSeq (sIf (tE (eB dEq (eV 0) (eC (.str "i32.wrap_i64")))) (sSeq (sRet (eTup (eCons (eTup (eCons (eC (.str "i64")) eNil)) (eCons (eTup (eCons (eC (.str "i32")) eNil)) eNil))))
  sNx) sNx)
  (sSeq (sIf (tE (eB dIn (eV 0) (eC d_CONVERSIONS))) (sSeq (sRet (eTup (eCons (eTup (eCons (eC (.str "i32")) eNil)) (eCons (eTup (eCons (eC (.str "i64")) eNil)) eNil))))
  sNx) sNx)
  (sSeq (sIf (tE (eB dIn (eV 2) (eC d_ARITHMETIC))) (sSeq (sRet (eTup (eCons (eTup (eCons (eV 1) (eCons (eV 1) eNil))) (eCons (eTup (eCons (eV 1) eNil)) eNil))))
  sNx) sNx)
  (sSeq (sIf (tE (eB dIn (eV 2) (eC d_COMPARISONS))) (sSeq (sRet (eTup (eCons (eTup (eCons (eV 1) (eCons (eV 1) eNil))) (eCons (eTup (eCons (eC (.str "i32")) eNil)) eNil))))
  sNx) sNx)
  (sSeq (sIf (tE (eB dEq (eV 2) (eC (.str "eqz")))) (sSeq (sRet (eTup (eCons (eTup (eCons (eV 1) eNil)) (eCons (eTup (eCons (eC (.str "i32")) eNil)) eNil))))
  sNx) sNx)
  (sSeq (sRet (eTup (eCons (eTup (eCons (eV 1) eNil)) (eCons (eTup (eCons (eV 1) eNil)) eNil))))
  sNx)))))))))
def m_signature_of : List D → R D := defV 1 2 b_signature_of
theorem e_signature_of (x0 : D) : m_signature_of [x0] = endV (b_signature_of [.val x0, .un, .un]) := defV_ap rfl
def b_check_operands_1 : SS :=
  (sSeq (sIf (tN (tE (eF m_in_range (eCons (eV 2) (eCons (eV 3) eNil))))) (sSeq (sRaise 1003 [] eNil)
  sNx) sNx)
  sNx)
def b_check_operands : SS :=
  (sSeq (sIf (tE (eB dNe (eF fLen (eCons (eV 1) eNil)) (eF fLen (eCons (eV 0) eNil)))) (sSeq (sRaise 1003 [] eNil)
  sNx) sNx)
  (sSeq (sFor (iZT (eCons (eV 0) (eCons (eV 1) eNil))) (gT 2 (gC (gN 2) (gC (gN 3) gE))) b_check_operands_1)
  sNx))
def m_check_operands : List D → R D := defV 2 2 b_check_operands
theorem e_check_operands (x0 x1 : D) : m_check_operands [x0, x1] = endV (b_check_operands [.val x0, .val x1, .un, .un]) := defV_ap rfl
def tb_ARITHMETIC : Nat → Option (List D → R D) := fun n => match n with
  | 5 => some m_add
  | 6 => some m_sub
  | 7 => some m_mul
  | 9 => some m_div_s
  | 10 => some m_div_u
  | 11 => some m_rem_s
  | 12 => some m_rem_u
  | 13 => some m_bit_and
  | 14 => some m_bit_or
  | 15 => some m_bit_xor
  | 17 => some m_shl
  | 18 => some m_shr_s
  | 19 => some m_shr_u
  | 20 => some m_rotl
  | 21 => some m_rotr
  | _ => none
def tb_COMPARISONS : Nat → Option (List D → R D) := fun n => match n with
  | 22 => some m_eq
  | 23 => some m_ne
  | 24 => some m_lt_s
  | 28 => some m_lt_u
  | 25 => some m_gt_s
  | 29 => some m_gt_u
  | 26 => some m_le_s
  | 30 => some m_le_u
  | 27 => some m_ge_s
  | 31 => some m_ge_u
  | _ => none
def tb_CONVERSIONS : Nat → Option (List D → R D) := fun n => match n with
  | 38 => some m_extend32_s
  | 39 => some m_extend_u
  | _ => none
def tb_COUNTS : Nat → Option (List D → R D) := fun n => match n with
  | 33 => some m_clz
  | 34 => some m_ctz
  | 35 => some m_popcnt
  | 36 => some m_extend8_s
  | 37 => some m_extend16_s
  | _ => none
def b_calculate : SS :=
  (sSeq (sX (eF m_check_operands (eCons (eB dIx (eF m_signature_of (eCons (eV 0) eNil)) (eC (.int 0))) (eCons (eV 1) eNil))))
  (sSeq (sA 2 (eSl (eV 0) pN (pS (eC (.int 3)))))
  (sSeq (sA 3 (eSl (eV 0) (pS (eC (.int 4))) pN))
  (sSeq (sIf (tE (eB dIn (eV 0) (eC d_CONVERSIONS))) (sSeq (sA 4 (eB dIx (eC d_CONVERSIONS) (eV 0)))
  (sSeq (sRet (eP tb_CONVERSIONS 4 (eCons (eV 2) (eCons (eB dIx (eV 1) (eC (.int 0))) eNil))))
  sNx)) sNx)
  (sSeq (sIf (tE (eB dIn (eV 3) (eC d_ARITHMETIC))) (sSeq (sA 5 (eB dIx (eC d_ARITHMETIC) (eV 3)))
  (sSeq (sRet (eP tb_ARITHMETIC 5 (eCons (eV 2) (eCons (eB dIx (eV 1) (eC (.int 0))) (eCons (eB dIx (eV 1) (eC (.int 1))) eNil)))))
  sNx)) sNx)
  (sSeq (sIf (tE (eB dIn (eV 3) (eC d_COMPARISONS))) (sSeq (sA 6 (eB dIx (eC d_COMPARISONS) (eV 3)))
  (sSeq (sRet (eP tb_COMPARISONS 6 (eCons (eV 2) (eCons (eB dIx (eV 1) (eC (.int 0))) (eCons (eB dIx (eV 1) (eC (.int 1))) eNil)))))
  sNx)) sNx)
  (sSeq (sIf (tE (eB dEq (eV 3) (eC (.str "eqz")))) (sSeq (sRet (eF m_eqz (eCons (eV 2) (eCons (eB dIx (eV 1) (eC (.int 0))) eNil))))
  sNx) sNx)
  (sSeq (sIf (tE (eB dEq (eV 3) (eC (.str "extend32_s")))) (sSeq (sRet (eF m_extend32_s (eCons (eV 2) (eCons (eB dIx (eV 1) (eC (.int 0))) eNil))))
  sNx) sNx)
  (sSeq (sA 7 (eB dIx (eC d_COUNTS) (eV 3)))
  (sSeq (sRet (eP tb_COUNTS 7 (eCons (eV 2) (eCons (eB dIx (eV 1) (eC (.int 0))) eNil))))
  sNx))))))))))
def m_calculate : List D → R D := defV 2 6 b_calculate
theorem e_calculate (x0 x1 : D) : m_calculate [x0, x1] = endV (b_calculate [.val x0, .val x1, .un, .un, .un, .un, .un, .un]) := defV_ap rfl
def b_l_is_integer : SS :=
  (sSeq (sRet (eAnd (eU (dIsi .int) (eV 0)) (eU dNot (eU (dIsi .bool) (eV 0)))))
  sNx)
def m_l_is_integer : List D → R D := defV 1 0 b_l_is_integer
theorem e_l_is_integer (x0 : D) : m_l_is_integer [x0] = endV (b_l_is_integer [.val x0]) := defV_ap rfl
def b_l_cell : SS :=
  (sSeq (sIf (tE (eB dLt (eV 1) (eF fLen (eCons (eV 0) eNil)))) (sSeq (sRet (eF fInt (eCons (eB dIx (eV 0) (eV 1)) eNil)))
  sNx) sNx)
  (sSeq (sRet (eC (.int 0)))
  sNx))
def m_l_cell : List D → R D := defV 2 0 b_l_cell
theorem e_l_cell (x0 x1 : D) : m_l_cell [x0, x1] = endV (b_l_cell [.val x0, .val x1]) := defV_ap rfl
def b_l_signed : SS :=
  (sSeq (sA 2 (eB dMod (eF fInt (eCons (eV 0) eNil)) (eB dShl (eC (.int 1)) (eV 1))))
  (sSeq (sIf (tE (eB dGe (eV 2) (eB dShl (eC (.int 1)) (eB dSub (eV 1) (eC (.int 1)))))) (sSeq (sA 2 (eB dSub (eV 2) (eB dShl (eC (.int 1)) (eV 1))))
  sNx) sNx)
  (sSeq (sRet (eV 2))
  sNx)))
def m_l_signed : List D → R D := defV 2 1 b_l_signed
theorem e_l_signed (x0 x1 : D) : m_l_signed [x0, x1] = endV (b_l_signed [.val x0, .val x1, .un]) := defV_ap rfl
def b_l_value : SS :=
  (sSeq (sA 2 (eL (lD (eCons (eC (.int 0)) (eCons (eC (.int 1)) (eCons (eU dNeg (eC (.int 1))) (eCons (eC (.int 2)) (eCons (eU dNeg (eC (.int 2))) (eCons (eC (.int 31)) (eCons (eC (.int 32)) (eCons (eC (.int 33)) (eCons (eC (.int 63)) (eCons (eC (.int 64)) (eCons (eC (.int 127)) (eCons (eU dNeg (eC (.int 128))) (eCons (eC (.int 255)) (eCons (eC (.int 32767)) (eCons (eU dNeg (eC (.int 32768))) (eCons (eC (.int 65535)) eNil)))))))))))))))))))
  (sSeq (sA 3 (eB dDiv (eV 0) (eC (.int 4))))
  (sSeq (sIf (tE (eB dEq (eB dMod (eF fInt (eCons (eV 0) eNil)) (eC (.int 4))) (eC (.int 0)))) (sSeq (sA 3 (eB dIx (eV 2) (eB dMod (eF fInt (eCons (eV 3) eNil)) (eC (.int 16)))))
  sNx) sNx)
  (sSeq (sIf (tE (eB dEq (eB dMod (eF fInt (eCons (eV 0) eNil)) (eC (.int 4))) (eC (.int 1)))) (sSeq (sA 3 (eB dAdd (eB dMul (eB dMul (eV 3) (eC (.int 982451653))) (eC (.int 15485867))) (eC (.int 32452843))))
  sNx) sNx)
  (sSeq (sIf (tE (eB dEq (eB dMod (eF fInt (eCons (eV 0) eNil)) (eC (.int 4))) (eC (.int 2)))) (sSeq (sA 3 (eB dAdd (eB dSub (eB dShl (eC (.int 1)) (eB dSub (eV 1) (eC (.int 1)))) (eC (.int 2))) (eB dMod (eF fInt (eCons (eV 3) eNil)) (eC (.int 5)))))
  sNx) sNx)
  (sSeq (sRet (eF m_l_signed (eCons (eV 3) (eCons (eV 1) eNil))))
  sNx))))))
def m_l_value : List D → R D := defV 2 2 b_l_value
theorem e_l_value (x0 x1 : D) : m_l_value [x0, x1] = endV (b_l_value [.val x0, .val x1, .un, .un]) := defV_ap rfl
def b_l_high : SS :=
  (sSeq (sRet (eF m_calculate (eCons (eC (.str "i32.wrap_i64")) (eCons (eTup (eCons (eF m_calculate (eCons (eC (.str "i64.shr_u")) (eCons (eTup (eCons (eV 0) (eCons (eC (.int 32)) eNil))) eNil))) eNil)) eNil))))
  sNx)
def m_l_high : List D → R D := defV 1 0 b_l_high
theorem e_l_high (x0 : D) : m_l_high [x0] = endV (b_l_high [.val x0]) := defV_ap rfl
def b_l_low : SS :=
  (sSeq (sRet (eF m_calculate (eCons (eC (.str "i32.wrap_i64")) (eCons (eTup (eCons (eV 0) eNil)) eNil))))
  sNx)
def m_l_low : List D → R D := defV 1 0 b_l_low
theorem e_l_low (x0 : D) : m_l_low [x0] = endV (b_l_low [.val x0]) := defV_ap rfl
def b_l_join : SS :=
  (sSeq (sA 2 (eF m_calculate (eCons (eC (.str "i64.shl")) (eCons (eTup (eCons (eF m_calculate (eCons (eC (.str "i64.extend_i32_s")) (eCons (eTup (eCons (eV 0) eNil)) eNil))) (eCons (eC (.int 32)) eNil))) eNil))))
  (sSeq (sRet (eF m_calculate (eCons (eC (.str "i64.or")) (eCons (eTup (eCons (eV 2) (eCons (eF m_calculate (eCons (eC (.str "i64.extend_i32_u")) (eCons (eTup (eCons (eV 1) eNil)) eNil))) eNil))) eNil))))
  sNx))
def m_l_join : List D → R D := defV 2 1 b_l_join
theorem e_l_join (x0 x1 : D) : m_l_join [x0, x1] = endV (b_l_join [.val x0, .val x1, .un]) := defV_ap rfl
def b_l_sums : SS :=
  (sSeq (sA 2 (eF m_calculate (eCons (eC (.str "i32.add")) (eCons (eTup (eCons (eF m_l_low (eCons (eV 0) eNil)) (eCons (eF m_l_low (eCons (eV 1) eNil)) eNil))) eNil))))
  (sSeq (sA 3 (eF m_calculate (eCons (eC (.str "i32.lt_u")) (eCons (eTup (eCons (eV 2) (eCons (eF m_l_low (eCons (eV 0) eNil)) eNil))) eNil))))
  (sSeq (sA 4 (eF m_calculate (eCons (eC (.str "i32.add")) (eCons (eTup (eCons (eF m_calculate (eCons (eC (.str "i32.add")) (eCons (eTup (eCons (eF m_l_high (eCons (eV 0) eNil)) (eCons (eF m_l_high (eCons (eV 1) eNil)) eNil))) eNil))) (eCons (eV 3) eNil))) eNil))))
  (sSeq (sIf (tE (eB dNe (eF m_l_join (eCons (eV 4) (eCons (eV 2) eNil))) (eF m_calculate (eCons (eC (.str "i64.add")) (eCons (eTup (eCons (eV 0) (eCons (eV 1) eNil))) eNil))))) (sSeq (sRet (eC (.bl false)))
  sNx) sNx)
  (sSeq (sA 2 (eF m_calculate (eCons (eC (.str "i32.sub")) (eCons (eTup (eCons (eF m_l_low (eCons (eV 0) eNil)) (eCons (eF m_l_low (eCons (eV 1) eNil)) eNil))) eNil))))
  (sSeq (sA 5 (eF m_calculate (eCons (eC (.str "i32.lt_u")) (eCons (eTup (eCons (eF m_l_low (eCons (eV 0) eNil)) (eCons (eF m_l_low (eCons (eV 1) eNil)) eNil))) eNil))))
  (sSeq (sA 4 (eF m_calculate (eCons (eC (.str "i32.sub")) (eCons (eTup (eCons (eF m_calculate (eCons (eC (.str "i32.sub")) (eCons (eTup (eCons (eF m_l_high (eCons (eV 0) eNil)) (eCons (eF m_l_high (eCons (eV 1) eNil)) eNil))) eNil))) (eCons (eV 5) eNil))) eNil))))
  (sSeq (sRet (eB dEq (eF m_l_join (eCons (eV 4) (eCons (eV 2) eNil))) (eF m_calculate (eCons (eC (.str "i64.sub")) (eCons (eTup (eCons (eV 0) (eCons (eV 1) eNil))) eNil)))))
  sNx))))))))
def m_l_sums : List D → R D := defV 2 4 b_l_sums
theorem e_l_sums (x0 x1 : D) : m_l_sums [x0, x1] = endV (b_l_sums [.val x0, .val x1, .un, .un, .un, .un]) := defV_ap rfl
def b_l_products : SS :=
  (sSeq (sA 2 (eF m_calculate (eCons (eC (.str "i64.extend_i32_u")) (eCons (eTup (eCons (eF m_l_low (eCons (eV 0) eNil)) eNil)) eNil))))
  (sSeq (sA 3 (eF m_calculate (eCons (eC (.str "i64.extend_i32_u")) (eCons (eTup (eCons (eF m_l_low (eCons (eV 1) eNil)) eNil)) eNil))))
  (sSeq (sA 4 (eF m_calculate (eCons (eC (.str "i32.mul")) (eCons (eTup (eCons (eF m_l_high (eCons (eV 0) eNil)) (eCons (eF m_l_low (eCons (eV 1) eNil)) eNil))) eNil))))
  (sSeq (sA 5 (eF m_calculate (eCons (eC (.str "i32.mul")) (eCons (eTup (eCons (eF m_l_low (eCons (eV 0) eNil)) (eCons (eF m_l_high (eCons (eV 1) eNil)) eNil))) eNil))))
  (sSeq (sA 6 (eF m_calculate (eCons (eC (.str "i64.shl")) (eCons (eTup (eCons (eF m_calculate (eCons (eC (.str "i64.extend_i32_s")) (eCons (eTup (eCons (eF m_calculate (eCons (eC (.str "i32.add")) (eCons (eTup (eCons (eV 4) (eCons (eV 5) eNil))) eNil))) eNil)) eNil))) (eCons (eC (.int 32)) eNil))) eNil))))
  (sSeq (sRet (eB dEq (eF m_calculate (eCons (eC (.str "i64.add")) (eCons (eTup (eCons (eF m_calculate (eCons (eC (.str "i64.mul")) (eCons (eTup (eCons (eV 2) (eCons (eV 3) eNil))) eNil))) (eCons (eV 6) eNil))) eNil))) (eF m_calculate (eCons (eC (.str "i64.mul")) (eCons (eTup (eCons (eV 0) (eCons (eV 1) eNil))) eNil)))))
  sNx))))))
def m_l_products : List D → R D := defV 2 5 b_l_products
theorem e_l_products (x0 x1 : D) : m_l_products [x0, x1] = endV (b_l_products [.val x0, .val x1, .un, .un, .un, .un, .un]) := defV_ap rfl
def b_l_bitwise_1 : SS :=
  (sSeq (sA 3 (eF m_calculate (eCons (eB dAdd (eC (.str "i32.")) (eV 2)) (eCons (eTup (eCons (eF m_l_high (eCons (eV 0) eNil)) (eCons (eF m_l_high (eCons (eV 1) eNil)) eNil))) eNil))))
  (sSeq (sA 4 (eF m_calculate (eCons (eB dAdd (eC (.str "i32.")) (eV 2)) (eCons (eTup (eCons (eF m_l_low (eCons (eV 0) eNil)) (eCons (eF m_l_low (eCons (eV 1) eNil)) eNil))) eNil))))
  (sSeq (sIf (tE (eB dNe (eF m_l_join (eCons (eV 3) (eCons (eV 4) eNil))) (eF m_calculate (eCons (eB dAdd (eC (.str "i64.")) (eV 2)) (eCons (eTup (eCons (eV 0) (eCons (eV 1) eNil))) eNil))))) (sSeq (sRet (eC (.bl false)))
  sNx) sNx)
  sNx)))
def b_l_bitwise : SS :=
  (sSeq (sFor (iD (eL (lD (eCons (eC (.str "and")) (eCons (eC (.str "or")) (eCons (eC (.str "xor")) eNil)))))) (gN 2) b_l_bitwise_1)
  (sSeq (sA 5 (eF m_l_join (eCons (eF m_l_low (eCons (eV 0) eNil)) (eCons (eF m_l_high (eCons (eV 0) eNil)) eNil))))
  (sSeq (sIf (tO (tE (eB dNe (eV 5) (eF m_calculate (eCons (eC (.str "i64.rotl")) (eCons (eTup (eCons (eV 0) (eCons (eC (.int 32)) eNil))) eNil))))) (tE (eB dNe (eV 5) (eF m_calculate (eCons (eC (.str "i64.rotr")) (eCons (eTup (eCons (eV 0) (eCons (eC (.int 32)) eNil))) eNil)))))) (sSeq (sRet (eC (.bl false)))
  sNx) sNx)
  (sSeq (sRet (eB dEq (eF m_calculate (eCons (eC (.str "i64.rotr")) (eCons (eTup (eCons (eF m_calculate (eCons (eC (.str "i64.rotl")) (eCons (eTup (eCons (eV 0) (eCons (eV 1) eNil))) eNil))) (eCons (eV 1) eNil))) eNil))) (eV 0)))
  sNx))))
def m_l_bitwise : List D → R D := defV 2 4 b_l_bitwise
theorem e_l_bitwise (x0 x1 : D) : m_l_bitwise [x0, x1] = endV (b_l_bitwise [.val x0, .val x1, .un, .un, .un, .un]) := defV_ap rfl
def b_l_orders_1 : SS :=
  (sSeq (sA 5 (eF fInt (eCons (eOr (eB dEq (eF m_calculate (eCons (eB dAdd (eC (.str "i32.")) (eV 4)) (eCons (eTup (eCons (eF m_l_high (eCons (eV 0) eNil)) (eCons (eF m_l_high (eCons (eV 1) eNil)) eNil))) eNil))) (eC (.int 1))) (eAnd (eB dEq (eV 2) (eC (.int 1))) (eB dEq (eV 3) (eC (.int 1))))) eNil)))
  (sSeq (sIf (tO (tE (eB dNe (eF m_calculate (eCons (eB dAdd (eC (.str "i64.")) (eV 4)) (eCons (eTup (eCons (eV 0) (eCons (eV 1) eNil))) eNil))) (eV 5))) (tE (eB dNe (eF m_calculate (eCons (eB dAdd (eC (.str "i64.ge")) (eSl (eV 4) (pS (eC (.int 2))) pN)) (eCons (eTup (eCons (eV 0) (eCons (eV 1) eNil))) eNil))) (eB dSub (eC (.int 1)) (eV 5))))) (sSeq (sRet (eC (.bl false)))
  sNx) sNx)
  (sSeq (sIf (tO (tE (eB dNe (eF m_calculate (eCons (eB dAdd (eC (.str "i64.gt")) (eSl (eV 4) (pS (eC (.int 2))) pN)) (eCons (eTup (eCons (eV 1) (eCons (eV 0) eNil))) eNil))) (eV 5))) (tE (eB dNe (eF m_calculate (eCons (eB dAdd (eC (.str "i64.le")) (eSl (eV 4) (pS (eC (.int 2))) pN)) (eCons (eTup (eCons (eV 1) (eCons (eV 0) eNil))) eNil))) (eB dSub (eC (.int 1)) (eV 5))))) (sSeq (sRet (eC (.bl false)))
  sNx) sNx)
  sNx)))
def b_l_orders : SS :=
  (sSeq (sA 2 (eF m_calculate (eCons (eC (.str "i32.eq")) (eCons (eTup (eCons (eF m_l_high (eCons (eV 0) eNil)) (eCons (eF m_l_high (eCons (eV 1) eNil)) eNil))) eNil))))
  (sSeq (sA 3 (eF m_calculate (eCons (eC (.str "i32.lt_u")) (eCons (eTup (eCons (eF m_l_low (eCons (eV 0) eNil)) (eCons (eF m_l_low (eCons (eV 1) eNil)) eNil))) eNil))))
  (sSeq (sFor (iD (eL (lD (eCons (eC (.str "lt_s")) (eCons (eC (.str "lt_u")) eNil))))) (gN 4) b_l_orders_1)
  (sSeq (sRet (eB dEq (eF m_calculate (eCons (eC (.str "i64.eqz")) (eCons (eTup (eCons (eF m_calculate (eCons (eC (.str "i64.sub")) (eCons (eTup (eCons (eV 0) (eCons (eV 1) eNil))) eNil))) eNil)) eNil))) (eF m_calculate (eCons (eC (.str "i64.eq")) (eCons (eTup (eCons (eV 0) (eCons (eV 1) eNil))) eNil)))))
  sNx))))
def m_l_orders : List D → R D := defV 2 4 b_l_orders
theorem e_l_orders (x0 x1 : D) : m_l_orders [x0, x1] = endV (b_l_orders [.val x0, .val x1, .un, .un, .un, .un]) := defV_ap rfl
def b_l_counted : SS :=
  (sSeq (sA 1 (eF m_l_high (eCons (eV 0) eNil)))
  (sSeq (sA 2 (eF m_l_low (eCons (eV 0) eNil)))
  (sSeq (sA 3 (eF m_calculate (eCons (eC (.str "i32.clz")) (eCons (eTup (eCons (eV 1) eNil)) eNil))))
  (sSeq (sIf (tE (eB dEq (eV 3) (eC (.int 32)))) (sSeq (sA 3 (eB dAdd (eC (.int 32)) (eF m_calculate (eCons (eC (.str "i32.clz")) (eCons (eTup (eCons (eV 2) eNil)) eNil)))))
  sNx) sNx)
  (sSeq (sA 4 (eF m_calculate (eCons (eC (.str "i32.ctz")) (eCons (eTup (eCons (eV 2) eNil)) eNil))))
  (sSeq (sIf (tE (eB dEq (eV 4) (eC (.int 32)))) (sSeq (sA 4 (eB dAdd (eC (.int 32)) (eF m_calculate (eCons (eC (.str "i32.ctz")) (eCons (eTup (eCons (eV 1) eNil)) eNil)))))
  sNx) sNx)
  (sSeq (sA 5 (eB dAdd (eF m_calculate (eCons (eC (.str "i32.popcnt")) (eCons (eTup (eCons (eV 1) eNil)) eNil))) (eF m_calculate (eCons (eC (.str "i32.popcnt")) (eCons (eTup (eCons (eV 2) eNil)) eNil)))))
  (sSeq (sA 6 (eL (lD (eCons (eF m_calculate (eCons (eC (.str "i64.clz")) (eCons (eTup (eCons (eV 0) eNil)) eNil))) (eCons (eF m_calculate (eCons (eC (.str "i64.ctz")) (eCons (eTup (eCons (eV 0) eNil)) eNil))) (eCons (eF m_calculate (eCons (eC (.str "i64.popcnt")) (eCons (eTup (eCons (eV 0) eNil)) eNil))) eNil))))))
  (sSeq (sRet (eB dEq (eV 6) (eL (lD (eCons (eV 3) (eCons (eV 4) (eCons (eV 5) eNil)))))))
  sNx)))))))))
def m_l_counted : List D → R D := defV 1 6 b_l_counted
theorem e_l_counted (x0 : D) : m_l_counted [x0] = endV (b_l_counted [.val x0, .un, .un, .un, .un, .un, .un]) := defV_ap rfl
def b_l_divided : SS :=
  (sSeq (sA 3 (eF m_calculate (eCons (eB dAdd (eC (.str "i64.div_")) (eV 2)) (eCons (eTup (eCons (eV 0) (eCons (eV 1) eNil))) eNil))))
  (sSeq (sA 4 (eF m_calculate (eCons (eB dAdd (eC (.str "i64.rem_")) (eV 2)) (eCons (eTup (eCons (eV 0) (eCons (eV 1) eNil))) eNil))))
  (sSeq (sIf (tE (eB dNe (eF m_calculate (eCons (eC (.str "i64.add")) (eCons (eTup (eCons (eF m_calculate (eCons (eC (.str "i64.mul")) (eCons (eTup (eCons (eV 3) (eCons (eV 1) eNil))) eNil))) (eCons (eV 4) eNil))) eNil))) (eV 0))) (sSeq (sRet (eC (.bl false)))
  sNx) sNx)
  (sSeq (sIf (tE (eB dEq (eV 2) (eC (.str "u")))) (sSeq (sRet (eB dEq (eF m_calculate (eCons (eC (.str "i64.lt_u")) (eCons (eTup (eCons (eV 4) (eCons (eV 1) eNil))) eNil))) (eC (.int 1))))
  sNx) sNx)
  (sSeq (sRet (eAnd (eB dLt (eF fMax2 (eCons (eV 4) (eCons (eU dNeg (eV 4)) eNil))) (eF fMax2 (eCons (eV 1) (eCons (eU dNeg (eV 1)) eNil)))) (eOr (eB dEq (eV 4) (eC (.int 0))) (eB dEq (eB dLt (eV 4) (eC (.int 0))) (eB dLt (eV 0) (eC (.int 0)))))))
  sNx)))))
def m_l_divided : List D → R D := defV 3 2 b_l_divided
theorem e_l_divided (x0 x1 x2 : D) : m_l_divided [x0, x1, x2] = endV (b_l_divided [.val x0, .val x1, .val x2, .un, .un]) := defV_ap rfl
def b_law_1 : SS :=
  (sSeq (sA 2 (eF m_l_value (eCons (eF m_l_cell (eCons (eV 0) (eCons (eB dMul (eC (.int 3)) (eV 1)) eNil))) (eCons (eC (.int 64)) eNil))))
  (sSeq (sA 3 (eF m_l_value (eCons (eF m_l_cell (eCons (eV 0) (eCons (eB dAdd (eB dMul (eC (.int 3)) (eV 1)) (eC (.int 1))) eNil))) (eCons (eC (.int 64)) eNil))))
  (sSeq (sIf (tE (eB dEq (eB dMod (eF fInt (eCons (eF m_l_cell (eCons (eV 0) (eCons (eB dAdd (eB dMul (eC (.int 3)) (eV 1)) (eC (.int 2))) eNil))) eNil)) (eC (.int 3))) (eC (.int 1)))) (sSeq (sA 3 (eF m_l_signed (eCons (eV 3) (eCons (eC (.int 32)) eNil))))
  sNx) sNx)
  (sSeq (sA 4 (eF m_l_join (eCons (eF m_l_high (eCons (eV 2) eNil)) (eCons (eF m_l_low (eCons (eV 2) eNil)) eNil))))
  (sSeq (sIf (tO (tN (tE (eF m_l_is_integer (eCons (eV 4) eNil)))) (tE (eB dNe (eV 4) (eV 2)))) (sSeq (sRet (eC (.bl false)))
  sNx) sNx)
  (sSeq (sIf (tO (tN (tE (eF m_l_sums (eCons (eV 2) (eCons (eV 3) eNil))))) (tO (tN (tE (eF m_l_products (eCons (eV 2) (eCons (eV 3) eNil))))) (tN (tE (eF m_l_bitwise (eCons (eV 2) (eCons (eV 3) eNil))))))) (sSeq (sRet (eC (.bl false)))
  sNx) sNx)
  (sSeq (sIf (tO (tN (tE (eF m_l_orders (eCons (eV 2) (eCons (eV 3) eNil))))) (tN (tE (eF m_l_counted (eCons (eV 2) eNil))))) (sSeq (sRet (eC (.bl false)))
  sNx) sNx)
  (sSeq (sIf (tAn (tE (eB dNe (eV 3) (eC (.int 0)))) (tN (tE (eF m_l_divided (eCons (eV 2) (eCons (eV 3) (eCons (eC (.str "u")) eNil))))))) (sSeq (sRet (eC (.bl false)))
  sNx) sNx)
  (sSeq (sIf (tAn (tE (eB dNe (eV 3) (eC (.int 0)))) (tAn (tN (tAn (tE (eB dEq (eV 3) (eU dNeg (eC (.int 1))))) (tE (eB dEq (eV 2) (eU dNeg (eB dShl (eC (.int 1)) (eC (.int 63)))))))) (tN (tE (eF m_l_divided (eCons (eV 2) (eCons (eV 3) (eCons (eC (.str "s")) eNil)))))))) (sSeq (sRet (eC (.bl false)))
  sNx) sNx)
  sNx)))))))))
def b_law : SS :=
  (sSeq (sFor (iR1 (eCons (eB dAdd (eC (.int 1)) (eB dDiv (eF fMin2 (eCons (eF fLen (eCons (eV 0) eNil)) (eCons (eC (.int 62)) eNil))) (eC (.int 3)))) eNil)) (gN 1) b_law_1)
  (sSeq (sRet (eC (.bl true)))
  sNx))
def m_law : List D → R D := defV 1 4 b_law
theorem e_law (x0 : D) : m_law [x0] = endV (b_law [.val x0, .un, .un, .un, .un]) := defV_ap rfl
end Lk09
set_option Elab.async false
set_option linter.all false
set_option maxRecDepth 100000
set_option maxHeartbeats 4000000
namespace Lk09
open PySem L2 Dm
theorem two_ne (j : Nat) : (2 : Int) ^ j ≠ 0 := Int.ne_of_gt (Int.pow_pos (by decide))
theorem and_half (x y : Int) : Builtin.bitAnd x y / 2 = Builtin.bitAnd (x / 2) (y / 2) ∧ Builtin.bitAnd x y % 2 = (x % 2) * (y % 2) := by
  have h := PySem.W.kbt_halves x y
  have hx : x % 2 = 0 ∨ x % 2 = 1 := by omega
  have hy : y % 2 = 0 ∨ y % 2 = 1 := by omega
  generalize Builtin.bitAnd (x / 2) (y / 2) = t at *
  generalize Builtin.bitAnd x y = z at *
  rcases hx with hx | hx <;> rcases hy with hy | hy <;> rw [hx, hy] at h ⊢ <;> simp at h ⊢ <;> omega
theorem or_and (x y : Int) : Builtin.bitOr x y = x + y - Builtin.bitAnd x y := by
  have h := PyProof.Rows.bitXor_and x y
  have h2 : Builtin.bitXor x y = Builtin.bitOr x y - Builtin.bitAnd x y := rfl
  omega
theorem or_half (x y : Int) : Builtin.bitOr x y / 2 = Builtin.bitOr (x / 2) (y / 2) ∧ Builtin.bitOr x y % 2 = x % 2 + y % 2 - (x % 2) * (y % 2) := by
  have h := and_half x y
  rw [or_and, or_and]
  have hx : x % 2 = 0 ∨ x % 2 = 1 := by omega
  have hy : y % 2 = 0 ∨ y % 2 = 1 := by omega
  generalize Builtin.bitAnd (x / 2) (y / 2) = t at *
  generalize Builtin.bitAnd x y = z at *
  rcases hx with hx | hx <;> rcases hy with hy | hy <;> rw [hx, hy] at h ⊢ <;> simp at h ⊢ <;> omega
theorem xor_half (x y : Int) : Builtin.bitXor x y / 2 = Builtin.bitXor (x / 2) (y / 2) ∧ Builtin.bitXor x y % 2 = x % 2 + y % 2 - 2 * ((x % 2) * (y % 2)) := by
  have h := and_half x y
  rw [PyProof.Rows.bitXor_and, PyProof.Rows.bitXor_and]
  have hx : x % 2 = 0 ∨ x % 2 = 1 := by omega
  have hy : y % 2 = 0 ∨ y % 2 = 1 := by omega
  generalize Builtin.bitAnd (x / 2) (y / 2) = t at *
  generalize Builtin.bitAnd x y = z at *
  rcases hx with hx | hx <;> rcases hy with hy | hy <;> rw [hx, hy] at h ⊢ <;> simp at h ⊢ <;> omega
theorem half_pow {f : Int → Int → Int} (hf : ∀ x y, f x y / 2 = f (x / 2) (y / 2)) : ∀ (j : Nat) (x y : Int), f x y / 2 ^ j = f (x / 2 ^ j) (y / 2 ^ j)
  | 0, x, y => by simp
  | j + 1, x, y => by
    rw [Int.pow_succ, ← Int.ediv_ediv_of_nonneg (Int.le_of_lt (Int.pow_pos (by decide))), half_pow hf j, hf, Int.ediv_ediv_of_nonneg (Int.le_of_lt (Int.pow_pos (by decide))), Int.ediv_ediv_of_nonneg (Int.le_of_lt (Int.pow_pos (by decide)))]
/-- the sum of the bits -/
def sb (f : Nat → Int) : Nat → Int
  | 0 => 0
  | n + 1 => sb f n + f n * 2 ^ n
theorem sb_congr {f g : Nat → Int} : ∀ n, (∀ j, j < n → f j = g j) → sb f n = sb g n
  | 0, _ => rfl
  | n + 1, h => by
    unfold sb
    rw [sb_congr n fun j hj => h j (Nat.lt_succ_of_lt hj), h n (Nat.lt_succ_self n)]
theorem sb_mod (x : Int) : ∀ n, sb (fun j => x / 2 ^ j % 2) n = x % 2 ^ n
  | 0 => by
    unfold sb
    rw [Int.pow_zero, Int.emod_one]
  | n + 1 => by
    unfold sb
    rw [sb_mod x n]
    have h1 := Int.mul_ediv_add_emod x (2 ^ n)
    have h2 := Int.mul_ediv_add_emod (x / 2 ^ n) 2
    have h3 := Int.mul_ediv_add_emod x (2 ^ (n + 1))
    have e : x / 2 ^ (n + 1) = x / 2 ^ n / 2 := by rw [Int.pow_succ, Int.ediv_ediv_of_nonneg (Int.le_of_lt (Int.pow_pos (by decide)))]
    rw [e] at h3
    generalize x / 2 ^ n / 2 = q at *
    generalize x / 2 ^ n % 2 = r at *
    have e2 : (2 : Int) ^ (n + 1) * q = 2 ^ n * (2 * q) := by rw [Int.pow_succ, Int.mul_assoc]
    rw [e2] at h3
    rw [← h2, Int.mul_add] at h1
    rw [Int.mul_comm r]
    omega
/-- the bits of an int -/
def bt (x : Int) (j : Nat) : Int := x / 2 ^ j % 2
theorem bt_01 (x : Int) (j : Nat) : bt x j = 0 ∨ bt x j = 1 := by unfold bt; omega
theorem bt_and (x y : Int) (j : Nat) : bt (Builtin.bitAnd x y) j = bt x j * bt y j := by
  unfold bt
  rw [half_pow (fun x y => (and_half x y).1), (and_half _ _).2]
theorem bt_or (x y : Int) (j : Nat) : bt (Builtin.bitOr x y) j = bt x j + bt y j - bt x j * bt y j := by
  unfold bt
  rw [half_pow (fun x y => (or_half x y).1), (or_half _ _).2]
theorem bt_xor (x y : Int) (j : Nat) : bt (Builtin.bitXor x y) j = bt x j + bt y j - 2 * (bt x j * bt y j) := by
  unfold bt
  rw [half_pow (fun x y => (xor_half x y).1), (xor_half _ _).2]
theorem bt_mul (x : Int) (c j : Nat) : bt (x * 2 ^ c) j = if j < c then 0 else bt x (j - c) := by
  unfold bt
  by_cases h : j < c
  · rw [if_pos h]
    obtain ⟨d, rfl⟩ : ∃ d, c = j + (d + 1) := ⟨c - j - 1, by omega⟩
    have e : x * 2 ^ (j + (d + 1)) = 2 ^ j * (2 * (x * 2 ^ d)) := by
      rw [Int.pow_add, Int.pow_succ, ← Int.mul_assoc, Int.mul_comm x (2 ^ j), Int.mul_assoc, ← Int.mul_assoc x, Int.mul_comm (x * 2 ^ d) 2]
    rw [e, Int.mul_ediv_cancel_left _ (two_ne j)]
    omega
  · rw [if_neg h]
    obtain ⟨d, rfl⟩ : ∃ d, j = c + d := ⟨j - c, by omega⟩
    have e : c + d - c = d := by omega
    rw [e, Int.pow_add, ← Int.ediv_ediv_of_nonneg (Int.le_of_lt (Int.pow_pos (by decide))), Int.mul_ediv_cancel _ (two_ne c)]
theorem bt_div (x : Int) (c j : Nat) : bt (x / 2 ^ c) j = bt x (j + c) := by
  unfold bt
  rw [Int.ediv_ediv_of_nonneg (Int.le_of_lt (Int.pow_pos (by decide))), ← Int.pow_add, Nat.add_comm]
theorem bt_low (x : Int) {w j : Nat} (h : j < w) : bt (x % 2 ^ w) j = bt x j := by
  unfold bt
  obtain ⟨d, rfl⟩ : ∃ d, w = j + (d + 1) := ⟨w - j - 1, by omega⟩
  have e1 : (2 : Int) ^ (j + (d + 1)) = 2 ^ j * (2 * 2 ^ d) := by rw [Int.pow_add, Int.pow_succ, Int.mul_comm (2 ^ d) 2]
  have h0 := Int.mul_ediv_add_emod x (2 ^ (j + (d + 1)))
  generalize x % 2 ^ (j + (d + 1)) = r at *
  generalize x / 2 ^ (j + (d + 1)) = q at *
  have e2 : x = r + 2 ^ j * (2 * (2 ^ d * q)) := by
    rw [← h0, e1, Int.mul_assoc, Int.mul_assoc]
    omega
  rw [e2, Int.add_mul_ediv_left _ _ (two_ne j)]
  omega
theorem bt_high {x : Int} {w j : Nat} (h0 : 0 ≤ x) (h1 : x < 2 ^ w) (h : w ≤ j) : bt x j = 0 := by
  unfold bt
  have h2 : (2 : Int) ^ w ≤ 2 ^ j := by
    rw [← PySem.W.kbt_cast, ← PySem.W.kbt_cast]
    exact Int.ofNat_le.mpr (Nat.pow_le_pow_right (by decide) h)
  rw [Int.ediv_eq_zero_of_lt h0 (by omega)]
  rfl
/-- of an int in the range of w + 1 bits: the bits above are the top one -/
theorem bt_sign {x : Int} {w j : Nat} (h0 : -(2 ^ w) ≤ x) (h1 : x < 2 ^ w) (h : w ≤ j) : bt x j = bt x w := by
  have hp : (0 : Int) < 2 ^ w := Int.pow_pos (by decide)
  by_cases g : 0 ≤ x
  · rw [bt_high g h1 h, bt_high g h1 (Nat.le_refl _)]
  · have h2 : (2 : Int) ^ w ≤ 2 ^ j := by
      rw [← PySem.W.kbt_cast, ← PySem.W.kbt_cast]
      exact Int.ofNat_le.mpr (Nat.pow_le_pow_right (by decide) h)
    unfold bt
    have e1 : x / 2 ^ j = -1 := by
      have := Int.ediv_emod_unique (a := x) (b := 2 ^ j) (q := -1) (r := x + 2 ^ j) (by omega)
      exact (this.mpr ⟨by omega, by omega, by omega⟩).1
    have e2 : x / 2 ^ w = -1 := by
      have := Int.ediv_emod_unique (a := x) (b := 2 ^ w) (q := -1) (r := x + 2 ^ w) (by omega)
      exact (this.mpr ⟨by omega, by omega, by omega⟩).1
    rw [e1, e2]
theorem sb_bt (x : Int) (n : Nat) : sb (bt x) n = x % 2 ^ n := sb_mod x n

/-! words of w bits -/
def sgn (w : Nat) (x : Int) : Int := if 2 ^ (w - 1) ≤ x % 2 ^ w then x % 2 ^ w - 2 ^ w else x % 2 ^ w
inductive KW : Str → Int → Nat → Prop
  | a : KW "i32" 32 32
  | b : KW "i64" 64 64
theorem sgn_congr {w : Nat} {x y : Int} (h : x % 2 ^ w = y % 2 ^ w) : sgn w x = sgn w y := by unfold sgn; rw [h]
def inR (w : Nat) (x : Int) : Prop := -(2 ^ (w - 1)) ≤ x ∧ x < 2 ^ (w - 1)
theorem sgn_in {k : Str} {W : Int} {w : Nat} (K : KW k W w) (x : Int) : inR w (sgn w x) := by
  cases K <;> unfold inR sgn <;> split <;> omega
theorem sgn_id {k : Str} {W : Int} {w : Nat} (K : KW k W w) {x : Int} (h : inR w x) : sgn w x = x := by
  cases K <;> unfold inR at h <;> unfold sgn <;> split <;> omega
/-! words of 64 bits in two halves -/
theorem mod_succ (z : Int) (n : Nat) : z % 2 ^ (n + 1) = 2 * (z / 2 % 2 ^ n) + z % 2 := by
  have e : (2 : Int) ^ (n + 1) = 2 * 2 ^ n := by rw [Int.pow_succ, Int.mul_comm]
  have hp : (0 : Int) < 2 ^ n := Int.pow_pos (by decide)
  have h1 := Int.mul_ediv_add_emod (z / 2) (2 ^ n)
  have h2 := Int.emod_nonneg (z / 2) (show (2 : Int) ^ n ≠ 0 by omega)
  have h3 := Int.emod_lt_of_pos (z / 2) hp
  generalize z / 2 % 2 ^ n = r at *
  generalize z / 2 / 2 ^ n = q at *
  have := Int.ediv_emod_unique (a := z) (b := 2 ^ (n + 1)) (q := q) (r := 2 * r + z % 2) (by omega)
  refine (this.mpr ⟨?_, by omega, by omega⟩).2
  rw [e, Int.mul_assoc]
  omega
theorem half_ind {f : Int → Int → Int} {g : Int → Int → Int} (hf : ∀ x y, f x y / 2 = f (x / 2) (y / 2) ∧ f x y % 2 = g (x % 2) (y % 2)) : ∀ (n : Nat) (x y u v : Int), x % 2 ^ n = u % 2 ^ n → y % 2 ^ n = v % 2 ^ n → f x y % 2 ^ n = f u v % 2 ^ n
  | 0, x, y, u, v, _, _ => by rw [Int.pow_zero, Int.emod_one, Int.emod_one]
  | n + 1, x, y, u, v, h1, h2 => by
    rw [mod_succ, mod_succ] at h1 h2
    have i := half_ind hf n (x / 2) (y / 2) (u / 2) (v / 2) (by omega) (by omega)
    rw [mod_succ, mod_succ, (hf x y).1, (hf u v).1, (hf x y).2, (hf u v).2, i]
    rw [show x % 2 = u % 2 by omega, show y % 2 = v % 2 by omega]
theorem or_comm2 (x y : Int) : Builtin.bitOr x y = Builtin.bitOr y x := by
  rw [or_and, or_and, PyProof.Rows.bitAnd_comm]
  omega
theorem or_sh : ∀ (n : Nat) (h y : Int), 0 ≤ y → y < 2 ^ n → Builtin.bitOr (h * 2 ^ n) y = h * 2 ^ n + y
  | 0, h, y, h0, h1 => by
    have : y = 0 := by simp at h1; omega
    subst this
    rw [or_and, PyProof.Rows.bitAnd_zero]
    omega
  | n + 1, h, y, h0, h1 => by
    have i := or_sh n h (y / 2) (by omega) (by rw [Int.pow_succ] at h1; omega)
    have o := or_half (h * 2 ^ (n + 1)) y
    have e : h * 2 ^ (n + 1) = 2 * (h * 2 ^ n) := by rw [Int.pow_succ, ← Int.mul_assoc, Int.mul_comm _ 2]
    rw [e] at o ⊢
    rw [show 2 * (h * 2 ^ n) / 2 = h * 2 ^ n by omega, i, show 2 * (h * 2 ^ n) % 2 = 0 by omega, Int.zero_mul] at o
    omega
/-- the upper and the lower half -/
abbrev R32 (x : Int) : Prop := -2147483648 ≤ x ∧ x < 2147483648
abbrev R64 (x : Int) : Prop := -9223372036854775808 ≤ x ∧ x < 9223372036854775808
theorem in32 {x : Int} : inR 32 x ↔ R32 x := Iff.rfl
theorem in64 {x : Int} : inR 64 x ↔ R64 x := Iff.rfl
def s32 (x : Int) : Int := if 2147483648 ≤ x % 4294967296 then x % 4294967296 - 4294967296 else x % 4294967296
def s64 (x : Int) : Int := if 9223372036854775808 ≤ x % 18446744073709551616 then x % 18446744073709551616 - 18446744073709551616 else x % 18446744073709551616
theorem sgn32 (x : Int) : sgn 32 x = s32 x := rfl
theorem sgn64 (x : Int) : sgn 64 x = s64 x := rfl
theorem s32_w (x : Int) : ∃ t, s32 x = x + 4294967296 * t := ⟨(s32 x - x) / 4294967296, by unfold s32; split <;> omega⟩
theorem s64_w (x : Int) : ∃ t, s64 x = x + 18446744073709551616 * t := ⟨(s64 x - x) / 18446744073709551616, by unfold s64; split <;> omega⟩
theorem s32_in (x : Int) : R32 (s32 x) := by unfold R32 s32; split <;> omega
theorem s64_in (x : Int) : R64 (s64 x) := by unfold R64 s64; split <;> omega
theorem s64_eq {x y t : Int} (h : x = y + 18446744073709551616 * t) : s64 x = s64 y := by unfold s64; rw [h, Int.add_mul_emod_self_left]
theorem s64_id {x : Int} (h : R64 x) : s64 x = x := by unfold R64 at h; unfold s64; split <;> omega
theorem s32_id {x : Int} (h : R32 x) : s32 x = x := by unfold R32 at h; unfold s32; split <;> omega
/-- high -/
theorem high_eq {a : Int} (h : R64 a) : s32 (s64 (a % 18446744073709551616 / 4294967296)) = a / 4294967296 := by
  unfold R64 at h
  rw [s64_id (by unfold R64; omega)]
  unfold s32
  split <;> omega
theorem high_in {a : Int} (h : R64 a) : R32 (a / 4294967296) := by unfold R64 at h; unfold R32; omega
/-- join -/
theorem join_eq {h : Int} (hh : R32 h) (l : Int) : Builtin.bitOr (s64 (h * 2 ^ 32)) (l % 4294967296) = h * 4294967296 + l % 4294967296 := by
  unfold R32 at hh
  rw [s64_id (by unfold R64; omega)]
  exact or_sh 32 h (l % 4294967296) (by omega) (by omega)
theorem join_in {h : Int} (hh : R32 h) (l : Int) : R64 (h * 4294967296 + l % 4294967296) := by unfold R32 at hh; unfold R64; omega
theorem join_self {a : Int} : a / 4294967296 * 4294967296 + s32 a % 4294967296 = a := by
  unfold s32; split <;> omega
theorem sum_eq {a b : Int} (ha : R64 a) (hb : R64 b) : s32 (s32 (a / 4294967296 + b / 4294967296) + (if s32 (s32 a + s32 b) % 4294967296 < s32 a % 4294967296 then 1 else 0)) * 4294967296 + s32 (s32 a + s32 b) % 4294967296 = s64 (a + b) := by
  unfold R64 at ha hb
  have e1 : ∀ x, s32 x % 4294967296 = x % 4294967296 := fun x => by unfold s32; split <;> omega
  rw [e1, e1]
  have e2 : (s32 a + s32 b) % 4294967296 = (a + b) % 4294967296 := by
    have := e1 a
    have := e1 b
    omega
  rw [e2]
  have e3 : (if (a + b) % 4294967296 < a % 4294967296 then (1 : Int) else 0) = (a + b) / 4294967296 - a / 4294967296 - b / 4294967296 := by split <;> omega
  rw [e3]
  have e4 : s32 (s32 (a / 4294967296 + b / 4294967296) + ((a + b) / 4294967296 - a / 4294967296 - b / 4294967296)) = s32 ((a + b) / 4294967296) := by
    have := e1 (a / 4294967296 + b / 4294967296)
    unfold s32 at this ⊢
    rw [show ((if 2147483648 ≤ (a / 4294967296 + b / 4294967296) % 4294967296 then (a / 4294967296 + b / 4294967296) % 4294967296 - 4294967296 else (a / 4294967296 + b / 4294967296) % 4294967296) + ((a + b) / 4294967296 - a / 4294967296 - b / 4294967296)) % 4294967296 = (a + b) / 4294967296 % 4294967296 by omega]
  rw [e4]
  unfold s32 s64
  split <;> split <;> omega
theorem dif_eq {a b : Int} (ha : R64 a) (hb : R64 b) : s32 (s32 (a / 4294967296 - b / 4294967296) - (if s32 a % 4294967296 < s32 b % 4294967296 then 1 else 0)) * 4294967296 + s32 (s32 a - s32 b) % 4294967296 = s64 (a - b) := by
  unfold R64 at ha hb
  have e1 : ∀ x, s32 x % 4294967296 = x % 4294967296 := fun x => by unfold s32; split <;> omega
  rw [e1, e1, e1]
  have e2 : (s32 a - s32 b) % 4294967296 = (a - b) % 4294967296 := by
    have := e1 a
    have := e1 b
    omega
  rw [e2]
  have e3 : (if a % 4294967296 < b % 4294967296 then (1 : Int) else 0) = a / 4294967296 - b / 4294967296 - (a - b) / 4294967296 := by split <;> omega
  rw [e3]
  have e4 : s32 (s32 (a / 4294967296 - b / 4294967296) - (a / 4294967296 - b / 4294967296 - (a - b) / 4294967296)) = s32 ((a - b) / 4294967296) := by
    have := e1 (a / 4294967296 - b / 4294967296)
    unfold s32 at this ⊢
    rw [show ((if 2147483648 ≤ (a / 4294967296 - b / 4294967296) % 4294967296 then (a / 4294967296 - b / 4294967296) % 4294967296 - 4294967296 else (a / 4294967296 - b / 4294967296) % 4294967296) - (a / 4294967296 - b / 4294967296 - (a - b) / 4294967296)) % 4294967296 = (a - b) / 4294967296 % 4294967296 by omega]
  rw [e4]
  unfold s32 s64
  split <;> split <;> omega
theorem prod_eq {a b : Int} : s64 (s64 (s32 a % 4294967296 * (s32 b % 4294967296)) + s64 (s32 (s32 (a / 4294967296 * s32 b) + s32 (s32 a * (b / 4294967296))) * 2 ^ 32)) = s64 (a * b) := by
  have e1 : ∀ x, s32 x % 4294967296 = x % 4294967296 := fun x => by unfold s32; split <;> omega
  rw [e1, e1]
  obtain ⟨t1, h1⟩ := s64_w (a % 4294967296 * (b % 4294967296))
  obtain ⟨t2, h2⟩ := s32_w (a / 4294967296 * s32 b)
  obtain ⟨t3, h3⟩ := s32_w (s32 a * (b / 4294967296))
  obtain ⟨t4, h4⟩ := s32_w (s32 (a / 4294967296 * s32 b) + s32 (s32 a * (b / 4294967296)))
  obtain ⟨t5, h5⟩ := s64_w (s32 (s32 (a / 4294967296 * s32 b) + s32 (s32 a * (b / 4294967296))) * 2 ^ 32)
  obtain ⟨t6, h6⟩ := s32_w a
  obtain ⟨t7, h7⟩ := s32_w b
  have ea : a = a / 4294967296 * 4294967296 + a % 4294967296 := by omega
  have eb : b = b / 4294967296 * 4294967296 + b % 4294967296 := by omega
  rw [h1, h5, h4, h2, h3, h6, h7]
  generalize a / 4294967296 = ha at *
  generalize b / 4294967296 = hb at *
  generalize a % 4294967296 = la at *
  generalize b % 4294967296 = lb at *
  have : ∃ t, la * lb + 18446744073709551616 * t1 + ((ha * (b + 4294967296 * t7) + 4294967296 * t2 + ((a + 4294967296 * t6) * hb + 4294967296 * t3) + 4294967296 * t4) * 2 ^ 32 + 18446744073709551616 * t5) = a * b + 18446744073709551616 * t := by
    refine ⟨t1 + t2 + t3 + t4 + t5 + ha * t7 + t6 * hb + ha * hb, ?_⟩
    subst ea eb
    grind
  obtain ⟨t, ht⟩ := this
  exact s64_eq ht

/-- of bits: half by half -/
theorem bw_eq {f : Int → Int → Int} {g : Int → Int → Int} (hf : ∀ x y, f x y / 2 = f (x / 2) (y / 2) ∧ f x y % 2 = g (x % 2) (y % 2)) (a b : Int) : f (a / 4294967296) (b / 4294967296) * 4294967296 + f (s32 a) (s32 b) % 4294967296 = f a b := by
  have e1 : ∀ x, s32 x % 4294967296 = x % 4294967296 := fun x => by unfold s32; split <;> omega
  have h1 : f a b / 4294967296 = f (a / 4294967296) (b / 4294967296) := half_pow (fun x y => (hf x y).1) 32 a b
  have h2 : f (s32 a) (s32 b) % 4294967296 = f a b % 4294967296 := half_ind hf 32 _ _ _ _ (e1 a) (e1 b)
  rw [h2, ← h1]
  omega
/-- turned by half -/
theorem turn_l {a : Int} (h : R64 a) : s32 a * 4294967296 + a / 4294967296 % 4294967296 = s64 (Builtin.bitOr (a % 18446744073709551616 * 2 ^ 32) (a % 18446744073709551616 / 2 ^ 32)) := by
  rw [or_sh 32 _ _ (by omega) (by omega)]
  unfold R64 at h
  have k0 : a % 18446744073709551616 / 2 ^ 32 = a / 4294967296 % 4294967296 := by omega
  rw [s64_eq (y := a % 4294967296 * 4294967296 + a / 4294967296 % 4294967296) (t := a / 4294967296 % 4294967296) (by omega)]
  unfold s32 s64
  split <;> split <;> omega
theorem turn_r {a : Int} (h : R64 a) : s32 a * 4294967296 + a / 4294967296 % 4294967296 = s64 (Builtin.bitOr (a % 18446744073709551616 / 2 ^ 32) (a % 18446744073709551616 * 2 ^ 32)) := by
  rw [or_comm2]
  exact turn_l h
/-- turned and back -/
theorem s64_mod (x : Int) : s64 x % 18446744073709551616 = x % 18446744073709551616 := by unfold s64; split <;> omega
theorem turn_back {a : Int} (h : R64 a) {c : Nat} (hc : c ≤ 64) {r : Int} (hr : r = s64 (Builtin.bitOr (a % 18446744073709551616 * 2 ^ c) (a % 18446744073709551616 / 2 ^ (64 - c)))) :
    s64 (Builtin.bitOr (r % 18446744073709551616 / 2 ^ c) (r % 18446744073709551616 * 2 ^ (64 - c))) = a := by
  have hp : (0 : Int) < 2 ^ c := Int.pow_pos (by decide)
  have hq : (0 : Int) < 2 ^ (64 - c) := Int.pow_pos (by decide)
  have hpq : (2 : Int) ^ c * 2 ^ (64 - c) = 18446744073709551616 := by rw [← Int.pow_add, show c + (64 - c) = 64 by omega] <;> rfl
  have u0 : 0 ≤ a % 18446744073709551616 := by omega
  have u1 : a % 18446744073709551616 < 18446744073709551616 := by omega
  have hh : a % 18446744073709551616 / 2 ^ (64 - c) < 2 ^ c := Int.ediv_lt_of_lt_mul hq (by rw [hpq]; exact u1)
  have hh0 : 0 ≤ a % 18446744073709551616 / 2 ^ (64 - c) := Int.ediv_nonneg u0 (by omega)
  have l0 := Int.emod_nonneg (a % 18446744073709551616) (show (2 : Int) ^ (64 - c) ≠ 0 by omega)
  have l1 := Int.emod_lt_of_pos (a % 18446744073709551616) hq
  have dm := Int.mul_ediv_add_emod (a % 18446744073709551616) (2 ^ (64 - c))
  rw [or_sh c _ _ hh0 hh] at hr
  have hra : s64 (a % 18446744073709551616) = a := by rw [s64_eq (y := a) (t := -(a / 18446744073709551616)) (by omega), s64_id h]
  generalize a % 18446744073709551616 / 2 ^ (64 - c) = hi at *
  generalize a % 18446744073709551616 % 2 ^ (64 - c) = lo at *
  generalize a % 18446744073709551616 = u at *
  generalize hpe : (2 : Int) ^ c = p at *
  generalize hqe : (2 : Int) ^ (64 - c) = q at *
  have rr : r % 18446744073709551616 = lo * p + hi := by
    rw [hr, s64_mod]
    have e : u * p + hi = lo * p + hi + 18446744073709551616 * hi := by
      rw [← dm, ← hpq]
      grind
    rw [e, Int.add_mul_emod_self_left]
    refine Int.emod_eq_of_lt ?_ ?_
    · have := Int.mul_nonneg l0 (Int.le_of_lt hp); omega
    · have : (lo + 1) * p ≤ q * p := Int.mul_le_mul_of_nonneg_right (by omega) (by omega)
      rw [Int.mul_comm q p, hpq, Int.add_mul] at this
      omega
  rw [rr]
  have d1 : (lo * p + hi) / p = lo := by
    rw [Int.add_comm, Int.add_mul_ediv_right _ _ (by omega), Int.ediv_eq_zero_of_lt hh0 hh, Int.zero_add]
  rw [d1, or_comm2, ← hqe, or_sh (64 - c) _ _ l0 (by rw [hqe]; exact l1), hqe]
  have e : (lo * p + hi) * q + lo = u + 18446744073709551616 * lo := by
    rw [← dm, ← hpq]
    grind
  rw [s64_eq e, hra]
/-- order -/
theorem lts_eq {a b : Int} : (a < b) ↔ (a / 4294967296 < b / 4294967296 ∨ a / 4294967296 = b / 4294967296 ∧ s32 a % 4294967296 < s32 b % 4294967296) := by
  have e1 : ∀ x, s32 x % 4294967296 = x % 4294967296 := fun x => by unfold s32; split <;> omega
  rw [e1, e1]
  omega
theorem ltu_eq {a b : Int} (ha : R64 a) (hb : R64 b) : (a % 18446744073709551616 < b % 18446744073709551616) ↔ (a / 4294967296 % 4294967296 < b / 4294967296 % 4294967296 ∨ a / 4294967296 = b / 4294967296 ∧ s32 a % 4294967296 < s32 b % 4294967296) := by
  have e1 : ∀ x, s32 x % 4294967296 = x % 4294967296 := fun x => by unfold s32; split <;> omega
  rw [e1, e1]
  unfold R64 at ha hb
  omega
theorem eqz_eq {a b : Int} (ha : R64 a) (hb : R64 b) : (s64 (a - b) = 0) ↔ (a = b) := by
  unfold R64 at ha hb
  unfold s64
  split <;> omega
/-! counts -/
def blen : Nat → Int → Nat
  | 0, _ => 0
  | n + 1, x => if 0 < x then blen n (x / 2) + 1 else 0
theorem blen_succ (n : Nat) (x : Int) : blen (n + 1) x = if 0 < x then blen n (x / 2) + 1 else 0 := rfl
theorem blen_le : ∀ n x, blen n x ≤ n
  | 0, _ => Nat.le_refl _
  | n + 1, x => by
    unfold blen
    split
    · have := blen_le n (x / 2); omega
    · omega
theorem blen_more : ∀ (n m : Nat) (x : Int), 0 ≤ x → x < 2 ^ n → n ≤ m → blen m x = blen n x
  | 0, 0, _, _, _, _ => rfl
  | 0, m + 1, x, h0, h1, _ => by
    unfold blen
    rw [if_neg (by simp at h1; omega)]
  | n + 1, 0, _, _, _, h => by omega
  | n + 1, m + 1, x, h0, h1, h => by
    unfold blen
    rw [blen_more n m (x / 2) (by omega) (by rw [Int.pow_succ] at h1; omega) (by omega)]
theorem blen_pos {n : Nat} {x : Int} (h : 0 < x) : 0 < blen (n + 1) x := by unfold blen; rw [if_pos h]; omega
theorem blen_sh : ∀ (k n : Nat) (h l : Int), 0 < h → 0 ≤ l → l < 2 ^ k → blen (n + k) (h * 2 ^ k + l) = blen n h + k
  | 0, n, h, l, hh, h0, h1 => by
    have : l = 0 := by simp at h1; omega
    subst this
    rw [Int.pow_zero, Int.mul_one, Int.add_zero, Nat.add_zero, Nat.add_zero]
  | k + 1, n, h, l, hh, h0, h1 => by
    have i := blen_sh k n h (l / 2) hh (by omega) (by rw [Int.pow_succ] at h1; omega)
    have e : h * 2 ^ (k + 1) = 2 * (h * 2 ^ k) := by rw [Int.pow_succ, ← Int.mul_assoc, Int.mul_comm _ 2]
    have hp : 0 < h * 2 ^ k := Int.mul_pos hh (Int.pow_pos (by decide))
    rw [← Nat.add_assoc]
    rw [e, blen_succ]
    rw [if_pos (by omega), show (2 * (h * 2 ^ k) + l) / 2 = h * 2 ^ k + l / 2 by omega, i]
    rfl
theorem clz_eq {a : Int} (ha : R64 a) : (64 - (blen 64 (a % 18446744073709551616) : Int)) = if 32 - (blen 32 (a / 4294967296 % 4294967296) : Int) = 32 then 32 + (32 - (blen 32 (s32 a % 4294967296) : Int)) else 32 - (blen 32 (a / 4294967296 % 4294967296) : Int) := by
  have e1 : ∀ x, s32 x % 4294967296 = x % 4294967296 := fun x => by unfold s32; split <;> omega
  rw [e1]
  have e : a % 18446744073709551616 = a / 4294967296 % 4294967296 * 2 ^ 32 + a % 4294967296 := by omega
  by_cases h : a / 4294967296 % 4294967296 = 0
  · rw [h, show blen 32 0 = 0 from rfl, if_pos (by decide), show a % 18446744073709551616 = a % 4294967296 by omega, blen_more 32 64 _ (by omega) (by omega) (by decide)]
    omega
  · have hp : 0 < a / 4294967296 % 4294967296 := by omega
    have : 0 < blen 32 (a / 4294967296 % 4294967296) := blen_pos (n := 31) hp
    rw [if_neg (by omega), e, blen_sh 32 32 _ _ hp (by omega) (by omega)]
    omega
/-- the zeros below, from place c on, of n places -/
def tz (x : Int) : Nat → Nat → Nat
  | 0, c => c
  | n + 1, c => if x / 2 ^ c % 2 = 0 then tz x n (c + 1) else c
theorem tz_succ (x : Int) (n c : Nat) : tz x (n + 1) c = if x / 2 ^ c % 2 = 0 then tz x n (c + 1) else c := rfl
theorem tz_lo (x : Int) : ∀ n c, c ≤ tz x n c ∧ tz x n c ≤ c + n
  | 0, c => ⟨Nat.le_refl _, Nat.le_refl _⟩
  | n + 1, c => by
    unfold tz
    split
    · have := tz_lo x n (c + 1); omega
    · omega
theorem tz_more (x : Int) : ∀ n m c, tz x (n + m) c = if tz x n c = c + n then tz x m (c + n) else tz x n c
  | 0, m, c => by
    rw [Nat.zero_add, show tz x 0 c = c from rfl, Nat.add_zero, if_pos rfl]
  | n + 1, m, c => by
    rw [show n + 1 + m = (n + m) + 1 by omega]
    have i := tz_more x n m (c + 1)
    rw [tz_succ, tz_succ]
    by_cases h : x / 2 ^ c % 2 = 0
    · rw [if_pos h, if_pos h, i, show c + 1 + n = c + (n + 1) by omega]
    · rw [if_neg h, if_neg h, if_neg (by omega)]
theorem tz_sh (x : Int) (k : Nat) : ∀ n c, tz x n (k + c) = k + tz (x / 2 ^ k) n c
  | 0, c => rfl
  | n + 1, c => by
    have i := tz_sh x k n (c + 1)
    rw [tz_succ, tz_succ]
    rw [Int.ediv_ediv_of_nonneg (Int.le_of_lt (Int.pow_pos (by decide))), ← Int.pow_add]
    by_cases h : x / 2 ^ (k + c) % 2 = 0
    · rw [if_pos h, if_pos h, ← i, Nat.add_assoc]
    · rw [if_neg h, if_neg h]
theorem tz_congr {x y : Int} : ∀ n c, (∀ j, j < c + n → bt x j = bt y j) → tz x n c = tz y n c
  | 0, c, _ => rfl
  | n + 1, c, h => by
    have hc := h c (by omega)
    unfold bt at hc
    rw [tz_succ, tz_succ]
    rw [hc, tz_congr n (c + 1) fun j hj => h j (by omega)]
theorem ctz_eq {a : Int} : (tz a 64 0 : Int) = if (tz (s32 a) 32 0 : Int) = 32 then 32 + (tz (a / 4294967296) 32 0 : Int) else (tz (s32 a) 32 0 : Int) := by
  have e1 : s32 a % 2 ^ 32 = a % 2 ^ 32 := by unfold s32; split <;> omega
  have e2 : tz (s32 a) 32 0 = tz a 32 0 := tz_congr 32 0 fun j hj => by rw [← bt_low _ (show j < 32 by omega), e1, bt_low _ (by omega)]
  have e3 := tz_more a 32 32 0
  have e4 := tz_sh a 32 32 0
  rw [e2, show (64 : Nat) = 32 + 32 from rfl, e3]
  by_cases h : tz a 32 0 = 32
  · rw [h, if_pos rfl, if_pos (by decide)]
    rw [show 0 + 32 = 32 + 0 from rfl, e4]
    rfl
  · rw [if_neg (by omega), if_neg (by omega)]
/-- the sum of the bits below n -/
def pc (x : Int) (n : Nat) : Int := ((List.range n).map fun j => x / 2 ^ j % 2).sum
theorem pc_add (x : Int) (n m : Nat) : pc x (n + m) = pc x n + pc (x / 2 ^ n) m := by
  unfold pc
  rw [List.range_add, List.map_append, List.sum_append, List.map_map]
  congr 2
  refine List.map_congr_left fun j _ => ?_
  show x / 2 ^ (n + j) % 2 = x / 2 ^ n / 2 ^ j % 2
  rw [Int.ediv_ediv_of_nonneg (Int.le_of_lt (Int.pow_pos (by decide))), ← Int.pow_add]
theorem pc_congr {x y : Int} {n : Nat} (h : x % 2 ^ n = y % 2 ^ n) : pc x n = pc y n := by
  unfold pc
  congr 1
  refine List.map_congr_left fun j hj => ?_
  have hj := List.mem_range.mp hj
  show bt x j = bt y j
  rw [← bt_low _ hj, h, bt_low _ hj]
theorem pc_eq (a : Int) : pc a 64 = pc (a / 4294967296) 32 + pc (s32 a) 32 := by
  have e1 : s32 a % 2 ^ 32 = a % 2 ^ 32 := by unfold s32; split <;> omega
  rw [pc_congr e1, show (64 : Nat) = 32 + 32 from rfl, pc_add, Int.add_comm]
  rfl
/-! division -/
def quo (a b : Int) : Int := if (decide (a < 0) == decide (b < 0)) = true then (if a < 0 then -a else a) / (if b < 0 then -b else b) else -((if a < 0 then -a else a) / (if b < 0 then -b else b))
theorem quo_eq (a b : Int) : quo a b = if a < 0 then (if b < 0 then -a / -b else -(-a / b)) else (if b < 0 then -(a / -b) else a / b) := by
  unfold quo
  by_cases a0 : a < 0 <;> by_cases b0 : b < 0 <;> simp [a0, b0]
theorem quo_in {a b : Int} (ha : R64 a) (hb : b ≠ 0) (hx : ¬ (b = -1 ∧ a = -9223372036854775808)) : R64 (quo a b) := by
  unfold R64 at ha ⊢
  have h1 : ∀ x y : Int, 0 ≤ x → 0 < y → 0 ≤ x / y ∧ x / y ≤ x := fun x y hx hy => ⟨Int.ediv_nonneg hx (by omega), Int.ediv_le_self _ hx⟩
  have h2 : ∀ x y : Int, 0 ≤ x → 1 < y → 2 * (x / y) ≤ x := fun x y hx hy => by
    have q1 := Int.mul_ediv_add_emod x y
    have q2 := Int.emod_nonneg x (show y ≠ 0 by omega)
    have q3 : 2 * (x / y) ≤ y * (x / y) := Int.mul_le_mul_of_nonneg_right (by omega) (h1 x y hx (by omega)).1
    omega
  rw [quo_eq]
  by_cases a0 : a < 0 <;> by_cases b0 : b < 0 <;> simp only [a0, b0, if_true, if_false]
  · by_cases b1 : b = -1
    · subst b1
      have : a ≠ -9223372036854775808 := fun z => hx ⟨rfl, z⟩
      rw [show (-(-1 : Int)) = 1 from rfl, Int.ediv_one]
      omega
    · have := h2 (-a) (-b) (by omega) (by omega)
      have := h1 (-a) (-b) (by omega) (by omega)
      omega
  · have := h1 (-a) b (by omega) (by omega)
    omega
  · have := h1 a (-b) (by omega) (by omega)
    omega
  · have := h1 a b (by omega) (by omega)
    omega
theorem rem_eq {a b : Int} (hb : b ≠ 0) : (if a - b * quo a b < 0 then -(a - b * quo a b) else a - b * quo a b) < (if b < 0 then -b else b) ∧ (a - b * quo a b = 0 ∨ ((a - b * quo a b < 0) ↔ a < 0)) := by
  have h1 : ∀ x y : Int, 0 ≤ x → 0 < y → 0 ≤ x - y * (x / y) ∧ x - y * (x / y) < y := fun x y hx hy => by
    have q1 := Int.mul_ediv_add_emod x y
    have q2 := Int.emod_nonneg x (show y ≠ 0 by omega)
    have q3 := Int.emod_lt_of_pos x hy
    omega
  rw [quo_eq]
  by_cases a0 : a < 0 <;> by_cases b0 : b < 0 <;> simp only [a0, b0, if_true, if_false]
  · have := h1 (-a) (-b) (by omega) (by omega)
    rw [Int.neg_mul] at this
    generalize b * (-a / -b) = z at *
    constructor
    · split <;> omega
    · first | (rw [iff_true]; omega) | (rw [iff_false]; omega)
  · have := h1 (-a) b (by omega) (by omega)
    rw [Int.mul_neg]
    generalize b * (-a / b) = z at *
    constructor
    · split <;> omega
    · first | (rw [iff_true]; omega) | (rw [iff_false]; omega)
  · have := h1 a (-b) (by omega) (by omega)
    rw [Int.neg_mul] at this
    rw [Int.mul_neg]
    generalize b * (a / -b) = z at *
    constructor
    · split <;> omega
    · first | (rw [iff_true]; omega) | (rw [iff_false]; omega)
  · have := h1 a b (by omega) (by omega)
    generalize b * (a / b) = z at *
    constructor
    · split <;> omega
    · first | (rw [iff_true]; omega) | (rw [iff_false]; omega)
theorem divs_eq {a b : Int} (ha : R64 a) : s64 (s64 (quo a b * b) + (a - b * quo a b)) = a := by
  obtain ⟨t, h⟩ := s64_w (quo a b * b)
  rw [h, s64_eq (y := a) (t := t) (by rw [Int.mul_comm b]; omega), s64_id ha]
theorem divu_eq {a b : Int} (ha : R64 a) : s64 (s64 (s64 (a % 18446744073709551616 / (b % 18446744073709551616)) * b) + s64 (a % 18446744073709551616 - b % 18446744073709551616 * (a % 18446744073709551616 / (b % 18446744073709551616)))) = a := by
  obtain ⟨t1, h1⟩ := s64_w (s64 (a % 18446744073709551616 / (b % 18446744073709551616)) * b)
  obtain ⟨t2, h2⟩ := s64_w (a % 18446744073709551616 / (b % 18446744073709551616))
  obtain ⟨t3, h3⟩ := s64_w (a % 18446744073709551616 - b % 18446744073709551616 * (a % 18446744073709551616 / (b % 18446744073709551616)))
  rw [h1, h2, h3]
  generalize a % 18446744073709551616 / (b % 18446744073709551616) = q at *
  have ea : a = a / 18446744073709551616 * 18446744073709551616 + a % 18446744073709551616 := by omega
  have eb : b = b / 18446744073709551616 * 18446744073709551616 + b % 18446744073709551616 := by omega
  refine (s64_eq (y := a) (t := t1 + t3 + t2 * b + q * (b / 18446744073709551616) - a / 18446744073709551616) ?_).trans (s64_id ha)
  generalize a / 18446744073709551616 = ha at *
  generalize b / 18446744073709551616 = hb at *
  generalize a % 18446744073709551616 = la at *
  generalize b % 18446744073709551616 = lb at *
  subst ea eb
  grind
theorem remu_lt {a b : Int} (hb : R64 b) (h : b ≠ 0) : s64 (a % 18446744073709551616 - b % 18446744073709551616 * (a % 18446744073709551616 / (b % 18446744073709551616))) % 18446744073709551616 < b % 18446744073709551616 := by
  unfold R64 at hb
  rw [s64_mod]
  have hp : 0 < b % 18446744073709551616 := by omega
  have q1 := Int.mul_ediv_add_emod (a % 18446744073709551616) (b % 18446744073709551616)
  have q2 := Int.emod_nonneg (a % 18446744073709551616) (show b % 18446744073709551616 ≠ 0 by omega)
  have q3 := Int.emod_lt_of_pos (a % 18446744073709551616) hp
  generalize b % 18446744073709551616 * (a % 18446744073709551616 / (b % 18446744073709551616)) = z at *
  omega

theorem low32 (x : Int) : Builtin.bitAnd x (1 * 2 ^ 32 - 1) = x % 2 ^ 32 := by rw [Int.one_mul]; exact PySem.W.kbt_mask x 32
theorem low64 (x : Int) : Builtin.bitAnd x (1 * 2 ^ 64 - 1) = x % 2 ^ 64 := by rw [Int.one_mul]; exact PySem.W.kbt_mask x 64
theorem and31 (x : Int) : Builtin.bitAnd x (32 - 1) = x % 32 := PySem.W.kbt_mask x 5
theorem and63 (x : Int) : Builtin.bitAnd x (64 - 1) = x % 64 := PySem.W.kbt_mask x 6
theorem c31 : CPow 1 31 := ⟨by decide, by decide, by decide⟩
theorem c32 : CPow 1 32 := ⟨by decide, by decide, by decide⟩
theorem c63 : CPow 1 63 := ⟨by decide, by decide, by decide⟩
theorem c64 : CPow 1 64 := ⟨by decide, by decide, by decide⟩
theorem width_ok {k : Str} {W : Int} {w : Nat} (K : KW k W w) : m_width [.str k] = .ok (.int W) := by cases K <;> rfl
theorem extend_ok {k : Str} {W : Int} {w : Nat} (K : KW k W w) (x : Int) : m_extend [.int x, .int W] = .ok (.int (sgn w x)) := by
  rw [e_extend]
  unfold b_extend
  cases K
  · unfold sgn
    by_cases c : (1 : Int) * 2 ^ 31 ≤ x % 2 ^ 32
    · simp only [bind_ok, bind_exc, bind_bad, ofE_ok, ofE_exc, vOf_v, ap_C, ap_V, ap_nil, ap_cons, ap_U, ap_B, ap_chain, ap_and, ap_or, ap_tup, ap_F, ap_M, ap_sl, ap_pN, ap_pS, ap_L, ap_tE, ap_tAn, ap_tO, ap_tN, ap_tY, ap_if, ap_lD, ap_lF, ap_lCat, catL_ok, ap_lRep, repL_ok, ap_lSl, slL_lst, slL_scr, ap_iD, itL_lst, itL_scr, ap_iT, itT_tup, itT_ktp, ap_iS, itS_str, ap_iR1, itR1_ok, add_i, add_s, add_l, addX_i, addX_s, sub_i, mul_i, div_i, mod_i, pow_i, shl_i, shr_i, and_i, or_i, xor_i, neg_i, not_b, lt_i, le_i, gt_i, ge_i, eq_i, eq_s, ne_i, ne_s, is_non, is_int, is_str, is_tup, is_lst, isnt_non, isnt_int, isnt_str, isnt_tup, toBl_b, toIn_i, ix_s, ix_l, ix_r, ix_t, ix_k, sl_s, sl_l, sl_r, sl_t, len_s, len_l, len_r, len_t, len_k, int_i, int_b, abs_i, min_i, max_i, tup_l, tup_t, list_l, list_r, list_t, isi_i, isi_b, isi_s, isi_l, isi_t, isi_n, ty_ii, ty_bi, ty_ss, ty_ll, ty_tt, ty_tl, ty_lt, ty_tn, find_s, lower_s, sq_nx, sq_sq, sq_a, sq_o, sq_x, sq_if, sq_ret, sq_retL, oOf_o, sq_retO, sq_app, lstK_l, sq_ext, sq_aug, sq_g, sq_frz, sq_br, sq_ct, sq_raise, ofG_some, nx_ap, thenS_nx, thenS_rt, thenS_exc, sq_for, sq_wh, endV_v, endV_o, endV_n, endV_x, endL_o, endL_x, gN_ap, List.getElem?_cons_zero, List.getElem?_cons_succ, List.set_cons_zero, List.set_cons_succ, List.length_cons, List.length_nil, decide_eq_true_eq, Bool.not_eq_true, reduceIte, Bool.false_eq_true, decide_true, decide_false, Nat.reduceAdd, Nat.reduceLeDiff, Nat.reduceLT, Bool.not_true, Bool.not_false, List.nil_append, List.cons_append, List.map_cons, List.map_nil, List.replicate_succ, List.replicate_zero, Bool.not_eq_eq_eq_not, decide_eq_false_iff_not, and_self, and_true, true_and, and_false, false_and, or_true, true_or, or_false, false_or, or_self, Int.reduceLE, Int.reduceLT, Int.reduceNeg, Int.reduceAdd, Int.reduceSub, Int.reduceMul, Int.reduceDiv, Int.reduceMod, Int.reduceEq, Int.reduceToNat, Nat.reduceEqDiff, frz_zero, frz_succ, gT_tup, gT_ktp, gC_ap, gE_nil, cast_0, cast_1, cast_2, cast_3, cast_4, cast_5, cast_6, cast_7, cast_8, cast_9, ty_bs, ty_is, frz_zeroV, oOfR_o, ap_lenO, ap_ixO, tOf_some, pOf_fn, ap_P, ap_iZT, itZT_ok, zipD_cons, zipD_nil, str_i, sq_set, oOfS_o, set_ints, c31, c32, low32, c]
      rw [Int.one_mul] at c ⊢
      rw [if_pos c]
    · simp only [bind_ok, bind_exc, bind_bad, ofE_ok, ofE_exc, vOf_v, ap_C, ap_V, ap_nil, ap_cons, ap_U, ap_B, ap_chain, ap_and, ap_or, ap_tup, ap_F, ap_M, ap_sl, ap_pN, ap_pS, ap_L, ap_tE, ap_tAn, ap_tO, ap_tN, ap_tY, ap_if, ap_lD, ap_lF, ap_lCat, catL_ok, ap_lRep, repL_ok, ap_lSl, slL_lst, slL_scr, ap_iD, itL_lst, itL_scr, ap_iT, itT_tup, itT_ktp, ap_iS, itS_str, ap_iR1, itR1_ok, add_i, add_s, add_l, addX_i, addX_s, sub_i, mul_i, div_i, mod_i, pow_i, shl_i, shr_i, and_i, or_i, xor_i, neg_i, not_b, lt_i, le_i, gt_i, ge_i, eq_i, eq_s, ne_i, ne_s, is_non, is_int, is_str, is_tup, is_lst, isnt_non, isnt_int, isnt_str, isnt_tup, toBl_b, toIn_i, ix_s, ix_l, ix_r, ix_t, ix_k, sl_s, sl_l, sl_r, sl_t, len_s, len_l, len_r, len_t, len_k, int_i, int_b, abs_i, min_i, max_i, tup_l, tup_t, list_l, list_r, list_t, isi_i, isi_b, isi_s, isi_l, isi_t, isi_n, ty_ii, ty_bi, ty_ss, ty_ll, ty_tt, ty_tl, ty_lt, ty_tn, find_s, lower_s, sq_nx, sq_sq, sq_a, sq_o, sq_x, sq_if, sq_ret, sq_retL, oOf_o, sq_retO, sq_app, lstK_l, sq_ext, sq_aug, sq_g, sq_frz, sq_br, sq_ct, sq_raise, ofG_some, nx_ap, thenS_nx, thenS_rt, thenS_exc, sq_for, sq_wh, endV_v, endV_o, endV_n, endV_x, endL_o, endL_x, gN_ap, List.getElem?_cons_zero, List.getElem?_cons_succ, List.set_cons_zero, List.set_cons_succ, List.length_cons, List.length_nil, decide_eq_true_eq, Bool.not_eq_true, reduceIte, Bool.false_eq_true, decide_true, decide_false, Nat.reduceAdd, Nat.reduceLeDiff, Nat.reduceLT, Bool.not_true, Bool.not_false, List.nil_append, List.cons_append, List.map_cons, List.map_nil, List.replicate_succ, List.replicate_zero, Bool.not_eq_eq_eq_not, decide_eq_false_iff_not, and_self, and_true, true_and, and_false, false_and, or_true, true_or, or_false, false_or, or_self, Int.reduceLE, Int.reduceLT, Int.reduceNeg, Int.reduceAdd, Int.reduceSub, Int.reduceMul, Int.reduceDiv, Int.reduceMod, Int.reduceEq, Int.reduceToNat, Nat.reduceEqDiff, frz_zero, frz_succ, gT_tup, gT_ktp, gC_ap, gE_nil, cast_0, cast_1, cast_2, cast_3, cast_4, cast_5, cast_6, cast_7, cast_8, cast_9, ty_bs, ty_is, frz_zeroV, oOfR_o, ap_lenO, ap_ixO, tOf_some, pOf_fn, ap_P, ap_iZT, itZT_ok, zipD_cons, zipD_nil, str_i, sq_set, oOfS_o, set_ints, c31, c32, low32, c]
      rw [Int.one_mul] at c
      rw [if_neg c]
  · unfold sgn
    by_cases c : (1 : Int) * 2 ^ 63 ≤ x % 2 ^ 64
    · simp only [bind_ok, bind_exc, bind_bad, ofE_ok, ofE_exc, vOf_v, ap_C, ap_V, ap_nil, ap_cons, ap_U, ap_B, ap_chain, ap_and, ap_or, ap_tup, ap_F, ap_M, ap_sl, ap_pN, ap_pS, ap_L, ap_tE, ap_tAn, ap_tO, ap_tN, ap_tY, ap_if, ap_lD, ap_lF, ap_lCat, catL_ok, ap_lRep, repL_ok, ap_lSl, slL_lst, slL_scr, ap_iD, itL_lst, itL_scr, ap_iT, itT_tup, itT_ktp, ap_iS, itS_str, ap_iR1, itR1_ok, add_i, add_s, add_l, addX_i, addX_s, sub_i, mul_i, div_i, mod_i, pow_i, shl_i, shr_i, and_i, or_i, xor_i, neg_i, not_b, lt_i, le_i, gt_i, ge_i, eq_i, eq_s, ne_i, ne_s, is_non, is_int, is_str, is_tup, is_lst, isnt_non, isnt_int, isnt_str, isnt_tup, toBl_b, toIn_i, ix_s, ix_l, ix_r, ix_t, ix_k, sl_s, sl_l, sl_r, sl_t, len_s, len_l, len_r, len_t, len_k, int_i, int_b, abs_i, min_i, max_i, tup_l, tup_t, list_l, list_r, list_t, isi_i, isi_b, isi_s, isi_l, isi_t, isi_n, ty_ii, ty_bi, ty_ss, ty_ll, ty_tt, ty_tl, ty_lt, ty_tn, find_s, lower_s, sq_nx, sq_sq, sq_a, sq_o, sq_x, sq_if, sq_ret, sq_retL, oOf_o, sq_retO, sq_app, lstK_l, sq_ext, sq_aug, sq_g, sq_frz, sq_br, sq_ct, sq_raise, ofG_some, nx_ap, thenS_nx, thenS_rt, thenS_exc, sq_for, sq_wh, endV_v, endV_o, endV_n, endV_x, endL_o, endL_x, gN_ap, List.getElem?_cons_zero, List.getElem?_cons_succ, List.set_cons_zero, List.set_cons_succ, List.length_cons, List.length_nil, decide_eq_true_eq, Bool.not_eq_true, reduceIte, Bool.false_eq_true, decide_true, decide_false, Nat.reduceAdd, Nat.reduceLeDiff, Nat.reduceLT, Bool.not_true, Bool.not_false, List.nil_append, List.cons_append, List.map_cons, List.map_nil, List.replicate_succ, List.replicate_zero, Bool.not_eq_eq_eq_not, decide_eq_false_iff_not, and_self, and_true, true_and, and_false, false_and, or_true, true_or, or_false, false_or, or_self, Int.reduceLE, Int.reduceLT, Int.reduceNeg, Int.reduceAdd, Int.reduceSub, Int.reduceMul, Int.reduceDiv, Int.reduceMod, Int.reduceEq, Int.reduceToNat, Nat.reduceEqDiff, frz_zero, frz_succ, gT_tup, gT_ktp, gC_ap, gE_nil, cast_0, cast_1, cast_2, cast_3, cast_4, cast_5, cast_6, cast_7, cast_8, cast_9, ty_bs, ty_is, frz_zeroV, oOfR_o, ap_lenO, ap_ixO, tOf_some, pOf_fn, ap_P, ap_iZT, itZT_ok, zipD_cons, zipD_nil, str_i, sq_set, oOfS_o, set_ints, c63, c64, low64, c]
      rw [Int.one_mul] at c ⊢
      rw [if_pos c]
    · simp only [bind_ok, bind_exc, bind_bad, ofE_ok, ofE_exc, vOf_v, ap_C, ap_V, ap_nil, ap_cons, ap_U, ap_B, ap_chain, ap_and, ap_or, ap_tup, ap_F, ap_M, ap_sl, ap_pN, ap_pS, ap_L, ap_tE, ap_tAn, ap_tO, ap_tN, ap_tY, ap_if, ap_lD, ap_lF, ap_lCat, catL_ok, ap_lRep, repL_ok, ap_lSl, slL_lst, slL_scr, ap_iD, itL_lst, itL_scr, ap_iT, itT_tup, itT_ktp, ap_iS, itS_str, ap_iR1, itR1_ok, add_i, add_s, add_l, addX_i, addX_s, sub_i, mul_i, div_i, mod_i, pow_i, shl_i, shr_i, and_i, or_i, xor_i, neg_i, not_b, lt_i, le_i, gt_i, ge_i, eq_i, eq_s, ne_i, ne_s, is_non, is_int, is_str, is_tup, is_lst, isnt_non, isnt_int, isnt_str, isnt_tup, toBl_b, toIn_i, ix_s, ix_l, ix_r, ix_t, ix_k, sl_s, sl_l, sl_r, sl_t, len_s, len_l, len_r, len_t, len_k, int_i, int_b, abs_i, min_i, max_i, tup_l, tup_t, list_l, list_r, list_t, isi_i, isi_b, isi_s, isi_l, isi_t, isi_n, ty_ii, ty_bi, ty_ss, ty_ll, ty_tt, ty_tl, ty_lt, ty_tn, find_s, lower_s, sq_nx, sq_sq, sq_a, sq_o, sq_x, sq_if, sq_ret, sq_retL, oOf_o, sq_retO, sq_app, lstK_l, sq_ext, sq_aug, sq_g, sq_frz, sq_br, sq_ct, sq_raise, ofG_some, nx_ap, thenS_nx, thenS_rt, thenS_exc, sq_for, sq_wh, endV_v, endV_o, endV_n, endV_x, endL_o, endL_x, gN_ap, List.getElem?_cons_zero, List.getElem?_cons_succ, List.set_cons_zero, List.set_cons_succ, List.length_cons, List.length_nil, decide_eq_true_eq, Bool.not_eq_true, reduceIte, Bool.false_eq_true, decide_true, decide_false, Nat.reduceAdd, Nat.reduceLeDiff, Nat.reduceLT, Bool.not_true, Bool.not_false, List.nil_append, List.cons_append, List.map_cons, List.map_nil, List.replicate_succ, List.replicate_zero, Bool.not_eq_eq_eq_not, decide_eq_false_iff_not, and_self, and_true, true_and, and_false, false_and, or_true, true_or, or_false, false_or, or_self, Int.reduceLE, Int.reduceLT, Int.reduceNeg, Int.reduceAdd, Int.reduceSub, Int.reduceMul, Int.reduceDiv, Int.reduceMod, Int.reduceEq, Int.reduceToNat, Nat.reduceEqDiff, frz_zero, frz_succ, gT_tup, gT_ktp, gC_ap, gE_nil, cast_0, cast_1, cast_2, cast_3, cast_4, cast_5, cast_6, cast_7, cast_8, cast_9, ty_bs, ty_is, frz_zeroV, oOfR_o, ap_lenO, ap_ixO, tOf_some, pOf_fn, ap_P, ap_iZT, itZT_ok, zipD_cons, zipD_nil, str_i, sq_set, oOfS_o, set_ints, c63, c64, low64, c]
      rw [Int.one_mul] at c
      rw [if_neg c]
theorem signed_ok {k : Str} {W : Int} {w : Nat} (K : KW k W w) (x : Int) : m_signed [.str k, .int x] = .ok (.int (sgn w x)) := by
  rw [e_signed]
  unfold b_signed
  simp only [bind_ok, bind_exc, bind_bad, ofE_ok, ofE_exc, vOf_v, ap_C, ap_V, ap_nil, ap_cons, ap_U, ap_B, ap_chain, ap_and, ap_or, ap_tup, ap_F, ap_M, ap_sl, ap_pN, ap_pS, ap_L, ap_tE, ap_tAn, ap_tO, ap_tN, ap_tY, ap_if, ap_lD, ap_lF, ap_lCat, catL_ok, ap_lRep, repL_ok, ap_lSl, slL_lst, slL_scr, ap_iD, itL_lst, itL_scr, ap_iT, itT_tup, itT_ktp, ap_iS, itS_str, ap_iR1, itR1_ok, add_i, add_s, add_l, addX_i, addX_s, sub_i, mul_i, div_i, mod_i, pow_i, shl_i, shr_i, and_i, or_i, xor_i, neg_i, not_b, lt_i, le_i, gt_i, ge_i, eq_i, eq_s, ne_i, ne_s, is_non, is_int, is_str, is_tup, is_lst, isnt_non, isnt_int, isnt_str, isnt_tup, toBl_b, toIn_i, ix_s, ix_l, ix_r, ix_t, ix_k, sl_s, sl_l, sl_r, sl_t, len_s, len_l, len_r, len_t, len_k, int_i, int_b, abs_i, min_i, max_i, tup_l, tup_t, list_l, list_r, list_t, isi_i, isi_b, isi_s, isi_l, isi_t, isi_n, ty_ii, ty_bi, ty_ss, ty_ll, ty_tt, ty_tl, ty_lt, ty_tn, find_s, lower_s, sq_nx, sq_sq, sq_a, sq_o, sq_x, sq_if, sq_ret, sq_retL, oOf_o, sq_retO, sq_app, lstK_l, sq_ext, sq_aug, sq_g, sq_frz, sq_br, sq_ct, sq_raise, ofG_some, nx_ap, thenS_nx, thenS_rt, thenS_exc, sq_for, sq_wh, endV_v, endV_o, endV_n, endV_x, endL_o, endL_x, gN_ap, List.getElem?_cons_zero, List.getElem?_cons_succ, List.set_cons_zero, List.set_cons_succ, List.length_cons, List.length_nil, decide_eq_true_eq, Bool.not_eq_true, reduceIte, Bool.false_eq_true, decide_true, decide_false, Nat.reduceAdd, Nat.reduceLeDiff, Nat.reduceLT, Bool.not_true, Bool.not_false, List.nil_append, List.cons_append, List.map_cons, List.map_nil, List.replicate_succ, List.replicate_zero, Bool.not_eq_eq_eq_not, decide_eq_false_iff_not, and_self, and_true, true_and, and_false, false_and, or_true, true_or, or_false, false_or, or_self, Int.reduceLE, Int.reduceLT, Int.reduceNeg, Int.reduceAdd, Int.reduceSub, Int.reduceMul, Int.reduceDiv, Int.reduceMod, Int.reduceEq, Int.reduceToNat, Nat.reduceEqDiff, frz_zero, frz_succ, gT_tup, gT_ktp, gC_ap, gE_nil, cast_0, cast_1, cast_2, cast_3, cast_4, cast_5, cast_6, cast_7, cast_8, cast_9, ty_bs, ty_is, frz_zeroV, oOfR_o, ap_lenO, ap_ixO, tOf_some, pOf_fn, ap_P, ap_iZT, itZT_ok, zipD_cons, zipD_nil, str_i, sq_set, oOfS_o, set_ints, width_ok K, extend_ok K]
theorem unsigned_ok {k : Str} {W : Int} {w : Nat} (K : KW k W w) (x : Int) : m_unsigned [.str k, .int x] = .ok (.int (x % 2 ^ w)) := by
  rw [e_unsigned]
  unfold b_unsigned
  cases K
  · simp only [bind_ok, bind_exc, bind_bad, ofE_ok, ofE_exc, vOf_v, ap_C, ap_V, ap_nil, ap_cons, ap_U, ap_B, ap_chain, ap_and, ap_or, ap_tup, ap_F, ap_M, ap_sl, ap_pN, ap_pS, ap_L, ap_tE, ap_tAn, ap_tO, ap_tN, ap_tY, ap_if, ap_lD, ap_lF, ap_lCat, catL_ok, ap_lRep, repL_ok, ap_lSl, slL_lst, slL_scr, ap_iD, itL_lst, itL_scr, ap_iT, itT_tup, itT_ktp, ap_iS, itS_str, ap_iR1, itR1_ok, add_i, add_s, add_l, addX_i, addX_s, sub_i, mul_i, div_i, mod_i, pow_i, shl_i, shr_i, and_i, or_i, xor_i, neg_i, not_b, lt_i, le_i, gt_i, ge_i, eq_i, eq_s, ne_i, ne_s, is_non, is_int, is_str, is_tup, is_lst, isnt_non, isnt_int, isnt_str, isnt_tup, toBl_b, toIn_i, ix_s, ix_l, ix_r, ix_t, ix_k, sl_s, sl_l, sl_r, sl_t, len_s, len_l, len_r, len_t, len_k, int_i, int_b, abs_i, min_i, max_i, tup_l, tup_t, list_l, list_r, list_t, isi_i, isi_b, isi_s, isi_l, isi_t, isi_n, ty_ii, ty_bi, ty_ss, ty_ll, ty_tt, ty_tl, ty_lt, ty_tn, find_s, lower_s, sq_nx, sq_sq, sq_a, sq_o, sq_x, sq_if, sq_ret, sq_retL, oOf_o, sq_retO, sq_app, lstK_l, sq_ext, sq_aug, sq_g, sq_frz, sq_br, sq_ct, sq_raise, ofG_some, nx_ap, thenS_nx, thenS_rt, thenS_exc, sq_for, sq_wh, endV_v, endV_o, endV_n, endV_x, endL_o, endL_x, gN_ap, List.getElem?_cons_zero, List.getElem?_cons_succ, List.set_cons_zero, List.set_cons_succ, List.length_cons, List.length_nil, decide_eq_true_eq, Bool.not_eq_true, reduceIte, Bool.false_eq_true, decide_true, decide_false, Nat.reduceAdd, Nat.reduceLeDiff, Nat.reduceLT, Bool.not_true, Bool.not_false, List.nil_append, List.cons_append, List.map_cons, List.map_nil, List.replicate_succ, List.replicate_zero, Bool.not_eq_eq_eq_not, decide_eq_false_iff_not, and_self, and_true, true_and, and_false, false_and, or_true, true_or, or_false, false_or, or_self, Int.reduceLE, Int.reduceLT, Int.reduceNeg, Int.reduceAdd, Int.reduceSub, Int.reduceMul, Int.reduceDiv, Int.reduceMod, Int.reduceEq, Int.reduceToNat, Nat.reduceEqDiff, frz_zero, frz_succ, gT_tup, gT_ktp, gC_ap, gE_nil, cast_0, cast_1, cast_2, cast_3, cast_4, cast_5, cast_6, cast_7, cast_8, cast_9, ty_bs, ty_is, frz_zeroV, oOfR_o, ap_lenO, ap_ixO, tOf_some, pOf_fn, ap_P, ap_iZT, itZT_ok, zipD_cons, zipD_nil, str_i, sq_set, oOfS_o, set_ints, width_ok KW.a, c32, low32]
  · simp only [bind_ok, bind_exc, bind_bad, ofE_ok, ofE_exc, vOf_v, ap_C, ap_V, ap_nil, ap_cons, ap_U, ap_B, ap_chain, ap_and, ap_or, ap_tup, ap_F, ap_M, ap_sl, ap_pN, ap_pS, ap_L, ap_tE, ap_tAn, ap_tO, ap_tN, ap_tY, ap_if, ap_lD, ap_lF, ap_lCat, catL_ok, ap_lRep, repL_ok, ap_lSl, slL_lst, slL_scr, ap_iD, itL_lst, itL_scr, ap_iT, itT_tup, itT_ktp, ap_iS, itS_str, ap_iR1, itR1_ok, add_i, add_s, add_l, addX_i, addX_s, sub_i, mul_i, div_i, mod_i, pow_i, shl_i, shr_i, and_i, or_i, xor_i, neg_i, not_b, lt_i, le_i, gt_i, ge_i, eq_i, eq_s, ne_i, ne_s, is_non, is_int, is_str, is_tup, is_lst, isnt_non, isnt_int, isnt_str, isnt_tup, toBl_b, toIn_i, ix_s, ix_l, ix_r, ix_t, ix_k, sl_s, sl_l, sl_r, sl_t, len_s, len_l, len_r, len_t, len_k, int_i, int_b, abs_i, min_i, max_i, tup_l, tup_t, list_l, list_r, list_t, isi_i, isi_b, isi_s, isi_l, isi_t, isi_n, ty_ii, ty_bi, ty_ss, ty_ll, ty_tt, ty_tl, ty_lt, ty_tn, find_s, lower_s, sq_nx, sq_sq, sq_a, sq_o, sq_x, sq_if, sq_ret, sq_retL, oOf_o, sq_retO, sq_app, lstK_l, sq_ext, sq_aug, sq_g, sq_frz, sq_br, sq_ct, sq_raise, ofG_some, nx_ap, thenS_nx, thenS_rt, thenS_exc, sq_for, sq_wh, endV_v, endV_o, endV_n, endV_x, endL_o, endL_x, gN_ap, List.getElem?_cons_zero, List.getElem?_cons_succ, List.set_cons_zero, List.set_cons_succ, List.length_cons, List.length_nil, decide_eq_true_eq, Bool.not_eq_true, reduceIte, Bool.false_eq_true, decide_true, decide_false, Nat.reduceAdd, Nat.reduceLeDiff, Nat.reduceLT, Bool.not_true, Bool.not_false, List.nil_append, List.cons_append, List.map_cons, List.map_nil, List.replicate_succ, List.replicate_zero, Bool.not_eq_eq_eq_not, decide_eq_false_iff_not, and_self, and_true, true_and, and_false, false_and, or_true, true_or, or_false, false_or, or_self, Int.reduceLE, Int.reduceLT, Int.reduceNeg, Int.reduceAdd, Int.reduceSub, Int.reduceMul, Int.reduceDiv, Int.reduceMod, Int.reduceEq, Int.reduceToNat, Nat.reduceEqDiff, frz_zero, frz_succ, gT_tup, gT_ktp, gC_ap, gE_nil, cast_0, cast_1, cast_2, cast_3, cast_4, cast_5, cast_6, cast_7, cast_8, cast_9, ty_bs, ty_is, frz_zeroV, oOfR_o, ap_lenO, ap_ixO, tOf_some, pOf_fn, ap_P, ap_iZT, itZT_ok, zipD_cons, zipD_nil, str_i, sq_set, oOfS_o, set_ints, width_ok KW.b, c64, low64]
theorem in_range_ok {k : Str} {W : Int} {w : Nat} (K : KW k W w) (x : Int) : m_in_range [.str k, .int x] = .ok (.bl (decide (sgn w x = x))) := by
  rw [e_in_range]
  unfold b_in_range
  simp only [bind_ok, bind_exc, bind_bad, ofE_ok, ofE_exc, vOf_v, ap_C, ap_V, ap_nil, ap_cons, ap_U, ap_B, ap_chain, ap_and, ap_or, ap_tup, ap_F, ap_M, ap_sl, ap_pN, ap_pS, ap_L, ap_tE, ap_tAn, ap_tO, ap_tN, ap_tY, ap_if, ap_lD, ap_lF, ap_lCat, catL_ok, ap_lRep, repL_ok, ap_lSl, slL_lst, slL_scr, ap_iD, itL_lst, itL_scr, ap_iT, itT_tup, itT_ktp, ap_iS, itS_str, ap_iR1, itR1_ok, add_i, add_s, add_l, addX_i, addX_s, sub_i, mul_i, div_i, mod_i, pow_i, shl_i, shr_i, and_i, or_i, xor_i, neg_i, not_b, lt_i, le_i, gt_i, ge_i, eq_i, eq_s, ne_i, ne_s, is_non, is_int, is_str, is_tup, is_lst, isnt_non, isnt_int, isnt_str, isnt_tup, toBl_b, toIn_i, ix_s, ix_l, ix_r, ix_t, ix_k, sl_s, sl_l, sl_r, sl_t, len_s, len_l, len_r, len_t, len_k, int_i, int_b, abs_i, min_i, max_i, tup_l, tup_t, list_l, list_r, list_t, isi_i, isi_b, isi_s, isi_l, isi_t, isi_n, ty_ii, ty_bi, ty_ss, ty_ll, ty_tt, ty_tl, ty_lt, ty_tn, find_s, lower_s, sq_nx, sq_sq, sq_a, sq_o, sq_x, sq_if, sq_ret, sq_retL, oOf_o, sq_retO, sq_app, lstK_l, sq_ext, sq_aug, sq_g, sq_frz, sq_br, sq_ct, sq_raise, ofG_some, nx_ap, thenS_nx, thenS_rt, thenS_exc, sq_for, sq_wh, endV_v, endV_o, endV_n, endV_x, endL_o, endL_x, gN_ap, List.getElem?_cons_zero, List.getElem?_cons_succ, List.set_cons_zero, List.set_cons_succ, List.length_cons, List.length_nil, decide_eq_true_eq, Bool.not_eq_true, reduceIte, Bool.false_eq_true, decide_true, decide_false, Nat.reduceAdd, Nat.reduceLeDiff, Nat.reduceLT, Bool.not_true, Bool.not_false, List.nil_append, List.cons_append, List.map_cons, List.map_nil, List.replicate_succ, List.replicate_zero, Bool.not_eq_eq_eq_not, decide_eq_false_iff_not, and_self, and_true, true_and, and_false, false_and, or_true, true_or, or_false, false_or, or_self, Int.reduceLE, Int.reduceLT, Int.reduceNeg, Int.reduceAdd, Int.reduceSub, Int.reduceMul, Int.reduceDiv, Int.reduceMod, Int.reduceEq, Int.reduceToNat, Nat.reduceEqDiff, frz_zero, frz_succ, gT_tup, gT_ktp, gC_ap, gE_nil, cast_0, cast_1, cast_2, cast_3, cast_4, cast_5, cast_6, cast_7, cast_8, cast_9, ty_bs, ty_is, frz_zeroV, oOfR_o, ap_lenO, ap_ixO, tOf_some, pOf_fn, ap_P, ap_iZT, itZT_ok, zipD_cons, zipD_nil, str_i, sq_set, oOfS_o, set_ints, signed_ok K]
theorem count_ok {k : Str} {W : Int} {w : Nat} (K : KW k W w) (x : Int) : m_shift_count [.str k, .int x] = .ok (.int (x % W)) := by
  rw [e_shift_count]
  unfold b_shift_count
  cases K
  · simp only [bind_ok, bind_exc, bind_bad, ofE_ok, ofE_exc, vOf_v, ap_C, ap_V, ap_nil, ap_cons, ap_U, ap_B, ap_chain, ap_and, ap_or, ap_tup, ap_F, ap_M, ap_sl, ap_pN, ap_pS, ap_L, ap_tE, ap_tAn, ap_tO, ap_tN, ap_tY, ap_if, ap_lD, ap_lF, ap_lCat, catL_ok, ap_lRep, repL_ok, ap_lSl, slL_lst, slL_scr, ap_iD, itL_lst, itL_scr, ap_iT, itT_tup, itT_ktp, ap_iS, itS_str, ap_iR1, itR1_ok, add_i, add_s, add_l, addX_i, addX_s, sub_i, mul_i, div_i, mod_i, pow_i, shl_i, shr_i, and_i, or_i, xor_i, neg_i, not_b, lt_i, le_i, gt_i, ge_i, eq_i, eq_s, ne_i, ne_s, is_non, is_int, is_str, is_tup, is_lst, isnt_non, isnt_int, isnt_str, isnt_tup, toBl_b, toIn_i, ix_s, ix_l, ix_r, ix_t, ix_k, sl_s, sl_l, sl_r, sl_t, len_s, len_l, len_r, len_t, len_k, int_i, int_b, abs_i, min_i, max_i, tup_l, tup_t, list_l, list_r, list_t, isi_i, isi_b, isi_s, isi_l, isi_t, isi_n, ty_ii, ty_bi, ty_ss, ty_ll, ty_tt, ty_tl, ty_lt, ty_tn, find_s, lower_s, sq_nx, sq_sq, sq_a, sq_o, sq_x, sq_if, sq_ret, sq_retL, oOf_o, sq_retO, sq_app, lstK_l, sq_ext, sq_aug, sq_g, sq_frz, sq_br, sq_ct, sq_raise, ofG_some, nx_ap, thenS_nx, thenS_rt, thenS_exc, sq_for, sq_wh, endV_v, endV_o, endV_n, endV_x, endL_o, endL_x, gN_ap, List.getElem?_cons_zero, List.getElem?_cons_succ, List.set_cons_zero, List.set_cons_succ, List.length_cons, List.length_nil, decide_eq_true_eq, Bool.not_eq_true, reduceIte, Bool.false_eq_true, decide_true, decide_false, Nat.reduceAdd, Nat.reduceLeDiff, Nat.reduceLT, Bool.not_true, Bool.not_false, List.nil_append, List.cons_append, List.map_cons, List.map_nil, List.replicate_succ, List.replicate_zero, Bool.not_eq_eq_eq_not, decide_eq_false_iff_not, and_self, and_true, true_and, and_false, false_and, or_true, true_or, or_false, false_or, or_self, Int.reduceLE, Int.reduceLT, Int.reduceNeg, Int.reduceAdd, Int.reduceSub, Int.reduceMul, Int.reduceDiv, Int.reduceMod, Int.reduceEq, Int.reduceToNat, Nat.reduceEqDiff, frz_zero, frz_succ, gT_tup, gT_ktp, gC_ap, gE_nil, cast_0, cast_1, cast_2, cast_3, cast_4, cast_5, cast_6, cast_7, cast_8, cast_9, ty_bs, ty_is, frz_zeroV, oOfR_o, ap_lenO, ap_ixO, tOf_some, pOf_fn, ap_P, ap_iZT, itZT_ok, zipD_cons, zipD_nil, str_i, sq_set, oOfS_o, set_ints, width_ok KW.a, show Builtin.bitAnd x 31 = x % 32 from and31 x]
  · simp only [bind_ok, bind_exc, bind_bad, ofE_ok, ofE_exc, vOf_v, ap_C, ap_V, ap_nil, ap_cons, ap_U, ap_B, ap_chain, ap_and, ap_or, ap_tup, ap_F, ap_M, ap_sl, ap_pN, ap_pS, ap_L, ap_tE, ap_tAn, ap_tO, ap_tN, ap_tY, ap_if, ap_lD, ap_lF, ap_lCat, catL_ok, ap_lRep, repL_ok, ap_lSl, slL_lst, slL_scr, ap_iD, itL_lst, itL_scr, ap_iT, itT_tup, itT_ktp, ap_iS, itS_str, ap_iR1, itR1_ok, add_i, add_s, add_l, addX_i, addX_s, sub_i, mul_i, div_i, mod_i, pow_i, shl_i, shr_i, and_i, or_i, xor_i, neg_i, not_b, lt_i, le_i, gt_i, ge_i, eq_i, eq_s, ne_i, ne_s, is_non, is_int, is_str, is_tup, is_lst, isnt_non, isnt_int, isnt_str, isnt_tup, toBl_b, toIn_i, ix_s, ix_l, ix_r, ix_t, ix_k, sl_s, sl_l, sl_r, sl_t, len_s, len_l, len_r, len_t, len_k, int_i, int_b, abs_i, min_i, max_i, tup_l, tup_t, list_l, list_r, list_t, isi_i, isi_b, isi_s, isi_l, isi_t, isi_n, ty_ii, ty_bi, ty_ss, ty_ll, ty_tt, ty_tl, ty_lt, ty_tn, find_s, lower_s, sq_nx, sq_sq, sq_a, sq_o, sq_x, sq_if, sq_ret, sq_retL, oOf_o, sq_retO, sq_app, lstK_l, sq_ext, sq_aug, sq_g, sq_frz, sq_br, sq_ct, sq_raise, ofG_some, nx_ap, thenS_nx, thenS_rt, thenS_exc, sq_for, sq_wh, endV_v, endV_o, endV_n, endV_x, endL_o, endL_x, gN_ap, List.getElem?_cons_zero, List.getElem?_cons_succ, List.set_cons_zero, List.set_cons_succ, List.length_cons, List.length_nil, decide_eq_true_eq, Bool.not_eq_true, reduceIte, Bool.false_eq_true, decide_true, decide_false, Nat.reduceAdd, Nat.reduceLeDiff, Nat.reduceLT, Bool.not_true, Bool.not_false, List.nil_append, List.cons_append, List.map_cons, List.map_nil, List.replicate_succ, List.replicate_zero, Bool.not_eq_eq_eq_not, decide_eq_false_iff_not, and_self, and_true, true_and, and_false, false_and, or_true, true_or, or_false, false_or, or_self, Int.reduceLE, Int.reduceLT, Int.reduceNeg, Int.reduceAdd, Int.reduceSub, Int.reduceMul, Int.reduceDiv, Int.reduceMod, Int.reduceEq, Int.reduceToNat, Nat.reduceEqDiff, frz_zero, frz_succ, gT_tup, gT_ktp, gC_ap, gE_nil, cast_0, cast_1, cast_2, cast_3, cast_4, cast_5, cast_6, cast_7, cast_8, cast_9, ty_bs, ty_is, frz_zeroV, oOfR_o, ap_lenO, ap_ixO, tOf_some, pOf_fn, ap_P, ap_iZT, itZT_ok, zipD_cons, zipD_nil, str_i, sq_set, oOfS_o, set_ints, width_ok KW.b, show Builtin.bitAnd x 63 = x % 64 from and63 x]
theorem isint_ok (n : Int) : m_l_is_integer [.int n] = .ok (.bl true) := rfl
section
variable {k : Str} {W : Int} {w : Nat}
theorem abs_in (K : KW k W w) {x : Int} (h : inR w x) : x.natAbs < 2 ^ 64 := by cases K <;> unfold inR at h <;> omega
theorem w_pos (K : KW k W w) : 0 < W := by cases K <;> decide
theorem w_eq (K : KW k W w) : W = w := by cases K <;> rfl
theorem w_le (K : KW k W w) : w ≤ 64 ∧ 0 < w := by cases K <;> decide
theorem abs_u (K : KW k W w) (x : Int) : (x % 2 ^ w).natAbs < 2 ^ 64 := by cases K <;> omega
theorem chk1 (K : KW k W w) {x : Int} (a b s t : Sl) : b_check_operands_1 [a, b, .val (.str k), .val (.int x)] = if sgn w x = x then .nx [a, b, .val (.str k), .val (.int x)] else .exc 1003 [] [a, b, .val (.str k), .val (.int x)] := by
  unfold b_check_operands_1
  by_cases h : sgn w x = x
  · rw [if_pos h]
    simp only [bind_ok, bind_exc, bind_bad, ofE_ok, ofE_exc, vOf_v, ap_C, ap_V, ap_nil, ap_cons, ap_U, ap_B, ap_chain, ap_and, ap_or, ap_tup, ap_F, ap_M, ap_sl, ap_pN, ap_pS, ap_L, ap_tE, ap_tAn, ap_tO, ap_tN, ap_tY, ap_if, ap_lD, ap_lF, ap_lCat, catL_ok, ap_lRep, repL_ok, ap_lSl, slL_lst, slL_scr, ap_iD, itL_lst, itL_scr, ap_iT, itT_tup, itT_ktp, ap_iS, itS_str, ap_iR1, itR1_ok, add_i, add_s, add_l, addX_i, addX_s, sub_i, mul_i, div_i, mod_i, pow_i, shl_i, shr_i, and_i, or_i, xor_i, neg_i, not_b, lt_i, le_i, gt_i, ge_i, eq_i, eq_s, ne_i, ne_s, is_non, is_int, is_str, is_tup, is_lst, isnt_non, isnt_int, isnt_str, isnt_tup, toBl_b, toIn_i, ix_s, ix_l, ix_r, ix_t, ix_k, sl_s, sl_l, sl_r, sl_t, len_s, len_l, len_r, len_t, len_k, int_i, int_b, abs_i, min_i, max_i, tup_l, tup_t, list_l, list_r, list_t, isi_i, isi_b, isi_s, isi_l, isi_t, isi_n, ty_ii, ty_bi, ty_ss, ty_ll, ty_tt, ty_tl, ty_lt, ty_tn, find_s, lower_s, sq_nx, sq_sq, sq_a, sq_o, sq_x, sq_if, sq_ret, sq_retL, oOf_o, sq_retO, sq_app, lstK_l, sq_ext, sq_aug, sq_g, sq_frz, sq_br, sq_ct, sq_raise, ofG_some, nx_ap, thenS_nx, thenS_rt, thenS_exc, sq_for, sq_wh, endV_v, endV_o, endV_n, endV_x, endL_o, endL_x, gN_ap, List.getElem?_cons_zero, List.getElem?_cons_succ, List.set_cons_zero, List.set_cons_succ, List.length_cons, List.length_nil, decide_eq_true_eq, Bool.not_eq_true, reduceIte, Bool.false_eq_true, decide_true, decide_false, Nat.reduceAdd, Nat.reduceLeDiff, Nat.reduceLT, Bool.not_true, Bool.not_false, List.nil_append, List.cons_append, List.map_cons, List.map_nil, List.replicate_succ, List.replicate_zero, Bool.not_eq_eq_eq_not, decide_eq_false_iff_not, and_self, and_true, true_and, and_false, false_and, or_true, true_or, or_false, false_or, or_self, Int.reduceLE, Int.reduceLT, Int.reduceNeg, Int.reduceAdd, Int.reduceSub, Int.reduceMul, Int.reduceDiv, Int.reduceMod, Int.reduceEq, Int.reduceToNat, Nat.reduceEqDiff, frz_zero, frz_succ, gT_tup, gT_ktp, gC_ap, gE_nil, cast_0, cast_1, cast_2, cast_3, cast_4, cast_5, cast_6, cast_7, cast_8, cast_9, ty_bs, ty_is, frz_zeroV, oOfR_o, ap_lenO, ap_ixO, tOf_some, pOf_fn, ap_P, ap_iZT, itZT_ok, zipD_cons, zipD_nil, str_i, sq_set, oOfS_o, set_ints, in_range_ok K, eq_true h]
  · rw [if_neg h]
    simp only [bind_ok, bind_exc, bind_bad, ofE_ok, ofE_exc, vOf_v, ap_C, ap_V, ap_nil, ap_cons, ap_U, ap_B, ap_chain, ap_and, ap_or, ap_tup, ap_F, ap_M, ap_sl, ap_pN, ap_pS, ap_L, ap_tE, ap_tAn, ap_tO, ap_tN, ap_tY, ap_if, ap_lD, ap_lF, ap_lCat, catL_ok, ap_lRep, repL_ok, ap_lSl, slL_lst, slL_scr, ap_iD, itL_lst, itL_scr, ap_iT, itT_tup, itT_ktp, ap_iS, itS_str, ap_iR1, itR1_ok, add_i, add_s, add_l, addX_i, addX_s, sub_i, mul_i, div_i, mod_i, pow_i, shl_i, shr_i, and_i, or_i, xor_i, neg_i, not_b, lt_i, le_i, gt_i, ge_i, eq_i, eq_s, ne_i, ne_s, is_non, is_int, is_str, is_tup, is_lst, isnt_non, isnt_int, isnt_str, isnt_tup, toBl_b, toIn_i, ix_s, ix_l, ix_r, ix_t, ix_k, sl_s, sl_l, sl_r, sl_t, len_s, len_l, len_r, len_t, len_k, int_i, int_b, abs_i, min_i, max_i, tup_l, tup_t, list_l, list_r, list_t, isi_i, isi_b, isi_s, isi_l, isi_t, isi_n, ty_ii, ty_bi, ty_ss, ty_ll, ty_tt, ty_tl, ty_lt, ty_tn, find_s, lower_s, sq_nx, sq_sq, sq_a, sq_o, sq_x, sq_if, sq_ret, sq_retL, oOf_o, sq_retO, sq_app, lstK_l, sq_ext, sq_aug, sq_g, sq_frz, sq_br, sq_ct, sq_raise, ofG_some, nx_ap, thenS_nx, thenS_rt, thenS_exc, sq_for, sq_wh, endV_v, endV_o, endV_n, endV_x, endL_o, endL_x, gN_ap, List.getElem?_cons_zero, List.getElem?_cons_succ, List.set_cons_zero, List.set_cons_succ, List.length_cons, List.length_nil, decide_eq_true_eq, Bool.not_eq_true, reduceIte, Bool.false_eq_true, decide_true, decide_false, Nat.reduceAdd, Nat.reduceLeDiff, Nat.reduceLT, Bool.not_true, Bool.not_false, List.nil_append, List.cons_append, List.map_cons, List.map_nil, List.replicate_succ, List.replicate_zero, Bool.not_eq_eq_eq_not, decide_eq_false_iff_not, and_self, and_true, true_and, and_false, false_and, or_true, true_or, or_false, false_or, or_self, Int.reduceLE, Int.reduceLT, Int.reduceNeg, Int.reduceAdd, Int.reduceSub, Int.reduceMul, Int.reduceDiv, Int.reduceMod, Int.reduceEq, Int.reduceToNat, Nat.reduceEqDiff, frz_zero, frz_succ, gT_tup, gT_ktp, gC_ap, gE_nil, cast_0, cast_1, cast_2, cast_3, cast_4, cast_5, cast_6, cast_7, cast_8, cast_9, ty_bs, ty_is, frz_zeroV, oOfR_o, ap_lenO, ap_ixO, tOf_some, pOf_fn, ap_P, ap_iZT, itZT_ok, zipD_cons, zipD_nil, str_i, sq_set, oOfS_o, set_ints, in_range_ok K, eq_false h]
    rfl
theorem check1 (K : KW k W w) (x : Int) : m_check_operands [.tup [.str k], .tup [.int x]] = if sgn w x = x then .ok .non else .exc 1003 [] := by
  rw [e_check_operands]
  unfold b_check_operands
  simp only [bind_ok, bind_exc, bind_bad, ofE_ok, ofE_exc, vOf_v, ap_C, ap_V, ap_nil, ap_cons, ap_U, ap_B, ap_chain, ap_and, ap_or, ap_tup, ap_F, ap_M, ap_sl, ap_pN, ap_pS, ap_L, ap_tE, ap_tAn, ap_tO, ap_tN, ap_tY, ap_if, ap_lD, ap_lF, ap_lCat, catL_ok, ap_lRep, repL_ok, ap_lSl, slL_lst, slL_scr, ap_iD, itL_lst, itL_scr, ap_iT, itT_tup, itT_ktp, ap_iS, itS_str, ap_iR1, itR1_ok, add_i, add_s, add_l, addX_i, addX_s, sub_i, mul_i, div_i, mod_i, pow_i, shl_i, shr_i, and_i, or_i, xor_i, neg_i, not_b, lt_i, le_i, gt_i, ge_i, eq_i, eq_s, ne_i, ne_s, is_non, is_int, is_str, is_tup, is_lst, isnt_non, isnt_int, isnt_str, isnt_tup, toBl_b, toIn_i, ix_s, ix_l, ix_r, ix_t, ix_k, sl_s, sl_l, sl_r, sl_t, len_s, len_l, len_r, len_t, len_k, int_i, int_b, abs_i, min_i, max_i, tup_l, tup_t, list_l, list_r, list_t, isi_i, isi_b, isi_s, isi_l, isi_t, isi_n, ty_ii, ty_bi, ty_ss, ty_ll, ty_tt, ty_tl, ty_lt, ty_tn, find_s, lower_s, sq_nx, sq_sq, sq_a, sq_o, sq_x, sq_if, sq_ret, sq_retL, oOf_o, sq_retO, sq_app, lstK_l, sq_ext, sq_aug, sq_g, sq_frz, sq_br, sq_ct, sq_raise, ofG_some, nx_ap, thenS_nx, thenS_rt, thenS_exc, sq_for, sq_wh, endV_v, endV_o, endV_n, endV_x, endL_o, endL_x, gN_ap, List.getElem?_cons_zero, List.getElem?_cons_succ, List.set_cons_zero, List.set_cons_succ, List.length_cons, List.length_nil, decide_eq_true_eq, Bool.not_eq_true, reduceIte, Bool.false_eq_true, decide_true, decide_false, Nat.reduceAdd, Nat.reduceLeDiff, Nat.reduceLT, Bool.not_true, Bool.not_false, List.nil_append, List.cons_append, List.map_cons, List.map_nil, List.replicate_succ, List.replicate_zero, Bool.not_eq_eq_eq_not, decide_eq_false_iff_not, and_self, and_true, true_and, and_false, false_and, or_true, true_or, or_false, false_or, or_self, Int.reduceLE, Int.reduceLT, Int.reduceNeg, Int.reduceAdd, Int.reduceSub, Int.reduceMul, Int.reduceDiv, Int.reduceMod, Int.reduceEq, Int.reduceToNat, Nat.reduceEqDiff, frz_zero, frz_succ, gT_tup, gT_ktp, gC_ap, gE_nil, cast_0, cast_1, cast_2, cast_3, cast_4, cast_5, cast_6, cast_7, cast_8, cast_9, ty_bs, ty_is, frz_zeroV, oOfR_o, ap_lenO, ap_ixO, tOf_some, pOf_fn, ap_P, ap_iZT, itZT_ok, zipD_cons, zipD_nil, str_i, sq_set, oOfS_o, set_ints]
  rw [forGo_cons (e2 := [.val (.tup [.str k]), .val (.tup [.int x]), .val (.str k), .val (.int x)]) rfl, chk1 K _ _ .un .un]
  by_cases h : sgn w x = x
  · rw [if_pos h, if_pos h]
    simp only [bind_ok, bind_exc, bind_bad, ofE_ok, ofE_exc, vOf_v, ap_C, ap_V, ap_nil, ap_cons, ap_U, ap_B, ap_chain, ap_and, ap_or, ap_tup, ap_F, ap_M, ap_sl, ap_pN, ap_pS, ap_L, ap_tE, ap_tAn, ap_tO, ap_tN, ap_tY, ap_if, ap_lD, ap_lF, ap_lCat, catL_ok, ap_lRep, repL_ok, ap_lSl, slL_lst, slL_scr, ap_iD, itL_lst, itL_scr, ap_iT, itT_tup, itT_ktp, ap_iS, itS_str, ap_iR1, itR1_ok, add_i, add_s, add_l, addX_i, addX_s, sub_i, mul_i, div_i, mod_i, pow_i, shl_i, shr_i, and_i, or_i, xor_i, neg_i, not_b, lt_i, le_i, gt_i, ge_i, eq_i, eq_s, ne_i, ne_s, is_non, is_int, is_str, is_tup, is_lst, isnt_non, isnt_int, isnt_str, isnt_tup, toBl_b, toIn_i, ix_s, ix_l, ix_r, ix_t, ix_k, sl_s, sl_l, sl_r, sl_t, len_s, len_l, len_r, len_t, len_k, int_i, int_b, abs_i, min_i, max_i, tup_l, tup_t, list_l, list_r, list_t, isi_i, isi_b, isi_s, isi_l, isi_t, isi_n, ty_ii, ty_bi, ty_ss, ty_ll, ty_tt, ty_tl, ty_lt, ty_tn, find_s, lower_s, sq_nx, sq_sq, sq_a, sq_o, sq_x, sq_if, sq_ret, sq_retL, oOf_o, sq_retO, sq_app, lstK_l, sq_ext, sq_aug, sq_g, sq_frz, sq_br, sq_ct, sq_raise, ofG_some, nx_ap, thenS_nx, thenS_rt, thenS_exc, sq_for, sq_wh, endV_v, endV_o, endV_n, endV_x, endL_o, endL_x, gN_ap, List.getElem?_cons_zero, List.getElem?_cons_succ, List.set_cons_zero, List.set_cons_succ, List.length_cons, List.length_nil, decide_eq_true_eq, Bool.not_eq_true, reduceIte, Bool.false_eq_true, decide_true, decide_false, Nat.reduceAdd, Nat.reduceLeDiff, Nat.reduceLT, Bool.not_true, Bool.not_false, List.nil_append, List.cons_append, List.map_cons, List.map_nil, List.replicate_succ, List.replicate_zero, Bool.not_eq_eq_eq_not, decide_eq_false_iff_not, and_self, and_true, true_and, and_false, false_and, or_true, true_or, or_false, false_or, or_self, Int.reduceLE, Int.reduceLT, Int.reduceNeg, Int.reduceAdd, Int.reduceSub, Int.reduceMul, Int.reduceDiv, Int.reduceMod, Int.reduceEq, Int.reduceToNat, Nat.reduceEqDiff, frz_zero, frz_succ, gT_tup, gT_ktp, gC_ap, gE_nil, cast_0, cast_1, cast_2, cast_3, cast_4, cast_5, cast_6, cast_7, cast_8, cast_9, ty_bs, ty_is, frz_zeroV, oOfR_o, ap_lenO, ap_ixO, tOf_some, pOf_fn, ap_P, ap_iZT, itZT_ok, zipD_cons, zipD_nil, str_i, sq_set, oOfS_o, set_ints, forGo_nil]
  · rw [if_neg h, if_neg h]
    simp only [bind_ok, bind_exc, bind_bad, ofE_ok, ofE_exc, vOf_v, ap_C, ap_V, ap_nil, ap_cons, ap_U, ap_B, ap_chain, ap_and, ap_or, ap_tup, ap_F, ap_M, ap_sl, ap_pN, ap_pS, ap_L, ap_tE, ap_tAn, ap_tO, ap_tN, ap_tY, ap_if, ap_lD, ap_lF, ap_lCat, catL_ok, ap_lRep, repL_ok, ap_lSl, slL_lst, slL_scr, ap_iD, itL_lst, itL_scr, ap_iT, itT_tup, itT_ktp, ap_iS, itS_str, ap_iR1, itR1_ok, add_i, add_s, add_l, addX_i, addX_s, sub_i, mul_i, div_i, mod_i, pow_i, shl_i, shr_i, and_i, or_i, xor_i, neg_i, not_b, lt_i, le_i, gt_i, ge_i, eq_i, eq_s, ne_i, ne_s, is_non, is_int, is_str, is_tup, is_lst, isnt_non, isnt_int, isnt_str, isnt_tup, toBl_b, toIn_i, ix_s, ix_l, ix_r, ix_t, ix_k, sl_s, sl_l, sl_r, sl_t, len_s, len_l, len_r, len_t, len_k, int_i, int_b, abs_i, min_i, max_i, tup_l, tup_t, list_l, list_r, list_t, isi_i, isi_b, isi_s, isi_l, isi_t, isi_n, ty_ii, ty_bi, ty_ss, ty_ll, ty_tt, ty_tl, ty_lt, ty_tn, find_s, lower_s, sq_nx, sq_sq, sq_a, sq_o, sq_x, sq_if, sq_ret, sq_retL, oOf_o, sq_retO, sq_app, lstK_l, sq_ext, sq_aug, sq_g, sq_frz, sq_br, sq_ct, sq_raise, ofG_some, nx_ap, thenS_nx, thenS_rt, thenS_exc, sq_for, sq_wh, endV_v, endV_o, endV_n, endV_x, endL_o, endL_x, gN_ap, List.getElem?_cons_zero, List.getElem?_cons_succ, List.set_cons_zero, List.set_cons_succ, List.length_cons, List.length_nil, decide_eq_true_eq, Bool.not_eq_true, reduceIte, Bool.false_eq_true, decide_true, decide_false, Nat.reduceAdd, Nat.reduceLeDiff, Nat.reduceLT, Bool.not_true, Bool.not_false, List.nil_append, List.cons_append, List.map_cons, List.map_nil, List.replicate_succ, List.replicate_zero, Bool.not_eq_eq_eq_not, decide_eq_false_iff_not, and_self, and_true, true_and, and_false, false_and, or_true, true_or, or_false, false_or, or_self, Int.reduceLE, Int.reduceLT, Int.reduceNeg, Int.reduceAdd, Int.reduceSub, Int.reduceMul, Int.reduceDiv, Int.reduceMod, Int.reduceEq, Int.reduceToNat, Nat.reduceEqDiff, frz_zero, frz_succ, gT_tup, gT_ktp, gC_ap, gE_nil, cast_0, cast_1, cast_2, cast_3, cast_4, cast_5, cast_6, cast_7, cast_8, cast_9, ty_bs, ty_is, frz_zeroV, oOfR_o, ap_lenO, ap_ixO, tOf_some, pOf_fn, ap_P, ap_iZT, itZT_ok, zipD_cons, zipD_nil, str_i, sq_set, oOfS_o, set_ints]
theorem check2 (K : KW k W w) (x y : Int) : m_check_operands [.tup [.str k, .str k], .tup [.int x, .int y]] = if sgn w x = x ∧ sgn w y = y then .ok .non else .exc 1003 [] := by
  rw [e_check_operands]
  unfold b_check_operands
  simp only [bind_ok, bind_exc, bind_bad, ofE_ok, ofE_exc, vOf_v, ap_C, ap_V, ap_nil, ap_cons, ap_U, ap_B, ap_chain, ap_and, ap_or, ap_tup, ap_F, ap_M, ap_sl, ap_pN, ap_pS, ap_L, ap_tE, ap_tAn, ap_tO, ap_tN, ap_tY, ap_if, ap_lD, ap_lF, ap_lCat, catL_ok, ap_lRep, repL_ok, ap_lSl, slL_lst, slL_scr, ap_iD, itL_lst, itL_scr, ap_iT, itT_tup, itT_ktp, ap_iS, itS_str, ap_iR1, itR1_ok, add_i, add_s, add_l, addX_i, addX_s, sub_i, mul_i, div_i, mod_i, pow_i, shl_i, shr_i, and_i, or_i, xor_i, neg_i, not_b, lt_i, le_i, gt_i, ge_i, eq_i, eq_s, ne_i, ne_s, is_non, is_int, is_str, is_tup, is_lst, isnt_non, isnt_int, isnt_str, isnt_tup, toBl_b, toIn_i, ix_s, ix_l, ix_r, ix_t, ix_k, sl_s, sl_l, sl_r, sl_t, len_s, len_l, len_r, len_t, len_k, int_i, int_b, abs_i, min_i, max_i, tup_l, tup_t, list_l, list_r, list_t, isi_i, isi_b, isi_s, isi_l, isi_t, isi_n, ty_ii, ty_bi, ty_ss, ty_ll, ty_tt, ty_tl, ty_lt, ty_tn, find_s, lower_s, sq_nx, sq_sq, sq_a, sq_o, sq_x, sq_if, sq_ret, sq_retL, oOf_o, sq_retO, sq_app, lstK_l, sq_ext, sq_aug, sq_g, sq_frz, sq_br, sq_ct, sq_raise, ofG_some, nx_ap, thenS_nx, thenS_rt, thenS_exc, sq_for, sq_wh, endV_v, endV_o, endV_n, endV_x, endL_o, endL_x, gN_ap, List.getElem?_cons_zero, List.getElem?_cons_succ, List.set_cons_zero, List.set_cons_succ, List.length_cons, List.length_nil, decide_eq_true_eq, Bool.not_eq_true, reduceIte, Bool.false_eq_true, decide_true, decide_false, Nat.reduceAdd, Nat.reduceLeDiff, Nat.reduceLT, Bool.not_true, Bool.not_false, List.nil_append, List.cons_append, List.map_cons, List.map_nil, List.replicate_succ, List.replicate_zero, Bool.not_eq_eq_eq_not, decide_eq_false_iff_not, and_self, and_true, true_and, and_false, false_and, or_true, true_or, or_false, false_or, or_self, Int.reduceLE, Int.reduceLT, Int.reduceNeg, Int.reduceAdd, Int.reduceSub, Int.reduceMul, Int.reduceDiv, Int.reduceMod, Int.reduceEq, Int.reduceToNat, Nat.reduceEqDiff, frz_zero, frz_succ, gT_tup, gT_ktp, gC_ap, gE_nil, cast_0, cast_1, cast_2, cast_3, cast_4, cast_5, cast_6, cast_7, cast_8, cast_9, ty_bs, ty_is, frz_zeroV, oOfR_o, ap_lenO, ap_ixO, tOf_some, pOf_fn, ap_P, ap_iZT, itZT_ok, zipD_cons, zipD_nil, str_i, sq_set, oOfS_o, set_ints]
  rw [forGo_cons (e2 := [.val (.tup [.str k, .str k]), .val (.tup [.int x, .int y]), .val (.str k), .val (.int x)]) rfl, chk1 K _ _ .un .un]
  by_cases h : sgn w x = x
  · rw [if_pos h]
    dsimp only
    rw [forGo_cons (e2 := [.val (.tup [.str k, .str k]), .val (.tup [.int x, .int y]), .val (.str k), .val (.int y)]) rfl, chk1 K _ _ .un .un]
    by_cases h2 : sgn w y = y
    · rw [if_pos h2, if_pos ⟨h, h2⟩]
      simp only [bind_ok, bind_exc, bind_bad, ofE_ok, ofE_exc, vOf_v, ap_C, ap_V, ap_nil, ap_cons, ap_U, ap_B, ap_chain, ap_and, ap_or, ap_tup, ap_F, ap_M, ap_sl, ap_pN, ap_pS, ap_L, ap_tE, ap_tAn, ap_tO, ap_tN, ap_tY, ap_if, ap_lD, ap_lF, ap_lCat, catL_ok, ap_lRep, repL_ok, ap_lSl, slL_lst, slL_scr, ap_iD, itL_lst, itL_scr, ap_iT, itT_tup, itT_ktp, ap_iS, itS_str, ap_iR1, itR1_ok, add_i, add_s, add_l, addX_i, addX_s, sub_i, mul_i, div_i, mod_i, pow_i, shl_i, shr_i, and_i, or_i, xor_i, neg_i, not_b, lt_i, le_i, gt_i, ge_i, eq_i, eq_s, ne_i, ne_s, is_non, is_int, is_str, is_tup, is_lst, isnt_non, isnt_int, isnt_str, isnt_tup, toBl_b, toIn_i, ix_s, ix_l, ix_r, ix_t, ix_k, sl_s, sl_l, sl_r, sl_t, len_s, len_l, len_r, len_t, len_k, int_i, int_b, abs_i, min_i, max_i, tup_l, tup_t, list_l, list_r, list_t, isi_i, isi_b, isi_s, isi_l, isi_t, isi_n, ty_ii, ty_bi, ty_ss, ty_ll, ty_tt, ty_tl, ty_lt, ty_tn, find_s, lower_s, sq_nx, sq_sq, sq_a, sq_o, sq_x, sq_if, sq_ret, sq_retL, oOf_o, sq_retO, sq_app, lstK_l, sq_ext, sq_aug, sq_g, sq_frz, sq_br, sq_ct, sq_raise, ofG_some, nx_ap, thenS_nx, thenS_rt, thenS_exc, sq_for, sq_wh, endV_v, endV_o, endV_n, endV_x, endL_o, endL_x, gN_ap, List.getElem?_cons_zero, List.getElem?_cons_succ, List.set_cons_zero, List.set_cons_succ, List.length_cons, List.length_nil, decide_eq_true_eq, Bool.not_eq_true, reduceIte, Bool.false_eq_true, decide_true, decide_false, Nat.reduceAdd, Nat.reduceLeDiff, Nat.reduceLT, Bool.not_true, Bool.not_false, List.nil_append, List.cons_append, List.map_cons, List.map_nil, List.replicate_succ, List.replicate_zero, Bool.not_eq_eq_eq_not, decide_eq_false_iff_not, and_self, and_true, true_and, and_false, false_and, or_true, true_or, or_false, false_or, or_self, Int.reduceLE, Int.reduceLT, Int.reduceNeg, Int.reduceAdd, Int.reduceSub, Int.reduceMul, Int.reduceDiv, Int.reduceMod, Int.reduceEq, Int.reduceToNat, Nat.reduceEqDiff, frz_zero, frz_succ, gT_tup, gT_ktp, gC_ap, gE_nil, cast_0, cast_1, cast_2, cast_3, cast_4, cast_5, cast_6, cast_7, cast_8, cast_9, ty_bs, ty_is, frz_zeroV, oOfR_o, ap_lenO, ap_ixO, tOf_some, pOf_fn, ap_P, ap_iZT, itZT_ok, zipD_cons, zipD_nil, str_i, sq_set, oOfS_o, set_ints, forGo_nil]
    · rw [if_neg h2, if_neg fun z => h2 z.2]
      simp only [bind_ok, bind_exc, bind_bad, ofE_ok, ofE_exc, vOf_v, ap_C, ap_V, ap_nil, ap_cons, ap_U, ap_B, ap_chain, ap_and, ap_or, ap_tup, ap_F, ap_M, ap_sl, ap_pN, ap_pS, ap_L, ap_tE, ap_tAn, ap_tO, ap_tN, ap_tY, ap_if, ap_lD, ap_lF, ap_lCat, catL_ok, ap_lRep, repL_ok, ap_lSl, slL_lst, slL_scr, ap_iD, itL_lst, itL_scr, ap_iT, itT_tup, itT_ktp, ap_iS, itS_str, ap_iR1, itR1_ok, add_i, add_s, add_l, addX_i, addX_s, sub_i, mul_i, div_i, mod_i, pow_i, shl_i, shr_i, and_i, or_i, xor_i, neg_i, not_b, lt_i, le_i, gt_i, ge_i, eq_i, eq_s, ne_i, ne_s, is_non, is_int, is_str, is_tup, is_lst, isnt_non, isnt_int, isnt_str, isnt_tup, toBl_b, toIn_i, ix_s, ix_l, ix_r, ix_t, ix_k, sl_s, sl_l, sl_r, sl_t, len_s, len_l, len_r, len_t, len_k, int_i, int_b, abs_i, min_i, max_i, tup_l, tup_t, list_l, list_r, list_t, isi_i, isi_b, isi_s, isi_l, isi_t, isi_n, ty_ii, ty_bi, ty_ss, ty_ll, ty_tt, ty_tl, ty_lt, ty_tn, find_s, lower_s, sq_nx, sq_sq, sq_a, sq_o, sq_x, sq_if, sq_ret, sq_retL, oOf_o, sq_retO, sq_app, lstK_l, sq_ext, sq_aug, sq_g, sq_frz, sq_br, sq_ct, sq_raise, ofG_some, nx_ap, thenS_nx, thenS_rt, thenS_exc, sq_for, sq_wh, endV_v, endV_o, endV_n, endV_x, endL_o, endL_x, gN_ap, List.getElem?_cons_zero, List.getElem?_cons_succ, List.set_cons_zero, List.set_cons_succ, List.length_cons, List.length_nil, decide_eq_true_eq, Bool.not_eq_true, reduceIte, Bool.false_eq_true, decide_true, decide_false, Nat.reduceAdd, Nat.reduceLeDiff, Nat.reduceLT, Bool.not_true, Bool.not_false, List.nil_append, List.cons_append, List.map_cons, List.map_nil, List.replicate_succ, List.replicate_zero, Bool.not_eq_eq_eq_not, decide_eq_false_iff_not, and_self, and_true, true_and, and_false, false_and, or_true, true_or, or_false, false_or, or_self, Int.reduceLE, Int.reduceLT, Int.reduceNeg, Int.reduceAdd, Int.reduceSub, Int.reduceMul, Int.reduceDiv, Int.reduceMod, Int.reduceEq, Int.reduceToNat, Nat.reduceEqDiff, frz_zero, frz_succ, gT_tup, gT_ktp, gC_ap, gE_nil, cast_0, cast_1, cast_2, cast_3, cast_4, cast_5, cast_6, cast_7, cast_8, cast_9, ty_bs, ty_is, frz_zeroV, oOfR_o, ap_lenO, ap_ixO, tOf_some, pOf_fn, ap_P, ap_iZT, itZT_ok, zipD_cons, zipD_nil, str_i, sq_set, oOfS_o, set_ints]
  · rw [if_neg h, if_neg fun z => h z.1]
    simp only [bind_ok, bind_exc, bind_bad, ofE_ok, ofE_exc, vOf_v, ap_C, ap_V, ap_nil, ap_cons, ap_U, ap_B, ap_chain, ap_and, ap_or, ap_tup, ap_F, ap_M, ap_sl, ap_pN, ap_pS, ap_L, ap_tE, ap_tAn, ap_tO, ap_tN, ap_tY, ap_if, ap_lD, ap_lF, ap_lCat, catL_ok, ap_lRep, repL_ok, ap_lSl, slL_lst, slL_scr, ap_iD, itL_lst, itL_scr, ap_iT, itT_tup, itT_ktp, ap_iS, itS_str, ap_iR1, itR1_ok, add_i, add_s, add_l, addX_i, addX_s, sub_i, mul_i, div_i, mod_i, pow_i, shl_i, shr_i, and_i, or_i, xor_i, neg_i, not_b, lt_i, le_i, gt_i, ge_i, eq_i, eq_s, ne_i, ne_s, is_non, is_int, is_str, is_tup, is_lst, isnt_non, isnt_int, isnt_str, isnt_tup, toBl_b, toIn_i, ix_s, ix_l, ix_r, ix_t, ix_k, sl_s, sl_l, sl_r, sl_t, len_s, len_l, len_r, len_t, len_k, int_i, int_b, abs_i, min_i, max_i, tup_l, tup_t, list_l, list_r, list_t, isi_i, isi_b, isi_s, isi_l, isi_t, isi_n, ty_ii, ty_bi, ty_ss, ty_ll, ty_tt, ty_tl, ty_lt, ty_tn, find_s, lower_s, sq_nx, sq_sq, sq_a, sq_o, sq_x, sq_if, sq_ret, sq_retL, oOf_o, sq_retO, sq_app, lstK_l, sq_ext, sq_aug, sq_g, sq_frz, sq_br, sq_ct, sq_raise, ofG_some, nx_ap, thenS_nx, thenS_rt, thenS_exc, sq_for, sq_wh, endV_v, endV_o, endV_n, endV_x, endL_o, endL_x, gN_ap, List.getElem?_cons_zero, List.getElem?_cons_succ, List.set_cons_zero, List.set_cons_succ, List.length_cons, List.length_nil, decide_eq_true_eq, Bool.not_eq_true, reduceIte, Bool.false_eq_true, decide_true, decide_false, Nat.reduceAdd, Nat.reduceLeDiff, Nat.reduceLT, Bool.not_true, Bool.not_false, List.nil_append, List.cons_append, List.map_cons, List.map_nil, List.replicate_succ, List.replicate_zero, Bool.not_eq_eq_eq_not, decide_eq_false_iff_not, and_self, and_true, true_and, and_false, false_and, or_true, true_or, or_false, false_or, or_self, Int.reduceLE, Int.reduceLT, Int.reduceNeg, Int.reduceAdd, Int.reduceSub, Int.reduceMul, Int.reduceDiv, Int.reduceMod, Int.reduceEq, Int.reduceToNat, Nat.reduceEqDiff, frz_zero, frz_succ, gT_tup, gT_ktp, gC_ap, gE_nil, cast_0, cast_1, cast_2, cast_3, cast_4, cast_5, cast_6, cast_7, cast_8, cast_9, ty_bs, ty_is, frz_zeroV, oOfR_o, ap_lenO, ap_ixO, tOf_some, pOf_fn, ap_P, ap_iZT, itZT_ok, zipD_cons, zipD_nil, str_i, sq_set, oOfS_o, set_ints]
theorem cmul (K : KW k W w) {x : Int} (h : inR w x) (y : Int) : CMulW x y ∨ CMul x y := Or.inr (Or.inl (by have := abs_in K h; constructor <;> omega))
theorem cdw (K : KW k W w) {x y : Int} (hy : inR w y) (h0 : 0 < y) : CDivW x y := ⟨h0, by
  have h := abs_in K hy
  have : y.natAbs.log2 < 64 := by
    rw [Nat.log2_lt (by omega)]
    exact h
  omega⟩
theorem u_pos (K : KW k W w) {y : Int} (hy : inR w y) (h : y ≠ 0) : CDivW x (y % 2 ^ w) := by
  have h2 := abs_u K y
  have h3 : 0 < y % 2 ^ w := by cases K <;> unfold inR at hy <;> omega
  exact ⟨h3, by
    have : (y % 2 ^ w).natAbs.log2 < 64 := by
      rw [Nat.log2_lt (by omega)]
      exact h2
    omega⟩
theorem shl_ok (K : KW k W w) {x y : Int} {c : Nat} (hx : inR w x) (hc : y % W = c) (hw : c < w) : m_shl [.str k, .int x, .int y] = .ok (.int (sgn w (x * 2 ^ c))) := by
  have cp : CPow x (c : Int) := ⟨by omega, by have := w_le K; omega, abs_in K hx⟩
  rw [e_shl]
  unfold b_shl
  simp only [bind_ok, bind_exc, bind_bad, ofE_ok, ofE_exc, vOf_v, ap_C, ap_V, ap_nil, ap_cons, ap_U, ap_B, ap_chain, ap_and, ap_or, ap_tup, ap_F, ap_M, ap_sl, ap_pN, ap_pS, ap_L, ap_tE, ap_tAn, ap_tO, ap_tN, ap_tY, ap_if, ap_lD, ap_lF, ap_lCat, catL_ok, ap_lRep, repL_ok, ap_lSl, slL_lst, slL_scr, ap_iD, itL_lst, itL_scr, ap_iT, itT_tup, itT_ktp, ap_iS, itS_str, ap_iR1, itR1_ok, add_i, add_s, add_l, addX_i, addX_s, sub_i, mul_i, div_i, mod_i, pow_i, shl_i, shr_i, and_i, or_i, xor_i, neg_i, not_b, lt_i, le_i, gt_i, ge_i, eq_i, eq_s, ne_i, ne_s, is_non, is_int, is_str, is_tup, is_lst, isnt_non, isnt_int, isnt_str, isnt_tup, toBl_b, toIn_i, ix_s, ix_l, ix_r, ix_t, ix_k, sl_s, sl_l, sl_r, sl_t, len_s, len_l, len_r, len_t, len_k, int_i, int_b, abs_i, min_i, max_i, tup_l, tup_t, list_l, list_r, list_t, isi_i, isi_b, isi_s, isi_l, isi_t, isi_n, ty_ii, ty_bi, ty_ss, ty_ll, ty_tt, ty_tl, ty_lt, ty_tn, find_s, lower_s, sq_nx, sq_sq, sq_a, sq_o, sq_x, sq_if, sq_ret, sq_retL, oOf_o, sq_retO, sq_app, lstK_l, sq_ext, sq_aug, sq_g, sq_frz, sq_br, sq_ct, sq_raise, ofG_some, nx_ap, thenS_nx, thenS_rt, thenS_exc, sq_for, sq_wh, endV_v, endV_o, endV_n, endV_x, endL_o, endL_x, gN_ap, List.getElem?_cons_zero, List.getElem?_cons_succ, List.set_cons_zero, List.set_cons_succ, List.length_cons, List.length_nil, decide_eq_true_eq, Bool.not_eq_true, reduceIte, Bool.false_eq_true, decide_true, decide_false, Nat.reduceAdd, Nat.reduceLeDiff, Nat.reduceLT, Bool.not_true, Bool.not_false, List.nil_append, List.cons_append, List.map_cons, List.map_nil, List.replicate_succ, List.replicate_zero, Bool.not_eq_eq_eq_not, decide_eq_false_iff_not, and_self, and_true, true_and, and_false, false_and, or_true, true_or, or_false, false_or, or_self, Int.reduceLE, Int.reduceLT, Int.reduceNeg, Int.reduceAdd, Int.reduceSub, Int.reduceMul, Int.reduceDiv, Int.reduceMod, Int.reduceEq, Int.reduceToNat, Nat.reduceEqDiff, frz_zero, frz_succ, gT_tup, gT_ktp, gC_ap, gE_nil, cast_0, cast_1, cast_2, cast_3, cast_4, cast_5, cast_6, cast_7, cast_8, cast_9, ty_bs, ty_is, frz_zeroV, oOfR_o, ap_lenO, ap_ixO, tOf_some, pOf_fn, ap_P, ap_iZT, itZT_ok, zipD_cons, zipD_nil, str_i, sq_set, oOfS_o, set_ints, count_ok K, hc, cp, signed_ok K, Int.toNat_natCast]
theorem shr_s_ok (K : KW k W w) {x y : Int} {c : Nat} (hc : y % W = c) : m_shr_s [.str k, .int x, .int y] = .ok (.int (x / 2 ^ c)) := by
  rw [e_shr_s]
  unfold b_shr_s
  simp only [bind_ok, bind_exc, bind_bad, ofE_ok, ofE_exc, vOf_v, ap_C, ap_V, ap_nil, ap_cons, ap_U, ap_B, ap_chain, ap_and, ap_or, ap_tup, ap_F, ap_M, ap_sl, ap_pN, ap_pS, ap_L, ap_tE, ap_tAn, ap_tO, ap_tN, ap_tY, ap_if, ap_lD, ap_lF, ap_lCat, catL_ok, ap_lRep, repL_ok, ap_lSl, slL_lst, slL_scr, ap_iD, itL_lst, itL_scr, ap_iT, itT_tup, itT_ktp, ap_iS, itS_str, ap_iR1, itR1_ok, add_i, add_s, add_l, addX_i, addX_s, sub_i, mul_i, div_i, mod_i, pow_i, shl_i, shr_i, and_i, or_i, xor_i, neg_i, not_b, lt_i, le_i, gt_i, ge_i, eq_i, eq_s, ne_i, ne_s, is_non, is_int, is_str, is_tup, is_lst, isnt_non, isnt_int, isnt_str, isnt_tup, toBl_b, toIn_i, ix_s, ix_l, ix_r, ix_t, ix_k, sl_s, sl_l, sl_r, sl_t, len_s, len_l, len_r, len_t, len_k, int_i, int_b, abs_i, min_i, max_i, tup_l, tup_t, list_l, list_r, list_t, isi_i, isi_b, isi_s, isi_l, isi_t, isi_n, ty_ii, ty_bi, ty_ss, ty_ll, ty_tt, ty_tl, ty_lt, ty_tn, find_s, lower_s, sq_nx, sq_sq, sq_a, sq_o, sq_x, sq_if, sq_ret, sq_retL, oOf_o, sq_retO, sq_app, lstK_l, sq_ext, sq_aug, sq_g, sq_frz, sq_br, sq_ct, sq_raise, ofG_some, nx_ap, thenS_nx, thenS_rt, thenS_exc, sq_for, sq_wh, endV_v, endV_o, endV_n, endV_x, endL_o, endL_x, gN_ap, List.getElem?_cons_zero, List.getElem?_cons_succ, List.set_cons_zero, List.set_cons_succ, List.length_cons, List.length_nil, decide_eq_true_eq, Bool.not_eq_true, reduceIte, Bool.false_eq_true, decide_true, decide_false, Nat.reduceAdd, Nat.reduceLeDiff, Nat.reduceLT, Bool.not_true, Bool.not_false, List.nil_append, List.cons_append, List.map_cons, List.map_nil, List.replicate_succ, List.replicate_zero, Bool.not_eq_eq_eq_not, decide_eq_false_iff_not, and_self, and_true, true_and, and_false, false_and, or_true, true_or, or_false, false_or, or_self, Int.reduceLE, Int.reduceLT, Int.reduceNeg, Int.reduceAdd, Int.reduceSub, Int.reduceMul, Int.reduceDiv, Int.reduceMod, Int.reduceEq, Int.reduceToNat, Nat.reduceEqDiff, frz_zero, frz_succ, gT_tup, gT_ktp, gC_ap, gE_nil, cast_0, cast_1, cast_2, cast_3, cast_4, cast_5, cast_6, cast_7, cast_8, cast_9, ty_bs, ty_is, frz_zeroV, oOfR_o, ap_lenO, ap_ixO, tOf_some, pOf_fn, ap_P, ap_iZT, itZT_ok, zipD_cons, zipD_nil, str_i, sq_set, oOfS_o, set_ints, count_ok K, hc, show (0 : Int) ≤ (c : Int) by omega, Int.toNat_natCast]
theorem shr_u_ok (K : KW k W w) {x y : Int} {c : Nat} (hc : y % W = c) : m_shr_u [.str k, .int x, .int y] = .ok (.int (sgn w (x % 2 ^ w / 2 ^ c))) := by
  rw [e_shr_u]
  unfold b_shr_u
  simp only [bind_ok, bind_exc, bind_bad, ofE_ok, ofE_exc, vOf_v, ap_C, ap_V, ap_nil, ap_cons, ap_U, ap_B, ap_chain, ap_and, ap_or, ap_tup, ap_F, ap_M, ap_sl, ap_pN, ap_pS, ap_L, ap_tE, ap_tAn, ap_tO, ap_tN, ap_tY, ap_if, ap_lD, ap_lF, ap_lCat, catL_ok, ap_lRep, repL_ok, ap_lSl, slL_lst, slL_scr, ap_iD, itL_lst, itL_scr, ap_iT, itT_tup, itT_ktp, ap_iS, itS_str, ap_iR1, itR1_ok, add_i, add_s, add_l, addX_i, addX_s, sub_i, mul_i, div_i, mod_i, pow_i, shl_i, shr_i, and_i, or_i, xor_i, neg_i, not_b, lt_i, le_i, gt_i, ge_i, eq_i, eq_s, ne_i, ne_s, is_non, is_int, is_str, is_tup, is_lst, isnt_non, isnt_int, isnt_str, isnt_tup, toBl_b, toIn_i, ix_s, ix_l, ix_r, ix_t, ix_k, sl_s, sl_l, sl_r, sl_t, len_s, len_l, len_r, len_t, len_k, int_i, int_b, abs_i, min_i, max_i, tup_l, tup_t, list_l, list_r, list_t, isi_i, isi_b, isi_s, isi_l, isi_t, isi_n, ty_ii, ty_bi, ty_ss, ty_ll, ty_tt, ty_tl, ty_lt, ty_tn, find_s, lower_s, sq_nx, sq_sq, sq_a, sq_o, sq_x, sq_if, sq_ret, sq_retL, oOf_o, sq_retO, sq_app, lstK_l, sq_ext, sq_aug, sq_g, sq_frz, sq_br, sq_ct, sq_raise, ofG_some, nx_ap, thenS_nx, thenS_rt, thenS_exc, sq_for, sq_wh, endV_v, endV_o, endV_n, endV_x, endL_o, endL_x, gN_ap, List.getElem?_cons_zero, List.getElem?_cons_succ, List.set_cons_zero, List.set_cons_succ, List.length_cons, List.length_nil, decide_eq_true_eq, Bool.not_eq_true, reduceIte, Bool.false_eq_true, decide_true, decide_false, Nat.reduceAdd, Nat.reduceLeDiff, Nat.reduceLT, Bool.not_true, Bool.not_false, List.nil_append, List.cons_append, List.map_cons, List.map_nil, List.replicate_succ, List.replicate_zero, Bool.not_eq_eq_eq_not, decide_eq_false_iff_not, and_self, and_true, true_and, and_false, false_and, or_true, true_or, or_false, false_or, or_self, Int.reduceLE, Int.reduceLT, Int.reduceNeg, Int.reduceAdd, Int.reduceSub, Int.reduceMul, Int.reduceDiv, Int.reduceMod, Int.reduceEq, Int.reduceToNat, Nat.reduceEqDiff, frz_zero, frz_succ, gT_tup, gT_ktp, gC_ap, gE_nil, cast_0, cast_1, cast_2, cast_3, cast_4, cast_5, cast_6, cast_7, cast_8, cast_9, ty_bs, ty_is, frz_zeroV, oOfR_o, ap_lenO, ap_ixO, tOf_some, pOf_fn, ap_P, ap_iZT, itZT_ok, zipD_cons, zipD_nil, str_i, sq_set, oOfS_o, set_ints, count_ok K, hc, show (0 : Int) ≤ (c : Int) by omega, Int.toNat_natCast, unsigned_ok K, signed_ok K]
theorem rotl_ok (K : KW k W w) {x y : Int} {c : Nat} (hc : y % W = c) (hw : c < w) : m_rotl [.str k, .int x, .int y] = .ok (.int (sgn w (Builtin.bitOr (x % 2 ^ w * 2 ^ c) (x % 2 ^ w / 2 ^ (w - c))))) := by
  have cp : CPow (x % 2 ^ w) (c : Int) := ⟨by omega, by have := w_le K; omega, abs_u K x⟩
  have e := w_eq K
  rw [e_rotl]
  unfold b_rotl
  simp only [bind_ok, bind_exc, bind_bad, ofE_ok, ofE_exc, vOf_v, ap_C, ap_V, ap_nil, ap_cons, ap_U, ap_B, ap_chain, ap_and, ap_or, ap_tup, ap_F, ap_M, ap_sl, ap_pN, ap_pS, ap_L, ap_tE, ap_tAn, ap_tO, ap_tN, ap_tY, ap_if, ap_lD, ap_lF, ap_lCat, catL_ok, ap_lRep, repL_ok, ap_lSl, slL_lst, slL_scr, ap_iD, itL_lst, itL_scr, ap_iT, itT_tup, itT_ktp, ap_iS, itS_str, ap_iR1, itR1_ok, add_i, add_s, add_l, addX_i, addX_s, sub_i, mul_i, div_i, mod_i, pow_i, shl_i, shr_i, and_i, or_i, xor_i, neg_i, not_b, lt_i, le_i, gt_i, ge_i, eq_i, eq_s, ne_i, ne_s, is_non, is_int, is_str, is_tup, is_lst, isnt_non, isnt_int, isnt_str, isnt_tup, toBl_b, toIn_i, ix_s, ix_l, ix_r, ix_t, ix_k, sl_s, sl_l, sl_r, sl_t, len_s, len_l, len_r, len_t, len_k, int_i, int_b, abs_i, min_i, max_i, tup_l, tup_t, list_l, list_r, list_t, isi_i, isi_b, isi_s, isi_l, isi_t, isi_n, ty_ii, ty_bi, ty_ss, ty_ll, ty_tt, ty_tl, ty_lt, ty_tn, find_s, lower_s, sq_nx, sq_sq, sq_a, sq_o, sq_x, sq_if, sq_ret, sq_retL, oOf_o, sq_retO, sq_app, lstK_l, sq_ext, sq_aug, sq_g, sq_frz, sq_br, sq_ct, sq_raise, ofG_some, nx_ap, thenS_nx, thenS_rt, thenS_exc, sq_for, sq_wh, endV_v, endV_o, endV_n, endV_x, endL_o, endL_x, gN_ap, List.getElem?_cons_zero, List.getElem?_cons_succ, List.set_cons_zero, List.set_cons_succ, List.length_cons, List.length_nil, decide_eq_true_eq, Bool.not_eq_true, reduceIte, Bool.false_eq_true, decide_true, decide_false, Nat.reduceAdd, Nat.reduceLeDiff, Nat.reduceLT, Bool.not_true, Bool.not_false, List.nil_append, List.cons_append, List.map_cons, List.map_nil, List.replicate_succ, List.replicate_zero, Bool.not_eq_eq_eq_not, decide_eq_false_iff_not, and_self, and_true, true_and, and_false, false_and, or_true, true_or, or_false, false_or, or_self, Int.reduceLE, Int.reduceLT, Int.reduceNeg, Int.reduceAdd, Int.reduceSub, Int.reduceMul, Int.reduceDiv, Int.reduceMod, Int.reduceEq, Int.reduceToNat, Nat.reduceEqDiff, frz_zero, frz_succ, gT_tup, gT_ktp, gC_ap, gE_nil, cast_0, cast_1, cast_2, cast_3, cast_4, cast_5, cast_6, cast_7, cast_8, cast_9, ty_bs, ty_is, frz_zeroV, oOfR_o, ap_lenO, ap_ixO, tOf_some, pOf_fn, ap_P, ap_iZT, itZT_ok, zipD_cons, zipD_nil, str_i, sq_set, oOfS_o, set_ints, count_ok K, hc, cp, show (0 : Int) ≤ W - (c : Int) by omega, Int.toNat_natCast, unsigned_ok K, signed_ok K, width_ok K, show (W - (c : Int)).toNat = w - c by omega]
theorem rotr_ok (K : KW k W w) {x y : Int} {c : Nat} (hc : y % W = c) (hw : c < w) : m_rotr [.str k, .int x, .int y] = .ok (.int (sgn w (Builtin.bitOr (x % 2 ^ w / 2 ^ c) (x % 2 ^ w * 2 ^ (w - c))))) := by
  have e := w_eq K
  have cp : CPow (x % 2 ^ w) (W - (c : Int)) := ⟨by omega, by have := w_le K; omega, abs_u K x⟩
  rw [e_rotr]
  unfold b_rotr
  simp only [bind_ok, bind_exc, bind_bad, ofE_ok, ofE_exc, vOf_v, ap_C, ap_V, ap_nil, ap_cons, ap_U, ap_B, ap_chain, ap_and, ap_or, ap_tup, ap_F, ap_M, ap_sl, ap_pN, ap_pS, ap_L, ap_tE, ap_tAn, ap_tO, ap_tN, ap_tY, ap_if, ap_lD, ap_lF, ap_lCat, catL_ok, ap_lRep, repL_ok, ap_lSl, slL_lst, slL_scr, ap_iD, itL_lst, itL_scr, ap_iT, itT_tup, itT_ktp, ap_iS, itS_str, ap_iR1, itR1_ok, add_i, add_s, add_l, addX_i, addX_s, sub_i, mul_i, div_i, mod_i, pow_i, shl_i, shr_i, and_i, or_i, xor_i, neg_i, not_b, lt_i, le_i, gt_i, ge_i, eq_i, eq_s, ne_i, ne_s, is_non, is_int, is_str, is_tup, is_lst, isnt_non, isnt_int, isnt_str, isnt_tup, toBl_b, toIn_i, ix_s, ix_l, ix_r, ix_t, ix_k, sl_s, sl_l, sl_r, sl_t, len_s, len_l, len_r, len_t, len_k, int_i, int_b, abs_i, min_i, max_i, tup_l, tup_t, list_l, list_r, list_t, isi_i, isi_b, isi_s, isi_l, isi_t, isi_n, ty_ii, ty_bi, ty_ss, ty_ll, ty_tt, ty_tl, ty_lt, ty_tn, find_s, lower_s, sq_nx, sq_sq, sq_a, sq_o, sq_x, sq_if, sq_ret, sq_retL, oOf_o, sq_retO, sq_app, lstK_l, sq_ext, sq_aug, sq_g, sq_frz, sq_br, sq_ct, sq_raise, ofG_some, nx_ap, thenS_nx, thenS_rt, thenS_exc, sq_for, sq_wh, endV_v, endV_o, endV_n, endV_x, endL_o, endL_x, gN_ap, List.getElem?_cons_zero, List.getElem?_cons_succ, List.set_cons_zero, List.set_cons_succ, List.length_cons, List.length_nil, decide_eq_true_eq, Bool.not_eq_true, reduceIte, Bool.false_eq_true, decide_true, decide_false, Nat.reduceAdd, Nat.reduceLeDiff, Nat.reduceLT, Bool.not_true, Bool.not_false, List.nil_append, List.cons_append, List.map_cons, List.map_nil, List.replicate_succ, List.replicate_zero, Bool.not_eq_eq_eq_not, decide_eq_false_iff_not, and_self, and_true, true_and, and_false, false_and, or_true, true_or, or_false, false_or, or_self, Int.reduceLE, Int.reduceLT, Int.reduceNeg, Int.reduceAdd, Int.reduceSub, Int.reduceMul, Int.reduceDiv, Int.reduceMod, Int.reduceEq, Int.reduceToNat, Nat.reduceEqDiff, frz_zero, frz_succ, gT_tup, gT_ktp, gC_ap, gE_nil, cast_0, cast_1, cast_2, cast_3, cast_4, cast_5, cast_6, cast_7, cast_8, cast_9, ty_bs, ty_is, frz_zeroV, oOfR_o, ap_lenO, ap_ixO, tOf_some, pOf_fn, ap_P, ap_iZT, itZT_ok, zipD_cons, zipD_nil, str_i, sq_set, oOfS_o, set_ints, count_ok K, hc, cp, show (0 : Int) ≤ (c : Int) by omega, Int.toNat_natCast, unsigned_ok K, signed_ok K, width_ok K, show (W - (c : Int)).toNat = w - c by omega]
theorem intsOf_dI : ∀ ns : List Int, intsOf (dI ns) = some ns
  | [] => rfl
  | n :: ns => by
    rw [dI, List.map_cons]
    unfold intsOf
    rw [intsOf_dI ns]
    rfl

theorem chk2 (K : KW k W w) {x y : Int} (hx : inR w x) (hy : inR w y) : m_check_operands [.tup [.str k, .str k], .tup [.int x, .int y]] = .ok .non := by rw [check2 K, if_pos ⟨sgn_id K hx, sgn_id K hy⟩]
theorem ck1 (K : KW k W w) {x : Int} (hx : inR w x) : m_check_operands [.tup [.str k], .tup [.int x]] = .ok .non := by rw [check1 K, if_pos (sgn_id K hx)]
theorem add_ok (K : KW k W w) (x y : Int) : m_add [.str k, .int x, .int y] = .ok (.int (sgn w (x + y))) := by rw [e_add]; unfold b_add; simp only [bind_ok, bind_exc, bind_bad, ofE_ok, ofE_exc, vOf_v, ap_C, ap_V, ap_nil, ap_cons, ap_U, ap_B, ap_chain, ap_and, ap_or, ap_tup, ap_F, ap_M, ap_sl, ap_pN, ap_pS, ap_L, ap_tE, ap_tAn, ap_tO, ap_tN, ap_tY, ap_if, ap_lD, ap_lF, ap_lCat, catL_ok, ap_lRep, repL_ok, ap_lSl, slL_lst, slL_scr, ap_iD, itL_lst, itL_scr, ap_iT, itT_tup, itT_ktp, ap_iS, itS_str, ap_iR1, itR1_ok, add_i, add_s, add_l, addX_i, addX_s, sub_i, mul_i, div_i, mod_i, pow_i, shl_i, shr_i, and_i, or_i, xor_i, neg_i, not_b, lt_i, le_i, gt_i, ge_i, eq_i, eq_s, ne_i, ne_s, is_non, is_int, is_str, is_tup, is_lst, isnt_non, isnt_int, isnt_str, isnt_tup, toBl_b, toIn_i, ix_s, ix_l, ix_r, ix_t, ix_k, sl_s, sl_l, sl_r, sl_t, len_s, len_l, len_r, len_t, len_k, int_i, int_b, abs_i, min_i, max_i, tup_l, tup_t, list_l, list_r, list_t, isi_i, isi_b, isi_s, isi_l, isi_t, isi_n, ty_ii, ty_bi, ty_ss, ty_ll, ty_tt, ty_tl, ty_lt, ty_tn, find_s, lower_s, sq_nx, sq_sq, sq_a, sq_o, sq_x, sq_if, sq_ret, sq_retL, oOf_o, sq_retO, sq_app, lstK_l, sq_ext, sq_aug, sq_g, sq_frz, sq_br, sq_ct, sq_raise, ofG_some, nx_ap, thenS_nx, thenS_rt, thenS_exc, sq_for, sq_wh, endV_v, endV_o, endV_n, endV_x, endL_o, endL_x, gN_ap, List.getElem?_cons_zero, List.getElem?_cons_succ, List.set_cons_zero, List.set_cons_succ, List.length_cons, List.length_nil, decide_eq_true_eq, Bool.not_eq_true, reduceIte, Bool.false_eq_true, decide_true, decide_false, Nat.reduceAdd, Nat.reduceLeDiff, Nat.reduceLT, Bool.not_true, Bool.not_false, List.nil_append, List.cons_append, List.map_cons, List.map_nil, List.replicate_succ, List.replicate_zero, Bool.not_eq_eq_eq_not, decide_eq_false_iff_not, and_self, and_true, true_and, and_false, false_and, or_true, true_or, or_false, false_or, or_self, Int.reduceLE, Int.reduceLT, Int.reduceNeg, Int.reduceAdd, Int.reduceSub, Int.reduceMul, Int.reduceDiv, Int.reduceMod, Int.reduceEq, Int.reduceToNat, Nat.reduceEqDiff, frz_zero, frz_succ, gT_tup, gT_ktp, gC_ap, gE_nil, cast_0, cast_1, cast_2, cast_3, cast_4, cast_5, cast_6, cast_7, cast_8, cast_9, ty_bs, ty_is, frz_zeroV, oOfR_o, ap_lenO, ap_ixO, tOf_some, pOf_fn, ap_P, ap_iZT, itZT_ok, zipD_cons, zipD_nil, str_i, sq_set, oOfS_o, set_ints, signed_ok K]
theorem sub_ok (K : KW k W w) (x y : Int) : m_sub [.str k, .int x, .int y] = .ok (.int (sgn w (x - y))) := by rw [e_sub]; unfold b_sub; simp only [bind_ok, bind_exc, bind_bad, ofE_ok, ofE_exc, vOf_v, ap_C, ap_V, ap_nil, ap_cons, ap_U, ap_B, ap_chain, ap_and, ap_or, ap_tup, ap_F, ap_M, ap_sl, ap_pN, ap_pS, ap_L, ap_tE, ap_tAn, ap_tO, ap_tN, ap_tY, ap_if, ap_lD, ap_lF, ap_lCat, catL_ok, ap_lRep, repL_ok, ap_lSl, slL_lst, slL_scr, ap_iD, itL_lst, itL_scr, ap_iT, itT_tup, itT_ktp, ap_iS, itS_str, ap_iR1, itR1_ok, add_i, add_s, add_l, addX_i, addX_s, sub_i, mul_i, div_i, mod_i, pow_i, shl_i, shr_i, and_i, or_i, xor_i, neg_i, not_b, lt_i, le_i, gt_i, ge_i, eq_i, eq_s, ne_i, ne_s, is_non, is_int, is_str, is_tup, is_lst, isnt_non, isnt_int, isnt_str, isnt_tup, toBl_b, toIn_i, ix_s, ix_l, ix_r, ix_t, ix_k, sl_s, sl_l, sl_r, sl_t, len_s, len_l, len_r, len_t, len_k, int_i, int_b, abs_i, min_i, max_i, tup_l, tup_t, list_l, list_r, list_t, isi_i, isi_b, isi_s, isi_l, isi_t, isi_n, ty_ii, ty_bi, ty_ss, ty_ll, ty_tt, ty_tl, ty_lt, ty_tn, find_s, lower_s, sq_nx, sq_sq, sq_a, sq_o, sq_x, sq_if, sq_ret, sq_retL, oOf_o, sq_retO, sq_app, lstK_l, sq_ext, sq_aug, sq_g, sq_frz, sq_br, sq_ct, sq_raise, ofG_some, nx_ap, thenS_nx, thenS_rt, thenS_exc, sq_for, sq_wh, endV_v, endV_o, endV_n, endV_x, endL_o, endL_x, gN_ap, List.getElem?_cons_zero, List.getElem?_cons_succ, List.set_cons_zero, List.set_cons_succ, List.length_cons, List.length_nil, decide_eq_true_eq, Bool.not_eq_true, reduceIte, Bool.false_eq_true, decide_true, decide_false, Nat.reduceAdd, Nat.reduceLeDiff, Nat.reduceLT, Bool.not_true, Bool.not_false, List.nil_append, List.cons_append, List.map_cons, List.map_nil, List.replicate_succ, List.replicate_zero, Bool.not_eq_eq_eq_not, decide_eq_false_iff_not, and_self, and_true, true_and, and_false, false_and, or_true, true_or, or_false, false_or, or_self, Int.reduceLE, Int.reduceLT, Int.reduceNeg, Int.reduceAdd, Int.reduceSub, Int.reduceMul, Int.reduceDiv, Int.reduceMod, Int.reduceEq, Int.reduceToNat, Nat.reduceEqDiff, frz_zero, frz_succ, gT_tup, gT_ktp, gC_ap, gE_nil, cast_0, cast_1, cast_2, cast_3, cast_4, cast_5, cast_6, cast_7, cast_8, cast_9, ty_bs, ty_is, frz_zeroV, oOfR_o, ap_lenO, ap_ixO, tOf_some, pOf_fn, ap_P, ap_iZT, itZT_ok, zipD_cons, zipD_nil, str_i, sq_set, oOfS_o, set_ints, signed_ok K]
theorem mul_ok (K : KW k W w) {x : Int} (hx : inR w x) (y : Int) : m_mul [.str k, .int x, .int y] = .ok (.int (sgn w (x * y))) := by rw [e_mul]; unfold b_mul; simp only [bind_ok, bind_exc, bind_bad, ofE_ok, ofE_exc, vOf_v, ap_C, ap_V, ap_nil, ap_cons, ap_U, ap_B, ap_chain, ap_and, ap_or, ap_tup, ap_F, ap_M, ap_sl, ap_pN, ap_pS, ap_L, ap_tE, ap_tAn, ap_tO, ap_tN, ap_tY, ap_if, ap_lD, ap_lF, ap_lCat, catL_ok, ap_lRep, repL_ok, ap_lSl, slL_lst, slL_scr, ap_iD, itL_lst, itL_scr, ap_iT, itT_tup, itT_ktp, ap_iS, itS_str, ap_iR1, itR1_ok, add_i, add_s, add_l, addX_i, addX_s, sub_i, mul_i, div_i, mod_i, pow_i, shl_i, shr_i, and_i, or_i, xor_i, neg_i, not_b, lt_i, le_i, gt_i, ge_i, eq_i, eq_s, ne_i, ne_s, is_non, is_int, is_str, is_tup, is_lst, isnt_non, isnt_int, isnt_str, isnt_tup, toBl_b, toIn_i, ix_s, ix_l, ix_r, ix_t, ix_k, sl_s, sl_l, sl_r, sl_t, len_s, len_l, len_r, len_t, len_k, int_i, int_b, abs_i, min_i, max_i, tup_l, tup_t, list_l, list_r, list_t, isi_i, isi_b, isi_s, isi_l, isi_t, isi_n, ty_ii, ty_bi, ty_ss, ty_ll, ty_tt, ty_tl, ty_lt, ty_tn, find_s, lower_s, sq_nx, sq_sq, sq_a, sq_o, sq_x, sq_if, sq_ret, sq_retL, oOf_o, sq_retO, sq_app, lstK_l, sq_ext, sq_aug, sq_g, sq_frz, sq_br, sq_ct, sq_raise, ofG_some, nx_ap, thenS_nx, thenS_rt, thenS_exc, sq_for, sq_wh, endV_v, endV_o, endV_n, endV_x, endL_o, endL_x, gN_ap, List.getElem?_cons_zero, List.getElem?_cons_succ, List.set_cons_zero, List.set_cons_succ, List.length_cons, List.length_nil, decide_eq_true_eq, Bool.not_eq_true, reduceIte, Bool.false_eq_true, decide_true, decide_false, Nat.reduceAdd, Nat.reduceLeDiff, Nat.reduceLT, Bool.not_true, Bool.not_false, List.nil_append, List.cons_append, List.map_cons, List.map_nil, List.replicate_succ, List.replicate_zero, Bool.not_eq_eq_eq_not, decide_eq_false_iff_not, and_self, and_true, true_and, and_false, false_and, or_true, true_or, or_false, false_or, or_self, Int.reduceLE, Int.reduceLT, Int.reduceNeg, Int.reduceAdd, Int.reduceSub, Int.reduceMul, Int.reduceDiv, Int.reduceMod, Int.reduceEq, Int.reduceToNat, Nat.reduceEqDiff, frz_zero, frz_succ, gT_tup, gT_ktp, gC_ap, gE_nil, cast_0, cast_1, cast_2, cast_3, cast_4, cast_5, cast_6, cast_7, cast_8, cast_9, ty_bs, ty_is, frz_zeroV, oOfR_o, ap_lenO, ap_ixO, tOf_some, pOf_fn, ap_P, ap_iZT, itZT_ok, zipD_cons, zipD_nil, str_i, sq_set, oOfS_o, set_ints, signed_ok K, cmul K hx]
theorem and_ok (k : Str) (x y : Int) : m_bit_and [.str k, .int x, .int y] = .ok (.int (Builtin.bitAnd x y)) := rfl
theorem or_ok (k : Str) (x y : Int) : m_bit_or [.str k, .int x, .int y] = .ok (.int (Builtin.bitOr x y)) := rfl
theorem xor_ok (k : Str) (x y : Int) : m_bit_xor [.str k, .int x, .int y] = .ok (.int (Builtin.bitXor x y)) := rfl
theorem eq_ok (k : Str) (x y : Int) : m_eq [.str k, .int x, .int y] = .ok (.int (if x = y then 1 else 0)) := by rw [e_eq]; unfold b_eq; simp only [bind_ok, bind_exc, bind_bad, ofE_ok, ofE_exc, vOf_v, ap_C, ap_V, ap_nil, ap_cons, ap_U, ap_B, ap_chain, ap_and, ap_or, ap_tup, ap_F, ap_M, ap_sl, ap_pN, ap_pS, ap_L, ap_tE, ap_tAn, ap_tO, ap_tN, ap_tY, ap_if, ap_lD, ap_lF, ap_lCat, catL_ok, ap_lRep, repL_ok, ap_lSl, slL_lst, slL_scr, ap_iD, itL_lst, itL_scr, ap_iT, itT_tup, itT_ktp, ap_iS, itS_str, ap_iR1, itR1_ok, add_i, add_s, add_l, addX_i, addX_s, sub_i, mul_i, div_i, mod_i, pow_i, shl_i, shr_i, and_i, or_i, xor_i, neg_i, not_b, lt_i, le_i, gt_i, ge_i, eq_i, eq_s, ne_i, ne_s, is_non, is_int, is_str, is_tup, is_lst, isnt_non, isnt_int, isnt_str, isnt_tup, toBl_b, toIn_i, ix_s, ix_l, ix_r, ix_t, ix_k, sl_s, sl_l, sl_r, sl_t, len_s, len_l, len_r, len_t, len_k, int_i, int_b, abs_i, min_i, max_i, tup_l, tup_t, list_l, list_r, list_t, isi_i, isi_b, isi_s, isi_l, isi_t, isi_n, ty_ii, ty_bi, ty_ss, ty_ll, ty_tt, ty_tl, ty_lt, ty_tn, find_s, lower_s, sq_nx, sq_sq, sq_a, sq_o, sq_x, sq_if, sq_ret, sq_retL, oOf_o, sq_retO, sq_app, lstK_l, sq_ext, sq_aug, sq_g, sq_frz, sq_br, sq_ct, sq_raise, ofG_some, nx_ap, thenS_nx, thenS_rt, thenS_exc, sq_for, sq_wh, endV_v, endV_o, endV_n, endV_x, endL_o, endL_x, gN_ap, List.getElem?_cons_zero, List.getElem?_cons_succ, List.set_cons_zero, List.set_cons_succ, List.length_cons, List.length_nil, decide_eq_true_eq, Bool.not_eq_true, reduceIte, Bool.false_eq_true, decide_true, decide_false, Nat.reduceAdd, Nat.reduceLeDiff, Nat.reduceLT, Bool.not_true, Bool.not_false, List.nil_append, List.cons_append, List.map_cons, List.map_nil, List.replicate_succ, List.replicate_zero, Bool.not_eq_eq_eq_not, decide_eq_false_iff_not, and_self, and_true, true_and, and_false, false_and, or_true, true_or, or_false, false_or, or_self, Int.reduceLE, Int.reduceLT, Int.reduceNeg, Int.reduceAdd, Int.reduceSub, Int.reduceMul, Int.reduceDiv, Int.reduceMod, Int.reduceEq, Int.reduceToNat, Nat.reduceEqDiff, frz_zero, frz_succ, gT_tup, gT_ktp, gC_ap, gE_nil, cast_0, cast_1, cast_2, cast_3, cast_4, cast_5, cast_6, cast_7, cast_8, cast_9, ty_bs, ty_is, frz_zeroV, oOfR_o, ap_lenO, ap_ixO, tOf_some, pOf_fn, ap_P, ap_iZT, itZT_ok, zipD_cons, zipD_nil, str_i, sq_set, oOfS_o, set_ints]
theorem lt_s_ok (k : Str) (x y : Int) : m_lt_s [.str k, .int x, .int y] = .ok (.int (if x < y then 1 else 0)) := by rw [e_lt_s]; unfold b_lt_s; simp only [bind_ok, bind_exc, bind_bad, ofE_ok, ofE_exc, vOf_v, ap_C, ap_V, ap_nil, ap_cons, ap_U, ap_B, ap_chain, ap_and, ap_or, ap_tup, ap_F, ap_M, ap_sl, ap_pN, ap_pS, ap_L, ap_tE, ap_tAn, ap_tO, ap_tN, ap_tY, ap_if, ap_lD, ap_lF, ap_lCat, catL_ok, ap_lRep, repL_ok, ap_lSl, slL_lst, slL_scr, ap_iD, itL_lst, itL_scr, ap_iT, itT_tup, itT_ktp, ap_iS, itS_str, ap_iR1, itR1_ok, add_i, add_s, add_l, addX_i, addX_s, sub_i, mul_i, div_i, mod_i, pow_i, shl_i, shr_i, and_i, or_i, xor_i, neg_i, not_b, lt_i, le_i, gt_i, ge_i, eq_i, eq_s, ne_i, ne_s, is_non, is_int, is_str, is_tup, is_lst, isnt_non, isnt_int, isnt_str, isnt_tup, toBl_b, toIn_i, ix_s, ix_l, ix_r, ix_t, ix_k, sl_s, sl_l, sl_r, sl_t, len_s, len_l, len_r, len_t, len_k, int_i, int_b, abs_i, min_i, max_i, tup_l, tup_t, list_l, list_r, list_t, isi_i, isi_b, isi_s, isi_l, isi_t, isi_n, ty_ii, ty_bi, ty_ss, ty_ll, ty_tt, ty_tl, ty_lt, ty_tn, find_s, lower_s, sq_nx, sq_sq, sq_a, sq_o, sq_x, sq_if, sq_ret, sq_retL, oOf_o, sq_retO, sq_app, lstK_l, sq_ext, sq_aug, sq_g, sq_frz, sq_br, sq_ct, sq_raise, ofG_some, nx_ap, thenS_nx, thenS_rt, thenS_exc, sq_for, sq_wh, endV_v, endV_o, endV_n, endV_x, endL_o, endL_x, gN_ap, List.getElem?_cons_zero, List.getElem?_cons_succ, List.set_cons_zero, List.set_cons_succ, List.length_cons, List.length_nil, decide_eq_true_eq, Bool.not_eq_true, reduceIte, Bool.false_eq_true, decide_true, decide_false, Nat.reduceAdd, Nat.reduceLeDiff, Nat.reduceLT, Bool.not_true, Bool.not_false, List.nil_append, List.cons_append, List.map_cons, List.map_nil, List.replicate_succ, List.replicate_zero, Bool.not_eq_eq_eq_not, decide_eq_false_iff_not, and_self, and_true, true_and, and_false, false_and, or_true, true_or, or_false, false_or, or_self, Int.reduceLE, Int.reduceLT, Int.reduceNeg, Int.reduceAdd, Int.reduceSub, Int.reduceMul, Int.reduceDiv, Int.reduceMod, Int.reduceEq, Int.reduceToNat, Nat.reduceEqDiff, frz_zero, frz_succ, gT_tup, gT_ktp, gC_ap, gE_nil, cast_0, cast_1, cast_2, cast_3, cast_4, cast_5, cast_6, cast_7, cast_8, cast_9, ty_bs, ty_is, frz_zeroV, oOfR_o, ap_lenO, ap_ixO, tOf_some, pOf_fn, ap_P, ap_iZT, itZT_ok, zipD_cons, zipD_nil, str_i, sq_set, oOfS_o, set_ints]
theorem gt_s_ok (k : Str) (x y : Int) : m_gt_s [.str k, .int x, .int y] = .ok (.int (if y < x then 1 else 0)) := by rw [e_gt_s]; unfold b_gt_s; simp only [bind_ok, bind_exc, bind_bad, ofE_ok, ofE_exc, vOf_v, ap_C, ap_V, ap_nil, ap_cons, ap_U, ap_B, ap_chain, ap_and, ap_or, ap_tup, ap_F, ap_M, ap_sl, ap_pN, ap_pS, ap_L, ap_tE, ap_tAn, ap_tO, ap_tN, ap_tY, ap_if, ap_lD, ap_lF, ap_lCat, catL_ok, ap_lRep, repL_ok, ap_lSl, slL_lst, slL_scr, ap_iD, itL_lst, itL_scr, ap_iT, itT_tup, itT_ktp, ap_iS, itS_str, ap_iR1, itR1_ok, add_i, add_s, add_l, addX_i, addX_s, sub_i, mul_i, div_i, mod_i, pow_i, shl_i, shr_i, and_i, or_i, xor_i, neg_i, not_b, lt_i, le_i, gt_i, ge_i, eq_i, eq_s, ne_i, ne_s, is_non, is_int, is_str, is_tup, is_lst, isnt_non, isnt_int, isnt_str, isnt_tup, toBl_b, toIn_i, ix_s, ix_l, ix_r, ix_t, ix_k, sl_s, sl_l, sl_r, sl_t, len_s, len_l, len_r, len_t, len_k, int_i, int_b, abs_i, min_i, max_i, tup_l, tup_t, list_l, list_r, list_t, isi_i, isi_b, isi_s, isi_l, isi_t, isi_n, ty_ii, ty_bi, ty_ss, ty_ll, ty_tt, ty_tl, ty_lt, ty_tn, find_s, lower_s, sq_nx, sq_sq, sq_a, sq_o, sq_x, sq_if, sq_ret, sq_retL, oOf_o, sq_retO, sq_app, lstK_l, sq_ext, sq_aug, sq_g, sq_frz, sq_br, sq_ct, sq_raise, ofG_some, nx_ap, thenS_nx, thenS_rt, thenS_exc, sq_for, sq_wh, endV_v, endV_o, endV_n, endV_x, endL_o, endL_x, gN_ap, List.getElem?_cons_zero, List.getElem?_cons_succ, List.set_cons_zero, List.set_cons_succ, List.length_cons, List.length_nil, decide_eq_true_eq, Bool.not_eq_true, reduceIte, Bool.false_eq_true, decide_true, decide_false, Nat.reduceAdd, Nat.reduceLeDiff, Nat.reduceLT, Bool.not_true, Bool.not_false, List.nil_append, List.cons_append, List.map_cons, List.map_nil, List.replicate_succ, List.replicate_zero, Bool.not_eq_eq_eq_not, decide_eq_false_iff_not, and_self, and_true, true_and, and_false, false_and, or_true, true_or, or_false, false_or, or_self, Int.reduceLE, Int.reduceLT, Int.reduceNeg, Int.reduceAdd, Int.reduceSub, Int.reduceMul, Int.reduceDiv, Int.reduceMod, Int.reduceEq, Int.reduceToNat, Nat.reduceEqDiff, frz_zero, frz_succ, gT_tup, gT_ktp, gC_ap, gE_nil, cast_0, cast_1, cast_2, cast_3, cast_4, cast_5, cast_6, cast_7, cast_8, cast_9, ty_bs, ty_is, frz_zeroV, oOfR_o, ap_lenO, ap_ixO, tOf_some, pOf_fn, ap_P, ap_iZT, itZT_ok, zipD_cons, zipD_nil, str_i, sq_set, oOfS_o, set_ints]
theorem le_s_ok (k : Str) (x y : Int) : m_le_s [.str k, .int x, .int y] = .ok (.int (if x ≤ y then 1 else 0)) := by rw [e_le_s]; unfold b_le_s; simp only [bind_ok, bind_exc, bind_bad, ofE_ok, ofE_exc, vOf_v, ap_C, ap_V, ap_nil, ap_cons, ap_U, ap_B, ap_chain, ap_and, ap_or, ap_tup, ap_F, ap_M, ap_sl, ap_pN, ap_pS, ap_L, ap_tE, ap_tAn, ap_tO, ap_tN, ap_tY, ap_if, ap_lD, ap_lF, ap_lCat, catL_ok, ap_lRep, repL_ok, ap_lSl, slL_lst, slL_scr, ap_iD, itL_lst, itL_scr, ap_iT, itT_tup, itT_ktp, ap_iS, itS_str, ap_iR1, itR1_ok, add_i, add_s, add_l, addX_i, addX_s, sub_i, mul_i, div_i, mod_i, pow_i, shl_i, shr_i, and_i, or_i, xor_i, neg_i, not_b, lt_i, le_i, gt_i, ge_i, eq_i, eq_s, ne_i, ne_s, is_non, is_int, is_str, is_tup, is_lst, isnt_non, isnt_int, isnt_str, isnt_tup, toBl_b, toIn_i, ix_s, ix_l, ix_r, ix_t, ix_k, sl_s, sl_l, sl_r, sl_t, len_s, len_l, len_r, len_t, len_k, int_i, int_b, abs_i, min_i, max_i, tup_l, tup_t, list_l, list_r, list_t, isi_i, isi_b, isi_s, isi_l, isi_t, isi_n, ty_ii, ty_bi, ty_ss, ty_ll, ty_tt, ty_tl, ty_lt, ty_tn, find_s, lower_s, sq_nx, sq_sq, sq_a, sq_o, sq_x, sq_if, sq_ret, sq_retL, oOf_o, sq_retO, sq_app, lstK_l, sq_ext, sq_aug, sq_g, sq_frz, sq_br, sq_ct, sq_raise, ofG_some, nx_ap, thenS_nx, thenS_rt, thenS_exc, sq_for, sq_wh, endV_v, endV_o, endV_n, endV_x, endL_o, endL_x, gN_ap, List.getElem?_cons_zero, List.getElem?_cons_succ, List.set_cons_zero, List.set_cons_succ, List.length_cons, List.length_nil, decide_eq_true_eq, Bool.not_eq_true, reduceIte, Bool.false_eq_true, decide_true, decide_false, Nat.reduceAdd, Nat.reduceLeDiff, Nat.reduceLT, Bool.not_true, Bool.not_false, List.nil_append, List.cons_append, List.map_cons, List.map_nil, List.replicate_succ, List.replicate_zero, Bool.not_eq_eq_eq_not, decide_eq_false_iff_not, and_self, and_true, true_and, and_false, false_and, or_true, true_or, or_false, false_or, or_self, Int.reduceLE, Int.reduceLT, Int.reduceNeg, Int.reduceAdd, Int.reduceSub, Int.reduceMul, Int.reduceDiv, Int.reduceMod, Int.reduceEq, Int.reduceToNat, Nat.reduceEqDiff, frz_zero, frz_succ, gT_tup, gT_ktp, gC_ap, gE_nil, cast_0, cast_1, cast_2, cast_3, cast_4, cast_5, cast_6, cast_7, cast_8, cast_9, ty_bs, ty_is, frz_zeroV, oOfR_o, ap_lenO, ap_ixO, tOf_some, pOf_fn, ap_P, ap_iZT, itZT_ok, zipD_cons, zipD_nil, str_i, sq_set, oOfS_o, set_ints]
theorem ge_s_ok (k : Str) (x y : Int) : m_ge_s [.str k, .int x, .int y] = .ok (.int (if y ≤ x then 1 else 0)) := by rw [e_ge_s]; unfold b_ge_s; simp only [bind_ok, bind_exc, bind_bad, ofE_ok, ofE_exc, vOf_v, ap_C, ap_V, ap_nil, ap_cons, ap_U, ap_B, ap_chain, ap_and, ap_or, ap_tup, ap_F, ap_M, ap_sl, ap_pN, ap_pS, ap_L, ap_tE, ap_tAn, ap_tO, ap_tN, ap_tY, ap_if, ap_lD, ap_lF, ap_lCat, catL_ok, ap_lRep, repL_ok, ap_lSl, slL_lst, slL_scr, ap_iD, itL_lst, itL_scr, ap_iT, itT_tup, itT_ktp, ap_iS, itS_str, ap_iR1, itR1_ok, add_i, add_s, add_l, addX_i, addX_s, sub_i, mul_i, div_i, mod_i, pow_i, shl_i, shr_i, and_i, or_i, xor_i, neg_i, not_b, lt_i, le_i, gt_i, ge_i, eq_i, eq_s, ne_i, ne_s, is_non, is_int, is_str, is_tup, is_lst, isnt_non, isnt_int, isnt_str, isnt_tup, toBl_b, toIn_i, ix_s, ix_l, ix_r, ix_t, ix_k, sl_s, sl_l, sl_r, sl_t, len_s, len_l, len_r, len_t, len_k, int_i, int_b, abs_i, min_i, max_i, tup_l, tup_t, list_l, list_r, list_t, isi_i, isi_b, isi_s, isi_l, isi_t, isi_n, ty_ii, ty_bi, ty_ss, ty_ll, ty_tt, ty_tl, ty_lt, ty_tn, find_s, lower_s, sq_nx, sq_sq, sq_a, sq_o, sq_x, sq_if, sq_ret, sq_retL, oOf_o, sq_retO, sq_app, lstK_l, sq_ext, sq_aug, sq_g, sq_frz, sq_br, sq_ct, sq_raise, ofG_some, nx_ap, thenS_nx, thenS_rt, thenS_exc, sq_for, sq_wh, endV_v, endV_o, endV_n, endV_x, endL_o, endL_x, gN_ap, List.getElem?_cons_zero, List.getElem?_cons_succ, List.set_cons_zero, List.set_cons_succ, List.length_cons, List.length_nil, decide_eq_true_eq, Bool.not_eq_true, reduceIte, Bool.false_eq_true, decide_true, decide_false, Nat.reduceAdd, Nat.reduceLeDiff, Nat.reduceLT, Bool.not_true, Bool.not_false, List.nil_append, List.cons_append, List.map_cons, List.map_nil, List.replicate_succ, List.replicate_zero, Bool.not_eq_eq_eq_not, decide_eq_false_iff_not, and_self, and_true, true_and, and_false, false_and, or_true, true_or, or_false, false_or, or_self, Int.reduceLE, Int.reduceLT, Int.reduceNeg, Int.reduceAdd, Int.reduceSub, Int.reduceMul, Int.reduceDiv, Int.reduceMod, Int.reduceEq, Int.reduceToNat, Nat.reduceEqDiff, frz_zero, frz_succ, gT_tup, gT_ktp, gC_ap, gE_nil, cast_0, cast_1, cast_2, cast_3, cast_4, cast_5, cast_6, cast_7, cast_8, cast_9, ty_bs, ty_is, frz_zeroV, oOfR_o, ap_lenO, ap_ixO, tOf_some, pOf_fn, ap_P, ap_iZT, itZT_ok, zipD_cons, zipD_nil, str_i, sq_set, oOfS_o, set_ints]
theorem lt_u_ok (K : KW k W w) (x y : Int) : m_lt_u [.str k, .int x, .int y] = .ok (.int (if x % 2 ^ w < y % 2 ^ w then 1 else 0)) := by rw [e_lt_u]; unfold b_lt_u; simp only [bind_ok, bind_exc, bind_bad, ofE_ok, ofE_exc, vOf_v, ap_C, ap_V, ap_nil, ap_cons, ap_U, ap_B, ap_chain, ap_and, ap_or, ap_tup, ap_F, ap_M, ap_sl, ap_pN, ap_pS, ap_L, ap_tE, ap_tAn, ap_tO, ap_tN, ap_tY, ap_if, ap_lD, ap_lF, ap_lCat, catL_ok, ap_lRep, repL_ok, ap_lSl, slL_lst, slL_scr, ap_iD, itL_lst, itL_scr, ap_iT, itT_tup, itT_ktp, ap_iS, itS_str, ap_iR1, itR1_ok, add_i, add_s, add_l, addX_i, addX_s, sub_i, mul_i, div_i, mod_i, pow_i, shl_i, shr_i, and_i, or_i, xor_i, neg_i, not_b, lt_i, le_i, gt_i, ge_i, eq_i, eq_s, ne_i, ne_s, is_non, is_int, is_str, is_tup, is_lst, isnt_non, isnt_int, isnt_str, isnt_tup, toBl_b, toIn_i, ix_s, ix_l, ix_r, ix_t, ix_k, sl_s, sl_l, sl_r, sl_t, len_s, len_l, len_r, len_t, len_k, int_i, int_b, abs_i, min_i, max_i, tup_l, tup_t, list_l, list_r, list_t, isi_i, isi_b, isi_s, isi_l, isi_t, isi_n, ty_ii, ty_bi, ty_ss, ty_ll, ty_tt, ty_tl, ty_lt, ty_tn, find_s, lower_s, sq_nx, sq_sq, sq_a, sq_o, sq_x, sq_if, sq_ret, sq_retL, oOf_o, sq_retO, sq_app, lstK_l, sq_ext, sq_aug, sq_g, sq_frz, sq_br, sq_ct, sq_raise, ofG_some, nx_ap, thenS_nx, thenS_rt, thenS_exc, sq_for, sq_wh, endV_v, endV_o, endV_n, endV_x, endL_o, endL_x, gN_ap, List.getElem?_cons_zero, List.getElem?_cons_succ, List.set_cons_zero, List.set_cons_succ, List.length_cons, List.length_nil, decide_eq_true_eq, Bool.not_eq_true, reduceIte, Bool.false_eq_true, decide_true, decide_false, Nat.reduceAdd, Nat.reduceLeDiff, Nat.reduceLT, Bool.not_true, Bool.not_false, List.nil_append, List.cons_append, List.map_cons, List.map_nil, List.replicate_succ, List.replicate_zero, Bool.not_eq_eq_eq_not, decide_eq_false_iff_not, and_self, and_true, true_and, and_false, false_and, or_true, true_or, or_false, false_or, or_self, Int.reduceLE, Int.reduceLT, Int.reduceNeg, Int.reduceAdd, Int.reduceSub, Int.reduceMul, Int.reduceDiv, Int.reduceMod, Int.reduceEq, Int.reduceToNat, Nat.reduceEqDiff, frz_zero, frz_succ, gT_tup, gT_ktp, gC_ap, gE_nil, cast_0, cast_1, cast_2, cast_3, cast_4, cast_5, cast_6, cast_7, cast_8, cast_9, ty_bs, ty_is, frz_zeroV, oOfR_o, ap_lenO, ap_ixO, tOf_some, pOf_fn, ap_P, ap_iZT, itZT_ok, zipD_cons, zipD_nil, str_i, sq_set, oOfS_o, set_ints, unsigned_ok K]
theorem gt_u_ok (K : KW k W w) (x y : Int) : m_gt_u [.str k, .int x, .int y] = .ok (.int (if y % 2 ^ w < x % 2 ^ w then 1 else 0)) := by rw [e_gt_u]; unfold b_gt_u; simp only [bind_ok, bind_exc, bind_bad, ofE_ok, ofE_exc, vOf_v, ap_C, ap_V, ap_nil, ap_cons, ap_U, ap_B, ap_chain, ap_and, ap_or, ap_tup, ap_F, ap_M, ap_sl, ap_pN, ap_pS, ap_L, ap_tE, ap_tAn, ap_tO, ap_tN, ap_tY, ap_if, ap_lD, ap_lF, ap_lCat, catL_ok, ap_lRep, repL_ok, ap_lSl, slL_lst, slL_scr, ap_iD, itL_lst, itL_scr, ap_iT, itT_tup, itT_ktp, ap_iS, itS_str, ap_iR1, itR1_ok, add_i, add_s, add_l, addX_i, addX_s, sub_i, mul_i, div_i, mod_i, pow_i, shl_i, shr_i, and_i, or_i, xor_i, neg_i, not_b, lt_i, le_i, gt_i, ge_i, eq_i, eq_s, ne_i, ne_s, is_non, is_int, is_str, is_tup, is_lst, isnt_non, isnt_int, isnt_str, isnt_tup, toBl_b, toIn_i, ix_s, ix_l, ix_r, ix_t, ix_k, sl_s, sl_l, sl_r, sl_t, len_s, len_l, len_r, len_t, len_k, int_i, int_b, abs_i, min_i, max_i, tup_l, tup_t, list_l, list_r, list_t, isi_i, isi_b, isi_s, isi_l, isi_t, isi_n, ty_ii, ty_bi, ty_ss, ty_ll, ty_tt, ty_tl, ty_lt, ty_tn, find_s, lower_s, sq_nx, sq_sq, sq_a, sq_o, sq_x, sq_if, sq_ret, sq_retL, oOf_o, sq_retO, sq_app, lstK_l, sq_ext, sq_aug, sq_g, sq_frz, sq_br, sq_ct, sq_raise, ofG_some, nx_ap, thenS_nx, thenS_rt, thenS_exc, sq_for, sq_wh, endV_v, endV_o, endV_n, endV_x, endL_o, endL_x, gN_ap, List.getElem?_cons_zero, List.getElem?_cons_succ, List.set_cons_zero, List.set_cons_succ, List.length_cons, List.length_nil, decide_eq_true_eq, Bool.not_eq_true, reduceIte, Bool.false_eq_true, decide_true, decide_false, Nat.reduceAdd, Nat.reduceLeDiff, Nat.reduceLT, Bool.not_true, Bool.not_false, List.nil_append, List.cons_append, List.map_cons, List.map_nil, List.replicate_succ, List.replicate_zero, Bool.not_eq_eq_eq_not, decide_eq_false_iff_not, and_self, and_true, true_and, and_false, false_and, or_true, true_or, or_false, false_or, or_self, Int.reduceLE, Int.reduceLT, Int.reduceNeg, Int.reduceAdd, Int.reduceSub, Int.reduceMul, Int.reduceDiv, Int.reduceMod, Int.reduceEq, Int.reduceToNat, Nat.reduceEqDiff, frz_zero, frz_succ, gT_tup, gT_ktp, gC_ap, gE_nil, cast_0, cast_1, cast_2, cast_3, cast_4, cast_5, cast_6, cast_7, cast_8, cast_9, ty_bs, ty_is, frz_zeroV, oOfR_o, ap_lenO, ap_ixO, tOf_some, pOf_fn, ap_P, ap_iZT, itZT_ok, zipD_cons, zipD_nil, str_i, sq_set, oOfS_o, set_ints, unsigned_ok K]
theorem le_u_ok (K : KW k W w) (x y : Int) : m_le_u [.str k, .int x, .int y] = .ok (.int (if x % 2 ^ w ≤ y % 2 ^ w then 1 else 0)) := by rw [e_le_u]; unfold b_le_u; simp only [bind_ok, bind_exc, bind_bad, ofE_ok, ofE_exc, vOf_v, ap_C, ap_V, ap_nil, ap_cons, ap_U, ap_B, ap_chain, ap_and, ap_or, ap_tup, ap_F, ap_M, ap_sl, ap_pN, ap_pS, ap_L, ap_tE, ap_tAn, ap_tO, ap_tN, ap_tY, ap_if, ap_lD, ap_lF, ap_lCat, catL_ok, ap_lRep, repL_ok, ap_lSl, slL_lst, slL_scr, ap_iD, itL_lst, itL_scr, ap_iT, itT_tup, itT_ktp, ap_iS, itS_str, ap_iR1, itR1_ok, add_i, add_s, add_l, addX_i, addX_s, sub_i, mul_i, div_i, mod_i, pow_i, shl_i, shr_i, and_i, or_i, xor_i, neg_i, not_b, lt_i, le_i, gt_i, ge_i, eq_i, eq_s, ne_i, ne_s, is_non, is_int, is_str, is_tup, is_lst, isnt_non, isnt_int, isnt_str, isnt_tup, toBl_b, toIn_i, ix_s, ix_l, ix_r, ix_t, ix_k, sl_s, sl_l, sl_r, sl_t, len_s, len_l, len_r, len_t, len_k, int_i, int_b, abs_i, min_i, max_i, tup_l, tup_t, list_l, list_r, list_t, isi_i, isi_b, isi_s, isi_l, isi_t, isi_n, ty_ii, ty_bi, ty_ss, ty_ll, ty_tt, ty_tl, ty_lt, ty_tn, find_s, lower_s, sq_nx, sq_sq, sq_a, sq_o, sq_x, sq_if, sq_ret, sq_retL, oOf_o, sq_retO, sq_app, lstK_l, sq_ext, sq_aug, sq_g, sq_frz, sq_br, sq_ct, sq_raise, ofG_some, nx_ap, thenS_nx, thenS_rt, thenS_exc, sq_for, sq_wh, endV_v, endV_o, endV_n, endV_x, endL_o, endL_x, gN_ap, List.getElem?_cons_zero, List.getElem?_cons_succ, List.set_cons_zero, List.set_cons_succ, List.length_cons, List.length_nil, decide_eq_true_eq, Bool.not_eq_true, reduceIte, Bool.false_eq_true, decide_true, decide_false, Nat.reduceAdd, Nat.reduceLeDiff, Nat.reduceLT, Bool.not_true, Bool.not_false, List.nil_append, List.cons_append, List.map_cons, List.map_nil, List.replicate_succ, List.replicate_zero, Bool.not_eq_eq_eq_not, decide_eq_false_iff_not, and_self, and_true, true_and, and_false, false_and, or_true, true_or, or_false, false_or, or_self, Int.reduceLE, Int.reduceLT, Int.reduceNeg, Int.reduceAdd, Int.reduceSub, Int.reduceMul, Int.reduceDiv, Int.reduceMod, Int.reduceEq, Int.reduceToNat, Nat.reduceEqDiff, frz_zero, frz_succ, gT_tup, gT_ktp, gC_ap, gE_nil, cast_0, cast_1, cast_2, cast_3, cast_4, cast_5, cast_6, cast_7, cast_8, cast_9, ty_bs, ty_is, frz_zeroV, oOfR_o, ap_lenO, ap_ixO, tOf_some, pOf_fn, ap_P, ap_iZT, itZT_ok, zipD_cons, zipD_nil, str_i, sq_set, oOfS_o, set_ints, unsigned_ok K]
theorem ge_u_ok (K : KW k W w) (x y : Int) : m_ge_u [.str k, .int x, .int y] = .ok (.int (if y % 2 ^ w ≤ x % 2 ^ w then 1 else 0)) := by rw [e_ge_u]; unfold b_ge_u; simp only [bind_ok, bind_exc, bind_bad, ofE_ok, ofE_exc, vOf_v, ap_C, ap_V, ap_nil, ap_cons, ap_U, ap_B, ap_chain, ap_and, ap_or, ap_tup, ap_F, ap_M, ap_sl, ap_pN, ap_pS, ap_L, ap_tE, ap_tAn, ap_tO, ap_tN, ap_tY, ap_if, ap_lD, ap_lF, ap_lCat, catL_ok, ap_lRep, repL_ok, ap_lSl, slL_lst, slL_scr, ap_iD, itL_lst, itL_scr, ap_iT, itT_tup, itT_ktp, ap_iS, itS_str, ap_iR1, itR1_ok, add_i, add_s, add_l, addX_i, addX_s, sub_i, mul_i, div_i, mod_i, pow_i, shl_i, shr_i, and_i, or_i, xor_i, neg_i, not_b, lt_i, le_i, gt_i, ge_i, eq_i, eq_s, ne_i, ne_s, is_non, is_int, is_str, is_tup, is_lst, isnt_non, isnt_int, isnt_str, isnt_tup, toBl_b, toIn_i, ix_s, ix_l, ix_r, ix_t, ix_k, sl_s, sl_l, sl_r, sl_t, len_s, len_l, len_r, len_t, len_k, int_i, int_b, abs_i, min_i, max_i, tup_l, tup_t, list_l, list_r, list_t, isi_i, isi_b, isi_s, isi_l, isi_t, isi_n, ty_ii, ty_bi, ty_ss, ty_ll, ty_tt, ty_tl, ty_lt, ty_tn, find_s, lower_s, sq_nx, sq_sq, sq_a, sq_o, sq_x, sq_if, sq_ret, sq_retL, oOf_o, sq_retO, sq_app, lstK_l, sq_ext, sq_aug, sq_g, sq_frz, sq_br, sq_ct, sq_raise, ofG_some, nx_ap, thenS_nx, thenS_rt, thenS_exc, sq_for, sq_wh, endV_v, endV_o, endV_n, endV_x, endL_o, endL_x, gN_ap, List.getElem?_cons_zero, List.getElem?_cons_succ, List.set_cons_zero, List.set_cons_succ, List.length_cons, List.length_nil, decide_eq_true_eq, Bool.not_eq_true, reduceIte, Bool.false_eq_true, decide_true, decide_false, Nat.reduceAdd, Nat.reduceLeDiff, Nat.reduceLT, Bool.not_true, Bool.not_false, List.nil_append, List.cons_append, List.map_cons, List.map_nil, List.replicate_succ, List.replicate_zero, Bool.not_eq_eq_eq_not, decide_eq_false_iff_not, and_self, and_true, true_and, and_false, false_and, or_true, true_or, or_false, false_or, or_self, Int.reduceLE, Int.reduceLT, Int.reduceNeg, Int.reduceAdd, Int.reduceSub, Int.reduceMul, Int.reduceDiv, Int.reduceMod, Int.reduceEq, Int.reduceToNat, Nat.reduceEqDiff, frz_zero, frz_succ, gT_tup, gT_ktp, gC_ap, gE_nil, cast_0, cast_1, cast_2, cast_3, cast_4, cast_5, cast_6, cast_7, cast_8, cast_9, ty_bs, ty_is, frz_zeroV, oOfR_o, ap_lenO, ap_ixO, tOf_some, pOf_fn, ap_P, ap_iZT, itZT_ok, zipD_cons, zipD_nil, str_i, sq_set, oOfS_o, set_ints, unsigned_ok K]
theorem eqz_ok (k : Str) (x : Int) : m_eqz [.str k, .int x] = .ok (.int (if x = 0 then 1 else 0)) := by rw [e_eqz]; unfold b_eqz; simp only [bind_ok, bind_exc, bind_bad, ofE_ok, ofE_exc, vOf_v, ap_C, ap_V, ap_nil, ap_cons, ap_U, ap_B, ap_chain, ap_and, ap_or, ap_tup, ap_F, ap_M, ap_sl, ap_pN, ap_pS, ap_L, ap_tE, ap_tAn, ap_tO, ap_tN, ap_tY, ap_if, ap_lD, ap_lF, ap_lCat, catL_ok, ap_lRep, repL_ok, ap_lSl, slL_lst, slL_scr, ap_iD, itL_lst, itL_scr, ap_iT, itT_tup, itT_ktp, ap_iS, itS_str, ap_iR1, itR1_ok, add_i, add_s, add_l, addX_i, addX_s, sub_i, mul_i, div_i, mod_i, pow_i, shl_i, shr_i, and_i, or_i, xor_i, neg_i, not_b, lt_i, le_i, gt_i, ge_i, eq_i, eq_s, ne_i, ne_s, is_non, is_int, is_str, is_tup, is_lst, isnt_non, isnt_int, isnt_str, isnt_tup, toBl_b, toIn_i, ix_s, ix_l, ix_r, ix_t, ix_k, sl_s, sl_l, sl_r, sl_t, len_s, len_l, len_r, len_t, len_k, int_i, int_b, abs_i, min_i, max_i, tup_l, tup_t, list_l, list_r, list_t, isi_i, isi_b, isi_s, isi_l, isi_t, isi_n, ty_ii, ty_bi, ty_ss, ty_ll, ty_tt, ty_tl, ty_lt, ty_tn, find_s, lower_s, sq_nx, sq_sq, sq_a, sq_o, sq_x, sq_if, sq_ret, sq_retL, oOf_o, sq_retO, sq_app, lstK_l, sq_ext, sq_aug, sq_g, sq_frz, sq_br, sq_ct, sq_raise, ofG_some, nx_ap, thenS_nx, thenS_rt, thenS_exc, sq_for, sq_wh, endV_v, endV_o, endV_n, endV_x, endL_o, endL_x, gN_ap, List.getElem?_cons_zero, List.getElem?_cons_succ, List.set_cons_zero, List.set_cons_succ, List.length_cons, List.length_nil, decide_eq_true_eq, Bool.not_eq_true, reduceIte, Bool.false_eq_true, decide_true, decide_false, Nat.reduceAdd, Nat.reduceLeDiff, Nat.reduceLT, Bool.not_true, Bool.not_false, List.nil_append, List.cons_append, List.map_cons, List.map_nil, List.replicate_succ, List.replicate_zero, Bool.not_eq_eq_eq_not, decide_eq_false_iff_not, and_self, and_true, true_and, and_false, false_and, or_true, true_or, or_false, false_or, or_self, Int.reduceLE, Int.reduceLT, Int.reduceNeg, Int.reduceAdd, Int.reduceSub, Int.reduceMul, Int.reduceDiv, Int.reduceMod, Int.reduceEq, Int.reduceToNat, Nat.reduceEqDiff, frz_zero, frz_succ, gT_tup, gT_ktp, gC_ap, gE_nil, cast_0, cast_1, cast_2, cast_3, cast_4, cast_5, cast_6, cast_7, cast_8, cast_9, ty_bs, ty_is, frz_zeroV, oOfR_o, ap_lenO, ap_ixO, tOf_some, pOf_fn, ap_P, ap_iZT, itZT_ok, zipD_cons, zipD_nil, str_i, sq_set, oOfS_o, set_ints]
theorem ext32_ok (k : Str) (x : Int) : m_extend32_s [.str k, .int x] = .ok (.int (sgn 32 x)) := by rw [e_extend32_s]; unfold b_extend32_s; simp only [bind_ok, bind_exc, bind_bad, ofE_ok, ofE_exc, vOf_v, ap_C, ap_V, ap_nil, ap_cons, ap_U, ap_B, ap_chain, ap_and, ap_or, ap_tup, ap_F, ap_M, ap_sl, ap_pN, ap_pS, ap_L, ap_tE, ap_tAn, ap_tO, ap_tN, ap_tY, ap_if, ap_lD, ap_lF, ap_lCat, catL_ok, ap_lRep, repL_ok, ap_lSl, slL_lst, slL_scr, ap_iD, itL_lst, itL_scr, ap_iT, itT_tup, itT_ktp, ap_iS, itS_str, ap_iR1, itR1_ok, add_i, add_s, add_l, addX_i, addX_s, sub_i, mul_i, div_i, mod_i, pow_i, shl_i, shr_i, and_i, or_i, xor_i, neg_i, not_b, lt_i, le_i, gt_i, ge_i, eq_i, eq_s, ne_i, ne_s, is_non, is_int, is_str, is_tup, is_lst, isnt_non, isnt_int, isnt_str, isnt_tup, toBl_b, toIn_i, ix_s, ix_l, ix_r, ix_t, ix_k, sl_s, sl_l, sl_r, sl_t, len_s, len_l, len_r, len_t, len_k, int_i, int_b, abs_i, min_i, max_i, tup_l, tup_t, list_l, list_r, list_t, isi_i, isi_b, isi_s, isi_l, isi_t, isi_n, ty_ii, ty_bi, ty_ss, ty_ll, ty_tt, ty_tl, ty_lt, ty_tn, find_s, lower_s, sq_nx, sq_sq, sq_a, sq_o, sq_x, sq_if, sq_ret, sq_retL, oOf_o, sq_retO, sq_app, lstK_l, sq_ext, sq_aug, sq_g, sq_frz, sq_br, sq_ct, sq_raise, ofG_some, nx_ap, thenS_nx, thenS_rt, thenS_exc, sq_for, sq_wh, endV_v, endV_o, endV_n, endV_x, endL_o, endL_x, gN_ap, List.getElem?_cons_zero, List.getElem?_cons_succ, List.set_cons_zero, List.set_cons_succ, List.length_cons, List.length_nil, decide_eq_true_eq, Bool.not_eq_true, reduceIte, Bool.false_eq_true, decide_true, decide_false, Nat.reduceAdd, Nat.reduceLeDiff, Nat.reduceLT, Bool.not_true, Bool.not_false, List.nil_append, List.cons_append, List.map_cons, List.map_nil, List.replicate_succ, List.replicate_zero, Bool.not_eq_eq_eq_not, decide_eq_false_iff_not, and_self, and_true, true_and, and_false, false_and, or_true, true_or, or_false, false_or, or_self, Int.reduceLE, Int.reduceLT, Int.reduceNeg, Int.reduceAdd, Int.reduceSub, Int.reduceMul, Int.reduceDiv, Int.reduceMod, Int.reduceEq, Int.reduceToNat, Nat.reduceEqDiff, frz_zero, frz_succ, gT_tup, gT_ktp, gC_ap, gE_nil, cast_0, cast_1, cast_2, cast_3, cast_4, cast_5, cast_6, cast_7, cast_8, cast_9, ty_bs, ty_is, frz_zeroV, oOfR_o, ap_lenO, ap_ixO, tOf_some, pOf_fn, ap_P, ap_iZT, itZT_ok, zipD_cons, zipD_nil, str_i, sq_set, oOfS_o, set_ints, extend_ok KW.a]
theorem extu_ok (k : Str) (x : Int) : m_extend_u [.str k, .int x] = .ok (.int (x % 2 ^ 32)) := by rw [e_extend_u]; unfold b_extend_u; simp only [bind_ok, bind_exc, bind_bad, ofE_ok, ofE_exc, vOf_v, ap_C, ap_V, ap_nil, ap_cons, ap_U, ap_B, ap_chain, ap_and, ap_or, ap_tup, ap_F, ap_M, ap_sl, ap_pN, ap_pS, ap_L, ap_tE, ap_tAn, ap_tO, ap_tN, ap_tY, ap_if, ap_lD, ap_lF, ap_lCat, catL_ok, ap_lRep, repL_ok, ap_lSl, slL_lst, slL_scr, ap_iD, itL_lst, itL_scr, ap_iT, itT_tup, itT_ktp, ap_iS, itS_str, ap_iR1, itR1_ok, add_i, add_s, add_l, addX_i, addX_s, sub_i, mul_i, div_i, mod_i, pow_i, shl_i, shr_i, and_i, or_i, xor_i, neg_i, not_b, lt_i, le_i, gt_i, ge_i, eq_i, eq_s, ne_i, ne_s, is_non, is_int, is_str, is_tup, is_lst, isnt_non, isnt_int, isnt_str, isnt_tup, toBl_b, toIn_i, ix_s, ix_l, ix_r, ix_t, ix_k, sl_s, sl_l, sl_r, sl_t, len_s, len_l, len_r, len_t, len_k, int_i, int_b, abs_i, min_i, max_i, tup_l, tup_t, list_l, list_r, list_t, isi_i, isi_b, isi_s, isi_l, isi_t, isi_n, ty_ii, ty_bi, ty_ss, ty_ll, ty_tt, ty_tl, ty_lt, ty_tn, find_s, lower_s, sq_nx, sq_sq, sq_a, sq_o, sq_x, sq_if, sq_ret, sq_retL, oOf_o, sq_retO, sq_app, lstK_l, sq_ext, sq_aug, sq_g, sq_frz, sq_br, sq_ct, sq_raise, ofG_some, nx_ap, thenS_nx, thenS_rt, thenS_exc, sq_for, sq_wh, endV_v, endV_o, endV_n, endV_x, endL_o, endL_x, gN_ap, List.getElem?_cons_zero, List.getElem?_cons_succ, List.set_cons_zero, List.set_cons_succ, List.length_cons, List.length_nil, decide_eq_true_eq, Bool.not_eq_true, reduceIte, Bool.false_eq_true, decide_true, decide_false, Nat.reduceAdd, Nat.reduceLeDiff, Nat.reduceLT, Bool.not_true, Bool.not_false, List.nil_append, List.cons_append, List.map_cons, List.map_nil, List.replicate_succ, List.replicate_zero, Bool.not_eq_eq_eq_not, decide_eq_false_iff_not, and_self, and_true, true_and, and_false, false_and, or_true, true_or, or_false, false_or, or_self, Int.reduceLE, Int.reduceLT, Int.reduceNeg, Int.reduceAdd, Int.reduceSub, Int.reduceMul, Int.reduceDiv, Int.reduceMod, Int.reduceEq, Int.reduceToNat, Nat.reduceEqDiff, frz_zero, frz_succ, gT_tup, gT_ktp, gC_ap, gE_nil, cast_0, cast_1, cast_2, cast_3, cast_4, cast_5, cast_6, cast_7, cast_8, cast_9, ty_bs, ty_is, frz_zeroV, oOfR_o, ap_lenO, ap_ixO, tOf_some, pOf_fn, ap_P, ap_iZT, itZT_ok, zipD_cons, zipD_nil, str_i, sq_set, oOfS_o, set_ints, unsigned_ok KW.a]
theorem clz_loop (a b : Sl) : ∀ (n m : Nat) (x c : Int), n < m → 0 ≤ x → x < 2 ^ n → whGo (tE (eB dGt (eV 2) (eC (.int 0)))) b_clz_1 m [a, b, .val (.int x), .val (.int c)] = .nx [a, b, .val (.int 0), .val (.int (c - blen n x))]
  | n, 0, _, _, h, _, _ => absurd h (Nat.not_lt_zero n)
  | n, m + 1, x, c, h, h0, h1 => by
    have t : (tE (eB dGt (eV 2) (eC (.int 0)))) [a, b, .val (.int x), .val (.int c)] = .ok (decide (0 < x)) := rfl
    rw [whGo_succ t]
    by_cases hx : 0 < x
    · rw [if_pos (decide_eq_true hx)]
      match n, h, h1 with
      | 0, _, h1 => simp at h1; omega
      | n + 1, h, h1 =>
        have e : b_clz_1 [a, b, .val (.int x), .val (.int c)] = .nx [a, b, .val (.int (x / 2)), .val (.int (c - 1))] := by
          unfold b_clz_1
          simp only [bind_ok, bind_exc, bind_bad, ofE_ok, ofE_exc, vOf_v, ap_C, ap_V, ap_nil, ap_cons, ap_U, ap_B, ap_chain, ap_and, ap_or, ap_tup, ap_F, ap_M, ap_sl, ap_pN, ap_pS, ap_L, ap_tE, ap_tAn, ap_tO, ap_tN, ap_tY, ap_if, ap_lD, ap_lF, ap_lCat, catL_ok, ap_lRep, repL_ok, ap_lSl, slL_lst, slL_scr, ap_iD, itL_lst, itL_scr, ap_iT, itT_tup, itT_ktp, ap_iS, itS_str, ap_iR1, itR1_ok, add_i, add_s, add_l, addX_i, addX_s, sub_i, mul_i, div_i, mod_i, pow_i, shl_i, shr_i, and_i, or_i, xor_i, neg_i, not_b, lt_i, le_i, gt_i, ge_i, eq_i, eq_s, ne_i, ne_s, is_non, is_int, is_str, is_tup, is_lst, isnt_non, isnt_int, isnt_str, isnt_tup, toBl_b, toIn_i, ix_s, ix_l, ix_r, ix_t, ix_k, sl_s, sl_l, sl_r, sl_t, len_s, len_l, len_r, len_t, len_k, int_i, int_b, abs_i, min_i, max_i, tup_l, tup_t, list_l, list_r, list_t, isi_i, isi_b, isi_s, isi_l, isi_t, isi_n, ty_ii, ty_bi, ty_ss, ty_ll, ty_tt, ty_tl, ty_lt, ty_tn, find_s, lower_s, sq_nx, sq_sq, sq_a, sq_o, sq_x, sq_if, sq_ret, sq_retL, oOf_o, sq_retO, sq_app, lstK_l, sq_ext, sq_aug, sq_g, sq_frz, sq_br, sq_ct, sq_raise, ofG_some, nx_ap, thenS_nx, thenS_rt, thenS_exc, sq_for, sq_wh, endV_v, endV_o, endV_n, endV_x, endL_o, endL_x, gN_ap, List.getElem?_cons_zero, List.getElem?_cons_succ, List.set_cons_zero, List.set_cons_succ, List.length_cons, List.length_nil, decide_eq_true_eq, Bool.not_eq_true, reduceIte, Bool.false_eq_true, decide_true, decide_false, Nat.reduceAdd, Nat.reduceLeDiff, Nat.reduceLT, Bool.not_true, Bool.not_false, List.nil_append, List.cons_append, List.map_cons, List.map_nil, List.replicate_succ, List.replicate_zero, Bool.not_eq_eq_eq_not, decide_eq_false_iff_not, and_self, and_true, true_and, and_false, false_and, or_true, true_or, or_false, false_or, or_self, Int.reduceLE, Int.reduceLT, Int.reduceNeg, Int.reduceAdd, Int.reduceSub, Int.reduceMul, Int.reduceDiv, Int.reduceMod, Int.reduceEq, Int.reduceToNat, Nat.reduceEqDiff, frz_zero, frz_succ, gT_tup, gT_ktp, gC_ap, gE_nil, cast_0, cast_1, cast_2, cast_3, cast_4, cast_5, cast_6, cast_7, cast_8, cast_9, ty_bs, ty_is, frz_zeroV, oOfR_o, ap_lenO, ap_ixO, tOf_some, pOf_fn, ap_P, ap_iZT, itZT_ok, zipD_cons, zipD_nil, str_i, sq_set, oOfS_o, set_ints]
          rfl
        rw [e]
        rw [Int.pow_succ] at h1
        dsimp only
        rw [clz_loop a b n m (x / 2) (c - 1) (by omega) (by omega) (by omega), blen_succ, if_pos hx, show c - 1 - (blen n (x / 2) : Int) = c - ((blen n (x / 2) + 1 : Nat) : Int) by omega]
    · rw [if_neg (by simpa using hx)]
      obtain rfl : x = 0 := by omega
      have : blen n 0 = 0 := by cases n <;> rfl
      rw [this]
      simp
theorem clz_ok (K : KW k W w) (x : Int) : m_clz [.str k, .int x] = .ok (.int (W - blen w (x % 2 ^ w))) := by
  have hp : (0 : Int) < 2 ^ w := Int.pow_pos (by decide)
  have q := clz_loop (.val (.str k)) (.val (.int x)) w 100000 (x % 2 ^ w) W (by have := w_le K; omega) (Int.emod_nonneg _ (by omega)) (Int.emod_lt_of_pos _ hp)
  rw [e_clz]; unfold b_clz; simp only [bind_ok, bind_exc, bind_bad, ofE_ok, ofE_exc, vOf_v, ap_C, ap_V, ap_nil, ap_cons, ap_U, ap_B, ap_chain, ap_and, ap_or, ap_tup, ap_F, ap_M, ap_sl, ap_pN, ap_pS, ap_L, ap_tE, ap_tAn, ap_tO, ap_tN, ap_tY, ap_if, ap_lD, ap_lF, ap_lCat, catL_ok, ap_lRep, repL_ok, ap_lSl, slL_lst, slL_scr, ap_iD, itL_lst, itL_scr, ap_iT, itT_tup, itT_ktp, ap_iS, itS_str, ap_iR1, itR1_ok, add_i, add_s, add_l, addX_i, addX_s, sub_i, mul_i, div_i, mod_i, pow_i, shl_i, shr_i, and_i, or_i, xor_i, neg_i, not_b, lt_i, le_i, gt_i, ge_i, eq_i, eq_s, ne_i, ne_s, is_non, is_int, is_str, is_tup, is_lst, isnt_non, isnt_int, isnt_str, isnt_tup, toBl_b, toIn_i, ix_s, ix_l, ix_r, ix_t, ix_k, sl_s, sl_l, sl_r, sl_t, len_s, len_l, len_r, len_t, len_k, int_i, int_b, abs_i, min_i, max_i, tup_l, tup_t, list_l, list_r, list_t, isi_i, isi_b, isi_s, isi_l, isi_t, isi_n, ty_ii, ty_bi, ty_ss, ty_ll, ty_tt, ty_tl, ty_lt, ty_tn, find_s, lower_s, sq_nx, sq_sq, sq_a, sq_o, sq_x, sq_if, sq_ret, sq_retL, oOf_o, sq_retO, sq_app, lstK_l, sq_ext, sq_aug, sq_g, sq_frz, sq_br, sq_ct, sq_raise, ofG_some, nx_ap, thenS_nx, thenS_rt, thenS_exc, sq_for, sq_wh, endV_v, endV_o, endV_n, endV_x, endL_o, endL_x, gN_ap, List.getElem?_cons_zero, List.getElem?_cons_succ, List.set_cons_zero, List.set_cons_succ, List.length_cons, List.length_nil, decide_eq_true_eq, Bool.not_eq_true, reduceIte, Bool.false_eq_true, decide_true, decide_false, Nat.reduceAdd, Nat.reduceLeDiff, Nat.reduceLT, Bool.not_true, Bool.not_false, List.nil_append, List.cons_append, List.map_cons, List.map_nil, List.replicate_succ, List.replicate_zero, Bool.not_eq_eq_eq_not, decide_eq_false_iff_not, and_self, and_true, true_and, and_false, false_and, or_true, true_or, or_false, false_or, or_self, Int.reduceLE, Int.reduceLT, Int.reduceNeg, Int.reduceAdd, Int.reduceSub, Int.reduceMul, Int.reduceDiv, Int.reduceMod, Int.reduceEq, Int.reduceToNat, Nat.reduceEqDiff, frz_zero, frz_succ, gT_tup, gT_ktp, gC_ap, gE_nil, cast_0, cast_1, cast_2, cast_3, cast_4, cast_5, cast_6, cast_7, cast_8, cast_9, ty_bs, ty_is, frz_zeroV, oOfR_o, ap_lenO, ap_ixO, tOf_some, pOf_fn, ap_P, ap_iZT, itZT_ok, zipD_cons, zipD_nil, str_i, sq_set, oOfS_o, set_ints, unsigned_ok K, width_ok K, q]
theorem ctz_loop (K : KW k W w) (x : Int) : ∀ (n m : Nat) (c : Nat), n < m → c + n = w → whGo (tAn (tE (eB dLt (eV 2) (eF m_width (eCons (eV 0) eNil)))) (tE (eB dEq (eB dAnd (eB dShr (eV 1) (eV 2)) (eC (.int 1))) (eC (.int 0))))) b_ctz_1 m [.val (.str k), .val (.int x), .val (.int c)] = .nx [.val (.str k), .val (.int x), .val (.int (tz x n c))]
  | n, 0, _, h, _ => absurd h (Nat.not_lt_zero n)
  | n, m + 1, c, h, h1 => by
    have e := w_eq K
    have a1 : Builtin.bitAnd (x / 2 ^ c) 1 = x / 2 ^ c % 2 := PyProof.Rows.bitAnd_m1 _
    match n, h, h1 with
    | 0, h, h1 =>
      have t : (tAn (tE (eB dLt (eV 2) (eF m_width (eCons (eV 0) eNil)))) (tE (eB dEq (eB dAnd (eB dShr (eV 1) (eV 2)) (eC (.int 1))) (eC (.int 0))))) [.val (.str k), .val (.int x), .val (.int c)] = .ok false := by
        simp only [bind_ok, bind_exc, bind_bad, ofE_ok, ofE_exc, vOf_v, ap_C, ap_V, ap_nil, ap_cons, ap_U, ap_B, ap_chain, ap_and, ap_or, ap_tup, ap_F, ap_M, ap_sl, ap_pN, ap_pS, ap_L, ap_tE, ap_tAn, ap_tO, ap_tN, ap_tY, ap_if, ap_lD, ap_lF, ap_lCat, catL_ok, ap_lRep, repL_ok, ap_lSl, slL_lst, slL_scr, ap_iD, itL_lst, itL_scr, ap_iT, itT_tup, itT_ktp, ap_iS, itS_str, ap_iR1, itR1_ok, add_i, add_s, add_l, addX_i, addX_s, sub_i, mul_i, div_i, mod_i, pow_i, shl_i, shr_i, and_i, or_i, xor_i, neg_i, not_b, lt_i, le_i, gt_i, ge_i, eq_i, eq_s, ne_i, ne_s, is_non, is_int, is_str, is_tup, is_lst, isnt_non, isnt_int, isnt_str, isnt_tup, toBl_b, toIn_i, ix_s, ix_l, ix_r, ix_t, ix_k, sl_s, sl_l, sl_r, sl_t, len_s, len_l, len_r, len_t, len_k, int_i, int_b, abs_i, min_i, max_i, tup_l, tup_t, list_l, list_r, list_t, isi_i, isi_b, isi_s, isi_l, isi_t, isi_n, ty_ii, ty_bi, ty_ss, ty_ll, ty_tt, ty_tl, ty_lt, ty_tn, find_s, lower_s, sq_nx, sq_sq, sq_a, sq_o, sq_x, sq_if, sq_ret, sq_retL, oOf_o, sq_retO, sq_app, lstK_l, sq_ext, sq_aug, sq_g, sq_frz, sq_br, sq_ct, sq_raise, ofG_some, nx_ap, thenS_nx, thenS_rt, thenS_exc, sq_for, sq_wh, endV_v, endV_o, endV_n, endV_x, endL_o, endL_x, gN_ap, List.getElem?_cons_zero, List.getElem?_cons_succ, List.set_cons_zero, List.set_cons_succ, List.length_cons, List.length_nil, decide_eq_true_eq, Bool.not_eq_true, reduceIte, Bool.false_eq_true, decide_true, decide_false, Nat.reduceAdd, Nat.reduceLeDiff, Nat.reduceLT, Bool.not_true, Bool.not_false, List.nil_append, List.cons_append, List.map_cons, List.map_nil, List.replicate_succ, List.replicate_zero, Bool.not_eq_eq_eq_not, decide_eq_false_iff_not, and_self, and_true, true_and, and_false, false_and, or_true, true_or, or_false, false_or, or_self, Int.reduceLE, Int.reduceLT, Int.reduceNeg, Int.reduceAdd, Int.reduceSub, Int.reduceMul, Int.reduceDiv, Int.reduceMod, Int.reduceEq, Int.reduceToNat, Nat.reduceEqDiff, frz_zero, frz_succ, gT_tup, gT_ktp, gC_ap, gE_nil, cast_0, cast_1, cast_2, cast_3, cast_4, cast_5, cast_6, cast_7, cast_8, cast_9, ty_bs, ty_is, frz_zeroV, oOfR_o, ap_lenO, ap_ixO, tOf_some, pOf_fn, ap_P, ap_iZT, itZT_ok, zipD_cons, zipD_nil, str_i, sq_set, oOfS_o, set_ints, width_ok K, eq_false (show ¬ (c : Int) < W by omega)]
      rw [whGo_succ t, if_neg Bool.false_ne_true]
      rfl
    | n + 1, h, h1 =>
      by_cases hb : x / 2 ^ c % 2 = 0
      · have t : (tAn (tE (eB dLt (eV 2) (eF m_width (eCons (eV 0) eNil)))) (tE (eB dEq (eB dAnd (eB dShr (eV 1) (eV 2)) (eC (.int 1))) (eC (.int 0))))) [.val (.str k), .val (.int x), .val (.int c)] = .ok true := by
          simp only [bind_ok, bind_exc, bind_bad, ofE_ok, ofE_exc, vOf_v, ap_C, ap_V, ap_nil, ap_cons, ap_U, ap_B, ap_chain, ap_and, ap_or, ap_tup, ap_F, ap_M, ap_sl, ap_pN, ap_pS, ap_L, ap_tE, ap_tAn, ap_tO, ap_tN, ap_tY, ap_if, ap_lD, ap_lF, ap_lCat, catL_ok, ap_lRep, repL_ok, ap_lSl, slL_lst, slL_scr, ap_iD, itL_lst, itL_scr, ap_iT, itT_tup, itT_ktp, ap_iS, itS_str, ap_iR1, itR1_ok, add_i, add_s, add_l, addX_i, addX_s, sub_i, mul_i, div_i, mod_i, pow_i, shl_i, shr_i, and_i, or_i, xor_i, neg_i, not_b, lt_i, le_i, gt_i, ge_i, eq_i, eq_s, ne_i, ne_s, is_non, is_int, is_str, is_tup, is_lst, isnt_non, isnt_int, isnt_str, isnt_tup, toBl_b, toIn_i, ix_s, ix_l, ix_r, ix_t, ix_k, sl_s, sl_l, sl_r, sl_t, len_s, len_l, len_r, len_t, len_k, int_i, int_b, abs_i, min_i, max_i, tup_l, tup_t, list_l, list_r, list_t, isi_i, isi_b, isi_s, isi_l, isi_t, isi_n, ty_ii, ty_bi, ty_ss, ty_ll, ty_tt, ty_tl, ty_lt, ty_tn, find_s, lower_s, sq_nx, sq_sq, sq_a, sq_o, sq_x, sq_if, sq_ret, sq_retL, oOf_o, sq_retO, sq_app, lstK_l, sq_ext, sq_aug, sq_g, sq_frz, sq_br, sq_ct, sq_raise, ofG_some, nx_ap, thenS_nx, thenS_rt, thenS_exc, sq_for, sq_wh, endV_v, endV_o, endV_n, endV_x, endL_o, endL_x, gN_ap, List.getElem?_cons_zero, List.getElem?_cons_succ, List.set_cons_zero, List.set_cons_succ, List.length_cons, List.length_nil, decide_eq_true_eq, Bool.not_eq_true, reduceIte, Bool.false_eq_true, decide_true, decide_false, Nat.reduceAdd, Nat.reduceLeDiff, Nat.reduceLT, Bool.not_true, Bool.not_false, List.nil_append, List.cons_append, List.map_cons, List.map_nil, List.replicate_succ, List.replicate_zero, Bool.not_eq_eq_eq_not, decide_eq_false_iff_not, and_self, and_true, true_and, and_false, false_and, or_true, true_or, or_false, false_or, or_self, Int.reduceLE, Int.reduceLT, Int.reduceNeg, Int.reduceAdd, Int.reduceSub, Int.reduceMul, Int.reduceDiv, Int.reduceMod, Int.reduceEq, Int.reduceToNat, Nat.reduceEqDiff, frz_zero, frz_succ, gT_tup, gT_ktp, gC_ap, gE_nil, cast_0, cast_1, cast_2, cast_3, cast_4, cast_5, cast_6, cast_7, cast_8, cast_9, ty_bs, ty_is, frz_zeroV, oOfR_o, ap_lenO, ap_ixO, tOf_some, pOf_fn, ap_P, ap_iZT, itZT_ok, zipD_cons, zipD_nil, str_i, sq_set, oOfS_o, set_ints, width_ok K, eq_true (show (c : Int) < W by omega), show (0 : Int) ≤ (c : Int) by omega, Int.toNat_natCast, a1, hb]
        rw [whGo_succ t, if_pos rfl]
        have e2 : b_ctz_1 [.val (.str k), .val (.int x), .val (.int c)] = .nx [.val (.str k), .val (.int x), .val (.int ((c + 1 : Nat) : Int))] := by
          unfold b_ctz_1
          simp only [bind_ok, bind_exc, bind_bad, ofE_ok, ofE_exc, vOf_v, ap_C, ap_V, ap_nil, ap_cons, ap_U, ap_B, ap_chain, ap_and, ap_or, ap_tup, ap_F, ap_M, ap_sl, ap_pN, ap_pS, ap_L, ap_tE, ap_tAn, ap_tO, ap_tN, ap_tY, ap_if, ap_lD, ap_lF, ap_lCat, catL_ok, ap_lRep, repL_ok, ap_lSl, slL_lst, slL_scr, ap_iD, itL_lst, itL_scr, ap_iT, itT_tup, itT_ktp, ap_iS, itS_str, ap_iR1, itR1_ok, add_i, add_s, add_l, addX_i, addX_s, sub_i, mul_i, div_i, mod_i, pow_i, shl_i, shr_i, and_i, or_i, xor_i, neg_i, not_b, lt_i, le_i, gt_i, ge_i, eq_i, eq_s, ne_i, ne_s, is_non, is_int, is_str, is_tup, is_lst, isnt_non, isnt_int, isnt_str, isnt_tup, toBl_b, toIn_i, ix_s, ix_l, ix_r, ix_t, ix_k, sl_s, sl_l, sl_r, sl_t, len_s, len_l, len_r, len_t, len_k, int_i, int_b, abs_i, min_i, max_i, tup_l, tup_t, list_l, list_r, list_t, isi_i, isi_b, isi_s, isi_l, isi_t, isi_n, ty_ii, ty_bi, ty_ss, ty_ll, ty_tt, ty_tl, ty_lt, ty_tn, find_s, lower_s, sq_nx, sq_sq, sq_a, sq_o, sq_x, sq_if, sq_ret, sq_retL, oOf_o, sq_retO, sq_app, lstK_l, sq_ext, sq_aug, sq_g, sq_frz, sq_br, sq_ct, sq_raise, ofG_some, nx_ap, thenS_nx, thenS_rt, thenS_exc, sq_for, sq_wh, endV_v, endV_o, endV_n, endV_x, endL_o, endL_x, gN_ap, List.getElem?_cons_zero, List.getElem?_cons_succ, List.set_cons_zero, List.set_cons_succ, List.length_cons, List.length_nil, decide_eq_true_eq, Bool.not_eq_true, reduceIte, Bool.false_eq_true, decide_true, decide_false, Nat.reduceAdd, Nat.reduceLeDiff, Nat.reduceLT, Bool.not_true, Bool.not_false, List.nil_append, List.cons_append, List.map_cons, List.map_nil, List.replicate_succ, List.replicate_zero, Bool.not_eq_eq_eq_not, decide_eq_false_iff_not, and_self, and_true, true_and, and_false, false_and, or_true, true_or, or_false, false_or, or_self, Int.reduceLE, Int.reduceLT, Int.reduceNeg, Int.reduceAdd, Int.reduceSub, Int.reduceMul, Int.reduceDiv, Int.reduceMod, Int.reduceEq, Int.reduceToNat, Nat.reduceEqDiff, frz_zero, frz_succ, gT_tup, gT_ktp, gC_ap, gE_nil, cast_0, cast_1, cast_2, cast_3, cast_4, cast_5, cast_6, cast_7, cast_8, cast_9, ty_bs, ty_is, frz_zeroV, oOfR_o, ap_lenO, ap_ixO, tOf_some, pOf_fn, ap_P, ap_iZT, itZT_ok, zipD_cons, zipD_nil, str_i, sq_set, oOfS_o, set_ints]
          rfl
        rw [e2]
        dsimp only
        rw [ctz_loop K x n m (c + 1) (by omega) (by omega), tz_succ, if_pos hb]
      · have t : (tAn (tE (eB dLt (eV 2) (eF m_width (eCons (eV 0) eNil)))) (tE (eB dEq (eB dAnd (eB dShr (eV 1) (eV 2)) (eC (.int 1))) (eC (.int 0))))) [.val (.str k), .val (.int x), .val (.int c)] = .ok false := by
          simp only [bind_ok, bind_exc, bind_bad, ofE_ok, ofE_exc, vOf_v, ap_C, ap_V, ap_nil, ap_cons, ap_U, ap_B, ap_chain, ap_and, ap_or, ap_tup, ap_F, ap_M, ap_sl, ap_pN, ap_pS, ap_L, ap_tE, ap_tAn, ap_tO, ap_tN, ap_tY, ap_if, ap_lD, ap_lF, ap_lCat, catL_ok, ap_lRep, repL_ok, ap_lSl, slL_lst, slL_scr, ap_iD, itL_lst, itL_scr, ap_iT, itT_tup, itT_ktp, ap_iS, itS_str, ap_iR1, itR1_ok, add_i, add_s, add_l, addX_i, addX_s, sub_i, mul_i, div_i, mod_i, pow_i, shl_i, shr_i, and_i, or_i, xor_i, neg_i, not_b, lt_i, le_i, gt_i, ge_i, eq_i, eq_s, ne_i, ne_s, is_non, is_int, is_str, is_tup, is_lst, isnt_non, isnt_int, isnt_str, isnt_tup, toBl_b, toIn_i, ix_s, ix_l, ix_r, ix_t, ix_k, sl_s, sl_l, sl_r, sl_t, len_s, len_l, len_r, len_t, len_k, int_i, int_b, abs_i, min_i, max_i, tup_l, tup_t, list_l, list_r, list_t, isi_i, isi_b, isi_s, isi_l, isi_t, isi_n, ty_ii, ty_bi, ty_ss, ty_ll, ty_tt, ty_tl, ty_lt, ty_tn, find_s, lower_s, sq_nx, sq_sq, sq_a, sq_o, sq_x, sq_if, sq_ret, sq_retL, oOf_o, sq_retO, sq_app, lstK_l, sq_ext, sq_aug, sq_g, sq_frz, sq_br, sq_ct, sq_raise, ofG_some, nx_ap, thenS_nx, thenS_rt, thenS_exc, sq_for, sq_wh, endV_v, endV_o, endV_n, endV_x, endL_o, endL_x, gN_ap, List.getElem?_cons_zero, List.getElem?_cons_succ, List.set_cons_zero, List.set_cons_succ, List.length_cons, List.length_nil, decide_eq_true_eq, Bool.not_eq_true, reduceIte, Bool.false_eq_true, decide_true, decide_false, Nat.reduceAdd, Nat.reduceLeDiff, Nat.reduceLT, Bool.not_true, Bool.not_false, List.nil_append, List.cons_append, List.map_cons, List.map_nil, List.replicate_succ, List.replicate_zero, Bool.not_eq_eq_eq_not, decide_eq_false_iff_not, and_self, and_true, true_and, and_false, false_and, or_true, true_or, or_false, false_or, or_self, Int.reduceLE, Int.reduceLT, Int.reduceNeg, Int.reduceAdd, Int.reduceSub, Int.reduceMul, Int.reduceDiv, Int.reduceMod, Int.reduceEq, Int.reduceToNat, Nat.reduceEqDiff, frz_zero, frz_succ, gT_tup, gT_ktp, gC_ap, gE_nil, cast_0, cast_1, cast_2, cast_3, cast_4, cast_5, cast_6, cast_7, cast_8, cast_9, ty_bs, ty_is, frz_zeroV, oOfR_o, ap_lenO, ap_ixO, tOf_some, pOf_fn, ap_P, ap_iZT, itZT_ok, zipD_cons, zipD_nil, str_i, sq_set, oOfS_o, set_ints, width_ok K, eq_true (show (c : Int) < W by omega), show (0 : Int) ≤ (c : Int) by omega, Int.toNat_natCast, a1, eq_false hb]
        rw [whGo_succ t, if_neg Bool.false_ne_true, tz_succ, if_neg hb]
theorem ctz_ok (K : KW k W w) (x : Int) : m_ctz [.str k, .int x] = .ok (.int (tz x w 0)) := by
  have q := ctz_loop K x w 100000 0 (by have := w_le K; omega) (by omega)
  rw [cast_0] at q
  rw [e_ctz]; unfold b_ctz; simp only [bind_ok, bind_exc, bind_bad, ofE_ok, ofE_exc, vOf_v, ap_C, ap_V, ap_nil, ap_cons, ap_U, ap_B, ap_chain, ap_and, ap_or, ap_tup, ap_F, ap_M, ap_sl, ap_pN, ap_pS, ap_L, ap_tE, ap_tAn, ap_tO, ap_tN, ap_tY, ap_if, ap_lD, ap_lF, ap_lCat, catL_ok, ap_lRep, repL_ok, ap_lSl, slL_lst, slL_scr, ap_iD, itL_lst, itL_scr, ap_iT, itT_tup, itT_ktp, ap_iS, itS_str, ap_iR1, itR1_ok, add_i, add_s, add_l, addX_i, addX_s, sub_i, mul_i, div_i, mod_i, pow_i, shl_i, shr_i, and_i, or_i, xor_i, neg_i, not_b, lt_i, le_i, gt_i, ge_i, eq_i, eq_s, ne_i, ne_s, is_non, is_int, is_str, is_tup, is_lst, isnt_non, isnt_int, isnt_str, isnt_tup, toBl_b, toIn_i, ix_s, ix_l, ix_r, ix_t, ix_k, sl_s, sl_l, sl_r, sl_t, len_s, len_l, len_r, len_t, len_k, int_i, int_b, abs_i, min_i, max_i, tup_l, tup_t, list_l, list_r, list_t, isi_i, isi_b, isi_s, isi_l, isi_t, isi_n, ty_ii, ty_bi, ty_ss, ty_ll, ty_tt, ty_tl, ty_lt, ty_tn, find_s, lower_s, sq_nx, sq_sq, sq_a, sq_o, sq_x, sq_if, sq_ret, sq_retL, oOf_o, sq_retO, sq_app, lstK_l, sq_ext, sq_aug, sq_g, sq_frz, sq_br, sq_ct, sq_raise, ofG_some, nx_ap, thenS_nx, thenS_rt, thenS_exc, sq_for, sq_wh, endV_v, endV_o, endV_n, endV_x, endL_o, endL_x, gN_ap, List.getElem?_cons_zero, List.getElem?_cons_succ, List.set_cons_zero, List.set_cons_succ, List.length_cons, List.length_nil, decide_eq_true_eq, Bool.not_eq_true, reduceIte, Bool.false_eq_true, decide_true, decide_false, Nat.reduceAdd, Nat.reduceLeDiff, Nat.reduceLT, Bool.not_true, Bool.not_false, List.nil_append, List.cons_append, List.map_cons, List.map_nil, List.replicate_succ, List.replicate_zero, Bool.not_eq_eq_eq_not, decide_eq_false_iff_not, and_self, and_true, true_and, and_false, false_and, or_true, true_or, or_false, false_or, or_self, Int.reduceLE, Int.reduceLT, Int.reduceNeg, Int.reduceAdd, Int.reduceSub, Int.reduceMul, Int.reduceDiv, Int.reduceMod, Int.reduceEq, Int.reduceToNat, Nat.reduceEqDiff, frz_zero, frz_succ, gT_tup, gT_ktp, gC_ap, gE_nil, cast_0, cast_1, cast_2, cast_3, cast_4, cast_5, cast_6, cast_7, cast_8, cast_9, ty_bs, ty_is, frz_zeroV, oOfR_o, ap_lenO, ap_ixO, tOf_some, pOf_fn, ap_P, ap_iZT, itZT_ok, zipD_cons, zipD_nil, str_i, sq_set, oOfS_o, set_ints, q]
theorem popcnt_ok (K : KW k W w) (x : Int) : m_popcnt [.str k, .int x] = .ok (.int (pc x w)) := by
  have e := w_eq K
  have hw := w_le K
  have q : lLc (iR1 (eCons (eF m_width (eCons (eV 0) eNil)) eNil)) (gN 2) tY (eB dAnd (eB dShr (eV 1) (eV 2)) (eC (.int 1))) [2] [.val (.str k), .val (.int x), .un] = .ok (((List.range w).map fun (i : Nat) => D.int i).map fun d => match d with
      | .int j => .int (Builtin.bitAnd (x / 2 ^ j.toNat) 1)
      | _ => .non) := by
    refine lc_map _ ?_ ?_ ?_
    · simp only [bind_ok, bind_exc, bind_bad, ofE_ok, ofE_exc, vOf_v, ap_C, ap_V, ap_nil, ap_cons, ap_U, ap_B, ap_chain, ap_and, ap_or, ap_tup, ap_F, ap_M, ap_sl, ap_pN, ap_pS, ap_L, ap_tE, ap_tAn, ap_tO, ap_tN, ap_tY, ap_if, ap_lD, ap_lF, ap_lCat, catL_ok, ap_lRep, repL_ok, ap_lSl, slL_lst, slL_scr, ap_iD, itL_lst, itL_scr, ap_iT, itT_tup, itT_ktp, ap_iS, itS_str, ap_iR1, itR1_ok, add_i, add_s, add_l, addX_i, addX_s, sub_i, mul_i, div_i, mod_i, pow_i, shl_i, shr_i, and_i, or_i, xor_i, neg_i, not_b, lt_i, le_i, gt_i, ge_i, eq_i, eq_s, ne_i, ne_s, is_non, is_int, is_str, is_tup, is_lst, isnt_non, isnt_int, isnt_str, isnt_tup, toBl_b, toIn_i, ix_s, ix_l, ix_r, ix_t, ix_k, sl_s, sl_l, sl_r, sl_t, len_s, len_l, len_r, len_t, len_k, int_i, int_b, abs_i, min_i, max_i, tup_l, tup_t, list_l, list_r, list_t, isi_i, isi_b, isi_s, isi_l, isi_t, isi_n, ty_ii, ty_bi, ty_ss, ty_ll, ty_tt, ty_tl, ty_lt, ty_tn, find_s, lower_s, sq_nx, sq_sq, sq_a, sq_o, sq_x, sq_if, sq_ret, sq_retL, oOf_o, sq_retO, sq_app, lstK_l, sq_ext, sq_aug, sq_g, sq_frz, sq_br, sq_ct, sq_raise, ofG_some, nx_ap, thenS_nx, thenS_rt, thenS_exc, sq_for, sq_wh, endV_v, endV_o, endV_n, endV_x, endL_o, endL_x, gN_ap, List.getElem?_cons_zero, List.getElem?_cons_succ, List.set_cons_zero, List.set_cons_succ, List.length_cons, List.length_nil, decide_eq_true_eq, Bool.not_eq_true, reduceIte, Bool.false_eq_true, decide_true, decide_false, Nat.reduceAdd, Nat.reduceLeDiff, Nat.reduceLT, Bool.not_true, Bool.not_false, List.nil_append, List.cons_append, List.map_cons, List.map_nil, List.replicate_succ, List.replicate_zero, Bool.not_eq_eq_eq_not, decide_eq_false_iff_not, and_self, and_true, true_and, and_false, false_and, or_true, true_or, or_false, false_or, or_self, Int.reduceLE, Int.reduceLT, Int.reduceNeg, Int.reduceAdd, Int.reduceSub, Int.reduceMul, Int.reduceDiv, Int.reduceMod, Int.reduceEq, Int.reduceToNat, Nat.reduceEqDiff, frz_zero, frz_succ, gT_tup, gT_ktp, gC_ap, gE_nil, cast_0, cast_1, cast_2, cast_3, cast_4, cast_5, cast_6, cast_7, cast_8, cast_9, ty_bs, ty_is, frz_zeroV, oOfR_o, ap_lenO, ap_ixO, tOf_some, pOf_fn, ap_P, ap_iZT, itZT_ok, zipD_cons, zipD_nil, str_i, sq_set, oOfS_o, set_ints, width_ok K, show W ≤ 100000 by omega, show (-100000 : Int) ≤ W by omega, show W.toNat = w by omega]
    · rw [List.length_map, List.length_range]; omega
    · intro d hd
      obtain ⟨j, hj, rfl⟩ := mem_range hd
      refine ⟨_, gN_ap, ?_⟩
      have e2 : (wipeS [.val (.str k), .val (.int x), .un] [2]).set 2 (.val (.int (j : Int))) = [.val (.str k), .val (.int x), .val (.int (j : Int))] := rfl
      rw [e2]
      simp only [bind_ok, bind_exc, bind_bad, ofE_ok, ofE_exc, vOf_v, ap_C, ap_V, ap_nil, ap_cons, ap_U, ap_B, ap_chain, ap_and, ap_or, ap_tup, ap_F, ap_M, ap_sl, ap_pN, ap_pS, ap_L, ap_tE, ap_tAn, ap_tO, ap_tN, ap_tY, ap_if, ap_lD, ap_lF, ap_lCat, catL_ok, ap_lRep, repL_ok, ap_lSl, slL_lst, slL_scr, ap_iD, itL_lst, itL_scr, ap_iT, itT_tup, itT_ktp, ap_iS, itS_str, ap_iR1, itR1_ok, add_i, add_s, add_l, addX_i, addX_s, sub_i, mul_i, div_i, mod_i, pow_i, shl_i, shr_i, and_i, or_i, xor_i, neg_i, not_b, lt_i, le_i, gt_i, ge_i, eq_i, eq_s, ne_i, ne_s, is_non, is_int, is_str, is_tup, is_lst, isnt_non, isnt_int, isnt_str, isnt_tup, toBl_b, toIn_i, ix_s, ix_l, ix_r, ix_t, ix_k, sl_s, sl_l, sl_r, sl_t, len_s, len_l, len_r, len_t, len_k, int_i, int_b, abs_i, min_i, max_i, tup_l, tup_t, list_l, list_r, list_t, isi_i, isi_b, isi_s, isi_l, isi_t, isi_n, ty_ii, ty_bi, ty_ss, ty_ll, ty_tt, ty_tl, ty_lt, ty_tn, find_s, lower_s, sq_nx, sq_sq, sq_a, sq_o, sq_x, sq_if, sq_ret, sq_retL, oOf_o, sq_retO, sq_app, lstK_l, sq_ext, sq_aug, sq_g, sq_frz, sq_br, sq_ct, sq_raise, ofG_some, nx_ap, thenS_nx, thenS_rt, thenS_exc, sq_for, sq_wh, endV_v, endV_o, endV_n, endV_x, endL_o, endL_x, gN_ap, List.getElem?_cons_zero, List.getElem?_cons_succ, List.set_cons_zero, List.set_cons_succ, List.length_cons, List.length_nil, decide_eq_true_eq, Bool.not_eq_true, reduceIte, Bool.false_eq_true, decide_true, decide_false, Nat.reduceAdd, Nat.reduceLeDiff, Nat.reduceLT, Bool.not_true, Bool.not_false, List.nil_append, List.cons_append, List.map_cons, List.map_nil, List.replicate_succ, List.replicate_zero, Bool.not_eq_eq_eq_not, decide_eq_false_iff_not, and_self, and_true, true_and, and_false, false_and, or_true, true_or, or_false, false_or, or_self, Int.reduceLE, Int.reduceLT, Int.reduceNeg, Int.reduceAdd, Int.reduceSub, Int.reduceMul, Int.reduceDiv, Int.reduceMod, Int.reduceEq, Int.reduceToNat, Nat.reduceEqDiff, frz_zero, frz_succ, gT_tup, gT_ktp, gC_ap, gE_nil, cast_0, cast_1, cast_2, cast_3, cast_4, cast_5, cast_6, cast_7, cast_8, cast_9, ty_bs, ty_is, frz_zeroV, oOfR_o, ap_lenO, ap_ixO, tOf_some, pOf_fn, ap_P, ap_iZT, itZT_ok, zipD_cons, zipD_nil, str_i, sq_set, oOfS_o, set_ints, show (0 : Int) ≤ (j : Int) by omega, Int.toNat_natCast]
  have e3 : (((List.range w).map fun (i : Nat) => D.int i).map fun d => match d with
      | .int j => D.int (Builtin.bitAnd (x / 2 ^ j.toNat) 1)
      | _ => .non) = dI ((List.range w).map fun j => x / 2 ^ j % 2) := by
    rw [List.map_map, dI, List.map_map]
    refine List.map_congr_left fun j hj => ?_
    show D.int (Builtin.bitAnd (x / 2 ^ (j : Int).toNat) 1) = D.int (x / 2 ^ j % 2)
    rw [Int.toNat_natCast, PyProof.Rows.bitAnd_m1]
  rw [e3] at q
  have fs : fSum [.lst (dI ((List.range w).map fun j => x / 2 ^ j % 2))] = .ok (.int (pc x w)) := by
    unfold fSum
    dsimp only
    rw [intsOf_dI]
    rfl
  rw [e_popcnt]; unfold b_popcnt; simp only [bind_ok, bind_exc, bind_bad, ofE_ok, ofE_exc, vOf_v, ap_C, ap_V, ap_nil, ap_cons, ap_U, ap_B, ap_chain, ap_and, ap_or, ap_tup, ap_F, ap_M, ap_sl, ap_pN, ap_pS, ap_L, ap_tE, ap_tAn, ap_tO, ap_tN, ap_tY, ap_if, ap_lD, ap_lF, ap_lCat, catL_ok, ap_lRep, repL_ok, ap_lSl, slL_lst, slL_scr, ap_iD, itL_lst, itL_scr, ap_iT, itT_tup, itT_ktp, ap_iS, itS_str, ap_iR1, itR1_ok, add_i, add_s, add_l, addX_i, addX_s, sub_i, mul_i, div_i, mod_i, pow_i, shl_i, shr_i, and_i, or_i, xor_i, neg_i, not_b, lt_i, le_i, gt_i, ge_i, eq_i, eq_s, ne_i, ne_s, is_non, is_int, is_str, is_tup, is_lst, isnt_non, isnt_int, isnt_str, isnt_tup, toBl_b, toIn_i, ix_s, ix_l, ix_r, ix_t, ix_k, sl_s, sl_l, sl_r, sl_t, len_s, len_l, len_r, len_t, len_k, int_i, int_b, abs_i, min_i, max_i, tup_l, tup_t, list_l, list_r, list_t, isi_i, isi_b, isi_s, isi_l, isi_t, isi_n, ty_ii, ty_bi, ty_ss, ty_ll, ty_tt, ty_tl, ty_lt, ty_tn, find_s, lower_s, sq_nx, sq_sq, sq_a, sq_o, sq_x, sq_if, sq_ret, sq_retL, oOf_o, sq_retO, sq_app, lstK_l, sq_ext, sq_aug, sq_g, sq_frz, sq_br, sq_ct, sq_raise, ofG_some, nx_ap, thenS_nx, thenS_rt, thenS_exc, sq_for, sq_wh, endV_v, endV_o, endV_n, endV_x, endL_o, endL_x, gN_ap, List.getElem?_cons_zero, List.getElem?_cons_succ, List.set_cons_zero, List.set_cons_succ, List.length_cons, List.length_nil, decide_eq_true_eq, Bool.not_eq_true, reduceIte, Bool.false_eq_true, decide_true, decide_false, Nat.reduceAdd, Nat.reduceLeDiff, Nat.reduceLT, Bool.not_true, Bool.not_false, List.nil_append, List.cons_append, List.map_cons, List.map_nil, List.replicate_succ, List.replicate_zero, Bool.not_eq_eq_eq_not, decide_eq_false_iff_not, and_self, and_true, true_and, and_false, false_and, or_true, true_or, or_false, false_or, or_self, Int.reduceLE, Int.reduceLT, Int.reduceNeg, Int.reduceAdd, Int.reduceSub, Int.reduceMul, Int.reduceDiv, Int.reduceMod, Int.reduceEq, Int.reduceToNat, Nat.reduceEqDiff, frz_zero, frz_succ, gT_tup, gT_ktp, gC_ap, gE_nil, cast_0, cast_1, cast_2, cast_3, cast_4, cast_5, cast_6, cast_7, cast_8, cast_9, ty_bs, ty_is, frz_zeroV, oOfR_o, ap_lenO, ap_ixO, tOf_some, pOf_fn, ap_P, ap_iZT, itZT_ok, zipD_cons, zipD_nil, str_i, sq_set, oOfS_o, set_ints, q, fs]
theorem quot_ok (K : KW k W w) {x y : Int} (hy : inR w y) (h0 : y ≠ 0) : m_quotient [.int x, .int y] = .ok (.int (quo x y)) := by
  have hd : CDivW (if x < 0 then -x else x) (if y < 0 then -y else y) := ⟨by split <;> omega, by
    have h := abs_in K hy
    have e : (if y < 0 then -y else y).natAbs = y.natAbs := by split <;> omega
    rw [e]
    have : y.natAbs.log2 < 64 := by
      rw [Nat.log2_lt (by omega)]
      exact h
    omega⟩
  rw [e_quotient]
  unfold b_quotient quo
  have e : ∀ a b : Bool, dEq (.bl a) (.bl b) = .ok (.bl (a == b)) := fun a b => by cases a <;> cases b <;> rfl
  cases h : (decide (x < 0) == decide (y < 0)) with
  | true => simp only [bind_ok, bind_exc, bind_bad, ofE_ok, ofE_exc, vOf_v, ap_C, ap_V, ap_nil, ap_cons, ap_U, ap_B, ap_chain, ap_and, ap_or, ap_tup, ap_F, ap_M, ap_sl, ap_pN, ap_pS, ap_L, ap_tE, ap_tAn, ap_tO, ap_tN, ap_tY, ap_if, ap_lD, ap_lF, ap_lCat, catL_ok, ap_lRep, repL_ok, ap_lSl, slL_lst, slL_scr, ap_iD, itL_lst, itL_scr, ap_iT, itT_tup, itT_ktp, ap_iS, itS_str, ap_iR1, itR1_ok, add_i, add_s, add_l, addX_i, addX_s, sub_i, mul_i, div_i, mod_i, pow_i, shl_i, shr_i, and_i, or_i, xor_i, neg_i, not_b, lt_i, le_i, gt_i, ge_i, eq_i, eq_s, ne_i, ne_s, is_non, is_int, is_str, is_tup, is_lst, isnt_non, isnt_int, isnt_str, isnt_tup, toBl_b, toIn_i, ix_s, ix_l, ix_r, ix_t, ix_k, sl_s, sl_l, sl_r, sl_t, len_s, len_l, len_r, len_t, len_k, int_i, int_b, abs_i, min_i, max_i, tup_l, tup_t, list_l, list_r, list_t, isi_i, isi_b, isi_s, isi_l, isi_t, isi_n, ty_ii, ty_bi, ty_ss, ty_ll, ty_tt, ty_tl, ty_lt, ty_tn, find_s, lower_s, sq_nx, sq_sq, sq_a, sq_o, sq_x, sq_if, sq_ret, sq_retL, oOf_o, sq_retO, sq_app, lstK_l, sq_ext, sq_aug, sq_g, sq_frz, sq_br, sq_ct, sq_raise, ofG_some, nx_ap, thenS_nx, thenS_rt, thenS_exc, sq_for, sq_wh, endV_v, endV_o, endV_n, endV_x, endL_o, endL_x, gN_ap, List.getElem?_cons_zero, List.getElem?_cons_succ, List.set_cons_zero, List.set_cons_succ, List.length_cons, List.length_nil, decide_eq_true_eq, Bool.not_eq_true, reduceIte, Bool.false_eq_true, decide_true, decide_false, Nat.reduceAdd, Nat.reduceLeDiff, Nat.reduceLT, Bool.not_true, Bool.not_false, List.nil_append, List.cons_append, List.map_cons, List.map_nil, List.replicate_succ, List.replicate_zero, Bool.not_eq_eq_eq_not, decide_eq_false_iff_not, and_self, and_true, true_and, and_false, false_and, or_true, true_or, or_false, false_or, or_self, Int.reduceLE, Int.reduceLT, Int.reduceNeg, Int.reduceAdd, Int.reduceSub, Int.reduceMul, Int.reduceDiv, Int.reduceMod, Int.reduceEq, Int.reduceToNat, Nat.reduceEqDiff, frz_zero, frz_succ, gT_tup, gT_ktp, gC_ap, gE_nil, cast_0, cast_1, cast_2, cast_3, cast_4, cast_5, cast_6, cast_7, cast_8, cast_9, ty_bs, ty_is, frz_zeroV, oOfR_o, ap_lenO, ap_ixO, tOf_some, pOf_fn, ap_P, ap_iZT, itZT_ok, zipD_cons, zipD_nil, str_i, sq_set, oOfS_o, set_ints, hd, e, h]
  | false => simp only [bind_ok, bind_exc, bind_bad, ofE_ok, ofE_exc, vOf_v, ap_C, ap_V, ap_nil, ap_cons, ap_U, ap_B, ap_chain, ap_and, ap_or, ap_tup, ap_F, ap_M, ap_sl, ap_pN, ap_pS, ap_L, ap_tE, ap_tAn, ap_tO, ap_tN, ap_tY, ap_if, ap_lD, ap_lF, ap_lCat, catL_ok, ap_lRep, repL_ok, ap_lSl, slL_lst, slL_scr, ap_iD, itL_lst, itL_scr, ap_iT, itT_tup, itT_ktp, ap_iS, itS_str, ap_iR1, itR1_ok, add_i, add_s, add_l, addX_i, addX_s, sub_i, mul_i, div_i, mod_i, pow_i, shl_i, shr_i, and_i, or_i, xor_i, neg_i, not_b, lt_i, le_i, gt_i, ge_i, eq_i, eq_s, ne_i, ne_s, is_non, is_int, is_str, is_tup, is_lst, isnt_non, isnt_int, isnt_str, isnt_tup, toBl_b, toIn_i, ix_s, ix_l, ix_r, ix_t, ix_k, sl_s, sl_l, sl_r, sl_t, len_s, len_l, len_r, len_t, len_k, int_i, int_b, abs_i, min_i, max_i, tup_l, tup_t, list_l, list_r, list_t, isi_i, isi_b, isi_s, isi_l, isi_t, isi_n, ty_ii, ty_bi, ty_ss, ty_ll, ty_tt, ty_tl, ty_lt, ty_tn, find_s, lower_s, sq_nx, sq_sq, sq_a, sq_o, sq_x, sq_if, sq_ret, sq_retL, oOf_o, sq_retO, sq_app, lstK_l, sq_ext, sq_aug, sq_g, sq_frz, sq_br, sq_ct, sq_raise, ofG_some, nx_ap, thenS_nx, thenS_rt, thenS_exc, sq_for, sq_wh, endV_v, endV_o, endV_n, endV_x, endL_o, endL_x, gN_ap, List.getElem?_cons_zero, List.getElem?_cons_succ, List.set_cons_zero, List.set_cons_succ, List.length_cons, List.length_nil, decide_eq_true_eq, Bool.not_eq_true, reduceIte, Bool.false_eq_true, decide_true, decide_false, Nat.reduceAdd, Nat.reduceLeDiff, Nat.reduceLT, Bool.not_true, Bool.not_false, List.nil_append, List.cons_append, List.map_cons, List.map_nil, List.replicate_succ, List.replicate_zero, Bool.not_eq_eq_eq_not, decide_eq_false_iff_not, and_self, and_true, true_and, and_false, false_and, or_true, true_or, or_false, false_or, or_self, Int.reduceLE, Int.reduceLT, Int.reduceNeg, Int.reduceAdd, Int.reduceSub, Int.reduceMul, Int.reduceDiv, Int.reduceMod, Int.reduceEq, Int.reduceToNat, Nat.reduceEqDiff, frz_zero, frz_succ, gT_tup, gT_ktp, gC_ap, gE_nil, cast_0, cast_1, cast_2, cast_3, cast_4, cast_5, cast_6, cast_7, cast_8, cast_9, ty_bs, ty_is, frz_zeroV, oOfR_o, ap_lenO, ap_ixO, tOf_some, pOf_fn, ap_P, ap_iZT, itZT_ok, zipD_cons, zipD_nil, str_i, sq_set, oOfS_o, set_ints, hd, e, h]
theorem div_s_ok (K : KW k W w) {x y : Int} (hy : inR w y) (h0 : y ≠ 0) (hq : inR w (quo x y)) : m_div_s [.str k, .int x, .int y] = .ok (.int (quo x y)) := by
  rw [e_div_s]
  unfold b_div_s
  simp only [bind_ok, bind_exc, bind_bad, ofE_ok, ofE_exc, vOf_v, ap_C, ap_V, ap_nil, ap_cons, ap_U, ap_B, ap_chain, ap_and, ap_or, ap_tup, ap_F, ap_M, ap_sl, ap_pN, ap_pS, ap_L, ap_tE, ap_tAn, ap_tO, ap_tN, ap_tY, ap_if, ap_lD, ap_lF, ap_lCat, catL_ok, ap_lRep, repL_ok, ap_lSl, slL_lst, slL_scr, ap_iD, itL_lst, itL_scr, ap_iT, itT_tup, itT_ktp, ap_iS, itS_str, ap_iR1, itR1_ok, add_i, add_s, add_l, addX_i, addX_s, sub_i, mul_i, div_i, mod_i, pow_i, shl_i, shr_i, and_i, or_i, xor_i, neg_i, not_b, lt_i, le_i, gt_i, ge_i, eq_i, eq_s, ne_i, ne_s, is_non, is_int, is_str, is_tup, is_lst, isnt_non, isnt_int, isnt_str, isnt_tup, toBl_b, toIn_i, ix_s, ix_l, ix_r, ix_t, ix_k, sl_s, sl_l, sl_r, sl_t, len_s, len_l, len_r, len_t, len_k, int_i, int_b, abs_i, min_i, max_i, tup_l, tup_t, list_l, list_r, list_t, isi_i, isi_b, isi_s, isi_l, isi_t, isi_n, ty_ii, ty_bi, ty_ss, ty_ll, ty_tt, ty_tl, ty_lt, ty_tn, find_s, lower_s, sq_nx, sq_sq, sq_a, sq_o, sq_x, sq_if, sq_ret, sq_retL, oOf_o, sq_retO, sq_app, lstK_l, sq_ext, sq_aug, sq_g, sq_frz, sq_br, sq_ct, sq_raise, ofG_some, nx_ap, thenS_nx, thenS_rt, thenS_exc, sq_for, sq_wh, endV_v, endV_o, endV_n, endV_x, endL_o, endL_x, gN_ap, List.getElem?_cons_zero, List.getElem?_cons_succ, List.set_cons_zero, List.set_cons_succ, List.length_cons, List.length_nil, decide_eq_true_eq, Bool.not_eq_true, reduceIte, Bool.false_eq_true, decide_true, decide_false, Nat.reduceAdd, Nat.reduceLeDiff, Nat.reduceLT, Bool.not_true, Bool.not_false, List.nil_append, List.cons_append, List.map_cons, List.map_nil, List.replicate_succ, List.replicate_zero, Bool.not_eq_eq_eq_not, decide_eq_false_iff_not, and_self, and_true, true_and, and_false, false_and, or_true, true_or, or_false, false_or, or_self, Int.reduceLE, Int.reduceLT, Int.reduceNeg, Int.reduceAdd, Int.reduceSub, Int.reduceMul, Int.reduceDiv, Int.reduceMod, Int.reduceEq, Int.reduceToNat, Nat.reduceEqDiff, frz_zero, frz_succ, gT_tup, gT_ktp, gC_ap, gE_nil, cast_0, cast_1, cast_2, cast_3, cast_4, cast_5, cast_6, cast_7, cast_8, cast_9, ty_bs, ty_is, frz_zeroV, oOfR_o, ap_lenO, ap_ixO, tOf_some, pOf_fn, ap_P, ap_iZT, itZT_ok, zipD_cons, zipD_nil, str_i, sq_set, oOfS_o, set_ints, eq_false h0, quot_ok K hy h0, in_range_ok K, eq_true (sgn_id K hq)]
theorem rem_s_ok (K : KW k W w) {x y : Int} (hy : inR w y) (h0 : y ≠ 0) : m_rem_s [.str k, .int x, .int y] = .ok (.int (x - y * quo x y)) := by
  rw [e_rem_s]
  unfold b_rem_s
  simp only [bind_ok, bind_exc, bind_bad, ofE_ok, ofE_exc, vOf_v, ap_C, ap_V, ap_nil, ap_cons, ap_U, ap_B, ap_chain, ap_and, ap_or, ap_tup, ap_F, ap_M, ap_sl, ap_pN, ap_pS, ap_L, ap_tE, ap_tAn, ap_tO, ap_tN, ap_tY, ap_if, ap_lD, ap_lF, ap_lCat, catL_ok, ap_lRep, repL_ok, ap_lSl, slL_lst, slL_scr, ap_iD, itL_lst, itL_scr, ap_iT, itT_tup, itT_ktp, ap_iS, itS_str, ap_iR1, itR1_ok, add_i, add_s, add_l, addX_i, addX_s, sub_i, mul_i, div_i, mod_i, pow_i, shl_i, shr_i, and_i, or_i, xor_i, neg_i, not_b, lt_i, le_i, gt_i, ge_i, eq_i, eq_s, ne_i, ne_s, is_non, is_int, is_str, is_tup, is_lst, isnt_non, isnt_int, isnt_str, isnt_tup, toBl_b, toIn_i, ix_s, ix_l, ix_r, ix_t, ix_k, sl_s, sl_l, sl_r, sl_t, len_s, len_l, len_r, len_t, len_k, int_i, int_b, abs_i, min_i, max_i, tup_l, tup_t, list_l, list_r, list_t, isi_i, isi_b, isi_s, isi_l, isi_t, isi_n, ty_ii, ty_bi, ty_ss, ty_ll, ty_tt, ty_tl, ty_lt, ty_tn, find_s, lower_s, sq_nx, sq_sq, sq_a, sq_o, sq_x, sq_if, sq_ret, sq_retL, oOf_o, sq_retO, sq_app, lstK_l, sq_ext, sq_aug, sq_g, sq_frz, sq_br, sq_ct, sq_raise, ofG_some, nx_ap, thenS_nx, thenS_rt, thenS_exc, sq_for, sq_wh, endV_v, endV_o, endV_n, endV_x, endL_o, endL_x, gN_ap, List.getElem?_cons_zero, List.getElem?_cons_succ, List.set_cons_zero, List.set_cons_succ, List.length_cons, List.length_nil, decide_eq_true_eq, Bool.not_eq_true, reduceIte, Bool.false_eq_true, decide_true, decide_false, Nat.reduceAdd, Nat.reduceLeDiff, Nat.reduceLT, Bool.not_true, Bool.not_false, List.nil_append, List.cons_append, List.map_cons, List.map_nil, List.replicate_succ, List.replicate_zero, Bool.not_eq_eq_eq_not, decide_eq_false_iff_not, and_self, and_true, true_and, and_false, false_and, or_true, true_or, or_false, false_or, or_self, Int.reduceLE, Int.reduceLT, Int.reduceNeg, Int.reduceAdd, Int.reduceSub, Int.reduceMul, Int.reduceDiv, Int.reduceMod, Int.reduceEq, Int.reduceToNat, Nat.reduceEqDiff, frz_zero, frz_succ, gT_tup, gT_ktp, gC_ap, gE_nil, cast_0, cast_1, cast_2, cast_3, cast_4, cast_5, cast_6, cast_7, cast_8, cast_9, ty_bs, ty_is, frz_zeroV, oOfR_o, ap_lenO, ap_ixO, tOf_some, pOf_fn, ap_P, ap_iZT, itZT_ok, zipD_cons, zipD_nil, str_i, sq_set, oOfS_o, set_ints, eq_false h0, quot_ok K hy h0, cmul K hy]
theorem div_u_ok (K : KW k W w) {x y : Int} (hy : inR w y) (h0 : y ≠ 0) : m_div_u [.str k, .int x, .int y] = .ok (.int (sgn w (x % 2 ^ w / (y % 2 ^ w)))) := by
  rw [e_div_u]
  unfold b_div_u
  simp only [bind_ok, bind_exc, bind_bad, ofE_ok, ofE_exc, vOf_v, ap_C, ap_V, ap_nil, ap_cons, ap_U, ap_B, ap_chain, ap_and, ap_or, ap_tup, ap_F, ap_M, ap_sl, ap_pN, ap_pS, ap_L, ap_tE, ap_tAn, ap_tO, ap_tN, ap_tY, ap_if, ap_lD, ap_lF, ap_lCat, catL_ok, ap_lRep, repL_ok, ap_lSl, slL_lst, slL_scr, ap_iD, itL_lst, itL_scr, ap_iT, itT_tup, itT_ktp, ap_iS, itS_str, ap_iR1, itR1_ok, add_i, add_s, add_l, addX_i, addX_s, sub_i, mul_i, div_i, mod_i, pow_i, shl_i, shr_i, and_i, or_i, xor_i, neg_i, not_b, lt_i, le_i, gt_i, ge_i, eq_i, eq_s, ne_i, ne_s, is_non, is_int, is_str, is_tup, is_lst, isnt_non, isnt_int, isnt_str, isnt_tup, toBl_b, toIn_i, ix_s, ix_l, ix_r, ix_t, ix_k, sl_s, sl_l, sl_r, sl_t, len_s, len_l, len_r, len_t, len_k, int_i, int_b, abs_i, min_i, max_i, tup_l, tup_t, list_l, list_r, list_t, isi_i, isi_b, isi_s, isi_l, isi_t, isi_n, ty_ii, ty_bi, ty_ss, ty_ll, ty_tt, ty_tl, ty_lt, ty_tn, find_s, lower_s, sq_nx, sq_sq, sq_a, sq_o, sq_x, sq_if, sq_ret, sq_retL, oOf_o, sq_retO, sq_app, lstK_l, sq_ext, sq_aug, sq_g, sq_frz, sq_br, sq_ct, sq_raise, ofG_some, nx_ap, thenS_nx, thenS_rt, thenS_exc, sq_for, sq_wh, endV_v, endV_o, endV_n, endV_x, endL_o, endL_x, gN_ap, List.getElem?_cons_zero, List.getElem?_cons_succ, List.set_cons_zero, List.set_cons_succ, List.length_cons, List.length_nil, decide_eq_true_eq, Bool.not_eq_true, reduceIte, Bool.false_eq_true, decide_true, decide_false, Nat.reduceAdd, Nat.reduceLeDiff, Nat.reduceLT, Bool.not_true, Bool.not_false, List.nil_append, List.cons_append, List.map_cons, List.map_nil, List.replicate_succ, List.replicate_zero, Bool.not_eq_eq_eq_not, decide_eq_false_iff_not, and_self, and_true, true_and, and_false, false_and, or_true, true_or, or_false, false_or, or_self, Int.reduceLE, Int.reduceLT, Int.reduceNeg, Int.reduceAdd, Int.reduceSub, Int.reduceMul, Int.reduceDiv, Int.reduceMod, Int.reduceEq, Int.reduceToNat, Nat.reduceEqDiff, frz_zero, frz_succ, gT_tup, gT_ktp, gC_ap, gE_nil, cast_0, cast_1, cast_2, cast_3, cast_4, cast_5, cast_6, cast_7, cast_8, cast_9, ty_bs, ty_is, frz_zeroV, oOfR_o, ap_lenO, ap_ixO, tOf_some, pOf_fn, ap_P, ap_iZT, itZT_ok, zipD_cons, zipD_nil, str_i, sq_set, oOfS_o, set_ints, eq_false h0, unsigned_ok K, signed_ok K, u_pos (x := x % 2 ^ w) K hy h0]
theorem rem_u_ok (K : KW k W w) {x y : Int} (hy : inR w y) (h0 : y ≠ 0) : m_rem_u [.str k, .int x, .int y] = .ok (.int (sgn w (x % 2 ^ w - y % 2 ^ w * (x % 2 ^ w / (y % 2 ^ w))))) := by
  have hm : CMulW (y % 2 ^ w) (x % 2 ^ w / (y % 2 ^ w)) ∨ CMul (y % 2 ^ w) (x % 2 ^ w / (y % 2 ^ w)) := Or.inr (Or.inl (by have := abs_u K y; constructor <;> omega))
  rw [e_rem_u]
  unfold b_rem_u
  simp only [bind_ok, bind_exc, bind_bad, ofE_ok, ofE_exc, vOf_v, ap_C, ap_V, ap_nil, ap_cons, ap_U, ap_B, ap_chain, ap_and, ap_or, ap_tup, ap_F, ap_M, ap_sl, ap_pN, ap_pS, ap_L, ap_tE, ap_tAn, ap_tO, ap_tN, ap_tY, ap_if, ap_lD, ap_lF, ap_lCat, catL_ok, ap_lRep, repL_ok, ap_lSl, slL_lst, slL_scr, ap_iD, itL_lst, itL_scr, ap_iT, itT_tup, itT_ktp, ap_iS, itS_str, ap_iR1, itR1_ok, add_i, add_s, add_l, addX_i, addX_s, sub_i, mul_i, div_i, mod_i, pow_i, shl_i, shr_i, and_i, or_i, xor_i, neg_i, not_b, lt_i, le_i, gt_i, ge_i, eq_i, eq_s, ne_i, ne_s, is_non, is_int, is_str, is_tup, is_lst, isnt_non, isnt_int, isnt_str, isnt_tup, toBl_b, toIn_i, ix_s, ix_l, ix_r, ix_t, ix_k, sl_s, sl_l, sl_r, sl_t, len_s, len_l, len_r, len_t, len_k, int_i, int_b, abs_i, min_i, max_i, tup_l, tup_t, list_l, list_r, list_t, isi_i, isi_b, isi_s, isi_l, isi_t, isi_n, ty_ii, ty_bi, ty_ss, ty_ll, ty_tt, ty_tl, ty_lt, ty_tn, find_s, lower_s, sq_nx, sq_sq, sq_a, sq_o, sq_x, sq_if, sq_ret, sq_retL, oOf_o, sq_retO, sq_app, lstK_l, sq_ext, sq_aug, sq_g, sq_frz, sq_br, sq_ct, sq_raise, ofG_some, nx_ap, thenS_nx, thenS_rt, thenS_exc, sq_for, sq_wh, endV_v, endV_o, endV_n, endV_x, endL_o, endL_x, gN_ap, List.getElem?_cons_zero, List.getElem?_cons_succ, List.set_cons_zero, List.set_cons_succ, List.length_cons, List.length_nil, decide_eq_true_eq, Bool.not_eq_true, reduceIte, Bool.false_eq_true, decide_true, decide_false, Nat.reduceAdd, Nat.reduceLeDiff, Nat.reduceLT, Bool.not_true, Bool.not_false, List.nil_append, List.cons_append, List.map_cons, List.map_nil, List.replicate_succ, List.replicate_zero, Bool.not_eq_eq_eq_not, decide_eq_false_iff_not, and_self, and_true, true_and, and_false, false_and, or_true, true_or, or_false, false_or, or_self, Int.reduceLE, Int.reduceLT, Int.reduceNeg, Int.reduceAdd, Int.reduceSub, Int.reduceMul, Int.reduceDiv, Int.reduceMod, Int.reduceEq, Int.reduceToNat, Nat.reduceEqDiff, frz_zero, frz_succ, gT_tup, gT_ktp, gC_ap, gE_nil, cast_0, cast_1, cast_2, cast_3, cast_4, cast_5, cast_6, cast_7, cast_8, cast_9, ty_bs, ty_is, frz_zeroV, oOfR_o, ap_lenO, ap_ixO, tOf_some, pOf_fn, ap_P, ap_iZT, itZT_ok, zipD_cons, zipD_nil, str_i, sq_set, oOfS_o, set_ints, eq_false h0, unsigned_ok K, signed_ok K, u_pos (x := x % 2 ^ w) K hy h0, hm]
end
section
variable {k : Str} {W : Int} {w : Nat}
theorem l_signed_ok (K : KW k W w) (x : Int) : m_l_signed [.int x, .int W] = .ok (.int (sgn w x)) := by
  rw [e_l_signed]
  unfold b_l_signed
  cases K
  · unfold sgn
    by_cases c : (1 : Int) * 2 ^ 31 ≤ x % (1 * 2 ^ 32)
    · simp only [bind_ok, bind_exc, bind_bad, ofE_ok, ofE_exc, vOf_v, ap_C, ap_V, ap_nil, ap_cons, ap_U, ap_B, ap_chain, ap_and, ap_or, ap_tup, ap_F, ap_M, ap_sl, ap_pN, ap_pS, ap_L, ap_tE, ap_tAn, ap_tO, ap_tN, ap_tY, ap_if, ap_lD, ap_lF, ap_lCat, catL_ok, ap_lRep, repL_ok, ap_lSl, slL_lst, slL_scr, ap_iD, itL_lst, itL_scr, ap_iT, itT_tup, itT_ktp, ap_iS, itS_str, ap_iR1, itR1_ok, add_i, add_s, add_l, addX_i, addX_s, sub_i, mul_i, div_i, mod_i, pow_i, shl_i, shr_i, and_i, or_i, xor_i, neg_i, not_b, lt_i, le_i, gt_i, ge_i, eq_i, eq_s, ne_i, ne_s, is_non, is_int, is_str, is_tup, is_lst, isnt_non, isnt_int, isnt_str, isnt_tup, toBl_b, toIn_i, ix_s, ix_l, ix_r, ix_t, ix_k, sl_s, sl_l, sl_r, sl_t, len_s, len_l, len_r, len_t, len_k, int_i, int_b, abs_i, min_i, max_i, tup_l, tup_t, list_l, list_r, list_t, isi_i, isi_b, isi_s, isi_l, isi_t, isi_n, ty_ii, ty_bi, ty_ss, ty_ll, ty_tt, ty_tl, ty_lt, ty_tn, find_s, lower_s, sq_nx, sq_sq, sq_a, sq_o, sq_x, sq_if, sq_ret, sq_retL, oOf_o, sq_retO, sq_app, lstK_l, sq_ext, sq_aug, sq_g, sq_frz, sq_br, sq_ct, sq_raise, ofG_some, nx_ap, thenS_nx, thenS_rt, thenS_exc, sq_for, sq_wh, endV_v, endV_o, endV_n, endV_x, endL_o, endL_x, gN_ap, List.getElem?_cons_zero, List.getElem?_cons_succ, List.set_cons_zero, List.set_cons_succ, List.length_cons, List.length_nil, decide_eq_true_eq, Bool.not_eq_true, reduceIte, Bool.false_eq_true, decide_true, decide_false, Nat.reduceAdd, Nat.reduceLeDiff, Nat.reduceLT, Bool.not_true, Bool.not_false, List.nil_append, List.cons_append, List.map_cons, List.map_nil, List.replicate_succ, List.replicate_zero, Bool.not_eq_eq_eq_not, decide_eq_false_iff_not, and_self, and_true, true_and, and_false, false_and, or_true, true_or, or_false, false_or, or_self, Int.reduceLE, Int.reduceLT, Int.reduceNeg, Int.reduceAdd, Int.reduceSub, Int.reduceMul, Int.reduceDiv, Int.reduceMod, Int.reduceEq, Int.reduceToNat, Nat.reduceEqDiff, frz_zero, frz_succ, gT_tup, gT_ktp, gC_ap, gE_nil, cast_0, cast_1, cast_2, cast_3, cast_4, cast_5, cast_6, cast_7, cast_8, cast_9, ty_bs, ty_is, frz_zeroV, oOfR_o, ap_lenO, ap_ixO, tOf_some, pOf_fn, ap_P, ap_iZT, itZT_ok, zipD_cons, zipD_nil, str_i, sq_set, oOfS_o, set_ints, c31, c32, show (0 : Int) < 1 * 2 ^ 32 by decide, c]
      rw [Int.one_mul, Int.one_mul] at c
      rw [Int.one_mul, if_pos c]
    · simp only [bind_ok, bind_exc, bind_bad, ofE_ok, ofE_exc, vOf_v, ap_C, ap_V, ap_nil, ap_cons, ap_U, ap_B, ap_chain, ap_and, ap_or, ap_tup, ap_F, ap_M, ap_sl, ap_pN, ap_pS, ap_L, ap_tE, ap_tAn, ap_tO, ap_tN, ap_tY, ap_if, ap_lD, ap_lF, ap_lCat, catL_ok, ap_lRep, repL_ok, ap_lSl, slL_lst, slL_scr, ap_iD, itL_lst, itL_scr, ap_iT, itT_tup, itT_ktp, ap_iS, itS_str, ap_iR1, itR1_ok, add_i, add_s, add_l, addX_i, addX_s, sub_i, mul_i, div_i, mod_i, pow_i, shl_i, shr_i, and_i, or_i, xor_i, neg_i, not_b, lt_i, le_i, gt_i, ge_i, eq_i, eq_s, ne_i, ne_s, is_non, is_int, is_str, is_tup, is_lst, isnt_non, isnt_int, isnt_str, isnt_tup, toBl_b, toIn_i, ix_s, ix_l, ix_r, ix_t, ix_k, sl_s, sl_l, sl_r, sl_t, len_s, len_l, len_r, len_t, len_k, int_i, int_b, abs_i, min_i, max_i, tup_l, tup_t, list_l, list_r, list_t, isi_i, isi_b, isi_s, isi_l, isi_t, isi_n, ty_ii, ty_bi, ty_ss, ty_ll, ty_tt, ty_tl, ty_lt, ty_tn, find_s, lower_s, sq_nx, sq_sq, sq_a, sq_o, sq_x, sq_if, sq_ret, sq_retL, oOf_o, sq_retO, sq_app, lstK_l, sq_ext, sq_aug, sq_g, sq_frz, sq_br, sq_ct, sq_raise, ofG_some, nx_ap, thenS_nx, thenS_rt, thenS_exc, sq_for, sq_wh, endV_v, endV_o, endV_n, endV_x, endL_o, endL_x, gN_ap, List.getElem?_cons_zero, List.getElem?_cons_succ, List.set_cons_zero, List.set_cons_succ, List.length_cons, List.length_nil, decide_eq_true_eq, Bool.not_eq_true, reduceIte, Bool.false_eq_true, decide_true, decide_false, Nat.reduceAdd, Nat.reduceLeDiff, Nat.reduceLT, Bool.not_true, Bool.not_false, List.nil_append, List.cons_append, List.map_cons, List.map_nil, List.replicate_succ, List.replicate_zero, Bool.not_eq_eq_eq_not, decide_eq_false_iff_not, and_self, and_true, true_and, and_false, false_and, or_true, true_or, or_false, false_or, or_self, Int.reduceLE, Int.reduceLT, Int.reduceNeg, Int.reduceAdd, Int.reduceSub, Int.reduceMul, Int.reduceDiv, Int.reduceMod, Int.reduceEq, Int.reduceToNat, Nat.reduceEqDiff, frz_zero, frz_succ, gT_tup, gT_ktp, gC_ap, gE_nil, cast_0, cast_1, cast_2, cast_3, cast_4, cast_5, cast_6, cast_7, cast_8, cast_9, ty_bs, ty_is, frz_zeroV, oOfR_o, ap_lenO, ap_ixO, tOf_some, pOf_fn, ap_P, ap_iZT, itZT_ok, zipD_cons, zipD_nil, str_i, sq_set, oOfS_o, set_ints, c31, c32, show (0 : Int) < 1 * 2 ^ 32 by decide, c]
      rw [Int.one_mul, Int.one_mul] at c
      rw [Int.one_mul, if_neg c]
  · unfold sgn
    by_cases c : (1 : Int) * 2 ^ 63 ≤ x % (1 * 2 ^ 64)
    · simp only [bind_ok, bind_exc, bind_bad, ofE_ok, ofE_exc, vOf_v, ap_C, ap_V, ap_nil, ap_cons, ap_U, ap_B, ap_chain, ap_and, ap_or, ap_tup, ap_F, ap_M, ap_sl, ap_pN, ap_pS, ap_L, ap_tE, ap_tAn, ap_tO, ap_tN, ap_tY, ap_if, ap_lD, ap_lF, ap_lCat, catL_ok, ap_lRep, repL_ok, ap_lSl, slL_lst, slL_scr, ap_iD, itL_lst, itL_scr, ap_iT, itT_tup, itT_ktp, ap_iS, itS_str, ap_iR1, itR1_ok, add_i, add_s, add_l, addX_i, addX_s, sub_i, mul_i, div_i, mod_i, pow_i, shl_i, shr_i, and_i, or_i, xor_i, neg_i, not_b, lt_i, le_i, gt_i, ge_i, eq_i, eq_s, ne_i, ne_s, is_non, is_int, is_str, is_tup, is_lst, isnt_non, isnt_int, isnt_str, isnt_tup, toBl_b, toIn_i, ix_s, ix_l, ix_r, ix_t, ix_k, sl_s, sl_l, sl_r, sl_t, len_s, len_l, len_r, len_t, len_k, int_i, int_b, abs_i, min_i, max_i, tup_l, tup_t, list_l, list_r, list_t, isi_i, isi_b, isi_s, isi_l, isi_t, isi_n, ty_ii, ty_bi, ty_ss, ty_ll, ty_tt, ty_tl, ty_lt, ty_tn, find_s, lower_s, sq_nx, sq_sq, sq_a, sq_o, sq_x, sq_if, sq_ret, sq_retL, oOf_o, sq_retO, sq_app, lstK_l, sq_ext, sq_aug, sq_g, sq_frz, sq_br, sq_ct, sq_raise, ofG_some, nx_ap, thenS_nx, thenS_rt, thenS_exc, sq_for, sq_wh, endV_v, endV_o, endV_n, endV_x, endL_o, endL_x, gN_ap, List.getElem?_cons_zero, List.getElem?_cons_succ, List.set_cons_zero, List.set_cons_succ, List.length_cons, List.length_nil, decide_eq_true_eq, Bool.not_eq_true, reduceIte, Bool.false_eq_true, decide_true, decide_false, Nat.reduceAdd, Nat.reduceLeDiff, Nat.reduceLT, Bool.not_true, Bool.not_false, List.nil_append, List.cons_append, List.map_cons, List.map_nil, List.replicate_succ, List.replicate_zero, Bool.not_eq_eq_eq_not, decide_eq_false_iff_not, and_self, and_true, true_and, and_false, false_and, or_true, true_or, or_false, false_or, or_self, Int.reduceLE, Int.reduceLT, Int.reduceNeg, Int.reduceAdd, Int.reduceSub, Int.reduceMul, Int.reduceDiv, Int.reduceMod, Int.reduceEq, Int.reduceToNat, Nat.reduceEqDiff, frz_zero, frz_succ, gT_tup, gT_ktp, gC_ap, gE_nil, cast_0, cast_1, cast_2, cast_3, cast_4, cast_5, cast_6, cast_7, cast_8, cast_9, ty_bs, ty_is, frz_zeroV, oOfR_o, ap_lenO, ap_ixO, tOf_some, pOf_fn, ap_P, ap_iZT, itZT_ok, zipD_cons, zipD_nil, str_i, sq_set, oOfS_o, set_ints, c63, c64, show (0 : Int) < 1 * 2 ^ 64 by decide, c]
      rw [Int.one_mul, Int.one_mul] at c
      rw [Int.one_mul, if_pos c]
    · simp only [bind_ok, bind_exc, bind_bad, ofE_ok, ofE_exc, vOf_v, ap_C, ap_V, ap_nil, ap_cons, ap_U, ap_B, ap_chain, ap_and, ap_or, ap_tup, ap_F, ap_M, ap_sl, ap_pN, ap_pS, ap_L, ap_tE, ap_tAn, ap_tO, ap_tN, ap_tY, ap_if, ap_lD, ap_lF, ap_lCat, catL_ok, ap_lRep, repL_ok, ap_lSl, slL_lst, slL_scr, ap_iD, itL_lst, itL_scr, ap_iT, itT_tup, itT_ktp, ap_iS, itS_str, ap_iR1, itR1_ok, add_i, add_s, add_l, addX_i, addX_s, sub_i, mul_i, div_i, mod_i, pow_i, shl_i, shr_i, and_i, or_i, xor_i, neg_i, not_b, lt_i, le_i, gt_i, ge_i, eq_i, eq_s, ne_i, ne_s, is_non, is_int, is_str, is_tup, is_lst, isnt_non, isnt_int, isnt_str, isnt_tup, toBl_b, toIn_i, ix_s, ix_l, ix_r, ix_t, ix_k, sl_s, sl_l, sl_r, sl_t, len_s, len_l, len_r, len_t, len_k, int_i, int_b, abs_i, min_i, max_i, tup_l, tup_t, list_l, list_r, list_t, isi_i, isi_b, isi_s, isi_l, isi_t, isi_n, ty_ii, ty_bi, ty_ss, ty_ll, ty_tt, ty_tl, ty_lt, ty_tn, find_s, lower_s, sq_nx, sq_sq, sq_a, sq_o, sq_x, sq_if, sq_ret, sq_retL, oOf_o, sq_retO, sq_app, lstK_l, sq_ext, sq_aug, sq_g, sq_frz, sq_br, sq_ct, sq_raise, ofG_some, nx_ap, thenS_nx, thenS_rt, thenS_exc, sq_for, sq_wh, endV_v, endV_o, endV_n, endV_x, endL_o, endL_x, gN_ap, List.getElem?_cons_zero, List.getElem?_cons_succ, List.set_cons_zero, List.set_cons_succ, List.length_cons, List.length_nil, decide_eq_true_eq, Bool.not_eq_true, reduceIte, Bool.false_eq_true, decide_true, decide_false, Nat.reduceAdd, Nat.reduceLeDiff, Nat.reduceLT, Bool.not_true, Bool.not_false, List.nil_append, List.cons_append, List.map_cons, List.map_nil, List.replicate_succ, List.replicate_zero, Bool.not_eq_eq_eq_not, decide_eq_false_iff_not, and_self, and_true, true_and, and_false, false_and, or_true, true_or, or_false, false_or, or_self, Int.reduceLE, Int.reduceLT, Int.reduceNeg, Int.reduceAdd, Int.reduceSub, Int.reduceMul, Int.reduceDiv, Int.reduceMod, Int.reduceEq, Int.reduceToNat, Nat.reduceEqDiff, frz_zero, frz_succ, gT_tup, gT_ktp, gC_ap, gE_nil, cast_0, cast_1, cast_2, cast_3, cast_4, cast_5, cast_6, cast_7, cast_8, cast_9, ty_bs, ty_is, frz_zeroV, oOfR_o, ap_lenO, ap_ixO, tOf_some, pOf_fn, ap_P, ap_iZT, itZT_ok, zipD_cons, zipD_nil, str_i, sq_set, oOfS_o, set_ints, c63, c64, show (0 : Int) < 1 * 2 ^ 64 by decide, c]
      rw [Int.one_mul, Int.one_mul] at c
      rw [Int.one_mul, if_neg c]
theorem val_ok (K : KW k W w) (c : Int) : ∃ v, m_l_value [.int c, .int W] = .ok (.int v) ∧ inR w v := by
  have d4 : CDivW c 4 := ⟨by decide, by decide⟩
  have hm1 : ∀ x : Int, (CMulW x 982451653 ∨ CMul x 982451653) = True := fun x => eq_true (Or.inr (Or.inr ⟨by decide, by decide⟩))
  have hm2 : ∀ x : Int, (CMulW x 15485867 ∨ CMul x 15485867) = True := fun x => eq_true (Or.inr (Or.inr ⟨by decide, by decide⟩))
  have hs := fun x => l_signed_ok K x
  have cp : CPow 1 (W - 1) := by cases K <;> exact ⟨by decide, by decide, by decide⟩
  have hin : ∀ x, (inR w (sgn w x)) = True := fun x => eq_true (sgn_in K x)
  refine OkP.ex ?_
  rw [e_l_value]
  unfold b_l_value
  by_cases c0 : c % 4 = 0
  · obtain ⟨v, hv⟩ : ∃ v, ixL [D.int 0, D.int 1, D.int (-1), D.int 2, D.int (-2), D.int 31, D.int 32, D.int 33, D.int 63, D.int 64, D.int 127, D.int (-128), D.int 255, D.int 32767, D.int (-32768), D.int 65535] (c / 4 % 16) = .ok (.int v) :=
      ⟨_, ixL_ints (ns := [0, 1, -1, 2, -2, 31, 32, 33, 63, 64, 127, -128, 255, 32767, -32768, 65535]) (by omega) (by show c / 4 % 16 < ((16 : Nat) : Int); omega)⟩
    simp only [bind_ok, bind_exc, bind_bad, ofE_ok, ofE_exc, vOf_v, ap_C, ap_V, ap_nil, ap_cons, ap_U, ap_B, ap_chain, ap_and, ap_or, ap_tup, ap_F, ap_M, ap_sl, ap_pN, ap_pS, ap_L, ap_tE, ap_tAn, ap_tO, ap_tN, ap_tY, ap_if, ap_lD, ap_lF, ap_lCat, catL_ok, ap_lRep, repL_ok, ap_lSl, slL_lst, slL_scr, ap_iD, itL_lst, itL_scr, ap_iT, itT_tup, itT_ktp, ap_iS, itS_str, ap_iR1, itR1_ok, add_i, add_s, add_l, addX_i, addX_s, sub_i, mul_i, div_i, mod_i, pow_i, shl_i, shr_i, and_i, or_i, xor_i, neg_i, not_b, lt_i, le_i, gt_i, ge_i, eq_i, eq_s, ne_i, ne_s, is_non, is_int, is_str, is_tup, is_lst, isnt_non, isnt_int, isnt_str, isnt_tup, toBl_b, toIn_i, ix_s, ix_l, ix_r, ix_t, ix_k, sl_s, sl_l, sl_r, sl_t, len_s, len_l, len_r, len_t, len_k, int_i, int_b, abs_i, min_i, max_i, tup_l, tup_t, list_l, list_r, list_t, isi_i, isi_b, isi_s, isi_l, isi_t, isi_n, ty_ii, ty_bi, ty_ss, ty_ll, ty_tt, ty_tl, ty_lt, ty_tn, find_s, lower_s, sq_nx, sq_sq, sq_a, sq_o, sq_x, sq_if, sq_ret, sq_retL, oOf_o, sq_retO, sq_app, lstK_l, sq_ext, sq_aug, sq_g, sq_frz, sq_br, sq_ct, sq_raise, ofG_some, nx_ap, thenS_nx, thenS_rt, thenS_exc, sq_for, sq_wh, endV_v, endV_o, endV_n, endV_x, endL_o, endL_x, gN_ap, List.getElem?_cons_zero, List.getElem?_cons_succ, List.set_cons_zero, List.set_cons_succ, List.length_cons, List.length_nil, decide_eq_true_eq, Bool.not_eq_true, reduceIte, Bool.false_eq_true, decide_true, decide_false, Nat.reduceAdd, Nat.reduceLeDiff, Nat.reduceLT, Bool.not_true, Bool.not_false, List.nil_append, List.cons_append, List.map_cons, List.map_nil, List.replicate_succ, List.replicate_zero, Bool.not_eq_eq_eq_not, decide_eq_false_iff_not, and_self, and_true, true_and, and_false, false_and, or_true, true_or, or_false, false_or, or_self, Int.reduceLE, Int.reduceLT, Int.reduceNeg, Int.reduceAdd, Int.reduceSub, Int.reduceMul, Int.reduceDiv, Int.reduceMod, Int.reduceEq, Int.reduceToNat, Nat.reduceEqDiff, frz_zero, frz_succ, gT_tup, gT_ktp, gC_ap, gE_nil, cast_0, cast_1, cast_2, cast_3, cast_4, cast_5, cast_6, cast_7, cast_8, cast_9, ty_bs, ty_is, frz_zeroV, oOfR_o, ap_lenO, ap_ixO, tOf_some, pOf_fn, ap_P, ap_iZT, itZT_ok, zipD_cons, zipD_nil, str_i, sq_set, oOfS_o, set_ints, d4, eq_true c0, hv, eq_false (show ¬ c % 4 = 1 by omega), eq_false (show ¬ c % 4 = 2 by omega), hs, okP, hin]
  · by_cases c1 : c % 4 = 1
    · simp only [bind_ok, bind_exc, bind_bad, ofE_ok, ofE_exc, vOf_v, ap_C, ap_V, ap_nil, ap_cons, ap_U, ap_B, ap_chain, ap_and, ap_or, ap_tup, ap_F, ap_M, ap_sl, ap_pN, ap_pS, ap_L, ap_tE, ap_tAn, ap_tO, ap_tN, ap_tY, ap_if, ap_lD, ap_lF, ap_lCat, catL_ok, ap_lRep, repL_ok, ap_lSl, slL_lst, slL_scr, ap_iD, itL_lst, itL_scr, ap_iT, itT_tup, itT_ktp, ap_iS, itS_str, ap_iR1, itR1_ok, add_i, add_s, add_l, addX_i, addX_s, sub_i, mul_i, div_i, mod_i, pow_i, shl_i, shr_i, and_i, or_i, xor_i, neg_i, not_b, lt_i, le_i, gt_i, ge_i, eq_i, eq_s, ne_i, ne_s, is_non, is_int, is_str, is_tup, is_lst, isnt_non, isnt_int, isnt_str, isnt_tup, toBl_b, toIn_i, ix_s, ix_l, ix_r, ix_t, ix_k, sl_s, sl_l, sl_r, sl_t, len_s, len_l, len_r, len_t, len_k, int_i, int_b, abs_i, min_i, max_i, tup_l, tup_t, list_l, list_r, list_t, isi_i, isi_b, isi_s, isi_l, isi_t, isi_n, ty_ii, ty_bi, ty_ss, ty_ll, ty_tt, ty_tl, ty_lt, ty_tn, find_s, lower_s, sq_nx, sq_sq, sq_a, sq_o, sq_x, sq_if, sq_ret, sq_retL, oOf_o, sq_retO, sq_app, lstK_l, sq_ext, sq_aug, sq_g, sq_frz, sq_br, sq_ct, sq_raise, ofG_some, nx_ap, thenS_nx, thenS_rt, thenS_exc, sq_for, sq_wh, endV_v, endV_o, endV_n, endV_x, endL_o, endL_x, gN_ap, List.getElem?_cons_zero, List.getElem?_cons_succ, List.set_cons_zero, List.set_cons_succ, List.length_cons, List.length_nil, decide_eq_true_eq, Bool.not_eq_true, reduceIte, Bool.false_eq_true, decide_true, decide_false, Nat.reduceAdd, Nat.reduceLeDiff, Nat.reduceLT, Bool.not_true, Bool.not_false, List.nil_append, List.cons_append, List.map_cons, List.map_nil, List.replicate_succ, List.replicate_zero, Bool.not_eq_eq_eq_not, decide_eq_false_iff_not, and_self, and_true, true_and, and_false, false_and, or_true, true_or, or_false, false_or, or_self, Int.reduceLE, Int.reduceLT, Int.reduceNeg, Int.reduceAdd, Int.reduceSub, Int.reduceMul, Int.reduceDiv, Int.reduceMod, Int.reduceEq, Int.reduceToNat, Nat.reduceEqDiff, frz_zero, frz_succ, gT_tup, gT_ktp, gC_ap, gE_nil, cast_0, cast_1, cast_2, cast_3, cast_4, cast_5, cast_6, cast_7, cast_8, cast_9, ty_bs, ty_is, frz_zeroV, oOfR_o, ap_lenO, ap_ixO, tOf_some, pOf_fn, ap_P, ap_iZT, itZT_ok, zipD_cons, zipD_nil, str_i, sq_set, oOfS_o, set_ints, d4, eq_false c0, eq_true c1, eq_false (show ¬ c % 4 = 2 by omega), hm1, hm2, hs, okP, hin]
    · by_cases c2 : c % 4 = 2
      · simp only [bind_ok, bind_exc, bind_bad, ofE_ok, ofE_exc, vOf_v, ap_C, ap_V, ap_nil, ap_cons, ap_U, ap_B, ap_chain, ap_and, ap_or, ap_tup, ap_F, ap_M, ap_sl, ap_pN, ap_pS, ap_L, ap_tE, ap_tAn, ap_tO, ap_tN, ap_tY, ap_if, ap_lD, ap_lF, ap_lCat, catL_ok, ap_lRep, repL_ok, ap_lSl, slL_lst, slL_scr, ap_iD, itL_lst, itL_scr, ap_iT, itT_tup, itT_ktp, ap_iS, itS_str, ap_iR1, itR1_ok, add_i, add_s, add_l, addX_i, addX_s, sub_i, mul_i, div_i, mod_i, pow_i, shl_i, shr_i, and_i, or_i, xor_i, neg_i, not_b, lt_i, le_i, gt_i, ge_i, eq_i, eq_s, ne_i, ne_s, is_non, is_int, is_str, is_tup, is_lst, isnt_non, isnt_int, isnt_str, isnt_tup, toBl_b, toIn_i, ix_s, ix_l, ix_r, ix_t, ix_k, sl_s, sl_l, sl_r, sl_t, len_s, len_l, len_r, len_t, len_k, int_i, int_b, abs_i, min_i, max_i, tup_l, tup_t, list_l, list_r, list_t, isi_i, isi_b, isi_s, isi_l, isi_t, isi_n, ty_ii, ty_bi, ty_ss, ty_ll, ty_tt, ty_tl, ty_lt, ty_tn, find_s, lower_s, sq_nx, sq_sq, sq_a, sq_o, sq_x, sq_if, sq_ret, sq_retL, oOf_o, sq_retO, sq_app, lstK_l, sq_ext, sq_aug, sq_g, sq_frz, sq_br, sq_ct, sq_raise, ofG_some, nx_ap, thenS_nx, thenS_rt, thenS_exc, sq_for, sq_wh, endV_v, endV_o, endV_n, endV_x, endL_o, endL_x, gN_ap, List.getElem?_cons_zero, List.getElem?_cons_succ, List.set_cons_zero, List.set_cons_succ, List.length_cons, List.length_nil, decide_eq_true_eq, Bool.not_eq_true, reduceIte, Bool.false_eq_true, decide_true, decide_false, Nat.reduceAdd, Nat.reduceLeDiff, Nat.reduceLT, Bool.not_true, Bool.not_false, List.nil_append, List.cons_append, List.map_cons, List.map_nil, List.replicate_succ, List.replicate_zero, Bool.not_eq_eq_eq_not, decide_eq_false_iff_not, and_self, and_true, true_and, and_false, false_and, or_true, true_or, or_false, false_or, or_self, Int.reduceLE, Int.reduceLT, Int.reduceNeg, Int.reduceAdd, Int.reduceSub, Int.reduceMul, Int.reduceDiv, Int.reduceMod, Int.reduceEq, Int.reduceToNat, Nat.reduceEqDiff, frz_zero, frz_succ, gT_tup, gT_ktp, gC_ap, gE_nil, cast_0, cast_1, cast_2, cast_3, cast_4, cast_5, cast_6, cast_7, cast_8, cast_9, ty_bs, ty_is, frz_zeroV, oOfR_o, ap_lenO, ap_ixO, tOf_some, pOf_fn, ap_P, ap_iZT, itZT_ok, zipD_cons, zipD_nil, str_i, sq_set, oOfS_o, set_ints, d4, eq_false c0, eq_false c1, eq_true c2, hs, cp, okP, hin]
      · simp only [bind_ok, bind_exc, bind_bad, ofE_ok, ofE_exc, vOf_v, ap_C, ap_V, ap_nil, ap_cons, ap_U, ap_B, ap_chain, ap_and, ap_or, ap_tup, ap_F, ap_M, ap_sl, ap_pN, ap_pS, ap_L, ap_tE, ap_tAn, ap_tO, ap_tN, ap_tY, ap_if, ap_lD, ap_lF, ap_lCat, catL_ok, ap_lRep, repL_ok, ap_lSl, slL_lst, slL_scr, ap_iD, itL_lst, itL_scr, ap_iT, itT_tup, itT_ktp, ap_iS, itS_str, ap_iR1, itR1_ok, add_i, add_s, add_l, addX_i, addX_s, sub_i, mul_i, div_i, mod_i, pow_i, shl_i, shr_i, and_i, or_i, xor_i, neg_i, not_b, lt_i, le_i, gt_i, ge_i, eq_i, eq_s, ne_i, ne_s, is_non, is_int, is_str, is_tup, is_lst, isnt_non, isnt_int, isnt_str, isnt_tup, toBl_b, toIn_i, ix_s, ix_l, ix_r, ix_t, ix_k, sl_s, sl_l, sl_r, sl_t, len_s, len_l, len_r, len_t, len_k, int_i, int_b, abs_i, min_i, max_i, tup_l, tup_t, list_l, list_r, list_t, isi_i, isi_b, isi_s, isi_l, isi_t, isi_n, ty_ii, ty_bi, ty_ss, ty_ll, ty_tt, ty_tl, ty_lt, ty_tn, find_s, lower_s, sq_nx, sq_sq, sq_a, sq_o, sq_x, sq_if, sq_ret, sq_retL, oOf_o, sq_retO, sq_app, lstK_l, sq_ext, sq_aug, sq_g, sq_frz, sq_br, sq_ct, sq_raise, ofG_some, nx_ap, thenS_nx, thenS_rt, thenS_exc, sq_for, sq_wh, endV_v, endV_o, endV_n, endV_x, endL_o, endL_x, gN_ap, List.getElem?_cons_zero, List.getElem?_cons_succ, List.set_cons_zero, List.set_cons_succ, List.length_cons, List.length_nil, decide_eq_true_eq, Bool.not_eq_true, reduceIte, Bool.false_eq_true, decide_true, decide_false, Nat.reduceAdd, Nat.reduceLeDiff, Nat.reduceLT, Bool.not_true, Bool.not_false, List.nil_append, List.cons_append, List.map_cons, List.map_nil, List.replicate_succ, List.replicate_zero, Bool.not_eq_eq_eq_not, decide_eq_false_iff_not, and_self, and_true, true_and, and_false, false_and, or_true, true_or, or_false, false_or, or_self, Int.reduceLE, Int.reduceLT, Int.reduceNeg, Int.reduceAdd, Int.reduceSub, Int.reduceMul, Int.reduceDiv, Int.reduceMod, Int.reduceEq, Int.reduceToNat, Nat.reduceEqDiff, frz_zero, frz_succ, gT_tup, gT_ktp, gC_ap, gE_nil, cast_0, cast_1, cast_2, cast_3, cast_4, cast_5, cast_6, cast_7, cast_8, cast_9, ty_bs, ty_is, frz_zeroV, oOfR_o, ap_lenO, ap_ixO, tOf_some, pOf_fn, ap_P, ap_iZT, itZT_ok, zipD_cons, zipD_nil, str_i, sq_set, oOfS_o, set_ints, d4, eq_false c0, eq_false c1, eq_false c2, hs, okP, hin]
end
/-! calculate -/
structure Nm (nm : Str) (ks : List D) (kk word : Str) : Prop where
  ln : nm.length ≤ 100000
  sig : ∃ r, m_signature_of [.str nm] = .ok (.tup [.tup ks, r])
  k : cutS nm none (some 3) = kk
  w : cutS nm (some 4) none = word
theorem ix0 {a b : D} : ixL [a, b] 0 = .ok a := rfl
theorem ix0' {a : D} : ixL [a] 0 = .ok a := rfl
theorem ix1 {a b : D} : ixL [a, b] 1 = .ok b := rfl
theorem calc_ari {nm kk word : Str} {ks : List D} {n : Nat} {m : List D → R D} {x y : Int} (N : Nm nm ks kk word) (cv : dIn (.str nm) d_CONVERSIONS = .ok (.bl false)) (a : dIn (.str word) d_ARITHMETIC = .ok (.bl true)) (ix : dIx d_ARITHMETIC (.str word) = .ok (.fn n)) (tb : tb_ARITHMETIC n = some m) (h : m_check_operands [.tup ks, .tup [.int x, .int y]] = .ok .non) :
    m_calculate [.str nm, .tup [.int x, .int y]] = m [.str kk, .int x, .int y] := by
  obtain ⟨r, hr⟩ := N.sig
  rw [e_calculate]
  unfold b_calculate
  simp only [bind_ok, bind_exc, bind_bad, ofE_ok, ofE_exc, vOf_v, ap_C, ap_V, ap_nil, ap_cons, ap_U, ap_B, ap_chain, ap_and, ap_or, ap_tup, ap_F, ap_M, ap_sl, ap_pN, ap_pS, ap_L, ap_tE, ap_tAn, ap_tO, ap_tN, ap_tY, ap_if, ap_lD, ap_lF, ap_lCat, catL_ok, ap_lRep, repL_ok, ap_lSl, slL_lst, slL_scr, ap_iD, itL_lst, itL_scr, ap_iT, itT_tup, itT_ktp, ap_iS, itS_str, ap_iR1, itR1_ok, add_i, add_s, add_l, addX_i, addX_s, sub_i, mul_i, div_i, mod_i, pow_i, shl_i, shr_i, and_i, or_i, xor_i, neg_i, not_b, lt_i, le_i, gt_i, ge_i, eq_i, eq_s, ne_i, ne_s, is_non, is_int, is_str, is_tup, is_lst, isnt_non, isnt_int, isnt_str, isnt_tup, toBl_b, toIn_i, ix_s, ix_l, ix_r, ix_t, ix_k, sl_s, sl_l, sl_r, sl_t, len_s, len_l, len_r, len_t, len_k, int_i, int_b, abs_i, min_i, max_i, tup_l, tup_t, list_l, list_r, list_t, isi_i, isi_b, isi_s, isi_l, isi_t, isi_n, ty_ii, ty_bi, ty_ss, ty_ll, ty_tt, ty_tl, ty_lt, ty_tn, find_s, lower_s, sq_nx, sq_sq, sq_a, sq_o, sq_x, sq_if, sq_ret, sq_retL, oOf_o, sq_retO, sq_app, lstK_l, sq_ext, sq_aug, sq_g, sq_frz, sq_br, sq_ct, sq_raise, ofG_some, nx_ap, thenS_nx, thenS_rt, thenS_exc, sq_for, sq_wh, endV_v, endV_o, endV_n, endV_x, endL_o, endL_x, gN_ap, List.getElem?_cons_zero, List.getElem?_cons_succ, List.set_cons_zero, List.set_cons_succ, List.length_cons, List.length_nil, decide_eq_true_eq, Bool.not_eq_true, reduceIte, Bool.false_eq_true, decide_true, decide_false, Nat.reduceAdd, Nat.reduceLeDiff, Nat.reduceLT, Bool.not_true, Bool.not_false, List.nil_append, List.cons_append, List.map_cons, List.map_nil, List.replicate_succ, List.replicate_zero, Bool.not_eq_eq_eq_not, decide_eq_false_iff_not, and_self, and_true, true_and, and_false, false_and, or_true, true_or, or_false, false_or, or_self, Int.reduceLE, Int.reduceLT, Int.reduceNeg, Int.reduceAdd, Int.reduceSub, Int.reduceMul, Int.reduceDiv, Int.reduceMod, Int.reduceEq, Int.reduceToNat, Nat.reduceEqDiff, frz_zero, frz_succ, gT_tup, gT_ktp, gC_ap, gE_nil, cast_0, cast_1, cast_2, cast_3, cast_4, cast_5, cast_6, cast_7, cast_8, cast_9, ty_bs, ty_is, frz_zeroV, oOfR_o, ap_lenO, ap_ixO, tOf_some, pOf_fn, ap_P, ap_iZT, itZT_ok, zipD_cons, zipD_nil, str_i, sq_set, oOfS_o, set_ints, hr, ix0, ix1, h, N.ln, N.k, N.w, cv, a, ix, tb]
  cases m [.str kk, .int x, .int y] <;> rfl
theorem calc_cmp {nm kk word : Str} {ks : List D} {n : Nat} {m : List D → R D} {x y : Int} (N : Nm nm ks kk word) (cv : dIn (.str nm) d_CONVERSIONS = .ok (.bl false)) (a0 : dIn (.str word) d_ARITHMETIC = .ok (.bl false)) (a : dIn (.str word) d_COMPARISONS = .ok (.bl true)) (ix : dIx d_COMPARISONS (.str word) = .ok (.fn n)) (tb : tb_COMPARISONS n = some m) (h : m_check_operands [.tup ks, .tup [.int x, .int y]] = .ok .non) :
    m_calculate [.str nm, .tup [.int x, .int y]] = m [.str kk, .int x, .int y] := by
  obtain ⟨r, hr⟩ := N.sig
  rw [e_calculate]
  unfold b_calculate
  simp only [bind_ok, bind_exc, bind_bad, ofE_ok, ofE_exc, vOf_v, ap_C, ap_V, ap_nil, ap_cons, ap_U, ap_B, ap_chain, ap_and, ap_or, ap_tup, ap_F, ap_M, ap_sl, ap_pN, ap_pS, ap_L, ap_tE, ap_tAn, ap_tO, ap_tN, ap_tY, ap_if, ap_lD, ap_lF, ap_lCat, catL_ok, ap_lRep, repL_ok, ap_lSl, slL_lst, slL_scr, ap_iD, itL_lst, itL_scr, ap_iT, itT_tup, itT_ktp, ap_iS, itS_str, ap_iR1, itR1_ok, add_i, add_s, add_l, addX_i, addX_s, sub_i, mul_i, div_i, mod_i, pow_i, shl_i, shr_i, and_i, or_i, xor_i, neg_i, not_b, lt_i, le_i, gt_i, ge_i, eq_i, eq_s, ne_i, ne_s, is_non, is_int, is_str, is_tup, is_lst, isnt_non, isnt_int, isnt_str, isnt_tup, toBl_b, toIn_i, ix_s, ix_l, ix_r, ix_t, ix_k, sl_s, sl_l, sl_r, sl_t, len_s, len_l, len_r, len_t, len_k, int_i, int_b, abs_i, min_i, max_i, tup_l, tup_t, list_l, list_r, list_t, isi_i, isi_b, isi_s, isi_l, isi_t, isi_n, ty_ii, ty_bi, ty_ss, ty_ll, ty_tt, ty_tl, ty_lt, ty_tn, find_s, lower_s, sq_nx, sq_sq, sq_a, sq_o, sq_x, sq_if, sq_ret, sq_retL, oOf_o, sq_retO, sq_app, lstK_l, sq_ext, sq_aug, sq_g, sq_frz, sq_br, sq_ct, sq_raise, ofG_some, nx_ap, thenS_nx, thenS_rt, thenS_exc, sq_for, sq_wh, endV_v, endV_o, endV_n, endV_x, endL_o, endL_x, gN_ap, List.getElem?_cons_zero, List.getElem?_cons_succ, List.set_cons_zero, List.set_cons_succ, List.length_cons, List.length_nil, decide_eq_true_eq, Bool.not_eq_true, reduceIte, Bool.false_eq_true, decide_true, decide_false, Nat.reduceAdd, Nat.reduceLeDiff, Nat.reduceLT, Bool.not_true, Bool.not_false, List.nil_append, List.cons_append, List.map_cons, List.map_nil, List.replicate_succ, List.replicate_zero, Bool.not_eq_eq_eq_not, decide_eq_false_iff_not, and_self, and_true, true_and, and_false, false_and, or_true, true_or, or_false, false_or, or_self, Int.reduceLE, Int.reduceLT, Int.reduceNeg, Int.reduceAdd, Int.reduceSub, Int.reduceMul, Int.reduceDiv, Int.reduceMod, Int.reduceEq, Int.reduceToNat, Nat.reduceEqDiff, frz_zero, frz_succ, gT_tup, gT_ktp, gC_ap, gE_nil, cast_0, cast_1, cast_2, cast_3, cast_4, cast_5, cast_6, cast_7, cast_8, cast_9, ty_bs, ty_is, frz_zeroV, oOfR_o, ap_lenO, ap_ixO, tOf_some, pOf_fn, ap_P, ap_iZT, itZT_ok, zipD_cons, zipD_nil, str_i, sq_set, oOfS_o, set_ints, hr, ix0, ix1, h, N.ln, N.k, N.w, cv, a0, a, ix, tb]
  cases m [.str kk, .int x, .int y] <;> rfl
theorem calc_eqz {nm kk word : Str} {ks : List D} {x : Int} (N : Nm nm ks kk word) (cv : dIn (.str nm) d_CONVERSIONS = .ok (.bl false)) (a0 : dIn (.str word) d_ARITHMETIC = .ok (.bl false)) (a1 : dIn (.str word) d_COMPARISONS = .ok (.bl false)) (hw : word = "eqz") (h : m_check_operands [.tup ks, .tup [.int x]] = .ok .non) :
    m_calculate [.str nm, .tup [.int x]] = m_eqz [.str kk, .int x] := by
  obtain ⟨r, hr⟩ := N.sig
  rw [e_calculate]
  unfold b_calculate
  simp only [bind_ok, bind_exc, bind_bad, ofE_ok, ofE_exc, vOf_v, ap_C, ap_V, ap_nil, ap_cons, ap_U, ap_B, ap_chain, ap_and, ap_or, ap_tup, ap_F, ap_M, ap_sl, ap_pN, ap_pS, ap_L, ap_tE, ap_tAn, ap_tO, ap_tN, ap_tY, ap_if, ap_lD, ap_lF, ap_lCat, catL_ok, ap_lRep, repL_ok, ap_lSl, slL_lst, slL_scr, ap_iD, itL_lst, itL_scr, ap_iT, itT_tup, itT_ktp, ap_iS, itS_str, ap_iR1, itR1_ok, add_i, add_s, add_l, addX_i, addX_s, sub_i, mul_i, div_i, mod_i, pow_i, shl_i, shr_i, and_i, or_i, xor_i, neg_i, not_b, lt_i, le_i, gt_i, ge_i, eq_i, eq_s, ne_i, ne_s, is_non, is_int, is_str, is_tup, is_lst, isnt_non, isnt_int, isnt_str, isnt_tup, toBl_b, toIn_i, ix_s, ix_l, ix_r, ix_t, ix_k, sl_s, sl_l, sl_r, sl_t, len_s, len_l, len_r, len_t, len_k, int_i, int_b, abs_i, min_i, max_i, tup_l, tup_t, list_l, list_r, list_t, isi_i, isi_b, isi_s, isi_l, isi_t, isi_n, ty_ii, ty_bi, ty_ss, ty_ll, ty_tt, ty_tl, ty_lt, ty_tn, find_s, lower_s, sq_nx, sq_sq, sq_a, sq_o, sq_x, sq_if, sq_ret, sq_retL, oOf_o, sq_retO, sq_app, lstK_l, sq_ext, sq_aug, sq_g, sq_frz, sq_br, sq_ct, sq_raise, ofG_some, nx_ap, thenS_nx, thenS_rt, thenS_exc, sq_for, sq_wh, endV_v, endV_o, endV_n, endV_x, endL_o, endL_x, gN_ap, List.getElem?_cons_zero, List.getElem?_cons_succ, List.set_cons_zero, List.set_cons_succ, List.length_cons, List.length_nil, decide_eq_true_eq, Bool.not_eq_true, reduceIte, Bool.false_eq_true, decide_true, decide_false, Nat.reduceAdd, Nat.reduceLeDiff, Nat.reduceLT, Bool.not_true, Bool.not_false, List.nil_append, List.cons_append, List.map_cons, List.map_nil, List.replicate_succ, List.replicate_zero, Bool.not_eq_eq_eq_not, decide_eq_false_iff_not, and_self, and_true, true_and, and_false, false_and, or_true, true_or, or_false, false_or, or_self, Int.reduceLE, Int.reduceLT, Int.reduceNeg, Int.reduceAdd, Int.reduceSub, Int.reduceMul, Int.reduceDiv, Int.reduceMod, Int.reduceEq, Int.reduceToNat, Nat.reduceEqDiff, frz_zero, frz_succ, gT_tup, gT_ktp, gC_ap, gE_nil, cast_0, cast_1, cast_2, cast_3, cast_4, cast_5, cast_6, cast_7, cast_8, cast_9, ty_bs, ty_is, frz_zeroV, oOfR_o, ap_lenO, ap_ixO, tOf_some, pOf_fn, ap_P, ap_iZT, itZT_ok, zipD_cons, zipD_nil, str_i, sq_set, oOfS_o, set_ints, hr, ix0, ix0', h, N.ln, N.k, N.w, cv, a0, a1, eq_true hw]
  cases m_eqz [.str kk, .int x] <;> rfl
theorem calc_ext {nm kk word : Str} {ks : List D} {x : Int} (N : Nm nm ks kk word) (cv : dIn (.str nm) d_CONVERSIONS = .ok (.bl false)) (a0 : dIn (.str word) d_ARITHMETIC = .ok (.bl false)) (a1 : dIn (.str word) d_COMPARISONS = .ok (.bl false)) (hw : ¬ word = "eqz") (hw2 : word = "extend32_s") (h : m_check_operands [.tup ks, .tup [.int x]] = .ok .non) :
    m_calculate [.str nm, .tup [.int x]] = m_extend32_s [.str kk, .int x] := by
  obtain ⟨r, hr⟩ := N.sig
  rw [e_calculate]
  unfold b_calculate
  simp only [bind_ok, bind_exc, bind_bad, ofE_ok, ofE_exc, vOf_v, ap_C, ap_V, ap_nil, ap_cons, ap_U, ap_B, ap_chain, ap_and, ap_or, ap_tup, ap_F, ap_M, ap_sl, ap_pN, ap_pS, ap_L, ap_tE, ap_tAn, ap_tO, ap_tN, ap_tY, ap_if, ap_lD, ap_lF, ap_lCat, catL_ok, ap_lRep, repL_ok, ap_lSl, slL_lst, slL_scr, ap_iD, itL_lst, itL_scr, ap_iT, itT_tup, itT_ktp, ap_iS, itS_str, ap_iR1, itR1_ok, add_i, add_s, add_l, addX_i, addX_s, sub_i, mul_i, div_i, mod_i, pow_i, shl_i, shr_i, and_i, or_i, xor_i, neg_i, not_b, lt_i, le_i, gt_i, ge_i, eq_i, eq_s, ne_i, ne_s, is_non, is_int, is_str, is_tup, is_lst, isnt_non, isnt_int, isnt_str, isnt_tup, toBl_b, toIn_i, ix_s, ix_l, ix_r, ix_t, ix_k, sl_s, sl_l, sl_r, sl_t, len_s, len_l, len_r, len_t, len_k, int_i, int_b, abs_i, min_i, max_i, tup_l, tup_t, list_l, list_r, list_t, isi_i, isi_b, isi_s, isi_l, isi_t, isi_n, ty_ii, ty_bi, ty_ss, ty_ll, ty_tt, ty_tl, ty_lt, ty_tn, find_s, lower_s, sq_nx, sq_sq, sq_a, sq_o, sq_x, sq_if, sq_ret, sq_retL, oOf_o, sq_retO, sq_app, lstK_l, sq_ext, sq_aug, sq_g, sq_frz, sq_br, sq_ct, sq_raise, ofG_some, nx_ap, thenS_nx, thenS_rt, thenS_exc, sq_for, sq_wh, endV_v, endV_o, endV_n, endV_x, endL_o, endL_x, gN_ap, List.getElem?_cons_zero, List.getElem?_cons_succ, List.set_cons_zero, List.set_cons_succ, List.length_cons, List.length_nil, decide_eq_true_eq, Bool.not_eq_true, reduceIte, Bool.false_eq_true, decide_true, decide_false, Nat.reduceAdd, Nat.reduceLeDiff, Nat.reduceLT, Bool.not_true, Bool.not_false, List.nil_append, List.cons_append, List.map_cons, List.map_nil, List.replicate_succ, List.replicate_zero, Bool.not_eq_eq_eq_not, decide_eq_false_iff_not, and_self, and_true, true_and, and_false, false_and, or_true, true_or, or_false, false_or, or_self, Int.reduceLE, Int.reduceLT, Int.reduceNeg, Int.reduceAdd, Int.reduceSub, Int.reduceMul, Int.reduceDiv, Int.reduceMod, Int.reduceEq, Int.reduceToNat, Nat.reduceEqDiff, frz_zero, frz_succ, gT_tup, gT_ktp, gC_ap, gE_nil, cast_0, cast_1, cast_2, cast_3, cast_4, cast_5, cast_6, cast_7, cast_8, cast_9, ty_bs, ty_is, frz_zeroV, oOfR_o, ap_lenO, ap_ixO, tOf_some, pOf_fn, ap_P, ap_iZT, itZT_ok, zipD_cons, zipD_nil, str_i, sq_set, oOfS_o, set_ints, hr, ix0, ix0', h, N.ln, N.k, N.w, cv, a0, a1, eq_false hw, eq_true hw2]
  cases m_extend32_s [.str kk, .int x] <;> rfl
theorem calc_one {nm kk word : Str} {ks : List D} {n : Nat} {m : List D → R D} {x : Int} (N : Nm nm ks kk word) (cv : dIn (.str nm) d_CONVERSIONS = .ok (.bl false)) (a0 : dIn (.str word) d_ARITHMETIC = .ok (.bl false)) (a1 : dIn (.str word) d_COMPARISONS = .ok (.bl false)) (hw : ¬ word = "eqz") (hw2 : ¬ word = "extend32_s") (ix : dIx d_COUNTS (.str word) = .ok (.fn n)) (tb : tb_COUNTS n = some m) (h : m_check_operands [.tup ks, .tup [.int x]] = .ok .non) :
    m_calculate [.str nm, .tup [.int x]] = m [.str kk, .int x] := by
  obtain ⟨r, hr⟩ := N.sig
  rw [e_calculate]
  unfold b_calculate
  simp only [bind_ok, bind_exc, bind_bad, ofE_ok, ofE_exc, vOf_v, ap_C, ap_V, ap_nil, ap_cons, ap_U, ap_B, ap_chain, ap_and, ap_or, ap_tup, ap_F, ap_M, ap_sl, ap_pN, ap_pS, ap_L, ap_tE, ap_tAn, ap_tO, ap_tN, ap_tY, ap_if, ap_lD, ap_lF, ap_lCat, catL_ok, ap_lRep, repL_ok, ap_lSl, slL_lst, slL_scr, ap_iD, itL_lst, itL_scr, ap_iT, itT_tup, itT_ktp, ap_iS, itS_str, ap_iR1, itR1_ok, add_i, add_s, add_l, addX_i, addX_s, sub_i, mul_i, div_i, mod_i, pow_i, shl_i, shr_i, and_i, or_i, xor_i, neg_i, not_b, lt_i, le_i, gt_i, ge_i, eq_i, eq_s, ne_i, ne_s, is_non, is_int, is_str, is_tup, is_lst, isnt_non, isnt_int, isnt_str, isnt_tup, toBl_b, toIn_i, ix_s, ix_l, ix_r, ix_t, ix_k, sl_s, sl_l, sl_r, sl_t, len_s, len_l, len_r, len_t, len_k, int_i, int_b, abs_i, min_i, max_i, tup_l, tup_t, list_l, list_r, list_t, isi_i, isi_b, isi_s, isi_l, isi_t, isi_n, ty_ii, ty_bi, ty_ss, ty_ll, ty_tt, ty_tl, ty_lt, ty_tn, find_s, lower_s, sq_nx, sq_sq, sq_a, sq_o, sq_x, sq_if, sq_ret, sq_retL, oOf_o, sq_retO, sq_app, lstK_l, sq_ext, sq_aug, sq_g, sq_frz, sq_br, sq_ct, sq_raise, ofG_some, nx_ap, thenS_nx, thenS_rt, thenS_exc, sq_for, sq_wh, endV_v, endV_o, endV_n, endV_x, endL_o, endL_x, gN_ap, List.getElem?_cons_zero, List.getElem?_cons_succ, List.set_cons_zero, List.set_cons_succ, List.length_cons, List.length_nil, decide_eq_true_eq, Bool.not_eq_true, reduceIte, Bool.false_eq_true, decide_true, decide_false, Nat.reduceAdd, Nat.reduceLeDiff, Nat.reduceLT, Bool.not_true, Bool.not_false, List.nil_append, List.cons_append, List.map_cons, List.map_nil, List.replicate_succ, List.replicate_zero, Bool.not_eq_eq_eq_not, decide_eq_false_iff_not, and_self, and_true, true_and, and_false, false_and, or_true, true_or, or_false, false_or, or_self, Int.reduceLE, Int.reduceLT, Int.reduceNeg, Int.reduceAdd, Int.reduceSub, Int.reduceMul, Int.reduceDiv, Int.reduceMod, Int.reduceEq, Int.reduceToNat, Nat.reduceEqDiff, frz_zero, frz_succ, gT_tup, gT_ktp, gC_ap, gE_nil, cast_0, cast_1, cast_2, cast_3, cast_4, cast_5, cast_6, cast_7, cast_8, cast_9, ty_bs, ty_is, frz_zeroV, oOfR_o, ap_lenO, ap_ixO, tOf_some, pOf_fn, ap_P, ap_iZT, itZT_ok, zipD_cons, zipD_nil, str_i, sq_set, oOfS_o, set_ints, hr, ix0, ix0', h, N.ln, N.k, N.w, cv, a0, a1, eq_false hw, eq_false hw2, ix, tb]
  cases m [.str kk, .int x] <;> rfl
theorem calc_cnv {nm kk word : Str} {ks : List D} {n : Nat} {m : List D → R D} {x : Int} (N : Nm nm ks kk word) (cv : dIn (.str nm) d_CONVERSIONS = .ok (.bl true)) (ix : dIx d_CONVERSIONS (.str nm) = .ok (.fn n)) (tb : tb_CONVERSIONS n = some m) (h : m_check_operands [.tup ks, .tup [.int x]] = .ok .non) :
    m_calculate [.str nm, .tup [.int x]] = m [.str kk, .int x] := by
  obtain ⟨r, hr⟩ := N.sig
  rw [e_calculate]
  unfold b_calculate
  simp only [bind_ok, bind_exc, bind_bad, ofE_ok, ofE_exc, vOf_v, ap_C, ap_V, ap_nil, ap_cons, ap_U, ap_B, ap_chain, ap_and, ap_or, ap_tup, ap_F, ap_M, ap_sl, ap_pN, ap_pS, ap_L, ap_tE, ap_tAn, ap_tO, ap_tN, ap_tY, ap_if, ap_lD, ap_lF, ap_lCat, catL_ok, ap_lRep, repL_ok, ap_lSl, slL_lst, slL_scr, ap_iD, itL_lst, itL_scr, ap_iT, itT_tup, itT_ktp, ap_iS, itS_str, ap_iR1, itR1_ok, add_i, add_s, add_l, addX_i, addX_s, sub_i, mul_i, div_i, mod_i, pow_i, shl_i, shr_i, and_i, or_i, xor_i, neg_i, not_b, lt_i, le_i, gt_i, ge_i, eq_i, eq_s, ne_i, ne_s, is_non, is_int, is_str, is_tup, is_lst, isnt_non, isnt_int, isnt_str, isnt_tup, toBl_b, toIn_i, ix_s, ix_l, ix_r, ix_t, ix_k, sl_s, sl_l, sl_r, sl_t, len_s, len_l, len_r, len_t, len_k, int_i, int_b, abs_i, min_i, max_i, tup_l, tup_t, list_l, list_r, list_t, isi_i, isi_b, isi_s, isi_l, isi_t, isi_n, ty_ii, ty_bi, ty_ss, ty_ll, ty_tt, ty_tl, ty_lt, ty_tn, find_s, lower_s, sq_nx, sq_sq, sq_a, sq_o, sq_x, sq_if, sq_ret, sq_retL, oOf_o, sq_retO, sq_app, lstK_l, sq_ext, sq_aug, sq_g, sq_frz, sq_br, sq_ct, sq_raise, ofG_some, nx_ap, thenS_nx, thenS_rt, thenS_exc, sq_for, sq_wh, endV_v, endV_o, endV_n, endV_x, endL_o, endL_x, gN_ap, List.getElem?_cons_zero, List.getElem?_cons_succ, List.set_cons_zero, List.set_cons_succ, List.length_cons, List.length_nil, decide_eq_true_eq, Bool.not_eq_true, reduceIte, Bool.false_eq_true, decide_true, decide_false, Nat.reduceAdd, Nat.reduceLeDiff, Nat.reduceLT, Bool.not_true, Bool.not_false, List.nil_append, List.cons_append, List.map_cons, List.map_nil, List.replicate_succ, List.replicate_zero, Bool.not_eq_eq_eq_not, decide_eq_false_iff_not, and_self, and_true, true_and, and_false, false_and, or_true, true_or, or_false, false_or, or_self, Int.reduceLE, Int.reduceLT, Int.reduceNeg, Int.reduceAdd, Int.reduceSub, Int.reduceMul, Int.reduceDiv, Int.reduceMod, Int.reduceEq, Int.reduceToNat, Nat.reduceEqDiff, frz_zero, frz_succ, gT_tup, gT_ktp, gC_ap, gE_nil, cast_0, cast_1, cast_2, cast_3, cast_4, cast_5, cast_6, cast_7, cast_8, cast_9, ty_bs, ty_is, frz_zeroV, oOfR_o, ap_lenO, ap_ixO, tOf_some, pOf_fn, ap_P, ap_iZT, itZT_ok, zipD_cons, zipD_nil, str_i, sq_set, oOfS_o, set_ints, hr, ix0, ix0', h, N.ln, N.k, N.w, cv, ix, tb]
  cases m [.str kk, .int x] <;> rfl
theorem N_i32_add : Nm "i32.add" [.str "i32", .str "i32"] "i32" "add" := ⟨by decide +kernel, ⟨_, by rfl⟩, by decide +kernel, by decide +kernel⟩
theorem C_i32_add {x y : Int} (hx : R32 x) (hy : R32 y) : m_calculate [.str "i32.add", .tup [.int x, .int y]] = .ok (.int (s32 (x + y))) := by
  rw [calc_ari N_i32_add (by rfl) (by rfl) rfl rfl (chk2 KW.a hx hy)]
  exact add_ok KW.a x y
theorem N_i32_sub : Nm "i32.sub" [.str "i32", .str "i32"] "i32" "sub" := ⟨by decide +kernel, ⟨_, by rfl⟩, by decide +kernel, by decide +kernel⟩
theorem C_i32_sub {x y : Int} (hx : R32 x) (hy : R32 y) : m_calculate [.str "i32.sub", .tup [.int x, .int y]] = .ok (.int (s32 (x - y))) := by
  rw [calc_ari N_i32_sub (by rfl) (by rfl) rfl rfl (chk2 KW.a hx hy)]
  exact sub_ok KW.a x y
theorem N_i32_mul : Nm "i32.mul" [.str "i32", .str "i32"] "i32" "mul" := ⟨by decide +kernel, ⟨_, by rfl⟩, by decide +kernel, by decide +kernel⟩
theorem C_i32_mul {x y : Int} (hx : R32 x) (hy : R32 y) : m_calculate [.str "i32.mul", .tup [.int x, .int y]] = .ok (.int (s32 (x * y))) := by
  rw [calc_ari N_i32_mul (by rfl) (by rfl) rfl rfl (chk2 KW.a hx hy)]
  exact mul_ok KW.a hx y
theorem N_i32_and : Nm "i32.and" [.str "i32", .str "i32"] "i32" "and" := ⟨by decide +kernel, ⟨_, by rfl⟩, by decide +kernel, by decide +kernel⟩
theorem C_i32_and {x y : Int} (hx : R32 x) (hy : R32 y) : m_calculate [.str "i32.and", .tup [.int x, .int y]] = .ok (.int (Builtin.bitAnd x y)) := by
  rw [calc_ari N_i32_and (by rfl) (by rfl) rfl rfl (chk2 KW.a hx hy)]
  exact and_ok _ x y
theorem N_i32_or : Nm "i32.or" [.str "i32", .str "i32"] "i32" "or" := ⟨by decide +kernel, ⟨_, by rfl⟩, by decide +kernel, by decide +kernel⟩
theorem C_i32_or {x y : Int} (hx : R32 x) (hy : R32 y) : m_calculate [.str "i32.or", .tup [.int x, .int y]] = .ok (.int (Builtin.bitOr x y)) := by
  rw [calc_ari N_i32_or (by rfl) (by rfl) rfl rfl (chk2 KW.a hx hy)]
  exact or_ok _ x y
theorem N_i32_xor : Nm "i32.xor" [.str "i32", .str "i32"] "i32" "xor" := ⟨by decide +kernel, ⟨_, by rfl⟩, by decide +kernel, by decide +kernel⟩
theorem C_i32_xor {x y : Int} (hx : R32 x) (hy : R32 y) : m_calculate [.str "i32.xor", .tup [.int x, .int y]] = .ok (.int (Builtin.bitXor x y)) := by
  rw [calc_ari N_i32_xor (by rfl) (by rfl) rfl rfl (chk2 KW.a hx hy)]
  exact xor_ok _ x y
theorem N_i32_eq : Nm "i32.eq" [.str "i32", .str "i32"] "i32" "eq" := ⟨by decide +kernel, ⟨_, by rfl⟩, by decide +kernel, by decide +kernel⟩
theorem C_i32_eq {x y : Int} (hx : R32 x) (hy : R32 y) : m_calculate [.str "i32.eq", .tup [.int x, .int y]] = .ok (.int (if x = y then 1 else 0)) := by
  rw [calc_cmp N_i32_eq (by rfl) (by rfl) (by rfl) rfl rfl (chk2 KW.a hx hy)]
  exact eq_ok _ x y
theorem N_i32_lt_s : Nm "i32.lt_s" [.str "i32", .str "i32"] "i32" "lt_s" := ⟨by decide +kernel, ⟨_, by rfl⟩, by decide +kernel, by decide +kernel⟩
theorem C_i32_lt_s {x y : Int} (hx : R32 x) (hy : R32 y) : m_calculate [.str "i32.lt_s", .tup [.int x, .int y]] = .ok (.int (if x < y then 1 else 0)) := by
  rw [calc_cmp N_i32_lt_s (by rfl) (by rfl) (by rfl) rfl rfl (chk2 KW.a hx hy)]
  exact lt_s_ok _ x y
theorem N_i32_lt_u : Nm "i32.lt_u" [.str "i32", .str "i32"] "i32" "lt_u" := ⟨by decide +kernel, ⟨_, by rfl⟩, by decide +kernel, by decide +kernel⟩
theorem C_i32_lt_u {x y : Int} (hx : R32 x) (hy : R32 y) : m_calculate [.str "i32.lt_u", .tup [.int x, .int y]] = .ok (.int (if x % 4294967296 < y % 4294967296 then 1 else 0)) := by
  rw [calc_cmp N_i32_lt_u (by rfl) (by rfl) (by rfl) rfl rfl (chk2 KW.a hx hy)]
  exact lt_u_ok KW.a x y
theorem N_i32_clz : Nm "i32.clz" [.str "i32"] "i32" "clz" := ⟨by decide +kernel, ⟨_, by rfl⟩, by decide +kernel, by decide +kernel⟩
theorem C_i32_clz {x : Int} (hx : R32 x) : m_calculate [.str "i32.clz", .tup [.int x]] = .ok (.int (32 - (blen 32 (x % 4294967296) : Int))) := by
  rw [calc_one N_i32_clz (by rfl) (by rfl) (by rfl) (by decide +kernel) (by decide +kernel) rfl rfl (ck1 KW.a hx)]
  exact clz_ok KW.a x
theorem N_i32_ctz : Nm "i32.ctz" [.str "i32"] "i32" "ctz" := ⟨by decide +kernel, ⟨_, by rfl⟩, by decide +kernel, by decide +kernel⟩
theorem C_i32_ctz {x : Int} (hx : R32 x) : m_calculate [.str "i32.ctz", .tup [.int x]] = .ok (.int ((tz x 32 0 : Nat))) := by
  rw [calc_one N_i32_ctz (by rfl) (by rfl) (by rfl) (by decide +kernel) (by decide +kernel) rfl rfl (ck1 KW.a hx)]
  exact ctz_ok KW.a x
theorem N_i32_popcnt : Nm "i32.popcnt" [.str "i32"] "i32" "popcnt" := ⟨by decide +kernel, ⟨_, by rfl⟩, by decide +kernel, by decide +kernel⟩
theorem C_i32_popcnt {x : Int} (hx : R32 x) : m_calculate [.str "i32.popcnt", .tup [.int x]] = .ok (.int (pc x 32)) := by
  rw [calc_one N_i32_popcnt (by rfl) (by rfl) (by rfl) (by decide +kernel) (by decide +kernel) rfl rfl (ck1 KW.a hx)]
  exact popcnt_ok KW.a x
theorem N_i64_add : Nm "i64.add" [.str "i64", .str "i64"] "i64" "add" := ⟨by decide +kernel, ⟨_, by rfl⟩, by decide +kernel, by decide +kernel⟩
theorem C_i64_add {x y : Int} (hx : R64 x) (hy : R64 y) : m_calculate [.str "i64.add", .tup [.int x, .int y]] = .ok (.int (s64 (x + y))) := by
  rw [calc_ari N_i64_add (by rfl) (by rfl) rfl rfl (chk2 KW.b hx hy)]
  exact add_ok KW.b x y
theorem N_i64_sub : Nm "i64.sub" [.str "i64", .str "i64"] "i64" "sub" := ⟨by decide +kernel, ⟨_, by rfl⟩, by decide +kernel, by decide +kernel⟩
theorem C_i64_sub {x y : Int} (hx : R64 x) (hy : R64 y) : m_calculate [.str "i64.sub", .tup [.int x, .int y]] = .ok (.int (s64 (x - y))) := by
  rw [calc_ari N_i64_sub (by rfl) (by rfl) rfl rfl (chk2 KW.b hx hy)]
  exact sub_ok KW.b x y
theorem N_i64_mul : Nm "i64.mul" [.str "i64", .str "i64"] "i64" "mul" := ⟨by decide +kernel, ⟨_, by rfl⟩, by decide +kernel, by decide +kernel⟩
theorem C_i64_mul {x y : Int} (hx : R64 x) (hy : R64 y) : m_calculate [.str "i64.mul", .tup [.int x, .int y]] = .ok (.int (s64 (x * y))) := by
  rw [calc_ari N_i64_mul (by rfl) (by rfl) rfl rfl (chk2 KW.b hx hy)]
  exact mul_ok KW.b hx y
theorem N_i64_and : Nm "i64.and" [.str "i64", .str "i64"] "i64" "and" := ⟨by decide +kernel, ⟨_, by rfl⟩, by decide +kernel, by decide +kernel⟩
theorem C_i64_and {x y : Int} (hx : R64 x) (hy : R64 y) : m_calculate [.str "i64.and", .tup [.int x, .int y]] = .ok (.int (Builtin.bitAnd x y)) := by
  rw [calc_ari N_i64_and (by rfl) (by rfl) rfl rfl (chk2 KW.b hx hy)]
  exact and_ok _ x y
theorem N_i64_or : Nm "i64.or" [.str "i64", .str "i64"] "i64" "or" := ⟨by decide +kernel, ⟨_, by rfl⟩, by decide +kernel, by decide +kernel⟩
theorem C_i64_or {x y : Int} (hx : R64 x) (hy : R64 y) : m_calculate [.str "i64.or", .tup [.int x, .int y]] = .ok (.int (Builtin.bitOr x y)) := by
  rw [calc_ari N_i64_or (by rfl) (by rfl) rfl rfl (chk2 KW.b hx hy)]
  exact or_ok _ x y
theorem N_i64_xor : Nm "i64.xor" [.str "i64", .str "i64"] "i64" "xor" := ⟨by decide +kernel, ⟨_, by rfl⟩, by decide +kernel, by decide +kernel⟩
theorem C_i64_xor {x y : Int} (hx : R64 x) (hy : R64 y) : m_calculate [.str "i64.xor", .tup [.int x, .int y]] = .ok (.int (Builtin.bitXor x y)) := by
  rw [calc_ari N_i64_xor (by rfl) (by rfl) rfl rfl (chk2 KW.b hx hy)]
  exact xor_ok _ x y
theorem N_i64_eq : Nm "i64.eq" [.str "i64", .str "i64"] "i64" "eq" := ⟨by decide +kernel, ⟨_, by rfl⟩, by decide +kernel, by decide +kernel⟩
theorem C_i64_eq {x y : Int} (hx : R64 x) (hy : R64 y) : m_calculate [.str "i64.eq", .tup [.int x, .int y]] = .ok (.int (if x = y then 1 else 0)) := by
  rw [calc_cmp N_i64_eq (by rfl) (by rfl) (by rfl) rfl rfl (chk2 KW.b hx hy)]
  exact eq_ok _ x y
theorem N_i64_lt_s : Nm "i64.lt_s" [.str "i64", .str "i64"] "i64" "lt_s" := ⟨by decide +kernel, ⟨_, by rfl⟩, by decide +kernel, by decide +kernel⟩
theorem C_i64_lt_s {x y : Int} (hx : R64 x) (hy : R64 y) : m_calculate [.str "i64.lt_s", .tup [.int x, .int y]] = .ok (.int (if x < y then 1 else 0)) := by
  rw [calc_cmp N_i64_lt_s (by rfl) (by rfl) (by rfl) rfl rfl (chk2 KW.b hx hy)]
  exact lt_s_ok _ x y
theorem N_i64_lt_u : Nm "i64.lt_u" [.str "i64", .str "i64"] "i64" "lt_u" := ⟨by decide +kernel, ⟨_, by rfl⟩, by decide +kernel, by decide +kernel⟩
theorem C_i64_lt_u {x y : Int} (hx : R64 x) (hy : R64 y) : m_calculate [.str "i64.lt_u", .tup [.int x, .int y]] = .ok (.int (if x % 18446744073709551616 < y % 18446744073709551616 then 1 else 0)) := by
  rw [calc_cmp N_i64_lt_u (by rfl) (by rfl) (by rfl) rfl rfl (chk2 KW.b hx hy)]
  exact lt_u_ok KW.b x y
theorem N_i64_gt_s : Nm "i64.gt_s" [.str "i64", .str "i64"] "i64" "gt_s" := ⟨by decide +kernel, ⟨_, by rfl⟩, by decide +kernel, by decide +kernel⟩
theorem C_i64_gt_s {x y : Int} (hx : R64 x) (hy : R64 y) : m_calculate [.str "i64.gt_s", .tup [.int x, .int y]] = .ok (.int (if y < x then 1 else 0)) := by
  rw [calc_cmp N_i64_gt_s (by rfl) (by rfl) (by rfl) rfl rfl (chk2 KW.b hx hy)]
  exact gt_s_ok _ x y
theorem N_i64_le_s : Nm "i64.le_s" [.str "i64", .str "i64"] "i64" "le_s" := ⟨by decide +kernel, ⟨_, by rfl⟩, by decide +kernel, by decide +kernel⟩
theorem C_i64_le_s {x y : Int} (hx : R64 x) (hy : R64 y) : m_calculate [.str "i64.le_s", .tup [.int x, .int y]] = .ok (.int (if x ≤ y then 1 else 0)) := by
  rw [calc_cmp N_i64_le_s (by rfl) (by rfl) (by rfl) rfl rfl (chk2 KW.b hx hy)]
  exact le_s_ok _ x y
theorem N_i64_ge_s : Nm "i64.ge_s" [.str "i64", .str "i64"] "i64" "ge_s" := ⟨by decide +kernel, ⟨_, by rfl⟩, by decide +kernel, by decide +kernel⟩
theorem C_i64_ge_s {x y : Int} (hx : R64 x) (hy : R64 y) : m_calculate [.str "i64.ge_s", .tup [.int x, .int y]] = .ok (.int (if y ≤ x then 1 else 0)) := by
  rw [calc_cmp N_i64_ge_s (by rfl) (by rfl) (by rfl) rfl rfl (chk2 KW.b hx hy)]
  exact ge_s_ok _ x y
theorem N_i64_gt_u : Nm "i64.gt_u" [.str "i64", .str "i64"] "i64" "gt_u" := ⟨by decide +kernel, ⟨_, by rfl⟩, by decide +kernel, by decide +kernel⟩
theorem C_i64_gt_u {x y : Int} (hx : R64 x) (hy : R64 y) : m_calculate [.str "i64.gt_u", .tup [.int x, .int y]] = .ok (.int (if y % 18446744073709551616 < x % 18446744073709551616 then 1 else 0)) := by
  rw [calc_cmp N_i64_gt_u (by rfl) (by rfl) (by rfl) rfl rfl (chk2 KW.b hx hy)]
  exact gt_u_ok KW.b x y
theorem N_i64_le_u : Nm "i64.le_u" [.str "i64", .str "i64"] "i64" "le_u" := ⟨by decide +kernel, ⟨_, by rfl⟩, by decide +kernel, by decide +kernel⟩
theorem C_i64_le_u {x y : Int} (hx : R64 x) (hy : R64 y) : m_calculate [.str "i64.le_u", .tup [.int x, .int y]] = .ok (.int (if x % 18446744073709551616 ≤ y % 18446744073709551616 then 1 else 0)) := by
  rw [calc_cmp N_i64_le_u (by rfl) (by rfl) (by rfl) rfl rfl (chk2 KW.b hx hy)]
  exact le_u_ok KW.b x y
theorem N_i64_ge_u : Nm "i64.ge_u" [.str "i64", .str "i64"] "i64" "ge_u" := ⟨by decide +kernel, ⟨_, by rfl⟩, by decide +kernel, by decide +kernel⟩
theorem C_i64_ge_u {x y : Int} (hx : R64 x) (hy : R64 y) : m_calculate [.str "i64.ge_u", .tup [.int x, .int y]] = .ok (.int (if y % 18446744073709551616 ≤ x % 18446744073709551616 then 1 else 0)) := by
  rw [calc_cmp N_i64_ge_u (by rfl) (by rfl) (by rfl) rfl rfl (chk2 KW.b hx hy)]
  exact ge_u_ok KW.b x y
theorem N_i64_div_s : Nm "i64.div_s" [.str "i64", .str "i64"] "i64" "div_s" := ⟨by decide +kernel, ⟨_, by rfl⟩, by decide +kernel, by decide +kernel⟩
theorem C_i64_div_s {x y : Int} (hx : R64 x) (hy : R64 y) (h0 : y ≠ 0) (hq : R64 (quo x y)) : m_calculate [.str "i64.div_s", .tup [.int x, .int y]] = .ok (.int (quo x y)) := by
  rw [calc_ari N_i64_div_s (by rfl) (by rfl) rfl rfl (chk2 KW.b hx hy)]
  exact div_s_ok KW.b hy h0 hq
theorem N_i64_rem_s : Nm "i64.rem_s" [.str "i64", .str "i64"] "i64" "rem_s" := ⟨by decide +kernel, ⟨_, by rfl⟩, by decide +kernel, by decide +kernel⟩
theorem C_i64_rem_s {x y : Int} (hx : R64 x) (hy : R64 y) (h0 : y ≠ 0) : m_calculate [.str "i64.rem_s", .tup [.int x, .int y]] = .ok (.int (x - y * quo x y)) := by
  rw [calc_ari N_i64_rem_s (by rfl) (by rfl) rfl rfl (chk2 KW.b hx hy)]
  exact rem_s_ok KW.b hy h0
theorem N_i64_div_u : Nm "i64.div_u" [.str "i64", .str "i64"] "i64" "div_u" := ⟨by decide +kernel, ⟨_, by rfl⟩, by decide +kernel, by decide +kernel⟩
theorem C_i64_div_u {x y : Int} (hx : R64 x) (hy : R64 y) (h0 : y ≠ 0) : m_calculate [.str "i64.div_u", .tup [.int x, .int y]] = .ok (.int (s64 (x % 18446744073709551616 / (y % 18446744073709551616)))) := by
  rw [calc_ari N_i64_div_u (by rfl) (by rfl) rfl rfl (chk2 KW.b hx hy)]
  exact div_u_ok KW.b hy h0
theorem N_i64_rem_u : Nm "i64.rem_u" [.str "i64", .str "i64"] "i64" "rem_u" := ⟨by decide +kernel, ⟨_, by rfl⟩, by decide +kernel, by decide +kernel⟩
theorem C_i64_rem_u {x y : Int} (hx : R64 x) (hy : R64 y) (h0 : y ≠ 0) : m_calculate [.str "i64.rem_u", .tup [.int x, .int y]] = .ok (.int (s64 (x % 18446744073709551616 - y % 18446744073709551616 * (x % 18446744073709551616 / (y % 18446744073709551616))))) := by
  rw [calc_ari N_i64_rem_u (by rfl) (by rfl) rfl rfl (chk2 KW.b hx hy)]
  exact rem_u_ok KW.b hy h0
theorem N_i64_shl : Nm "i64.shl" [.str "i64", .str "i64"] "i64" "shl" := ⟨by decide +kernel, ⟨_, by rfl⟩, by decide +kernel, by decide +kernel⟩
theorem C_i64_shl {x y : Int} (hx : R64 x) (hy : R64 y) {c : Nat} (hc : y % 64 = c) (hw : c < 64) : m_calculate [.str "i64.shl", .tup [.int x, .int y]] = .ok (.int (s64 (x * 2 ^ c))) := by
  rw [calc_ari N_i64_shl (by rfl) (by rfl) rfl rfl (chk2 KW.b hx hy)]
  exact shl_ok KW.b hx hc hw
theorem N_i64_shr_u : Nm "i64.shr_u" [.str "i64", .str "i64"] "i64" "shr_u" := ⟨by decide +kernel, ⟨_, by rfl⟩, by decide +kernel, by decide +kernel⟩
theorem C_i64_shr_u {x y : Int} (hx : R64 x) (hy : R64 y) {c : Nat} (hc : y % 64 = c) : m_calculate [.str "i64.shr_u", .tup [.int x, .int y]] = .ok (.int (s64 (x % 18446744073709551616 / 2 ^ c))) := by
  rw [calc_ari N_i64_shr_u (by rfl) (by rfl) rfl rfl (chk2 KW.b hx hy)]
  exact shr_u_ok KW.b hc
theorem N_i64_rotl : Nm "i64.rotl" [.str "i64", .str "i64"] "i64" "rotl" := ⟨by decide +kernel, ⟨_, by rfl⟩, by decide +kernel, by decide +kernel⟩
theorem C_i64_rotl {x y : Int} (hx : R64 x) (hy : R64 y) {c : Nat} (hc : y % 64 = c) (hw : c < 64) : m_calculate [.str "i64.rotl", .tup [.int x, .int y]] = .ok (.int (s64 (Builtin.bitOr (x % 18446744073709551616 * 2 ^ c) (x % 18446744073709551616 / 2 ^ (64 - c))))) := by
  rw [calc_ari N_i64_rotl (by rfl) (by rfl) rfl rfl (chk2 KW.b hx hy)]
  exact rotl_ok KW.b hc hw
theorem N_i64_rotr : Nm "i64.rotr" [.str "i64", .str "i64"] "i64" "rotr" := ⟨by decide +kernel, ⟨_, by rfl⟩, by decide +kernel, by decide +kernel⟩
theorem C_i64_rotr {x y : Int} (hx : R64 x) (hy : R64 y) {c : Nat} (hc : y % 64 = c) (hw : c < 64) : m_calculate [.str "i64.rotr", .tup [.int x, .int y]] = .ok (.int (s64 (Builtin.bitOr (x % 18446744073709551616 / 2 ^ c) (x % 18446744073709551616 * 2 ^ (64 - c))))) := by
  rw [calc_ari N_i64_rotr (by rfl) (by rfl) rfl rfl (chk2 KW.b hx hy)]
  exact rotr_ok KW.b hc hw
theorem N_i64_eqz : Nm "i64.eqz" [.str "i64"] "i64" "eqz" := ⟨by decide +kernel, ⟨_, by rfl⟩, by decide +kernel, by decide +kernel⟩
theorem C_i64_eqz {x : Int} (hx : R64 x) : m_calculate [.str "i64.eqz", .tup [.int x]] = .ok (.int (if x = 0 then 1 else 0)) := by
  rw [calc_eqz N_i64_eqz (by rfl) (by rfl) (by rfl) rfl (ck1 KW.b hx)]
  exact eqz_ok _ x
theorem N_i64_clz : Nm "i64.clz" [.str "i64"] "i64" "clz" := ⟨by decide +kernel, ⟨_, by rfl⟩, by decide +kernel, by decide +kernel⟩
theorem C_i64_clz {x : Int} (hx : R64 x) : m_calculate [.str "i64.clz", .tup [.int x]] = .ok (.int (64 - (blen 64 (x % 18446744073709551616) : Int))) := by
  rw [calc_one N_i64_clz (by rfl) (by rfl) (by rfl) (by decide +kernel) (by decide +kernel) rfl rfl (ck1 KW.b hx)]
  exact clz_ok KW.b x
theorem N_i64_ctz : Nm "i64.ctz" [.str "i64"] "i64" "ctz" := ⟨by decide +kernel, ⟨_, by rfl⟩, by decide +kernel, by decide +kernel⟩
theorem C_i64_ctz {x : Int} (hx : R64 x) : m_calculate [.str "i64.ctz", .tup [.int x]] = .ok (.int ((tz x 64 0 : Nat))) := by
  rw [calc_one N_i64_ctz (by rfl) (by rfl) (by rfl) (by decide +kernel) (by decide +kernel) rfl rfl (ck1 KW.b hx)]
  exact ctz_ok KW.b x
theorem N_i64_popcnt : Nm "i64.popcnt" [.str "i64"] "i64" "popcnt" := ⟨by decide +kernel, ⟨_, by rfl⟩, by decide +kernel, by decide +kernel⟩
theorem C_i64_popcnt {x : Int} (hx : R64 x) : m_calculate [.str "i64.popcnt", .tup [.int x]] = .ok (.int (pc x 64)) := by
  rw [calc_one N_i64_popcnt (by rfl) (by rfl) (by rfl) (by decide +kernel) (by decide +kernel) rfl rfl (ck1 KW.b hx)]
  exact popcnt_ok KW.b x
theorem N_i32_wrap_i64 : Nm "i32.wrap_i64" [.str "i64"] "i32" "wrap_i64" := ⟨by decide +kernel, ⟨_, by rfl⟩, by decide +kernel, by decide +kernel⟩
theorem C_i32_wrap_i64 {x : Int} (hx : R64 x) : m_calculate [.str "i32.wrap_i64", .tup [.int x]] = .ok (.int (s32 x)) := by
  rw [calc_cnv N_i32_wrap_i64 (by rfl) rfl rfl (ck1 KW.b hx)]
  exact ext32_ok _ x
theorem N_i64_extend_i32_s : Nm "i64.extend_i32_s" [.str "i32"] "i64" "extend_i32_s" := ⟨by decide +kernel, ⟨_, by rfl⟩, by decide +kernel, by decide +kernel⟩
theorem C_i64_extend_i32_s {x : Int} (hx : R32 x) : m_calculate [.str "i64.extend_i32_s", .tup [.int x]] = .ok (.int (s32 x)) := by
  rw [calc_cnv N_i64_extend_i32_s (by rfl) rfl rfl (ck1 KW.a hx)]
  exact ext32_ok _ x
theorem N_i64_extend_i32_u : Nm "i64.extend_i32_u" [.str "i32"] "i64" "extend_i32_u" := ⟨by decide +kernel, ⟨_, by rfl⟩, by decide +kernel, by decide +kernel⟩
theorem C_i64_extend_i32_u {x : Int} (hx : R32 x) : m_calculate [.str "i64.extend_i32_u", .tup [.int x]] = .ok (.int (x % 4294967296)) := by
  rw [calc_cnv N_i64_extend_i32_u (by rfl) rfl rfl (ck1 KW.a hx)]
  exact extu_ok _ x
/-! halves -/
theorem r64_of {x : Int} (h : R32 x) : R64 x := by unfold R32 at h; unfold R64; omega
theorem r64_u (x : Int) : R64 (x % 4294967296) := by unfold R64; omega
theorem r32_if {p : Prop} [Decidable p] : R32 (if p then 1 else 0) := by split <;> (unfold R32; omega)
theorem low_ok {a : Int} (h : R64 a) : m_l_low [.int a] = .ok (.int (s32 a)) := by
  rw [e_l_low]
  unfold b_l_low
  simp only [bind_ok, bind_exc, bind_bad, ofE_ok, ofE_exc, vOf_v, ap_C, ap_V, ap_nil, ap_cons, ap_U, ap_B, ap_chain, ap_and, ap_or, ap_tup, ap_F, ap_M, ap_sl, ap_pN, ap_pS, ap_L, ap_tE, ap_tAn, ap_tO, ap_tN, ap_tY, ap_if, ap_lD, ap_lF, ap_lCat, catL_ok, ap_lRep, repL_ok, ap_lSl, slL_lst, slL_scr, ap_iD, itL_lst, itL_scr, ap_iT, itT_tup, itT_ktp, ap_iS, itS_str, ap_iR1, itR1_ok, add_i, add_s, add_l, addX_i, addX_s, sub_i, mul_i, div_i, mod_i, pow_i, shl_i, shr_i, and_i, or_i, xor_i, neg_i, not_b, lt_i, le_i, gt_i, ge_i, eq_i, eq_s, ne_i, ne_s, is_non, is_int, is_str, is_tup, is_lst, isnt_non, isnt_int, isnt_str, isnt_tup, toBl_b, toIn_i, ix_s, ix_l, ix_r, ix_t, ix_k, sl_s, sl_l, sl_r, sl_t, len_s, len_l, len_r, len_t, len_k, int_i, int_b, abs_i, min_i, max_i, tup_l, tup_t, list_l, list_r, list_t, isi_i, isi_b, isi_s, isi_l, isi_t, isi_n, ty_ii, ty_bi, ty_ss, ty_ll, ty_tt, ty_tl, ty_lt, ty_tn, find_s, lower_s, sq_nx, sq_sq, sq_a, sq_o, sq_x, sq_if, sq_ret, sq_retL, oOf_o, sq_retO, sq_app, lstK_l, sq_ext, sq_aug, sq_g, sq_frz, sq_br, sq_ct, sq_raise, ofG_some, nx_ap, thenS_nx, thenS_rt, thenS_exc, sq_for, sq_wh, endV_v, endV_o, endV_n, endV_x, endL_o, endL_x, gN_ap, List.getElem?_cons_zero, List.getElem?_cons_succ, List.set_cons_zero, List.set_cons_succ, List.length_cons, List.length_nil, decide_eq_true_eq, Bool.not_eq_true, reduceIte, Bool.false_eq_true, decide_true, decide_false, Nat.reduceAdd, Nat.reduceLeDiff, Nat.reduceLT, Bool.not_true, Bool.not_false, List.nil_append, List.cons_append, List.map_cons, List.map_nil, List.replicate_succ, List.replicate_zero, Bool.not_eq_eq_eq_not, decide_eq_false_iff_not, and_self, and_true, true_and, and_false, false_and, or_true, true_or, or_false, false_or, or_self, Int.reduceLE, Int.reduceLT, Int.reduceNeg, Int.reduceAdd, Int.reduceSub, Int.reduceMul, Int.reduceDiv, Int.reduceMod, Int.reduceEq, Int.reduceToNat, Nat.reduceEqDiff, frz_zero, frz_succ, gT_tup, gT_ktp, gC_ap, gE_nil, cast_0, cast_1, cast_2, cast_3, cast_4, cast_5, cast_6, cast_7, cast_8, cast_9, ty_bs, ty_is, frz_zeroV, oOfR_o, ap_lenO, ap_ixO, tOf_some, pOf_fn, ap_P, ap_iZT, itZT_ok, zipD_cons, zipD_nil, str_i, sq_set, oOfS_o, set_ints, C_i32_wrap_i64 h]
theorem c32' : (32 : Int) % 64 = (32 : Nat) := by decide
theorem high_ok {a : Int} (h : R64 a) : m_l_high [.int a] = .ok (.int (a / 4294967296)) := by
  have e1 := C_i64_shr_u (y := 32) h (by unfold R64; omega) c32'
  have e2 := C_i32_wrap_i64 (s64_in (a % 18446744073709551616 / 2 ^ 32))
  have e3 : s32 (s64 (a % 18446744073709551616 / 2 ^ 32)) = a / 4294967296 := high_eq h
  rw [e3] at e2
  rw [e_l_high]
  unfold b_l_high
  simp only [bind_ok, bind_exc, bind_bad, ofE_ok, ofE_exc, vOf_v, ap_C, ap_V, ap_nil, ap_cons, ap_U, ap_B, ap_chain, ap_and, ap_or, ap_tup, ap_F, ap_M, ap_sl, ap_pN, ap_pS, ap_L, ap_tE, ap_tAn, ap_tO, ap_tN, ap_tY, ap_if, ap_lD, ap_lF, ap_lCat, catL_ok, ap_lRep, repL_ok, ap_lSl, slL_lst, slL_scr, ap_iD, itL_lst, itL_scr, ap_iT, itT_tup, itT_ktp, ap_iS, itS_str, ap_iR1, itR1_ok, add_i, add_s, add_l, addX_i, addX_s, sub_i, mul_i, div_i, mod_i, pow_i, shl_i, shr_i, and_i, or_i, xor_i, neg_i, not_b, lt_i, le_i, gt_i, ge_i, eq_i, eq_s, ne_i, ne_s, is_non, is_int, is_str, is_tup, is_lst, isnt_non, isnt_int, isnt_str, isnt_tup, toBl_b, toIn_i, ix_s, ix_l, ix_r, ix_t, ix_k, sl_s, sl_l, sl_r, sl_t, len_s, len_l, len_r, len_t, len_k, int_i, int_b, abs_i, min_i, max_i, tup_l, tup_t, list_l, list_r, list_t, isi_i, isi_b, isi_s, isi_l, isi_t, isi_n, ty_ii, ty_bi, ty_ss, ty_ll, ty_tt, ty_tl, ty_lt, ty_tn, find_s, lower_s, sq_nx, sq_sq, sq_a, sq_o, sq_x, sq_if, sq_ret, sq_retL, oOf_o, sq_retO, sq_app, lstK_l, sq_ext, sq_aug, sq_g, sq_frz, sq_br, sq_ct, sq_raise, ofG_some, nx_ap, thenS_nx, thenS_rt, thenS_exc, sq_for, sq_wh, endV_v, endV_o, endV_n, endV_x, endL_o, endL_x, gN_ap, List.getElem?_cons_zero, List.getElem?_cons_succ, List.set_cons_zero, List.set_cons_succ, List.length_cons, List.length_nil, decide_eq_true_eq, Bool.not_eq_true, reduceIte, Bool.false_eq_true, decide_true, decide_false, Nat.reduceAdd, Nat.reduceLeDiff, Nat.reduceLT, Bool.not_true, Bool.not_false, List.nil_append, List.cons_append, List.map_cons, List.map_nil, List.replicate_succ, List.replicate_zero, Bool.not_eq_eq_eq_not, decide_eq_false_iff_not, and_self, and_true, true_and, and_false, false_and, or_true, true_or, or_false, false_or, or_self, Int.reduceLE, Int.reduceLT, Int.reduceNeg, Int.reduceAdd, Int.reduceSub, Int.reduceMul, Int.reduceDiv, Int.reduceMod, Int.reduceEq, Int.reduceToNat, Nat.reduceEqDiff, frz_zero, frz_succ, gT_tup, gT_ktp, gC_ap, gE_nil, cast_0, cast_1, cast_2, cast_3, cast_4, cast_5, cast_6, cast_7, cast_8, cast_9, ty_bs, ty_is, frz_zeroV, oOfR_o, ap_lenO, ap_ixO, tOf_some, pOf_fn, ap_P, ap_iZT, itZT_ok, zipD_cons, zipD_nil, str_i, sq_set, oOfS_o, set_ints, e1, e2]
theorem join_ok {h l : Int} (hh : R32 h) (hl : R32 l) : m_l_join [.int h, .int l] = .ok (.int (h * 4294967296 + l % 4294967296)) := by
  have e1 := C_i64_extend_i32_s hh
  rw [s32_id hh] at e1
  have e2 := C_i64_shl (y := 32) (r64_of hh) (by unfold R64; omega) c32' (by decide)
  have e3 := C_i64_extend_i32_u hl
  have e4 := C_i64_or (s64_in (h * 2 ^ 32)) (r64_u l)
  rw [join_eq hh] at e4
  rw [e_l_join]
  unfold b_l_join
  simp only [bind_ok, bind_exc, bind_bad, ofE_ok, ofE_exc, vOf_v, ap_C, ap_V, ap_nil, ap_cons, ap_U, ap_B, ap_chain, ap_and, ap_or, ap_tup, ap_F, ap_M, ap_sl, ap_pN, ap_pS, ap_L, ap_tE, ap_tAn, ap_tO, ap_tN, ap_tY, ap_if, ap_lD, ap_lF, ap_lCat, catL_ok, ap_lRep, repL_ok, ap_lSl, slL_lst, slL_scr, ap_iD, itL_lst, itL_scr, ap_iT, itT_tup, itT_ktp, ap_iS, itS_str, ap_iR1, itR1_ok, add_i, add_s, add_l, addX_i, addX_s, sub_i, mul_i, div_i, mod_i, pow_i, shl_i, shr_i, and_i, or_i, xor_i, neg_i, not_b, lt_i, le_i, gt_i, ge_i, eq_i, eq_s, ne_i, ne_s, is_non, is_int, is_str, is_tup, is_lst, isnt_non, isnt_int, isnt_str, isnt_tup, toBl_b, toIn_i, ix_s, ix_l, ix_r, ix_t, ix_k, sl_s, sl_l, sl_r, sl_t, len_s, len_l, len_r, len_t, len_k, int_i, int_b, abs_i, min_i, max_i, tup_l, tup_t, list_l, list_r, list_t, isi_i, isi_b, isi_s, isi_l, isi_t, isi_n, ty_ii, ty_bi, ty_ss, ty_ll, ty_tt, ty_tl, ty_lt, ty_tn, find_s, lower_s, sq_nx, sq_sq, sq_a, sq_o, sq_x, sq_if, sq_ret, sq_retL, oOf_o, sq_retO, sq_app, lstK_l, sq_ext, sq_aug, sq_g, sq_frz, sq_br, sq_ct, sq_raise, ofG_some, nx_ap, thenS_nx, thenS_rt, thenS_exc, sq_for, sq_wh, endV_v, endV_o, endV_n, endV_x, endL_o, endL_x, gN_ap, List.getElem?_cons_zero, List.getElem?_cons_succ, List.set_cons_zero, List.set_cons_succ, List.length_cons, List.length_nil, decide_eq_true_eq, Bool.not_eq_true, reduceIte, Bool.false_eq_true, decide_true, decide_false, Nat.reduceAdd, Nat.reduceLeDiff, Nat.reduceLT, Bool.not_true, Bool.not_false, List.nil_append, List.cons_append, List.map_cons, List.map_nil, List.replicate_succ, List.replicate_zero, Bool.not_eq_eq_eq_not, decide_eq_false_iff_not, and_self, and_true, true_and, and_false, false_and, or_true, true_or, or_false, false_or, or_self, Int.reduceLE, Int.reduceLT, Int.reduceNeg, Int.reduceAdd, Int.reduceSub, Int.reduceMul, Int.reduceDiv, Int.reduceMod, Int.reduceEq, Int.reduceToNat, Nat.reduceEqDiff, frz_zero, frz_succ, gT_tup, gT_ktp, gC_ap, gE_nil, cast_0, cast_1, cast_2, cast_3, cast_4, cast_5, cast_6, cast_7, cast_8, cast_9, ty_bs, ty_is, frz_zeroV, oOfR_o, ap_lenO, ap_ixO, tOf_some, pOf_fn, ap_P, ap_iZT, itZT_ok, zipD_cons, zipD_nil, str_i, sq_set, oOfS_o, set_ints, e1, e2, e3, e4]
theorem sums_ok {a b : Int} (ha : R64 a) (hb : R64 b) : m_l_sums [.int a, .int b] = .ok (.bl true) := by
  have q1 := C_i32_add (s32_in a) (s32_in b)
  have q2 := C_i32_lt_u (s32_in (s32 a + s32 b)) (s32_in a)
  have q3 := C_i32_add (high_in ha) (high_in hb)
  have q4 := C_i32_add (s32_in (a / 4294967296 + b / 4294967296)) (r32_if (p := s32 (s32 a + s32 b) % 4294967296 < s32 a % 4294967296))
  have q5 := join_ok (s32_in (s32 (a / 4294967296 + b / 4294967296) + (if s32 (s32 a + s32 b) % 4294967296 < s32 a % 4294967296 then 1 else 0))) (s32_in (s32 a + s32 b))
  rw [sum_eq ha hb] at q5
  have q6 := C_i64_add ha hb
  have r1 := C_i32_sub (s32_in a) (s32_in b)
  have r2 := C_i32_lt_u (s32_in a) (s32_in b)
  have r3 := C_i32_sub (high_in ha) (high_in hb)
  have r4 := C_i32_sub (s32_in (a / 4294967296 - b / 4294967296)) (r32_if (p := s32 a % 4294967296 < s32 b % 4294967296))
  have r5 := join_ok (s32_in (s32 (a / 4294967296 - b / 4294967296) - (if s32 a % 4294967296 < s32 b % 4294967296 then 1 else 0))) (s32_in (s32 a - s32 b))
  rw [dif_eq ha hb] at r5
  have r6 := C_i64_sub ha hb
  rw [e_l_sums]
  unfold b_l_sums
  simp only [bind_ok, bind_exc, bind_bad, ofE_ok, ofE_exc, vOf_v, ap_C, ap_V, ap_nil, ap_cons, ap_U, ap_B, ap_chain, ap_and, ap_or, ap_tup, ap_F, ap_M, ap_sl, ap_pN, ap_pS, ap_L, ap_tE, ap_tAn, ap_tO, ap_tN, ap_tY, ap_if, ap_lD, ap_lF, ap_lCat, catL_ok, ap_lRep, repL_ok, ap_lSl, slL_lst, slL_scr, ap_iD, itL_lst, itL_scr, ap_iT, itT_tup, itT_ktp, ap_iS, itS_str, ap_iR1, itR1_ok, add_i, add_s, add_l, addX_i, addX_s, sub_i, mul_i, div_i, mod_i, pow_i, shl_i, shr_i, and_i, or_i, xor_i, neg_i, not_b, lt_i, le_i, gt_i, ge_i, eq_i, eq_s, ne_i, ne_s, is_non, is_int, is_str, is_tup, is_lst, isnt_non, isnt_int, isnt_str, isnt_tup, toBl_b, toIn_i, ix_s, ix_l, ix_r, ix_t, ix_k, sl_s, sl_l, sl_r, sl_t, len_s, len_l, len_r, len_t, len_k, int_i, int_b, abs_i, min_i, max_i, tup_l, tup_t, list_l, list_r, list_t, isi_i, isi_b, isi_s, isi_l, isi_t, isi_n, ty_ii, ty_bi, ty_ss, ty_ll, ty_tt, ty_tl, ty_lt, ty_tn, find_s, lower_s, sq_nx, sq_sq, sq_a, sq_o, sq_x, sq_if, sq_ret, sq_retL, oOf_o, sq_retO, sq_app, lstK_l, sq_ext, sq_aug, sq_g, sq_frz, sq_br, sq_ct, sq_raise, ofG_some, nx_ap, thenS_nx, thenS_rt, thenS_exc, sq_for, sq_wh, endV_v, endV_o, endV_n, endV_x, endL_o, endL_x, gN_ap, List.getElem?_cons_zero, List.getElem?_cons_succ, List.set_cons_zero, List.set_cons_succ, List.length_cons, List.length_nil, decide_eq_true_eq, Bool.not_eq_true, reduceIte, Bool.false_eq_true, decide_true, decide_false, Nat.reduceAdd, Nat.reduceLeDiff, Nat.reduceLT, Bool.not_true, Bool.not_false, List.nil_append, List.cons_append, List.map_cons, List.map_nil, List.replicate_succ, List.replicate_zero, Bool.not_eq_eq_eq_not, decide_eq_false_iff_not, and_self, and_true, true_and, and_false, false_and, or_true, true_or, or_false, false_or, or_self, Int.reduceLE, Int.reduceLT, Int.reduceNeg, Int.reduceAdd, Int.reduceSub, Int.reduceMul, Int.reduceDiv, Int.reduceMod, Int.reduceEq, Int.reduceToNat, Nat.reduceEqDiff, frz_zero, frz_succ, gT_tup, gT_ktp, gC_ap, gE_nil, cast_0, cast_1, cast_2, cast_3, cast_4, cast_5, cast_6, cast_7, cast_8, cast_9, ty_bs, ty_is, frz_zeroV, oOfR_o, ap_lenO, ap_ixO, tOf_some, pOf_fn, ap_P, ap_iZT, itZT_ok, zipD_cons, zipD_nil, str_i, sq_set, oOfS_o, set_ints, low_ok ha, low_ok hb, high_ok ha, high_ok hb, q1, q2, q3, q4, q5, q6, r1, r2, r3, r4, r5, r6]
theorem products_ok {a b : Int} (ha : R64 a) (hb : R64 b) : m_l_products [.int a, .int b] = .ok (.bl true) := by
  have q1 := C_i64_extend_i32_u (s32_in a)
  have q2 := C_i64_extend_i32_u (s32_in b)
  have q3 := C_i32_mul (high_in ha) (s32_in b)
  have q4 := C_i32_mul (s32_in a) (high_in hb)
  have q5 := C_i32_add (s32_in (a / 4294967296 * s32 b)) (s32_in (s32 a * (b / 4294967296)))
  have q6 := C_i64_extend_i32_s (s32_in (s32 (a / 4294967296 * s32 b) + s32 (s32 a * (b / 4294967296))))
  rw [s32_id (s32_in _)] at q6
  have q7 := C_i64_shl (y := 32) (r64_of (s32_in (s32 (a / 4294967296 * s32 b) + s32 (s32 a * (b / 4294967296))))) (by unfold R64; omega) c32' (by decide)
  have q8 := C_i64_mul (r64_u (s32 a)) (r64_u (s32 b))
  have q9 := C_i64_add (s64_in (s32 a % 4294967296 * (s32 b % 4294967296))) (s64_in (s32 (s32 (a / 4294967296 * s32 b) + s32 (s32 a * (b / 4294967296))) * 2 ^ 32))
  rw [prod_eq] at q9
  have q10 := C_i64_mul ha hb
  rw [e_l_products]
  unfold b_l_products
  simp only [bind_ok, bind_exc, bind_bad, ofE_ok, ofE_exc, vOf_v, ap_C, ap_V, ap_nil, ap_cons, ap_U, ap_B, ap_chain, ap_and, ap_or, ap_tup, ap_F, ap_M, ap_sl, ap_pN, ap_pS, ap_L, ap_tE, ap_tAn, ap_tO, ap_tN, ap_tY, ap_if, ap_lD, ap_lF, ap_lCat, catL_ok, ap_lRep, repL_ok, ap_lSl, slL_lst, slL_scr, ap_iD, itL_lst, itL_scr, ap_iT, itT_tup, itT_ktp, ap_iS, itS_str, ap_iR1, itR1_ok, add_i, add_s, add_l, addX_i, addX_s, sub_i, mul_i, div_i, mod_i, pow_i, shl_i, shr_i, and_i, or_i, xor_i, neg_i, not_b, lt_i, le_i, gt_i, ge_i, eq_i, eq_s, ne_i, ne_s, is_non, is_int, is_str, is_tup, is_lst, isnt_non, isnt_int, isnt_str, isnt_tup, toBl_b, toIn_i, ix_s, ix_l, ix_r, ix_t, ix_k, sl_s, sl_l, sl_r, sl_t, len_s, len_l, len_r, len_t, len_k, int_i, int_b, abs_i, min_i, max_i, tup_l, tup_t, list_l, list_r, list_t, isi_i, isi_b, isi_s, isi_l, isi_t, isi_n, ty_ii, ty_bi, ty_ss, ty_ll, ty_tt, ty_tl, ty_lt, ty_tn, find_s, lower_s, sq_nx, sq_sq, sq_a, sq_o, sq_x, sq_if, sq_ret, sq_retL, oOf_o, sq_retO, sq_app, lstK_l, sq_ext, sq_aug, sq_g, sq_frz, sq_br, sq_ct, sq_raise, ofG_some, nx_ap, thenS_nx, thenS_rt, thenS_exc, sq_for, sq_wh, endV_v, endV_o, endV_n, endV_x, endL_o, endL_x, gN_ap, List.getElem?_cons_zero, List.getElem?_cons_succ, List.set_cons_zero, List.set_cons_succ, List.length_cons, List.length_nil, decide_eq_true_eq, Bool.not_eq_true, reduceIte, Bool.false_eq_true, decide_true, decide_false, Nat.reduceAdd, Nat.reduceLeDiff, Nat.reduceLT, Bool.not_true, Bool.not_false, List.nil_append, List.cons_append, List.map_cons, List.map_nil, List.replicate_succ, List.replicate_zero, Bool.not_eq_eq_eq_not, decide_eq_false_iff_not, and_self, and_true, true_and, and_false, false_and, or_true, true_or, or_false, false_or, or_self, Int.reduceLE, Int.reduceLT, Int.reduceNeg, Int.reduceAdd, Int.reduceSub, Int.reduceMul, Int.reduceDiv, Int.reduceMod, Int.reduceEq, Int.reduceToNat, Nat.reduceEqDiff, frz_zero, frz_succ, gT_tup, gT_ktp, gC_ap, gE_nil, cast_0, cast_1, cast_2, cast_3, cast_4, cast_5, cast_6, cast_7, cast_8, cast_9, ty_bs, ty_is, frz_zeroV, oOfR_o, ap_lenO, ap_ixO, tOf_some, pOf_fn, ap_P, ap_iZT, itZT_ok, zipD_cons, zipD_nil, str_i, sq_set, oOfS_o, set_ints, low_ok ha, low_ok hb, high_ok ha, high_ok hb, q1, q2, q3, q4, q5, q6, q7, q8, q9, q10]
/-! bits -/
theorem f_in {f g : Int → Int → Int} (hf : ∀ x y, f x y / 2 = f (x / 2) (y / 2) ∧ f x y % 2 = g (x % 2) (y % 2)) (h0 : ∀ a b : Int, (a = 0 ∨ a = -1) → (b = 0 ∨ b = -1) → f a b = 0 ∨ f a b = -1) {x y : Int} (hx : R32 x) (hy : R32 y) : R32 (f x y) := by
  unfold R32 at hx hy ⊢
  have h := half_pow (fun x y => (hf x y).1) 31 x y
  have i := h0 (x / 2 ^ 31) (y / 2 ^ 31) (by omega) (by omega)
  rw [← h] at i
  omega
theorem bw_body {f g : Int → Int → Int} {wd n3 n6 : Str} (hf : ∀ x y, f x y / 2 = f (x / 2) (y / 2) ∧ f x y % 2 = g (x % 2) (y % 2)) (h0 : ∀ a b : Int, (a = 0 ∨ a = -1) → (b = 0 ∨ b = -1) → f a b = 0 ∨ f a b = -1) (l3 : ("i32." : Str).length + wd.length ≤ 100000) (l6 : ("i64." : Str).length + wd.length ≤ 100000) (k3 : ("i32." : Str) ++ wd = n3) (k6 : ("i64." : Str) ++ wd = n6)
    (c3 : ∀ {x y : Int}, R32 x → R32 y → m_calculate [.str n3, .tup [.int x, .int y]] = .ok (.int (f x y))) (c6 : ∀ {x y : Int}, R64 x → R64 y → m_calculate [.str n6, .tup [.int x, .int y]] = .ok (.int (f x y))) {a b : Int} (ha : R64 a) (hb : R64 b) (s3 s4 s5 : Sl) :
    b_l_bitwise_1 [.val (.int a), .val (.int b), .val (.str wd), s3, s4, s5] = .nx [.val (.int a), .val (.int b), .val (.str wd), .val (.int (f (a / 4294967296) (b / 4294967296))), .val (.int (f (s32 a) (s32 b))), s5] := by
  have q1 := c3 (high_in ha) (high_in hb)
  have q2 := c3 (s32_in a) (s32_in b)
  have q3 := join_ok (f_in hf h0 (high_in ha) (high_in hb)) (f_in hf h0 (s32_in a) (s32_in b))
  rw [bw_eq hf] at q3
  have q4 := c6 ha hb
  unfold b_l_bitwise_1
  simp only [bind_ok, bind_exc, bind_bad, ofE_ok, ofE_exc, vOf_v, ap_C, ap_V, ap_nil, ap_cons, ap_U, ap_B, ap_chain, ap_and, ap_or, ap_tup, ap_F, ap_M, ap_sl, ap_pN, ap_pS, ap_L, ap_tE, ap_tAn, ap_tO, ap_tN, ap_tY, ap_if, ap_lD, ap_lF, ap_lCat, catL_ok, ap_lRep, repL_ok, ap_lSl, slL_lst, slL_scr, ap_iD, itL_lst, itL_scr, ap_iT, itT_tup, itT_ktp, ap_iS, itS_str, ap_iR1, itR1_ok, add_i, add_s, add_l, addX_i, addX_s, sub_i, mul_i, div_i, mod_i, pow_i, shl_i, shr_i, and_i, or_i, xor_i, neg_i, not_b, lt_i, le_i, gt_i, ge_i, eq_i, eq_s, ne_i, ne_s, is_non, is_int, is_str, is_tup, is_lst, isnt_non, isnt_int, isnt_str, isnt_tup, toBl_b, toIn_i, ix_s, ix_l, ix_r, ix_t, ix_k, sl_s, sl_l, sl_r, sl_t, len_s, len_l, len_r, len_t, len_k, int_i, int_b, abs_i, min_i, max_i, tup_l, tup_t, list_l, list_r, list_t, isi_i, isi_b, isi_s, isi_l, isi_t, isi_n, ty_ii, ty_bi, ty_ss, ty_ll, ty_tt, ty_tl, ty_lt, ty_tn, find_s, lower_s, sq_nx, sq_sq, sq_a, sq_o, sq_x, sq_if, sq_ret, sq_retL, oOf_o, sq_retO, sq_app, lstK_l, sq_ext, sq_aug, sq_g, sq_frz, sq_br, sq_ct, sq_raise, ofG_some, nx_ap, thenS_nx, thenS_rt, thenS_exc, sq_for, sq_wh, endV_v, endV_o, endV_n, endV_x, endL_o, endL_x, gN_ap, List.getElem?_cons_zero, List.getElem?_cons_succ, List.set_cons_zero, List.set_cons_succ, List.length_cons, List.length_nil, decide_eq_true_eq, Bool.not_eq_true, reduceIte, Bool.false_eq_true, decide_true, decide_false, Nat.reduceAdd, Nat.reduceLeDiff, Nat.reduceLT, Bool.not_true, Bool.not_false, List.nil_append, List.cons_append, List.map_cons, List.map_nil, List.replicate_succ, List.replicate_zero, Bool.not_eq_eq_eq_not, decide_eq_false_iff_not, and_self, and_true, true_and, and_false, false_and, or_true, true_or, or_false, false_or, or_self, Int.reduceLE, Int.reduceLT, Int.reduceNeg, Int.reduceAdd, Int.reduceSub, Int.reduceMul, Int.reduceDiv, Int.reduceMod, Int.reduceEq, Int.reduceToNat, Nat.reduceEqDiff, frz_zero, frz_succ, gT_tup, gT_ktp, gC_ap, gE_nil, cast_0, cast_1, cast_2, cast_3, cast_4, cast_5, cast_6, cast_7, cast_8, cast_9, ty_bs, ty_is, frz_zeroV, oOfR_o, ap_lenO, ap_ixO, tOf_some, pOf_fn, ap_P, ap_iZT, itZT_ok, zipD_cons, zipD_nil, str_i, sq_set, oOfS_o, set_ints, l3, l6, k3, k6, low_ok ha, low_ok hb, high_ok ha, high_ok hb, q1, q2, q3, q4]
theorem and0 (a b : Int) (ha : a = 0 ∨ a = -1) (hb : b = 0 ∨ b = -1) : Builtin.bitAnd a b = 0 ∨ Builtin.bitAnd a b = -1 := by rcases ha with rfl | rfl <;> rcases hb with rfl | rfl <;> decide
theorem or0 (a b : Int) (ha : a = 0 ∨ a = -1) (hb : b = 0 ∨ b = -1) : Builtin.bitOr a b = 0 ∨ Builtin.bitOr a b = -1 := by rcases ha with rfl | rfl <;> rcases hb with rfl | rfl <;> decide
theorem xor0 (a b : Int) (ha : a = 0 ∨ a = -1) (hb : b = 0 ∨ b = -1) : Builtin.bitXor a b = 0 ∨ Builtin.bitXor a b = -1 := by rcases ha with rfl | rfl <;> rcases hb with rfl | rfl <;> decide
theorem bitwise_ok {a b : Int} (ha : R64 a) (hb : R64 b) : m_l_bitwise [.int a, .int b] = .ok (.bl true) := by
  have e1 := fun s3 s4 s5 => bw_body (wd := "and") (n3 := "i32.and") (n6 := "i64.and") and_half and0 (by decide +kernel) (by decide +kernel) (by decide +kernel) (by decide +kernel) C_i32_and C_i64_and ha hb s3 s4 s5
  have e2 := fun s3 s4 s5 => bw_body (wd := "or") (n3 := "i32.or") (n6 := "i64.or") (g := fun u v => u + v - u * v) or_half or0 (by decide +kernel) (by decide +kernel) (by decide +kernel) (by decide +kernel) C_i32_or C_i64_or ha hb s3 s4 s5
  have e3 := fun s3 s4 s5 => bw_body (wd := "xor") (n3 := "i32.xor") (n6 := "i64.xor") (g := fun u v => u + v - 2 * (u * v)) xor_half xor0 (by decide +kernel) (by decide +kernel) (by decide +kernel) (by decide +kernel) C_i32_xor C_i64_xor ha hb s3 s4 s5
  have f3 : ∀ s2 s3 s4 s5 : Sl, forGo (gN 2) b_l_bitwise_1 [.str "and", .str "or", .str "xor"] [.val (.int a), .val (.int b), s2, s3, s4, s5] = .nx [.val (.int a), .val (.int b), .val (.str "xor"), .val (.int (Builtin.bitXor (a / 4294967296) (b / 4294967296))), .val (.int (Builtin.bitXor (s32 a) (s32 b))), s5] := fun s2 s3 s4 s5 => by
    rw [forGo_cons gN_ap]
    simp only [bind_ok, bind_exc, bind_bad, ofE_ok, ofE_exc, vOf_v, ap_C, ap_V, ap_nil, ap_cons, ap_U, ap_B, ap_chain, ap_and, ap_or, ap_tup, ap_F, ap_M, ap_sl, ap_pN, ap_pS, ap_L, ap_tE, ap_tAn, ap_tO, ap_tN, ap_tY, ap_if, ap_lD, ap_lF, ap_lCat, catL_ok, ap_lRep, repL_ok, ap_lSl, slL_lst, slL_scr, ap_iD, itL_lst, itL_scr, ap_iT, itT_tup, itT_ktp, ap_iS, itS_str, ap_iR1, itR1_ok, add_i, add_s, add_l, addX_i, addX_s, sub_i, mul_i, div_i, mod_i, pow_i, shl_i, shr_i, and_i, or_i, xor_i, neg_i, not_b, lt_i, le_i, gt_i, ge_i, eq_i, eq_s, ne_i, ne_s, is_non, is_int, is_str, is_tup, is_lst, isnt_non, isnt_int, isnt_str, isnt_tup, toBl_b, toIn_i, ix_s, ix_l, ix_r, ix_t, ix_k, sl_s, sl_l, sl_r, sl_t, len_s, len_l, len_r, len_t, len_k, int_i, int_b, abs_i, min_i, max_i, tup_l, tup_t, list_l, list_r, list_t, isi_i, isi_b, isi_s, isi_l, isi_t, isi_n, ty_ii, ty_bi, ty_ss, ty_ll, ty_tt, ty_tl, ty_lt, ty_tn, find_s, lower_s, sq_nx, sq_sq, sq_a, sq_o, sq_x, sq_if, sq_ret, sq_retL, oOf_o, sq_retO, sq_app, lstK_l, sq_ext, sq_aug, sq_g, sq_frz, sq_br, sq_ct, sq_raise, ofG_some, nx_ap, thenS_nx, thenS_rt, thenS_exc, sq_for, sq_wh, endV_v, endV_o, endV_n, endV_x, endL_o, endL_x, gN_ap, List.getElem?_cons_zero, List.getElem?_cons_succ, List.set_cons_zero, List.set_cons_succ, List.length_cons, List.length_nil, decide_eq_true_eq, Bool.not_eq_true, reduceIte, Bool.false_eq_true, decide_true, decide_false, Nat.reduceAdd, Nat.reduceLeDiff, Nat.reduceLT, Bool.not_true, Bool.not_false, List.nil_append, List.cons_append, List.map_cons, List.map_nil, List.replicate_succ, List.replicate_zero, Bool.not_eq_eq_eq_not, decide_eq_false_iff_not, and_self, and_true, true_and, and_false, false_and, or_true, true_or, or_false, false_or, or_self, Int.reduceLE, Int.reduceLT, Int.reduceNeg, Int.reduceAdd, Int.reduceSub, Int.reduceMul, Int.reduceDiv, Int.reduceMod, Int.reduceEq, Int.reduceToNat, Nat.reduceEqDiff, frz_zero, frz_succ, gT_tup, gT_ktp, gC_ap, gE_nil, cast_0, cast_1, cast_2, cast_3, cast_4, cast_5, cast_6, cast_7, cast_8, cast_9, ty_bs, ty_is, frz_zeroV, oOfR_o, ap_lenO, ap_ixO, tOf_some, pOf_fn, ap_P, ap_iZT, itZT_ok, zipD_cons, zipD_nil, str_i, sq_set, oOfS_o, set_ints, e1]
    rw [forGo_cons gN_ap]
    simp only [bind_ok, bind_exc, bind_bad, ofE_ok, ofE_exc, vOf_v, ap_C, ap_V, ap_nil, ap_cons, ap_U, ap_B, ap_chain, ap_and, ap_or, ap_tup, ap_F, ap_M, ap_sl, ap_pN, ap_pS, ap_L, ap_tE, ap_tAn, ap_tO, ap_tN, ap_tY, ap_if, ap_lD, ap_lF, ap_lCat, catL_ok, ap_lRep, repL_ok, ap_lSl, slL_lst, slL_scr, ap_iD, itL_lst, itL_scr, ap_iT, itT_tup, itT_ktp, ap_iS, itS_str, ap_iR1, itR1_ok, add_i, add_s, add_l, addX_i, addX_s, sub_i, mul_i, div_i, mod_i, pow_i, shl_i, shr_i, and_i, or_i, xor_i, neg_i, not_b, lt_i, le_i, gt_i, ge_i, eq_i, eq_s, ne_i, ne_s, is_non, is_int, is_str, is_tup, is_lst, isnt_non, isnt_int, isnt_str, isnt_tup, toBl_b, toIn_i, ix_s, ix_l, ix_r, ix_t, ix_k, sl_s, sl_l, sl_r, sl_t, len_s, len_l, len_r, len_t, len_k, int_i, int_b, abs_i, min_i, max_i, tup_l, tup_t, list_l, list_r, list_t, isi_i, isi_b, isi_s, isi_l, isi_t, isi_n, ty_ii, ty_bi, ty_ss, ty_ll, ty_tt, ty_tl, ty_lt, ty_tn, find_s, lower_s, sq_nx, sq_sq, sq_a, sq_o, sq_x, sq_if, sq_ret, sq_retL, oOf_o, sq_retO, sq_app, lstK_l, sq_ext, sq_aug, sq_g, sq_frz, sq_br, sq_ct, sq_raise, ofG_some, nx_ap, thenS_nx, thenS_rt, thenS_exc, sq_for, sq_wh, endV_v, endV_o, endV_n, endV_x, endL_o, endL_x, gN_ap, List.getElem?_cons_zero, List.getElem?_cons_succ, List.set_cons_zero, List.set_cons_succ, List.length_cons, List.length_nil, decide_eq_true_eq, Bool.not_eq_true, reduceIte, Bool.false_eq_true, decide_true, decide_false, Nat.reduceAdd, Nat.reduceLeDiff, Nat.reduceLT, Bool.not_true, Bool.not_false, List.nil_append, List.cons_append, List.map_cons, List.map_nil, List.replicate_succ, List.replicate_zero, Bool.not_eq_eq_eq_not, decide_eq_false_iff_not, and_self, and_true, true_and, and_false, false_and, or_true, true_or, or_false, false_or, or_self, Int.reduceLE, Int.reduceLT, Int.reduceNeg, Int.reduceAdd, Int.reduceSub, Int.reduceMul, Int.reduceDiv, Int.reduceMod, Int.reduceEq, Int.reduceToNat, Nat.reduceEqDiff, frz_zero, frz_succ, gT_tup, gT_ktp, gC_ap, gE_nil, cast_0, cast_1, cast_2, cast_3, cast_4, cast_5, cast_6, cast_7, cast_8, cast_9, ty_bs, ty_is, frz_zeroV, oOfR_o, ap_lenO, ap_ixO, tOf_some, pOf_fn, ap_P, ap_iZT, itZT_ok, zipD_cons, zipD_nil, str_i, sq_set, oOfS_o, set_ints, e2]
    rw [forGo_cons gN_ap]
    simp only [bind_ok, bind_exc, bind_bad, ofE_ok, ofE_exc, vOf_v, ap_C, ap_V, ap_nil, ap_cons, ap_U, ap_B, ap_chain, ap_and, ap_or, ap_tup, ap_F, ap_M, ap_sl, ap_pN, ap_pS, ap_L, ap_tE, ap_tAn, ap_tO, ap_tN, ap_tY, ap_if, ap_lD, ap_lF, ap_lCat, catL_ok, ap_lRep, repL_ok, ap_lSl, slL_lst, slL_scr, ap_iD, itL_lst, itL_scr, ap_iT, itT_tup, itT_ktp, ap_iS, itS_str, ap_iR1, itR1_ok, add_i, add_s, add_l, addX_i, addX_s, sub_i, mul_i, div_i, mod_i, pow_i, shl_i, shr_i, and_i, or_i, xor_i, neg_i, not_b, lt_i, le_i, gt_i, ge_i, eq_i, eq_s, ne_i, ne_s, is_non, is_int, is_str, is_tup, is_lst, isnt_non, isnt_int, isnt_str, isnt_tup, toBl_b, toIn_i, ix_s, ix_l, ix_r, ix_t, ix_k, sl_s, sl_l, sl_r, sl_t, len_s, len_l, len_r, len_t, len_k, int_i, int_b, abs_i, min_i, max_i, tup_l, tup_t, list_l, list_r, list_t, isi_i, isi_b, isi_s, isi_l, isi_t, isi_n, ty_ii, ty_bi, ty_ss, ty_ll, ty_tt, ty_tl, ty_lt, ty_tn, find_s, lower_s, sq_nx, sq_sq, sq_a, sq_o, sq_x, sq_if, sq_ret, sq_retL, oOf_o, sq_retO, sq_app, lstK_l, sq_ext, sq_aug, sq_g, sq_frz, sq_br, sq_ct, sq_raise, ofG_some, nx_ap, thenS_nx, thenS_rt, thenS_exc, sq_for, sq_wh, endV_v, endV_o, endV_n, endV_x, endL_o, endL_x, gN_ap, List.getElem?_cons_zero, List.getElem?_cons_succ, List.set_cons_zero, List.set_cons_succ, List.length_cons, List.length_nil, decide_eq_true_eq, Bool.not_eq_true, reduceIte, Bool.false_eq_true, decide_true, decide_false, Nat.reduceAdd, Nat.reduceLeDiff, Nat.reduceLT, Bool.not_true, Bool.not_false, List.nil_append, List.cons_append, List.map_cons, List.map_nil, List.replicate_succ, List.replicate_zero, Bool.not_eq_eq_eq_not, decide_eq_false_iff_not, and_self, and_true, true_and, and_false, false_and, or_true, true_or, or_false, false_or, or_self, Int.reduceLE, Int.reduceLT, Int.reduceNeg, Int.reduceAdd, Int.reduceSub, Int.reduceMul, Int.reduceDiv, Int.reduceMod, Int.reduceEq, Int.reduceToNat, Nat.reduceEqDiff, frz_zero, frz_succ, gT_tup, gT_ktp, gC_ap, gE_nil, cast_0, cast_1, cast_2, cast_3, cast_4, cast_5, cast_6, cast_7, cast_8, cast_9, ty_bs, ty_is, frz_zeroV, oOfR_o, ap_lenO, ap_ixO, tOf_some, pOf_fn, ap_P, ap_iZT, itZT_ok, zipD_cons, zipD_nil, str_i, sq_set, oOfS_o, set_ints, e3, forGo_nil]
  have q1 := join_ok (s32_in a) (high_in ha)
  rw [turn_l ha] at q1
  have q2 := C_i64_rotl (y := 32) ha (by unfold R64; omega) c32' (by decide)
  have q3 := C_i64_rotr (y := 32) ha (by unfold R64; omega) c32' (by decide)
  have q4 : s64 (Builtin.bitOr (a % 18446744073709551616 / 2 ^ 32) (a % 18446744073709551616 * 2 ^ (64 - 32))) = s64 (Builtin.bitOr (a % 18446744073709551616 * 2 ^ 32) (a % 18446744073709551616 / 2 ^ 32)) := (turn_r ha).symm.trans (turn_l ha)
  rw [q4] at q3
  obtain ⟨c, hc⟩ : ∃ c : Nat, b % 64 = c := ⟨(b % 64).toNat, by omega⟩
  have q5 := C_i64_rotl ha hb hc (by omega)
  have q6 := C_i64_rotr (x := s64 (Builtin.bitOr (a % 18446744073709551616 * 2 ^ c) (a % 18446744073709551616 / 2 ^ (64 - c)))) (s64_in _) hb hc (by omega)
  rw [turn_back ha (show c ≤ 64 by omega) rfl] at q6
  rw [e_l_bitwise]
  unfold b_l_bitwise
  simp only [bind_ok, bind_exc, bind_bad, ofE_ok, ofE_exc, vOf_v, ap_C, ap_V, ap_nil, ap_cons, ap_U, ap_B, ap_chain, ap_and, ap_or, ap_tup, ap_F, ap_M, ap_sl, ap_pN, ap_pS, ap_L, ap_tE, ap_tAn, ap_tO, ap_tN, ap_tY, ap_if, ap_lD, ap_lF, ap_lCat, catL_ok, ap_lRep, repL_ok, ap_lSl, slL_lst, slL_scr, ap_iD, itL_lst, itL_scr, ap_iT, itT_tup, itT_ktp, ap_iS, itS_str, ap_iR1, itR1_ok, add_i, add_s, add_l, addX_i, addX_s, sub_i, mul_i, div_i, mod_i, pow_i, shl_i, shr_i, and_i, or_i, xor_i, neg_i, not_b, lt_i, le_i, gt_i, ge_i, eq_i, eq_s, ne_i, ne_s, is_non, is_int, is_str, is_tup, is_lst, isnt_non, isnt_int, isnt_str, isnt_tup, toBl_b, toIn_i, ix_s, ix_l, ix_r, ix_t, ix_k, sl_s, sl_l, sl_r, sl_t, len_s, len_l, len_r, len_t, len_k, int_i, int_b, abs_i, min_i, max_i, tup_l, tup_t, list_l, list_r, list_t, isi_i, isi_b, isi_s, isi_l, isi_t, isi_n, ty_ii, ty_bi, ty_ss, ty_ll, ty_tt, ty_tl, ty_lt, ty_tn, find_s, lower_s, sq_nx, sq_sq, sq_a, sq_o, sq_x, sq_if, sq_ret, sq_retL, oOf_o, sq_retO, sq_app, lstK_l, sq_ext, sq_aug, sq_g, sq_frz, sq_br, sq_ct, sq_raise, ofG_some, nx_ap, thenS_nx, thenS_rt, thenS_exc, sq_for, sq_wh, endV_v, endV_o, endV_n, endV_x, endL_o, endL_x, gN_ap, List.getElem?_cons_zero, List.getElem?_cons_succ, List.set_cons_zero, List.set_cons_succ, List.length_cons, List.length_nil, decide_eq_true_eq, Bool.not_eq_true, reduceIte, Bool.false_eq_true, decide_true, decide_false, Nat.reduceAdd, Nat.reduceLeDiff, Nat.reduceLT, Bool.not_true, Bool.not_false, List.nil_append, List.cons_append, List.map_cons, List.map_nil, List.replicate_succ, List.replicate_zero, Bool.not_eq_eq_eq_not, decide_eq_false_iff_not, and_self, and_true, true_and, and_false, false_and, or_true, true_or, or_false, false_or, or_self, Int.reduceLE, Int.reduceLT, Int.reduceNeg, Int.reduceAdd, Int.reduceSub, Int.reduceMul, Int.reduceDiv, Int.reduceMod, Int.reduceEq, Int.reduceToNat, Nat.reduceEqDiff, frz_zero, frz_succ, gT_tup, gT_ktp, gC_ap, gE_nil, cast_0, cast_1, cast_2, cast_3, cast_4, cast_5, cast_6, cast_7, cast_8, cast_9, ty_bs, ty_is, frz_zeroV, oOfR_o, ap_lenO, ap_ixO, tOf_some, pOf_fn, ap_P, ap_iZT, itZT_ok, zipD_cons, zipD_nil, str_i, sq_set, oOfS_o, set_ints, f3, low_ok ha, high_ok ha, q1, q2, q3, q5, q6]
/-! orders -/
theorem ord_body {wd n3 sf nlt nge ngt nle : Str} {p r P : Prop} [Decidable p] [Decidable r] [Decidable P] {a b : Int} (ha : R64 a) (hb : R64 b) (hP : P ↔ (p ∨ a / 4294967296 = b / 4294967296 ∧ r)) (l3 : ("i32." : Str).length + wd.length ≤ 100000) (l6 : ("i64." : Str).length + wd.length ≤ 100000) (lw : wd.length ≤ 100000) (lg : ("i64.ge" : Str).length + sf.length ≤ 100000) (lgt : ("i64.gt" : Str).length + sf.length ≤ 100000) (ll : ("i64.le" : Str).length + sf.length ≤ 100000)
    (k3 : ("i32." : Str) ++ wd = n3) (k6 : ("i64." : Str) ++ wd = nlt) (kc : cutS wd (some 2) none = sf) (kg : ("i64.ge" : Str) ++ sf = nge) (kgt : ("i64.gt" : Str) ++ sf = ngt) (kl : ("i64.le" : Str) ++ sf = nle)
    (c3 : m_calculate [.str n3, .tup [.int (a / 4294967296), .int (b / 4294967296)]] = .ok (.int (if p then 1 else 0))) (c1 : m_calculate [.str nlt, .tup [.int a, .int b]] = .ok (.int (if P then 1 else 0))) (c2 : m_calculate [.str nge, .tup [.int a, .int b]] = .ok (.int (1 - if P then 1 else 0)))
    (c4 : m_calculate [.str ngt, .tup [.int b, .int a]] = .ok (.int (if P then 1 else 0))) (c5 : m_calculate [.str nle, .tup [.int b, .int a]] = .ok (.int (1 - if P then 1 else 0))) (s5 : Sl) :
    b_l_orders_1 [.val (.int a), .val (.int b), .val (.int (if a / 4294967296 = b / 4294967296 then 1 else 0)), .val (.int (if r then 1 else 0)), .val (.str wd), s5] = .nx [.val (.int a), .val (.int b), .val (.int (if a / 4294967296 = b / 4294967296 then 1 else 0)), .val (.int (if r then 1 else 0)), .val (.str wd), .val (.int (if P then 1 else 0))] := by
  have t1 : ((1 : Int) = 1) = True := eq_true rfl
  have t0 : ((0 : Int) = 1) = False := eq_false (by decide)
  unfold b_l_orders_1
  by_cases hp : p
  · have h : P := hP.mpr (Or.inl hp)
    rw [if_pos h] at c1 c2 c4 c5
    rw [if_pos hp] at c3
    simp only [bind_ok, bind_exc, bind_bad, ofE_ok, ofE_exc, vOf_v, ap_C, ap_V, ap_nil, ap_cons, ap_U, ap_B, ap_chain, ap_and, ap_or, ap_tup, ap_F, ap_M, ap_sl, ap_pN, ap_pS, ap_L, ap_tE, ap_tAn, ap_tO, ap_tN, ap_tY, ap_if, ap_lD, ap_lF, ap_lCat, catL_ok, ap_lRep, repL_ok, ap_lSl, slL_lst, slL_scr, ap_iD, itL_lst, itL_scr, ap_iT, itT_tup, itT_ktp, ap_iS, itS_str, ap_iR1, itR1_ok, add_i, add_s, add_l, addX_i, addX_s, sub_i, mul_i, div_i, mod_i, pow_i, shl_i, shr_i, and_i, or_i, xor_i, neg_i, not_b, lt_i, le_i, gt_i, ge_i, eq_i, eq_s, ne_i, ne_s, is_non, is_int, is_str, is_tup, is_lst, isnt_non, isnt_int, isnt_str, isnt_tup, toBl_b, toIn_i, ix_s, ix_l, ix_r, ix_t, ix_k, sl_s, sl_l, sl_r, sl_t, len_s, len_l, len_r, len_t, len_k, int_i, int_b, abs_i, min_i, max_i, tup_l, tup_t, list_l, list_r, list_t, isi_i, isi_b, isi_s, isi_l, isi_t, isi_n, ty_ii, ty_bi, ty_ss, ty_ll, ty_tt, ty_tl, ty_lt, ty_tn, find_s, lower_s, sq_nx, sq_sq, sq_a, sq_o, sq_x, sq_if, sq_ret, sq_retL, oOf_o, sq_retO, sq_app, lstK_l, sq_ext, sq_aug, sq_g, sq_frz, sq_br, sq_ct, sq_raise, ofG_some, nx_ap, thenS_nx, thenS_rt, thenS_exc, sq_for, sq_wh, endV_v, endV_o, endV_n, endV_x, endL_o, endL_x, gN_ap, List.getElem?_cons_zero, List.getElem?_cons_succ, List.set_cons_zero, List.set_cons_succ, List.length_cons, List.length_nil, decide_eq_true_eq, Bool.not_eq_true, reduceIte, Bool.false_eq_true, decide_true, decide_false, Nat.reduceAdd, Nat.reduceLeDiff, Nat.reduceLT, Bool.not_true, Bool.not_false, List.nil_append, List.cons_append, List.map_cons, List.map_nil, List.replicate_succ, List.replicate_zero, Bool.not_eq_eq_eq_not, decide_eq_false_iff_not, and_self, and_true, true_and, and_false, false_and, or_true, true_or, or_false, false_or, or_self, Int.reduceLE, Int.reduceLT, Int.reduceNeg, Int.reduceAdd, Int.reduceSub, Int.reduceMul, Int.reduceDiv, Int.reduceMod, Int.reduceEq, Int.reduceToNat, Nat.reduceEqDiff, frz_zero, frz_succ, gT_tup, gT_ktp, gC_ap, gE_nil, cast_0, cast_1, cast_2, cast_3, cast_4, cast_5, cast_6, cast_7, cast_8, cast_9, ty_bs, ty_is, frz_zeroV, oOfR_o, ap_lenO, ap_ixO, tOf_some, pOf_fn, ap_P, ap_iZT, itZT_ok, zipD_cons, zipD_nil, str_i, sq_set, oOfS_o, set_ints, l3, l6, lw, lg, lgt, ll, k3, k6, kc, kg, kgt, kl, high_ok ha, high_ok hb, c1, c2, c3, c4, c5, t1, t0, h]
  · rw [if_neg hp] at c3
    by_cases hq : a / 4294967296 = b / 4294967296
    · by_cases hr : r
      · have h : P := hP.mpr (Or.inr ⟨hq, hr⟩)
        rw [if_pos h] at c1 c2 c4 c5
        rw [if_pos hr, if_pos hq, if_pos h]
        simp only [bind_ok, bind_exc, bind_bad, ofE_ok, ofE_exc, vOf_v, ap_C, ap_V, ap_nil, ap_cons, ap_U, ap_B, ap_chain, ap_and, ap_or, ap_tup, ap_F, ap_M, ap_sl, ap_pN, ap_pS, ap_L, ap_tE, ap_tAn, ap_tO, ap_tN, ap_tY, ap_if, ap_lD, ap_lF, ap_lCat, catL_ok, ap_lRep, repL_ok, ap_lSl, slL_lst, slL_scr, ap_iD, itL_lst, itL_scr, ap_iT, itT_tup, itT_ktp, ap_iS, itS_str, ap_iR1, itR1_ok, add_i, add_s, add_l, addX_i, addX_s, sub_i, mul_i, div_i, mod_i, pow_i, shl_i, shr_i, and_i, or_i, xor_i, neg_i, not_b, lt_i, le_i, gt_i, ge_i, eq_i, eq_s, ne_i, ne_s, is_non, is_int, is_str, is_tup, is_lst, isnt_non, isnt_int, isnt_str, isnt_tup, toBl_b, toIn_i, ix_s, ix_l, ix_r, ix_t, ix_k, sl_s, sl_l, sl_r, sl_t, len_s, len_l, len_r, len_t, len_k, int_i, int_b, abs_i, min_i, max_i, tup_l, tup_t, list_l, list_r, list_t, isi_i, isi_b, isi_s, isi_l, isi_t, isi_n, ty_ii, ty_bi, ty_ss, ty_ll, ty_tt, ty_tl, ty_lt, ty_tn, find_s, lower_s, sq_nx, sq_sq, sq_a, sq_o, sq_x, sq_if, sq_ret, sq_retL, oOf_o, sq_retO, sq_app, lstK_l, sq_ext, sq_aug, sq_g, sq_frz, sq_br, sq_ct, sq_raise, ofG_some, nx_ap, thenS_nx, thenS_rt, thenS_exc, sq_for, sq_wh, endV_v, endV_o, endV_n, endV_x, endL_o, endL_x, gN_ap, List.getElem?_cons_zero, List.getElem?_cons_succ, List.set_cons_zero, List.set_cons_succ, List.length_cons, List.length_nil, decide_eq_true_eq, Bool.not_eq_true, reduceIte, Bool.false_eq_true, decide_true, decide_false, Nat.reduceAdd, Nat.reduceLeDiff, Nat.reduceLT, Bool.not_true, Bool.not_false, List.nil_append, List.cons_append, List.map_cons, List.map_nil, List.replicate_succ, List.replicate_zero, Bool.not_eq_eq_eq_not, decide_eq_false_iff_not, and_self, and_true, true_and, and_false, false_and, or_true, true_or, or_false, false_or, or_self, Int.reduceLE, Int.reduceLT, Int.reduceNeg, Int.reduceAdd, Int.reduceSub, Int.reduceMul, Int.reduceDiv, Int.reduceMod, Int.reduceEq, Int.reduceToNat, Nat.reduceEqDiff, frz_zero, frz_succ, gT_tup, gT_ktp, gC_ap, gE_nil, cast_0, cast_1, cast_2, cast_3, cast_4, cast_5, cast_6, cast_7, cast_8, cast_9, ty_bs, ty_is, frz_zeroV, oOfR_o, ap_lenO, ap_ixO, tOf_some, pOf_fn, ap_P, ap_iZT, itZT_ok, zipD_cons, zipD_nil, str_i, sq_set, oOfS_o, set_ints, l3, l6, lw, lg, lgt, ll, k3, k6, kc, kg, kgt, kl, high_ok ha, high_ok hb, c1, c2, c3, c4, c5, t1, t0]
      · have h : ¬ P := fun z => (hP.mp z).elim hp fun y => hr y.2
        rw [if_neg h] at c1 c2 c4 c5
        rw [if_neg hr, if_pos hq, if_neg h]
        simp only [bind_ok, bind_exc, bind_bad, ofE_ok, ofE_exc, vOf_v, ap_C, ap_V, ap_nil, ap_cons, ap_U, ap_B, ap_chain, ap_and, ap_or, ap_tup, ap_F, ap_M, ap_sl, ap_pN, ap_pS, ap_L, ap_tE, ap_tAn, ap_tO, ap_tN, ap_tY, ap_if, ap_lD, ap_lF, ap_lCat, catL_ok, ap_lRep, repL_ok, ap_lSl, slL_lst, slL_scr, ap_iD, itL_lst, itL_scr, ap_iT, itT_tup, itT_ktp, ap_iS, itS_str, ap_iR1, itR1_ok, add_i, add_s, add_l, addX_i, addX_s, sub_i, mul_i, div_i, mod_i, pow_i, shl_i, shr_i, and_i, or_i, xor_i, neg_i, not_b, lt_i, le_i, gt_i, ge_i, eq_i, eq_s, ne_i, ne_s, is_non, is_int, is_str, is_tup, is_lst, isnt_non, isnt_int, isnt_str, isnt_tup, toBl_b, toIn_i, ix_s, ix_l, ix_r, ix_t, ix_k, sl_s, sl_l, sl_r, sl_t, len_s, len_l, len_r, len_t, len_k, int_i, int_b, abs_i, min_i, max_i, tup_l, tup_t, list_l, list_r, list_t, isi_i, isi_b, isi_s, isi_l, isi_t, isi_n, ty_ii, ty_bi, ty_ss, ty_ll, ty_tt, ty_tl, ty_lt, ty_tn, find_s, lower_s, sq_nx, sq_sq, sq_a, sq_o, sq_x, sq_if, sq_ret, sq_retL, oOf_o, sq_retO, sq_app, lstK_l, sq_ext, sq_aug, sq_g, sq_frz, sq_br, sq_ct, sq_raise, ofG_some, nx_ap, thenS_nx, thenS_rt, thenS_exc, sq_for, sq_wh, endV_v, endV_o, endV_n, endV_x, endL_o, endL_x, gN_ap, List.getElem?_cons_zero, List.getElem?_cons_succ, List.set_cons_zero, List.set_cons_succ, List.length_cons, List.length_nil, decide_eq_true_eq, Bool.not_eq_true, reduceIte, Bool.false_eq_true, decide_true, decide_false, Nat.reduceAdd, Nat.reduceLeDiff, Nat.reduceLT, Bool.not_true, Bool.not_false, List.nil_append, List.cons_append, List.map_cons, List.map_nil, List.replicate_succ, List.replicate_zero, Bool.not_eq_eq_eq_not, decide_eq_false_iff_not, and_self, and_true, true_and, and_false, false_and, or_true, true_or, or_false, false_or, or_self, Int.reduceLE, Int.reduceLT, Int.reduceNeg, Int.reduceAdd, Int.reduceSub, Int.reduceMul, Int.reduceDiv, Int.reduceMod, Int.reduceEq, Int.reduceToNat, Nat.reduceEqDiff, frz_zero, frz_succ, gT_tup, gT_ktp, gC_ap, gE_nil, cast_0, cast_1, cast_2, cast_3, cast_4, cast_5, cast_6, cast_7, cast_8, cast_9, ty_bs, ty_is, frz_zeroV, oOfR_o, ap_lenO, ap_ixO, tOf_some, pOf_fn, ap_P, ap_iZT, itZT_ok, zipD_cons, zipD_nil, str_i, sq_set, oOfS_o, set_ints, l3, l6, lw, lg, lgt, ll, k3, k6, kc, kg, kgt, kl, high_ok ha, high_ok hb, c1, c2, c3, c4, c5, t1, t0]
    · have h : ¬ P := fun z => (hP.mp z).elim hp fun y => hq y.1
      rw [if_neg h] at c1 c2 c4 c5
      rw [if_neg hq, if_neg h]
      simp only [bind_ok, bind_exc, bind_bad, ofE_ok, ofE_exc, vOf_v, ap_C, ap_V, ap_nil, ap_cons, ap_U, ap_B, ap_chain, ap_and, ap_or, ap_tup, ap_F, ap_M, ap_sl, ap_pN, ap_pS, ap_L, ap_tE, ap_tAn, ap_tO, ap_tN, ap_tY, ap_if, ap_lD, ap_lF, ap_lCat, catL_ok, ap_lRep, repL_ok, ap_lSl, slL_lst, slL_scr, ap_iD, itL_lst, itL_scr, ap_iT, itT_tup, itT_ktp, ap_iS, itS_str, ap_iR1, itR1_ok, add_i, add_s, add_l, addX_i, addX_s, sub_i, mul_i, div_i, mod_i, pow_i, shl_i, shr_i, and_i, or_i, xor_i, neg_i, not_b, lt_i, le_i, gt_i, ge_i, eq_i, eq_s, ne_i, ne_s, is_non, is_int, is_str, is_tup, is_lst, isnt_non, isnt_int, isnt_str, isnt_tup, toBl_b, toIn_i, ix_s, ix_l, ix_r, ix_t, ix_k, sl_s, sl_l, sl_r, sl_t, len_s, len_l, len_r, len_t, len_k, int_i, int_b, abs_i, min_i, max_i, tup_l, tup_t, list_l, list_r, list_t, isi_i, isi_b, isi_s, isi_l, isi_t, isi_n, ty_ii, ty_bi, ty_ss, ty_ll, ty_tt, ty_tl, ty_lt, ty_tn, find_s, lower_s, sq_nx, sq_sq, sq_a, sq_o, sq_x, sq_if, sq_ret, sq_retL, oOf_o, sq_retO, sq_app, lstK_l, sq_ext, sq_aug, sq_g, sq_frz, sq_br, sq_ct, sq_raise, ofG_some, nx_ap, thenS_nx, thenS_rt, thenS_exc, sq_for, sq_wh, endV_v, endV_o, endV_n, endV_x, endL_o, endL_x, gN_ap, List.getElem?_cons_zero, List.getElem?_cons_succ, List.set_cons_zero, List.set_cons_succ, List.length_cons, List.length_nil, decide_eq_true_eq, Bool.not_eq_true, reduceIte, Bool.false_eq_true, decide_true, decide_false, Nat.reduceAdd, Nat.reduceLeDiff, Nat.reduceLT, Bool.not_true, Bool.not_false, List.nil_append, List.cons_append, List.map_cons, List.map_nil, List.replicate_succ, List.replicate_zero, Bool.not_eq_eq_eq_not, decide_eq_false_iff_not, and_self, and_true, true_and, and_false, false_and, or_true, true_or, or_false, false_or, or_self, Int.reduceLE, Int.reduceLT, Int.reduceNeg, Int.reduceAdd, Int.reduceSub, Int.reduceMul, Int.reduceDiv, Int.reduceMod, Int.reduceEq, Int.reduceToNat, Nat.reduceEqDiff, frz_zero, frz_succ, gT_tup, gT_ktp, gC_ap, gE_nil, cast_0, cast_1, cast_2, cast_3, cast_4, cast_5, cast_6, cast_7, cast_8, cast_9, ty_bs, ty_is, frz_zeroV, oOfR_o, ap_lenO, ap_ixO, tOf_some, pOf_fn, ap_P, ap_iZT, itZT_ok, zipD_cons, zipD_nil, str_i, sq_set, oOfS_o, set_ints, l3, l6, lw, lg, lgt, ll, k3, k6, kc, kg, kgt, kl, high_ok ha, high_ok hb, c1, c2, c3, c4, c5, t1, t0]
theorem orders_ok {a b : Int} (ha : R64 a) (hb : R64 b) : m_l_orders [.int a, .int b] = .ok (.bl true) := by
  have q1 := C_i32_eq (high_in ha) (high_in hb)
  have q2 := C_i32_lt_u (s32_in a) (s32_in b)
  have ge1 : (if b ≤ a then (1 : Int) else 0) = 1 - if a < b then 1 else 0 := by split <;> split <;> omega
  have ge2 : (if b % 18446744073709551616 ≤ a % 18446744073709551616 then (1 : Int) else 0) = 1 - if a % 18446744073709551616 < b % 18446744073709551616 then 1 else 0 := by split <;> split <;> omega
  have c2s := C_i64_ge_s ha hb
  rw [ge1] at c2s
  have c5s := C_i64_le_s hb ha
  rw [ge1] at c5s
  have c2u := C_i64_ge_u ha hb
  rw [ge2] at c2u
  have c5u := C_i64_le_u hb ha
  rw [ge2] at c5u
  have e1 := fun s5 => ord_body (wd := "lt_s") (n3 := "i32.lt_s") (sf := "_s") (nlt := "i64.lt_s") (nge := "i64.ge_s") (ngt := "i64.gt_s") (nle := "i64.le_s") ha hb lts_eq (by decide +kernel) (by decide +kernel) (by decide +kernel) (by decide +kernel) (by decide +kernel) (by decide +kernel) (by decide +kernel) (by decide +kernel) (by decide +kernel) (by decide +kernel) (by decide +kernel) (by decide +kernel) (C_i32_lt_s (high_in ha) (high_in hb)) (C_i64_lt_s ha hb) c2s (C_i64_gt_s hb ha) c5s s5
  have e2 := fun s5 => ord_body (wd := "lt_u") (n3 := "i32.lt_u") (sf := "_u") (nlt := "i64.lt_u") (nge := "i64.ge_u") (ngt := "i64.gt_u") (nle := "i64.le_u") ha hb (ltu_eq ha hb) (by decide +kernel) (by decide +kernel) (by decide +kernel) (by decide +kernel) (by decide +kernel) (by decide +kernel) (by decide +kernel) (by decide +kernel) (by decide +kernel) (by decide +kernel) (by decide +kernel) (by decide +kernel) (C_i32_lt_u (high_in ha) (high_in hb)) (C_i64_lt_u ha hb) c2u (C_i64_gt_u hb ha) c5u s5
  have f2 : ∀ s4 s5 : Sl, ∃ t4 t5 : Sl, forGo (gN 4) b_l_orders_1 [.str "lt_s", .str "lt_u"] [.val (.int a), .val (.int b), .val (.int (if a / 4294967296 = b / 4294967296 then 1 else 0)), .val (.int (if s32 a % 4294967296 < s32 b % 4294967296 then 1 else 0)), s4, s5] = .nx [.val (.int a), .val (.int b), .val (.int (if a / 4294967296 = b / 4294967296 then 1 else 0)), .val (.int (if s32 a % 4294967296 < s32 b % 4294967296 then 1 else 0)), t4, t5] := fun s4 s5 => by
    refine ⟨.val (.str "lt_u"), .val (.int (if a % 18446744073709551616 < b % 18446744073709551616 then 1 else 0)), ?_⟩
    rw [forGo_cons gN_ap]
    simp only [bind_ok, bind_exc, bind_bad, ofE_ok, ofE_exc, vOf_v, ap_C, ap_V, ap_nil, ap_cons, ap_U, ap_B, ap_chain, ap_and, ap_or, ap_tup, ap_F, ap_M, ap_sl, ap_pN, ap_pS, ap_L, ap_tE, ap_tAn, ap_tO, ap_tN, ap_tY, ap_if, ap_lD, ap_lF, ap_lCat, catL_ok, ap_lRep, repL_ok, ap_lSl, slL_lst, slL_scr, ap_iD, itL_lst, itL_scr, ap_iT, itT_tup, itT_ktp, ap_iS, itS_str, ap_iR1, itR1_ok, add_i, add_s, add_l, addX_i, addX_s, sub_i, mul_i, div_i, mod_i, pow_i, shl_i, shr_i, and_i, or_i, xor_i, neg_i, not_b, lt_i, le_i, gt_i, ge_i, eq_i, eq_s, ne_i, ne_s, is_non, is_int, is_str, is_tup, is_lst, isnt_non, isnt_int, isnt_str, isnt_tup, toBl_b, toIn_i, ix_s, ix_l, ix_r, ix_t, ix_k, sl_s, sl_l, sl_r, sl_t, len_s, len_l, len_r, len_t, len_k, int_i, int_b, abs_i, min_i, max_i, tup_l, tup_t, list_l, list_r, list_t, isi_i, isi_b, isi_s, isi_l, isi_t, isi_n, ty_ii, ty_bi, ty_ss, ty_ll, ty_tt, ty_tl, ty_lt, ty_tn, find_s, lower_s, sq_nx, sq_sq, sq_a, sq_o, sq_x, sq_if, sq_ret, sq_retL, oOf_o, sq_retO, sq_app, lstK_l, sq_ext, sq_aug, sq_g, sq_frz, sq_br, sq_ct, sq_raise, ofG_some, nx_ap, thenS_nx, thenS_rt, thenS_exc, sq_for, sq_wh, endV_v, endV_o, endV_n, endV_x, endL_o, endL_x, gN_ap, List.getElem?_cons_zero, List.getElem?_cons_succ, List.set_cons_zero, List.set_cons_succ, List.length_cons, List.length_nil, decide_eq_true_eq, Bool.not_eq_true, reduceIte, Bool.false_eq_true, decide_true, decide_false, Nat.reduceAdd, Nat.reduceLeDiff, Nat.reduceLT, Bool.not_true, Bool.not_false, List.nil_append, List.cons_append, List.map_cons, List.map_nil, List.replicate_succ, List.replicate_zero, Bool.not_eq_eq_eq_not, decide_eq_false_iff_not, and_self, and_true, true_and, and_false, false_and, or_true, true_or, or_false, false_or, or_self, Int.reduceLE, Int.reduceLT, Int.reduceNeg, Int.reduceAdd, Int.reduceSub, Int.reduceMul, Int.reduceDiv, Int.reduceMod, Int.reduceEq, Int.reduceToNat, Nat.reduceEqDiff, frz_zero, frz_succ, gT_tup, gT_ktp, gC_ap, gE_nil, cast_0, cast_1, cast_2, cast_3, cast_4, cast_5, cast_6, cast_7, cast_8, cast_9, ty_bs, ty_is, frz_zeroV, oOfR_o, ap_lenO, ap_ixO, tOf_some, pOf_fn, ap_P, ap_iZT, itZT_ok, zipD_cons, zipD_nil, str_i, sq_set, oOfS_o, set_ints, e1]
    rw [forGo_cons gN_ap]
    simp only [bind_ok, bind_exc, bind_bad, ofE_ok, ofE_exc, vOf_v, ap_C, ap_V, ap_nil, ap_cons, ap_U, ap_B, ap_chain, ap_and, ap_or, ap_tup, ap_F, ap_M, ap_sl, ap_pN, ap_pS, ap_L, ap_tE, ap_tAn, ap_tO, ap_tN, ap_tY, ap_if, ap_lD, ap_lF, ap_lCat, catL_ok, ap_lRep, repL_ok, ap_lSl, slL_lst, slL_scr, ap_iD, itL_lst, itL_scr, ap_iT, itT_tup, itT_ktp, ap_iS, itS_str, ap_iR1, itR1_ok, add_i, add_s, add_l, addX_i, addX_s, sub_i, mul_i, div_i, mod_i, pow_i, shl_i, shr_i, and_i, or_i, xor_i, neg_i, not_b, lt_i, le_i, gt_i, ge_i, eq_i, eq_s, ne_i, ne_s, is_non, is_int, is_str, is_tup, is_lst, isnt_non, isnt_int, isnt_str, isnt_tup, toBl_b, toIn_i, ix_s, ix_l, ix_r, ix_t, ix_k, sl_s, sl_l, sl_r, sl_t, len_s, len_l, len_r, len_t, len_k, int_i, int_b, abs_i, min_i, max_i, tup_l, tup_t, list_l, list_r, list_t, isi_i, isi_b, isi_s, isi_l, isi_t, isi_n, ty_ii, ty_bi, ty_ss, ty_ll, ty_tt, ty_tl, ty_lt, ty_tn, find_s, lower_s, sq_nx, sq_sq, sq_a, sq_o, sq_x, sq_if, sq_ret, sq_retL, oOf_o, sq_retO, sq_app, lstK_l, sq_ext, sq_aug, sq_g, sq_frz, sq_br, sq_ct, sq_raise, ofG_some, nx_ap, thenS_nx, thenS_rt, thenS_exc, sq_for, sq_wh, endV_v, endV_o, endV_n, endV_x, endL_o, endL_x, gN_ap, List.getElem?_cons_zero, List.getElem?_cons_succ, List.set_cons_zero, List.set_cons_succ, List.length_cons, List.length_nil, decide_eq_true_eq, Bool.not_eq_true, reduceIte, Bool.false_eq_true, decide_true, decide_false, Nat.reduceAdd, Nat.reduceLeDiff, Nat.reduceLT, Bool.not_true, Bool.not_false, List.nil_append, List.cons_append, List.map_cons, List.map_nil, List.replicate_succ, List.replicate_zero, Bool.not_eq_eq_eq_not, decide_eq_false_iff_not, and_self, and_true, true_and, and_false, false_and, or_true, true_or, or_false, false_or, or_self, Int.reduceLE, Int.reduceLT, Int.reduceNeg, Int.reduceAdd, Int.reduceSub, Int.reduceMul, Int.reduceDiv, Int.reduceMod, Int.reduceEq, Int.reduceToNat, Nat.reduceEqDiff, frz_zero, frz_succ, gT_tup, gT_ktp, gC_ap, gE_nil, cast_0, cast_1, cast_2, cast_3, cast_4, cast_5, cast_6, cast_7, cast_8, cast_9, ty_bs, ty_is, frz_zeroV, oOfR_o, ap_lenO, ap_ixO, tOf_some, pOf_fn, ap_P, ap_iZT, itZT_ok, zipD_cons, zipD_nil, str_i, sq_set, oOfS_o, set_ints, e2, forGo_nil]
  obtain ⟨t4, t5, f2⟩ := f2 .un .un
  have q3 := C_i64_sub ha hb
  have q4 := C_i64_eqz (s64_in (a - b))
  have q5 := C_i64_eq ha hb
  have q6 : (if s64 (a - b) = 0 then (1 : Int) else 0) = if a = b then 1 else 0 := by
    have := eqz_eq ha hb
    by_cases h : a = b
    · rw [if_pos h, if_pos (this.mpr h)]
    · rw [if_neg h, if_neg fun z => h (this.mp z)]
  rw [q6] at q4
  rw [e_l_orders]
  unfold b_l_orders
  simp only [bind_ok, bind_exc, bind_bad, ofE_ok, ofE_exc, vOf_v, ap_C, ap_V, ap_nil, ap_cons, ap_U, ap_B, ap_chain, ap_and, ap_or, ap_tup, ap_F, ap_M, ap_sl, ap_pN, ap_pS, ap_L, ap_tE, ap_tAn, ap_tO, ap_tN, ap_tY, ap_if, ap_lD, ap_lF, ap_lCat, catL_ok, ap_lRep, repL_ok, ap_lSl, slL_lst, slL_scr, ap_iD, itL_lst, itL_scr, ap_iT, itT_tup, itT_ktp, ap_iS, itS_str, ap_iR1, itR1_ok, add_i, add_s, add_l, addX_i, addX_s, sub_i, mul_i, div_i, mod_i, pow_i, shl_i, shr_i, and_i, or_i, xor_i, neg_i, not_b, lt_i, le_i, gt_i, ge_i, eq_i, eq_s, ne_i, ne_s, is_non, is_int, is_str, is_tup, is_lst, isnt_non, isnt_int, isnt_str, isnt_tup, toBl_b, toIn_i, ix_s, ix_l, ix_r, ix_t, ix_k, sl_s, sl_l, sl_r, sl_t, len_s, len_l, len_r, len_t, len_k, int_i, int_b, abs_i, min_i, max_i, tup_l, tup_t, list_l, list_r, list_t, isi_i, isi_b, isi_s, isi_l, isi_t, isi_n, ty_ii, ty_bi, ty_ss, ty_ll, ty_tt, ty_tl, ty_lt, ty_tn, find_s, lower_s, sq_nx, sq_sq, sq_a, sq_o, sq_x, sq_if, sq_ret, sq_retL, oOf_o, sq_retO, sq_app, lstK_l, sq_ext, sq_aug, sq_g, sq_frz, sq_br, sq_ct, sq_raise, ofG_some, nx_ap, thenS_nx, thenS_rt, thenS_exc, sq_for, sq_wh, endV_v, endV_o, endV_n, endV_x, endL_o, endL_x, gN_ap, List.getElem?_cons_zero, List.getElem?_cons_succ, List.set_cons_zero, List.set_cons_succ, List.length_cons, List.length_nil, decide_eq_true_eq, Bool.not_eq_true, reduceIte, Bool.false_eq_true, decide_true, decide_false, Nat.reduceAdd, Nat.reduceLeDiff, Nat.reduceLT, Bool.not_true, Bool.not_false, List.nil_append, List.cons_append, List.map_cons, List.map_nil, List.replicate_succ, List.replicate_zero, Bool.not_eq_eq_eq_not, decide_eq_false_iff_not, and_self, and_true, true_and, and_false, false_and, or_true, true_or, or_false, false_or, or_self, Int.reduceLE, Int.reduceLT, Int.reduceNeg, Int.reduceAdd, Int.reduceSub, Int.reduceMul, Int.reduceDiv, Int.reduceMod, Int.reduceEq, Int.reduceToNat, Nat.reduceEqDiff, frz_zero, frz_succ, gT_tup, gT_ktp, gC_ap, gE_nil, cast_0, cast_1, cast_2, cast_3, cast_4, cast_5, cast_6, cast_7, cast_8, cast_9, ty_bs, ty_is, frz_zeroV, oOfR_o, ap_lenO, ap_ixO, tOf_some, pOf_fn, ap_P, ap_iZT, itZT_ok, zipD_cons, zipD_nil, str_i, sq_set, oOfS_o, set_ints, low_ok ha, low_ok hb, high_ok ha, high_ok hb, q1, q2, f2, q3, q4, q5]
/-! counts -/
theorem eq3 {a b c d e f : Int} (h : a = d) (h2 : b = e) (h3 : c = f) : dEq (.lst [.int a, .int b, .int c]) (.lst [.int d, .int e, .int f]) = .ok (.bl true) := by
  subst h h2 h3
  have q := eq_ints (ns := [a, b, c]) (ms := [a, b, c])
  rw [decide_eq_true rfl] at q
  exact q
theorem counted_ok {a : Int} (ha : R64 a) : m_l_counted [.int a] = .ok (.bl true) := by
  have q1 := C_i32_clz (high_in ha)
  have q2 := C_i32_clz (s32_in a)
  have q3 := C_i32_ctz (s32_in a)
  have q4 := C_i32_ctz (high_in ha)
  have q5 := C_i32_popcnt (high_in ha)
  have q6 := C_i32_popcnt (s32_in a)
  have q7 := C_i64_clz ha
  have q8 := C_i64_ctz ha
  have q9 := C_i64_popcnt ha
  rw [clz_eq ha] at q7
  rw [ctz_eq] at q8
  rw [pc_eq] at q9
  rw [e_l_counted]
  unfold b_l_counted
  by_cases h1 : 32 - (blen 32 (a / 4294967296 % 4294967296) : Int) = 32
  · rw [if_pos h1] at q7
    by_cases h2 : (tz (s32 a) 32 0 : Int) = 32
    · rw [if_pos h2] at q8
      simp only [bind_ok, bind_exc, bind_bad, ofE_ok, ofE_exc, vOf_v, ap_C, ap_V, ap_nil, ap_cons, ap_U, ap_B, ap_chain, ap_and, ap_or, ap_tup, ap_F, ap_M, ap_sl, ap_pN, ap_pS, ap_L, ap_tE, ap_tAn, ap_tO, ap_tN, ap_tY, ap_if, ap_lD, ap_lF, ap_lCat, catL_ok, ap_lRep, repL_ok, ap_lSl, slL_lst, slL_scr, ap_iD, itL_lst, itL_scr, ap_iT, itT_tup, itT_ktp, ap_iS, itS_str, ap_iR1, itR1_ok, add_i, add_s, add_l, addX_i, addX_s, sub_i, mul_i, div_i, mod_i, pow_i, shl_i, shr_i, and_i, or_i, xor_i, neg_i, not_b, lt_i, le_i, gt_i, ge_i, eq_i, eq_s, ne_i, ne_s, is_non, is_int, is_str, is_tup, is_lst, isnt_non, isnt_int, isnt_str, isnt_tup, toBl_b, toIn_i, ix_s, ix_l, ix_r, ix_t, ix_k, sl_s, sl_l, sl_r, sl_t, len_s, len_l, len_r, len_t, len_k, int_i, int_b, abs_i, min_i, max_i, tup_l, tup_t, list_l, list_r, list_t, isi_i, isi_b, isi_s, isi_l, isi_t, isi_n, ty_ii, ty_bi, ty_ss, ty_ll, ty_tt, ty_tl, ty_lt, ty_tn, find_s, lower_s, sq_nx, sq_sq, sq_a, sq_o, sq_x, sq_if, sq_ret, sq_retL, oOf_o, sq_retO, sq_app, lstK_l, sq_ext, sq_aug, sq_g, sq_frz, sq_br, sq_ct, sq_raise, ofG_some, nx_ap, thenS_nx, thenS_rt, thenS_exc, sq_for, sq_wh, endV_v, endV_o, endV_n, endV_x, endL_o, endL_x, gN_ap, List.getElem?_cons_zero, List.getElem?_cons_succ, List.set_cons_zero, List.set_cons_succ, List.length_cons, List.length_nil, decide_eq_true_eq, Bool.not_eq_true, reduceIte, Bool.false_eq_true, decide_true, decide_false, Nat.reduceAdd, Nat.reduceLeDiff, Nat.reduceLT, Bool.not_true, Bool.not_false, List.nil_append, List.cons_append, List.map_cons, List.map_nil, List.replicate_succ, List.replicate_zero, Bool.not_eq_eq_eq_not, decide_eq_false_iff_not, and_self, and_true, true_and, and_false, false_and, or_true, true_or, or_false, false_or, or_self, Int.reduceLE, Int.reduceLT, Int.reduceNeg, Int.reduceAdd, Int.reduceSub, Int.reduceMul, Int.reduceDiv, Int.reduceMod, Int.reduceEq, Int.reduceToNat, Nat.reduceEqDiff, frz_zero, frz_succ, gT_tup, gT_ktp, gC_ap, gE_nil, cast_0, cast_1, cast_2, cast_3, cast_4, cast_5, cast_6, cast_7, cast_8, cast_9, ty_bs, ty_is, frz_zeroV, oOfR_o, ap_lenO, ap_ixO, tOf_some, pOf_fn, ap_P, ap_iZT, itZT_ok, zipD_cons, zipD_nil, str_i, sq_set, oOfS_o, set_ints, low_ok ha, high_ok ha, q1, q2, q3, q4, q5, q6, q7, q8, q9, eq_true h1, eq_true h2, eq3 rfl rfl rfl]
    · rw [if_neg h2] at q8
      simp only [bind_ok, bind_exc, bind_bad, ofE_ok, ofE_exc, vOf_v, ap_C, ap_V, ap_nil, ap_cons, ap_U, ap_B, ap_chain, ap_and, ap_or, ap_tup, ap_F, ap_M, ap_sl, ap_pN, ap_pS, ap_L, ap_tE, ap_tAn, ap_tO, ap_tN, ap_tY, ap_if, ap_lD, ap_lF, ap_lCat, catL_ok, ap_lRep, repL_ok, ap_lSl, slL_lst, slL_scr, ap_iD, itL_lst, itL_scr, ap_iT, itT_tup, itT_ktp, ap_iS, itS_str, ap_iR1, itR1_ok, add_i, add_s, add_l, addX_i, addX_s, sub_i, mul_i, div_i, mod_i, pow_i, shl_i, shr_i, and_i, or_i, xor_i, neg_i, not_b, lt_i, le_i, gt_i, ge_i, eq_i, eq_s, ne_i, ne_s, is_non, is_int, is_str, is_tup, is_lst, isnt_non, isnt_int, isnt_str, isnt_tup, toBl_b, toIn_i, ix_s, ix_l, ix_r, ix_t, ix_k, sl_s, sl_l, sl_r, sl_t, len_s, len_l, len_r, len_t, len_k, int_i, int_b, abs_i, min_i, max_i, tup_l, tup_t, list_l, list_r, list_t, isi_i, isi_b, isi_s, isi_l, isi_t, isi_n, ty_ii, ty_bi, ty_ss, ty_ll, ty_tt, ty_tl, ty_lt, ty_tn, find_s, lower_s, sq_nx, sq_sq, sq_a, sq_o, sq_x, sq_if, sq_ret, sq_retL, oOf_o, sq_retO, sq_app, lstK_l, sq_ext, sq_aug, sq_g, sq_frz, sq_br, sq_ct, sq_raise, ofG_some, nx_ap, thenS_nx, thenS_rt, thenS_exc, sq_for, sq_wh, endV_v, endV_o, endV_n, endV_x, endL_o, endL_x, gN_ap, List.getElem?_cons_zero, List.getElem?_cons_succ, List.set_cons_zero, List.set_cons_succ, List.length_cons, List.length_nil, decide_eq_true_eq, Bool.not_eq_true, reduceIte, Bool.false_eq_true, decide_true, decide_false, Nat.reduceAdd, Nat.reduceLeDiff, Nat.reduceLT, Bool.not_true, Bool.not_false, List.nil_append, List.cons_append, List.map_cons, List.map_nil, List.replicate_succ, List.replicate_zero, Bool.not_eq_eq_eq_not, decide_eq_false_iff_not, and_self, and_true, true_and, and_false, false_and, or_true, true_or, or_false, false_or, or_self, Int.reduceLE, Int.reduceLT, Int.reduceNeg, Int.reduceAdd, Int.reduceSub, Int.reduceMul, Int.reduceDiv, Int.reduceMod, Int.reduceEq, Int.reduceToNat, Nat.reduceEqDiff, frz_zero, frz_succ, gT_tup, gT_ktp, gC_ap, gE_nil, cast_0, cast_1, cast_2, cast_3, cast_4, cast_5, cast_6, cast_7, cast_8, cast_9, ty_bs, ty_is, frz_zeroV, oOfR_o, ap_lenO, ap_ixO, tOf_some, pOf_fn, ap_P, ap_iZT, itZT_ok, zipD_cons, zipD_nil, str_i, sq_set, oOfS_o, set_ints, low_ok ha, high_ok ha, q1, q2, q3, q4, q5, q6, q7, q8, q9, eq_true h1, eq_false h2, eq3 rfl rfl rfl]
  · rw [if_neg h1] at q7
    by_cases h2 : (tz (s32 a) 32 0 : Int) = 32
    · rw [if_pos h2] at q8
      simp only [bind_ok, bind_exc, bind_bad, ofE_ok, ofE_exc, vOf_v, ap_C, ap_V, ap_nil, ap_cons, ap_U, ap_B, ap_chain, ap_and, ap_or, ap_tup, ap_F, ap_M, ap_sl, ap_pN, ap_pS, ap_L, ap_tE, ap_tAn, ap_tO, ap_tN, ap_tY, ap_if, ap_lD, ap_lF, ap_lCat, catL_ok, ap_lRep, repL_ok, ap_lSl, slL_lst, slL_scr, ap_iD, itL_lst, itL_scr, ap_iT, itT_tup, itT_ktp, ap_iS, itS_str, ap_iR1, itR1_ok, add_i, add_s, add_l, addX_i, addX_s, sub_i, mul_i, div_i, mod_i, pow_i, shl_i, shr_i, and_i, or_i, xor_i, neg_i, not_b, lt_i, le_i, gt_i, ge_i, eq_i, eq_s, ne_i, ne_s, is_non, is_int, is_str, is_tup, is_lst, isnt_non, isnt_int, isnt_str, isnt_tup, toBl_b, toIn_i, ix_s, ix_l, ix_r, ix_t, ix_k, sl_s, sl_l, sl_r, sl_t, len_s, len_l, len_r, len_t, len_k, int_i, int_b, abs_i, min_i, max_i, tup_l, tup_t, list_l, list_r, list_t, isi_i, isi_b, isi_s, isi_l, isi_t, isi_n, ty_ii, ty_bi, ty_ss, ty_ll, ty_tt, ty_tl, ty_lt, ty_tn, find_s, lower_s, sq_nx, sq_sq, sq_a, sq_o, sq_x, sq_if, sq_ret, sq_retL, oOf_o, sq_retO, sq_app, lstK_l, sq_ext, sq_aug, sq_g, sq_frz, sq_br, sq_ct, sq_raise, ofG_some, nx_ap, thenS_nx, thenS_rt, thenS_exc, sq_for, sq_wh, endV_v, endV_o, endV_n, endV_x, endL_o, endL_x, gN_ap, List.getElem?_cons_zero, List.getElem?_cons_succ, List.set_cons_zero, List.set_cons_succ, List.length_cons, List.length_nil, decide_eq_true_eq, Bool.not_eq_true, reduceIte, Bool.false_eq_true, decide_true, decide_false, Nat.reduceAdd, Nat.reduceLeDiff, Nat.reduceLT, Bool.not_true, Bool.not_false, List.nil_append, List.cons_append, List.map_cons, List.map_nil, List.replicate_succ, List.replicate_zero, Bool.not_eq_eq_eq_not, decide_eq_false_iff_not, and_self, and_true, true_and, and_false, false_and, or_true, true_or, or_false, false_or, or_self, Int.reduceLE, Int.reduceLT, Int.reduceNeg, Int.reduceAdd, Int.reduceSub, Int.reduceMul, Int.reduceDiv, Int.reduceMod, Int.reduceEq, Int.reduceToNat, Nat.reduceEqDiff, frz_zero, frz_succ, gT_tup, gT_ktp, gC_ap, gE_nil, cast_0, cast_1, cast_2, cast_3, cast_4, cast_5, cast_6, cast_7, cast_8, cast_9, ty_bs, ty_is, frz_zeroV, oOfR_o, ap_lenO, ap_ixO, tOf_some, pOf_fn, ap_P, ap_iZT, itZT_ok, zipD_cons, zipD_nil, str_i, sq_set, oOfS_o, set_ints, low_ok ha, high_ok ha, q1, q2, q3, q4, q5, q6, q7, q8, q9, eq_false h1, eq_true h2, eq3 rfl rfl rfl]
    · rw [if_neg h2] at q8
      simp only [bind_ok, bind_exc, bind_bad, ofE_ok, ofE_exc, vOf_v, ap_C, ap_V, ap_nil, ap_cons, ap_U, ap_B, ap_chain, ap_and, ap_or, ap_tup, ap_F, ap_M, ap_sl, ap_pN, ap_pS, ap_L, ap_tE, ap_tAn, ap_tO, ap_tN, ap_tY, ap_if, ap_lD, ap_lF, ap_lCat, catL_ok, ap_lRep, repL_ok, ap_lSl, slL_lst, slL_scr, ap_iD, itL_lst, itL_scr, ap_iT, itT_tup, itT_ktp, ap_iS, itS_str, ap_iR1, itR1_ok, add_i, add_s, add_l, addX_i, addX_s, sub_i, mul_i, div_i, mod_i, pow_i, shl_i, shr_i, and_i, or_i, xor_i, neg_i, not_b, lt_i, le_i, gt_i, ge_i, eq_i, eq_s, ne_i, ne_s, is_non, is_int, is_str, is_tup, is_lst, isnt_non, isnt_int, isnt_str, isnt_tup, toBl_b, toIn_i, ix_s, ix_l, ix_r, ix_t, ix_k, sl_s, sl_l, sl_r, sl_t, len_s, len_l, len_r, len_t, len_k, int_i, int_b, abs_i, min_i, max_i, tup_l, tup_t, list_l, list_r, list_t, isi_i, isi_b, isi_s, isi_l, isi_t, isi_n, ty_ii, ty_bi, ty_ss, ty_ll, ty_tt, ty_tl, ty_lt, ty_tn, find_s, lower_s, sq_nx, sq_sq, sq_a, sq_o, sq_x, sq_if, sq_ret, sq_retL, oOf_o, sq_retO, sq_app, lstK_l, sq_ext, sq_aug, sq_g, sq_frz, sq_br, sq_ct, sq_raise, ofG_some, nx_ap, thenS_nx, thenS_rt, thenS_exc, sq_for, sq_wh, endV_v, endV_o, endV_n, endV_x, endL_o, endL_x, gN_ap, List.getElem?_cons_zero, List.getElem?_cons_succ, List.set_cons_zero, List.set_cons_succ, List.length_cons, List.length_nil, decide_eq_true_eq, Bool.not_eq_true, reduceIte, Bool.false_eq_true, decide_true, decide_false, Nat.reduceAdd, Nat.reduceLeDiff, Nat.reduceLT, Bool.not_true, Bool.not_false, List.nil_append, List.cons_append, List.map_cons, List.map_nil, List.replicate_succ, List.replicate_zero, Bool.not_eq_eq_eq_not, decide_eq_false_iff_not, and_self, and_true, true_and, and_false, false_and, or_true, true_or, or_false, false_or, or_self, Int.reduceLE, Int.reduceLT, Int.reduceNeg, Int.reduceAdd, Int.reduceSub, Int.reduceMul, Int.reduceDiv, Int.reduceMod, Int.reduceEq, Int.reduceToNat, Nat.reduceEqDiff, frz_zero, frz_succ, gT_tup, gT_ktp, gC_ap, gE_nil, cast_0, cast_1, cast_2, cast_3, cast_4, cast_5, cast_6, cast_7, cast_8, cast_9, ty_bs, ty_is, frz_zeroV, oOfR_o, ap_lenO, ap_ixO, tOf_some, pOf_fn, ap_P, ap_iZT, itZT_ok, zipD_cons, zipD_nil, str_i, sq_set, oOfS_o, set_ints, low_ok ha, high_ok ha, q1, q2, q3, q4, q5, q6, q7, q8, q9, eq_false h1, eq_false h2, eq3 rfl rfl rfl]
/-! division -/
theorem eq_bb (x y : Bool) : dEq (.bl x) (.bl y) = .ok (.bl (x == y)) := by cases x <;> cases y <;> rfl
theorem divided_u {a b : Int} (ha : R64 a) (hb : R64 b) (h0 : b ≠ 0) : m_l_divided [.int a, .int b, .str "u"] = .ok (.bl true) := by
  have q1 := C_i64_div_u ha hb h0
  have q2 := C_i64_rem_u ha hb h0
  have q3 := C_i64_mul (s64_in (a % 18446744073709551616 / (b % 18446744073709551616))) hb
  have q4 := C_i64_add (s64_in (s64 (a % 18446744073709551616 / (b % 18446744073709551616)) * b)) (s64_in (a % 18446744073709551616 - b % 18446744073709551616 * (a % 18446744073709551616 / (b % 18446744073709551616))))
  rw [divu_eq ha] at q4
  have q5 := C_i64_lt_u (s64_in (a % 18446744073709551616 - b % 18446744073709551616 * (a % 18446744073709551616 / (b % 18446744073709551616)))) hb
  rw [if_pos (remu_lt hb h0)] at q5
  have l1 : ("i64.div_" : Str).length + ("u" : Str).length ≤ 100000 := by decide +kernel
  have l2 : ("i64.rem_" : Str).length + ("u" : Str).length ≤ 100000 := by decide +kernel
  have k1 : ("i64.div_" : Str) ++ ("u" : Str) = "i64.div_u" := by decide +kernel
  have k2 : ("i64.rem_" : Str) ++ ("u" : Str) = "i64.rem_u" := by decide +kernel
  rw [e_l_divided]
  unfold b_l_divided
  simp only [bind_ok, bind_exc, bind_bad, ofE_ok, ofE_exc, vOf_v, ap_C, ap_V, ap_nil, ap_cons, ap_U, ap_B, ap_chain, ap_and, ap_or, ap_tup, ap_F, ap_M, ap_sl, ap_pN, ap_pS, ap_L, ap_tE, ap_tAn, ap_tO, ap_tN, ap_tY, ap_if, ap_lD, ap_lF, ap_lCat, catL_ok, ap_lRep, repL_ok, ap_lSl, slL_lst, slL_scr, ap_iD, itL_lst, itL_scr, ap_iT, itT_tup, itT_ktp, ap_iS, itS_str, ap_iR1, itR1_ok, add_i, add_s, add_l, addX_i, addX_s, sub_i, mul_i, div_i, mod_i, pow_i, shl_i, shr_i, and_i, or_i, xor_i, neg_i, not_b, lt_i, le_i, gt_i, ge_i, eq_i, eq_s, ne_i, ne_s, is_non, is_int, is_str, is_tup, is_lst, isnt_non, isnt_int, isnt_str, isnt_tup, toBl_b, toIn_i, ix_s, ix_l, ix_r, ix_t, ix_k, sl_s, sl_l, sl_r, sl_t, len_s, len_l, len_r, len_t, len_k, int_i, int_b, abs_i, min_i, max_i, tup_l, tup_t, list_l, list_r, list_t, isi_i, isi_b, isi_s, isi_l, isi_t, isi_n, ty_ii, ty_bi, ty_ss, ty_ll, ty_tt, ty_tl, ty_lt, ty_tn, find_s, lower_s, sq_nx, sq_sq, sq_a, sq_o, sq_x, sq_if, sq_ret, sq_retL, oOf_o, sq_retO, sq_app, lstK_l, sq_ext, sq_aug, sq_g, sq_frz, sq_br, sq_ct, sq_raise, ofG_some, nx_ap, thenS_nx, thenS_rt, thenS_exc, sq_for, sq_wh, endV_v, endV_o, endV_n, endV_x, endL_o, endL_x, gN_ap, List.getElem?_cons_zero, List.getElem?_cons_succ, List.set_cons_zero, List.set_cons_succ, List.length_cons, List.length_nil, decide_eq_true_eq, Bool.not_eq_true, reduceIte, Bool.false_eq_true, decide_true, decide_false, Nat.reduceAdd, Nat.reduceLeDiff, Nat.reduceLT, Bool.not_true, Bool.not_false, List.nil_append, List.cons_append, List.map_cons, List.map_nil, List.replicate_succ, List.replicate_zero, Bool.not_eq_eq_eq_not, decide_eq_false_iff_not, and_self, and_true, true_and, and_false, false_and, or_true, true_or, or_false, false_or, or_self, Int.reduceLE, Int.reduceLT, Int.reduceNeg, Int.reduceAdd, Int.reduceSub, Int.reduceMul, Int.reduceDiv, Int.reduceMod, Int.reduceEq, Int.reduceToNat, Nat.reduceEqDiff, frz_zero, frz_succ, gT_tup, gT_ktp, gC_ap, gE_nil, cast_0, cast_1, cast_2, cast_3, cast_4, cast_5, cast_6, cast_7, cast_8, cast_9, ty_bs, ty_is, frz_zeroV, oOfR_o, ap_lenO, ap_ixO, tOf_some, pOf_fn, ap_P, ap_iZT, itZT_ok, zipD_cons, zipD_nil, str_i, sq_set, oOfS_o, set_ints, l1, l2, k1, k2, q1, q2, q3, q4, q5]
theorem divided_s {a b : Int} (ha : R64 a) (hb : R64 b) (h0 : b ≠ 0) (hx : ¬ (b = -1 ∧ a = -9223372036854775808)) : m_l_divided [.int a, .int b, .str "s"] = .ok (.bl true) := by
  have hq := quo_in ha h0 hx
  have hr := rem_eq (a := a) h0
  have q1 := C_i64_div_s ha hb h0 hq
  have q2 := C_i64_rem_s ha hb h0
  have rin : R64 (a - b * quo a b) := by
    have h := hr.1
    unfold R64 at hb ⊢
    generalize b * quo a b = z at *
    split at h <;> split at h <;> omega
  have q3 := C_i64_mul hq hb
  have q4 := C_i64_add (s64_in (quo a b * b)) rin
  rw [divs_eq ha] at q4
  have l1 : ("i64.div_" : Str).length + ("s" : Str).length ≤ 100000 := by decide +kernel
  have l2 : ("i64.rem_" : Str).length + ("s" : Str).length ≤ 100000 := by decide +kernel
  have k1 : ("i64.div_" : Str) ++ ("s" : Str) = "i64.div_s" := by decide +kernel
  have k2 : ("i64.rem_" : Str) ++ ("s" : Str) = "i64.rem_s" := by decide +kernel
  have su : (("s" : Str) = "u") = False := eq_false (by decide +kernel)
  have m1 : fMax2 [.int (a - b * quo a b), .int (-(a - b * quo a b))] = .ok (.int (if a - b * quo a b < 0 then -(a - b * quo a b) else a - b * quo a b)) := by
    show R.ok (D.int (if -(a - b * quo a b) > a - b * quo a b then -(a - b * quo a b) else a - b * quo a b)) = _
    by_cases h : a - b * quo a b < 0
    · rw [if_pos h, if_pos (by omega)]
    · rw [if_neg h, if_neg (by omega)]
  have m2 : fMax2 [.int b, .int (-b)] = .ok (.int (if b < 0 then -b else b)) := by
    show R.ok (D.int (if -b > b then -b else b)) = _
    by_cases h : b < 0
    · rw [if_pos h, if_pos (by omega)]
    · rw [if_neg h, if_neg (by omega)]
  rw [e_l_divided]
  unfold b_l_divided
  by_cases z : a - b * quo a b = 0
  · simp only [bind_ok, bind_exc, bind_bad, ofE_ok, ofE_exc, vOf_v, ap_C, ap_V, ap_nil, ap_cons, ap_U, ap_B, ap_chain, ap_and, ap_or, ap_tup, ap_F, ap_M, ap_sl, ap_pN, ap_pS, ap_L, ap_tE, ap_tAn, ap_tO, ap_tN, ap_tY, ap_if, ap_lD, ap_lF, ap_lCat, catL_ok, ap_lRep, repL_ok, ap_lSl, slL_lst, slL_scr, ap_iD, itL_lst, itL_scr, ap_iT, itT_tup, itT_ktp, ap_iS, itS_str, ap_iR1, itR1_ok, add_i, add_s, add_l, addX_i, addX_s, sub_i, mul_i, div_i, mod_i, pow_i, shl_i, shr_i, and_i, or_i, xor_i, neg_i, not_b, lt_i, le_i, gt_i, ge_i, eq_i, eq_s, ne_i, ne_s, is_non, is_int, is_str, is_tup, is_lst, isnt_non, isnt_int, isnt_str, isnt_tup, toBl_b, toIn_i, ix_s, ix_l, ix_r, ix_t, ix_k, sl_s, sl_l, sl_r, sl_t, len_s, len_l, len_r, len_t, len_k, int_i, int_b, abs_i, min_i, max_i, tup_l, tup_t, list_l, list_r, list_t, isi_i, isi_b, isi_s, isi_l, isi_t, isi_n, ty_ii, ty_bi, ty_ss, ty_ll, ty_tt, ty_tl, ty_lt, ty_tn, find_s, lower_s, sq_nx, sq_sq, sq_a, sq_o, sq_x, sq_if, sq_ret, sq_retL, oOf_o, sq_retO, sq_app, lstK_l, sq_ext, sq_aug, sq_g, sq_frz, sq_br, sq_ct, sq_raise, ofG_some, nx_ap, thenS_nx, thenS_rt, thenS_exc, sq_for, sq_wh, endV_v, endV_o, endV_n, endV_x, endL_o, endL_x, gN_ap, List.getElem?_cons_zero, List.getElem?_cons_succ, List.set_cons_zero, List.set_cons_succ, List.length_cons, List.length_nil, decide_eq_true_eq, Bool.not_eq_true, reduceIte, Bool.false_eq_true, decide_true, decide_false, Nat.reduceAdd, Nat.reduceLeDiff, Nat.reduceLT, Bool.not_true, Bool.not_false, List.nil_append, List.cons_append, List.map_cons, List.map_nil, List.replicate_succ, List.replicate_zero, Bool.not_eq_eq_eq_not, decide_eq_false_iff_not, and_self, and_true, true_and, and_false, false_and, or_true, true_or, or_false, false_or, or_self, Int.reduceLE, Int.reduceLT, Int.reduceNeg, Int.reduceAdd, Int.reduceSub, Int.reduceMul, Int.reduceDiv, Int.reduceMod, Int.reduceEq, Int.reduceToNat, Nat.reduceEqDiff, frz_zero, frz_succ, gT_tup, gT_ktp, gC_ap, gE_nil, cast_0, cast_1, cast_2, cast_3, cast_4, cast_5, cast_6, cast_7, cast_8, cast_9, ty_bs, ty_is, frz_zeroV, oOfR_o, ap_lenO, ap_ixO, tOf_some, pOf_fn, ap_P, ap_iZT, itZT_ok, zipD_cons, zipD_nil, str_i, sq_set, oOfS_o, set_ints, - max_i, l1, l2, k1, k2, q1, q2, q3, q4, su, m1, m2, eq_true hr.1, eq_true z]
  · have z2 : decide (a - b * quo a b < 0) = decide (a < 0) := decide_eq_decide.mpr (hr.2.resolve_left z)
    simp only [bind_ok, bind_exc, bind_bad, ofE_ok, ofE_exc, vOf_v, ap_C, ap_V, ap_nil, ap_cons, ap_U, ap_B, ap_chain, ap_and, ap_or, ap_tup, ap_F, ap_M, ap_sl, ap_pN, ap_pS, ap_L, ap_tE, ap_tAn, ap_tO, ap_tN, ap_tY, ap_if, ap_lD, ap_lF, ap_lCat, catL_ok, ap_lRep, repL_ok, ap_lSl, slL_lst, slL_scr, ap_iD, itL_lst, itL_scr, ap_iT, itT_tup, itT_ktp, ap_iS, itS_str, ap_iR1, itR1_ok, add_i, add_s, add_l, addX_i, addX_s, sub_i, mul_i, div_i, mod_i, pow_i, shl_i, shr_i, and_i, or_i, xor_i, neg_i, not_b, lt_i, le_i, gt_i, ge_i, eq_i, eq_s, ne_i, ne_s, is_non, is_int, is_str, is_tup, is_lst, isnt_non, isnt_int, isnt_str, isnt_tup, toBl_b, toIn_i, ix_s, ix_l, ix_r, ix_t, ix_k, sl_s, sl_l, sl_r, sl_t, len_s, len_l, len_r, len_t, len_k, int_i, int_b, abs_i, min_i, max_i, tup_l, tup_t, list_l, list_r, list_t, isi_i, isi_b, isi_s, isi_l, isi_t, isi_n, ty_ii, ty_bi, ty_ss, ty_ll, ty_tt, ty_tl, ty_lt, ty_tn, find_s, lower_s, sq_nx, sq_sq, sq_a, sq_o, sq_x, sq_if, sq_ret, sq_retL, oOf_o, sq_retO, sq_app, lstK_l, sq_ext, sq_aug, sq_g, sq_frz, sq_br, sq_ct, sq_raise, ofG_some, nx_ap, thenS_nx, thenS_rt, thenS_exc, sq_for, sq_wh, endV_v, endV_o, endV_n, endV_x, endL_o, endL_x, gN_ap, List.getElem?_cons_zero, List.getElem?_cons_succ, List.set_cons_zero, List.set_cons_succ, List.length_cons, List.length_nil, decide_eq_true_eq, Bool.not_eq_true, reduceIte, Bool.false_eq_true, decide_true, decide_false, Nat.reduceAdd, Nat.reduceLeDiff, Nat.reduceLT, Bool.not_true, Bool.not_false, List.nil_append, List.cons_append, List.map_cons, List.map_nil, List.replicate_succ, List.replicate_zero, Bool.not_eq_eq_eq_not, decide_eq_false_iff_not, and_self, and_true, true_and, and_false, false_and, or_true, true_or, or_false, false_or, or_self, Int.reduceLE, Int.reduceLT, Int.reduceNeg, Int.reduceAdd, Int.reduceSub, Int.reduceMul, Int.reduceDiv, Int.reduceMod, Int.reduceEq, Int.reduceToNat, Nat.reduceEqDiff, frz_zero, frz_succ, gT_tup, gT_ktp, gC_ap, gE_nil, cast_0, cast_1, cast_2, cast_3, cast_4, cast_5, cast_6, cast_7, cast_8, cast_9, ty_bs, ty_is, frz_zeroV, oOfR_o, ap_lenO, ap_ixO, tOf_some, pOf_fn, ap_P, ap_iZT, itZT_ok, zipD_cons, zipD_nil, str_i, sq_set, oOfS_o, set_ints, - max_i, l1, l2, k1, k2, q1, q2, q3, q4, su, m1, m2, eq_true hr.1, eq_false z, eq_bb, z2]
    rw [beq_self_eq_true]
theorem cell_ok {ns : List Int} {k : Int} (h : 0 ≤ k) : m_l_cell [.scr (dI ns), .int k] = .ok (.int (ns.getD k.toNat 0)) := by
  rw [e_l_cell]
  unfold b_l_cell
  by_cases c : k < ns.length
  · simp only [bind_ok, bind_exc, bind_bad, ofE_ok, ofE_exc, vOf_v, ap_C, ap_V, ap_nil, ap_cons, ap_U, ap_B, ap_chain, ap_and, ap_or, ap_tup, ap_F, ap_M, ap_sl, ap_pN, ap_pS, ap_L, ap_tE, ap_tAn, ap_tO, ap_tN, ap_tY, ap_if, ap_lD, ap_lF, ap_lCat, catL_ok, ap_lRep, repL_ok, ap_lSl, slL_lst, slL_scr, ap_iD, itL_lst, itL_scr, ap_iT, itT_tup, itT_ktp, ap_iS, itS_str, ap_iR1, itR1_ok, add_i, add_s, add_l, addX_i, addX_s, sub_i, mul_i, div_i, mod_i, pow_i, shl_i, shr_i, and_i, or_i, xor_i, neg_i, not_b, lt_i, le_i, gt_i, ge_i, eq_i, eq_s, ne_i, ne_s, is_non, is_int, is_str, is_tup, is_lst, isnt_non, isnt_int, isnt_str, isnt_tup, toBl_b, toIn_i, ix_s, ix_l, ix_r, ix_t, ix_k, sl_s, sl_l, sl_r, sl_t, len_s, len_l, len_r, len_t, len_k, int_i, int_b, abs_i, min_i, max_i, tup_l, tup_t, list_l, list_r, list_t, isi_i, isi_b, isi_s, isi_l, isi_t, isi_n, ty_ii, ty_bi, ty_ss, ty_ll, ty_tt, ty_tl, ty_lt, ty_tn, find_s, lower_s, sq_nx, sq_sq, sq_a, sq_o, sq_x, sq_if, sq_ret, sq_retL, oOf_o, sq_retO, sq_app, lstK_l, sq_ext, sq_aug, sq_g, sq_frz, sq_br, sq_ct, sq_raise, ofG_some, nx_ap, thenS_nx, thenS_rt, thenS_exc, sq_for, sq_wh, endV_v, endV_o, endV_n, endV_x, endL_o, endL_x, gN_ap, List.getElem?_cons_zero, List.getElem?_cons_succ, List.set_cons_zero, List.set_cons_succ, List.length_cons, List.length_nil, decide_eq_true_eq, Bool.not_eq_true, reduceIte, Bool.false_eq_true, decide_true, decide_false, Nat.reduceAdd, Nat.reduceLeDiff, Nat.reduceLT, Bool.not_true, Bool.not_false, List.nil_append, List.cons_append, List.map_cons, List.map_nil, List.replicate_succ, List.replicate_zero, Bool.not_eq_eq_eq_not, decide_eq_false_iff_not, and_self, and_true, true_and, and_false, false_and, or_true, true_or, or_false, false_or, or_self, Int.reduceLE, Int.reduceLT, Int.reduceNeg, Int.reduceAdd, Int.reduceSub, Int.reduceMul, Int.reduceDiv, Int.reduceMod, Int.reduceEq, Int.reduceToNat, Nat.reduceEqDiff, frz_zero, frz_succ, gT_tup, gT_ktp, gC_ap, gE_nil, cast_0, cast_1, cast_2, cast_3, cast_4, cast_5, cast_6, cast_7, cast_8, cast_9, ty_bs, ty_is, frz_zeroV, oOfR_o, ap_lenO, ap_ixO, tOf_some, pOf_fn, ap_P, ap_iZT, itZT_ok, zipD_cons, zipD_nil, str_i, sq_set, oOfS_o, set_ints, List.length_map, c, ixL_ints h c]
  · simp only [bind_ok, bind_exc, bind_bad, ofE_ok, ofE_exc, vOf_v, ap_C, ap_V, ap_nil, ap_cons, ap_U, ap_B, ap_chain, ap_and, ap_or, ap_tup, ap_F, ap_M, ap_sl, ap_pN, ap_pS, ap_L, ap_tE, ap_tAn, ap_tO, ap_tN, ap_tY, ap_if, ap_lD, ap_lF, ap_lCat, catL_ok, ap_lRep, repL_ok, ap_lSl, slL_lst, slL_scr, ap_iD, itL_lst, itL_scr, ap_iT, itT_tup, itT_ktp, ap_iS, itS_str, ap_iR1, itR1_ok, add_i, add_s, add_l, addX_i, addX_s, sub_i, mul_i, div_i, mod_i, pow_i, shl_i, shr_i, and_i, or_i, xor_i, neg_i, not_b, lt_i, le_i, gt_i, ge_i, eq_i, eq_s, ne_i, ne_s, is_non, is_int, is_str, is_tup, is_lst, isnt_non, isnt_int, isnt_str, isnt_tup, toBl_b, toIn_i, ix_s, ix_l, ix_r, ix_t, ix_k, sl_s, sl_l, sl_r, sl_t, len_s, len_l, len_r, len_t, len_k, int_i, int_b, abs_i, min_i, max_i, tup_l, tup_t, list_l, list_r, list_t, isi_i, isi_b, isi_s, isi_l, isi_t, isi_n, ty_ii, ty_bi, ty_ss, ty_ll, ty_tt, ty_tl, ty_lt, ty_tn, find_s, lower_s, sq_nx, sq_sq, sq_a, sq_o, sq_x, sq_if, sq_ret, sq_retL, oOf_o, sq_retO, sq_app, lstK_l, sq_ext, sq_aug, sq_g, sq_frz, sq_br, sq_ct, sq_raise, ofG_some, nx_ap, thenS_nx, thenS_rt, thenS_exc, sq_for, sq_wh, endV_v, endV_o, endV_n, endV_x, endL_o, endL_x, gN_ap, List.getElem?_cons_zero, List.getElem?_cons_succ, List.set_cons_zero, List.set_cons_succ, List.length_cons, List.length_nil, decide_eq_true_eq, Bool.not_eq_true, reduceIte, Bool.false_eq_true, decide_true, decide_false, Nat.reduceAdd, Nat.reduceLeDiff, Nat.reduceLT, Bool.not_true, Bool.not_false, List.nil_append, List.cons_append, List.map_cons, List.map_nil, List.replicate_succ, List.replicate_zero, Bool.not_eq_eq_eq_not, decide_eq_false_iff_not, and_self, and_true, true_and, and_false, false_and, or_true, true_or, or_false, false_or, or_self, Int.reduceLE, Int.reduceLT, Int.reduceNeg, Int.reduceAdd, Int.reduceSub, Int.reduceMul, Int.reduceDiv, Int.reduceMod, Int.reduceEq, Int.reduceToNat, Nat.reduceEqDiff, frz_zero, frz_succ, gT_tup, gT_ktp, gC_ap, gE_nil, cast_0, cast_1, cast_2, cast_3, cast_4, cast_5, cast_6, cast_7, cast_8, cast_9, ty_bs, ty_is, frz_zeroV, oOfR_o, ap_lenO, ap_ixO, tOf_some, pOf_fn, ap_P, ap_iZT, itZT_ok, zipD_cons, zipD_nil, str_i, sq_set, oOfS_o, set_ints, List.length_map, c]
    rw [List.getD_eq_getElem?_getD, List.getElem?_eq_none (by omega)]
    rfl
theorem mul3 (x : Int) : (CMulW 3 x ∨ CMul 3 x) = True := eq_true (Or.inr (Or.inl ⟨by decide, by decide⟩))
abbrev I9 (sc : D) : Dm.Env → Prop := fun env => ∃ x1 x2 x3 x4 : Sl, env = [.val sc, x1, x2, x3, x4]
theorem ranges {b : Int} : R64 (sgn 32 b) := r64_of (s32_in b)
theorem body {ns : List Int} {j : Nat} (x1 x2 x3 x4 : Sl) : NxP (I9 (.scr (dI ns))) (b_law_1 [.val (.scr (dI ns)), .val (.int (j : Int)), x2, x3, x4]) := by
  have cl0 := cell_ok (ns := ns) (k := 3 * (j : Int)) (by omega)
  have cl1 := cell_ok (ns := ns) (k := 3 * (j : Int) + 1) (by omega)
  have cl2 := cell_ok (ns := ns) (k := 3 * (j : Int) + 2) (by omega)
  generalize ns.getD (3 * (j : Int)).toNat 0 = c0 at *
  generalize ns.getD (3 * (j : Int) + 1).toNat 0 = c1 at *
  generalize ns.getD (3 * (j : Int) + 2).toNat 0 = c2 at *
  obtain ⟨a, ea, ha⟩ := val_ok KW.b c0
  obtain ⟨b, eb, hb⟩ := val_ok KW.b c1
  have ha : R64 a := ha
  have hb : R64 b := hb
  have jn := join_ok (high_in ha) (s32_in a)
  rw [join_self] at jn
  have sg := l_signed_ok KW.a b
  have neg1 : -((1 : Int) * 2 ^ 63) = -9223372036854775808 := by decide
  by_cases c3 : c2 % 3 = 1
  · have hs : R64 (sgn 32 b) := ranges
    unfold b_law_1
    by_cases h0 : sgn 32 b = 0
    · simp only [bind_ok, bind_exc, bind_bad, ofE_ok, ofE_exc, vOf_v, ap_C, ap_V, ap_nil, ap_cons, ap_U, ap_B, ap_chain, ap_and, ap_or, ap_tup, ap_F, ap_M, ap_sl, ap_pN, ap_pS, ap_L, ap_tE, ap_tAn, ap_tO, ap_tN, ap_tY, ap_if, ap_lD, ap_lF, ap_lCat, catL_ok, ap_lRep, repL_ok, ap_lSl, slL_lst, slL_scr, ap_iD, itL_lst, itL_scr, ap_iT, itT_tup, itT_ktp, ap_iS, itS_str, ap_iR1, itR1_ok, add_i, add_s, add_l, addX_i, addX_s, sub_i, mul_i, div_i, mod_i, pow_i, shl_i, shr_i, and_i, or_i, xor_i, neg_i, not_b, lt_i, le_i, gt_i, ge_i, eq_i, eq_s, ne_i, ne_s, is_non, is_int, is_str, is_tup, is_lst, isnt_non, isnt_int, isnt_str, isnt_tup, toBl_b, toIn_i, ix_s, ix_l, ix_r, ix_t, ix_k, sl_s, sl_l, sl_r, sl_t, len_s, len_l, len_r, len_t, len_k, int_i, int_b, abs_i, min_i, max_i, tup_l, tup_t, list_l, list_r, list_t, isi_i, isi_b, isi_s, isi_l, isi_t, isi_n, ty_ii, ty_bi, ty_ss, ty_ll, ty_tt, ty_tl, ty_lt, ty_tn, find_s, lower_s, sq_nx, sq_sq, sq_a, sq_o, sq_x, sq_if, sq_ret, sq_retL, oOf_o, sq_retO, sq_app, lstK_l, sq_ext, sq_aug, sq_g, sq_frz, sq_br, sq_ct, sq_raise, ofG_some, nx_ap, thenS_nx, thenS_rt, thenS_exc, sq_for, sq_wh, endV_v, endV_o, endV_n, endV_x, endL_o, endL_x, gN_ap, List.getElem?_cons_zero, List.getElem?_cons_succ, List.set_cons_zero, List.set_cons_succ, List.length_cons, List.length_nil, decide_eq_true_eq, Bool.not_eq_true, reduceIte, Bool.false_eq_true, decide_true, decide_false, Nat.reduceAdd, Nat.reduceLeDiff, Nat.reduceLT, Bool.not_true, Bool.not_false, List.nil_append, List.cons_append, List.map_cons, List.map_nil, List.replicate_succ, List.replicate_zero, Bool.not_eq_eq_eq_not, decide_eq_false_iff_not, and_self, and_true, true_and, and_false, false_and, or_true, true_or, or_false, false_or, or_self, Int.reduceLE, Int.reduceLT, Int.reduceNeg, Int.reduceAdd, Int.reduceSub, Int.reduceMul, Int.reduceDiv, Int.reduceMod, Int.reduceEq, Int.reduceToNat, Nat.reduceEqDiff, frz_zero, frz_succ, gT_tup, gT_ktp, gC_ap, gE_nil, cast_0, cast_1, cast_2, cast_3, cast_4, cast_5, cast_6, cast_7, cast_8, cast_9, ty_bs, ty_is, frz_zeroV, oOfR_o, ap_lenO, ap_ixO, tOf_some, pOf_fn, ap_P, ap_iZT, itZT_ok, zipD_cons, zipD_nil, str_i, sq_set, oOfS_o, set_ints, mul3, cl0, cl1, cl2, ea, eb, eq_true c3, sg, high_ok ha, low_ok ha, jn, isint_ok, sums_ok ha hs, products_ok ha hs, bitwise_ok ha hs, orders_ok ha hs, counted_ok ha, c63, neg1, nxP_nx, eq_true h0]
      exact ⟨_, _, _, _, rfl⟩
    · by_cases h1 : sgn 32 b = -1
      · by_cases h2 : a = -9223372036854775808
        · simp only [bind_ok, bind_exc, bind_bad, ofE_ok, ofE_exc, vOf_v, ap_C, ap_V, ap_nil, ap_cons, ap_U, ap_B, ap_chain, ap_and, ap_or, ap_tup, ap_F, ap_M, ap_sl, ap_pN, ap_pS, ap_L, ap_tE, ap_tAn, ap_tO, ap_tN, ap_tY, ap_if, ap_lD, ap_lF, ap_lCat, catL_ok, ap_lRep, repL_ok, ap_lSl, slL_lst, slL_scr, ap_iD, itL_lst, itL_scr, ap_iT, itT_tup, itT_ktp, ap_iS, itS_str, ap_iR1, itR1_ok, add_i, add_s, add_l, addX_i, addX_s, sub_i, mul_i, div_i, mod_i, pow_i, shl_i, shr_i, and_i, or_i, xor_i, neg_i, not_b, lt_i, le_i, gt_i, ge_i, eq_i, eq_s, ne_i, ne_s, is_non, is_int, is_str, is_tup, is_lst, isnt_non, isnt_int, isnt_str, isnt_tup, toBl_b, toIn_i, ix_s, ix_l, ix_r, ix_t, ix_k, sl_s, sl_l, sl_r, sl_t, len_s, len_l, len_r, len_t, len_k, int_i, int_b, abs_i, min_i, max_i, tup_l, tup_t, list_l, list_r, list_t, isi_i, isi_b, isi_s, isi_l, isi_t, isi_n, ty_ii, ty_bi, ty_ss, ty_ll, ty_tt, ty_tl, ty_lt, ty_tn, find_s, lower_s, sq_nx, sq_sq, sq_a, sq_o, sq_x, sq_if, sq_ret, sq_retL, oOf_o, sq_retO, sq_app, lstK_l, sq_ext, sq_aug, sq_g, sq_frz, sq_br, sq_ct, sq_raise, ofG_some, nx_ap, thenS_nx, thenS_rt, thenS_exc, sq_for, sq_wh, endV_v, endV_o, endV_n, endV_x, endL_o, endL_x, gN_ap, List.getElem?_cons_zero, List.getElem?_cons_succ, List.set_cons_zero, List.set_cons_succ, List.length_cons, List.length_nil, decide_eq_true_eq, Bool.not_eq_true, reduceIte, Bool.false_eq_true, decide_true, decide_false, Nat.reduceAdd, Nat.reduceLeDiff, Nat.reduceLT, Bool.not_true, Bool.not_false, List.nil_append, List.cons_append, List.map_cons, List.map_nil, List.replicate_succ, List.replicate_zero, Bool.not_eq_eq_eq_not, decide_eq_false_iff_not, and_self, and_true, true_and, and_false, false_and, or_true, true_or, or_false, false_or, or_self, Int.reduceLE, Int.reduceLT, Int.reduceNeg, Int.reduceAdd, Int.reduceSub, Int.reduceMul, Int.reduceDiv, Int.reduceMod, Int.reduceEq, Int.reduceToNat, Nat.reduceEqDiff, frz_zero, frz_succ, gT_tup, gT_ktp, gC_ap, gE_nil, cast_0, cast_1, cast_2, cast_3, cast_4, cast_5, cast_6, cast_7, cast_8, cast_9, ty_bs, ty_is, frz_zeroV, oOfR_o, ap_lenO, ap_ixO, tOf_some, pOf_fn, ap_P, ap_iZT, itZT_ok, zipD_cons, zipD_nil, str_i, sq_set, oOfS_o, set_ints, mul3, cl0, cl1, cl2, ea, eb, eq_true c3, sg, high_ok ha, low_ok ha, jn, isint_ok, sums_ok ha hs, products_ok ha hs, bitwise_ok ha hs, orders_ok ha hs, counted_ok ha, c63, neg1, nxP_nx, eq_false h0, divided_u ha hs h0, eq_true h1, eq_true h2]
          exact ⟨_, _, _, _, rfl⟩
        · simp only [bind_ok, bind_exc, bind_bad, ofE_ok, ofE_exc, vOf_v, ap_C, ap_V, ap_nil, ap_cons, ap_U, ap_B, ap_chain, ap_and, ap_or, ap_tup, ap_F, ap_M, ap_sl, ap_pN, ap_pS, ap_L, ap_tE, ap_tAn, ap_tO, ap_tN, ap_tY, ap_if, ap_lD, ap_lF, ap_lCat, catL_ok, ap_lRep, repL_ok, ap_lSl, slL_lst, slL_scr, ap_iD, itL_lst, itL_scr, ap_iT, itT_tup, itT_ktp, ap_iS, itS_str, ap_iR1, itR1_ok, add_i, add_s, add_l, addX_i, addX_s, sub_i, mul_i, div_i, mod_i, pow_i, shl_i, shr_i, and_i, or_i, xor_i, neg_i, not_b, lt_i, le_i, gt_i, ge_i, eq_i, eq_s, ne_i, ne_s, is_non, is_int, is_str, is_tup, is_lst, isnt_non, isnt_int, isnt_str, isnt_tup, toBl_b, toIn_i, ix_s, ix_l, ix_r, ix_t, ix_k, sl_s, sl_l, sl_r, sl_t, len_s, len_l, len_r, len_t, len_k, int_i, int_b, abs_i, min_i, max_i, tup_l, tup_t, list_l, list_r, list_t, isi_i, isi_b, isi_s, isi_l, isi_t, isi_n, ty_ii, ty_bi, ty_ss, ty_ll, ty_tt, ty_tl, ty_lt, ty_tn, find_s, lower_s, sq_nx, sq_sq, sq_a, sq_o, sq_x, sq_if, sq_ret, sq_retL, oOf_o, sq_retO, sq_app, lstK_l, sq_ext, sq_aug, sq_g, sq_frz, sq_br, sq_ct, sq_raise, ofG_some, nx_ap, thenS_nx, thenS_rt, thenS_exc, sq_for, sq_wh, endV_v, endV_o, endV_n, endV_x, endL_o, endL_x, gN_ap, List.getElem?_cons_zero, List.getElem?_cons_succ, List.set_cons_zero, List.set_cons_succ, List.length_cons, List.length_nil, decide_eq_true_eq, Bool.not_eq_true, reduceIte, Bool.false_eq_true, decide_true, decide_false, Nat.reduceAdd, Nat.reduceLeDiff, Nat.reduceLT, Bool.not_true, Bool.not_false, List.nil_append, List.cons_append, List.map_cons, List.map_nil, List.replicate_succ, List.replicate_zero, Bool.not_eq_eq_eq_not, decide_eq_false_iff_not, and_self, and_true, true_and, and_false, false_and, or_true, true_or, or_false, false_or, or_self, Int.reduceLE, Int.reduceLT, Int.reduceNeg, Int.reduceAdd, Int.reduceSub, Int.reduceMul, Int.reduceDiv, Int.reduceMod, Int.reduceEq, Int.reduceToNat, Nat.reduceEqDiff, frz_zero, frz_succ, gT_tup, gT_ktp, gC_ap, gE_nil, cast_0, cast_1, cast_2, cast_3, cast_4, cast_5, cast_6, cast_7, cast_8, cast_9, ty_bs, ty_is, frz_zeroV, oOfR_o, ap_lenO, ap_ixO, tOf_some, pOf_fn, ap_P, ap_iZT, itZT_ok, zipD_cons, zipD_nil, str_i, sq_set, oOfS_o, set_ints, mul3, cl0, cl1, cl2, ea, eb, eq_true c3, sg, high_ok ha, low_ok ha, jn, isint_ok, sums_ok ha hs, products_ok ha hs, bitwise_ok ha hs, orders_ok ha hs, counted_ok ha, c63, neg1, nxP_nx, eq_false h0, divided_u ha hs h0, eq_true h1, eq_false h2, divided_s ha hs h0 fun z => h2 z.2]
          exact ⟨_, _, _, _, rfl⟩
      · simp only [bind_ok, bind_exc, bind_bad, ofE_ok, ofE_exc, vOf_v, ap_C, ap_V, ap_nil, ap_cons, ap_U, ap_B, ap_chain, ap_and, ap_or, ap_tup, ap_F, ap_M, ap_sl, ap_pN, ap_pS, ap_L, ap_tE, ap_tAn, ap_tO, ap_tN, ap_tY, ap_if, ap_lD, ap_lF, ap_lCat, catL_ok, ap_lRep, repL_ok, ap_lSl, slL_lst, slL_scr, ap_iD, itL_lst, itL_scr, ap_iT, itT_tup, itT_ktp, ap_iS, itS_str, ap_iR1, itR1_ok, add_i, add_s, add_l, addX_i, addX_s, sub_i, mul_i, div_i, mod_i, pow_i, shl_i, shr_i, and_i, or_i, xor_i, neg_i, not_b, lt_i, le_i, gt_i, ge_i, eq_i, eq_s, ne_i, ne_s, is_non, is_int, is_str, is_tup, is_lst, isnt_non, isnt_int, isnt_str, isnt_tup, toBl_b, toIn_i, ix_s, ix_l, ix_r, ix_t, ix_k, sl_s, sl_l, sl_r, sl_t, len_s, len_l, len_r, len_t, len_k, int_i, int_b, abs_i, min_i, max_i, tup_l, tup_t, list_l, list_r, list_t, isi_i, isi_b, isi_s, isi_l, isi_t, isi_n, ty_ii, ty_bi, ty_ss, ty_ll, ty_tt, ty_tl, ty_lt, ty_tn, find_s, lower_s, sq_nx, sq_sq, sq_a, sq_o, sq_x, sq_if, sq_ret, sq_retL, oOf_o, sq_retO, sq_app, lstK_l, sq_ext, sq_aug, sq_g, sq_frz, sq_br, sq_ct, sq_raise, ofG_some, nx_ap, thenS_nx, thenS_rt, thenS_exc, sq_for, sq_wh, endV_v, endV_o, endV_n, endV_x, endL_o, endL_x, gN_ap, List.getElem?_cons_zero, List.getElem?_cons_succ, List.set_cons_zero, List.set_cons_succ, List.length_cons, List.length_nil, decide_eq_true_eq, Bool.not_eq_true, reduceIte, Bool.false_eq_true, decide_true, decide_false, Nat.reduceAdd, Nat.reduceLeDiff, Nat.reduceLT, Bool.not_true, Bool.not_false, List.nil_append, List.cons_append, List.map_cons, List.map_nil, List.replicate_succ, List.replicate_zero, Bool.not_eq_eq_eq_not, decide_eq_false_iff_not, and_self, and_true, true_and, and_false, false_and, or_true, true_or, or_false, false_or, or_self, Int.reduceLE, Int.reduceLT, Int.reduceNeg, Int.reduceAdd, Int.reduceSub, Int.reduceMul, Int.reduceDiv, Int.reduceMod, Int.reduceEq, Int.reduceToNat, Nat.reduceEqDiff, frz_zero, frz_succ, gT_tup, gT_ktp, gC_ap, gE_nil, cast_0, cast_1, cast_2, cast_3, cast_4, cast_5, cast_6, cast_7, cast_8, cast_9, ty_bs, ty_is, frz_zeroV, oOfR_o, ap_lenO, ap_ixO, tOf_some, pOf_fn, ap_P, ap_iZT, itZT_ok, zipD_cons, zipD_nil, str_i, sq_set, oOfS_o, set_ints, mul3, cl0, cl1, cl2, ea, eb, eq_true c3, sg, high_ok ha, low_ok ha, jn, isint_ok, sums_ok ha hs, products_ok ha hs, bitwise_ok ha hs, orders_ok ha hs, counted_ok ha, c63, neg1, nxP_nx, eq_false h0, divided_u ha hs h0, eq_false h1, divided_s ha hs h0 fun z => h1 z.1]
        exact ⟨_, _, _, _, rfl⟩
  · have hs : R64 b := hb
    unfold b_law_1
    by_cases h0 : b = 0
    · simp only [bind_ok, bind_exc, bind_bad, ofE_ok, ofE_exc, vOf_v, ap_C, ap_V, ap_nil, ap_cons, ap_U, ap_B, ap_chain, ap_and, ap_or, ap_tup, ap_F, ap_M, ap_sl, ap_pN, ap_pS, ap_L, ap_tE, ap_tAn, ap_tO, ap_tN, ap_tY, ap_if, ap_lD, ap_lF, ap_lCat, catL_ok, ap_lRep, repL_ok, ap_lSl, slL_lst, slL_scr, ap_iD, itL_lst, itL_scr, ap_iT, itT_tup, itT_ktp, ap_iS, itS_str, ap_iR1, itR1_ok, add_i, add_s, add_l, addX_i, addX_s, sub_i, mul_i, div_i, mod_i, pow_i, shl_i, shr_i, and_i, or_i, xor_i, neg_i, not_b, lt_i, le_i, gt_i, ge_i, eq_i, eq_s, ne_i, ne_s, is_non, is_int, is_str, is_tup, is_lst, isnt_non, isnt_int, isnt_str, isnt_tup, toBl_b, toIn_i, ix_s, ix_l, ix_r, ix_t, ix_k, sl_s, sl_l, sl_r, sl_t, len_s, len_l, len_r, len_t, len_k, int_i, int_b, abs_i, min_i, max_i, tup_l, tup_t, list_l, list_r, list_t, isi_i, isi_b, isi_s, isi_l, isi_t, isi_n, ty_ii, ty_bi, ty_ss, ty_ll, ty_tt, ty_tl, ty_lt, ty_tn, find_s, lower_s, sq_nx, sq_sq, sq_a, sq_o, sq_x, sq_if, sq_ret, sq_retL, oOf_o, sq_retO, sq_app, lstK_l, sq_ext, sq_aug, sq_g, sq_frz, sq_br, sq_ct, sq_raise, ofG_some, nx_ap, thenS_nx, thenS_rt, thenS_exc, sq_for, sq_wh, endV_v, endV_o, endV_n, endV_x, endL_o, endL_x, gN_ap, List.getElem?_cons_zero, List.getElem?_cons_succ, List.set_cons_zero, List.set_cons_succ, List.length_cons, List.length_nil, decide_eq_true_eq, Bool.not_eq_true, reduceIte, Bool.false_eq_true, decide_true, decide_false, Nat.reduceAdd, Nat.reduceLeDiff, Nat.reduceLT, Bool.not_true, Bool.not_false, List.nil_append, List.cons_append, List.map_cons, List.map_nil, List.replicate_succ, List.replicate_zero, Bool.not_eq_eq_eq_not, decide_eq_false_iff_not, and_self, and_true, true_and, and_false, false_and, or_true, true_or, or_false, false_or, or_self, Int.reduceLE, Int.reduceLT, Int.reduceNeg, Int.reduceAdd, Int.reduceSub, Int.reduceMul, Int.reduceDiv, Int.reduceMod, Int.reduceEq, Int.reduceToNat, Nat.reduceEqDiff, frz_zero, frz_succ, gT_tup, gT_ktp, gC_ap, gE_nil, cast_0, cast_1, cast_2, cast_3, cast_4, cast_5, cast_6, cast_7, cast_8, cast_9, ty_bs, ty_is, frz_zeroV, oOfR_o, ap_lenO, ap_ixO, tOf_some, pOf_fn, ap_P, ap_iZT, itZT_ok, zipD_cons, zipD_nil, str_i, sq_set, oOfS_o, set_ints, mul3, cl0, cl1, cl2, ea, eb, eq_false c3, sg, high_ok ha, low_ok ha, jn, isint_ok, sums_ok ha hs, products_ok ha hs, bitwise_ok ha hs, orders_ok ha hs, counted_ok ha, c63, neg1, nxP_nx, eq_true h0]
      exact ⟨_, _, _, _, rfl⟩
    · by_cases h1 : b = -1
      · by_cases h2 : a = -9223372036854775808
        · simp only [bind_ok, bind_exc, bind_bad, ofE_ok, ofE_exc, vOf_v, ap_C, ap_V, ap_nil, ap_cons, ap_U, ap_B, ap_chain, ap_and, ap_or, ap_tup, ap_F, ap_M, ap_sl, ap_pN, ap_pS, ap_L, ap_tE, ap_tAn, ap_tO, ap_tN, ap_tY, ap_if, ap_lD, ap_lF, ap_lCat, catL_ok, ap_lRep, repL_ok, ap_lSl, slL_lst, slL_scr, ap_iD, itL_lst, itL_scr, ap_iT, itT_tup, itT_ktp, ap_iS, itS_str, ap_iR1, itR1_ok, add_i, add_s, add_l, addX_i, addX_s, sub_i, mul_i, div_i, mod_i, pow_i, shl_i, shr_i, and_i, or_i, xor_i, neg_i, not_b, lt_i, le_i, gt_i, ge_i, eq_i, eq_s, ne_i, ne_s, is_non, is_int, is_str, is_tup, is_lst, isnt_non, isnt_int, isnt_str, isnt_tup, toBl_b, toIn_i, ix_s, ix_l, ix_r, ix_t, ix_k, sl_s, sl_l, sl_r, sl_t, len_s, len_l, len_r, len_t, len_k, int_i, int_b, abs_i, min_i, max_i, tup_l, tup_t, list_l, list_r, list_t, isi_i, isi_b, isi_s, isi_l, isi_t, isi_n, ty_ii, ty_bi, ty_ss, ty_ll, ty_tt, ty_tl, ty_lt, ty_tn, find_s, lower_s, sq_nx, sq_sq, sq_a, sq_o, sq_x, sq_if, sq_ret, sq_retL, oOf_o, sq_retO, sq_app, lstK_l, sq_ext, sq_aug, sq_g, sq_frz, sq_br, sq_ct, sq_raise, ofG_some, nx_ap, thenS_nx, thenS_rt, thenS_exc, sq_for, sq_wh, endV_v, endV_o, endV_n, endV_x, endL_o, endL_x, gN_ap, List.getElem?_cons_zero, List.getElem?_cons_succ, List.set_cons_zero, List.set_cons_succ, List.length_cons, List.length_nil, decide_eq_true_eq, Bool.not_eq_true, reduceIte, Bool.false_eq_true, decide_true, decide_false, Nat.reduceAdd, Nat.reduceLeDiff, Nat.reduceLT, Bool.not_true, Bool.not_false, List.nil_append, List.cons_append, List.map_cons, List.map_nil, List.replicate_succ, List.replicate_zero, Bool.not_eq_eq_eq_not, decide_eq_false_iff_not, and_self, and_true, true_and, and_false, false_and, or_true, true_or, or_false, false_or, or_self, Int.reduceLE, Int.reduceLT, Int.reduceNeg, Int.reduceAdd, Int.reduceSub, Int.reduceMul, Int.reduceDiv, Int.reduceMod, Int.reduceEq, Int.reduceToNat, Nat.reduceEqDiff, frz_zero, frz_succ, gT_tup, gT_ktp, gC_ap, gE_nil, cast_0, cast_1, cast_2, cast_3, cast_4, cast_5, cast_6, cast_7, cast_8, cast_9, ty_bs, ty_is, frz_zeroV, oOfR_o, ap_lenO, ap_ixO, tOf_some, pOf_fn, ap_P, ap_iZT, itZT_ok, zipD_cons, zipD_nil, str_i, sq_set, oOfS_o, set_ints, mul3, cl0, cl1, cl2, ea, eb, eq_false c3, sg, high_ok ha, low_ok ha, jn, isint_ok, sums_ok ha hs, products_ok ha hs, bitwise_ok ha hs, orders_ok ha hs, counted_ok ha, c63, neg1, nxP_nx, eq_false h0, divided_u ha hs h0, eq_true h1, eq_true h2]
          exact ⟨_, _, _, _, rfl⟩
        · simp only [bind_ok, bind_exc, bind_bad, ofE_ok, ofE_exc, vOf_v, ap_C, ap_V, ap_nil, ap_cons, ap_U, ap_B, ap_chain, ap_and, ap_or, ap_tup, ap_F, ap_M, ap_sl, ap_pN, ap_pS, ap_L, ap_tE, ap_tAn, ap_tO, ap_tN, ap_tY, ap_if, ap_lD, ap_lF, ap_lCat, catL_ok, ap_lRep, repL_ok, ap_lSl, slL_lst, slL_scr, ap_iD, itL_lst, itL_scr, ap_iT, itT_tup, itT_ktp, ap_iS, itS_str, ap_iR1, itR1_ok, add_i, add_s, add_l, addX_i, addX_s, sub_i, mul_i, div_i, mod_i, pow_i, shl_i, shr_i, and_i, or_i, xor_i, neg_i, not_b, lt_i, le_i, gt_i, ge_i, eq_i, eq_s, ne_i, ne_s, is_non, is_int, is_str, is_tup, is_lst, isnt_non, isnt_int, isnt_str, isnt_tup, toBl_b, toIn_i, ix_s, ix_l, ix_r, ix_t, ix_k, sl_s, sl_l, sl_r, sl_t, len_s, len_l, len_r, len_t, len_k, int_i, int_b, abs_i, min_i, max_i, tup_l, tup_t, list_l, list_r, list_t, isi_i, isi_b, isi_s, isi_l, isi_t, isi_n, ty_ii, ty_bi, ty_ss, ty_ll, ty_tt, ty_tl, ty_lt, ty_tn, find_s, lower_s, sq_nx, sq_sq, sq_a, sq_o, sq_x, sq_if, sq_ret, sq_retL, oOf_o, sq_retO, sq_app, lstK_l, sq_ext, sq_aug, sq_g, sq_frz, sq_br, sq_ct, sq_raise, ofG_some, nx_ap, thenS_nx, thenS_rt, thenS_exc, sq_for, sq_wh, endV_v, endV_o, endV_n, endV_x, endL_o, endL_x, gN_ap, List.getElem?_cons_zero, List.getElem?_cons_succ, List.set_cons_zero, List.set_cons_succ, List.length_cons, List.length_nil, decide_eq_true_eq, Bool.not_eq_true, reduceIte, Bool.false_eq_true, decide_true, decide_false, Nat.reduceAdd, Nat.reduceLeDiff, Nat.reduceLT, Bool.not_true, Bool.not_false, List.nil_append, List.cons_append, List.map_cons, List.map_nil, List.replicate_succ, List.replicate_zero, Bool.not_eq_eq_eq_not, decide_eq_false_iff_not, and_self, and_true, true_and, and_false, false_and, or_true, true_or, or_false, false_or, or_self, Int.reduceLE, Int.reduceLT, Int.reduceNeg, Int.reduceAdd, Int.reduceSub, Int.reduceMul, Int.reduceDiv, Int.reduceMod, Int.reduceEq, Int.reduceToNat, Nat.reduceEqDiff, frz_zero, frz_succ, gT_tup, gT_ktp, gC_ap, gE_nil, cast_0, cast_1, cast_2, cast_3, cast_4, cast_5, cast_6, cast_7, cast_8, cast_9, ty_bs, ty_is, frz_zeroV, oOfR_o, ap_lenO, ap_ixO, tOf_some, pOf_fn, ap_P, ap_iZT, itZT_ok, zipD_cons, zipD_nil, str_i, sq_set, oOfS_o, set_ints, mul3, cl0, cl1, cl2, ea, eb, eq_false c3, sg, high_ok ha, low_ok ha, jn, isint_ok, sums_ok ha hs, products_ok ha hs, bitwise_ok ha hs, orders_ok ha hs, counted_ok ha, c63, neg1, nxP_nx, eq_false h0, divided_u ha hs h0, eq_true h1, eq_false h2, divided_s ha hs h0 fun z => h2 z.2]
          exact ⟨_, _, _, _, rfl⟩
      · simp only [bind_ok, bind_exc, bind_bad, ofE_ok, ofE_exc, vOf_v, ap_C, ap_V, ap_nil, ap_cons, ap_U, ap_B, ap_chain, ap_and, ap_or, ap_tup, ap_F, ap_M, ap_sl, ap_pN, ap_pS, ap_L, ap_tE, ap_tAn, ap_tO, ap_tN, ap_tY, ap_if, ap_lD, ap_lF, ap_lCat, catL_ok, ap_lRep, repL_ok, ap_lSl, slL_lst, slL_scr, ap_iD, itL_lst, itL_scr, ap_iT, itT_tup, itT_ktp, ap_iS, itS_str, ap_iR1, itR1_ok, add_i, add_s, add_l, addX_i, addX_s, sub_i, mul_i, div_i, mod_i, pow_i, shl_i, shr_i, and_i, or_i, xor_i, neg_i, not_b, lt_i, le_i, gt_i, ge_i, eq_i, eq_s, ne_i, ne_s, is_non, is_int, is_str, is_tup, is_lst, isnt_non, isnt_int, isnt_str, isnt_tup, toBl_b, toIn_i, ix_s, ix_l, ix_r, ix_t, ix_k, sl_s, sl_l, sl_r, sl_t, len_s, len_l, len_r, len_t, len_k, int_i, int_b, abs_i, min_i, max_i, tup_l, tup_t, list_l, list_r, list_t, isi_i, isi_b, isi_s, isi_l, isi_t, isi_n, ty_ii, ty_bi, ty_ss, ty_ll, ty_tt, ty_tl, ty_lt, ty_tn, find_s, lower_s, sq_nx, sq_sq, sq_a, sq_o, sq_x, sq_if, sq_ret, sq_retL, oOf_o, sq_retO, sq_app, lstK_l, sq_ext, sq_aug, sq_g, sq_frz, sq_br, sq_ct, sq_raise, ofG_some, nx_ap, thenS_nx, thenS_rt, thenS_exc, sq_for, sq_wh, endV_v, endV_o, endV_n, endV_x, endL_o, endL_x, gN_ap, List.getElem?_cons_zero, List.getElem?_cons_succ, List.set_cons_zero, List.set_cons_succ, List.length_cons, List.length_nil, decide_eq_true_eq, Bool.not_eq_true, reduceIte, Bool.false_eq_true, decide_true, decide_false, Nat.reduceAdd, Nat.reduceLeDiff, Nat.reduceLT, Bool.not_true, Bool.not_false, List.nil_append, List.cons_append, List.map_cons, List.map_nil, List.replicate_succ, List.replicate_zero, Bool.not_eq_eq_eq_not, decide_eq_false_iff_not, and_self, and_true, true_and, and_false, false_and, or_true, true_or, or_false, false_or, or_self, Int.reduceLE, Int.reduceLT, Int.reduceNeg, Int.reduceAdd, Int.reduceSub, Int.reduceMul, Int.reduceDiv, Int.reduceMod, Int.reduceEq, Int.reduceToNat, Nat.reduceEqDiff, frz_zero, frz_succ, gT_tup, gT_ktp, gC_ap, gE_nil, cast_0, cast_1, cast_2, cast_3, cast_4, cast_5, cast_6, cast_7, cast_8, cast_9, ty_bs, ty_is, frz_zeroV, oOfR_o, ap_lenO, ap_ixO, tOf_some, pOf_fn, ap_P, ap_iZT, itZT_ok, zipD_cons, zipD_nil, str_i, sq_set, oOfS_o, set_ints, mul3, cl0, cl1, cl2, ea, eb, eq_false c3, sg, high_ok ha, low_ok ha, jn, isint_ok, sums_ok ha hs, products_ok ha hs, bitwise_ok ha hs, orders_ok ha hs, counted_ok ha, c63, neg1, nxP_nx, eq_false h0, divided_u ha hs h0, eq_false h1, divided_s ha hs h0 fun z => h1 z.1]
        exact ⟨_, _, _, _, rfl⟩
theorem law_true : ∀ ns : List Int, ns.length ≤ 63 → defV 1 4 b_law [.scr (ns.map .int)] = .ok (.bl true) := by
  intro ns hl
  rw [defV_ap (n := 1) (show [D.scr (ns.map D.int)].length = 1 from rfl)]
  rw [show ([D.scr (ns.map D.int)].map Sl.val ++ List.replicate 4 Sl.un) = [.val (.scr (dI ns)), .un, .un, .un, .un] from rfl]
  unfold b_law
  obtain ⟨e, q, y⟩ := forGo_P (i := 1) (b := b_law_1) (P := I9 (.scr (dI ns))) ((List.range (1 + (if (62 : Int) < ns.length then 62 else (ns.length : Int)) / 3).toNat).map fun (i : Nat) => D.int i) [.val (.scr (dI ns)), .un, .un, .un, .un] ⟨_, _, _, _, rfl⟩ fun d env hd hI => by
    obtain ⟨j, hj, rfl⟩ := mem_range hd
    obtain ⟨x1, x2, x3, x4, rfl⟩ := hI
    exact body x1 x2 x3 x4
  have hb : 1 + (if (62 : Int) < ns.length then 62 else (ns.length : Int)) / 3 ≤ 100000 ∧ -100000 ≤ 1 + (if (62 : Int) < ns.length then 62 else (ns.length : Int)) / 3 := by split <;> omega
  simp only [bind_ok, bind_exc, bind_bad, ofE_ok, ofE_exc, vOf_v, ap_C, ap_V, ap_nil, ap_cons, ap_U, ap_B, ap_chain, ap_and, ap_or, ap_tup, ap_F, ap_M, ap_sl, ap_pN, ap_pS, ap_L, ap_tE, ap_tAn, ap_tO, ap_tN, ap_tY, ap_if, ap_lD, ap_lF, ap_lCat, catL_ok, ap_lRep, repL_ok, ap_lSl, slL_lst, slL_scr, ap_iD, itL_lst, itL_scr, ap_iT, itT_tup, itT_ktp, ap_iS, itS_str, ap_iR1, itR1_ok, add_i, add_s, add_l, addX_i, addX_s, sub_i, mul_i, div_i, mod_i, pow_i, shl_i, shr_i, and_i, or_i, xor_i, neg_i, not_b, lt_i, le_i, gt_i, ge_i, eq_i, eq_s, ne_i, ne_s, is_non, is_int, is_str, is_tup, is_lst, isnt_non, isnt_int, isnt_str, isnt_tup, toBl_b, toIn_i, ix_s, ix_l, ix_r, ix_t, ix_k, sl_s, sl_l, sl_r, sl_t, len_s, len_l, len_r, len_t, len_k, int_i, int_b, abs_i, min_i, max_i, tup_l, tup_t, list_l, list_r, list_t, isi_i, isi_b, isi_s, isi_l, isi_t, isi_n, ty_ii, ty_bi, ty_ss, ty_ll, ty_tt, ty_tl, ty_lt, ty_tn, find_s, lower_s, sq_nx, sq_sq, sq_a, sq_o, sq_x, sq_if, sq_ret, sq_retL, oOf_o, sq_retO, sq_app, lstK_l, sq_ext, sq_aug, sq_g, sq_frz, sq_br, sq_ct, sq_raise, ofG_some, nx_ap, thenS_nx, thenS_rt, thenS_exc, sq_for, sq_wh, endV_v, endV_o, endV_n, endV_x, endL_o, endL_x, gN_ap, List.getElem?_cons_zero, List.getElem?_cons_succ, List.set_cons_zero, List.set_cons_succ, List.length_cons, List.length_nil, decide_eq_true_eq, Bool.not_eq_true, reduceIte, Bool.false_eq_true, decide_true, decide_false, Nat.reduceAdd, Nat.reduceLeDiff, Nat.reduceLT, Bool.not_true, Bool.not_false, List.nil_append, List.cons_append, List.map_cons, List.map_nil, List.replicate_succ, List.replicate_zero, Bool.not_eq_eq_eq_not, decide_eq_false_iff_not, and_self, and_true, true_and, and_false, false_and, or_true, true_or, or_false, false_or, or_self, Int.reduceLE, Int.reduceLT, Int.reduceNeg, Int.reduceAdd, Int.reduceSub, Int.reduceMul, Int.reduceDiv, Int.reduceMod, Int.reduceEq, Int.reduceToNat, Nat.reduceEqDiff, frz_zero, frz_succ, gT_tup, gT_ktp, gC_ap, gE_nil, cast_0, cast_1, cast_2, cast_3, cast_4, cast_5, cast_6, cast_7, cast_8, cast_9, ty_bs, ty_is, frz_zeroV, oOfR_o, ap_lenO, ap_ixO, tOf_some, pOf_fn, ap_P, ap_iZT, itZT_ok, zipD_cons, zipD_nil, str_i, sq_set, oOfS_o, set_ints, List.length_map, show ∀ x : Int, CDivW x 3 from fun x => ⟨by decide, by decide⟩, hb.1, hb.2, q]
end Lk09
set_option Elab.async false
set_option linter.all false
set_option maxRecDepth 100000
set_option maxHeartbeats 4000000

open PySem
namespace Lk09
open PySem L2 Evl RZ Wm Dm
def topS (i : Nat) : Stmt := PySem.Challenge.pw_wasmhost_k09_whole_long_words_in_halves.main.body.getD i (.Pass ⟨0, 0, 0, 0⟩)
abbrev s_width : Stmt := topS 7
abbrev s_unsigned : Stmt := topS 8
abbrev s_extend : Stmt := topS 9
abbrev s_signed : Stmt := topS 10
abbrev s_in_range : Stmt := topS 11
abbrev s_add : Stmt := topS 13
abbrev s_sub : Stmt := topS 14
abbrev s_mul : Stmt := topS 15
abbrev s_quotient : Stmt := topS 16
abbrev s_div_s : Stmt := topS 17
abbrev s_div_u : Stmt := topS 18
abbrev s_rem_s : Stmt := topS 19
abbrev s_rem_u : Stmt := topS 20
abbrev s_bit_and : Stmt := topS 21
abbrev s_bit_or : Stmt := topS 22
abbrev s_bit_xor : Stmt := topS 23
abbrev s_shift_count : Stmt := topS 24
abbrev s_shl : Stmt := topS 25
abbrev s_shr_s : Stmt := topS 26
abbrev s_shr_u : Stmt := topS 27
abbrev s_rotl : Stmt := topS 28
abbrev s_rotr : Stmt := topS 29
abbrev s_eq : Stmt := topS 30
abbrev s_ne : Stmt := topS 31
abbrev s_lt_s : Stmt := topS 32
abbrev s_gt_s : Stmt := topS 33
abbrev s_le_s : Stmt := topS 34
abbrev s_ge_s : Stmt := topS 35
abbrev s_lt_u : Stmt := topS 36
abbrev s_gt_u : Stmt := topS 37
abbrev s_le_u : Stmt := topS 38
abbrev s_ge_u : Stmt := topS 39
abbrev s_eqz : Stmt := topS 40
abbrev s_clz : Stmt := topS 41
abbrev s_ctz : Stmt := topS 42
abbrev s_popcnt : Stmt := topS 43
abbrev s_extend8_s : Stmt := topS 44
abbrev s_extend16_s : Stmt := topS 45
abbrev s_extend32_s : Stmt := topS 46
abbrev s_extend_u : Stmt := topS 47
abbrev s_signature_of : Stmt := topS 53
abbrev s_check_operands : Stmt := topS 54
abbrev s_calculate : Stmt := topS 55
abbrev s_l_is_integer : Stmt := topS 57
abbrev s_l_cell : Stmt := topS 58
abbrev s_l_signed : Stmt := topS 59
abbrev s_l_value : Stmt := topS 60
abbrev s_l_high : Stmt := topS 61
abbrev s_l_low : Stmt := topS 62
abbrev s_l_join : Stmt := topS 63
abbrev s_l_sums : Stmt := topS 64
abbrev s_l_products : Stmt := topS 65
abbrev s_l_bitwise : Stmt := topS 66
abbrev s_l_orders : Stmt := topS 67
abbrev s_l_counted : Stmt := topS 68
abbrev s_l_divided : Stmt := topS 69
abbrev s_law : Stmt := topS 70
structure Tx (w : World) (K : PySem.W.Frag) (mg : Str → Option Value) (ad : Nat → Addr) : Prop where
  b_abs : mg "abs" = none
  b_bool : mg "bool" = none
  b_int : mg "int" = none
  b_isinstance : mg "isinstance" = none
  b_len : mg "len" = none
  b_max : mg "max" = none
  b_min : mg "min" = none
  b_range : mg "range" = none
  b_sum : mg "sum" = none
  b_zip : mg "zip" = none
  g_ARITHMETIC : ∃ v u, mg "ARITHMETIC" = some u ∧ RelV v u ∧ ∀ G, Rep K w ad G v d_ARITHMETIC
  g_COMPARISONS : ∃ v u, mg "COMPARISONS" = some u ∧ RelV v u ∧ ∀ G, Rep K w ad G v d_COMPARISONS
  g_CONVERSIONS : ∃ v u, mg "CONVERSIONS" = some u ∧ RelV v u ∧ ∀ G, Rep K w ad G v d_CONVERSIONS
  g_COUNTS : ∃ v u, mg "COUNTS" = some u ∧ RelV v u ∧ ∀ G, Rep K w ad G v d_COUNTS
  g_INSTRUCTIONS : ∃ v u, mg "INSTRUCTIONS" = some u ∧ RelV v u ∧ ∀ G, Rep K w ad G v d_INSTRUCTIONS
  g_WIDTHS : ∃ v u, mg "WIDTHS" = some u ∧ RelV v u ∧ ∀ G, Rep K w ad G v d_WIDTHS
  n_HostError : mg "HostError" = some (.ref (ad 1000))
  e_Trap : ExN K mg "Trap" (ad 1001) (ad 2001) ["reason"]
  n_Trap : mg "Trap" = some (.ref (ad 1001))
  e_UnknownInstruction : ExN K mg "UnknownInstruction" (ad 1002) (ad 2002) ["name"]
  n_UnknownInstruction : mg "UnknownInstruction" = some (.ref (ad 1002))
  e_BadValues : Ex0 K mg "BadValues" (ad 1003)
  n_BadValues : mg "BadValues" = some (.ref (ad 1003))
section
variable {P : Program} {w : World} {K : PySem.W.Frag} {mg : Str → Option Value} {base : Heap} {ad : Nat → Addr}
abbrev s_init_Trap : Stmt := (clsBodyW (topS 2)).getD 0 (.Pass ⟨0, 0, 0, 0⟩)
theorem sc_init_Trap : FnScope ["self", "reason"] ["self", "reason"] (defScope s_init_Trap) := ⟨rfl, rfl, rfl, by decide +kernel, rfl, by decide +kernel, by decide +kernel⟩
theorem ok_init_Trap {f : Addr} {fd : FuncData} (F : Fun K "__init__" "Trap.__init__" s_init_Trap f fd) : FnOk P w K mg base CX0 1 f fd ["self", "reason"] (sp_initN K ["reason"]) := by
  refine F.ok sc_init_Trap (fun vs H Q E h => initN_len h) (fun cdv A outer s H vs Q E hr h => ?_)
  exact ⟨_, (pss_cons (ps_ost (pv 0) (pv 1)) pss_nil), init1 h⟩
abbrev s_init_UnknownInstruction : Stmt := (clsBodyW (topS 3)).getD 0 (.Pass ⟨0, 0, 0, 0⟩)
theorem sc_init_UnknownInstruction : FnScope ["self", "name"] ["self", "name"] (defScope s_init_UnknownInstruction) := ⟨rfl, rfl, rfl, by decide +kernel, rfl, by decide +kernel, by decide +kernel⟩
theorem ok_init_UnknownInstruction {f : Addr} {fd : FuncData} (F : Fun K "__init__" "UnknownInstruction.__init__" s_init_UnknownInstruction f fd) : FnOk P w K mg base CX0 1 f fd ["self", "name"] (sp_initN K ["name"]) := by
  refine F.ok sc_init_UnknownInstruction (fun vs H Q E h => initN_len h) (fun cdv A outer s H vs Q E hr h => ?_)
  exact ⟨_, (pss_cons (ps_ost (pv 0) (pv 1)) pss_nil), init1 h⟩
theorem sc_width : FnScope ["kind"] ["kind"] (defScope s_width) := ⟨rfl, rfl, rfl, by decide +kernel, rfl, by decide +kernel, by decide +kernel⟩
theorem ok_width {f : Addr} {fd : FuncData} (F : Fun K "width" "width" s_width f fd) (T : Tx w K mg ad) : FnOk P w K mg base (L2.CX P w) 1 f fd ["kind"] (SpD ⟨K, w, ad⟩ m_width) := by
  obtain ⟨v_WIDTHS, u_WIDTHS, g_WIDTHS, r_WIDTHS, k_WIDTHS⟩ := T.g_WIDTHS
  refine ok_defV (l := 0) (n := 1) (k := 0) (b := b_width) F sc_width rfl rfl (fun cdv A outer s H E hr => ⟨_, (pss_cons (ps_ret (pe_ix (r := rIxX K w) ix_all (pe_glob rfl g_WIDTHS r_WIDTHS) (pv 0) (fun _ _ => rfl))) pss_nil), fun xo => ?_⟩)
  exact (cs_seq (cs_ret (ce_B od_ix (ce_c k_WIDTHS) ce_var)) cs_nx)
theorem sc_unsigned : FnScope ["kind", "number"] ["kind", "number"] (defScope s_unsigned) := ⟨rfl, rfl, rfl, by decide +kernel, rfl, by decide +kernel, by decide +kernel⟩
theorem ok_unsigned {f : Addr} {fd : FuncData} {d_width : FuncData} (F : Fun K "unsigned" "unsigned" s_unsigned f fd) (T : Tx w K mg ad) (O_width : DfX P w K mg base 1 "width" (ad 0) d_width ["kind"] (SpD ⟨K, w, ad⟩ m_width)) : FnOk P w K mg base (L2.CX P w) 2 f fd ["kind", "number"] (SpD ⟨K, w, ad⟩ m_unsigned) := by
  refine ok_defV (l := 1) (n := 2) (k := 0) (b := b_unsigned) F sc_unsigned rfl rfl (fun cdv A outer s H E hr => ⟨_, (pss_cons (ps_ret (pe_op op_and (pv 1) (pe_op op_sub (pe_op or_shl pe_int (clS O_width (hr.mono (by decide)) rfl (fun σ => passAt (takes_of rfl rfl rfl rfl) σ) (pa_cons (pv 0) pa_nil))) pe_int))) pss_nil), fun xo => ?_⟩)
  exact (cs_seq (cs_ret (ce_B od_and ce_var (ce_B od_sub (ce_B od_shl (ce_c fun _ => .int _) (ce_call (ca_cons ce_var ca_nil))) (ce_c fun _ => .int _)))) cs_nx)
theorem sc_extend : FnScope ["number", "bits", "low"] ["number", "bits"] (defScope s_extend) := ⟨rfl, rfl, rfl, by decide +kernel, rfl, by decide +kernel, by decide +kernel⟩
theorem ok_extend {f : Addr} {fd : FuncData} (F : Fun K "extend" "extend" s_extend f fd) (T : Tx w K mg ad) : FnOk P w K mg base (L2.CX P w) 1 f fd ["number", "bits"] (SpD ⟨K, w, ad⟩ m_extend) := by
  refine ok_defV (l := 0) (n := 2) (k := 1) (b := b_extend) F sc_extend rfl rfl (fun cdv A outer s H E hr => ⟨_, (pss_cons (ps_set (i := 2) sc_extend.nd rfl (Or.inl rfl) (pe_op op_and (pv 0) (pe_op op_sub (pe_op or_shl pe_int (pv 1)) pe_int))) (pss_cons (ps_if (pt_cmpR or_ge (pv 2) (pe_op or_shl pe_int (pe_op op_sub (pv 1) pe_int)) (nomark _)) (pss_cons (ps_ret (pe_op op_sub (pv 2) (pe_op or_shl pe_int (pv 1)))) pss_nil) pss_nil) (pss_cons (ps_ret (pv 2)) pss_nil))), fun xo => ?_⟩)
  exact (cs_seq (cs_a (ce_B od_and ce_var (ce_B od_sub (ce_B od_shl (ce_c fun _ => .int _) ce_var) (ce_c fun _ => .int _)))) (cs_seq (cs_if (ct_test (ce_B od_ge ce_var (ce_B od_shl (ce_c fun _ => .int _) (ce_B od_sub ce_var (ce_c fun _ => .int _))))) (cs_seq (cs_ret (ce_B od_sub ce_var (ce_B od_shl (ce_c fun _ => .int _) ce_var))) cs_nx) cs_nx) (cs_seq (cs_ret ce_var) cs_nx)))
theorem sc_signed : FnScope ["kind", "number"] ["kind", "number"] (defScope s_signed) := ⟨rfl, rfl, rfl, by decide +kernel, rfl, by decide +kernel, by decide +kernel⟩
theorem ok_signed {f : Addr} {fd : FuncData} {d_width : FuncData} {d_extend : FuncData} (F : Fun K "signed" "signed" s_signed f fd) (T : Tx w K mg ad) (O_width : DfX P w K mg base 1 "width" (ad 0) d_width ["kind"] (SpD ⟨K, w, ad⟩ m_width)) (O_extend : DfX P w K mg base 1 "extend" (ad 2) d_extend ["number", "bits"] (SpD ⟨K, w, ad⟩ m_extend)) : FnOk P w K mg base (L2.CX P w) 2 f fd ["kind", "number"] (SpD ⟨K, w, ad⟩ m_signed) := by
  refine ok_defV (l := 1) (n := 2) (k := 0) (b := b_signed) F sc_signed rfl rfl (fun cdv A outer s H E hr => ⟨_, (pss_cons (ps_ret (clS O_extend (hr.mono (by decide)) rfl (fun σ => passAt (takes_of rfl rfl rfl rfl) σ) (pa_cons (pv 1) (pa_cons (clS O_width (hr.mono (by decide)) rfl (fun σ => passAt (takes_of rfl rfl rfl rfl) σ) (pa_cons (pv 0) pa_nil)) pa_nil)))) pss_nil), fun xo => ?_⟩)
  exact (cs_seq (cs_ret (ce_call (ca_cons ce_var (ca_cons (ce_call (ca_cons ce_var ca_nil)) ca_nil)))) cs_nx)
theorem sc_in_range : FnScope ["kind", "number"] ["kind", "number"] (defScope s_in_range) := ⟨rfl, rfl, rfl, by decide +kernel, rfl, by decide +kernel, by decide +kernel⟩
theorem ok_in_range {f : Addr} {fd : FuncData} {d_signed : FuncData} (F : Fun K "in_range" "in_range" s_in_range f fd) (T : Tx w K mg ad) (O_signed : DfX P w K mg base 2 "signed" (ad 3) d_signed ["kind", "number"] (SpD ⟨K, w, ad⟩ m_signed)) : FnOk P w K mg base (L2.CX P w) 3 f fd ["kind", "number"] (SpD ⟨K, w, ad⟩ m_in_range) := by
  refine ok_defV (l := 2) (n := 2) (k := 0) (b := b_in_range) F sc_in_range rfl rfl (fun cdv A outer s H E hr => ⟨_, (pss_cons (ps_ret (pe_cmpR (r := rEqX K) (or_eq hr.units) (clS O_signed (hr.mono (by decide)) rfl (fun σ => passAt (takes_of rfl rfl rfl rfl) σ) (pa_cons (pv 0) (pa_cons (pv 1) pa_nil))) (pv 1) (nomark _))) pss_nil), fun xo => ?_⟩)
  exact (cs_seq (cs_ret (ce_B od_eq (ce_call (ca_cons ce_var (ca_cons ce_var ca_nil))) ce_var)) cs_nx)
theorem sc_add : FnScope ["kind", "a", "b"] ["kind", "a", "b"] (defScope s_add) := ⟨rfl, rfl, rfl, by decide +kernel, rfl, by decide +kernel, by decide +kernel⟩
theorem ok_add {f : Addr} {fd : FuncData} {d_signed : FuncData} (F : Fun K "add" "add" s_add f fd) (T : Tx w K mg ad) (O_signed : DfX P w K mg base 2 "signed" (ad 3) d_signed ["kind", "number"] (SpD ⟨K, w, ad⟩ m_signed)) : FnOk P w K mg base (L2.CX P w) 3 f fd ["kind", "a", "b"] (SpD ⟨K, w, ad⟩ m_add) := by
  refine ok_defV (l := 2) (n := 3) (k := 0) (b := b_add) F sc_add rfl rfl (fun cdv A outer s H E hr => ⟨_, (pss_cons (ps_ret (clS O_signed (hr.mono (by decide)) rfl (fun σ => passAt (takes_of rfl rfl rfl rfl) σ) (pa_cons (pv 0) (pa_cons (pe_op (r := Dm.rAdd K) or_add (pv 1) (pv 2)) pa_nil)))) pss_nil), fun xo => ?_⟩)
  exact (cs_seq (cs_ret (ce_call (ca_cons ce_var (ca_cons (ce_B od_add ce_var ce_var) ca_nil)))) cs_nx)
theorem sc_sub : FnScope ["kind", "a", "b"] ["kind", "a", "b"] (defScope s_sub) := ⟨rfl, rfl, rfl, by decide +kernel, rfl, by decide +kernel, by decide +kernel⟩
theorem ok_sub {f : Addr} {fd : FuncData} {d_signed : FuncData} (F : Fun K "sub" "sub" s_sub f fd) (T : Tx w K mg ad) (O_signed : DfX P w K mg base 2 "signed" (ad 3) d_signed ["kind", "number"] (SpD ⟨K, w, ad⟩ m_signed)) : FnOk P w K mg base (L2.CX P w) 3 f fd ["kind", "a", "b"] (SpD ⟨K, w, ad⟩ m_sub) := by
  refine ok_defV (l := 2) (n := 3) (k := 0) (b := b_sub) F sc_sub rfl rfl (fun cdv A outer s H E hr => ⟨_, (pss_cons (ps_ret (clS O_signed (hr.mono (by decide)) rfl (fun σ => passAt (takes_of rfl rfl rfl rfl) σ) (pa_cons (pv 0) (pa_cons (pe_op op_sub (pv 1) (pv 2)) pa_nil)))) pss_nil), fun xo => ?_⟩)
  exact (cs_seq (cs_ret (ce_call (ca_cons ce_var (ca_cons (ce_B od_sub ce_var ce_var) ca_nil)))) cs_nx)
theorem sc_mul : FnScope ["kind", "a", "b"] ["kind", "a", "b"] (defScope s_mul) := ⟨rfl, rfl, rfl, by decide +kernel, rfl, by decide +kernel, by decide +kernel⟩
theorem ok_mul {f : Addr} {fd : FuncData} {d_signed : FuncData} (F : Fun K "mul" "mul" s_mul f fd) (T : Tx w K mg ad) (O_signed : DfX P w K mg base 2 "signed" (ad 3) d_signed ["kind", "number"] (SpD ⟨K, w, ad⟩ m_signed)) : FnOk P w K mg base (L2.CX P w) 3 f fd ["kind", "a", "b"] (SpD ⟨K, w, ad⟩ m_mul) := by
  refine ok_defV (l := 2) (n := 3) (k := 0) (b := b_mul) F sc_mul rfl rfl (fun cdv A outer s H E hr => ⟨_, (pss_cons (ps_ret (clS O_signed (hr.mono (by decide)) rfl (fun σ => passAt (takes_of rfl rfl rfl rfl) σ) (pa_cons (pv 0) (pa_cons (pe_op or_mul (pv 1) (pv 2)) pa_nil)))) pss_nil), fun xo => ?_⟩)
  exact (cs_seq (cs_ret (ce_call (ca_cons ce_var (ca_cons (ce_B od_mul ce_var ce_var) ca_nil)))) cs_nx)
theorem sc_quotient : FnScope ["a", "b", "result"] ["a", "b"] (defScope s_quotient) := ⟨rfl, rfl, rfl, by decide +kernel, rfl, by decide +kernel, by decide +kernel⟩
theorem ok_quotient {f : Addr} {fd : FuncData} (F : Fun K "quotient" "quotient" s_quotient f fd) (T : Tx w K mg ad) : FnOk P w K mg base (L2.CX P w) 1 f fd ["a", "b"] (SpD ⟨K, w, ad⟩ m_quotient) := by
  refine ok_defV (l := 0) (n := 2) (k := 1) (b := b_quotient) F sc_quotient rfl rfl (fun cdv A outer s H E hr => ⟨_, (pss_cons (ps_set (i := 2) sc_quotient.nd rfl (Or.inl rfl) (pe_op op_fdivW (pe_callB (r := rAbs1) call_abs (by rfl) T.b_abs (by decide +kernel) (pa_cons (pv 0) pa_nil)) (pe_callB (r := rAbs1) call_abs (by rfl) T.b_abs (by decide +kernel) (pa_cons (pv 1) pa_nil)))) (pss_cons (ps_if (pt_cmpR (r := rEqX K) (or_eq hr.units) (pe_cmpR or_lt (pv 0) pe_int (nomark _)) (pe_cmpR or_lt (pv 1) pe_int (nomark _)) (nomark _)) (pss_cons (ps_ret (pv 2)) pss_nil) pss_nil) (pss_cons (ps_ret (pe_un un_neg (pv 2))) pss_nil))), fun xo => ?_⟩)
  exact (cs_seq (cs_a (ce_B od_div (ce_F cd_abs (ca_cons ce_var ca_nil)) (ce_F cd_abs (ca_cons ce_var ca_nil)))) (cs_seq (cs_if (ct_test (ce_B od_eq (ce_B od_lt ce_var (ce_c fun _ => .int _)) (ce_B od_lt ce_var (ce_c fun _ => .int _)))) (cs_seq (cs_ret ce_var) cs_nx) cs_nx) (cs_seq (cs_ret (ce_neg ce_var)) cs_nx)))
theorem sc_div_s : FnScope ["kind", "a", "b", "result"] ["kind", "a", "b"] (defScope s_div_s) := ⟨rfl, rfl, rfl, by decide +kernel, rfl, by decide +kernel, by decide +kernel⟩
theorem ok_div_s {f : Addr} {fd : FuncData} {d_in_range : FuncData} {d_quotient : FuncData} {di_Trap : FuncData} (F : Fun K "div_s" "div_s" s_div_s f fd) (T : Tx w K mg ad) (O_in_range : DfX P w K mg base 3 "in_range" (ad 4) d_in_range ["kind", "number"] (SpD ⟨K, w, ad⟩ m_in_range)) (O_quotient : DfX P w K mg base 1 "quotient" (ad 8) d_quotient ["a", "b"] (SpD ⟨K, w, ad⟩ m_quotient)) (O_init_Trap : InitN P w K mg base (ad 2001) di_Trap ["self", "reason"] ["reason"]) : FnOk P w K mg base (L2.CX P w) 4 f fd ["kind", "a", "b"] (SpD ⟨K, w, ad⟩ m_div_s) := by
  refine ok_defV (l := 3) (n := 3) (k := 1) (b := b_div_s) F sc_div_s rfl rfl (fun cdv A outer s H E hr => ⟨_, (pss_cons (ps_if (pt_cmpR (r := rEqX K) (or_eq hr.units) (pv 2) pe_int (nomark _)) (pss_cons (ps_raise rfl (takes_of rfl rfl rfl rfl) (pmk_oex T.e_Trap.o T.e_Trap.i T.e_Trap.t O_init_Trap.ok (hr.mono (by decide)) O_init_Trap.b .nil pass0 rfl T.e_Trap.g (pa_cons pe_str pa_nil))) pss_nil) pss_nil) (pss_cons (ps_set (i := 3) sc_div_s.nd rfl (Or.inl rfl) (clS O_quotient (hr.mono (by decide)) rfl (fun σ => passAt (takes_of rfl rfl rfl rfl) σ) (pa_cons (pv 1) (pa_cons (pv 2) pa_nil)))) (pss_cons (ps_if (pt_not (pt_val (clS O_in_range (hr.mono (by decide)) rfl (fun σ => passAt (takes_of rfl rfl rfl rfl) σ) (pa_cons (pv 0) (pa_cons (pv 3) pa_nil))))) (pss_cons (ps_raise rfl (takes_of rfl rfl rfl rfl) (pmk_oex T.e_Trap.o T.e_Trap.i T.e_Trap.t O_init_Trap.ok (hr.mono (by decide)) O_init_Trap.b .nil pass0 rfl T.e_Trap.g (pa_cons pe_str pa_nil))) pss_nil) pss_nil) (pss_cons (ps_ret (pv 3)) pss_nil)))), fun xo => ?_⟩)
  exact (cs_seq (cs_if (ct_test (ce_B od_eq ce_var (ce_c fun _ => .int _))) (cs_seq (cs_raise T.e_Trap.o T.e_Trap.n (by decide) (by decide) (by decide +kernel) (ca_cons (ce_c fun _ => .str _) ca_nil)) cs_nx) cs_nx) (cs_seq (cs_a (ce_call (ca_cons ce_var (ca_cons ce_var ca_nil)))) (cs_seq (cs_if (ct_not (ct_B (ce_call (ca_cons ce_var (ca_cons ce_var ca_nil))))) (cs_seq (cs_raise T.e_Trap.o T.e_Trap.n (by decide) (by decide) (by decide +kernel) (ca_cons (ce_c fun _ => .str _) ca_nil)) cs_nx) cs_nx) (cs_seq (cs_ret ce_var) cs_nx))))
theorem sc_div_u : FnScope ["kind", "a", "b"] ["kind", "a", "b"] (defScope s_div_u) := ⟨rfl, rfl, rfl, by decide +kernel, rfl, by decide +kernel, by decide +kernel⟩
theorem ok_div_u {f : Addr} {fd : FuncData} {d_unsigned : FuncData} {d_signed : FuncData} {di_Trap : FuncData} (F : Fun K "div_u" "div_u" s_div_u f fd) (T : Tx w K mg ad) (O_unsigned : DfX P w K mg base 2 "unsigned" (ad 1) d_unsigned ["kind", "number"] (SpD ⟨K, w, ad⟩ m_unsigned)) (O_signed : DfX P w K mg base 2 "signed" (ad 3) d_signed ["kind", "number"] (SpD ⟨K, w, ad⟩ m_signed)) (O_init_Trap : InitN P w K mg base (ad 2001) di_Trap ["self", "reason"] ["reason"]) : FnOk P w K mg base (L2.CX P w) 3 f fd ["kind", "a", "b"] (SpD ⟨K, w, ad⟩ m_div_u) := by
  refine ok_defV (l := 2) (n := 3) (k := 0) (b := b_div_u) F sc_div_u rfl rfl (fun cdv A outer s H E hr => ⟨_, (pss_cons (ps_if (pt_cmpR (r := rEqX K) (or_eq hr.units) (pv 2) pe_int (nomark _)) (pss_cons (ps_raise rfl (takes_of rfl rfl rfl rfl) (pmk_oex T.e_Trap.o T.e_Trap.i T.e_Trap.t O_init_Trap.ok (hr.mono (by decide)) O_init_Trap.b .nil pass0 rfl T.e_Trap.g (pa_cons pe_str pa_nil))) pss_nil) pss_nil) (pss_cons (ps_ret (clS O_signed (hr.mono (by decide)) rfl (fun σ => passAt (takes_of rfl rfl rfl rfl) σ) (pa_cons (pv 0) (pa_cons (pe_op op_fdivW (clS O_unsigned (hr.mono (by decide)) rfl (fun σ => passAt (takes_of rfl rfl rfl rfl) σ) (pa_cons (pv 0) (pa_cons (pv 1) pa_nil))) (clS O_unsigned (hr.mono (by decide)) rfl (fun σ => passAt (takes_of rfl rfl rfl rfl) σ) (pa_cons (pv 0) (pa_cons (pv 2) pa_nil)))) pa_nil)))) pss_nil)), fun xo => ?_⟩)
  exact (cs_seq (cs_if (ct_test (ce_B od_eq ce_var (ce_c fun _ => .int _))) (cs_seq (cs_raise T.e_Trap.o T.e_Trap.n (by decide) (by decide) (by decide +kernel) (ca_cons (ce_c fun _ => .str _) ca_nil)) cs_nx) cs_nx) (cs_seq (cs_ret (ce_call (ca_cons ce_var (ca_cons (ce_B od_div (ce_call (ca_cons ce_var (ca_cons ce_var ca_nil))) (ce_call (ca_cons ce_var (ca_cons ce_var ca_nil)))) ca_nil)))) cs_nx))
theorem sc_rem_s : FnScope ["kind", "a", "b"] ["kind", "a", "b"] (defScope s_rem_s) := ⟨rfl, rfl, rfl, by decide +kernel, rfl, by decide +kernel, by decide +kernel⟩
theorem ok_rem_s {f : Addr} {fd : FuncData} {d_quotient : FuncData} {di_Trap : FuncData} (F : Fun K "rem_s" "rem_s" s_rem_s f fd) (T : Tx w K mg ad) (O_quotient : DfX P w K mg base 1 "quotient" (ad 8) d_quotient ["a", "b"] (SpD ⟨K, w, ad⟩ m_quotient)) (O_init_Trap : InitN P w K mg base (ad 2001) di_Trap ["self", "reason"] ["reason"]) : FnOk P w K mg base (L2.CX P w) 3 f fd ["kind", "a", "b"] (SpD ⟨K, w, ad⟩ m_rem_s) := by
  refine ok_defV (l := 2) (n := 3) (k := 0) (b := b_rem_s) F sc_rem_s rfl rfl (fun cdv A outer s H E hr => ⟨_, (pss_cons (ps_if (pt_cmpR (r := rEqX K) (or_eq hr.units) (pv 2) pe_int (nomark _)) (pss_cons (ps_raise rfl (takes_of rfl rfl rfl rfl) (pmk_oex T.e_Trap.o T.e_Trap.i T.e_Trap.t O_init_Trap.ok (hr.mono (by decide)) O_init_Trap.b .nil pass0 rfl T.e_Trap.g (pa_cons pe_str pa_nil))) pss_nil) pss_nil) (pss_cons (ps_ret (pe_op op_sub (pv 1) (pe_op or_mul (pv 2) (clS O_quotient (hr.mono (by decide)) rfl (fun σ => passAt (takes_of rfl rfl rfl rfl) σ) (pa_cons (pv 1) (pa_cons (pv 2) pa_nil)))))) pss_nil)), fun xo => ?_⟩)
  exact (cs_seq (cs_if (ct_test (ce_B od_eq ce_var (ce_c fun _ => .int _))) (cs_seq (cs_raise T.e_Trap.o T.e_Trap.n (by decide) (by decide) (by decide +kernel) (ca_cons (ce_c fun _ => .str _) ca_nil)) cs_nx) cs_nx) (cs_seq (cs_ret (ce_B od_sub ce_var (ce_B od_mul ce_var (ce_call (ca_cons ce_var (ca_cons ce_var ca_nil)))))) cs_nx))
theorem sc_rem_u : FnScope ["kind", "a", "b", "whole", "part"] ["kind", "a", "b"] (defScope s_rem_u) := ⟨rfl, rfl, rfl, by decide +kernel, rfl, by decide +kernel, by decide +kernel⟩
theorem ok_rem_u {f : Addr} {fd : FuncData} {d_unsigned : FuncData} {d_signed : FuncData} {di_Trap : FuncData} (F : Fun K "rem_u" "rem_u" s_rem_u f fd) (T : Tx w K mg ad) (O_unsigned : DfX P w K mg base 2 "unsigned" (ad 1) d_unsigned ["kind", "number"] (SpD ⟨K, w, ad⟩ m_unsigned)) (O_signed : DfX P w K mg base 2 "signed" (ad 3) d_signed ["kind", "number"] (SpD ⟨K, w, ad⟩ m_signed)) (O_init_Trap : InitN P w K mg base (ad 2001) di_Trap ["self", "reason"] ["reason"]) : FnOk P w K mg base (L2.CX P w) 3 f fd ["kind", "a", "b"] (SpD ⟨K, w, ad⟩ m_rem_u) := by
  refine ok_defV (l := 2) (n := 3) (k := 2) (b := b_rem_u) F sc_rem_u rfl rfl (fun cdv A outer s H E hr => ⟨_, (pss_cons (ps_if (pt_cmpR (r := rEqX K) (or_eq hr.units) (pv 2) pe_int (nomark _)) (pss_cons (ps_raise rfl (takes_of rfl rfl rfl rfl) (pmk_oex T.e_Trap.o T.e_Trap.i T.e_Trap.t O_init_Trap.ok (hr.mono (by decide)) O_init_Trap.b .nil pass0 rfl T.e_Trap.g (pa_cons pe_str pa_nil))) pss_nil) pss_nil) (pss_cons (ps_set (i := 3) sc_rem_u.nd rfl (Or.inl rfl) (clS O_unsigned (hr.mono (by decide)) rfl (fun σ => passAt (takes_of rfl rfl rfl rfl) σ) (pa_cons (pv 0) (pa_cons (pv 1) pa_nil)))) (pss_cons (ps_set (i := 4) sc_rem_u.nd rfl (Or.inl rfl) (clS O_unsigned (hr.mono (by decide)) rfl (fun σ => passAt (takes_of rfl rfl rfl rfl) σ) (pa_cons (pv 0) (pa_cons (pv 2) pa_nil)))) (pss_cons (ps_ret (clS O_signed (hr.mono (by decide)) rfl (fun σ => passAt (takes_of rfl rfl rfl rfl) σ) (pa_cons (pv 0) (pa_cons (pe_op op_sub (pv 3) (pe_op or_mul (pv 4) (pe_op op_fdivW (pv 3) (pv 4)))) pa_nil)))) pss_nil)))), fun xo => ?_⟩)
  exact (cs_seq (cs_if (ct_test (ce_B od_eq ce_var (ce_c fun _ => .int _))) (cs_seq (cs_raise T.e_Trap.o T.e_Trap.n (by decide) (by decide) (by decide +kernel) (ca_cons (ce_c fun _ => .str _) ca_nil)) cs_nx) cs_nx) (cs_seq (cs_a (ce_call (ca_cons ce_var (ca_cons ce_var ca_nil)))) (cs_seq (cs_a (ce_call (ca_cons ce_var (ca_cons ce_var ca_nil)))) (cs_seq (cs_ret (ce_call (ca_cons ce_var (ca_cons (ce_B od_sub ce_var (ce_B od_mul ce_var (ce_B od_div ce_var ce_var))) ca_nil)))) cs_nx))))
theorem sc_bit_and : FnScope ["kind", "a", "b"] ["kind", "a", "b"] (defScope s_bit_and) := ⟨rfl, rfl, rfl, by decide +kernel, rfl, by decide +kernel, by decide +kernel⟩
theorem ok_bit_and {f : Addr} {fd : FuncData} (F : Fun K "bit_and" "bit_and" s_bit_and f fd) (T : Tx w K mg ad) : FnOk P w K mg base (L2.CX P w) 1 f fd ["kind", "a", "b"] (SpD ⟨K, w, ad⟩ m_bit_and) := by
  refine ok_defV (l := 0) (n := 3) (k := 0) (b := b_bit_and) F sc_bit_and rfl rfl (fun cdv A outer s H E hr => ⟨_, (pss_cons (ps_ret (pe_op op_and (pv 1) (pv 2))) pss_nil), fun xo => ?_⟩)
  exact (cs_seq (cs_ret (ce_B od_and ce_var ce_var)) cs_nx)
theorem sc_bit_or : FnScope ["kind", "a", "b"] ["kind", "a", "b"] (defScope s_bit_or) := ⟨rfl, rfl, rfl, by decide +kernel, rfl, by decide +kernel, by decide +kernel⟩
theorem ok_bit_or {f : Addr} {fd : FuncData} (F : Fun K "bit_or" "bit_or" s_bit_or f fd) (T : Tx w K mg ad) : FnOk P w K mg base (L2.CX P w) 1 f fd ["kind", "a", "b"] (SpD ⟨K, w, ad⟩ m_bit_or) := by
  refine ok_defV (l := 0) (n := 3) (k := 0) (b := b_bit_or) F sc_bit_or rfl rfl (fun cdv A outer s H E hr => ⟨_, (pss_cons (ps_ret (pe_op op_or (pv 1) (pv 2))) pss_nil), fun xo => ?_⟩)
  exact (cs_seq (cs_ret (ce_B od_or ce_var ce_var)) cs_nx)
theorem sc_bit_xor : FnScope ["kind", "a", "b"] ["kind", "a", "b"] (defScope s_bit_xor) := ⟨rfl, rfl, rfl, by decide +kernel, rfl, by decide +kernel, by decide +kernel⟩
theorem ok_bit_xor {f : Addr} {fd : FuncData} (F : Fun K "bit_xor" "bit_xor" s_bit_xor f fd) (T : Tx w K mg ad) : FnOk P w K mg base (L2.CX P w) 1 f fd ["kind", "a", "b"] (SpD ⟨K, w, ad⟩ m_bit_xor) := by
  refine ok_defV (l := 0) (n := 3) (k := 0) (b := b_bit_xor) F sc_bit_xor rfl rfl (fun cdv A outer s H E hr => ⟨_, (pss_cons (ps_ret (pe_op op_xor (pv 1) (pv 2))) pss_nil), fun xo => ?_⟩)
  exact (cs_seq (cs_ret (ce_B od_xor ce_var ce_var)) cs_nx)
theorem sc_shift_count : FnScope ["kind", "b"] ["kind", "b"] (defScope s_shift_count) := ⟨rfl, rfl, rfl, by decide +kernel, rfl, by decide +kernel, by decide +kernel⟩
theorem ok_shift_count {f : Addr} {fd : FuncData} {d_width : FuncData} (F : Fun K "shift_count" "shift_count" s_shift_count f fd) (T : Tx w K mg ad) (O_width : DfX P w K mg base 1 "width" (ad 0) d_width ["kind"] (SpD ⟨K, w, ad⟩ m_width)) : FnOk P w K mg base (L2.CX P w) 2 f fd ["kind", "b"] (SpD ⟨K, w, ad⟩ m_shift_count) := by
  refine ok_defV (l := 1) (n := 2) (k := 0) (b := b_shift_count) F sc_shift_count rfl rfl (fun cdv A outer s H E hr => ⟨_, (pss_cons (ps_ret (pe_op op_and (pv 1) (pe_op op_sub (clS O_width (hr.mono (by decide)) rfl (fun σ => passAt (takes_of rfl rfl rfl rfl) σ) (pa_cons (pv 0) pa_nil)) pe_int))) pss_nil), fun xo => ?_⟩)
  exact (cs_seq (cs_ret (ce_B od_and ce_var (ce_B od_sub (ce_call (ca_cons ce_var ca_nil)) (ce_c fun _ => .int _)))) cs_nx)
theorem sc_shl : FnScope ["kind", "a", "b"] ["kind", "a", "b"] (defScope s_shl) := ⟨rfl, rfl, rfl, by decide +kernel, rfl, by decide +kernel, by decide +kernel⟩
theorem ok_shl {f : Addr} {fd : FuncData} {d_signed : FuncData} {d_shift_count : FuncData} (F : Fun K "shl" "shl" s_shl f fd) (T : Tx w K mg ad) (O_signed : DfX P w K mg base 2 "signed" (ad 3) d_signed ["kind", "number"] (SpD ⟨K, w, ad⟩ m_signed)) (O_shift_count : DfX P w K mg base 2 "shift_count" (ad 16) d_shift_count ["kind", "b"] (SpD ⟨K, w, ad⟩ m_shift_count)) : FnOk P w K mg base (L2.CX P w) 3 f fd ["kind", "a", "b"] (SpD ⟨K, w, ad⟩ m_shl) := by
  refine ok_defV (l := 2) (n := 3) (k := 0) (b := b_shl) F sc_shl rfl rfl (fun cdv A outer s H E hr => ⟨_, (pss_cons (ps_ret (clS O_signed (hr.mono (by decide)) rfl (fun σ => passAt (takes_of rfl rfl rfl rfl) σ) (pa_cons (pv 0) (pa_cons (pe_op or_shl (pv 1) (clS O_shift_count (hr.mono (by decide)) rfl (fun σ => passAt (takes_of rfl rfl rfl rfl) σ) (pa_cons (pv 0) (pa_cons (pv 2) pa_nil)))) pa_nil)))) pss_nil), fun xo => ?_⟩)
  exact (cs_seq (cs_ret (ce_call (ca_cons ce_var (ca_cons (ce_B od_shl ce_var (ce_call (ca_cons ce_var (ca_cons ce_var ca_nil)))) ca_nil)))) cs_nx)
theorem sc_shr_s : FnScope ["kind", "a", "b"] ["kind", "a", "b"] (defScope s_shr_s) := ⟨rfl, rfl, rfl, by decide +kernel, rfl, by decide +kernel, by decide +kernel⟩
theorem ok_shr_s {f : Addr} {fd : FuncData} {d_shift_count : FuncData} (F : Fun K "shr_s" "shr_s" s_shr_s f fd) (T : Tx w K mg ad) (O_shift_count : DfX P w K mg base 2 "shift_count" (ad 16) d_shift_count ["kind", "b"] (SpD ⟨K, w, ad⟩ m_shift_count)) : FnOk P w K mg base (L2.CX P w) 3 f fd ["kind", "a", "b"] (SpD ⟨K, w, ad⟩ m_shr_s) := by
  refine ok_defV (l := 2) (n := 3) (k := 0) (b := b_shr_s) F sc_shr_s rfl rfl (fun cdv A outer s H E hr => ⟨_, (pss_cons (ps_ret (pe_op op_shr (pv 1) (clS O_shift_count (hr.mono (by decide)) rfl (fun σ => passAt (takes_of rfl rfl rfl rfl) σ) (pa_cons (pv 0) (pa_cons (pv 2) pa_nil))))) pss_nil), fun xo => ?_⟩)
  exact (cs_seq (cs_ret (ce_B od_shr ce_var (ce_call (ca_cons ce_var (ca_cons ce_var ca_nil))))) cs_nx)
theorem sc_shr_u : FnScope ["kind", "a", "b"] ["kind", "a", "b"] (defScope s_shr_u) := ⟨rfl, rfl, rfl, by decide +kernel, rfl, by decide +kernel, by decide +kernel⟩
theorem ok_shr_u {f : Addr} {fd : FuncData} {d_unsigned : FuncData} {d_signed : FuncData} {d_shift_count : FuncData} (F : Fun K "shr_u" "shr_u" s_shr_u f fd) (T : Tx w K mg ad) (O_unsigned : DfX P w K mg base 2 "unsigned" (ad 1) d_unsigned ["kind", "number"] (SpD ⟨K, w, ad⟩ m_unsigned)) (O_signed : DfX P w K mg base 2 "signed" (ad 3) d_signed ["kind", "number"] (SpD ⟨K, w, ad⟩ m_signed)) (O_shift_count : DfX P w K mg base 2 "shift_count" (ad 16) d_shift_count ["kind", "b"] (SpD ⟨K, w, ad⟩ m_shift_count)) : FnOk P w K mg base (L2.CX P w) 3 f fd ["kind", "a", "b"] (SpD ⟨K, w, ad⟩ m_shr_u) := by
  refine ok_defV (l := 2) (n := 3) (k := 0) (b := b_shr_u) F sc_shr_u rfl rfl (fun cdv A outer s H E hr => ⟨_, (pss_cons (ps_ret (clS O_signed (hr.mono (by decide)) rfl (fun σ => passAt (takes_of rfl rfl rfl rfl) σ) (pa_cons (pv 0) (pa_cons (pe_op op_shr (clS O_unsigned (hr.mono (by decide)) rfl (fun σ => passAt (takes_of rfl rfl rfl rfl) σ) (pa_cons (pv 0) (pa_cons (pv 1) pa_nil))) (clS O_shift_count (hr.mono (by decide)) rfl (fun σ => passAt (takes_of rfl rfl rfl rfl) σ) (pa_cons (pv 0) (pa_cons (pv 2) pa_nil)))) pa_nil)))) pss_nil), fun xo => ?_⟩)
  exact (cs_seq (cs_ret (ce_call (ca_cons ce_var (ca_cons (ce_B od_shr (ce_call (ca_cons ce_var (ca_cons ce_var ca_nil))) (ce_call (ca_cons ce_var (ca_cons ce_var ca_nil)))) ca_nil)))) cs_nx)
theorem sc_rotl : FnScope ["kind", "a", "b", "count", "bits"] ["kind", "a", "b"] (defScope s_rotl) := ⟨rfl, rfl, rfl, by decide +kernel, rfl, by decide +kernel, by decide +kernel⟩
theorem ok_rotl {f : Addr} {fd : FuncData} {d_width : FuncData} {d_unsigned : FuncData} {d_signed : FuncData} {d_shift_count : FuncData} (F : Fun K "rotl" "rotl" s_rotl f fd) (T : Tx w K mg ad) (O_width : DfX P w K mg base 1 "width" (ad 0) d_width ["kind"] (SpD ⟨K, w, ad⟩ m_width)) (O_unsigned : DfX P w K mg base 2 "unsigned" (ad 1) d_unsigned ["kind", "number"] (SpD ⟨K, w, ad⟩ m_unsigned)) (O_signed : DfX P w K mg base 2 "signed" (ad 3) d_signed ["kind", "number"] (SpD ⟨K, w, ad⟩ m_signed)) (O_shift_count : DfX P w K mg base 2 "shift_count" (ad 16) d_shift_count ["kind", "b"] (SpD ⟨K, w, ad⟩ m_shift_count)) : FnOk P w K mg base (L2.CX P w) 3 f fd ["kind", "a", "b"] (SpD ⟨K, w, ad⟩ m_rotl) := by
  refine ok_defV (l := 2) (n := 3) (k := 2) (b := b_rotl) F sc_rotl rfl rfl (fun cdv A outer s H E hr => ⟨_, (pss_cons (ps_set (i := 3) sc_rotl.nd rfl (Or.inl rfl) (clS O_shift_count (hr.mono (by decide)) rfl (fun σ => passAt (takes_of rfl rfl rfl rfl) σ) (pa_cons (pv 0) (pa_cons (pv 2) pa_nil)))) (pss_cons (ps_set (i := 4) sc_rotl.nd rfl (Or.inl rfl) (clS O_unsigned (hr.mono (by decide)) rfl (fun σ => passAt (takes_of rfl rfl rfl rfl) σ) (pa_cons (pv 0) (pa_cons (pv 1) pa_nil)))) (pss_cons (ps_ret (clS O_signed (hr.mono (by decide)) rfl (fun σ => passAt (takes_of rfl rfl rfl rfl) σ) (pa_cons (pv 0) (pa_cons (pe_op op_or (pe_op or_shl (pv 4) (pv 3)) (pe_op op_shr (pv 4) (pe_op op_sub (clS O_width (hr.mono (by decide)) rfl (fun σ => passAt (takes_of rfl rfl rfl rfl) σ) (pa_cons (pv 0) pa_nil)) (pv 3)))) pa_nil)))) pss_nil))), fun xo => ?_⟩)
  exact (cs_seq (cs_a (ce_call (ca_cons ce_var (ca_cons ce_var ca_nil)))) (cs_seq (cs_a (ce_call (ca_cons ce_var (ca_cons ce_var ca_nil)))) (cs_seq (cs_ret (ce_call (ca_cons ce_var (ca_cons (ce_B od_or (ce_B od_shl ce_var ce_var) (ce_B od_shr ce_var (ce_B od_sub (ce_call (ca_cons ce_var ca_nil)) ce_var))) ca_nil)))) cs_nx)))
theorem sc_rotr : FnScope ["kind", "a", "b", "count", "bits"] ["kind", "a", "b"] (defScope s_rotr) := ⟨rfl, rfl, rfl, by decide +kernel, rfl, by decide +kernel, by decide +kernel⟩
theorem ok_rotr {f : Addr} {fd : FuncData} {d_width : FuncData} {d_unsigned : FuncData} {d_signed : FuncData} {d_shift_count : FuncData} (F : Fun K "rotr" "rotr" s_rotr f fd) (T : Tx w K mg ad) (O_width : DfX P w K mg base 1 "width" (ad 0) d_width ["kind"] (SpD ⟨K, w, ad⟩ m_width)) (O_unsigned : DfX P w K mg base 2 "unsigned" (ad 1) d_unsigned ["kind", "number"] (SpD ⟨K, w, ad⟩ m_unsigned)) (O_signed : DfX P w K mg base 2 "signed" (ad 3) d_signed ["kind", "number"] (SpD ⟨K, w, ad⟩ m_signed)) (O_shift_count : DfX P w K mg base 2 "shift_count" (ad 16) d_shift_count ["kind", "b"] (SpD ⟨K, w, ad⟩ m_shift_count)) : FnOk P w K mg base (L2.CX P w) 3 f fd ["kind", "a", "b"] (SpD ⟨K, w, ad⟩ m_rotr) := by
  refine ok_defV (l := 2) (n := 3) (k := 2) (b := b_rotr) F sc_rotr rfl rfl (fun cdv A outer s H E hr => ⟨_, (pss_cons (ps_set (i := 3) sc_rotr.nd rfl (Or.inl rfl) (clS O_shift_count (hr.mono (by decide)) rfl (fun σ => passAt (takes_of rfl rfl rfl rfl) σ) (pa_cons (pv 0) (pa_cons (pv 2) pa_nil)))) (pss_cons (ps_set (i := 4) sc_rotr.nd rfl (Or.inl rfl) (clS O_unsigned (hr.mono (by decide)) rfl (fun σ => passAt (takes_of rfl rfl rfl rfl) σ) (pa_cons (pv 0) (pa_cons (pv 1) pa_nil)))) (pss_cons (ps_ret (clS O_signed (hr.mono (by decide)) rfl (fun σ => passAt (takes_of rfl rfl rfl rfl) σ) (pa_cons (pv 0) (pa_cons (pe_op op_or (pe_op op_shr (pv 4) (pv 3)) (pe_op or_shl (pv 4) (pe_op op_sub (clS O_width (hr.mono (by decide)) rfl (fun σ => passAt (takes_of rfl rfl rfl rfl) σ) (pa_cons (pv 0) pa_nil)) (pv 3)))) pa_nil)))) pss_nil))), fun xo => ?_⟩)
  exact (cs_seq (cs_a (ce_call (ca_cons ce_var (ca_cons ce_var ca_nil)))) (cs_seq (cs_a (ce_call (ca_cons ce_var (ca_cons ce_var ca_nil)))) (cs_seq (cs_ret (ce_call (ca_cons ce_var (ca_cons (ce_B od_or (ce_B od_shr ce_var ce_var) (ce_B od_shl ce_var (ce_B od_sub (ce_call (ca_cons ce_var ca_nil)) ce_var))) ca_nil)))) cs_nx)))
theorem sc_eq : FnScope ["kind", "a", "b"] ["kind", "a", "b"] (defScope s_eq) := ⟨rfl, rfl, rfl, by decide +kernel, rfl, by decide +kernel, by decide +kernel⟩
theorem ok_eq {f : Addr} {fd : FuncData} (F : Fun K "eq" "eq" s_eq f fd) (T : Tx w K mg ad) : FnOk P w K mg base (L2.CX P w) 1 f fd ["kind", "a", "b"] (SpD ⟨K, w, ad⟩ m_eq) := by
  refine ok_defV (l := 0) (n := 3) (k := 0) (b := b_eq) F sc_eq rfl rfl (fun cdv A outer s H E hr => ⟨_, (pss_cons (ps_ret (pe_callTy (r := rInt1) call_int1 (by rfl) T.b_int (by decide +kernel) (pa_cons (pe_cmpR (r := rEqX K) (or_eq hr.units) (pv 1) (pv 2) (nomark _)) pa_nil))) pss_nil), fun xo => ?_⟩)
  exact (cs_seq (cs_ret (ce_F cd_int (ca_cons (ce_B od_eq ce_var ce_var) ca_nil))) cs_nx)
theorem sc_ne : FnScope ["kind", "a", "b"] ["kind", "a", "b"] (defScope s_ne) := ⟨rfl, rfl, rfl, by decide +kernel, rfl, by decide +kernel, by decide +kernel⟩
theorem ok_ne {f : Addr} {fd : FuncData} (F : Fun K "ne" "ne" s_ne f fd) (T : Tx w K mg ad) : FnOk P w K mg base (L2.CX P w) 1 f fd ["kind", "a", "b"] (SpD ⟨K, w, ad⟩ m_ne) := by
  refine ok_defV (l := 0) (n := 3) (k := 0) (b := b_ne) F sc_ne rfl rfl (fun cdv A outer s H E hr => ⟨_, (pss_cons (ps_ret (pe_callTy (r := rInt1) call_int1 (by rfl) T.b_int (by decide +kernel) (pa_cons (pe_cmpR (r := rNeX K) (or_ne hr.units) (pv 1) (pv 2) (nomark _)) pa_nil))) pss_nil), fun xo => ?_⟩)
  exact (cs_seq (cs_ret (ce_F cd_int (ca_cons (ce_B od_ne ce_var ce_var) ca_nil))) cs_nx)
theorem sc_lt_s : FnScope ["kind", "a", "b"] ["kind", "a", "b"] (defScope s_lt_s) := ⟨rfl, rfl, rfl, by decide +kernel, rfl, by decide +kernel, by decide +kernel⟩
theorem ok_lt_s {f : Addr} {fd : FuncData} (F : Fun K "lt_s" "lt_s" s_lt_s f fd) (T : Tx w K mg ad) : FnOk P w K mg base (L2.CX P w) 1 f fd ["kind", "a", "b"] (SpD ⟨K, w, ad⟩ m_lt_s) := by
  refine ok_defV (l := 0) (n := 3) (k := 0) (b := b_lt_s) F sc_lt_s rfl rfl (fun cdv A outer s H E hr => ⟨_, (pss_cons (ps_ret (pe_callTy (r := rInt1) call_int1 (by rfl) T.b_int (by decide +kernel) (pa_cons (pe_cmpR or_lt (pv 1) (pv 2) (nomark _)) pa_nil))) pss_nil), fun xo => ?_⟩)
  exact (cs_seq (cs_ret (ce_F cd_int (ca_cons (ce_B od_lt ce_var ce_var) ca_nil))) cs_nx)
theorem sc_gt_s : FnScope ["kind", "a", "b"] ["kind", "a", "b"] (defScope s_gt_s) := ⟨rfl, rfl, rfl, by decide +kernel, rfl, by decide +kernel, by decide +kernel⟩
theorem ok_gt_s {f : Addr} {fd : FuncData} (F : Fun K "gt_s" "gt_s" s_gt_s f fd) (T : Tx w K mg ad) : FnOk P w K mg base (L2.CX P w) 1 f fd ["kind", "a", "b"] (SpD ⟨K, w, ad⟩ m_gt_s) := by
  refine ok_defV (l := 0) (n := 3) (k := 0) (b := b_gt_s) F sc_gt_s rfl rfl (fun cdv A outer s H E hr => ⟨_, (pss_cons (ps_ret (pe_callTy (r := rInt1) call_int1 (by rfl) T.b_int (by decide +kernel) (pa_cons (pe_cmpR or_gt (pv 1) (pv 2) (nomark _)) pa_nil))) pss_nil), fun xo => ?_⟩)
  exact (cs_seq (cs_ret (ce_F cd_int (ca_cons (ce_B od_gt ce_var ce_var) ca_nil))) cs_nx)
theorem sc_le_s : FnScope ["kind", "a", "b"] ["kind", "a", "b"] (defScope s_le_s) := ⟨rfl, rfl, rfl, by decide +kernel, rfl, by decide +kernel, by decide +kernel⟩
theorem ok_le_s {f : Addr} {fd : FuncData} (F : Fun K "le_s" "le_s" s_le_s f fd) (T : Tx w K mg ad) : FnOk P w K mg base (L2.CX P w) 1 f fd ["kind", "a", "b"] (SpD ⟨K, w, ad⟩ m_le_s) := by
  refine ok_defV (l := 0) (n := 3) (k := 0) (b := b_le_s) F sc_le_s rfl rfl (fun cdv A outer s H E hr => ⟨_, (pss_cons (ps_ret (pe_callTy (r := rInt1) call_int1 (by rfl) T.b_int (by decide +kernel) (pa_cons (pe_cmpR or_le (pv 1) (pv 2) (nomark _)) pa_nil))) pss_nil), fun xo => ?_⟩)
  exact (cs_seq (cs_ret (ce_F cd_int (ca_cons (ce_B od_le ce_var ce_var) ca_nil))) cs_nx)
theorem sc_ge_s : FnScope ["kind", "a", "b"] ["kind", "a", "b"] (defScope s_ge_s) := ⟨rfl, rfl, rfl, by decide +kernel, rfl, by decide +kernel, by decide +kernel⟩
theorem ok_ge_s {f : Addr} {fd : FuncData} (F : Fun K "ge_s" "ge_s" s_ge_s f fd) (T : Tx w K mg ad) : FnOk P w K mg base (L2.CX P w) 1 f fd ["kind", "a", "b"] (SpD ⟨K, w, ad⟩ m_ge_s) := by
  refine ok_defV (l := 0) (n := 3) (k := 0) (b := b_ge_s) F sc_ge_s rfl rfl (fun cdv A outer s H E hr => ⟨_, (pss_cons (ps_ret (pe_callTy (r := rInt1) call_int1 (by rfl) T.b_int (by decide +kernel) (pa_cons (pe_cmpR or_ge (pv 1) (pv 2) (nomark _)) pa_nil))) pss_nil), fun xo => ?_⟩)
  exact (cs_seq (cs_ret (ce_F cd_int (ca_cons (ce_B od_ge ce_var ce_var) ca_nil))) cs_nx)
theorem sc_lt_u : FnScope ["kind", "a", "b"] ["kind", "a", "b"] (defScope s_lt_u) := ⟨rfl, rfl, rfl, by decide +kernel, rfl, by decide +kernel, by decide +kernel⟩
theorem ok_lt_u {f : Addr} {fd : FuncData} {d_unsigned : FuncData} (F : Fun K "lt_u" "lt_u" s_lt_u f fd) (T : Tx w K mg ad) (O_unsigned : DfX P w K mg base 2 "unsigned" (ad 1) d_unsigned ["kind", "number"] (SpD ⟨K, w, ad⟩ m_unsigned)) : FnOk P w K mg base (L2.CX P w) 3 f fd ["kind", "a", "b"] (SpD ⟨K, w, ad⟩ m_lt_u) := by
  refine ok_defV (l := 2) (n := 3) (k := 0) (b := b_lt_u) F sc_lt_u rfl rfl (fun cdv A outer s H E hr => ⟨_, (pss_cons (ps_ret (pe_callTy (r := rInt1) call_int1 (by rfl) T.b_int (by decide +kernel) (pa_cons (pe_cmpR or_lt (clS O_unsigned (hr.mono (by decide)) rfl (fun σ => passAt (takes_of rfl rfl rfl rfl) σ) (pa_cons (pv 0) (pa_cons (pv 1) pa_nil))) (clS O_unsigned (hr.mono (by decide)) rfl (fun σ => passAt (takes_of rfl rfl rfl rfl) σ) (pa_cons (pv 0) (pa_cons (pv 2) pa_nil))) (nomark _)) pa_nil))) pss_nil), fun xo => ?_⟩)
  exact (cs_seq (cs_ret (ce_F cd_int (ca_cons (ce_B od_lt (ce_call (ca_cons ce_var (ca_cons ce_var ca_nil))) (ce_call (ca_cons ce_var (ca_cons ce_var ca_nil)))) ca_nil))) cs_nx)
theorem sc_gt_u : FnScope ["kind", "a", "b"] ["kind", "a", "b"] (defScope s_gt_u) := ⟨rfl, rfl, rfl, by decide +kernel, rfl, by decide +kernel, by decide +kernel⟩
theorem ok_gt_u {f : Addr} {fd : FuncData} {d_unsigned : FuncData} (F : Fun K "gt_u" "gt_u" s_gt_u f fd) (T : Tx w K mg ad) (O_unsigned : DfX P w K mg base 2 "unsigned" (ad 1) d_unsigned ["kind", "number"] (SpD ⟨K, w, ad⟩ m_unsigned)) : FnOk P w K mg base (L2.CX P w) 3 f fd ["kind", "a", "b"] (SpD ⟨K, w, ad⟩ m_gt_u) := by
  refine ok_defV (l := 2) (n := 3) (k := 0) (b := b_gt_u) F sc_gt_u rfl rfl (fun cdv A outer s H E hr => ⟨_, (pss_cons (ps_ret (pe_callTy (r := rInt1) call_int1 (by rfl) T.b_int (by decide +kernel) (pa_cons (pe_cmpR or_gt (clS O_unsigned (hr.mono (by decide)) rfl (fun σ => passAt (takes_of rfl rfl rfl rfl) σ) (pa_cons (pv 0) (pa_cons (pv 1) pa_nil))) (clS O_unsigned (hr.mono (by decide)) rfl (fun σ => passAt (takes_of rfl rfl rfl rfl) σ) (pa_cons (pv 0) (pa_cons (pv 2) pa_nil))) (nomark _)) pa_nil))) pss_nil), fun xo => ?_⟩)
  exact (cs_seq (cs_ret (ce_F cd_int (ca_cons (ce_B od_gt (ce_call (ca_cons ce_var (ca_cons ce_var ca_nil))) (ce_call (ca_cons ce_var (ca_cons ce_var ca_nil)))) ca_nil))) cs_nx)
theorem sc_le_u : FnScope ["kind", "a", "b"] ["kind", "a", "b"] (defScope s_le_u) := ⟨rfl, rfl, rfl, by decide +kernel, rfl, by decide +kernel, by decide +kernel⟩
theorem ok_le_u {f : Addr} {fd : FuncData} {d_unsigned : FuncData} (F : Fun K "le_u" "le_u" s_le_u f fd) (T : Tx w K mg ad) (O_unsigned : DfX P w K mg base 2 "unsigned" (ad 1) d_unsigned ["kind", "number"] (SpD ⟨K, w, ad⟩ m_unsigned)) : FnOk P w K mg base (L2.CX P w) 3 f fd ["kind", "a", "b"] (SpD ⟨K, w, ad⟩ m_le_u) := by
  refine ok_defV (l := 2) (n := 3) (k := 0) (b := b_le_u) F sc_le_u rfl rfl (fun cdv A outer s H E hr => ⟨_, (pss_cons (ps_ret (pe_callTy (r := rInt1) call_int1 (by rfl) T.b_int (by decide +kernel) (pa_cons (pe_cmpR or_le (clS O_unsigned (hr.mono (by decide)) rfl (fun σ => passAt (takes_of rfl rfl rfl rfl) σ) (pa_cons (pv 0) (pa_cons (pv 1) pa_nil))) (clS O_unsigned (hr.mono (by decide)) rfl (fun σ => passAt (takes_of rfl rfl rfl rfl) σ) (pa_cons (pv 0) (pa_cons (pv 2) pa_nil))) (nomark _)) pa_nil))) pss_nil), fun xo => ?_⟩)
  exact (cs_seq (cs_ret (ce_F cd_int (ca_cons (ce_B od_le (ce_call (ca_cons ce_var (ca_cons ce_var ca_nil))) (ce_call (ca_cons ce_var (ca_cons ce_var ca_nil)))) ca_nil))) cs_nx)
theorem sc_ge_u : FnScope ["kind", "a", "b"] ["kind", "a", "b"] (defScope s_ge_u) := ⟨rfl, rfl, rfl, by decide +kernel, rfl, by decide +kernel, by decide +kernel⟩
theorem ok_ge_u {f : Addr} {fd : FuncData} {d_unsigned : FuncData} (F : Fun K "ge_u" "ge_u" s_ge_u f fd) (T : Tx w K mg ad) (O_unsigned : DfX P w K mg base 2 "unsigned" (ad 1) d_unsigned ["kind", "number"] (SpD ⟨K, w, ad⟩ m_unsigned)) : FnOk P w K mg base (L2.CX P w) 3 f fd ["kind", "a", "b"] (SpD ⟨K, w, ad⟩ m_ge_u) := by
  refine ok_defV (l := 2) (n := 3) (k := 0) (b := b_ge_u) F sc_ge_u rfl rfl (fun cdv A outer s H E hr => ⟨_, (pss_cons (ps_ret (pe_callTy (r := rInt1) call_int1 (by rfl) T.b_int (by decide +kernel) (pa_cons (pe_cmpR or_ge (clS O_unsigned (hr.mono (by decide)) rfl (fun σ => passAt (takes_of rfl rfl rfl rfl) σ) (pa_cons (pv 0) (pa_cons (pv 1) pa_nil))) (clS O_unsigned (hr.mono (by decide)) rfl (fun σ => passAt (takes_of rfl rfl rfl rfl) σ) (pa_cons (pv 0) (pa_cons (pv 2) pa_nil))) (nomark _)) pa_nil))) pss_nil), fun xo => ?_⟩)
  exact (cs_seq (cs_ret (ce_F cd_int (ca_cons (ce_B od_ge (ce_call (ca_cons ce_var (ca_cons ce_var ca_nil))) (ce_call (ca_cons ce_var (ca_cons ce_var ca_nil)))) ca_nil))) cs_nx)
theorem sc_eqz : FnScope ["kind", "a"] ["kind", "a"] (defScope s_eqz) := ⟨rfl, rfl, rfl, by decide +kernel, rfl, by decide +kernel, by decide +kernel⟩
theorem ok_eqz {f : Addr} {fd : FuncData} (F : Fun K "eqz" "eqz" s_eqz f fd) (T : Tx w K mg ad) : FnOk P w K mg base (L2.CX P w) 1 f fd ["kind", "a"] (SpD ⟨K, w, ad⟩ m_eqz) := by
  refine ok_defV (l := 0) (n := 2) (k := 0) (b := b_eqz) F sc_eqz rfl rfl (fun cdv A outer s H E hr => ⟨_, (pss_cons (ps_ret (pe_callTy (r := rInt1) call_int1 (by rfl) T.b_int (by decide +kernel) (pa_cons (pe_cmpR (r := rEqX K) (or_eq hr.units) (pv 1) pe_int (nomark _)) pa_nil))) pss_nil), fun xo => ?_⟩)
  exact (cs_seq (cs_ret (ce_F cd_int (ca_cons (ce_B od_eq ce_var (ce_c fun _ => .int _)) ca_nil))) cs_nx)
theorem sc_clz : FnScope ["kind", "a", "bits", "count"] ["kind", "a"] (defScope s_clz) := ⟨rfl, rfl, rfl, by decide +kernel, rfl, by decide +kernel, by decide +kernel⟩
theorem ok_clz {f : Addr} {fd : FuncData} {d_width : FuncData} {d_unsigned : FuncData} (F : Fun K "clz" "clz" s_clz f fd) (T : Tx w K mg ad) (O_width : DfX P w K mg base 1 "width" (ad 0) d_width ["kind"] (SpD ⟨K, w, ad⟩ m_width)) (O_unsigned : DfX P w K mg base 2 "unsigned" (ad 1) d_unsigned ["kind", "number"] (SpD ⟨K, w, ad⟩ m_unsigned)) : FnOk P w K mg base (L2.CX P w) 3 f fd ["kind", "a"] (SpD ⟨K, w, ad⟩ m_clz) := by
  refine ok_defV (l := 2) (n := 2) (k := 2) (b := b_clz) F sc_clz rfl rfl (fun cdv A outer s H E hr => ⟨_, (pss_cons (ps_set (i := 2) sc_clz.nd rfl (Or.inl rfl) (clS O_unsigned (hr.mono (by decide)) rfl (fun σ => passAt (takes_of rfl rfl rfl rfl) σ) (pa_cons (pv 0) (pa_cons (pv 1) pa_nil)))) (pss_cons (ps_set (i := 3) sc_clz.nd rfl (Or.inl rfl) (clS O_width (hr.mono (by decide)) rfl (fun σ => passAt (takes_of rfl rfl rfl rfl) σ) (pa_cons (pv 0) pa_nil))) (pss_cons (ps_while (passes_of rfl) (pt_cmpR or_gt (pv 2) pe_int (nomark _)) (pss_cons (ps_set (i := 2) sc_clz.nd rfl (Or.inl rfl) (pe_op op_shr (pv 2) pe_int)) (pss_cons (ps_aug (i := 3) sc_clz.nd rfl (Or.inl rfl) pe_int ip_subX) pss_nil))) (pss_cons (ps_ret (pv 3)) pss_nil)))), fun xo => ?_⟩)
  exact (cs_seq (cs_a (ce_call (ca_cons ce_var (ca_cons ce_var ca_nil)))) (cs_seq (cs_a (ce_call (ca_cons ce_var ca_nil))) (cs_seq (cs_wh 100000 (ct_test (ce_B od_gt ce_var (ce_c fun _ => .int _))) (cs_seq (cs_a (ce_B od_shr ce_var (ce_c fun _ => .int _))) (cs_seq (cs_aug od_sub (ce_c fun _ => .int _)) cs_nx))) (cs_seq (cs_ret ce_var) cs_nx))))
theorem sc_ctz : FnScope ["kind", "a", "count"] ["kind", "a"] (defScope s_ctz) := ⟨rfl, rfl, rfl, by decide +kernel, rfl, by decide +kernel, by decide +kernel⟩
theorem ok_ctz {f : Addr} {fd : FuncData} {d_width : FuncData} (F : Fun K "ctz" "ctz" s_ctz f fd) (T : Tx w K mg ad) (O_width : DfX P w K mg base 1 "width" (ad 0) d_width ["kind"] (SpD ⟨K, w, ad⟩ m_width)) : FnOk P w K mg base (L2.CX P w) 2 f fd ["kind", "a"] (SpD ⟨K, w, ad⟩ m_ctz) := by
  refine ok_defV (l := 1) (n := 2) (k := 1) (b := b_ctz) F sc_ctz rfl rfl (fun cdv A outer s H E hr => ⟨_, (pss_cons (ps_set (i := 2) sc_ctz.nd rfl (Or.inl rfl) pe_int) (pss_cons (ps_while (passes_of rfl) (PW.pt (pw_and (pt_cmpR or_lt (pv 2) (clS O_width (hr.mono (by decide)) rfl (fun σ => passAt (takes_of rfl rfl rfl rfl) σ) (pa_cons (pv 0) pa_nil)) (nomark _)) (pw_and1 (pt_cmpR (r := rEqX K) (or_eq hr.units) (pe_op op_and (pe_op op_shr (pv 1) (pv 2)) pe_int) pe_int (nomark _))))) (pss_cons (ps_aug (i := 2) sc_ctz.nd rfl (Or.inl rfl) pe_int ip_addX) pss_nil)) (pss_cons (ps_ret (pv 2)) pss_nil))), fun xo => ?_⟩)
  exact (cs_seq (cs_a (ce_c fun _ => .int _)) (cs_seq (cs_wh 100000 (ct_and (ct_test (ce_B od_lt ce_var (ce_call (ca_cons ce_var ca_nil)))) (ct_test (ce_B od_eq (ce_B od_and (ce_B od_shr ce_var ce_var) (ce_c fun _ => .int _)) (ce_c fun _ => .int _)))) (cs_seq (cs_aug od_addX (ce_c fun _ => .int _)) cs_nx)) (cs_seq (cs_ret ce_var) cs_nx)))
theorem sc_popcnt : FnScope ["kind", "a", "k"] ["kind", "a"] (defScope s_popcnt) := ⟨rfl, rfl, rfl, by decide +kernel, rfl, by decide +kernel, by decide +kernel⟩
theorem ok_popcnt {f : Addr} {fd : FuncData} {d_width : FuncData} (F : Fun K "popcnt" "popcnt" s_popcnt f fd) (T : Tx w K mg ad) (O_width : DfX P w K mg base 1 "width" (ad 0) d_width ["kind"] (SpD ⟨K, w, ad⟩ m_width)) : FnOk P w K mg base (L2.CX P w) 2 f fd ["kind", "a"] (SpD ⟨K, w, ad⟩ m_popcnt) := by
  refine ok_defV (l := 1) (n := 2) (k := 1) (b := b_popcnt) F sc_popcnt rfl rfl (fun cdv A outer s H E hr => ⟨_, (pss_cons (ps_ret (pe_callB (r := rSum K) (cr_sum rfl) (by rfl) T.b_sum (by decide +kernel) (pa_cons (pe_lc (own := [("k", 2)]) (tt := tYes) rfl sc_popcnt.nd (pi_range1 (by rfl) T.b_range (pa_cons (clS O_width (hr.mono (by decide)) rfl (fun σ => passAt (takes_of rfl rfl rfl rfl) σ) (pa_cons (pv 0) pa_nil)) pa_nil)) (blkOk_by (N := ["kind", "a", "k"]) (sc := defScope s_popcnt) (by decide +kernel)) (fun _ _ _ _ _ => (pg_name (i := 2) sc_popcnt.nd rfl (Or.inl rfl))) (fun _ _ _ _ _ => pts_nil) (fun _ _ _ _ _ => (pe_op op_and (pe_op op_shr (pv 1) (pv 2)) pe_int))) pa_nil))) pss_nil), fun xo => ?_⟩)
  exact (cs_seq (cs_ret (ce_F cd_sum (ca_cons (ce_L (cn_lc (ci_r1 (ca_cons (ce_call (ca_cons ce_var ca_nil)) ca_nil)) cg_name (by decide) ct_yes (ce_B od_and (ce_B od_shr ce_var ce_var) (ce_c fun _ => .int _)))) ca_nil))) cs_nx)
theorem sc_extend8_s : FnScope ["kind", "a"] ["kind", "a"] (defScope s_extend8_s) := ⟨rfl, rfl, rfl, by decide +kernel, rfl, by decide +kernel, by decide +kernel⟩
theorem ok_extend8_s {f : Addr} {fd : FuncData} {d_extend : FuncData} (F : Fun K "extend8_s" "extend8_s" s_extend8_s f fd) (T : Tx w K mg ad) (O_extend : DfX P w K mg base 1 "extend" (ad 2) d_extend ["number", "bits"] (SpD ⟨K, w, ad⟩ m_extend)) : FnOk P w K mg base (L2.CX P w) 2 f fd ["kind", "a"] (SpD ⟨K, w, ad⟩ m_extend8_s) := by
  refine ok_defV (l := 1) (n := 2) (k := 0) (b := b_extend8_s) F sc_extend8_s rfl rfl (fun cdv A outer s H E hr => ⟨_, (pss_cons (ps_ret (clS O_extend (hr.mono (by decide)) rfl (fun σ => passAt (takes_of rfl rfl rfl rfl) σ) (pa_cons (pv 1) (pa_cons pe_int pa_nil)))) pss_nil), fun xo => ?_⟩)
  exact (cs_seq (cs_ret (ce_call (ca_cons ce_var (ca_cons (ce_c fun _ => .int _) ca_nil)))) cs_nx)
theorem sc_extend16_s : FnScope ["kind", "a"] ["kind", "a"] (defScope s_extend16_s) := ⟨rfl, rfl, rfl, by decide +kernel, rfl, by decide +kernel, by decide +kernel⟩
theorem ok_extend16_s {f : Addr} {fd : FuncData} {d_extend : FuncData} (F : Fun K "extend16_s" "extend16_s" s_extend16_s f fd) (T : Tx w K mg ad) (O_extend : DfX P w K mg base 1 "extend" (ad 2) d_extend ["number", "bits"] (SpD ⟨K, w, ad⟩ m_extend)) : FnOk P w K mg base (L2.CX P w) 2 f fd ["kind", "a"] (SpD ⟨K, w, ad⟩ m_extend16_s) := by
  refine ok_defV (l := 1) (n := 2) (k := 0) (b := b_extend16_s) F sc_extend16_s rfl rfl (fun cdv A outer s H E hr => ⟨_, (pss_cons (ps_ret (clS O_extend (hr.mono (by decide)) rfl (fun σ => passAt (takes_of rfl rfl rfl rfl) σ) (pa_cons (pv 1) (pa_cons pe_int pa_nil)))) pss_nil), fun xo => ?_⟩)
  exact (cs_seq (cs_ret (ce_call (ca_cons ce_var (ca_cons (ce_c fun _ => .int _) ca_nil)))) cs_nx)
theorem sc_extend32_s : FnScope ["kind", "a"] ["kind", "a"] (defScope s_extend32_s) := ⟨rfl, rfl, rfl, by decide +kernel, rfl, by decide +kernel, by decide +kernel⟩
theorem ok_extend32_s {f : Addr} {fd : FuncData} {d_extend : FuncData} (F : Fun K "extend32_s" "extend32_s" s_extend32_s f fd) (T : Tx w K mg ad) (O_extend : DfX P w K mg base 1 "extend" (ad 2) d_extend ["number", "bits"] (SpD ⟨K, w, ad⟩ m_extend)) : FnOk P w K mg base (L2.CX P w) 2 f fd ["kind", "a"] (SpD ⟨K, w, ad⟩ m_extend32_s) := by
  refine ok_defV (l := 1) (n := 2) (k := 0) (b := b_extend32_s) F sc_extend32_s rfl rfl (fun cdv A outer s H E hr => ⟨_, (pss_cons (ps_ret (clS O_extend (hr.mono (by decide)) rfl (fun σ => passAt (takes_of rfl rfl rfl rfl) σ) (pa_cons (pv 1) (pa_cons pe_int pa_nil)))) pss_nil), fun xo => ?_⟩)
  exact (cs_seq (cs_ret (ce_call (ca_cons ce_var (ca_cons (ce_c fun _ => .int _) ca_nil)))) cs_nx)
theorem sc_extend_u : FnScope ["kind", "a"] ["kind", "a"] (defScope s_extend_u) := ⟨rfl, rfl, rfl, by decide +kernel, rfl, by decide +kernel, by decide +kernel⟩
theorem ok_extend_u {f : Addr} {fd : FuncData} {d_unsigned : FuncData} (F : Fun K "extend_u" "extend_u" s_extend_u f fd) (T : Tx w K mg ad) (O_unsigned : DfX P w K mg base 2 "unsigned" (ad 1) d_unsigned ["kind", "number"] (SpD ⟨K, w, ad⟩ m_unsigned)) : FnOk P w K mg base (L2.CX P w) 3 f fd ["kind", "a"] (SpD ⟨K, w, ad⟩ m_extend_u) := by
  refine ok_defV (l := 2) (n := 2) (k := 0) (b := b_extend_u) F sc_extend_u rfl rfl (fun cdv A outer s H E hr => ⟨_, (pss_cons (ps_ret (clS O_unsigned (hr.mono (by decide)) rfl (fun σ => passAt (takes_of rfl rfl rfl rfl) σ) (pa_cons pe_str (pa_cons (pv 1) pa_nil)))) pss_nil), fun xo => ?_⟩)
  exact (cs_seq (cs_ret (ce_call (ca_cons (ce_c fun _ => .str _) (ca_cons ce_var ca_nil)))) cs_nx)
theorem sc_signature_of : FnScope ["name", "kind", "word"] ["name"] (defScope s_signature_of) := ⟨rfl, rfl, rfl, by decide +kernel, rfl, by decide +kernel, by decide +kernel⟩
theorem ok_signature_of {f : Addr} {fd : FuncData} {di_UnknownInstruction : FuncData} (F : Fun K "signature_of" "signature_of" s_signature_of f fd) (T : Tx w K mg ad) (O_init_UnknownInstruction : InitN P w K mg base (ad 2002) di_UnknownInstruction ["self", "name"] ["name"]) : FnOk P w K mg base (L2.CX P w) 5 f fd ["name"] (SpD ⟨K, w, ad⟩ m_signature_of) := by
  obtain ⟨v_ARITHMETIC, u_ARITHMETIC, g_ARITHMETIC, r_ARITHMETIC, k_ARITHMETIC⟩ := T.g_ARITHMETIC
  obtain ⟨v_COMPARISONS, u_COMPARISONS, g_COMPARISONS, r_COMPARISONS, k_COMPARISONS⟩ := T.g_COMPARISONS
  obtain ⟨v_CONVERSIONS, u_CONVERSIONS, g_CONVERSIONS, r_CONVERSIONS, k_CONVERSIONS⟩ := T.g_CONVERSIONS
  obtain ⟨v_INSTRUCTIONS, u_INSTRUCTIONS, g_INSTRUCTIONS, r_INSTRUCTIONS, k_INSTRUCTIONS⟩ := T.g_INSTRUCTIONS
  refine ok_defV (l := 4) (n := 1) (k := 2) (b := b_signature_of) F sc_signature_of rfl rfl (fun cdv A outer s H E hr => ⟨_, (pss_cons (ps_if (pt_cmpR (r := rInX K w true) or_notIn (pv 0) (pe_glob rfl g_INSTRUCTIONS r_INSTRUCTIONS) (by rfl)) (pss_cons (ps_raise rfl (takes_of rfl rfl rfl rfl) (pmk_oex T.e_UnknownInstruction.o T.e_UnknownInstruction.i T.e_UnknownInstruction.t O_init_UnknownInstruction.ok (hr.mono (by decide)) O_init_UnknownInstruction.b .nil pass0 rfl T.e_UnknownInstruction.g (pa_cons (pv 0) pa_nil))) pss_nil) pss_nil) (pss_cons (ps_set (i := 1) sc_signature_of.nd rfl (Or.inl rfl) (pe_slice (r := rSlX2 K) sl_all (pv 0) po_none (po_some pe_int))) (pss_cons (ps_set (i := 2) sc_signature_of.nd rfl (Or.inl rfl) (pe_slice (r := rSlX2 K) sl_all (pv 0) (po_some pe_int) po_none)) (pss_cons (ps_if (pt_cmpR (r := rEqX K) (or_eq hr.units) (pv 0) pe_str (nomark _)) (pss_cons (ps_ret (pe_tup (pa_cons (pe_tup (pa_cons pe_str pa_nil)) (pa_cons (pe_tup (pa_cons pe_str pa_nil)) pa_nil)))) pss_nil) pss_nil) (pss_cons (ps_if (pt_cmpR (r := rInX K w false) or_in (pv 0) (pe_glob rfl g_CONVERSIONS r_CONVERSIONS) (by rfl)) (pss_cons (ps_ret (pe_tup (pa_cons (pe_tup (pa_cons pe_str pa_nil)) (pa_cons (pe_tup (pa_cons pe_str pa_nil)) pa_nil)))) pss_nil) pss_nil) (pss_cons (ps_if (pt_cmpR (r := rInX K w false) or_in (pv 2) (pe_glob rfl g_ARITHMETIC r_ARITHMETIC) (by rfl)) (pss_cons (ps_ret (pe_tup (pa_cons (pe_tup (pa_cons (pv 1) (pa_cons (pv 1) pa_nil))) (pa_cons (pe_tup (pa_cons (pv 1) pa_nil)) pa_nil)))) pss_nil) pss_nil) (pss_cons (ps_if (pt_cmpR (r := rInX K w false) or_in (pv 2) (pe_glob rfl g_COMPARISONS r_COMPARISONS) (by rfl)) (pss_cons (ps_ret (pe_tup (pa_cons (pe_tup (pa_cons (pv 1) (pa_cons (pv 1) pa_nil))) (pa_cons (pe_tup (pa_cons pe_str pa_nil)) pa_nil)))) pss_nil) pss_nil) (pss_cons (ps_if (pt_cmpR (r := rEqX K) (or_eq hr.units) (pv 2) pe_str (nomark _)) (pss_cons (ps_ret (pe_tup (pa_cons (pe_tup (pa_cons (pv 1) pa_nil)) (pa_cons (pe_tup (pa_cons pe_str pa_nil)) pa_nil)))) pss_nil) pss_nil) (pss_cons (ps_ret (pe_tup (pa_cons (pe_tup (pa_cons (pv 1) pa_nil)) (pa_cons (pe_tup (pa_cons (pv 1) pa_nil)) pa_nil)))) pss_nil))))))))), fun xo => ?_⟩)
  exact (cs_seq (cs_if (ct_test (ce_B od_notIn ce_var (ce_c k_INSTRUCTIONS))) (cs_seq (cs_raise T.e_UnknownInstruction.o T.e_UnknownInstruction.n (by decide) (by decide) (by decide +kernel) (ca_cons ce_var ca_nil)) cs_nx) cs_nx) (cs_seq (cs_a (ce_sl ce_var co_none (co_some (ce_c fun _ => .int _)))) (cs_seq (cs_a (ce_sl ce_var (co_some (ce_c fun _ => .int _)) co_none)) (cs_seq (cs_if (ct_test (ce_B od_eq ce_var (ce_c fun _ => .str _))) (cs_seq (cs_ret (ce_tup (ca_cons (ce_tup (ca_cons (ce_c fun _ => .str _) ca_nil)) (ca_cons (ce_tup (ca_cons (ce_c fun _ => .str _) ca_nil)) ca_nil)))) cs_nx) cs_nx) (cs_seq (cs_if (ct_test (ce_B od_in ce_var (ce_c k_CONVERSIONS))) (cs_seq (cs_ret (ce_tup (ca_cons (ce_tup (ca_cons (ce_c fun _ => .str _) ca_nil)) (ca_cons (ce_tup (ca_cons (ce_c fun _ => .str _) ca_nil)) ca_nil)))) cs_nx) cs_nx) (cs_seq (cs_if (ct_test (ce_B od_in ce_var (ce_c k_ARITHMETIC))) (cs_seq (cs_ret (ce_tup (ca_cons (ce_tup (ca_cons ce_var (ca_cons ce_var ca_nil))) (ca_cons (ce_tup (ca_cons ce_var ca_nil)) ca_nil)))) cs_nx) cs_nx) (cs_seq (cs_if (ct_test (ce_B od_in ce_var (ce_c k_COMPARISONS))) (cs_seq (cs_ret (ce_tup (ca_cons (ce_tup (ca_cons ce_var (ca_cons ce_var ca_nil))) (ca_cons (ce_tup (ca_cons (ce_c fun _ => .str _) ca_nil)) ca_nil)))) cs_nx) cs_nx) (cs_seq (cs_if (ct_test (ce_B od_eq ce_var (ce_c fun _ => .str _))) (cs_seq (cs_ret (ce_tup (ca_cons (ce_tup (ca_cons ce_var ca_nil)) (ca_cons (ce_tup (ca_cons (ce_c fun _ => .str _) ca_nil)) ca_nil)))) cs_nx) cs_nx) (cs_seq (cs_ret (ce_tup (ca_cons (ce_tup (ca_cons ce_var ca_nil)) (ca_cons (ce_tup (ca_cons ce_var ca_nil)) ca_nil)))) cs_nx)))))))))
theorem sc_check_operands : FnScope ["params", "operands", "kind", "value"] ["params", "operands"] (defScope s_check_operands) := ⟨rfl, rfl, rfl, by decide +kernel, rfl, by decide +kernel, by decide +kernel⟩
theorem ok_check_operands {f : Addr} {fd : FuncData} {d_in_range : FuncData} (F : Fun K "check_operands" "check_operands" s_check_operands f fd) (T : Tx w K mg ad) (O_in_range : DfX P w K mg base 3 "in_range" (ad 4) d_in_range ["kind", "number"] (SpD ⟨K, w, ad⟩ m_in_range)) : FnOk P w K mg base (L2.CX P w) 4 f fd ["params", "operands"] (SpD ⟨K, w, ad⟩ m_check_operands) := by
  refine ok_defV (l := 3) (n := 2) (k := 2) (b := b_check_operands) F sc_check_operands rfl rfl (fun cdv A outer s H E hr => ⟨_, (pss_cons (ps_if (pt_cmpR (r := rNeX K) (or_ne hr.units) (pe_callB (r := rLenX K) cr_len (by rfl) T.b_len (by decide +kernel) (pa_cons (pv 1) pa_nil)) (pe_callB (r := rLenX K) cr_len (by rfl) T.b_len (by decide +kernel) (pa_cons (pv 0) pa_nil)) (nomark _)) (pss_cons (ps_raise rfl (takes_of rfl rfl rfl rfl) (pmk_ex0 T.e_BadValues rfl)) pss_nil) pss_nil) (pss_cons (ps_for (passes_of rfl) rfl (pi_zipA (by rfl) T.b_zip (pa_cons (pv 0) (pa_cons (pv 1) pa_nil))) (pg_tup rfl (pgs_cons (pg_name (i := 2) sc_check_operands.nd rfl (Or.inl rfl)) (pgs_cons (pg_name (i := 3) sc_check_operands.nd rfl (Or.inl rfl)) pgs_nil))) (pss_cons (ps_if (pt_not (pt_val (clS O_in_range (hr.mono (by decide)) rfl (fun σ => passAt (takes_of rfl rfl rfl rfl) σ) (pa_cons (pv 2) (pa_cons (pv 3) pa_nil))))) (pss_cons (ps_raise rfl (takes_of rfl rfl rfl rfl) (pmk_ex0 T.e_BadValues rfl)) pss_nil) pss_nil) pss_nil)) pss_nil)), fun xo => ?_⟩)
  exact (cs_seq (cs_if (ct_test (ce_B od_ne (ce_F cd_len (ca_cons ce_var ca_nil)) (ce_F cd_len (ca_cons ce_var ca_nil)))) (cs_seq cs_raise0 cs_nx) cs_nx) (cs_seq (cs_for (ci_zipT (ca_cons ce_var (ca_cons ce_var ca_nil))) (cg_tup (cgs_cons cg_name (cgs_cons cg_name cgs_nil))) (cs_seq (cs_if (ct_not (ct_B (ce_call (ca_cons ce_var (ca_cons ce_var ca_nil))))) (cs_seq cs_raise0 cs_nx) cs_nx) cs_nx)) cs_nx))
theorem sc_calculate : FnScope ["name", "operands", "kind", "word", "convert", "combine", "compare", "count"] ["name", "operands"] (defScope s_calculate) := ⟨rfl, rfl, rfl, by decide +kernel, rfl, by decide +kernel, by decide +kernel⟩
theorem ok_calculate {f : Addr} {fd : FuncData} {d_add : FuncData} {d_sub : FuncData} {d_mul : FuncData} {d_div_s : FuncData} {d_div_u : FuncData} {d_rem_s : FuncData} {d_rem_u : FuncData} {d_bit_and : FuncData} {d_bit_or : FuncData} {d_bit_xor : FuncData} {d_shl : FuncData} {d_shr_s : FuncData} {d_shr_u : FuncData} {d_rotl : FuncData} {d_rotr : FuncData} {d_eq : FuncData} {d_ne : FuncData} {d_lt_s : FuncData} {d_gt_s : FuncData} {d_le_s : FuncData} {d_ge_s : FuncData} {d_lt_u : FuncData} {d_gt_u : FuncData} {d_le_u : FuncData} {d_ge_u : FuncData} {d_eqz : FuncData} {d_clz : FuncData} {d_ctz : FuncData} {d_popcnt : FuncData} {d_extend8_s : FuncData} {d_extend16_s : FuncData} {d_extend32_s : FuncData} {d_extend_u : FuncData} {d_signature_of : FuncData} {d_check_operands : FuncData} (F : Fun K "calculate" "calculate" s_calculate f fd) (T : Tx w K mg ad) (O_add : DfX P w K mg base 3 "add" (ad 5) d_add ["kind", "a", "b"] (SpD ⟨K, w, ad⟩ m_add)) (O_sub : DfX P w K mg base 3 "sub" (ad 6) d_sub ["kind", "a", "b"] (SpD ⟨K, w, ad⟩ m_sub)) (O_mul : DfX P w K mg base 3 "mul" (ad 7) d_mul ["kind", "a", "b"] (SpD ⟨K, w, ad⟩ m_mul)) (O_div_s : DfX P w K mg base 4 "div_s" (ad 9) d_div_s ["kind", "a", "b"] (SpD ⟨K, w, ad⟩ m_div_s)) (O_div_u : DfX P w K mg base 3 "div_u" (ad 10) d_div_u ["kind", "a", "b"] (SpD ⟨K, w, ad⟩ m_div_u)) (O_rem_s : DfX P w K mg base 3 "rem_s" (ad 11) d_rem_s ["kind", "a", "b"] (SpD ⟨K, w, ad⟩ m_rem_s)) (O_rem_u : DfX P w K mg base 3 "rem_u" (ad 12) d_rem_u ["kind", "a", "b"] (SpD ⟨K, w, ad⟩ m_rem_u)) (O_bit_and : DfX P w K mg base 1 "bit_and" (ad 13) d_bit_and ["kind", "a", "b"] (SpD ⟨K, w, ad⟩ m_bit_and)) (O_bit_or : DfX P w K mg base 1 "bit_or" (ad 14) d_bit_or ["kind", "a", "b"] (SpD ⟨K, w, ad⟩ m_bit_or)) (O_bit_xor : DfX P w K mg base 1 "bit_xor" (ad 15) d_bit_xor ["kind", "a", "b"] (SpD ⟨K, w, ad⟩ m_bit_xor)) (O_shl : DfX P w K mg base 3 "shl" (ad 17) d_shl ["kind", "a", "b"] (SpD ⟨K, w, ad⟩ m_shl)) (O_shr_s : DfX P w K mg base 3 "shr_s" (ad 18) d_shr_s ["kind", "a", "b"] (SpD ⟨K, w, ad⟩ m_shr_s)) (O_shr_u : DfX P w K mg base 3 "shr_u" (ad 19) d_shr_u ["kind", "a", "b"] (SpD ⟨K, w, ad⟩ m_shr_u)) (O_rotl : DfX P w K mg base 3 "rotl" (ad 20) d_rotl ["kind", "a", "b"] (SpD ⟨K, w, ad⟩ m_rotl)) (O_rotr : DfX P w K mg base 3 "rotr" (ad 21) d_rotr ["kind", "a", "b"] (SpD ⟨K, w, ad⟩ m_rotr)) (O_eq : DfX P w K mg base 1 "eq" (ad 22) d_eq ["kind", "a", "b"] (SpD ⟨K, w, ad⟩ m_eq)) (O_ne : DfX P w K mg base 1 "ne" (ad 23) d_ne ["kind", "a", "b"] (SpD ⟨K, w, ad⟩ m_ne)) (O_lt_s : DfX P w K mg base 1 "lt_s" (ad 24) d_lt_s ["kind", "a", "b"] (SpD ⟨K, w, ad⟩ m_lt_s)) (O_gt_s : DfX P w K mg base 1 "gt_s" (ad 25) d_gt_s ["kind", "a", "b"] (SpD ⟨K, w, ad⟩ m_gt_s)) (O_le_s : DfX P w K mg base 1 "le_s" (ad 26) d_le_s ["kind", "a", "b"] (SpD ⟨K, w, ad⟩ m_le_s)) (O_ge_s : DfX P w K mg base 1 "ge_s" (ad 27) d_ge_s ["kind", "a", "b"] (SpD ⟨K, w, ad⟩ m_ge_s)) (O_lt_u : DfX P w K mg base 3 "lt_u" (ad 28) d_lt_u ["kind", "a", "b"] (SpD ⟨K, w, ad⟩ m_lt_u)) (O_gt_u : DfX P w K mg base 3 "gt_u" (ad 29) d_gt_u ["kind", "a", "b"] (SpD ⟨K, w, ad⟩ m_gt_u)) (O_le_u : DfX P w K mg base 3 "le_u" (ad 30) d_le_u ["kind", "a", "b"] (SpD ⟨K, w, ad⟩ m_le_u)) (O_ge_u : DfX P w K mg base 3 "ge_u" (ad 31) d_ge_u ["kind", "a", "b"] (SpD ⟨K, w, ad⟩ m_ge_u)) (O_eqz : DfX P w K mg base 1 "eqz" (ad 32) d_eqz ["kind", "a"] (SpD ⟨K, w, ad⟩ m_eqz)) (O_clz : DfX P w K mg base 3 "clz" (ad 33) d_clz ["kind", "a"] (SpD ⟨K, w, ad⟩ m_clz)) (O_ctz : DfX P w K mg base 2 "ctz" (ad 34) d_ctz ["kind", "a"] (SpD ⟨K, w, ad⟩ m_ctz)) (O_popcnt : DfX P w K mg base 2 "popcnt" (ad 35) d_popcnt ["kind", "a"] (SpD ⟨K, w, ad⟩ m_popcnt)) (O_extend8_s : DfX P w K mg base 2 "extend8_s" (ad 36) d_extend8_s ["kind", "a"] (SpD ⟨K, w, ad⟩ m_extend8_s)) (O_extend16_s : DfX P w K mg base 2 "extend16_s" (ad 37) d_extend16_s ["kind", "a"] (SpD ⟨K, w, ad⟩ m_extend16_s)) (O_extend32_s : DfX P w K mg base 2 "extend32_s" (ad 38) d_extend32_s ["kind", "a"] (SpD ⟨K, w, ad⟩ m_extend32_s)) (O_extend_u : DfX P w K mg base 3 "extend_u" (ad 39) d_extend_u ["kind", "a"] (SpD ⟨K, w, ad⟩ m_extend_u)) (O_signature_of : DfX P w K mg base 5 "signature_of" (ad 40) d_signature_of ["name"] (SpD ⟨K, w, ad⟩ m_signature_of)) (O_check_operands : DfX P w K mg base 4 "check_operands" (ad 41) d_check_operands ["params", "operands"] (SpD ⟨K, w, ad⟩ m_check_operands)) : FnOk P w K mg base (L2.CX P w) 6 f fd ["name", "operands"] (SpD ⟨K, w, ad⟩ m_calculate) := by
  have A_ARITHMETIC : ∀ f sp, STb ⟨K, w, ad⟩ tb_ARITHMETIC f sp → HeldX P w K mg base 4 f sp := by
    rintro f sp ⟨n, m, rfl, h, rfl⟩
    unfold tb_ARITHMETIC at h
    split at h
    · cases h; exact O_add.heldM (by decide)
    · cases h; exact O_sub.heldM (by decide)
    · cases h; exact O_mul.heldM (by decide)
    · cases h; exact O_div_s.heldM (by decide)
    · cases h; exact O_div_u.heldM (by decide)
    · cases h; exact O_rem_s.heldM (by decide)
    · cases h; exact O_rem_u.heldM (by decide)
    · cases h; exact O_bit_and.heldM (by decide)
    · cases h; exact O_bit_or.heldM (by decide)
    · cases h; exact O_bit_xor.heldM (by decide)
    · cases h; exact O_shl.heldM (by decide)
    · cases h; exact O_shr_s.heldM (by decide)
    · cases h; exact O_shr_u.heldM (by decide)
    · cases h; exact O_rotl.heldM (by decide)
    · cases h; exact O_rotr.heldM (by decide)
    · cases h
  have A_COMPARISONS : ∀ f sp, STb ⟨K, w, ad⟩ tb_COMPARISONS f sp → HeldX P w K mg base 3 f sp := by
    rintro f sp ⟨n, m, rfl, h, rfl⟩
    unfold tb_COMPARISONS at h
    split at h
    · cases h; exact O_eq.heldM (by decide)
    · cases h; exact O_ne.heldM (by decide)
    · cases h; exact O_lt_s.heldM (by decide)
    · cases h; exact O_lt_u.heldM (by decide)
    · cases h; exact O_gt_s.heldM (by decide)
    · cases h; exact O_gt_u.heldM (by decide)
    · cases h; exact O_le_s.heldM (by decide)
    · cases h; exact O_le_u.heldM (by decide)
    · cases h; exact O_ge_s.heldM (by decide)
    · cases h; exact O_ge_u.heldM (by decide)
    · cases h
  have A_CONVERSIONS : ∀ f sp, STb ⟨K, w, ad⟩ tb_CONVERSIONS f sp → HeldX P w K mg base 3 f sp := by
    rintro f sp ⟨n, m, rfl, h, rfl⟩
    unfold tb_CONVERSIONS at h
    split at h
    · cases h; exact O_extend32_s.heldM (by decide)
    · cases h; exact O_extend_u.heldM (by decide)
    · cases h
  have A_COUNTS : ∀ f sp, STb ⟨K, w, ad⟩ tb_COUNTS f sp → HeldX P w K mg base 3 f sp := by
    rintro f sp ⟨n, m, rfl, h, rfl⟩
    unfold tb_COUNTS at h
    split at h
    · cases h; exact O_clz.heldM (by decide)
    · cases h; exact O_ctz.heldM (by decide)
    · cases h; exact O_popcnt.heldM (by decide)
    · cases h; exact O_extend8_s.heldM (by decide)
    · cases h; exact O_extend16_s.heldM (by decide)
    · cases h
  obtain ⟨v_ARITHMETIC, u_ARITHMETIC, g_ARITHMETIC, r_ARITHMETIC, k_ARITHMETIC⟩ := T.g_ARITHMETIC
  obtain ⟨v_COMPARISONS, u_COMPARISONS, g_COMPARISONS, r_COMPARISONS, k_COMPARISONS⟩ := T.g_COMPARISONS
  obtain ⟨v_CONVERSIONS, u_CONVERSIONS, g_CONVERSIONS, r_CONVERSIONS, k_CONVERSIONS⟩ := T.g_CONVERSIONS
  obtain ⟨v_COUNTS, u_COUNTS, g_COUNTS, r_COUNTS, k_COUNTS⟩ := T.g_COUNTS
  refine ok_defV (l := 5) (n := 2) (k := 6) (b := b_calculate) F sc_calculate rfl rfl (fun cdv A outer s H E hr => ⟨_, (pss_cons (ps_expr (clS O_check_operands (hr.mono (by decide)) rfl (fun σ => passAt (takes_of rfl rfl rfl rfl) σ) (pa_cons (pe_ix (r := rIxX K w) ix_all (clS O_signature_of (hr.mono (by decide)) rfl (fun σ => passAt (takes_of rfl rfl rfl rfl) σ) (pa_cons (pv 0) pa_nil)) pe_int (fun _ _ => rfl)) (pa_cons (pv 1) pa_nil)))) (pss_cons (ps_set (i := 2) sc_calculate.nd rfl (Or.inl rfl) (pe_slice (r := rSlX2 K) sl_all (pv 0) po_none (po_some pe_int))) (pss_cons (ps_set (i := 3) sc_calculate.nd rfl (Or.inl rfl) (pe_slice (r := rSlX2 K) sl_all (pv 0) (po_some pe_int) po_none)) (pss_cons (ps_if (pt_cmpR (r := rInX K w false) or_in (pv 0) (pe_glob rfl g_CONVERSIONS r_CONVERSIONS) (by rfl)) (pss_cons (ps_set (i := 4) sc_calculate.nd rfl (Or.inl rfl) (pe_ix (r := rIxX K w) ix_all (pe_glob rfl g_CONVERSIONS r_CONVERSIONS) (pv 0) (fun _ _ => rfl))) (pss_cons (ps_ret (pe_callRS (i := 4) (k := 3) (S := STb ⟨K, w, ad⟩ tb_CONVERSIONS) A_CONVERSIONS (hr.mono (by decide)) rfl (Or.inl rfl) (fun σ => passAt (takes_of rfl rfl rfl rfl) σ) (pa_cons (pv 2) (pa_cons (pe_ix (r := rIxX K w) ix_all (pv 1) pe_int (fun _ _ => rfl)) pa_nil)))) pss_nil)) pss_nil) (pss_cons (ps_if (pt_cmpR (r := rInX K w false) or_in (pv 3) (pe_glob rfl g_ARITHMETIC r_ARITHMETIC) (by rfl)) (pss_cons (ps_set (i := 5) sc_calculate.nd rfl (Or.inl rfl) (pe_ix (r := rIxX K w) ix_all (pe_glob rfl g_ARITHMETIC r_ARITHMETIC) (pv 3) (fun _ _ => rfl))) (pss_cons (ps_ret (pe_callRS (i := 5) (k := 4) (S := STb ⟨K, w, ad⟩ tb_ARITHMETIC) A_ARITHMETIC (hr.mono (by decide)) rfl (Or.inl rfl) (fun σ => passAt (takes_of rfl rfl rfl rfl) σ) (pa_cons (pv 2) (pa_cons (pe_ix (r := rIxX K w) ix_all (pv 1) pe_int (fun _ _ => rfl)) (pa_cons (pe_ix (r := rIxX K w) ix_all (pv 1) pe_int (fun _ _ => rfl)) pa_nil))))) pss_nil)) pss_nil) (pss_cons (ps_if (pt_cmpR (r := rInX K w false) or_in (pv 3) (pe_glob rfl g_COMPARISONS r_COMPARISONS) (by rfl)) (pss_cons (ps_set (i := 6) sc_calculate.nd rfl (Or.inl rfl) (pe_ix (r := rIxX K w) ix_all (pe_glob rfl g_COMPARISONS r_COMPARISONS) (pv 3) (fun _ _ => rfl))) (pss_cons (ps_ret (pe_callRS (i := 6) (k := 3) (S := STb ⟨K, w, ad⟩ tb_COMPARISONS) A_COMPARISONS (hr.mono (by decide)) rfl (Or.inl rfl) (fun σ => passAt (takes_of rfl rfl rfl rfl) σ) (pa_cons (pv 2) (pa_cons (pe_ix (r := rIxX K w) ix_all (pv 1) pe_int (fun _ _ => rfl)) (pa_cons (pe_ix (r := rIxX K w) ix_all (pv 1) pe_int (fun _ _ => rfl)) pa_nil))))) pss_nil)) pss_nil) (pss_cons (ps_if (pt_cmpR (r := rEqX K) (or_eq hr.units) (pv 3) pe_str (nomark _)) (pss_cons (ps_ret (clS O_eqz (hr.mono (by decide)) rfl (fun σ => passAt (takes_of rfl rfl rfl rfl) σ) (pa_cons (pv 2) (pa_cons (pe_ix (r := rIxX K w) ix_all (pv 1) pe_int (fun _ _ => rfl)) pa_nil)))) pss_nil) pss_nil) (pss_cons (ps_if (pt_cmpR (r := rEqX K) (or_eq hr.units) (pv 3) pe_str (nomark _)) (pss_cons (ps_ret (clS O_extend32_s (hr.mono (by decide)) rfl (fun σ => passAt (takes_of rfl rfl rfl rfl) σ) (pa_cons (pv 2) (pa_cons (pe_ix (r := rIxX K w) ix_all (pv 1) pe_int (fun _ _ => rfl)) pa_nil)))) pss_nil) pss_nil) (pss_cons (ps_set (i := 7) sc_calculate.nd rfl (Or.inl rfl) (pe_ix (r := rIxX K w) ix_all (pe_glob rfl g_COUNTS r_COUNTS) (pv 3) (fun _ _ => rfl))) (pss_cons (ps_ret (pe_callRS (i := 7) (k := 3) (S := STb ⟨K, w, ad⟩ tb_COUNTS) A_COUNTS (hr.mono (by decide)) rfl (Or.inl rfl) (fun σ => passAt (takes_of rfl rfl rfl rfl) σ) (pa_cons (pv 2) (pa_cons (pe_ix (r := rIxX K w) ix_all (pv 1) pe_int (fun _ _ => rfl)) pa_nil)))) pss_nil)))))))))), fun xo => ?_⟩)
  exact (cs_seq (cs_x (ce_call (ca_cons (ce_B od_ix (ce_call (ca_cons ce_var ca_nil)) (ce_c fun _ => .int _)) (ca_cons ce_var ca_nil)))) (cs_seq (cs_a (ce_sl ce_var co_none (co_some (ce_c fun _ => .int _)))) (cs_seq (cs_a (ce_sl ce_var (co_some (ce_c fun _ => .int _)) co_none)) (cs_seq (cs_if (ct_test (ce_B od_in ce_var (ce_c k_CONVERSIONS))) (cs_seq (cs_a (ce_B od_ix (ce_c k_CONVERSIONS) ce_var)) (cs_seq (cs_ret (ce_P (ca_cons ce_var (ca_cons (ce_B od_ix ce_var (ce_c fun _ => .int _)) ca_nil)))) cs_nx)) cs_nx) (cs_seq (cs_if (ct_test (ce_B od_in ce_var (ce_c k_ARITHMETIC))) (cs_seq (cs_a (ce_B od_ix (ce_c k_ARITHMETIC) ce_var)) (cs_seq (cs_ret (ce_P (ca_cons ce_var (ca_cons (ce_B od_ix ce_var (ce_c fun _ => .int _)) (ca_cons (ce_B od_ix ce_var (ce_c fun _ => .int _)) ca_nil))))) cs_nx)) cs_nx) (cs_seq (cs_if (ct_test (ce_B od_in ce_var (ce_c k_COMPARISONS))) (cs_seq (cs_a (ce_B od_ix (ce_c k_COMPARISONS) ce_var)) (cs_seq (cs_ret (ce_P (ca_cons ce_var (ca_cons (ce_B od_ix ce_var (ce_c fun _ => .int _)) (ca_cons (ce_B od_ix ce_var (ce_c fun _ => .int _)) ca_nil))))) cs_nx)) cs_nx) (cs_seq (cs_if (ct_test (ce_B od_eq ce_var (ce_c fun _ => .str _))) (cs_seq (cs_ret (ce_call (ca_cons ce_var (ca_cons (ce_B od_ix ce_var (ce_c fun _ => .int _)) ca_nil)))) cs_nx) cs_nx) (cs_seq (cs_if (ct_test (ce_B od_eq ce_var (ce_c fun _ => .str _))) (cs_seq (cs_ret (ce_call (ca_cons ce_var (ca_cons (ce_B od_ix ce_var (ce_c fun _ => .int _)) ca_nil)))) cs_nx) cs_nx) (cs_seq (cs_a (ce_B od_ix (ce_c k_COUNTS) ce_var)) (cs_seq (cs_ret (ce_P (ca_cons ce_var (ca_cons (ce_B od_ix ce_var (ce_c fun _ => .int _)) ca_nil)))) cs_nx))))))))))
theorem sc_l_is_integer : FnScope ["_law_actual"] ["_law_actual"] (defScope s_l_is_integer) := ⟨rfl, rfl, rfl, by decide +kernel, rfl, by decide +kernel, by decide +kernel⟩
theorem ok_l_is_integer {f : Addr} {fd : FuncData} (F : Fun K "_law_is_integer" "_law_is_integer" s_l_is_integer f fd) (T : Tx w K mg ad) : FnOk P w K mg base (L2.CX P w) 1 f fd ["_law_actual"] (SpD ⟨K, w, ad⟩ m_l_is_integer) := by
  refine ok_defV (l := 0) (n := 1) (k := 0) (b := b_l_is_integer) F sc_l_is_integer rfl rfl (fun cdv A outer s H E hr => ⟨_, (pss_cons (ps_ret (pe_and (pe_callB (r := rIsi K) call_isi (by rfl) T.b_isinstance (by decide +kernel) (pa_cons (pv 0) (pa_cons (pe_bltn (v := .ty "int") (by rfl) T.b_int (by decide +kernel) rfl) pa_nil))) (pe_one (pe_not (pe_callB (r := rIsi K) call_isi (by rfl) T.b_isinstance (by decide +kernel) (pa_cons (pv 0) (pa_cons (pe_bltn (v := .ty "bool") (by rfl) T.b_bool (by decide +kernel) rfl) pa_nil))))))) pss_nil), fun xo => ?_⟩)
  exact (cs_seq (cs_ret (ce_and (ce_isi .int ce_var) (ce_not (ce_isi .bool ce_var)))) cs_nx)
theorem sc_l_cell : FnScope ["_law_script", "_law_k"] ["_law_script", "_law_k"] (defScope s_l_cell) := ⟨rfl, rfl, rfl, by decide +kernel, rfl, by decide +kernel, by decide +kernel⟩
theorem ok_l_cell {f : Addr} {fd : FuncData} (F : Fun K "_law_cell" "_law_cell" s_l_cell f fd) (T : Tx w K mg ad) : FnOk P w K mg base (L2.CX P w) 1 f fd ["_law_script", "_law_k"] (SpD ⟨K, w, ad⟩ m_l_cell) := by
  refine ok_defV (l := 0) (n := 2) (k := 0) (b := b_l_cell) F sc_l_cell rfl rfl (fun cdv A outer s H E hr => ⟨_, (pss_cons (ps_if (pt_cmpR or_lt (pv 1) (pe_callB (r := rLenX K) cr_len (by rfl) T.b_len (by decide +kernel) (pa_cons (pv 0) pa_nil)) (nomark _)) (pss_cons (ps_ret (pe_callTy (r := rInt1) call_int1 (by rfl) T.b_int (by decide +kernel) (pa_cons (pe_ix (r := rIxX K w) ix_all (pv 0) (pv 1) (fun _ _ => rfl)) pa_nil))) pss_nil) pss_nil) (pss_cons (ps_ret pe_int) pss_nil)), fun xo => ?_⟩)
  exact (cs_seq (cs_if (ct_test (ce_B od_lt ce_var (ce_F cd_len (ca_cons ce_var ca_nil)))) (cs_seq (cs_ret (ce_F cd_int (ca_cons (ce_B od_ix ce_var ce_var) ca_nil))) cs_nx) cs_nx) (cs_seq (cs_ret (ce_c fun _ => .int _)) cs_nx))
theorem sc_l_signed : FnScope ["_law_number", "_law_bits", "_law_low_here"] ["_law_number", "_law_bits"] (defScope s_l_signed) := ⟨rfl, rfl, rfl, by decide +kernel, rfl, by decide +kernel, by decide +kernel⟩
theorem ok_l_signed {f : Addr} {fd : FuncData} (F : Fun K "_law_signed" "_law_signed" s_l_signed f fd) (T : Tx w K mg ad) : FnOk P w K mg base (L2.CX P w) 1 f fd ["_law_number", "_law_bits"] (SpD ⟨K, w, ad⟩ m_l_signed) := by
  refine ok_defV (l := 0) (n := 2) (k := 1) (b := b_l_signed) F sc_l_signed rfl rfl (fun cdv A outer s H E hr => ⟨_, (pss_cons (ps_set (i := 2) sc_l_signed.nd rfl (Or.inl rfl) (pe_op op_mod (pe_callTy (r := rInt1) call_int1 (by rfl) T.b_int (by decide +kernel) (pa_cons (pv 0) pa_nil)) (pe_op or_shl pe_int (pv 1)))) (pss_cons (ps_if (pt_cmpR or_ge (pv 2) (pe_op or_shl pe_int (pe_op op_sub (pv 1) pe_int)) (nomark _)) (pss_cons (ps_set (i := 2) sc_l_signed.nd rfl (Or.inl rfl) (pe_op op_sub (pv 2) (pe_op or_shl pe_int (pv 1)))) pss_nil) pss_nil) (pss_cons (ps_ret (pv 2)) pss_nil))), fun xo => ?_⟩)
  exact (cs_seq (cs_a (ce_B od_mod (ce_F cd_int (ca_cons ce_var ca_nil)) (ce_B od_shl (ce_c fun _ => .int _) ce_var))) (cs_seq (cs_if (ct_test (ce_B od_ge ce_var (ce_B od_shl (ce_c fun _ => .int _) (ce_B od_sub ce_var (ce_c fun _ => .int _))))) (cs_seq (cs_a (ce_B od_sub ce_var (ce_B od_shl (ce_c fun _ => .int _) ce_var))) cs_nx) cs_nx) (cs_seq (cs_ret ce_var) cs_nx)))
theorem sc_l_value : FnScope ["_law_cell_here", "_law_bits", "_law_edges", "_law_number"] ["_law_cell_here", "_law_bits"] (defScope s_l_value) := ⟨rfl, rfl, rfl, by decide +kernel, rfl, by decide +kernel, by decide +kernel⟩
theorem ok_l_value {f : Addr} {fd : FuncData} {d_l_signed : FuncData} (F : Fun K "_law_value" "_law_value" s_l_value f fd) (T : Tx w K mg ad) (O_l_signed : DfX P w K mg base 1 "_law_signed" (ad 45) d_l_signed ["_law_number", "_law_bits"] (SpD ⟨K, w, ad⟩ m_l_signed)) : FnOk P w K mg base (L2.CX P w) 2 f fd ["_law_cell_here", "_law_bits"] (SpD ⟨K, w, ad⟩ m_l_value) := by
  refine ok_defV (l := 1) (n := 2) (k := 2) (b := b_l_value) F sc_l_value rfl rfl (fun cdv A outer s H E hr => ⟨_, (pss_cons (ps_set (i := 2) sc_l_value.nd rfl (Or.inl rfl) (pe_lst (pa_cons pe_int (pa_cons pe_int (pa_cons (pe_un un_neg pe_int) (pa_cons pe_int (pa_cons (pe_un un_neg pe_int) (pa_cons pe_int (pa_cons pe_int (pa_cons pe_int (pa_cons pe_int (pa_cons pe_int (pa_cons pe_int (pa_cons (pe_un un_neg pe_int) (pa_cons pe_int (pa_cons pe_int (pa_cons (pe_un un_neg pe_int) (pa_cons pe_int pa_nil)))))))))))))))))) (pss_cons (ps_set (i := 3) sc_l_value.nd rfl (Or.inl rfl) (pe_op op_fdivW (pv 0) pe_int)) (pss_cons (ps_if (pt_cmpR (r := rEqX K) (or_eq hr.units) (pe_op op_mod (pe_callTy (r := rInt1) call_int1 (by rfl) T.b_int (by decide +kernel) (pa_cons (pv 0) pa_nil)) pe_int) pe_int (nomark _)) (pss_cons (ps_set (i := 3) sc_l_value.nd rfl (Or.inl rfl) (pe_ix (r := rIxX K w) ix_all (pv 2) (pe_op op_mod (pe_callTy (r := rInt1) call_int1 (by rfl) T.b_int (by decide +kernel) (pa_cons (pv 3) pa_nil)) pe_int) (fun _ _ => rfl))) pss_nil) pss_nil) (pss_cons (ps_if (pt_cmpR (r := rEqX K) (or_eq hr.units) (pe_op op_mod (pe_callTy (r := rInt1) call_int1 (by rfl) T.b_int (by decide +kernel) (pa_cons (pv 0) pa_nil)) pe_int) pe_int (nomark _)) (pss_cons (ps_set (i := 3) sc_l_value.nd rfl (Or.inl rfl) (pe_op (r := Dm.rAdd K) or_add (pe_op or_mul (pe_op or_mul (pv 3) pe_int) pe_int) pe_int)) pss_nil) pss_nil) (pss_cons (ps_if (pt_cmpR (r := rEqX K) (or_eq hr.units) (pe_op op_mod (pe_callTy (r := rInt1) call_int1 (by rfl) T.b_int (by decide +kernel) (pa_cons (pv 0) pa_nil)) pe_int) pe_int (nomark _)) (pss_cons (ps_set (i := 3) sc_l_value.nd rfl (Or.inl rfl) (pe_op (r := Dm.rAdd K) or_add (pe_op op_sub (pe_op or_shl pe_int (pe_op op_sub (pv 1) pe_int)) pe_int) (pe_op op_mod (pe_callTy (r := rInt1) call_int1 (by rfl) T.b_int (by decide +kernel) (pa_cons (pv 3) pa_nil)) pe_int))) pss_nil) pss_nil) (pss_cons (ps_ret (clS O_l_signed (hr.mono (by decide)) rfl (fun σ => passAt (takes_of rfl rfl rfl rfl) σ) (pa_cons (pv 3) (pa_cons (pv 1) pa_nil)))) pss_nil)))))), fun xo => ?_⟩)
  exact (cs_seq (cs_a (ce_L (cn_lst (ca_cons (ce_c fun _ => .int _) (ca_cons (ce_c fun _ => .int _) (ca_cons (ce_neg (ce_c fun _ => .int _)) (ca_cons (ce_c fun _ => .int _) (ca_cons (ce_neg (ce_c fun _ => .int _)) (ca_cons (ce_c fun _ => .int _) (ca_cons (ce_c fun _ => .int _) (ca_cons (ce_c fun _ => .int _) (ca_cons (ce_c fun _ => .int _) (ca_cons (ce_c fun _ => .int _) (ca_cons (ce_c fun _ => .int _) (ca_cons (ce_neg (ce_c fun _ => .int _)) (ca_cons (ce_c fun _ => .int _) (ca_cons (ce_c fun _ => .int _) (ca_cons (ce_neg (ce_c fun _ => .int _)) (ca_cons (ce_c fun _ => .int _) ca_nil))))))))))))))))))) (cs_seq (cs_a (ce_B od_div ce_var (ce_c fun _ => .int _))) (cs_seq (cs_if (ct_test (ce_B od_eq (ce_B od_mod (ce_F cd_int (ca_cons ce_var ca_nil)) (ce_c fun _ => .int _)) (ce_c fun _ => .int _))) (cs_seq (cs_a (ce_B od_ix ce_var (ce_B od_mod (ce_F cd_int (ca_cons ce_var ca_nil)) (ce_c fun _ => .int _)))) cs_nx) cs_nx) (cs_seq (cs_if (ct_test (ce_B od_eq (ce_B od_mod (ce_F cd_int (ca_cons ce_var ca_nil)) (ce_c fun _ => .int _)) (ce_c fun _ => .int _))) (cs_seq (cs_a (ce_B od_add (ce_B od_mul (ce_B od_mul ce_var (ce_c fun _ => .int _)) (ce_c fun _ => .int _)) (ce_c fun _ => .int _))) cs_nx) cs_nx) (cs_seq (cs_if (ct_test (ce_B od_eq (ce_B od_mod (ce_F cd_int (ca_cons ce_var ca_nil)) (ce_c fun _ => .int _)) (ce_c fun _ => .int _))) (cs_seq (cs_a (ce_B od_add (ce_B od_sub (ce_B od_shl (ce_c fun _ => .int _) (ce_B od_sub ce_var (ce_c fun _ => .int _))) (ce_c fun _ => .int _)) (ce_B od_mod (ce_F cd_int (ca_cons ce_var ca_nil)) (ce_c fun _ => .int _)))) cs_nx) cs_nx) (cs_seq (cs_ret (ce_call (ca_cons ce_var (ca_cons ce_var ca_nil)))) cs_nx))))))
theorem sc_l_high : FnScope ["_law_a"] ["_law_a"] (defScope s_l_high) := ⟨rfl, rfl, rfl, by decide +kernel, rfl, by decide +kernel, by decide +kernel⟩
theorem ok_l_high {f : Addr} {fd : FuncData} {d_calculate : FuncData} (F : Fun K "_law_high" "_law_high" s_l_high f fd) (T : Tx w K mg ad) (O_calculate : DfX P w K mg base 6 "calculate" (ad 42) d_calculate ["name", "operands"] (SpD ⟨K, w, ad⟩ m_calculate)) : FnOk P w K mg base (L2.CX P w) 7 f fd ["_law_a"] (SpD ⟨K, w, ad⟩ m_l_high) := by
  refine ok_defV (l := 6) (n := 1) (k := 0) (b := b_l_high) F sc_l_high rfl rfl (fun cdv A outer s H E hr => ⟨_, (pss_cons (ps_ret (clS O_calculate (hr.mono (by decide)) rfl (fun σ => passAt (takes_of rfl rfl rfl rfl) σ) (pa_cons pe_str (pa_cons (pe_tup (pa_cons (clS O_calculate (hr.mono (by decide)) rfl (fun σ => passAt (takes_of rfl rfl rfl rfl) σ) (pa_cons pe_str (pa_cons (pe_tup (pa_cons (pv 0) (pa_cons pe_int pa_nil))) pa_nil))) pa_nil)) pa_nil)))) pss_nil), fun xo => ?_⟩)
  exact (cs_seq (cs_ret (ce_call (ca_cons (ce_c fun _ => .str _) (ca_cons (ce_tup (ca_cons (ce_call (ca_cons (ce_c fun _ => .str _) (ca_cons (ce_tup (ca_cons ce_var (ca_cons (ce_c fun _ => .int _) ca_nil))) ca_nil))) ca_nil)) ca_nil)))) cs_nx)
theorem sc_l_low : FnScope ["_law_a"] ["_law_a"] (defScope s_l_low) := ⟨rfl, rfl, rfl, by decide +kernel, rfl, by decide +kernel, by decide +kernel⟩
theorem ok_l_low {f : Addr} {fd : FuncData} {d_calculate : FuncData} (F : Fun K "_law_low" "_law_low" s_l_low f fd) (T : Tx w K mg ad) (O_calculate : DfX P w K mg base 6 "calculate" (ad 42) d_calculate ["name", "operands"] (SpD ⟨K, w, ad⟩ m_calculate)) : FnOk P w K mg base (L2.CX P w) 7 f fd ["_law_a"] (SpD ⟨K, w, ad⟩ m_l_low) := by
  refine ok_defV (l := 6) (n := 1) (k := 0) (b := b_l_low) F sc_l_low rfl rfl (fun cdv A outer s H E hr => ⟨_, (pss_cons (ps_ret (clS O_calculate (hr.mono (by decide)) rfl (fun σ => passAt (takes_of rfl rfl rfl rfl) σ) (pa_cons pe_str (pa_cons (pe_tup (pa_cons (pv 0) pa_nil)) pa_nil)))) pss_nil), fun xo => ?_⟩)
  exact (cs_seq (cs_ret (ce_call (ca_cons (ce_c fun _ => .str _) (ca_cons (ce_tup (ca_cons ce_var ca_nil)) ca_nil)))) cs_nx)
theorem sc_l_join : FnScope ["_law_high_here", "_law_low_here", "_law_upper"] ["_law_high_here", "_law_low_here"] (defScope s_l_join) := ⟨rfl, rfl, rfl, by decide +kernel, rfl, by decide +kernel, by decide +kernel⟩
theorem ok_l_join {f : Addr} {fd : FuncData} {d_calculate : FuncData} (F : Fun K "_law_join" "_law_join" s_l_join f fd) (T : Tx w K mg ad) (O_calculate : DfX P w K mg base 6 "calculate" (ad 42) d_calculate ["name", "operands"] (SpD ⟨K, w, ad⟩ m_calculate)) : FnOk P w K mg base (L2.CX P w) 7 f fd ["_law_high_here", "_law_low_here"] (SpD ⟨K, w, ad⟩ m_l_join) := by
  refine ok_defV (l := 6) (n := 2) (k := 1) (b := b_l_join) F sc_l_join rfl rfl (fun cdv A outer s H E hr => ⟨_, (pss_cons (ps_set (i := 2) sc_l_join.nd rfl (Or.inl rfl) (clS O_calculate (hr.mono (by decide)) rfl (fun σ => passAt (takes_of rfl rfl rfl rfl) σ) (pa_cons pe_str (pa_cons (pe_tup (pa_cons (clS O_calculate (hr.mono (by decide)) rfl (fun σ => passAt (takes_of rfl rfl rfl rfl) σ) (pa_cons pe_str (pa_cons (pe_tup (pa_cons (pv 0) pa_nil)) pa_nil))) (pa_cons pe_int pa_nil))) pa_nil)))) (pss_cons (ps_ret (clS O_calculate (hr.mono (by decide)) rfl (fun σ => passAt (takes_of rfl rfl rfl rfl) σ) (pa_cons pe_str (pa_cons (pe_tup (pa_cons (pv 2) (pa_cons (clS O_calculate (hr.mono (by decide)) rfl (fun σ => passAt (takes_of rfl rfl rfl rfl) σ) (pa_cons pe_str (pa_cons (pe_tup (pa_cons (pv 1) pa_nil)) pa_nil))) pa_nil))) pa_nil)))) pss_nil)), fun xo => ?_⟩)
  exact (cs_seq (cs_a (ce_call (ca_cons (ce_c fun _ => .str _) (ca_cons (ce_tup (ca_cons (ce_call (ca_cons (ce_c fun _ => .str _) (ca_cons (ce_tup (ca_cons ce_var ca_nil)) ca_nil))) (ca_cons (ce_c fun _ => .int _) ca_nil))) ca_nil)))) (cs_seq (cs_ret (ce_call (ca_cons (ce_c fun _ => .str _) (ca_cons (ce_tup (ca_cons ce_var (ca_cons (ce_call (ca_cons (ce_c fun _ => .str _) (ca_cons (ce_tup (ca_cons ce_var ca_nil)) ca_nil))) ca_nil))) ca_nil)))) cs_nx))
theorem sc_l_sums : FnScope ["_law_a", "_law_b", "_law_low_here", "_law_carry", "_law_high_here", "_law_borrow"] ["_law_a", "_law_b"] (defScope s_l_sums) := ⟨rfl, rfl, rfl, by decide +kernel, rfl, by decide +kernel, by decide +kernel⟩
theorem ok_l_sums {f : Addr} {fd : FuncData} {d_calculate : FuncData} {d_l_high : FuncData} {d_l_low : FuncData} {d_l_join : FuncData} (F : Fun K "_law_sums" "_law_sums" s_l_sums f fd) (T : Tx w K mg ad) (O_calculate : DfX P w K mg base 6 "calculate" (ad 42) d_calculate ["name", "operands"] (SpD ⟨K, w, ad⟩ m_calculate)) (O_l_high : DfX P w K mg base 7 "_law_high" (ad 47) d_l_high ["_law_a"] (SpD ⟨K, w, ad⟩ m_l_high)) (O_l_low : DfX P w K mg base 7 "_law_low" (ad 48) d_l_low ["_law_a"] (SpD ⟨K, w, ad⟩ m_l_low)) (O_l_join : DfX P w K mg base 7 "_law_join" (ad 49) d_l_join ["_law_high_here", "_law_low_here"] (SpD ⟨K, w, ad⟩ m_l_join)) : FnOk P w K mg base (L2.CX P w) 8 f fd ["_law_a", "_law_b"] (SpD ⟨K, w, ad⟩ m_l_sums) := by
  refine ok_defV (l := 7) (n := 2) (k := 4) (b := b_l_sums) F sc_l_sums rfl rfl (fun cdv A outer s H E hr => ⟨_, (pss_cons (ps_set (i := 2) sc_l_sums.nd rfl (Or.inl rfl) (clS O_calculate (hr.mono (by decide)) rfl (fun σ => passAt (takes_of rfl rfl rfl rfl) σ) (pa_cons pe_str (pa_cons (pe_tup (pa_cons (clS O_l_low (hr.mono (by decide)) rfl (fun σ => passAt (takes_of rfl rfl rfl rfl) σ) (pa_cons (pv 0) pa_nil)) (pa_cons (clS O_l_low (hr.mono (by decide)) rfl (fun σ => passAt (takes_of rfl rfl rfl rfl) σ) (pa_cons (pv 1) pa_nil)) pa_nil))) pa_nil)))) (pss_cons (ps_set (i := 3) sc_l_sums.nd rfl (Or.inl rfl) (clS O_calculate (hr.mono (by decide)) rfl (fun σ => passAt (takes_of rfl rfl rfl rfl) σ) (pa_cons pe_str (pa_cons (pe_tup (pa_cons (pv 2) (pa_cons (clS O_l_low (hr.mono (by decide)) rfl (fun σ => passAt (takes_of rfl rfl rfl rfl) σ) (pa_cons (pv 0) pa_nil)) pa_nil))) pa_nil)))) (pss_cons (ps_set (i := 4) sc_l_sums.nd rfl (Or.inl rfl) (clS O_calculate (hr.mono (by decide)) rfl (fun σ => passAt (takes_of rfl rfl rfl rfl) σ) (pa_cons pe_str (pa_cons (pe_tup (pa_cons (clS O_calculate (hr.mono (by decide)) rfl (fun σ => passAt (takes_of rfl rfl rfl rfl) σ) (pa_cons pe_str (pa_cons (pe_tup (pa_cons (clS O_l_high (hr.mono (by decide)) rfl (fun σ => passAt (takes_of rfl rfl rfl rfl) σ) (pa_cons (pv 0) pa_nil)) (pa_cons (clS O_l_high (hr.mono (by decide)) rfl (fun σ => passAt (takes_of rfl rfl rfl rfl) σ) (pa_cons (pv 1) pa_nil)) pa_nil))) pa_nil))) (pa_cons (pv 3) pa_nil))) pa_nil)))) (pss_cons (ps_if (pt_cmpR (r := rNeX K) (or_ne hr.units) (clS O_l_join (hr.mono (by decide)) rfl (fun σ => passAt (takes_of rfl rfl rfl rfl) σ) (pa_cons (pv 4) (pa_cons (pv 2) pa_nil))) (clS O_calculate (hr.mono (by decide)) rfl (fun σ => passAt (takes_of rfl rfl rfl rfl) σ) (pa_cons pe_str (pa_cons (pe_tup (pa_cons (pv 0) (pa_cons (pv 1) pa_nil))) pa_nil))) (nomark _)) (pss_cons (ps_ret pe_bl) pss_nil) pss_nil) (pss_cons (ps_set (i := 2) sc_l_sums.nd rfl (Or.inl rfl) (clS O_calculate (hr.mono (by decide)) rfl (fun σ => passAt (takes_of rfl rfl rfl rfl) σ) (pa_cons pe_str (pa_cons (pe_tup (pa_cons (clS O_l_low (hr.mono (by decide)) rfl (fun σ => passAt (takes_of rfl rfl rfl rfl) σ) (pa_cons (pv 0) pa_nil)) (pa_cons (clS O_l_low (hr.mono (by decide)) rfl (fun σ => passAt (takes_of rfl rfl rfl rfl) σ) (pa_cons (pv 1) pa_nil)) pa_nil))) pa_nil)))) (pss_cons (ps_set (i := 5) sc_l_sums.nd rfl (Or.inl rfl) (clS O_calculate (hr.mono (by decide)) rfl (fun σ => passAt (takes_of rfl rfl rfl rfl) σ) (pa_cons pe_str (pa_cons (pe_tup (pa_cons (clS O_l_low (hr.mono (by decide)) rfl (fun σ => passAt (takes_of rfl rfl rfl rfl) σ) (pa_cons (pv 0) pa_nil)) (pa_cons (clS O_l_low (hr.mono (by decide)) rfl (fun σ => passAt (takes_of rfl rfl rfl rfl) σ) (pa_cons (pv 1) pa_nil)) pa_nil))) pa_nil)))) (pss_cons (ps_set (i := 4) sc_l_sums.nd rfl (Or.inl rfl) (clS O_calculate (hr.mono (by decide)) rfl (fun σ => passAt (takes_of rfl rfl rfl rfl) σ) (pa_cons pe_str (pa_cons (pe_tup (pa_cons (clS O_calculate (hr.mono (by decide)) rfl (fun σ => passAt (takes_of rfl rfl rfl rfl) σ) (pa_cons pe_str (pa_cons (pe_tup (pa_cons (clS O_l_high (hr.mono (by decide)) rfl (fun σ => passAt (takes_of rfl rfl rfl rfl) σ) (pa_cons (pv 0) pa_nil)) (pa_cons (clS O_l_high (hr.mono (by decide)) rfl (fun σ => passAt (takes_of rfl rfl rfl rfl) σ) (pa_cons (pv 1) pa_nil)) pa_nil))) pa_nil))) (pa_cons (pv 5) pa_nil))) pa_nil)))) (pss_cons (ps_ret (pe_cmpR (r := rEqX K) (or_eq hr.units) (clS O_l_join (hr.mono (by decide)) rfl (fun σ => passAt (takes_of rfl rfl rfl rfl) σ) (pa_cons (pv 4) (pa_cons (pv 2) pa_nil))) (clS O_calculate (hr.mono (by decide)) rfl (fun σ => passAt (takes_of rfl rfl rfl rfl) σ) (pa_cons pe_str (pa_cons (pe_tup (pa_cons (pv 0) (pa_cons (pv 1) pa_nil))) pa_nil))) (nomark _))) pss_nil)))))))), fun xo => ?_⟩)
  exact (cs_seq (cs_a (ce_call (ca_cons (ce_c fun _ => .str _) (ca_cons (ce_tup (ca_cons (ce_call (ca_cons ce_var ca_nil)) (ca_cons (ce_call (ca_cons ce_var ca_nil)) ca_nil))) ca_nil)))) (cs_seq (cs_a (ce_call (ca_cons (ce_c fun _ => .str _) (ca_cons (ce_tup (ca_cons ce_var (ca_cons (ce_call (ca_cons ce_var ca_nil)) ca_nil))) ca_nil)))) (cs_seq (cs_a (ce_call (ca_cons (ce_c fun _ => .str _) (ca_cons (ce_tup (ca_cons (ce_call (ca_cons (ce_c fun _ => .str _) (ca_cons (ce_tup (ca_cons (ce_call (ca_cons ce_var ca_nil)) (ca_cons (ce_call (ca_cons ce_var ca_nil)) ca_nil))) ca_nil))) (ca_cons ce_var ca_nil))) ca_nil)))) (cs_seq (cs_if (ct_test (ce_B od_ne (ce_call (ca_cons ce_var (ca_cons ce_var ca_nil))) (ce_call (ca_cons (ce_c fun _ => .str _) (ca_cons (ce_tup (ca_cons ce_var (ca_cons ce_var ca_nil))) ca_nil))))) (cs_seq (cs_ret (ce_c fun _ => .bl _)) cs_nx) cs_nx) (cs_seq (cs_a (ce_call (ca_cons (ce_c fun _ => .str _) (ca_cons (ce_tup (ca_cons (ce_call (ca_cons ce_var ca_nil)) (ca_cons (ce_call (ca_cons ce_var ca_nil)) ca_nil))) ca_nil)))) (cs_seq (cs_a (ce_call (ca_cons (ce_c fun _ => .str _) (ca_cons (ce_tup (ca_cons (ce_call (ca_cons ce_var ca_nil)) (ca_cons (ce_call (ca_cons ce_var ca_nil)) ca_nil))) ca_nil)))) (cs_seq (cs_a (ce_call (ca_cons (ce_c fun _ => .str _) (ca_cons (ce_tup (ca_cons (ce_call (ca_cons (ce_c fun _ => .str _) (ca_cons (ce_tup (ca_cons (ce_call (ca_cons ce_var ca_nil)) (ca_cons (ce_call (ca_cons ce_var ca_nil)) ca_nil))) ca_nil))) (ca_cons ce_var ca_nil))) ca_nil)))) (cs_seq (cs_ret (ce_B od_eq (ce_call (ca_cons ce_var (ca_cons ce_var ca_nil))) (ce_call (ca_cons (ce_c fun _ => .str _) (ca_cons (ce_tup (ca_cons ce_var (ca_cons ce_var ca_nil))) ca_nil))))) cs_nx))))))))
theorem sc_l_products : FnScope ["_law_a", "_law_b", "_law_first", "_law_second", "_law_one", "_law_two", "_law_cross"] ["_law_a", "_law_b"] (defScope s_l_products) := ⟨rfl, rfl, rfl, by decide +kernel, rfl, by decide +kernel, by decide +kernel⟩
theorem ok_l_products {f : Addr} {fd : FuncData} {d_calculate : FuncData} {d_l_high : FuncData} {d_l_low : FuncData} (F : Fun K "_law_products" "_law_products" s_l_products f fd) (T : Tx w K mg ad) (O_calculate : DfX P w K mg base 6 "calculate" (ad 42) d_calculate ["name", "operands"] (SpD ⟨K, w, ad⟩ m_calculate)) (O_l_high : DfX P w K mg base 7 "_law_high" (ad 47) d_l_high ["_law_a"] (SpD ⟨K, w, ad⟩ m_l_high)) (O_l_low : DfX P w K mg base 7 "_law_low" (ad 48) d_l_low ["_law_a"] (SpD ⟨K, w, ad⟩ m_l_low)) : FnOk P w K mg base (L2.CX P w) 8 f fd ["_law_a", "_law_b"] (SpD ⟨K, w, ad⟩ m_l_products) := by
  refine ok_defV (l := 7) (n := 2) (k := 5) (b := b_l_products) F sc_l_products rfl rfl (fun cdv A outer s H E hr => ⟨_, (pss_cons (ps_set (i := 2) sc_l_products.nd rfl (Or.inl rfl) (clS O_calculate (hr.mono (by decide)) rfl (fun σ => passAt (takes_of rfl rfl rfl rfl) σ) (pa_cons pe_str (pa_cons (pe_tup (pa_cons (clS O_l_low (hr.mono (by decide)) rfl (fun σ => passAt (takes_of rfl rfl rfl rfl) σ) (pa_cons (pv 0) pa_nil)) pa_nil)) pa_nil)))) (pss_cons (ps_set (i := 3) sc_l_products.nd rfl (Or.inl rfl) (clS O_calculate (hr.mono (by decide)) rfl (fun σ => passAt (takes_of rfl rfl rfl rfl) σ) (pa_cons pe_str (pa_cons (pe_tup (pa_cons (clS O_l_low (hr.mono (by decide)) rfl (fun σ => passAt (takes_of rfl rfl rfl rfl) σ) (pa_cons (pv 1) pa_nil)) pa_nil)) pa_nil)))) (pss_cons (ps_set (i := 4) sc_l_products.nd rfl (Or.inl rfl) (clS O_calculate (hr.mono (by decide)) rfl (fun σ => passAt (takes_of rfl rfl rfl rfl) σ) (pa_cons pe_str (pa_cons (pe_tup (pa_cons (clS O_l_high (hr.mono (by decide)) rfl (fun σ => passAt (takes_of rfl rfl rfl rfl) σ) (pa_cons (pv 0) pa_nil)) (pa_cons (clS O_l_low (hr.mono (by decide)) rfl (fun σ => passAt (takes_of rfl rfl rfl rfl) σ) (pa_cons (pv 1) pa_nil)) pa_nil))) pa_nil)))) (pss_cons (ps_set (i := 5) sc_l_products.nd rfl (Or.inl rfl) (clS O_calculate (hr.mono (by decide)) rfl (fun σ => passAt (takes_of rfl rfl rfl rfl) σ) (pa_cons pe_str (pa_cons (pe_tup (pa_cons (clS O_l_low (hr.mono (by decide)) rfl (fun σ => passAt (takes_of rfl rfl rfl rfl) σ) (pa_cons (pv 0) pa_nil)) (pa_cons (clS O_l_high (hr.mono (by decide)) rfl (fun σ => passAt (takes_of rfl rfl rfl rfl) σ) (pa_cons (pv 1) pa_nil)) pa_nil))) pa_nil)))) (pss_cons (ps_set (i := 6) sc_l_products.nd rfl (Or.inl rfl) (clS O_calculate (hr.mono (by decide)) rfl (fun σ => passAt (takes_of rfl rfl rfl rfl) σ) (pa_cons pe_str (pa_cons (pe_tup (pa_cons (clS O_calculate (hr.mono (by decide)) rfl (fun σ => passAt (takes_of rfl rfl rfl rfl) σ) (pa_cons pe_str (pa_cons (pe_tup (pa_cons (clS O_calculate (hr.mono (by decide)) rfl (fun σ => passAt (takes_of rfl rfl rfl rfl) σ) (pa_cons pe_str (pa_cons (pe_tup (pa_cons (pv 4) (pa_cons (pv 5) pa_nil))) pa_nil))) pa_nil)) pa_nil))) (pa_cons pe_int pa_nil))) pa_nil)))) (pss_cons (ps_ret (pe_cmpR (r := rEqX K) (or_eq hr.units) (clS O_calculate (hr.mono (by decide)) rfl (fun σ => passAt (takes_of rfl rfl rfl rfl) σ) (pa_cons pe_str (pa_cons (pe_tup (pa_cons (clS O_calculate (hr.mono (by decide)) rfl (fun σ => passAt (takes_of rfl rfl rfl rfl) σ) (pa_cons pe_str (pa_cons (pe_tup (pa_cons (pv 2) (pa_cons (pv 3) pa_nil))) pa_nil))) (pa_cons (pv 6) pa_nil))) pa_nil))) (clS O_calculate (hr.mono (by decide)) rfl (fun σ => passAt (takes_of rfl rfl rfl rfl) σ) (pa_cons pe_str (pa_cons (pe_tup (pa_cons (pv 0) (pa_cons (pv 1) pa_nil))) pa_nil))) (nomark _))) pss_nil)))))), fun xo => ?_⟩)
  exact (cs_seq (cs_a (ce_call (ca_cons (ce_c fun _ => .str _) (ca_cons (ce_tup (ca_cons (ce_call (ca_cons ce_var ca_nil)) ca_nil)) ca_nil)))) (cs_seq (cs_a (ce_call (ca_cons (ce_c fun _ => .str _) (ca_cons (ce_tup (ca_cons (ce_call (ca_cons ce_var ca_nil)) ca_nil)) ca_nil)))) (cs_seq (cs_a (ce_call (ca_cons (ce_c fun _ => .str _) (ca_cons (ce_tup (ca_cons (ce_call (ca_cons ce_var ca_nil)) (ca_cons (ce_call (ca_cons ce_var ca_nil)) ca_nil))) ca_nil)))) (cs_seq (cs_a (ce_call (ca_cons (ce_c fun _ => .str _) (ca_cons (ce_tup (ca_cons (ce_call (ca_cons ce_var ca_nil)) (ca_cons (ce_call (ca_cons ce_var ca_nil)) ca_nil))) ca_nil)))) (cs_seq (cs_a (ce_call (ca_cons (ce_c fun _ => .str _) (ca_cons (ce_tup (ca_cons (ce_call (ca_cons (ce_c fun _ => .str _) (ca_cons (ce_tup (ca_cons (ce_call (ca_cons (ce_c fun _ => .str _) (ca_cons (ce_tup (ca_cons ce_var (ca_cons ce_var ca_nil))) ca_nil))) ca_nil)) ca_nil))) (ca_cons (ce_c fun _ => .int _) ca_nil))) ca_nil)))) (cs_seq (cs_ret (ce_B od_eq (ce_call (ca_cons (ce_c fun _ => .str _) (ca_cons (ce_tup (ca_cons (ce_call (ca_cons (ce_c fun _ => .str _) (ca_cons (ce_tup (ca_cons ce_var (ca_cons ce_var ca_nil))) ca_nil))) (ca_cons ce_var ca_nil))) ca_nil))) (ce_call (ca_cons (ce_c fun _ => .str _) (ca_cons (ce_tup (ca_cons ce_var (ca_cons ce_var ca_nil))) ca_nil))))) cs_nx))))))
theorem sc_l_bitwise : FnScope ["_law_a", "_law_b", "_law_word", "_law_high_here", "_law_low_here", "_law_turned"] ["_law_a", "_law_b"] (defScope s_l_bitwise) := ⟨rfl, rfl, rfl, by decide +kernel, rfl, by decide +kernel, by decide +kernel⟩
theorem ok_l_bitwise {f : Addr} {fd : FuncData} {d_calculate : FuncData} {d_l_high : FuncData} {d_l_low : FuncData} {d_l_join : FuncData} (F : Fun K "_law_bitwise" "_law_bitwise" s_l_bitwise f fd) (T : Tx w K mg ad) (O_calculate : DfX P w K mg base 6 "calculate" (ad 42) d_calculate ["name", "operands"] (SpD ⟨K, w, ad⟩ m_calculate)) (O_l_high : DfX P w K mg base 7 "_law_high" (ad 47) d_l_high ["_law_a"] (SpD ⟨K, w, ad⟩ m_l_high)) (O_l_low : DfX P w K mg base 7 "_law_low" (ad 48) d_l_low ["_law_a"] (SpD ⟨K, w, ad⟩ m_l_low)) (O_l_join : DfX P w K mg base 7 "_law_join" (ad 49) d_l_join ["_law_high_here", "_law_low_here"] (SpD ⟨K, w, ad⟩ m_l_join)) : FnOk P w K mg base (L2.CX P w) 8 f fd ["_law_a", "_law_b"] (SpD ⟨K, w, ad⟩ m_l_bitwise) := by
  refine ok_defV (l := 7) (n := 2) (k := 4) (b := b_l_bitwise) F sc_l_bitwise rfl rfl (fun cdv A outer s H E hr => ⟨_, (pss_cons (ps_for (passes_of rfl) rfl (pi_list (pe_lst (pa_cons pe_str (pa_cons pe_str (pa_cons pe_str pa_nil))))) (pg_name (i := 2) sc_l_bitwise.nd rfl (Or.inl rfl)) (pss_cons (ps_set (i := 3) sc_l_bitwise.nd rfl (Or.inl rfl) (clS O_calculate (hr.mono (by decide)) rfl (fun σ => passAt (takes_of rfl rfl rfl rfl) σ) (pa_cons (pe_op (r := Dm.rAdd K) or_add pe_str (pv 2)) (pa_cons (pe_tup (pa_cons (clS O_l_high (hr.mono (by decide)) rfl (fun σ => passAt (takes_of rfl rfl rfl rfl) σ) (pa_cons (pv 0) pa_nil)) (pa_cons (clS O_l_high (hr.mono (by decide)) rfl (fun σ => passAt (takes_of rfl rfl rfl rfl) σ) (pa_cons (pv 1) pa_nil)) pa_nil))) pa_nil)))) (pss_cons (ps_set (i := 4) sc_l_bitwise.nd rfl (Or.inl rfl) (clS O_calculate (hr.mono (by decide)) rfl (fun σ => passAt (takes_of rfl rfl rfl rfl) σ) (pa_cons (pe_op (r := Dm.rAdd K) or_add pe_str (pv 2)) (pa_cons (pe_tup (pa_cons (clS O_l_low (hr.mono (by decide)) rfl (fun σ => passAt (takes_of rfl rfl rfl rfl) σ) (pa_cons (pv 0) pa_nil)) (pa_cons (clS O_l_low (hr.mono (by decide)) rfl (fun σ => passAt (takes_of rfl rfl rfl rfl) σ) (pa_cons (pv 1) pa_nil)) pa_nil))) pa_nil)))) (pss_cons (ps_if (pt_cmpR (r := rNeX K) (or_ne hr.units) (clS O_l_join (hr.mono (by decide)) rfl (fun σ => passAt (takes_of rfl rfl rfl rfl) σ) (pa_cons (pv 3) (pa_cons (pv 4) pa_nil))) (clS O_calculate (hr.mono (by decide)) rfl (fun σ => passAt (takes_of rfl rfl rfl rfl) σ) (pa_cons (pe_op (r := Dm.rAdd K) or_add pe_str (pv 2)) (pa_cons (pe_tup (pa_cons (pv 0) (pa_cons (pv 1) pa_nil))) pa_nil))) (nomark _)) (pss_cons (ps_ret pe_bl) pss_nil) pss_nil) pss_nil)))) (pss_cons (ps_set (i := 5) sc_l_bitwise.nd rfl (Or.inl rfl) (clS O_l_join (hr.mono (by decide)) rfl (fun σ => passAt (takes_of rfl rfl rfl rfl) σ) (pa_cons (clS O_l_low (hr.mono (by decide)) rfl (fun σ => passAt (takes_of rfl rfl rfl rfl) σ) (pa_cons (pv 0) pa_nil)) (pa_cons (clS O_l_high (hr.mono (by decide)) rfl (fun σ => passAt (takes_of rfl rfl rfl rfl) σ) (pa_cons (pv 0) pa_nil)) pa_nil)))) (pss_cons (ps_if (PW.pt (pw_or (pt_cmpR (r := rNeX K) (or_ne hr.units) (pv 5) (clS O_calculate (hr.mono (by decide)) rfl (fun σ => passAt (takes_of rfl rfl rfl rfl) σ) (pa_cons pe_str (pa_cons (pe_tup (pa_cons (pv 0) (pa_cons pe_int pa_nil))) pa_nil))) (nomark _)) (pw_or1 (pt_cmpR (r := rNeX K) (or_ne hr.units) (pv 5) (clS O_calculate (hr.mono (by decide)) rfl (fun σ => passAt (takes_of rfl rfl rfl rfl) σ) (pa_cons pe_str (pa_cons (pe_tup (pa_cons (pv 0) (pa_cons pe_int pa_nil))) pa_nil))) (nomark _))))) (pss_cons (ps_ret pe_bl) pss_nil) pss_nil) (pss_cons (ps_ret (pe_cmpR (r := rEqX K) (or_eq hr.units) (clS O_calculate (hr.mono (by decide)) rfl (fun σ => passAt (takes_of rfl rfl rfl rfl) σ) (pa_cons pe_str (pa_cons (pe_tup (pa_cons (clS O_calculate (hr.mono (by decide)) rfl (fun σ => passAt (takes_of rfl rfl rfl rfl) σ) (pa_cons pe_str (pa_cons (pe_tup (pa_cons (pv 0) (pa_cons (pv 1) pa_nil))) pa_nil))) (pa_cons (pv 1) pa_nil))) pa_nil))) (pv 0) (nomark _))) pss_nil)))), fun xo => ?_⟩)
  exact (cs_seq (cs_for (ci_list (ce_L (cn_lst (ca_cons (ce_c fun _ => .str _) (ca_cons (ce_c fun _ => .str _) (ca_cons (ce_c fun _ => .str _) ca_nil)))))) cg_name (cs_seq (cs_a (ce_call (ca_cons (ce_B od_add (ce_c fun _ => .str _) ce_var) (ca_cons (ce_tup (ca_cons (ce_call (ca_cons ce_var ca_nil)) (ca_cons (ce_call (ca_cons ce_var ca_nil)) ca_nil))) ca_nil)))) (cs_seq (cs_a (ce_call (ca_cons (ce_B od_add (ce_c fun _ => .str _) ce_var) (ca_cons (ce_tup (ca_cons (ce_call (ca_cons ce_var ca_nil)) (ca_cons (ce_call (ca_cons ce_var ca_nil)) ca_nil))) ca_nil)))) (cs_seq (cs_if (ct_test (ce_B od_ne (ce_call (ca_cons ce_var (ca_cons ce_var ca_nil))) (ce_call (ca_cons (ce_B od_add (ce_c fun _ => .str _) ce_var) (ca_cons (ce_tup (ca_cons ce_var (ca_cons ce_var ca_nil))) ca_nil))))) (cs_seq (cs_ret (ce_c fun _ => .bl _)) cs_nx) cs_nx) cs_nx)))) (cs_seq (cs_a (ce_call (ca_cons (ce_call (ca_cons ce_var ca_nil)) (ca_cons (ce_call (ca_cons ce_var ca_nil)) ca_nil)))) (cs_seq (cs_if (ct_or (ct_test (ce_B od_ne ce_var (ce_call (ca_cons (ce_c fun _ => .str _) (ca_cons (ce_tup (ca_cons ce_var (ca_cons (ce_c fun _ => .int _) ca_nil))) ca_nil))))) (ct_test (ce_B od_ne ce_var (ce_call (ca_cons (ce_c fun _ => .str _) (ca_cons (ce_tup (ca_cons ce_var (ca_cons (ce_c fun _ => .int _) ca_nil))) ca_nil)))))) (cs_seq (cs_ret (ce_c fun _ => .bl _)) cs_nx) cs_nx) (cs_seq (cs_ret (ce_B od_eq (ce_call (ca_cons (ce_c fun _ => .str _) (ca_cons (ce_tup (ca_cons (ce_call (ca_cons (ce_c fun _ => .str _) (ca_cons (ce_tup (ca_cons ce_var (ca_cons ce_var ca_nil))) ca_nil))) (ca_cons ce_var ca_nil))) ca_nil))) ce_var)) cs_nx))))
theorem sc_l_orders : FnScope ["_law_a", "_law_b", "_law_same", "_law_below", "_law_word", "_law_due"] ["_law_a", "_law_b"] (defScope s_l_orders) := ⟨rfl, rfl, rfl, by decide +kernel, rfl, by decide +kernel, by decide +kernel⟩
theorem ok_l_orders {f : Addr} {fd : FuncData} {d_calculate : FuncData} {d_l_high : FuncData} {d_l_low : FuncData} (F : Fun K "_law_orders" "_law_orders" s_l_orders f fd) (T : Tx w K mg ad) (O_calculate : DfX P w K mg base 6 "calculate" (ad 42) d_calculate ["name", "operands"] (SpD ⟨K, w, ad⟩ m_calculate)) (O_l_high : DfX P w K mg base 7 "_law_high" (ad 47) d_l_high ["_law_a"] (SpD ⟨K, w, ad⟩ m_l_high)) (O_l_low : DfX P w K mg base 7 "_law_low" (ad 48) d_l_low ["_law_a"] (SpD ⟨K, w, ad⟩ m_l_low)) : FnOk P w K mg base (L2.CX P w) 8 f fd ["_law_a", "_law_b"] (SpD ⟨K, w, ad⟩ m_l_orders) := by
  refine ok_defV (l := 7) (n := 2) (k := 4) (b := b_l_orders) F sc_l_orders rfl rfl (fun cdv A outer s H E hr => ⟨_, (pss_cons (ps_set (i := 2) sc_l_orders.nd rfl (Or.inl rfl) (clS O_calculate (hr.mono (by decide)) rfl (fun σ => passAt (takes_of rfl rfl rfl rfl) σ) (pa_cons pe_str (pa_cons (pe_tup (pa_cons (clS O_l_high (hr.mono (by decide)) rfl (fun σ => passAt (takes_of rfl rfl rfl rfl) σ) (pa_cons (pv 0) pa_nil)) (pa_cons (clS O_l_high (hr.mono (by decide)) rfl (fun σ => passAt (takes_of rfl rfl rfl rfl) σ) (pa_cons (pv 1) pa_nil)) pa_nil))) pa_nil)))) (pss_cons (ps_set (i := 3) sc_l_orders.nd rfl (Or.inl rfl) (clS O_calculate (hr.mono (by decide)) rfl (fun σ => passAt (takes_of rfl rfl rfl rfl) σ) (pa_cons pe_str (pa_cons (pe_tup (pa_cons (clS O_l_low (hr.mono (by decide)) rfl (fun σ => passAt (takes_of rfl rfl rfl rfl) σ) (pa_cons (pv 0) pa_nil)) (pa_cons (clS O_l_low (hr.mono (by decide)) rfl (fun σ => passAt (takes_of rfl rfl rfl rfl) σ) (pa_cons (pv 1) pa_nil)) pa_nil))) pa_nil)))) (pss_cons (ps_for (passes_of rfl) rfl (pi_list (pe_lst (pa_cons pe_str (pa_cons pe_str pa_nil)))) (pg_name (i := 4) sc_l_orders.nd rfl (Or.inl rfl)) (pss_cons (ps_set (i := 5) sc_l_orders.nd rfl (Or.inl rfl) (pe_callTy (r := rInt1) call_int1 (by rfl) T.b_int (by decide +kernel) (pa_cons (pe_or (pe_cmpR (r := rEqX K) (or_eq hr.units) (clS O_calculate (hr.mono (by decide)) rfl (fun σ => passAt (takes_of rfl rfl rfl rfl) σ) (pa_cons (pe_op (r := Dm.rAdd K) or_add pe_str (pv 4)) (pa_cons (pe_tup (pa_cons (clS O_l_high (hr.mono (by decide)) rfl (fun σ => passAt (takes_of rfl rfl rfl rfl) σ) (pa_cons (pv 0) pa_nil)) (pa_cons (clS O_l_high (hr.mono (by decide)) rfl (fun σ => passAt (takes_of rfl rfl rfl rfl) σ) (pa_cons (pv 1) pa_nil)) pa_nil))) pa_nil))) pe_int (nomark _)) (pe_one (pe_and (pe_cmpR (r := rEqX K) (or_eq hr.units) (pv 2) pe_int (nomark _)) (pe_one (pe_cmpR (r := rEqX K) (or_eq hr.units) (pv 3) pe_int (nomark _)))))) pa_nil))) (pss_cons (ps_if (PW.pt (pw_or (pt_cmpR (r := rNeX K) (or_ne hr.units) (clS O_calculate (hr.mono (by decide)) rfl (fun σ => passAt (takes_of rfl rfl rfl rfl) σ) (pa_cons (pe_op (r := Dm.rAdd K) or_add pe_str (pv 4)) (pa_cons (pe_tup (pa_cons (pv 0) (pa_cons (pv 1) pa_nil))) pa_nil))) (pv 5) (nomark _)) (pw_or1 (pt_cmpR (r := rNeX K) (or_ne hr.units) (clS O_calculate (hr.mono (by decide)) rfl (fun σ => passAt (takes_of rfl rfl rfl rfl) σ) (pa_cons (pe_op (r := Dm.rAdd K) or_add pe_str (pe_slice (r := rSlX2 K) sl_all (pv 4) (po_some pe_int) po_none)) (pa_cons (pe_tup (pa_cons (pv 0) (pa_cons (pv 1) pa_nil))) pa_nil))) (pe_op op_sub pe_int (pv 5)) (nomark _))))) (pss_cons (ps_ret pe_bl) pss_nil) pss_nil) (pss_cons (ps_if (PW.pt (pw_or (pt_cmpR (r := rNeX K) (or_ne hr.units) (clS O_calculate (hr.mono (by decide)) rfl (fun σ => passAt (takes_of rfl rfl rfl rfl) σ) (pa_cons (pe_op (r := Dm.rAdd K) or_add pe_str (pe_slice (r := rSlX2 K) sl_all (pv 4) (po_some pe_int) po_none)) (pa_cons (pe_tup (pa_cons (pv 1) (pa_cons (pv 0) pa_nil))) pa_nil))) (pv 5) (nomark _)) (pw_or1 (pt_cmpR (r := rNeX K) (or_ne hr.units) (clS O_calculate (hr.mono (by decide)) rfl (fun σ => passAt (takes_of rfl rfl rfl rfl) σ) (pa_cons (pe_op (r := Dm.rAdd K) or_add pe_str (pe_slice (r := rSlX2 K) sl_all (pv 4) (po_some pe_int) po_none)) (pa_cons (pe_tup (pa_cons (pv 1) (pa_cons (pv 0) pa_nil))) pa_nil))) (pe_op op_sub pe_int (pv 5)) (nomark _))))) (pss_cons (ps_ret pe_bl) pss_nil) pss_nil) pss_nil)))) (pss_cons (ps_ret (pe_cmpR (r := rEqX K) (or_eq hr.units) (clS O_calculate (hr.mono (by decide)) rfl (fun σ => passAt (takes_of rfl rfl rfl rfl) σ) (pa_cons pe_str (pa_cons (pe_tup (pa_cons (clS O_calculate (hr.mono (by decide)) rfl (fun σ => passAt (takes_of rfl rfl rfl rfl) σ) (pa_cons pe_str (pa_cons (pe_tup (pa_cons (pv 0) (pa_cons (pv 1) pa_nil))) pa_nil))) pa_nil)) pa_nil))) (clS O_calculate (hr.mono (by decide)) rfl (fun σ => passAt (takes_of rfl rfl rfl rfl) σ) (pa_cons pe_str (pa_cons (pe_tup (pa_cons (pv 0) (pa_cons (pv 1) pa_nil))) pa_nil))) (nomark _))) pss_nil)))), fun xo => ?_⟩)
  exact (cs_seq (cs_a (ce_call (ca_cons (ce_c fun _ => .str _) (ca_cons (ce_tup (ca_cons (ce_call (ca_cons ce_var ca_nil)) (ca_cons (ce_call (ca_cons ce_var ca_nil)) ca_nil))) ca_nil)))) (cs_seq (cs_a (ce_call (ca_cons (ce_c fun _ => .str _) (ca_cons (ce_tup (ca_cons (ce_call (ca_cons ce_var ca_nil)) (ca_cons (ce_call (ca_cons ce_var ca_nil)) ca_nil))) ca_nil)))) (cs_seq (cs_for (ci_list (ce_L (cn_lst (ca_cons (ce_c fun _ => .str _) (ca_cons (ce_c fun _ => .str _) ca_nil))))) cg_name (cs_seq (cs_a (ce_F cd_int (ca_cons (ce_or (ce_B od_eq (ce_call (ca_cons (ce_B od_add (ce_c fun _ => .str _) ce_var) (ca_cons (ce_tup (ca_cons (ce_call (ca_cons ce_var ca_nil)) (ca_cons (ce_call (ca_cons ce_var ca_nil)) ca_nil))) ca_nil))) (ce_c fun _ => .int _)) (ce_and (ce_B od_eq ce_var (ce_c fun _ => .int _)) (ce_B od_eq ce_var (ce_c fun _ => .int _)))) ca_nil))) (cs_seq (cs_if (ct_or (ct_test (ce_B od_ne (ce_call (ca_cons (ce_B od_add (ce_c fun _ => .str _) ce_var) (ca_cons (ce_tup (ca_cons ce_var (ca_cons ce_var ca_nil))) ca_nil))) ce_var)) (ct_test (ce_B od_ne (ce_call (ca_cons (ce_B od_add (ce_c fun _ => .str _) (ce_sl ce_var (co_some (ce_c fun _ => .int _)) co_none)) (ca_cons (ce_tup (ca_cons ce_var (ca_cons ce_var ca_nil))) ca_nil))) (ce_B od_sub (ce_c fun _ => .int _) ce_var)))) (cs_seq (cs_ret (ce_c fun _ => .bl _)) cs_nx) cs_nx) (cs_seq (cs_if (ct_or (ct_test (ce_B od_ne (ce_call (ca_cons (ce_B od_add (ce_c fun _ => .str _) (ce_sl ce_var (co_some (ce_c fun _ => .int _)) co_none)) (ca_cons (ce_tup (ca_cons ce_var (ca_cons ce_var ca_nil))) ca_nil))) ce_var)) (ct_test (ce_B od_ne (ce_call (ca_cons (ce_B od_add (ce_c fun _ => .str _) (ce_sl ce_var (co_some (ce_c fun _ => .int _)) co_none)) (ca_cons (ce_tup (ca_cons ce_var (ca_cons ce_var ca_nil))) ca_nil))) (ce_B od_sub (ce_c fun _ => .int _) ce_var)))) (cs_seq (cs_ret (ce_c fun _ => .bl _)) cs_nx) cs_nx) cs_nx)))) (cs_seq (cs_ret (ce_B od_eq (ce_call (ca_cons (ce_c fun _ => .str _) (ca_cons (ce_tup (ca_cons (ce_call (ca_cons (ce_c fun _ => .str _) (ca_cons (ce_tup (ca_cons ce_var (ca_cons ce_var ca_nil))) ca_nil))) ca_nil)) ca_nil))) (ce_call (ca_cons (ce_c fun _ => .str _) (ca_cons (ce_tup (ca_cons ce_var (ca_cons ce_var ca_nil))) ca_nil))))) cs_nx))))
theorem sc_l_counted : FnScope ["_law_a", "_law_high_here", "_law_low_here", "_law_above", "_law_below", "_law_ones", "_law_found"] ["_law_a"] (defScope s_l_counted) := ⟨rfl, rfl, rfl, by decide +kernel, rfl, by decide +kernel, by decide +kernel⟩
theorem ok_l_counted {f : Addr} {fd : FuncData} {d_calculate : FuncData} {d_l_high : FuncData} {d_l_low : FuncData} (F : Fun K "_law_counted" "_law_counted" s_l_counted f fd) (T : Tx w K mg ad) (O_calculate : DfX P w K mg base 6 "calculate" (ad 42) d_calculate ["name", "operands"] (SpD ⟨K, w, ad⟩ m_calculate)) (O_l_high : DfX P w K mg base 7 "_law_high" (ad 47) d_l_high ["_law_a"] (SpD ⟨K, w, ad⟩ m_l_high)) (O_l_low : DfX P w K mg base 7 "_law_low" (ad 48) d_l_low ["_law_a"] (SpD ⟨K, w, ad⟩ m_l_low)) : FnOk P w K mg base (L2.CX P w) 8 f fd ["_law_a"] (SpD ⟨K, w, ad⟩ m_l_counted) := by
  refine ok_defV (l := 7) (n := 1) (k := 6) (b := b_l_counted) F sc_l_counted rfl rfl (fun cdv A outer s H E hr => ⟨_, (pss_cons (ps_set (i := 1) sc_l_counted.nd rfl (Or.inl rfl) (clS O_l_high (hr.mono (by decide)) rfl (fun σ => passAt (takes_of rfl rfl rfl rfl) σ) (pa_cons (pv 0) pa_nil))) (pss_cons (ps_set (i := 2) sc_l_counted.nd rfl (Or.inl rfl) (clS O_l_low (hr.mono (by decide)) rfl (fun σ => passAt (takes_of rfl rfl rfl rfl) σ) (pa_cons (pv 0) pa_nil))) (pss_cons (ps_set (i := 3) sc_l_counted.nd rfl (Or.inl rfl) (clS O_calculate (hr.mono (by decide)) rfl (fun σ => passAt (takes_of rfl rfl rfl rfl) σ) (pa_cons pe_str (pa_cons (pe_tup (pa_cons (pv 1) pa_nil)) pa_nil)))) (pss_cons (ps_if (pt_cmpR (r := rEqX K) (or_eq hr.units) (pv 3) pe_int (nomark _)) (pss_cons (ps_set (i := 3) sc_l_counted.nd rfl (Or.inl rfl) (pe_op (r := Dm.rAdd K) or_add pe_int (clS O_calculate (hr.mono (by decide)) rfl (fun σ => passAt (takes_of rfl rfl rfl rfl) σ) (pa_cons pe_str (pa_cons (pe_tup (pa_cons (pv 2) pa_nil)) pa_nil))))) pss_nil) pss_nil) (pss_cons (ps_set (i := 4) sc_l_counted.nd rfl (Or.inl rfl) (clS O_calculate (hr.mono (by decide)) rfl (fun σ => passAt (takes_of rfl rfl rfl rfl) σ) (pa_cons pe_str (pa_cons (pe_tup (pa_cons (pv 2) pa_nil)) pa_nil)))) (pss_cons (ps_if (pt_cmpR (r := rEqX K) (or_eq hr.units) (pv 4) pe_int (nomark _)) (pss_cons (ps_set (i := 4) sc_l_counted.nd rfl (Or.inl rfl) (pe_op (r := Dm.rAdd K) or_add pe_int (clS O_calculate (hr.mono (by decide)) rfl (fun σ => passAt (takes_of rfl rfl rfl rfl) σ) (pa_cons pe_str (pa_cons (pe_tup (pa_cons (pv 1) pa_nil)) pa_nil))))) pss_nil) pss_nil) (pss_cons (ps_set (i := 5) sc_l_counted.nd rfl (Or.inl rfl) (pe_op (r := Dm.rAdd K) or_add (clS O_calculate (hr.mono (by decide)) rfl (fun σ => passAt (takes_of rfl rfl rfl rfl) σ) (pa_cons pe_str (pa_cons (pe_tup (pa_cons (pv 1) pa_nil)) pa_nil))) (clS O_calculate (hr.mono (by decide)) rfl (fun σ => passAt (takes_of rfl rfl rfl rfl) σ) (pa_cons pe_str (pa_cons (pe_tup (pa_cons (pv 2) pa_nil)) pa_nil))))) (pss_cons (ps_set (i := 6) sc_l_counted.nd rfl (Or.inl rfl) (pe_lst (pa_cons (clS O_calculate (hr.mono (by decide)) rfl (fun σ => passAt (takes_of rfl rfl rfl rfl) σ) (pa_cons pe_str (pa_cons (pe_tup (pa_cons (pv 0) pa_nil)) pa_nil))) (pa_cons (clS O_calculate (hr.mono (by decide)) rfl (fun σ => passAt (takes_of rfl rfl rfl rfl) σ) (pa_cons pe_str (pa_cons (pe_tup (pa_cons (pv 0) pa_nil)) pa_nil))) (pa_cons (clS O_calculate (hr.mono (by decide)) rfl (fun σ => passAt (takes_of rfl rfl rfl rfl) σ) (pa_cons pe_str (pa_cons (pe_tup (pa_cons (pv 0) pa_nil)) pa_nil))) pa_nil))))) (pss_cons (ps_ret (pe_cmpR (r := rEqX K) (or_eq hr.units) (pv 6) (pe_lst (pa_cons (pv 3) (pa_cons (pv 4) (pa_cons (pv 5) pa_nil)))) (nomark _))) pss_nil))))))))), fun xo => ?_⟩)
  exact (cs_seq (cs_a (ce_call (ca_cons ce_var ca_nil))) (cs_seq (cs_a (ce_call (ca_cons ce_var ca_nil))) (cs_seq (cs_a (ce_call (ca_cons (ce_c fun _ => .str _) (ca_cons (ce_tup (ca_cons ce_var ca_nil)) ca_nil)))) (cs_seq (cs_if (ct_test (ce_B od_eq ce_var (ce_c fun _ => .int _))) (cs_seq (cs_a (ce_B od_add (ce_c fun _ => .int _) (ce_call (ca_cons (ce_c fun _ => .str _) (ca_cons (ce_tup (ca_cons ce_var ca_nil)) ca_nil))))) cs_nx) cs_nx) (cs_seq (cs_a (ce_call (ca_cons (ce_c fun _ => .str _) (ca_cons (ce_tup (ca_cons ce_var ca_nil)) ca_nil)))) (cs_seq (cs_if (ct_test (ce_B od_eq ce_var (ce_c fun _ => .int _))) (cs_seq (cs_a (ce_B od_add (ce_c fun _ => .int _) (ce_call (ca_cons (ce_c fun _ => .str _) (ca_cons (ce_tup (ca_cons ce_var ca_nil)) ca_nil))))) cs_nx) cs_nx) (cs_seq (cs_a (ce_B od_add (ce_call (ca_cons (ce_c fun _ => .str _) (ca_cons (ce_tup (ca_cons ce_var ca_nil)) ca_nil))) (ce_call (ca_cons (ce_c fun _ => .str _) (ca_cons (ce_tup (ca_cons ce_var ca_nil)) ca_nil))))) (cs_seq (cs_a (ce_L (cn_lst (ca_cons (ce_call (ca_cons (ce_c fun _ => .str _) (ca_cons (ce_tup (ca_cons ce_var ca_nil)) ca_nil))) (ca_cons (ce_call (ca_cons (ce_c fun _ => .str _) (ca_cons (ce_tup (ca_cons ce_var ca_nil)) ca_nil))) (ca_cons (ce_call (ca_cons (ce_c fun _ => .str _) (ca_cons (ce_tup (ca_cons ce_var ca_nil)) ca_nil))) ca_nil)))))) (cs_seq (cs_ret (ce_B od_eq ce_var (ce_L (cn_lst (ca_cons ce_var (ca_cons ce_var (ca_cons ce_var ca_nil))))))) cs_nx)))))))))
theorem sc_l_divided : FnScope ["_law_a", "_law_b", "_law_mark", "_law_whole", "_law_rest"] ["_law_a", "_law_b", "_law_mark"] (defScope s_l_divided) := ⟨rfl, rfl, rfl, by decide +kernel, rfl, by decide +kernel, by decide +kernel⟩
theorem ok_l_divided {f : Addr} {fd : FuncData} {d_calculate : FuncData} (F : Fun K "_law_divided" "_law_divided" s_l_divided f fd) (T : Tx w K mg ad) (O_calculate : DfX P w K mg base 6 "calculate" (ad 42) d_calculate ["name", "operands"] (SpD ⟨K, w, ad⟩ m_calculate)) : FnOk P w K mg base (L2.CX P w) 7 f fd ["_law_a", "_law_b", "_law_mark"] (SpD ⟨K, w, ad⟩ m_l_divided) := by
  refine ok_defV (l := 6) (n := 3) (k := 2) (b := b_l_divided) F sc_l_divided rfl rfl (fun cdv A outer s H E hr => ⟨_, (pss_cons (ps_set (i := 3) sc_l_divided.nd rfl (Or.inl rfl) (clS O_calculate (hr.mono (by decide)) rfl (fun σ => passAt (takes_of rfl rfl rfl rfl) σ) (pa_cons (pe_op (r := Dm.rAdd K) or_add pe_str (pv 2)) (pa_cons (pe_tup (pa_cons (pv 0) (pa_cons (pv 1) pa_nil))) pa_nil)))) (pss_cons (ps_set (i := 4) sc_l_divided.nd rfl (Or.inl rfl) (clS O_calculate (hr.mono (by decide)) rfl (fun σ => passAt (takes_of rfl rfl rfl rfl) σ) (pa_cons (pe_op (r := Dm.rAdd K) or_add pe_str (pv 2)) (pa_cons (pe_tup (pa_cons (pv 0) (pa_cons (pv 1) pa_nil))) pa_nil)))) (pss_cons (ps_if (pt_cmpR (r := rNeX K) (or_ne hr.units) (clS O_calculate (hr.mono (by decide)) rfl (fun σ => passAt (takes_of rfl rfl rfl rfl) σ) (pa_cons pe_str (pa_cons (pe_tup (pa_cons (clS O_calculate (hr.mono (by decide)) rfl (fun σ => passAt (takes_of rfl rfl rfl rfl) σ) (pa_cons pe_str (pa_cons (pe_tup (pa_cons (pv 3) (pa_cons (pv 1) pa_nil))) pa_nil))) (pa_cons (pv 4) pa_nil))) pa_nil))) (pv 0) (nomark _)) (pss_cons (ps_ret pe_bl) pss_nil) pss_nil) (pss_cons (ps_if (pt_cmpR (r := rEqX K) (or_eq hr.units) (pv 2) pe_str (nomark _)) (pss_cons (ps_ret (pe_cmpR (r := rEqX K) (or_eq hr.units) (clS O_calculate (hr.mono (by decide)) rfl (fun σ => passAt (takes_of rfl rfl rfl rfl) σ) (pa_cons pe_str (pa_cons (pe_tup (pa_cons (pv 4) (pa_cons (pv 1) pa_nil))) pa_nil))) pe_int (nomark _))) pss_nil) pss_nil) (pss_cons (ps_ret (pe_and (pe_cmpR or_lt (pe_callB (r := rMax2) (call_max2 rfl) (by rfl) T.b_max (by decide +kernel) (pa_cons (pv 4) (pa_cons (pe_un un_neg (pv 4)) pa_nil))) (pe_callB (r := rMax2) (call_max2 rfl) (by rfl) T.b_max (by decide +kernel) (pa_cons (pv 1) (pa_cons (pe_un un_neg (pv 1)) pa_nil))) (nomark _)) (pe_one (pe_or (pe_cmpR (r := rEqX K) (or_eq hr.units) (pv 4) pe_int (nomark _)) (pe_one (pe_cmpR (r := rEqX K) (or_eq hr.units) (pe_cmpR or_lt (pv 4) pe_int (nomark _)) (pe_cmpR or_lt (pv 0) pe_int (nomark _)) (nomark _))))))) pss_nil))))), fun xo => ?_⟩)
  exact (cs_seq (cs_a (ce_call (ca_cons (ce_B od_add (ce_c fun _ => .str _) ce_var) (ca_cons (ce_tup (ca_cons ce_var (ca_cons ce_var ca_nil))) ca_nil)))) (cs_seq (cs_a (ce_call (ca_cons (ce_B od_add (ce_c fun _ => .str _) ce_var) (ca_cons (ce_tup (ca_cons ce_var (ca_cons ce_var ca_nil))) ca_nil)))) (cs_seq (cs_if (ct_test (ce_B od_ne (ce_call (ca_cons (ce_c fun _ => .str _) (ca_cons (ce_tup (ca_cons (ce_call (ca_cons (ce_c fun _ => .str _) (ca_cons (ce_tup (ca_cons ce_var (ca_cons ce_var ca_nil))) ca_nil))) (ca_cons ce_var ca_nil))) ca_nil))) ce_var)) (cs_seq (cs_ret (ce_c fun _ => .bl _)) cs_nx) cs_nx) (cs_seq (cs_if (ct_test (ce_B od_eq ce_var (ce_c fun _ => .str _))) (cs_seq (cs_ret (ce_B od_eq (ce_call (ca_cons (ce_c fun _ => .str _) (ca_cons (ce_tup (ca_cons ce_var (ca_cons ce_var ca_nil))) ca_nil))) (ce_c fun _ => .int _))) cs_nx) cs_nx) (cs_seq (cs_ret (ce_and (ce_B od_lt (ce_F cd_max2 (ca_cons ce_var (ca_cons (ce_neg ce_var) ca_nil))) (ce_F cd_max2 (ca_cons ce_var (ca_cons (ce_neg ce_var) ca_nil)))) (ce_or (ce_B od_eq ce_var (ce_c fun _ => .int _)) (ce_B od_eq (ce_B od_lt ce_var (ce_c fun _ => .int _)) (ce_B od_lt ce_var (ce_c fun _ => .int _)))))) cs_nx)))))
theorem sc_law : FnScope ["_law_script", "_law_k", "_law_a", "_law_b", "_law_joined"] ["_law_script"] (defScope s_law) := ⟨rfl, rfl, rfl, by decide +kernel, rfl, by decide +kernel, by decide +kernel⟩
theorem ok_law {f : Addr} {fd : FuncData} {d_l_is_integer : FuncData} {d_l_cell : FuncData} {d_l_signed : FuncData} {d_l_value : FuncData} {d_l_high : FuncData} {d_l_low : FuncData} {d_l_join : FuncData} {d_l_sums : FuncData} {d_l_products : FuncData} {d_l_bitwise : FuncData} {d_l_orders : FuncData} {d_l_counted : FuncData} {d_l_divided : FuncData} (F : Fun K "law" "law" s_law f fd) (T : Tx w K mg ad) (O_l_is_integer : DfX P w K mg base 1 "_law_is_integer" (ad 43) d_l_is_integer ["_law_actual"] (SpD ⟨K, w, ad⟩ m_l_is_integer)) (O_l_cell : DfX P w K mg base 1 "_law_cell" (ad 44) d_l_cell ["_law_script", "_law_k"] (SpD ⟨K, w, ad⟩ m_l_cell)) (O_l_signed : DfX P w K mg base 1 "_law_signed" (ad 45) d_l_signed ["_law_number", "_law_bits"] (SpD ⟨K, w, ad⟩ m_l_signed)) (O_l_value : DfX P w K mg base 2 "_law_value" (ad 46) d_l_value ["_law_cell_here", "_law_bits"] (SpD ⟨K, w, ad⟩ m_l_value)) (O_l_high : DfX P w K mg base 7 "_law_high" (ad 47) d_l_high ["_law_a"] (SpD ⟨K, w, ad⟩ m_l_high)) (O_l_low : DfX P w K mg base 7 "_law_low" (ad 48) d_l_low ["_law_a"] (SpD ⟨K, w, ad⟩ m_l_low)) (O_l_join : DfX P w K mg base 7 "_law_join" (ad 49) d_l_join ["_law_high_here", "_law_low_here"] (SpD ⟨K, w, ad⟩ m_l_join)) (O_l_sums : DfX P w K mg base 8 "_law_sums" (ad 50) d_l_sums ["_law_a", "_law_b"] (SpD ⟨K, w, ad⟩ m_l_sums)) (O_l_products : DfX P w K mg base 8 "_law_products" (ad 51) d_l_products ["_law_a", "_law_b"] (SpD ⟨K, w, ad⟩ m_l_products)) (O_l_bitwise : DfX P w K mg base 8 "_law_bitwise" (ad 52) d_l_bitwise ["_law_a", "_law_b"] (SpD ⟨K, w, ad⟩ m_l_bitwise)) (O_l_orders : DfX P w K mg base 8 "_law_orders" (ad 53) d_l_orders ["_law_a", "_law_b"] (SpD ⟨K, w, ad⟩ m_l_orders)) (O_l_counted : DfX P w K mg base 8 "_law_counted" (ad 54) d_l_counted ["_law_a"] (SpD ⟨K, w, ad⟩ m_l_counted)) (O_l_divided : DfX P w K mg base 7 "_law_divided" (ad 55) d_l_divided ["_law_a", "_law_b", "_law_mark"] (SpD ⟨K, w, ad⟩ m_l_divided)) : FnOk P w K mg base CX0 9 f fd ["_law_script"] (Dm.sp_law K) := by
  refine Dm.ok_law (l := 8) (k := 4) (b := b_law) (ad := ad) F sc_law rfl rfl law_true (fun cdv A outer s H E hr => ⟨_, (pss_cons (ps_for PassesOwn.never rfl (pi_range1 (by rfl) T.b_range (pa_cons (pe_op (r := Dm.rAdd K) or_add pe_int (pe_op op_fdivW (pe_callB (r := rMin2) (call_min2 rfl) (by rfl) T.b_min (by decide +kernel) (pa_cons (pe_callB (r := rLenX K) cr_len (by rfl) T.b_len (by decide +kernel) (pa_cons (pv 0) pa_nil)) (pa_cons pe_int pa_nil))) pe_int)) pa_nil)) (pg_name (i := 1) sc_law.nd rfl (Or.inl rfl)) (pss_cons (ps_set (i := 2) sc_law.nd rfl (Or.inl rfl) (clS O_l_value (hr.mono (by decide)) rfl (fun σ => passAt takes0 σ) (pa_cons (clS O_l_cell (hr.mono (by decide)) rfl (fun σ => passAt takes0 σ) (pa_cons (pv 0) (pa_cons (pe_op or_mul pe_int (pv 1)) pa_nil))) (pa_cons pe_int pa_nil)))) (pss_cons (ps_set (i := 3) sc_law.nd rfl (Or.inl rfl) (clS O_l_value (hr.mono (by decide)) rfl (fun σ => passAt takes0 σ) (pa_cons (clS O_l_cell (hr.mono (by decide)) rfl (fun σ => passAt takes0 σ) (pa_cons (pv 0) (pa_cons (pe_op (r := Dm.rAdd K) or_add (pe_op or_mul pe_int (pv 1)) pe_int) pa_nil))) (pa_cons pe_int pa_nil)))) (pss_cons (ps_if (pt_cmpR (r := rEqX K) (or_eq hr.units) (pe_op op_mod (pe_callTy (r := rInt1) call_int1 (by rfl) T.b_int (by decide +kernel) (pa_cons (clS O_l_cell (hr.mono (by decide)) rfl (fun σ => passAt takes0 σ) (pa_cons (pv 0) (pa_cons (pe_op (r := Dm.rAdd K) or_add (pe_op or_mul pe_int (pv 1)) pe_int) pa_nil))) pa_nil)) pe_int) pe_int (nomark _)) (pss_cons (ps_set (i := 3) sc_law.nd rfl (Or.inl rfl) (clS O_l_signed (hr.mono (by decide)) rfl (fun σ => passAt takes0 σ) (pa_cons (pv 3) (pa_cons pe_int pa_nil)))) pss_nil) pss_nil) (pss_cons (ps_set (i := 4) sc_law.nd rfl (Or.inl rfl) (clS O_l_join (hr.mono (by decide)) rfl (fun σ => passAt takes0 σ) (pa_cons (clS O_l_high (hr.mono (by decide)) rfl (fun σ => passAt takes0 σ) (pa_cons (pv 2) pa_nil)) (pa_cons (clS O_l_low (hr.mono (by decide)) rfl (fun σ => passAt takes0 σ) (pa_cons (pv 2) pa_nil)) pa_nil)))) (pss_cons (ps_if (PW.pt (pw_or (pt_not (pt_val (clS O_l_is_integer (hr.mono (by decide)) rfl (fun σ => passAt takes0 σ) (pa_cons (pv 4) pa_nil)))) (pw_or1 (pt_cmpR (r := rNeX K) (or_ne hr.units) (pv 4) (pv 2) (nomark _))))) (pss_cons (ps_ret pe_bl) pss_nil) pss_nil) (pss_cons (ps_if (PW.pt (pw_or (pt_not (pt_val (clS O_l_sums (hr.mono (by decide)) rfl (fun σ => passAt takes0 σ) (pa_cons (pv 2) (pa_cons (pv 3) pa_nil))))) (pw_or (pt_not (pt_val (clS O_l_products (hr.mono (by decide)) rfl (fun σ => passAt takes0 σ) (pa_cons (pv 2) (pa_cons (pv 3) pa_nil))))) (pw_or1 (pt_not (pt_val (clS O_l_bitwise (hr.mono (by decide)) rfl (fun σ => passAt takes0 σ) (pa_cons (pv 2) (pa_cons (pv 3) pa_nil))))))))) (pss_cons (ps_ret pe_bl) pss_nil) pss_nil) (pss_cons (ps_if (PW.pt (pw_or (pt_not (pt_val (clS O_l_orders (hr.mono (by decide)) rfl (fun σ => passAt takes0 σ) (pa_cons (pv 2) (pa_cons (pv 3) pa_nil))))) (pw_or1 (pt_not (pt_val (clS O_l_counted (hr.mono (by decide)) rfl (fun σ => passAt takes0 σ) (pa_cons (pv 2) pa_nil))))))) (pss_cons (ps_ret pe_bl) pss_nil) pss_nil) (pss_cons (ps_if (PW.pt (pw_and (pt_cmpR (r := rNeX K) (or_ne hr.units) (pv 3) pe_int (nomark _)) (pw_and1 (pt_not (pt_val (clS O_l_divided (hr.mono (by decide)) rfl (fun σ => passAt takes0 σ) (pa_cons (pv 2) (pa_cons (pv 3) (pa_cons pe_str pa_nil))))))))) (pss_cons (ps_ret pe_bl) pss_nil) pss_nil) (pss_cons (ps_if (PW.pt (pw_and (pt_cmpR (r := rNeX K) (or_ne hr.units) (pv 3) pe_int (nomark _)) (pw_and (pt_not (PW.pt (pw_and (pt_cmpR (r := rEqX K) (or_eq hr.units) (pv 3) (pe_un un_neg pe_int) (nomark _)) (pw_and1 (pt_cmpR (r := rEqX K) (or_eq hr.units) (pv 2) (pe_un un_neg (pe_op or_shl pe_int pe_int)) (nomark _)))))) (pw_and1 (pt_not (pt_val (clS O_l_divided (hr.mono (by decide)) rfl (fun σ => passAt takes0 σ) (pa_cons (pv 2) (pa_cons (pv 3) (pa_cons pe_str pa_nil)))))))))) (pss_cons (ps_ret pe_bl) pss_nil) pss_nil) pss_nil)))))))))) (pss_cons (ps_ret pe_bl) pss_nil)), fun xo => ?_⟩)
  exact (cs_seq (cs_for (ci_r1 (ca_cons (ce_B od_add (ce_c fun _ => .int _) (ce_B od_div (ce_F cd_min2 (ca_cons (ce_F cd_len (ca_cons ce_var ca_nil)) (ca_cons (ce_c fun _ => .int _) ca_nil))) (ce_c fun _ => .int _))) ca_nil)) cg_name (cs_seq (cs_a (ce_call (ca_cons (ce_call (ca_cons ce_var (ca_cons (ce_B od_mul (ce_c fun _ => .int _) ce_var) ca_nil))) (ca_cons (ce_c fun _ => .int _) ca_nil)))) (cs_seq (cs_a (ce_call (ca_cons (ce_call (ca_cons ce_var (ca_cons (ce_B od_add (ce_B od_mul (ce_c fun _ => .int _) ce_var) (ce_c fun _ => .int _)) ca_nil))) (ca_cons (ce_c fun _ => .int _) ca_nil)))) (cs_seq (cs_if (ct_test (ce_B od_eq (ce_B od_mod (ce_F cd_int (ca_cons (ce_call (ca_cons ce_var (ca_cons (ce_B od_add (ce_B od_mul (ce_c fun _ => .int _) ce_var) (ce_c fun _ => .int _)) ca_nil))) ca_nil)) (ce_c fun _ => .int _)) (ce_c fun _ => .int _))) (cs_seq (cs_a (ce_call (ca_cons ce_var (ca_cons (ce_c fun _ => .int _) ca_nil)))) cs_nx) cs_nx) (cs_seq (cs_a (ce_call (ca_cons (ce_call (ca_cons ce_var ca_nil)) (ca_cons (ce_call (ca_cons ce_var ca_nil)) ca_nil)))) (cs_seq (cs_if (ct_or (ct_not (ct_B (ce_call (ca_cons ce_var ca_nil)))) (ct_test (ce_B od_ne ce_var ce_var))) (cs_seq (cs_ret (ce_c fun _ => .bl _)) cs_nx) cs_nx) (cs_seq (cs_if (ct_or (ct_not (ct_B (ce_call (ca_cons ce_var (ca_cons ce_var ca_nil))))) (ct_or (ct_not (ct_B (ce_call (ca_cons ce_var (ca_cons ce_var ca_nil))))) (ct_not (ct_B (ce_call (ca_cons ce_var (ca_cons ce_var ca_nil))))))) (cs_seq (cs_ret (ce_c fun _ => .bl _)) cs_nx) cs_nx) (cs_seq (cs_if (ct_or (ct_not (ct_B (ce_call (ca_cons ce_var (ca_cons ce_var ca_nil))))) (ct_not (ct_B (ce_call (ca_cons ce_var ca_nil))))) (cs_seq (cs_ret (ce_c fun _ => .bl _)) cs_nx) cs_nx) (cs_seq (cs_if (ct_and (ct_test (ce_B od_ne ce_var (ce_c fun _ => .int _))) (ct_not (ct_B (ce_call (ca_cons ce_var (ca_cons ce_var (ca_cons (ce_c fun _ => .str _) ca_nil))))))) (cs_seq (cs_ret (ce_c fun _ => .bl _)) cs_nx) cs_nx) (cs_seq (cs_if (ct_and (ct_test (ce_B od_ne ce_var (ce_c fun _ => .int _))) (ct_and (ct_not (ct_and (ct_test (ce_B od_eq ce_var (ce_neg (ce_c fun _ => .int _)))) (ct_test (ce_B od_eq ce_var (ce_neg (ce_B od_shl (ce_c fun _ => .int _) (ce_c fun _ => .int _))))))) (ct_not (ct_B (ce_call (ca_cons ce_var (ca_cons ce_var (ca_cons (ce_c fun _ => .str _) ca_nil)))))))) (cs_seq (cs_ret (ce_c fun _ => .bl _)) cs_nx) cs_nx) cs_nx)))))))))) (cs_seq (cs_ret (ce_c fun _ => .bl _)) cs_nx))
end
theorem all_mk {l : PySem.W.OpenLaw} {w : World} {K : PySem.W.Frag} {h : Heap} {mg : Str → Option Value} {fa : Addr} {f_width f_unsigned f_extend f_signed f_in_range f_add f_sub f_mul f_quotient f_div_s f_div_u f_rem_s f_rem_u f_bit_and f_bit_or f_bit_xor f_shift_count f_shl f_shr_s f_shr_u f_rotl f_rotr f_eq f_ne f_lt_s f_gt_s f_le_s f_ge_s f_lt_u f_gt_u f_le_u f_ge_u f_eqz f_clz f_ctz f_popcnt f_extend8_s f_extend16_s f_extend32_s f_extend_u f_signature_of f_check_operands f_calculate f_l_is_integer f_l_cell f_l_signed f_l_value f_l_high f_l_low f_l_join f_l_sums f_l_products f_l_bitwise f_l_orders f_l_counted f_l_divided f_law c_HostError c_Trap c_UnknownInstruction c_BadValues fi_Trap fi_UnknownInstruction : Addr} (X : K.In h) (G : h.Ns mainGlobals mg) (hfa : mg "law" = some (.ref fa))
    {od_width an_width od_unsigned an_unsigned od_extend an_extend od_signed an_signed od_in_range an_in_range od_add an_add od_sub an_sub od_mul an_mul od_quotient an_quotient od_div_s an_div_s od_div_u an_div_u od_rem_s an_rem_s od_rem_u an_rem_u od_bit_and an_bit_and od_bit_or an_bit_or od_bit_xor an_bit_xor od_shift_count an_shift_count od_shl an_shl od_shr_s an_shr_s od_shr_u an_shr_u od_rotl an_rotl od_rotr an_rotr od_eq an_eq od_ne an_ne od_lt_s an_lt_s od_gt_s an_gt_s od_le_s an_le_s od_ge_s an_ge_s od_lt_u an_lt_u od_gt_u an_gt_u od_le_u an_le_u od_ge_u an_ge_u od_eqz an_eqz od_clz an_clz od_ctz an_ctz od_popcnt an_popcnt od_extend8_s an_extend8_s od_extend16_s an_extend16_s od_extend32_s an_extend32_s od_extend_u an_extend_u od_signature_of an_signature_of od_check_operands an_check_operands od_calculate an_calculate od_l_is_integer an_l_is_integer od_l_cell an_l_cell od_l_signed an_l_signed od_l_value an_l_value od_l_high an_l_high od_l_low an_l_low od_l_join an_l_join od_l_sums an_l_sums od_l_products an_l_products od_l_bitwise an_l_bitwise od_l_orders an_l_orders od_l_counted an_l_counted od_l_divided an_l_divided od_law an_law od_init_Trap an_init_Trap od_init_UnknownInstruction an_init_UnknownInstruction : Option Addr} {sl_width sl_unsigned sl_extend sl_signed sl_in_range sl_add sl_sub sl_mul sl_quotient sl_div_s sl_div_u sl_rem_s sl_rem_u sl_bit_and sl_bit_or sl_bit_xor sl_shift_count sl_shl sl_shr_s sl_shr_u sl_rotl sl_rotr sl_eq sl_ne sl_lt_s sl_gt_s sl_le_s sl_ge_s sl_lt_u sl_gt_u sl_le_u sl_ge_u sl_eqz sl_clz sl_ctz sl_popcnt sl_extend8_s sl_extend16_s sl_extend32_s sl_extend_u sl_signature_of sl_check_operands sl_calculate sl_l_is_integer sl_l_cell sl_l_signed sl_l_value sl_l_high sl_l_low sl_l_join sl_l_sums sl_l_products sl_l_bitwise sl_l_orders sl_l_counted sl_l_divided sl_law sl_init_Trap sl_init_UnknownInstruction : Array (Option Value)}
    {oc_width kV_width dc_width pm_width cd_width ct_width oc_unsigned kV_unsigned dc_unsigned pm_unsigned cd_unsigned ct_unsigned oc_extend kV_extend dc_extend pm_extend cd_extend ct_extend oc_signed kV_signed dc_signed pm_signed cd_signed ct_signed oc_in_range kV_in_range dc_in_range pm_in_range cd_in_range ct_in_range oc_add kV_add dc_add pm_add cd_add ct_add oc_sub kV_sub dc_sub pm_sub cd_sub ct_sub oc_mul kV_mul dc_mul pm_mul cd_mul ct_mul oc_quotient kV_quotient dc_quotient pm_quotient cd_quotient ct_quotient oc_div_s kV_div_s dc_div_s pm_div_s cd_div_s ct_div_s oc_div_u kV_div_u dc_div_u pm_div_u cd_div_u ct_div_u oc_rem_s kV_rem_s dc_rem_s pm_rem_s cd_rem_s ct_rem_s oc_rem_u kV_rem_u dc_rem_u pm_rem_u cd_rem_u ct_rem_u oc_bit_and kV_bit_and dc_bit_and pm_bit_and cd_bit_and ct_bit_and oc_bit_or kV_bit_or dc_bit_or pm_bit_or cd_bit_or ct_bit_or oc_bit_xor kV_bit_xor dc_bit_xor pm_bit_xor cd_bit_xor ct_bit_xor oc_shift_count kV_shift_count dc_shift_count pm_shift_count cd_shift_count ct_shift_count oc_shl kV_shl dc_shl pm_shl cd_shl ct_shl oc_shr_s kV_shr_s dc_shr_s pm_shr_s cd_shr_s ct_shr_s oc_shr_u kV_shr_u dc_shr_u pm_shr_u cd_shr_u ct_shr_u oc_rotl kV_rotl dc_rotl pm_rotl cd_rotl ct_rotl oc_rotr kV_rotr dc_rotr pm_rotr cd_rotr ct_rotr oc_eq kV_eq dc_eq pm_eq cd_eq ct_eq oc_ne kV_ne dc_ne pm_ne cd_ne ct_ne oc_lt_s kV_lt_s dc_lt_s pm_lt_s cd_lt_s ct_lt_s oc_gt_s kV_gt_s dc_gt_s pm_gt_s cd_gt_s ct_gt_s oc_le_s kV_le_s dc_le_s pm_le_s cd_le_s ct_le_s oc_ge_s kV_ge_s dc_ge_s pm_ge_s cd_ge_s ct_ge_s oc_lt_u kV_lt_u dc_lt_u pm_lt_u cd_lt_u ct_lt_u oc_gt_u kV_gt_u dc_gt_u pm_gt_u cd_gt_u ct_gt_u oc_le_u kV_le_u dc_le_u pm_le_u cd_le_u ct_le_u oc_ge_u kV_ge_u dc_ge_u pm_ge_u cd_ge_u ct_ge_u oc_eqz kV_eqz dc_eqz pm_eqz cd_eqz ct_eqz oc_clz kV_clz dc_clz pm_clz cd_clz ct_clz oc_ctz kV_ctz dc_ctz pm_ctz cd_ctz ct_ctz oc_popcnt kV_popcnt dc_popcnt pm_popcnt cd_popcnt ct_popcnt oc_extend8_s kV_extend8_s dc_extend8_s pm_extend8_s cd_extend8_s ct_extend8_s oc_extend16_s kV_extend16_s dc_extend16_s pm_extend16_s cd_extend16_s ct_extend16_s oc_extend32_s kV_extend32_s dc_extend32_s pm_extend32_s cd_extend32_s ct_extend32_s oc_extend_u kV_extend_u dc_extend_u pm_extend_u cd_extend_u ct_extend_u oc_signature_of kV_signature_of dc_signature_of pm_signature_of cd_signature_of ct_signature_of oc_check_operands kV_check_operands dc_check_operands pm_check_operands cd_check_operands ct_check_operands oc_calculate kV_calculate dc_calculate pm_calculate cd_calculate ct_calculate oc_l_is_integer kV_l_is_integer dc_l_is_integer pm_l_is_integer cd_l_is_integer ct_l_is_integer oc_l_cell kV_l_cell dc_l_cell pm_l_cell cd_l_cell ct_l_cell oc_l_signed kV_l_signed dc_l_signed pm_l_signed cd_l_signed ct_l_signed oc_l_value kV_l_value dc_l_value pm_l_value cd_l_value ct_l_value oc_l_high kV_l_high dc_l_high pm_l_high cd_l_high ct_l_high oc_l_low kV_l_low dc_l_low pm_l_low cd_l_low ct_l_low oc_l_join kV_l_join dc_l_join pm_l_join cd_l_join ct_l_join oc_l_sums kV_l_sums dc_l_sums pm_l_sums cd_l_sums ct_l_sums oc_l_products kV_l_products dc_l_products pm_l_products cd_l_products ct_l_products oc_l_bitwise kV_l_bitwise dc_l_bitwise pm_l_bitwise cd_l_bitwise ct_l_bitwise oc_l_orders kV_l_orders dc_l_orders pm_l_orders cd_l_orders ct_l_orders oc_l_counted kV_l_counted dc_l_counted pm_l_counted cd_l_counted ct_l_counted oc_l_divided kV_l_divided dc_l_divided pm_l_divided cd_l_divided ct_l_divided oc_law kV_law dc_law pm_law cd_law ct_law oc_init_Trap kV_init_Trap dc_init_Trap pm_init_Trap cd_init_Trap ct_init_Trap oc_init_UnknownInstruction kV_init_UnknownInstruction dc_init_UnknownInstruction pm_init_UnknownInstruction cd_init_UnknownInstruction ct_init_UnknownInstruction : Value}
    (a_width : PySem.W.nsIn K mainGlobals "width" = some (some (.ref f_width)))
    (l_width : K.lookup f_width = some ⟨oc_width, od_width, .func (PySem.W.fnOf "width" "width" (defArgs s_width) (defBody s_width) (defScope s_width) .none kV_width dc_width pm_width an_width cd_width ct_width), sl_width⟩)
    (c_width : PySem.W.codeIn K cd_width "width" = true)
    (k_width : PySem.W.keepIn K (.ref f_width) = true)
    (a_unsigned : PySem.W.nsIn K mainGlobals "unsigned" = some (some (.ref f_unsigned)))
    (l_unsigned : K.lookup f_unsigned = some ⟨oc_unsigned, od_unsigned, .func (PySem.W.fnOf "unsigned" "unsigned" (defArgs s_unsigned) (defBody s_unsigned) (defScope s_unsigned) .none kV_unsigned dc_unsigned pm_unsigned an_unsigned cd_unsigned ct_unsigned), sl_unsigned⟩)
    (c_unsigned : PySem.W.codeIn K cd_unsigned "unsigned" = true)
    (k_unsigned : PySem.W.keepIn K (.ref f_unsigned) = true)
    (a_extend : PySem.W.nsIn K mainGlobals "extend" = some (some (.ref f_extend)))
    (l_extend : K.lookup f_extend = some ⟨oc_extend, od_extend, .func (PySem.W.fnOf "extend" "extend" (defArgs s_extend) (defBody s_extend) (defScope s_extend) .none kV_extend dc_extend pm_extend an_extend cd_extend ct_extend), sl_extend⟩)
    (c_extend : PySem.W.codeIn K cd_extend "extend" = true)
    (k_extend : PySem.W.keepIn K (.ref f_extend) = true)
    (a_signed : PySem.W.nsIn K mainGlobals "signed" = some (some (.ref f_signed)))
    (l_signed : K.lookup f_signed = some ⟨oc_signed, od_signed, .func (PySem.W.fnOf "signed" "signed" (defArgs s_signed) (defBody s_signed) (defScope s_signed) .none kV_signed dc_signed pm_signed an_signed cd_signed ct_signed), sl_signed⟩)
    (c_signed : PySem.W.codeIn K cd_signed "signed" = true)
    (k_signed : PySem.W.keepIn K (.ref f_signed) = true)
    (a_in_range : PySem.W.nsIn K mainGlobals "in_range" = some (some (.ref f_in_range)))
    (l_in_range : K.lookup f_in_range = some ⟨oc_in_range, od_in_range, .func (PySem.W.fnOf "in_range" "in_range" (defArgs s_in_range) (defBody s_in_range) (defScope s_in_range) .none kV_in_range dc_in_range pm_in_range an_in_range cd_in_range ct_in_range), sl_in_range⟩)
    (c_in_range : PySem.W.codeIn K cd_in_range "in_range" = true)
    (k_in_range : PySem.W.keepIn K (.ref f_in_range) = true)
    (a_add : PySem.W.nsIn K mainGlobals "add" = some (some (.ref f_add)))
    (l_add : K.lookup f_add = some ⟨oc_add, od_add, .func (PySem.W.fnOf "add" "add" (defArgs s_add) (defBody s_add) (defScope s_add) .none kV_add dc_add pm_add an_add cd_add ct_add), sl_add⟩)
    (c_add : PySem.W.codeIn K cd_add "add" = true)
    (k_add : PySem.W.keepIn K (.ref f_add) = true)
    (a_sub : PySem.W.nsIn K mainGlobals "sub" = some (some (.ref f_sub)))
    (l_sub : K.lookup f_sub = some ⟨oc_sub, od_sub, .func (PySem.W.fnOf "sub" "sub" (defArgs s_sub) (defBody s_sub) (defScope s_sub) .none kV_sub dc_sub pm_sub an_sub cd_sub ct_sub), sl_sub⟩)
    (c_sub : PySem.W.codeIn K cd_sub "sub" = true)
    (k_sub : PySem.W.keepIn K (.ref f_sub) = true)
    (a_mul : PySem.W.nsIn K mainGlobals "mul" = some (some (.ref f_mul)))
    (l_mul : K.lookup f_mul = some ⟨oc_mul, od_mul, .func (PySem.W.fnOf "mul" "mul" (defArgs s_mul) (defBody s_mul) (defScope s_mul) .none kV_mul dc_mul pm_mul an_mul cd_mul ct_mul), sl_mul⟩)
    (c_mul : PySem.W.codeIn K cd_mul "mul" = true)
    (k_mul : PySem.W.keepIn K (.ref f_mul) = true)
    (a_quotient : PySem.W.nsIn K mainGlobals "quotient" = some (some (.ref f_quotient)))
    (l_quotient : K.lookup f_quotient = some ⟨oc_quotient, od_quotient, .func (PySem.W.fnOf "quotient" "quotient" (defArgs s_quotient) (defBody s_quotient) (defScope s_quotient) .none kV_quotient dc_quotient pm_quotient an_quotient cd_quotient ct_quotient), sl_quotient⟩)
    (c_quotient : PySem.W.codeIn K cd_quotient "quotient" = true)
    (k_quotient : PySem.W.keepIn K (.ref f_quotient) = true)
    (a_div_s : PySem.W.nsIn K mainGlobals "div_s" = some (some (.ref f_div_s)))
    (l_div_s : K.lookup f_div_s = some ⟨oc_div_s, od_div_s, .func (PySem.W.fnOf "div_s" "div_s" (defArgs s_div_s) (defBody s_div_s) (defScope s_div_s) .none kV_div_s dc_div_s pm_div_s an_div_s cd_div_s ct_div_s), sl_div_s⟩)
    (c_div_s : PySem.W.codeIn K cd_div_s "div_s" = true)
    (k_div_s : PySem.W.keepIn K (.ref f_div_s) = true)
    (a_div_u : PySem.W.nsIn K mainGlobals "div_u" = some (some (.ref f_div_u)))
    (l_div_u : K.lookup f_div_u = some ⟨oc_div_u, od_div_u, .func (PySem.W.fnOf "div_u" "div_u" (defArgs s_div_u) (defBody s_div_u) (defScope s_div_u) .none kV_div_u dc_div_u pm_div_u an_div_u cd_div_u ct_div_u), sl_div_u⟩)
    (c_div_u : PySem.W.codeIn K cd_div_u "div_u" = true)
    (k_div_u : PySem.W.keepIn K (.ref f_div_u) = true)
    (a_rem_s : PySem.W.nsIn K mainGlobals "rem_s" = some (some (.ref f_rem_s)))
    (l_rem_s : K.lookup f_rem_s = some ⟨oc_rem_s, od_rem_s, .func (PySem.W.fnOf "rem_s" "rem_s" (defArgs s_rem_s) (defBody s_rem_s) (defScope s_rem_s) .none kV_rem_s dc_rem_s pm_rem_s an_rem_s cd_rem_s ct_rem_s), sl_rem_s⟩)
    (c_rem_s : PySem.W.codeIn K cd_rem_s "rem_s" = true)
    (k_rem_s : PySem.W.keepIn K (.ref f_rem_s) = true)
    (a_rem_u : PySem.W.nsIn K mainGlobals "rem_u" = some (some (.ref f_rem_u)))
    (l_rem_u : K.lookup f_rem_u = some ⟨oc_rem_u, od_rem_u, .func (PySem.W.fnOf "rem_u" "rem_u" (defArgs s_rem_u) (defBody s_rem_u) (defScope s_rem_u) .none kV_rem_u dc_rem_u pm_rem_u an_rem_u cd_rem_u ct_rem_u), sl_rem_u⟩)
    (c_rem_u : PySem.W.codeIn K cd_rem_u "rem_u" = true)
    (k_rem_u : PySem.W.keepIn K (.ref f_rem_u) = true)
    (a_bit_and : PySem.W.nsIn K mainGlobals "bit_and" = some (some (.ref f_bit_and)))
    (l_bit_and : K.lookup f_bit_and = some ⟨oc_bit_and, od_bit_and, .func (PySem.W.fnOf "bit_and" "bit_and" (defArgs s_bit_and) (defBody s_bit_and) (defScope s_bit_and) .none kV_bit_and dc_bit_and pm_bit_and an_bit_and cd_bit_and ct_bit_and), sl_bit_and⟩)
    (c_bit_and : PySem.W.codeIn K cd_bit_and "bit_and" = true)
    (k_bit_and : PySem.W.keepIn K (.ref f_bit_and) = true)
    (a_bit_or : PySem.W.nsIn K mainGlobals "bit_or" = some (some (.ref f_bit_or)))
    (l_bit_or : K.lookup f_bit_or = some ⟨oc_bit_or, od_bit_or, .func (PySem.W.fnOf "bit_or" "bit_or" (defArgs s_bit_or) (defBody s_bit_or) (defScope s_bit_or) .none kV_bit_or dc_bit_or pm_bit_or an_bit_or cd_bit_or ct_bit_or), sl_bit_or⟩)
    (c_bit_or : PySem.W.codeIn K cd_bit_or "bit_or" = true)
    (k_bit_or : PySem.W.keepIn K (.ref f_bit_or) = true)
    (a_bit_xor : PySem.W.nsIn K mainGlobals "bit_xor" = some (some (.ref f_bit_xor)))
    (l_bit_xor : K.lookup f_bit_xor = some ⟨oc_bit_xor, od_bit_xor, .func (PySem.W.fnOf "bit_xor" "bit_xor" (defArgs s_bit_xor) (defBody s_bit_xor) (defScope s_bit_xor) .none kV_bit_xor dc_bit_xor pm_bit_xor an_bit_xor cd_bit_xor ct_bit_xor), sl_bit_xor⟩)
    (c_bit_xor : PySem.W.codeIn K cd_bit_xor "bit_xor" = true)
    (k_bit_xor : PySem.W.keepIn K (.ref f_bit_xor) = true)
    (a_shift_count : PySem.W.nsIn K mainGlobals "shift_count" = some (some (.ref f_shift_count)))
    (l_shift_count : K.lookup f_shift_count = some ⟨oc_shift_count, od_shift_count, .func (PySem.W.fnOf "shift_count" "shift_count" (defArgs s_shift_count) (defBody s_shift_count) (defScope s_shift_count) .none kV_shift_count dc_shift_count pm_shift_count an_shift_count cd_shift_count ct_shift_count), sl_shift_count⟩)
    (c_shift_count : PySem.W.codeIn K cd_shift_count "shift_count" = true)
    (k_shift_count : PySem.W.keepIn K (.ref f_shift_count) = true)
    (a_shl : PySem.W.nsIn K mainGlobals "shl" = some (some (.ref f_shl)))
    (l_shl : K.lookup f_shl = some ⟨oc_shl, od_shl, .func (PySem.W.fnOf "shl" "shl" (defArgs s_shl) (defBody s_shl) (defScope s_shl) .none kV_shl dc_shl pm_shl an_shl cd_shl ct_shl), sl_shl⟩)
    (c_shl : PySem.W.codeIn K cd_shl "shl" = true)
    (k_shl : PySem.W.keepIn K (.ref f_shl) = true)
    (a_shr_s : PySem.W.nsIn K mainGlobals "shr_s" = some (some (.ref f_shr_s)))
    (l_shr_s : K.lookup f_shr_s = some ⟨oc_shr_s, od_shr_s, .func (PySem.W.fnOf "shr_s" "shr_s" (defArgs s_shr_s) (defBody s_shr_s) (defScope s_shr_s) .none kV_shr_s dc_shr_s pm_shr_s an_shr_s cd_shr_s ct_shr_s), sl_shr_s⟩)
    (c_shr_s : PySem.W.codeIn K cd_shr_s "shr_s" = true)
    (k_shr_s : PySem.W.keepIn K (.ref f_shr_s) = true)
    (a_shr_u : PySem.W.nsIn K mainGlobals "shr_u" = some (some (.ref f_shr_u)))
    (l_shr_u : K.lookup f_shr_u = some ⟨oc_shr_u, od_shr_u, .func (PySem.W.fnOf "shr_u" "shr_u" (defArgs s_shr_u) (defBody s_shr_u) (defScope s_shr_u) .none kV_shr_u dc_shr_u pm_shr_u an_shr_u cd_shr_u ct_shr_u), sl_shr_u⟩)
    (c_shr_u : PySem.W.codeIn K cd_shr_u "shr_u" = true)
    (k_shr_u : PySem.W.keepIn K (.ref f_shr_u) = true)
    (a_rotl : PySem.W.nsIn K mainGlobals "rotl" = some (some (.ref f_rotl)))
    (l_rotl : K.lookup f_rotl = some ⟨oc_rotl, od_rotl, .func (PySem.W.fnOf "rotl" "rotl" (defArgs s_rotl) (defBody s_rotl) (defScope s_rotl) .none kV_rotl dc_rotl pm_rotl an_rotl cd_rotl ct_rotl), sl_rotl⟩)
    (c_rotl : PySem.W.codeIn K cd_rotl "rotl" = true)
    (k_rotl : PySem.W.keepIn K (.ref f_rotl) = true)
    (a_rotr : PySem.W.nsIn K mainGlobals "rotr" = some (some (.ref f_rotr)))
    (l_rotr : K.lookup f_rotr = some ⟨oc_rotr, od_rotr, .func (PySem.W.fnOf "rotr" "rotr" (defArgs s_rotr) (defBody s_rotr) (defScope s_rotr) .none kV_rotr dc_rotr pm_rotr an_rotr cd_rotr ct_rotr), sl_rotr⟩)
    (c_rotr : PySem.W.codeIn K cd_rotr "rotr" = true)
    (k_rotr : PySem.W.keepIn K (.ref f_rotr) = true)
    (a_eq : PySem.W.nsIn K mainGlobals "eq" = some (some (.ref f_eq)))
    (l_eq : K.lookup f_eq = some ⟨oc_eq, od_eq, .func (PySem.W.fnOf "eq" "eq" (defArgs s_eq) (defBody s_eq) (defScope s_eq) .none kV_eq dc_eq pm_eq an_eq cd_eq ct_eq), sl_eq⟩)
    (c_eq : PySem.W.codeIn K cd_eq "eq" = true)
    (k_eq : PySem.W.keepIn K (.ref f_eq) = true)
    (a_ne : PySem.W.nsIn K mainGlobals "ne" = some (some (.ref f_ne)))
    (l_ne : K.lookup f_ne = some ⟨oc_ne, od_ne, .func (PySem.W.fnOf "ne" "ne" (defArgs s_ne) (defBody s_ne) (defScope s_ne) .none kV_ne dc_ne pm_ne an_ne cd_ne ct_ne), sl_ne⟩)
    (c_ne : PySem.W.codeIn K cd_ne "ne" = true)
    (k_ne : PySem.W.keepIn K (.ref f_ne) = true)
    (a_lt_s : PySem.W.nsIn K mainGlobals "lt_s" = some (some (.ref f_lt_s)))
    (l_lt_s : K.lookup f_lt_s = some ⟨oc_lt_s, od_lt_s, .func (PySem.W.fnOf "lt_s" "lt_s" (defArgs s_lt_s) (defBody s_lt_s) (defScope s_lt_s) .none kV_lt_s dc_lt_s pm_lt_s an_lt_s cd_lt_s ct_lt_s), sl_lt_s⟩)
    (c_lt_s : PySem.W.codeIn K cd_lt_s "lt_s" = true)
    (k_lt_s : PySem.W.keepIn K (.ref f_lt_s) = true)
    (a_gt_s : PySem.W.nsIn K mainGlobals "gt_s" = some (some (.ref f_gt_s)))
    (l_gt_s : K.lookup f_gt_s = some ⟨oc_gt_s, od_gt_s, .func (PySem.W.fnOf "gt_s" "gt_s" (defArgs s_gt_s) (defBody s_gt_s) (defScope s_gt_s) .none kV_gt_s dc_gt_s pm_gt_s an_gt_s cd_gt_s ct_gt_s), sl_gt_s⟩)
    (c_gt_s : PySem.W.codeIn K cd_gt_s "gt_s" = true)
    (k_gt_s : PySem.W.keepIn K (.ref f_gt_s) = true)
    (a_le_s : PySem.W.nsIn K mainGlobals "le_s" = some (some (.ref f_le_s)))
    (l_le_s : K.lookup f_le_s = some ⟨oc_le_s, od_le_s, .func (PySem.W.fnOf "le_s" "le_s" (defArgs s_le_s) (defBody s_le_s) (defScope s_le_s) .none kV_le_s dc_le_s pm_le_s an_le_s cd_le_s ct_le_s), sl_le_s⟩)
    (c_le_s : PySem.W.codeIn K cd_le_s "le_s" = true)
    (k_le_s : PySem.W.keepIn K (.ref f_le_s) = true)
    (a_ge_s : PySem.W.nsIn K mainGlobals "ge_s" = some (some (.ref f_ge_s)))
    (l_ge_s : K.lookup f_ge_s = some ⟨oc_ge_s, od_ge_s, .func (PySem.W.fnOf "ge_s" "ge_s" (defArgs s_ge_s) (defBody s_ge_s) (defScope s_ge_s) .none kV_ge_s dc_ge_s pm_ge_s an_ge_s cd_ge_s ct_ge_s), sl_ge_s⟩)
    (c_ge_s : PySem.W.codeIn K cd_ge_s "ge_s" = true)
    (k_ge_s : PySem.W.keepIn K (.ref f_ge_s) = true)
    (a_lt_u : PySem.W.nsIn K mainGlobals "lt_u" = some (some (.ref f_lt_u)))
    (l_lt_u : K.lookup f_lt_u = some ⟨oc_lt_u, od_lt_u, .func (PySem.W.fnOf "lt_u" "lt_u" (defArgs s_lt_u) (defBody s_lt_u) (defScope s_lt_u) .none kV_lt_u dc_lt_u pm_lt_u an_lt_u cd_lt_u ct_lt_u), sl_lt_u⟩)
    (c_lt_u : PySem.W.codeIn K cd_lt_u "lt_u" = true)
    (k_lt_u : PySem.W.keepIn K (.ref f_lt_u) = true)
    (a_gt_u : PySem.W.nsIn K mainGlobals "gt_u" = some (some (.ref f_gt_u)))
    (l_gt_u : K.lookup f_gt_u = some ⟨oc_gt_u, od_gt_u, .func (PySem.W.fnOf "gt_u" "gt_u" (defArgs s_gt_u) (defBody s_gt_u) (defScope s_gt_u) .none kV_gt_u dc_gt_u pm_gt_u an_gt_u cd_gt_u ct_gt_u), sl_gt_u⟩)
    (c_gt_u : PySem.W.codeIn K cd_gt_u "gt_u" = true)
    (k_gt_u : PySem.W.keepIn K (.ref f_gt_u) = true)
    (a_le_u : PySem.W.nsIn K mainGlobals "le_u" = some (some (.ref f_le_u)))
    (l_le_u : K.lookup f_le_u = some ⟨oc_le_u, od_le_u, .func (PySem.W.fnOf "le_u" "le_u" (defArgs s_le_u) (defBody s_le_u) (defScope s_le_u) .none kV_le_u dc_le_u pm_le_u an_le_u cd_le_u ct_le_u), sl_le_u⟩)
    (c_le_u : PySem.W.codeIn K cd_le_u "le_u" = true)
    (k_le_u : PySem.W.keepIn K (.ref f_le_u) = true)
    (a_ge_u : PySem.W.nsIn K mainGlobals "ge_u" = some (some (.ref f_ge_u)))
    (l_ge_u : K.lookup f_ge_u = some ⟨oc_ge_u, od_ge_u, .func (PySem.W.fnOf "ge_u" "ge_u" (defArgs s_ge_u) (defBody s_ge_u) (defScope s_ge_u) .none kV_ge_u dc_ge_u pm_ge_u an_ge_u cd_ge_u ct_ge_u), sl_ge_u⟩)
    (c_ge_u : PySem.W.codeIn K cd_ge_u "ge_u" = true)
    (k_ge_u : PySem.W.keepIn K (.ref f_ge_u) = true)
    (a_eqz : PySem.W.nsIn K mainGlobals "eqz" = some (some (.ref f_eqz)))
    (l_eqz : K.lookup f_eqz = some ⟨oc_eqz, od_eqz, .func (PySem.W.fnOf "eqz" "eqz" (defArgs s_eqz) (defBody s_eqz) (defScope s_eqz) .none kV_eqz dc_eqz pm_eqz an_eqz cd_eqz ct_eqz), sl_eqz⟩)
    (c_eqz : PySem.W.codeIn K cd_eqz "eqz" = true)
    (k_eqz : PySem.W.keepIn K (.ref f_eqz) = true)
    (a_clz : PySem.W.nsIn K mainGlobals "clz" = some (some (.ref f_clz)))
    (l_clz : K.lookup f_clz = some ⟨oc_clz, od_clz, .func (PySem.W.fnOf "clz" "clz" (defArgs s_clz) (defBody s_clz) (defScope s_clz) .none kV_clz dc_clz pm_clz an_clz cd_clz ct_clz), sl_clz⟩)
    (c_clz : PySem.W.codeIn K cd_clz "clz" = true)
    (k_clz : PySem.W.keepIn K (.ref f_clz) = true)
    (a_ctz : PySem.W.nsIn K mainGlobals "ctz" = some (some (.ref f_ctz)))
    (l_ctz : K.lookup f_ctz = some ⟨oc_ctz, od_ctz, .func (PySem.W.fnOf "ctz" "ctz" (defArgs s_ctz) (defBody s_ctz) (defScope s_ctz) .none kV_ctz dc_ctz pm_ctz an_ctz cd_ctz ct_ctz), sl_ctz⟩)
    (c_ctz : PySem.W.codeIn K cd_ctz "ctz" = true)
    (k_ctz : PySem.W.keepIn K (.ref f_ctz) = true)
    (a_popcnt : PySem.W.nsIn K mainGlobals "popcnt" = some (some (.ref f_popcnt)))
    (l_popcnt : K.lookup f_popcnt = some ⟨oc_popcnt, od_popcnt, .func (PySem.W.fnOf "popcnt" "popcnt" (defArgs s_popcnt) (defBody s_popcnt) (defScope s_popcnt) .none kV_popcnt dc_popcnt pm_popcnt an_popcnt cd_popcnt ct_popcnt), sl_popcnt⟩)
    (c_popcnt : PySem.W.codeIn K cd_popcnt "popcnt" = true)
    (k_popcnt : PySem.W.keepIn K (.ref f_popcnt) = true)
    (a_extend8_s : PySem.W.nsIn K mainGlobals "extend8_s" = some (some (.ref f_extend8_s)))
    (l_extend8_s : K.lookup f_extend8_s = some ⟨oc_extend8_s, od_extend8_s, .func (PySem.W.fnOf "extend8_s" "extend8_s" (defArgs s_extend8_s) (defBody s_extend8_s) (defScope s_extend8_s) .none kV_extend8_s dc_extend8_s pm_extend8_s an_extend8_s cd_extend8_s ct_extend8_s), sl_extend8_s⟩)
    (c_extend8_s : PySem.W.codeIn K cd_extend8_s "extend8_s" = true)
    (k_extend8_s : PySem.W.keepIn K (.ref f_extend8_s) = true)
    (a_extend16_s : PySem.W.nsIn K mainGlobals "extend16_s" = some (some (.ref f_extend16_s)))
    (l_extend16_s : K.lookup f_extend16_s = some ⟨oc_extend16_s, od_extend16_s, .func (PySem.W.fnOf "extend16_s" "extend16_s" (defArgs s_extend16_s) (defBody s_extend16_s) (defScope s_extend16_s) .none kV_extend16_s dc_extend16_s pm_extend16_s an_extend16_s cd_extend16_s ct_extend16_s), sl_extend16_s⟩)
    (c_extend16_s : PySem.W.codeIn K cd_extend16_s "extend16_s" = true)
    (k_extend16_s : PySem.W.keepIn K (.ref f_extend16_s) = true)
    (a_extend32_s : PySem.W.nsIn K mainGlobals "extend32_s" = some (some (.ref f_extend32_s)))
    (l_extend32_s : K.lookup f_extend32_s = some ⟨oc_extend32_s, od_extend32_s, .func (PySem.W.fnOf "extend32_s" "extend32_s" (defArgs s_extend32_s) (defBody s_extend32_s) (defScope s_extend32_s) .none kV_extend32_s dc_extend32_s pm_extend32_s an_extend32_s cd_extend32_s ct_extend32_s), sl_extend32_s⟩)
    (c_extend32_s : PySem.W.codeIn K cd_extend32_s "extend32_s" = true)
    (k_extend32_s : PySem.W.keepIn K (.ref f_extend32_s) = true)
    (a_extend_u : PySem.W.nsIn K mainGlobals "extend_u" = some (some (.ref f_extend_u)))
    (l_extend_u : K.lookup f_extend_u = some ⟨oc_extend_u, od_extend_u, .func (PySem.W.fnOf "extend_u" "extend_u" (defArgs s_extend_u) (defBody s_extend_u) (defScope s_extend_u) .none kV_extend_u dc_extend_u pm_extend_u an_extend_u cd_extend_u ct_extend_u), sl_extend_u⟩)
    (c_extend_u : PySem.W.codeIn K cd_extend_u "extend_u" = true)
    (k_extend_u : PySem.W.keepIn K (.ref f_extend_u) = true)
    (a_signature_of : PySem.W.nsIn K mainGlobals "signature_of" = some (some (.ref f_signature_of)))
    (l_signature_of : K.lookup f_signature_of = some ⟨oc_signature_of, od_signature_of, .func (PySem.W.fnOf "signature_of" "signature_of" (defArgs s_signature_of) (defBody s_signature_of) (defScope s_signature_of) .none kV_signature_of dc_signature_of pm_signature_of an_signature_of cd_signature_of ct_signature_of), sl_signature_of⟩)
    (c_signature_of : PySem.W.codeIn K cd_signature_of "signature_of" = true)
    (k_signature_of : PySem.W.keepIn K (.ref f_signature_of) = true)
    (a_check_operands : PySem.W.nsIn K mainGlobals "check_operands" = some (some (.ref f_check_operands)))
    (l_check_operands : K.lookup f_check_operands = some ⟨oc_check_operands, od_check_operands, .func (PySem.W.fnOf "check_operands" "check_operands" (defArgs s_check_operands) (defBody s_check_operands) (defScope s_check_operands) .none kV_check_operands dc_check_operands pm_check_operands an_check_operands cd_check_operands ct_check_operands), sl_check_operands⟩)
    (c_check_operands : PySem.W.codeIn K cd_check_operands "check_operands" = true)
    (k_check_operands : PySem.W.keepIn K (.ref f_check_operands) = true)
    (a_calculate : PySem.W.nsIn K mainGlobals "calculate" = some (some (.ref f_calculate)))
    (l_calculate : K.lookup f_calculate = some ⟨oc_calculate, od_calculate, .func (PySem.W.fnOf "calculate" "calculate" (defArgs s_calculate) (defBody s_calculate) (defScope s_calculate) .none kV_calculate dc_calculate pm_calculate an_calculate cd_calculate ct_calculate), sl_calculate⟩)
    (c_calculate : PySem.W.codeIn K cd_calculate "calculate" = true)
    (k_calculate : PySem.W.keepIn K (.ref f_calculate) = true)
    (a_l_is_integer : PySem.W.nsIn K mainGlobals "_law_is_integer" = some (some (.ref f_l_is_integer)))
    (l_l_is_integer : K.lookup f_l_is_integer = some ⟨oc_l_is_integer, od_l_is_integer, .func (PySem.W.fnOf "_law_is_integer" "_law_is_integer" (defArgs s_l_is_integer) (defBody s_l_is_integer) (defScope s_l_is_integer) .none kV_l_is_integer dc_l_is_integer pm_l_is_integer an_l_is_integer cd_l_is_integer ct_l_is_integer), sl_l_is_integer⟩)
    (c_l_is_integer : PySem.W.codeIn K cd_l_is_integer "_law_is_integer" = true)
    (k_l_is_integer : PySem.W.keepIn K (.ref f_l_is_integer) = true)
    (a_l_cell : PySem.W.nsIn K mainGlobals "_law_cell" = some (some (.ref f_l_cell)))
    (l_l_cell : K.lookup f_l_cell = some ⟨oc_l_cell, od_l_cell, .func (PySem.W.fnOf "_law_cell" "_law_cell" (defArgs s_l_cell) (defBody s_l_cell) (defScope s_l_cell) .none kV_l_cell dc_l_cell pm_l_cell an_l_cell cd_l_cell ct_l_cell), sl_l_cell⟩)
    (c_l_cell : PySem.W.codeIn K cd_l_cell "_law_cell" = true)
    (k_l_cell : PySem.W.keepIn K (.ref f_l_cell) = true)
    (a_l_signed : PySem.W.nsIn K mainGlobals "_law_signed" = some (some (.ref f_l_signed)))
    (l_l_signed : K.lookup f_l_signed = some ⟨oc_l_signed, od_l_signed, .func (PySem.W.fnOf "_law_signed" "_law_signed" (defArgs s_l_signed) (defBody s_l_signed) (defScope s_l_signed) .none kV_l_signed dc_l_signed pm_l_signed an_l_signed cd_l_signed ct_l_signed), sl_l_signed⟩)
    (c_l_signed : PySem.W.codeIn K cd_l_signed "_law_signed" = true)
    (k_l_signed : PySem.W.keepIn K (.ref f_l_signed) = true)
    (a_l_value : PySem.W.nsIn K mainGlobals "_law_value" = some (some (.ref f_l_value)))
    (l_l_value : K.lookup f_l_value = some ⟨oc_l_value, od_l_value, .func (PySem.W.fnOf "_law_value" "_law_value" (defArgs s_l_value) (defBody s_l_value) (defScope s_l_value) .none kV_l_value dc_l_value pm_l_value an_l_value cd_l_value ct_l_value), sl_l_value⟩)
    (c_l_value : PySem.W.codeIn K cd_l_value "_law_value" = true)
    (k_l_value : PySem.W.keepIn K (.ref f_l_value) = true)
    (a_l_high : PySem.W.nsIn K mainGlobals "_law_high" = some (some (.ref f_l_high)))
    (l_l_high : K.lookup f_l_high = some ⟨oc_l_high, od_l_high, .func (PySem.W.fnOf "_law_high" "_law_high" (defArgs s_l_high) (defBody s_l_high) (defScope s_l_high) .none kV_l_high dc_l_high pm_l_high an_l_high cd_l_high ct_l_high), sl_l_high⟩)
    (c_l_high : PySem.W.codeIn K cd_l_high "_law_high" = true)
    (k_l_high : PySem.W.keepIn K (.ref f_l_high) = true)
    (a_l_low : PySem.W.nsIn K mainGlobals "_law_low" = some (some (.ref f_l_low)))
    (l_l_low : K.lookup f_l_low = some ⟨oc_l_low, od_l_low, .func (PySem.W.fnOf "_law_low" "_law_low" (defArgs s_l_low) (defBody s_l_low) (defScope s_l_low) .none kV_l_low dc_l_low pm_l_low an_l_low cd_l_low ct_l_low), sl_l_low⟩)
    (c_l_low : PySem.W.codeIn K cd_l_low "_law_low" = true)
    (k_l_low : PySem.W.keepIn K (.ref f_l_low) = true)
    (a_l_join : PySem.W.nsIn K mainGlobals "_law_join" = some (some (.ref f_l_join)))
    (l_l_join : K.lookup f_l_join = some ⟨oc_l_join, od_l_join, .func (PySem.W.fnOf "_law_join" "_law_join" (defArgs s_l_join) (defBody s_l_join) (defScope s_l_join) .none kV_l_join dc_l_join pm_l_join an_l_join cd_l_join ct_l_join), sl_l_join⟩)
    (c_l_join : PySem.W.codeIn K cd_l_join "_law_join" = true)
    (k_l_join : PySem.W.keepIn K (.ref f_l_join) = true)
    (a_l_sums : PySem.W.nsIn K mainGlobals "_law_sums" = some (some (.ref f_l_sums)))
    (l_l_sums : K.lookup f_l_sums = some ⟨oc_l_sums, od_l_sums, .func (PySem.W.fnOf "_law_sums" "_law_sums" (defArgs s_l_sums) (defBody s_l_sums) (defScope s_l_sums) .none kV_l_sums dc_l_sums pm_l_sums an_l_sums cd_l_sums ct_l_sums), sl_l_sums⟩)
    (c_l_sums : PySem.W.codeIn K cd_l_sums "_law_sums" = true)
    (k_l_sums : PySem.W.keepIn K (.ref f_l_sums) = true)
    (a_l_products : PySem.W.nsIn K mainGlobals "_law_products" = some (some (.ref f_l_products)))
    (l_l_products : K.lookup f_l_products = some ⟨oc_l_products, od_l_products, .func (PySem.W.fnOf "_law_products" "_law_products" (defArgs s_l_products) (defBody s_l_products) (defScope s_l_products) .none kV_l_products dc_l_products pm_l_products an_l_products cd_l_products ct_l_products), sl_l_products⟩)
    (c_l_products : PySem.W.codeIn K cd_l_products "_law_products" = true)
    (k_l_products : PySem.W.keepIn K (.ref f_l_products) = true)
    (a_l_bitwise : PySem.W.nsIn K mainGlobals "_law_bitwise" = some (some (.ref f_l_bitwise)))
    (l_l_bitwise : K.lookup f_l_bitwise = some ⟨oc_l_bitwise, od_l_bitwise, .func (PySem.W.fnOf "_law_bitwise" "_law_bitwise" (defArgs s_l_bitwise) (defBody s_l_bitwise) (defScope s_l_bitwise) .none kV_l_bitwise dc_l_bitwise pm_l_bitwise an_l_bitwise cd_l_bitwise ct_l_bitwise), sl_l_bitwise⟩)
    (c_l_bitwise : PySem.W.codeIn K cd_l_bitwise "_law_bitwise" = true)
    (k_l_bitwise : PySem.W.keepIn K (.ref f_l_bitwise) = true)
    (a_l_orders : PySem.W.nsIn K mainGlobals "_law_orders" = some (some (.ref f_l_orders)))
    (l_l_orders : K.lookup f_l_orders = some ⟨oc_l_orders, od_l_orders, .func (PySem.W.fnOf "_law_orders" "_law_orders" (defArgs s_l_orders) (defBody s_l_orders) (defScope s_l_orders) .none kV_l_orders dc_l_orders pm_l_orders an_l_orders cd_l_orders ct_l_orders), sl_l_orders⟩)
    (c_l_orders : PySem.W.codeIn K cd_l_orders "_law_orders" = true)
    (k_l_orders : PySem.W.keepIn K (.ref f_l_orders) = true)
    (a_l_counted : PySem.W.nsIn K mainGlobals "_law_counted" = some (some (.ref f_l_counted)))
    (l_l_counted : K.lookup f_l_counted = some ⟨oc_l_counted, od_l_counted, .func (PySem.W.fnOf "_law_counted" "_law_counted" (defArgs s_l_counted) (defBody s_l_counted) (defScope s_l_counted) .none kV_l_counted dc_l_counted pm_l_counted an_l_counted cd_l_counted ct_l_counted), sl_l_counted⟩)
    (c_l_counted : PySem.W.codeIn K cd_l_counted "_law_counted" = true)
    (k_l_counted : PySem.W.keepIn K (.ref f_l_counted) = true)
    (a_l_divided : PySem.W.nsIn K mainGlobals "_law_divided" = some (some (.ref f_l_divided)))
    (l_l_divided : K.lookup f_l_divided = some ⟨oc_l_divided, od_l_divided, .func (PySem.W.fnOf "_law_divided" "_law_divided" (defArgs s_l_divided) (defBody s_l_divided) (defScope s_l_divided) .none kV_l_divided dc_l_divided pm_l_divided an_l_divided cd_l_divided ct_l_divided), sl_l_divided⟩)
    (c_l_divided : PySem.W.codeIn K cd_l_divided "_law_divided" = true)
    (k_l_divided : PySem.W.keepIn K (.ref f_l_divided) = true)
    (a_law : PySem.W.nsIn K mainGlobals "law" = some (some (.ref f_law)))
    (l_law : K.lookup f_law = some ⟨oc_law, od_law, .func (PySem.W.fnOf "law" "law" (defArgs s_law) (defBody s_law) (defScope s_law) .none kV_law dc_law pm_law an_law cd_law ct_law), sl_law⟩)
    (c_law : PySem.W.codeIn K cd_law "law" = true)
    (k_law : PySem.W.keepIn K (.ref f_law) = true)
    (z_abs : PySem.W.nsIn K mainGlobals "abs" = some none)
    (z_bool : PySem.W.nsIn K mainGlobals "bool" = some none)
    (z_int : PySem.W.nsIn K mainGlobals "int" = some none)
    (z_isinstance : PySem.W.nsIn K mainGlobals "isinstance" = some none)
    (z_len : PySem.W.nsIn K mainGlobals "len" = some none)
    (z_max : PySem.W.nsIn K mainGlobals "max" = some none)
    (z_min : PySem.W.nsIn K mainGlobals "min" = some none)
    (z_range : PySem.W.nsIn K mainGlobals "range" = some none)
    (z_sum : PySem.W.nsIn K mainGlobals "sum" = some none)
    (z_zip : PySem.W.nsIn K mainGlobals "zip" = some none)
    {a_ARITHMETIC : Addr} {es_ARITHMETIC : Array DictEntry} {n_ARITHMETIC : Nat}
    (m_ARITHMETIC : PySem.W.nsIn K mainGlobals "ARITHMETIC" = some (some (.ref a_ARITHMETIC)))
    (l_ARITHMETIC : K.lookup a_ARITHMETIC = some ⟨.type "dict", none, .dict es_ARITHMETIC n_ARITHMETIC, #[]⟩)
    (en_ARITHMETIC : EntsK w.params ((["add", "sub", "mul", "div_s", "div_u", "rem_s", "rem_u", "and", "or", "xor", "shl", "shr_s", "shr_u", "rotl", "rotr"] : List Str).zip ([.ref f_add, .ref f_sub, .ref f_mul, .ref f_div_s, .ref f_div_u, .ref f_rem_s, .ref f_rem_u, .ref f_bit_and, .ref f_bit_or, .ref f_bit_xor, .ref f_shl, .ref f_shr_s, .ref f_shr_u, .ref f_rotl, .ref f_rotr] : List L2.V)) es_ARITHMETIC.toList)
    (lo_ARITHMETIC : (a_ARITHMETIC == sysModules) = false)
    {a_COMPARISONS : Addr} {es_COMPARISONS : Array DictEntry} {n_COMPARISONS : Nat}
    (m_COMPARISONS : PySem.W.nsIn K mainGlobals "COMPARISONS" = some (some (.ref a_COMPARISONS)))
    (l_COMPARISONS : K.lookup a_COMPARISONS = some ⟨.type "dict", none, .dict es_COMPARISONS n_COMPARISONS, #[]⟩)
    (en_COMPARISONS : EntsK w.params ((["eq", "ne", "lt_s", "lt_u", "gt_s", "gt_u", "le_s", "le_u", "ge_s", "ge_u"] : List Str).zip ([.ref f_eq, .ref f_ne, .ref f_lt_s, .ref f_lt_u, .ref f_gt_s, .ref f_gt_u, .ref f_le_s, .ref f_le_u, .ref f_ge_s, .ref f_ge_u] : List L2.V)) es_COMPARISONS.toList)
    (lo_COMPARISONS : (a_COMPARISONS == sysModules) = false)
    {a_CONVERSIONS : Addr} {es_CONVERSIONS : Array DictEntry} {n_CONVERSIONS : Nat}
    (m_CONVERSIONS : PySem.W.nsIn K mainGlobals "CONVERSIONS" = some (some (.ref a_CONVERSIONS)))
    (l_CONVERSIONS : K.lookup a_CONVERSIONS = some ⟨.type "dict", none, .dict es_CONVERSIONS n_CONVERSIONS, #[]⟩)
    (en_CONVERSIONS : EntsK w.params ((["i32.wrap_i64", "i64.extend_i32_s", "i64.extend_i32_u"] : List Str).zip ([.ref f_extend32_s, .ref f_extend32_s, .ref f_extend_u] : List L2.V)) es_CONVERSIONS.toList)
    (lo_CONVERSIONS : (a_CONVERSIONS == sysModules) = false)
    {a_COUNTS : Addr} {es_COUNTS : Array DictEntry} {n_COUNTS : Nat}
    (m_COUNTS : PySem.W.nsIn K mainGlobals "COUNTS" = some (some (.ref a_COUNTS)))
    (l_COUNTS : K.lookup a_COUNTS = some ⟨.type "dict", none, .dict es_COUNTS n_COUNTS, #[]⟩)
    (en_COUNTS : EntsK w.params ((["clz", "ctz", "popcnt", "extend8_s", "extend16_s"] : List Str).zip ([.ref f_clz, .ref f_ctz, .ref f_popcnt, .ref f_extend8_s, .ref f_extend16_s] : List L2.V)) es_COUNTS.toList)
    (lo_COUNTS : (a_COUNTS == sysModules) = false)
    {a_INSTRUCTIONS : Addr}
    (v_INSTRUCTIONS : PySem.W.nsIn K mainGlobals "INSTRUCTIONS" = some (some (.ref a_INSTRUCTIONS)))
    (kd_INSTRUCTIONS : isD K [] 6 (.ref a_INSTRUCTIONS) d_INSTRUCTIONS = true)
    {a_WIDTHS : Addr} {es_WIDTHS : Array DictEntry} {n_WIDTHS : Nat}
    (m_WIDTHS : PySem.W.nsIn K mainGlobals "WIDTHS" = some (some (.ref a_WIDTHS)))
    (l_WIDTHS : K.lookup a_WIDTHS = some ⟨.type "dict", none, .dict es_WIDTHS n_WIDTHS, #[]⟩)
    (en_WIDTHS : EntsK w.params ((["i32", "i64"] : List Str).zip ([.int (32), .int (64)] : List L2.V)) es_WIDTHS.toList)
    (lo_WIDTHS : (a_WIDTHS == sysModules) = false)
    (cg_HostError : PySem.W.nsIn K mainGlobals "HostError" = some (some (.ref c_HostError)))
    (cg_Trap : PySem.W.nsIn K mainGlobals "Trap" = some (some (.ref c_Trap)))
    (kc_Trap : PySem.W.keepIn K (.ref c_Trap) = true)
    (eb_Trap : PySem.W.subIn K (.ref c_Trap) (.type "BaseException") = some true)
    (ty_Trap : PySem.W.typeIn K (.ref c_Trap) = some (.type "type"))
    (ga_Trap : PySem.W.findIn K (.ref c_Trap) "__getattribute__" = some (some (.builtin "BaseException.__getattribute__")))
    (gg_Trap : PySem.W.findIn K (.ref c_Trap) "__getattr__" = some none)
    {nm_Trap q_Trap : Str} {N_Trap : Addr} {bs_Trap : List Value} {sn_Trap : List Str} {sub_Trap : List Value} {ab_Trap : Bool} {col_Trap : Option Bool} {dd_Trap : Option Addr} {m0_Trap m1_Trap m2_Trap m3_Trap m5_Trap : Option Value}
    (xL_Trap : K.lookup c_Trap = some (excClassObj nm_Trap q_Trap c_Trap N_Trap bs_Trap [.ref c_HostError, .type "ValueError", .type "Exception", .type "BaseException", .type "object"] true sn_Trap sub_Trap ab_Trap col_Trap dd_Trap m0_Trap m1_Trap m2_Trap m3_Trap m5_Trap "ValueError.__new__"))
    (sa_Trap : PySem.W.findIn K (.ref c_Trap) "__setattr__" = some (some (.builtin "object.__setattr__")))
    (nf0_Trap : PySem.W.findIn K (.ref c_Trap) "reason" = some none)
    (ii_Trap : PySem.W.findIn K (.ref c_Trap) "__init__" = some (some (.ref fi_Trap)))
    (ti_Trap : PySem.W.typeIn K (.ref fi_Trap) = some (.type "function"))
    (hd_Trap : PySem.W.hasDictIn K c_Trap = true)
    (cg_UnknownInstruction : PySem.W.nsIn K mainGlobals "UnknownInstruction" = some (some (.ref c_UnknownInstruction)))
    (kc_UnknownInstruction : PySem.W.keepIn K (.ref c_UnknownInstruction) = true)
    (eb_UnknownInstruction : PySem.W.subIn K (.ref c_UnknownInstruction) (.type "BaseException") = some true)
    (ty_UnknownInstruction : PySem.W.typeIn K (.ref c_UnknownInstruction) = some (.type "type"))
    (ga_UnknownInstruction : PySem.W.findIn K (.ref c_UnknownInstruction) "__getattribute__" = some (some (.builtin "BaseException.__getattribute__")))
    (gg_UnknownInstruction : PySem.W.findIn K (.ref c_UnknownInstruction) "__getattr__" = some none)
    {nm_UnknownInstruction q_UnknownInstruction : Str} {N_UnknownInstruction : Addr} {bs_UnknownInstruction : List Value} {sn_UnknownInstruction : List Str} {sub_UnknownInstruction : List Value} {ab_UnknownInstruction : Bool} {col_UnknownInstruction : Option Bool} {dd_UnknownInstruction : Option Addr} {m0_UnknownInstruction m1_UnknownInstruction m2_UnknownInstruction m3_UnknownInstruction m5_UnknownInstruction : Option Value}
    (xL_UnknownInstruction : K.lookup c_UnknownInstruction = some (excClassObj nm_UnknownInstruction q_UnknownInstruction c_UnknownInstruction N_UnknownInstruction bs_UnknownInstruction [.ref c_HostError, .type "ValueError", .type "Exception", .type "BaseException", .type "object"] true sn_UnknownInstruction sub_UnknownInstruction ab_UnknownInstruction col_UnknownInstruction dd_UnknownInstruction m0_UnknownInstruction m1_UnknownInstruction m2_UnknownInstruction m3_UnknownInstruction m5_UnknownInstruction "ValueError.__new__"))
    (sa_UnknownInstruction : PySem.W.findIn K (.ref c_UnknownInstruction) "__setattr__" = some (some (.builtin "object.__setattr__")))
    (nf0_UnknownInstruction : PySem.W.findIn K (.ref c_UnknownInstruction) "name" = some none)
    (ii_UnknownInstruction : PySem.W.findIn K (.ref c_UnknownInstruction) "__init__" = some (some (.ref fi_UnknownInstruction)))
    (ti_UnknownInstruction : PySem.W.typeIn K (.ref fi_UnknownInstruction) = some (.type "function"))
    (hd_UnknownInstruction : PySem.W.hasDictIn K c_UnknownInstruction = true)
    (cg_BadValues : PySem.W.nsIn K mainGlobals "BadValues" = some (some (.ref c_BadValues)))
    (kc_BadValues : PySem.W.keepIn K (.ref c_BadValues) = true)
    (eb_BadValues : PySem.W.subIn K (.ref c_BadValues) (.type "BaseException") = some true)
    (ty_BadValues : PySem.W.typeIn K (.ref c_BadValues) = some (.type "type"))
    (xq_BadValues : PySem.W.excIn K c_BadValues [.type "ValueError", .type "Exception", .type "BaseException", .type "object"] "ValueError.__new__" = true)
    (l_init_Trap : K.lookup fi_Trap = some ⟨oc_init_Trap, od_init_Trap, .func (PySem.W.fnOf "__init__" "Trap.__init__" (defArgs s_init_Trap) (defBody s_init_Trap) (defScope s_init_Trap) .none kV_init_Trap dc_init_Trap pm_init_Trap an_init_Trap cd_init_Trap ct_init_Trap), sl_init_Trap⟩)
    (c_init_Trap : PySem.W.codeIn K cd_init_Trap "Trap.__init__" = true)
    (k_init_Trap : PySem.W.keepIn K (.ref fi_Trap) = true)
    (l_init_UnknownInstruction : K.lookup fi_UnknownInstruction = some ⟨oc_init_UnknownInstruction, od_init_UnknownInstruction, .func (PySem.W.fnOf "__init__" "UnknownInstruction.__init__" (defArgs s_init_UnknownInstruction) (defBody s_init_UnknownInstruction) (defScope s_init_UnknownInstruction) .none kV_init_UnknownInstruction dc_init_UnknownInstruction pm_init_UnknownInstruction an_init_UnknownInstruction cd_init_UnknownInstruction ct_init_UnknownInstruction), sl_init_UnknownInstruction⟩)
    (c_init_UnknownInstruction : PySem.W.codeIn K cd_init_UnknownInstruction "UnknownInstruction.__init__" = true)
    (k_init_UnknownInstruction : PySem.W.keepIn K (.ref fi_UnknownInstruction) = true)
    : ∃ fd : FuncData, (∀ (s : Shared) (v : Value), BindsTo s fd ⟨[v], []⟩ [("_law_script", v)]) ∧ ∀ base : Heap, K.In base → base.Ns mainGlobals mg → FnOk l.prog w K mg base CX0 9 fa fd ["_law_script"] (Dm.sp_law K) := by
  have e := hfa.symm.trans (PySem.W.mg_of X G a_law)
  cases e
  have T : Tx w K mg (fun n => match n with | 0 => f_width | 1 => f_unsigned | 2 => f_extend | 3 => f_signed | 4 => f_in_range | 5 => f_add | 6 => f_sub | 7 => f_mul | 8 => f_quotient | 9 => f_div_s | 10 => f_div_u | 11 => f_rem_s | 12 => f_rem_u | 13 => f_bit_and | 14 => f_bit_or | 15 => f_bit_xor | 16 => f_shift_count | 17 => f_shl | 18 => f_shr_s | 19 => f_shr_u | 20 => f_rotl | 21 => f_rotr | 22 => f_eq | 23 => f_ne | 24 => f_lt_s | 25 => f_gt_s | 26 => f_le_s | 27 => f_ge_s | 28 => f_lt_u | 29 => f_gt_u | 30 => f_le_u | 31 => f_ge_u | 32 => f_eqz | 33 => f_clz | 34 => f_ctz | 35 => f_popcnt | 36 => f_extend8_s | 37 => f_extend16_s | 38 => f_extend32_s | 39 => f_extend_u | 40 => f_signature_of | 41 => f_check_operands | 42 => f_calculate | 43 => f_l_is_integer | 44 => f_l_cell | 45 => f_l_signed | 46 => f_l_value | 47 => f_l_high | 48 => f_l_low | 49 => f_l_join | 50 => f_l_sums | 51 => f_l_products | 52 => f_l_bitwise | 53 => f_l_orders | 54 => f_l_counted | 55 => f_l_divided | 1000 => c_HostError | 1001 => c_Trap | 1002 => c_UnknownInstruction | 1003 => c_BadValues | 2001 => fi_Trap | 2002 => fi_UnknownInstruction | _ => 0) := ⟨PySem.W.mg_none_of X G z_abs,
    PySem.W.mg_none_of X G z_bool,
    PySem.W.mg_none_of X G z_int,
    PySem.W.mg_none_of X G z_isinstance,
    PySem.W.mg_none_of X G z_len,
    PySem.W.mg_none_of X G z_max,
    PySem.W.mg_none_of X G z_min,
    PySem.W.mg_none_of X G z_range,
    PySem.W.mg_none_of X G z_sum,
    PySem.W.mg_none_of X G z_zip,
    dct_rep (ad := (fun n => match n with | 0 => f_width | 1 => f_unsigned | 2 => f_extend | 3 => f_signed | 4 => f_in_range | 5 => f_add | 6 => f_sub | 7 => f_mul | 8 => f_quotient | 9 => f_div_s | 10 => f_div_u | 11 => f_rem_s | 12 => f_rem_u | 13 => f_bit_and | 14 => f_bit_or | 15 => f_bit_xor | 16 => f_shift_count | 17 => f_shl | 18 => f_shr_s | 19 => f_shr_u | 20 => f_rotl | 21 => f_rotr | 22 => f_eq | 23 => f_ne | 24 => f_lt_s | 25 => f_gt_s | 26 => f_le_s | 27 => f_ge_s | 28 => f_lt_u | 29 => f_gt_u | 30 => f_le_u | 31 => f_ge_u | 32 => f_eqz | 33 => f_clz | 34 => f_ctz | 35 => f_popcnt | 36 => f_extend8_s | 37 => f_extend16_s | 38 => f_extend32_s | 39 => f_extend_u | 40 => f_signature_of | 41 => f_check_operands | 42 => f_calculate | 43 => f_l_is_integer | 44 => f_l_cell | 45 => f_l_signed | 46 => f_l_value | 47 => f_l_high | 48 => f_l_low | 49 => f_l_join | 50 => f_l_sums | 51 => f_l_products | 52 => f_l_bitwise | 53 => f_l_orders | 54 => f_l_counted | 55 => f_l_divided | 1000 => c_HostError | 1001 => c_Trap | 1002 => c_UnknownInstruction | 1003 => c_BadValues | 2001 => fi_Trap | 2002 => fi_UnknownInstruction | _ => 0)) (PySem.W.mg_of X G m_ARITHMETIC) l_ARITHMETIC en_ARITHMETIC lo_ARITHMETIC rfl (fun _ => (.cons (rep_fn 5 rfl) (.cons (rep_fn 6 rfl) (.cons (rep_fn 7 rfl) (.cons (rep_fn 9 rfl) (.cons (rep_fn 10 rfl) (.cons (rep_fn 11 rfl) (.cons (rep_fn 12 rfl) (.cons (rep_fn 13 rfl) (.cons (rep_fn 14 rfl) (.cons (rep_fn 15 rfl) (.cons (rep_fn 17 rfl) (.cons (rep_fn 18 rfl) (.cons (rep_fn 19 rfl) (.cons (rep_fn 20 rfl) (.cons (rep_fn 21 rfl) .nil)))))))))))))))),
    dct_rep (ad := (fun n => match n with | 0 => f_width | 1 => f_unsigned | 2 => f_extend | 3 => f_signed | 4 => f_in_range | 5 => f_add | 6 => f_sub | 7 => f_mul | 8 => f_quotient | 9 => f_div_s | 10 => f_div_u | 11 => f_rem_s | 12 => f_rem_u | 13 => f_bit_and | 14 => f_bit_or | 15 => f_bit_xor | 16 => f_shift_count | 17 => f_shl | 18 => f_shr_s | 19 => f_shr_u | 20 => f_rotl | 21 => f_rotr | 22 => f_eq | 23 => f_ne | 24 => f_lt_s | 25 => f_gt_s | 26 => f_le_s | 27 => f_ge_s | 28 => f_lt_u | 29 => f_gt_u | 30 => f_le_u | 31 => f_ge_u | 32 => f_eqz | 33 => f_clz | 34 => f_ctz | 35 => f_popcnt | 36 => f_extend8_s | 37 => f_extend16_s | 38 => f_extend32_s | 39 => f_extend_u | 40 => f_signature_of | 41 => f_check_operands | 42 => f_calculate | 43 => f_l_is_integer | 44 => f_l_cell | 45 => f_l_signed | 46 => f_l_value | 47 => f_l_high | 48 => f_l_low | 49 => f_l_join | 50 => f_l_sums | 51 => f_l_products | 52 => f_l_bitwise | 53 => f_l_orders | 54 => f_l_counted | 55 => f_l_divided | 1000 => c_HostError | 1001 => c_Trap | 1002 => c_UnknownInstruction | 1003 => c_BadValues | 2001 => fi_Trap | 2002 => fi_UnknownInstruction | _ => 0)) (PySem.W.mg_of X G m_COMPARISONS) l_COMPARISONS en_COMPARISONS lo_COMPARISONS rfl (fun _ => (.cons (rep_fn 22 rfl) (.cons (rep_fn 23 rfl) (.cons (rep_fn 24 rfl) (.cons (rep_fn 28 rfl) (.cons (rep_fn 25 rfl) (.cons (rep_fn 29 rfl) (.cons (rep_fn 26 rfl) (.cons (rep_fn 30 rfl) (.cons (rep_fn 27 rfl) (.cons (rep_fn 31 rfl) .nil))))))))))),
    dct_rep (ad := (fun n => match n with | 0 => f_width | 1 => f_unsigned | 2 => f_extend | 3 => f_signed | 4 => f_in_range | 5 => f_add | 6 => f_sub | 7 => f_mul | 8 => f_quotient | 9 => f_div_s | 10 => f_div_u | 11 => f_rem_s | 12 => f_rem_u | 13 => f_bit_and | 14 => f_bit_or | 15 => f_bit_xor | 16 => f_shift_count | 17 => f_shl | 18 => f_shr_s | 19 => f_shr_u | 20 => f_rotl | 21 => f_rotr | 22 => f_eq | 23 => f_ne | 24 => f_lt_s | 25 => f_gt_s | 26 => f_le_s | 27 => f_ge_s | 28 => f_lt_u | 29 => f_gt_u | 30 => f_le_u | 31 => f_ge_u | 32 => f_eqz | 33 => f_clz | 34 => f_ctz | 35 => f_popcnt | 36 => f_extend8_s | 37 => f_extend16_s | 38 => f_extend32_s | 39 => f_extend_u | 40 => f_signature_of | 41 => f_check_operands | 42 => f_calculate | 43 => f_l_is_integer | 44 => f_l_cell | 45 => f_l_signed | 46 => f_l_value | 47 => f_l_high | 48 => f_l_low | 49 => f_l_join | 50 => f_l_sums | 51 => f_l_products | 52 => f_l_bitwise | 53 => f_l_orders | 54 => f_l_counted | 55 => f_l_divided | 1000 => c_HostError | 1001 => c_Trap | 1002 => c_UnknownInstruction | 1003 => c_BadValues | 2001 => fi_Trap | 2002 => fi_UnknownInstruction | _ => 0)) (PySem.W.mg_of X G m_CONVERSIONS) l_CONVERSIONS en_CONVERSIONS lo_CONVERSIONS rfl (fun _ => (.cons (rep_fn 38 rfl) (.cons (rep_fn 38 rfl) (.cons (rep_fn 39 rfl) .nil)))),
    dct_rep (ad := (fun n => match n with | 0 => f_width | 1 => f_unsigned | 2 => f_extend | 3 => f_signed | 4 => f_in_range | 5 => f_add | 6 => f_sub | 7 => f_mul | 8 => f_quotient | 9 => f_div_s | 10 => f_div_u | 11 => f_rem_s | 12 => f_rem_u | 13 => f_bit_and | 14 => f_bit_or | 15 => f_bit_xor | 16 => f_shift_count | 17 => f_shl | 18 => f_shr_s | 19 => f_shr_u | 20 => f_rotl | 21 => f_rotr | 22 => f_eq | 23 => f_ne | 24 => f_lt_s | 25 => f_gt_s | 26 => f_le_s | 27 => f_ge_s | 28 => f_lt_u | 29 => f_gt_u | 30 => f_le_u | 31 => f_ge_u | 32 => f_eqz | 33 => f_clz | 34 => f_ctz | 35 => f_popcnt | 36 => f_extend8_s | 37 => f_extend16_s | 38 => f_extend32_s | 39 => f_extend_u | 40 => f_signature_of | 41 => f_check_operands | 42 => f_calculate | 43 => f_l_is_integer | 44 => f_l_cell | 45 => f_l_signed | 46 => f_l_value | 47 => f_l_high | 48 => f_l_low | 49 => f_l_join | 50 => f_l_sums | 51 => f_l_products | 52 => f_l_bitwise | 53 => f_l_orders | 54 => f_l_counted | 55 => f_l_divided | 1000 => c_HostError | 1001 => c_Trap | 1002 => c_UnknownInstruction | 1003 => c_BadValues | 2001 => fi_Trap | 2002 => fi_UnknownInstruction | _ => 0)) (PySem.W.mg_of X G m_COUNTS) l_COUNTS en_COUNTS lo_COUNTS rfl (fun _ => (.cons (rep_fn 33 rfl) (.cons (rep_fn 34 rfl) (.cons (rep_fn 35 rfl) (.cons (rep_fn 36 rfl) (.cons (rep_fn 37 rfl) .nil)))))),
    isD_rep (ad := (fun n => match n with | 0 => f_width | 1 => f_unsigned | 2 => f_extend | 3 => f_signed | 4 => f_in_range | 5 => f_add | 6 => f_sub | 7 => f_mul | 8 => f_quotient | 9 => f_div_s | 10 => f_div_u | 11 => f_rem_s | 12 => f_rem_u | 13 => f_bit_and | 14 => f_bit_or | 15 => f_bit_xor | 16 => f_shift_count | 17 => f_shl | 18 => f_shr_s | 19 => f_shr_u | 20 => f_rotl | 21 => f_rotr | 22 => f_eq | 23 => f_ne | 24 => f_lt_s | 25 => f_gt_s | 26 => f_le_s | 27 => f_ge_s | 28 => f_lt_u | 29 => f_gt_u | 30 => f_le_u | 31 => f_ge_u | 32 => f_eqz | 33 => f_clz | 34 => f_ctz | 35 => f_popcnt | 36 => f_extend8_s | 37 => f_extend16_s | 38 => f_extend32_s | 39 => f_extend_u | 40 => f_signature_of | 41 => f_check_operands | 42 => f_calculate | 43 => f_l_is_integer | 44 => f_l_cell | 45 => f_l_signed | 46 => f_l_value | 47 => f_l_high | 48 => f_l_low | 49 => f_l_join | 50 => f_l_sums | 51 => f_l_products | 52 => f_l_bitwise | 53 => f_l_orders | 54 => f_l_counted | 55 => f_l_divided | 1000 => c_HostError | 1001 => c_Trap | 1002 => c_UnknownInstruction | 1003 => c_BadValues | 2001 => fi_Trap | 2002 => fi_UnknownInstruction | _ => 0)) (by intro k b hb; cases hb) (PySem.W.mg_of X G v_INSTRUCTIONS) kd_INSTRUCTIONS,
    dct_rep (ad := (fun n => match n with | 0 => f_width | 1 => f_unsigned | 2 => f_extend | 3 => f_signed | 4 => f_in_range | 5 => f_add | 6 => f_sub | 7 => f_mul | 8 => f_quotient | 9 => f_div_s | 10 => f_div_u | 11 => f_rem_s | 12 => f_rem_u | 13 => f_bit_and | 14 => f_bit_or | 15 => f_bit_xor | 16 => f_shift_count | 17 => f_shl | 18 => f_shr_s | 19 => f_shr_u | 20 => f_rotl | 21 => f_rotr | 22 => f_eq | 23 => f_ne | 24 => f_lt_s | 25 => f_gt_s | 26 => f_le_s | 27 => f_ge_s | 28 => f_lt_u | 29 => f_gt_u | 30 => f_le_u | 31 => f_ge_u | 32 => f_eqz | 33 => f_clz | 34 => f_ctz | 35 => f_popcnt | 36 => f_extend8_s | 37 => f_extend16_s | 38 => f_extend32_s | 39 => f_extend_u | 40 => f_signature_of | 41 => f_check_operands | 42 => f_calculate | 43 => f_l_is_integer | 44 => f_l_cell | 45 => f_l_signed | 46 => f_l_value | 47 => f_l_high | 48 => f_l_low | 49 => f_l_join | 50 => f_l_sums | 51 => f_l_products | 52 => f_l_bitwise | 53 => f_l_orders | 54 => f_l_counted | 55 => f_l_divided | 1000 => c_HostError | 1001 => c_Trap | 1002 => c_UnknownInstruction | 1003 => c_BadValues | 2001 => fi_Trap | 2002 => fi_UnknownInstruction | _ => 0)) (PySem.W.mg_of X G m_WIDTHS) l_WIDTHS en_WIDTHS lo_WIDTHS rfl (fun _ => (.cons (.int _) (.cons (.int _) .nil))),
    PySem.W.mg_of X G cg_HostError,
    ⟨PySem.W.mg_of X G cg_Trap, ⟨⟨_, _, _, _, _, _, _, _, _, _, _, _, _, _, _, xL_Trap, rfl⟩, sa_Trap, eb_Trap, ty_Trap, kc_Trap⟩, ii_Trap, ti_Trap, (by intro f hf; simp only [List.mem_cons, List.not_mem_nil, or_false] at hf; rcases hf with rfl; exact nf0_Trap), ⟨ga_Trap, gg_Trap, eb_Trap, hd_Trap⟩⟩,
    PySem.W.mg_of X G cg_Trap,
    ⟨PySem.W.mg_of X G cg_UnknownInstruction, ⟨⟨_, _, _, _, _, _, _, _, _, _, _, _, _, _, _, xL_UnknownInstruction, rfl⟩, sa_UnknownInstruction, eb_UnknownInstruction, ty_UnknownInstruction, kc_UnknownInstruction⟩, ii_UnknownInstruction, ti_UnknownInstruction, (by intro f hf; simp only [List.mem_cons, List.not_mem_nil, or_false] at hf; rcases hf with rfl; exact nf0_UnknownInstruction), ⟨ga_UnknownInstruction, gg_UnknownInstruction, eb_UnknownInstruction, hd_UnknownInstruction⟩⟩,
    PySem.W.mg_of X G cg_UnknownInstruction,
    ⟨PySem.W.mg_of X G cg_BadValues, ⟨_, _, _, _, PySem.F.excBase_ValueError, xq_BadValues⟩, kc_BadValues, eb_BadValues, ty_BadValues⟩,
    PySem.W.mg_of X G cg_BadValues⟩
  have F_width := fun_mk (st := s_width) l_width c_width k_width
  have b_width := F_width.binds (ps := ["kind"]) fun _ _ _ _ _ _ us hl => match us, hl with | [_], _ => rfl
  have F_unsigned := fun_mk (st := s_unsigned) l_unsigned c_unsigned k_unsigned
  have b_unsigned := F_unsigned.binds (ps := ["kind", "number"]) fun _ _ _ _ _ _ us hl => match us, hl with | [_, _], _ => rfl
  have F_extend := fun_mk (st := s_extend) l_extend c_extend k_extend
  have b_extend := F_extend.binds (ps := ["number", "bits"]) fun _ _ _ _ _ _ us hl => match us, hl with | [_, _], _ => rfl
  have F_signed := fun_mk (st := s_signed) l_signed c_signed k_signed
  have b_signed := F_signed.binds (ps := ["kind", "number"]) fun _ _ _ _ _ _ us hl => match us, hl with | [_, _], _ => rfl
  have F_in_range := fun_mk (st := s_in_range) l_in_range c_in_range k_in_range
  have b_in_range := F_in_range.binds (ps := ["kind", "number"]) fun _ _ _ _ _ _ us hl => match us, hl with | [_, _], _ => rfl
  have F_add := fun_mk (st := s_add) l_add c_add k_add
  have b_add := F_add.binds (ps := ["kind", "a", "b"]) fun _ _ _ _ _ _ us hl => match us, hl with | [_, _, _], _ => rfl
  have F_sub := fun_mk (st := s_sub) l_sub c_sub k_sub
  have b_sub := F_sub.binds (ps := ["kind", "a", "b"]) fun _ _ _ _ _ _ us hl => match us, hl with | [_, _, _], _ => rfl
  have F_mul := fun_mk (st := s_mul) l_mul c_mul k_mul
  have b_mul := F_mul.binds (ps := ["kind", "a", "b"]) fun _ _ _ _ _ _ us hl => match us, hl with | [_, _, _], _ => rfl
  have F_quotient := fun_mk (st := s_quotient) l_quotient c_quotient k_quotient
  have b_quotient := F_quotient.binds (ps := ["a", "b"]) fun _ _ _ _ _ _ us hl => match us, hl with | [_, _], _ => rfl
  have F_div_s := fun_mk (st := s_div_s) l_div_s c_div_s k_div_s
  have b_div_s := F_div_s.binds (ps := ["kind", "a", "b"]) fun _ _ _ _ _ _ us hl => match us, hl with | [_, _, _], _ => rfl
  have F_div_u := fun_mk (st := s_div_u) l_div_u c_div_u k_div_u
  have b_div_u := F_div_u.binds (ps := ["kind", "a", "b"]) fun _ _ _ _ _ _ us hl => match us, hl with | [_, _, _], _ => rfl
  have F_rem_s := fun_mk (st := s_rem_s) l_rem_s c_rem_s k_rem_s
  have b_rem_s := F_rem_s.binds (ps := ["kind", "a", "b"]) fun _ _ _ _ _ _ us hl => match us, hl with | [_, _, _], _ => rfl
  have F_rem_u := fun_mk (st := s_rem_u) l_rem_u c_rem_u k_rem_u
  have b_rem_u := F_rem_u.binds (ps := ["kind", "a", "b"]) fun _ _ _ _ _ _ us hl => match us, hl with | [_, _, _], _ => rfl
  have F_bit_and := fun_mk (st := s_bit_and) l_bit_and c_bit_and k_bit_and
  have b_bit_and := F_bit_and.binds (ps := ["kind", "a", "b"]) fun _ _ _ _ _ _ us hl => match us, hl with | [_, _, _], _ => rfl
  have F_bit_or := fun_mk (st := s_bit_or) l_bit_or c_bit_or k_bit_or
  have b_bit_or := F_bit_or.binds (ps := ["kind", "a", "b"]) fun _ _ _ _ _ _ us hl => match us, hl with | [_, _, _], _ => rfl
  have F_bit_xor := fun_mk (st := s_bit_xor) l_bit_xor c_bit_xor k_bit_xor
  have b_bit_xor := F_bit_xor.binds (ps := ["kind", "a", "b"]) fun _ _ _ _ _ _ us hl => match us, hl with | [_, _, _], _ => rfl
  have F_shift_count := fun_mk (st := s_shift_count) l_shift_count c_shift_count k_shift_count
  have b_shift_count := F_shift_count.binds (ps := ["kind", "b"]) fun _ _ _ _ _ _ us hl => match us, hl with | [_, _], _ => rfl
  have F_shl := fun_mk (st := s_shl) l_shl c_shl k_shl
  have b_shl := F_shl.binds (ps := ["kind", "a", "b"]) fun _ _ _ _ _ _ us hl => match us, hl with | [_, _, _], _ => rfl
  have F_shr_s := fun_mk (st := s_shr_s) l_shr_s c_shr_s k_shr_s
  have b_shr_s := F_shr_s.binds (ps := ["kind", "a", "b"]) fun _ _ _ _ _ _ us hl => match us, hl with | [_, _, _], _ => rfl
  have F_shr_u := fun_mk (st := s_shr_u) l_shr_u c_shr_u k_shr_u
  have b_shr_u := F_shr_u.binds (ps := ["kind", "a", "b"]) fun _ _ _ _ _ _ us hl => match us, hl with | [_, _, _], _ => rfl
  have F_rotl := fun_mk (st := s_rotl) l_rotl c_rotl k_rotl
  have b_rotl := F_rotl.binds (ps := ["kind", "a", "b"]) fun _ _ _ _ _ _ us hl => match us, hl with | [_, _, _], _ => rfl
  have F_rotr := fun_mk (st := s_rotr) l_rotr c_rotr k_rotr
  have b_rotr := F_rotr.binds (ps := ["kind", "a", "b"]) fun _ _ _ _ _ _ us hl => match us, hl with | [_, _, _], _ => rfl
  have F_eq := fun_mk (st := s_eq) l_eq c_eq k_eq
  have b_eq := F_eq.binds (ps := ["kind", "a", "b"]) fun _ _ _ _ _ _ us hl => match us, hl with | [_, _, _], _ => rfl
  have F_ne := fun_mk (st := s_ne) l_ne c_ne k_ne
  have b_ne := F_ne.binds (ps := ["kind", "a", "b"]) fun _ _ _ _ _ _ us hl => match us, hl with | [_, _, _], _ => rfl
  have F_lt_s := fun_mk (st := s_lt_s) l_lt_s c_lt_s k_lt_s
  have b_lt_s := F_lt_s.binds (ps := ["kind", "a", "b"]) fun _ _ _ _ _ _ us hl => match us, hl with | [_, _, _], _ => rfl
  have F_gt_s := fun_mk (st := s_gt_s) l_gt_s c_gt_s k_gt_s
  have b_gt_s := F_gt_s.binds (ps := ["kind", "a", "b"]) fun _ _ _ _ _ _ us hl => match us, hl with | [_, _, _], _ => rfl
  have F_le_s := fun_mk (st := s_le_s) l_le_s c_le_s k_le_s
  have b_le_s := F_le_s.binds (ps := ["kind", "a", "b"]) fun _ _ _ _ _ _ us hl => match us, hl with | [_, _, _], _ => rfl
  have F_ge_s := fun_mk (st := s_ge_s) l_ge_s c_ge_s k_ge_s
  have b_ge_s := F_ge_s.binds (ps := ["kind", "a", "b"]) fun _ _ _ _ _ _ us hl => match us, hl with | [_, _, _], _ => rfl
  have F_lt_u := fun_mk (st := s_lt_u) l_lt_u c_lt_u k_lt_u
  have b_lt_u := F_lt_u.binds (ps := ["kind", "a", "b"]) fun _ _ _ _ _ _ us hl => match us, hl with | [_, _, _], _ => rfl
  have F_gt_u := fun_mk (st := s_gt_u) l_gt_u c_gt_u k_gt_u
  have b_gt_u := F_gt_u.binds (ps := ["kind", "a", "b"]) fun _ _ _ _ _ _ us hl => match us, hl with | [_, _, _], _ => rfl
  have F_le_u := fun_mk (st := s_le_u) l_le_u c_le_u k_le_u
  have b_le_u := F_le_u.binds (ps := ["kind", "a", "b"]) fun _ _ _ _ _ _ us hl => match us, hl with | [_, _, _], _ => rfl
  have F_ge_u := fun_mk (st := s_ge_u) l_ge_u c_ge_u k_ge_u
  have b_ge_u := F_ge_u.binds (ps := ["kind", "a", "b"]) fun _ _ _ _ _ _ us hl => match us, hl with | [_, _, _], _ => rfl
  have F_eqz := fun_mk (st := s_eqz) l_eqz c_eqz k_eqz
  have b_eqz := F_eqz.binds (ps := ["kind", "a"]) fun _ _ _ _ _ _ us hl => match us, hl with | [_, _], _ => rfl
  have F_clz := fun_mk (st := s_clz) l_clz c_clz k_clz
  have b_clz := F_clz.binds (ps := ["kind", "a"]) fun _ _ _ _ _ _ us hl => match us, hl with | [_, _], _ => rfl
  have F_ctz := fun_mk (st := s_ctz) l_ctz c_ctz k_ctz
  have b_ctz := F_ctz.binds (ps := ["kind", "a"]) fun _ _ _ _ _ _ us hl => match us, hl with | [_, _], _ => rfl
  have F_popcnt := fun_mk (st := s_popcnt) l_popcnt c_popcnt k_popcnt
  have b_popcnt := F_popcnt.binds (ps := ["kind", "a"]) fun _ _ _ _ _ _ us hl => match us, hl with | [_, _], _ => rfl
  have F_extend8_s := fun_mk (st := s_extend8_s) l_extend8_s c_extend8_s k_extend8_s
  have b_extend8_s := F_extend8_s.binds (ps := ["kind", "a"]) fun _ _ _ _ _ _ us hl => match us, hl with | [_, _], _ => rfl
  have F_extend16_s := fun_mk (st := s_extend16_s) l_extend16_s c_extend16_s k_extend16_s
  have b_extend16_s := F_extend16_s.binds (ps := ["kind", "a"]) fun _ _ _ _ _ _ us hl => match us, hl with | [_, _], _ => rfl
  have F_extend32_s := fun_mk (st := s_extend32_s) l_extend32_s c_extend32_s k_extend32_s
  have b_extend32_s := F_extend32_s.binds (ps := ["kind", "a"]) fun _ _ _ _ _ _ us hl => match us, hl with | [_, _], _ => rfl
  have F_extend_u := fun_mk (st := s_extend_u) l_extend_u c_extend_u k_extend_u
  have b_extend_u := F_extend_u.binds (ps := ["kind", "a"]) fun _ _ _ _ _ _ us hl => match us, hl with | [_, _], _ => rfl
  have F_signature_of := fun_mk (st := s_signature_of) l_signature_of c_signature_of k_signature_of
  have b_signature_of := F_signature_of.binds (ps := ["name"]) fun _ _ _ _ _ _ us hl => match us, hl with | [_], _ => rfl
  have F_check_operands := fun_mk (st := s_check_operands) l_check_operands c_check_operands k_check_operands
  have b_check_operands := F_check_operands.binds (ps := ["params", "operands"]) fun _ _ _ _ _ _ us hl => match us, hl with | [_, _], _ => rfl
  have F_calculate := fun_mk (st := s_calculate) l_calculate c_calculate k_calculate
  have b_calculate := F_calculate.binds (ps := ["name", "operands"]) fun _ _ _ _ _ _ us hl => match us, hl with | [_, _], _ => rfl
  have F_l_is_integer := fun_mk (st := s_l_is_integer) l_l_is_integer c_l_is_integer k_l_is_integer
  have b_l_is_integer := F_l_is_integer.binds (ps := ["_law_actual"]) fun _ _ _ _ _ _ us hl => match us, hl with | [_], _ => rfl
  have F_l_cell := fun_mk (st := s_l_cell) l_l_cell c_l_cell k_l_cell
  have b_l_cell := F_l_cell.binds (ps := ["_law_script", "_law_k"]) fun _ _ _ _ _ _ us hl => match us, hl with | [_, _], _ => rfl
  have F_l_signed := fun_mk (st := s_l_signed) l_l_signed c_l_signed k_l_signed
  have b_l_signed := F_l_signed.binds (ps := ["_law_number", "_law_bits"]) fun _ _ _ _ _ _ us hl => match us, hl with | [_, _], _ => rfl
  have F_l_value := fun_mk (st := s_l_value) l_l_value c_l_value k_l_value
  have b_l_value := F_l_value.binds (ps := ["_law_cell_here", "_law_bits"]) fun _ _ _ _ _ _ us hl => match us, hl with | [_, _], _ => rfl
  have F_l_high := fun_mk (st := s_l_high) l_l_high c_l_high k_l_high
  have b_l_high := F_l_high.binds (ps := ["_law_a"]) fun _ _ _ _ _ _ us hl => match us, hl with | [_], _ => rfl
  have F_l_low := fun_mk (st := s_l_low) l_l_low c_l_low k_l_low
  have b_l_low := F_l_low.binds (ps := ["_law_a"]) fun _ _ _ _ _ _ us hl => match us, hl with | [_], _ => rfl
  have F_l_join := fun_mk (st := s_l_join) l_l_join c_l_join k_l_join
  have b_l_join := F_l_join.binds (ps := ["_law_high_here", "_law_low_here"]) fun _ _ _ _ _ _ us hl => match us, hl with | [_, _], _ => rfl
  have F_l_sums := fun_mk (st := s_l_sums) l_l_sums c_l_sums k_l_sums
  have b_l_sums := F_l_sums.binds (ps := ["_law_a", "_law_b"]) fun _ _ _ _ _ _ us hl => match us, hl with | [_, _], _ => rfl
  have F_l_products := fun_mk (st := s_l_products) l_l_products c_l_products k_l_products
  have b_l_products := F_l_products.binds (ps := ["_law_a", "_law_b"]) fun _ _ _ _ _ _ us hl => match us, hl with | [_, _], _ => rfl
  have F_l_bitwise := fun_mk (st := s_l_bitwise) l_l_bitwise c_l_bitwise k_l_bitwise
  have b_l_bitwise := F_l_bitwise.binds (ps := ["_law_a", "_law_b"]) fun _ _ _ _ _ _ us hl => match us, hl with | [_, _], _ => rfl
  have F_l_orders := fun_mk (st := s_l_orders) l_l_orders c_l_orders k_l_orders
  have b_l_orders := F_l_orders.binds (ps := ["_law_a", "_law_b"]) fun _ _ _ _ _ _ us hl => match us, hl with | [_, _], _ => rfl
  have F_l_counted := fun_mk (st := s_l_counted) l_l_counted c_l_counted k_l_counted
  have b_l_counted := F_l_counted.binds (ps := ["_law_a"]) fun _ _ _ _ _ _ us hl => match us, hl with | [_], _ => rfl
  have F_l_divided := fun_mk (st := s_l_divided) l_l_divided c_l_divided k_l_divided
  have b_l_divided := F_l_divided.binds (ps := ["_law_a", "_law_b", "_law_mark"]) fun _ _ _ _ _ _ us hl => match us, hl with | [_, _, _], _ => rfl
  have F_law := fun_mk (st := s_law) l_law c_law k_law
  have F_init_Trap := fun_mk (st := s_init_Trap) l_init_Trap c_init_Trap k_init_Trap
  have b_init_Trap := F_init_Trap.binds (ps := ["self", "reason"]) fun _ _ _ _ _ _ us hl => match us, hl with | [_, _], _ => rfl
  have F_init_UnknownInstruction := fun_mk (st := s_init_UnknownInstruction) l_init_UnknownInstruction c_init_UnknownInstruction k_init_UnknownInstruction
  have b_init_UnknownInstruction := F_init_UnknownInstruction.binds (ps := ["self", "name"]) fun _ _ _ _ _ _ us hl => match us, hl with | [_, _], _ => rfl
  refine ⟨PySem.W.fnOf "law" "law" (defArgs s_law) (defBody s_law) (defScope s_law) .none kV_law dc_law pm_law an_law cd_law ct_law, fun s v => .of_eq rfl, fun base _ _ => ?_⟩
  have O_init_Trap : InitN l.prog w K mg base fi_Trap _ ["self", "reason"] ["reason"] := ⟨ok_init_Trap F_init_Trap, b_init_Trap⟩
  have O_init_UnknownInstruction : InitN l.prog w K mg base fi_UnknownInstruction _ ["self", "name"] ["name"] := ⟨ok_init_UnknownInstruction F_init_UnknownInstruction, b_init_UnknownInstruction⟩
  have O_width : DfX l.prog w K mg base 1 "width" f_width _ ["kind"] (SpD ⟨K, w, (fun n => match n with | 0 => f_width | 1 => f_unsigned | 2 => f_extend | 3 => f_signed | 4 => f_in_range | 5 => f_add | 6 => f_sub | 7 => f_mul | 8 => f_quotient | 9 => f_div_s | 10 => f_div_u | 11 => f_rem_s | 12 => f_rem_u | 13 => f_bit_and | 14 => f_bit_or | 15 => f_bit_xor | 16 => f_shift_count | 17 => f_shl | 18 => f_shr_s | 19 => f_shr_u | 20 => f_rotl | 21 => f_rotr | 22 => f_eq | 23 => f_ne | 24 => f_lt_s | 25 => f_gt_s | 26 => f_le_s | 27 => f_ge_s | 28 => f_lt_u | 29 => f_gt_u | 30 => f_le_u | 31 => f_ge_u | 32 => f_eqz | 33 => f_clz | 34 => f_ctz | 35 => f_popcnt | 36 => f_extend8_s | 37 => f_extend16_s | 38 => f_extend32_s | 39 => f_extend_u | 40 => f_signature_of | 41 => f_check_operands | 42 => f_calculate | 43 => f_l_is_integer | 44 => f_l_cell | 45 => f_l_signed | 46 => f_l_value | 47 => f_l_high | 48 => f_l_low | 49 => f_l_join | 50 => f_l_sums | 51 => f_l_products | 52 => f_l_bitwise | 53 => f_l_orders | 54 => f_l_counted | 55 => f_l_divided | 1000 => c_HostError | 1001 => c_Trap | 1002 => c_UnknownInstruction | 1003 => c_BadValues | 2001 => fi_Trap | 2002 => fi_UnknownInstruction | _ => 0)⟩ m_width) := ⟨ok_width (ad := (fun n => match n with | 0 => f_width | 1 => f_unsigned | 2 => f_extend | 3 => f_signed | 4 => f_in_range | 5 => f_add | 6 => f_sub | 7 => f_mul | 8 => f_quotient | 9 => f_div_s | 10 => f_div_u | 11 => f_rem_s | 12 => f_rem_u | 13 => f_bit_and | 14 => f_bit_or | 15 => f_bit_xor | 16 => f_shift_count | 17 => f_shl | 18 => f_shr_s | 19 => f_shr_u | 20 => f_rotl | 21 => f_rotr | 22 => f_eq | 23 => f_ne | 24 => f_lt_s | 25 => f_gt_s | 26 => f_le_s | 27 => f_ge_s | 28 => f_lt_u | 29 => f_gt_u | 30 => f_le_u | 31 => f_ge_u | 32 => f_eqz | 33 => f_clz | 34 => f_ctz | 35 => f_popcnt | 36 => f_extend8_s | 37 => f_extend16_s | 38 => f_extend32_s | 39 => f_extend_u | 40 => f_signature_of | 41 => f_check_operands | 42 => f_calculate | 43 => f_l_is_integer | 44 => f_l_cell | 45 => f_l_signed | 46 => f_l_value | 47 => f_l_high | 48 => f_l_low | 49 => f_l_join | 50 => f_l_sums | 51 => f_l_products | 52 => f_l_bitwise | 53 => f_l_orders | 54 => f_l_counted | 55 => f_l_divided | 1000 => c_HostError | 1001 => c_Trap | 1002 => c_UnknownInstruction | 1003 => c_BadValues | 2001 => fi_Trap | 2002 => fi_UnknownInstruction | _ => 0)) F_width T, PySem.W.mg_of X G a_width, F_width.kp, b_width⟩
  have O_unsigned : DfX l.prog w K mg base 2 "unsigned" f_unsigned _ ["kind", "number"] (SpD ⟨K, w, (fun n => match n with | 0 => f_width | 1 => f_unsigned | 2 => f_extend | 3 => f_signed | 4 => f_in_range | 5 => f_add | 6 => f_sub | 7 => f_mul | 8 => f_quotient | 9 => f_div_s | 10 => f_div_u | 11 => f_rem_s | 12 => f_rem_u | 13 => f_bit_and | 14 => f_bit_or | 15 => f_bit_xor | 16 => f_shift_count | 17 => f_shl | 18 => f_shr_s | 19 => f_shr_u | 20 => f_rotl | 21 => f_rotr | 22 => f_eq | 23 => f_ne | 24 => f_lt_s | 25 => f_gt_s | 26 => f_le_s | 27 => f_ge_s | 28 => f_lt_u | 29 => f_gt_u | 30 => f_le_u | 31 => f_ge_u | 32 => f_eqz | 33 => f_clz | 34 => f_ctz | 35 => f_popcnt | 36 => f_extend8_s | 37 => f_extend16_s | 38 => f_extend32_s | 39 => f_extend_u | 40 => f_signature_of | 41 => f_check_operands | 42 => f_calculate | 43 => f_l_is_integer | 44 => f_l_cell | 45 => f_l_signed | 46 => f_l_value | 47 => f_l_high | 48 => f_l_low | 49 => f_l_join | 50 => f_l_sums | 51 => f_l_products | 52 => f_l_bitwise | 53 => f_l_orders | 54 => f_l_counted | 55 => f_l_divided | 1000 => c_HostError | 1001 => c_Trap | 1002 => c_UnknownInstruction | 1003 => c_BadValues | 2001 => fi_Trap | 2002 => fi_UnknownInstruction | _ => 0)⟩ m_unsigned) := ⟨ok_unsigned (ad := (fun n => match n with | 0 => f_width | 1 => f_unsigned | 2 => f_extend | 3 => f_signed | 4 => f_in_range | 5 => f_add | 6 => f_sub | 7 => f_mul | 8 => f_quotient | 9 => f_div_s | 10 => f_div_u | 11 => f_rem_s | 12 => f_rem_u | 13 => f_bit_and | 14 => f_bit_or | 15 => f_bit_xor | 16 => f_shift_count | 17 => f_shl | 18 => f_shr_s | 19 => f_shr_u | 20 => f_rotl | 21 => f_rotr | 22 => f_eq | 23 => f_ne | 24 => f_lt_s | 25 => f_gt_s | 26 => f_le_s | 27 => f_ge_s | 28 => f_lt_u | 29 => f_gt_u | 30 => f_le_u | 31 => f_ge_u | 32 => f_eqz | 33 => f_clz | 34 => f_ctz | 35 => f_popcnt | 36 => f_extend8_s | 37 => f_extend16_s | 38 => f_extend32_s | 39 => f_extend_u | 40 => f_signature_of | 41 => f_check_operands | 42 => f_calculate | 43 => f_l_is_integer | 44 => f_l_cell | 45 => f_l_signed | 46 => f_l_value | 47 => f_l_high | 48 => f_l_low | 49 => f_l_join | 50 => f_l_sums | 51 => f_l_products | 52 => f_l_bitwise | 53 => f_l_orders | 54 => f_l_counted | 55 => f_l_divided | 1000 => c_HostError | 1001 => c_Trap | 1002 => c_UnknownInstruction | 1003 => c_BadValues | 2001 => fi_Trap | 2002 => fi_UnknownInstruction | _ => 0)) F_unsigned T O_width, PySem.W.mg_of X G a_unsigned, F_unsigned.kp, b_unsigned⟩
  have O_extend : DfX l.prog w K mg base 1 "extend" f_extend _ ["number", "bits"] (SpD ⟨K, w, (fun n => match n with | 0 => f_width | 1 => f_unsigned | 2 => f_extend | 3 => f_signed | 4 => f_in_range | 5 => f_add | 6 => f_sub | 7 => f_mul | 8 => f_quotient | 9 => f_div_s | 10 => f_div_u | 11 => f_rem_s | 12 => f_rem_u | 13 => f_bit_and | 14 => f_bit_or | 15 => f_bit_xor | 16 => f_shift_count | 17 => f_shl | 18 => f_shr_s | 19 => f_shr_u | 20 => f_rotl | 21 => f_rotr | 22 => f_eq | 23 => f_ne | 24 => f_lt_s | 25 => f_gt_s | 26 => f_le_s | 27 => f_ge_s | 28 => f_lt_u | 29 => f_gt_u | 30 => f_le_u | 31 => f_ge_u | 32 => f_eqz | 33 => f_clz | 34 => f_ctz | 35 => f_popcnt | 36 => f_extend8_s | 37 => f_extend16_s | 38 => f_extend32_s | 39 => f_extend_u | 40 => f_signature_of | 41 => f_check_operands | 42 => f_calculate | 43 => f_l_is_integer | 44 => f_l_cell | 45 => f_l_signed | 46 => f_l_value | 47 => f_l_high | 48 => f_l_low | 49 => f_l_join | 50 => f_l_sums | 51 => f_l_products | 52 => f_l_bitwise | 53 => f_l_orders | 54 => f_l_counted | 55 => f_l_divided | 1000 => c_HostError | 1001 => c_Trap | 1002 => c_UnknownInstruction | 1003 => c_BadValues | 2001 => fi_Trap | 2002 => fi_UnknownInstruction | _ => 0)⟩ m_extend) := ⟨ok_extend (ad := (fun n => match n with | 0 => f_width | 1 => f_unsigned | 2 => f_extend | 3 => f_signed | 4 => f_in_range | 5 => f_add | 6 => f_sub | 7 => f_mul | 8 => f_quotient | 9 => f_div_s | 10 => f_div_u | 11 => f_rem_s | 12 => f_rem_u | 13 => f_bit_and | 14 => f_bit_or | 15 => f_bit_xor | 16 => f_shift_count | 17 => f_shl | 18 => f_shr_s | 19 => f_shr_u | 20 => f_rotl | 21 => f_rotr | 22 => f_eq | 23 => f_ne | 24 => f_lt_s | 25 => f_gt_s | 26 => f_le_s | 27 => f_ge_s | 28 => f_lt_u | 29 => f_gt_u | 30 => f_le_u | 31 => f_ge_u | 32 => f_eqz | 33 => f_clz | 34 => f_ctz | 35 => f_popcnt | 36 => f_extend8_s | 37 => f_extend16_s | 38 => f_extend32_s | 39 => f_extend_u | 40 => f_signature_of | 41 => f_check_operands | 42 => f_calculate | 43 => f_l_is_integer | 44 => f_l_cell | 45 => f_l_signed | 46 => f_l_value | 47 => f_l_high | 48 => f_l_low | 49 => f_l_join | 50 => f_l_sums | 51 => f_l_products | 52 => f_l_bitwise | 53 => f_l_orders | 54 => f_l_counted | 55 => f_l_divided | 1000 => c_HostError | 1001 => c_Trap | 1002 => c_UnknownInstruction | 1003 => c_BadValues | 2001 => fi_Trap | 2002 => fi_UnknownInstruction | _ => 0)) F_extend T, PySem.W.mg_of X G a_extend, F_extend.kp, b_extend⟩
  have O_signed : DfX l.prog w K mg base 2 "signed" f_signed _ ["kind", "number"] (SpD ⟨K, w, (fun n => match n with | 0 => f_width | 1 => f_unsigned | 2 => f_extend | 3 => f_signed | 4 => f_in_range | 5 => f_add | 6 => f_sub | 7 => f_mul | 8 => f_quotient | 9 => f_div_s | 10 => f_div_u | 11 => f_rem_s | 12 => f_rem_u | 13 => f_bit_and | 14 => f_bit_or | 15 => f_bit_xor | 16 => f_shift_count | 17 => f_shl | 18 => f_shr_s | 19 => f_shr_u | 20 => f_rotl | 21 => f_rotr | 22 => f_eq | 23 => f_ne | 24 => f_lt_s | 25 => f_gt_s | 26 => f_le_s | 27 => f_ge_s | 28 => f_lt_u | 29 => f_gt_u | 30 => f_le_u | 31 => f_ge_u | 32 => f_eqz | 33 => f_clz | 34 => f_ctz | 35 => f_popcnt | 36 => f_extend8_s | 37 => f_extend16_s | 38 => f_extend32_s | 39 => f_extend_u | 40 => f_signature_of | 41 => f_check_operands | 42 => f_calculate | 43 => f_l_is_integer | 44 => f_l_cell | 45 => f_l_signed | 46 => f_l_value | 47 => f_l_high | 48 => f_l_low | 49 => f_l_join | 50 => f_l_sums | 51 => f_l_products | 52 => f_l_bitwise | 53 => f_l_orders | 54 => f_l_counted | 55 => f_l_divided | 1000 => c_HostError | 1001 => c_Trap | 1002 => c_UnknownInstruction | 1003 => c_BadValues | 2001 => fi_Trap | 2002 => fi_UnknownInstruction | _ => 0)⟩ m_signed) := ⟨ok_signed (ad := (fun n => match n with | 0 => f_width | 1 => f_unsigned | 2 => f_extend | 3 => f_signed | 4 => f_in_range | 5 => f_add | 6 => f_sub | 7 => f_mul | 8 => f_quotient | 9 => f_div_s | 10 => f_div_u | 11 => f_rem_s | 12 => f_rem_u | 13 => f_bit_and | 14 => f_bit_or | 15 => f_bit_xor | 16 => f_shift_count | 17 => f_shl | 18 => f_shr_s | 19 => f_shr_u | 20 => f_rotl | 21 => f_rotr | 22 => f_eq | 23 => f_ne | 24 => f_lt_s | 25 => f_gt_s | 26 => f_le_s | 27 => f_ge_s | 28 => f_lt_u | 29 => f_gt_u | 30 => f_le_u | 31 => f_ge_u | 32 => f_eqz | 33 => f_clz | 34 => f_ctz | 35 => f_popcnt | 36 => f_extend8_s | 37 => f_extend16_s | 38 => f_extend32_s | 39 => f_extend_u | 40 => f_signature_of | 41 => f_check_operands | 42 => f_calculate | 43 => f_l_is_integer | 44 => f_l_cell | 45 => f_l_signed | 46 => f_l_value | 47 => f_l_high | 48 => f_l_low | 49 => f_l_join | 50 => f_l_sums | 51 => f_l_products | 52 => f_l_bitwise | 53 => f_l_orders | 54 => f_l_counted | 55 => f_l_divided | 1000 => c_HostError | 1001 => c_Trap | 1002 => c_UnknownInstruction | 1003 => c_BadValues | 2001 => fi_Trap | 2002 => fi_UnknownInstruction | _ => 0)) F_signed T O_width O_extend, PySem.W.mg_of X G a_signed, F_signed.kp, b_signed⟩
  have O_in_range : DfX l.prog w K mg base 3 "in_range" f_in_range _ ["kind", "number"] (SpD ⟨K, w, (fun n => match n with | 0 => f_width | 1 => f_unsigned | 2 => f_extend | 3 => f_signed | 4 => f_in_range | 5 => f_add | 6 => f_sub | 7 => f_mul | 8 => f_quotient | 9 => f_div_s | 10 => f_div_u | 11 => f_rem_s | 12 => f_rem_u | 13 => f_bit_and | 14 => f_bit_or | 15 => f_bit_xor | 16 => f_shift_count | 17 => f_shl | 18 => f_shr_s | 19 => f_shr_u | 20 => f_rotl | 21 => f_rotr | 22 => f_eq | 23 => f_ne | 24 => f_lt_s | 25 => f_gt_s | 26 => f_le_s | 27 => f_ge_s | 28 => f_lt_u | 29 => f_gt_u | 30 => f_le_u | 31 => f_ge_u | 32 => f_eqz | 33 => f_clz | 34 => f_ctz | 35 => f_popcnt | 36 => f_extend8_s | 37 => f_extend16_s | 38 => f_extend32_s | 39 => f_extend_u | 40 => f_signature_of | 41 => f_check_operands | 42 => f_calculate | 43 => f_l_is_integer | 44 => f_l_cell | 45 => f_l_signed | 46 => f_l_value | 47 => f_l_high | 48 => f_l_low | 49 => f_l_join | 50 => f_l_sums | 51 => f_l_products | 52 => f_l_bitwise | 53 => f_l_orders | 54 => f_l_counted | 55 => f_l_divided | 1000 => c_HostError | 1001 => c_Trap | 1002 => c_UnknownInstruction | 1003 => c_BadValues | 2001 => fi_Trap | 2002 => fi_UnknownInstruction | _ => 0)⟩ m_in_range) := ⟨ok_in_range (ad := (fun n => match n with | 0 => f_width | 1 => f_unsigned | 2 => f_extend | 3 => f_signed | 4 => f_in_range | 5 => f_add | 6 => f_sub | 7 => f_mul | 8 => f_quotient | 9 => f_div_s | 10 => f_div_u | 11 => f_rem_s | 12 => f_rem_u | 13 => f_bit_and | 14 => f_bit_or | 15 => f_bit_xor | 16 => f_shift_count | 17 => f_shl | 18 => f_shr_s | 19 => f_shr_u | 20 => f_rotl | 21 => f_rotr | 22 => f_eq | 23 => f_ne | 24 => f_lt_s | 25 => f_gt_s | 26 => f_le_s | 27 => f_ge_s | 28 => f_lt_u | 29 => f_gt_u | 30 => f_le_u | 31 => f_ge_u | 32 => f_eqz | 33 => f_clz | 34 => f_ctz | 35 => f_popcnt | 36 => f_extend8_s | 37 => f_extend16_s | 38 => f_extend32_s | 39 => f_extend_u | 40 => f_signature_of | 41 => f_check_operands | 42 => f_calculate | 43 => f_l_is_integer | 44 => f_l_cell | 45 => f_l_signed | 46 => f_l_value | 47 => f_l_high | 48 => f_l_low | 49 => f_l_join | 50 => f_l_sums | 51 => f_l_products | 52 => f_l_bitwise | 53 => f_l_orders | 54 => f_l_counted | 55 => f_l_divided | 1000 => c_HostError | 1001 => c_Trap | 1002 => c_UnknownInstruction | 1003 => c_BadValues | 2001 => fi_Trap | 2002 => fi_UnknownInstruction | _ => 0)) F_in_range T O_signed, PySem.W.mg_of X G a_in_range, F_in_range.kp, b_in_range⟩
  have O_add : DfX l.prog w K mg base 3 "add" f_add _ ["kind", "a", "b"] (SpD ⟨K, w, (fun n => match n with | 0 => f_width | 1 => f_unsigned | 2 => f_extend | 3 => f_signed | 4 => f_in_range | 5 => f_add | 6 => f_sub | 7 => f_mul | 8 => f_quotient | 9 => f_div_s | 10 => f_div_u | 11 => f_rem_s | 12 => f_rem_u | 13 => f_bit_and | 14 => f_bit_or | 15 => f_bit_xor | 16 => f_shift_count | 17 => f_shl | 18 => f_shr_s | 19 => f_shr_u | 20 => f_rotl | 21 => f_rotr | 22 => f_eq | 23 => f_ne | 24 => f_lt_s | 25 => f_gt_s | 26 => f_le_s | 27 => f_ge_s | 28 => f_lt_u | 29 => f_gt_u | 30 => f_le_u | 31 => f_ge_u | 32 => f_eqz | 33 => f_clz | 34 => f_ctz | 35 => f_popcnt | 36 => f_extend8_s | 37 => f_extend16_s | 38 => f_extend32_s | 39 => f_extend_u | 40 => f_signature_of | 41 => f_check_operands | 42 => f_calculate | 43 => f_l_is_integer | 44 => f_l_cell | 45 => f_l_signed | 46 => f_l_value | 47 => f_l_high | 48 => f_l_low | 49 => f_l_join | 50 => f_l_sums | 51 => f_l_products | 52 => f_l_bitwise | 53 => f_l_orders | 54 => f_l_counted | 55 => f_l_divided | 1000 => c_HostError | 1001 => c_Trap | 1002 => c_UnknownInstruction | 1003 => c_BadValues | 2001 => fi_Trap | 2002 => fi_UnknownInstruction | _ => 0)⟩ m_add) := ⟨ok_add (ad := (fun n => match n with | 0 => f_width | 1 => f_unsigned | 2 => f_extend | 3 => f_signed | 4 => f_in_range | 5 => f_add | 6 => f_sub | 7 => f_mul | 8 => f_quotient | 9 => f_div_s | 10 => f_div_u | 11 => f_rem_s | 12 => f_rem_u | 13 => f_bit_and | 14 => f_bit_or | 15 => f_bit_xor | 16 => f_shift_count | 17 => f_shl | 18 => f_shr_s | 19 => f_shr_u | 20 => f_rotl | 21 => f_rotr | 22 => f_eq | 23 => f_ne | 24 => f_lt_s | 25 => f_gt_s | 26 => f_le_s | 27 => f_ge_s | 28 => f_lt_u | 29 => f_gt_u | 30 => f_le_u | 31 => f_ge_u | 32 => f_eqz | 33 => f_clz | 34 => f_ctz | 35 => f_popcnt | 36 => f_extend8_s | 37 => f_extend16_s | 38 => f_extend32_s | 39 => f_extend_u | 40 => f_signature_of | 41 => f_check_operands | 42 => f_calculate | 43 => f_l_is_integer | 44 => f_l_cell | 45 => f_l_signed | 46 => f_l_value | 47 => f_l_high | 48 => f_l_low | 49 => f_l_join | 50 => f_l_sums | 51 => f_l_products | 52 => f_l_bitwise | 53 => f_l_orders | 54 => f_l_counted | 55 => f_l_divided | 1000 => c_HostError | 1001 => c_Trap | 1002 => c_UnknownInstruction | 1003 => c_BadValues | 2001 => fi_Trap | 2002 => fi_UnknownInstruction | _ => 0)) F_add T O_signed, PySem.W.mg_of X G a_add, F_add.kp, b_add⟩
  have O_sub : DfX l.prog w K mg base 3 "sub" f_sub _ ["kind", "a", "b"] (SpD ⟨K, w, (fun n => match n with | 0 => f_width | 1 => f_unsigned | 2 => f_extend | 3 => f_signed | 4 => f_in_range | 5 => f_add | 6 => f_sub | 7 => f_mul | 8 => f_quotient | 9 => f_div_s | 10 => f_div_u | 11 => f_rem_s | 12 => f_rem_u | 13 => f_bit_and | 14 => f_bit_or | 15 => f_bit_xor | 16 => f_shift_count | 17 => f_shl | 18 => f_shr_s | 19 => f_shr_u | 20 => f_rotl | 21 => f_rotr | 22 => f_eq | 23 => f_ne | 24 => f_lt_s | 25 => f_gt_s | 26 => f_le_s | 27 => f_ge_s | 28 => f_lt_u | 29 => f_gt_u | 30 => f_le_u | 31 => f_ge_u | 32 => f_eqz | 33 => f_clz | 34 => f_ctz | 35 => f_popcnt | 36 => f_extend8_s | 37 => f_extend16_s | 38 => f_extend32_s | 39 => f_extend_u | 40 => f_signature_of | 41 => f_check_operands | 42 => f_calculate | 43 => f_l_is_integer | 44 => f_l_cell | 45 => f_l_signed | 46 => f_l_value | 47 => f_l_high | 48 => f_l_low | 49 => f_l_join | 50 => f_l_sums | 51 => f_l_products | 52 => f_l_bitwise | 53 => f_l_orders | 54 => f_l_counted | 55 => f_l_divided | 1000 => c_HostError | 1001 => c_Trap | 1002 => c_UnknownInstruction | 1003 => c_BadValues | 2001 => fi_Trap | 2002 => fi_UnknownInstruction | _ => 0)⟩ m_sub) := ⟨ok_sub (ad := (fun n => match n with | 0 => f_width | 1 => f_unsigned | 2 => f_extend | 3 => f_signed | 4 => f_in_range | 5 => f_add | 6 => f_sub | 7 => f_mul | 8 => f_quotient | 9 => f_div_s | 10 => f_div_u | 11 => f_rem_s | 12 => f_rem_u | 13 => f_bit_and | 14 => f_bit_or | 15 => f_bit_xor | 16 => f_shift_count | 17 => f_shl | 18 => f_shr_s | 19 => f_shr_u | 20 => f_rotl | 21 => f_rotr | 22 => f_eq | 23 => f_ne | 24 => f_lt_s | 25 => f_gt_s | 26 => f_le_s | 27 => f_ge_s | 28 => f_lt_u | 29 => f_gt_u | 30 => f_le_u | 31 => f_ge_u | 32 => f_eqz | 33 => f_clz | 34 => f_ctz | 35 => f_popcnt | 36 => f_extend8_s | 37 => f_extend16_s | 38 => f_extend32_s | 39 => f_extend_u | 40 => f_signature_of | 41 => f_check_operands | 42 => f_calculate | 43 => f_l_is_integer | 44 => f_l_cell | 45 => f_l_signed | 46 => f_l_value | 47 => f_l_high | 48 => f_l_low | 49 => f_l_join | 50 => f_l_sums | 51 => f_l_products | 52 => f_l_bitwise | 53 => f_l_orders | 54 => f_l_counted | 55 => f_l_divided | 1000 => c_HostError | 1001 => c_Trap | 1002 => c_UnknownInstruction | 1003 => c_BadValues | 2001 => fi_Trap | 2002 => fi_UnknownInstruction | _ => 0)) F_sub T O_signed, PySem.W.mg_of X G a_sub, F_sub.kp, b_sub⟩
  have O_mul : DfX l.prog w K mg base 3 "mul" f_mul _ ["kind", "a", "b"] (SpD ⟨K, w, (fun n => match n with | 0 => f_width | 1 => f_unsigned | 2 => f_extend | 3 => f_signed | 4 => f_in_range | 5 => f_add | 6 => f_sub | 7 => f_mul | 8 => f_quotient | 9 => f_div_s | 10 => f_div_u | 11 => f_rem_s | 12 => f_rem_u | 13 => f_bit_and | 14 => f_bit_or | 15 => f_bit_xor | 16 => f_shift_count | 17 => f_shl | 18 => f_shr_s | 19 => f_shr_u | 20 => f_rotl | 21 => f_rotr | 22 => f_eq | 23 => f_ne | 24 => f_lt_s | 25 => f_gt_s | 26 => f_le_s | 27 => f_ge_s | 28 => f_lt_u | 29 => f_gt_u | 30 => f_le_u | 31 => f_ge_u | 32 => f_eqz | 33 => f_clz | 34 => f_ctz | 35 => f_popcnt | 36 => f_extend8_s | 37 => f_extend16_s | 38 => f_extend32_s | 39 => f_extend_u | 40 => f_signature_of | 41 => f_check_operands | 42 => f_calculate | 43 => f_l_is_integer | 44 => f_l_cell | 45 => f_l_signed | 46 => f_l_value | 47 => f_l_high | 48 => f_l_low | 49 => f_l_join | 50 => f_l_sums | 51 => f_l_products | 52 => f_l_bitwise | 53 => f_l_orders | 54 => f_l_counted | 55 => f_l_divided | 1000 => c_HostError | 1001 => c_Trap | 1002 => c_UnknownInstruction | 1003 => c_BadValues | 2001 => fi_Trap | 2002 => fi_UnknownInstruction | _ => 0)⟩ m_mul) := ⟨ok_mul (ad := (fun n => match n with | 0 => f_width | 1 => f_unsigned | 2 => f_extend | 3 => f_signed | 4 => f_in_range | 5 => f_add | 6 => f_sub | 7 => f_mul | 8 => f_quotient | 9 => f_div_s | 10 => f_div_u | 11 => f_rem_s | 12 => f_rem_u | 13 => f_bit_and | 14 => f_bit_or | 15 => f_bit_xor | 16 => f_shift_count | 17 => f_shl | 18 => f_shr_s | 19 => f_shr_u | 20 => f_rotl | 21 => f_rotr | 22 => f_eq | 23 => f_ne | 24 => f_lt_s | 25 => f_gt_s | 26 => f_le_s | 27 => f_ge_s | 28 => f_lt_u | 29 => f_gt_u | 30 => f_le_u | 31 => f_ge_u | 32 => f_eqz | 33 => f_clz | 34 => f_ctz | 35 => f_popcnt | 36 => f_extend8_s | 37 => f_extend16_s | 38 => f_extend32_s | 39 => f_extend_u | 40 => f_signature_of | 41 => f_check_operands | 42 => f_calculate | 43 => f_l_is_integer | 44 => f_l_cell | 45 => f_l_signed | 46 => f_l_value | 47 => f_l_high | 48 => f_l_low | 49 => f_l_join | 50 => f_l_sums | 51 => f_l_products | 52 => f_l_bitwise | 53 => f_l_orders | 54 => f_l_counted | 55 => f_l_divided | 1000 => c_HostError | 1001 => c_Trap | 1002 => c_UnknownInstruction | 1003 => c_BadValues | 2001 => fi_Trap | 2002 => fi_UnknownInstruction | _ => 0)) F_mul T O_signed, PySem.W.mg_of X G a_mul, F_mul.kp, b_mul⟩
  have O_quotient : DfX l.prog w K mg base 1 "quotient" f_quotient _ ["a", "b"] (SpD ⟨K, w, (fun n => match n with | 0 => f_width | 1 => f_unsigned | 2 => f_extend | 3 => f_signed | 4 => f_in_range | 5 => f_add | 6 => f_sub | 7 => f_mul | 8 => f_quotient | 9 => f_div_s | 10 => f_div_u | 11 => f_rem_s | 12 => f_rem_u | 13 => f_bit_and | 14 => f_bit_or | 15 => f_bit_xor | 16 => f_shift_count | 17 => f_shl | 18 => f_shr_s | 19 => f_shr_u | 20 => f_rotl | 21 => f_rotr | 22 => f_eq | 23 => f_ne | 24 => f_lt_s | 25 => f_gt_s | 26 => f_le_s | 27 => f_ge_s | 28 => f_lt_u | 29 => f_gt_u | 30 => f_le_u | 31 => f_ge_u | 32 => f_eqz | 33 => f_clz | 34 => f_ctz | 35 => f_popcnt | 36 => f_extend8_s | 37 => f_extend16_s | 38 => f_extend32_s | 39 => f_extend_u | 40 => f_signature_of | 41 => f_check_operands | 42 => f_calculate | 43 => f_l_is_integer | 44 => f_l_cell | 45 => f_l_signed | 46 => f_l_value | 47 => f_l_high | 48 => f_l_low | 49 => f_l_join | 50 => f_l_sums | 51 => f_l_products | 52 => f_l_bitwise | 53 => f_l_orders | 54 => f_l_counted | 55 => f_l_divided | 1000 => c_HostError | 1001 => c_Trap | 1002 => c_UnknownInstruction | 1003 => c_BadValues | 2001 => fi_Trap | 2002 => fi_UnknownInstruction | _ => 0)⟩ m_quotient) := ⟨ok_quotient (ad := (fun n => match n with | 0 => f_width | 1 => f_unsigned | 2 => f_extend | 3 => f_signed | 4 => f_in_range | 5 => f_add | 6 => f_sub | 7 => f_mul | 8 => f_quotient | 9 => f_div_s | 10 => f_div_u | 11 => f_rem_s | 12 => f_rem_u | 13 => f_bit_and | 14 => f_bit_or | 15 => f_bit_xor | 16 => f_shift_count | 17 => f_shl | 18 => f_shr_s | 19 => f_shr_u | 20 => f_rotl | 21 => f_rotr | 22 => f_eq | 23 => f_ne | 24 => f_lt_s | 25 => f_gt_s | 26 => f_le_s | 27 => f_ge_s | 28 => f_lt_u | 29 => f_gt_u | 30 => f_le_u | 31 => f_ge_u | 32 => f_eqz | 33 => f_clz | 34 => f_ctz | 35 => f_popcnt | 36 => f_extend8_s | 37 => f_extend16_s | 38 => f_extend32_s | 39 => f_extend_u | 40 => f_signature_of | 41 => f_check_operands | 42 => f_calculate | 43 => f_l_is_integer | 44 => f_l_cell | 45 => f_l_signed | 46 => f_l_value | 47 => f_l_high | 48 => f_l_low | 49 => f_l_join | 50 => f_l_sums | 51 => f_l_products | 52 => f_l_bitwise | 53 => f_l_orders | 54 => f_l_counted | 55 => f_l_divided | 1000 => c_HostError | 1001 => c_Trap | 1002 => c_UnknownInstruction | 1003 => c_BadValues | 2001 => fi_Trap | 2002 => fi_UnknownInstruction | _ => 0)) F_quotient T, PySem.W.mg_of X G a_quotient, F_quotient.kp, b_quotient⟩
  have O_div_s : DfX l.prog w K mg base 4 "div_s" f_div_s _ ["kind", "a", "b"] (SpD ⟨K, w, (fun n => match n with | 0 => f_width | 1 => f_unsigned | 2 => f_extend | 3 => f_signed | 4 => f_in_range | 5 => f_add | 6 => f_sub | 7 => f_mul | 8 => f_quotient | 9 => f_div_s | 10 => f_div_u | 11 => f_rem_s | 12 => f_rem_u | 13 => f_bit_and | 14 => f_bit_or | 15 => f_bit_xor | 16 => f_shift_count | 17 => f_shl | 18 => f_shr_s | 19 => f_shr_u | 20 => f_rotl | 21 => f_rotr | 22 => f_eq | 23 => f_ne | 24 => f_lt_s | 25 => f_gt_s | 26 => f_le_s | 27 => f_ge_s | 28 => f_lt_u | 29 => f_gt_u | 30 => f_le_u | 31 => f_ge_u | 32 => f_eqz | 33 => f_clz | 34 => f_ctz | 35 => f_popcnt | 36 => f_extend8_s | 37 => f_extend16_s | 38 => f_extend32_s | 39 => f_extend_u | 40 => f_signature_of | 41 => f_check_operands | 42 => f_calculate | 43 => f_l_is_integer | 44 => f_l_cell | 45 => f_l_signed | 46 => f_l_value | 47 => f_l_high | 48 => f_l_low | 49 => f_l_join | 50 => f_l_sums | 51 => f_l_products | 52 => f_l_bitwise | 53 => f_l_orders | 54 => f_l_counted | 55 => f_l_divided | 1000 => c_HostError | 1001 => c_Trap | 1002 => c_UnknownInstruction | 1003 => c_BadValues | 2001 => fi_Trap | 2002 => fi_UnknownInstruction | _ => 0)⟩ m_div_s) := ⟨ok_div_s (ad := (fun n => match n with | 0 => f_width | 1 => f_unsigned | 2 => f_extend | 3 => f_signed | 4 => f_in_range | 5 => f_add | 6 => f_sub | 7 => f_mul | 8 => f_quotient | 9 => f_div_s | 10 => f_div_u | 11 => f_rem_s | 12 => f_rem_u | 13 => f_bit_and | 14 => f_bit_or | 15 => f_bit_xor | 16 => f_shift_count | 17 => f_shl | 18 => f_shr_s | 19 => f_shr_u | 20 => f_rotl | 21 => f_rotr | 22 => f_eq | 23 => f_ne | 24 => f_lt_s | 25 => f_gt_s | 26 => f_le_s | 27 => f_ge_s | 28 => f_lt_u | 29 => f_gt_u | 30 => f_le_u | 31 => f_ge_u | 32 => f_eqz | 33 => f_clz | 34 => f_ctz | 35 => f_popcnt | 36 => f_extend8_s | 37 => f_extend16_s | 38 => f_extend32_s | 39 => f_extend_u | 40 => f_signature_of | 41 => f_check_operands | 42 => f_calculate | 43 => f_l_is_integer | 44 => f_l_cell | 45 => f_l_signed | 46 => f_l_value | 47 => f_l_high | 48 => f_l_low | 49 => f_l_join | 50 => f_l_sums | 51 => f_l_products | 52 => f_l_bitwise | 53 => f_l_orders | 54 => f_l_counted | 55 => f_l_divided | 1000 => c_HostError | 1001 => c_Trap | 1002 => c_UnknownInstruction | 1003 => c_BadValues | 2001 => fi_Trap | 2002 => fi_UnknownInstruction | _ => 0)) F_div_s T O_in_range O_quotient O_init_Trap, PySem.W.mg_of X G a_div_s, F_div_s.kp, b_div_s⟩
  have O_div_u : DfX l.prog w K mg base 3 "div_u" f_div_u _ ["kind", "a", "b"] (SpD ⟨K, w, (fun n => match n with | 0 => f_width | 1 => f_unsigned | 2 => f_extend | 3 => f_signed | 4 => f_in_range | 5 => f_add | 6 => f_sub | 7 => f_mul | 8 => f_quotient | 9 => f_div_s | 10 => f_div_u | 11 => f_rem_s | 12 => f_rem_u | 13 => f_bit_and | 14 => f_bit_or | 15 => f_bit_xor | 16 => f_shift_count | 17 => f_shl | 18 => f_shr_s | 19 => f_shr_u | 20 => f_rotl | 21 => f_rotr | 22 => f_eq | 23 => f_ne | 24 => f_lt_s | 25 => f_gt_s | 26 => f_le_s | 27 => f_ge_s | 28 => f_lt_u | 29 => f_gt_u | 30 => f_le_u | 31 => f_ge_u | 32 => f_eqz | 33 => f_clz | 34 => f_ctz | 35 => f_popcnt | 36 => f_extend8_s | 37 => f_extend16_s | 38 => f_extend32_s | 39 => f_extend_u | 40 => f_signature_of | 41 => f_check_operands | 42 => f_calculate | 43 => f_l_is_integer | 44 => f_l_cell | 45 => f_l_signed | 46 => f_l_value | 47 => f_l_high | 48 => f_l_low | 49 => f_l_join | 50 => f_l_sums | 51 => f_l_products | 52 => f_l_bitwise | 53 => f_l_orders | 54 => f_l_counted | 55 => f_l_divided | 1000 => c_HostError | 1001 => c_Trap | 1002 => c_UnknownInstruction | 1003 => c_BadValues | 2001 => fi_Trap | 2002 => fi_UnknownInstruction | _ => 0)⟩ m_div_u) := ⟨ok_div_u (ad := (fun n => match n with | 0 => f_width | 1 => f_unsigned | 2 => f_extend | 3 => f_signed | 4 => f_in_range | 5 => f_add | 6 => f_sub | 7 => f_mul | 8 => f_quotient | 9 => f_div_s | 10 => f_div_u | 11 => f_rem_s | 12 => f_rem_u | 13 => f_bit_and | 14 => f_bit_or | 15 => f_bit_xor | 16 => f_shift_count | 17 => f_shl | 18 => f_shr_s | 19 => f_shr_u | 20 => f_rotl | 21 => f_rotr | 22 => f_eq | 23 => f_ne | 24 => f_lt_s | 25 => f_gt_s | 26 => f_le_s | 27 => f_ge_s | 28 => f_lt_u | 29 => f_gt_u | 30 => f_le_u | 31 => f_ge_u | 32 => f_eqz | 33 => f_clz | 34 => f_ctz | 35 => f_popcnt | 36 => f_extend8_s | 37 => f_extend16_s | 38 => f_extend32_s | 39 => f_extend_u | 40 => f_signature_of | 41 => f_check_operands | 42 => f_calculate | 43 => f_l_is_integer | 44 => f_l_cell | 45 => f_l_signed | 46 => f_l_value | 47 => f_l_high | 48 => f_l_low | 49 => f_l_join | 50 => f_l_sums | 51 => f_l_products | 52 => f_l_bitwise | 53 => f_l_orders | 54 => f_l_counted | 55 => f_l_divided | 1000 => c_HostError | 1001 => c_Trap | 1002 => c_UnknownInstruction | 1003 => c_BadValues | 2001 => fi_Trap | 2002 => fi_UnknownInstruction | _ => 0)) F_div_u T O_unsigned O_signed O_init_Trap, PySem.W.mg_of X G a_div_u, F_div_u.kp, b_div_u⟩
  have O_rem_s : DfX l.prog w K mg base 3 "rem_s" f_rem_s _ ["kind", "a", "b"] (SpD ⟨K, w, (fun n => match n with | 0 => f_width | 1 => f_unsigned | 2 => f_extend | 3 => f_signed | 4 => f_in_range | 5 => f_add | 6 => f_sub | 7 => f_mul | 8 => f_quotient | 9 => f_div_s | 10 => f_div_u | 11 => f_rem_s | 12 => f_rem_u | 13 => f_bit_and | 14 => f_bit_or | 15 => f_bit_xor | 16 => f_shift_count | 17 => f_shl | 18 => f_shr_s | 19 => f_shr_u | 20 => f_rotl | 21 => f_rotr | 22 => f_eq | 23 => f_ne | 24 => f_lt_s | 25 => f_gt_s | 26 => f_le_s | 27 => f_ge_s | 28 => f_lt_u | 29 => f_gt_u | 30 => f_le_u | 31 => f_ge_u | 32 => f_eqz | 33 => f_clz | 34 => f_ctz | 35 => f_popcnt | 36 => f_extend8_s | 37 => f_extend16_s | 38 => f_extend32_s | 39 => f_extend_u | 40 => f_signature_of | 41 => f_check_operands | 42 => f_calculate | 43 => f_l_is_integer | 44 => f_l_cell | 45 => f_l_signed | 46 => f_l_value | 47 => f_l_high | 48 => f_l_low | 49 => f_l_join | 50 => f_l_sums | 51 => f_l_products | 52 => f_l_bitwise | 53 => f_l_orders | 54 => f_l_counted | 55 => f_l_divided | 1000 => c_HostError | 1001 => c_Trap | 1002 => c_UnknownInstruction | 1003 => c_BadValues | 2001 => fi_Trap | 2002 => fi_UnknownInstruction | _ => 0)⟩ m_rem_s) := ⟨ok_rem_s (ad := (fun n => match n with | 0 => f_width | 1 => f_unsigned | 2 => f_extend | 3 => f_signed | 4 => f_in_range | 5 => f_add | 6 => f_sub | 7 => f_mul | 8 => f_quotient | 9 => f_div_s | 10 => f_div_u | 11 => f_rem_s | 12 => f_rem_u | 13 => f_bit_and | 14 => f_bit_or | 15 => f_bit_xor | 16 => f_shift_count | 17 => f_shl | 18 => f_shr_s | 19 => f_shr_u | 20 => f_rotl | 21 => f_rotr | 22 => f_eq | 23 => f_ne | 24 => f_lt_s | 25 => f_gt_s | 26 => f_le_s | 27 => f_ge_s | 28 => f_lt_u | 29 => f_gt_u | 30 => f_le_u | 31 => f_ge_u | 32 => f_eqz | 33 => f_clz | 34 => f_ctz | 35 => f_popcnt | 36 => f_extend8_s | 37 => f_extend16_s | 38 => f_extend32_s | 39 => f_extend_u | 40 => f_signature_of | 41 => f_check_operands | 42 => f_calculate | 43 => f_l_is_integer | 44 => f_l_cell | 45 => f_l_signed | 46 => f_l_value | 47 => f_l_high | 48 => f_l_low | 49 => f_l_join | 50 => f_l_sums | 51 => f_l_products | 52 => f_l_bitwise | 53 => f_l_orders | 54 => f_l_counted | 55 => f_l_divided | 1000 => c_HostError | 1001 => c_Trap | 1002 => c_UnknownInstruction | 1003 => c_BadValues | 2001 => fi_Trap | 2002 => fi_UnknownInstruction | _ => 0)) F_rem_s T O_quotient O_init_Trap, PySem.W.mg_of X G a_rem_s, F_rem_s.kp, b_rem_s⟩
  have O_rem_u : DfX l.prog w K mg base 3 "rem_u" f_rem_u _ ["kind", "a", "b"] (SpD ⟨K, w, (fun n => match n with | 0 => f_width | 1 => f_unsigned | 2 => f_extend | 3 => f_signed | 4 => f_in_range | 5 => f_add | 6 => f_sub | 7 => f_mul | 8 => f_quotient | 9 => f_div_s | 10 => f_div_u | 11 => f_rem_s | 12 => f_rem_u | 13 => f_bit_and | 14 => f_bit_or | 15 => f_bit_xor | 16 => f_shift_count | 17 => f_shl | 18 => f_shr_s | 19 => f_shr_u | 20 => f_rotl | 21 => f_rotr | 22 => f_eq | 23 => f_ne | 24 => f_lt_s | 25 => f_gt_s | 26 => f_le_s | 27 => f_ge_s | 28 => f_lt_u | 29 => f_gt_u | 30 => f_le_u | 31 => f_ge_u | 32 => f_eqz | 33 => f_clz | 34 => f_ctz | 35 => f_popcnt | 36 => f_extend8_s | 37 => f_extend16_s | 38 => f_extend32_s | 39 => f_extend_u | 40 => f_signature_of | 41 => f_check_operands | 42 => f_calculate | 43 => f_l_is_integer | 44 => f_l_cell | 45 => f_l_signed | 46 => f_l_value | 47 => f_l_high | 48 => f_l_low | 49 => f_l_join | 50 => f_l_sums | 51 => f_l_products | 52 => f_l_bitwise | 53 => f_l_orders | 54 => f_l_counted | 55 => f_l_divided | 1000 => c_HostError | 1001 => c_Trap | 1002 => c_UnknownInstruction | 1003 => c_BadValues | 2001 => fi_Trap | 2002 => fi_UnknownInstruction | _ => 0)⟩ m_rem_u) := ⟨ok_rem_u (ad := (fun n => match n with | 0 => f_width | 1 => f_unsigned | 2 => f_extend | 3 => f_signed | 4 => f_in_range | 5 => f_add | 6 => f_sub | 7 => f_mul | 8 => f_quotient | 9 => f_div_s | 10 => f_div_u | 11 => f_rem_s | 12 => f_rem_u | 13 => f_bit_and | 14 => f_bit_or | 15 => f_bit_xor | 16 => f_shift_count | 17 => f_shl | 18 => f_shr_s | 19 => f_shr_u | 20 => f_rotl | 21 => f_rotr | 22 => f_eq | 23 => f_ne | 24 => f_lt_s | 25 => f_gt_s | 26 => f_le_s | 27 => f_ge_s | 28 => f_lt_u | 29 => f_gt_u | 30 => f_le_u | 31 => f_ge_u | 32 => f_eqz | 33 => f_clz | 34 => f_ctz | 35 => f_popcnt | 36 => f_extend8_s | 37 => f_extend16_s | 38 => f_extend32_s | 39 => f_extend_u | 40 => f_signature_of | 41 => f_check_operands | 42 => f_calculate | 43 => f_l_is_integer | 44 => f_l_cell | 45 => f_l_signed | 46 => f_l_value | 47 => f_l_high | 48 => f_l_low | 49 => f_l_join | 50 => f_l_sums | 51 => f_l_products | 52 => f_l_bitwise | 53 => f_l_orders | 54 => f_l_counted | 55 => f_l_divided | 1000 => c_HostError | 1001 => c_Trap | 1002 => c_UnknownInstruction | 1003 => c_BadValues | 2001 => fi_Trap | 2002 => fi_UnknownInstruction | _ => 0)) F_rem_u T O_unsigned O_signed O_init_Trap, PySem.W.mg_of X G a_rem_u, F_rem_u.kp, b_rem_u⟩
  have O_bit_and : DfX l.prog w K mg base 1 "bit_and" f_bit_and _ ["kind", "a", "b"] (SpD ⟨K, w, (fun n => match n with | 0 => f_width | 1 => f_unsigned | 2 => f_extend | 3 => f_signed | 4 => f_in_range | 5 => f_add | 6 => f_sub | 7 => f_mul | 8 => f_quotient | 9 => f_div_s | 10 => f_div_u | 11 => f_rem_s | 12 => f_rem_u | 13 => f_bit_and | 14 => f_bit_or | 15 => f_bit_xor | 16 => f_shift_count | 17 => f_shl | 18 => f_shr_s | 19 => f_shr_u | 20 => f_rotl | 21 => f_rotr | 22 => f_eq | 23 => f_ne | 24 => f_lt_s | 25 => f_gt_s | 26 => f_le_s | 27 => f_ge_s | 28 => f_lt_u | 29 => f_gt_u | 30 => f_le_u | 31 => f_ge_u | 32 => f_eqz | 33 => f_clz | 34 => f_ctz | 35 => f_popcnt | 36 => f_extend8_s | 37 => f_extend16_s | 38 => f_extend32_s | 39 => f_extend_u | 40 => f_signature_of | 41 => f_check_operands | 42 => f_calculate | 43 => f_l_is_integer | 44 => f_l_cell | 45 => f_l_signed | 46 => f_l_value | 47 => f_l_high | 48 => f_l_low | 49 => f_l_join | 50 => f_l_sums | 51 => f_l_products | 52 => f_l_bitwise | 53 => f_l_orders | 54 => f_l_counted | 55 => f_l_divided | 1000 => c_HostError | 1001 => c_Trap | 1002 => c_UnknownInstruction | 1003 => c_BadValues | 2001 => fi_Trap | 2002 => fi_UnknownInstruction | _ => 0)⟩ m_bit_and) := ⟨ok_bit_and (ad := (fun n => match n with | 0 => f_width | 1 => f_unsigned | 2 => f_extend | 3 => f_signed | 4 => f_in_range | 5 => f_add | 6 => f_sub | 7 => f_mul | 8 => f_quotient | 9 => f_div_s | 10 => f_div_u | 11 => f_rem_s | 12 => f_rem_u | 13 => f_bit_and | 14 => f_bit_or | 15 => f_bit_xor | 16 => f_shift_count | 17 => f_shl | 18 => f_shr_s | 19 => f_shr_u | 20 => f_rotl | 21 => f_rotr | 22 => f_eq | 23 => f_ne | 24 => f_lt_s | 25 => f_gt_s | 26 => f_le_s | 27 => f_ge_s | 28 => f_lt_u | 29 => f_gt_u | 30 => f_le_u | 31 => f_ge_u | 32 => f_eqz | 33 => f_clz | 34 => f_ctz | 35 => f_popcnt | 36 => f_extend8_s | 37 => f_extend16_s | 38 => f_extend32_s | 39 => f_extend_u | 40 => f_signature_of | 41 => f_check_operands | 42 => f_calculate | 43 => f_l_is_integer | 44 => f_l_cell | 45 => f_l_signed | 46 => f_l_value | 47 => f_l_high | 48 => f_l_low | 49 => f_l_join | 50 => f_l_sums | 51 => f_l_products | 52 => f_l_bitwise | 53 => f_l_orders | 54 => f_l_counted | 55 => f_l_divided | 1000 => c_HostError | 1001 => c_Trap | 1002 => c_UnknownInstruction | 1003 => c_BadValues | 2001 => fi_Trap | 2002 => fi_UnknownInstruction | _ => 0)) F_bit_and T, PySem.W.mg_of X G a_bit_and, F_bit_and.kp, b_bit_and⟩
  have O_bit_or : DfX l.prog w K mg base 1 "bit_or" f_bit_or _ ["kind", "a", "b"] (SpD ⟨K, w, (fun n => match n with | 0 => f_width | 1 => f_unsigned | 2 => f_extend | 3 => f_signed | 4 => f_in_range | 5 => f_add | 6 => f_sub | 7 => f_mul | 8 => f_quotient | 9 => f_div_s | 10 => f_div_u | 11 => f_rem_s | 12 => f_rem_u | 13 => f_bit_and | 14 => f_bit_or | 15 => f_bit_xor | 16 => f_shift_count | 17 => f_shl | 18 => f_shr_s | 19 => f_shr_u | 20 => f_rotl | 21 => f_rotr | 22 => f_eq | 23 => f_ne | 24 => f_lt_s | 25 => f_gt_s | 26 => f_le_s | 27 => f_ge_s | 28 => f_lt_u | 29 => f_gt_u | 30 => f_le_u | 31 => f_ge_u | 32 => f_eqz | 33 => f_clz | 34 => f_ctz | 35 => f_popcnt | 36 => f_extend8_s | 37 => f_extend16_s | 38 => f_extend32_s | 39 => f_extend_u | 40 => f_signature_of | 41 => f_check_operands | 42 => f_calculate | 43 => f_l_is_integer | 44 => f_l_cell | 45 => f_l_signed | 46 => f_l_value | 47 => f_l_high | 48 => f_l_low | 49 => f_l_join | 50 => f_l_sums | 51 => f_l_products | 52 => f_l_bitwise | 53 => f_l_orders | 54 => f_l_counted | 55 => f_l_divided | 1000 => c_HostError | 1001 => c_Trap | 1002 => c_UnknownInstruction | 1003 => c_BadValues | 2001 => fi_Trap | 2002 => fi_UnknownInstruction | _ => 0)⟩ m_bit_or) := ⟨ok_bit_or (ad := (fun n => match n with | 0 => f_width | 1 => f_unsigned | 2 => f_extend | 3 => f_signed | 4 => f_in_range | 5 => f_add | 6 => f_sub | 7 => f_mul | 8 => f_quotient | 9 => f_div_s | 10 => f_div_u | 11 => f_rem_s | 12 => f_rem_u | 13 => f_bit_and | 14 => f_bit_or | 15 => f_bit_xor | 16 => f_shift_count | 17 => f_shl | 18 => f_shr_s | 19 => f_shr_u | 20 => f_rotl | 21 => f_rotr | 22 => f_eq | 23 => f_ne | 24 => f_lt_s | 25 => f_gt_s | 26 => f_le_s | 27 => f_ge_s | 28 => f_lt_u | 29 => f_gt_u | 30 => f_le_u | 31 => f_ge_u | 32 => f_eqz | 33 => f_clz | 34 => f_ctz | 35 => f_popcnt | 36 => f_extend8_s | 37 => f_extend16_s | 38 => f_extend32_s | 39 => f_extend_u | 40 => f_signature_of | 41 => f_check_operands | 42 => f_calculate | 43 => f_l_is_integer | 44 => f_l_cell | 45 => f_l_signed | 46 => f_l_value | 47 => f_l_high | 48 => f_l_low | 49 => f_l_join | 50 => f_l_sums | 51 => f_l_products | 52 => f_l_bitwise | 53 => f_l_orders | 54 => f_l_counted | 55 => f_l_divided | 1000 => c_HostError | 1001 => c_Trap | 1002 => c_UnknownInstruction | 1003 => c_BadValues | 2001 => fi_Trap | 2002 => fi_UnknownInstruction | _ => 0)) F_bit_or T, PySem.W.mg_of X G a_bit_or, F_bit_or.kp, b_bit_or⟩
  have O_bit_xor : DfX l.prog w K mg base 1 "bit_xor" f_bit_xor _ ["kind", "a", "b"] (SpD ⟨K, w, (fun n => match n with | 0 => f_width | 1 => f_unsigned | 2 => f_extend | 3 => f_signed | 4 => f_in_range | 5 => f_add | 6 => f_sub | 7 => f_mul | 8 => f_quotient | 9 => f_div_s | 10 => f_div_u | 11 => f_rem_s | 12 => f_rem_u | 13 => f_bit_and | 14 => f_bit_or | 15 => f_bit_xor | 16 => f_shift_count | 17 => f_shl | 18 => f_shr_s | 19 => f_shr_u | 20 => f_rotl | 21 => f_rotr | 22 => f_eq | 23 => f_ne | 24 => f_lt_s | 25 => f_gt_s | 26 => f_le_s | 27 => f_ge_s | 28 => f_lt_u | 29 => f_gt_u | 30 => f_le_u | 31 => f_ge_u | 32 => f_eqz | 33 => f_clz | 34 => f_ctz | 35 => f_popcnt | 36 => f_extend8_s | 37 => f_extend16_s | 38 => f_extend32_s | 39 => f_extend_u | 40 => f_signature_of | 41 => f_check_operands | 42 => f_calculate | 43 => f_l_is_integer | 44 => f_l_cell | 45 => f_l_signed | 46 => f_l_value | 47 => f_l_high | 48 => f_l_low | 49 => f_l_join | 50 => f_l_sums | 51 => f_l_products | 52 => f_l_bitwise | 53 => f_l_orders | 54 => f_l_counted | 55 => f_l_divided | 1000 => c_HostError | 1001 => c_Trap | 1002 => c_UnknownInstruction | 1003 => c_BadValues | 2001 => fi_Trap | 2002 => fi_UnknownInstruction | _ => 0)⟩ m_bit_xor) := ⟨ok_bit_xor (ad := (fun n => match n with | 0 => f_width | 1 => f_unsigned | 2 => f_extend | 3 => f_signed | 4 => f_in_range | 5 => f_add | 6 => f_sub | 7 => f_mul | 8 => f_quotient | 9 => f_div_s | 10 => f_div_u | 11 => f_rem_s | 12 => f_rem_u | 13 => f_bit_and | 14 => f_bit_or | 15 => f_bit_xor | 16 => f_shift_count | 17 => f_shl | 18 => f_shr_s | 19 => f_shr_u | 20 => f_rotl | 21 => f_rotr | 22 => f_eq | 23 => f_ne | 24 => f_lt_s | 25 => f_gt_s | 26 => f_le_s | 27 => f_ge_s | 28 => f_lt_u | 29 => f_gt_u | 30 => f_le_u | 31 => f_ge_u | 32 => f_eqz | 33 => f_clz | 34 => f_ctz | 35 => f_popcnt | 36 => f_extend8_s | 37 => f_extend16_s | 38 => f_extend32_s | 39 => f_extend_u | 40 => f_signature_of | 41 => f_check_operands | 42 => f_calculate | 43 => f_l_is_integer | 44 => f_l_cell | 45 => f_l_signed | 46 => f_l_value | 47 => f_l_high | 48 => f_l_low | 49 => f_l_join | 50 => f_l_sums | 51 => f_l_products | 52 => f_l_bitwise | 53 => f_l_orders | 54 => f_l_counted | 55 => f_l_divided | 1000 => c_HostError | 1001 => c_Trap | 1002 => c_UnknownInstruction | 1003 => c_BadValues | 2001 => fi_Trap | 2002 => fi_UnknownInstruction | _ => 0)) F_bit_xor T, PySem.W.mg_of X G a_bit_xor, F_bit_xor.kp, b_bit_xor⟩
  have O_shift_count : DfX l.prog w K mg base 2 "shift_count" f_shift_count _ ["kind", "b"] (SpD ⟨K, w, (fun n => match n with | 0 => f_width | 1 => f_unsigned | 2 => f_extend | 3 => f_signed | 4 => f_in_range | 5 => f_add | 6 => f_sub | 7 => f_mul | 8 => f_quotient | 9 => f_div_s | 10 => f_div_u | 11 => f_rem_s | 12 => f_rem_u | 13 => f_bit_and | 14 => f_bit_or | 15 => f_bit_xor | 16 => f_shift_count | 17 => f_shl | 18 => f_shr_s | 19 => f_shr_u | 20 => f_rotl | 21 => f_rotr | 22 => f_eq | 23 => f_ne | 24 => f_lt_s | 25 => f_gt_s | 26 => f_le_s | 27 => f_ge_s | 28 => f_lt_u | 29 => f_gt_u | 30 => f_le_u | 31 => f_ge_u | 32 => f_eqz | 33 => f_clz | 34 => f_ctz | 35 => f_popcnt | 36 => f_extend8_s | 37 => f_extend16_s | 38 => f_extend32_s | 39 => f_extend_u | 40 => f_signature_of | 41 => f_check_operands | 42 => f_calculate | 43 => f_l_is_integer | 44 => f_l_cell | 45 => f_l_signed | 46 => f_l_value | 47 => f_l_high | 48 => f_l_low | 49 => f_l_join | 50 => f_l_sums | 51 => f_l_products | 52 => f_l_bitwise | 53 => f_l_orders | 54 => f_l_counted | 55 => f_l_divided | 1000 => c_HostError | 1001 => c_Trap | 1002 => c_UnknownInstruction | 1003 => c_BadValues | 2001 => fi_Trap | 2002 => fi_UnknownInstruction | _ => 0)⟩ m_shift_count) := ⟨ok_shift_count (ad := (fun n => match n with | 0 => f_width | 1 => f_unsigned | 2 => f_extend | 3 => f_signed | 4 => f_in_range | 5 => f_add | 6 => f_sub | 7 => f_mul | 8 => f_quotient | 9 => f_div_s | 10 => f_div_u | 11 => f_rem_s | 12 => f_rem_u | 13 => f_bit_and | 14 => f_bit_or | 15 => f_bit_xor | 16 => f_shift_count | 17 => f_shl | 18 => f_shr_s | 19 => f_shr_u | 20 => f_rotl | 21 => f_rotr | 22 => f_eq | 23 => f_ne | 24 => f_lt_s | 25 => f_gt_s | 26 => f_le_s | 27 => f_ge_s | 28 => f_lt_u | 29 => f_gt_u | 30 => f_le_u | 31 => f_ge_u | 32 => f_eqz | 33 => f_clz | 34 => f_ctz | 35 => f_popcnt | 36 => f_extend8_s | 37 => f_extend16_s | 38 => f_extend32_s | 39 => f_extend_u | 40 => f_signature_of | 41 => f_check_operands | 42 => f_calculate | 43 => f_l_is_integer | 44 => f_l_cell | 45 => f_l_signed | 46 => f_l_value | 47 => f_l_high | 48 => f_l_low | 49 => f_l_join | 50 => f_l_sums | 51 => f_l_products | 52 => f_l_bitwise | 53 => f_l_orders | 54 => f_l_counted | 55 => f_l_divided | 1000 => c_HostError | 1001 => c_Trap | 1002 => c_UnknownInstruction | 1003 => c_BadValues | 2001 => fi_Trap | 2002 => fi_UnknownInstruction | _ => 0)) F_shift_count T O_width, PySem.W.mg_of X G a_shift_count, F_shift_count.kp, b_shift_count⟩
  have O_shl : DfX l.prog w K mg base 3 "shl" f_shl _ ["kind", "a", "b"] (SpD ⟨K, w, (fun n => match n with | 0 => f_width | 1 => f_unsigned | 2 => f_extend | 3 => f_signed | 4 => f_in_range | 5 => f_add | 6 => f_sub | 7 => f_mul | 8 => f_quotient | 9 => f_div_s | 10 => f_div_u | 11 => f_rem_s | 12 => f_rem_u | 13 => f_bit_and | 14 => f_bit_or | 15 => f_bit_xor | 16 => f_shift_count | 17 => f_shl | 18 => f_shr_s | 19 => f_shr_u | 20 => f_rotl | 21 => f_rotr | 22 => f_eq | 23 => f_ne | 24 => f_lt_s | 25 => f_gt_s | 26 => f_le_s | 27 => f_ge_s | 28 => f_lt_u | 29 => f_gt_u | 30 => f_le_u | 31 => f_ge_u | 32 => f_eqz | 33 => f_clz | 34 => f_ctz | 35 => f_popcnt | 36 => f_extend8_s | 37 => f_extend16_s | 38 => f_extend32_s | 39 => f_extend_u | 40 => f_signature_of | 41 => f_check_operands | 42 => f_calculate | 43 => f_l_is_integer | 44 => f_l_cell | 45 => f_l_signed | 46 => f_l_value | 47 => f_l_high | 48 => f_l_low | 49 => f_l_join | 50 => f_l_sums | 51 => f_l_products | 52 => f_l_bitwise | 53 => f_l_orders | 54 => f_l_counted | 55 => f_l_divided | 1000 => c_HostError | 1001 => c_Trap | 1002 => c_UnknownInstruction | 1003 => c_BadValues | 2001 => fi_Trap | 2002 => fi_UnknownInstruction | _ => 0)⟩ m_shl) := ⟨ok_shl (ad := (fun n => match n with | 0 => f_width | 1 => f_unsigned | 2 => f_extend | 3 => f_signed | 4 => f_in_range | 5 => f_add | 6 => f_sub | 7 => f_mul | 8 => f_quotient | 9 => f_div_s | 10 => f_div_u | 11 => f_rem_s | 12 => f_rem_u | 13 => f_bit_and | 14 => f_bit_or | 15 => f_bit_xor | 16 => f_shift_count | 17 => f_shl | 18 => f_shr_s | 19 => f_shr_u | 20 => f_rotl | 21 => f_rotr | 22 => f_eq | 23 => f_ne | 24 => f_lt_s | 25 => f_gt_s | 26 => f_le_s | 27 => f_ge_s | 28 => f_lt_u | 29 => f_gt_u | 30 => f_le_u | 31 => f_ge_u | 32 => f_eqz | 33 => f_clz | 34 => f_ctz | 35 => f_popcnt | 36 => f_extend8_s | 37 => f_extend16_s | 38 => f_extend32_s | 39 => f_extend_u | 40 => f_signature_of | 41 => f_check_operands | 42 => f_calculate | 43 => f_l_is_integer | 44 => f_l_cell | 45 => f_l_signed | 46 => f_l_value | 47 => f_l_high | 48 => f_l_low | 49 => f_l_join | 50 => f_l_sums | 51 => f_l_products | 52 => f_l_bitwise | 53 => f_l_orders | 54 => f_l_counted | 55 => f_l_divided | 1000 => c_HostError | 1001 => c_Trap | 1002 => c_UnknownInstruction | 1003 => c_BadValues | 2001 => fi_Trap | 2002 => fi_UnknownInstruction | _ => 0)) F_shl T O_signed O_shift_count, PySem.W.mg_of X G a_shl, F_shl.kp, b_shl⟩
  have O_shr_s : DfX l.prog w K mg base 3 "shr_s" f_shr_s _ ["kind", "a", "b"] (SpD ⟨K, w, (fun n => match n with | 0 => f_width | 1 => f_unsigned | 2 => f_extend | 3 => f_signed | 4 => f_in_range | 5 => f_add | 6 => f_sub | 7 => f_mul | 8 => f_quotient | 9 => f_div_s | 10 => f_div_u | 11 => f_rem_s | 12 => f_rem_u | 13 => f_bit_and | 14 => f_bit_or | 15 => f_bit_xor | 16 => f_shift_count | 17 => f_shl | 18 => f_shr_s | 19 => f_shr_u | 20 => f_rotl | 21 => f_rotr | 22 => f_eq | 23 => f_ne | 24 => f_lt_s | 25 => f_gt_s | 26 => f_le_s | 27 => f_ge_s | 28 => f_lt_u | 29 => f_gt_u | 30 => f_le_u | 31 => f_ge_u | 32 => f_eqz | 33 => f_clz | 34 => f_ctz | 35 => f_popcnt | 36 => f_extend8_s | 37 => f_extend16_s | 38 => f_extend32_s | 39 => f_extend_u | 40 => f_signature_of | 41 => f_check_operands | 42 => f_calculate | 43 => f_l_is_integer | 44 => f_l_cell | 45 => f_l_signed | 46 => f_l_value | 47 => f_l_high | 48 => f_l_low | 49 => f_l_join | 50 => f_l_sums | 51 => f_l_products | 52 => f_l_bitwise | 53 => f_l_orders | 54 => f_l_counted | 55 => f_l_divided | 1000 => c_HostError | 1001 => c_Trap | 1002 => c_UnknownInstruction | 1003 => c_BadValues | 2001 => fi_Trap | 2002 => fi_UnknownInstruction | _ => 0)⟩ m_shr_s) := ⟨ok_shr_s (ad := (fun n => match n with | 0 => f_width | 1 => f_unsigned | 2 => f_extend | 3 => f_signed | 4 => f_in_range | 5 => f_add | 6 => f_sub | 7 => f_mul | 8 => f_quotient | 9 => f_div_s | 10 => f_div_u | 11 => f_rem_s | 12 => f_rem_u | 13 => f_bit_and | 14 => f_bit_or | 15 => f_bit_xor | 16 => f_shift_count | 17 => f_shl | 18 => f_shr_s | 19 => f_shr_u | 20 => f_rotl | 21 => f_rotr | 22 => f_eq | 23 => f_ne | 24 => f_lt_s | 25 => f_gt_s | 26 => f_le_s | 27 => f_ge_s | 28 => f_lt_u | 29 => f_gt_u | 30 => f_le_u | 31 => f_ge_u | 32 => f_eqz | 33 => f_clz | 34 => f_ctz | 35 => f_popcnt | 36 => f_extend8_s | 37 => f_extend16_s | 38 => f_extend32_s | 39 => f_extend_u | 40 => f_signature_of | 41 => f_check_operands | 42 => f_calculate | 43 => f_l_is_integer | 44 => f_l_cell | 45 => f_l_signed | 46 => f_l_value | 47 => f_l_high | 48 => f_l_low | 49 => f_l_join | 50 => f_l_sums | 51 => f_l_products | 52 => f_l_bitwise | 53 => f_l_orders | 54 => f_l_counted | 55 => f_l_divided | 1000 => c_HostError | 1001 => c_Trap | 1002 => c_UnknownInstruction | 1003 => c_BadValues | 2001 => fi_Trap | 2002 => fi_UnknownInstruction | _ => 0)) F_shr_s T O_shift_count, PySem.W.mg_of X G a_shr_s, F_shr_s.kp, b_shr_s⟩
  have O_shr_u : DfX l.prog w K mg base 3 "shr_u" f_shr_u _ ["kind", "a", "b"] (SpD ⟨K, w, (fun n => match n with | 0 => f_width | 1 => f_unsigned | 2 => f_extend | 3 => f_signed | 4 => f_in_range | 5 => f_add | 6 => f_sub | 7 => f_mul | 8 => f_quotient | 9 => f_div_s | 10 => f_div_u | 11 => f_rem_s | 12 => f_rem_u | 13 => f_bit_and | 14 => f_bit_or | 15 => f_bit_xor | 16 => f_shift_count | 17 => f_shl | 18 => f_shr_s | 19 => f_shr_u | 20 => f_rotl | 21 => f_rotr | 22 => f_eq | 23 => f_ne | 24 => f_lt_s | 25 => f_gt_s | 26 => f_le_s | 27 => f_ge_s | 28 => f_lt_u | 29 => f_gt_u | 30 => f_le_u | 31 => f_ge_u | 32 => f_eqz | 33 => f_clz | 34 => f_ctz | 35 => f_popcnt | 36 => f_extend8_s | 37 => f_extend16_s | 38 => f_extend32_s | 39 => f_extend_u | 40 => f_signature_of | 41 => f_check_operands | 42 => f_calculate | 43 => f_l_is_integer | 44 => f_l_cell | 45 => f_l_signed | 46 => f_l_value | 47 => f_l_high | 48 => f_l_low | 49 => f_l_join | 50 => f_l_sums | 51 => f_l_products | 52 => f_l_bitwise | 53 => f_l_orders | 54 => f_l_counted | 55 => f_l_divided | 1000 => c_HostError | 1001 => c_Trap | 1002 => c_UnknownInstruction | 1003 => c_BadValues | 2001 => fi_Trap | 2002 => fi_UnknownInstruction | _ => 0)⟩ m_shr_u) := ⟨ok_shr_u (ad := (fun n => match n with | 0 => f_width | 1 => f_unsigned | 2 => f_extend | 3 => f_signed | 4 => f_in_range | 5 => f_add | 6 => f_sub | 7 => f_mul | 8 => f_quotient | 9 => f_div_s | 10 => f_div_u | 11 => f_rem_s | 12 => f_rem_u | 13 => f_bit_and | 14 => f_bit_or | 15 => f_bit_xor | 16 => f_shift_count | 17 => f_shl | 18 => f_shr_s | 19 => f_shr_u | 20 => f_rotl | 21 => f_rotr | 22 => f_eq | 23 => f_ne | 24 => f_lt_s | 25 => f_gt_s | 26 => f_le_s | 27 => f_ge_s | 28 => f_lt_u | 29 => f_gt_u | 30 => f_le_u | 31 => f_ge_u | 32 => f_eqz | 33 => f_clz | 34 => f_ctz | 35 => f_popcnt | 36 => f_extend8_s | 37 => f_extend16_s | 38 => f_extend32_s | 39 => f_extend_u | 40 => f_signature_of | 41 => f_check_operands | 42 => f_calculate | 43 => f_l_is_integer | 44 => f_l_cell | 45 => f_l_signed | 46 => f_l_value | 47 => f_l_high | 48 => f_l_low | 49 => f_l_join | 50 => f_l_sums | 51 => f_l_products | 52 => f_l_bitwise | 53 => f_l_orders | 54 => f_l_counted | 55 => f_l_divided | 1000 => c_HostError | 1001 => c_Trap | 1002 => c_UnknownInstruction | 1003 => c_BadValues | 2001 => fi_Trap | 2002 => fi_UnknownInstruction | _ => 0)) F_shr_u T O_unsigned O_signed O_shift_count, PySem.W.mg_of X G a_shr_u, F_shr_u.kp, b_shr_u⟩
  have O_rotl : DfX l.prog w K mg base 3 "rotl" f_rotl _ ["kind", "a", "b"] (SpD ⟨K, w, (fun n => match n with | 0 => f_width | 1 => f_unsigned | 2 => f_extend | 3 => f_signed | 4 => f_in_range | 5 => f_add | 6 => f_sub | 7 => f_mul | 8 => f_quotient | 9 => f_div_s | 10 => f_div_u | 11 => f_rem_s | 12 => f_rem_u | 13 => f_bit_and | 14 => f_bit_or | 15 => f_bit_xor | 16 => f_shift_count | 17 => f_shl | 18 => f_shr_s | 19 => f_shr_u | 20 => f_rotl | 21 => f_rotr | 22 => f_eq | 23 => f_ne | 24 => f_lt_s | 25 => f_gt_s | 26 => f_le_s | 27 => f_ge_s | 28 => f_lt_u | 29 => f_gt_u | 30 => f_le_u | 31 => f_ge_u | 32 => f_eqz | 33 => f_clz | 34 => f_ctz | 35 => f_popcnt | 36 => f_extend8_s | 37 => f_extend16_s | 38 => f_extend32_s | 39 => f_extend_u | 40 => f_signature_of | 41 => f_check_operands | 42 => f_calculate | 43 => f_l_is_integer | 44 => f_l_cell | 45 => f_l_signed | 46 => f_l_value | 47 => f_l_high | 48 => f_l_low | 49 => f_l_join | 50 => f_l_sums | 51 => f_l_products | 52 => f_l_bitwise | 53 => f_l_orders | 54 => f_l_counted | 55 => f_l_divided | 1000 => c_HostError | 1001 => c_Trap | 1002 => c_UnknownInstruction | 1003 => c_BadValues | 2001 => fi_Trap | 2002 => fi_UnknownInstruction | _ => 0)⟩ m_rotl) := ⟨ok_rotl (ad := (fun n => match n with | 0 => f_width | 1 => f_unsigned | 2 => f_extend | 3 => f_signed | 4 => f_in_range | 5 => f_add | 6 => f_sub | 7 => f_mul | 8 => f_quotient | 9 => f_div_s | 10 => f_div_u | 11 => f_rem_s | 12 => f_rem_u | 13 => f_bit_and | 14 => f_bit_or | 15 => f_bit_xor | 16 => f_shift_count | 17 => f_shl | 18 => f_shr_s | 19 => f_shr_u | 20 => f_rotl | 21 => f_rotr | 22 => f_eq | 23 => f_ne | 24 => f_lt_s | 25 => f_gt_s | 26 => f_le_s | 27 => f_ge_s | 28 => f_lt_u | 29 => f_gt_u | 30 => f_le_u | 31 => f_ge_u | 32 => f_eqz | 33 => f_clz | 34 => f_ctz | 35 => f_popcnt | 36 => f_extend8_s | 37 => f_extend16_s | 38 => f_extend32_s | 39 => f_extend_u | 40 => f_signature_of | 41 => f_check_operands | 42 => f_calculate | 43 => f_l_is_integer | 44 => f_l_cell | 45 => f_l_signed | 46 => f_l_value | 47 => f_l_high | 48 => f_l_low | 49 => f_l_join | 50 => f_l_sums | 51 => f_l_products | 52 => f_l_bitwise | 53 => f_l_orders | 54 => f_l_counted | 55 => f_l_divided | 1000 => c_HostError | 1001 => c_Trap | 1002 => c_UnknownInstruction | 1003 => c_BadValues | 2001 => fi_Trap | 2002 => fi_UnknownInstruction | _ => 0)) F_rotl T O_width O_unsigned O_signed O_shift_count, PySem.W.mg_of X G a_rotl, F_rotl.kp, b_rotl⟩
  have O_rotr : DfX l.prog w K mg base 3 "rotr" f_rotr _ ["kind", "a", "b"] (SpD ⟨K, w, (fun n => match n with | 0 => f_width | 1 => f_unsigned | 2 => f_extend | 3 => f_signed | 4 => f_in_range | 5 => f_add | 6 => f_sub | 7 => f_mul | 8 => f_quotient | 9 => f_div_s | 10 => f_div_u | 11 => f_rem_s | 12 => f_rem_u | 13 => f_bit_and | 14 => f_bit_or | 15 => f_bit_xor | 16 => f_shift_count | 17 => f_shl | 18 => f_shr_s | 19 => f_shr_u | 20 => f_rotl | 21 => f_rotr | 22 => f_eq | 23 => f_ne | 24 => f_lt_s | 25 => f_gt_s | 26 => f_le_s | 27 => f_ge_s | 28 => f_lt_u | 29 => f_gt_u | 30 => f_le_u | 31 => f_ge_u | 32 => f_eqz | 33 => f_clz | 34 => f_ctz | 35 => f_popcnt | 36 => f_extend8_s | 37 => f_extend16_s | 38 => f_extend32_s | 39 => f_extend_u | 40 => f_signature_of | 41 => f_check_operands | 42 => f_calculate | 43 => f_l_is_integer | 44 => f_l_cell | 45 => f_l_signed | 46 => f_l_value | 47 => f_l_high | 48 => f_l_low | 49 => f_l_join | 50 => f_l_sums | 51 => f_l_products | 52 => f_l_bitwise | 53 => f_l_orders | 54 => f_l_counted | 55 => f_l_divided | 1000 => c_HostError | 1001 => c_Trap | 1002 => c_UnknownInstruction | 1003 => c_BadValues | 2001 => fi_Trap | 2002 => fi_UnknownInstruction | _ => 0)⟩ m_rotr) := ⟨ok_rotr (ad := (fun n => match n with | 0 => f_width | 1 => f_unsigned | 2 => f_extend | 3 => f_signed | 4 => f_in_range | 5 => f_add | 6 => f_sub | 7 => f_mul | 8 => f_quotient | 9 => f_div_s | 10 => f_div_u | 11 => f_rem_s | 12 => f_rem_u | 13 => f_bit_and | 14 => f_bit_or | 15 => f_bit_xor | 16 => f_shift_count | 17 => f_shl | 18 => f_shr_s | 19 => f_shr_u | 20 => f_rotl | 21 => f_rotr | 22 => f_eq | 23 => f_ne | 24 => f_lt_s | 25 => f_gt_s | 26 => f_le_s | 27 => f_ge_s | 28 => f_lt_u | 29 => f_gt_u | 30 => f_le_u | 31 => f_ge_u | 32 => f_eqz | 33 => f_clz | 34 => f_ctz | 35 => f_popcnt | 36 => f_extend8_s | 37 => f_extend16_s | 38 => f_extend32_s | 39 => f_extend_u | 40 => f_signature_of | 41 => f_check_operands | 42 => f_calculate | 43 => f_l_is_integer | 44 => f_l_cell | 45 => f_l_signed | 46 => f_l_value | 47 => f_l_high | 48 => f_l_low | 49 => f_l_join | 50 => f_l_sums | 51 => f_l_products | 52 => f_l_bitwise | 53 => f_l_orders | 54 => f_l_counted | 55 => f_l_divided | 1000 => c_HostError | 1001 => c_Trap | 1002 => c_UnknownInstruction | 1003 => c_BadValues | 2001 => fi_Trap | 2002 => fi_UnknownInstruction | _ => 0)) F_rotr T O_width O_unsigned O_signed O_shift_count, PySem.W.mg_of X G a_rotr, F_rotr.kp, b_rotr⟩
  have O_eq : DfX l.prog w K mg base 1 "eq" f_eq _ ["kind", "a", "b"] (SpD ⟨K, w, (fun n => match n with | 0 => f_width | 1 => f_unsigned | 2 => f_extend | 3 => f_signed | 4 => f_in_range | 5 => f_add | 6 => f_sub | 7 => f_mul | 8 => f_quotient | 9 => f_div_s | 10 => f_div_u | 11 => f_rem_s | 12 => f_rem_u | 13 => f_bit_and | 14 => f_bit_or | 15 => f_bit_xor | 16 => f_shift_count | 17 => f_shl | 18 => f_shr_s | 19 => f_shr_u | 20 => f_rotl | 21 => f_rotr | 22 => f_eq | 23 => f_ne | 24 => f_lt_s | 25 => f_gt_s | 26 => f_le_s | 27 => f_ge_s | 28 => f_lt_u | 29 => f_gt_u | 30 => f_le_u | 31 => f_ge_u | 32 => f_eqz | 33 => f_clz | 34 => f_ctz | 35 => f_popcnt | 36 => f_extend8_s | 37 => f_extend16_s | 38 => f_extend32_s | 39 => f_extend_u | 40 => f_signature_of | 41 => f_check_operands | 42 => f_calculate | 43 => f_l_is_integer | 44 => f_l_cell | 45 => f_l_signed | 46 => f_l_value | 47 => f_l_high | 48 => f_l_low | 49 => f_l_join | 50 => f_l_sums | 51 => f_l_products | 52 => f_l_bitwise | 53 => f_l_orders | 54 => f_l_counted | 55 => f_l_divided | 1000 => c_HostError | 1001 => c_Trap | 1002 => c_UnknownInstruction | 1003 => c_BadValues | 2001 => fi_Trap | 2002 => fi_UnknownInstruction | _ => 0)⟩ m_eq) := ⟨ok_eq (ad := (fun n => match n with | 0 => f_width | 1 => f_unsigned | 2 => f_extend | 3 => f_signed | 4 => f_in_range | 5 => f_add | 6 => f_sub | 7 => f_mul | 8 => f_quotient | 9 => f_div_s | 10 => f_div_u | 11 => f_rem_s | 12 => f_rem_u | 13 => f_bit_and | 14 => f_bit_or | 15 => f_bit_xor | 16 => f_shift_count | 17 => f_shl | 18 => f_shr_s | 19 => f_shr_u | 20 => f_rotl | 21 => f_rotr | 22 => f_eq | 23 => f_ne | 24 => f_lt_s | 25 => f_gt_s | 26 => f_le_s | 27 => f_ge_s | 28 => f_lt_u | 29 => f_gt_u | 30 => f_le_u | 31 => f_ge_u | 32 => f_eqz | 33 => f_clz | 34 => f_ctz | 35 => f_popcnt | 36 => f_extend8_s | 37 => f_extend16_s | 38 => f_extend32_s | 39 => f_extend_u | 40 => f_signature_of | 41 => f_check_operands | 42 => f_calculate | 43 => f_l_is_integer | 44 => f_l_cell | 45 => f_l_signed | 46 => f_l_value | 47 => f_l_high | 48 => f_l_low | 49 => f_l_join | 50 => f_l_sums | 51 => f_l_products | 52 => f_l_bitwise | 53 => f_l_orders | 54 => f_l_counted | 55 => f_l_divided | 1000 => c_HostError | 1001 => c_Trap | 1002 => c_UnknownInstruction | 1003 => c_BadValues | 2001 => fi_Trap | 2002 => fi_UnknownInstruction | _ => 0)) F_eq T, PySem.W.mg_of X G a_eq, F_eq.kp, b_eq⟩
  have O_ne : DfX l.prog w K mg base 1 "ne" f_ne _ ["kind", "a", "b"] (SpD ⟨K, w, (fun n => match n with | 0 => f_width | 1 => f_unsigned | 2 => f_extend | 3 => f_signed | 4 => f_in_range | 5 => f_add | 6 => f_sub | 7 => f_mul | 8 => f_quotient | 9 => f_div_s | 10 => f_div_u | 11 => f_rem_s | 12 => f_rem_u | 13 => f_bit_and | 14 => f_bit_or | 15 => f_bit_xor | 16 => f_shift_count | 17 => f_shl | 18 => f_shr_s | 19 => f_shr_u | 20 => f_rotl | 21 => f_rotr | 22 => f_eq | 23 => f_ne | 24 => f_lt_s | 25 => f_gt_s | 26 => f_le_s | 27 => f_ge_s | 28 => f_lt_u | 29 => f_gt_u | 30 => f_le_u | 31 => f_ge_u | 32 => f_eqz | 33 => f_clz | 34 => f_ctz | 35 => f_popcnt | 36 => f_extend8_s | 37 => f_extend16_s | 38 => f_extend32_s | 39 => f_extend_u | 40 => f_signature_of | 41 => f_check_operands | 42 => f_calculate | 43 => f_l_is_integer | 44 => f_l_cell | 45 => f_l_signed | 46 => f_l_value | 47 => f_l_high | 48 => f_l_low | 49 => f_l_join | 50 => f_l_sums | 51 => f_l_products | 52 => f_l_bitwise | 53 => f_l_orders | 54 => f_l_counted | 55 => f_l_divided | 1000 => c_HostError | 1001 => c_Trap | 1002 => c_UnknownInstruction | 1003 => c_BadValues | 2001 => fi_Trap | 2002 => fi_UnknownInstruction | _ => 0)⟩ m_ne) := ⟨ok_ne (ad := (fun n => match n with | 0 => f_width | 1 => f_unsigned | 2 => f_extend | 3 => f_signed | 4 => f_in_range | 5 => f_add | 6 => f_sub | 7 => f_mul | 8 => f_quotient | 9 => f_div_s | 10 => f_div_u | 11 => f_rem_s | 12 => f_rem_u | 13 => f_bit_and | 14 => f_bit_or | 15 => f_bit_xor | 16 => f_shift_count | 17 => f_shl | 18 => f_shr_s | 19 => f_shr_u | 20 => f_rotl | 21 => f_rotr | 22 => f_eq | 23 => f_ne | 24 => f_lt_s | 25 => f_gt_s | 26 => f_le_s | 27 => f_ge_s | 28 => f_lt_u | 29 => f_gt_u | 30 => f_le_u | 31 => f_ge_u | 32 => f_eqz | 33 => f_clz | 34 => f_ctz | 35 => f_popcnt | 36 => f_extend8_s | 37 => f_extend16_s | 38 => f_extend32_s | 39 => f_extend_u | 40 => f_signature_of | 41 => f_check_operands | 42 => f_calculate | 43 => f_l_is_integer | 44 => f_l_cell | 45 => f_l_signed | 46 => f_l_value | 47 => f_l_high | 48 => f_l_low | 49 => f_l_join | 50 => f_l_sums | 51 => f_l_products | 52 => f_l_bitwise | 53 => f_l_orders | 54 => f_l_counted | 55 => f_l_divided | 1000 => c_HostError | 1001 => c_Trap | 1002 => c_UnknownInstruction | 1003 => c_BadValues | 2001 => fi_Trap | 2002 => fi_UnknownInstruction | _ => 0)) F_ne T, PySem.W.mg_of X G a_ne, F_ne.kp, b_ne⟩
  have O_lt_s : DfX l.prog w K mg base 1 "lt_s" f_lt_s _ ["kind", "a", "b"] (SpD ⟨K, w, (fun n => match n with | 0 => f_width | 1 => f_unsigned | 2 => f_extend | 3 => f_signed | 4 => f_in_range | 5 => f_add | 6 => f_sub | 7 => f_mul | 8 => f_quotient | 9 => f_div_s | 10 => f_div_u | 11 => f_rem_s | 12 => f_rem_u | 13 => f_bit_and | 14 => f_bit_or | 15 => f_bit_xor | 16 => f_shift_count | 17 => f_shl | 18 => f_shr_s | 19 => f_shr_u | 20 => f_rotl | 21 => f_rotr | 22 => f_eq | 23 => f_ne | 24 => f_lt_s | 25 => f_gt_s | 26 => f_le_s | 27 => f_ge_s | 28 => f_lt_u | 29 => f_gt_u | 30 => f_le_u | 31 => f_ge_u | 32 => f_eqz | 33 => f_clz | 34 => f_ctz | 35 => f_popcnt | 36 => f_extend8_s | 37 => f_extend16_s | 38 => f_extend32_s | 39 => f_extend_u | 40 => f_signature_of | 41 => f_check_operands | 42 => f_calculate | 43 => f_l_is_integer | 44 => f_l_cell | 45 => f_l_signed | 46 => f_l_value | 47 => f_l_high | 48 => f_l_low | 49 => f_l_join | 50 => f_l_sums | 51 => f_l_products | 52 => f_l_bitwise | 53 => f_l_orders | 54 => f_l_counted | 55 => f_l_divided | 1000 => c_HostError | 1001 => c_Trap | 1002 => c_UnknownInstruction | 1003 => c_BadValues | 2001 => fi_Trap | 2002 => fi_UnknownInstruction | _ => 0)⟩ m_lt_s) := ⟨ok_lt_s (ad := (fun n => match n with | 0 => f_width | 1 => f_unsigned | 2 => f_extend | 3 => f_signed | 4 => f_in_range | 5 => f_add | 6 => f_sub | 7 => f_mul | 8 => f_quotient | 9 => f_div_s | 10 => f_div_u | 11 => f_rem_s | 12 => f_rem_u | 13 => f_bit_and | 14 => f_bit_or | 15 => f_bit_xor | 16 => f_shift_count | 17 => f_shl | 18 => f_shr_s | 19 => f_shr_u | 20 => f_rotl | 21 => f_rotr | 22 => f_eq | 23 => f_ne | 24 => f_lt_s | 25 => f_gt_s | 26 => f_le_s | 27 => f_ge_s | 28 => f_lt_u | 29 => f_gt_u | 30 => f_le_u | 31 => f_ge_u | 32 => f_eqz | 33 => f_clz | 34 => f_ctz | 35 => f_popcnt | 36 => f_extend8_s | 37 => f_extend16_s | 38 => f_extend32_s | 39 => f_extend_u | 40 => f_signature_of | 41 => f_check_operands | 42 => f_calculate | 43 => f_l_is_integer | 44 => f_l_cell | 45 => f_l_signed | 46 => f_l_value | 47 => f_l_high | 48 => f_l_low | 49 => f_l_join | 50 => f_l_sums | 51 => f_l_products | 52 => f_l_bitwise | 53 => f_l_orders | 54 => f_l_counted | 55 => f_l_divided | 1000 => c_HostError | 1001 => c_Trap | 1002 => c_UnknownInstruction | 1003 => c_BadValues | 2001 => fi_Trap | 2002 => fi_UnknownInstruction | _ => 0)) F_lt_s T, PySem.W.mg_of X G a_lt_s, F_lt_s.kp, b_lt_s⟩
  have O_gt_s : DfX l.prog w K mg base 1 "gt_s" f_gt_s _ ["kind", "a", "b"] (SpD ⟨K, w, (fun n => match n with | 0 => f_width | 1 => f_unsigned | 2 => f_extend | 3 => f_signed | 4 => f_in_range | 5 => f_add | 6 => f_sub | 7 => f_mul | 8 => f_quotient | 9 => f_div_s | 10 => f_div_u | 11 => f_rem_s | 12 => f_rem_u | 13 => f_bit_and | 14 => f_bit_or | 15 => f_bit_xor | 16 => f_shift_count | 17 => f_shl | 18 => f_shr_s | 19 => f_shr_u | 20 => f_rotl | 21 => f_rotr | 22 => f_eq | 23 => f_ne | 24 => f_lt_s | 25 => f_gt_s | 26 => f_le_s | 27 => f_ge_s | 28 => f_lt_u | 29 => f_gt_u | 30 => f_le_u | 31 => f_ge_u | 32 => f_eqz | 33 => f_clz | 34 => f_ctz | 35 => f_popcnt | 36 => f_extend8_s | 37 => f_extend16_s | 38 => f_extend32_s | 39 => f_extend_u | 40 => f_signature_of | 41 => f_check_operands | 42 => f_calculate | 43 => f_l_is_integer | 44 => f_l_cell | 45 => f_l_signed | 46 => f_l_value | 47 => f_l_high | 48 => f_l_low | 49 => f_l_join | 50 => f_l_sums | 51 => f_l_products | 52 => f_l_bitwise | 53 => f_l_orders | 54 => f_l_counted | 55 => f_l_divided | 1000 => c_HostError | 1001 => c_Trap | 1002 => c_UnknownInstruction | 1003 => c_BadValues | 2001 => fi_Trap | 2002 => fi_UnknownInstruction | _ => 0)⟩ m_gt_s) := ⟨ok_gt_s (ad := (fun n => match n with | 0 => f_width | 1 => f_unsigned | 2 => f_extend | 3 => f_signed | 4 => f_in_range | 5 => f_add | 6 => f_sub | 7 => f_mul | 8 => f_quotient | 9 => f_div_s | 10 => f_div_u | 11 => f_rem_s | 12 => f_rem_u | 13 => f_bit_and | 14 => f_bit_or | 15 => f_bit_xor | 16 => f_shift_count | 17 => f_shl | 18 => f_shr_s | 19 => f_shr_u | 20 => f_rotl | 21 => f_rotr | 22 => f_eq | 23 => f_ne | 24 => f_lt_s | 25 => f_gt_s | 26 => f_le_s | 27 => f_ge_s | 28 => f_lt_u | 29 => f_gt_u | 30 => f_le_u | 31 => f_ge_u | 32 => f_eqz | 33 => f_clz | 34 => f_ctz | 35 => f_popcnt | 36 => f_extend8_s | 37 => f_extend16_s | 38 => f_extend32_s | 39 => f_extend_u | 40 => f_signature_of | 41 => f_check_operands | 42 => f_calculate | 43 => f_l_is_integer | 44 => f_l_cell | 45 => f_l_signed | 46 => f_l_value | 47 => f_l_high | 48 => f_l_low | 49 => f_l_join | 50 => f_l_sums | 51 => f_l_products | 52 => f_l_bitwise | 53 => f_l_orders | 54 => f_l_counted | 55 => f_l_divided | 1000 => c_HostError | 1001 => c_Trap | 1002 => c_UnknownInstruction | 1003 => c_BadValues | 2001 => fi_Trap | 2002 => fi_UnknownInstruction | _ => 0)) F_gt_s T, PySem.W.mg_of X G a_gt_s, F_gt_s.kp, b_gt_s⟩
  have O_le_s : DfX l.prog w K mg base 1 "le_s" f_le_s _ ["kind", "a", "b"] (SpD ⟨K, w, (fun n => match n with | 0 => f_width | 1 => f_unsigned | 2 => f_extend | 3 => f_signed | 4 => f_in_range | 5 => f_add | 6 => f_sub | 7 => f_mul | 8 => f_quotient | 9 => f_div_s | 10 => f_div_u | 11 => f_rem_s | 12 => f_rem_u | 13 => f_bit_and | 14 => f_bit_or | 15 => f_bit_xor | 16 => f_shift_count | 17 => f_shl | 18 => f_shr_s | 19 => f_shr_u | 20 => f_rotl | 21 => f_rotr | 22 => f_eq | 23 => f_ne | 24 => f_lt_s | 25 => f_gt_s | 26 => f_le_s | 27 => f_ge_s | 28 => f_lt_u | 29 => f_gt_u | 30 => f_le_u | 31 => f_ge_u | 32 => f_eqz | 33 => f_clz | 34 => f_ctz | 35 => f_popcnt | 36 => f_extend8_s | 37 => f_extend16_s | 38 => f_extend32_s | 39 => f_extend_u | 40 => f_signature_of | 41 => f_check_operands | 42 => f_calculate | 43 => f_l_is_integer | 44 => f_l_cell | 45 => f_l_signed | 46 => f_l_value | 47 => f_l_high | 48 => f_l_low | 49 => f_l_join | 50 => f_l_sums | 51 => f_l_products | 52 => f_l_bitwise | 53 => f_l_orders | 54 => f_l_counted | 55 => f_l_divided | 1000 => c_HostError | 1001 => c_Trap | 1002 => c_UnknownInstruction | 1003 => c_BadValues | 2001 => fi_Trap | 2002 => fi_UnknownInstruction | _ => 0)⟩ m_le_s) := ⟨ok_le_s (ad := (fun n => match n with | 0 => f_width | 1 => f_unsigned | 2 => f_extend | 3 => f_signed | 4 => f_in_range | 5 => f_add | 6 => f_sub | 7 => f_mul | 8 => f_quotient | 9 => f_div_s | 10 => f_div_u | 11 => f_rem_s | 12 => f_rem_u | 13 => f_bit_and | 14 => f_bit_or | 15 => f_bit_xor | 16 => f_shift_count | 17 => f_shl | 18 => f_shr_s | 19 => f_shr_u | 20 => f_rotl | 21 => f_rotr | 22 => f_eq | 23 => f_ne | 24 => f_lt_s | 25 => f_gt_s | 26 => f_le_s | 27 => f_ge_s | 28 => f_lt_u | 29 => f_gt_u | 30 => f_le_u | 31 => f_ge_u | 32 => f_eqz | 33 => f_clz | 34 => f_ctz | 35 => f_popcnt | 36 => f_extend8_s | 37 => f_extend16_s | 38 => f_extend32_s | 39 => f_extend_u | 40 => f_signature_of | 41 => f_check_operands | 42 => f_calculate | 43 => f_l_is_integer | 44 => f_l_cell | 45 => f_l_signed | 46 => f_l_value | 47 => f_l_high | 48 => f_l_low | 49 => f_l_join | 50 => f_l_sums | 51 => f_l_products | 52 => f_l_bitwise | 53 => f_l_orders | 54 => f_l_counted | 55 => f_l_divided | 1000 => c_HostError | 1001 => c_Trap | 1002 => c_UnknownInstruction | 1003 => c_BadValues | 2001 => fi_Trap | 2002 => fi_UnknownInstruction | _ => 0)) F_le_s T, PySem.W.mg_of X G a_le_s, F_le_s.kp, b_le_s⟩
  have O_ge_s : DfX l.prog w K mg base 1 "ge_s" f_ge_s _ ["kind", "a", "b"] (SpD ⟨K, w, (fun n => match n with | 0 => f_width | 1 => f_unsigned | 2 => f_extend | 3 => f_signed | 4 => f_in_range | 5 => f_add | 6 => f_sub | 7 => f_mul | 8 => f_quotient | 9 => f_div_s | 10 => f_div_u | 11 => f_rem_s | 12 => f_rem_u | 13 => f_bit_and | 14 => f_bit_or | 15 => f_bit_xor | 16 => f_shift_count | 17 => f_shl | 18 => f_shr_s | 19 => f_shr_u | 20 => f_rotl | 21 => f_rotr | 22 => f_eq | 23 => f_ne | 24 => f_lt_s | 25 => f_gt_s | 26 => f_le_s | 27 => f_ge_s | 28 => f_lt_u | 29 => f_gt_u | 30 => f_le_u | 31 => f_ge_u | 32 => f_eqz | 33 => f_clz | 34 => f_ctz | 35 => f_popcnt | 36 => f_extend8_s | 37 => f_extend16_s | 38 => f_extend32_s | 39 => f_extend_u | 40 => f_signature_of | 41 => f_check_operands | 42 => f_calculate | 43 => f_l_is_integer | 44 => f_l_cell | 45 => f_l_signed | 46 => f_l_value | 47 => f_l_high | 48 => f_l_low | 49 => f_l_join | 50 => f_l_sums | 51 => f_l_products | 52 => f_l_bitwise | 53 => f_l_orders | 54 => f_l_counted | 55 => f_l_divided | 1000 => c_HostError | 1001 => c_Trap | 1002 => c_UnknownInstruction | 1003 => c_BadValues | 2001 => fi_Trap | 2002 => fi_UnknownInstruction | _ => 0)⟩ m_ge_s) := ⟨ok_ge_s (ad := (fun n => match n with | 0 => f_width | 1 => f_unsigned | 2 => f_extend | 3 => f_signed | 4 => f_in_range | 5 => f_add | 6 => f_sub | 7 => f_mul | 8 => f_quotient | 9 => f_div_s | 10 => f_div_u | 11 => f_rem_s | 12 => f_rem_u | 13 => f_bit_and | 14 => f_bit_or | 15 => f_bit_xor | 16 => f_shift_count | 17 => f_shl | 18 => f_shr_s | 19 => f_shr_u | 20 => f_rotl | 21 => f_rotr | 22 => f_eq | 23 => f_ne | 24 => f_lt_s | 25 => f_gt_s | 26 => f_le_s | 27 => f_ge_s | 28 => f_lt_u | 29 => f_gt_u | 30 => f_le_u | 31 => f_ge_u | 32 => f_eqz | 33 => f_clz | 34 => f_ctz | 35 => f_popcnt | 36 => f_extend8_s | 37 => f_extend16_s | 38 => f_extend32_s | 39 => f_extend_u | 40 => f_signature_of | 41 => f_check_operands | 42 => f_calculate | 43 => f_l_is_integer | 44 => f_l_cell | 45 => f_l_signed | 46 => f_l_value | 47 => f_l_high | 48 => f_l_low | 49 => f_l_join | 50 => f_l_sums | 51 => f_l_products | 52 => f_l_bitwise | 53 => f_l_orders | 54 => f_l_counted | 55 => f_l_divided | 1000 => c_HostError | 1001 => c_Trap | 1002 => c_UnknownInstruction | 1003 => c_BadValues | 2001 => fi_Trap | 2002 => fi_UnknownInstruction | _ => 0)) F_ge_s T, PySem.W.mg_of X G a_ge_s, F_ge_s.kp, b_ge_s⟩
  have O_lt_u : DfX l.prog w K mg base 3 "lt_u" f_lt_u _ ["kind", "a", "b"] (SpD ⟨K, w, (fun n => match n with | 0 => f_width | 1 => f_unsigned | 2 => f_extend | 3 => f_signed | 4 => f_in_range | 5 => f_add | 6 => f_sub | 7 => f_mul | 8 => f_quotient | 9 => f_div_s | 10 => f_div_u | 11 => f_rem_s | 12 => f_rem_u | 13 => f_bit_and | 14 => f_bit_or | 15 => f_bit_xor | 16 => f_shift_count | 17 => f_shl | 18 => f_shr_s | 19 => f_shr_u | 20 => f_rotl | 21 => f_rotr | 22 => f_eq | 23 => f_ne | 24 => f_lt_s | 25 => f_gt_s | 26 => f_le_s | 27 => f_ge_s | 28 => f_lt_u | 29 => f_gt_u | 30 => f_le_u | 31 => f_ge_u | 32 => f_eqz | 33 => f_clz | 34 => f_ctz | 35 => f_popcnt | 36 => f_extend8_s | 37 => f_extend16_s | 38 => f_extend32_s | 39 => f_extend_u | 40 => f_signature_of | 41 => f_check_operands | 42 => f_calculate | 43 => f_l_is_integer | 44 => f_l_cell | 45 => f_l_signed | 46 => f_l_value | 47 => f_l_high | 48 => f_l_low | 49 => f_l_join | 50 => f_l_sums | 51 => f_l_products | 52 => f_l_bitwise | 53 => f_l_orders | 54 => f_l_counted | 55 => f_l_divided | 1000 => c_HostError | 1001 => c_Trap | 1002 => c_UnknownInstruction | 1003 => c_BadValues | 2001 => fi_Trap | 2002 => fi_UnknownInstruction | _ => 0)⟩ m_lt_u) := ⟨ok_lt_u (ad := (fun n => match n with | 0 => f_width | 1 => f_unsigned | 2 => f_extend | 3 => f_signed | 4 => f_in_range | 5 => f_add | 6 => f_sub | 7 => f_mul | 8 => f_quotient | 9 => f_div_s | 10 => f_div_u | 11 => f_rem_s | 12 => f_rem_u | 13 => f_bit_and | 14 => f_bit_or | 15 => f_bit_xor | 16 => f_shift_count | 17 => f_shl | 18 => f_shr_s | 19 => f_shr_u | 20 => f_rotl | 21 => f_rotr | 22 => f_eq | 23 => f_ne | 24 => f_lt_s | 25 => f_gt_s | 26 => f_le_s | 27 => f_ge_s | 28 => f_lt_u | 29 => f_gt_u | 30 => f_le_u | 31 => f_ge_u | 32 => f_eqz | 33 => f_clz | 34 => f_ctz | 35 => f_popcnt | 36 => f_extend8_s | 37 => f_extend16_s | 38 => f_extend32_s | 39 => f_extend_u | 40 => f_signature_of | 41 => f_check_operands | 42 => f_calculate | 43 => f_l_is_integer | 44 => f_l_cell | 45 => f_l_signed | 46 => f_l_value | 47 => f_l_high | 48 => f_l_low | 49 => f_l_join | 50 => f_l_sums | 51 => f_l_products | 52 => f_l_bitwise | 53 => f_l_orders | 54 => f_l_counted | 55 => f_l_divided | 1000 => c_HostError | 1001 => c_Trap | 1002 => c_UnknownInstruction | 1003 => c_BadValues | 2001 => fi_Trap | 2002 => fi_UnknownInstruction | _ => 0)) F_lt_u T O_unsigned, PySem.W.mg_of X G a_lt_u, F_lt_u.kp, b_lt_u⟩
  have O_gt_u : DfX l.prog w K mg base 3 "gt_u" f_gt_u _ ["kind", "a", "b"] (SpD ⟨K, w, (fun n => match n with | 0 => f_width | 1 => f_unsigned | 2 => f_extend | 3 => f_signed | 4 => f_in_range | 5 => f_add | 6 => f_sub | 7 => f_mul | 8 => f_quotient | 9 => f_div_s | 10 => f_div_u | 11 => f_rem_s | 12 => f_rem_u | 13 => f_bit_and | 14 => f_bit_or | 15 => f_bit_xor | 16 => f_shift_count | 17 => f_shl | 18 => f_shr_s | 19 => f_shr_u | 20 => f_rotl | 21 => f_rotr | 22 => f_eq | 23 => f_ne | 24 => f_lt_s | 25 => f_gt_s | 26 => f_le_s | 27 => f_ge_s | 28 => f_lt_u | 29 => f_gt_u | 30 => f_le_u | 31 => f_ge_u | 32 => f_eqz | 33 => f_clz | 34 => f_ctz | 35 => f_popcnt | 36 => f_extend8_s | 37 => f_extend16_s | 38 => f_extend32_s | 39 => f_extend_u | 40 => f_signature_of | 41 => f_check_operands | 42 => f_calculate | 43 => f_l_is_integer | 44 => f_l_cell | 45 => f_l_signed | 46 => f_l_value | 47 => f_l_high | 48 => f_l_low | 49 => f_l_join | 50 => f_l_sums | 51 => f_l_products | 52 => f_l_bitwise | 53 => f_l_orders | 54 => f_l_counted | 55 => f_l_divided | 1000 => c_HostError | 1001 => c_Trap | 1002 => c_UnknownInstruction | 1003 => c_BadValues | 2001 => fi_Trap | 2002 => fi_UnknownInstruction | _ => 0)⟩ m_gt_u) := ⟨ok_gt_u (ad := (fun n => match n with | 0 => f_width | 1 => f_unsigned | 2 => f_extend | 3 => f_signed | 4 => f_in_range | 5 => f_add | 6 => f_sub | 7 => f_mul | 8 => f_quotient | 9 => f_div_s | 10 => f_div_u | 11 => f_rem_s | 12 => f_rem_u | 13 => f_bit_and | 14 => f_bit_or | 15 => f_bit_xor | 16 => f_shift_count | 17 => f_shl | 18 => f_shr_s | 19 => f_shr_u | 20 => f_rotl | 21 => f_rotr | 22 => f_eq | 23 => f_ne | 24 => f_lt_s | 25 => f_gt_s | 26 => f_le_s | 27 => f_ge_s | 28 => f_lt_u | 29 => f_gt_u | 30 => f_le_u | 31 => f_ge_u | 32 => f_eqz | 33 => f_clz | 34 => f_ctz | 35 => f_popcnt | 36 => f_extend8_s | 37 => f_extend16_s | 38 => f_extend32_s | 39 => f_extend_u | 40 => f_signature_of | 41 => f_check_operands | 42 => f_calculate | 43 => f_l_is_integer | 44 => f_l_cell | 45 => f_l_signed | 46 => f_l_value | 47 => f_l_high | 48 => f_l_low | 49 => f_l_join | 50 => f_l_sums | 51 => f_l_products | 52 => f_l_bitwise | 53 => f_l_orders | 54 => f_l_counted | 55 => f_l_divided | 1000 => c_HostError | 1001 => c_Trap | 1002 => c_UnknownInstruction | 1003 => c_BadValues | 2001 => fi_Trap | 2002 => fi_UnknownInstruction | _ => 0)) F_gt_u T O_unsigned, PySem.W.mg_of X G a_gt_u, F_gt_u.kp, b_gt_u⟩
  have O_le_u : DfX l.prog w K mg base 3 "le_u" f_le_u _ ["kind", "a", "b"] (SpD ⟨K, w, (fun n => match n with | 0 => f_width | 1 => f_unsigned | 2 => f_extend | 3 => f_signed | 4 => f_in_range | 5 => f_add | 6 => f_sub | 7 => f_mul | 8 => f_quotient | 9 => f_div_s | 10 => f_div_u | 11 => f_rem_s | 12 => f_rem_u | 13 => f_bit_and | 14 => f_bit_or | 15 => f_bit_xor | 16 => f_shift_count | 17 => f_shl | 18 => f_shr_s | 19 => f_shr_u | 20 => f_rotl | 21 => f_rotr | 22 => f_eq | 23 => f_ne | 24 => f_lt_s | 25 => f_gt_s | 26 => f_le_s | 27 => f_ge_s | 28 => f_lt_u | 29 => f_gt_u | 30 => f_le_u | 31 => f_ge_u | 32 => f_eqz | 33 => f_clz | 34 => f_ctz | 35 => f_popcnt | 36 => f_extend8_s | 37 => f_extend16_s | 38 => f_extend32_s | 39 => f_extend_u | 40 => f_signature_of | 41 => f_check_operands | 42 => f_calculate | 43 => f_l_is_integer | 44 => f_l_cell | 45 => f_l_signed | 46 => f_l_value | 47 => f_l_high | 48 => f_l_low | 49 => f_l_join | 50 => f_l_sums | 51 => f_l_products | 52 => f_l_bitwise | 53 => f_l_orders | 54 => f_l_counted | 55 => f_l_divided | 1000 => c_HostError | 1001 => c_Trap | 1002 => c_UnknownInstruction | 1003 => c_BadValues | 2001 => fi_Trap | 2002 => fi_UnknownInstruction | _ => 0)⟩ m_le_u) := ⟨ok_le_u (ad := (fun n => match n with | 0 => f_width | 1 => f_unsigned | 2 => f_extend | 3 => f_signed | 4 => f_in_range | 5 => f_add | 6 => f_sub | 7 => f_mul | 8 => f_quotient | 9 => f_div_s | 10 => f_div_u | 11 => f_rem_s | 12 => f_rem_u | 13 => f_bit_and | 14 => f_bit_or | 15 => f_bit_xor | 16 => f_shift_count | 17 => f_shl | 18 => f_shr_s | 19 => f_shr_u | 20 => f_rotl | 21 => f_rotr | 22 => f_eq | 23 => f_ne | 24 => f_lt_s | 25 => f_gt_s | 26 => f_le_s | 27 => f_ge_s | 28 => f_lt_u | 29 => f_gt_u | 30 => f_le_u | 31 => f_ge_u | 32 => f_eqz | 33 => f_clz | 34 => f_ctz | 35 => f_popcnt | 36 => f_extend8_s | 37 => f_extend16_s | 38 => f_extend32_s | 39 => f_extend_u | 40 => f_signature_of | 41 => f_check_operands | 42 => f_calculate | 43 => f_l_is_integer | 44 => f_l_cell | 45 => f_l_signed | 46 => f_l_value | 47 => f_l_high | 48 => f_l_low | 49 => f_l_join | 50 => f_l_sums | 51 => f_l_products | 52 => f_l_bitwise | 53 => f_l_orders | 54 => f_l_counted | 55 => f_l_divided | 1000 => c_HostError | 1001 => c_Trap | 1002 => c_UnknownInstruction | 1003 => c_BadValues | 2001 => fi_Trap | 2002 => fi_UnknownInstruction | _ => 0)) F_le_u T O_unsigned, PySem.W.mg_of X G a_le_u, F_le_u.kp, b_le_u⟩
  have O_ge_u : DfX l.prog w K mg base 3 "ge_u" f_ge_u _ ["kind", "a", "b"] (SpD ⟨K, w, (fun n => match n with | 0 => f_width | 1 => f_unsigned | 2 => f_extend | 3 => f_signed | 4 => f_in_range | 5 => f_add | 6 => f_sub | 7 => f_mul | 8 => f_quotient | 9 => f_div_s | 10 => f_div_u | 11 => f_rem_s | 12 => f_rem_u | 13 => f_bit_and | 14 => f_bit_or | 15 => f_bit_xor | 16 => f_shift_count | 17 => f_shl | 18 => f_shr_s | 19 => f_shr_u | 20 => f_rotl | 21 => f_rotr | 22 => f_eq | 23 => f_ne | 24 => f_lt_s | 25 => f_gt_s | 26 => f_le_s | 27 => f_ge_s | 28 => f_lt_u | 29 => f_gt_u | 30 => f_le_u | 31 => f_ge_u | 32 => f_eqz | 33 => f_clz | 34 => f_ctz | 35 => f_popcnt | 36 => f_extend8_s | 37 => f_extend16_s | 38 => f_extend32_s | 39 => f_extend_u | 40 => f_signature_of | 41 => f_check_operands | 42 => f_calculate | 43 => f_l_is_integer | 44 => f_l_cell | 45 => f_l_signed | 46 => f_l_value | 47 => f_l_high | 48 => f_l_low | 49 => f_l_join | 50 => f_l_sums | 51 => f_l_products | 52 => f_l_bitwise | 53 => f_l_orders | 54 => f_l_counted | 55 => f_l_divided | 1000 => c_HostError | 1001 => c_Trap | 1002 => c_UnknownInstruction | 1003 => c_BadValues | 2001 => fi_Trap | 2002 => fi_UnknownInstruction | _ => 0)⟩ m_ge_u) := ⟨ok_ge_u (ad := (fun n => match n with | 0 => f_width | 1 => f_unsigned | 2 => f_extend | 3 => f_signed | 4 => f_in_range | 5 => f_add | 6 => f_sub | 7 => f_mul | 8 => f_quotient | 9 => f_div_s | 10 => f_div_u | 11 => f_rem_s | 12 => f_rem_u | 13 => f_bit_and | 14 => f_bit_or | 15 => f_bit_xor | 16 => f_shift_count | 17 => f_shl | 18 => f_shr_s | 19 => f_shr_u | 20 => f_rotl | 21 => f_rotr | 22 => f_eq | 23 => f_ne | 24 => f_lt_s | 25 => f_gt_s | 26 => f_le_s | 27 => f_ge_s | 28 => f_lt_u | 29 => f_gt_u | 30 => f_le_u | 31 => f_ge_u | 32 => f_eqz | 33 => f_clz | 34 => f_ctz | 35 => f_popcnt | 36 => f_extend8_s | 37 => f_extend16_s | 38 => f_extend32_s | 39 => f_extend_u | 40 => f_signature_of | 41 => f_check_operands | 42 => f_calculate | 43 => f_l_is_integer | 44 => f_l_cell | 45 => f_l_signed | 46 => f_l_value | 47 => f_l_high | 48 => f_l_low | 49 => f_l_join | 50 => f_l_sums | 51 => f_l_products | 52 => f_l_bitwise | 53 => f_l_orders | 54 => f_l_counted | 55 => f_l_divided | 1000 => c_HostError | 1001 => c_Trap | 1002 => c_UnknownInstruction | 1003 => c_BadValues | 2001 => fi_Trap | 2002 => fi_UnknownInstruction | _ => 0)) F_ge_u T O_unsigned, PySem.W.mg_of X G a_ge_u, F_ge_u.kp, b_ge_u⟩
  have O_eqz : DfX l.prog w K mg base 1 "eqz" f_eqz _ ["kind", "a"] (SpD ⟨K, w, (fun n => match n with | 0 => f_width | 1 => f_unsigned | 2 => f_extend | 3 => f_signed | 4 => f_in_range | 5 => f_add | 6 => f_sub | 7 => f_mul | 8 => f_quotient | 9 => f_div_s | 10 => f_div_u | 11 => f_rem_s | 12 => f_rem_u | 13 => f_bit_and | 14 => f_bit_or | 15 => f_bit_xor | 16 => f_shift_count | 17 => f_shl | 18 => f_shr_s | 19 => f_shr_u | 20 => f_rotl | 21 => f_rotr | 22 => f_eq | 23 => f_ne | 24 => f_lt_s | 25 => f_gt_s | 26 => f_le_s | 27 => f_ge_s | 28 => f_lt_u | 29 => f_gt_u | 30 => f_le_u | 31 => f_ge_u | 32 => f_eqz | 33 => f_clz | 34 => f_ctz | 35 => f_popcnt | 36 => f_extend8_s | 37 => f_extend16_s | 38 => f_extend32_s | 39 => f_extend_u | 40 => f_signature_of | 41 => f_check_operands | 42 => f_calculate | 43 => f_l_is_integer | 44 => f_l_cell | 45 => f_l_signed | 46 => f_l_value | 47 => f_l_high | 48 => f_l_low | 49 => f_l_join | 50 => f_l_sums | 51 => f_l_products | 52 => f_l_bitwise | 53 => f_l_orders | 54 => f_l_counted | 55 => f_l_divided | 1000 => c_HostError | 1001 => c_Trap | 1002 => c_UnknownInstruction | 1003 => c_BadValues | 2001 => fi_Trap | 2002 => fi_UnknownInstruction | _ => 0)⟩ m_eqz) := ⟨ok_eqz (ad := (fun n => match n with | 0 => f_width | 1 => f_unsigned | 2 => f_extend | 3 => f_signed | 4 => f_in_range | 5 => f_add | 6 => f_sub | 7 => f_mul | 8 => f_quotient | 9 => f_div_s | 10 => f_div_u | 11 => f_rem_s | 12 => f_rem_u | 13 => f_bit_and | 14 => f_bit_or | 15 => f_bit_xor | 16 => f_shift_count | 17 => f_shl | 18 => f_shr_s | 19 => f_shr_u | 20 => f_rotl | 21 => f_rotr | 22 => f_eq | 23 => f_ne | 24 => f_lt_s | 25 => f_gt_s | 26 => f_le_s | 27 => f_ge_s | 28 => f_lt_u | 29 => f_gt_u | 30 => f_le_u | 31 => f_ge_u | 32 => f_eqz | 33 => f_clz | 34 => f_ctz | 35 => f_popcnt | 36 => f_extend8_s | 37 => f_extend16_s | 38 => f_extend32_s | 39 => f_extend_u | 40 => f_signature_of | 41 => f_check_operands | 42 => f_calculate | 43 => f_l_is_integer | 44 => f_l_cell | 45 => f_l_signed | 46 => f_l_value | 47 => f_l_high | 48 => f_l_low | 49 => f_l_join | 50 => f_l_sums | 51 => f_l_products | 52 => f_l_bitwise | 53 => f_l_orders | 54 => f_l_counted | 55 => f_l_divided | 1000 => c_HostError | 1001 => c_Trap | 1002 => c_UnknownInstruction | 1003 => c_BadValues | 2001 => fi_Trap | 2002 => fi_UnknownInstruction | _ => 0)) F_eqz T, PySem.W.mg_of X G a_eqz, F_eqz.kp, b_eqz⟩
  have O_clz : DfX l.prog w K mg base 3 "clz" f_clz _ ["kind", "a"] (SpD ⟨K, w, (fun n => match n with | 0 => f_width | 1 => f_unsigned | 2 => f_extend | 3 => f_signed | 4 => f_in_range | 5 => f_add | 6 => f_sub | 7 => f_mul | 8 => f_quotient | 9 => f_div_s | 10 => f_div_u | 11 => f_rem_s | 12 => f_rem_u | 13 => f_bit_and | 14 => f_bit_or | 15 => f_bit_xor | 16 => f_shift_count | 17 => f_shl | 18 => f_shr_s | 19 => f_shr_u | 20 => f_rotl | 21 => f_rotr | 22 => f_eq | 23 => f_ne | 24 => f_lt_s | 25 => f_gt_s | 26 => f_le_s | 27 => f_ge_s | 28 => f_lt_u | 29 => f_gt_u | 30 => f_le_u | 31 => f_ge_u | 32 => f_eqz | 33 => f_clz | 34 => f_ctz | 35 => f_popcnt | 36 => f_extend8_s | 37 => f_extend16_s | 38 => f_extend32_s | 39 => f_extend_u | 40 => f_signature_of | 41 => f_check_operands | 42 => f_calculate | 43 => f_l_is_integer | 44 => f_l_cell | 45 => f_l_signed | 46 => f_l_value | 47 => f_l_high | 48 => f_l_low | 49 => f_l_join | 50 => f_l_sums | 51 => f_l_products | 52 => f_l_bitwise | 53 => f_l_orders | 54 => f_l_counted | 55 => f_l_divided | 1000 => c_HostError | 1001 => c_Trap | 1002 => c_UnknownInstruction | 1003 => c_BadValues | 2001 => fi_Trap | 2002 => fi_UnknownInstruction | _ => 0)⟩ m_clz) := ⟨ok_clz (ad := (fun n => match n with | 0 => f_width | 1 => f_unsigned | 2 => f_extend | 3 => f_signed | 4 => f_in_range | 5 => f_add | 6 => f_sub | 7 => f_mul | 8 => f_quotient | 9 => f_div_s | 10 => f_div_u | 11 => f_rem_s | 12 => f_rem_u | 13 => f_bit_and | 14 => f_bit_or | 15 => f_bit_xor | 16 => f_shift_count | 17 => f_shl | 18 => f_shr_s | 19 => f_shr_u | 20 => f_rotl | 21 => f_rotr | 22 => f_eq | 23 => f_ne | 24 => f_lt_s | 25 => f_gt_s | 26 => f_le_s | 27 => f_ge_s | 28 => f_lt_u | 29 => f_gt_u | 30 => f_le_u | 31 => f_ge_u | 32 => f_eqz | 33 => f_clz | 34 => f_ctz | 35 => f_popcnt | 36 => f_extend8_s | 37 => f_extend16_s | 38 => f_extend32_s | 39 => f_extend_u | 40 => f_signature_of | 41 => f_check_operands | 42 => f_calculate | 43 => f_l_is_integer | 44 => f_l_cell | 45 => f_l_signed | 46 => f_l_value | 47 => f_l_high | 48 => f_l_low | 49 => f_l_join | 50 => f_l_sums | 51 => f_l_products | 52 => f_l_bitwise | 53 => f_l_orders | 54 => f_l_counted | 55 => f_l_divided | 1000 => c_HostError | 1001 => c_Trap | 1002 => c_UnknownInstruction | 1003 => c_BadValues | 2001 => fi_Trap | 2002 => fi_UnknownInstruction | _ => 0)) F_clz T O_width O_unsigned, PySem.W.mg_of X G a_clz, F_clz.kp, b_clz⟩
  have O_ctz : DfX l.prog w K mg base 2 "ctz" f_ctz _ ["kind", "a"] (SpD ⟨K, w, (fun n => match n with | 0 => f_width | 1 => f_unsigned | 2 => f_extend | 3 => f_signed | 4 => f_in_range | 5 => f_add | 6 => f_sub | 7 => f_mul | 8 => f_quotient | 9 => f_div_s | 10 => f_div_u | 11 => f_rem_s | 12 => f_rem_u | 13 => f_bit_and | 14 => f_bit_or | 15 => f_bit_xor | 16 => f_shift_count | 17 => f_shl | 18 => f_shr_s | 19 => f_shr_u | 20 => f_rotl | 21 => f_rotr | 22 => f_eq | 23 => f_ne | 24 => f_lt_s | 25 => f_gt_s | 26 => f_le_s | 27 => f_ge_s | 28 => f_lt_u | 29 => f_gt_u | 30 => f_le_u | 31 => f_ge_u | 32 => f_eqz | 33 => f_clz | 34 => f_ctz | 35 => f_popcnt | 36 => f_extend8_s | 37 => f_extend16_s | 38 => f_extend32_s | 39 => f_extend_u | 40 => f_signature_of | 41 => f_check_operands | 42 => f_calculate | 43 => f_l_is_integer | 44 => f_l_cell | 45 => f_l_signed | 46 => f_l_value | 47 => f_l_high | 48 => f_l_low | 49 => f_l_join | 50 => f_l_sums | 51 => f_l_products | 52 => f_l_bitwise | 53 => f_l_orders | 54 => f_l_counted | 55 => f_l_divided | 1000 => c_HostError | 1001 => c_Trap | 1002 => c_UnknownInstruction | 1003 => c_BadValues | 2001 => fi_Trap | 2002 => fi_UnknownInstruction | _ => 0)⟩ m_ctz) := ⟨ok_ctz (ad := (fun n => match n with | 0 => f_width | 1 => f_unsigned | 2 => f_extend | 3 => f_signed | 4 => f_in_range | 5 => f_add | 6 => f_sub | 7 => f_mul | 8 => f_quotient | 9 => f_div_s | 10 => f_div_u | 11 => f_rem_s | 12 => f_rem_u | 13 => f_bit_and | 14 => f_bit_or | 15 => f_bit_xor | 16 => f_shift_count | 17 => f_shl | 18 => f_shr_s | 19 => f_shr_u | 20 => f_rotl | 21 => f_rotr | 22 => f_eq | 23 => f_ne | 24 => f_lt_s | 25 => f_gt_s | 26 => f_le_s | 27 => f_ge_s | 28 => f_lt_u | 29 => f_gt_u | 30 => f_le_u | 31 => f_ge_u | 32 => f_eqz | 33 => f_clz | 34 => f_ctz | 35 => f_popcnt | 36 => f_extend8_s | 37 => f_extend16_s | 38 => f_extend32_s | 39 => f_extend_u | 40 => f_signature_of | 41 => f_check_operands | 42 => f_calculate | 43 => f_l_is_integer | 44 => f_l_cell | 45 => f_l_signed | 46 => f_l_value | 47 => f_l_high | 48 => f_l_low | 49 => f_l_join | 50 => f_l_sums | 51 => f_l_products | 52 => f_l_bitwise | 53 => f_l_orders | 54 => f_l_counted | 55 => f_l_divided | 1000 => c_HostError | 1001 => c_Trap | 1002 => c_UnknownInstruction | 1003 => c_BadValues | 2001 => fi_Trap | 2002 => fi_UnknownInstruction | _ => 0)) F_ctz T O_width, PySem.W.mg_of X G a_ctz, F_ctz.kp, b_ctz⟩
  have O_popcnt : DfX l.prog w K mg base 2 "popcnt" f_popcnt _ ["kind", "a"] (SpD ⟨K, w, (fun n => match n with | 0 => f_width | 1 => f_unsigned | 2 => f_extend | 3 => f_signed | 4 => f_in_range | 5 => f_add | 6 => f_sub | 7 => f_mul | 8 => f_quotient | 9 => f_div_s | 10 => f_div_u | 11 => f_rem_s | 12 => f_rem_u | 13 => f_bit_and | 14 => f_bit_or | 15 => f_bit_xor | 16 => f_shift_count | 17 => f_shl | 18 => f_shr_s | 19 => f_shr_u | 20 => f_rotl | 21 => f_rotr | 22 => f_eq | 23 => f_ne | 24 => f_lt_s | 25 => f_gt_s | 26 => f_le_s | 27 => f_ge_s | 28 => f_lt_u | 29 => f_gt_u | 30 => f_le_u | 31 => f_ge_u | 32 => f_eqz | 33 => f_clz | 34 => f_ctz | 35 => f_popcnt | 36 => f_extend8_s | 37 => f_extend16_s | 38 => f_extend32_s | 39 => f_extend_u | 40 => f_signature_of | 41 => f_check_operands | 42 => f_calculate | 43 => f_l_is_integer | 44 => f_l_cell | 45 => f_l_signed | 46 => f_l_value | 47 => f_l_high | 48 => f_l_low | 49 => f_l_join | 50 => f_l_sums | 51 => f_l_products | 52 => f_l_bitwise | 53 => f_l_orders | 54 => f_l_counted | 55 => f_l_divided | 1000 => c_HostError | 1001 => c_Trap | 1002 => c_UnknownInstruction | 1003 => c_BadValues | 2001 => fi_Trap | 2002 => fi_UnknownInstruction | _ => 0)⟩ m_popcnt) := ⟨ok_popcnt (ad := (fun n => match n with | 0 => f_width | 1 => f_unsigned | 2 => f_extend | 3 => f_signed | 4 => f_in_range | 5 => f_add | 6 => f_sub | 7 => f_mul | 8 => f_quotient | 9 => f_div_s | 10 => f_div_u | 11 => f_rem_s | 12 => f_rem_u | 13 => f_bit_and | 14 => f_bit_or | 15 => f_bit_xor | 16 => f_shift_count | 17 => f_shl | 18 => f_shr_s | 19 => f_shr_u | 20 => f_rotl | 21 => f_rotr | 22 => f_eq | 23 => f_ne | 24 => f_lt_s | 25 => f_gt_s | 26 => f_le_s | 27 => f_ge_s | 28 => f_lt_u | 29 => f_gt_u | 30 => f_le_u | 31 => f_ge_u | 32 => f_eqz | 33 => f_clz | 34 => f_ctz | 35 => f_popcnt | 36 => f_extend8_s | 37 => f_extend16_s | 38 => f_extend32_s | 39 => f_extend_u | 40 => f_signature_of | 41 => f_check_operands | 42 => f_calculate | 43 => f_l_is_integer | 44 => f_l_cell | 45 => f_l_signed | 46 => f_l_value | 47 => f_l_high | 48 => f_l_low | 49 => f_l_join | 50 => f_l_sums | 51 => f_l_products | 52 => f_l_bitwise | 53 => f_l_orders | 54 => f_l_counted | 55 => f_l_divided | 1000 => c_HostError | 1001 => c_Trap | 1002 => c_UnknownInstruction | 1003 => c_BadValues | 2001 => fi_Trap | 2002 => fi_UnknownInstruction | _ => 0)) F_popcnt T O_width, PySem.W.mg_of X G a_popcnt, F_popcnt.kp, b_popcnt⟩
  have O_extend8_s : DfX l.prog w K mg base 2 "extend8_s" f_extend8_s _ ["kind", "a"] (SpD ⟨K, w, (fun n => match n with | 0 => f_width | 1 => f_unsigned | 2 => f_extend | 3 => f_signed | 4 => f_in_range | 5 => f_add | 6 => f_sub | 7 => f_mul | 8 => f_quotient | 9 => f_div_s | 10 => f_div_u | 11 => f_rem_s | 12 => f_rem_u | 13 => f_bit_and | 14 => f_bit_or | 15 => f_bit_xor | 16 => f_shift_count | 17 => f_shl | 18 => f_shr_s | 19 => f_shr_u | 20 => f_rotl | 21 => f_rotr | 22 => f_eq | 23 => f_ne | 24 => f_lt_s | 25 => f_gt_s | 26 => f_le_s | 27 => f_ge_s | 28 => f_lt_u | 29 => f_gt_u | 30 => f_le_u | 31 => f_ge_u | 32 => f_eqz | 33 => f_clz | 34 => f_ctz | 35 => f_popcnt | 36 => f_extend8_s | 37 => f_extend16_s | 38 => f_extend32_s | 39 => f_extend_u | 40 => f_signature_of | 41 => f_check_operands | 42 => f_calculate | 43 => f_l_is_integer | 44 => f_l_cell | 45 => f_l_signed | 46 => f_l_value | 47 => f_l_high | 48 => f_l_low | 49 => f_l_join | 50 => f_l_sums | 51 => f_l_products | 52 => f_l_bitwise | 53 => f_l_orders | 54 => f_l_counted | 55 => f_l_divided | 1000 => c_HostError | 1001 => c_Trap | 1002 => c_UnknownInstruction | 1003 => c_BadValues | 2001 => fi_Trap | 2002 => fi_UnknownInstruction | _ => 0)⟩ m_extend8_s) := ⟨ok_extend8_s (ad := (fun n => match n with | 0 => f_width | 1 => f_unsigned | 2 => f_extend | 3 => f_signed | 4 => f_in_range | 5 => f_add | 6 => f_sub | 7 => f_mul | 8 => f_quotient | 9 => f_div_s | 10 => f_div_u | 11 => f_rem_s | 12 => f_rem_u | 13 => f_bit_and | 14 => f_bit_or | 15 => f_bit_xor | 16 => f_shift_count | 17 => f_shl | 18 => f_shr_s | 19 => f_shr_u | 20 => f_rotl | 21 => f_rotr | 22 => f_eq | 23 => f_ne | 24 => f_lt_s | 25 => f_gt_s | 26 => f_le_s | 27 => f_ge_s | 28 => f_lt_u | 29 => f_gt_u | 30 => f_le_u | 31 => f_ge_u | 32 => f_eqz | 33 => f_clz | 34 => f_ctz | 35 => f_popcnt | 36 => f_extend8_s | 37 => f_extend16_s | 38 => f_extend32_s | 39 => f_extend_u | 40 => f_signature_of | 41 => f_check_operands | 42 => f_calculate | 43 => f_l_is_integer | 44 => f_l_cell | 45 => f_l_signed | 46 => f_l_value | 47 => f_l_high | 48 => f_l_low | 49 => f_l_join | 50 => f_l_sums | 51 => f_l_products | 52 => f_l_bitwise | 53 => f_l_orders | 54 => f_l_counted | 55 => f_l_divided | 1000 => c_HostError | 1001 => c_Trap | 1002 => c_UnknownInstruction | 1003 => c_BadValues | 2001 => fi_Trap | 2002 => fi_UnknownInstruction | _ => 0)) F_extend8_s T O_extend, PySem.W.mg_of X G a_extend8_s, F_extend8_s.kp, b_extend8_s⟩
  have O_extend16_s : DfX l.prog w K mg base 2 "extend16_s" f_extend16_s _ ["kind", "a"] (SpD ⟨K, w, (fun n => match n with | 0 => f_width | 1 => f_unsigned | 2 => f_extend | 3 => f_signed | 4 => f_in_range | 5 => f_add | 6 => f_sub | 7 => f_mul | 8 => f_quotient | 9 => f_div_s | 10 => f_div_u | 11 => f_rem_s | 12 => f_rem_u | 13 => f_bit_and | 14 => f_bit_or | 15 => f_bit_xor | 16 => f_shift_count | 17 => f_shl | 18 => f_shr_s | 19 => f_shr_u | 20 => f_rotl | 21 => f_rotr | 22 => f_eq | 23 => f_ne | 24 => f_lt_s | 25 => f_gt_s | 26 => f_le_s | 27 => f_ge_s | 28 => f_lt_u | 29 => f_gt_u | 30 => f_le_u | 31 => f_ge_u | 32 => f_eqz | 33 => f_clz | 34 => f_ctz | 35 => f_popcnt | 36 => f_extend8_s | 37 => f_extend16_s | 38 => f_extend32_s | 39 => f_extend_u | 40 => f_signature_of | 41 => f_check_operands | 42 => f_calculate | 43 => f_l_is_integer | 44 => f_l_cell | 45 => f_l_signed | 46 => f_l_value | 47 => f_l_high | 48 => f_l_low | 49 => f_l_join | 50 => f_l_sums | 51 => f_l_products | 52 => f_l_bitwise | 53 => f_l_orders | 54 => f_l_counted | 55 => f_l_divided | 1000 => c_HostError | 1001 => c_Trap | 1002 => c_UnknownInstruction | 1003 => c_BadValues | 2001 => fi_Trap | 2002 => fi_UnknownInstruction | _ => 0)⟩ m_extend16_s) := ⟨ok_extend16_s (ad := (fun n => match n with | 0 => f_width | 1 => f_unsigned | 2 => f_extend | 3 => f_signed | 4 => f_in_range | 5 => f_add | 6 => f_sub | 7 => f_mul | 8 => f_quotient | 9 => f_div_s | 10 => f_div_u | 11 => f_rem_s | 12 => f_rem_u | 13 => f_bit_and | 14 => f_bit_or | 15 => f_bit_xor | 16 => f_shift_count | 17 => f_shl | 18 => f_shr_s | 19 => f_shr_u | 20 => f_rotl | 21 => f_rotr | 22 => f_eq | 23 => f_ne | 24 => f_lt_s | 25 => f_gt_s | 26 => f_le_s | 27 => f_ge_s | 28 => f_lt_u | 29 => f_gt_u | 30 => f_le_u | 31 => f_ge_u | 32 => f_eqz | 33 => f_clz | 34 => f_ctz | 35 => f_popcnt | 36 => f_extend8_s | 37 => f_extend16_s | 38 => f_extend32_s | 39 => f_extend_u | 40 => f_signature_of | 41 => f_check_operands | 42 => f_calculate | 43 => f_l_is_integer | 44 => f_l_cell | 45 => f_l_signed | 46 => f_l_value | 47 => f_l_high | 48 => f_l_low | 49 => f_l_join | 50 => f_l_sums | 51 => f_l_products | 52 => f_l_bitwise | 53 => f_l_orders | 54 => f_l_counted | 55 => f_l_divided | 1000 => c_HostError | 1001 => c_Trap | 1002 => c_UnknownInstruction | 1003 => c_BadValues | 2001 => fi_Trap | 2002 => fi_UnknownInstruction | _ => 0)) F_extend16_s T O_extend, PySem.W.mg_of X G a_extend16_s, F_extend16_s.kp, b_extend16_s⟩
  have O_extend32_s : DfX l.prog w K mg base 2 "extend32_s" f_extend32_s _ ["kind", "a"] (SpD ⟨K, w, (fun n => match n with | 0 => f_width | 1 => f_unsigned | 2 => f_extend | 3 => f_signed | 4 => f_in_range | 5 => f_add | 6 => f_sub | 7 => f_mul | 8 => f_quotient | 9 => f_div_s | 10 => f_div_u | 11 => f_rem_s | 12 => f_rem_u | 13 => f_bit_and | 14 => f_bit_or | 15 => f_bit_xor | 16 => f_shift_count | 17 => f_shl | 18 => f_shr_s | 19 => f_shr_u | 20 => f_rotl | 21 => f_rotr | 22 => f_eq | 23 => f_ne | 24 => f_lt_s | 25 => f_gt_s | 26 => f_le_s | 27 => f_ge_s | 28 => f_lt_u | 29 => f_gt_u | 30 => f_le_u | 31 => f_ge_u | 32 => f_eqz | 33 => f_clz | 34 => f_ctz | 35 => f_popcnt | 36 => f_extend8_s | 37 => f_extend16_s | 38 => f_extend32_s | 39 => f_extend_u | 40 => f_signature_of | 41 => f_check_operands | 42 => f_calculate | 43 => f_l_is_integer | 44 => f_l_cell | 45 => f_l_signed | 46 => f_l_value | 47 => f_l_high | 48 => f_l_low | 49 => f_l_join | 50 => f_l_sums | 51 => f_l_products | 52 => f_l_bitwise | 53 => f_l_orders | 54 => f_l_counted | 55 => f_l_divided | 1000 => c_HostError | 1001 => c_Trap | 1002 => c_UnknownInstruction | 1003 => c_BadValues | 2001 => fi_Trap | 2002 => fi_UnknownInstruction | _ => 0)⟩ m_extend32_s) := ⟨ok_extend32_s (ad := (fun n => match n with | 0 => f_width | 1 => f_unsigned | 2 => f_extend | 3 => f_signed | 4 => f_in_range | 5 => f_add | 6 => f_sub | 7 => f_mul | 8 => f_quotient | 9 => f_div_s | 10 => f_div_u | 11 => f_rem_s | 12 => f_rem_u | 13 => f_bit_and | 14 => f_bit_or | 15 => f_bit_xor | 16 => f_shift_count | 17 => f_shl | 18 => f_shr_s | 19 => f_shr_u | 20 => f_rotl | 21 => f_rotr | 22 => f_eq | 23 => f_ne | 24 => f_lt_s | 25 => f_gt_s | 26 => f_le_s | 27 => f_ge_s | 28 => f_lt_u | 29 => f_gt_u | 30 => f_le_u | 31 => f_ge_u | 32 => f_eqz | 33 => f_clz | 34 => f_ctz | 35 => f_popcnt | 36 => f_extend8_s | 37 => f_extend16_s | 38 => f_extend32_s | 39 => f_extend_u | 40 => f_signature_of | 41 => f_check_operands | 42 => f_calculate | 43 => f_l_is_integer | 44 => f_l_cell | 45 => f_l_signed | 46 => f_l_value | 47 => f_l_high | 48 => f_l_low | 49 => f_l_join | 50 => f_l_sums | 51 => f_l_products | 52 => f_l_bitwise | 53 => f_l_orders | 54 => f_l_counted | 55 => f_l_divided | 1000 => c_HostError | 1001 => c_Trap | 1002 => c_UnknownInstruction | 1003 => c_BadValues | 2001 => fi_Trap | 2002 => fi_UnknownInstruction | _ => 0)) F_extend32_s T O_extend, PySem.W.mg_of X G a_extend32_s, F_extend32_s.kp, b_extend32_s⟩
  have O_extend_u : DfX l.prog w K mg base 3 "extend_u" f_extend_u _ ["kind", "a"] (SpD ⟨K, w, (fun n => match n with | 0 => f_width | 1 => f_unsigned | 2 => f_extend | 3 => f_signed | 4 => f_in_range | 5 => f_add | 6 => f_sub | 7 => f_mul | 8 => f_quotient | 9 => f_div_s | 10 => f_div_u | 11 => f_rem_s | 12 => f_rem_u | 13 => f_bit_and | 14 => f_bit_or | 15 => f_bit_xor | 16 => f_shift_count | 17 => f_shl | 18 => f_shr_s | 19 => f_shr_u | 20 => f_rotl | 21 => f_rotr | 22 => f_eq | 23 => f_ne | 24 => f_lt_s | 25 => f_gt_s | 26 => f_le_s | 27 => f_ge_s | 28 => f_lt_u | 29 => f_gt_u | 30 => f_le_u | 31 => f_ge_u | 32 => f_eqz | 33 => f_clz | 34 => f_ctz | 35 => f_popcnt | 36 => f_extend8_s | 37 => f_extend16_s | 38 => f_extend32_s | 39 => f_extend_u | 40 => f_signature_of | 41 => f_check_operands | 42 => f_calculate | 43 => f_l_is_integer | 44 => f_l_cell | 45 => f_l_signed | 46 => f_l_value | 47 => f_l_high | 48 => f_l_low | 49 => f_l_join | 50 => f_l_sums | 51 => f_l_products | 52 => f_l_bitwise | 53 => f_l_orders | 54 => f_l_counted | 55 => f_l_divided | 1000 => c_HostError | 1001 => c_Trap | 1002 => c_UnknownInstruction | 1003 => c_BadValues | 2001 => fi_Trap | 2002 => fi_UnknownInstruction | _ => 0)⟩ m_extend_u) := ⟨ok_extend_u (ad := (fun n => match n with | 0 => f_width | 1 => f_unsigned | 2 => f_extend | 3 => f_signed | 4 => f_in_range | 5 => f_add | 6 => f_sub | 7 => f_mul | 8 => f_quotient | 9 => f_div_s | 10 => f_div_u | 11 => f_rem_s | 12 => f_rem_u | 13 => f_bit_and | 14 => f_bit_or | 15 => f_bit_xor | 16 => f_shift_count | 17 => f_shl | 18 => f_shr_s | 19 => f_shr_u | 20 => f_rotl | 21 => f_rotr | 22 => f_eq | 23 => f_ne | 24 => f_lt_s | 25 => f_gt_s | 26 => f_le_s | 27 => f_ge_s | 28 => f_lt_u | 29 => f_gt_u | 30 => f_le_u | 31 => f_ge_u | 32 => f_eqz | 33 => f_clz | 34 => f_ctz | 35 => f_popcnt | 36 => f_extend8_s | 37 => f_extend16_s | 38 => f_extend32_s | 39 => f_extend_u | 40 => f_signature_of | 41 => f_check_operands | 42 => f_calculate | 43 => f_l_is_integer | 44 => f_l_cell | 45 => f_l_signed | 46 => f_l_value | 47 => f_l_high | 48 => f_l_low | 49 => f_l_join | 50 => f_l_sums | 51 => f_l_products | 52 => f_l_bitwise | 53 => f_l_orders | 54 => f_l_counted | 55 => f_l_divided | 1000 => c_HostError | 1001 => c_Trap | 1002 => c_UnknownInstruction | 1003 => c_BadValues | 2001 => fi_Trap | 2002 => fi_UnknownInstruction | _ => 0)) F_extend_u T O_unsigned, PySem.W.mg_of X G a_extend_u, F_extend_u.kp, b_extend_u⟩
  have O_signature_of : DfX l.prog w K mg base 5 "signature_of" f_signature_of _ ["name"] (SpD ⟨K, w, (fun n => match n with | 0 => f_width | 1 => f_unsigned | 2 => f_extend | 3 => f_signed | 4 => f_in_range | 5 => f_add | 6 => f_sub | 7 => f_mul | 8 => f_quotient | 9 => f_div_s | 10 => f_div_u | 11 => f_rem_s | 12 => f_rem_u | 13 => f_bit_and | 14 => f_bit_or | 15 => f_bit_xor | 16 => f_shift_count | 17 => f_shl | 18 => f_shr_s | 19 => f_shr_u | 20 => f_rotl | 21 => f_rotr | 22 => f_eq | 23 => f_ne | 24 => f_lt_s | 25 => f_gt_s | 26 => f_le_s | 27 => f_ge_s | 28 => f_lt_u | 29 => f_gt_u | 30 => f_le_u | 31 => f_ge_u | 32 => f_eqz | 33 => f_clz | 34 => f_ctz | 35 => f_popcnt | 36 => f_extend8_s | 37 => f_extend16_s | 38 => f_extend32_s | 39 => f_extend_u | 40 => f_signature_of | 41 => f_check_operands | 42 => f_calculate | 43 => f_l_is_integer | 44 => f_l_cell | 45 => f_l_signed | 46 => f_l_value | 47 => f_l_high | 48 => f_l_low | 49 => f_l_join | 50 => f_l_sums | 51 => f_l_products | 52 => f_l_bitwise | 53 => f_l_orders | 54 => f_l_counted | 55 => f_l_divided | 1000 => c_HostError | 1001 => c_Trap | 1002 => c_UnknownInstruction | 1003 => c_BadValues | 2001 => fi_Trap | 2002 => fi_UnknownInstruction | _ => 0)⟩ m_signature_of) := ⟨ok_signature_of (ad := (fun n => match n with | 0 => f_width | 1 => f_unsigned | 2 => f_extend | 3 => f_signed | 4 => f_in_range | 5 => f_add | 6 => f_sub | 7 => f_mul | 8 => f_quotient | 9 => f_div_s | 10 => f_div_u | 11 => f_rem_s | 12 => f_rem_u | 13 => f_bit_and | 14 => f_bit_or | 15 => f_bit_xor | 16 => f_shift_count | 17 => f_shl | 18 => f_shr_s | 19 => f_shr_u | 20 => f_rotl | 21 => f_rotr | 22 => f_eq | 23 => f_ne | 24 => f_lt_s | 25 => f_gt_s | 26 => f_le_s | 27 => f_ge_s | 28 => f_lt_u | 29 => f_gt_u | 30 => f_le_u | 31 => f_ge_u | 32 => f_eqz | 33 => f_clz | 34 => f_ctz | 35 => f_popcnt | 36 => f_extend8_s | 37 => f_extend16_s | 38 => f_extend32_s | 39 => f_extend_u | 40 => f_signature_of | 41 => f_check_operands | 42 => f_calculate | 43 => f_l_is_integer | 44 => f_l_cell | 45 => f_l_signed | 46 => f_l_value | 47 => f_l_high | 48 => f_l_low | 49 => f_l_join | 50 => f_l_sums | 51 => f_l_products | 52 => f_l_bitwise | 53 => f_l_orders | 54 => f_l_counted | 55 => f_l_divided | 1000 => c_HostError | 1001 => c_Trap | 1002 => c_UnknownInstruction | 1003 => c_BadValues | 2001 => fi_Trap | 2002 => fi_UnknownInstruction | _ => 0)) F_signature_of T O_init_UnknownInstruction, PySem.W.mg_of X G a_signature_of, F_signature_of.kp, b_signature_of⟩
  have O_check_operands : DfX l.prog w K mg base 4 "check_operands" f_check_operands _ ["params", "operands"] (SpD ⟨K, w, (fun n => match n with | 0 => f_width | 1 => f_unsigned | 2 => f_extend | 3 => f_signed | 4 => f_in_range | 5 => f_add | 6 => f_sub | 7 => f_mul | 8 => f_quotient | 9 => f_div_s | 10 => f_div_u | 11 => f_rem_s | 12 => f_rem_u | 13 => f_bit_and | 14 => f_bit_or | 15 => f_bit_xor | 16 => f_shift_count | 17 => f_shl | 18 => f_shr_s | 19 => f_shr_u | 20 => f_rotl | 21 => f_rotr | 22 => f_eq | 23 => f_ne | 24 => f_lt_s | 25 => f_gt_s | 26 => f_le_s | 27 => f_ge_s | 28 => f_lt_u | 29 => f_gt_u | 30 => f_le_u | 31 => f_ge_u | 32 => f_eqz | 33 => f_clz | 34 => f_ctz | 35 => f_popcnt | 36 => f_extend8_s | 37 => f_extend16_s | 38 => f_extend32_s | 39 => f_extend_u | 40 => f_signature_of | 41 => f_check_operands | 42 => f_calculate | 43 => f_l_is_integer | 44 => f_l_cell | 45 => f_l_signed | 46 => f_l_value | 47 => f_l_high | 48 => f_l_low | 49 => f_l_join | 50 => f_l_sums | 51 => f_l_products | 52 => f_l_bitwise | 53 => f_l_orders | 54 => f_l_counted | 55 => f_l_divided | 1000 => c_HostError | 1001 => c_Trap | 1002 => c_UnknownInstruction | 1003 => c_BadValues | 2001 => fi_Trap | 2002 => fi_UnknownInstruction | _ => 0)⟩ m_check_operands) := ⟨ok_check_operands (ad := (fun n => match n with | 0 => f_width | 1 => f_unsigned | 2 => f_extend | 3 => f_signed | 4 => f_in_range | 5 => f_add | 6 => f_sub | 7 => f_mul | 8 => f_quotient | 9 => f_div_s | 10 => f_div_u | 11 => f_rem_s | 12 => f_rem_u | 13 => f_bit_and | 14 => f_bit_or | 15 => f_bit_xor | 16 => f_shift_count | 17 => f_shl | 18 => f_shr_s | 19 => f_shr_u | 20 => f_rotl | 21 => f_rotr | 22 => f_eq | 23 => f_ne | 24 => f_lt_s | 25 => f_gt_s | 26 => f_le_s | 27 => f_ge_s | 28 => f_lt_u | 29 => f_gt_u | 30 => f_le_u | 31 => f_ge_u | 32 => f_eqz | 33 => f_clz | 34 => f_ctz | 35 => f_popcnt | 36 => f_extend8_s | 37 => f_extend16_s | 38 => f_extend32_s | 39 => f_extend_u | 40 => f_signature_of | 41 => f_check_operands | 42 => f_calculate | 43 => f_l_is_integer | 44 => f_l_cell | 45 => f_l_signed | 46 => f_l_value | 47 => f_l_high | 48 => f_l_low | 49 => f_l_join | 50 => f_l_sums | 51 => f_l_products | 52 => f_l_bitwise | 53 => f_l_orders | 54 => f_l_counted | 55 => f_l_divided | 1000 => c_HostError | 1001 => c_Trap | 1002 => c_UnknownInstruction | 1003 => c_BadValues | 2001 => fi_Trap | 2002 => fi_UnknownInstruction | _ => 0)) F_check_operands T O_in_range, PySem.W.mg_of X G a_check_operands, F_check_operands.kp, b_check_operands⟩
  have O_calculate : DfX l.prog w K mg base 6 "calculate" f_calculate _ ["name", "operands"] (SpD ⟨K, w, (fun n => match n with | 0 => f_width | 1 => f_unsigned | 2 => f_extend | 3 => f_signed | 4 => f_in_range | 5 => f_add | 6 => f_sub | 7 => f_mul | 8 => f_quotient | 9 => f_div_s | 10 => f_div_u | 11 => f_rem_s | 12 => f_rem_u | 13 => f_bit_and | 14 => f_bit_or | 15 => f_bit_xor | 16 => f_shift_count | 17 => f_shl | 18 => f_shr_s | 19 => f_shr_u | 20 => f_rotl | 21 => f_rotr | 22 => f_eq | 23 => f_ne | 24 => f_lt_s | 25 => f_gt_s | 26 => f_le_s | 27 => f_ge_s | 28 => f_lt_u | 29 => f_gt_u | 30 => f_le_u | 31 => f_ge_u | 32 => f_eqz | 33 => f_clz | 34 => f_ctz | 35 => f_popcnt | 36 => f_extend8_s | 37 => f_extend16_s | 38 => f_extend32_s | 39 => f_extend_u | 40 => f_signature_of | 41 => f_check_operands | 42 => f_calculate | 43 => f_l_is_integer | 44 => f_l_cell | 45 => f_l_signed | 46 => f_l_value | 47 => f_l_high | 48 => f_l_low | 49 => f_l_join | 50 => f_l_sums | 51 => f_l_products | 52 => f_l_bitwise | 53 => f_l_orders | 54 => f_l_counted | 55 => f_l_divided | 1000 => c_HostError | 1001 => c_Trap | 1002 => c_UnknownInstruction | 1003 => c_BadValues | 2001 => fi_Trap | 2002 => fi_UnknownInstruction | _ => 0)⟩ m_calculate) := ⟨ok_calculate (ad := (fun n => match n with | 0 => f_width | 1 => f_unsigned | 2 => f_extend | 3 => f_signed | 4 => f_in_range | 5 => f_add | 6 => f_sub | 7 => f_mul | 8 => f_quotient | 9 => f_div_s | 10 => f_div_u | 11 => f_rem_s | 12 => f_rem_u | 13 => f_bit_and | 14 => f_bit_or | 15 => f_bit_xor | 16 => f_shift_count | 17 => f_shl | 18 => f_shr_s | 19 => f_shr_u | 20 => f_rotl | 21 => f_rotr | 22 => f_eq | 23 => f_ne | 24 => f_lt_s | 25 => f_gt_s | 26 => f_le_s | 27 => f_ge_s | 28 => f_lt_u | 29 => f_gt_u | 30 => f_le_u | 31 => f_ge_u | 32 => f_eqz | 33 => f_clz | 34 => f_ctz | 35 => f_popcnt | 36 => f_extend8_s | 37 => f_extend16_s | 38 => f_extend32_s | 39 => f_extend_u | 40 => f_signature_of | 41 => f_check_operands | 42 => f_calculate | 43 => f_l_is_integer | 44 => f_l_cell | 45 => f_l_signed | 46 => f_l_value | 47 => f_l_high | 48 => f_l_low | 49 => f_l_join | 50 => f_l_sums | 51 => f_l_products | 52 => f_l_bitwise | 53 => f_l_orders | 54 => f_l_counted | 55 => f_l_divided | 1000 => c_HostError | 1001 => c_Trap | 1002 => c_UnknownInstruction | 1003 => c_BadValues | 2001 => fi_Trap | 2002 => fi_UnknownInstruction | _ => 0)) F_calculate T O_add O_sub O_mul O_div_s O_div_u O_rem_s O_rem_u O_bit_and O_bit_or O_bit_xor O_shl O_shr_s O_shr_u O_rotl O_rotr O_eq O_ne O_lt_s O_gt_s O_le_s O_ge_s O_lt_u O_gt_u O_le_u O_ge_u O_eqz O_clz O_ctz O_popcnt O_extend8_s O_extend16_s O_extend32_s O_extend_u O_signature_of O_check_operands, PySem.W.mg_of X G a_calculate, F_calculate.kp, b_calculate⟩
  have O_l_is_integer : DfX l.prog w K mg base 1 "_law_is_integer" f_l_is_integer _ ["_law_actual"] (SpD ⟨K, w, (fun n => match n with | 0 => f_width | 1 => f_unsigned | 2 => f_extend | 3 => f_signed | 4 => f_in_range | 5 => f_add | 6 => f_sub | 7 => f_mul | 8 => f_quotient | 9 => f_div_s | 10 => f_div_u | 11 => f_rem_s | 12 => f_rem_u | 13 => f_bit_and | 14 => f_bit_or | 15 => f_bit_xor | 16 => f_shift_count | 17 => f_shl | 18 => f_shr_s | 19 => f_shr_u | 20 => f_rotl | 21 => f_rotr | 22 => f_eq | 23 => f_ne | 24 => f_lt_s | 25 => f_gt_s | 26 => f_le_s | 27 => f_ge_s | 28 => f_lt_u | 29 => f_gt_u | 30 => f_le_u | 31 => f_ge_u | 32 => f_eqz | 33 => f_clz | 34 => f_ctz | 35 => f_popcnt | 36 => f_extend8_s | 37 => f_extend16_s | 38 => f_extend32_s | 39 => f_extend_u | 40 => f_signature_of | 41 => f_check_operands | 42 => f_calculate | 43 => f_l_is_integer | 44 => f_l_cell | 45 => f_l_signed | 46 => f_l_value | 47 => f_l_high | 48 => f_l_low | 49 => f_l_join | 50 => f_l_sums | 51 => f_l_products | 52 => f_l_bitwise | 53 => f_l_orders | 54 => f_l_counted | 55 => f_l_divided | 1000 => c_HostError | 1001 => c_Trap | 1002 => c_UnknownInstruction | 1003 => c_BadValues | 2001 => fi_Trap | 2002 => fi_UnknownInstruction | _ => 0)⟩ m_l_is_integer) := ⟨ok_l_is_integer (ad := (fun n => match n with | 0 => f_width | 1 => f_unsigned | 2 => f_extend | 3 => f_signed | 4 => f_in_range | 5 => f_add | 6 => f_sub | 7 => f_mul | 8 => f_quotient | 9 => f_div_s | 10 => f_div_u | 11 => f_rem_s | 12 => f_rem_u | 13 => f_bit_and | 14 => f_bit_or | 15 => f_bit_xor | 16 => f_shift_count | 17 => f_shl | 18 => f_shr_s | 19 => f_shr_u | 20 => f_rotl | 21 => f_rotr | 22 => f_eq | 23 => f_ne | 24 => f_lt_s | 25 => f_gt_s | 26 => f_le_s | 27 => f_ge_s | 28 => f_lt_u | 29 => f_gt_u | 30 => f_le_u | 31 => f_ge_u | 32 => f_eqz | 33 => f_clz | 34 => f_ctz | 35 => f_popcnt | 36 => f_extend8_s | 37 => f_extend16_s | 38 => f_extend32_s | 39 => f_extend_u | 40 => f_signature_of | 41 => f_check_operands | 42 => f_calculate | 43 => f_l_is_integer | 44 => f_l_cell | 45 => f_l_signed | 46 => f_l_value | 47 => f_l_high | 48 => f_l_low | 49 => f_l_join | 50 => f_l_sums | 51 => f_l_products | 52 => f_l_bitwise | 53 => f_l_orders | 54 => f_l_counted | 55 => f_l_divided | 1000 => c_HostError | 1001 => c_Trap | 1002 => c_UnknownInstruction | 1003 => c_BadValues | 2001 => fi_Trap | 2002 => fi_UnknownInstruction | _ => 0)) F_l_is_integer T, PySem.W.mg_of X G a_l_is_integer, F_l_is_integer.kp, b_l_is_integer⟩
  have O_l_cell : DfX l.prog w K mg base 1 "_law_cell" f_l_cell _ ["_law_script", "_law_k"] (SpD ⟨K, w, (fun n => match n with | 0 => f_width | 1 => f_unsigned | 2 => f_extend | 3 => f_signed | 4 => f_in_range | 5 => f_add | 6 => f_sub | 7 => f_mul | 8 => f_quotient | 9 => f_div_s | 10 => f_div_u | 11 => f_rem_s | 12 => f_rem_u | 13 => f_bit_and | 14 => f_bit_or | 15 => f_bit_xor | 16 => f_shift_count | 17 => f_shl | 18 => f_shr_s | 19 => f_shr_u | 20 => f_rotl | 21 => f_rotr | 22 => f_eq | 23 => f_ne | 24 => f_lt_s | 25 => f_gt_s | 26 => f_le_s | 27 => f_ge_s | 28 => f_lt_u | 29 => f_gt_u | 30 => f_le_u | 31 => f_ge_u | 32 => f_eqz | 33 => f_clz | 34 => f_ctz | 35 => f_popcnt | 36 => f_extend8_s | 37 => f_extend16_s | 38 => f_extend32_s | 39 => f_extend_u | 40 => f_signature_of | 41 => f_check_operands | 42 => f_calculate | 43 => f_l_is_integer | 44 => f_l_cell | 45 => f_l_signed | 46 => f_l_value | 47 => f_l_high | 48 => f_l_low | 49 => f_l_join | 50 => f_l_sums | 51 => f_l_products | 52 => f_l_bitwise | 53 => f_l_orders | 54 => f_l_counted | 55 => f_l_divided | 1000 => c_HostError | 1001 => c_Trap | 1002 => c_UnknownInstruction | 1003 => c_BadValues | 2001 => fi_Trap | 2002 => fi_UnknownInstruction | _ => 0)⟩ m_l_cell) := ⟨ok_l_cell (ad := (fun n => match n with | 0 => f_width | 1 => f_unsigned | 2 => f_extend | 3 => f_signed | 4 => f_in_range | 5 => f_add | 6 => f_sub | 7 => f_mul | 8 => f_quotient | 9 => f_div_s | 10 => f_div_u | 11 => f_rem_s | 12 => f_rem_u | 13 => f_bit_and | 14 => f_bit_or | 15 => f_bit_xor | 16 => f_shift_count | 17 => f_shl | 18 => f_shr_s | 19 => f_shr_u | 20 => f_rotl | 21 => f_rotr | 22 => f_eq | 23 => f_ne | 24 => f_lt_s | 25 => f_gt_s | 26 => f_le_s | 27 => f_ge_s | 28 => f_lt_u | 29 => f_gt_u | 30 => f_le_u | 31 => f_ge_u | 32 => f_eqz | 33 => f_clz | 34 => f_ctz | 35 => f_popcnt | 36 => f_extend8_s | 37 => f_extend16_s | 38 => f_extend32_s | 39 => f_extend_u | 40 => f_signature_of | 41 => f_check_operands | 42 => f_calculate | 43 => f_l_is_integer | 44 => f_l_cell | 45 => f_l_signed | 46 => f_l_value | 47 => f_l_high | 48 => f_l_low | 49 => f_l_join | 50 => f_l_sums | 51 => f_l_products | 52 => f_l_bitwise | 53 => f_l_orders | 54 => f_l_counted | 55 => f_l_divided | 1000 => c_HostError | 1001 => c_Trap | 1002 => c_UnknownInstruction | 1003 => c_BadValues | 2001 => fi_Trap | 2002 => fi_UnknownInstruction | _ => 0)) F_l_cell T, PySem.W.mg_of X G a_l_cell, F_l_cell.kp, b_l_cell⟩
  have O_l_signed : DfX l.prog w K mg base 1 "_law_signed" f_l_signed _ ["_law_number", "_law_bits"] (SpD ⟨K, w, (fun n => match n with | 0 => f_width | 1 => f_unsigned | 2 => f_extend | 3 => f_signed | 4 => f_in_range | 5 => f_add | 6 => f_sub | 7 => f_mul | 8 => f_quotient | 9 => f_div_s | 10 => f_div_u | 11 => f_rem_s | 12 => f_rem_u | 13 => f_bit_and | 14 => f_bit_or | 15 => f_bit_xor | 16 => f_shift_count | 17 => f_shl | 18 => f_shr_s | 19 => f_shr_u | 20 => f_rotl | 21 => f_rotr | 22 => f_eq | 23 => f_ne | 24 => f_lt_s | 25 => f_gt_s | 26 => f_le_s | 27 => f_ge_s | 28 => f_lt_u | 29 => f_gt_u | 30 => f_le_u | 31 => f_ge_u | 32 => f_eqz | 33 => f_clz | 34 => f_ctz | 35 => f_popcnt | 36 => f_extend8_s | 37 => f_extend16_s | 38 => f_extend32_s | 39 => f_extend_u | 40 => f_signature_of | 41 => f_check_operands | 42 => f_calculate | 43 => f_l_is_integer | 44 => f_l_cell | 45 => f_l_signed | 46 => f_l_value | 47 => f_l_high | 48 => f_l_low | 49 => f_l_join | 50 => f_l_sums | 51 => f_l_products | 52 => f_l_bitwise | 53 => f_l_orders | 54 => f_l_counted | 55 => f_l_divided | 1000 => c_HostError | 1001 => c_Trap | 1002 => c_UnknownInstruction | 1003 => c_BadValues | 2001 => fi_Trap | 2002 => fi_UnknownInstruction | _ => 0)⟩ m_l_signed) := ⟨ok_l_signed (ad := (fun n => match n with | 0 => f_width | 1 => f_unsigned | 2 => f_extend | 3 => f_signed | 4 => f_in_range | 5 => f_add | 6 => f_sub | 7 => f_mul | 8 => f_quotient | 9 => f_div_s | 10 => f_div_u | 11 => f_rem_s | 12 => f_rem_u | 13 => f_bit_and | 14 => f_bit_or | 15 => f_bit_xor | 16 => f_shift_count | 17 => f_shl | 18 => f_shr_s | 19 => f_shr_u | 20 => f_rotl | 21 => f_rotr | 22 => f_eq | 23 => f_ne | 24 => f_lt_s | 25 => f_gt_s | 26 => f_le_s | 27 => f_ge_s | 28 => f_lt_u | 29 => f_gt_u | 30 => f_le_u | 31 => f_ge_u | 32 => f_eqz | 33 => f_clz | 34 => f_ctz | 35 => f_popcnt | 36 => f_extend8_s | 37 => f_extend16_s | 38 => f_extend32_s | 39 => f_extend_u | 40 => f_signature_of | 41 => f_check_operands | 42 => f_calculate | 43 => f_l_is_integer | 44 => f_l_cell | 45 => f_l_signed | 46 => f_l_value | 47 => f_l_high | 48 => f_l_low | 49 => f_l_join | 50 => f_l_sums | 51 => f_l_products | 52 => f_l_bitwise | 53 => f_l_orders | 54 => f_l_counted | 55 => f_l_divided | 1000 => c_HostError | 1001 => c_Trap | 1002 => c_UnknownInstruction | 1003 => c_BadValues | 2001 => fi_Trap | 2002 => fi_UnknownInstruction | _ => 0)) F_l_signed T, PySem.W.mg_of X G a_l_signed, F_l_signed.kp, b_l_signed⟩
  have O_l_value : DfX l.prog w K mg base 2 "_law_value" f_l_value _ ["_law_cell_here", "_law_bits"] (SpD ⟨K, w, (fun n => match n with | 0 => f_width | 1 => f_unsigned | 2 => f_extend | 3 => f_signed | 4 => f_in_range | 5 => f_add | 6 => f_sub | 7 => f_mul | 8 => f_quotient | 9 => f_div_s | 10 => f_div_u | 11 => f_rem_s | 12 => f_rem_u | 13 => f_bit_and | 14 => f_bit_or | 15 => f_bit_xor | 16 => f_shift_count | 17 => f_shl | 18 => f_shr_s | 19 => f_shr_u | 20 => f_rotl | 21 => f_rotr | 22 => f_eq | 23 => f_ne | 24 => f_lt_s | 25 => f_gt_s | 26 => f_le_s | 27 => f_ge_s | 28 => f_lt_u | 29 => f_gt_u | 30 => f_le_u | 31 => f_ge_u | 32 => f_eqz | 33 => f_clz | 34 => f_ctz | 35 => f_popcnt | 36 => f_extend8_s | 37 => f_extend16_s | 38 => f_extend32_s | 39 => f_extend_u | 40 => f_signature_of | 41 => f_check_operands | 42 => f_calculate | 43 => f_l_is_integer | 44 => f_l_cell | 45 => f_l_signed | 46 => f_l_value | 47 => f_l_high | 48 => f_l_low | 49 => f_l_join | 50 => f_l_sums | 51 => f_l_products | 52 => f_l_bitwise | 53 => f_l_orders | 54 => f_l_counted | 55 => f_l_divided | 1000 => c_HostError | 1001 => c_Trap | 1002 => c_UnknownInstruction | 1003 => c_BadValues | 2001 => fi_Trap | 2002 => fi_UnknownInstruction | _ => 0)⟩ m_l_value) := ⟨ok_l_value (ad := (fun n => match n with | 0 => f_width | 1 => f_unsigned | 2 => f_extend | 3 => f_signed | 4 => f_in_range | 5 => f_add | 6 => f_sub | 7 => f_mul | 8 => f_quotient | 9 => f_div_s | 10 => f_div_u | 11 => f_rem_s | 12 => f_rem_u | 13 => f_bit_and | 14 => f_bit_or | 15 => f_bit_xor | 16 => f_shift_count | 17 => f_shl | 18 => f_shr_s | 19 => f_shr_u | 20 => f_rotl | 21 => f_rotr | 22 => f_eq | 23 => f_ne | 24 => f_lt_s | 25 => f_gt_s | 26 => f_le_s | 27 => f_ge_s | 28 => f_lt_u | 29 => f_gt_u | 30 => f_le_u | 31 => f_ge_u | 32 => f_eqz | 33 => f_clz | 34 => f_ctz | 35 => f_popcnt | 36 => f_extend8_s | 37 => f_extend16_s | 38 => f_extend32_s | 39 => f_extend_u | 40 => f_signature_of | 41 => f_check_operands | 42 => f_calculate | 43 => f_l_is_integer | 44 => f_l_cell | 45 => f_l_signed | 46 => f_l_value | 47 => f_l_high | 48 => f_l_low | 49 => f_l_join | 50 => f_l_sums | 51 => f_l_products | 52 => f_l_bitwise | 53 => f_l_orders | 54 => f_l_counted | 55 => f_l_divided | 1000 => c_HostError | 1001 => c_Trap | 1002 => c_UnknownInstruction | 1003 => c_BadValues | 2001 => fi_Trap | 2002 => fi_UnknownInstruction | _ => 0)) F_l_value T O_l_signed, PySem.W.mg_of X G a_l_value, F_l_value.kp, b_l_value⟩
  have O_l_high : DfX l.prog w K mg base 7 "_law_high" f_l_high _ ["_law_a"] (SpD ⟨K, w, (fun n => match n with | 0 => f_width | 1 => f_unsigned | 2 => f_extend | 3 => f_signed | 4 => f_in_range | 5 => f_add | 6 => f_sub | 7 => f_mul | 8 => f_quotient | 9 => f_div_s | 10 => f_div_u | 11 => f_rem_s | 12 => f_rem_u | 13 => f_bit_and | 14 => f_bit_or | 15 => f_bit_xor | 16 => f_shift_count | 17 => f_shl | 18 => f_shr_s | 19 => f_shr_u | 20 => f_rotl | 21 => f_rotr | 22 => f_eq | 23 => f_ne | 24 => f_lt_s | 25 => f_gt_s | 26 => f_le_s | 27 => f_ge_s | 28 => f_lt_u | 29 => f_gt_u | 30 => f_le_u | 31 => f_ge_u | 32 => f_eqz | 33 => f_clz | 34 => f_ctz | 35 => f_popcnt | 36 => f_extend8_s | 37 => f_extend16_s | 38 => f_extend32_s | 39 => f_extend_u | 40 => f_signature_of | 41 => f_check_operands | 42 => f_calculate | 43 => f_l_is_integer | 44 => f_l_cell | 45 => f_l_signed | 46 => f_l_value | 47 => f_l_high | 48 => f_l_low | 49 => f_l_join | 50 => f_l_sums | 51 => f_l_products | 52 => f_l_bitwise | 53 => f_l_orders | 54 => f_l_counted | 55 => f_l_divided | 1000 => c_HostError | 1001 => c_Trap | 1002 => c_UnknownInstruction | 1003 => c_BadValues | 2001 => fi_Trap | 2002 => fi_UnknownInstruction | _ => 0)⟩ m_l_high) := ⟨ok_l_high (ad := (fun n => match n with | 0 => f_width | 1 => f_unsigned | 2 => f_extend | 3 => f_signed | 4 => f_in_range | 5 => f_add | 6 => f_sub | 7 => f_mul | 8 => f_quotient | 9 => f_div_s | 10 => f_div_u | 11 => f_rem_s | 12 => f_rem_u | 13 => f_bit_and | 14 => f_bit_or | 15 => f_bit_xor | 16 => f_shift_count | 17 => f_shl | 18 => f_shr_s | 19 => f_shr_u | 20 => f_rotl | 21 => f_rotr | 22 => f_eq | 23 => f_ne | 24 => f_lt_s | 25 => f_gt_s | 26 => f_le_s | 27 => f_ge_s | 28 => f_lt_u | 29 => f_gt_u | 30 => f_le_u | 31 => f_ge_u | 32 => f_eqz | 33 => f_clz | 34 => f_ctz | 35 => f_popcnt | 36 => f_extend8_s | 37 => f_extend16_s | 38 => f_extend32_s | 39 => f_extend_u | 40 => f_signature_of | 41 => f_check_operands | 42 => f_calculate | 43 => f_l_is_integer | 44 => f_l_cell | 45 => f_l_signed | 46 => f_l_value | 47 => f_l_high | 48 => f_l_low | 49 => f_l_join | 50 => f_l_sums | 51 => f_l_products | 52 => f_l_bitwise | 53 => f_l_orders | 54 => f_l_counted | 55 => f_l_divided | 1000 => c_HostError | 1001 => c_Trap | 1002 => c_UnknownInstruction | 1003 => c_BadValues | 2001 => fi_Trap | 2002 => fi_UnknownInstruction | _ => 0)) F_l_high T O_calculate, PySem.W.mg_of X G a_l_high, F_l_high.kp, b_l_high⟩
  have O_l_low : DfX l.prog w K mg base 7 "_law_low" f_l_low _ ["_law_a"] (SpD ⟨K, w, (fun n => match n with | 0 => f_width | 1 => f_unsigned | 2 => f_extend | 3 => f_signed | 4 => f_in_range | 5 => f_add | 6 => f_sub | 7 => f_mul | 8 => f_quotient | 9 => f_div_s | 10 => f_div_u | 11 => f_rem_s | 12 => f_rem_u | 13 => f_bit_and | 14 => f_bit_or | 15 => f_bit_xor | 16 => f_shift_count | 17 => f_shl | 18 => f_shr_s | 19 => f_shr_u | 20 => f_rotl | 21 => f_rotr | 22 => f_eq | 23 => f_ne | 24 => f_lt_s | 25 => f_gt_s | 26 => f_le_s | 27 => f_ge_s | 28 => f_lt_u | 29 => f_gt_u | 30 => f_le_u | 31 => f_ge_u | 32 => f_eqz | 33 => f_clz | 34 => f_ctz | 35 => f_popcnt | 36 => f_extend8_s | 37 => f_extend16_s | 38 => f_extend32_s | 39 => f_extend_u | 40 => f_signature_of | 41 => f_check_operands | 42 => f_calculate | 43 => f_l_is_integer | 44 => f_l_cell | 45 => f_l_signed | 46 => f_l_value | 47 => f_l_high | 48 => f_l_low | 49 => f_l_join | 50 => f_l_sums | 51 => f_l_products | 52 => f_l_bitwise | 53 => f_l_orders | 54 => f_l_counted | 55 => f_l_divided | 1000 => c_HostError | 1001 => c_Trap | 1002 => c_UnknownInstruction | 1003 => c_BadValues | 2001 => fi_Trap | 2002 => fi_UnknownInstruction | _ => 0)⟩ m_l_low) := ⟨ok_l_low (ad := (fun n => match n with | 0 => f_width | 1 => f_unsigned | 2 => f_extend | 3 => f_signed | 4 => f_in_range | 5 => f_add | 6 => f_sub | 7 => f_mul | 8 => f_quotient | 9 => f_div_s | 10 => f_div_u | 11 => f_rem_s | 12 => f_rem_u | 13 => f_bit_and | 14 => f_bit_or | 15 => f_bit_xor | 16 => f_shift_count | 17 => f_shl | 18 => f_shr_s | 19 => f_shr_u | 20 => f_rotl | 21 => f_rotr | 22 => f_eq | 23 => f_ne | 24 => f_lt_s | 25 => f_gt_s | 26 => f_le_s | 27 => f_ge_s | 28 => f_lt_u | 29 => f_gt_u | 30 => f_le_u | 31 => f_ge_u | 32 => f_eqz | 33 => f_clz | 34 => f_ctz | 35 => f_popcnt | 36 => f_extend8_s | 37 => f_extend16_s | 38 => f_extend32_s | 39 => f_extend_u | 40 => f_signature_of | 41 => f_check_operands | 42 => f_calculate | 43 => f_l_is_integer | 44 => f_l_cell | 45 => f_l_signed | 46 => f_l_value | 47 => f_l_high | 48 => f_l_low | 49 => f_l_join | 50 => f_l_sums | 51 => f_l_products | 52 => f_l_bitwise | 53 => f_l_orders | 54 => f_l_counted | 55 => f_l_divided | 1000 => c_HostError | 1001 => c_Trap | 1002 => c_UnknownInstruction | 1003 => c_BadValues | 2001 => fi_Trap | 2002 => fi_UnknownInstruction | _ => 0)) F_l_low T O_calculate, PySem.W.mg_of X G a_l_low, F_l_low.kp, b_l_low⟩
  have O_l_join : DfX l.prog w K mg base 7 "_law_join" f_l_join _ ["_law_high_here", "_law_low_here"] (SpD ⟨K, w, (fun n => match n with | 0 => f_width | 1 => f_unsigned | 2 => f_extend | 3 => f_signed | 4 => f_in_range | 5 => f_add | 6 => f_sub | 7 => f_mul | 8 => f_quotient | 9 => f_div_s | 10 => f_div_u | 11 => f_rem_s | 12 => f_rem_u | 13 => f_bit_and | 14 => f_bit_or | 15 => f_bit_xor | 16 => f_shift_count | 17 => f_shl | 18 => f_shr_s | 19 => f_shr_u | 20 => f_rotl | 21 => f_rotr | 22 => f_eq | 23 => f_ne | 24 => f_lt_s | 25 => f_gt_s | 26 => f_le_s | 27 => f_ge_s | 28 => f_lt_u | 29 => f_gt_u | 30 => f_le_u | 31 => f_ge_u | 32 => f_eqz | 33 => f_clz | 34 => f_ctz | 35 => f_popcnt | 36 => f_extend8_s | 37 => f_extend16_s | 38 => f_extend32_s | 39 => f_extend_u | 40 => f_signature_of | 41 => f_check_operands | 42 => f_calculate | 43 => f_l_is_integer | 44 => f_l_cell | 45 => f_l_signed | 46 => f_l_value | 47 => f_l_high | 48 => f_l_low | 49 => f_l_join | 50 => f_l_sums | 51 => f_l_products | 52 => f_l_bitwise | 53 => f_l_orders | 54 => f_l_counted | 55 => f_l_divided | 1000 => c_HostError | 1001 => c_Trap | 1002 => c_UnknownInstruction | 1003 => c_BadValues | 2001 => fi_Trap | 2002 => fi_UnknownInstruction | _ => 0)⟩ m_l_join) := ⟨ok_l_join (ad := (fun n => match n with | 0 => f_width | 1 => f_unsigned | 2 => f_extend | 3 => f_signed | 4 => f_in_range | 5 => f_add | 6 => f_sub | 7 => f_mul | 8 => f_quotient | 9 => f_div_s | 10 => f_div_u | 11 => f_rem_s | 12 => f_rem_u | 13 => f_bit_and | 14 => f_bit_or | 15 => f_bit_xor | 16 => f_shift_count | 17 => f_shl | 18 => f_shr_s | 19 => f_shr_u | 20 => f_rotl | 21 => f_rotr | 22 => f_eq | 23 => f_ne | 24 => f_lt_s | 25 => f_gt_s | 26 => f_le_s | 27 => f_ge_s | 28 => f_lt_u | 29 => f_gt_u | 30 => f_le_u | 31 => f_ge_u | 32 => f_eqz | 33 => f_clz | 34 => f_ctz | 35 => f_popcnt | 36 => f_extend8_s | 37 => f_extend16_s | 38 => f_extend32_s | 39 => f_extend_u | 40 => f_signature_of | 41 => f_check_operands | 42 => f_calculate | 43 => f_l_is_integer | 44 => f_l_cell | 45 => f_l_signed | 46 => f_l_value | 47 => f_l_high | 48 => f_l_low | 49 => f_l_join | 50 => f_l_sums | 51 => f_l_products | 52 => f_l_bitwise | 53 => f_l_orders | 54 => f_l_counted | 55 => f_l_divided | 1000 => c_HostError | 1001 => c_Trap | 1002 => c_UnknownInstruction | 1003 => c_BadValues | 2001 => fi_Trap | 2002 => fi_UnknownInstruction | _ => 0)) F_l_join T O_calculate, PySem.W.mg_of X G a_l_join, F_l_join.kp, b_l_join⟩
  have O_l_sums : DfX l.prog w K mg base 8 "_law_sums" f_l_sums _ ["_law_a", "_law_b"] (SpD ⟨K, w, (fun n => match n with | 0 => f_width | 1 => f_unsigned | 2 => f_extend | 3 => f_signed | 4 => f_in_range | 5 => f_add | 6 => f_sub | 7 => f_mul | 8 => f_quotient | 9 => f_div_s | 10 => f_div_u | 11 => f_rem_s | 12 => f_rem_u | 13 => f_bit_and | 14 => f_bit_or | 15 => f_bit_xor | 16 => f_shift_count | 17 => f_shl | 18 => f_shr_s | 19 => f_shr_u | 20 => f_rotl | 21 => f_rotr | 22 => f_eq | 23 => f_ne | 24 => f_lt_s | 25 => f_gt_s | 26 => f_le_s | 27 => f_ge_s | 28 => f_lt_u | 29 => f_gt_u | 30 => f_le_u | 31 => f_ge_u | 32 => f_eqz | 33 => f_clz | 34 => f_ctz | 35 => f_popcnt | 36 => f_extend8_s | 37 => f_extend16_s | 38 => f_extend32_s | 39 => f_extend_u | 40 => f_signature_of | 41 => f_check_operands | 42 => f_calculate | 43 => f_l_is_integer | 44 => f_l_cell | 45 => f_l_signed | 46 => f_l_value | 47 => f_l_high | 48 => f_l_low | 49 => f_l_join | 50 => f_l_sums | 51 => f_l_products | 52 => f_l_bitwise | 53 => f_l_orders | 54 => f_l_counted | 55 => f_l_divided | 1000 => c_HostError | 1001 => c_Trap | 1002 => c_UnknownInstruction | 1003 => c_BadValues | 2001 => fi_Trap | 2002 => fi_UnknownInstruction | _ => 0)⟩ m_l_sums) := ⟨ok_l_sums (ad := (fun n => match n with | 0 => f_width | 1 => f_unsigned | 2 => f_extend | 3 => f_signed | 4 => f_in_range | 5 => f_add | 6 => f_sub | 7 => f_mul | 8 => f_quotient | 9 => f_div_s | 10 => f_div_u | 11 => f_rem_s | 12 => f_rem_u | 13 => f_bit_and | 14 => f_bit_or | 15 => f_bit_xor | 16 => f_shift_count | 17 => f_shl | 18 => f_shr_s | 19 => f_shr_u | 20 => f_rotl | 21 => f_rotr | 22 => f_eq | 23 => f_ne | 24 => f_lt_s | 25 => f_gt_s | 26 => f_le_s | 27 => f_ge_s | 28 => f_lt_u | 29 => f_gt_u | 30 => f_le_u | 31 => f_ge_u | 32 => f_eqz | 33 => f_clz | 34 => f_ctz | 35 => f_popcnt | 36 => f_extend8_s | 37 => f_extend16_s | 38 => f_extend32_s | 39 => f_extend_u | 40 => f_signature_of | 41 => f_check_operands | 42 => f_calculate | 43 => f_l_is_integer | 44 => f_l_cell | 45 => f_l_signed | 46 => f_l_value | 47 => f_l_high | 48 => f_l_low | 49 => f_l_join | 50 => f_l_sums | 51 => f_l_products | 52 => f_l_bitwise | 53 => f_l_orders | 54 => f_l_counted | 55 => f_l_divided | 1000 => c_HostError | 1001 => c_Trap | 1002 => c_UnknownInstruction | 1003 => c_BadValues | 2001 => fi_Trap | 2002 => fi_UnknownInstruction | _ => 0)) F_l_sums T O_calculate O_l_high O_l_low O_l_join, PySem.W.mg_of X G a_l_sums, F_l_sums.kp, b_l_sums⟩
  have O_l_products : DfX l.prog w K mg base 8 "_law_products" f_l_products _ ["_law_a", "_law_b"] (SpD ⟨K, w, (fun n => match n with | 0 => f_width | 1 => f_unsigned | 2 => f_extend | 3 => f_signed | 4 => f_in_range | 5 => f_add | 6 => f_sub | 7 => f_mul | 8 => f_quotient | 9 => f_div_s | 10 => f_div_u | 11 => f_rem_s | 12 => f_rem_u | 13 => f_bit_and | 14 => f_bit_or | 15 => f_bit_xor | 16 => f_shift_count | 17 => f_shl | 18 => f_shr_s | 19 => f_shr_u | 20 => f_rotl | 21 => f_rotr | 22 => f_eq | 23 => f_ne | 24 => f_lt_s | 25 => f_gt_s | 26 => f_le_s | 27 => f_ge_s | 28 => f_lt_u | 29 => f_gt_u | 30 => f_le_u | 31 => f_ge_u | 32 => f_eqz | 33 => f_clz | 34 => f_ctz | 35 => f_popcnt | 36 => f_extend8_s | 37 => f_extend16_s | 38 => f_extend32_s | 39 => f_extend_u | 40 => f_signature_of | 41 => f_check_operands | 42 => f_calculate | 43 => f_l_is_integer | 44 => f_l_cell | 45 => f_l_signed | 46 => f_l_value | 47 => f_l_high | 48 => f_l_low | 49 => f_l_join | 50 => f_l_sums | 51 => f_l_products | 52 => f_l_bitwise | 53 => f_l_orders | 54 => f_l_counted | 55 => f_l_divided | 1000 => c_HostError | 1001 => c_Trap | 1002 => c_UnknownInstruction | 1003 => c_BadValues | 2001 => fi_Trap | 2002 => fi_UnknownInstruction | _ => 0)⟩ m_l_products) := ⟨ok_l_products (ad := (fun n => match n with | 0 => f_width | 1 => f_unsigned | 2 => f_extend | 3 => f_signed | 4 => f_in_range | 5 => f_add | 6 => f_sub | 7 => f_mul | 8 => f_quotient | 9 => f_div_s | 10 => f_div_u | 11 => f_rem_s | 12 => f_rem_u | 13 => f_bit_and | 14 => f_bit_or | 15 => f_bit_xor | 16 => f_shift_count | 17 => f_shl | 18 => f_shr_s | 19 => f_shr_u | 20 => f_rotl | 21 => f_rotr | 22 => f_eq | 23 => f_ne | 24 => f_lt_s | 25 => f_gt_s | 26 => f_le_s | 27 => f_ge_s | 28 => f_lt_u | 29 => f_gt_u | 30 => f_le_u | 31 => f_ge_u | 32 => f_eqz | 33 => f_clz | 34 => f_ctz | 35 => f_popcnt | 36 => f_extend8_s | 37 => f_extend16_s | 38 => f_extend32_s | 39 => f_extend_u | 40 => f_signature_of | 41 => f_check_operands | 42 => f_calculate | 43 => f_l_is_integer | 44 => f_l_cell | 45 => f_l_signed | 46 => f_l_value | 47 => f_l_high | 48 => f_l_low | 49 => f_l_join | 50 => f_l_sums | 51 => f_l_products | 52 => f_l_bitwise | 53 => f_l_orders | 54 => f_l_counted | 55 => f_l_divided | 1000 => c_HostError | 1001 => c_Trap | 1002 => c_UnknownInstruction | 1003 => c_BadValues | 2001 => fi_Trap | 2002 => fi_UnknownInstruction | _ => 0)) F_l_products T O_calculate O_l_high O_l_low, PySem.W.mg_of X G a_l_products, F_l_products.kp, b_l_products⟩
  have O_l_bitwise : DfX l.prog w K mg base 8 "_law_bitwise" f_l_bitwise _ ["_law_a", "_law_b"] (SpD ⟨K, w, (fun n => match n with | 0 => f_width | 1 => f_unsigned | 2 => f_extend | 3 => f_signed | 4 => f_in_range | 5 => f_add | 6 => f_sub | 7 => f_mul | 8 => f_quotient | 9 => f_div_s | 10 => f_div_u | 11 => f_rem_s | 12 => f_rem_u | 13 => f_bit_and | 14 => f_bit_or | 15 => f_bit_xor | 16 => f_shift_count | 17 => f_shl | 18 => f_shr_s | 19 => f_shr_u | 20 => f_rotl | 21 => f_rotr | 22 => f_eq | 23 => f_ne | 24 => f_lt_s | 25 => f_gt_s | 26 => f_le_s | 27 => f_ge_s | 28 => f_lt_u | 29 => f_gt_u | 30 => f_le_u | 31 => f_ge_u | 32 => f_eqz | 33 => f_clz | 34 => f_ctz | 35 => f_popcnt | 36 => f_extend8_s | 37 => f_extend16_s | 38 => f_extend32_s | 39 => f_extend_u | 40 => f_signature_of | 41 => f_check_operands | 42 => f_calculate | 43 => f_l_is_integer | 44 => f_l_cell | 45 => f_l_signed | 46 => f_l_value | 47 => f_l_high | 48 => f_l_low | 49 => f_l_join | 50 => f_l_sums | 51 => f_l_products | 52 => f_l_bitwise | 53 => f_l_orders | 54 => f_l_counted | 55 => f_l_divided | 1000 => c_HostError | 1001 => c_Trap | 1002 => c_UnknownInstruction | 1003 => c_BadValues | 2001 => fi_Trap | 2002 => fi_UnknownInstruction | _ => 0)⟩ m_l_bitwise) := ⟨ok_l_bitwise (ad := (fun n => match n with | 0 => f_width | 1 => f_unsigned | 2 => f_extend | 3 => f_signed | 4 => f_in_range | 5 => f_add | 6 => f_sub | 7 => f_mul | 8 => f_quotient | 9 => f_div_s | 10 => f_div_u | 11 => f_rem_s | 12 => f_rem_u | 13 => f_bit_and | 14 => f_bit_or | 15 => f_bit_xor | 16 => f_shift_count | 17 => f_shl | 18 => f_shr_s | 19 => f_shr_u | 20 => f_rotl | 21 => f_rotr | 22 => f_eq | 23 => f_ne | 24 => f_lt_s | 25 => f_gt_s | 26 => f_le_s | 27 => f_ge_s | 28 => f_lt_u | 29 => f_gt_u | 30 => f_le_u | 31 => f_ge_u | 32 => f_eqz | 33 => f_clz | 34 => f_ctz | 35 => f_popcnt | 36 => f_extend8_s | 37 => f_extend16_s | 38 => f_extend32_s | 39 => f_extend_u | 40 => f_signature_of | 41 => f_check_operands | 42 => f_calculate | 43 => f_l_is_integer | 44 => f_l_cell | 45 => f_l_signed | 46 => f_l_value | 47 => f_l_high | 48 => f_l_low | 49 => f_l_join | 50 => f_l_sums | 51 => f_l_products | 52 => f_l_bitwise | 53 => f_l_orders | 54 => f_l_counted | 55 => f_l_divided | 1000 => c_HostError | 1001 => c_Trap | 1002 => c_UnknownInstruction | 1003 => c_BadValues | 2001 => fi_Trap | 2002 => fi_UnknownInstruction | _ => 0)) F_l_bitwise T O_calculate O_l_high O_l_low O_l_join, PySem.W.mg_of X G a_l_bitwise, F_l_bitwise.kp, b_l_bitwise⟩
  have O_l_orders : DfX l.prog w K mg base 8 "_law_orders" f_l_orders _ ["_law_a", "_law_b"] (SpD ⟨K, w, (fun n => match n with | 0 => f_width | 1 => f_unsigned | 2 => f_extend | 3 => f_signed | 4 => f_in_range | 5 => f_add | 6 => f_sub | 7 => f_mul | 8 => f_quotient | 9 => f_div_s | 10 => f_div_u | 11 => f_rem_s | 12 => f_rem_u | 13 => f_bit_and | 14 => f_bit_or | 15 => f_bit_xor | 16 => f_shift_count | 17 => f_shl | 18 => f_shr_s | 19 => f_shr_u | 20 => f_rotl | 21 => f_rotr | 22 => f_eq | 23 => f_ne | 24 => f_lt_s | 25 => f_gt_s | 26 => f_le_s | 27 => f_ge_s | 28 => f_lt_u | 29 => f_gt_u | 30 => f_le_u | 31 => f_ge_u | 32 => f_eqz | 33 => f_clz | 34 => f_ctz | 35 => f_popcnt | 36 => f_extend8_s | 37 => f_extend16_s | 38 => f_extend32_s | 39 => f_extend_u | 40 => f_signature_of | 41 => f_check_operands | 42 => f_calculate | 43 => f_l_is_integer | 44 => f_l_cell | 45 => f_l_signed | 46 => f_l_value | 47 => f_l_high | 48 => f_l_low | 49 => f_l_join | 50 => f_l_sums | 51 => f_l_products | 52 => f_l_bitwise | 53 => f_l_orders | 54 => f_l_counted | 55 => f_l_divided | 1000 => c_HostError | 1001 => c_Trap | 1002 => c_UnknownInstruction | 1003 => c_BadValues | 2001 => fi_Trap | 2002 => fi_UnknownInstruction | _ => 0)⟩ m_l_orders) := ⟨ok_l_orders (ad := (fun n => match n with | 0 => f_width | 1 => f_unsigned | 2 => f_extend | 3 => f_signed | 4 => f_in_range | 5 => f_add | 6 => f_sub | 7 => f_mul | 8 => f_quotient | 9 => f_div_s | 10 => f_div_u | 11 => f_rem_s | 12 => f_rem_u | 13 => f_bit_and | 14 => f_bit_or | 15 => f_bit_xor | 16 => f_shift_count | 17 => f_shl | 18 => f_shr_s | 19 => f_shr_u | 20 => f_rotl | 21 => f_rotr | 22 => f_eq | 23 => f_ne | 24 => f_lt_s | 25 => f_gt_s | 26 => f_le_s | 27 => f_ge_s | 28 => f_lt_u | 29 => f_gt_u | 30 => f_le_u | 31 => f_ge_u | 32 => f_eqz | 33 => f_clz | 34 => f_ctz | 35 => f_popcnt | 36 => f_extend8_s | 37 => f_extend16_s | 38 => f_extend32_s | 39 => f_extend_u | 40 => f_signature_of | 41 => f_check_operands | 42 => f_calculate | 43 => f_l_is_integer | 44 => f_l_cell | 45 => f_l_signed | 46 => f_l_value | 47 => f_l_high | 48 => f_l_low | 49 => f_l_join | 50 => f_l_sums | 51 => f_l_products | 52 => f_l_bitwise | 53 => f_l_orders | 54 => f_l_counted | 55 => f_l_divided | 1000 => c_HostError | 1001 => c_Trap | 1002 => c_UnknownInstruction | 1003 => c_BadValues | 2001 => fi_Trap | 2002 => fi_UnknownInstruction | _ => 0)) F_l_orders T O_calculate O_l_high O_l_low, PySem.W.mg_of X G a_l_orders, F_l_orders.kp, b_l_orders⟩
  have O_l_counted : DfX l.prog w K mg base 8 "_law_counted" f_l_counted _ ["_law_a"] (SpD ⟨K, w, (fun n => match n with | 0 => f_width | 1 => f_unsigned | 2 => f_extend | 3 => f_signed | 4 => f_in_range | 5 => f_add | 6 => f_sub | 7 => f_mul | 8 => f_quotient | 9 => f_div_s | 10 => f_div_u | 11 => f_rem_s | 12 => f_rem_u | 13 => f_bit_and | 14 => f_bit_or | 15 => f_bit_xor | 16 => f_shift_count | 17 => f_shl | 18 => f_shr_s | 19 => f_shr_u | 20 => f_rotl | 21 => f_rotr | 22 => f_eq | 23 => f_ne | 24 => f_lt_s | 25 => f_gt_s | 26 => f_le_s | 27 => f_ge_s | 28 => f_lt_u | 29 => f_gt_u | 30 => f_le_u | 31 => f_ge_u | 32 => f_eqz | 33 => f_clz | 34 => f_ctz | 35 => f_popcnt | 36 => f_extend8_s | 37 => f_extend16_s | 38 => f_extend32_s | 39 => f_extend_u | 40 => f_signature_of | 41 => f_check_operands | 42 => f_calculate | 43 => f_l_is_integer | 44 => f_l_cell | 45 => f_l_signed | 46 => f_l_value | 47 => f_l_high | 48 => f_l_low | 49 => f_l_join | 50 => f_l_sums | 51 => f_l_products | 52 => f_l_bitwise | 53 => f_l_orders | 54 => f_l_counted | 55 => f_l_divided | 1000 => c_HostError | 1001 => c_Trap | 1002 => c_UnknownInstruction | 1003 => c_BadValues | 2001 => fi_Trap | 2002 => fi_UnknownInstruction | _ => 0)⟩ m_l_counted) := ⟨ok_l_counted (ad := (fun n => match n with | 0 => f_width | 1 => f_unsigned | 2 => f_extend | 3 => f_signed | 4 => f_in_range | 5 => f_add | 6 => f_sub | 7 => f_mul | 8 => f_quotient | 9 => f_div_s | 10 => f_div_u | 11 => f_rem_s | 12 => f_rem_u | 13 => f_bit_and | 14 => f_bit_or | 15 => f_bit_xor | 16 => f_shift_count | 17 => f_shl | 18 => f_shr_s | 19 => f_shr_u | 20 => f_rotl | 21 => f_rotr | 22 => f_eq | 23 => f_ne | 24 => f_lt_s | 25 => f_gt_s | 26 => f_le_s | 27 => f_ge_s | 28 => f_lt_u | 29 => f_gt_u | 30 => f_le_u | 31 => f_ge_u | 32 => f_eqz | 33 => f_clz | 34 => f_ctz | 35 => f_popcnt | 36 => f_extend8_s | 37 => f_extend16_s | 38 => f_extend32_s | 39 => f_extend_u | 40 => f_signature_of | 41 => f_check_operands | 42 => f_calculate | 43 => f_l_is_integer | 44 => f_l_cell | 45 => f_l_signed | 46 => f_l_value | 47 => f_l_high | 48 => f_l_low | 49 => f_l_join | 50 => f_l_sums | 51 => f_l_products | 52 => f_l_bitwise | 53 => f_l_orders | 54 => f_l_counted | 55 => f_l_divided | 1000 => c_HostError | 1001 => c_Trap | 1002 => c_UnknownInstruction | 1003 => c_BadValues | 2001 => fi_Trap | 2002 => fi_UnknownInstruction | _ => 0)) F_l_counted T O_calculate O_l_high O_l_low, PySem.W.mg_of X G a_l_counted, F_l_counted.kp, b_l_counted⟩
  have O_l_divided : DfX l.prog w K mg base 7 "_law_divided" f_l_divided _ ["_law_a", "_law_b", "_law_mark"] (SpD ⟨K, w, (fun n => match n with | 0 => f_width | 1 => f_unsigned | 2 => f_extend | 3 => f_signed | 4 => f_in_range | 5 => f_add | 6 => f_sub | 7 => f_mul | 8 => f_quotient | 9 => f_div_s | 10 => f_div_u | 11 => f_rem_s | 12 => f_rem_u | 13 => f_bit_and | 14 => f_bit_or | 15 => f_bit_xor | 16 => f_shift_count | 17 => f_shl | 18 => f_shr_s | 19 => f_shr_u | 20 => f_rotl | 21 => f_rotr | 22 => f_eq | 23 => f_ne | 24 => f_lt_s | 25 => f_gt_s | 26 => f_le_s | 27 => f_ge_s | 28 => f_lt_u | 29 => f_gt_u | 30 => f_le_u | 31 => f_ge_u | 32 => f_eqz | 33 => f_clz | 34 => f_ctz | 35 => f_popcnt | 36 => f_extend8_s | 37 => f_extend16_s | 38 => f_extend32_s | 39 => f_extend_u | 40 => f_signature_of | 41 => f_check_operands | 42 => f_calculate | 43 => f_l_is_integer | 44 => f_l_cell | 45 => f_l_signed | 46 => f_l_value | 47 => f_l_high | 48 => f_l_low | 49 => f_l_join | 50 => f_l_sums | 51 => f_l_products | 52 => f_l_bitwise | 53 => f_l_orders | 54 => f_l_counted | 55 => f_l_divided | 1000 => c_HostError | 1001 => c_Trap | 1002 => c_UnknownInstruction | 1003 => c_BadValues | 2001 => fi_Trap | 2002 => fi_UnknownInstruction | _ => 0)⟩ m_l_divided) := ⟨ok_l_divided (ad := (fun n => match n with | 0 => f_width | 1 => f_unsigned | 2 => f_extend | 3 => f_signed | 4 => f_in_range | 5 => f_add | 6 => f_sub | 7 => f_mul | 8 => f_quotient | 9 => f_div_s | 10 => f_div_u | 11 => f_rem_s | 12 => f_rem_u | 13 => f_bit_and | 14 => f_bit_or | 15 => f_bit_xor | 16 => f_shift_count | 17 => f_shl | 18 => f_shr_s | 19 => f_shr_u | 20 => f_rotl | 21 => f_rotr | 22 => f_eq | 23 => f_ne | 24 => f_lt_s | 25 => f_gt_s | 26 => f_le_s | 27 => f_ge_s | 28 => f_lt_u | 29 => f_gt_u | 30 => f_le_u | 31 => f_ge_u | 32 => f_eqz | 33 => f_clz | 34 => f_ctz | 35 => f_popcnt | 36 => f_extend8_s | 37 => f_extend16_s | 38 => f_extend32_s | 39 => f_extend_u | 40 => f_signature_of | 41 => f_check_operands | 42 => f_calculate | 43 => f_l_is_integer | 44 => f_l_cell | 45 => f_l_signed | 46 => f_l_value | 47 => f_l_high | 48 => f_l_low | 49 => f_l_join | 50 => f_l_sums | 51 => f_l_products | 52 => f_l_bitwise | 53 => f_l_orders | 54 => f_l_counted | 55 => f_l_divided | 1000 => c_HostError | 1001 => c_Trap | 1002 => c_UnknownInstruction | 1003 => c_BadValues | 2001 => fi_Trap | 2002 => fi_UnknownInstruction | _ => 0)) F_l_divided T O_calculate, PySem.W.mg_of X G a_l_divided, F_l_divided.kp, b_l_divided⟩
  exact Lk09.ok_law (ad := (fun n => match n with | 0 => f_width | 1 => f_unsigned | 2 => f_extend | 3 => f_signed | 4 => f_in_range | 5 => f_add | 6 => f_sub | 7 => f_mul | 8 => f_quotient | 9 => f_div_s | 10 => f_div_u | 11 => f_rem_s | 12 => f_rem_u | 13 => f_bit_and | 14 => f_bit_or | 15 => f_bit_xor | 16 => f_shift_count | 17 => f_shl | 18 => f_shr_s | 19 => f_shr_u | 20 => f_rotl | 21 => f_rotr | 22 => f_eq | 23 => f_ne | 24 => f_lt_s | 25 => f_gt_s | 26 => f_le_s | 27 => f_ge_s | 28 => f_lt_u | 29 => f_gt_u | 30 => f_le_u | 31 => f_ge_u | 32 => f_eqz | 33 => f_clz | 34 => f_ctz | 35 => f_popcnt | 36 => f_extend8_s | 37 => f_extend16_s | 38 => f_extend32_s | 39 => f_extend_u | 40 => f_signature_of | 41 => f_check_operands | 42 => f_calculate | 43 => f_l_is_integer | 44 => f_l_cell | 45 => f_l_signed | 46 => f_l_value | 47 => f_l_high | 48 => f_l_low | 49 => f_l_join | 50 => f_l_sums | 51 => f_l_products | 52 => f_l_bitwise | 53 => f_l_orders | 54 => f_l_counted | 55 => f_l_divided | 1000 => c_HostError | 1001 => c_Trap | 1002 => c_UnknownInstruction | 1003 => c_BadValues | 2001 => fi_Trap | 2002 => fi_UnknownInstruction | _ => 0)) F_law T O_l_is_integer O_l_cell O_l_signed O_l_value O_l_high O_l_low O_l_join O_l_sums O_l_products O_l_bitwise O_l_orders O_l_counted O_l_divided
end Lk09
set_option Elab.async false
set_option linter.all false
set_option maxRecDepth 100000
set_option maxHeartbeats 4000000

open PySem PySem.W PyProof.Rows
local macro_rules | `(tactic| walk_at "keysLit3") => `(tactic| first | exact True.intro | (refine ⟨⟨_, rfl⟩, rfl, ?_, ?_⟩; (first | exact ⟨_, rfl⟩ | exact rfl); walk_at "keysLit3"))
set_option maxRecDepth 100000 in
set_option maxHeartbeats 0 in
theorem PySem.Challenge.cw_wasmhost_k09_whole_long_words_in_halves_holds : PySem.Challenge.rw_wasmhost_k09_whole_long_words_in_halves.Holds := by
  w_on; o_law; k_head; (case hw => w_witness2)
  k_fill
  refine L2.walk_ofK (l := PySem.Challenge.rw_wasmhost_k09_whole_long_words_in_halves) (n := 63) (k := 9) (x := "_law_script") (CX := L2.CX0) (sp := Dm.sp_law) rfl (by decide) rfl ⟨rfl, by decide, by decide⟩ (fun w h Y => PySem.W.kIn_of Y) ?F (fun K H a ns hl _ hS => Dm.law_in hl hS) (fun _ _ _ _ h => h)
  case F =>
    intro w mg fa h KX G hmg
    refine' Lk09.all_mk KX G hmg ?a_width ?l_width ?c_width ?k_width ?a_unsigned ?l_unsigned ?c_unsigned ?k_unsigned ?a_extend ?l_extend ?c_extend ?k_extend ?a_signed ?l_signed ?c_signed ?k_signed ?a_in_range ?l_in_range ?c_in_range ?k_in_range ?a_add ?l_add ?c_add ?k_add ?a_sub ?l_sub ?c_sub ?k_sub ?a_mul ?l_mul ?c_mul ?k_mul ?a_quotient ?l_quotient ?c_quotient ?k_quotient ?a_div_s ?l_div_s ?c_div_s ?k_div_s ?a_div_u ?l_div_u ?c_div_u ?k_div_u ?a_rem_s ?l_rem_s ?c_rem_s ?k_rem_s ?a_rem_u ?l_rem_u ?c_rem_u ?k_rem_u ?a_bit_and ?l_bit_and ?c_bit_and ?k_bit_and ?a_bit_or ?l_bit_or ?c_bit_or ?k_bit_or ?a_bit_xor ?l_bit_xor ?c_bit_xor ?k_bit_xor ?a_shift_count ?l_shift_count ?c_shift_count ?k_shift_count ?a_shl ?l_shl ?c_shl ?k_shl ?a_shr_s ?l_shr_s ?c_shr_s ?k_shr_s ?a_shr_u ?l_shr_u ?c_shr_u ?k_shr_u ?a_rotl ?l_rotl ?c_rotl ?k_rotl ?a_rotr ?l_rotr ?c_rotr ?k_rotr ?a_eq ?l_eq ?c_eq ?k_eq ?a_ne ?l_ne ?c_ne ?k_ne ?a_lt_s ?l_lt_s ?c_lt_s ?k_lt_s ?a_gt_s ?l_gt_s ?c_gt_s ?k_gt_s ?a_le_s ?l_le_s ?c_le_s ?k_le_s ?a_ge_s ?l_ge_s ?c_ge_s ?k_ge_s ?a_lt_u ?l_lt_u ?c_lt_u ?k_lt_u ?a_gt_u ?l_gt_u ?c_gt_u ?k_gt_u ?a_le_u ?l_le_u ?c_le_u ?k_le_u ?a_ge_u ?l_ge_u ?c_ge_u ?k_ge_u ?a_eqz ?l_eqz ?c_eqz ?k_eqz ?a_clz ?l_clz ?c_clz ?k_clz ?a_ctz ?l_ctz ?c_ctz ?k_ctz ?a_popcnt ?l_popcnt ?c_popcnt ?k_popcnt ?a_extend8_s ?l_extend8_s ?c_extend8_s ?k_extend8_s ?a_extend16_s ?l_extend16_s ?c_extend16_s ?k_extend16_s ?a_extend32_s ?l_extend32_s ?c_extend32_s ?k_extend32_s ?a_extend_u ?l_extend_u ?c_extend_u ?k_extend_u ?a_signature_of ?l_signature_of ?c_signature_of ?k_signature_of ?a_check_operands ?l_check_operands ?c_check_operands ?k_check_operands ?a_calculate ?l_calculate ?c_calculate ?k_calculate ?a_l_is_integer ?l_l_is_integer ?c_l_is_integer ?k_l_is_integer ?a_l_cell ?l_l_cell ?c_l_cell ?k_l_cell ?a_l_signed ?l_l_signed ?c_l_signed ?k_l_signed ?a_l_value ?l_l_value ?c_l_value ?k_l_value ?a_l_high ?l_l_high ?c_l_high ?k_l_high ?a_l_low ?l_l_low ?c_l_low ?k_l_low ?a_l_join ?l_l_join ?c_l_join ?k_l_join ?a_l_sums ?l_l_sums ?c_l_sums ?k_l_sums ?a_l_products ?l_l_products ?c_l_products ?k_l_products ?a_l_bitwise ?l_l_bitwise ?c_l_bitwise ?k_l_bitwise ?a_l_orders ?l_l_orders ?c_l_orders ?k_l_orders ?a_l_counted ?l_l_counted ?c_l_counted ?k_l_counted ?a_l_divided ?l_l_divided ?c_l_divided ?k_l_divided ?a_law ?l_law ?c_law ?k_law ?z_abs ?z_bool ?z_int ?z_isinstance ?z_len ?z_max ?z_min ?z_range ?z_sum ?z_zip ?m_ARITHMETIC ?l_ARITHMETIC ?en_ARITHMETIC ?lo_ARITHMETIC ?m_COMPARISONS ?l_COMPARISONS ?en_COMPARISONS ?lo_COMPARISONS ?m_CONVERSIONS ?l_CONVERSIONS ?en_CONVERSIONS ?lo_CONVERSIONS ?m_COUNTS ?l_COUNTS ?en_COUNTS ?lo_COUNTS ?v_INSTRUCTIONS ?kd_INSTRUCTIONS ?m_WIDTHS ?l_WIDTHS ?en_WIDTHS ?lo_WIDTHS ?cg_HostError ?cg_Trap ?kc_Trap ?eb_Trap ?ty_Trap ?ga_Trap ?gg_Trap ?xL_Trap ?sa_Trap ?nf0_Trap ?ii_Trap ?ti_Trap ?hd_Trap ?cg_UnknownInstruction ?kc_UnknownInstruction ?eb_UnknownInstruction ?ty_UnknownInstruction ?ga_UnknownInstruction ?gg_UnknownInstruction ?xL_UnknownInstruction ?sa_UnknownInstruction ?nf0_UnknownInstruction ?ii_UnknownInstruction ?ti_UnknownInstruction ?hd_UnknownInstruction ?cg_BadValues ?kc_BadValues ?eb_BadValues ?ty_BadValues ?xq_BadValues ?l_init_Trap ?c_init_Trap ?k_init_Trap ?l_init_UnknownInstruction ?c_init_UnknownInstruction ?k_init_UnknownInstruction
    (case a_width => k_is)
    (case l_width => k_is)
    (case c_width => k_is)
    (case k_width => k_is)
    (case a_unsigned => k_is)
    (case l_unsigned => k_is)
    (case c_unsigned => k_is)
    (case k_unsigned => k_is)
    (case a_extend => k_is)
    (case l_extend => k_is)
    (case c_extend => k_is)
    (case k_extend => k_is)
    (case a_signed => k_is)
    (case l_signed => k_is)
    (case c_signed => k_is)
    (case k_signed => k_is)
    (case a_in_range => k_is)
    (case l_in_range => k_is)
    (case c_in_range => k_is)
    (case k_in_range => k_is)
    (case a_add => k_is)
    (case l_add => k_is)
    (case c_add => k_is)
    (case k_add => k_is)
    (case a_sub => k_is)
    (case l_sub => k_is)
    (case c_sub => k_is)
    (case k_sub => k_is)
    (case a_mul => k_is)
    (case l_mul => k_is)
    (case c_mul => k_is)
    (case k_mul => k_is)
    (case a_quotient => k_is)
    (case l_quotient => k_is)
    (case c_quotient => k_is)
    (case k_quotient => k_is)
    (case a_div_s => k_is)
    (case l_div_s => k_is)
    (case c_div_s => k_is)
    (case k_div_s => k_is)
    (case a_div_u => k_is)
    (case l_div_u => k_is)
    (case c_div_u => k_is)
    (case k_div_u => k_is)
    (case a_rem_s => k_is)
    (case l_rem_s => k_is)
    (case c_rem_s => k_is)
    (case k_rem_s => k_is)
    (case a_rem_u => k_is)
    (case l_rem_u => k_is)
    (case c_rem_u => k_is)
    (case k_rem_u => k_is)
    (case a_bit_and => k_is)
    (case l_bit_and => k_is)
    (case c_bit_and => k_is)
    (case k_bit_and => k_is)
    (case a_bit_or => k_is)
    (case l_bit_or => k_is)
    (case c_bit_or => k_is)
    (case k_bit_or => k_is)
    (case a_bit_xor => k_is)
    (case l_bit_xor => k_is)
    (case c_bit_xor => k_is)
    (case k_bit_xor => k_is)
    (case a_shift_count => k_is)
    (case l_shift_count => k_is)
    (case c_shift_count => k_is)
    (case k_shift_count => k_is)
    (case a_shl => k_is)
    (case l_shl => k_is)
    (case c_shl => k_is)
    (case k_shl => k_is)
    (case a_shr_s => k_is)
    (case l_shr_s => k_is)
    (case c_shr_s => k_is)
    (case k_shr_s => k_is)
    (case a_shr_u => k_is)
    (case l_shr_u => k_is)
    (case c_shr_u => k_is)
    (case k_shr_u => k_is)
    (case a_rotl => k_is)
    (case l_rotl => k_is)
    (case c_rotl => k_is)
    (case k_rotl => k_is)
    (case a_rotr => k_is)
    (case l_rotr => k_is)
    (case c_rotr => k_is)
    (case k_rotr => k_is)
    (case a_eq => k_is)
    (case l_eq => k_is)
    (case c_eq => k_is)
    (case k_eq => k_is)
    (case a_ne => k_is)
    (case l_ne => k_is)
    (case c_ne => k_is)
    (case k_ne => k_is)
    (case a_lt_s => k_is)
    (case l_lt_s => k_is)
    (case c_lt_s => k_is)
    (case k_lt_s => k_is)
    (case a_gt_s => k_is)
    (case l_gt_s => k_is)
    (case c_gt_s => k_is)
    (case k_gt_s => k_is)
    (case a_le_s => k_is)
    (case l_le_s => k_is)
    (case c_le_s => k_is)
    (case k_le_s => k_is)
    (case a_ge_s => k_is)
    (case l_ge_s => k_is)
    (case c_ge_s => k_is)
    (case k_ge_s => k_is)
    (case a_lt_u => k_is)
    (case l_lt_u => k_is)
    (case c_lt_u => k_is)
    (case k_lt_u => k_is)
    (case a_gt_u => k_is)
    (case l_gt_u => k_is)
    (case c_gt_u => k_is)
    (case k_gt_u => k_is)
    (case a_le_u => k_is)
    (case l_le_u => k_is)
    (case c_le_u => k_is)
    (case k_le_u => k_is)
    (case a_ge_u => k_is)
    (case l_ge_u => k_is)
    (case c_ge_u => k_is)
    (case k_ge_u => k_is)
    (case a_eqz => k_is)
    (case l_eqz => k_is)
    (case c_eqz => k_is)
    (case k_eqz => k_is)
    (case a_clz => k_is)
    (case l_clz => k_is)
    (case c_clz => k_is)
    (case k_clz => k_is)
    (case a_ctz => k_is)
    (case l_ctz => k_is)
    (case c_ctz => k_is)
    (case k_ctz => k_is)
    (case a_popcnt => k_is)
    (case l_popcnt => k_is)
    (case c_popcnt => k_is)
    (case k_popcnt => k_is)
    (case a_extend8_s => k_is)
    (case l_extend8_s => k_is)
    (case c_extend8_s => k_is)
    (case k_extend8_s => k_is)
    (case a_extend16_s => k_is)
    (case l_extend16_s => k_is)
    (case c_extend16_s => k_is)
    (case k_extend16_s => k_is)
    (case a_extend32_s => k_is)
    (case l_extend32_s => k_is)
    (case c_extend32_s => k_is)
    (case k_extend32_s => k_is)
    (case a_extend_u => k_is)
    (case l_extend_u => k_is)
    (case c_extend_u => k_is)
    (case k_extend_u => k_is)
    (case a_signature_of => k_is)
    (case l_signature_of => k_is)
    (case c_signature_of => k_is)
    (case k_signature_of => k_is)
    (case a_check_operands => k_is)
    (case l_check_operands => k_is)
    (case c_check_operands => k_is)
    (case k_check_operands => k_is)
    (case a_calculate => k_is)
    (case l_calculate => k_is)
    (case c_calculate => k_is)
    (case k_calculate => k_is)
    (case a_l_is_integer => k_is)
    (case l_l_is_integer => k_is)
    (case c_l_is_integer => k_is)
    (case k_l_is_integer => k_is)
    (case a_l_cell => k_is)
    (case l_l_cell => k_is)
    (case c_l_cell => k_is)
    (case k_l_cell => k_is)
    (case a_l_signed => k_is)
    (case l_l_signed => k_is)
    (case c_l_signed => k_is)
    (case k_l_signed => k_is)
    (case a_l_value => k_is)
    (case l_l_value => k_is)
    (case c_l_value => k_is)
    (case k_l_value => k_is)
    (case a_l_high => k_is)
    (case l_l_high => k_is)
    (case c_l_high => k_is)
    (case k_l_high => k_is)
    (case a_l_low => k_is)
    (case l_l_low => k_is)
    (case c_l_low => k_is)
    (case k_l_low => k_is)
    (case a_l_join => k_is)
    (case l_l_join => k_is)
    (case c_l_join => k_is)
    (case k_l_join => k_is)
    (case a_l_sums => k_is)
    (case l_l_sums => k_is)
    (case c_l_sums => k_is)
    (case k_l_sums => k_is)
    (case a_l_products => k_is)
    (case l_l_products => k_is)
    (case c_l_products => k_is)
    (case k_l_products => k_is)
    (case a_l_bitwise => k_is)
    (case l_l_bitwise => k_is)
    (case c_l_bitwise => k_is)
    (case k_l_bitwise => k_is)
    (case a_l_orders => k_is)
    (case l_l_orders => k_is)
    (case c_l_orders => k_is)
    (case k_l_orders => k_is)
    (case a_l_counted => k_is)
    (case l_l_counted => k_is)
    (case c_l_counted => k_is)
    (case k_l_counted => k_is)
    (case a_l_divided => k_is)
    (case l_l_divided => k_is)
    (case c_l_divided => k_is)
    (case k_l_divided => k_is)
    (case a_law => k_is)
    (case l_law => k_is)
    (case c_law => k_is)
    (case k_law => k_is)
    (case z_abs => k_is)
    (case z_bool => k_is)
    (case z_int => k_is)
    (case z_isinstance => k_is)
    (case z_len => k_is)
    (case z_max => k_is)
    (case z_min => k_is)
    (case z_range => k_is)
    (case z_sum => k_is)
    (case z_zip => k_is)
    (case m_ARITHMETIC => k_is)
    (case l_ARITHMETIC => k_is)
    (case en_ARITHMETIC => walk_at "keysLit3")
    (case lo_ARITHMETIC => first | rfl | decide)
    (case m_COMPARISONS => k_is)
    (case l_COMPARISONS => k_is)
    (case en_COMPARISONS => walk_at "keysLit3")
    (case lo_COMPARISONS => first | rfl | decide)
    (case m_CONVERSIONS => k_is)
    (case l_CONVERSIONS => k_is)
    (case en_CONVERSIONS => walk_at "keysLit3")
    (case lo_CONVERSIONS => first | rfl | decide)
    (case m_COUNTS => k_is)
    (case l_COUNTS => k_is)
    (case en_COUNTS => walk_at "keysLit3")
    (case lo_COUNTS => first | rfl | decide)
    (case v_INSTRUCTIONS => k_is)
    (case kd_INSTRUCTIONS => first | rfl | decide +kernel)
    (case m_WIDTHS => k_is)
    (case l_WIDTHS => k_is)
    (case en_WIDTHS => walk_at "keysLit3")
    (case lo_WIDTHS => first | rfl | decide)
    (case cg_HostError => k_is)
    (case cg_Trap => k_is)
    (case kc_Trap => k_is)
    (case eb_Trap => k_is)
    (case ty_Trap => k_is)
    (case ga_Trap => k_is)
    (case gg_Trap => k_is)
    (case xL_Trap => k_is)
    (case sa_Trap => k_is)
    (case nf0_Trap => k_is)
    (case ii_Trap => k_is)
    (case ti_Trap => k_is)
    (case hd_Trap => k_is)
    (case cg_UnknownInstruction => k_is)
    (case kc_UnknownInstruction => k_is)
    (case eb_UnknownInstruction => k_is)
    (case ty_UnknownInstruction => k_is)
    (case ga_UnknownInstruction => k_is)
    (case gg_UnknownInstruction => k_is)
    (case xL_UnknownInstruction => k_is)
    (case sa_UnknownInstruction => k_is)
    (case nf0_UnknownInstruction => k_is)
    (case ii_UnknownInstruction => k_is)
    (case ti_UnknownInstruction => k_is)
    (case hd_UnknownInstruction => k_is)
    (case cg_BadValues => k_is)
    (case kc_BadValues => k_is)
    (case eb_BadValues => k_is)
    (case ty_BadValues => k_is)
    (case xq_BadValues => k_exc)
    (case l_init_Trap => k_is)
    (case c_init_Trap => k_is)
    (case k_init_Trap => k_is)
    (case l_init_UnknownInstruction => k_is)
    (case c_init_UnknownInstruction => k_is)
    (case k_init_UnknownInstruction => k_is)
