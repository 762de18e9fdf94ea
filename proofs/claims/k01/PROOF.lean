import PyProof.Rows.All
import Wide.All
import OpenK.AllK
import Wide.FinOn
import HandS.ForMost
import HandS.Evl
import HandS.IsInst
import HandS.Flow
import HandS.More
import PySem.Challenge.RW_wasmhost_k01_unsigned_and_signed
set_option Elab.async false
set_option linter.all false
set_option maxRecDepth 100000
set_option maxHeartbeats 4000000
/-! My own layer over HandS.Evl: statements relative to a ground heap, tests as propositions. -/
namespace Wm
open PySem L2 Evl
/-- a call's promise of a new tuple -/
def SpU (sp : Sp) (vs : List V) (H : Hp) (xs : List V) : Prop := ∀ H1, Ex H H1 → ∀ Q : VK, (∀ p H2, H1 p = none → Ex H1 H2 → H2 p = some (.tup xs) → Q (.ref p) H2) → ∀ E : XK, sp vs H1 Q E
/-- a test, told by a proposition -/
def EtP (t : TT) (σ : L2.St) (H : Hp) (p : Prop) : Prop := ∃ b : Bool, (b = true ↔ p) ∧ EvT t σ H b
section
variable {K : PySem.W.Frag} {σ : L2.St} {H H0 H1 H' : Hp} {ta tb tc te tx : TE} {t u : TT} {x y z v : V} {r : R2} {D : Ends} {tu tw tz : TS} {p q : Prop} {g : TG}
theorem EtP.mono (e : Ex H H') (h : EtP t σ H p) : EtP t σ H' p := by
  obtain ⟨b, hb, h⟩ := h
  exact ⟨b, hb, h.mono e⟩
theorem EtP.to (h : EtP t σ H p) (e : p ↔ q) : EtP t σ H q := by
  obtain ⟨b, hb, h⟩ := h
  exact ⟨b, hb.trans e, h⟩
theorem ep_val {b : Bool} (h : Ev te σ H (.bl b)) : EtP (tB te) σ H (b = true) := ⟨b, Iff.rfl, et_B h⟩
theorem ep_test {b : Bool} (h : Ev te σ H (.bl b)) : EtP (tTest te) σ H (b = true) := ⟨b, Iff.rfl, et_test h⟩
theorem ep_dec {p : Prop} [Decidable p] (h : Ev te σ H (.bl (decide p))) : EtP (tTest te) σ H p := ⟨decide p, decide_eq_true_iff, et_test h⟩
theorem ep_ndec {p : Prop} [Decidable p] (h : Ev te σ H (.bl (!decide p))) : EtP (tTest te) σ H (¬ p) := ⟨!decide p, by simp, et_test h⟩
theorem ep_and (h1 : EtP t σ H p) (h2 : p → EtP u σ H q) : EtP (tAnd t u) σ H (p ∧ q) := by
  obtain ⟨a, ha, h1⟩ := h1
  by_cases hp : p
  · obtain ⟨b, hb, h2⟩ := h2 hp
    exact ⟨a && b, by rw [Bool.and_eq_true, ha, hb], et_and h1 fun _ => h2⟩
  · have e : a = false := by
      cases a with
      | true => exact absurd (ha.mp rfl) hp
      | false => rfl
    subst e
    refine ⟨false && false, ⟨fun z => (by cases z), fun z => absurd z.1 hp⟩, et_and h1 fun z => (by cases z)⟩
theorem ep_or (h1 : EtP t σ H p) (h2 : ¬ p → EtP u σ H q) : EtP (tOr t u) σ H (p ∨ q) := by
  obtain ⟨a, ha, h1⟩ := h1
  by_cases hp : p
  · have e : a = true := ha.mpr hp
    subst e
    refine ⟨true || false, ⟨fun _ => Or.inl hp, fun _ => rfl⟩, et_or h1 fun z => (by cases z)⟩
  · obtain ⟨b, hb, h2⟩ := h2 hp
    exact ⟨a || b, by rw [Bool.or_eq_true, ha, hb], et_or h1 fun _ => h2⟩
theorem ep_not (h1 : EtP t σ H p) : EtP (tNot t) σ H (¬ p) := by
  obtain ⟨a, ha, h1⟩ := h1
  refine ⟨!a, ?_, et_not h1⟩
  rw [← ha]
  cases a <;> simp
/-! values -/
theorem rv_eqI {i j : Int} : RV rEq (.int i) (.int j) H (.bl (decide (i = j))) := fun H1 _ Q q => ⟨rfl, by
  have e : decide (V.int i = V.int j) = decide (i = j) := by
    by_cases h : i = j
    · subst h; simp
    · rw [decide_eq_false h, decide_eq_false fun z => h (V.int.inj z)]
  rw [e]
  exact q H1 (Ex.refl H1)⟩
theorem rv_neI {i j : Int} : RV rNe (.int i) (.int j) H (.bl (!decide (i = j))) := fun H1 _ Q q => ⟨rfl, by
  have e : decide (V.int i = V.int j) = decide (i = j) := by
    by_cases h : i = j
    · subst h; simp
    · rw [decide_eq_false h, decide_eq_false fun z => h (V.int.inj z)]
  rw [e]
  exact q H1 (Ex.refl H1)⟩
theorem rv_eqS {i j : Str} : RV rEq (.str i) (.str j) H (.bl (decide (i = j))) := fun H1 _ Q q => ⟨rfl, by
  have e : decide (V.str i = V.str j) = decide (i = j) := by
    by_cases h : i = j
    · subst h; simp
    · rw [decide_eq_false h, decide_eq_false fun z => h (V.str.inj z)]
  rw [e]
  exact q H1 (Ex.refl H1)⟩
theorem rv_neS {i j : Str} : RV rNe (.str i) (.str j) H (.bl (!decide (i = j))) := fun H1 _ Q q => ⟨rfl, by
  have e : decide (V.str i = V.str j) = decide (i = j) := by
    by_cases h : i = j
    · subst h; simp
    · rw [decide_eq_false h, decide_eq_false fun z => h (V.str.inj z)]
  rw [e]
  exact q H1 (Ex.refl H1)⟩
theorem rv_eqB {i j : Bool} : RV rEq (.bl i) (.bl j) H (.bl (decide (i = j))) := fun H1 _ Q q => ⟨rfl, by
  have e : decide (V.bl i = V.bl j) = decide (i = j) := by
    by_cases h : i = j
    · subst h; simp
    · rw [decide_eq_false h, decide_eq_false fun z => h (V.bl.inj z)]
  rw [e]
  exact q H1 (Ex.refl H1)⟩
def rAddS2 : R2 := fun x y H Q => ∃ i j, x = .str i ∧ y = .str j ∧ i.length + j.length ≤ sizeLine ∧ Q (.str (i ++ j)) H
theorem rv_addS {i j : Str} (h : i.length + j.length ≤ 100000) : RV rAddS2 (.str i) (.str j) H (.str (i ++ j)) := fun H1 _ Q q => ⟨i, j, rfl, rfl, sz_of h, q H1 (Ex.refl H1)⟩
/-- if-expressions, chains -/
theorem ev_ifP {a b : V} (h : EtP t σ H p) (h1 : p → Ev ta σ H a) (h2 : ¬ p → Ev tb σ H b) [Decidable p] : Ev (tIf t ta tb) σ H (if p then a else b) := by
  obtain ⟨c, hc, h⟩ := h
  refine ev_if h (fun e => ?_) (fun e => ?_)
  · rw [if_pos (hc.mp e)]
    exact h1 (hc.mp e)
  · have hp : ¬ p := fun z => by
      have := hc.mpr z
      rw [e] at this
      cases this
    rw [if_neg hp]
    exact h2 hp
theorem ev_chain {r r' : R2} {a b : Bool} (ha : Ev ta σ H x) (hb : Ev tb σ H y) (hr : RV r x y H (.bl a)) (hc : a = true → Ev tc σ H z) (hr' : a = true → RV r' y z H (.bl b)) : Ev (tChain r r' ta tb tc) σ H (.bl (a && b)) := fun H1 e Q q =>
  ha H1 e _ fun H2 e2 => hb H2 (e.trans e2) _ fun H3 e3 => hr H3 ((e.trans e2).trans e3) _ fun H4 e4 => ⟨a, rfl, by
    cases a with
    | true =>
      rw [if_pos rfl]
      exact hc rfl H4 (((e.trans e2).trans e3).trans e4) _ fun H5 e5 => hr' rfl H5 ((((e.trans e2).trans e3).trans e4).trans e5) Q fun H6 e6 => q H6 ((((e2.trans e3).trans e4).trans e5).trans e6)
    | false =>
      rw [if_neg Bool.false_ne_true]
      exact q H4 ((e2.trans e3).trans e4)⟩
theorem ep_chain {r r' : R2} {p q : Prop} [Decidable p] [Decidable q] (ha : Ev ta σ H x) (hb : Ev tb σ H y) (hr : RV r x y H (.bl (decide p))) (hc : p → Ev tc σ H z) (hr' : p → RV r' y z H (.bl (decide q))) : EtP (tTest (tChain r r' ta tb tc)) σ H (p ∧ q) :=
  ⟨decide p && decide q, by simp, et_test (ev_chain ha hb hr (fun e => hc (of_decide_eq_true e)) (fun e => hr' (of_decide_eq_true e)))⟩
/-! built-ins -/
def rInt1 : List V → Hp → VK → Prop := fun xs H Q => (∃ i, xs = [.int i] ∧ Q (.int i) H) ∨ ∃ k, xs = [.bl k] ∧ Q (.int (if k then 1 else 0)) H
theorem ev_int {i : Int} (h : Ev ta σ H (.int i)) : Ev (tCB rInt1 (tCons ta tNil)) σ H (.int i) := fun H1 e Q q => h H1 e _ fun H2 e2 => Or.inl ⟨i, rfl, q H2 e2⟩
theorem ev_intB {b : Bool} (h : Ev ta σ H (.bl b)) : Ev (tCB rInt1 (tCons ta tNil)) σ H (.int (if b then 1 else 0)) := fun H1 e Q q => h H1 e _ fun H2 e2 => Or.inr ⟨b, rfl, q H2 e2⟩
def rAbs1 : List V → Hp → VK → Prop := fun xs H Q => ∃ i, xs = [.int i] ∧ Q (.int (if i < 0 then -i else i)) H
theorem ev_abs {i : Int} (h : Ev ta σ H (.int i)) : Ev (tCB rAbs1 (tCons ta tNil)) σ H (.int (if i < 0 then -i else i)) := fun H1 e Q q => h H1 e _ fun H2 e2 => ⟨i, rfl, q H2 e2⟩
def rMin2 : List V → Hp → VK → Prop := fun xs H Q => ∃ i j, xs = [.int i, .int j] ∧ Q (.int (if j < i then j else i)) H
theorem ev_min2 {i j : Int} (ha : Ev ta σ H (.int i)) (hb : Ev tb σ H (.int j)) : Ev (tCB rMin2 (tCons ta (tCons tb tNil))) σ H (.int (if j < i then j else i)) := fun H1 e Q q =>
  ha H1 e _ fun H2 e2 => hb H2 (e.trans e2) _ fun H3 e3 => ⟨i, j, rfl, q H3 (e2.trans e3)⟩
def rLenS1 : List V → Hp → VK → Prop := fun xs H Q => ∃ z, xs = [.str z] ∧ z.length ≤ sizeLine ∧ Q (.int z.length) H
theorem ev_lenS {z : Str} (h : Ev ta σ H (.str z)) (hz : z.length ≤ 100000) : Ev (tCB rLenS1 (tCons ta tNil)) σ H (.int z.length) := fun H1 e Q q => h H1 e _ fun H2 e2 => ⟨z, rfl, sz_of hz, q H2 e2⟩
theorem ev_lenT {p : Addr} {xs : List V} (ha : Ev ta σ H (.ref p)) (h : SqT K H p xs) : Ev (tCB (rLenS K) (tCons ta tNil)) σ H (.int (xs.length : Int)) := fun H1 e Q q =>
  ha H1 e _ fun H2 e2 => ⟨p, xs, rfl, Or.inr (ex_t (e.trans e2) h), q H2 e2⟩
/-- isinstance of a value and a class -/
theorem ev_isi {c : V} {ty u : Value} {b : Bool} (ha : Ev ta σ H x) (hb : Ev tb σ H c) (k : ClsV c u) (ht : ∀ H1, Ex H H1 → TyX K H1 x ty) (hk : PySem.W.kitOne K ty u = some b) : Ev (tCB (rIsi K) (tCons ta (tCons tb tNil))) σ H (.bl b) := fun H1 e Q q =>
  ha H1 e _ fun H2 e2 => hb H2 (e.trans e2) _ fun H3 e3 => ⟨x, c, ty, u, b, rfl, k, ht H3 ((e.trans e2).trans e3), hk, q H3 (e2.trans e3)⟩
theorem ty_int {i : Int} : ∀ H1, Ex H H1 → TyX K H1 (.int i) (.type "int") := fun _ _ => .base (.int i)
theorem ty_bl {b : Bool} : ∀ H1, Ex H H1 → TyX K H1 (.bl b) (.type "bool") := fun _ _ => .base (.bl b)
theorem ty_str {i : Str} : ∀ H1, Ex H H1 → TyX K H1 (.str i) (.type "str") := fun _ _ => .base (.str i)
theorem ty_non : ∀ H1, Ex H H1 → TyX K H1 .non (.type "NoneType") := fun _ _ => .base .non
/-! new tuples and lists from calls -/
theorem eu_call {sp : Sp} {dvs vs xs : List V} {E : XK} {ta : TA} (h : EvA ta σ H vs) (hs : SpU sp (vs ++ dvs) H xs) : EvU (tCall sp dvs E ta) σ H xs := fun H1 e Q q =>
  h H1 e _ fun H2 e2 => hs H2 (e.trans e2) Q (fun p H3 hp e3 h3 => q p H3 (fresh_back e2 hp) (e2.trans e3) h3) E
/-! ### statements relative to a ground heap H0 -/
theorem r_asg {i : Nat} (e : Ex H0 H1) (h : Ev te σ H0 v) (k : ∀ H2, Ex H0 H2 → tz D (σ.set i (some v)) H2) : tSeq (tAsg te (gName i)) tz D σ H1 := h H1 e _ fun H2 e2 => k H2 (e.trans e2)
/-- a new list, a new tuple: the ground moves on -/
theorem r_asgL {i : Nat} {xs : List V} (e : Ex H0 H1) (h : EvL te σ H0 xs) (k : ∀ p H2, H0 p = none → Ex H0 H2 → H2 p = some (.lst xs) → tz D (σ.set i (some (.ref p))) H2) : tSeq (tAsg te (gName i)) tz D σ H1 :=
  h H1 e _ fun p H2 hp e2 h2 => k p H2 (fresh_back e hp) (e.trans e2) h2
theorem r_asgU {i : Nat} {xs : List V} (e : Ex H0 H1) (h : EvU te σ H0 xs) (k : ∀ p H2, H0 p = none → Ex H0 H2 → H2 p = some (.tup xs) → tz D (σ.set i (some (.ref p))) H2) : tSeq (tAsg te (gName i)) tz D σ H1 :=
  h H1 e _ fun p H2 hp e2 h2 => k p H2 (fresh_back e hp) (e.trans e2) h2
theorem r_aug {i : Nat} {f : Int → Int → Int} {a b : Int} (e : Ex H0 H1) (hx : σ[i]? = some (some (.int a))) (h : Ev te σ H0 (.int b)) (k : ∀ H2, Ex H0 H2 → tz D (σ.set i (some (.int (f a b)))) H2) : tSeq (tAug i te (ipI f)) tz D σ H1 :=
  ⟨.int a, hx, h H1 e _ fun H2 e2 => ⟨a, b, rfl, rfl, k H2 (e.trans e2)⟩⟩
theorem r_if (e : Ex H0 H1) (h : EtP t σ H0 p) (h1 : p → ∀ H2, Ex H0 H2 → tu { D with nx := tz D } σ H2) (h2 : ¬ p → ∀ H2, Ex H0 H2 → tw { D with nx := tz D } σ H2) : tSeq (tIfS t tu tw) tz D σ H1 := by
  obtain ⟨b, hb, h⟩ := h
  refine h H1 e _ fun H2 e2 => ?_
  cases b with
  | true => exact h1 (hb.mp rfl) H2 (e.trans e2)
  | false => exact h2 (fun z => nomatch hb.mpr z) H2 (e.trans e2)
/-- an if both of whose ways go on (its term: pss_cut): J tells the slots and the heap behind it -/
theorem r_ifJ (e : Ex H0 H1) (h : EtP t σ H0 p) (J : L2.St → Hp → Prop) (h1 : p → ∀ H2, Ex H0 H2 → tu { D with nx := J } σ H2) (h2 : ¬ p → ∀ H2, Ex H0 H2 → tw { D with nx := J } σ H2) (hd : ∀ σ' H', J σ' H' → tz D σ' H') : tCut (tIfS t tu tw) tz D σ H1 := by
  refine ⟨J, ?_, hd⟩
  obtain ⟨b, hb, h⟩ := h
  refine h H1 e _ fun H2 e2 => ?_
  cases b with
  | true => exact h1 (hb.mp rfl) H2 (e.trans e2)
  | false => exact h2 (fun z => nomatch hb.mpr z) H2 (e.trans e2)
theorem r_ret (e : Ex H0 H1) (h : Ev te σ H0 v) (k : ∀ H2, Ex H0 H2 → D.rt v H2) : tSeq (tRet te) tz D σ H1 := h H1 e _ fun H2 e2 => k H2 (e.trans e2)
theorem r_retL {xs : List V} (e : Ex H0 H1) (h : EvL te σ H0 xs) (k : ∀ p H2, H0 p = none → Ex H0 H2 → H2 p = some (.lst xs) → D.rt (.ref p) H2) : tSeq (tRet te) tz D σ H1 := h H1 e _ fun p H2 hp e2 h2 => k p H2 (fresh_back e hp) (e.trans e2) h2
theorem r_retU {xs : List V} (e : Ex H0 H1) (h : EvU te σ H0 xs) (k : ∀ p H2, H0 p = none → Ex H0 H2 → H2 p = some (.tup xs) → D.rt (.ref p) H2) : tSeq (tRet te) tz D σ H1 := h H1 e _ fun p H2 hp e2 h2 => k p H2 (fresh_back e hp) (e.trans e2) h2
theorem r_drop (e : Ex H0 H1) (h : Ev te σ H0 v) (k : ∀ H2, Ex H0 H2 → tz D σ H2) : tSeq (tDrop te) tz D σ H1 := h H1 e _ fun H2 e2 => k H2 (e.trans e2)
theorem r_next (h : D.nx σ H) : tNext D σ H := h
theorem r_seq {t1 : TS} (h : t1 { D with nx := tz D } σ H) : tSeq t1 tz D σ H := h
/-- xs.append(e): l is not in the ground G, it holds xs in the state -/
theorem r_app {l : Addr} {xs : List V} (e : Ex H0 H1) (hl : H1 l = some (.lst xs)) (ha : Ev ta σ H0 (.ref l)) (h : Ev te σ H0 v) (hz : xs.length < 100000) (k : ∀ H2, Ex H0 H2 → Ex H1 H2 → tz D σ (upd H2 l (.lst (xs ++ [v])))) :
    tSeq (tDrop (tBM K "list" rAppend ta (tCons te tNil))) tz D σ H1 := ha H1 e _ fun H2 e1 =>
  ⟨Or.inl ⟨rfl, xs, sq_of (e1 l _ hl)⟩, h H2 (e.trans e1) _ fun H3 e2 => ⟨l, xs, v, rfl, rfl, e2 l _ (e1 l _ hl), sz_lt hz, k H3 ((e.trans e1).trans e2) (e1.trans e2)⟩⟩
theorem r_appU {l : Addr} {xs ys : List V} (e : Ex H0 H1) (hl : H1 l = some (.lst xs)) (ha : Ev ta σ H0 (.ref l)) (h : EvU te σ H0 ys) (hz : xs.length < 100000)
    (k : ∀ p H2, H1 p = none → Ex H1 H2 → H2 p = some (.tup ys) → tz D σ (upd H2 l (.lst (xs ++ [.ref p])))) : tSeq (tDrop (tBM K "list" rAppend ta (tCons te tNil))) tz D σ H1 := ha H1 e _ fun H2 e1 =>
  ⟨Or.inl ⟨rfl, xs, sq_of (e1 l _ hl)⟩, h H2 (e.trans e1) _ fun p H3 hp e2 h2 => ⟨l, xs, .ref p, rfl, rfl, e2 l _ (e1 l _ hl), sz_lt hz, k p H3 (fresh_back e1 hp) (e1.trans e2) h2⟩⟩
/-- for over range(n), by a word of the slots; the heap only grows -/
theorem r_forR {ta : TA} {j : Nat} {n : Int} (e : Ex H0 H1) (h : EvA ta σ H0 [.int n]) (hn : -100000 ≤ n ∧ n ≤ 100000) (I : Nat → L2.St → Prop) (h0 : I 0 σ)
    (hs : ∀ (i : Nat) σ' H', (i : Int) < n → I i σ' → Ex H0 H' → tu { D with nx := fun σ2 H2 => I (i + 1) σ2 ∧ Ex H0 H2, ct := fun σ2 H2 => I (i + 1) σ2 ∧ Ex H0 H2, bk := tz D } (σ'.set j (some (.int (i : Int)))) H')
    (hd : ∀ σ' H', I n.toNat σ' → Ex H0 H' → tz D σ' H') : tSeq (tFor (iRng1 ta) (gName j) tu) tz D σ H1 :=
  h H1 e _ fun H2 e2 => ⟨n, rfl, by omega, by omega, for_range (lo := 0) (n := n.toNat) (D := { D with nx := tz D }) (fun i σ' H' => I i σ' ∧ Ex H0 H') ⟨h0, e.trans e2⟩ (fun i σ' H' hi p => by
    have e0 : (0 : Int) + (i : Int) = (i : Int) := Int.zero_add _
    show tu { D with nx := fun σ2 H2 => I (i + 1) σ2 ∧ Ex H0 H2, ct := fun σ2 H2 => I (i + 1) σ2 ∧ Ex H0 H2, bk := tz D } (σ'.set j (some (.int ((0 : Int) + (i : Int))))) H'
    rw [e0]
    exact hs i σ' H' (by omega) p.1 p.2) fun σ' H' p => hd σ' H' p.1 p.2⟩
/-- .. by a word of the slots and the heap -/
theorem r_forRH {ta : TA} {j : Nat} {n : Int} (e : Ex H0 H1) (h : EvA ta σ H0 [.int n]) (hn : -100000 ≤ n ∧ n ≤ 100000) (I : Nat → L2.St → Hp → Prop) (h0 : ∀ H2, Ex H1 H2 → I 0 σ H2)
    (hs : ∀ (i : Nat) σ' H', (i : Int) < n → I i σ' H' → tu { D with nx := I (i + 1), ct := I (i + 1), bk := tz D } (σ'.set j (some (.int (i : Int)))) H')
    (hd : ∀ σ' H', I n.toNat σ' H' → tz D σ' H') : tSeq (tFor (iRng1 ta) (gName j) tu) tz D σ H1 :=
  h H1 e _ fun H2 e2 => ⟨n, rfl, by omega, by omega, for_range (lo := 0) (n := n.toNat) (D := { D with nx := tz D }) I (h0 H2 e2) (fun i σ' H' hi p => by
    have e0 : (0 : Int) + (i : Int) = (i : Int) := Int.zero_add _
    show tu { D with nx := I (i + 1), ct := I (i + 1), bk := tz D } (σ'.set j (some (.int ((0 : Int) + (i : Int))))) H'
    rw [e0]
    exact hs i σ' H' (by omega) p) hd⟩
/-- for over a list that stands -/
theorem r_forL {a : Addr} {xs : List V} {tl : TE} {j : Nat} (e : Ex H0 H1) (h : Ev tl σ H0 (.ref a)) (hx : SqL K H0 a xs) (I : Nat → L2.St → Prop) (h0 : I 0 σ)
    (hs : ∀ (i : Nat) x σ' H', xs[i]? = some x → I i σ' → Ex H0 H' → tu { D with nx := fun σ2 H2 => I (i + 1) σ2 ∧ Ex H0 H2, ct := fun σ2 H2 => I (i + 1) σ2 ∧ Ex H0 H2, bk := tz D } (σ'.set j (some x)) H')
    (hd : ∀ σ' H', I xs.length σ' → Ex H0 H' → tz D σ' H') : tSeq (tFor (iList K tl) (gName j) tu) tz D σ H1 :=
  h H1 e _ fun H2 e2 => ⟨a, rfl, ⟨xs, ex_l (e.trans e2) hx⟩, for_list (D := { D with nx := tz D }) (fun i σ' H' => I i σ' ∧ Ex H0 H') ⟨h0, e.trans e2⟩ (fun i σ' H' _ p => ex_l p.2 hx) (fun i x σ' H' hi p => hs i x σ' H' hi p.1 p.2) fun σ' H' p => hd σ' H' p.1 p.2⟩
/-- .. over a new list -/
theorem r_forNL {xs : List V} {tl : TE} {j : Nat} (e : Ex H0 H1) (h : EvL tl σ H0 xs) (I : Nat → L2.St → Prop) (h0 : I 0 σ)
    (hs : ∀ G, Ex H0 G → ∀ (i : Nat) x σ' H', xs[i]? = some x → I i σ' → Ex G H' → tu { D with nx := fun σ2 H2 => I (i + 1) σ2 ∧ Ex G H2, ct := fun σ2 H2 => I (i + 1) σ2 ∧ Ex G H2, bk := tz D } (σ'.set j (some x)) H')
    (hd : ∀ G, Ex H0 G → ∀ σ' H', I xs.length σ' → Ex G H' → tz D σ' H') : tSeq (tFor (iList K tl) (gName j) tu) tz D σ H1 :=
  h H1 e _ fun a H2 ha e2 h2 => ⟨a, rfl, ⟨xs, sq_of h2⟩, for_list (D := { D with nx := tz D }) (fun i σ' H' => I i σ' ∧ Ex H2 H') ⟨h0, Ex.refl _⟩ (fun i σ' H' _ p => ex_l p.2 (sq_of h2)) (fun i x σ' H' hi p => hs H2 (e.trans e2) i x σ' H' hi p.1 p.2) fun σ' H' p => hd H2 (e.trans e2) σ' H' p.1 p.2⟩
/-- an int of a list of ints -/
theorem rv_ixI {p : Addr} {ns : List Int} {i : Int} (h : SqL K H p (ns.map V.int)) (h0 : 0 ≤ i) (h1 : i < (ns.length : Int)) : RV (rIxL K) (.ref p) (.int i) H (.int (ns.getD i.toNat 0)) := by
  refine rv_ixL h ?_
  obtain ⟨j, rfl⟩ : ∃ j : Nat, i = (j : Int) := ⟨i.toNat, by omega⟩
  have hj : j < ns.length := by omega
  refine atI_nat ?_
  rw [List.getElem?_map, List.getElem?_eq_getElem hj]
  show some (V.int ns[j]) = some (V.int (ns.getD ((j : Int).toNat) 0))
  rw [Int.toNat_natCast, List.getD_eq_getElem?_getD, List.getElem?_eq_getElem hj]
  rfl
theorem cutV_to (xs : List V) (k : Nat) : cutV xs none (some (k : Int)) = xs.take k := by
  unfold cutV
  rw [HT.sIx_none, HT.sIx_nat, List.drop_zero, Nat.sub_zero]
  by_cases h : k ≤ xs.length
  · rw [Nat.min_eq_left h]
  · rw [Nat.min_eq_right (by omega), List.take_of_length_le (Nat.le_refl _), List.take_of_length_le (by omega)]
theorem cutV_all {xs : List V} (k : Nat) (h : xs.length ≤ k) : cutV xs none (some (k : Int)) = xs := by
  rw [cutV_to, List.take_of_length_le h]
theorem cutV_from (xs : List V) (k : Nat) : cutV xs (some (k : Int)) none = xs.drop k := by
  unfold cutV
  rw [HT.sIx_none, HT.sIx_nat]
  by_cases h : k ≤ xs.length
  · rw [Nat.min_eq_left h, List.take_of_length_le (by rw [List.length_drop]; omega)]
  · rw [Nat.min_eq_right (by omega), List.take_of_length_le (by rw [List.length_drop]; omega), List.drop_of_length_le (Nat.le_refl _), List.drop_of_length_le (by omega)]
theorem rv_kd {w : World} {p : Addr} {z : Str} {v : V} (h : KDct K w p z v) : RV (rIxD K w) (.ref p) (.str z) H v := fun H1 _ Q q => ⟨p, z, v, rfl, rfl, h, q H1 (Ex.refl H1)⟩
theorem rv_isN {x : V} : RV (fun x y H Q => y = .non ∧ Q (.bl (decide (x = .non))) H) x .non H (.bl (decide (x = .non))) := fun H1 _ Q q => ⟨rfl, q H1 (Ex.refl H1)⟩
theorem rv_notN {x : V} : RV (fun x y H Q => y = .non ∧ Q (.bl (!decide (x = .non))) H) x .non H (.bl (!decide (x = .non))) := fun H1 _ Q q => ⟨rfl, q H1 (Ex.refl H1)⟩
theorem ev_slS {tl th : TO} {zs : Str} {lo hi : Option Int} (h : Ev te σ H (.str zs)) (h1 : EvO tl σ H lo) (h2 : EvO th σ H hi) (hz : zs.length ≤ 100000) : Ev (tSl rSlS te tl th) σ H (.str (cutS zs lo hi)) := fun H1 e _ q =>
  h H1 e _ fun H2 e2 => h1 H2 (e.trans e2) _ fun H3 e3 => h2 H3 ((e.trans e2).trans e3) _ fun H4 e4 => ⟨zs, rfl, sz_of hz, q H4 ((e2.trans e3).trans e4)⟩
/-- [f(x) for x in xs] over a list of ints, each an int -/
theorem given_all {n : Nat} {v : Nat → V} : given n (fun _ => true) v = (List.range n).map v := by
  unfold given
  rw [List.filter_eq_self.mpr (fun _ _ => rfl)]
theorem et_yes {σ : L2.St} {H : Hp} : EvT tYes σ H true := fun H1 _ _ q => q H1 (Ex.refl H1)
theorem map_range {α : Type} {ns : List α} {d : α} {f : α → V} : (List.range ns.length).map (fun i => f (ns.getD i d)) = ns.map f := by
  apply List.ext_getElem?
  intro i
  rw [List.getElem?_map, List.getElem?_map]
  by_cases h : i < ns.length
  · rw [List.getElem?_range h, List.getElem?_eq_getElem h]
    show some (f (ns.getD i d)) = some (f ns[i])
    rw [List.getD_eq_getElem?_getD, List.getElem?_eq_getElem h]
    rfl
  · rw [List.getElem?_eq_none (by rw [List.length_range]; omega), List.getElem?_eq_none (by omega)]
    rfl
theorem el_lcI {a : Addr} {ns : List Int} {tl : TE} {j : Nat} {vs : List Nat} (f : Int → V) (h : Ev tl σ H (.ref a)) (hx : SqL K H a (ns.map V.int)) (hz : ns.length ≤ 40000) (hw : ∀ x, wipe ((wipe σ vs).set j (some x)) vs = wipe σ vs)
    (he : ∀ (n : Int) H1, Ex H H1 → n ∈ ns → Ev te ((wipe σ vs).set j (some (.int n))) H1 (f n)) : EvL (tLc (iList K tl) (gName j) tYes te vs) σ H (ns.map f) := by
  have q := el_lcL (K := K) (t := tYes) (te := te) (j := j) (vs := vs) (fun _ => true) (fun i => f (ns.getD i 0)) h hx (by rw [List.length_map]; exact hz) hw (fun _ _ _ _ _ => et_yes) (fun i x H1 e hi _ => by
    rw [List.getElem?_map] at hi
    cases g : ns[i]? with
    | none => rw [g] at hi; cases hi
    | some n =>
      rw [g] at hi
      obtain rfl : V.int n = x := Option.some.inj hi
      have d : ns.getD i 0 = n := by rw [List.getD_eq_getElem?_getD, g]; rfl
      rw [d]
      exact he n H1 e (List.mem_of_getElem? g))
  rw [given_all, List.length_map, map_range] at q
  exact q
/-- .. over a new list -/
theorem el_lcNI {ns : List Int} {tl : TE} {j : Nat} {vs : List Nat} (f : Int → V) (h : EvL tl σ H (ns.map V.int)) (hz : ns.length ≤ 40000) (hw : ∀ x, wipe ((wipe σ vs).set j (some x)) vs = wipe σ vs)
    (he : ∀ (n : Int) H1, Ex H H1 → n ∈ ns → Ev te ((wipe σ vs).set j (some (.int n))) H1 (f n)) : EvL (tLc (iList K tl) (gName j) tYes te vs) σ H (ns.map f) := by
  have q := el_lcNL (K := K) (t := tYes) (te := te) (j := j) (vs := vs) (fun _ => true) (fun i => f (ns.getD i 0)) h (by rw [List.length_map]; exact hz) hw (fun _ _ _ _ _ => et_yes) (fun i x H1 e hi _ => by
    rw [List.getElem?_map] at hi
    cases g : ns[i]? with
    | none => rw [g] at hi; cases hi
    | some n =>
      rw [g] at hi
      obtain rfl : V.int n = x := Option.some.inj hi
      have d : ns.getD i 0 = n := by rw [List.getD_eq_getElem?_getD, g]; rfl
      rw [d]
      exact he n H1 e (List.mem_of_getElem? g))
  rw [given_all, List.length_map, map_range] at q
  exact q
theorem el_to {xs ys : List V} (h : EvL te σ H xs) (e : xs = ys) : EvL te σ H ys := by rw [← e]; exact h
theorem r_retI {i j : Int} (e : Ex H0 H1) (h : Ev te σ H0 (.int i)) (hi : i = j) (k : ∀ H2, Ex H0 H2 → D.rt (.int j) H2) : tSeq (tRet te) tz D σ H1 := by
  subst hi
  exact h H1 e _ fun H2 e2 => k H2 (e.trans e2)
theorem r_retB {i j : Bool} (e : Ex H0 H1) (h : Ev te σ H0 (.bl i)) (hi : i = j) (k : ∀ H2, Ex H0 H2 → D.rt (.bl j) H2) : tSeq (tRet te) tz D σ H1 := by
  subst hi
  exact h H1 e _ fun H2 e2 => k H2 (e.trans e2)
theorem r_retS {i j : Str} (e : Ex H0 H1) (h : Ev te σ H0 (.str i)) (hi : i = j) (k : ∀ H2, Ex H0 H2 → D.rt (.str j) H2) : tSeq (tRet te) tz D σ H1 := by
  subst hi
  exact h H1 e _ fun H2 e2 => k H2 (e.trans e2)
/-- while; the heap only grows; W: by a measure and the slots -/
theorem r_while (e : Ex H0 H1) (W : Nat → L2.St → Prop) (m0 : Nat) (h0 : W m0 σ)
    (hs : ∀ m σ' H', W m σ' → Ex H0 H' → ∃ p, EtP t σ' H0 p ∧ (p → ∀ H2, Ex H0 H2 → tu { D with nx := fun σ2 H3 => (∃ m', m' < m ∧ W m' σ2) ∧ Ex H0 H3, ct := fun σ2 H3 => (∃ m', m' < m ∧ W m' σ2) ∧ Ex H0 H3, bk := tz D } σ' H2) ∧ (¬ p → ∀ H2, Ex H0 H2 → tz D σ' H2)) :
    tSeq (tWhile t tu) tz D σ H1 := by
  refine q_while (fun m σ' H' => W m σ' ∧ Ex H0 H') m0 ⟨h0, e⟩ ?_
  rintro m σ' H' ⟨hw, e'⟩
  obtain ⟨p, ⟨b, hb, ht⟩, h1, h2⟩ := hs m σ' H' hw e'
  refine ⟨b, ht.mono e', fun eb H2 e2 => ?_, fun eb H2 e2 => ?_⟩
  · exact ⟨_, fun σ2 H3 ⟨⟨m', l, w⟩, e3⟩ => ⟨m', l, w, e3⟩, h1 (hb.mp eb) H2 (e'.trans e2)⟩
  · refine h2 (fun z => ?_) H2 (e'.trans e2)
    have := hb.mpr z
    rw [eb] at this
    cases this
end

/-! ### a def that stands, and its calls -/
structure Df (P : Program) (w : World) (K : PySem.W.Frag) (mg : Str → Option Value) (base : Heap) (k : Nat) (x : Str) (a : Addr) (fd : FuncData) (ps : List Str) (sp : Sp) : Prop where
  ok : FnOk P w K mg base CX0 k a fd ps sp
  g : mg x = some (.ref a)
  kp : PySem.W.keepIn K (.ref a) = true
  b : Binds K fd ps []
section
variable {X : Cx} {k : Nat} {x : Str} {a : Addr} {fd : FuncData} {ps : List Str} {sp : Sp} {e : Expr} {es : List Expr} {t : TA} {p pos : Pos}
theorem cl (O : Df X.prog X.w X.K X.mg X.base k x a fd ps sp) (hr : Room k X.A) (hg : Gl X x) (ha : PA X (e :: es) t) (hdb : (x == ("__debug__" : Str)) = false := by decide)
    (he : starEach (e :: es) X.env = (false, eval e X.env) :: starEach es X.env := by rfl) (hpl : (backTo pos (starEach es X.env)).any (·.1) = false := by rfl) : PE X (.Call (.Name x p) (e :: es) [] pos) (tCall sp [] E0 t) :=
  pe_call O.ok hr hg O.g O.kp O.b .nil pass0 ha hdb he hpl
theorem cl0 (O : Df X.prog X.w X.K X.mg X.base k x a fd ps sp) (hr : Room k X.A) (hg : Gl X x) (hdb : (x == ("__debug__" : Str)) = false := by decide) : PE X (.Call (.Name x p) [] [] pos) (tCall sp [] E0 tNil) :=
  pe_call0 O.ok hr hg O.g O.kp O.b .nil pass0 hdb
end
end Wm
set_option Elab.async false
set_option linter.all false
set_option maxRecDepth 100000
set_option maxHeartbeats 4000000

open PySem
local macro_rules | `(tactic| walk_at "sd") => `(tactic| (refine Or.inr ⟨?_, ?_⟩ <;> (first | omega | decide)))
local macro_rules | `(tactic| walk_at "sd") => `(tactic| (refine Or.inl ⟨?_, ?_⟩ <;> (first | omega | decide)))
local macro_rules | `(tactic| walk_at "sd") => `(tactic| (refine ⟨?_, ?_⟩ <;> (first | omega | decide | assumption)))
local macro_rules | `(tactic| walk_at "sd") => `(tactic| (refine ⟨?_, ?_, ?_⟩ <;> (first | omega | decide | assumption)))
local macro_rules | `(tactic| walk_at "sd") => `(tactic| decide)
local macro_rules | `(tactic| walk_at "sd") => `(tactic| (dsimp only; omega))
local macro_rules | `(tactic| walk_at "sd") => `(tactic| omega)
local macro_rules | `(tactic| walk_at "sd") => `(tactic| assumption)
local macro_rules | `(tactic| walk_at "sd") => `(tactic| exact True.intro)
local macro_rules | `(tactic| walk_at "keysLit") => `(tactic| (refine ⟨⟨_, _, rfl, rfl⟩, ?_⟩; walk_at "keysLit"))
local macro_rules | `(tactic| walk_at "keysLit") => `(tactic| exact True.intro)
namespace Lk01
open PySem L2 Evl Wm
def topS (i : Nat) : Stmt := PySem.Challenge.pw_wasmhost_k01_unsigned_and_signed.main.body.getD i (.Pass ⟨0, 0, 0, 0⟩)
abbrev s_width : Stmt := topS 2
abbrev s_unsigned : Stmt := topS 3
abbrev s_extend : Stmt := topS 4
abbrev s_signed : Stmt := topS 5
abbrev s_l_is_integer : Stmt := topS 7
abbrev s_l_fits : Stmt := topS 8
abbrev s_l_one : Stmt := topS 9
abbrev s_law : Stmt := topS 10
structure Tx (w : World) (K : PySem.W.Frag) (mg : Str → Option Value) : Prop where
  b_bool : mg "bool" = none
  b_int : mg "int" = none
  b_isinstance : mg "isinstance" = none
  b_len : mg "len" = none
  b_range : mg "range" = none
  g_WIDTHS : ∃ a, mg "WIDTHS" = some (.ref a) ∧ KDct K w a "i32" (.int 32) ∧ KDct K w a "i64" (.int 64)

section
variable {P : Program} {w : World} {K : PySem.W.Frag} {mg : Str → Option Value} {base : Heap}
/-! width -/
def m_width (kind : Str) : Int := if kind = "i32" then 32 else 64
theorem wd_cases {kind : Str} (h : kind = "i32" ∨ kind = "i64") : (m_width kind = 32 ∨ m_width kind = 64) := by
  rcases h with rfl | rfl
  · exact Or.inl (if_pos rfl)
  · exact Or.inr (if_neg (by decide +kernel))
theorem sc_width : FnScope ["kind"] ["kind"] (defScope s_width) := ⟨rfl, rfl, rfl, by decide +kernel, rfl, by decide +kernel, by decide +kernel⟩
def sp_width (K : PySem.W.Frag) : Sp := fun vs H Q _ => ∃ (kind : Str), vs = [.str kind] ∧ (kind = "i32" ∨ kind = "i64") ∧ ∀ H1, Ex H H1 → Q (.int (m_width kind)) H1
theorem sv_width {K : PySem.W.Frag} {H : Hp} {kind : Str} (h : (kind = "i32" ∨ kind = "i64")) : SpV (sp_width K) [.str kind] H (.int (m_width kind)) := fun H1 e Q q _ => ⟨kind, rfl, h, q⟩
theorem ok_width {f : Addr} {fd : FuncData} (F : Fun K "width" "width" s_width f fd) (T : Tx w K mg)  : FnOk P w K mg base CX0 1 f fd ["kind"] (sp_width K) := by
  refine F.ok sc_width (fun vs H Q E h => ?_) (fun cdv A outer s G vs Q E hr h => ?_)
  · obtain ⟨kind, rfl, _⟩ := h
    rfl
  · obtain ⟨kind, rfl, h, q⟩ := h
    obtain ⟨a_WIDTHS, g_WIDTHS, k_WIDTHS⟩ := T.g_WIDTHS
    refine ⟨_, (pss_cons (ps_ret (pe_ix ix_kdict (pe_glob (v := .ref _) rfl g_WIDTHS rfl) (pv 0) (fun _ _ => rfl))) pss_nil), ?_⟩
    have e := Ex.refl G
    rcases h with rfl | rfl
    · exact r_ret e (ev_op ev_c (ev_var rfl) (rv_kd k_WIDTHS.1)) fun H e => q H e
    · exact r_ret e (ev_op ev_c (ev_var rfl) (rv_kd k_WIDTHS.2)) fun H e => q H e

/-! unsigned -/
def m_unsigned (kind : Str) (number : Int) : Int :=
  (Builtin.bitAnd number ((1 * 2 ^ ((m_width kind) : Int).toNat) - 1))
theorem sc_unsigned : FnScope ["kind", "number"] ["kind", "number"] (defScope s_unsigned) := ⟨rfl, rfl, rfl, by decide +kernel, rfl, by decide +kernel, by decide +kernel⟩
def sp_unsigned (K : PySem.W.Frag) : Sp := fun vs H Q _ => ∃ (kind : Str) (number : Int), vs = [.str kind, .int number] ∧ (kind = "i32" ∨ kind = "i64") ∧ ∀ H1, Ex H H1 → Q (.int (m_unsigned kind number)) H1
theorem sv_unsigned {K : PySem.W.Frag} {H : Hp} {kind : Str} {number : Int} (h : (kind = "i32" ∨ kind = "i64")) : SpV (sp_unsigned K) [.str kind, .int number] H (.int (m_unsigned kind number)) := fun H1 e Q q _ => ⟨kind, number, rfl, h, q⟩
theorem ok_unsigned {f : Addr} {fd : FuncData} {a_width : Addr} {d_width : FuncData} (F : Fun K "unsigned" "unsigned" s_unsigned f fd) (T : Tx w K mg) (O_width : Df P w K mg base 1 "width" a_width d_width ["kind"] (sp_width K)) : FnOk P w K mg base CX0 2 f fd ["kind", "number"] (sp_unsigned K) := by
  refine F.ok sc_unsigned (fun vs H Q E h => ?_) (fun cdv A outer s G vs Q E hr h => ?_)
  · obtain ⟨kind, number, rfl, _⟩ := h
    rfl
  · obtain ⟨kind, number, rfl, h, q⟩ := h
    refine ⟨_, (pss_cons (ps_ret (pe_op op_and (pv 1) (pe_op op_sub (pe_op op_shl pe_int (cl O_width (hr.mono (by decide)) rfl (pa_cons (pv 0) pa_nil))) pe_int))) pss_nil), ?_⟩
    have e := Ex.refl G
    have hw := wd_cases h
    -- return number & (1 << width(kind)) - 1
    refine r_retI e (ev_op (ev_var rfl) (ev_op (ev_op ev_c (ev_call (ea_cons (ev_var rfl) ea_nil) (sv_width (by walk_at "sd"))) (rv_I (by walk_at "sd"))) ev_c rv_I0) rv_I0) (by show _ = m_unsigned kind number; unfold m_unsigned; rfl) q

/-! extend -/
def m_extend (number : Int) (bits : Int) : Int :=
  if ((1 * 2 ^ ((bits - 1) : Int).toNat) ≤ (Builtin.bitAnd number ((1 * 2 ^ (bits : Int).toNat) - 1))) then
    ((Builtin.bitAnd number ((1 * 2 ^ (bits : Int).toNat) - 1)) - (1 * 2 ^ (bits : Int).toNat))
  else
    (Builtin.bitAnd number ((1 * 2 ^ (bits : Int).toNat) - 1))
theorem sc_extend : FnScope ["number", "bits", "low"] ["number", "bits"] (defScope s_extend) := ⟨rfl, rfl, rfl, by decide +kernel, rfl, by decide +kernel, by decide +kernel⟩
def sp_extend (K : PySem.W.Frag) : Sp := fun vs H Q _ => ∃ (number : Int) (bits : Int), vs = [.int number, .int bits] ∧ (1 ≤ bits ∧ bits ≤ 64) ∧ ∀ H1, Ex H H1 → Q (.int (m_extend number bits)) H1
theorem sv_extend {K : PySem.W.Frag} {H : Hp} {number : Int} {bits : Int} (h : (1 ≤ bits ∧ bits ≤ 64)) : SpV (sp_extend K) [.int number, .int bits] H (.int (m_extend number bits)) := fun H1 e Q q _ => ⟨number, bits, rfl, h, q⟩
theorem ok_extend {f : Addr} {fd : FuncData} (F : Fun K "extend" "extend" s_extend f fd) (T : Tx w K mg)  : FnOk P w K mg base CX0 1 f fd ["number", "bits"] (sp_extend K) := by
  refine F.ok sc_extend (fun vs H Q E h => ?_) (fun cdv A outer s G vs Q E hr h => ?_)
  · obtain ⟨number, bits, rfl, _⟩ := h
    rfl
  · obtain ⟨number, bits, rfl, h, q⟩ := h
    refine ⟨_, (pss_cons (ps_set (i := 2) sc_extend.nd rfl (Or.inl rfl) (pe_op op_and (pv 0) (pe_op op_sub (pe_op op_shl pe_int (pv 1)) pe_int))) (pss_cons (ps_if (pt_cmpR op_ge (pv 2) (pe_op op_shl pe_int (pe_op op_sub (pv 1) pe_int)) (nomark _)) (pss_cons (ps_ret (pe_op op_sub (pv 2) (pe_op op_shl pe_int (pv 1)))) pss_nil) pss_nil) (pss_cons (ps_ret (pv 2)) pss_nil))), ?_⟩
    have e := Ex.refl G
    -- low = number & (1 << bits) - 1
    refine r_asg e (ev_op (ev_var rfl) (ev_op (ev_op ev_c (ev_var rfl) (rv_I (by walk_at "sd"))) ev_c rv_I0) rv_I0) fun H e => ?_
    -- if low >= 1 << bits - 1
    refine r_if e (ep_dec (ev_op (ev_var rfl) (ev_op ev_c (ev_op (ev_var rfl) ev_c rv_I0) (rv_I (by walk_at "sd"))) rv_I0)) (fun hb1 H e => ?_) (fun hb1 H e => ?_)
    · -- return low - (1 << bits)
      refine r_retI e (ev_op (ev_var rfl) (ev_op ev_c (ev_var rfl) (rv_I (by walk_at "sd"))) rv_I0) (by show _ = m_extend number bits; unfold m_extend; rw [if_pos hb1]) q
    refine r_next ?_
    -- return low
    refine r_retI e (ev_var rfl) (by show _ = m_extend number bits; unfold m_extend; rw [if_neg hb1]) q

/-! signed -/
def m_signed (kind : Str) (number : Int) : Int :=
  (m_extend number (m_width kind))
theorem sc_signed : FnScope ["kind", "number"] ["kind", "number"] (defScope s_signed) := ⟨rfl, rfl, rfl, by decide +kernel, rfl, by decide +kernel, by decide +kernel⟩
def sp_signed (K : PySem.W.Frag) : Sp := fun vs H Q _ => ∃ (kind : Str) (number : Int), vs = [.str kind, .int number] ∧ (kind = "i32" ∨ kind = "i64") ∧ ∀ H1, Ex H H1 → Q (.int (m_signed kind number)) H1
theorem sv_signed {K : PySem.W.Frag} {H : Hp} {kind : Str} {number : Int} (h : (kind = "i32" ∨ kind = "i64")) : SpV (sp_signed K) [.str kind, .int number] H (.int (m_signed kind number)) := fun H1 e Q q _ => ⟨kind, number, rfl, h, q⟩
theorem ok_signed {f : Addr} {fd : FuncData} {a_width : Addr} {d_width : FuncData} {a_extend : Addr} {d_extend : FuncData} (F : Fun K "signed" "signed" s_signed f fd) (T : Tx w K mg) (O_width : Df P w K mg base 1 "width" a_width d_width ["kind"] (sp_width K)) (O_extend : Df P w K mg base 1 "extend" a_extend d_extend ["number", "bits"] (sp_extend K)) : FnOk P w K mg base CX0 2 f fd ["kind", "number"] (sp_signed K) := by
  refine F.ok sc_signed (fun vs H Q E h => ?_) (fun cdv A outer s G vs Q E hr h => ?_)
  · obtain ⟨kind, number, rfl, _⟩ := h
    rfl
  · obtain ⟨kind, number, rfl, h, q⟩ := h
    refine ⟨_, (pss_cons (ps_ret (cl O_extend (hr.mono (by decide)) rfl (pa_cons (pv 1) (pa_cons (cl O_width (hr.mono (by decide)) rfl (pa_cons (pv 0) pa_nil)) pa_nil)))) pss_nil), ?_⟩
    have e := Ex.refl G
    have hw := wd_cases h
    have hw1 : 1 ≤ m_width kind ∧ m_width kind ≤ 64 := by omega
    -- return extend(number, width(kind))
    refine r_retI e (ev_call (ea_cons (ev_var rfl) (ea_cons (ev_call (ea_cons (ev_var rfl) ea_nil) (sv_width (by walk_at "sd"))) ea_nil)) (sv_extend (by walk_at "sd"))) (by show _ = m_signed kind number; unfold m_signed; rfl) q

/-! _law_is_integer -/
def m_l_is_integer (l_actual : Int) : Bool :=
  (true && (!false))
theorem sc_l_is_integer : FnScope ["_law_actual"] ["_law_actual"] (defScope s_l_is_integer) := ⟨rfl, rfl, rfl, by decide +kernel, rfl, by decide +kernel, by decide +kernel⟩
def sp_l_is_integer (K : PySem.W.Frag) : Sp := fun vs H Q _ => ∃ (l_actual : Int), vs = [.int l_actual] ∧ True ∧ ∀ H1, Ex H H1 → Q (.bl (m_l_is_integer l_actual)) H1
theorem sv_l_is_integer {K : PySem.W.Frag} {H : Hp} {l_actual : Int} (h : True) : SpV (sp_l_is_integer K) [.int l_actual] H (.bl (m_l_is_integer l_actual)) := fun H1 e Q q _ => ⟨l_actual, rfl, h, q⟩
theorem ok_l_is_integer {f : Addr} {fd : FuncData} (F : Fun K "_law_is_integer" "_law_is_integer" s_l_is_integer f fd) (T : Tx w K mg)  : FnOk P w K mg base CX0 1 f fd ["_law_actual"] (sp_l_is_integer K) := by
  refine F.ok sc_l_is_integer (fun vs H Q E h => ?_) (fun cdv A outer s G vs Q E hr h => ?_)
  · obtain ⟨l_actual, rfl, _⟩ := h
    rfl
  · obtain ⟨l_actual, rfl, h, q⟩ := h
    refine ⟨_, (pss_cons (ps_ret (pe_and (pe_callB call_isi (by rfl) T.b_isinstance (by decide +kernel) (pa_cons (pv 0) (pa_cons (pe_bltn (v := .ty "int") (by rfl) T.b_int (by decide +kernel) rfl) pa_nil))) (pe_one (pe_not (pe_callB call_isi (by rfl) T.b_isinstance (by decide +kernel) (pa_cons (pv 0) (pa_cons (pe_bltn (v := .ty "bool") (by rfl) T.b_bool (by decide +kernel) rfl) pa_nil))))))) pss_nil), ?_⟩
    have e := Ex.refl G
    -- return isinstance(_law_actual, int) and (not isinstance(_law_actual, bool))
    refine r_retB e (ev_andV (ev_isi (b := true) (ev_var rfl) ev_c (.ty _) ty_int (kit_ty (by decide +kernel))) (fun hb => (ev_notV (ev_isi (b := false) (ev_var rfl) ev_c (.ty _) ty_int (kit_ty (by decide +kernel)))))) (by show _ = m_l_is_integer l_actual; unfold m_l_is_integer; rfl) q

/-! _law_fits -/
def m_l_fits (l_actual : Int) (l_number : Int) (l_bits : Int) (l_least : Int) : Bool :=
  if ((¬ ((m_l_is_integer l_actual) = true)) ∨ (l_actual < l_least) ∨ ((l_least + (1 * 2 ^ (l_bits : Int).toNat)) ≤ l_actual)) then
    false
  else
    (decide (((l_actual - l_number) % (1 * 2 ^ (l_bits : Int).toNat)) = 0))
theorem sc_l_fits : FnScope ["_law_actual", "_law_number", "_law_bits", "_law_least"] ["_law_actual", "_law_number", "_law_bits", "_law_least"] (defScope s_l_fits) := ⟨rfl, rfl, rfl, by decide +kernel, rfl, by decide +kernel, by decide +kernel⟩
def sp_l_fits (K : PySem.W.Frag) : Sp := fun vs H Q _ => ∃ (l_actual : Int) (l_number : Int) (l_bits : Int) (l_least : Int), vs = [.int l_actual, .int l_number, .int l_bits, .int l_least] ∧ (1 ≤ l_bits ∧ l_bits ≤ 64) ∧ ∀ H1, Ex H H1 → Q (.bl (m_l_fits l_actual l_number l_bits l_least)) H1
theorem sv_l_fits {K : PySem.W.Frag} {H : Hp} {l_actual : Int} {l_number : Int} {l_bits : Int} {l_least : Int} (h : (1 ≤ l_bits ∧ l_bits ≤ 64)) : SpV (sp_l_fits K) [.int l_actual, .int l_number, .int l_bits, .int l_least] H (.bl (m_l_fits l_actual l_number l_bits l_least)) := fun H1 e Q q _ => ⟨l_actual, l_number, l_bits, l_least, rfl, h, q⟩
theorem ok_l_fits {f : Addr} {fd : FuncData} {a_l_is_integer : Addr} {d_l_is_integer : FuncData} (F : Fun K "_law_fits" "_law_fits" s_l_fits f fd) (T : Tx w K mg) (O_l_is_integer : Df P w K mg base 1 "_law_is_integer" a_l_is_integer d_l_is_integer ["_law_actual"] (sp_l_is_integer K)) : FnOk P w K mg base CX0 2 f fd ["_law_actual", "_law_number", "_law_bits", "_law_least"] (sp_l_fits K) := by
  refine F.ok sc_l_fits (fun vs H Q E h => ?_) (fun cdv A outer s G vs Q E hr h => ?_)
  · obtain ⟨l_actual, l_number, l_bits, l_least, rfl, _⟩ := h
    rfl
  · obtain ⟨l_actual, l_number, l_bits, l_least, rfl, h, q⟩ := h
    refine ⟨_, (pss_cons (ps_if (PW.pt (pw_or (pt_not (pt_val (cl O_l_is_integer (hr.mono (by decide)) rfl (pa_cons (pv 0) pa_nil)))) (pw_or (pt_cmpR op_lt (pv 0) (pv 3) (nomark _)) (pw_or1 (pt_cmpR op_ge (pv 0) (pe_op op_add (pv 3) (pe_op op_shl pe_int (pv 2))) (nomark _)))))) (pss_cons (ps_ret pe_bl) pss_nil) pss_nil) (pss_cons (ps_ret (pe_cmpR op_eq (pe_op op_mod (pe_callTy call_int1 (by rfl) T.b_int (by decide +kernel) (pa_cons (pe_op op_sub (pv 0) (pv 1)) pa_nil)) (pe_op op_shl pe_int (pv 2))) pe_int (nomark _))) pss_nil)), ?_⟩
    have e := Ex.refl G
    have hp : (0 : Int) < 2 ^ l_bits.toNat := Int.pow_pos (by decide)
    -- if not _law_is_integer(_law_actual) or _law_actual < _law_least or _law_actual >= _law_least + (1 << _law_bits)
    refine r_if e (ep_or (ep_not (ep_val (ev_call (ea_cons (ev_var rfl) ea_nil) (sv_l_is_integer (by walk_at "sd"))))) (fun hb => (ep_or (ep_dec (ev_op (ev_var rfl) (ev_var rfl) rv_I0)) (fun hb => (ep_dec (ev_op (ev_var rfl) (ev_op (ev_var rfl) (ev_op ev_c (ev_var rfl) (rv_I (by walk_at "sd"))) rv_I0) rv_I0)))))) (fun hb1 H e => ?_) (fun hb1 H e => ?_)
    · -- return False
      refine r_retB e ev_c (by show _ = m_l_fits l_actual l_number l_bits l_least; unfold m_l_fits; rw [if_pos hb1]) q
    refine r_next ?_
    -- return int(_law_actual - _law_number) % (1 << _law_bits) == 0
    refine r_retB e (ev_op (ev_op (ev_int (ev_op (ev_var rfl) (ev_var rfl) rv_I0)) (ev_op ev_c (ev_var rfl) (rv_I (by walk_at "sd"))) (rv_I (by walk_at "sd"))) ev_c rv_eqI) (by show _ = m_l_fits l_actual l_number l_bits l_least; unfold m_l_fits; rw [if_neg hb1]) q

/-! _law_one -/
def m_l_one (l_number : Int) (l_kind : Str) (l_bits : Int) : Bool :=
  if ((¬ ((m_l_is_integer (m_width l_kind)) = true)) ∨ (¬ (m_width l_kind) = l_bits)) then
    false
  else
    if ((¬ ((m_l_fits (m_unsigned l_kind l_number) l_number l_bits 0) = true)) ∨ (¬ ((m_l_fits (m_signed l_kind l_number) l_number l_bits (-(1 * 2 ^ ((l_bits - 1) : Int).toNat))) = true))) then
      false
    else
      if (¬ ((m_l_fits (m_signed l_kind (m_unsigned l_kind l_number)) l_number l_bits (-(1 * 2 ^ ((l_bits - 1) : Int).toNat))) = true)) then
        false
      else
        (m_l_fits (m_unsigned l_kind (m_signed l_kind l_number)) l_number l_bits 0)
theorem sc_l_one : FnScope ["_law_number", "_law_kind", "_law_bits", "_law_least", "_law_low", "_law_value"] ["_law_number", "_law_kind", "_law_bits"] (defScope s_l_one) := ⟨rfl, rfl, rfl, by decide +kernel, rfl, by decide +kernel, by decide +kernel⟩
def sp_l_one (K : PySem.W.Frag) : Sp := fun vs H Q _ => ∃ (l_number : Int) (l_kind : Str) (l_bits : Int), vs = [.int l_number, .str l_kind, .int l_bits] ∧ ((l_kind = "i32" ∧ l_bits = 32) ∨ (l_kind = "i64" ∧ l_bits = 64)) ∧ ∀ H1, Ex H H1 → Q (.bl (m_l_one l_number l_kind l_bits)) H1
theorem sv_l_one {K : PySem.W.Frag} {H : Hp} {l_number : Int} {l_kind : Str} {l_bits : Int} (h : ((l_kind = "i32" ∧ l_bits = 32) ∨ (l_kind = "i64" ∧ l_bits = 64))) : SpV (sp_l_one K) [.int l_number, .str l_kind, .int l_bits] H (.bl (m_l_one l_number l_kind l_bits)) := fun H1 e Q q _ => ⟨l_number, l_kind, l_bits, rfl, h, q⟩
theorem ok_l_one {f : Addr} {fd : FuncData} {a_width : Addr} {d_width : FuncData} {a_unsigned : Addr} {d_unsigned : FuncData} {a_signed : Addr} {d_signed : FuncData} {a_l_is_integer : Addr} {d_l_is_integer : FuncData} {a_l_fits : Addr} {d_l_fits : FuncData} (F : Fun K "_law_one" "_law_one" s_l_one f fd) (T : Tx w K mg) (O_width : Df P w K mg base 1 "width" a_width d_width ["kind"] (sp_width K)) (O_unsigned : Df P w K mg base 2 "unsigned" a_unsigned d_unsigned ["kind", "number"] (sp_unsigned K)) (O_signed : Df P w K mg base 2 "signed" a_signed d_signed ["kind", "number"] (sp_signed K)) (O_l_is_integer : Df P w K mg base 1 "_law_is_integer" a_l_is_integer d_l_is_integer ["_law_actual"] (sp_l_is_integer K)) (O_l_fits : Df P w K mg base 2 "_law_fits" a_l_fits d_l_fits ["_law_actual", "_law_number", "_law_bits", "_law_least"] (sp_l_fits K)) : FnOk P w K mg base CX0 3 f fd ["_law_number", "_law_kind", "_law_bits"] (sp_l_one K) := by
  refine F.ok sc_l_one (fun vs H Q E h => ?_) (fun cdv A outer s G vs Q E hr h => ?_)
  · obtain ⟨l_number, l_kind, l_bits, rfl, _⟩ := h
    rfl
  · obtain ⟨l_number, l_kind, l_bits, rfl, h, q⟩ := h
    refine ⟨_, (pss_cons (ps_set (i := 3) sc_l_one.nd rfl (Or.inl rfl) (pe_un un_neg (pe_op op_shl pe_int (pe_op op_sub (pv 2) pe_int)))) (pss_cons (ps_if (PW.pt (pw_or (pt_not (pt_val (cl O_l_is_integer (hr.mono (by decide)) rfl (pa_cons (cl O_width (hr.mono (by decide)) rfl (pa_cons (pv 1) pa_nil)) pa_nil)))) (pw_or1 (pt_cmpR op_ne (cl O_width (hr.mono (by decide)) rfl (pa_cons (pv 1) pa_nil)) (pv 2) (nomark _))))) (pss_cons (ps_ret pe_bl) pss_nil) pss_nil) (pss_cons (ps_set (i := 4) sc_l_one.nd rfl (Or.inl rfl) (cl O_unsigned (hr.mono (by decide)) rfl (pa_cons (pv 1) (pa_cons (pv 0) pa_nil)))) (pss_cons (ps_set (i := 5) sc_l_one.nd rfl (Or.inl rfl) (cl O_signed (hr.mono (by decide)) rfl (pa_cons (pv 1) (pa_cons (pv 0) pa_nil)))) (pss_cons (ps_if (PW.pt (pw_or (pt_not (pt_val (cl O_l_fits (hr.mono (by decide)) rfl (pa_cons (pv 4) (pa_cons (pv 0) (pa_cons (pv 2) (pa_cons pe_int pa_nil))))))) (pw_or1 (pt_not (pt_val (cl O_l_fits (hr.mono (by decide)) rfl (pa_cons (pv 5) (pa_cons (pv 0) (pa_cons (pv 2) (pa_cons (pv 3) pa_nil)))))))))) (pss_cons (ps_ret pe_bl) pss_nil) pss_nil) (pss_cons (ps_if (pt_not (pt_val (cl O_l_fits (hr.mono (by decide)) rfl (pa_cons (cl O_signed (hr.mono (by decide)) rfl (pa_cons (pv 1) (pa_cons (pv 4) pa_nil))) (pa_cons (pv 0) (pa_cons (pv 2) (pa_cons (pv 3) pa_nil))))))) (pss_cons (ps_ret pe_bl) pss_nil) pss_nil) (pss_cons (ps_ret (cl O_l_fits (hr.mono (by decide)) rfl (pa_cons (cl O_unsigned (hr.mono (by decide)) rfl (pa_cons (pv 1) (pa_cons (pv 5) pa_nil))) (pa_cons (pv 0) (pa_cons (pv 2) (pa_cons pe_int pa_nil)))))) pss_nil))))))), ?_⟩
    have e := Ex.refl G
    have hk : l_kind = "i32" ∨ l_kind = "i64" := h.elim (fun z => Or.inl z.1) fun z => Or.inr z.1
    have hbs : 1 ≤ l_bits ∧ l_bits ≤ 64 := by omega
    have hw := wd_cases hk
    -- _law_least = -(1 << _law_bits - 1)
    refine r_asg e (ev_un (ev_op ev_c (ev_op (ev_var rfl) ev_c rv_I0) (rv_I (by walk_at "sd"))) ru_neg) fun H e => ?_
    -- if not _law_is_integer(width(_law_kind)) or width(_law_kind) != _law_bits
    refine r_if e (ep_or (ep_not (ep_val (ev_call (ea_cons (ev_call (ea_cons (ev_var rfl) ea_nil) (sv_width (by walk_at "sd"))) ea_nil) (sv_l_is_integer (by walk_at "sd"))))) (fun hb => (ep_ndec (ev_op (ev_call (ea_cons (ev_var rfl) ea_nil) (sv_width (by walk_at "sd"))) (ev_var rfl) rv_neI)))) (fun hb1 H e => ?_) (fun hb1 H e => ?_)
    · -- return False
      refine r_retB e ev_c (by show _ = m_l_one l_number l_kind l_bits; unfold m_l_one; rw [if_pos hb1]) q
    refine r_next ?_
    -- _law_low = unsigned(_law_kind, _law_number)
    refine r_asg e (ev_call (ea_cons (ev_var rfl) (ea_cons (ev_var rfl) ea_nil)) (sv_unsigned (by walk_at "sd"))) fun H e => ?_
    -- _law_value = signed(_law_kind, _law_number)
    refine r_asg e (ev_call (ea_cons (ev_var rfl) (ea_cons (ev_var rfl) ea_nil)) (sv_signed (by walk_at "sd"))) fun H e => ?_
    -- if not _law_fits(_law_low, _law_number, _law_bits, 0) or not _law_fits(_law_value, _law_number, _law_bits, _law_least)
    refine r_if e (ep_or (ep_not (ep_val (ev_call (ea_cons (ev_var rfl) (ea_cons (ev_var rfl) (ea_cons (ev_var rfl) (ea_cons ev_c ea_nil)))) (sv_l_fits (by walk_at "sd"))))) (fun hb => (ep_not (ep_val (ev_call (ea_cons (ev_var rfl) (ea_cons (ev_var rfl) (ea_cons (ev_var rfl) (ea_cons (ev_var rfl) ea_nil)))) (sv_l_fits (by walk_at "sd"))))))) (fun hb2 H e => ?_) (fun hb2 H e => ?_)
    · -- return False
      refine r_retB e ev_c (by show _ = m_l_one l_number l_kind l_bits; unfold m_l_one; rw [if_neg hb1, if_pos hb2]) q
    refine r_next ?_
    -- if not _law_fits(signed(_law_kind, _law_low), _law_number, _law_bits, _law_least)
    refine r_if e (ep_not (ep_val (ev_call (ea_cons (ev_call (ea_cons (ev_var rfl) (ea_cons (ev_var rfl) ea_nil)) (sv_signed (by walk_at "sd"))) (ea_cons (ev_var rfl) (ea_cons (ev_var rfl) (ea_cons (ev_var rfl) ea_nil)))) (sv_l_fits (by walk_at "sd"))))) (fun hb3 H e => ?_) (fun hb3 H e => ?_)
    · -- return False
      refine r_retB e ev_c (by show _ = m_l_one l_number l_kind l_bits; unfold m_l_one; rw [if_neg hb1, if_neg hb2, if_pos hb3]) q
    refine r_next ?_
    -- return _law_fits(unsigned(_law_kind, _law_value), _law_number, _law_bits, 0)
    refine r_retB e (ev_call (ea_cons (ev_call (ea_cons (ev_var rfl) (ea_cons (ev_var rfl) ea_nil)) (sv_unsigned (by walk_at "sd"))) (ea_cons (ev_var rfl) (ea_cons (ev_var rfl) (ea_cons ev_c ea_nil)))) (sv_l_fits (by walk_at "sd"))) (by show _ = m_l_one l_number l_kind l_bits; unfold m_l_one; rw [if_neg hb1, if_neg hb2, if_neg hb3]) q

/-! law -/
theorem two_pw {b : Int} (hb : 1 ≤ b) : (2 : Int) ^ b.toNat = 2 * 2 ^ (b - 1).toNat := by
  have e : b.toNat = (b - 1).toNat + 1 := by omega
  rw [e, Int.pow_succ]
  omega
theorem cong_mod (n : Int) (b : Nat) : ∃ q, n % 2 ^ b - n = 2 ^ b * q := by
  refine ⟨-(n / 2 ^ b), ?_⟩
  have h := Int.mul_ediv_add_emod n (2 ^ b)
  rw [Int.mul_neg]
  omega
theorem low_eq (n b : Int) : Builtin.bitAnd n (1 * 2 ^ b.toNat - 1) = n % 2 ^ b.toNat := by rw [Int.one_mul, PySem.W.kbt_mask]
theorem ext_ok (n : Int) {b : Int} (hb : 1 ≤ b) : (∃ q, m_extend n b - n = 2 ^ b.toNat * q) ∧ -(2 ^ (b - 1).toNat) ≤ m_extend n b ∧ m_extend n b < 2 ^ (b - 1).toNat := by
  have hp : (0 : Int) < 2 ^ (b - 1).toNat := Int.pow_pos (by decide)
  have h2 := two_pw hb
  obtain ⟨q, hq⟩ := cong_mod n b.toNat
  have h0 := Int.emod_nonneg n (show (2 : Int) ^ b.toNat ≠ 0 by omega)
  have h1 := Int.emod_lt_of_pos n (show (0 : Int) < 2 ^ b.toNat by omega)
  unfold m_extend
  rw [low_eq]
  split
  · refine ⟨⟨q - 1, ?_⟩, by omega, by omega⟩
    rw [Int.mul_sub]
    omega
  · exact ⟨⟨q, hq⟩, by omega, by omega⟩
theorem fits_ok {a n b least : Int} (h0 : least ≤ a) (h1 : a < least + 2 ^ b.toNat) (hq : ∃ q, a - n = 2 ^ b.toNat * q) : m_l_fits a n b least = true := by
  obtain ⟨q, hq⟩ := hq
  unfold m_l_fits
  rw [if_neg]
  · rw [hq, Int.one_mul, Int.mul_emod_right]
    rfl
  · rw [Int.one_mul]
    intro h
    rcases h with h | h | h
    · exact h rfl
    · omega
    · omega
theorem cong_trans {M a b c : Int} (h : ∃ q, a - b = M * q) (g : ∃ q, b - c = M * q) : ∃ q, a - c = M * q := by
  obtain ⟨q, h⟩ := h
  obtain ⟨r, g⟩ := g
  refine ⟨q + r, ?_⟩
  rw [Int.mul_add]
  omega
theorem fits_ext {n b : Int} (hb : 1 ≤ b) : m_l_fits (m_extend n b) n b (-(1 * 2 ^ (b - 1).toNat)) = true := by
  obtain ⟨h1, h2, h3⟩ := ext_ok n hb
  have h4 := two_pw hb
  exact fits_ok (by omega) (by omega) h1
theorem one_ok {n : Int} {k : Str} {b : Int} (h : (k = "i32" ∧ b = 32) ∨ (k = "i64" ∧ b = 64)) : m_l_one n k b = true := by
  have hw : m_width k = b := by
    rcases h with ⟨rfl, rfl⟩ | ⟨rfl, rfl⟩
    · rfl
    · rfl
  have hb : 1 ≤ b := by rcases h with ⟨_, rfl⟩ | ⟨_, rfl⟩ <;> decide
  have hp : (0 : Int) < 2 ^ (b - 1).toNat := Int.pow_pos (by decide)
  have h2 := two_pw hb
  have hu : ∀ m, m_unsigned k m = m % 2 ^ b.toNat := fun m => by
    unfold m_unsigned
    rw [hw, low_eq]
  have hs : ∀ m, m_signed k m = m_extend m b := fun m => by
    unfold m_signed
    rw [hw]
  have u0 : ∀ m : Int, 0 ≤ m % 2 ^ b.toNat := fun m => Int.emod_nonneg m (by omega)
  have u1 : ∀ m : Int, m % 2 ^ b.toNat < 2 ^ b.toNat := fun m => Int.emod_lt_of_pos m (by omega)
  unfold m_l_one
  rw [if_neg, if_neg, if_neg]
  · rw [hu, hs]
    have a := u0 (m_extend n b)
    have c := u1 (m_extend n b)
    exact fits_ok (by omega) (by omega) (cong_trans (cong_mod _ _) (ext_ok n hb).1)
  · rw [hu, hs, fits_ok (by have := (ext_ok (n % 2 ^ b.toNat) hb).2.1; omega) (by have := (ext_ok (n % 2 ^ b.toNat) hb).2.2; omega) (cong_trans (ext_ok _ hb).1 (cong_mod _ _))]
    simp
  · have a := u0 n
    have c := u1 n
    rw [hu, hs, fits_ok (by omega) (by omega) (cong_mod _ _), fits_ext hb]
    simp
  · rw [hw]
    intro h
    rcases h with h | h
    · exact h rfl
    · exact h rfl
theorem sc_law : FnScope ["_law_script", "_law_cells", "_law_cell", "_law_k", "_law_number", "_law_bits", "_law_edge"] ["_law_script"] (defScope s_law) := ⟨rfl, rfl, rfl, by decide +kernel, rfl, by decide +kernel, by decide +kernel⟩
def sp_law (K : PySem.W.Frag) : Sp := fun vs H Q _ => ∃ (l_script : Addr) (ns : List Int), vs = [.ref l_script] ∧ (SqL K H l_script (ns.map V.int) ∧ ns.length ≤ 63) ∧ ∀ H1, Q (.bl true) H1
theorem law_in {K : PySem.W.Frag} {H : Hp} {a : Addr} {ns : List Int} (hl : ns.length ≤ 63) (hS : SqL K H a (ns.map V.int)) : sp_law K [.ref a] H (fun v _ => v = .bl true) (fun _ _ _ => False) := ⟨a, ns, rfl, ⟨hS, hl⟩, fun _ => rfl⟩
theorem ok_law {f : Addr} {fd : FuncData} {a_extend : Addr} {d_extend : FuncData} {a_l_fits : Addr} {d_l_fits : FuncData} {a_l_one : Addr} {d_l_one : FuncData} (F : Fun K "law" "law" s_law f fd) (T : Tx w K mg) (O_extend : Df P w K mg base 1 "extend" a_extend d_extend ["number", "bits"] (sp_extend K)) (O_l_fits : Df P w K mg base 2 "_law_fits" a_l_fits d_l_fits ["_law_actual", "_law_number", "_law_bits", "_law_least"] (sp_l_fits K)) (O_l_one : Df P w K mg base 3 "_law_one" a_l_one d_l_one ["_law_number", "_law_kind", "_law_bits"] (sp_l_one K)) : FnOk P w K mg base CX0 4 f fd ["_law_script"] (sp_law K) := by
  refine F.ok sc_law (fun vs H Q E h => ?_) (fun cdv A outer s G vs Q E hr h => ?_)
  · obtain ⟨l_script, ns, rfl, _⟩ := h
    rfl
  · obtain ⟨l_script, ns, rfl, ⟨hS, hlen⟩, q⟩ := h
    refine ⟨_, (pss_cons (ps_setLc (i := 1) (own := [("_law_cell", 2)]) (g := gName 2) (tt := tYes) rfl sc_law.nd rfl rfl (sw_true rfl rfl rfl (by decide +kernel)) (pi_list (pe_slice sl_list (pv 0) po_none (po_some pe_int))) (blkOk_by (N := ["_law_script", "_law_cells", "_law_cell", "_law_k", "_law_number", "_law_bits", "_law_edge"]) (sc := defScope s_law) (by decide +kernel)) (fun _ _ _ _ _ => pg_name (i := 2) sc_law.nd rfl (Or.inl rfl)) (fun _ _ _ _ _ => pts_nil) (fun _ _ _ _ _ => (pe_callTy call_int1 (by rfl) T.b_int (by decide +kernel) (pa_cons (pv 2) pa_nil)))) (pss_cut (ps_if (pt_cmpR op_eq (pe_callB call_len_seq (by rfl) T.b_len (by decide +kernel) (pa_cons (pv 1) pa_nil)) pe_int (nomark _)) (pss_cons (ps_set (i := 1) sc_law.nd rfl (Or.inl rfl) (pe_lst (pa_cons pe_int pa_nil))) pss_nil) pss_nil) (pss_cons (ps_for PassesOwn.never rfl (pi_range1 (by rfl) T.b_range (pa_cons (pe_callB call_len_seq (by rfl) T.b_len (by decide +kernel) (pa_cons (pv 1) pa_nil)) pa_nil)) (pg_name (i := 3) sc_law.nd rfl (Or.inl rfl)) (pss_cons (ps_set (i := 4) sc_law.nd rfl (Or.inl rfl) (pe_ix ix_list (pv 1) (pv 3) (fun _ _ => rfl))) (pss_cons (ps_if (PW.pt (pw_or (pt_not (pt_val (cl O_l_one (hr.mono (by decide)) rfl (pa_cons (pv 4) (pa_cons pe_str (pa_cons pe_int pa_nil)))))) (pw_or1 (pt_not (pt_val (cl O_l_one (hr.mono (by decide)) rfl (pa_cons (pv 4) (pa_cons pe_str (pa_cons pe_int pa_nil))))))))) (pss_cons (ps_ret pe_bl) pss_nil) pss_nil) (pss_cons (ps_set (i := 5) sc_law.nd rfl (Or.inl rfl) (pe_op op_add pe_int (pe_op op_mod (pe_callTy call_int1 (by rfl) T.b_int (by decide +kernel) (pa_cons (pe_op op_add (pe_ix ix_list (pv 1) (pe_op op_mod (pe_op op_add (pv 3) pe_int) (pe_callB call_len_seq (by rfl) T.b_len (by decide +kernel) (pa_cons (pv 1) pa_nil))) (fun _ _ => rfl)) (pv 3)) pa_nil)) pe_int))) (pss_cons (ps_if (pt_not (pt_val (cl O_l_fits (hr.mono (by decide)) rfl (pa_cons (cl O_extend (hr.mono (by decide)) rfl (pa_cons (pv 4) (pa_cons (pv 5) pa_nil))) (pa_cons (pv 4) (pa_cons (pv 5) (pa_cons (pe_un un_neg (pe_op op_shl pe_int (pe_op op_sub (pv 5) pe_int))) pa_nil))))))) (pss_cons (ps_ret pe_bl) pss_nil) pss_nil) (pss_cons (ps_set (i := 6) sc_law.nd rfl (Or.inl rfl) (pe_op op_add (pe_op op_sub (pe_op op_shl pe_int (pe_op op_sub (pv 5) pe_int)) pe_int) (pe_op op_mod (pe_callTy call_int1 (by rfl) T.b_int (by decide +kernel) (pa_cons (pv 4) pa_nil)) pe_int))) (pss_cons (ps_if (pt_not (pt_val (cl O_l_fits (hr.mono (by decide)) rfl (pa_cons (cl O_extend (hr.mono (by decide)) rfl (pa_cons (pv 6) (pa_cons (pv 5) pa_nil))) (pa_cons (pv 6) (pa_cons (pv 5) (pa_cons (pe_un un_neg (pe_op op_shl pe_int (pe_op op_sub (pv 5) pe_int))) pa_nil))))))) (pss_cons (ps_ret pe_bl) pss_nil) pss_nil) pss_nil))))))) (pss_cons (ps_ret pe_bl) pss_nil)))), ?_⟩
    have e := Ex.refl G
    -- _law_cells = [int(_law_cell) for _law_cell in _law_script[:63]]
    refine r_asgL e (el_lcNI V.int (el_to (el_sl (ev_var rfl) eo_none (eo_some ev_c) hS) (cutV_all 63 (by rw [List.length_map]; exact hlen))) (by omega) (fun _ => rfl) (fun n H e _ => ev_int (ev_var rfl))) fun p_l_cells G2 hp _ hl => ?_
    clear e
    have e := Ex.refl G2
    have hl := sq_of (K := K) hl
    -- if len(_law_cells) == 0
    refine r_ifJ e (ep_dec (ev_op (ev_len (ev_var rfl) hl) ev_c rv_eqI)) (fun σ1 H1 => ∃ (p : Addr) (ms : List Int), SqL K H1 p (ms.map V.int) ∧ 1 ≤ ms.length ∧ ms.length ≤ 63 ∧ σ1 = [some (.ref l_script), some (.ref p), none, none, none, none, none]) (fun hb1 H e => ?_) (fun hb1 H e => ?_) ?_
    · -- _law_cells = [0]
      refine r_asgL e (el_lst (ea_cons ev_c ea_nil) (by walk_at "sd")) fun p_l_cells H hp e hl => ?_
      exact r_next ⟨_, [0], sq_of hl, Nat.le_refl _, by decide, rfl⟩
    · rw [List.length_map] at hb1
      exact r_next ⟨_, ns, ex_l e hl, by omega, hlen, rfl⟩
    clear hl e
    rintro σ G ⟨p_l_cells, ms, hl, hm1, hm2, rfl⟩
    have e := Ex.refl G
    have hml : (ms.map V.int).length = ms.length := List.length_map _
    -- for _law_k in range(len(_law_cells))
    refine r_forR e (ea_cons (ev_len (ev_var rfl) (by assumption)) ea_nil) (by walk_at "sd") (fun i σ => ∃ o_l_k o_l_number o_l_bits o_l_edge : Option V, σ = [some (.ref l_script), some (.ref p_l_cells), none, o_l_k, o_l_number, o_l_bits, o_l_edge]) ⟨_, _, _, _, rfl⟩ (fun i σ H hi hI e => ?_) (fun σ H hI e => ?_)
    · obtain ⟨o_l_k, o_l_number, o_l_bits, o_l_edge, rfl⟩ := hI
      have hm0 := Int.emod_nonneg ((i : Int) + 1) (show ((ms.map V.int).length : Int) ≠ 0 by omega)
      have hm9 := Int.emod_lt_of_pos ((i : Int) + 1) (show 0 < ((ms.map V.int).length : Int) by omega)
      -- _law_number = _law_cells[_law_k]
      refine r_asg e (ev_op (ev_var rfl) (ev_var rfl) (rv_ixI (by assumption) (by walk_at "sd") (by walk_at "sd"))) fun H e => ?_
      -- if not _law_one(_law_number, 'i32', 32) or not _law_one(_law_number, 'i64', 64)
      refine r_if e (ep_or (ep_not (ep_val (ev_call (ea_cons (ev_var rfl) (ea_cons ev_c (ea_cons ev_c ea_nil))) (sv_l_one (by walk_at "sd"))))) (fun hb => (ep_not (ep_val (ev_call (ea_cons (ev_var rfl) (ea_cons ev_c (ea_cons ev_c ea_nil))) (sv_l_one (by walk_at "sd"))))))) (fun hb2 H e => ?_) (fun hb2 H e => ?_)
      · exact absurd hb2 (by rw [one_ok (Or.inl ⟨rfl, rfl⟩), one_ok (Or.inr ⟨rfl, rfl⟩)]; simp)
      refine r_next ?_
      -- _law_bits = 1 + int(_law_cells[(_law_k + 1) % len(_law_cells)] + _law_k) % 64
      refine r_asg e (ev_op ev_c (ev_op (ev_int (ev_op (ev_op (ev_var rfl) (ev_op (ev_op (ev_var rfl) ev_c rv_I0) (ev_len (ev_var rfl) (by assumption)) (rv_I (by walk_at "sd"))) (rv_ixI (by assumption) (by walk_at "sd") (by walk_at "sd"))) (ev_var rfl) rv_I0)) ev_c (rv_I (by walk_at "sd"))) rv_I0) fun H e => ?_
      generalize hx : (1 : Int) + _ = x
      have hbit : 1 ≤ x ∧ x ≤ 64 := by omega
      clear hx
      -- if not _law_fits(extend(_law_number, _law_bits), _law_number, _law_bits, -(1 << _law_bits - 1))
      refine r_if e (ep_not (ep_val (ev_call (ea_cons (ev_call (ea_cons (ev_var rfl) (ea_cons (ev_var rfl) ea_nil)) (sv_extend hbit)) (ea_cons (ev_var rfl) (ea_cons (ev_var rfl) (ea_cons (ev_un (ev_op ev_c (ev_op (ev_var rfl) ev_c rv_I0) (rv_I ⟨by omega, by omega, by decide⟩)) ru_neg) ea_nil)))) (sv_l_fits hbit)))) (fun hb3 H e => ?_) (fun hb3 H e => ?_)
      · exact absurd hb3 (by rw [fits_ext hbit.1]; simp)
      refine r_next ?_
      -- _law_edge = (1 << _law_bits - 1) - 1 + int(_law_number) % 3
      refine r_asg e (ev_op (ev_op (ev_op ev_c (ev_op (ev_var rfl) ev_c rv_I0) (rv_I (by walk_at "sd"))) ev_c rv_I0) (ev_op (ev_int (ev_var rfl)) ev_c (rv_I (by walk_at "sd"))) rv_I0) fun H e => ?_
      -- if not _law_fits(extend(_law_edge, _law_bits), _law_edge, _law_bits, -(1 << _law_bits - 1))
      refine r_if e (ep_not (ep_val (ev_call (ea_cons (ev_call (ea_cons (ev_var rfl) (ea_cons (ev_var rfl) ea_nil)) (sv_extend hbit)) (ea_cons (ev_var rfl) (ea_cons (ev_var rfl) (ea_cons (ev_un (ev_op ev_c (ev_op (ev_var rfl) ev_c rv_I0) (rv_I ⟨by omega, by omega, by decide⟩)) ru_neg) ea_nil)))) (sv_l_fits hbit)))) (fun hb4 H e => ?_) (fun hb4 H e => ?_)
      · exact absurd hb4 (by rw [fits_ext hbit.1]; simp)
      refine r_next ?_
      exact ⟨⟨_, _, _, _, rfl⟩, e⟩
    obtain ⟨o_l_k, o_l_number, o_l_bits, o_l_edge, rfl⟩ := hI
    exact r_ret e ev_c fun H e => q H

end
theorem all_mk {l : PySem.W.OpenLaw} {w : World} {K : PySem.W.Frag} {h : Heap} {mg : Str → Option Value} {fa : Addr} {f_width f_unsigned f_extend f_signed f_l_is_integer f_l_fits f_l_one f_law : Addr} (X : K.In h) (G : h.Ns mainGlobals mg) (hfa : mg "law" = some (.ref fa))
    {od_width an_width od_unsigned an_unsigned od_extend an_extend od_signed an_signed od_l_is_integer an_l_is_integer od_l_fits an_l_fits od_l_one an_l_one od_law an_law : Option Addr} {sl_width sl_unsigned sl_extend sl_signed sl_l_is_integer sl_l_fits sl_l_one sl_law : Array (Option Value)}
    {oc_width kV_width dc_width pm_width cd_width ct_width oc_unsigned kV_unsigned dc_unsigned pm_unsigned cd_unsigned ct_unsigned oc_extend kV_extend dc_extend pm_extend cd_extend ct_extend oc_signed kV_signed dc_signed pm_signed cd_signed ct_signed oc_l_is_integer kV_l_is_integer dc_l_is_integer pm_l_is_integer cd_l_is_integer ct_l_is_integer oc_l_fits kV_l_fits dc_l_fits pm_l_fits cd_l_fits ct_l_fits oc_l_one kV_l_one dc_l_one pm_l_one cd_l_one ct_l_one oc_law kV_law dc_law pm_law cd_law ct_law : Value}
    (a_width : PySem.W.nsIn K mainGlobals "width" = some (some (.ref f_width)))
    (l_width : K.lookup f_width = some ⟨oc_width, od_width, .func (PySem.W.fnOf "width" "width" (defArgs s_width) (defBody s_width) (defScope s_width) .none kV_width dc_width pm_width an_width cd_width ct_width), sl_width⟩)
    (c_width : PySem.W.codeIn K cd_width "width" = true) (k_width : PySem.W.keepIn K (.ref f_width) = true)
    (a_unsigned : PySem.W.nsIn K mainGlobals "unsigned" = some (some (.ref f_unsigned)))
    (l_unsigned : K.lookup f_unsigned = some ⟨oc_unsigned, od_unsigned, .func (PySem.W.fnOf "unsigned" "unsigned" (defArgs s_unsigned) (defBody s_unsigned) (defScope s_unsigned) .none kV_unsigned dc_unsigned pm_unsigned an_unsigned cd_unsigned ct_unsigned), sl_unsigned⟩)
    (c_unsigned : PySem.W.codeIn K cd_unsigned "unsigned" = true) (k_unsigned : PySem.W.keepIn K (.ref f_unsigned) = true)
    (a_extend : PySem.W.nsIn K mainGlobals "extend" = some (some (.ref f_extend)))
    (l_extend : K.lookup f_extend = some ⟨oc_extend, od_extend, .func (PySem.W.fnOf "extend" "extend" (defArgs s_extend) (defBody s_extend) (defScope s_extend) .none kV_extend dc_extend pm_extend an_extend cd_extend ct_extend), sl_extend⟩)
    (c_extend : PySem.W.codeIn K cd_extend "extend" = true) (k_extend : PySem.W.keepIn K (.ref f_extend) = true)
    (a_signed : PySem.W.nsIn K mainGlobals "signed" = some (some (.ref f_signed)))
    (l_signed : K.lookup f_signed = some ⟨oc_signed, od_signed, .func (PySem.W.fnOf "signed" "signed" (defArgs s_signed) (defBody s_signed) (defScope s_signed) .none kV_signed dc_signed pm_signed an_signed cd_signed ct_signed), sl_signed⟩)
    (c_signed : PySem.W.codeIn K cd_signed "signed" = true) (k_signed : PySem.W.keepIn K (.ref f_signed) = true)
    (a_l_is_integer : PySem.W.nsIn K mainGlobals "_law_is_integer" = some (some (.ref f_l_is_integer)))
    (l_l_is_integer : K.lookup f_l_is_integer = some ⟨oc_l_is_integer, od_l_is_integer, .func (PySem.W.fnOf "_law_is_integer" "_law_is_integer" (defArgs s_l_is_integer) (defBody s_l_is_integer) (defScope s_l_is_integer) .none kV_l_is_integer dc_l_is_integer pm_l_is_integer an_l_is_integer cd_l_is_integer ct_l_is_integer), sl_l_is_integer⟩)
    (c_l_is_integer : PySem.W.codeIn K cd_l_is_integer "_law_is_integer" = true) (k_l_is_integer : PySem.W.keepIn K (.ref f_l_is_integer) = true)
    (a_l_fits : PySem.W.nsIn K mainGlobals "_law_fits" = some (some (.ref f_l_fits)))
    (l_l_fits : K.lookup f_l_fits = some ⟨oc_l_fits, od_l_fits, .func (PySem.W.fnOf "_law_fits" "_law_fits" (defArgs s_l_fits) (defBody s_l_fits) (defScope s_l_fits) .none kV_l_fits dc_l_fits pm_l_fits an_l_fits cd_l_fits ct_l_fits), sl_l_fits⟩)
    (c_l_fits : PySem.W.codeIn K cd_l_fits "_law_fits" = true) (k_l_fits : PySem.W.keepIn K (.ref f_l_fits) = true)
    (a_l_one : PySem.W.nsIn K mainGlobals "_law_one" = some (some (.ref f_l_one)))
    (l_l_one : K.lookup f_l_one = some ⟨oc_l_one, od_l_one, .func (PySem.W.fnOf "_law_one" "_law_one" (defArgs s_l_one) (defBody s_l_one) (defScope s_l_one) .none kV_l_one dc_l_one pm_l_one an_l_one cd_l_one ct_l_one), sl_l_one⟩)
    (c_l_one : PySem.W.codeIn K cd_l_one "_law_one" = true) (k_l_one : PySem.W.keepIn K (.ref f_l_one) = true)
    (a_law : PySem.W.nsIn K mainGlobals "law" = some (some (.ref f_law)))
    (l_law : K.lookup f_law = some ⟨oc_law, od_law, .func (PySem.W.fnOf "law" "law" (defArgs s_law) (defBody s_law) (defScope s_law) .none kV_law dc_law pm_law an_law cd_law ct_law), sl_law⟩)
    (c_law : PySem.W.codeIn K cd_law "law" = true) (k_law : PySem.W.keepIn K (.ref f_law) = true)
    (z_bool : PySem.W.nsIn K mainGlobals "bool" = some none)
    (z_int : PySem.W.nsIn K mainGlobals "int" = some none)
    (z_isinstance : PySem.W.nsIn K mainGlobals "isinstance" = some none)
    (z_len : PySem.W.nsIn K mainGlobals "len" = some none)
    (z_range : PySem.W.nsIn K mainGlobals "range" = some none)
    {a_WIDTHS : Addr} {es_WIDTHS : Array DictEntry} {n_WIDTHS : Nat}
    {t_WIDTHS_0 : Tok}
    {t_WIDTHS_1 : Tok}
    (m_WIDTHS : PySem.W.nsIn K mainGlobals "WIDTHS" = some (some (.ref a_WIDTHS)))
    (l_WIDTHS : K.lookup a_WIDTHS = some ⟨.type "dict", none, .dict es_WIDTHS n_WIDTHS, #[]⟩)
    (kl_WIDTHS : PySem.W.KeysLit w.params es_WIDTHS.toList)
    (i_WIDTHS_0 : PySem.W.nsIn K a_WIDTHS "i32" = some (some (.int 32 t_WIDTHS_0)))
    (i_WIDTHS_1 : PySem.W.nsIn K a_WIDTHS "i64" = some (some (.int 64 t_WIDTHS_1)))
    : ∃ fd : FuncData, (∀ (s : Shared) (v : Value), BindsTo s fd ⟨[v], []⟩ [("_law_script", v)]) ∧ ∀ base : Heap, K.In base → base.Ns mainGlobals mg → FnOk l.prog w K mg base CX0 4 fa fd ["_law_script"] (sp_law K) := by
  have e := hfa.symm.trans (PySem.W.mg_of X G a_law)
  cases e
  have T : Tx w K mg := ⟨PySem.W.mg_none_of X G z_bool, PySem.W.mg_none_of X G z_int, PySem.W.mg_none_of X G z_isinstance, PySem.W.mg_none_of X G z_len, PySem.W.mg_none_of X G z_range, ⟨_, PySem.W.mg_of X G m_WIDTHS, ⟨_, _, _, l_WIDTHS, kl_WIDTHS, i_WIDTHS_0, ⟨_, rfl⟩⟩, ⟨_, _, _, l_WIDTHS, kl_WIDTHS, i_WIDTHS_1, ⟨_, rfl⟩⟩⟩⟩
  have F_width := fun_mk (st := s_width) l_width c_width k_width
  have b_width := F_width.binds (ps := ["kind"]) fun _ _ _ _ _ _ us hl => match us, hl with | [_], _ => rfl
  have F_unsigned := fun_mk (st := s_unsigned) l_unsigned c_unsigned k_unsigned
  have b_unsigned := F_unsigned.binds (ps := ["kind", "number"]) fun _ _ _ _ _ _ us hl => match us, hl with | [_, _], _ => rfl
  have F_extend := fun_mk (st := s_extend) l_extend c_extend k_extend
  have b_extend := F_extend.binds (ps := ["number", "bits"]) fun _ _ _ _ _ _ us hl => match us, hl with | [_, _], _ => rfl
  have F_signed := fun_mk (st := s_signed) l_signed c_signed k_signed
  have b_signed := F_signed.binds (ps := ["kind", "number"]) fun _ _ _ _ _ _ us hl => match us, hl with | [_, _], _ => rfl
  have F_l_is_integer := fun_mk (st := s_l_is_integer) l_l_is_integer c_l_is_integer k_l_is_integer
  have b_l_is_integer := F_l_is_integer.binds (ps := ["_law_actual"]) fun _ _ _ _ _ _ us hl => match us, hl with | [_], _ => rfl
  have F_l_fits := fun_mk (st := s_l_fits) l_l_fits c_l_fits k_l_fits
  have b_l_fits := F_l_fits.binds (ps := ["_law_actual", "_law_number", "_law_bits", "_law_least"]) fun _ _ _ _ _ _ us hl => match us, hl with | [_, _, _, _], _ => rfl
  have F_l_one := fun_mk (st := s_l_one) l_l_one c_l_one k_l_one
  have b_l_one := F_l_one.binds (ps := ["_law_number", "_law_kind", "_law_bits"]) fun _ _ _ _ _ _ us hl => match us, hl with | [_, _, _], _ => rfl
  have F_law := fun_mk (st := s_law) l_law c_law k_law
  refine ⟨PySem.W.fnOf "law" "law" (defArgs s_law) (defBody s_law) (defScope s_law) .none kV_law dc_law pm_law an_law cd_law ct_law, fun s v => .of_eq rfl, fun base _ _ => ?_⟩
  have O_width : Df l.prog w K mg base 1 "width" f_width _ ["kind"] (sp_width K) := ⟨ok_width F_width T, PySem.W.mg_of X G a_width, F_width.kp, b_width⟩
  have O_unsigned : Df l.prog w K mg base 2 "unsigned" f_unsigned _ ["kind", "number"] (sp_unsigned K) := ⟨ok_unsigned F_unsigned T O_width, PySem.W.mg_of X G a_unsigned, F_unsigned.kp, b_unsigned⟩
  have O_extend : Df l.prog w K mg base 1 "extend" f_extend _ ["number", "bits"] (sp_extend K) := ⟨ok_extend F_extend T, PySem.W.mg_of X G a_extend, F_extend.kp, b_extend⟩
  have O_signed : Df l.prog w K mg base 2 "signed" f_signed _ ["kind", "number"] (sp_signed K) := ⟨ok_signed F_signed T O_width O_extend, PySem.W.mg_of X G a_signed, F_signed.kp, b_signed⟩
  have O_l_is_integer : Df l.prog w K mg base 1 "_law_is_integer" f_l_is_integer _ ["_law_actual"] (sp_l_is_integer K) := ⟨ok_l_is_integer F_l_is_integer T, PySem.W.mg_of X G a_l_is_integer, F_l_is_integer.kp, b_l_is_integer⟩
  have O_l_fits : Df l.prog w K mg base 2 "_law_fits" f_l_fits _ ["_law_actual", "_law_number", "_law_bits", "_law_least"] (sp_l_fits K) := ⟨ok_l_fits F_l_fits T O_l_is_integer, PySem.W.mg_of X G a_l_fits, F_l_fits.kp, b_l_fits⟩
  have O_l_one : Df l.prog w K mg base 3 "_law_one" f_l_one _ ["_law_number", "_law_kind", "_law_bits"] (sp_l_one K) := ⟨ok_l_one F_l_one T O_width O_unsigned O_signed O_l_is_integer O_l_fits, PySem.W.mg_of X G a_l_one, F_l_one.kp, b_l_one⟩
  exact ok_law F_law T O_extend O_l_fits O_l_one
end Lk01

set_option Elab.async false
set_option linter.all false
set_option maxRecDepth 100000
set_option maxHeartbeats 4000000
open PySem PySem.W PyProof.Rows
local macro_rules | `(tactic| walk_at "keysLit") => `(tactic| (refine ⟨⟨_, _, rfl, rfl⟩, ?_⟩; walk_at "keysLit"))
local macro_rules | `(tactic| walk_at "keysLit") => `(tactic| exact True.intro)
set_option maxRecDepth 100000 in
set_option maxHeartbeats 0 in
theorem PySem.Challenge.cw_wasmhost_k01_unsigned_and_signed_holds : PySem.Challenge.rw_wasmhost_k01_unsigned_and_signed.Holds := by
  w_on; o_law; k_head; (case hw => w_witness2)
  k_fill
  refine L2.walk_ofK (l := PySem.Challenge.rw_wasmhost_k01_unsigned_and_signed) (n := 63) (k := 4) (x := "_law_script") (CX := L2.CX0) (sp := Lk01.sp_law) rfl (by decide) rfl ⟨rfl, by decide, by decide⟩ (fun w h Y => PySem.W.kIn_of Y) ?F (fun K H a ns hl _ hS => Lk01.law_in hl hS) (fun _ _ _ _ h => h)
  case F =>
    intro w mg fa h KX G hmg
    refine' Lk01.all_mk KX G hmg ?a_width ?l_width ?c_width ?k_width ?a_unsigned ?l_unsigned ?c_unsigned ?k_unsigned ?a_extend ?l_extend ?c_extend ?k_extend ?a_signed ?l_signed ?c_signed ?k_signed ?a_l_is_integer ?l_l_is_integer ?c_l_is_integer ?k_l_is_integer ?a_l_fits ?l_l_fits ?c_l_fits ?k_l_fits ?a_l_one ?l_l_one ?c_l_one ?k_l_one ?a_law ?l_law ?c_law ?k_law ?z_bool ?z_int ?z_isinstance ?z_len ?z_range ?m_WIDTHS ?l_WIDTHS ?kl_WIDTHS ?i_WIDTHS_0 ?i_WIDTHS_1
    (case a_width => k_is)
    (case l_width => k_is)
    (case c_width => k_is)
    (case k_width => k_is)
    (case a_unsigned => k_is)
    (case l_unsigned => k_is)
    (case c_unsigned => k_is)
    (case k_unsigned => k_is)
    (case a_extend => k_is)
    (case l_extend => k_is)
    (case c_extend => k_is)
    (case k_extend => k_is)
    (case a_signed => k_is)
    (case l_signed => k_is)
    (case c_signed => k_is)
    (case k_signed => k_is)
    (case a_l_is_integer => k_is)
    (case l_l_is_integer => k_is)
    (case c_l_is_integer => k_is)
    (case k_l_is_integer => k_is)
    (case a_l_fits => k_is)
    (case l_l_fits => k_is)
    (case c_l_fits => k_is)
    (case k_l_fits => k_is)
    (case a_l_one => k_is)
    (case l_l_one => k_is)
    (case c_l_one => k_is)
    (case k_l_one => k_is)
    (case a_law => k_is)
    (case l_law => k_is)
    (case c_law => k_is)
    (case k_law => k_is)
    (case z_bool => k_is)
    (case z_int => k_is)
    (case z_isinstance => k_is)
    (case z_len => k_is)
    (case z_range => k_is)
    (case m_WIDTHS => k_is)
    (case l_WIDTHS => k_is)
    (case kl_WIDTHS => walk_at "keysLit")
    (case i_WIDTHS_0 => k_is)
    (case i_WIDTHS_1 => k_is)
