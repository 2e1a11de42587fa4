import PyProof.Rows.All
import Wide.All
import OpenK.AllK
import Wide.FinOn
import HandS.Base
import HandS.Call
import HandS.List
import HandS.Comp
import HandS.Dict
import HandS.Iter
import HandS.TupAny
import HandS.IsInst
import HandS.Flow
import HandS.Style
import HandS.Words
import HandS.WordsList
import HandS.WordsDict
import HandS.Defaults
import HandS.SortInts
import HandS.DictComp
import HandS.Walk
import HandS.More
import PySem.Challenge.RW_espalier_k27_whole_plans_keep_the_tree_e
import KE.KEqSeq
import KE.KStateDown
import Lean
import HandS.Ends
import HandS.WordsExc
import HandS.Head0
import HandS.Head1
import HandS.Head2
import HandS.HeadEnd
import HandS.HeadHook1
import HandS.HeadHook2
set_option Elab.async false
set_option linter.all false
set_option maxRecDepth 100000
set_option maxHeartbeats 2000000
/-! E01: data in the heap (tuples), readings of expressions and statements over data. -/
namespace Esp
open PySem PySem.Spec PyProof.Rows L2

/-! ### heaps -/
def Ex (H H' : Hp) : Prop := ∀ a o, H a = some o → H' a = some o
def ExT (H H' : Hp) : Prop := ∀ a xs, H a = some (.tup xs) → H' a = some (.tup xs)
theorem Ex.refl (H : Hp) : Ex H H := fun _ _ h => h
theorem Ex.trans {H H1 H2 : Hp} (a : Ex H H1) (b : Ex H1 H2) : Ex H H2 := fun x o h => b x o (a x o h)
theorem Ex.new {H : Hp} {p : Addr} {o : HO} (h : H p = none) : Ex H (upd H p o) := fun a u e => by
  rw [upd_ne (ne_of_none e h)]
  exact e
theorem Ex.add {H H1 : Hp} {p : Addr} {o : HO} (e : Ex H H1) (h : H1 p = none) : Ex H (upd H1 p o) := e.trans (Ex.new h)
theorem Ex.mut {H H' : Hp} {p : Addr} {o : HO} (e : Ex H H') (h : H p = none) : Ex H (upd H' p o) := fun a u ha => by
  rw [upd_ne (ne_of_none ha h)]
  exact e a u ha
theorem Ex.t {H H' : Hp} (e : Ex H H') : ExT H H' := fun a _ h => e a _ h
theorem Ex.free {H H' : Hp} {p : Addr} (e : Ex H H') (h : H' p = none) : H p = none := by
  cases h1 : H p with
  | none => rfl
  | some o =>
    rw [e p o h1] at h
    cases h
theorem ExT.refl (H : Hp) : ExT H H := fun _ _ h => h
theorem ExT.trans {H H1 H2 : Hp} (a : ExT H H1) (b : ExT H1 H2) : ExT H H2 := fun x o h => b x o (a x o h)
theorem ExT.put {H : Hp} {p : Addr} {o : HO} (h : ∀ xs, H p ≠ some (.tup xs)) : ExT H (upd H p o) := fun a xs e => by
  by_cases q : a = p
  · subst q
    exact absurd e (h xs)
  · rw [upd_ne q]
    exact e
theorem sz_of {n : Nat} (h : n ≤ 100000) : n ≤ sizeLine := Nat.le_trans h (by decide)
theorem sz_lt {n : Nat} (h : n < 100000) : n < sizeLine := Nat.lt_of_lt_of_le h (by decide)

/-! ### data in the heap -/
mutual
inductive Dn (H : Hp) : V → PyData → Prop
  | non : Dn H .non .none
  | bl (b : Bool) : Dn H (.bl b) (.bool b)
  | int (i : Int) : Dn H (.int i) (.int i)
  | str (x : Str) : Dn H (.str x) (.str x)
  | tup {a : Addr} {xs : List V} {ds : List PyData} : H a = some (.tup xs) → DnAll H xs ds → Dn H (.ref a) (.tuple ds)
inductive DnAll (H : Hp) : List V → List PyData → Prop
  | nil : DnAll H [] []
  | cons {v : V} {vs : List V} {d : PyData} {ds : List PyData} : Dn H v d → DnAll H vs ds → DnAll H (v :: vs) (d :: ds)
end
mutual
theorem Dn.mono {H H' : Hp} (e : ExT H H') : ∀ (d : PyData) (v : V), Dn H v d → Dn H' v d
  | .none, _, h => by cases h; exact .non
  | .bool _, _, h => by cases h; exact .bl _
  | .int _, _, h => by cases h; exact .int _
  | .str _, _, h => by cases h; exact .str _
  | .list _, _, h => by cases h
  | .dict _, _, h => by cases h
  | .tuple ds, _, h => by
    cases h with
    | tup h1 h2 => exact .tup (e _ _ h1) (DnAll.mono e ds _ h2)
theorem DnAll.mono {H H' : Hp} (e : ExT H H') : ∀ (ds : List PyData) (vs : List V), DnAll H vs ds → DnAll H' vs ds
  | [], _, h => by cases h; exact .nil
  | d :: ds, _, h => by
    cases h with
    | cons h1 h2 => exact .cons (Dn.mono e d _ h1) (DnAll.mono e ds _ h2)
end
theorem Dn.t {H H' : Hp} {d : PyData} {v : V} (h : Dn H v d) (e : ExT H H') : Dn H' v d := Dn.mono e d v h
theorem Dn.x {H H' : Hp} {d : PyData} {v : V} (h : Dn H v d) (e : Ex H H') : Dn H' v d := Dn.mono e.t d v h
theorem DnAll.t {H H' : Hp} {ds : List PyData} {vs : List V} (h : DnAll H vs ds) (e : ExT H H') : DnAll H' vs ds := DnAll.mono e ds vs h
theorem DnAll.x {H H' : Hp} {ds : List PyData} {vs : List V} (h : DnAll H vs ds) (e : Ex H H') : DnAll H' vs ds := DnAll.mono e.t ds vs h
theorem DnAll.length {H : Hp} : ∀ {ds : List PyData} {vs : List V}, DnAll H vs ds → vs.length = ds.length
  | [], _, h => by cases h; rfl
  | d :: ds, _, h => by
    cases h with
    | cons h1 h2 => rw [List.length_cons, List.length_cons, DnAll.length h2]
theorem DnAll.get {H : Hp} : ∀ {ds : List PyData} {vs : List V} {i : Nat} {d : PyData}, DnAll H vs ds → ds[i]? = some d → ∃ v, vs[i]? = some v ∧ Dn H v d
  | [], _, _, _, h, e => by simp at e
  | d :: ds, _, 0, _, h, e => by
    cases h with
    | cons h1 h2 =>
      simp at e
      subst e
      exact ⟨_, rfl, h1⟩
  | d :: ds, _, i + 1, _, h, e => by
    cases h with
    | cons h1 h2 =>
      obtain ⟨v, a, b⟩ := DnAll.get (i := i) h2 (by simpa using e)
      exact ⟨v, by simpa using a, b⟩
theorem DnAll.getV {H : Hp} : ∀ {ds : List PyData} {vs : List V} {i : Nat} {v : V}, DnAll H vs ds → vs[i]? = some v → ∃ d, ds[i]? = some d ∧ Dn H v d
  | [], _, _, _, h, e => by cases h; simp at e
  | d :: ds, _, 0, _, h, e => by
    cases h with
    | cons h1 h2 =>
      simp at e
      subst e
      exact ⟨_, rfl, h1⟩
  | d :: ds, _, i + 1, _, h, e => by
    cases h with
    | cons h1 h2 =>
      obtain ⟨v, a, b⟩ := DnAll.getV (i := i) h2 (by simpa using e)
      exact ⟨v, by simpa using a, b⟩
theorem DnAll.append {H : Hp} : ∀ {ds es : List PyData} {vs ws : List V}, DnAll H vs ds → DnAll H ws es → DnAll H (vs ++ ws) (ds ++ es)
  | [], _, _, _, h, g => by cases h; exact g
  | d :: ds, _, _, _, h, g => by
    cases h with
    | cons h1 h2 => exact .cons h1 (DnAll.append h2 g)
theorem DnAll.take {H : Hp} : ∀ {ds : List PyData} {vs : List V} (n : Nat), DnAll H vs ds → DnAll H (vs.take n) (ds.take n)
  | [], _, n, h => by
    cases h
    rw [List.take_nil, List.take_nil]
    exact .nil
  | d :: ds, _, 0, h => .nil
  | d :: ds, _, n + 1, h => by
    cases h with
    | cons h1 h2 => exact .cons h1 (DnAll.take n h2)
theorem DnAll.drop {H : Hp} : ∀ {ds : List PyData} {vs : List V} (n : Nat), DnAll H vs ds → DnAll H (vs.drop n) (ds.drop n)
  | [], _, n, h => by
    cases h
    rw [List.drop_nil, List.drop_nil]
    exact .nil
  | d :: ds, _, 0, h => h
  | d :: ds, _, n + 1, h => by
    cases h with
    | cons h1 h2 => exact DnAll.drop n h2
mutual
theorem Dn.dp {K : PySem.W.Frag} {H : Hp} : ∀ (d : PyData) (v : V), Dn H v d → Dp K H v d
  | .none, _, h => by cases h; exact .non
  | .bool _, _, h => by cases h; exact .bl _
  | .int _, _, h => by cases h; exact .int _
  | .str _, _, h => by cases h; exact .str _
  | .list _, _, h => by cases h
  | .dict _, _, h => by cases h
  | .tuple ds, _, h => by
    cases h with
    | tup h1 h2 => exact .tup (SqT.of h1) (DnAll.dp ds _ h2)
theorem DnAll.dp {K : PySem.W.Frag} {H : Hp} : ∀ (ds : List PyData) (vs : List V), DnAll H vs ds → DpAll K H vs ds
  | [], _, h => by cases h; exact .nil
  | d :: ds, _, h => by
    cases h with
    | cons h1 h2 => exact .cons (Dn.dp d _ h1) (DnAll.dp ds _ h2)
end
/-- a value of flat data is fixed -/
def svl : PyData → Option V
  | .none => some .non
  | .bool b => some (.bl b)
  | .int i => some (.int i)
  | .str x => some (.str x)
  | _ => none
theorem Dn.sv {H : Hp} {v x : V} {d : PyData} (h : Dn H v d) (e : svl d = some x) : v = x := by
  cases h <;> simp [svl] at e <;> exact e
theorem Dn.of {H : Hp} {x : V} {d : PyData} (e : svl d = some x) : Dn H x d := by
  cases d <;> simp [svl] at e <;> subst e <;> constructor

/-! ### the frame -/
abbrev Env' := List (Option PyData)
def EnvOk (H : Hp) (σ : L2.St) (ρ : Env') : Prop := σ.length = ρ.length ∧ ∀ (i : Nat) (d : PyData), ρ[i]? = some (some d) → ∃ v, σ[i]? = some (some v) ∧ Dn H v d
theorem EnvOk.x {H H' : Hp} {σ : L2.St} {ρ : Env'} (h : EnvOk H σ ρ) (e : Ex H H') : EnvOk H' σ ρ := ⟨h.1, fun i d q => by
  obtain ⟨v, a, b⟩ := h.2 i d q
  exact ⟨v, a, b.x e⟩⟩
theorem EnvOk.t {H H' : Hp} {σ : L2.St} {ρ : Env'} (h : EnvOk H σ ρ) (e : ExT H H') : EnvOk H' σ ρ := ⟨h.1, fun i d q => by
  obtain ⟨v, a, b⟩ := h.2 i d q
  exact ⟨v, a, b.t e⟩⟩
theorem EnvOk.set {H : Hp} {σ : L2.St} {ρ : Env'} (h : EnvOk H σ ρ) {v : V} {d : PyData} (hd : Dn H v d) (i : Nat) : EnvOk H (σ.set i (some v)) (ρ.set i (some d)) := by
  refine ⟨by rw [List.length_set, List.length_set, h.1], fun j e q => ?_⟩
  by_cases hj : i = j
  · subst hj
    rw [List.getElem?_set] at q
    rw [List.getElem?_set]
    simp at q
    obtain ⟨hl, q⟩ := q
    subst q
    exact ⟨v, by simp [h.1, hl], hd⟩
  · rw [List.getElem?_set_ne hj] at q
    rw [List.getElem?_set_ne hj]
    exact h.2 j e q
theorem EnvOk.setN {H : Hp} {σ : L2.St} {ρ : Env'} (h : EnvOk H σ ρ) (w : Option V) (i : Nat) : EnvOk H (σ.set i w) (ρ.set i none) := by
  refine ⟨by rw [List.length_set, List.length_set, h.1], fun j e q => ?_⟩
  by_cases hj : i = j
  · subst hj
    rw [List.getElem?_set] at q
    simp at q
  · rw [List.getElem?_set_ne hj] at q
    rw [List.getElem?_set_ne hj]
    exact h.2 j e q
theorem EnvOk.forget {H : Hp} {σ : L2.St} {ρ : Env'} (h : EnvOk H σ ρ) (i : Nat) : EnvOk H σ (ρ.set i none) := by
  refine ⟨by rw [List.length_set, h.1], fun j e q => ?_⟩
  by_cases hj : i = j
  · subst hj
    rw [List.getElem?_set] at q
    simp at q
  · rw [List.getElem?_set_ne hj] at q
    exact h.2 j e q
def EnvLe (ρ' ρ : Env') : Prop := ρ'.length = ρ.length ∧ ∀ (i : Nat) (d : PyData), ρ'[i]? = some (some d) → ρ[i]? = some (some d)
theorem EnvLe.refl (ρ : Env') : EnvLe ρ ρ := ⟨rfl, fun _ _ h => h⟩
theorem EnvLe.ok {H : Hp} {σ : L2.St} {ρ ρ' : Env'} (l : EnvLe ρ' ρ) (h : EnvOk H σ ρ) : EnvOk H σ ρ' := ⟨by rw [h.1, l.1], fun i d q => h.2 i d (l.2 i d q)⟩
theorem EnvLe.nil : EnvLe [] [] := EnvLe.refl []
theorem EnvLe.cons {ρ ρ' : Env'} {x : Option PyData} (l : EnvLe ρ' ρ) : EnvLe (x :: ρ') (x :: ρ) := ⟨by simp [l.1], fun i d q => by
  cases i with
  | zero => exact q
  | succ i => exact l.2 i d (by simpa using q)⟩
theorem EnvLe.drop {ρ ρ' : Env'} {x : Option PyData} (l : EnvLe ρ' ρ) : EnvLe (none :: ρ') (x :: ρ) := ⟨by simp [l.1], fun i d q => by
  cases i with
  | zero => simp at q
  | succ i => exact l.2 i d (by simpa using q)⟩
theorem envOk_nil {H : Hp} : EnvOk H [] [] := ⟨rfl, fun i d h => by simp at h⟩
theorem EnvOk.cons {H : Hp} {σ : L2.St} {ρ : Env'} {v : V} {d : PyData} (h : EnvOk H σ ρ) (hd : Dn H v d) : EnvOk H (some v :: σ) (some d :: ρ) := ⟨by simp [h.1], fun i e q => by
  cases i with
  | zero =>
    have e1 : d = e := by simpa using q
    subst e1
    exact ⟨v, rfl, hd⟩
  | succ i =>
    obtain ⟨u, a, b⟩ := h.2 i e (by simpa using q)
    exact ⟨u, by simpa using a, b⟩⟩
theorem EnvOk.consN {H : Hp} {σ : L2.St} {ρ : Env'} {o : Option V} (h : EnvOk H σ ρ) : EnvOk H (o :: σ) (none :: ρ) := ⟨by simp [h.1], fun i e q => by
  cases i with
  | zero => simp at q
  | succ i =>
    obtain ⟨u, a, b⟩ := h.2 i e (by simpa using q)
    exact ⟨u, by simpa using a, b⟩⟩
theorem envOk_start {H : Hp} (N : List Str) : ∀ {ds : List PyData} {vs : List V}, DnAll H vs ds → EnvOk H (L2.start N vs) (ds.map some ++ List.replicate (N.length - ds.length) none) := by
  intro ds vs h
  unfold L2.start
  rw [h.length]
  generalize N.length - ds.length = n
  have hn : EnvOk H (List.replicate n none) (List.replicate n none) := ⟨by simp, fun i d q => by
    rw [List.getElem?_replicate] at q
    split at q <;> simp at q⟩
  induction ds generalizing vs with
  | nil =>
    cases h
    exact hn
  | cons d ds ih =>
    cases h with
    | cons h1 h2 => exact (ih h2).cons h1

/-! ### expressions over data -/
def EE (te : TE) (ρ : Env') (d : PyData) : Prop := ∀ σ H, EnvOk H σ ρ → ∀ Q : VK, (∀ v H', Ex H H' → Dn H' v d → Q v H') → te σ H Q
def EA (ta : TA) (ρ : Env') (ds : List PyData) : Prop := ∀ σ H, EnvOk H σ ρ → ∀ Q : List V → Hp → Prop, (∀ vs H', Ex H H' → DnAll H' vs ds → Q vs H') → ta σ H Q
def ET (tt : TT) (ρ : Env') (b : Bool) : Prop := ∀ σ H, EnvOk H σ ρ → ∀ Q : Bool → Hp → Prop, (∀ H', Ex H H' → Q b H') → tt σ H Q
def EO (to : TO) (ρ : Env') (o : Option Int) : Prop := ∀ σ H, EnvOk H σ ρ → ∀ Q : Option Int → Hp → Prop, (∀ H', Ex H H' → Q o H') → to σ H Q
/-- a new list of these -/
def EL (te : TE) (ρ : Env') (ds : List PyData) : Prop := ∀ σ H, EnvOk H σ ρ → ∀ Q : VK, (∀ p xs H', Ex H H' → H p = none → H' p = some (.lst xs) → DnAll H' xs ds → Q (.ref p) H') → te σ H Q
def RD (r : R2) (x y z : PyData) : Prop := ∀ H a b, Dn H a x → Dn H b y → ∀ Q : VK, (∀ v H', Ex H H' → Dn H' v z → Q v H') → r a b H Q
def RU (r : V → Hp → VK → Prop) (x z : PyData) : Prop := ∀ H a, Dn H a x → ∀ Q : VK, (∀ v H', Ex H H' → Dn H' v z → Q v H') → r a H Q
def RC (r : List V → Hp → VK → Prop) (xs : List PyData) (z : PyData) : Prop := ∀ H as, DnAll H as xs → ∀ Q : VK, (∀ v H', Ex H H' → Dn H' v z → Q v H') → r as H Q
section
variable {ρ ρ' : Env'} {ta tb tc te : TE} {d x y z : PyData} {ds : List PyData} {tt tu : TT} {a b c : Bool}
theorem ee_var {i : Nat} (h : ρ[i]? = some (some d)) : EE (tVar i) ρ d := fun σ H ok Q q => by
  obtain ⟨v, a, b⟩ := ok.2 i d h
  exact ⟨v, a, q v H (Ex.refl H) b⟩
theorem ee_c {v : V} (h : ∀ H, Dn H v d) : EE (tC v) ρ d := fun σ H ok Q q => q v H (Ex.refl H) (h H)
theorem ee_non : EE (tC .non) ρ .none := ee_c fun _ => .non
theorem ee_int {i : Int} : EE (tC (.int i)) ρ (.int i) := ee_c fun _ => .int i
theorem ee_bl {i : Bool} : EE (tC (.bl i)) ρ (.bool i) := ee_c fun _ => .bl i
theorem ee_str {i : Str} : EE (tC (.str i)) ρ (.str i) := ee_c fun _ => .str i
theorem ee_op {r : R2} (ha : EE ta ρ x) (hb : EE tb ρ y) (hr : RD r x y z) : EE (tOp r ta tb) ρ z := fun σ H ok Q q =>
  ha σ H ok _ fun v H1 e1 d1 => hb σ H1 (ok.x e1) _ fun w H2 e2 d2 => hr H2 v w (d1.x e2) d2 Q fun u H3 e3 d3 => q u H3 ((e1.trans e2).trans e3) d3
theorem ee_un {r : V → Hp → VK → Prop} (ha : EE ta ρ x) (hr : RU r x z) : EE (tUn r ta) ρ z := fun σ H ok Q q =>
  ha σ H ok _ fun v H1 e1 d1 => hr H1 v d1 Q fun u H3 e3 d3 => q u H3 (e1.trans e3) d3
theorem ee_is (h : EE te ρ x) (e : x = y) : EE te ρ y := e ▸ h
theorem et_is (h : ET tt ρ a) (e : a = b) : ET tt ρ b := e ▸ h
theorem EE.le (h : EE te ρ d) (l : EnvLe ρ ρ') : EE te ρ' d := fun σ H ok => h σ H (l.ok ok)
/-! ints -/
theorem rd_I {f : Int → Int → Int} {i j : Int} : RD (rI0 fun i j => .int (f i j)) (.int i) (.int j) (.int (f i j)) := fun H a b ha hb Q q => by
  cases ha
  cases hb
  exact ⟨i, j, rfl, rfl, q _ H (Ex.refl H) (.int _)⟩
theorem rd_B {f : Int → Int → Bool} {i j : Int} : RD (rI0 fun i j => .bl (f i j)) (.int i) (.int j) (.bool (f i j)) := fun H a b ha hb Q q => by
  cases ha
  cases hb
  exact ⟨i, j, rfl, rfl, q _ H (Ex.refl H) (.bl _)⟩
theorem rd_IC {C : Int → Int → Prop} {f : Int → Int → Int} {i j : Int} (hc : C i j) : RD (rI C fun i j => .int (f i j)) (.int i) (.int j) (.int (f i j)) := fun H a b ha hb Q q => by
  cases ha
  cases hb
  exact ⟨i, j, rfl, rfl, hc, q _ H (Ex.refl H) (.int _)⟩
theorem ru_I {f : Int → Int} {i : Int} : RU (rU fun i => .int (f i)) (.int i) (.int (f i)) := fun H a ha Q q => by
  cases ha
  exact ⟨i, rfl, q _ H (Ex.refl H) (.int _)⟩
/-! == of flat things -/
theorem rd_eqV {v w : V} (hx : svl x = some v) (hy : svl y = some w) (hs : scal v w = true) : RD rEq x y (.bool (decide (v = w))) := fun H a b ha hb Q q => by
  rw [ha.sv hx, hb.sv hy]
  exact ⟨hs, q _ H (Ex.refl H) (.bl _)⟩
theorem rd_neV {v w : V} (hx : svl x = some v) (hy : svl y = some w) (hs : scal v w = true) : RD rNe x y (.bool (!decide (v = w))) := fun H a b ha hb Q q => by
  rw [ha.sv hx, hb.sv hy]
  exact ⟨hs, q _ H (Ex.refl H) (.bl _)⟩
theorem dcd {p q : Prop} [Decidable p] [Decidable q] (h : p ↔ q) : decide p = decide q := decide_eq_decide.mpr h
theorem rd_eqI {i j : Int} : RD rEq (.int i) (.int j) (.bool (decide (i = j))) := by
  have h := rd_eqV (x := .int i) (y := .int j) (v := .int i) (w := .int j) rfl rfl rfl
  rwa [dcd (q := i = j) ⟨fun e => by injection e, fun e => by rw [e]⟩] at h
theorem rd_neI {i j : Int} : RD rNe (.int i) (.int j) (.bool (!decide (i = j))) := by
  have h := rd_neV (x := .int i) (y := .int j) (v := .int i) (w := .int j) rfl rfl rfl
  rwa [dcd (q := i = j) ⟨fun e => by injection e, fun e => by rw [e]⟩] at h
theorem rd_eqS {i j : Str} : RD rEq (.str i) (.str j) (.bool (decide (i = j))) := by
  have h := rd_eqV (x := .str i) (y := .str j) (v := .str i) (w := .str j) rfl rfl rfl
  rwa [dcd (q := i = j) ⟨fun e => by injection e, fun e => by rw [e]⟩] at h
theorem rd_neS {i j : Str} : RD rNe (.str i) (.str j) (.bool (!decide (i = j))) := by
  have h := rd_neV (x := .str i) (y := .str j) (v := .str i) (w := .str j) rfl rfl rfl
  rwa [dcd (q := i = j) ⟨fun e => by injection e, fun e => by rw [e]⟩] at h
def isNon : PyData → Bool
  | .none => true
  | _ => false
def rIsN : R2 := fun x y H Q => y = .non ∧ Q (.bl (decide (x = .non))) H
def rNotN : R2 := fun x y H Q => y = .non ∧ Q (.bl (!decide (x = .non))) H
theorem op_isN1 {X : Cx} : OpR X (compareOp .Is) rIsN := op_isN
theorem op_notN1 {X : Cx} : OpR X (compareOp .IsNot) rNotN := op_notN
theorem dn_non {H : Hp} {v : V} (h : Dn H v x) : decide (v = .non) = isNon x := by
  cases h <;> simp [isNon]
theorem rd_isN : RD rIsN x .none (.bool (isNon x)) := fun H a b ha hb Q q => by
  cases hb
  refine ⟨rfl, ?_⟩
  rw [dn_non ha]
  exact q _ H (Ex.refl H) (.bl _)
theorem rd_notN : RD rNotN x .none (.bool (!isNon x)) := fun H a b ha hb Q q => by
  cases hb
  refine ⟨rfl, ?_⟩
  rw [dn_non ha]
  exact q _ H (Ex.refl H) (.bl _)
/-! == at any depth -/
theorem rd_eqD {K : PySem.W.Frag} (hx : SeqAt.shaped x = true) (hy : SeqAt.shaped y = true) : RD (rEqD K) x y (.bool (PyData.eqv x y)) := fun H a b ha hb Q q =>
  ⟨x, y, Dn.dp _ _ ha, Dn.dp _ _ hb, hx, hy, q _ H (Ex.refl H) (.bl _)⟩
theorem rd_neD {K : PySem.W.Frag} (hx : SeqAt.shaped x = true) (hy : SeqAt.shaped y = true) : RD (rNeD K) x y (.bool (!PyData.eqv x y)) := fun H a b ha hb Q q =>
  ⟨x, y, Dn.dp _ _ ha, Dn.dp _ _ hb, hx, hy, q _ H (Ex.refl H) (.bl _)⟩
/-! tuples -/
theorem rd_cat {K : PySem.W.Frag} {as bs : List PyData} (hl : as.length + bs.length ≤ 100000) : RD (rCatA K) (.tuple as) (.tuple bs) (.tuple (as ++ bs)) := fun H a b ha hb Q q => by
  cases ha with
  | tup h1 h2 =>
    cases hb with
    | tup g1 g2 =>
      refine ⟨_, _, _, _, rfl, rfl, SqT.of h1, SqT.of g1, by rw [h2.length, g2.length]; exact sz_of hl, fun e => ?_, fun e0 e => ?_, fun e0 e1 p hp => ?_⟩
      · subst e
        cases h2
        exact q _ H (Ex.refl H) (.tup g1 g2)
      · subst e
        cases g2
        rw [List.append_nil] at q
        exact q _ H (Ex.refl H) (.tup h1 h2)
      · exact q _ _ (Ex.new hp) (.tup upd_same ((h2.append g2).x (Ex.new hp)))
theorem atI_dn {H : Hp} {vs : List V} {i : Int} (h : DnAll H vs ds) (e : atI ds i = some d) : ∃ v, atI vs i = some v ∧ Dn H v d := by
  unfold atI at e ⊢
  rw [h.length]
  cases q : ixN ds.length i with
  | none =>
    rw [q] at e
    cases e
  | some j =>
    rw [q] at e
    exact h.get e
theorem rd_ix {K : PySem.W.Frag} {i : Int} (e : atI ds i = some d) : RD (rIxT K) (.tuple ds) (.int i) d := fun H a b ha hb Q q => by
  cases hb
  cases ha with
  | tup h1 h2 =>
    obtain ⟨v, e1, hd⟩ := atI_dn h2 e
    exact ⟨_, _, i, v, rfl, rfl, SqT.of h1, e1, q v H (Ex.refl H) hd⟩
def cutD (xs : List PyData) (lo hi : Option Int) : List PyData := (xs.drop (HT.sIx xs.length 0 lo)).take (HT.sIx xs.length xs.length hi - HT.sIx xs.length 0 lo)
theorem eo_none : EO tNoPart ρ none := fun _ H _ _ q => q H (Ex.refl H)
theorem eo_some {i : Int} (h : EE te ρ (.int i)) : EO (tPart te) ρ (some i) := fun σ H ok Q q => h σ H ok _ fun v H1 e1 d1 => by
  cases d1
  exact ⟨i, rfl, q H1 e1⟩
theorem ee_sl {K : PySem.W.Frag} {tl th : TO} {lo hi : Option Int} (h : EE te ρ (.tuple ds)) (hl : EO tl ρ lo) (hh : EO th ρ hi) : EE (tSl (rSlA K) te tl th) ρ (.tuple (cutD ds lo hi)) := fun σ H ok Q q =>
  h σ H ok _ fun v H1 e1 d1 => hl σ H1 (ok.x e1) _ fun H2 e2 => hh σ H2 (ok.x (e1.trans e2)) _ fun H3 e3 => by
    cases d1 with
    | tup h1 h2 =>
      have e13 := e2.trans e3
      refine ⟨_, _, rfl, SqT.of (e13 _ _ h1), fun hw => ?_, fun hw p hp => ?_⟩
      · refine q _ _ (e1.trans e13) ?_
        rw [h2.length] at hw
        have hc : cutD ds lo hi = ds := by
          unfold cutD
          rw [hw.1, hw.2, List.drop_zero, Nat.sub_zero, List.take_length]
        rw [hc]
        exact .tup (e13 _ _ h1) (h2.x e13)
      · refine q _ _ ((e1.trans e13).add hp) (.tup upd_same ?_)
        unfold cutV cutD
        rw [h2.length]
        exact ((h2.x (e13.add hp)).drop _).take _
theorem ea_nil : EA tNil ρ [] := fun _ H _ _ q => q [] H (Ex.refl H) .nil
theorem ea_cons {tr : TA} (h : EE te ρ x) (hr : EA tr ρ ds) : EA (tCons te tr) ρ (x :: ds) := fun σ H ok Q q =>
  h σ H ok _ fun v H1 e1 d1 => hr σ H1 (ok.x e1) _ fun vs H2 e2 d2 => q _ H2 (e1.trans e2) (.cons (d1.x e2) d2)
theorem ee_tup {ta : TA} (h : EA ta ρ ds) (hl : ds.length ≤ 100000 := by exact Nat.le_of_ble_eq_true rfl) : EE (tTup ta) ρ (.tuple ds) := fun σ H ok Q q =>
  h σ H ok _ fun vs H1 e1 d1 => ⟨by rw [d1.length]; exact sz_of hl, fun p hp => q _ _ (e1.add hp) (.tup upd_same (d1.x (Ex.new hp)))⟩
theorem el_lst {ta : TA} (h : EA ta ρ ds) (hl : ds.length ≤ 100000 := by exact Nat.le_of_ble_eq_true rfl) : EL (tLst ta) ρ ds := fun σ H ok Q q =>
  h σ H ok _ fun vs H1 e1 d1 => ⟨by rw [d1.length]; exact sz_of hl, fun p hp => q _ _ _ (e1.add hp) (e1.free hp) upd_same (d1.x (Ex.new hp))⟩
theorem ee_cb {r : List V → Hp → VK → Prop} {ta : TA} (h : EA ta ρ ds) (hr : RC r ds z) : EE (tCB r ta) ρ z := fun σ H ok Q q =>
  h σ H ok _ fun vs H1 e1 d1 => hr H1 vs d1 Q fun v H2 e2 d2 => q v H2 (e1.trans e2) d2
def rLenS (K : PySem.W.Frag) : List V → Hp → VK → Prop := fun xs H Q => ∃ p ys, xs = [.ref p] ∧ (SqL K H p ys ∨ SqT K H p ys) ∧ Q (.int ys.length) H
theorem call_lenS {X : Cx} : CallR X (.builtin "len") (rLenS X.K) := call_len_seq
theorem rc_len {K : PySem.W.Frag} : RC (rLenS K) [.tuple ds] (.int ds.length) := fun H as h Q q => by
  cases h with
  | cons h1 h2 =>
    cases h2
    cases h1 with
    | tup g1 g2 =>
      refine ⟨_, _, rfl, .inr (SqT.of g1), ?_⟩
      rw [g2.length]
      exact q _ H (Ex.refl H) (.int _)
theorem ee_lenL {K : PySem.W.Frag} (h : EL te ρ ds) : EE (tCB (rLenS K) (tCons te tNil)) ρ (.int ds.length) := fun σ H ok Q q =>
  h σ H ok _ fun p xs H1 e1 n h1 d1 => ⟨p, xs, rfl, .inl (SqL.of h1), by
    rw [d1.length]
    exact q _ H1 e1 (.int _)⟩
def rTupT (K : PySem.W.Frag) : List V → Hp → VK → Prop := fun xs H Q => ∃ a ys, xs = [.ref a] ∧ SqT K H a ys ∧ Q (.ref a) H
theorem call_tupT {X : Cx} : CallR X (.type "tuple") (rTupT X.K) := call_tupleT
theorem rc_tup {K : PySem.W.Frag} : RC (rTupT K) [.tuple ds] (.tuple ds) := fun H as h Q q => by
  cases h with
  | cons h1 h2 =>
    cases h2
    cases h1 with
    | tup g1 g2 => exact ⟨_, _, rfl, SqT.of g1, q _ H (Ex.refl H) (.tup g1 g2)⟩
def rTupO (K : PySem.W.Frag) : List V → Hp → VK → Prop := fun xs H Q => ∃ p ys, xs = [.ref p] ∧ ((SqL K H p ys ∧ ∀ l, H l = none → Q (.ref l) (upd H l (.tup ys))) ∨ (SqT K H p ys ∧ Q (.ref p) H))
theorem call_tupO {X : Cx} : CallR X (.type "tuple") (rTupO X.K) := call_tuple_of
theorem ee_tupL {K : PySem.W.Frag} (h : EL te ρ ds) : EE (tCB (rTupO K) (tCons te tNil)) ρ (.tuple ds) := fun σ H ok Q q =>
  h σ H ok _ fun p xs H1 e1 n h1 d1 => ⟨p, xs, rfl, .inl ⟨SqL.of h1, fun l hl => q _ _ (e1.add hl) (.tup upd_same (d1.x (Ex.new hl)))⟩⟩
/-- all of a new list of bools -/
theorem dn_bools {H : Hp} : ∀ {bs : List Bool} {xs : List V}, DnAll H xs (bs.map PyData.bool) → xs = bs.map V.bl
  | [], _, h => by cases h; rfl
  | b :: bs, _, h => by
    cases h with
    | cons h1 h2 =>
      cases h1
      rw [dn_bools h2, List.map_cons]
theorem dn_ints {H : Hp} : ∀ {ns : List Int} {xs : List V}, DnAll H xs (ns.map PyData.int) → xs = ns.map V.int
  | [], _, h => by cases h; rfl
  | b :: bs, _, h => by
    cases h with
    | cons h1 h2 =>
      cases h1
      rw [dn_ints h2, List.map_cons]
theorem dnAll_ints {H : Hp} : ∀ (ns : List Int), DnAll H (ns.map V.int) (ns.map PyData.int)
  | [] => .nil
  | n :: ns => .cons (.int n) (dnAll_ints ns)
theorem ee_allL {K : PySem.W.Frag} {bs : List Bool} (h : EL te ρ (bs.map PyData.bool)) : EE (tCB (rAll K) (tCons te tNil)) ρ (.bool (bs.all id)) := fun σ H ok Q q =>
  h σ H ok _ fun p xs H1 e1 n h1 d1 => by
    rw [dn_bools d1] at h1
    exact ⟨p, bs, rfl, SqL.of h1, q _ H1 e1 (.bl _)⟩
/-! isinstance -/
def tyD : PyData → String
  | .none => "NoneType"
  | .bool _ => "bool"
  | .int _ => "int"
  | .str _ => "str"
  | .tuple _ => "tuple"
  | .list _ => "list"
  | .dict _ => "dict"
theorem tyX_of {K : PySem.W.Frag} {H : Hp} {v : V} (h : Dn H v x) : TyX K H v (.type (tyD x)) := by
  cases h with
  | non => exact .base .non
  | bl b => exact .base (.bl b)
  | int i => exact .base (.int i)
  | str s => exact .base (.str s)
  | tup a b => exact .base (.tup a)
theorem ee_isi {K : PySem.W.Frag} {n : String} (h : EE te ρ x) (hk : kitB (tyD x) n = some b) : EE (tCB (rIsi K) (tCons te (tCons (tC (.ty n)) tNil))) ρ (.bool b) := fun σ H ok Q q =>
  h σ H ok _ fun v H1 e1 d1 => ⟨v, .ty n, _, .type n, b, rfl, .ty n, tyX_of d1, kit_ty hk, q _ H1 e1 (.bl _)⟩
/-! calls -/
def spF (R : List PyData → PyData → Prop) : Sp := fun vs H Q _ => ∃ ds d, DnAll H vs ds ∧ R ds d ∧ ∀ v H', Ex H H' → Dn H' v d → Q v H'
theorem ee_call {R : List PyData → PyData → Prop} {E : XK} {ta : TA} (h : EA ta ρ ds) (hr : R ds d) : EE (tCall (spF R) [] E ta) ρ d := fun σ H ok Q q =>
  h σ H ok _ fun vs H1 e1 d1 => ⟨ds, d, by rw [List.append_nil]; exact d1, hr, fun v H2 e2 d2 => q v H2 (e1.trans e2) d2⟩
/-! tests -/
theorem et_test (h : EE te ρ (.bool b)) : ET (tTest te) ρ b := fun σ H ok Q q => h σ H ok _ fun v H1 e1 d1 => by
  cases d1
  exact ⟨b, rfl, q H1 e1⟩
theorem et_B (h : EE te ρ (.bool b)) : ET (tB te) ρ b := fun σ H ok Q q => h σ H ok _ fun v H1 e1 d1 => by
  cases d1
  exact ⟨b, rfl, q H1 e1⟩
theorem et_not (h : ET tt ρ a) : ET (tNot tt) ρ (!a) := fun σ H ok Q q => h σ H ok _ fun H1 e1 => q H1 e1
theorem et_and (h1 : ET tt ρ a) (h2 : a = true → ET tu ρ b) : ET (tAnd tt tu) ρ (a && b) := fun σ H ok Q q => h1 σ H ok _ fun H1 e1 => by
  cases a with
  | true =>
    show tu σ H1 Q
    exact h2 rfl σ H1 (ok.x e1) Q fun H3 e3 => q H3 (e1.trans e3)
  | false =>
    show Q false H1
    exact q H1 e1
theorem et_or (h1 : ET tt ρ a) (h2 : a = false → ET tu ρ b) : ET (tOr tt tu) ρ (a || b) := fun σ H ok Q q => h1 σ H ok _ fun H1 e1 => by
  cases a with
  | true =>
    show Q true H1
    exact q H1 e1
  | false =>
    show tu σ H1 Q
    exact h2 rfl σ H1 (ok.x e1) Q fun H3 e3 => q H3 (e1.trans e3)
theorem ee_andV (h1 : EE ta ρ (.bool a)) (h2 : a = true → EE tb ρ (.bool b)) : EE (tAndV ta tb) ρ (.bool (a && b)) := fun σ H ok Q q => h1 σ H ok _ fun v H1 e1 d1 => by
  cases d1
  refine ⟨a, rfl, ?_⟩
  cases a with
  | true =>
    show tb σ H1 Q
    exact h2 rfl σ H1 (ok.x e1) Q fun w H3 e3 d3 => q w H3 (e1.trans e3) d3
  | false =>
    show Q (.bl false) H1
    exact q _ H1 e1 (.bl _)
theorem ee_orV (h1 : EE ta ρ (.bool a)) (h2 : a = false → EE tb ρ (.bool b)) : EE (tOrV ta tb) ρ (.bool (a || b)) := fun σ H ok Q q => h1 σ H ok _ fun v H1 e1 d1 => by
  cases d1
  refine ⟨a, rfl, ?_⟩
  cases a with
  | true =>
    show Q (.bl true) H1
    exact q _ H1 e1 (.bl _)
  | false =>
    show tb σ H1 Q
    exact h2 rfl σ H1 (ok.x e1) Q fun w H3 e3 d3 => q w H3 (e1.trans e3) d3
theorem ee_notV (h1 : EE ta ρ (.bool a)) : EE (tNotV ta) ρ (.bool (!a)) := fun σ H ok Q q => h1 σ H ok _ fun v H1 e1 d1 => by
  cases d1
  exact ⟨a, rfl, q _ H1 e1 (.bl _)⟩
theorem ee_chain {r r' : R2} (ha : EE ta ρ x) (hb : EE tb ρ y) (hc : a = true → EE tc ρ z) (h1 : RD r x y (.bool a)) (h2 : a = true → RD r' y z (.bool b)) : EE (tChain r r' ta tb tc) ρ (.bool (a && b)) := fun σ H ok Q q =>
  ha σ H ok _ fun v H1 e1 d1 => hb σ H1 (ok.x e1) _ fun w H2 e2 d2 => h1 H2 v w (d1.x e2) d2 _ fun k H3 e3 d3 => by
    cases d3
    refine ⟨a, rfl, ?_⟩
    have e13 := (e1.trans e2).trans e3
    cases a with
    | true =>
      show tc σ H3 _
      exact hc rfl σ H3 (ok.x e13) _ fun u H4 e4 d4 => h2 rfl H4 w u (d2.x (e3.trans e4)) d4 _ fun k H5 e5 d5 => q k H5 ((e13.trans e4).trans e5) d5
    | false =>
      show Q (.bl false) H3
      exact q _ H3 e13 (.bl _)
end

/-! ### comprehensions over a tuple -/
theorem EnvOk.wipe1 {H : Hp} {σ : L2.St} {ρ : Env'} (h : EnvOk H σ ρ) (i : Nat) : EnvOk H (wipe σ [i]) (ρ.set i none) := by
  show EnvOk H (σ.set i none) (ρ.set i none)
  exact h.setN none i
theorem wipe1_set (σ : L2.St) (i : Nat) (v : Option V) : wipe ((wipe σ [i]).set i v) [i] = wipe σ [i] := by
  show ((σ.set i none).set i v).set i none = σ.set i none
  rw [List.set_set, List.set_set]
theorem filterMap_take {α β : Type} {l : List α} {i : Nat} {x : α} (f : α → Option β) (h : l[i]? = some x) : (l.take (i + 1)).filterMap f = (l.take i).filterMap f ++ (match f x with
    | some y => [y]
    | none => []) := by
  obtain ⟨hi, e⟩ := List.getElem?_eq_some_iff.mp h
  rw [List.take_succ_eq_append_getElem hi, List.filterMap_append, e]
  congr 1
  cases q : f x <;> simp [q]
theorem el_lcT {K : PySem.W.Frag} {ti te : TE} {tt : TT} {i : Nat} {ρ : Env'} {ds : List PyData} (f : PyData → Option PyData) (hi : EE ti ρ (.tuple ds)) (hz : ds.length < 100000)
    (ht : ∀ d ∈ ds, ET tt (ρ.set i (some d)) (f d).isSome) (he : ∀ d ∈ ds, ∀ y, f d = some y → EE te (ρ.set i (some d)) y) : EL (tLc (iTup K ti) (gName i) tt te [i]) ρ (ds.filterMap f) := fun σ H ok Q q =>
  hi σ H ok _ fun v H1 e1 d1 => by
    cases d1 with
    | @tup a xs _ h1 h2 =>
      refine ⟨a, rfl, ⟨xs, SqT.of h1⟩, fun D hD => ?_⟩
      refine lc_tup (K := K) (a := a) (xs := xs) (fun j H2 => Ex H1 H2 ∧ ∃ ys, H2 D = some (.lst ys) ∧ DnAll H2 ys ((ds.take j).filterMap f)) ⟨Ex.new hD, [], upd_same, .nil⟩ (fun j H2 _ p => SqT.of (p.1 _ _ h1)) ?_ ?_
      · rintro j x H2 hx ⟨e2, ys, hy, hd⟩
        obtain ⟨d, hd1, hd2⟩ := h2.getV hx
        have hm : d ∈ ds := List.mem_of_getElem? hd1
        show wipe ((wipe σ [i]).set i (some x)) [i] = wipe σ [i] ∧ _
        refine ⟨wipe1_set _ _ _, ?_⟩
        have ok2 : EnvOk H2 ((wipe σ [i]).set i (some x)) (ρ.set i (some d)) := by
          have k := ((ok.x (e1.trans e2)).wipe1 i).set (hd2.x e2) i
          rwa [List.set_set] at k
        refine ht d hm _ H2 ok2 _ fun H3 e3 => ?_
        cases fd : f d with
        | none =>
          rw [Option.isSome_none]
          refine iteF ⟨e2.trans e3, ys, e3 _ _ hy, ?_⟩
          rw [filterMap_take f hd1, fd]
          simp only [List.append_nil]
          exact hd.x e3
        | some y =>
          rw [Option.isSome_some]
          refine iteT ?_
          refine he d hm y fd _ H3 (ok2.x e3) _ fun w H4 e4 d4 => ?_
          have hD4 : H4 D = some (.lst ys) := e4 _ _ (e3 _ _ hy)
          have hlen : ys.length < 100000 := by
            rw [hd.length]
            have := List.length_filterMap_le f (ds.take j)
            have := List.length_take_le' j ds
            omega
          have hne : ∀ b o, H1 b = some o → b ≠ D := fun b o e => ne_of_none e hD
          have et : ExT H4 (upd H4 D (.lst (ys ++ [w]))) := ExT.put fun zs z => by
            rw [hD4] at z
            cases z
          refine ⟨ys, hD4, sz_lt hlen, fun b o e => ?_, ys ++ [w], upd_same, ?_⟩
          · rw [upd_ne (hne b o e)]
            exact e4 _ _ (e3 _ _ (e2 _ _ e))
          · rw [filterMap_take f hd1, fd]
            exact (((hd.x e3).x e4).t et).append (.cons (d4.t et) .nil)
      · rintro H2 ⟨e2, ys, hy, hd⟩
        rw [h2.length, List.take_length] at hd
        exact q D ys H2 (e1.trans e2) (e1.free hD) hy hd

/-! ### statements over data -/
inductive Out where
  | nx (ρ : Env')
  | rt (d : PyData)
def OutOk (D : Ends) (H : Hp) : Out → Prop
  | .nx ρ' => ∀ σ' H', Ex H H' → EnvOk H' σ' ρ' → D.nx σ' H'
  | .rt d => ∀ v H', Ex H H' → Dn H' v d → D.rt v H'
theorem OutOk.x {D : Ends} {H H' : Hp} {o : Out} (h : OutOk D H o) (e : Ex H H') : OutOk D H' o := by
  cases o with
  | nx ρ => exact fun σ1 H1 e1 k => h σ1 H1 (e.trans e1) k
  | rt d => exact fun v H1 e1 k => h v H1 (e.trans e1) k
def SO (ts : TS) (ρ : Env') (o : Out) : Prop := ∀ σ H (D : Ends), EnvOk H σ ρ → OutOk D H o → ts D σ H
section
variable {ρ ρ' ρ1 : Env'} {te : TE} {d x y z : PyData} {ds : List PyData} {tt : TT} {b : Bool} {ts t u : TS} {o : Out}
theorem so_set {i : Nat} (h : EE te ρ d) : SO (tAsg te (gName i)) ρ (.nx (ρ.set i (some d))) := fun σ H D ok k => h σ H ok _ fun v H1 e1 d1 => k _ H1 e1 ((ok.x e1).set d1 i)
theorem so_ret (h : EE te ρ d) : SO (tRet te) ρ (.rt d) := fun σ H D ok k => h σ H ok _ fun v H1 e1 d1 => k v H1 e1 d1
theorem so_seq (h : SO t ρ (.nx ρ1)) (g : SO u ρ1 o) : SO (tSeq t u) ρ o := fun σ H D ok k => h σ H _ ok fun σ1 H1 e1 ok1 => g σ1 H1 D ok1 (k.x e1)
theorem so_seqR (h : SO t ρ (.rt d)) : SO (tSeq t u) ρ (.rt d) := fun σ H D ok k => h σ H _ ok k
theorem so_next : SO tNext ρ (.nx ρ) := fun σ H D ok k => k σ H (Ex.refl H) ok
theorem so_if {o1 o2 : Out} (h : ET tt ρ b) (h1 : b = true → SO t ρ o) (h2 : b = false → SO u ρ o) : SO (tIfS tt t u) ρ o := fun σ H D ok k => h σ H ok _ fun H1 e1 => by
  cases b with
  | true =>
    show t D σ H1
    exact h1 rfl σ H1 D (ok.x e1) (k.x e1)
  | false =>
    show u D σ H1
    exact h2 rfl σ H1 D (ok.x e1) (k.x e1)
theorem so_ifT (h : ET tt ρ true) (h1 : SO t ρ o) : SO (tIfS tt t u) ρ o := so_if (o1 := o) (o2 := o) h (fun _ => h1) fun e => nomatch e
theorem so_ifF (h : ET tt ρ false) (h1 : SO u ρ o) : SO (tIfS tt t u) ρ o := so_if (o1 := o) (o2 := o) h (fun e => nomatch e) fun _ => h1
theorem so_ifFn (h : ET tt ρ false) : SO (tIfS tt t tNext) ρ (.nx ρ) := so_ifF h so_next
/-- an if in front of the rest -/
theorem so_ifs {rest : TS} (h : ET tt ρ b) (h1 : b = true → SO (tSeq t rest) ρ o) (h2 : b = false → SO (tSeq u rest) ρ o) : SO (tSeq (tIfS tt t u) rest) ρ o := fun σ H D ok k => h σ H ok _ fun H1 e1 => by
  cases b with
  | true =>
    show tSeq t rest D σ H1
    exact h1 rfl σ H1 D (ok.x e1) (k.x e1)
  | false =>
    show tSeq u rest D σ H1
    exact h2 rfl σ H1 D (ok.x e1) (k.x e1)
theorem so_nxs {rest : TS} (h : SO rest ρ o) : SO (tSeq tNext rest) ρ o := h
theorem so_assoc {rest : TS} (h : SO (tSeq t (tSeq u rest)) ρ o) : SO (tSeq (tSeq t u) rest) ρ o := h
theorem so_weak (h : SO t ρ (.nx ρ1)) (l : EnvLe ρ' ρ1) : SO t ρ (.nx ρ') := fun σ H D ok k => h σ H D ok fun σ1 H1 e1 ok1 => k σ1 H1 e1 (l.ok ok1)
theorem so_pre (h : SO t ρ' o) (l : EnvLe ρ' ρ) : SO t ρ o := fun σ H D ok k => h σ H D (l.ok ok) k
/-! a, b, c = a tuple -/
def setAll (ρ : Env') : List Nat → List PyData → Env'
  | i :: is, d :: ds => setAll (ρ.set i (some d)) is ds
  | _, _ => ρ
inductive GN : TGs → List Nat → Prop
  | nil : GN gNil []
  | cons {t : TGs} {i : Nat} {is : List Nat} (h : GN t is) : GN (gCons (gName i) t) (i :: is)
theorem GN.run {t : TGs} {is : List Nat} (g : GN t is) : ∀ {ρ : Env'} {ds : List PyData} {vs : List V} {σ : L2.St} {H : Hp} {Q : L2.St → Hp → Prop}, EnvOk H σ ρ → DnAll H vs ds → ds.length = is.length → (∀ σ', EnvOk H σ' (setAll ρ is ds) → Q σ' H) → t vs σ H Q := by
  induction g with
  | nil =>
    intro ρ ds vs σ H Q ok hd hl k
    cases ds with
    | nil =>
      cases hd
      exact ⟨rfl, k σ ok⟩
    | cons d ds => cases hl
  | @cons t i is h ih =>
    intro ρ ds vs σ H Q ok hd hl k
    cases ds with
    | nil => cases hl
    | cons d ds =>
      cases hd with
      | cons h1 h2 => exact ⟨_, _, rfl, ih (ok.set h1 i) h2 (by simpa using hl) k⟩
theorem so_unp {K : PySem.W.Frag} {n : Nat} {tg : TGs} {is : List Nat} (h : EE te ρ (.tuple ds)) (g : GN tg is) (hl : ds.length = is.length) (hn : ds.length = n) : SO (tAsg te (gTup K n tg)) ρ (.nx (setAll ρ is ds)) := fun σ H D ok k =>
  h σ H ok _ fun v H1 e1 d1 => by
    cases d1 with
    | tup h1 h2 => exact ⟨_, _, rfl, SqT.of h1, by rw [h2.length, hn], g.run (ok.x e1) h2 hl fun σ' ok' => k σ' H1 e1 ok'⟩
theorem so_par {i j : Nat} {ta : TA} (h : EA ta ρ [x, y]) : SO (tPar i j ta) ρ (.nx ((ρ.set i (some x)).set j (some y))) := fun σ H D ok k =>
  h σ H ok _ fun vs H1 e1 d1 => by
    cases d1 with
    | cons h1 h2 =>
      cases h2 with
      | cons h2 h3 =>
        cases h3
        exact ⟨_, _, rfl, k _ H1 e1 (((ok.x e1).set h1 i).set h2 j)⟩
/-! a search over a range -/
theorem so_for {ti : TI} {v : Nat} {n : Nat} {lo : Int} {tb : TS} {f : Nat → Option PyData} (hi : ∀ σ H, EnvOk H σ ρ → ∀ R : It → Hp → Prop, (∀ H', Ex H H' → R (Itr lo n) H') → ti σ H R)
    (hb : ∀ i, i < n → (∀ j, j < i → f j = none) → match f i with
      | none => SO tb (ρ.set v (some (.int (lo + i)))) (.nx (ρ.set v none))
      | some d => SO tb (ρ.set v (some (.int (lo + i)))) (.rt d))
    (ho : match (List.range n).findSome? f with
      | none => o = .nx (ρ.set v none)
      | some d => o = .rt d) : SO (tFor ti (gName v) tb) ρ o := fun σ H D ok k => hi σ H ok _ fun H1 e1 => by
  refine for_range (lo := lo) (n := n) (fun i σ' H' => Ex H1 H' ∧ EnvOk H' σ' (ρ.set v none) ∧ ∀ j, j < i → f j = none) ⟨Ex.refl _, (ok.x e1).forget v, fun j h => absurd h (Nat.not_lt_zero j)⟩ ?_ ?_
  · rintro i σ2 H2 hin ⟨e2, ok2, hf⟩
    have ok3 : EnvOk H2 (σ2.set v (some (.int (lo + i)))) (ρ.set v (some (.int (lo + i)))) := by
      have q := ok2.set (Dn.int (H := H2) (lo + i)) v
      rwa [List.set_set] at q
    have hbi := hb i hin hf
    show tb _ (σ2.set v (some (.int (lo + i)))) H2
    cases fi : f i with
    | none =>
      rw [fi] at hbi
      refine hbi _ H2 _ ok3 fun σ4 H4 e4 ok4 => ?_
      refine ⟨e2.trans e4, ok4, fun j hj => ?_⟩
      rcases Nat.lt_succ_iff_lt_or_eq.mp hj with h | h
      · exact hf j h
      · rw [h]; exact fi
    | some d =>
      rw [fi] at hbi
      refine hbi _ H2 _ ok3 ?_
      have hs : (List.range n).findSome? f = some d := by
        rw [List.findSome?_eq_some_iff]
        refine ⟨List.range i, i, (List.range' (i + 1) (n - i - 1)), ?_, fi, fun a ha => hf a (List.mem_range.mp ha)⟩
        rw [List.range_eq_range', List.range_eq_range']
        have : n = i + (1 + (n - i - 1)) := by omega
        rw [show List.range' 0 n = List.range' 0 (i + (1 + (n - i - 1))) by rw [← this], ← List.range'_append_1, ← List.range'_append_1]
        simp
      rw [hs] at ho
      subst ho
      exact fun w H4 e4 d4 => k w H4 ((e1.trans e2).trans e4) d4
  · rintro σ2 H2 ⟨e2, ok2, hf⟩
    have hs : (List.range n).findSome? f = none := by
      rw [List.findSome?_eq_none_iff]
      intro x hx
      exact hf x (List.mem_range.mp hx)
    rw [hs] at ho
    subst ho
    exact k σ2 H2 (e1.trans e2) ok2
theorem ti_rng1 {ta : TA} {n : Nat} (h : EA ta ρ [.int n]) (hn : n ≤ 100000) : ∀ σ H, EnvOk H σ ρ → ∀ R : It → Hp → Prop, (∀ H', Ex H H' → R (Itr 0 n) H') → iRng1 ta σ H R := fun σ H ok R q =>
  h σ H ok _ fun vs H1 e1 d1 => by
    cases d1 with
    | cons h1 h2 =>
      cases h1
      cases h2
      exact ⟨n, rfl, by omega, by omega, q H1 e1⟩
theorem ti_rng2 {ta : TA} {lo hi : Int} {n : Nat} (h : EA ta ρ [.int lo, .int hi]) (h1 : -100000 ≤ lo ∧ lo ≤ 100000) (h2 : -100000 ≤ hi ∧ hi ≤ 100000) (hn : n = (hi - lo).toNat) : ∀ σ H, EnvOk H σ ρ → ∀ R : It → Hp → Prop, (∀ H', Ex H H' → R (Itr lo n) H') → iRng2 ta σ H R := fun σ H ok R q =>
  h σ H ok _ fun vs H1 e1 d1 => by
    cases d1 with
    | cons g1 g2 =>
      cases g1
      cases g2 with
      | cons g1 g2 =>
        cases g1
        cases g2
        subst hn
        exact ⟨lo, hi, rfl, by omega, q H1 e1⟩
end

/-! ### a def over data -/
abbrev FnP (K : PySem.W.Frag) (x qual : Str) (st : Stmt) (f : Addr) (fd : FuncData) : Prop := FunD K x qual (defArgs st) (defBody st) (defScope st) [] [] f fd
section
variable {P : Program} {w : World} {K : PySem.W.Frag} {mg : Str → Option Value} {base : Heap}
theorem fn_data {x qual : Str} {st : Stmt} {f : Addr} {fd : FuncData} {N ps : List Str} {k : Nat} {R : List PyData → PyData → Prop} (F : FnP K x qual st f fd) (S : FnScope N ps (defScope st)) (len : ∀ ds d, R ds d → ds.length = ps.length)
    (hbody : ∀ (cdv : Value) (A : Around) (outer : List Env) (s : Shared) (H : Hp) (E : XK), Room k (A.deeper (envOfC qual (defScope st) s.heap.objs.size f cdv)) → ∀ ds d, R ds d →
      ∃ t, PSs (cxOf CX0 P w K mg base N qual (defScope st) f cdv A outer s H E).nox (defBody st) t ∧ (SO t (ds.map some ++ List.replicate (N.length - ds.length) none) (.rt d) ∨ (d = .none ∧ ∃ ρ, SO t (ds.map some ++ List.replicate (N.length - ds.length) none) (.nx ρ)))) :
    FnOk P w K mg base CX0 (k + 1) f fd ps (spF R) := by
  refine F.ok S (fun vs H Q E ⟨ds, d, h1, h2, _⟩ => by rw [h1.length, len ds d h2]) (fun cdv A outer s H vs Q E hr ⟨ds, d, h1, h2, q⟩ => ?_)
  obtain ⟨t, hp, hso⟩ := hbody cdv A outer s H E hr ds d h2
  refine ⟨t, hp.nox, ?_⟩
  rcases hso with hso | ⟨hd, ρ, hso⟩
  · exact hso _ H _ (envOk_start N h1) fun v H' e hv => q v H' e hv
  · subst hd
    exact hso _ H _ (envOk_start N h1) fun σ' H' e _ => q .non H' e .non
end
end Esp
set_option Elab.async false
set_option linter.all false
set_option maxRecDepth 100000
set_option maxHeartbeats 4000000
/-! E02: defs of the text as data relations; what the walk asks of the module. -/
namespace Esp
open PySem PySem.Spec PyProof.Rows L2
/-- what the module's names hold -/
structure Bu (mg : Str → Option Value) : Prop where
  len : mg "len" = none
  isinstance : mg "isinstance" = none
  all : mg "all" = none
  range : mg "range" = none
  tuple : mg "tuple" = none
  sorted : mg "sorted" = none
  dict : mg "dict" = none
  list : mg "list" = none
  max : mg "max" = none
  min : mg "min" = none
  int : mg "int" = none
  bool : mg "bool" = none
  LEAF_MOST : ∃ t, mg "LEAF_MOST" = some (.int 4 t)
  INNER_MOST : ∃ t, mg "INNER_MOST" = some (.int 5 t)
  LEAST : ∃ t, mg "LEAST" = some (.int 2 t)
/-- a def that may be called: its promise at a level -/
structure Cal (P : Program) (w : World) (K : PySem.W.Frag) (mg : Str → Option Value) (base : Heap) (k : Nat) (x : Str) (ps : List Str) (sp : Sp) : Prop where
  ex : ∃ f fd, mg x = some (.ref f) ∧ FnOk P w K mg base CX0 k f fd ps sp ∧ PySem.W.keepIn K (.ref f) = true ∧ Binds K fd ps []
section
variable {X : Cx} {k j : Nat} {x : Str} {ps : List Str} {sp : Sp} {e : Expr} {es : List Expr} {p pos : Pos} {t : TA}
theorem pe_cl (c : Cal X.prog X.w X.K X.mg X.base k x ps sp) (hr : Room j X.A) (hj : k ≤ j) (hg : Gl X x) (ha : PA X (e :: es) t) (hdb : (x == ("__debug__" : Str)) = false := by decide)
    (he : starEach (e :: es) X.env = (false, eval e X.env) :: starEach es X.env := by rfl) (hpl : (backTo pos (starEach es X.env)).any (·.1) = false := by rfl) : PE X (.Call (.Name x p) (e :: es) [] pos) (tCall sp [] E0 t) := by
  obtain ⟨f, fd, h1, h2, h3, h4⟩ := c.ex
  exact pe_call h2 (hr.mono hj) hg h1 h3 h4 .nil pass0 ha hdb he hpl
theorem pe_cl0 (c : Cal X.prog X.w X.K X.mg X.base k x ps sp) (hr : Room j X.A) (hj : k ≤ j) (hg : Gl X x) (hdb : (x == ("__debug__" : Str)) = false := by decide) : PE X (.Call (.Name x p) [] [] pos) (tCall sp [] E0 tNil) := by
  obtain ⟨f, fd, h1, h2, h3, h4⟩ := c.ex
  exact pe_call0 h2 (hr.mono hj) hg h1 h3 h4 .nil pass0 hdb
theorem pe_gi {i : Int} (hg : Gl X x) (h : ∃ t, X.mg x = some (.int i t)) (hd : (x == ("__debug__" : Str)) = false := by decide) : PE X (.Name x pos) (tC (.int i)) := by
  obtain ⟨t, h⟩ := h
  exact pe_glob hg h ⟨t, rfl⟩ hd
end
theorem cal_of {P : Program} {w : World} {K : PySem.W.Frag} {mg : Str → Option Value} {base : Heap} {k : Nat} {x : Str} {ps : List Str} {sp : Sp} {st : Stmt} {f : Addr} {fd : FuncData} (F : FnP K x x st f fd) (hm : mg x = some (.ref f)) (h : FnOk P w K mg base CX0 k f fd ps sp)
    (hb : ∀ (kV doc pm : Value) (an : Option Addr) (cdv ct : Value) (us : List Value), us.length = ps.length → bindArgs (PySem.W.fnOf x x (defArgs st) (defBody st) (defScope st) .none kV doc pm an cdv ct) ⟨us, []⟩ = pure (ps.zip us)) : Cal P w K mg base k x ps sp := ⟨f, fd, hm, h, F.kp, F.bindsN hb⟩

/-! ### statements, further -/
section
variable {ρ ρ' ρ1 : Env'} {te : TE} {d x y z : PyData} {ds : List PyData} {tt : TT} {a b : Bool} {ts t u rest : TS} {o : Out}
theorem so_no (h : ET tt ρ b) (e : b = false) (g : SO rest ρ o) : SO (tSeq (tIfS tt t tNext) rest) ρ o := by
  subst e
  exact so_ifs h (fun e => nomatch e) fun _ => so_nxs g
theorem so_yes (h : ET tt ρ b) (e : b = true) (g : SO (tSeq t rest) ρ o) : SO (tSeq (tIfS tt t u) rest) ρ o := by
  subst e
  exact so_ifs h (fun _ => g) fun e => nomatch e
theorem so_to (e : ρ1 = ρ) (g : SO t ρ o) : SO t ρ1 o := e ▸ g
theorem et_true : ET (fun _ H Q => Q true H) ρ true := fun _ H _ _ q => q H (Ex.refl H)
theorem so_par3 {i j l : Nat} {ta : TA} (h : EA ta ρ [x, y, z]) : SO (tPar3 i j l ta) ρ (.nx (((ρ.set i (some x)).set j (some y)).set l (some z))) := fun σ H D ok k =>
  h σ H ok _ fun vs H1 e1 d1 => by
    cases d1 with
    | cons h1 h2 =>
      cases h2 with
      | cons h2 h3 =>
        cases h3 with
        | cons h3 h4 =>
          cases h4
          exact ⟨_, _, _, rfl, k _ H1 e1 ((((ok.x e1).set h1 i).set h2 j).set h3 l)⟩
end
section
variable {ρ : Env'} {ta tb : TE} {tt tu : TT} {a : Bool}
theorem et_andF (h1 : ET tt ρ a) (e : a = false) : ET (tAnd tt tu) ρ false := by
  subst e
  exact et_and (b := false) h1 fun e => nomatch e
theorem et_orT (h1 : ET tt ρ a) (e : a = true) : ET (tOr tt tu) ρ true := by
  subst e
  exact et_or (b := true) h1 fun e => nomatch e
theorem ee_andF (h1 : EE ta ρ (.bool a)) (e : a = false) : EE (tAndV ta tb) ρ (.bool false) := by
  subst e
  exact ee_andV (b := false) h1 fun e => nomatch e
theorem ee_orT (h1 : EE ta ρ (.bool a)) (e : a = true) : EE (tOrV ta tb) ρ (.bool true) := by
  subst e
  exact ee_orV (b := true) h1 fun e => nomatch e
end
/-! ### records -/
def bd : Option Int → PyData
  | none => .none
  | some i => .int i
abbrev tI (ns : List Int) : PyData := .tuple (ns.map PyData.int)
inductive Rec where
  | leaf (lo hi : Option Int) (ks vs : List Int)
  | inner (lv : Int) (lo hi : Option Int) (ks ps : List Int)
  | free (n : Int)
  deriving DecidableEq
abbrev Rec.d : Rec → PyData
  | .leaf lo hi ks vs => .tuple [.str "leaf", bd lo, bd hi, tI ks, tI vs]
  | .inner lv lo hi ks ps => .tuple [.str "inner", .int lv, bd lo, bd hi, tI ks, tI ps]
  | .free n => .tuple [.str "free", .int n]
def abv (k : Int) : Option Int → Bool
  | none => true
  | some l => decide (l ≤ k)
def abvS (k : Int) : Option Int → Bool
  | none => true
  | some l => decide (l < k)
def blw (k : Int) : Option Int → Bool
  | none => true
  | some h => decide (k < h)
def bok : Option Int → Option Int → Bool
  | some l, some h => decide (l < h)
  | _, _ => true
def Rec.Ok : Rec → Prop
  | .leaf lo hi ks vs => ks.length ≤ 100 ∧ ks.length = vs.length ∧ bok lo hi = true ∧ ks.Pairwise (· < ·) ∧ ∀ k ∈ ks, (abv k lo && blw k hi) = true
  | .inner lv lo hi ks ps => ks.length ≤ 100 ∧ 1 ≤ lv ∧ ps.length = ks.length + 1 ∧ bok lo hi = true ∧ ks.Pairwise (· < ·) ∧ ∀ k ∈ ks, (abvS k lo && blw k hi) = true
  | .free _ => True
theorem isNon_bd (o : Option Int) : isNon (bd o) = o.isNone := by cases o <;> rfl
theorem leaf_inner : ¬ (("leaf" : Str) = "inner") := by decide +kernel
theorem inner_leaf : ¬ (("inner" : Str) = "leaf") := by decide +kernel
theorem free_leaf : ¬ (("free" : Str) = "leaf") := by decide +kernel
theorem free_inner : ¬ (("free" : Str) = "inner") := by decide +kernel
theorem leaf_free : ¬ (("leaf" : Str) = "free") := by decide +kernel
theorem inner_free : ¬ (("inner" : Str) = "free") := by decide +kernel
/-! ### what each def gives -/
def R_is_integer : List PyData → PyData → Prop := fun ds d => ∃ i : Int, ds = [.int i] ∧ d = .bool true
theorem r_is_integer {i : Int} : R_is_integer [.int i] (.bool true) := ⟨i, rfl, rfl⟩
def R_is_bound : List PyData → PyData → Prop := fun ds d => ∃ o, ds = [bd o] ∧ d = .bool true
theorem r_is_bound {o : Option Int} : R_is_bound [bd o] (.bool true) := ⟨o, rfl, rfl⟩
def R_are_integers : List PyData → PyData → Prop := fun ds d => ∃ ns, ns.length ≤ 1000 ∧ ds = [tI ns] ∧ d = .bool true
theorem r_are_integers {ns : List Int} (h : ns.length ≤ 1000) : R_are_integers [tI ns] (.bool true) := ⟨ns, h, rfl, rfl⟩
def R_are_ascending : List PyData → PyData → Prop := fun ds d => ∃ ns, ns.length ≤ 1000 ∧ ns.Pairwise (· < ·) ∧ ds = [tI ns] ∧ d = .bool true
theorem r_are_ascending {ns : List Int} (h : ns.length ≤ 1000) (g : ns.Pairwise (· < ·)) : R_are_ascending [tI ns] (.bool true) := ⟨ns, h, g, rfl, rfl⟩
def R_is_above : List PyData → PyData → Prop := fun ds d => ∃ k o, ds = [.int k, bd o] ∧ d = .bool (abv k o)
theorem r_is_above {k : Int} {o : Option Int} : R_is_above [.int k, bd o] (.bool (abv k o)) := ⟨k, o, rfl, rfl⟩
def R_is_below : List PyData → PyData → Prop := fun ds d => ∃ k o, ds = [.int k, bd o] ∧ d = .bool (blw k o)
theorem r_is_below {k : Int} {o : Option Int} : R_is_below [.int k, bd o] (.bool (blw k o)) := ⟨k, o, rfl, rfl⟩
def R_is_leaf : List PyData → PyData → Prop := fun ds d => ∃ lo hi ks vs, (Rec.leaf lo hi ks vs).Ok ∧ ds = [(Rec.leaf lo hi ks vs).d] ∧ d = .bool true
theorem r_is_leaf {lo hi ks vs} (h : (Rec.leaf lo hi ks vs).Ok) : R_is_leaf [(Rec.leaf lo hi ks vs).d] (.bool true) := ⟨lo, hi, ks, vs, h, rfl, rfl⟩
def R_is_inner : List PyData → PyData → Prop := fun ds d => ∃ lv lo hi ks ps, (Rec.inner lv lo hi ks ps).Ok ∧ ds = [(Rec.inner lv lo hi ks ps).d] ∧ d = .bool true
theorem r_is_inner {lv lo hi ks ps} (h : (Rec.inner lv lo hi ks ps).Ok) : R_is_inner [(Rec.inner lv lo hi ks ps).d] (.bool true) := ⟨lv, lo, hi, ks, ps, h, rfl, rfl⟩
def R_is_record : List PyData → PyData → Prop := fun ds d => ∃ r : Rec, r.Ok ∧ ds = [r.d] ∧ d = .bool true
theorem r_is_record {r : Rec} (h : r.Ok) : R_is_record [r.d] (.bool true) := ⟨r, h, rfl, rfl⟩
def R_checked : List PyData → PyData → Prop := fun ds d => ∃ r : Rec, r.Ok ∧ ds = [r.d] ∧ d = r.d
theorem r_checked {r : Rec} (h : r.Ok) : R_checked [r.d] r.d := ⟨r, h, rfl, rfl⟩
def R_leaf : List PyData → PyData → Prop := fun ds d => ∃ lo hi ks vs, (Rec.leaf lo hi ks vs).Ok ∧ ds = [bd lo, bd hi, tI ks, tI vs] ∧ d = (Rec.leaf lo hi ks vs).d
theorem r_leaf {lo hi ks vs} (h : (Rec.leaf lo hi ks vs).Ok) : R_leaf [bd lo, bd hi, tI ks, tI vs] (Rec.leaf lo hi ks vs).d := ⟨lo, hi, ks, vs, h, rfl, rfl⟩
def R_inner : List PyData → PyData → Prop := fun ds d => ∃ lv lo hi ks ps, (Rec.inner lv lo hi ks ps).Ok ∧ ds = [.int lv, bd lo, bd hi, tI ks, tI ps] ∧ d = (Rec.inner lv lo hi ks ps).d
theorem r_inner {lv lo hi ks ps} (h : (Rec.inner lv lo hi ks ps).Ok) : R_inner [.int lv, bd lo, bd hi, tI ks, tI ps] (Rec.inner lv lo hi ks ps).d := ⟨lv, lo, hi, ks, ps, h, rfl, rfl⟩
def Rec.level : Rec → Int
  | .leaf .. => 0
  | .inner lv .. => lv
  | .free _ => -1
def R_level_of : List PyData → PyData → Prop := fun ds d => ∃ r : Rec, ds = [r.d] ∧ d = .int r.level
theorem r_level_of {r : Rec} : R_level_of [r.d] (.int r.level) := ⟨r, rfl, rfl⟩
abbrev bdT (lo hi : Option Int) : PyData := .tuple [bd lo, bd hi]
def Rec.lo : Rec → Option Int
  | .leaf lo .. => lo
  | .inner _ lo .. => lo
  | .free _ => none
def Rec.hi : Rec → Option Int
  | .leaf _ hi .. => hi
  | .inner _ _ hi .. => hi
  | .free _ => none
def Rec.live : Rec → Bool
  | .free _ => false
  | _ => true
def R_bounds_of : List PyData → PyData → Prop := fun ds d => ∃ r : Rec, r.live = true ∧ ds = [r.d] ∧ d = bdT r.lo r.hi
theorem r_bounds_of {r : Rec} (h : r.live = true) : R_bounds_of [r.d] (bdT r.lo r.hi) := ⟨r, h, rfl, rfl⟩
def Rec.size : Rec → Nat
  | .leaf _ _ _ vs => vs.length
  | .inner _ _ _ _ ps => ps.length
  | .free _ => 0
def R_size_of : List PyData → PyData → Prop := fun ds d => ∃ r : Rec, r.live = true ∧ ds = [r.d] ∧ d = .int r.size
theorem r_size_of {r : Rec} (h : r.live = true) : R_size_of [r.d] (.int r.size) := ⟨r, h, rfl, rfl⟩
end Esp
namespace Esp
open PySem PySem.Spec PyProof.Rows L2
theorem at_ix {ns : List Int} {z : Int} {j : Nat} {v : Int} (e : z = (j : Int)) (h : ns[j]? = some v) : atI (ns.map PyData.int) z = some (.int v) := by
  rw [e]
  exact atI_nat (by rw [List.getElem?_map, h] <;> rfl)
end Esp
namespace Esp
open PySem PySem.Spec PyProof.Rows L2
theorem ki_ii {i : Int} : kitB (tyD (.int i)) "int" = some true := by
  show kitB "int" "int" = some true
  decide +kernel
theorem ki_ib {i : Int} : kitB (tyD (.int i)) "bool" = some false := by
  show kitB "int" "bool" = some false
  decide +kernel
theorem ki_tt {ds : List PyData} : kitB (tyD (.tuple ds)) "tuple" = some true := by
  show kitB "tuple" "tuple" = some true
  decide +kernel
theorem so_retE {ρ : Env'} {te : TE} {d d' : PyData} (h : EE te ρ d') (e : d' = d) : SO (tRet te) ρ (.rt d) := e ▸ so_ret h
/-- all of a comprehension over a tuple of ints -/
theorem el_lcB {K : PySem.W.Frag} {ti te : TE} {i : Nat} {ρ : Env'} {ns : List Int} (hi : EE ti ρ (tI ns)) (hz : ns.length < 100000) (he : ∀ n ∈ ns, EE te (ρ.set i (some (.int n))) (.bool true)) : EL (tLc (iTup K ti) (gName i) tYes te [i]) ρ ((ns.map fun _ => true).map PyData.bool) := by
  have h := el_lcT (K := K) (ρ := ρ) (i := i) (ti := ti) (ds := ns.map PyData.int) (tt := tYes) (te := te) (fun _ => some (.bool true)) hi (by rw [List.length_map]; omega) (fun d hd => fun _ H _ _ q => q H (Ex.refl H)) (fun d hd y hy => by
    obtain ⟨n, hn, rfl⟩ := List.mem_map.mp hd
    cases hy
    exact he n hn)
  rw [List.filterMap_eq_map', List.map_map] at h
  rw [List.map_map]
  exact h
theorem ee_allT {K : PySem.W.Frag} {ti te : TE} {i : Nat} {ρ : Env'} {ns : List Int} (hi : EE ti ρ (tI ns)) (hz : ns.length < 100000) (he : ∀ n ∈ ns, EE te (ρ.set i (some (.int n))) (.bool true)) : EE (tCB (rAll K) (tCons (tLc (iTup K ti) (gName i) tYes te [i]) tNil)) ρ (.bool true) := by
  have h := ee_allL (K := K) (el_lcB (K := K) hi hz he)
  have e : (ns.map fun _ => true).all id = true := by simp
  rwa [e] at h
/-- how many ints of a tuple pass -/
def keepI (p : Int → Bool) : PyData → Option PyData
  | .int n => if p n then some (.int n) else none
  | _ => none
theorem keepI_len (p : Int → Bool) : ∀ ns : List Int, ((ns.map PyData.int).filterMap (keepI p)).length = (ns.filter p).length
  | [] => rfl
  | n :: ns => by
    rw [List.map_cons, List.filterMap_cons, List.filter_cons]
    have ih := keepI_len p ns
    cases h : p n <;> simp [keepI, h] <;> simpa using ih
theorem ee_cnt {K : PySem.W.Frag} {ti te : TE} {tt : TT} {i : Nat} {ρ : Env'} {ns : List Int} (p : Int → Bool) (hi : EE ti ρ (tI ns)) (hz : ns.length < 100000) (ht : ∀ n ∈ ns, ET tt (ρ.set i (some (.int n))) (p n)) (he : ∀ n ∈ ns, EE te (ρ.set i (some (.int n))) (.int n)) :
    EE (tCB (rLenS K) (tCons (tLc (iTup K ti) (gName i) tt te [i]) tNil)) ρ (.int (ns.filter p).length) := by
  have h := ee_lenL (K := K) (el_lcT (K := K) (ρ := ρ) (i := i) (ti := ti) (ds := ns.map PyData.int) (tt := tt) (te := te) (keepI p) hi (by rw [List.length_map]; omega) (fun d hd => by
      obtain ⟨n, hn, rfl⟩ := List.mem_map.mp hd
      refine et_is (ht n hn) ?_
      show p n = (if p n then some (PyData.int n) else none).isSome
      cases p n <;> rfl) (fun d hd y hy => by
    obtain ⟨n, hn, rfl⟩ := List.mem_map.mp hd
    have hy' : (if p n then some (PyData.int n) else none) = some y := hy
    split at hy'
    · cases hy'
      exact he n hn
    · cases hy'))
  rwa [keepI_len] at h
end Esp
namespace Esp
theorem bok_blw {l : Int} {hi : Option Int} (h : bok (some l) hi = true) : (!isNon (bd (some l)) && !blw l hi) = false := by
  cases hi with
  | none => rfl
  | some x =>
    have : decide (l < x) = true := h
    show (true && !decide (l < x)) = false
    rw [this]
    rfl
end Esp
set_option Elab.async false
set_option linter.all false
set_option maxRecDepth 100000
namespace Esp
open PySem PySem.Spec PyProof.Rows L2
def top (i : Nat) : Stmt := PySem.Challenge.pw_espalier_k27_whole_plans_keep_the_tree_e.main.body.getD i (.Pass ⟨0, 0, 0, 0⟩)

abbrev s_is_integer : Stmt := top 7
abbrev s_is_bound : Stmt := top 8
abbrev s_are_integers : Stmt := top 9
abbrev s_are_ascending : Stmt := top 10
abbrev s_is_above : Stmt := top 11
abbrev s_is_below : Stmt := top 12
abbrev s_is_leaf : Stmt := top 13
abbrev s_is_inner : Stmt := top 14
abbrev s_is_record : Stmt := top 15
abbrev s_checked : Stmt := top 16
abbrev s_leaf : Stmt := top 17
abbrev s_inner : Stmt := top 18
abbrev s_level_of : Stmt := top 19
abbrev s_bounds_of : Stmt := top 20
abbrev s_size_of : Stmt := top 21
abbrev s_value_in : Stmt := top 22
abbrev s_place_of : Stmt := top 23
abbrev s_child_bounds : Stmt := top 24
abbrev s_with_value : Stmt := top 25
abbrev s_without_key : Stmt := top 26
abbrev s_with_child : Stmt := top 27
abbrev s_without_child : Stmt := top 28
abbrev s_with_separator : Stmt := top 29
abbrev s_cut : Stmt := top 30
abbrev s_joined : Stmt := top 31
abbrev s_leaf_change : Stmt := top 33
abbrev s_most_of : Stmt := top 34
abbrev s_Draft_init : Stmt := inClass (top 35) 0
abbrev s_Draft_give : Stmt := inClass (top 35) 1
abbrev s_Draft_add_page : Stmt := inClass (top 35) 2
abbrev s_Draft_entries : Stmt := inClass (top 35) 3
abbrev s_Draft_place_in_parent : Stmt := inClass (top 35) 4
abbrev s_Draft_settle : Stmt := inClass (top 35) 5
abbrev s_Draft_divide : Stmt := inClass (top 35) 6
abbrev s_Draft_unite : Stmt := inClass (top 35) 7
abbrev s_Draft_unite_pair : Stmt := inClass (top 35) 8
abbrev s_plan : Stmt := top 36
abbrev s_new_pages : Stmt := top 37
abbrev s_real_page : Stmt := top 38
abbrev s_placed : Stmt := top 39
abbrev s_law_cell : Stmt := top 41
abbrev s_law_digits : Stmt := top 42
abbrev s_law_many : Stmt := top 43
abbrev s_law_call : Stmt := top 44
abbrev s_law_due : Stmt := top 45
abbrev s_law_covers : Stmt := top 46
abbrev s_law_walk : Stmt := top 47
abbrev s_law_planned : Stmt := top 48
abbrev s_law_free : Stmt := top 49
abbrev s_law_applied : Stmt := top 50
abbrev s_law_ascending : Stmt := top 51
abbrev s_law_below : Stmt := top 52
abbrev s_law_fits : Stmt := top 53
abbrev s_law_map : Stmt := top 54
abbrev s_law_start : Stmt := top 55
abbrev s_law_filled : Stmt := top 56
abbrev s_law : Stmt := top 57
end Esp
set_option Elab.async false
set_option linter.all false
set_option maxRecDepth 100000
set_option maxHeartbeats 4000000
namespace Esp
open PySem PySem.Spec PyProof.Rows L2
local macro_rules | `(tactic| walk_at "gn") => `(tactic| (repeat constructor))
local macro_rules | `(tactic| walk_at "dd") => `(tactic| first | rfl | assumption | omega | decide | (simp; done) | (simp [*]; done))
section
variable {P : Program} {w : World} {K : PySem.W.Frag} {mg : Str → Option Value} {base : Heap}

abbrev N_is_integer : List Str := ["value"]
theorem sc_is_integer : FnScope N_is_integer ["value"] (defScope s_is_integer) := ⟨rfl, rfl, rfl, by decide +kernel, rfl, by decide +kernel, by decide +kernel⟩
theorem ok_is_integer {f : Addr} {fd : FuncData} (F : FnP K "is_integer" "is_integer" s_is_integer f fd) (T : Bu mg) : FnOk P w K mg base CX0 1 f fd ["value"] (spF R_is_integer) := by
  refine fn_data F sc_is_integer (by rintro ds d ⟨i, rfl, rfl⟩; rfl) (fun cdv A outer s H E hr ds d h => ?_)
  have nd := sc_is_integer.nd
  have hu := hu_of hr
  obtain ⟨i, rfl, rfl⟩ := h
  refine ⟨_, (pss_one (ps_ret (pe_and (pe_callB call_isi (by rfl) T.isinstance (by decide +kernel) (pa_cons (pv 0) (pa_cons (pe_bltn (v := .ty "int") (by rfl) T.int (by decide +kernel) rfl) pa_nil))) (pe_one (pe_not (pe_callB call_isi (by rfl) T.isinstance (by decide +kernel) (pa_cons (pv 0) (pa_cons (pe_bltn (v := .ty "bool") (by rfl) T.bool (by decide +kernel) rfl) pa_nil)))))))), .inl ?_⟩
  show SO _ [some (.int i)] _
  exact (so_ret (ee_andV (ee_isi (ee_var rfl) ki_ii) fun _ => (ee_notV (ee_isi (ee_var rfl) ki_ib))))
abbrev N_is_bound : List Str := ["value"]
theorem sc_is_bound : FnScope N_is_bound ["value"] (defScope s_is_bound) := ⟨rfl, rfl, rfl, by decide +kernel, rfl, by decide +kernel, by decide +kernel⟩
theorem ok_is_bound {f : Addr} {fd : FuncData} (F : FnP K "is_bound" "is_bound" s_is_bound f fd) (T : Bu mg) (c_is_integer : Cal P w K mg base 1 "is_integer" ["value"] (spF R_is_integer)) : FnOk P w K mg base CX0 2 f fd ["value"] (spF R_is_bound) := by
  refine fn_data F sc_is_bound (by rintro ds d ⟨o, rfl, rfl⟩; rfl) (fun cdv A outer s H E hr ds d h => ?_)
  have nd := sc_is_bound.nd
  have hu := hu_of hr
  obtain ⟨o, rfl, rfl⟩ := h
  refine ⟨_, (pss_one (ps_ret (pe_or (pe_cmpR op_isN1 (pv 0) pe_non (nomark _)) (pe_one (pe_cl c_is_integer hr (by decide) (by rfl) (pa_cons (pv 0) pa_nil)))))), .inl ?_⟩
  show SO _ [some (bd o)] _
  cases o with
  | none => exact so_ret (ee_orT (ee_op (ee_var rfl) ee_non rd_isN) rfl)
  | some i => exact (so_retE (ee_orV (ee_op (ee_var rfl) ee_non rd_isN) fun _ => (ee_call (ea_cons (ee_var rfl) ea_nil) r_is_integer)) rfl)
abbrev N_are_integers : List Str := ["values", "value"]
theorem sc_are_integers : FnScope N_are_integers ["values"] (defScope s_are_integers) := ⟨rfl, rfl, rfl, by decide +kernel, rfl, by decide +kernel, by decide +kernel⟩
theorem ok_are_integers {f : Addr} {fd : FuncData} (F : FnP K "are_integers" "are_integers" s_are_integers f fd) (T : Bu mg) (c_is_integer : Cal P w K mg base 1 "is_integer" ["value"] (spF R_is_integer)) : FnOk P w K mg base CX0 2 f fd ["values"] (spF R_are_integers) := by
  refine fn_data F sc_are_integers (by rintro ds d ⟨ns, hl, rfl, rfl⟩; rfl) (fun cdv A outer s H E hr ds d h => ?_)
  have nd := sc_are_integers.nd
  have hu := hu_of hr
  obtain ⟨ns, hl, rfl, rfl⟩ := h
  refine ⟨_, (pss_one (ps_ret (pe_and (pe_callB call_isi (by rfl) T.isinstance (by decide +kernel) (pa_cons (pv 0) (pa_cons (pe_bltn (v := .ty "tuple") (by rfl) T.tuple (by decide +kernel) rfl) pa_nil))) (pe_one (pe_callB (cr_all rfl) (by rfl) T.all (by decide +kernel) (pa_cons (pe_lc (own := [("value", 1)]) (g := gName 1) (by rfl) nd (pi_tup (pv 0)) (blkOk_by (own := [("value", 1)]) (N := N_are_integers) (sc := defScope s_are_integers) (by decide +kernel)) (fun _ _ _ _ _ => pg_name (i := 1) nd rfl (Or.inl rfl)) (fun _ _ _ _ _ => pts_nil) (fun _ _ _ _ _ => (pe_cl c_is_integer hr (by decide) (by rfl) (pa_cons (pv 1) pa_nil)))) pa_nil)))))), .inl ?_⟩
  show SO _ [some (tI ns), none] _
  exact so_retE (ee_andV (ee_isi (ee_var rfl) ki_tt) fun _ => ee_allT (ee_var rfl) (by omega) fun n hn => ee_call (ea_cons (ee_var rfl) ea_nil) r_is_integer) rfl
abbrev N_are_ascending : List Str := ["keys", "index"]
theorem sc_are_ascending : FnScope N_are_ascending ["keys"] (defScope s_are_ascending) := ⟨rfl, rfl, rfl, by decide +kernel, rfl, by decide +kernel, by decide +kernel⟩
theorem ok_are_ascending {f : Addr} {fd : FuncData} (F : FnP K "are_ascending" "are_ascending" s_are_ascending f fd) (T : Bu mg) : FnOk P w K mg base CX0 1 f fd ["keys"] (spF R_are_ascending) := by
  refine fn_data F sc_are_ascending (by rintro ds d ⟨ns, hl, hp, rfl, rfl⟩; rfl) (fun cdv A outer s H E hr ds d h => ?_)
  have nd := sc_are_ascending.nd
  have hu := hu_of hr
  obtain ⟨ns, hl, hp, rfl, rfl⟩ := h
  refine ⟨_, (pss_cons (ps_for PassesOwn.never rfl (pi_range2 (by rfl) T.range (pa_cons pe_int (pa_cons (pe_callB call_lenS (by rfl) T.len (by decide +kernel) (pa_cons (pv 0) pa_nil)) pa_nil))) (pg_name (i := 1) nd rfl (Or.inl rfl))
    (pss_one (ps_if (pt_cmpR op_ge (pe_ix ix_tup (pv 0) (pe_op op_sub (pv 1) pe_int) (fun _ _ => rfl)) (pe_ix ix_tup (pv 0) (pv 1) (fun _ _ => rfl)) (nomark _)) (pss_one (ps_ret pe_bl)) pss_nil)))
    (pss_one (ps_ret pe_bl))), .inl ?_⟩
  show SO _ [some (tI ns), none] _
  refine so_seq (ρ1 := [some (tI ns), none]) (so_for (n := ns.length - 1) (f := fun _ => none) (ti_rng2 (ea_cons ee_int (ea_cons (ee_cb (ea_cons (ee_var rfl) ea_nil) rc_len) ea_nil)) (by omega) (by rw [List.length_map]; omega) (by rw [List.length_map]; omega)) (fun i hi _ => ?_) ?_) (so_ret ee_bl)
  · have h1 : ns[i]? = some ns[i] := List.getElem?_eq_getElem (by omega)
    have h2 : ns[i + 1]? = some ns[i + 1] := List.getElem?_eq_getElem (by omega)
    have e1 : (1 : Int) + (i : Int) - 1 = (i : Int) := by omega
    have e2 : (1 : Int) + (i : Int) = ((i + 1 : Nat) : Int) := by omega
    refine so_weak (so_ifF (et_is (et_test (ee_op (ee_op (ee_var rfl) (ee_op (ee_var rfl) ee_int rd_I) (rd_ix (at_ix e1 h1))) (ee_op (ee_var rfl) (ee_var rfl) (rd_ix (at_ix e2 h2))) rd_B)) ?_) so_next) (EnvLe.cons (EnvLe.drop EnvLe.nil))
    have := List.pairwise_iff_getElem.mp hp i (i + 1) (by omega) (by omega) (by omega)
    exact decide_eq_false (by omega)
  · rw [List.findSome?_eq_none_iff.mpr (fun x _ => rfl)]
    rfl
abbrev N_is_above : List Str := ["key", "low"]
theorem sc_is_above : FnScope N_is_above ["key", "low"] (defScope s_is_above) := ⟨rfl, rfl, rfl, by decide +kernel, rfl, by decide +kernel, by decide +kernel⟩
theorem ok_is_above {f : Addr} {fd : FuncData} (F : FnP K "is_above" "is_above" s_is_above f fd) (T : Bu mg) : FnOk P w K mg base CX0 1 f fd ["key", "low"] (spF R_is_above) := by
  refine fn_data F sc_is_above (by rintro ds d ⟨k, o, rfl, rfl⟩; rfl) (fun cdv A outer s H E hr ds d h => ?_)
  have nd := sc_is_above.nd
  have hu := hu_of hr
  obtain ⟨k, o, rfl, rfl⟩ := h
  refine ⟨_, (pss_one (ps_ret (pe_or (pe_cmpR op_isN1 (pv 1) pe_non (nomark _)) (pe_one (pe_cmpR op_ge (pv 0) (pv 1) (nomark _)))))), .inl ?_⟩
  show SO _ [some (.int k), some (bd o)] _
  cases o with
  | none => exact so_ret (ee_orT (ee_op (ee_var rfl) ee_non rd_isN) rfl)
  | some i => exact (so_retE (ee_orV (ee_op (ee_var rfl) ee_non rd_isN) fun _ => (ee_op (ee_var rfl) (ee_var rfl) rd_B)) rfl)
abbrev N_is_below : List Str := ["key", "high"]
theorem sc_is_below : FnScope N_is_below ["key", "high"] (defScope s_is_below) := ⟨rfl, rfl, rfl, by decide +kernel, rfl, by decide +kernel, by decide +kernel⟩
theorem ok_is_below {f : Addr} {fd : FuncData} (F : FnP K "is_below" "is_below" s_is_below f fd) (T : Bu mg) : FnOk P w K mg base CX0 1 f fd ["key", "high"] (spF R_is_below) := by
  refine fn_data F sc_is_below (by rintro ds d ⟨k, o, rfl, rfl⟩; rfl) (fun cdv A outer s H E hr ds d h => ?_)
  have nd := sc_is_below.nd
  have hu := hu_of hr
  obtain ⟨k, o, rfl, rfl⟩ := h
  refine ⟨_, (pss_one (ps_ret (pe_or (pe_cmpR op_isN1 (pv 1) pe_non (nomark _)) (pe_one (pe_cmpR op_lt (pv 0) (pv 1) (nomark _)))))), .inl ?_⟩
  show SO _ [some (.int k), some (bd o)] _
  cases o with
  | none => exact so_ret (ee_orT (ee_op (ee_var rfl) ee_non rd_isN) rfl)
  | some i => exact (so_retE (ee_orV (ee_op (ee_var rfl) ee_non rd_isN) fun _ => (ee_op (ee_var rfl) (ee_var rfl) rd_B)) rfl)
abbrev N_is_leaf : List Str := ["record", "low", "high", "keys", "values", "key"]
theorem sc_is_leaf : FnScope N_is_leaf ["record"] (defScope s_is_leaf) := ⟨rfl, rfl, rfl, by decide +kernel, rfl, by decide +kernel, by decide +kernel⟩
theorem ok_is_leaf {f : Addr} {fd : FuncData} (F : FnP K "is_leaf" "is_leaf" s_is_leaf f fd) (T : Bu mg) (c_is_bound : Cal P w K mg base 2 "is_bound" ["value"] (spF R_is_bound)) (c_are_integers : Cal P w K mg base 2 "are_integers" ["values"] (spF R_are_integers)) (c_are_ascending : Cal P w K mg base 1 "are_ascending" ["keys"] (spF R_are_ascending)) (c_is_below : Cal P w K mg base 1 "is_below" ["key", "high"] (spF R_is_below)) (c_is_above : Cal P w K mg base 1 "is_above" ["key", "low"] (spF R_is_above)) : FnOk P w K mg base CX0 3 f fd ["record"] (spF R_is_leaf) := by
  refine fn_data F sc_is_leaf (by rintro ds d ⟨lo, hi, ks, vs, ⟨hz, hl, hb, hp, hk⟩, rfl, rfl⟩; rfl) (fun cdv A outer s H E hr ds d h => ?_)
  have nd := sc_is_leaf.nd
  have hu := hu_of hr
  obtain ⟨lo, hi, ks, vs, ⟨hz, hl, hb, hp, hk⟩, rfl, rfl⟩ := h
  refine ⟨_, (pss_cons (ps_if (PW.pt (pw_or (pt_cmpR op_ne (pe_callB call_lenS (by rfl) T.len (by decide +kernel) (pa_cons (pv 0) pa_nil)) pe_int (nomark _)) (pw_or (pt_not (pt_val (pe_cl c_is_bound hr (by decide) (by rfl) (pa_cons (pe_ix ix_tup (pv 0) pe_int (fun _ _ => rfl)) pa_nil)))) (pw_or1 (pt_not (pt_val (pe_cl c_is_bound hr (by decide) (by rfl) (pa_cons (pe_ix ix_tup (pv 0) pe_int (fun _ _ => rfl)) pa_nil)))))))) (pss_one (ps_ret pe_bl)) pss_nil)
    (pss_cons (ps_asg (pe_slice sl_tupA (pv 0) (po_some pe_int) po_none) (pg_tup rfl (pgs_cons (pg_name (i := 1) nd rfl (Or.inr rfl)) (pgs_cons (pg_name (i := 2) nd rfl (Or.inr rfl)) (pgs_cons (pg_name (i := 3) nd rfl (Or.inl rfl)) (pgs_cons (pg_name (i := 4) nd rfl (Or.inl rfl)) pgs_nil))))))
    (pss_cons (ps_if (PW.pt (pw_or (pt_not (pt_val (pe_cl c_are_integers hr (by decide) (by rfl) (pa_cons (pv 3) pa_nil)))) (pw_or (pt_not (pt_val (pe_cl c_are_integers hr (by decide) (by rfl) (pa_cons (pv 4) pa_nil)))) (pw_or1 (pt_cmpR op_ne (pe_callB call_lenS (by rfl) T.len (by decide +kernel) (pa_cons (pv 3) pa_nil)) (pe_callB call_lenS (by rfl) T.len (by decide +kernel) (pa_cons (pv 4) pa_nil)) (nomark _)))))) (pss_one (ps_ret pe_bl)) pss_nil)
    (pss_cons (ps_if (PW.pt (pw_or (PW.pt (pw_and (pt_cmpR op_notN1 (pv 1) pe_non (nomark _)) (pw_and1 (pt_not (pt_val (pe_cl c_is_below hr (by decide) (by rfl) (pa_cons (pv 1) (pa_cons (pv 2) pa_nil)))))))) (pw_or1 (pt_not (pt_val (pe_cl c_are_ascending hr (by decide) (by rfl) (pa_cons (pv 3) pa_nil))))))) (pss_one (ps_ret pe_bl)) pss_nil)
    (pss_one (ps_ret (pe_callB (cr_all rfl) (by rfl) T.all (by decide +kernel) (pa_cons (pe_lc (own := [("key", 5)]) (g := gName 5) (by rfl) nd (pi_tup (pv 3)) (blkOk_by (own := [("key", 5)]) (N := N_is_leaf) (sc := defScope s_is_leaf) (by decide +kernel)) (fun _ _ _ _ _ => pg_name (i := 5) nd rfl (Or.inl rfl)) (fun _ _ _ _ _ => pts_nil) (fun _ _ _ _ _ => (pe_and (pe_cl c_is_above hr (by decide) (by rfl) (pa_cons (pv 5) (pa_cons (pv 1) pa_nil))) (pe_one (pe_cl c_is_below hr (by decide) (by rfl) (pa_cons (pv 5) (pa_cons (pv 2) pa_nil))))))) pa_nil)))))))), .inl ?_⟩
  show SO _ [some (Rec.leaf lo hi ks vs).d, none, none, none, none, none] _
  refine so_no (et_or (et_test (ee_op (ee_cb (ea_cons (ee_var rfl) ea_nil) rc_len) ee_int rd_neI)) fun _ => (et_or (et_not (et_B (ee_call (ea_cons (ee_op (ee_var rfl) ee_int (rd_ix rfl)) ea_nil) r_is_bound))) fun _ => (et_not (et_B (ee_call (ea_cons (ee_op (ee_var rfl) ee_int (rd_ix rfl)) ea_nil) r_is_bound))))) rfl ?_
  refine so_seq (so_unp (is := [1, 2, 3, 4]) (ee_sl (ee_var rfl) (eo_some ee_int) eo_none) (by walk_at "gn") rfl rfl) ?_  -- low, high, keys, values = record[1:]
  show SO _ [some (Rec.leaf lo hi ks vs).d, some (bd lo), some (bd hi), some (tI ks), some (tI vs), none] _
  refine so_no (et_or (et_not (et_B (ee_call (ea_cons (ee_var rfl) ea_nil) (r_are_integers (by omega))))) fun _ => (et_or (et_not (et_B (ee_call (ea_cons (ee_var rfl) ea_nil) (r_are_integers (by omega))))) fun _ => (et_test (ee_op (ee_cb (ea_cons (ee_var rfl) ea_nil) rc_len) (ee_cb (ea_cons (ee_var rfl) ea_nil) rc_len) rd_neI)))) (by simp [hl]) ?_
  refine so_no (et_or (a := false) ?_ fun _ => (et_not (et_B (ee_call (ea_cons (ee_var rfl) ea_nil) (r_are_ascending (by omega) hp))))) rfl ?_
  · cases lo with
    | none => exact et_andF (et_test (ee_op (ee_var rfl) ee_non rd_notN)) rfl
    | some l => exact et_is (et_and (et_test (ee_op (ee_var rfl) ee_non rd_notN)) fun hn => (et_not (et_B (ee_call (ea_cons (ee_var rfl) (ea_cons (ee_var rfl) ea_nil)) r_is_below)))) (bok_blw hb)
  exact (so_ret (ee_allT (ee_var rfl) (by omega) (fun n hn => ee_is (ee_andV (ee_call (ea_cons (ee_var rfl) (ea_cons (ee_var rfl) ea_nil)) r_is_above) fun _ => (ee_call (ea_cons (ee_var rfl) (ea_cons (ee_var rfl) ea_nil)) r_is_below)) (by rw [hk n hn]))))
abbrev N_is_inner : List Str := ["record", "low", "high", "keys", "pages", "key"]
theorem sc_is_inner : FnScope N_is_inner ["record"] (defScope s_is_inner) := ⟨rfl, rfl, rfl, by decide +kernel, rfl, by decide +kernel, by decide +kernel⟩
theorem ok_is_inner {f : Addr} {fd : FuncData} (F : FnP K "is_inner" "is_inner" s_is_inner f fd) (T : Bu mg) (c_is_integer : Cal P w K mg base 1 "is_integer" ["value"] (spF R_is_integer)) (c_is_bound : Cal P w K mg base 2 "is_bound" ["value"] (spF R_is_bound)) (c_are_integers : Cal P w K mg base 2 "are_integers" ["values"] (spF R_are_integers)) (c_is_below : Cal P w K mg base 1 "is_below" ["key", "high"] (spF R_is_below)) (c_are_ascending : Cal P w K mg base 1 "are_ascending" ["keys"] (spF R_are_ascending)) : FnOk P w K mg base CX0 3 f fd ["record"] (spF R_is_inner) := by
  refine fn_data F sc_is_inner (by rintro ds d ⟨lv, lo, hi, ks, ps, ⟨hz, hlv, hl, hb, hp, hk⟩, rfl, rfl⟩; rfl) (fun cdv A outer s H E hr ds d h => ?_)
  have nd := sc_is_inner.nd
  have hu := hu_of hr
  obtain ⟨lv, lo, hi, ks, ps, ⟨hz, hlv, hl, hb, hp, hk⟩, rfl, rfl⟩ := h
  refine ⟨_, (pss_cons (ps_if (PW.pt (pw_or (pt_cmpR op_ne (pe_callB call_lenS (by rfl) T.len (by decide +kernel) (pa_cons (pv 0) pa_nil)) pe_int (nomark _)) (pw_or (pt_not (pt_val (pe_cl c_is_integer hr (by decide) (by rfl) (pa_cons (pe_ix ix_tup (pv 0) pe_int (fun _ _ => rfl)) pa_nil)))) (pw_or1 (pt_cmpR op_lt (pe_ix ix_tup (pv 0) pe_int (fun _ _ => rfl)) pe_int (nomark _)))))) (pss_one (ps_ret pe_bl)) pss_nil)
    (pss_cons (ps_asg (pe_slice sl_tupA (pv 0) (po_some pe_int) po_none) (pg_tup rfl (pgs_cons (pg_name (i := 1) nd rfl (Or.inr rfl)) (pgs_cons (pg_name (i := 2) nd rfl (Or.inr rfl)) (pgs_cons (pg_name (i := 3) nd rfl (Or.inl rfl)) (pgs_cons (pg_name (i := 4) nd rfl (Or.inl rfl)) pgs_nil))))))
    (pss_cons (ps_if (PW.pt (pw_or (pt_not (pt_val (pe_cl c_is_bound hr (by decide) (by rfl) (pa_cons (pv 1) pa_nil)))) (pw_or (pt_not (pt_val (pe_cl c_is_bound hr (by decide) (by rfl) (pa_cons (pv 2) pa_nil)))) (pw_or (pt_not (pt_val (pe_cl c_are_integers hr (by decide) (by rfl) (pa_cons (pv 3) pa_nil)))) (pw_or1 (pt_not (pt_val (pe_cl c_are_integers hr (by decide) (by rfl) (pa_cons (pv 4) pa_nil))))))))) (pss_one (ps_ret pe_bl)) pss_nil)
    (pss_cons (ps_if (PW.pt (pw_and (pt_cmpR op_notN1 (pv 1) pe_non (nomark _)) (pw_and1 (pt_not (pt_val (pe_cl c_is_below hr (by decide) (by rfl) (pa_cons (pv 1) (pa_cons (pv 2) pa_nil)))))))) (pss_one (ps_ret pe_bl)) pss_nil)
    (pss_cons (ps_if (PW.pt (pw_or (pt_cmpR op_ne (pe_callB call_lenS (by rfl) T.len (by decide +kernel) (pa_cons (pv 4) pa_nil)) (pe_op op_add (pe_callB call_lenS (by rfl) T.len (by decide +kernel) (pa_cons (pv 3) pa_nil)) pe_int) (nomark _)) (pw_or1 (pt_not (pt_val (pe_cl c_are_ascending hr (by decide) (by rfl) (pa_cons (pv 3) pa_nil))))))) (pss_one (ps_ret pe_bl)) pss_nil)
    (pss_one (ps_ret (pe_callB (cr_all rfl) (by rfl) T.all (by decide +kernel) (pa_cons (pe_lc (own := [("key", 5)]) (g := gName 5) (by rfl) nd (pi_tup (pv 3)) (blkOk_by (own := [("key", 5)]) (N := N_is_inner) (sc := defScope s_is_inner) (by decide +kernel)) (fun _ _ _ _ _ => pg_name (i := 5) nd rfl (Or.inl rfl)) (fun _ _ _ _ _ => pts_nil) (fun _ _ _ _ _ => (pe_and (pe_or (pe_cmpR op_isN1 (pv 1) pe_non (nomark _)) (pe_one (pe_cmpR op_gt (pv 5) (pv 1) (nomark _)))) (pe_one (pe_cl c_is_below hr (by decide) (by rfl) (pa_cons (pv 5) (pa_cons (pv 2) pa_nil))))))) pa_nil))))))))), .inl ?_⟩
  show SO _ [some (Rec.inner lv lo hi ks ps).d, none, none, none, none, none] _
  refine so_no (et_or (et_test (ee_op (ee_cb (ea_cons (ee_var rfl) ea_nil) rc_len) ee_int rd_neI)) fun _ => (et_or (et_not (et_B (ee_call (ea_cons (ee_op (ee_var rfl) ee_int (rd_ix rfl)) ea_nil) r_is_integer))) fun _ => (et_test (ee_op (ee_op (ee_var rfl) ee_int (rd_ix rfl)) ee_int rd_B)))) (by simp; omega) ?_
  refine so_seq (so_unp (is := [1, 2, 3, 4]) (ee_sl (ee_var rfl) (eo_some ee_int) eo_none) (by walk_at "gn") rfl rfl) ?_
  show SO _ [some (Rec.inner lv lo hi ks ps).d, some (bd lo), some (bd hi), some (tI ks), some (tI ps), none] _
  refine so_no (et_or (et_not (et_B (ee_call (ea_cons (ee_var rfl) ea_nil) r_is_bound))) fun _ => (et_or (et_not (et_B (ee_call (ea_cons (ee_var rfl) ea_nil) r_is_bound))) fun _ => (et_or (et_not (et_B (ee_call (ea_cons (ee_var rfl) ea_nil) (r_are_integers (by omega))))) fun _ => (et_not (et_B (ee_call (ea_cons (ee_var rfl) ea_nil) (r_are_integers (by omega)))))))) rfl ?_
  refine so_no (b := false) ?_ rfl ?_
  · cases lo with
    | none => exact et_andF (et_test (ee_op (ee_var rfl) ee_non rd_notN)) rfl
    | some l => exact et_is (et_and (et_test (ee_op (ee_var rfl) ee_non rd_notN)) fun hn => (et_not (et_B (ee_call (ea_cons (ee_var rfl) (ea_cons (ee_var rfl) ea_nil)) r_is_below)))) (bok_blw hb)
  refine so_no (et_or (et_test (ee_op (ee_cb (ea_cons (ee_var rfl) ea_nil) rc_len) (ee_op (ee_cb (ea_cons (ee_var rfl) ea_nil) rc_len) ee_int rd_I) rd_neI)) fun _ => (et_not (et_B (ee_call (ea_cons (ee_var rfl) ea_nil) (r_are_ascending (by omega) hp))))) (by simp [hl]) ?_
  refine (so_ret (ee_allT (ee_var rfl) (by omega) (fun n hn => ee_is (ee_andV (a := abvS n lo) ?_ fun _ => (ee_call (ea_cons (ee_var rfl) (ea_cons (ee_var rfl) ea_nil)) r_is_below)) (by rw [hk n hn]))))
  cases lo with
  | none => exact ee_orT (ee_op (ee_var rfl) ee_non rd_isN) rfl
  | some l => exact ee_is (ee_orV (ee_op (ee_var rfl) ee_non rd_isN) fun _ => (ee_op (ee_var rfl) (ee_var rfl) rd_B)) rfl
abbrev N_is_record : List Str := ["value"]
theorem sc_is_record : FnScope N_is_record ["value"] (defScope s_is_record) := ⟨rfl, rfl, rfl, by decide +kernel, rfl, by decide +kernel, by decide +kernel⟩
theorem ok_is_record {f : Addr} {fd : FuncData} (F : FnP K "is_record" "is_record" s_is_record f fd) (T : Bu mg) (c_is_leaf : Cal P w K mg base 3 "is_leaf" ["record"] (spF R_is_leaf)) (c_is_inner : Cal P w K mg base 3 "is_inner" ["record"] (spF R_is_inner)) (c_is_integer : Cal P w K mg base 1 "is_integer" ["value"] (spF R_is_integer)) : FnOk P w K mg base CX0 4 f fd ["value"] (spF R_is_record) := by
  refine fn_data F sc_is_record (by rintro ds d ⟨r, hr', rfl, rfl⟩; rfl) (fun cdv A outer s H E hr ds d h => ?_)
  have nd := sc_is_record.nd
  have hu := hu_of hr
  obtain ⟨r, hr', rfl, rfl⟩ := h
  refine ⟨_, (pss_cons (ps_if (PW.pt (pw_or (pt_not (pt_val (pe_callB call_isi (by rfl) T.isinstance (by decide +kernel) (pa_cons (pv 0) (pa_cons (pe_bltn (v := .ty "tuple") (by rfl) T.tuple (by decide +kernel) rfl) pa_nil))))) (pw_or1 (pt_cmpR op_lt (pe_callB call_lenS (by rfl) T.len (by decide +kernel) (pa_cons (pv 0) pa_nil)) pe_int (nomark _))))) (pss_one (ps_ret pe_bl)) pss_nil)
    (pss_cons (ps_if (pt_cmpR op_eq (pe_ix ix_tup (pv 0) pe_int (fun _ _ => rfl)) pe_str (nomark _)) (pss_one (ps_ret (pe_cl c_is_leaf hr (by decide) (by rfl) (pa_cons (pv 0) pa_nil)))) pss_nil)
    (pss_cons (ps_if (pt_cmpR op_eq (pe_ix ix_tup (pv 0) pe_int (fun _ _ => rfl)) pe_str (nomark _)) (pss_one (ps_ret (pe_cl c_is_inner hr (by decide) (by rfl) (pa_cons (pv 0) pa_nil)))) pss_nil)
    (pss_one (ps_ret (pe_and (pe_cmpR op_eq (pe_ix ix_tup (pv 0) pe_int (fun _ _ => rfl)) pe_str (nomark _)) (pe_and (pe_cmpR op_eq (pe_callB call_lenS (by rfl) T.len (by decide +kernel) (pa_cons (pv 0) pa_nil)) pe_int (nomark _)) (pe_one (pe_cl c_is_integer hr (by decide) (by rfl) (pa_cons (pe_ix ix_tup (pv 0) pe_int (fun _ _ => rfl)) pa_nil)))))))))), .inl ?_⟩
  show SO _ [some r.d] _
  cases r with
  | leaf lo hi ks vs =>
    refine so_no (et_or (et_not (et_B (ee_isi (ee_var rfl) ki_tt))) fun _ => (et_test (ee_op (ee_cb (ea_cons (ee_var rfl) ea_nil) rc_len) ee_int rd_B))) rfl ?_
    exact so_yes (et_test (ee_op (ee_op (ee_var rfl) ee_int (rd_ix rfl)) ee_str rd_eqS)) (decide_eq_true rfl) (so_seqR (so_ret (ee_call (ea_cons (ee_var rfl) ea_nil) (r_is_leaf hr'))))
  | inner lv lo hi ks ps =>
    refine so_no (et_or (et_not (et_B (ee_isi (ee_var rfl) ki_tt))) fun _ => (et_test (ee_op (ee_cb (ea_cons (ee_var rfl) ea_nil) rc_len) ee_int rd_B))) rfl ?_
    refine so_no (et_test (ee_op (ee_op (ee_var rfl) ee_int (rd_ix rfl)) ee_str rd_eqS)) (decide_eq_false inner_leaf) ?_
    exact so_yes (et_test (ee_op (ee_op (ee_var rfl) ee_int (rd_ix rfl)) ee_str rd_eqS)) (decide_eq_true rfl) (so_seqR (so_ret (ee_call (ea_cons (ee_var rfl) ea_nil) (r_is_inner hr'))))
  | free n =>
    refine so_no (et_or (et_not (et_B (ee_isi (ee_var rfl) ki_tt))) fun _ => (et_test (ee_op (ee_cb (ea_cons (ee_var rfl) ea_nil) rc_len) ee_int rd_B))) rfl ?_
    refine so_no (et_test (ee_op (ee_op (ee_var rfl) ee_int (rd_ix rfl)) ee_str rd_eqS)) (decide_eq_false free_leaf) ?_
    refine so_no (et_test (ee_op (ee_op (ee_var rfl) ee_int (rd_ix rfl)) ee_str rd_eqS)) (decide_eq_false free_inner) ?_
    exact so_retE (ee_andV (ee_op (ee_op (ee_var rfl) ee_int (rd_ix rfl)) ee_str rd_eqS) fun _ => (ee_andV (ee_op (ee_cb (ea_cons (ee_var rfl) ea_nil) rc_len) ee_int rd_eqI) fun _ => (ee_call (ea_cons (ee_op (ee_var rfl) ee_int (rd_ix rfl)) ea_nil) r_is_integer))) (by rw [decide_eq_true rfl]; rfl)
abbrev N_checked : List Str := ["record"]
theorem sc_checked : FnScope N_checked ["record"] (defScope s_checked) := ⟨rfl, rfl, rfl, by decide +kernel, rfl, by decide +kernel, by decide +kernel⟩
theorem ok_checked {f : Addr} {fd : FuncData} (F : FnP K "checked" "checked" s_checked f fd) (T : Bu mg) (c_is_record : Cal P w K mg base 4 "is_record" ["value"] (spF R_is_record)) : FnOk P w K mg base CX0 5 f fd ["record"] (spF R_checked) := by
  refine fn_data F sc_checked (by rintro ds d ⟨r, hr', rfl, rfl⟩; rfl) (fun cdv A outer s H E hr ds d h => ?_)
  have nd := sc_checked.nd
  have hu := hu_of hr
  obtain ⟨r, hr', rfl, rfl⟩ := h
  refine ⟨_, (pss_cons (ps_if (pt_not (pt_val (pe_cl c_is_record hr (by decide) (by rfl) (pa_cons (pv 0) pa_nil)))) (pss_one ps_never) pss_nil)
    (pss_one (ps_ret (pv 0)))), .inl ?_⟩
  show SO _ [some r.d] _
  exact so_no (et_not (et_B (ee_call (ea_cons (ee_var rfl) ea_nil) (r_is_record hr')))) rfl (so_ret (ee_var rfl))
abbrev N_leaf : List Str := ["low", "high", "keys", "values"]
theorem sc_leaf : FnScope N_leaf ["low", "high", "keys", "values"] (defScope s_leaf) := ⟨rfl, rfl, rfl, by decide +kernel, rfl, by decide +kernel, by decide +kernel⟩
theorem ok_leaf {f : Addr} {fd : FuncData} (F : FnP K "leaf" "leaf" s_leaf f fd) (T : Bu mg) (c_checked : Cal P w K mg base 5 "checked" ["record"] (spF R_checked)) : FnOk P w K mg base CX0 6 f fd ["low", "high", "keys", "values"] (spF R_leaf) := by
  refine fn_data F sc_leaf (by rintro ds d ⟨lo, hi, ks, vs, h, rfl, rfl⟩; rfl) (fun cdv A outer s H E hr ds d h => ?_)
  have nd := sc_leaf.nd
  have hu := hu_of hr
  obtain ⟨lo, hi, ks, vs, h, rfl, rfl⟩ := h
  refine ⟨_, (pss_one (ps_ret (pe_cl c_checked hr (by decide) (by rfl) (pa_cons (pe_tup (pa_cons pe_str (pa_cons (pv 0) (pa_cons (pv 1) (pa_cons (pe_callTy call_tupT (by rfl) T.tuple (by decide +kernel) (pa_cons (pv 2) pa_nil)) (pa_cons (pe_callTy call_tupT (by rfl) T.tuple (by decide +kernel) (pa_cons (pv 3) pa_nil)) pa_nil)))))) pa_nil)))), .inl ?_⟩
  show SO _ [some (bd lo), some (bd hi), some (tI ks), some (tI vs)] _
  exact (so_ret (ee_call (ea_cons (ee_tup (ea_cons ee_str (ea_cons (ee_var rfl) (ea_cons (ee_var rfl) (ea_cons (ee_cb (ea_cons (ee_var rfl) ea_nil) rc_tup) (ea_cons (ee_cb (ea_cons (ee_var rfl) ea_nil) rc_tup) ea_nil)))))) ea_nil) (r_checked (r := .leaf lo hi ks vs) h)))
abbrev N_inner : List Str := ["level", "low", "high", "keys", "pages"]
theorem sc_inner : FnScope N_inner ["level", "low", "high", "keys", "pages"] (defScope s_inner) := ⟨rfl, rfl, rfl, by decide +kernel, rfl, by decide +kernel, by decide +kernel⟩
theorem ok_inner {f : Addr} {fd : FuncData} (F : FnP K "inner" "inner" s_inner f fd) (T : Bu mg) (c_checked : Cal P w K mg base 5 "checked" ["record"] (spF R_checked)) : FnOk P w K mg base CX0 6 f fd ["level", "low", "high", "keys", "pages"] (spF R_inner) := by
  refine fn_data F sc_inner (by rintro ds d ⟨lv, lo, hi, ks, ps, h, rfl, rfl⟩; rfl) (fun cdv A outer s H E hr ds d h => ?_)
  have nd := sc_inner.nd
  have hu := hu_of hr
  obtain ⟨lv, lo, hi, ks, ps, h, rfl, rfl⟩ := h
  refine ⟨_, (pss_one (ps_ret (pe_cl c_checked hr (by decide) (by rfl) (pa_cons (pe_tup (pa_cons pe_str (pa_cons (pv 0) (pa_cons (pv 1) (pa_cons (pv 2) (pa_cons (pe_callTy call_tupT (by rfl) T.tuple (by decide +kernel) (pa_cons (pv 3) pa_nil)) (pa_cons (pe_callTy call_tupT (by rfl) T.tuple (by decide +kernel) (pa_cons (pv 4) pa_nil)) pa_nil))))))) pa_nil)))), .inl ?_⟩
  show SO _ [some (.int lv), some (bd lo), some (bd hi), some (tI ks), some (tI ps)] _
  exact (so_ret (ee_call (ea_cons (ee_tup (ea_cons ee_str (ea_cons (ee_var rfl) (ea_cons (ee_var rfl) (ea_cons (ee_var rfl) (ea_cons (ee_cb (ea_cons (ee_var rfl) ea_nil) rc_tup) (ea_cons (ee_cb (ea_cons (ee_var rfl) ea_nil) rc_tup) ea_nil))))))) ea_nil) (r_checked (r := .inner lv lo hi ks ps) h)))
abbrev N_level_of : List Str := ["record"]
theorem sc_level_of : FnScope N_level_of ["record"] (defScope s_level_of) := ⟨rfl, rfl, rfl, by decide +kernel, rfl, by decide +kernel, by decide +kernel⟩
theorem ok_level_of {f : Addr} {fd : FuncData} (F : FnP K "level_of" "level_of" s_level_of f fd) (T : Bu mg) : FnOk P w K mg base CX0 1 f fd ["record"] (spF R_level_of) := by
  refine fn_data F sc_level_of (by rintro ds d ⟨r, rfl, rfl⟩; rfl) (fun cdv A outer s H E hr ds d h => ?_)
  have nd := sc_level_of.nd
  have hu := hu_of hr
  obtain ⟨r, rfl, rfl⟩ := h
  refine ⟨_, (pss_cons (ps_if (pt_cmpR op_eq (pe_ix ix_tup (pv 0) pe_int (fun _ _ => rfl)) pe_str (nomark _)) (pss_one (ps_ret pe_int)) pss_nil)
    (pss_cons (ps_if (pt_cmpR op_eq (pe_ix ix_tup (pv 0) pe_int (fun _ _ => rfl)) pe_str (nomark _)) (pss_one (ps_ret (pe_ix ix_tup (pv 0) pe_int (fun _ _ => rfl)))) pss_nil)
    (pss_one (ps_ret (pe_un un_neg pe_int))))), .inl ?_⟩
  show SO _ [some r.d] _
  cases r with
  | leaf lo hi ks vs => exact so_yes (et_test (ee_op (ee_op (ee_var rfl) ee_int (rd_ix rfl)) ee_str rd_eqS)) (decide_eq_true rfl) (so_seqR (so_ret ee_int))
  | inner lv lo hi ks ps =>
    refine so_no (et_test (ee_op (ee_op (ee_var rfl) ee_int (rd_ix rfl)) ee_str rd_eqS)) (decide_eq_false inner_leaf) ?_
    exact so_yes (et_test (ee_op (ee_op (ee_var rfl) ee_int (rd_ix rfl)) ee_str rd_eqS)) (decide_eq_true rfl) (so_seqR (so_ret (ee_op (ee_var rfl) ee_int (rd_ix rfl))))
  | free n =>
    refine so_no (et_test (ee_op (ee_op (ee_var rfl) ee_int (rd_ix rfl)) ee_str rd_eqS)) (decide_eq_false free_leaf) ?_
    refine so_no (et_test (ee_op (ee_op (ee_var rfl) ee_int (rd_ix rfl)) ee_str rd_eqS)) (decide_eq_false free_inner) ?_
    exact so_ret (ee_un ee_int ru_I)
abbrev N_bounds_of : List Str := ["record"]
theorem sc_bounds_of : FnScope N_bounds_of ["record"] (defScope s_bounds_of) := ⟨rfl, rfl, rfl, by decide +kernel, rfl, by decide +kernel, by decide +kernel⟩
theorem ok_bounds_of {f : Addr} {fd : FuncData} (F : FnP K "bounds_of" "bounds_of" s_bounds_of f fd) (T : Bu mg) : FnOk P w K mg base CX0 1 f fd ["record"] (spF R_bounds_of) := by
  refine fn_data F sc_bounds_of (by rintro ds d ⟨r, hl, rfl, rfl⟩; rfl) (fun cdv A outer s H E hr ds d h => ?_)
  have nd := sc_bounds_of.nd
  have hu := hu_of hr
  obtain ⟨r, hl, rfl, rfl⟩ := h
  refine ⟨_, (pss_cons (ps_if (pt_cmpR op_eq (pe_ix ix_tup (pv 0) pe_int (fun _ _ => rfl)) pe_str (nomark _)) (pss_one (ps_ret (pe_tup (pa_cons (pe_ix ix_tup (pv 0) pe_int (fun _ _ => rfl)) (pa_cons (pe_ix ix_tup (pv 0) pe_int (fun _ _ => rfl)) pa_nil))))) pss_nil)
    (pss_one (ps_ret (pe_tup (pa_cons (pe_ix ix_tup (pv 0) pe_int (fun _ _ => rfl)) (pa_cons (pe_ix ix_tup (pv 0) pe_int (fun _ _ => rfl)) pa_nil)))))), .inl ?_⟩
  show SO _ [some r.d] _
  cases r with
  | leaf lo hi ks vs => exact so_yes (et_test (ee_op (ee_op (ee_var rfl) ee_int (rd_ix rfl)) ee_str rd_eqS)) (decide_eq_true rfl) (so_seqR (so_ret (ee_tup (ea_cons (ee_op (ee_var rfl) ee_int (rd_ix rfl)) (ea_cons (ee_op (ee_var rfl) ee_int (rd_ix rfl)) ea_nil)))))
  | inner lv lo hi ks ps =>
    exact so_no (et_test (ee_op (ee_op (ee_var rfl) ee_int (rd_ix rfl)) ee_str rd_eqS)) (decide_eq_false inner_leaf) (so_ret (ee_tup (ea_cons (ee_op (ee_var rfl) ee_int (rd_ix rfl)) (ea_cons (ee_op (ee_var rfl) ee_int (rd_ix rfl)) ea_nil))))
  | free n => cases hl
abbrev N_size_of : List Str := ["record"]
theorem sc_size_of : FnScope N_size_of ["record"] (defScope s_size_of) := ⟨rfl, rfl, rfl, by decide +kernel, rfl, by decide +kernel, by decide +kernel⟩
theorem ok_size_of {f : Addr} {fd : FuncData} (F : FnP K "size_of" "size_of" s_size_of f fd) (T : Bu mg) : FnOk P w K mg base CX0 1 f fd ["record"] (spF R_size_of) := by
  refine fn_data F sc_size_of (by rintro ds d ⟨r, hl, rfl, rfl⟩; rfl) (fun cdv A outer s H E hr ds d h => ?_)
  have nd := sc_size_of.nd
  have hu := hu_of hr
  obtain ⟨r, hl, rfl, rfl⟩ := h
  refine ⟨_, (pss_one (ps_ret (pe_callB call_lenS (by rfl) T.len (by decide +kernel) (pa_cons (pe_ix ix_tup (pv 0) (pe_un un_neg pe_int) (fun _ _ => rfl)) pa_nil)))), .inl ?_⟩
  show SO _ [some r.d] _
  cases r with
  | leaf lo hi ks vs => exact so_retE (ee_cb (ea_cons (ee_op (ee_var rfl) (ee_un ee_int ru_I) (rd_ix rfl)) ea_nil) rc_len) (by rw [List.length_map]; rfl)
  | inner lv lo hi ks ps => exact so_retE (ee_cb (ea_cons (ee_op (ee_var rfl) (ee_un ee_int ru_I) (rd_ix rfl)) ea_nil) rc_len) (by rw [List.length_map]; rfl)
  | free n => cases hl
end
end Esp
set_option Elab.async false
set_option linter.all false
set_option maxRecDepth 100000
set_option maxHeartbeats 4000000
/-! E04h: slices and sums of tuples of ints; the node functions as plain functions. -/
namespace Esp
open PySem PySem.Spec PyProof.Rows L2
theorem cut_to (ks : List Int) (i : Nat) : cutD (ks.map PyData.int) none (some (i : Int)) = (ks.take i).map PyData.int := by
  unfold cutD
  rw [HT.sIx_none, HT.sIx_nat, List.drop_zero, Nat.sub_zero, List.length_map, List.map_take, List.take_eq_take_iff]
  rw [List.length_map]
  omega
theorem cut_from (ks : List Int) (i : Nat) : cutD (ks.map PyData.int) (some (i : Int)) none = (ks.drop i).map PyData.int := by
  unfold cutD
  rw [HT.sIx_none, HT.sIx_nat, List.length_map, List.map_drop]
  by_cases h : i ≤ ks.length
  · rw [Nat.min_eq_left h, List.take_of_length_le]
    rw [List.length_drop, List.length_map]
    exact Nat.le_refl _
  · rw [Nat.min_eq_right (by omega), Nat.sub_self, List.take_zero, List.drop_of_length_le]
    rw [List.length_map]
    omega
section
variable {K : PySem.W.Frag} {ρ : Env'} {ta tb te : TE} {tl th : TO} {ks as bs : List Int} {z v : Int} {i : Nat}
theorem ee_slTo (h : EE te ρ (tI ks)) (hh : EE tb ρ (.int z)) (e : z = (i : Int)) : EE (tSl (rSlA K) te tNoPart (tPart tb)) ρ (tI (ks.take i)) := by
  subst e
  exact ee_is (ee_sl h eo_none (eo_some hh)) (by rw [cut_to])
theorem ee_slFrom (h : EE te ρ (tI ks)) (hh : EE tb ρ (.int z)) (e : z = (i : Int)) : EE (tSl (rSlA K) te (tPart tb) tNoPart) ρ (tI (ks.drop i)) := by
  subst e
  exact ee_is (ee_sl h (eo_some hh) eo_none) (by rw [cut_from])
theorem ee_catI (ha : EE ta ρ (tI as)) (hb : EE tb ρ (tI bs)) (hl : as.length + bs.length ≤ 100000) : EE (tOp (rCatA K) ta tb) ρ (tI (as ++ bs)) :=
  ee_is (ee_op ha hb (rd_cat (by rw [List.length_map, List.length_map]; exact hl))) (by rw [← List.map_append])
theorem ee_sing (h : EE te ρ (.int v)) : EE (tTup (tCons te tNil)) ρ (tI [v]) := ee_tup (ea_cons h ea_nil)
theorem ee_ixI (ha : EE ta ρ (tI ks)) (hb : EE tb ρ (.int z)) (e : z = (i : Int)) (hx : ks[i]? = some v) : EE (tOp (rIxT K) ta tb) ρ (.int v) := ee_op ha hb (rd_ix (at_ix e hx))
theorem ee_lenI (h : EE te ρ (tI ks)) : EE (tCB (rLenS K) (tCons te tNil)) ρ (.int ks.length) := ee_is (ee_cb (ea_cons h ea_nil) rc_len) (by rw [List.length_map])
end
theorem getD_some {ks : List Int} {i : Nat} (h : i < ks.length) : ks[i]? = some (ks.getD i 0) := by
  rw [List.getD_eq_getElem?_getD, List.getElem?_eq_getElem h, Option.getD_some]
/-! ### the node functions -/
def lkp : List Int → List Int → Int → Option Int
  | k :: ks, v :: vs, x => if k = x then some v else lkp ks vs x
  | _, _, _ => none
def plc (ks : List Int) (k : Int) : Nat := (ks.filter fun x => decide (x < k)).length
def bhd (ks : List Int) (k : Int) : Nat := if ks[plc ks k]? = some k then plc ks k + 1 else plc ks k
def insK (ks : List Int) (k : Int) : List Int := ks.take (plc ks k) ++ k :: ks.drop (bhd ks k)
def insV (ks vs : List Int) (k v : Int) : List Int := vs.take (plc ks k) ++ v :: vs.drop (bhd ks k)
def delI (ks : List Int) (i : Nat) : List Int := ks.take i ++ ks.drop (i + 1)
def cLo (lo : Option Int) (ks : List Int) (i : Nat) : Option Int := if i = 0 then lo else ks[i - 1]?
def cHi (hi : Option Int) (ks : List Int) (i : Nat) : Option Int := if i < ks.length then ks[i]? else hi
def insI (ks : List Int) (i : Nat) (x : Int) : List Int := ks.take i ++ x :: ks.drop i
def setI (ks : List Int) (i : Nat) (x : Int) : List Int := ks.take i ++ x :: ks.drop (i + 1)
def half (n : Nat) : Nat := (n + 1) / 2
def Rec.cut : Rec → Rec × Int × Rec
  | .leaf lo hi ks vs =>
    let h := half vs.length
    let s := ks.getD h 0
    (.leaf lo (some s) (ks.take h) (vs.take h), s, .leaf (some s) hi (ks.drop h) (vs.drop h))
  | .inner lv lo hi ks ps =>
    let h := half ps.length
    let s := ks.getD (h - 1) 0
    (.inner lv lo (some s) (ks.take (h - 1)) (ps.take h), s, .inner lv (some s) hi (ks.drop h) (ps.drop h))
  | .free n => (.free n, 0, .free n)
def Rec.join : Rec → Int → Rec → Rec
  | .leaf lo _ ks vs, _, .leaf _ hi ks' vs' => .leaf lo hi (ks ++ ks') (vs ++ vs')
  | .inner lv lo _ ks ps, s, .inner _ _ hi ks' ps' => .inner lv lo hi (ks ++ s :: ks') (ps ++ ps')
  | r, _, _ => r
def R_value_in : List PyData → PyData → Prop := fun ds d => ∃ lo hi ks vs k, ks.length ≤ 100 ∧ ks.length = vs.length ∧ ds = [(Rec.leaf lo hi ks vs).d, .int k] ∧ d = bd (lkp ks vs k)
theorem r_value_in {lo hi ks vs k} (h : ks.length ≤ 100) (g : ks.length = vs.length) : R_value_in [(Rec.leaf lo hi ks vs).d, .int k] (bd (lkp ks vs k)) := ⟨lo, hi, ks, vs, k, h, g, rfl, rfl⟩
def R_place_of : List PyData → PyData → Prop := fun ds d => ∃ ks k, ks.length ≤ 100 ∧ ds = [tI ks, .int k] ∧ d = .int (plc ks k)
theorem r_place_of {ks k} (h : ks.length ≤ 100) : R_place_of [tI ks, .int k] (.int (plc ks k)) := ⟨ks, k, h, rfl, rfl⟩
def R_child_bounds : List PyData → PyData → Prop := fun ds d => ∃ lv lo hi ks ps z, ∃ i : Nat, z = (i : Int) ∧ i ≤ ks.length ∧ ds = [(Rec.inner lv lo hi ks ps).d, .int z] ∧ d = bdT (cLo lo ks i) (cHi hi ks i)
theorem r_child_bounds {lv lo hi ks ps z} {i : Nat} (e : z = (i : Int)) (h : i ≤ ks.length) : R_child_bounds [(Rec.inner lv lo hi ks ps).d, .int z] (bdT (cLo lo ks i) (cHi hi ks i)) := ⟨lv, lo, hi, ks, ps, z, i, e, h, rfl, rfl⟩
def R_with_value : List PyData → PyData → Prop := fun ds d => ∃ lo hi ks vs k v, ks.length ≤ 100 ∧ ks.length = vs.length ∧ (Rec.leaf lo hi (insK ks k) (insV ks vs k v)).Ok ∧ ds = [(Rec.leaf lo hi ks vs).d, .int k, .int v] ∧ d = (Rec.leaf lo hi (insK ks k) (insV ks vs k v)).d
theorem r_with_value {lo hi ks vs k v} (h : ks.length ≤ 100) (g : ks.length = vs.length) (o : (Rec.leaf lo hi (insK ks k) (insV ks vs k v)).Ok) : R_with_value [(Rec.leaf lo hi ks vs).d, .int k, .int v] (Rec.leaf lo hi (insK ks k) (insV ks vs k v)).d := ⟨lo, hi, ks, vs, k, v, h, g, o, rfl, rfl⟩
def R_without_key : List PyData → PyData → Prop := fun ds d => ∃ lo hi ks vs k, ks.length ≤ 100 ∧ ks.length = vs.length ∧ (Rec.leaf lo hi (delI ks (plc ks k)) (delI vs (plc ks k))).Ok ∧ ds = [(Rec.leaf lo hi ks vs).d, .int k] ∧ d = (Rec.leaf lo hi (delI ks (plc ks k)) (delI vs (plc ks k))).d
theorem r_without_key {lo hi ks vs k} (h : ks.length ≤ 100) (g : ks.length = vs.length) (o : (Rec.leaf lo hi (delI ks (plc ks k)) (delI vs (plc ks k))).Ok) : R_without_key [(Rec.leaf lo hi ks vs).d, .int k] (Rec.leaf lo hi (delI ks (plc ks k)) (delI vs (plc ks k))).d := ⟨lo, hi, ks, vs, k, h, g, o, rfl, rfl⟩
def R_with_child : List PyData → PyData → Prop := fun ds d => ∃ lv lo hi ks ps s pg z, ∃ i : Nat, z = (i : Int) ∧ ks.length ≤ 100 ∧ ps.length ≤ 101 ∧ (Rec.inner lv lo hi (insI ks i s) (insI ps (i + 1) pg)).Ok ∧ ds = [(Rec.inner lv lo hi ks ps).d, .int z, .int s, .int pg] ∧ d = (Rec.inner lv lo hi (insI ks i s) (insI ps (i + 1) pg)).d
theorem r_with_child {lv lo hi ks ps s pg z} {i : Nat} (e : z = (i : Int)) (h : ks.length ≤ 100) (g : ps.length ≤ 101) (o : (Rec.inner lv lo hi (insI ks i s) (insI ps (i + 1) pg)).Ok) : R_with_child [(Rec.inner lv lo hi ks ps).d, .int z, .int s, .int pg] (Rec.inner lv lo hi (insI ks i s) (insI ps (i + 1) pg)).d := ⟨lv, lo, hi, ks, ps, s, pg, z, i, e, h, g, o, rfl, rfl⟩
/-- the index is i + 1 -/
def R_without_child : List PyData → PyData → Prop := fun ds d => ∃ lv lo hi ks ps z, ∃ i : Nat, z = (i : Int) + 1 ∧ ks.length ≤ 100 ∧ ps.length ≤ 101 ∧ (Rec.inner lv lo hi (delI ks i) (delI ps (i + 1))).Ok ∧ ds = [(Rec.inner lv lo hi ks ps).d, .int z] ∧ d = (Rec.inner lv lo hi (delI ks i) (delI ps (i + 1))).d
theorem r_without_child {lv lo hi ks ps z} {i : Nat} (e : z = (i : Int) + 1) (h : ks.length ≤ 100) (g : ps.length ≤ 101) (o : (Rec.inner lv lo hi (delI ks i) (delI ps (i + 1))).Ok) : R_without_child [(Rec.inner lv lo hi ks ps).d, .int z] (Rec.inner lv lo hi (delI ks i) (delI ps (i + 1))).d := ⟨lv, lo, hi, ks, ps, z, i, e, h, g, o, rfl, rfl⟩
def R_with_separator : List PyData → PyData → Prop := fun ds d => ∃ lv lo hi ks ps s z, ∃ i : Nat, z = (i : Int) + 1 ∧ ks.length ≤ 100 ∧ (Rec.inner lv lo hi (setI ks i s) ps).Ok ∧ ds = [(Rec.inner lv lo hi ks ps).d, .int z, .int s] ∧ d = (Rec.inner lv lo hi (setI ks i s) ps).d
theorem r_with_separator {lv lo hi ks ps s z} {i : Nat} (e : z = (i : Int) + 1) (h : ks.length ≤ 100) (o : (Rec.inner lv lo hi (setI ks i s) ps).Ok) : R_with_separator [(Rec.inner lv lo hi ks ps).d, .int z, .int s] (Rec.inner lv lo hi (setI ks i s) ps).d := ⟨lv, lo, hi, ks, ps, s, z, i, e, h, o, rfl, rfl⟩
def Rec.CutOk (r : Rec) : Prop := r.live = true ∧ r.cut.1.Ok ∧ r.cut.2.2.Ok ∧ match r with
  | .leaf _ _ ks vs => half vs.length < ks.length
  | .inner _ _ _ ks ps => half ps.length - 1 < ks.length ∧ 2 ≤ ps.length
  | .free _ => False
def R_cut : List PyData → PyData → Prop := fun ds d => ∃ r : Rec, r.CutOk ∧ ds = [r.d] ∧ d = .tuple [r.cut.1.d, .int r.cut.2.1, r.cut.2.2.d]
theorem r_cut {r : Rec} (h : r.CutOk) : R_cut [r.d] (.tuple [r.cut.1.d, .int r.cut.2.1, r.cut.2.2.d]) := ⟨r, h, rfl, rfl⟩
/-- two records of one kind; the separator is an int for inner ones -/
def joinable : Rec → Rec → Bool
  | .leaf .., .leaf .. => true
  | .inner .., .inner .. => true
  | _, _ => false
def R_joined : List PyData → PyData → Prop := fun ds d => ∃ (a b : Rec) (s : Int), joinable a b = true ∧ (a.join s b).Ok ∧ ds = [a.d, .int s, b.d] ∧ d = (a.join s b).d
theorem r_joined {a b : Rec} {s : Int} (h : joinable a b = true) (o : (a.join s b).Ok) : R_joined [a.d, .int s, b.d] (a.join s b).d := ⟨a, b, s, h, o, rfl, rfl⟩
inductive Call where
  | put (k v : Int)
  | add (k v : Int)
  | change (k o n : Int)
  | take (k : Int)
  | look (k : Int)
def Call.key : Call → Int
  | .put k _ => k
  | .add k _ => k
  | .change k _ _ => k
  | .take k => k
  | .look k => k
abbrev Call.d : Call → PyData
  | .put k v => .tuple [.str "put", .int k, .int v]
  | .add k v => .tuple [.str "add", .int k, .int v]
  | .change k o n => .tuple [.str "change", .int k, .int o, .int n]
  | .take k => .tuple [.str "take", .int k]
  | .look k => .tuple [.str "look", .int k]
/-- what becomes of the key's value: none: nothing changes; some none: it goes -/
def Call.act (c : Call) (old : Option Int) : Option (Option Int) := match c with
  | .put _ v => if old = some v then none else some (some v)
  | .add _ v => if old.isSome then none else some (some v)
  | .change _ o n => if old = some o then (if n = o then none else some (some n)) else none
  | .take _ => if old.isSome then some none else none
  | .look _ => none
def Call.ans (c : Call) (old : Option Int) : PyData := match c with
  | .put _ _ => bd old
  | .add _ _ => .bool (old.isNone)
  | .change _ o _ => .bool (decide (old = some o))
  | .take _ => bd old
  | .look _ => bd old
/-- the new leaf -/
def actRec (lo hi : Option Int) (ks vs : List Int) (k : Int) : Option Int → Rec
  | some v => .leaf lo hi (insK ks k) (insV ks vs k v)
  | none => .leaf lo hi (delI ks (plc ks k)) (delI vs (plc ks k))
def orNon : Option Rec → PyData
  | some r => r.d
  | none => .none
def R_leaf_change : List PyData → PyData → Prop := fun ds d => ∃ (c : Call) (lo hi : Option Int) (ks vs : List Int), ks.length ≤ 100 ∧ ks.length = vs.length ∧ (∀ a, c.act (lkp ks vs c.key) = some a → (actRec lo hi ks vs c.key a).Ok) ∧
  ds = [c.d, (Rec.leaf lo hi ks vs).d] ∧ d = .tuple [c.ans (lkp ks vs c.key), orNon ((c.act (lkp ks vs c.key)).map (actRec lo hi ks vs c.key))]
def Rec.most (r : Rec) : Nat := if r.level = 0 then 4 else 5
def R_most_of : List PyData → PyData → Prop := fun ds d => ∃ r : Rec, ds = [r.d] ∧ d = .int r.most
theorem r_most_of {r : Rec} : R_most_of [r.d] (.int r.most) := ⟨r, rfl, rfl⟩
theorem put_add : ¬ (("put" : Str) = "add") := by decide +kernel
theorem add_put : ¬ (("add" : Str) = "put") := by decide +kernel
theorem change_put : ¬ (("change" : Str) = "put") := by decide +kernel
theorem change_add : ¬ (("change" : Str) = "add") := by decide +kernel
theorem take_put : ¬ (("take" : Str) = "put") := by decide +kernel
theorem take_add : ¬ (("take" : Str) = "add") := by decide +kernel
theorem take_change : ¬ (("take" : Str) = "change") := by decide +kernel
theorem look_put : ¬ (("look" : Str) = "put") := by decide +kernel
theorem look_add : ¬ (("look" : Str) = "add") := by decide +kernel
theorem look_change : ¬ (("look" : Str) = "change") := by decide +kernel
theorem look_take : ¬ (("look" : Str) = "take") := by decide +kernel
theorem put_change : ¬ (("put" : Str) = "change") := by decide +kernel
theorem put_take : ¬ (("put" : Str) = "take") := by decide +kernel
theorem lkp_find (ks vs : List Int) (x : Int) (h : ks.length = vs.length) : (match (List.range ks.length).findSome? (fun i => if ks.getD i 0 = x then some (PyData.int (vs.getD i 0)) else none) with
    | none => PyData.none
    | some d => d) = bd (lkp ks vs x) := by
  induction ks generalizing vs with
  | nil => cases vs <;> rfl
  | cons k ks ih =>
    cases vs with
    | nil => cases h
    | cons v vs =>
      have ih' := ih vs (by simpa using h)
      rw [List.length_cons, List.range_succ_eq_map, List.findSome?_cons]
      unfold lkp
      by_cases e : k = x
      · simp [e, bd]
      · rw [if_neg e]
        simp only [List.getD_cons_zero, if_neg e]
        rw [List.findSome?_map]
        exact ih'
end Esp
set_option Elab.async false
set_option linter.all false
set_option maxRecDepth 100000
set_option maxHeartbeats 4000000
namespace Esp
open PySem PySem.Spec PyProof.Rows L2
local macro_rules | `(tactic| walk_at "gn") => `(tactic| (repeat constructor))
section
variable {P : Program} {w : World} {K : PySem.W.Frag} {mg : Str → Option Value} {base : Heap}

abbrev N_value_in : List Str := ["record", "key", "index"]
theorem sc_value_in : FnScope N_value_in ["record", "key"] (defScope s_value_in) := ⟨rfl, rfl, rfl, by decide +kernel, rfl, by decide +kernel, by decide +kernel⟩
theorem ok_value_in {f : Addr} {fd : FuncData} (F : FnP K "value_in" "value_in" s_value_in f fd) (T : Bu mg) : FnOk P w K mg base CX0 1 f fd ["record", "key"] (spF R_value_in) := by
  refine fn_data F sc_value_in (by rintro ds d ⟨lo, hi, ks, vs, k, hz, hl, rfl, rfl⟩; rfl) (fun cdv A outer s H E hr ds d h => ?_)
  have nd := sc_value_in.nd
  have hu := hu_of hr
  obtain ⟨lo, hi, ks, vs, k, hz, hl, rfl, rfl⟩ := h
  refine ⟨_, (pss_cons (ps_for PassesOwn.never rfl (pi_range1 (by rfl) T.range (pa_cons (pe_callB call_lenS (by rfl) T.len (by decide +kernel) (pa_cons (pe_ix ix_tup (pv 0) pe_int (fun _ _ => rfl)) pa_nil)) pa_nil)) (pg_name (i := 2) nd rfl (Or.inl rfl))
    (pss_one (ps_if (pt_cmpR op_eq (pe_ix ix_tup (pe_ix ix_tup (pv 0) pe_int (fun _ _ => rfl)) (pv 2) (fun _ _ => rfl)) (pv 1) (nomark _)) (pss_one (ps_ret (pe_ix ix_tup (pe_ix ix_tup (pv 0) pe_int (fun _ _ => rfl)) (pv 2) (fun _ _ => rfl)))) pss_nil)))
    (pss_one (ps_ret pe_non))), .inl ?_⟩
  show SO _ [some (Rec.leaf lo hi ks vs).d, some (.int k), none] _
  have hf := lkp_find ks vs k hl
  have hrng : ∀ o, (match (List.range ks.length).findSome? (fun i => if ks.getD i 0 = k then some (PyData.int (vs.getD i 0)) else none) with
    | none => o = .nx ([some (Rec.leaf lo hi ks vs).d, some (.int k), none] : Env')
    | some d => o = .rt d) → SO (tFor (iRng1 (tCons (tCB (rLenS K) (tCons (tOp (rIxT K) (tVar 0) (tC (.int 3))) tNil)) tNil)) (gName 2)
      (tIfS (tTest (tOp rEq (tOp (rIxT K) (tOp (rIxT K) (tVar 0) (tC (.int 3))) (tVar 2)) (tVar 1))) (tRet (tOp (rIxT K) (tOp (rIxT K) (tVar 0) (tC (.int 4))) (tVar 2))) tNext)) [some (Rec.leaf lo hi ks vs).d, some (.int k), none] o := by
    intro o ho
    refine so_for (n := ks.length) (f := fun i => if ks.getD i 0 = k then some (PyData.int (vs.getD i 0)) else none) (ti_rng1 (ea_cons (ee_lenI (ee_op (ee_var rfl) ee_int (rd_ix rfl))) ea_nil) (by omega)) (fun i hin _ => ?_) ho
    have h1 : ks[i]? = some (ks.getD i 0) := getD_some hin
    have h2 : vs[i]? = some (vs.getD i 0) := getD_some (by omega)
    have e1 : (0 : Int) + (i : Int) = (i : Int) := by omega
    have ht := et_test (ee_op (ρ := [some (Rec.leaf lo hi ks vs).d, some (.int k), some (.int (0 + (i : Int)))]) (ee_ixI (K := K) (ee_op (r := rIxT K) (ee_var (i := 0) rfl) (ee_int (i := 3)) (rd_ix rfl)) (ee_var (i := 2) rfl) e1 h1) (ee_var (i := 1) rfl) rd_eqI)
    by_cases e : ks.getD i 0 = k
    · rw [if_pos e]
      exact so_ifT (et_is ht (decide_eq_true e)) (so_ret (ee_ixI (ee_op (ee_var rfl) ee_int (rd_ix rfl)) (ee_var rfl) e1 h2))
    · rw [if_neg e]
      exact so_weak (so_ifF (et_is ht (decide_eq_false e)) so_next) (EnvLe.cons (EnvLe.cons (EnvLe.drop EnvLe.nil)))
  rw [← hf]
  cases hq : (List.range ks.length).findSome? (fun i => if ks.getD i 0 = k then some (PyData.int (vs.getD i 0)) else none) with
  | none => exact so_seq (hrng _ (by rw [hq])) (so_ret ee_non)
  | some d => exact so_seqR (hrng _ (by rw [hq]))
abbrev N_place_of : List Str := ["keys", "key", "one"]
theorem sc_place_of : FnScope N_place_of ["keys", "key"] (defScope s_place_of) := ⟨rfl, rfl, rfl, by decide +kernel, rfl, by decide +kernel, by decide +kernel⟩
theorem ok_place_of {f : Addr} {fd : FuncData} (F : FnP K "place_of" "place_of" s_place_of f fd) (T : Bu mg) : FnOk P w K mg base CX0 1 f fd ["keys", "key"] (spF R_place_of) := by
  refine fn_data F sc_place_of (by rintro ds d ⟨ks, k, hz, rfl, rfl⟩; rfl) (fun cdv A outer s H E hr ds d h => ?_)
  have nd := sc_place_of.nd
  have hu := hu_of hr
  obtain ⟨ks, k, hz, rfl, rfl⟩ := h
  refine ⟨_, (pss_one (ps_ret (pe_callB call_lenS (by rfl) T.len (by decide +kernel) (pa_cons (pe_lc (own := [("one", 2)]) (g := gName 2) (by rfl) nd (pi_tup (pv 0)) (blkOk_by (own := [("one", 2)]) (N := N_place_of) (sc := defScope s_place_of) (by decide +kernel)) (fun _ _ _ _ _ => pg_name (i := 2) nd rfl (Or.inl rfl)) (fun _ _ _ _ _ => pts_one (pt_cmpR op_lt (pv 2) (pv 1) (nomark _))) (fun _ _ _ _ _ => (pv 2))) pa_nil)))), .inl ?_⟩
  show SO _ [some (tI ks), some (.int k), none] _
  exact so_ret (ee_cnt (fun x => decide (x < k)) (ee_var rfl) (by omega) (fun n hn => et_test (ee_op (ee_var rfl) (ee_var rfl) rd_B)) fun n hn => ee_var rfl)
abbrev N_child_bounds : List Str := ["record", "index", "low", "high", "keys"]
theorem sc_child_bounds : FnScope N_child_bounds ["record", "index"] (defScope s_child_bounds) := ⟨rfl, rfl, rfl, by decide +kernel, rfl, by decide +kernel, by decide +kernel⟩
theorem ok_child_bounds {f : Addr} {fd : FuncData} (F : FnP K "child_bounds" "child_bounds" s_child_bounds f fd) (T : Bu mg) : FnOk P w K mg base CX0 1 f fd ["record", "index"] (spF R_child_bounds) := by
  refine fn_data F sc_child_bounds (by rintro ds d ⟨lv, lo, hi, ks, ps, z, i, rfl, hz, rfl, rfl⟩; rfl) (fun cdv A outer s H E hr ds d h => ?_)
  have nd := sc_child_bounds.nd
  have hu := hu_of hr
  obtain ⟨lv, lo, hi, ks, ps, z, i, rfl, hz, rfl, rfl⟩ := h
  refine ⟨_, (pss_cons (ps_par3 (i := 2) (j := 3) (l := 4) (by rfl) nd rfl rfl rfl (by decide) (by decide) (by decide) rfl rfl rfl (pa_cons (pe_ix ix_tup (pv 0) pe_int (fun _ _ => rfl)) (pa_cons (pe_ix ix_tup (pv 0) pe_int (fun _ _ => rfl)) (pa_cons (pe_ix ix_tup (pv 0) pe_int (fun _ _ => rfl)) pa_nil))) (by rfl))
    (pss_cons (ps_if (pt_cmpR op_gt (pv 1) pe_int (nomark _)) (pss_one (ps_set (i := 2) nd rfl (Or.inl rfl) (pe_ix ix_tup (pv 4) (pe_op op_sub (pv 1) pe_int) (fun _ _ => rfl)))) pss_nil)
    (pss_cons (ps_if (pt_cmpR op_lt (pv 1) (pe_callB call_lenS (by rfl) T.len (by decide +kernel) (pa_cons (pv 4) pa_nil)) (nomark _)) (pss_one (ps_set (i := 3) nd rfl (Or.inl rfl) (pe_ix ix_tup (pv 4) (pv 1) (fun _ _ => rfl)))) pss_nil)
    (pss_one (ps_ret (pe_tup (pa_cons (pv 2) (pa_cons (pv 3) pa_nil)))))))), .inl ?_⟩
  show SO _ [some (Rec.inner lv lo hi ks ps).d, some (.int i), none, none, none] _
  refine so_seq (so_par3 (ea_cons (ee_op (ee_var rfl) ee_int (rd_ix rfl)) (ea_cons (ee_op (ee_var rfl) ee_int (rd_ix rfl)) (ea_cons (ee_op (ee_var rfl) ee_int (rd_ix rfl)) ea_nil)))) ?_
  refine so_seq (ρ1 := [some (Rec.inner lv lo hi ks ps).d, some (.int i), some (bd (cLo lo ks i)), some (bd hi), some (tI ks)]) (so_if (o1 := .rt .none) (o2 := .rt .none) (et_test (ee_op (ee_var rfl) ee_int rd_B)) (fun h => ?_) (fun h => ?_)) ?_
  · have h0 : 0 < i := by have := of_decide_eq_true h; omega
    have hx : ks[i - 1]? = some ks[i - 1] := List.getElem?_eq_getElem (by omega)
    have hc : cLo lo ks i = some ks[i - 1] := by unfold cLo; rw [if_neg (by omega), hx]
    rw [hc]
    exact so_set (ee_ixI (i := i - 1) (ee_var rfl) (ee_op (ee_var rfl) ee_int rd_I) (by omega) hx)
  · have h0 : i = 0 := by have := of_decide_eq_false h; omega
    have hc : cLo lo ks i = lo := by unfold cLo; rw [if_pos h0]
    rw [hc]
    exact so_next
  refine so_seq (ρ1 := [some (Rec.inner lv lo hi ks ps).d, some (.int i), some (bd (cLo lo ks i)), some (bd (cHi hi ks i)), some (tI ks)]) (so_if (o1 := .rt .none) (o2 := .rt .none) (et_test (ee_op (ee_var rfl) (ee_lenI (ee_var rfl)) rd_B)) (fun h => ?_) (fun h => ?_)) ?_
  · have h0 : i < ks.length := by have := of_decide_eq_true h; omega
    have hx : ks[i]? = some ks[i] := List.getElem?_eq_getElem (by omega)
    have hc : cHi hi ks i = some ks[i] := by unfold cHi; rw [if_pos h0, hx]
    rw [hc]
    exact so_set (ee_ixI (i := i) (ee_var rfl) (ee_var rfl) rfl hx)
  · have h0 : ¬ i < ks.length := by have := of_decide_eq_false h; omega
    have hc : cHi hi ks i = hi := by unfold cHi; rw [if_neg h0]
    rw [hc]
    exact so_next
  exact so_ret (ee_tup (ea_cons (ee_var rfl) (ea_cons (ee_var rfl) ea_nil)))
abbrev N_with_value : List Str := ["record", "key", "value", "place", "behind", "keys", "values", "low", "high"]
theorem sc_with_value : FnScope N_with_value ["record", "key", "value"] (defScope s_with_value) := ⟨rfl, rfl, rfl, by decide +kernel, rfl, by decide +kernel, by decide +kernel⟩
theorem ok_with_value {f : Addr} {fd : FuncData} (F : FnP K "with_value" "with_value" s_with_value f fd) (T : Bu mg) (c_place_of : Cal P w K mg base 1 "place_of" ["keys", "key"] (spF R_place_of)) (c_leaf : Cal P w K mg base 6 "leaf" ["low", "high", "keys", "values"] (spF R_leaf)) : FnOk P w K mg base CX0 7 f fd ["record", "key", "value"] (spF R_with_value) := by
  refine fn_data F sc_with_value (by rintro ds d ⟨lo, hi, ks, vs, k, v, hz, hl, ho, rfl, rfl⟩; rfl) (fun cdv A outer s H E hr ds d h => ?_)
  have nd := sc_with_value.nd
  have hu := hu_of hr
  obtain ⟨lo, hi, ks, vs, k, v, hz, hl, ho, rfl, rfl⟩ := h
  refine ⟨_, (pss_cons (ps_asg (pe_slice sl_tupA (pv 0) (po_some pe_int) po_none) (pg_tup rfl (pgs_cons (pg_name (i := 7) nd rfl (Or.inl rfl)) (pgs_cons (pg_name (i := 8) nd rfl (Or.inl rfl)) (pgs_cons (pg_name (i := 5) nd rfl (Or.inl rfl)) (pgs_cons (pg_name (i := 6) nd rfl (Or.inl rfl)) pgs_nil))))))
    (pss_cons (ps_set (i := 3) nd rfl (Or.inl rfl) (pe_cl c_place_of hr (by decide) (by rfl) (pa_cons (pv 5) (pa_cons (pv 1) pa_nil))))
    (pss_cons (ps_set (i := 4) nd rfl (Or.inl rfl) (pv 3))
    (pss_cons (ps_if (PW.pt (pw_and (pt_cmpR op_lt (pv 3) (pe_callB call_lenS (by rfl) T.len (by decide +kernel) (pa_cons (pv 5) pa_nil)) (nomark _)) (pw_and1 (pt_cmpR op_eq (pe_ix ix_tup (pv 5) (pv 3) (fun _ _ => rfl)) (pv 1) (nomark _))))) (pss_one (ps_set (i := 4) nd rfl (Or.inl rfl) (pe_op op_add (pv 3) pe_int))) pss_nil)
    (pss_cons (ps_set (i := 5) nd rfl (Or.inl rfl) (pe_op op_catA (pe_op op_catA (pe_slice sl_tupA (pv 5) po_none (po_some (pv 3))) (pe_tup (pa_cons (pv 1) pa_nil))) (pe_slice sl_tupA (pv 5) (po_some (pv 4)) po_none)))
    (pss_cons (ps_set (i := 6) nd rfl (Or.inl rfl) (pe_op op_catA (pe_op op_catA (pe_slice sl_tupA (pv 6) po_none (po_some (pv 3))) (pe_tup (pa_cons (pv 2) pa_nil))) (pe_slice sl_tupA (pv 6) (po_some (pv 4)) po_none)))
    (pss_one (ps_ret (pe_cl c_leaf hr (by decide) (by rfl) (pa_cons (pv 7) (pa_cons (pv 8) (pa_cons (pv 5) (pa_cons (pv 6) pa_nil))))))))))))), .inl ?_⟩
  show SO _ [some (Rec.leaf lo hi ks vs).d, some (.int k), some (.int v), none, none, none, none, none, none] _
  refine so_seq (so_unp (is := [7, 8, 5, 6]) (ee_sl (ee_var rfl) (eo_some ee_int) eo_none) (by walk_at "gn") rfl rfl) ?_
  show SO _ [some (Rec.leaf lo hi ks vs).d, some (.int k), some (.int v), none, none, some (tI ks), some (tI vs), some (bd lo), some (bd hi)] _
  refine so_seq (so_set (ee_call (ea_cons (ee_var rfl) (ea_cons (ee_var rfl) ea_nil)) (r_place_of hz))) ?_
  refine so_seq (so_set (ee_var rfl)) ?_
  have hp : plc ks k ≤ ks.length := List.length_filter_le _ _
  refine so_seq (ρ1 := [some (Rec.leaf lo hi ks vs).d, some (.int k), some (.int v), some (.int (plc ks k)), some (.int (bhd ks k)), some (tI ks), some (tI vs), some (bd lo), some (bd hi)]) ?_ ?_
  · by_cases hb : ks[plc ks k]? = some k
    · have hlt : plc ks k < ks.length := (List.getElem?_eq_some_iff.mp hb).1
      have e : bhd ks k = plc ks k + 1 := by unfold bhd; rw [if_pos hb]
      rw [e]
      exact so_ifT (et_is (et_and (et_test (ee_op (ee_var rfl) (ee_lenI (ee_var rfl)) rd_B)) fun _ => (et_test (ee_op (ee_ixI (ee_var rfl) (ee_var rfl) rfl hb) (ee_var rfl) rd_eqI))) (by simp; omega)) (so_set (ee_op (ee_var rfl) ee_int rd_I))
    · have e : bhd ks k = plc ks k := by unfold bhd; rw [if_neg hb]
      rw [e]
      by_cases hlt : plc ks k < ks.length
      · have hx : ks[plc ks k]? = some ks[plc ks k] := List.getElem?_eq_getElem hlt
        refine so_ifF (et_is (et_and (et_test (ee_op (ee_var rfl) (ee_lenI (ee_var rfl)) rd_B)) fun _ => (et_test (ee_op (ee_ixI (ee_var rfl) (ee_var rfl) rfl hx) (ee_var rfl) rd_eqI))) ?_) so_next
        have hne : ks[plc ks k] ≠ k := fun z => hb (by rw [hx, z])
        rw [decide_eq_false hne, Bool.and_false]
      · exact so_ifF (et_andF (et_test (ee_op (ee_var rfl) (ee_lenI (ee_var rfl)) rd_B)) (decide_eq_false (by omega))) so_next
  have hb2 : bhd ks k ≤ ks.length + 1 := by unfold bhd; split <;> omega
  refine so_seq (so_set (ee_catI (ee_catI (ee_slTo (ee_var rfl) (ee_var rfl) rfl) (ee_sing (ee_var rfl)) ?_) (ee_slFrom (ee_var rfl) (ee_var rfl) rfl) ?_)) ?_
  · simp; omega
  · simp; omega
  refine so_seq (so_set (ee_catI (ee_catI (ee_slTo (ee_var rfl) (ee_var rfl) rfl) (ee_sing (ee_var rfl)) ?_) (ee_slFrom (ee_var rfl) (ee_var rfl) rfl) ?_)) ?_
  · simp; omega
  · simp; omega
  have e1 : ks.take (plc ks k) ++ [k] ++ ks.drop (bhd ks k) = insK ks k := by unfold insK; simp
  have e2 : vs.take (plc ks k) ++ [v] ++ vs.drop (bhd ks k) = insV ks vs k v := by unfold insV; simp
  rw [e1, e2]
  exact so_ret (ee_call (ea_cons (ee_var rfl) (ea_cons (ee_var rfl) (ea_cons (ee_var rfl) (ea_cons (ee_var rfl) ea_nil)))) (r_leaf ho))
abbrev N_without_key : List Str := ["record", "key", "place", "low", "high", "keys", "values"]
theorem sc_without_key : FnScope N_without_key ["record", "key"] (defScope s_without_key) := ⟨rfl, rfl, rfl, by decide +kernel, rfl, by decide +kernel, by decide +kernel⟩
theorem ok_without_key {f : Addr} {fd : FuncData} (F : FnP K "without_key" "without_key" s_without_key f fd) (T : Bu mg) (c_place_of : Cal P w K mg base 1 "place_of" ["keys", "key"] (spF R_place_of)) (c_leaf : Cal P w K mg base 6 "leaf" ["low", "high", "keys", "values"] (spF R_leaf)) : FnOk P w K mg base CX0 7 f fd ["record", "key"] (spF R_without_key) := by
  refine fn_data F sc_without_key (by rintro ds d ⟨lo, hi, ks, vs, k, hz, hl, ho, rfl, rfl⟩; rfl) (fun cdv A outer s H E hr ds d h => ?_)
  have nd := sc_without_key.nd
  have hu := hu_of hr
  obtain ⟨lo, hi, ks, vs, k, hz, hl, ho, rfl, rfl⟩ := h
  refine ⟨_, (pss_cons (ps_asg (pe_slice sl_tupA (pv 0) (po_some pe_int) po_none) (pg_tup rfl (pgs_cons (pg_name (i := 3) nd rfl (Or.inl rfl)) (pgs_cons (pg_name (i := 4) nd rfl (Or.inl rfl)) (pgs_cons (pg_name (i := 5) nd rfl (Or.inl rfl)) (pgs_cons (pg_name (i := 6) nd rfl (Or.inl rfl)) pgs_nil))))))
    (pss_cons (ps_set (i := 2) nd rfl (Or.inl rfl) (pe_cl c_place_of hr (by decide) (by rfl) (pa_cons (pv 5) (pa_cons (pv 1) pa_nil))))
    (pss_one (ps_ret (pe_cl c_leaf hr (by decide) (by rfl) (pa_cons (pv 3) (pa_cons (pv 4) (pa_cons (pe_op op_catA (pe_slice sl_tupA (pv 5) po_none (po_some (pv 2))) (pe_slice sl_tupA (pv 5) (po_some (pe_op op_add (pv 2) pe_int)) po_none)) (pa_cons (pe_op op_catA (pe_slice sl_tupA (pv 6) po_none (po_some (pv 2))) (pe_slice sl_tupA (pv 6) (po_some (pe_op op_add (pv 2) pe_int)) po_none)) pa_nil))))))))), .inl ?_⟩
  show SO _ [some (Rec.leaf lo hi ks vs).d, some (.int k), none, none, none, none, none] _
  refine so_seq (so_unp (is := [3, 4, 5, 6]) (ee_sl (ee_var rfl) (eo_some ee_int) eo_none) (by walk_at "gn") rfl rfl) ?_
  show SO _ [some (Rec.leaf lo hi ks vs).d, some (.int k), none, some (bd lo), some (bd hi), some (tI ks), some (tI vs)] _
  refine so_seq (so_set (ee_call (ea_cons (ee_var rfl) (ea_cons (ee_var rfl) ea_nil)) (r_place_of hz))) ?_
  refine so_ret (ee_call (ea_cons (ee_var rfl) (ea_cons (ee_var rfl) (ea_cons (ee_catI (ee_slTo (ee_var rfl) (ee_var rfl) rfl) (ee_slFrom (ee_var rfl) (ee_op (ee_var rfl) ee_int rd_I) rfl) ?_) (ea_cons (ee_catI (ee_slTo (ee_var rfl) (ee_var rfl) rfl) (ee_slFrom (ee_var rfl) (ee_op (ee_var rfl) ee_int rd_I) rfl) ?_) ea_nil)))) (r_leaf ho))
  · simp; omega
  · simp; omega
abbrev N_with_child : List Str := ["record", "index", "separator", "page", "keys", "pages", "level", "low", "high"]
theorem sc_with_child : FnScope N_with_child ["record", "index", "separator", "page"] (defScope s_with_child) := ⟨rfl, rfl, rfl, by decide +kernel, rfl, by decide +kernel, by decide +kernel⟩
theorem ok_with_child {f : Addr} {fd : FuncData} (F : FnP K "with_child" "with_child" s_with_child f fd) (T : Bu mg) (c_inner : Cal P w K mg base 6 "inner" ["level", "low", "high", "keys", "pages"] (spF R_inner)) : FnOk P w K mg base CX0 7 f fd ["record", "index", "separator", "page"] (spF R_with_child) := by
  refine fn_data F sc_with_child (by rintro ds d ⟨lv, lo, hi, ks, ps, s', pg, z, i, rfl, hz, hl, ho, rfl, rfl⟩; rfl) (fun cdv A outer s H E hr ds d h => ?_)
  have nd := sc_with_child.nd
  have hu := hu_of hr
  obtain ⟨lv, lo, hi, ks, ps, s', pg, z, i, rfl, hz, hl, ho, rfl, rfl⟩ := h
  refine ⟨_, (pss_cons (ps_asg (pe_slice sl_tupA (pv 0) (po_some pe_int) po_none) (pg_tup rfl (pgs_cons (pg_name (i := 6) nd rfl (Or.inl rfl)) (pgs_cons (pg_name (i := 7) nd rfl (Or.inl rfl)) (pgs_cons (pg_name (i := 8) nd rfl (Or.inl rfl)) (pgs_cons (pg_name (i := 4) nd rfl (Or.inl rfl)) (pgs_cons (pg_name (i := 5) nd rfl (Or.inl rfl)) pgs_nil)))))))
    (pss_cons (ps_set (i := 4) nd rfl (Or.inl rfl) (pe_op op_catA (pe_op op_catA (pe_slice sl_tupA (pv 4) po_none (po_some (pv 1))) (pe_tup (pa_cons (pv 2) pa_nil))) (pe_slice sl_tupA (pv 4) (po_some (pv 1)) po_none)))
    (pss_cons (ps_set (i := 5) nd rfl (Or.inl rfl) (pe_op op_catA (pe_op op_catA (pe_slice sl_tupA (pv 5) po_none (po_some (pe_op op_add (pv 1) pe_int))) (pe_tup (pa_cons (pv 3) pa_nil))) (pe_slice sl_tupA (pv 5) (po_some (pe_op op_add (pv 1) pe_int)) po_none)))
    (pss_one (ps_ret (pe_cl c_inner hr (by decide) (by rfl) (pa_cons (pv 6) (pa_cons (pv 7) (pa_cons (pv 8) (pa_cons (pv 4) (pa_cons (pv 5) pa_nil))))))))))), .inl ?_⟩
  show SO _ [some (Rec.inner lv lo hi ks ps).d, some (.int i), some (.int s'), some (.int pg), none, none, none, none, none] _
  refine so_seq (so_unp (is := [6, 7, 8, 4, 5]) (ee_sl (ee_var rfl) (eo_some ee_int) eo_none) (by walk_at "gn") rfl rfl) ?_
  show SO _ [some (Rec.inner lv lo hi ks ps).d, some (.int i), some (.int s'), some (.int pg), some (tI ks), some (tI ps), some (.int lv), some (bd lo), some (bd hi)] _
  refine so_seq (so_set (ee_catI (ee_catI (ee_slTo (ee_var rfl) (ee_var rfl) rfl) (ee_sing (ee_var rfl)) ?_) (ee_slFrom (ee_var rfl) (ee_var rfl) rfl) ?_)) ?_
  · simp; omega
  · simp; omega
  refine so_seq (so_set (ee_catI (ee_catI (ee_slTo (i := i + 1) (ee_var rfl) (ee_op (ee_var rfl) ee_int rd_I) rfl) (ee_sing (ee_var rfl)) ?_) (ee_slFrom (i := i + 1) (ee_var rfl) (ee_op (ee_var rfl) ee_int rd_I) rfl) ?_)) ?_
  · simp; omega
  · simp; omega
  have e1 : ks.take i ++ [s'] ++ ks.drop i = insI ks i s' := by unfold insI; simp
  have e2 : ps.take (i + 1) ++ [pg] ++ ps.drop (i + 1) = insI ps (i + 1) pg := by unfold insI; simp
  rw [e1, e2]
  exact so_ret (ee_call (ea_cons (ee_var rfl) (ea_cons (ee_var rfl) (ea_cons (ee_var rfl) (ea_cons (ee_var rfl) (ea_cons (ee_var rfl) ea_nil))))) (r_inner ho))
abbrev N_without_child : List Str := ["record", "index", "keys", "level", "low", "high", "pages"]
theorem sc_without_child : FnScope N_without_child ["record", "index"] (defScope s_without_child) := ⟨rfl, rfl, rfl, by decide +kernel, rfl, by decide +kernel, by decide +kernel⟩
theorem ok_without_child {f : Addr} {fd : FuncData} (F : FnP K "without_child" "without_child" s_without_child f fd) (T : Bu mg) (c_inner : Cal P w K mg base 6 "inner" ["level", "low", "high", "keys", "pages"] (spF R_inner)) : FnOk P w K mg base CX0 7 f fd ["record", "index"] (spF R_without_child) := by
  refine fn_data F sc_without_child (by rintro ds d ⟨lv, lo, hi, ks, ps, z, i, rfl, hz, hl, ho, rfl, rfl⟩; rfl) (fun cdv A outer s H E hr ds d h => ?_)
  have nd := sc_without_child.nd
  have hu := hu_of hr
  obtain ⟨lv, lo, hi, ks, ps, z, i, rfl, hz, hl, ho, rfl, rfl⟩ := h
  refine ⟨_, (pss_cons (ps_asg (pe_slice sl_tupA (pv 0) (po_some pe_int) po_none) (pg_tup rfl (pgs_cons (pg_name (i := 3) nd rfl (Or.inl rfl)) (pgs_cons (pg_name (i := 4) nd rfl (Or.inl rfl)) (pgs_cons (pg_name (i := 5) nd rfl (Or.inl rfl)) (pgs_cons (pg_name (i := 2) nd rfl (Or.inl rfl)) (pgs_cons (pg_name (i := 6) nd rfl (Or.inl rfl)) pgs_nil)))))))
    (pss_cons (ps_set (i := 2) nd rfl (Or.inl rfl) (pe_op op_catA (pe_slice sl_tupA (pv 2) po_none (po_some (pe_op op_sub (pv 1) pe_int))) (pe_slice sl_tupA (pv 2) (po_some (pv 1)) po_none)))
    (pss_one (ps_ret (pe_cl c_inner hr (by decide) (by rfl) (pa_cons (pv 3) (pa_cons (pv 4) (pa_cons (pv 5) (pa_cons (pv 2) (pa_cons (pe_op op_catA (pe_slice sl_tupA (pv 6) po_none (po_some (pv 1))) (pe_slice sl_tupA (pv 6) (po_some (pe_op op_add (pv 1) pe_int)) po_none)) pa_nil)))))))))), .inl ?_⟩
  show SO _ [some (Rec.inner lv lo hi ks ps).d, some (.int (i + 1)), none, none, none, none, none] _
  refine so_seq (so_unp (is := [3, 4, 5, 2, 6]) (ee_sl (ee_var rfl) (eo_some ee_int) eo_none) (by walk_at "gn") rfl rfl) ?_
  show SO _ [some (Rec.inner lv lo hi ks ps).d, some (.int (i + 1)), some (tI ks), some (.int lv), some (bd lo), some (bd hi), some (tI ps)] _
  refine so_seq (so_set (ee_catI (ee_slTo (i := i) (ee_var rfl) (ee_op (ee_var rfl) ee_int rd_I) (by omega)) (ee_slFrom (i := i + 1) (ee_var rfl) (ee_var rfl) rfl) ?_)) ?_
  · simp; omega
  refine so_ret (ee_call (ea_cons (ee_var rfl) (ea_cons (ee_var rfl) (ea_cons (ee_var rfl) (ea_cons (ee_var rfl) (ea_cons (ee_catI (ee_slTo (i := i + 1) (ee_var rfl) (ee_var rfl) rfl) (ee_slFrom (i := i + 2) (ee_var rfl) (ee_op (ee_var rfl) ee_int rd_I) (by omega)) ?_) ea_nil))))) (r_inner ho))
  simp; omega
abbrev N_with_separator : List Str := ["record", "index", "separator", "level", "low", "high", "keys", "pages"]
theorem sc_with_separator : FnScope N_with_separator ["record", "index", "separator"] (defScope s_with_separator) := ⟨rfl, rfl, rfl, by decide +kernel, rfl, by decide +kernel, by decide +kernel⟩
theorem ok_with_separator {f : Addr} {fd : FuncData} (F : FnP K "with_separator" "with_separator" s_with_separator f fd) (T : Bu mg) (c_inner : Cal P w K mg base 6 "inner" ["level", "low", "high", "keys", "pages"] (spF R_inner)) : FnOk P w K mg base CX0 7 f fd ["record", "index", "separator"] (spF R_with_separator) := by
  refine fn_data F sc_with_separator (by rintro ds d ⟨lv, lo, hi, ks, ps, s', z, i, rfl, hz, ho, rfl, rfl⟩; rfl) (fun cdv A outer s H E hr ds d h => ?_)
  have nd := sc_with_separator.nd
  have hu := hu_of hr
  obtain ⟨lv, lo, hi, ks, ps, s', z, i, rfl, hz, ho, rfl, rfl⟩ := h
  refine ⟨_, (pss_cons (ps_asg (pe_slice sl_tupA (pv 0) (po_some pe_int) po_none) (pg_tup rfl (pgs_cons (pg_name (i := 3) nd rfl (Or.inl rfl)) (pgs_cons (pg_name (i := 4) nd rfl (Or.inl rfl)) (pgs_cons (pg_name (i := 5) nd rfl (Or.inl rfl)) (pgs_cons (pg_name (i := 6) nd rfl (Or.inl rfl)) (pgs_cons (pg_name (i := 7) nd rfl (Or.inl rfl)) pgs_nil)))))))
    (pss_one (ps_ret (pe_cl c_inner hr (by decide) (by rfl) (pa_cons (pv 3) (pa_cons (pv 4) (pa_cons (pv 5) (pa_cons (pe_op op_catA (pe_op op_catA (pe_slice sl_tupA (pv 6) po_none (po_some (pe_op op_sub (pv 1) pe_int))) (pe_tup (pa_cons (pv 2) pa_nil))) (pe_slice sl_tupA (pv 6) (po_some (pv 1)) po_none)) (pa_cons (pv 7) pa_nil))))))))), .inl ?_⟩
  show SO _ [some (Rec.inner lv lo hi ks ps).d, some (.int (i + 1)), some (.int s'), none, none, none, none, none] _
  refine so_seq (so_unp (is := [3, 4, 5, 6, 7]) (ee_sl (ee_var rfl) (eo_some ee_int) eo_none) (by walk_at "gn") rfl rfl) ?_
  show SO _ [some (Rec.inner lv lo hi ks ps).d, some (.int (i + 1)), some (.int s'), some (.int lv), some (bd lo), some (bd hi), some (tI ks), some (tI ps)] _
  have e1 : ks.take i ++ [s'] ++ ks.drop (i + 1) = setI ks i s' := by unfold setI; simp
  refine so_ret (ee_call (ea_cons (ee_var rfl) (ea_cons (ee_var rfl) (ea_cons (ee_var rfl) (ea_cons (ee_is (ee_catI (ee_catI (ee_slTo (i := i) (ee_var rfl) (ee_op (ee_var rfl) ee_int rd_I) (by omega)) (ee_sing (ee_var rfl)) ?_) (ee_slFrom (i := i + 1) (ee_var rfl) (ee_var rfl) rfl) ?_) (congrArg tI e1)) (ea_cons (ee_var rfl) ea_nil))))) (r_inner ho))
  · simp; omega
  · simp; omega
abbrev N_cut : List Str := ["record", "half", "separator", "first", "level", "low", "high", "keys", "pages", "values"]
theorem sc_cut : FnScope N_cut ["record"] (defScope s_cut) := ⟨rfl, rfl, rfl, by decide +kernel, rfl, by decide +kernel, by decide +kernel⟩
theorem ok_cut {f : Addr} {fd : FuncData} (F : FnP K "cut" "cut" s_cut f fd) (T : Bu mg) (c_inner : Cal P w K mg base 6 "inner" ["level", "low", "high", "keys", "pages"] (spF R_inner)) (c_leaf : Cal P w K mg base 6 "leaf" ["low", "high", "keys", "values"] (spF R_leaf)) (c_size_of : Cal P w K mg base 1 "size_of" ["record"] (spF R_size_of)) : FnOk P w K mg base CX0 7 f fd ["record"] (spF R_cut) := by
  refine fn_data F sc_cut (by rintro ds d ⟨r, ⟨hlv, h1, h2, h3⟩, rfl, rfl⟩; rfl) (fun cdv A outer s H E hr ds d h => ?_)
  have nd := sc_cut.nd
  have hu := hu_of hr
  obtain ⟨r, ⟨hlv, h1, h2, h3⟩, rfl, rfl⟩ := h
  refine ⟨_, (pss_cons (ps_set (i := 1) nd rfl (Or.inl rfl) (pe_op op_fdivN (pe_op op_add (pe_cl c_size_of hr (by decide) (by rfl) (pa_cons (pv 0) pa_nil)) pe_int) pe_int))
    (pss_cons (ps_if (pt_cmpR op_eq (pe_ix ix_tup (pv 0) pe_int (fun _ _ => rfl)) pe_str (nomark _)) (pss_cons (ps_asg (pe_slice sl_tupA (pv 0) (po_some pe_int) po_none) (pg_tup rfl (pgs_cons (pg_name (i := 5) nd rfl (Or.inl rfl)) (pgs_cons (pg_name (i := 6) nd rfl (Or.inl rfl)) (pgs_cons (pg_name (i := 7) nd rfl (Or.inl rfl)) (pgs_cons (pg_name (i := 9) nd rfl (Or.inl rfl)) pgs_nil))))))
    (pss_cons (ps_set (i := 3) nd rfl (Or.inl rfl) (pe_cl c_leaf hr (by decide) (by rfl) (pa_cons (pv 5) (pa_cons (pe_ix ix_tup (pv 7) (pv 1) (fun _ _ => rfl)) (pa_cons (pe_slice sl_tupA (pv 7) po_none (po_some (pv 1))) (pa_cons (pe_slice sl_tupA (pv 9) po_none (po_some (pv 1))) pa_nil))))))
    (pss_one (ps_ret (pe_tup (pa_cons (pv 3) (pa_cons (pe_ix ix_tup (pv 7) (pv 1) (fun _ _ => rfl)) (pa_cons (pe_cl c_leaf hr (by decide) (by rfl) (pa_cons (pe_ix ix_tup (pv 7) (pv 1) (fun _ _ => rfl)) (pa_cons (pv 6) (pa_cons (pe_slice sl_tupA (pv 7) (po_some (pv 1)) po_none) (pa_cons (pe_slice sl_tupA (pv 9) (po_some (pv 1)) po_none) pa_nil))))) pa_nil)))))))) pss_nil)
    (pss_cons (ps_asg (pe_slice sl_tupA (pv 0) (po_some pe_int) po_none) (pg_tup rfl (pgs_cons (pg_name (i := 4) nd rfl (Or.inl rfl)) (pgs_cons (pg_name (i := 5) nd rfl (Or.inl rfl)) (pgs_cons (pg_name (i := 6) nd rfl (Or.inl rfl)) (pgs_cons (pg_name (i := 7) nd rfl (Or.inl rfl)) (pgs_cons (pg_name (i := 8) nd rfl (Or.inl rfl)) pgs_nil)))))))
    (pss_cons (ps_set (i := 2) nd rfl (Or.inl rfl) (pe_ix ix_tup (pv 7) (pe_op op_sub (pv 1) pe_int) (fun _ _ => rfl)))
    (pss_cons (ps_set (i := 3) nd rfl (Or.inl rfl) (pe_cl c_inner hr (by decide) (by rfl) (pa_cons (pv 4) (pa_cons (pv 5) (pa_cons (pv 2) (pa_cons (pe_slice sl_tupA (pv 7) po_none (po_some (pe_op op_sub (pv 1) pe_int))) (pa_cons (pe_slice sl_tupA (pv 8) po_none (po_some (pv 1))) pa_nil)))))))
    (pss_one (ps_ret (pe_tup (pa_cons (pv 3) (pa_cons (pv 2) (pa_cons (pe_cl c_inner hr (by decide) (by rfl) (pa_cons (pv 4) (pa_cons (pv 2) (pa_cons (pv 6) (pa_cons (pe_slice sl_tupA (pv 7) (po_some (pv 1)) po_none) (pa_cons (pe_slice sl_tupA (pv 8) (po_some (pv 1)) po_none) pa_nil)))))) pa_nil))))))))))), .inl ?_⟩
  show SO _ [some r.d, none, none, none, none, none, none, none, none, none] _
  refine so_seq (so_set (ee_op (ee_op (ee_call (ea_cons (ee_var rfl) ea_nil) (r_size_of hlv)) ee_int rd_I) ee_int (rd_IC ⟨by decide, by decide⟩))) ?_
  have eh : ((r.size : Int) + 1).fdiv 2 = (half r.size : Int) := by
    rw [Int.fdiv_eq_ediv_of_nonneg _ (by decide)]
    unfold half
    omega
  rw [eh]
  cases r with
  | leaf lo hi ks vs =>
    have hx : ks[half vs.length]? = some (ks.getD (half vs.length) 0) := getD_some h3
    refine so_yes (et_test (ee_op (ee_op (ee_var rfl) ee_int (rd_ix rfl)) ee_str rd_eqS)) (decide_eq_true rfl) (so_seqR ?_)
    refine so_seq (so_unp (is := [5, 6, 7, 9]) (ee_sl (ee_var rfl) (eo_some ee_int) eo_none) (by walk_at "gn") rfl rfl) ?_
    show SO _ [some (Rec.leaf lo hi ks vs).d, some (.int (half vs.length)), none, none, none, some (bd lo), some (bd hi), some (tI ks), none, some (tI vs)] _
    refine so_seq (so_set (ee_call (ea_cons (ee_var rfl) (ea_cons (ee_ixI (ee_var rfl) (ee_var rfl) rfl hx) (ea_cons (ee_slTo (ee_var rfl) (ee_var rfl) rfl) (ea_cons (ee_slTo (ee_var rfl) (ee_var rfl) rfl) ea_nil)))) (r_leaf (hi := some (ks.getD (half vs.length) 0)) h1))) ?_
    exact so_ret (ee_tup (ea_cons (ee_var rfl) (ea_cons (ee_ixI (ee_var rfl) (ee_var rfl) rfl hx) (ea_cons (ee_call (ea_cons (ee_ixI (ee_var rfl) (ee_var rfl) rfl hx) (ea_cons (ee_var rfl) (ea_cons (ee_slFrom (ee_var rfl) (ee_var rfl) rfl) (ea_cons (ee_slFrom (ee_var rfl) (ee_var rfl) rfl) ea_nil)))) (r_leaf (lo := some (ks.getD (half vs.length) 0)) h2)) ea_nil))))
  | inner lv lo hi ks ps =>
    have hx : ks[half ps.length - 1]? = some (ks.getD (half ps.length - 1) 0) := getD_some h3.1
    have hh : 1 ≤ half ps.length := by unfold half; omega
    have em : ((half ps.length : Nat) : Int) - 1 = ((half ps.length - 1 : Nat) : Int) := by omega
    refine so_no (et_test (ee_op (ee_op (ee_var rfl) ee_int (rd_ix rfl)) ee_str rd_eqS)) (decide_eq_false inner_leaf) ?_
    refine so_seq (so_unp (is := [4, 5, 6, 7, 8]) (ee_sl (ee_var rfl) (eo_some ee_int) eo_none) (by walk_at "gn") rfl rfl) ?_
    show SO _ [some (Rec.inner lv lo hi ks ps).d, some (.int (half ps.length)), none, none, some (.int lv), some (bd lo), some (bd hi), some (tI ks), some (tI ps), none] _
    refine so_seq (so_set (ee_ixI (ee_var rfl) (ee_op (ee_var rfl) ee_int rd_I) em hx)) ?_
    refine so_seq (so_set (ee_call (ea_cons (ee_var rfl) (ea_cons (ee_var rfl) (ea_cons (ee_var rfl) (ea_cons (ee_slTo (ee_var rfl) (ee_op (ee_var rfl) ee_int rd_I) em) (ea_cons (ee_slTo (ee_var rfl) (ee_var rfl) rfl) ea_nil))))) (r_inner (hi := some (ks.getD (half ps.length - 1) 0)) h1))) ?_
    exact so_ret (ee_tup (ea_cons (ee_var rfl) (ea_cons (ee_var rfl) (ea_cons (ee_call (ea_cons (ee_var rfl) (ea_cons (ee_var rfl) (ea_cons (ee_var rfl) (ea_cons (ee_slFrom (ee_var rfl) (ee_var rfl) rfl) (ea_cons (ee_slFrom (ee_var rfl) (ee_var rfl) rfl) ea_nil))))) (r_inner (lo := some (ks.getD (half ps.length - 1) 0)) h2)) ea_nil))))
  | free n => cases hlv
abbrev N_joined : List Str := ["first", "separator", "second", "low", "high", "keys"]
theorem sc_joined : FnScope N_joined ["first", "separator", "second"] (defScope s_joined) := ⟨rfl, rfl, rfl, by decide +kernel, rfl, by decide +kernel, by decide +kernel⟩
theorem ok_joined {f : Addr} {fd : FuncData} (F : FnP K "joined" "joined" s_joined f fd) (T : Bu mg) (c_inner : Cal P w K mg base 6 "inner" ["level", "low", "high", "keys", "pages"] (spF R_inner)) (c_bounds_of : Cal P w K mg base 1 "bounds_of" ["record"] (spF R_bounds_of)) (c_leaf : Cal P w K mg base 6 "leaf" ["low", "high", "keys", "values"] (spF R_leaf)) : FnOk P w K mg base CX0 7 f fd ["first", "separator", "second"] (spF R_joined) := by
  refine fn_data F sc_joined (by rintro ds d ⟨a, b, s', hj, ho, rfl, rfl⟩; rfl) (fun cdv A outer s H E hr ds d h => ?_)
  have nd := sc_joined.nd
  have hu := hu_of hr
  obtain ⟨a, b, s', hj, ho, rfl, rfl⟩ := h
  refine ⟨_, (pss_cons (ps_set (i := 3) nd rfl (Or.inl rfl) (pe_ix ix_tup (pe_cl c_bounds_of hr (by decide) (by rfl) (pa_cons (pv 0) pa_nil)) pe_int (fun _ _ => rfl)))
    (pss_cons (ps_set (i := 4) nd rfl (Or.inl rfl) (pe_ix ix_tup (pe_cl c_bounds_of hr (by decide) (by rfl) (pa_cons (pv 2) pa_nil)) pe_int (fun _ _ => rfl)))
    (pss_cons (ps_if (pt_cmpR op_eq (pe_ix ix_tup (pv 0) pe_int (fun _ _ => rfl)) pe_str (nomark _)) (pss_one (ps_ret (pe_cl c_leaf hr (by decide) (by rfl) (pa_cons (pv 3) (pa_cons (pv 4) (pa_cons (pe_op op_catA (pe_ix ix_tup (pv 0) pe_int (fun _ _ => rfl)) (pe_ix ix_tup (pv 2) pe_int (fun _ _ => rfl))) (pa_cons (pe_op op_catA (pe_ix ix_tup (pv 0) pe_int (fun _ _ => rfl)) (pe_ix ix_tup (pv 2) pe_int (fun _ _ => rfl))) pa_nil))))))) pss_nil)
    (pss_cons (ps_set (i := 5) nd rfl (Or.inl rfl) (pe_op op_catA (pe_op op_catA (pe_ix ix_tup (pv 0) pe_int (fun _ _ => rfl)) (pe_tup (pa_cons (pv 1) pa_nil))) (pe_ix ix_tup (pv 2) pe_int (fun _ _ => rfl))))
    (pss_one (ps_ret (pe_cl c_inner hr (by decide) (by rfl) (pa_cons (pe_ix ix_tup (pv 0) pe_int (fun _ _ => rfl)) (pa_cons (pv 3) (pa_cons (pv 4) (pa_cons (pv 5) (pa_cons (pe_op op_catA (pe_ix ix_tup (pv 0) pe_int (fun _ _ => rfl)) (pe_ix ix_tup (pv 2) pe_int (fun _ _ => rfl))) pa_nil)))))))))))), .inl ?_⟩
  show SO _ [some a.d, some (.int s'), some b.d, none, none, none] _
  have la : a.live = true := by cases a <;> first | rfl | (cases b <;> cases hj)
  have lb : b.live = true := by cases b <;> first | rfl | (cases a <;> cases hj)
  refine so_seq (so_set (ee_op (ee_call (ea_cons (ee_var rfl) ea_nil) (r_bounds_of la)) ee_int (rd_ix rfl))) ?_
  refine so_seq (so_set (ee_op (ee_call (ea_cons (ee_var rfl) ea_nil) (r_bounds_of lb)) ee_int (rd_ix rfl))) ?_
  cases a with
  | free n => cases la
  | leaf lo hi ks vs =>
    cases b with
    | free n => cases lb
    | inner lv' lo' hi' ks' ps' => cases hj
    | leaf lo' hi' ks' vs' =>
      obtain ⟨z1, z2, z3⟩ := (show (Rec.leaf lo hi' (ks ++ ks') (vs ++ vs')).Ok from ho)
      rw [List.length_append] at z1
      rw [List.length_append, List.length_append] at z2
      refine so_yes (et_test (ee_op (ee_op (ee_var rfl) ee_int (rd_ix rfl)) ee_str rd_eqS)) (decide_eq_true rfl) (so_seqR ?_)
      exact so_ret (ee_call (ea_cons (ee_var rfl) (ea_cons (ee_var rfl) (ea_cons (ee_catI (ee_op (ee_var rfl) ee_int (rd_ix rfl)) (ee_op (ee_var rfl) ee_int (rd_ix rfl)) (by omega)) (ea_cons (ee_catI (ee_op (ee_var rfl) ee_int (rd_ix rfl)) (ee_op (ee_var rfl) ee_int (rd_ix rfl)) (by omega)) ea_nil)))) (r_leaf ho))
  | inner lv lo hi ks ps =>
    cases b with
    | free n => cases lb
    | leaf lo' hi' ks' vs' => cases hj
    | inner lv' lo' hi' ks' ps' =>
      obtain ⟨z1, z0, z2, z3⟩ := (show (Rec.inner lv lo hi' (ks ++ s' :: ks') (ps ++ ps')).Ok from ho)
      rw [List.length_append, List.length_cons] at z1
      rw [List.length_append, List.length_append, List.length_cons] at z2
      refine so_no (et_test (ee_op (ee_op (ee_var rfl) ee_int (rd_ix rfl)) ee_str rd_eqS)) (decide_eq_false inner_leaf) ?_
      have e1 : ks ++ [s'] ++ ks' = ks ++ s' :: ks' := by simp
      refine so_seq (so_set (ee_is (ee_catI (ee_catI (ee_op (ee_var rfl) ee_int (rd_ix rfl)) (ee_sing (ee_var rfl)) ?_) (ee_op (ee_var rfl) ee_int (rd_ix rfl)) ?_) (congrArg tI e1))) ?_
      · simp; omega
      · simp; omega
      exact so_ret (ee_call (ea_cons (ee_op (ee_var rfl) ee_int (rd_ix rfl)) (ea_cons (ee_var rfl) (ea_cons (ee_var rfl) (ea_cons (ee_var rfl) (ea_cons (ee_catI (ee_op (ee_var rfl) ee_int (rd_ix rfl)) (ee_op (ee_var rfl) ee_int (rd_ix rfl)) (by omega)) ea_nil))))) (r_inner ho))
abbrev N_most_of : List Str := ["record"]
theorem sc_most_of : FnScope N_most_of ["record"] (defScope s_most_of) := ⟨rfl, rfl, rfl, by decide +kernel, rfl, by decide +kernel, by decide +kernel⟩
theorem ok_most_of {f : Addr} {fd : FuncData} (F : FnP K "most_of" "most_of" s_most_of f fd) (T : Bu mg) (c_level_of : Cal P w K mg base 1 "level_of" ["record"] (spF R_level_of)) : FnOk P w K mg base CX0 2 f fd ["record"] (spF R_most_of) := by
  refine fn_data F sc_most_of (by rintro ds d ⟨r, rfl, rfl⟩; rfl) (fun cdv A outer s H E hr ds d h => ?_)
  have nd := sc_most_of.nd
  have hu := hu_of hr
  obtain ⟨r, rfl, rfl⟩ := h
  refine ⟨_, (pss_cons (ps_if (pt_cmpR op_eq (pe_cl c_level_of hr (by decide) (by rfl) (pa_cons (pv 0) pa_nil)) pe_int (nomark _)) (pss_one (ps_ret (pe_gi (by rfl) T.LEAF_MOST))) pss_nil)
    (pss_one (ps_ret (pe_gi (by rfl) T.INNER_MOST)))), .inl ?_⟩
  show SO _ [some r.d] _
  unfold Rec.most
  by_cases e : r.level = 0
  · rw [if_pos e]
    exact so_yes (et_test (ee_op (ee_call (ea_cons (ee_var rfl) ea_nil) r_level_of) ee_int rd_eqI)) (decide_eq_true e) (so_seqR (so_ret ee_int))
  · rw [if_neg e]
    exact so_no (et_test (ee_op (ee_call (ea_cons (ee_var rfl) ea_nil) r_level_of) ee_int rd_eqI)) (decide_eq_false e) (so_ret ee_int)
end
end Esp
set_option Elab.async false
set_option linter.all false
set_option maxRecDepth 100000
set_option maxHeartbeats 4000000
namespace Esp
open PySem PySem.Spec PyProof.Rows L2
theorem rd_ne_bd {o : Option Int} {j : Int} : RD rNe (bd o) (.int j) (.bool (!decide (o = some j))) := by
  cases o with
  | none =>
    have h := rd_neV (x := bd none) (y := .int j) (v := .non) (w := .int j) rfl rfl rfl
    have e : decide (V.non = V.int j) = decide ((none : Option Int) = some j) := dcd ⟨fun e => (by cases e), fun e => (by cases e)⟩
    rwa [e] at h
  | some i =>
    have h := rd_neI (i := i) (j := j)
    have e : decide (i = j) = decide ((some i : Option Int) = some j) := dcd ⟨fun e => by rw [e], fun e => by injection e⟩
    rwa [e] at h
theorem isNon_bd' (o : Option Int) : isNon (bd o) = o.isNone := by cases o <;> rfl
end Esp
set_option Elab.async false
set_option linter.all false
set_option maxRecDepth 100000
set_option maxHeartbeats 4000000
namespace Esp
open PySem PySem.Spec PyProof.Rows L2
local macro_rules | `(tactic| walk_at "gn") => `(tactic| (repeat constructor))
section
variable {P : Program} {w : World} {K : PySem.W.Frag} {mg : Str → Option Value} {base : Heap}

abbrev N_leaf_change : List Str := ["call", "record", "old", "kind", "key"]
theorem sc_leaf_change : FnScope N_leaf_change ["call", "record"] (defScope s_leaf_change) := ⟨rfl, rfl, rfl, by decide +kernel, rfl, by decide +kernel, by decide +kernel⟩
theorem ok_leaf_change {f : Addr} {fd : FuncData} (F : FnP K "leaf_change" "leaf_change" s_leaf_change f fd) (T : Bu mg) (c_value_in : Cal P w K mg base 1 "value_in" ["record", "key"] (spF R_value_in)) (c_with_value : Cal P w K mg base 7 "with_value" ["record", "key", "value"] (spF R_with_value)) (c_without_key : Cal P w K mg base 7 "without_key" ["record", "key"] (spF R_without_key)) : FnOk P w K mg base CX0 8 f fd ["call", "record"] (spF R_leaf_change) := by
  refine fn_data F sc_leaf_change (by rintro ds d ⟨c, lo, hi, ks, vs, hz, hl, ho, rfl, rfl⟩; rfl) (fun cdv A outer s H E hr ds d h => ?_)
  have nd := sc_leaf_change.nd
  have hu := hu_of hr
  obtain ⟨c, lo, hi, ks, vs, hz, hl, ho, rfl, rfl⟩ := h
  refine ⟨_, (pss_cons (ps_par (i := 3) (j := 4) (by rfl) nd rfl rfl (by decide) rfl rfl (pa_cons (pe_ix ix_tup (pv 0) pe_int (fun _ _ => rfl)) (pa_cons (pe_ix ix_tup (pv 0) pe_int (fun _ _ => rfl)) pa_nil)) (by rfl))
    (pss_cons (ps_set (i := 2) nd rfl (Or.inl rfl) (pe_cl c_value_in hr (by decide) (by rfl) (pa_cons (pv 1) (pa_cons (pv 4) pa_nil))))
    (pss_cons (ps_if (PW.pt (pw_and (pt_cmpR op_eq (pv 3) pe_str (nomark _)) (pw_and1 (pt_cmpR op_ne (pv 2) (pe_ix ix_tup (pv 0) pe_int (fun _ _ => rfl)) (nomark _))))) (pss_one (ps_ret (pe_tup (pa_cons (pv 2) (pa_cons (pe_cl c_with_value hr (by decide) (by rfl) (pa_cons (pv 1) (pa_cons (pv 4) (pa_cons (pe_ix ix_tup (pv 0) pe_int (fun _ _ => rfl)) pa_nil)))) pa_nil))))) pss_nil)
    (pss_cons (ps_if (pt_cmpR op_eq (pv 3) pe_str (nomark _)) (pss_cons (ps_if (pt_cmpR op_notN1 (pv 2) pe_non (nomark _)) (pss_one (ps_ret (pe_tup (pa_cons pe_bl (pa_cons pe_non pa_nil))))) pss_nil)
    (pss_one (ps_ret (pe_tup (pa_cons pe_bl (pa_cons (pe_cl c_with_value hr (by decide) (by rfl) (pa_cons (pv 1) (pa_cons (pv 4) (pa_cons (pe_ix ix_tup (pv 0) pe_int (fun _ _ => rfl)) pa_nil)))) pa_nil)))))) pss_nil)
    (pss_cons (ps_if (pt_cmpR op_eq (pv 3) pe_str (nomark _)) (pss_cons (ps_if (PW.pt (pw_or (pt_cmpR op_isN1 (pv 2) pe_non (nomark _)) (pw_or1 (pt_cmpR op_ne (pv 2) (pe_ix ix_tup (pv 0) pe_int (fun _ _ => rfl)) (nomark _))))) (pss_one (ps_ret (pe_tup (pa_cons pe_bl (pa_cons pe_non pa_nil))))) pss_nil)
    (pss_cons (ps_if (pt_cmpR op_eq (pe_ix ix_tup (pv 0) pe_int (fun _ _ => rfl)) (pv 2) (nomark _)) (pss_one (ps_ret (pe_tup (pa_cons pe_bl (pa_cons pe_non pa_nil))))) pss_nil)
    (pss_one (ps_ret (pe_tup (pa_cons pe_bl (pa_cons (pe_cl c_with_value hr (by decide) (by rfl) (pa_cons (pv 1) (pa_cons (pv 4) (pa_cons (pe_ix ix_tup (pv 0) pe_int (fun _ _ => rfl)) pa_nil)))) pa_nil))))))) pss_nil)
    (pss_cons (ps_if (PW.pt (pw_and (pt_cmpR op_eq (pv 3) pe_str (nomark _)) (pw_and1 (pt_cmpR op_notN1 (pv 2) pe_non (nomark _))))) (pss_one (ps_ret (pe_tup (pa_cons (pv 2) (pa_cons (pe_cl c_without_key hr (by decide) (by rfl) (pa_cons (pv 1) (pa_cons (pv 4) pa_nil))) pa_nil))))) pss_nil)
    (pss_one (ps_ret (pe_tup (pa_cons (pv 2) (pa_cons pe_non pa_nil))))))))))), .inl ?_⟩
  show SO _ [some c.d, some (Rec.leaf lo hi ks vs).d, none, none, none] _
  cases c with
  | put k v =>
    refine so_seq (so_par (ea_cons (ee_op (ee_var rfl) ee_int (rd_ix rfl)) (ea_cons (ee_op (ee_var rfl) ee_int (rd_ix rfl)) ea_nil))) ?_
    refine so_seq (so_set (ee_call (ea_cons (ee_var rfl) (ea_cons (ee_var rfl) ea_nil)) (r_value_in hz hl))) ?_
    by_cases e : lkp ks vs k = some v
    · refine so_no (et_and (et_test (ee_op (ee_var rfl) ee_str rd_eqS)) fun _ => (et_test (ee_op (ee_var rfl) (ee_op (ee_var rfl) ee_int (rd_ix rfl)) rd_ne_bd))) (by rw [decide_eq_true e]; simp) ?_
      refine so_no (et_test (ee_op (ee_var rfl) ee_str rd_eqS)) (decide_eq_false put_add) ?_
      refine so_no (et_test (ee_op (ee_var rfl) ee_str rd_eqS)) (decide_eq_false put_change) ?_
      refine so_no (et_andF (et_test (ee_op (ee_var rfl) ee_str rd_eqS)) (decide_eq_false put_take)) rfl ?_
      refine so_retE (ee_tup (ea_cons (ee_var rfl) (ea_cons ee_non ea_nil))) ?_
      simp [Call.act, Call.ans, Call.key, e, orNon]
    · refine so_yes (et_and (et_test (ee_op (ee_var rfl) ee_str rd_eqS)) fun _ => (et_test (ee_op (ee_var rfl) (ee_op (ee_var rfl) ee_int (rd_ix rfl)) rd_ne_bd))) (by rw [decide_eq_false e]; simp) (so_seqR ?_)
      have ha : (Call.put k v).act (lkp ks vs (Call.put k v).key) = some (some v) := by simp [Call.act, Call.key, e]
      rw [ha]
      exact so_ret (ee_tup (ea_cons (ee_var rfl) (ea_cons (ee_call (ea_cons (ee_var rfl) (ea_cons (ee_var rfl) (ea_cons (ee_op (ee_var rfl) ee_int (rd_ix rfl)) ea_nil))) (r_with_value hz hl (ho _ ha))) ea_nil)))
  | add k v =>
    refine so_seq (so_par (ea_cons (ee_op (ee_var rfl) ee_int (rd_ix rfl)) (ea_cons (ee_op (ee_var rfl) ee_int (rd_ix rfl)) ea_nil))) ?_
    refine so_seq (so_set (ee_call (ea_cons (ee_var rfl) (ea_cons (ee_var rfl) ea_nil)) (r_value_in hz hl))) ?_
    refine so_no (et_andF (et_test (ee_op (ee_var rfl) ee_str rd_eqS)) (decide_eq_false add_put)) rfl ?_
    refine so_yes (et_test (ee_op (ee_var rfl) ee_str rd_eqS)) (decide_eq_true rfl) (so_seqR ?_)
    cases e : lkp ks vs k with
    | some x =>
      refine so_yes (et_test (ee_op (ee_var rfl) ee_non rd_notN)) rfl (so_seqR (so_retE (ee_tup (ea_cons ee_bl (ea_cons ee_non ea_nil))) ?_))
      simp [Call.act, Call.ans, Call.key, e, orNon]
    | none =>
      refine so_no (et_test (ee_op (ee_var rfl) ee_non rd_notN)) rfl ?_
      have ha : (Call.add k v).act (lkp ks vs (Call.add k v).key) = some (some v) := by simp [Call.act, Call.key, e]
      rw [ha]
      refine so_retE (ee_tup (ea_cons ee_bl (ea_cons (ee_call (ea_cons (ee_var rfl) (ea_cons (ee_var rfl) (ea_cons (ee_op (ee_var rfl) ee_int (rd_ix rfl)) ea_nil))) (r_with_value hz hl (ho _ ha))) ea_nil))) ?_
      simp [Call.act, Call.ans, Call.key, e, orNon, actRec]
  | change k o n =>
    refine so_seq (so_par (ea_cons (ee_op (ee_var rfl) ee_int (rd_ix rfl)) (ea_cons (ee_op (ee_var rfl) ee_int (rd_ix rfl)) ea_nil))) ?_
    refine so_seq (so_set (ee_call (ea_cons (ee_var rfl) (ea_cons (ee_var rfl) ea_nil)) (r_value_in hz hl))) ?_
    refine so_no (et_andF (et_test (ee_op (ee_var rfl) ee_str rd_eqS)) (decide_eq_false change_put)) rfl ?_
    refine so_no (et_test (ee_op (ee_var rfl) ee_str rd_eqS)) (decide_eq_false change_add) ?_
    refine so_yes (et_test (ee_op (ee_var rfl) ee_str rd_eqS)) (decide_eq_true rfl) (so_seqR ?_)
    cases e : lkp ks vs k with
    | none =>
      refine so_yes (et_orT (et_test (ee_op (ee_var rfl) ee_non rd_isN)) rfl) rfl (so_seqR (so_retE (ee_tup (ea_cons ee_bl (ea_cons ee_non ea_nil))) ?_))
      simp [Call.act, Call.ans, Call.key, e, orNon]
    | some x =>
      by_cases hx : x = o
      · subst hx
        refine so_no (et_or (et_test (ee_op (ee_var rfl) ee_non rd_isN)) fun _ => (et_test (ee_op (ee_var rfl) (ee_op (ee_var rfl) ee_int (rd_ix rfl)) rd_neI))) (by simp [isNon, bd]) ?_
        by_cases hn : n = x
        · subst hn
          refine so_yes (et_test (ee_op (ee_op (ee_var rfl) ee_int (rd_ix rfl)) (ee_var rfl) rd_eqI)) (decide_eq_true rfl) (so_seqR (so_retE (ee_tup (ea_cons ee_bl (ea_cons ee_non ea_nil))) ?_))
          simp [Call.act, Call.ans, Call.key, e, orNon]
        · refine so_no (et_test (ee_op (ee_op (ee_var rfl) ee_int (rd_ix rfl)) (ee_var rfl) rd_eqI)) (decide_eq_false hn) ?_
          have ha : (Call.change k x n).act (lkp ks vs (Call.change k x n).key) = some (some n) := by simp [Call.act, Call.key, e, hn]
          rw [ha]
          refine so_retE (ee_tup (ea_cons ee_bl (ea_cons (ee_call (ea_cons (ee_var rfl) (ea_cons (ee_var rfl) (ea_cons (ee_op (ee_var rfl) ee_int (rd_ix rfl)) ea_nil))) (r_with_value hz hl (ho _ ha))) ea_nil))) ?_
          simp [Call.act, Call.ans, Call.key, e, orNon, actRec]
      · refine so_yes (et_or (et_test (ee_op (ee_var rfl) ee_non rd_isN)) fun _ => (et_test (ee_op (ee_var rfl) (ee_op (ee_var rfl) ee_int (rd_ix rfl)) rd_neI))) (by simp [isNon, bd, hx]) (so_seqR (so_retE (ee_tup (ea_cons ee_bl (ea_cons ee_non ea_nil))) ?_))
        simp [Call.act, Call.ans, Call.key, e, orNon, hx]
  | take k =>
    refine so_seq (so_par (ea_cons (ee_op (ee_var rfl) ee_int (rd_ix rfl)) (ea_cons (ee_op (ee_var rfl) ee_int (rd_ix rfl)) ea_nil))) ?_
    refine so_seq (so_set (ee_call (ea_cons (ee_var rfl) (ea_cons (ee_var rfl) ea_nil)) (r_value_in hz hl))) ?_
    refine so_no (et_andF (et_test (ee_op (ee_var rfl) ee_str rd_eqS)) (decide_eq_false take_put)) rfl ?_
    refine so_no (et_test (ee_op (ee_var rfl) ee_str rd_eqS)) (decide_eq_false take_add) ?_
    refine so_no (et_test (ee_op (ee_var rfl) ee_str rd_eqS)) (decide_eq_false take_change) ?_
    cases e : lkp ks vs k with
    | none =>
      refine so_no (et_and (et_test (ee_op (ee_var rfl) ee_str rd_eqS)) fun _ => (et_test (ee_op (ee_var rfl) ee_non rd_notN))) (by simp [isNon, bd]) ?_
      refine so_retE (ee_tup (ea_cons (ee_var rfl) (ea_cons ee_non ea_nil))) ?_
      simp [Call.act, Call.ans, Call.key, e, orNon]
    | some x =>
      refine so_yes (et_and (et_test (ee_op (ee_var rfl) ee_str rd_eqS)) fun _ => (et_test (ee_op (ee_var rfl) ee_non rd_notN))) (by simp [isNon, bd]) (so_seqR ?_)
      have ha : (Call.take k).act (lkp ks vs (Call.take k).key) = some none := by simp [Call.act, Call.key, e]
      rw [ha]
      refine so_retE (ee_tup (ea_cons (ee_var rfl) (ea_cons (ee_call (ea_cons (ee_var rfl) (ea_cons (ee_var rfl) ea_nil)) (r_without_key hz hl (ho _ ha))) ea_nil))) ?_
      simp [Call.act, Call.ans, Call.key, e, orNon, actRec]
  | look k =>
    refine so_seq (so_par (ea_cons (ee_op (ee_var rfl) ee_int (rd_ix rfl)) (ea_cons (ee_op (ee_var rfl) ee_int (rd_ix rfl)) ea_nil))) ?_
    refine so_seq (so_set (ee_call (ea_cons (ee_var rfl) (ea_cons (ee_var rfl) ea_nil)) (r_value_in hz hl))) ?_
    refine so_no (et_andF (et_test (ee_op (ee_var rfl) ee_str rd_eqS)) (decide_eq_false look_put)) rfl ?_
    refine so_no (et_test (ee_op (ee_var rfl) ee_str rd_eqS)) (decide_eq_false look_add) ?_
    refine so_no (et_test (ee_op (ee_var rfl) ee_str rd_eqS)) (decide_eq_false look_change) ?_
    refine so_no (et_andF (et_test (ee_op (ee_var rfl) ee_str rd_eqS)) (decide_eq_false look_take)) rfl ?_
    refine so_retE (ee_tup (ea_cons (ee_var rfl) (ea_cons ee_non ea_nil))) ?_
    simp [Call.act, Call.ans, Call.key, orNon]
end
end Esp
set_option Elab.async false
set_option linter.all false
set_option maxRecDepth 100000
set_option maxHeartbeats 4000000
namespace Esp
open PySem PySem.Spec PyProof.Rows L2
section
variable {ρ : Env'} {te : TE} {k : Bool} {i : Int} {ds : List PyData}
def rInt1 : List V → Hp → VK → Prop := fun xs H Q => (∃ i, xs = [.int i] ∧ Q (.int i) H) ∨ ∃ k, xs = [.bl k] ∧ Q (.int (if k then 1 else 0)) H
theorem call_intS {X : Cx} : CallR X (.type "int") rInt1 := call_int1
theorem rc_intB : RC rInt1 [.bool k] (.int (if k then 1 else 0)) := fun H as h Q q => by
  cases h with
  | cons h1 h2 =>
    cases h2
    cases h1
    exact .inr ⟨k, rfl, q _ H (Ex.refl H) (.int _)⟩
theorem rc_intI : RC rInt1 [.int i] (.int i) := fun H as h Q q => by
  cases h with
  | cons h1 h2 =>
    cases h2
    cases h1
    exact .inl ⟨i, rfl, q _ H (Ex.refl H) (.int _)⟩
theorem shaped_bdT (lo hi : Option Int) : SeqAt.shaped (bdT lo hi) = true := by cases lo <;> cases hi <;> rfl
theorem eqv_bd (a b : Option Int) : PyData.eqv (bd a) (bd b) = decide (a = b) := by
  cases a <;> cases b
  · rfl
  · simp [bd, PyData.eqv]
  · simp [bd, PyData.eqv]
  · rename_i x y
    show (x == y) = decide (some x = some y)
    rw [Bool.eq_iff_iff]
    simp
theorem eqv_bdT (a b c d : Option Int) : PyData.eqv (bdT a b) (bdT c d) = decide (a = c ∧ b = d) := by
  show (PyData.eqv (bd a) (bd c) && (PyData.eqv (bd b) (bd d) && true)) = _
  rw [eqv_bd, eqv_bd, Bool.and_true, Bool.decide_and]
theorem rd_neT {K : PySem.W.Frag} {a b c d : Option Int} : RD (rNeD K) (bdT a b) (bdT c d) (.bool (!decide (a = c ∧ b = d))) := by
  have h := rd_neD (K := K) (x := bdT a b) (y := bdT c d) (shaped_bdT _ _) (shaped_bdT _ _)
  rwa [eqv_bdT] at h
theorem rd_eqT {K : PySem.W.Frag} {a b c d : Option Int} : RD (rEqD K) (bdT a b) (bdT c d) (.bool (decide (a = c ∧ b = d))) := by
  have h := rd_eqD (K := K) (x := bdT a b) (y := bdT c d) (shaped_bdT _ _) (shaped_bdT _ _)
  rwa [eqv_bdT] at h
theorem inV_int (i : Int) (ns : List Int) : inV (.int i) (ns.map V.int) = decide (i ∈ ns) := by
  unfold inV
  induction ns with
  | nil => rfl
  | cons n ns ih =>
    rw [List.map_cons, List.any_cons, ih]
    show ((n == i) || _) = _
    by_cases e : n = i
    · subst e; simp
    · have : ¬ i = n := fun z => e z.symm
      simp [e, this]
theorem inV_non (ns : List Int) : inV .non (ns.map V.int) = false := by
  unfold inV
  induction ns with
  | nil => rfl
  | cons n ns ih =>
    rw [List.map_cons, List.any_cons, ih]
    rfl
theorem flat_ints (ns : List Int) : (ns.map V.int).all flatV = true := by
  rw [List.all_map]
  exact List.all_eq_true.mpr fun _ _ => rfl
theorem rd_nin {K : PySem.W.Frag} {o : Option Int} {ns : List Int} (h : ∀ i, o = some i → i ∉ ns) : RD (rIn K true) (bd o) (tI ns) (.bool true) := fun H a b ha hb Q q => by
  cases hb with
  | tup g1 g2 =>
    rw [dn_ints g2] at g1
    cases o with
    | none =>
      cases ha
      refine ⟨_, _, rfl, .inr (SqT.of g1), rfl, flat_ints _, ?_⟩
      rw [inV_non]
      exact q _ H (Ex.refl H) (.bl _)
    | some i =>
      cases ha
      refine ⟨_, _, rfl, .inr (SqT.of g1), rfl, flat_ints _, ?_⟩
      rw [inV_int, decide_eq_false (h i rfl)]
      exact q _ H (Ex.refl H) (.bl _)
end
def R_law_ascending : List PyData → PyData → Prop := fun ds d => ∃ ks lo hi, ks.length ≤ 100 ∧ ks.Pairwise (· < ·) ∧ (∀ k ∈ ks, (abv k lo && blw k hi) = true) ∧ ds = [tI ks, bd lo, bd hi] ∧ d = .bool true
theorem r_law_ascending {ks lo hi} (h : ks.length ≤ 100) (g : ks.Pairwise (· < ·)) (o : ∀ k ∈ ks, (abv k lo && blw k hi) = true) : R_law_ascending [tI ks, bd lo, bd hi] (.bool true) := ⟨ks, lo, hi, h, g, o, rfl, rfl⟩
def Fits (page : Int) (r : Rec) (lo hi : Option Int) (lv : Int) : Prop := r.Ok ∧ r.lo = lo ∧ r.hi = hi ∧ match r with
  | .leaf _ _ ks _ => lv ≤ 0 ∧ (page ≠ 0 → 2 ≤ ks.length) ∧ ks.length ≤ 4
  | .inner v _ _ _ ps => (0 ≤ lv → v = lv) ∧ 2 ≤ ps.length ∧ ps.length ≤ 5
  | .free _ => False
def R_law_fits : List PyData → PyData → Prop := fun ds d => ∃ page r lo hi lv, Fits page r lo hi lv ∧ ds = [.int page, r.d, bd lo, bd hi, .int lv] ∧ d = .bool true
theorem r_law_fits {page r lo hi lv} (h : Fits page r lo hi lv) : R_law_fits [.int page, r.d, bd lo, bd hi, .int lv] (.bool true) := ⟨page, r, lo, hi, lv, h, rfl, rfl⟩
end Esp
set_option Elab.async false
set_option linter.all false
set_option maxRecDepth 100000
set_option maxHeartbeats 4000000
namespace Esp
open PySem PySem.Spec PyProof.Rows L2
section
variable {P : Program} {w : World} {K : PySem.W.Frag} {mg : Str → Option Value} {base : Heap}

abbrev N_law_ascending : List Str := ["_law_keys", "_law_low", "_law_high", "_law_k"]
theorem sc_law_ascending : FnScope N_law_ascending ["_law_keys", "_law_low", "_law_high"] (defScope s_law_ascending) := ⟨rfl, rfl, rfl, by decide +kernel, rfl, by decide +kernel, by decide +kernel⟩
theorem ok_law_ascending {f : Addr} {fd : FuncData} (F : FnP K "_law_ascending" "_law_ascending" s_law_ascending f fd) (T : Bu mg) : FnOk P w K mg base CX0 1 f fd ["_law_keys", "_law_low", "_law_high"] (spF R_law_ascending) := by
  refine fn_data F sc_law_ascending (by rintro ds d ⟨ks, lo, hi, hz, hp, hk, rfl, rfl⟩; rfl) (fun cdv A outer s H E hr ds d h => ?_)
  have nd := sc_law_ascending.nd
  have hu := hu_of hr
  obtain ⟨ks, lo, hi, hz, hp, hk, rfl, rfl⟩ := h
  refine ⟨_, (pss_cons (ps_for PassesOwn.never rfl (pi_range1 (by rfl) T.range (pa_cons (pe_callB call_lenS (by rfl) T.len (by decide +kernel) (pa_cons (pv 0) pa_nil)) pa_nil)) (pg_name (i := 3) nd rfl (Or.inl rfl))
    (pss_cons (ps_if (PW.pt (pw_and (pt_cmpR op_gt (pv 3) pe_int (nomark _)) (pw_and1 (pt_cmpR op_ge (pe_ix ix_tup (pv 0) (pe_op op_sub (pv 3) pe_int) (fun _ _ => rfl)) (pe_ix ix_tup (pv 0) (pv 3) (fun _ _ => rfl)) (nomark _))))) (pss_one (ps_ret pe_bl)) pss_nil)
    (pss_one (ps_if (PW.pt (pw_or (PW.pt (pw_and (pt_cmpR op_notN1 (pv 1) pe_non (nomark _)) (pw_and1 (pt_cmpR op_lt (pe_ix ix_tup (pv 0) (pv 3) (fun _ _ => rfl)) (pv 1) (nomark _))))) (pw_or1 (PW.pt (pw_and (pt_cmpR op_notN1 (pv 2) pe_non (nomark _)) (pw_and1 (pt_cmpR op_ge (pe_ix ix_tup (pv 0) (pv 3) (fun _ _ => rfl)) (pv 2) (nomark _)))))))) (pss_one (ps_ret pe_bl)) pss_nil))))
    (pss_one (ps_ret pe_bl))), .inl ?_⟩
  show SO _ [some (tI ks), some (bd lo), some (bd hi), none] _
  refine so_seq (ρ1 := [some (tI ks), some (bd lo), some (bd hi), none]) (so_for (n := ks.length) (f := fun _ => none) (ti_rng1 (ea_cons (ee_lenI (ee_var rfl)) ea_nil) (by omega)) (fun i hin _ => ?_) ?_) (so_ret ee_bl)
  · have h1 : ks[i]? = some ks[i] := List.getElem?_eq_getElem hin
    have e1 : (0 : Int) + (i : Int) = (i : Int) := by omega
    have hki := hk ks[i] (List.getElem_mem hin)
    rw [Bool.and_eq_true] at hki
    refine so_weak (ρ1 := [some (tI ks), some (bd lo), some (bd hi), some (.int (0 + (i : Int)))]) ?_ (EnvLe.cons (EnvLe.cons (EnvLe.cons (EnvLe.drop EnvLe.nil))))
    show SO _ [some (tI ks), some (bd lo), some (bd hi), some (.int (0 + (i : Int)))] _
    refine so_no (b := false) ?_ rfl ?_
    · by_cases h0 : 0 < i
      · have h2 : ks[i - 1]? = some ks[i - 1] := List.getElem?_eq_getElem (by omega)
        refine et_is (et_and (et_test (ee_op (ee_var rfl) ee_int rd_B)) fun _ => (et_test (ee_op (ee_ixI (ee_var rfl) (ee_op (ee_var rfl) ee_int rd_I) (i := i - 1) (by omega) h2) (ee_ixI (ee_var rfl) (ee_var rfl) e1 h1) rd_B))) ?_
        have := List.pairwise_iff_getElem.mp hp (i - 1) i (by omega) hin (by omega)
        rw [decide_eq_false (p := ks[i] ≤ ks[i - 1]) (by omega), Bool.and_false]
      · exact et_andF (et_test (ee_op (ee_var rfl) ee_int rd_B)) (decide_eq_false (by omega))
    refine so_ifF (et_is (et_or (a := false) (b := false) ?_ fun _ => ?_) rfl) so_next
    · cases lo with
      | none => exact et_andF (et_test (ee_op (ee_var rfl) ee_non rd_notN)) rfl
      | some l =>
        have : l ≤ ks[i] := of_decide_eq_true hki.1
        exact et_is (et_and (et_test (ee_op (ee_var rfl) ee_non rd_notN)) fun _ => (et_test (ee_op (ee_ixI (ee_var rfl) (ee_var rfl) e1 h1) (ee_var rfl) rd_B))) (by rw [decide_eq_false (p := ks[i] < l) (by omega), Bool.and_false])
    · cases hi with
      | none => exact et_andF (et_test (ee_op (ee_var rfl) ee_non rd_notN)) rfl
      | some l =>
        have : ks[i] < l := of_decide_eq_true hki.2
        exact et_is (et_and (et_test (ee_op (ee_var rfl) ee_non rd_notN)) fun _ => (et_test (ee_op (ee_ixI (ee_var rfl) (ee_var rfl) e1 h1) (ee_var rfl) rd_B))) (by rw [decide_eq_false (p := l ≤ ks[i]) (by omega), Bool.and_false])
  · rw [List.findSome?_eq_none_iff.mpr (fun x _ => rfl)]
    rfl
abbrev N_law_fits : List Str := ["_law_page", "_law_record", "_law_low", "_law_high", "_law_level", "_law_least"]
theorem sc_law_fits : FnScope N_law_fits ["_law_page", "_law_record", "_law_low", "_law_high", "_law_level"] (defScope s_law_fits) := ⟨rfl, rfl, rfl, by decide +kernel, rfl, by decide +kernel, by decide +kernel⟩
theorem ok_law_fits {f : Addr} {fd : FuncData} (F : FnP K "_law_fits" "_law_fits" s_law_fits f fd) (T : Bu mg) (c_law_ascending : Cal P w K mg base 1 "_law_ascending" ["_law_keys", "_law_low", "_law_high"] (spF R_law_ascending)) : FnOk P w K mg base CX0 2 f fd ["_law_page", "_law_record", "_law_low", "_law_high", "_law_level"] (spF R_law_fits) := by
  refine fn_data F sc_law_fits (by rintro ds d ⟨page, r, lo, hi, lv, ⟨ho, rfl, rfl, hf⟩, rfl, rfl⟩; rfl) (fun cdv A outer s H E hr ds d h => ?_)
  have nd := sc_law_fits.nd
  have hu := hu_of hr
  obtain ⟨page, r, lo, hi, lv, ⟨ho, rfl, rfl, hf⟩, rfl, rfl⟩ := h
  refine ⟨_, (pss_cons (ps_set (i := 5) nd rfl (Or.inl rfl) (pe_op op_mul pe_int (pe_callTy call_intS (by rfl) T.int (by decide +kernel) (pa_cons (pe_cmpR op_ne (pv 0) pe_int (nomark _)) pa_nil))))
    (pss_cons (ps_if (PW.pt (pw_and (pt_cmpR op_eq (pe_ix ix_tup (pv 1) pe_int (fun _ _ => rfl)) pe_str (nomark _)) (pw_and1 (pt_cmpR op_eq (pe_callB call_lenS (by rfl) T.len (by decide +kernel) (pa_cons (pv 1) pa_nil)) pe_int (nomark _))))) (pss_cons (ps_if (PW.pt (pw_or (pt_cmpR op_gt (pv 4) pe_int (nomark _)) (pw_or (pt_cmpR (op_neD hr.units) (pe_slice sl_tupA (pv 1) (po_some pe_int) (po_some pe_int)) (pe_tup (pa_cons (pv 2) (pa_cons (pv 3) pa_nil))) (nomark _)) (pw_or1 (pt_not (pt_chain op_le op_le (pv 5) (pe_callB call_lenS (by rfl) T.len (by decide +kernel) (pa_cons (pe_ix ix_tup (pv 1) pe_int (fun _ _ => rfl)) pa_nil)) pe_int)))))) (pss_one (ps_ret pe_bl)) pss_nil)
    (pss_one (ps_ret (pe_and (pe_cmpR op_eq (pe_callB call_lenS (by rfl) T.len (by decide +kernel) (pa_cons (pe_ix ix_tup (pv 1) pe_int (fun _ _ => rfl)) pa_nil)) (pe_callB call_lenS (by rfl) T.len (by decide +kernel) (pa_cons (pe_ix ix_tup (pv 1) pe_int (fun _ _ => rfl)) pa_nil)) (nomark _)) (pe_one (pe_cl c_law_ascending hr (by decide) (by rfl) (pa_cons (pe_ix ix_tup (pv 1) pe_int (fun _ _ => rfl)) (pa_cons (pv 2) (pa_cons (pv 3) pa_nil))))))))) pss_nil)
    (pss_cons (ps_if (PW.pt (pw_or (pt_cmpR op_ne (pe_ix ix_tup (pv 1) pe_int (fun _ _ => rfl)) pe_str (nomark _)) (pw_or (pt_cmpR op_ne (pe_callB call_lenS (by rfl) T.len (by decide +kernel) (pa_cons (pv 1) pa_nil)) pe_int (nomark _)) (pw_or1 (pt_cmpR op_lt (pe_ix ix_tup (pv 1) pe_int (fun _ _ => rfl)) pe_int (nomark _)))))) (pss_one (ps_ret pe_bl)) pss_nil)
    (pss_cons (ps_if (PW.pt (pw_or (PW.pt (pw_and (pt_cmpR op_ge (pv 4) pe_int (nomark _)) (pw_and1 (pt_cmpR op_ne (pe_ix ix_tup (pv 1) pe_int (fun _ _ => rfl)) (pv 4) (nomark _))))) (pw_or1 (pt_cmpR (op_neD hr.units) (pe_slice sl_tupA (pv 1) (po_some pe_int) (po_some pe_int)) (pe_tup (pa_cons (pv 2) (pa_cons (pv 3) pa_nil))) (nomark _))))) (pss_one (ps_ret pe_bl)) pss_nil)
    (pss_cons (ps_if (PW.pt (pw_or (pt_not (pt_chain op_le op_le pe_int (pe_callB call_lenS (by rfl) T.len (by decide +kernel) (pa_cons (pe_ix ix_tup (pv 1) pe_int (fun _ _ => rfl)) pa_nil)) pe_int)) (pw_or1 (pt_cmpR op_ne (pe_callB call_lenS (by rfl) T.len (by decide +kernel) (pa_cons (pe_ix ix_tup (pv 1) pe_int (fun _ _ => rfl)) pa_nil)) (pe_op op_sub (pe_callB call_lenS (by rfl) T.len (by decide +kernel) (pa_cons (pe_ix ix_tup (pv 1) pe_int (fun _ _ => rfl)) pa_nil)) pe_int) (nomark _))))) (pss_one (ps_ret pe_bl)) pss_nil)
    (pss_one (ps_ret (pe_and (pe_cl c_law_ascending hr (by decide) (by rfl) (pa_cons (pe_ix ix_tup (pv 1) pe_int (fun _ _ => rfl)) (pa_cons (pv 2) (pa_cons (pv 3) pa_nil)))) (pe_one (pe_cmpR op_notIn_seq (pv 2) (pe_ix ix_tup (pv 1) pe_int (fun _ _ => rfl)) (by rfl))))))))))), .inl ?_⟩
  show SO _ [some (.int page), some r.d, some (bd r.lo), some (bd r.hi), some (.int lv), none] _
  refine so_seq (so_set (ee_op ee_int (ee_cb (ea_cons (ee_op (ee_var rfl) ee_int rd_neI) ea_nil) rc_intB) (rd_IC (.inl ⟨by decide, by decide⟩)))) ?_
  cases r with
  | free n => cases hf
  | leaf lo hi ks vs =>
    obtain ⟨hz, hl, hb, hp, hk⟩ := ho
    obtain ⟨h1, h2, h3⟩ := hf
    refine so_yes (et_and (et_test (ee_op (ee_op (ee_var rfl) ee_int (rd_ix rfl)) ee_str rd_eqS)) fun _ => (et_test (ee_op (ee_cb (ea_cons (ee_var rfl) ea_nil) rc_len) ee_int rd_eqI))) (by rw [decide_eq_true rfl]; rfl) (so_seqR ?_)
    refine so_no (et_or (et_test (ee_op (ee_var rfl) ee_int rd_B)) fun _ => (et_or (et_test (ee_op (ee_is (ee_sl (ee_var rfl) (eo_some ee_int) (eo_some ee_int)) (show _ = bdT lo hi from rfl)) (ee_tup (ea_cons (ee_var rfl) (ea_cons (ee_var rfl) ea_nil))) rd_neT)) fun _ => (et_not (et_test (ee_chain (ee_var rfl) (ee_lenI (ee_op (ee_var rfl) ee_int (rd_ix rfl))) (fun _ => ee_int) rd_B fun _ => rd_B))))) ?_ ?_
    · have e2 : (lo = (Rec.leaf lo hi ks vs).lo ∧ hi = (Rec.leaf lo hi ks vs).hi) := ⟨rfl, rfl⟩
      rw [decide_eq_false (p := (0 : Int) < lv) (by omega), decide_eq_true e2]
      by_cases hpg : page = 0
      · simp [hpg]; omega
      · have := h2 hpg
        simp [hpg]; omega
    · exact so_retE (ee_andV (ee_op (ee_lenI (ee_op (ee_var rfl) ee_int (rd_ix rfl))) (ee_lenI (ee_op (ee_var rfl) ee_int (rd_ix rfl))) rd_eqI) fun _ => (ee_call (ea_cons (ee_op (ee_var rfl) ee_int (rd_ix rfl)) (ea_cons (ee_var rfl) (ea_cons (ee_var rfl) ea_nil))) (r_law_ascending hz hp hk))) (by rw [decide_eq_true (by omega)]; rfl)
  | inner v lo hi ks ps =>
    obtain ⟨hz, hv, hl, hb, hp, hk⟩ := ho
    obtain ⟨h1, h2, h3⟩ := hf
    refine so_no (et_andF (et_test (ee_op (ee_op (ee_var rfl) ee_int (rd_ix rfl)) ee_str rd_eqS)) (decide_eq_false inner_leaf)) rfl ?_
    refine so_no (et_or (et_test (ee_op (ee_op (ee_var rfl) ee_int (rd_ix rfl)) ee_str rd_neS)) fun _ => (et_or (et_test (ee_op (ee_cb (ea_cons (ee_var rfl) ea_nil) rc_len) ee_int rd_neI)) fun _ => (et_test (ee_op (ee_op (ee_var rfl) ee_int (rd_ix rfl)) ee_int rd_B)))) (by rw [decide_eq_true rfl, decide_eq_false (p := v < 1) (by omega)]; rfl) ?_
    refine so_no (b := false) (et_is (et_or (a := false) ?_ fun _ => (et_test (ee_op (ee_is (ee_sl (ee_var rfl) (eo_some ee_int) (eo_some ee_int)) (show _ = bdT lo hi from rfl)) (ee_tup (ea_cons (ee_var rfl) (ea_cons (ee_var rfl) ea_nil))) rd_neT))) ?_) rfl ?_
    · by_cases h0 : 0 ≤ lv
      · exact et_is (et_and (et_test (ee_op (ee_var rfl) ee_int rd_B)) fun _ => (et_test (ee_op (ee_op (ee_var rfl) ee_int (rd_ix rfl)) (ee_var rfl) rd_neI))) (by rw [decide_eq_true (h1 h0)]; simp)
      · exact et_andF (et_test (ee_op (ee_var rfl) ee_int rd_B)) (decide_eq_false h0)
    · have e2 : (lo = (Rec.inner v lo hi ks ps).lo ∧ hi = (Rec.inner v lo hi ks ps).hi) := ⟨rfl, rfl⟩
      rw [decide_eq_true e2]
      rfl
    refine so_no (et_or (et_not (et_test (ee_chain ee_int (ee_lenI (ee_op (ee_var rfl) ee_int (rd_ix rfl))) (fun _ => ee_int) rd_B fun _ => rd_B))) fun _ => (et_test (ee_op (ee_lenI (ee_op (ee_var rfl) ee_int (rd_ix rfl))) (ee_op (ee_lenI (ee_op (ee_var rfl) ee_int (rd_ix rfl))) ee_int rd_I) rd_neI))) (by simp; omega) ?_
    refine so_retE (ee_andV (ee_call (ea_cons (ee_op (ee_var rfl) ee_int (rd_ix rfl)) (ea_cons (ee_var rfl) (ea_cons (ee_var rfl) ea_nil))) (r_law_ascending hz hp fun k hkm => ?_)) fun _ => (ee_op (ee_var rfl) (ee_op (ee_var rfl) ee_int (rd_ix rfl)) (rd_nin fun i hi2 hm => ?_))) rfl
    · have := hk k hkm
      rw [Bool.and_eq_true] at this ⊢
      refine ⟨?_, this.2⟩
      cases lo with
      | none => rfl
      | some l =>
        have := of_decide_eq_true this.1
        exact decide_eq_true (by omega)
    · have hlo : lo = some i := hi2
      subst hlo
      have := hk i hm
      rw [Bool.and_eq_true] at this
      have := of_decide_eq_true this.1
      omega
end
end Esp
set_option Elab.async false
set_option linter.all false
set_option maxRecDepth 100000
set_option maxHeartbeats 1000000
/-! M1: trees of records over a map of pages. -/
namespace Esp
/-- a map of pages -/
abbrev G := Int → Option Rec
abbrev Items := List (Int × Int)
abbrev Sb := Int → Option Int → Option Int → List Int → Items → Prop
/-- children, each with the key behind it -/
def KL (S : Sb) : Option Int → List Int → List Int → Option Int → List Int → Items → Prop
  | lo, [], [], x, P, I => x = lo ∧ P = [] ∧ I = []
  | lo, k :: ks, c :: ps, x, P, I => ∃ P1 P2 I1 I2, S c lo (some k) P1 I1 ∧ KL S (some k) ks ps x P2 I2 ∧ P = P1 ++ P2 ∧ I = I1 ++ I2
  | _, _, _, _, _, _ => False
/-- children, each with the key ahead of it -/
def KR (S : Sb) : Option Int → List Int → List Int → Option Int → List Int → Items → Prop
  | x, [], [], hi, P, I => x = hi ∧ P = [] ∧ I = []
  | x, k :: ks, c :: ps, hi, P, I => x = some k ∧ ∃ y P1 P2 I1 I2, S c (some k) y P1 I1 ∧ KR S y ks ps hi P2 I2 ∧ P = P1 ++ P2 ∧ I = I1 ++ I2
  | _, _, _, _, _, _ => False
def Kids (S : Sb) (lo : Option Int) (ks : List Int) (hi : Option Int) (ps : List Int) (P : List Int) (I : Items) : Prop :=
  ∃ c ps' x P1 P2 I1 I2, ps = c :: ps' ∧ S c lo x P1 I1 ∧ KR S x ks ps' hi P2 I2 ∧ P = P1 ++ P2 ∧ I = I1 ++ I2
def LeafOk (lo hi : Option Int) (ks vs : List Int) : Prop := ks.length = vs.length ∧ bok lo hi = true ∧ ks.Pairwise (· < ·) ∧ ∀ k ∈ ks, (abv k lo && blw k hi) = true
def SubR (g : G) : Nat → Rec → Option Int → Option Int → List Int → Items → Prop
  | 0, r, lo, hi, P, I => ∃ ks vs, r = .leaf lo hi ks vs ∧ LeafOk lo hi ks vs ∧ P = [] ∧ I = ks.zip vs
  | n + 1, r, lo, hi, P, I => ∃ ks ps, r = .inner ((n : Int) + 1) lo hi ks ps ∧
      Kids (fun c l h P I => ∃ r' P', g c = some r' ∧ SubR g n r' l h P' I ∧ 2 ≤ r'.size ∧ r'.size ≤ r'.most ∧ P = c :: P') lo ks hi ps P I
def Sub (g : G) (n : Nat) : Sb := fun c l h P I => ∃ r' P', g c = some r' ∧ SubR g n r' l h P' I ∧ 2 ≤ r'.size ∧ r'.size ≤ r'.most ∧ P = c :: P'
theorem subR_succ {g : G} {n : Nat} {r : Rec} {lo hi : Option Int} {P : List Int} {I : Items} : SubR g (n + 1) r lo hi P I ↔ ∃ ks ps, r = .inner ((n : Int) + 1) lo hi ks ps ∧ Kids (Sub g n) lo ks hi ps P I := Iff.rfl

/-! ### children: split and join -/
section
variable {S S' : Sb}
theorem KL.len : ∀ {lo : Option Int} {ks ps : List Int} {x : Option Int} {P : List Int} {I : Items}, KL S lo ks ps x P I → ks.length = ps.length
  | _, [], [], _, _, _, _ => rfl
  | _, k :: ks, c :: ps, _, _, _, h => by
    obtain ⟨_, _, _, _, _, h2, _, _⟩ := h
    rw [List.length_cons, List.length_cons, KL.len h2]
  | _, [], _ :: _, _, _, _, h => h.elim
  | _, _ :: _, [], _, _, _, h => h.elim
theorem KR.len : ∀ {x : Option Int} {ks ps : List Int} {hi : Option Int} {P : List Int} {I : Items}, KR S x ks ps hi P I → ks.length = ps.length
  | _, [], [], _, _, _, _ => rfl
  | _, k :: ks, c :: ps, _, _, _, h => by
    obtain ⟨_, _, _, _, _, _, _, h2, _, _⟩ := h
    rw [List.length_cons, List.length_cons, KR.len h2]
  | _, [], _ :: _, _, _, _, h => h.elim
  | _, _ :: _, [], _, _, _, h => h.elim
theorem KR.mono (hS : ∀ c l h P I, S c l h P I → S' c l h P I) : ∀ {x : Option Int} {ks ps : List Int} {hi : Option Int} {P : List Int} {I : Items}, KR S x ks ps hi P I → KR S' x ks ps hi P I
  | _, [], [], _, _, _, h => h
  | _, k :: ks, c :: ps, _, _, _, h => by
    obtain ⟨e, y, P1, P2, I1, I2, h1, h2, h3⟩ := h
    exact ⟨e, y, P1, P2, I1, I2, hS _ _ _ _ _ h1, KR.mono hS h2, h3⟩
  | _, [], _ :: _, _, _, _, h => h.elim
  | _, _ :: _, [], _, _, _, h => h.elim
theorem KR.monoP : ∀ {x : Option Int} {ks ps : List Int} {hi : Option Int} {P : List Int} {I : Items}, (∀ c l h P1 I, (∀ q ∈ P1, q ∈ P) → S c l h P1 I → S' c l h P1 I) → KR S x ks ps hi P I → KR S' x ks ps hi P I
  | _, [], [], _, _, _, _, h => h
  | _, k :: ks, c :: ps, _, _, _, hS, h => by
    obtain ⟨e, y, P1, P2, I1, I2, h1, h2, rfl, h4⟩ := h
    exact ⟨e, y, P1, P2, I1, I2, hS _ _ _ _ _ (fun q hq => List.mem_append_left _ hq) h1, KR.monoP (fun c l h P I hp => hS c l h P I fun q hq => List.mem_append_right _ (hp q hq)) h2, rfl, h4⟩
  | _, [], _ :: _, _, _, _, _, h => h.elim
  | _, _ :: _, [], _, _, _, _, h => h.elim
theorem KL.monoP : ∀ {lo : Option Int} {ks ps : List Int} {x : Option Int} {P : List Int} {I : Items}, (∀ c l h P1 I, (∀ q ∈ P1, q ∈ P) → S c l h P1 I → S' c l h P1 I) → KL S lo ks ps x P I → KL S' lo ks ps x P I
  | _, [], [], _, _, _, _, h => h
  | _, k :: ks, c :: ps, _, _, _, hS, h => by
    obtain ⟨P1, P2, I1, I2, h1, h2, rfl, h4⟩ := h
    exact ⟨P1, P2, I1, I2, hS _ _ _ _ _ (fun q hq => List.mem_append_left _ hq) h1, KL.monoP (fun c l h P I hp => hS c l h P I fun q hq => List.mem_append_right _ (hp q hq)) h2, rfl, h4⟩
  | _, [], _ :: _, _, _, _, _, h => h.elim
  | _, _ :: _, [], _, _, _, _, h => h.elim
theorem Kids.monoP {lo hi : Option Int} {ks ps : List Int} {P : List Int} {I : Items} (hS : ∀ c l h P1 I, (∀ q ∈ P1, q ∈ P) → S c l h P1 I → S' c l h P1 I) (h : Kids S lo ks hi ps P I) : Kids S' lo ks hi ps P I := by
  obtain ⟨c, ps', x, P1, P2, I1, I2, e, h1, h2, rfl, h4⟩ := h
  exact ⟨c, ps', x, P1, P2, I1, I2, e, hS _ _ _ _ _ (fun q hq => List.mem_append_left _ hq) h1, KR.monoP (fun c l h P I hp => hS c l h P I fun q hq => List.mem_append_right _ (hp q hq)) h2, rfl, h4⟩
theorem Kids.len {lo hi : Option Int} {ks ps : List Int} {P : List Int} {I : Items} (h : Kids S lo ks hi ps P I) : ps.length = ks.length + 1 := by
  obtain ⟨c, ps', x, P1, P2, I1, I2, rfl, h1, h2, _⟩ := h
  rw [List.length_cons, h2.len]
/-- a list of children is cut at a child -/
theorem KR.split : ∀ {x : Option Int} {ksL ksR psL psR : List Int} {hi : Option Int} {P : List Int} {I : Items}, ksL.length = psL.length → KR S x (ksL ++ ksR) (psL ++ psR) hi P I →
    ∃ y P1 P2 I1 I2, KR S x ksL psL y P1 I1 ∧ KR S y ksR psR hi P2 I2 ∧ P = P1 ++ P2 ∧ I = I1 ++ I2
  | x, [], ksR, [], psR, hi, P, I, _, h => ⟨x, [], P, [], I, ⟨rfl, rfl, rfl⟩, h, rfl, rfl⟩
  | x, k :: ksL, ksR, c :: psL, psR, hi, P, I, hl, h => by
    obtain ⟨e, y, P1, P2, I1, I2, h1, h2, rfl, rfl⟩ := h
    obtain ⟨z, Q1, Q2, J1, J2, g1, g2, rfl, rfl⟩ := KR.split (by simpa using hl) h2
    exact ⟨z, P1 ++ Q1, Q2, I1 ++ J1, J2, ⟨e, y, P1, Q1, I1, J1, h1, g1, rfl, rfl⟩, g2, by simp, by simp⟩
  | _, [], _, _ :: _, _, _, _, _, hl, _ => by simp at hl
  | _, _ :: _, _, [], _, _, _, _, hl, _ => by simp at hl
theorem KR.app : ∀ {x y : Option Int} {ksL ksR psL psR : List Int} {hi : Option Int} {P1 P2 : List Int} {I1 I2 : Items}, KR S x ksL psL y P1 I1 → KR S y ksR psR hi P2 I2 → KR S x (ksL ++ ksR) (psL ++ psR) hi (P1 ++ P2) (I1 ++ I2)
  | x, y, [], ksR, [], psR, hi, P1, P2, I1, I2, h, g => by
    obtain ⟨rfl, rfl, rfl⟩ := h
    exact g
  | x, y, k :: ksL, ksR, c :: psL, psR, hi, P1, P2, I1, I2, h, g => by
    obtain ⟨e, z, Q1, Q2, J1, J2, h1, h2, rfl, rfl⟩ := h
    exact ⟨e, z, Q1, Q2 ++ P2, J1, J2 ++ I2, h1, KR.app h2 g, by simp, by simp⟩
  | _, _, [], _, _ :: _, _, _, _, _, _, _, h, _ => h.elim
  | _, _, _ :: _, _, [], _, _, _, _, _, _, h, _ => h.elim
/-- the children ahead of one, by KR and by KL -/
theorem KL.kids : ∀ {lo : Option Int} {ksL psL : List Int} {x : Option Int} {P : List Int} {I : Items} {c : Int} {y hi : Option Int} {ksR psR P1 P2 : List Int} {I1 I2 : Items}, KL S lo ksL psL x P I → S c x y P1 I1 → KR S y ksR psR hi P2 I2 →
    Kids S lo (ksL ++ ksR) hi (psL ++ c :: psR) (P ++ (P1 ++ P2)) (I ++ (I1 ++ I2))
  | lo, [], [], x, P, I, c, y, hi, ksR, psR, P1, P2, I1, I2, h, h1, h2 => by
    obtain ⟨rfl, rfl, rfl⟩ := h
    exact ⟨c, psR, y, P1, P2, I1, I2, rfl, h1, h2, rfl, rfl⟩
  | lo, k :: ksL, d :: psL, x, P, I, c, y, hi, ksR, psR, P1, P2, I1, I2, h, h1, h2 => by
    obtain ⟨Q1, Q2, J1, J2, g1, g2, rfl, rfl⟩ := h
    obtain ⟨c', ps', z, R1, R2, M1, M2, e1, e2, e3, e4, e5⟩ := KL.kids g2 h1 h2
    refine ⟨d, psL ++ c :: psR, some k, Q1, Q2 ++ (P1 ++ P2), J1, J2 ++ (I1 ++ I2), rfl, g1, ?_, by simp, by simp⟩
    rw [e1]
    exact ⟨rfl, z, R1, R2, M1, M2, e2, e3, e4, e5⟩
  | _, [], _ :: _, _, _, _, _, _, _, _, _, _, _, _, _, h, _, _ => h.elim
  | _, _ :: _, [], _, _, _, _, _, _, _, _, _, _, _, _, h, _, _ => h.elim
theorem Kids.at : ∀ {lo : Option Int} {ksL psL : List Int} {hi : Option Int} {P : List Int} {I : Items} {c : Int} {ksR psR : List Int}, ksL.length = psL.length → Kids S lo (ksL ++ ksR) hi (psL ++ c :: psR) P I →
    ∃ x y PL P1 PR IL I1 IR, KL S lo ksL psL x PL IL ∧ S c x y P1 I1 ∧ KR S y ksR psR hi PR IR ∧ P = PL ++ (P1 ++ PR) ∧ I = IL ++ (I1 ++ IR)
  | lo, [], [], hi, P, I, c, ksR, psR, _, h => by
    obtain ⟨c', ps', x, P1, P2, I1, I2, e, h1, h2, rfl, rfl⟩ := h
    rw [List.nil_append] at e
    injection e with e1 e2
    subst e1 e2
    exact ⟨lo, x, [], P1, P2, [], I1, I2, ⟨rfl, rfl, rfl⟩, h1, h2, rfl, rfl⟩
  | lo, k :: ksL, d :: psL, hi, P, I, c, ksR, psR, hl, h => by
    obtain ⟨c', ps', x, P1, P2, I1, I2, e, h1, h2, rfl, rfl⟩ := h
    injection e with e1 e2
    subst e1 e2
    cases hps : psL ++ c :: psR with
    | nil => simp at hps
    | cons c2 r2 =>
      change KR S x ((k :: ksL) ++ ksR) (psL ++ c :: psR) hi P2 I2 at h2
      rw [hps] at h2
      obtain ⟨rfl, z, Q1, Q2, J1, J2, g1, g2, rfl, rfl⟩ := h2
      have hk : Kids S (some k) (ksL ++ ksR) hi (psL ++ c :: psR) (Q1 ++ Q2) (J1 ++ J2) := ⟨c2, r2, z, Q1, Q2, J1, J2, hps, g1, g2, rfl, rfl⟩
      obtain ⟨x, y, PL, R1, PR, IL, M1, IR, k1, k2, k3, k4, k5⟩ := Kids.at (by simpa using hl) hk
      refine ⟨x, y, P1 ++ PL, R1, PR, I1 ++ IL, M1, IR, ⟨P1, PL, I1, IL, h1, k1, rfl, rfl⟩, k2, k3, ?_, ?_⟩
      · rw [k4]; simp
      · rw [k5]; simp
  | _, [], _ :: _, _, _, _, _, _, _, hl, _ => by simp at hl
  | _, _ :: _, [], _, _, _, _, _, _, hl, _ => by simp at hl
theorem KL.app : ∀ {lo x y : Option Int} {ksL ksR psL psR : List Int} {P1 P2 : List Int} {I1 I2 : Items}, KL S lo ksL psL x P1 I1 → KL S x ksR psR y P2 I2 → KL S lo (ksL ++ ksR) (psL ++ psR) y (P1 ++ P2) (I1 ++ I2)
  | x, _, _, [], ksR, [], psR, P1, P2, I1, I2, h, g => by
    obtain ⟨rfl, rfl, rfl⟩ := h
    exact g
  | lo, x, y, k :: ksL, ksR, c :: psL, psR, P1, P2, I1, I2, h, g => by
    obtain ⟨Q1, Q2, J1, J2, h1, h2, rfl, rfl⟩ := h
    exact ⟨Q1, Q2 ++ P2, J1, J2 ++ I2, h1, KL.app h2 g, by simp, by simp⟩
  | _, _, _, [], _, _ :: _, _, _, _, _, _, h, _ => h.elim
  | _, _, _, _ :: _, _, [], _, _, _, _, _, h, _ => h.elim
/-- the last child of some -/
theorem KL.last : ∀ {lo x : Option Int} {ks ps : List Int} {k c : Int} {P : List Int} {I : Items}, KL S lo (ks ++ [k]) (ps ++ [c]) x P I → ∃ y P1 P2 I1 I2, KL S lo ks ps y P1 I1 ∧ S c y (some k) P2 I2 ∧ x = some k ∧ P = P1 ++ P2 ∧ I = I1 ++ I2
  | lo, x, [], [], k, c, P, I, h => by
    obtain ⟨Q1, Q2, J1, J2, h1, ⟨rfl, rfl, rfl⟩, rfl, rfl⟩ := h
    exact ⟨lo, [], Q1, [], J1, ⟨rfl, rfl, rfl⟩, h1, rfl, by simp, by simp⟩
  | lo, x, a :: ks, b :: ps, k, c, P, I, h => by
    obtain ⟨Q1, Q2, J1, J2, h1, h2, rfl, rfl⟩ := h
    obtain ⟨y, P1, P2, I1, I2, k1, k2, k3, rfl, rfl⟩ := KL.last h2
    exact ⟨y, Q1 ++ P1, P2, J1 ++ I1, I2, ⟨Q1, P1, J1, I1, h1, k1, rfl, rfl⟩, k2, k3, by simp, by simp⟩
  | _, _, [], b :: ps, _, _, _, _, h => by
    have := KL.len h
    simp at this
  | _, _, a :: ks, [], _, _, _, _, h => by
    have := KL.len h
    simp at this
end
/-! ### bounds, sizes -/
theorem bok_none (h : Option Int) : bok none h = true := by cases h <;> rfl
theorem bok_noneR (l : Option Int) : bok l none = true := by cases l <;> rfl
theorem bok_trans {l : Option Int} {k : Int} {h : Option Int} (a : bok l (some k) = true) (b : bok (some k) h = true) : bok l h = true := by
  cases l with
  | none => exact bok_none h
  | some l =>
    cases h with
    | none => rfl
    | some h =>
      have a' : l < k := of_decide_eq_true a
      have b' : k < h := of_decide_eq_true b
      exact decide_eq_true (by omega)
theorem abvS_bok {k : Int} {l : Option Int} : abvS k l = bok l (some k) := by cases l <;> rfl
theorem blw_bok {k : Int} {h : Option Int} : blw k h = bok (some k) h := by cases h <;> rfl
/-- the keys of a row of children ascend within the bounds -/
theorem KR.keys {S : Sb} (hS : ∀ c l h P I, S c l h P I → bok l h = true) : ∀ {x : Option Int} {ks ps : List Int} {hi : Option Int} {P : List Int} {I : Items} {lo : Option Int}, bok lo x = true → KR S x ks ps hi P I →
    ks.Pairwise (· < ·) ∧ (∀ k ∈ ks, bok lo (some k) = true ∧ bok (some k) hi = true) ∧ bok lo hi = true
  | x, [], [], hi, P, I, lo, hb, h => by
    obtain ⟨rfl, _⟩ := h
    exact ⟨List.Pairwise.nil, fun k hk => (by simp at hk), hb⟩
  | x, k :: ks, c :: ps, hi, P, I, lo, hb, h => by
    obtain ⟨rfl, y, P1, P2, I1, I2, h1, h2, _⟩ := h
    obtain ⟨k1, k2, k3⟩ := KR.keys hS (lo := some k) (hS _ _ _ _ _ h1) h2
    refine ⟨List.Pairwise.cons (fun j hj => of_decide_eq_true (k2 j hj).1) k1, fun j hj => ?_, bok_trans hb k3⟩
    rcases List.mem_cons.mp hj with rfl | hj
    · exact ⟨hb, k3⟩
    · exact ⟨bok_trans hb (k2 j hj).1, (k2 j hj).2⟩
  | _, [], _ :: _, _, _, _, _, _, h => h.elim
  | _, _ :: _, [], _, _, _, _, _, h => h.elim
theorem Kids.keys {S : Sb} (hS : ∀ c l h P I, S c l h P I → bok l h = true) {lo hi : Option Int} {ks ps : List Int} {P : List Int} {I : Items} (h : Kids S lo ks hi ps P I) :
    ks.Pairwise (· < ·) ∧ (∀ k ∈ ks, bok lo (some k) = true ∧ bok (some k) hi = true) ∧ bok lo hi = true := by
  obtain ⟨c, ps', x, P1, P2, I1, I2, rfl, h1, h2, _⟩ := h
  exact h2.keys hS (hS _ _ _ _ _ h1)
theorem SubR.bk (g : G) : ∀ (n : Nat) {r : Rec} {lo hi : Option Int} {P : List Int} {I : Items}, SubR g n r lo hi P I → bok lo hi = true
  | 0, _, _, _, _, _, ⟨_, _, _, h, _⟩ => h.2.1
  | n + 1, _, _, _, _, _, ⟨_, _, _, h⟩ => (h.keys fun _ _ _ _ _ ⟨_, _, _, h', _⟩ => SubR.bk g n h').2.2
theorem Sub.bk {g : G} {n : Nat} {c : Int} {l h : Option Int} {P : List Int} {I : Items} (s : Sub g n c l h P I) : bok l h = true := by
  obtain ⟨r, P', _, h', _⟩ := s
  exact SubR.bk g n h'
theorem SubR.ok {g : G} : ∀ {n : Nat} {r : Rec} {lo hi : Option Int} {P : List Int} {I : Items}, SubR g n r lo hi P I → r.size ≤ 100 → r.Ok
  | 0, _, _, _, _, _, ⟨ks, vs, rfl, h, _⟩, hz => ⟨by rw [h.1]; exact hz, h⟩
  | n + 1, _, lo, hi, _, _, ⟨ks, ps, rfl, h⟩, hz => by
    have hl := h.len
    obtain ⟨k1, k2, k3⟩ := h.keys fun _ _ _ _ _ s => Sub.bk s
    have hz' : ps.length ≤ 100 := hz
    refine ⟨by omega, by omega, hl, k3, k1, fun k hk => ?_⟩
    rw [abvS_bok, blw_bok, (k2 k hk).1, (k2 k hk).2]
    rfl
theorem SubR.level {g : G} : ∀ {n : Nat} {r : Rec} {lo hi : Option Int} {P : List Int} {I : Items}, SubR g n r lo hi P I → r.level = n ∧ r.lo = lo ∧ r.hi = hi ∧ r.live = true
  | 0, _, _, _, _, _, ⟨ks, vs, rfl, h, _⟩ => ⟨rfl, rfl, rfl, rfl⟩
  | n + 1, _, lo, hi, _, _, ⟨ks, ps, rfl, h⟩ => ⟨by show (n : Int) + 1 = ((n + 1 : Nat) : Int); omega, rfl, rfl, rfl⟩
theorem SubR.most {g : G} {n : Nat} {r : Rec} {lo hi : Option Int} {P : List Int} {I : Items} (h : SubR g n r lo hi P I) : r.most = if n = 0 then 4 else 5 := by
  unfold Rec.most
  rw [h.level.1]
  by_cases e : n = 0
  · subst e; rfl
  · rw [if_neg e, if_neg (by omega)]
theorem most_le (r : Rec) : r.most ≤ 5 := by unfold Rec.most; split <;> omega

/-! ### frame: what lies elsewhere does not matter -/
theorem SubR.frame {g g' : G} : ∀ {n : Nat} {r : Rec} {lo hi : Option Int} {P : List Int} {I : Items}, (∀ q ∈ P, g' q = g q) → SubR g n r lo hi P I → SubR g' n r lo hi P I
  | 0, _, _, _, _, _, _, h => h
  | n + 1, r, lo, hi, P, I, hq, ⟨ks, ps, e, h⟩ => by
    refine ⟨ks, ps, e, h.monoP fun c l h' P1 I1 hp ⟨r', P', h1, h2, h3, h4, h5⟩ => ?_⟩
    subst h5
    refine ⟨r', P', ?_, SubR.frame (fun q hq' => hq q (hp q (List.mem_cons_of_mem _ hq'))) h2, h3, h4, rfl⟩
    rw [hq c (hp c List.mem_cons_self)]
    exact h1
theorem Sub.frame {g g' : G} {n : Nat} {c : Int} {lo hi : Option Int} {P : List Int} {I : Items} (hq : ∀ q ∈ P, g' q = g q) (s : Sub g n c lo hi P I) : Sub g' n c lo hi P I := by
  obtain ⟨r', P', h1, h2, h3, h4, rfl⟩ := s
  exact ⟨r', P', by rw [hq c List.mem_cons_self]; exact h1, h2.frame fun q h => hq q (List.mem_cons_of_mem _ h), h3, h4, rfl⟩
end Esp
set_option Elab.async false
set_option linter.all false
set_option maxRecDepth 100000
set_option maxHeartbeats 1000000
/-! M2: items in order, counts, cut, join, rename. -/
namespace Esp
/-! ### items -/
def InB (lo hi : Option Int) (I : Items) : Prop := I.Pairwise (fun a b => a.1 < b.1) ∧ ∀ p ∈ I, abv p.1 lo = true ∧ blw p.1 hi = true
theorem abv_trans {l : Option Int} {k x : Int} (a : bok l (some k) = true) (b : abv x (some k) = true) : abv x l = true := by
  cases l with
  | none => rfl
  | some l =>
    have a' : l < k := of_decide_eq_true a
    have b' : k ≤ x := of_decide_eq_true b
    exact decide_eq_true (by omega)
theorem blw_trans {h : Option Int} {k x : Int} (a : blw x (some k) = true) (b : bok (some k) h = true) : blw x h = true := by
  cases h with
  | none => rfl
  | some h =>
    have a' : x < k := of_decide_eq_true a
    have b' : k < h := of_decide_eq_true b
    exact decide_eq_true (by omega)
theorem InB.nil (lo hi : Option Int) : InB lo hi [] := ⟨List.Pairwise.nil, fun p hp => by simp at hp⟩
theorem InB.app {lo hi : Option Int} {k : Int} {I1 I2 : Items} (h1 : InB lo (some k) I1) (h2 : InB (some k) hi I2) (b1 : bok lo (some k) = true) (b2 : bok (some k) hi = true) : InB lo hi (I1 ++ I2) := by
  refine ⟨List.pairwise_append.mpr ⟨h1.1, h2.1, fun a ha b hb => ?_⟩, fun p hp => ?_⟩
  · have x1 : a.1 < k := of_decide_eq_true (h1.2 a ha).2
    have x2 : k ≤ b.1 := of_decide_eq_true (h2.2 b hb).1
    omega
  · rcases List.mem_append.mp hp with hp | hp
    · exact ⟨(h1.2 p hp).1, blw_trans (h1.2 p hp).2 b2⟩
    · exact ⟨abv_trans b1 (h2.2 p hp).1, (h2.2 p hp).2⟩
theorem KR.items {S : Sb} (hS : ∀ c l h P I, S c l h P I → bok l h = true ∧ InB l h I) : ∀ {x : Option Int} {ks ps : List Int} {hi : Option Int} {P : List Int} {I : Items}, KR S x ks ps hi P I → (x = hi ∧ I = []) ∨ (∃ k, x = some k ∧ bok (some k) hi = true ∧ InB x hi I)
  | x, [], [], hi, P, I, h => .inl ⟨h.1, h.2.2⟩
  | x, k :: ks, c :: ps, hi, P, I, h => by
    obtain ⟨rfl, y, P1, P2, I1, I2, h1, h2, _, rfl⟩ := h
    obtain ⟨b, hb⟩ := hS _ _ _ _ _ h1
    refine .inr ⟨k, rfl, ?_⟩
    rcases KR.items hS h2 with ⟨rfl, rfl⟩ | ⟨j, rfl, b2, h3⟩
    · rw [List.append_nil]
      exact ⟨b, hb⟩
    · exact ⟨bok_trans b b2, hb.app h3 b b2⟩
  | _, [], _ :: _, _, _, _, h => h.elim
  | _, _ :: _, [], _, _, _, h => h.elim
theorem Kids.items {S : Sb} (hS : ∀ c l h P I, S c l h P I → bok l h = true ∧ InB l h I) {lo hi : Option Int} {ks ps : List Int} {P : List Int} {I : Items} (h : Kids S lo ks hi ps P I) : InB lo hi I := by
  obtain ⟨c, ps', x, P1, P2, I1, I2, _, h1, h2, _, rfl⟩ := h
  obtain ⟨b, hb⟩ := hS _ _ _ _ _ h1
  rcases h2.items hS with ⟨rfl, rfl⟩ | ⟨j, rfl, b2, h3⟩
  · rw [List.append_nil]
    exact hb
  · exact hb.app h3 b b2
theorem zip_fst {ks vs : List Int} (h : ks.length = vs.length) : (ks.zip vs).map (·.1) = ks := by
  rw [show (fun p : Int × Int => p.1) = Prod.fst from rfl, List.map_fst_zip (by omega)]
theorem leaf_items {lo hi : Option Int} {ks vs : List Int} (h : LeafOk lo hi ks vs) : InB lo hi (ks.zip vs) := by
  obtain ⟨hl, hb, hp, hk⟩ := h
  refine ⟨?_, fun p hp' => ?_⟩
  · rw [← zip_fst hl] at hp
    exact List.pairwise_map.mp hp
  · have : p.1 ∈ ks := by
      rw [← zip_fst hl]
      exact List.mem_map.mpr ⟨p, hp', rfl⟩
    have := hk _ this
    rwa [Bool.and_eq_true] at this
theorem SubR.items {g : G} : ∀ {n : Nat} {r : Rec} {lo hi : Option Int} {P : List Int} {I : Items}, SubR g n r lo hi P I → InB lo hi I
  | 0, _, _, _, _, _, ⟨ks, vs, rfl, h, _, rfl⟩ => leaf_items h
  | n + 1, _, _, _, _, _, ⟨ks, ps, _, h⟩ => h.items fun _ _ _ _ _ ⟨r', P', h1, h2, _⟩ => ⟨SubR.bk g n h2, SubR.items h2⟩
theorem Sub.items {g : G} {n : Nat} {c : Int} {l h : Option Int} {P : List Int} {I : Items} (s : Sub g n c l h P I) : InB l h I := by
  obtain ⟨r, P', _, h', _⟩ := s
  exact h'.items
theorem Sub.both {g : G} {n : Nat} : ∀ c l h P I, Sub g n c l h P I → bok l h = true ∧ InB l h I := fun _ _ _ _ _ s => ⟨s.bk, s.items⟩
theorem KL.items {S : Sb} (hS : ∀ c l h P I, S c l h P I → bok l h = true ∧ InB l h I) : ∀ {lo : Option Int} {ks ps : List Int} {x : Option Int} {P : List Int} {I : Items}, KL S lo ks ps x P I → (x = lo ∧ I = []) ∨ (∃ k, x = some k ∧ bok lo (some k) = true ∧ InB lo x I)
  | lo, [], [], x, P, I, h => .inl ⟨h.1, h.2.2⟩
  | lo, k :: ks, c :: ps, x, P, I, h => by
    obtain ⟨P1, P2, I1, I2, h1, h2, _, rfl⟩ := h
    obtain ⟨b, hb⟩ := hS _ _ _ _ _ h1
    rcases KL.items hS h2 with ⟨rfl, rfl⟩ | ⟨j, rfl, b2, h3⟩
    · rw [List.append_nil]
      exact .inr ⟨k, rfl, b, hb⟩
    · exact .inr ⟨j, rfl, bok_trans b b2, hb.app h3 b b2⟩
  | _, [], _ :: _, _, _, _, h => h.elim
  | _, _ :: _, [], _, _, _, h => h.elim
/-! ### counts -/
theorem KR.count {S : Sb} {m : Nat} (hS : ∀ c l h P I, S c l h P I → P.length + 1 ≤ I.length ∧ m ≤ I.length) : ∀ {x : Option Int} {ks ps : List Int} {hi : Option Int} {P : List Int} {I : Items}, KR S x ks ps hi P I → P.length + ps.length ≤ I.length ∧ ps.length * m ≤ I.length
  | x, [], [], hi, P, I, h => by
    obtain ⟨_, rfl, rfl⟩ := h
    simp
  | x, k :: ks, c :: ps, hi, P, I, h => by
    obtain ⟨_, y, P1, P2, I1, I2, h1, h2, rfl, rfl⟩ := h
    have a := hS _ _ _ _ _ h1
    have b := KR.count hS h2
    rw [List.length_append, List.length_append, List.length_cons, Nat.add_mul, Nat.one_mul]
    omega
  | _, [], _ :: _, _, _, _, h => h.elim
  | _, _ :: _, [], _, _, _, h => h.elim
theorem Kids.count {S : Sb} {m : Nat} (hS : ∀ c l h P I, S c l h P I → P.length + 1 ≤ I.length ∧ m ≤ I.length) {lo hi : Option Int} {ks ps : List Int} {P : List Int} {I : Items} (h : Kids S lo ks hi ps P I) (h2 : 2 ≤ ps.length) : P.length + 2 ≤ I.length ∧ 2 * m ≤ I.length := by
  obtain ⟨c, ps', x, P1, P2, I1, I2, rfl, h1, h3, rfl, rfl⟩ := h
  have a := hS _ _ _ _ _ h1
  have b := h3.count hS
  rw [List.length_cons] at h2
  rw [List.length_append, List.length_append]
  have : 1 * m ≤ ps'.length * m := Nat.mul_le_mul_right _ (by omega)
  omega
theorem SubR.count {g : G} : ∀ {n : Nat} {r : Rec} {lo hi : Option Int} {P : List Int} {I : Items}, SubR g n r lo hi P I → 2 ≤ r.size → P.length + 2 ≤ I.length ∧ 2 ^ (n + 1) ≤ I.length
  | 0, _, _, _, _, _, ⟨ks, vs, rfl, h, rfl, rfl⟩, hz => by
    have hz' : 2 ≤ vs.length := hz
    have := h.1
    rw [List.length_zip]
    simp
    omega
  | n + 1, _, _, _, _, _, ⟨ks, ps, rfl, h⟩, hz => by
    have q := h.count (m := 2 ^ (n + 1)) (fun c l h' P I ⟨r', P', h1, h2, h3, _, h5⟩ => by
      subst h5
      have := SubR.count h2 h3
      rw [List.length_cons]
      omega) hz
    refine ⟨q.1, ?_⟩
    rw [Nat.pow_succ 2 (n + 1), Nat.mul_comm]
    exact q.2
/-! ### cut, join -/
theorem len5 {l : List Int} (h : l.length = 5) : ∃ a b c d e, l = [a, b, c, d, e] := by
  rcases l with _ | ⟨a, _ | ⟨b, _ | ⟨c, _ | ⟨d, _ | ⟨e, _ | ⟨f, l⟩⟩⟩⟩⟩⟩ <;> simp at h
  exact ⟨a, b, c, d, e, rfl⟩
theorem len6 {l : List Int} (h : l.length = 6) : ∃ a b c d e f, l = [a, b, c, d, e, f] := by
  rcases l with _ | ⟨a, _ | ⟨b, _ | ⟨c, _ | ⟨d, _ | ⟨e, _ | ⟨f, _ | ⟨x, l⟩⟩⟩⟩⟩⟩⟩ <;> simp at h
  exact ⟨a, b, c, d, e, f, rfl⟩
structure CutS (g : G) (n : Nat) (r : Rec) (lo hi : Option Int) (P : List Int) (I : Items) : Prop where
  ok : r.CutOk
  ex : ∃ P1 P2 I1 I2, SubR g n r.cut.1 lo (some r.cut.2.1) P1 I1 ∧ SubR g n r.cut.2.2 (some r.cut.2.1) hi P2 I2 ∧ P = P1 ++ P2 ∧ I = I1 ++ I2
  z1 : 2 ≤ r.cut.1.size ∧ r.cut.1.size ≤ r.cut.1.most
  z2 : 2 ≤ r.cut.2.2.size ∧ r.cut.2.2.size ≤ r.cut.2.2.most
theorem SubR.cutS {g : G} {n : Nat} {r : Rec} {lo hi : Option Int} {P : List Int} {I : Items} (h : SubR g n r lo hi P I) (hs : r.size = r.most + 1) : CutS g n r lo hi P I := by
  have hm := h.most
  cases n with
  | zero =>
    obtain ⟨ks, vs, rfl, ho, rfl, rfl⟩ := h
    rw [if_pos rfl] at hm
    rw [hm] at hs
    have hv : vs.length = 5 := hs
    obtain ⟨hl, hb, hp, hk⟩ := ho
    obtain ⟨a, b, c, d, e, rfl⟩ := len5 (hl.trans hv)
    obtain ⟨a', b', c', d', e', rfl⟩ := len5 hv
    have p1 : a < b ∧ b < c ∧ c < d ∧ d < e := by simp at hp; omega
    have hd := hk d (by simp)
    rw [Bool.and_eq_true, blw_bok] at hd
    have ha := hk a (by simp)
    rw [Bool.and_eq_true] at ha
    have ab : bok lo (some d) = true := by
      cases lo with
      | none => rfl
      | some l =>
        have : l ≤ a := of_decide_eq_true ha.1
        exact decide_eq_true (by omega)
    have s1 : SubR g 0 (Rec.leaf lo (some d) [a, b, c] [a', b', c']) lo (some d) [] ([a, b, c].zip [a', b', c']) := by
      refine ⟨_, _, rfl, ⟨rfl, ab, by simp; omega, fun k hkm => ?_⟩, rfl, rfl⟩
      have q := hk k (by simp at hkm ⊢; omega)
      rw [Bool.and_eq_true] at q ⊢
      refine ⟨q.1, decide_eq_true ?_⟩
      simp at hkm
      omega
    have s2 : SubR g 0 (Rec.leaf (some d) hi [d, e] [d', e']) (some d) hi [] ([d, e].zip [d', e']) := by
      refine ⟨_, _, rfl, ⟨rfl, hd.2, by simp; omega, fun k hkm => ?_⟩, rfl, rfl⟩
      have q := hk k (by simp at hkm ⊢; omega)
      rw [Bool.and_eq_true] at q ⊢
      refine ⟨decide_eq_true ?_, q.2⟩
      simp at hkm
      omega
    have ec : (Rec.leaf lo hi [a, b, c, d, e] [a', b', c', d', e']).cut = (Rec.leaf lo (some d) [a, b, c] [a', b', c'], d, Rec.leaf (some d) hi [d, e] [d', e']) := by simp [Rec.cut, half]
    refine ⟨⟨rfl, ?_, ?_, by show half 5 < 5; decide⟩, ⟨[], [], [a, b, c].zip [a', b', c'], [d, e].zip [d', e'], ?_, ?_, rfl, rfl⟩, ?_, ?_⟩
    · rw [ec]; exact s1.ok (show 3 ≤ 100 by omega)
    · rw [ec]; exact s2.ok (show 2 ≤ 100 by omega)
    · rw [ec]; exact s1
    · rw [ec]; exact s2
    · rw [ec]; exact ⟨show 2 ≤ 3 by omega, show 3 ≤ 4 by omega⟩
    · rw [ec]; exact ⟨show 2 ≤ 2 by omega, show 2 ≤ 4 by omega⟩
  | succ n =>
    obtain ⟨ks, ps, rfl, h⟩ := h
    rw [if_neg (by omega)] at hm
    rw [hm] at hs
    have hv : ps.length = 6 := hs
    have hl := h.len
    obtain ⟨a, b, c, d, e, rfl⟩ := len5 (l := ks) (by omega)
    obtain ⟨a', b', c', d', e', f', rfl⟩ := len6 hv
    obtain ⟨x, y, PL, P1, PR, IL, I1, IR, k1, k2, k3, rfl, rfl⟩ := Kids.at (ksL := [a, b, c]) (psL := [a', b', c']) (ksR := [d, e]) (psR := [e', f']) rfl h
    obtain ⟨z, Q1, Q2, J1, J2, m1, m2, rfl, rfl, rfl⟩ := KL.last (ks := [a, b]) (ps := [a', b']) k1
    have kk1 : Kids (Sub g n) lo [a, b] (some c) [a', b', c'] (Q1 ++ (Q2 ++ [])) (J1 ++ (J2 ++ [])) := KL.kids (ksR := []) (psR := []) m1 m2 ⟨rfl, rfl, rfl⟩
    have kk2 : Kids (Sub g n) (some c) [d, e] hi [d', e', f'] (P1 ++ PR) (I1 ++ IR) := ⟨d', [e', f'], y, P1, PR, I1, IR, rfl, k2, k3, rfl, rfl⟩
    rw [List.append_nil, List.append_nil] at kk1
    have s1 : SubR g (n + 1) (Rec.inner ((n : Int) + 1) lo (some c) [a, b] [a', b', c']) lo (some c) (Q1 ++ Q2) (J1 ++ J2) := ⟨_, _, rfl, kk1⟩
    have s2 : SubR g (n + 1) (Rec.inner ((n : Int) + 1) (some c) hi [d, e] [d', e', f']) (some c) hi (P1 ++ PR) (I1 ++ IR) := ⟨_, _, rfl, kk2⟩
    have q1 := s1.most
    have q2 := s2.most
    rw [if_neg (by omega)] at q1 q2
    have ec : (Rec.inner ((n : Int) + 1) lo hi [a, b, c, d, e] [a', b', c', d', e', f']).cut = (Rec.inner ((n : Int) + 1) lo (some c) [a, b] [a', b', c'], c, Rec.inner ((n : Int) + 1) (some c) hi [d, e] [d', e', f']) := by simp [Rec.cut, half]
    refine ⟨⟨rfl, ?_, ?_, by show half 6 - 1 < 5 ∧ 2 ≤ 6; decide⟩, ⟨Q1 ++ Q2, P1 ++ PR, J1 ++ J2, I1 ++ IR, ?_, ?_, rfl, rfl⟩, ?_, ?_⟩
    · rw [ec]; exact s1.ok (show 3 ≤ 100 by omega)
    · rw [ec]; exact s2.ok (show 3 ≤ 100 by omega)
    · rw [ec]; exact s1
    · rw [ec]; exact s2
    · rw [ec]
      refine ⟨show 2 ≤ 3 by omega, ?_⟩
      show 3 ≤ (Rec.inner ((n : Int) + 1) lo (some c) [a, b] [a', b', c']).most
      rw [q1]
      decide
    · rw [ec]
      refine ⟨show 2 ≤ 3 by omega, ?_⟩
      show 3 ≤ (Rec.inner ((n : Int) + 1) (some c) hi [d, e] [d', e', f']).most
      rw [q2]
      decide
theorem SubR.join {g : G} {n : Nat} {a b : Rec} {lo hi : Option Int} {k : Int} {P1 P2 : List Int} {I1 I2 : Items} (h1 : SubR g n a lo (some k) P1 I1) (h2 : SubR g n b (some k) hi P2 I2) :
    SubR g n (a.join k b) lo hi (P1 ++ P2) (I1 ++ I2) ∧ (a.join k b).size = a.size + b.size ∧ joinable a b = true := by
  have b1 := SubR.bk g n h1
  have b2 := SubR.bk g n h2
  cases n with
  | zero =>
    obtain ⟨ks, vs, rfl, ⟨l1, _, p1, k1⟩, rfl, rfl⟩ := h1
    obtain ⟨ks', vs', rfl, ⟨l2, _, p2, k2⟩, rfl, rfl⟩ := h2
    refine ⟨⟨ks ++ ks', vs ++ vs', rfl, ⟨?_, bok_trans b1 b2, ?_, ?_⟩, rfl, ?_⟩, ?_, rfl⟩
    · rw [List.length_append, List.length_append, l1, l2]
    · refine List.pairwise_append.mpr ⟨p1, p2, fun x hx y hy => ?_⟩
      have q1 := k1 x hx
      have q2 := k2 y hy
      rw [Bool.and_eq_true] at q1 q2
      have z1 : x < k := of_decide_eq_true q1.2
      have z2 : k ≤ y := of_decide_eq_true q2.1
      omega
    · intro x hx
      rw [Bool.and_eq_true]
      rcases List.mem_append.mp hx with hx | hx
      · have q := k1 x hx
        rw [Bool.and_eq_true] at q
        exact ⟨q.1, blw_trans q.2 b2⟩
      · have q := k2 x hx
        rw [Bool.and_eq_true] at q
        exact ⟨abv_trans b1 q.1, q.2⟩
    · rw [List.zip_append l1]
    · show (vs ++ vs').length = _
      rw [List.length_append]
      rfl
  | succ n =>
    obtain ⟨ks, ps, rfl, h1⟩ := h1
    obtain ⟨ks', ps', rfl, h2⟩ := h2
    refine ⟨⟨ks ++ k :: ks', ps ++ ps', rfl, ?_⟩, ?_, rfl⟩
    · obtain ⟨c, r, x, Q1, Q2, J1, J2, rfl, m1, m2, rfl, rfl⟩ := h1
      obtain ⟨c', r', x', R1, R2, M1, M2, rfl, n1, n2, rfl, rfl⟩ := h2
      refine ⟨c, r ++ c' :: r', x, Q1, Q2 ++ (R1 ++ R2), J1, J2 ++ (M1 ++ M2), rfl, m1, ?_, by simp, by simp⟩
      exact m2.app ⟨rfl, x', R1, R2, M1, M2, n1, n2, rfl, rfl⟩
    · show (ps ++ ps').length = _
      rw [List.length_append]
      rfl
/-! ### rename -/
def Rec.ren (f : Int → Int) : Rec → Rec
  | .inner lv lo hi ks ps => .inner lv lo hi ks (ps.map f)
  | r => r
theorem Rec.ren_size (f : Int → Int) (r : Rec) : (r.ren f).size = r.size := by
  cases r with
  | inner lv lo hi ks ps => exact List.length_map f
  | _ => rfl
theorem Rec.ren_most (f : Int → Int) (r : Rec) : (r.ren f).most = r.most := by cases r <;> rfl
theorem KR.ren {S S' : Sb} {f : Int → Int} : ∀ {x : Option Int} {ks ps : List Int} {hi : Option Int} {P : List Int} {I : Items}, (∀ c l h P1 I, (∀ q ∈ P1, q ∈ P) → S c l h P1 I → S' (f c) l h (P1.map f) I) → KR S x ks ps hi P I → KR S' x ks (ps.map f) hi (P.map f) I
  | _, [], [], _, _, _, _, h => by
    obtain ⟨rfl, rfl, rfl⟩ := h
    exact ⟨rfl, rfl, rfl⟩
  | _, k :: ks, c :: ps, _, _, _, hS, h => by
    obtain ⟨e, y, P1, P2, I1, I2, h1, h2, rfl, h4⟩ := h
    exact ⟨e, y, P1.map f, P2.map f, I1, I2, hS _ _ _ _ _ (fun q hq => List.mem_append_left _ hq) h1, KR.ren (fun c l h P I hp => hS c l h P I fun q hq => List.mem_append_right _ (hp q hq)) h2, List.map_append, h4⟩
  | _, [], _ :: _, _, _, _, _, h => h.elim
  | _, _ :: _, [], _, _, _, _, h => h.elim
theorem SubR.ren {g g' : G} {f : Int → Int} : ∀ {n : Nat} {r : Rec} {lo hi : Option Int} {P : List Int} {I : Items}, (∀ q ∈ P, g' (f q) = (g q).map (Rec.ren f)) → SubR g n r lo hi P I → SubR g' n (r.ren f) lo hi (P.map f) I
  | 0, _, _, _, _, _, _, ⟨ks, vs, rfl, h, rfl, rfl⟩ => ⟨ks, vs, rfl, h, rfl, rfl⟩
  | n + 1, _, lo, hi, P, I, hq, ⟨ks, ps, rfl, h⟩ => by
    have step : ∀ c l h' P1 I, (∀ q ∈ P1, q ∈ P) → Sub g n c l h' P1 I → Sub g' n (f c) l h' (P1.map f) I := fun c l h' P1 I hp ⟨r', P', h1, h2, h3, h4, h5⟩ => by
      subst h5
      refine ⟨r'.ren f, P'.map f, ?_, SubR.ren (fun q hq' => hq q (hp q (List.mem_cons_of_mem _ hq'))) h2, ?_, ?_, rfl⟩
      · rw [hq c (hp c List.mem_cons_self), h1]
        rfl
      · rw [Rec.ren_size]; exact h3
      · rw [Rec.ren_size, Rec.ren_most]; exact h4
    obtain ⟨c, r, x, P1, P2, I1, I2, rfl, h1, h2, rfl, rfl⟩ := h
    exact ⟨ks, (c :: r).map f, rfl, f c, r.map f, x, P1.map f, P2.map f, I1, I2, rfl, step _ _ _ _ _ (fun q hq => List.mem_append_left _ hq) h1, h2.ren fun c l h' P I hp => step c l h' P I fun q hq' => List.mem_append_right _ (hp q hq'), List.map_append, rfl⟩
end Esp
set_option Elab.async false
set_option linter.all false
set_option maxRecDepth 100000
set_option maxHeartbeats 1000000
/-! D0: dicts by pairs, the draft, settle and the plan's loop as relations. -/
namespace Esp
section
variable {α : Type}
def alook (l : List (Int × α)) (k : Int) : Option α := (l.find? fun kv => decide (kv.1 = k)).map (·.2)
def aput (l : List (Int × α)) (k : Int) (v : α) : List (Int × α) := if (l.any fun kv => decide (kv.1 = k)) = true then l.map (fun kv => if kv.1 = k then (kv.1, v) else kv) else l ++ [(k, v)]
theorem alook_nil {k : Int} : alook ([] : List (Int × α)) k = none := rfl
theorem alook_pos {p : Int × α} {r : List (Int × α)} {k : Int} (e : p.1 = k) : alook (p :: r) k = some p.2 := by simp [alook, List.find?_cons, e]
theorem alook_neg {p : Int × α} {r : List (Int × α)} {k : Int} (e : ¬ p.1 = k) : alook (p :: r) k = alook r k := by simp [alook, List.find?_cons, e]
theorem alook_any (k : Int) : ∀ l : List (Int × α), (l.any fun kv => decide (kv.1 = k)) = (alook l k).isSome
  | [] => rfl
  | p :: r => by
    rw [List.any_cons]
    by_cases e : p.1 = k
    · rw [alook_pos e]; simp [e]
    · rw [alook_neg e, ← alook_any k r]; simp [e]
theorem alook_map (k j : Int) (y : α) : ∀ l : List (Int × α), alook (l.map fun kv => if kv.1 = k then (kv.1, y) else kv) j = (alook l j).map fun x => if j = k then y else x
  | [] => rfl
  | p :: r => by
    have ih := alook_map k j y r
    rw [List.map_cons]
    by_cases e : p.1 = k
    · rw [if_pos e]
      by_cases f : p.1 = j
      · rw [alook_pos (p := (p.1, y)) f, alook_pos f]
        simp [← f, e]
      · rw [alook_neg (p := (p.1, y)) f, alook_neg f, ih]
    · rw [if_neg e]
      by_cases f : p.1 = j
      · rw [alook_pos f, alook_pos f]
        have : ¬ j = k := fun z => e (f.trans z)
        simp [this]
      · rw [alook_neg f, alook_neg f, ih]
theorem alook_snoc (k j : Int) (y : α) : ∀ l : List (Int × α), alook l k = none → alook (l ++ [(k, y)]) j = if j = k then some y else alook l j
  | [], _ => by
    by_cases e : k = j
    · rw [if_pos e.symm]; exact alook_pos (p := (k, y)) e
    · rw [if_neg fun z => e z.symm]; exact alook_neg (p := (k, y)) e
  | p :: r, h => by
    have hp : ¬ p.1 = k := fun e => by rw [alook_pos e] at h; cases h
    rw [alook_neg hp] at h
    have ih := alook_snoc k j y r h
    rw [List.cons_append]
    by_cases f : p.1 = j
    · rw [alook_pos f, alook_pos f, if_neg]
      exact fun z => hp (f.trans z)
    · rw [alook_neg f, alook_neg f, ih]
theorem alook_put (l : List (Int × α)) (k j : Int) (y : α) : alook (aput l k y) j = if j = k then some y else alook l j := by
  unfold aput
  by_cases a : (l.any fun kv => decide (kv.1 = k)) = true
  · rw [if_pos a, alook_map]
    rw [alook_any] at a
    by_cases e : j = k
    · subst e
      rw [if_pos rfl]
      cases h : alook l j with
      | none => rw [h] at a; cases a
      | some x => simp
    · rw [if_neg e]
      cases alook l j <;> simp [e]
  · rw [if_neg a]
    rw [alook_any] at a
    refine alook_snoc k j y l ?_
    cases h : alook l k with
    | none => rfl
    | some x => rw [h] at a; exact absurd rfl a
theorem alook_mem {l : List (Int × α)} {k : Int} {v : α} (h : alook l k = some v) : (k, v) ∈ l := by
  unfold alook at h
  cases q : l.find? (fun kv => decide (kv.1 = k)) with
  | none => rw [q] at h; cases h
  | some p =>
    rw [q] at h
    have e1 := List.find?_some q
    have e2 := List.mem_of_find?_eq_some q
    have e3 : p.2 = v := Option.some.inj h
    have e4 : p.1 = k := of_decide_eq_true e1
    rw [← e3, ← e4]
    exact e2
theorem alook_none {l : List (Int × α)} {k : Int} : alook l k = none ↔ k ∉ l.map (·.1) := by
  constructor
  · intro h m
    obtain ⟨p, hp, e⟩ := List.mem_map.mp m
    have q : (l.any fun kv => decide (kv.1 = k)) = true := List.any_eq_true.mpr ⟨p, hp, decide_eq_true e⟩
    rw [alook_any, h] at q
    cases q
  · intro h
    cases q : alook l k with
    | none => rfl
    | some v => exact absurd (List.mem_map.mpr ⟨_, alook_mem q, rfl⟩) h
theorem alook_of_mem {l : List (Int × α)} (nd : (l.map (·.1)).Nodup) {k : Int} {v : α} (h : (k, v) ∈ l) : alook l k = some v := by
  induction l with
  | nil => simp at h
  | cons p r ih =>
    rw [List.map_cons, List.nodup_cons] at nd
    rcases List.mem_cons.mp h with e | h
    · rw [← e]; exact alook_pos rfl
    · have : ¬ p.1 = k := fun z => nd.1 (List.mem_map.mpr ⟨_, h, z.symm⟩)
      rw [alook_neg this]
      exact ih nd.2 h
theorem aput_keys (l : List (Int × α)) (k : Int) (v : α) : (aput l k v).map (·.1) = if k ∈ l.map (·.1) then l.map (·.1) else l.map (·.1) ++ [k] := by
  unfold aput
  by_cases a : (l.any fun kv => decide (kv.1 = k)) = true
  · have m : k ∈ l.map (·.1) := by
      obtain ⟨p, hp, e⟩ := List.any_eq_true.mp a
      exact List.mem_map.mpr ⟨p, hp, of_decide_eq_true e⟩
    rw [if_pos a, if_pos m, List.map_map]
    refine List.map_congr_left fun p _ => ?_
    show (if p.1 = k then (p.1, v) else p).1 = p.1
    split <;> rfl
  · have m : ¬ k ∈ l.map (·.1) := fun m => by
      obtain ⟨p, hp, e⟩ := List.mem_map.mp m
      exact a (List.any_eq_true.mpr ⟨p, hp, decide_eq_true e⟩)
    rw [if_neg a, if_neg m, List.map_append]
    rfl
theorem aput_nd {l : List (Int × α)} (k : Int) (v : α) (nd : (l.map (·.1)).Nodup) : ((aput l k v).map (·.1)).Nodup := by
  rw [aput_keys]
  split
  · exact nd
  · rename_i h
    refine List.nodup_append.mpr ⟨nd, by simp, fun a ha b hb e => ?_⟩
    have : b = k := by simpa using hb
    exact h (this ▸ e ▸ ha)
theorem aput_mem {l : List (Int × α)} {k j : Int} {v : α} : j ∈ (aput l k v).map (·.1) ↔ j = k ∨ j ∈ l.map (·.1) := by
  rw [aput_keys]
  split
  · rename_i h
    constructor
    · exact .inr
    · rintro (rfl | q)
      · exact h
      · exact q
  · simp [or_comm]
theorem aput_len (l : List (Int × α)) (k : Int) (v : α) : (aput l k v).length ≤ l.length + 1 := by
  unfold aput
  split
  · rw [List.length_map]; omega
  · rw [List.length_append]; exact Nat.le_refl _
end
/-! ### steps, draft -/
structure Step where
  page : Int
  addr : Int
  rcd : Rec
  acc : Int
abbrev Step.d (s : Step) : PySem.PyData := .tuple [.int s.page, .int s.addr, s.rcd.d, .int s.acc]
structure Dr where
  recs : List (Int × Rec)
  addrs : List (Int × Int)
  fresh : Nat
def Dr.give (st : Dr) (s : Step) (r : Rec) : Dr := ⟨aput st.recs s.page r, aput st.addrs s.page s.addr, st.fresh⟩
def Dr.add (st : Dr) (r : Rec) : Dr := ⟨aput st.recs (-((st.fresh : Int) + 1)) r, st.addrs, st.fresh + 1⟩
inductive Res where
  | done (st : Dr)
  | up (st : Dr) (r : Rec)
  | read (p : Int)
structure PlaceIs (lo hi : Option Int) (ks ps : List Int) (s : Step) (pl : Nat) : Prop where
  at_ : ps[pl]? = some s.page
  lo_ : cLo lo ks pl = s.rcd.lo
  hi_ : cHi hi ks pl = s.rcd.hi
  first : ∀ j, j < pl → ps[j]? ≠ some s.page
  live : s.rcd.live = true
  len : ps.length = ks.length + 1
  small : ks.length ≤ 90
/-- two neighbours joined; the right one stands at place m + 1 -/
inductive Pair (path : List Step) : Dr → Nat → Nat → Step → Rec → Step → Rec → Res → Prop
  | cut {st : Dr} {i m : Nat} {sl sr par : Step} {rl rr : Rec} {lv k : Int} {lo hi : Option Int} {ks ps : List Int} (hp : path[i]? = some par) (hr : par.rcd = .inner lv lo hi ks ps) (hz : ks.length ≤ 90) (hrl : rr.live = true) (hk : rr.lo = some k) (hj : joinable rl rr = true)
      (ho : (rl.join k rr).Ok) (hs : (rl.join k rr).most < (rl.join k rr).size) (hc : (rl.join k rr).CutOk) (hn : (Rec.inner lv lo hi (setI ks m (rl.join k rr).cut.2.1) ps).Ok) :
      Pair path st i m sl rl sr rr (.up ((st.give sl (rl.join k rr).cut.1).give sr (rl.join k rr).cut.2.2) (.inner lv lo hi (setI ks m (rl.join k rr).cut.2.1) ps))
  | up {st : Dr} {i m : Nat} {sl sr par : Step} {rl rr : Rec} {lv k : Int} {lo hi : Option Int} {ks ps : List Int} (hp : path[i]? = some par) (hr : par.rcd = .inner lv lo hi ks ps) (hz : ks.length ≤ 90) (hz2 : ps.length ≤ 91) (hrl : rr.live = true) (hk : rr.lo = some k) (hj : joinable rl rr = true)
      (ho : (rl.join k rr).Ok) (hs : (rl.join k rr).size ≤ (rl.join k rr).most) (hn : (Rec.inner lv lo hi (delI ks m) (delI ps (m + 1))).Ok) (hne : ¬ (i = 0 ∧ (delI ps (m + 1)).length = 1)) :
      Pair path st i m sl rl sr rr (.up ((st.give sr (.free sr.page)).give sl (rl.join k rr)) (.inner lv lo hi (delI ks m) (delI ps (m + 1))))
  | root {st : Dr} {m : Nat} {sl sr par : Step} {rl rr : Rec} {lv k : Int} {lo hi : Option Int} {ks ps : List Int} (hp : path[0]? = some par) (hr : par.rcd = .inner lv lo hi ks ps) (hz : ks.length ≤ 90) (hz2 : ps.length ≤ 91) (hrl : rr.live = true) (hk : rr.lo = some k) (hj : joinable rl rr = true)
      (ho : (rl.join k rr).Ok) (hs : (rl.join k rr).size ≤ (rl.join k rr).most) (hn : (Rec.inner lv lo hi (delI ks m) (delI ps (m + 1))).Ok) (hne : (delI ps (m + 1)).length = 1) :
      Pair path st 0 m sl rl sr rr (.done (((st.give sr (.free sr.page)).give sl (.free sl.page)).give par (rl.join k rr)))
inductive Settle (path : List Step) (sibs : List (Int × Step)) : Dr → Nat → Rec → Res → Prop
  | give {st : Dr} {i : Nat} {r : Rec} {s : Step} (hp : path[i]? = some s) (hl : r.live = true) (hs : r.size ≤ r.most) (hi : i = 0 ∨ 2 ≤ r.size) : Settle path sibs st i r (.done (st.give s r))
  | root {st : Dr} {r : Rec} {s : Step} (hp : path[0]? = some s) (hs : r.most < r.size) (hc : r.CutOk) (hn : (Rec.inner (r.level + 1) none none [r.cut.2.1] [-((st.fresh : Int) + 1), -((st.fresh : Int) + 2)]).Ok) :
      Settle path sibs st 0 r (.done (((st.add r.cut.1).add r.cut.2.2).give s (.inner (r.level + 1) none none [r.cut.2.1] [-((st.fresh : Int) + 1), -((st.fresh : Int) + 2)])))
  | cut {st : Dr} {i pl : Nat} {r : Rec} {s par : Step} {lv : Int} {lo hi : Option Int} {ks ps : List Int} (hp : path[i + 1]? = some s) (hq : path[i]? = some par) (hr : par.rcd = .inner lv lo hi ks ps) (hpl : PlaceIs lo hi ks ps s pl)
      (hs : r.most < r.size) (hc : r.CutOk) (hn : (Rec.inner lv lo hi (insI ks pl r.cut.2.1) (insI ps (pl + 1) (-((st.fresh : Int) + 1)))).Ok) :
      Settle path sibs st (i + 1) r (.up ((st.give s r.cut.1).add r.cut.2.2) (.inner lv lo hi (insI ks pl r.cut.2.1) (insI ps (pl + 1) (-((st.fresh : Int) + 1)))))
  | read {st : Dr} {i pl : Nat} {r : Rec} {s par : Step} {lv q : Int} {lo hi : Option Int} {ks ps : List Int} (hp : path[i + 1]? = some s) (hq : path[i]? = some par) (hr : par.rcd = .inner lv lo hi ks ps) (hpl : PlaceIs lo hi ks ps s pl)
      (hl : r.live = true) (hs : r.size < 2) (ho : ps[if pl = 0 then 1 else pl - 1]? = some q) (hn : alook sibs q = none) : Settle path sibs st (i + 1) r (.read q)
  | uniteL {st : Dr} {i m : Nat} {r : Rec} {s par sb : Step} {lv q : Int} {lo hi : Option Int} {ks ps : List Int} {res : Res} (hp : path[i + 1]? = some s) (hq : path[i]? = some par) (hr : par.rcd = .inner lv lo hi ks ps) (hpl : PlaceIs lo hi ks ps s (m + 1))
      (hl : r.live = true) (hs : r.size < 2) (ho : ps[m]? = some q) (hn : alook sibs q = some sb) (hv : sb.rcd.level = r.level) (hbl : sb.rcd.live = true) (hb1 : cLo lo ks m = sb.rcd.lo) (hb2 : cHi hi ks m = sb.rcd.hi)
      (hpr : Pair path st i m sb sb.rcd s r res) : Settle path sibs st (i + 1) r res
  | uniteR {st : Dr} {i : Nat} {r : Rec} {s par sb : Step} {lv q : Int} {lo hi : Option Int} {ks ps : List Int} {res : Res} (hp : path[i + 1]? = some s) (hq : path[i]? = some par) (hr : par.rcd = .inner lv lo hi ks ps) (hpl : PlaceIs lo hi ks ps s 0)
      (hl : r.live = true) (hs : r.size < 2) (ho : ps[1]? = some q) (hn : alook sibs q = some sb) (hv : sb.rcd.level = r.level) (hbl : sb.rcd.live = true) (hb1 : cLo lo ks 1 = sb.rcd.lo) (hb2 : cHi hi ks 1 = sb.rcd.hi)
      (hpr : Pair path st i 0 s r sb sb.rcd res) : Settle path sibs st (i + 1) r res
inductive Loop (path : List Step) (sibs : List (Int × Step)) : Dr → Nat → Rec → Dr ⊕ Int → Prop
  | done {st st' : Dr} {i : Nat} {r : Rec} (h : Settle path sibs st i r (.done st')) : Loop path sibs st i r (.inl st')
  | read {st : Dr} {i : Nat} {r : Rec} {q : Int} (h : Settle path sibs st i r (.read q)) : Loop path sibs st i r (.inr q)
  | up {st st' : Dr} {i : Nat} {r r' : Rec} {res : Dr ⊕ Int} (h : Settle path sibs st (i + 1) r (.up st' r')) (k : Loop path sibs st' i r' res) : Loop path sibs st (i + 1) r res
/-- the entries of a draft -/
structure Entry where
  page : Int
  addr : Option Int
  rcd : Rec
abbrev Entry.d (e : Entry) : PySem.PyData := .tuple [.int e.page, bd e.addr, e.rcd.d]
def Dr.entry (st : Dr) (p : Int) : Entry := ⟨p, alook st.addrs p, (alook st.recs p).getD (.free 0)⟩
def Dr.news (st : Dr) : List Int := (List.range st.fresh).map fun (i : Nat) => -1 - (i : Int)
def EntriesOf (st : Dr) (E : List Entry) : Prop := ∃ ns : List Int, ns.Perm ((st.recs.map (·.1)).filter fun p => decide (0 ≤ p)) ∧ E = (ns ++ st.news).map st.entry
end Esp
set_option Elab.async false
set_option linter.all false
set_option maxRecDepth 100000
set_option maxHeartbeats 4000000
/-! E07h: lists and dicts of data in the heap; the draft as an object. -/
namespace Esp
open PySem PySem.Spec PyProof.Rows L2
/-! ### a dict of data -/
def KvD (H : Hp) : List (Key × V) → List (Int × PyData) → Prop := Paired fun (p : Key × V) (q : Int × PyData) => p.1 = Sum.inl q.1 ∧ Dn H p.2 q.2
theorem KvD.t {H H' : Hp} {kvs : List (Key × V)} {l : List (Int × PyData)} (h : KvD H kvs l) (e : ExT H H') : KvD H' kvs l := Paired.mapP h fun _ _ ⟨a, b⟩ => ⟨a, b.t e⟩
theorem KvD.length {H : Hp} {kvs : List (Key × V)} {l : List (Int × PyData)} (h : KvD H kvs l) : kvs.length = l.length := Paired.length h
theorem inl_iff {a b : Int} : ((Sum.inl a : Key) = Sum.inl b) ↔ a = b := ⟨fun e => Sum.inl.inj e, fun e => by rw [e]⟩
theorem KvD.look {H : Hp} {kvs : List (Key × V)} {l : List (Int × PyData)} (h : KvD H kvs l) (k : Int) : match alook l k with
    | some d => ∃ v, valV kvs (Sum.inl k : Key) = some v ∧ Dn H v d
    | none => valV kvs (Sum.inl k : Key) = none := by
  unfold KvD at h
  induction h with
  | nil => rfl
  | @cons p q ps qs r t ih =>
    obtain ⟨r1, r2⟩ := r
    by_cases e : q.1 = k
    · rw [alook_pos e]
      exact ⟨p.2, valV_pos (by rw [r1, e]), r2⟩
    · rw [alook_neg e]
      have : ¬ p.1 = (Sum.inl k : Key) := fun z => e (inl_iff.mp (r1.symm.trans z))
      rw [valV_neg this]
      exact ih
theorem KvD.look_some {H : Hp} {kvs : List (Key × V)} {l : List (Int × PyData)} (h : KvD H kvs l) {k : Int} {d : PyData} (e : alook l k = some d) : ∃ v, valV kvs (Sum.inl k : Key) = some v ∧ Dn H v d := by
  have := h.look k
  rw [e] at this
  exact this
theorem KvD.look_none {H : Hp} {kvs : List (Key × V)} {l : List (Int × PyData)} (h : KvD H kvs l) {k : Int} (e : alook l k = none) : valV kvs (Sum.inl k : Key) = none := by
  have := h.look k
  rw [e] at this
  exact this
theorem Paired.appP {α β : Type} {F : α → β → Prop} : ∀ {a : List α} {b : List β} {c : List α} {d : List β}, Paired F a b → Paired F c d → Paired F (a ++ c) (b ++ d)
  | _, _, _, _, .nil, s => s
  | _, _, _, _, .cons r t, s => .cons r (Paired.appP t s)
theorem KvD.any {H : Hp} {kvs : List (Key × V)} {l : List (Int × PyData)} (h : KvD H kvs l) (k : Int) : (kvs.any fun kv => decide (kv.1 = (Sum.inl k : Key))) = (l.any fun kv => decide (kv.1 = k)) := by
  unfold KvD at h
  induction h with
  | nil => rfl
  | @cons p q ps qs r t ih =>
    rw [List.any_cons, List.any_cons, ih, r.1]
    congr 1
    exact dcd inl_iff
theorem KvD.put {H : Hp} {kvs : List (Key × V)} {l : List (Int × PyData)} (h : KvD H kvs l) {v : V} {d : PyData} (hd : Dn H v d) (k : Int) : KvD H (putK kvs (Sum.inl k : Key) v) (aput l k d) := by
  unfold putK aput
  rw [h.any k]
  by_cases a : (l.any fun kv => decide (kv.1 = k)) = true
  · rw [if_pos a, if_pos a]
    unfold KvD at h ⊢
    induction h with
    | nil => exact .nil
    | @cons p q ps qs r t ih =>
      clear a
      rw [List.map_cons, List.map_cons]
      have aux : ∀ {ps : List (Key × V)} {qs : List (Int × PyData)}, Paired (fun (p : Key × V) (q : Int × PyData) => p.1 = Sum.inl q.1 ∧ Dn H p.2 q.2) ps qs → Paired (fun (p : Key × V) (q : Int × PyData) => p.1 = Sum.inl q.1 ∧ Dn H p.2 q.2) (ps.map fun kv => if kv.1 = (Sum.inl k : Key) then (kv.1, v) else kv) (qs.map fun kv => if kv.1 = k then (kv.1, d) else kv) := by
        intro ps qs h
        induction h with
        | nil => exact .nil
        | @cons p q ps qs r t ih =>
          rw [List.map_cons, List.map_cons]
          refine .cons ?_ ih
          by_cases e : q.1 = k
          · rw [if_pos (by rw [r.1, e]), if_pos e]
            exact ⟨r.1, hd⟩
          · rw [if_neg (fun z => e (inl_iff.mp (r.1.symm.trans z))), if_neg e]
            exact r
      exact aux (.cons r t)
  · rw [if_neg a, if_neg a]
    exact Paired.appP h (.cons ⟨rfl, hd⟩ .nil)
def DkAt (H : Hp) (a : Addr) (l : List (Int × PyData)) : Prop := ∃ kvs, H a = some (.dK kvs) ∧ KvD H kvs l
def LsAt (H : Hp) (a : Addr) (ds : List PyData) : Prop := ∃ xs, H a = some (.lst xs) ∧ DnAll H xs ds
theorem DkAt.x {H H' : Hp} {a : Addr} {l : List (Int × PyData)} (h : DkAt H a l) (e : Ex H H') : DkAt H' a l := by
  obtain ⟨kvs, h1, h2⟩ := h
  exact ⟨kvs, e _ _ h1, h2.t e.t⟩
theorem LsAt.x {H H' : Hp} {a : Addr} {ds : List PyData} (h : LsAt H a ds) (e : Ex H H') : LsAt H' a ds := by
  obtain ⟨kvs, h1, h2⟩ := h
  exact ⟨kvs, e _ _ h1, h2.x e⟩
theorem DkAt.keep {H H' : Hp} {a : Addr} {l : List (Int × PyData)} (h : DkAt H a l) (e : ExT H H') (k : ∀ o, H a = some o → H' a = some o) : DkAt H' a l := by
  obtain ⟨kvs, h1, h2⟩ := h
  exact ⟨kvs, k _ h1, h2.t e⟩
theorem LsAt.keep {H H' : Hp} {a : Addr} {ds : List PyData} (h : LsAt H a ds) (e : ExT H H') (k : ∀ o, H a = some o → H' a = some o) : LsAt H' a ds := by
  obtain ⟨kvs, h1, h2⟩ := h
  exact ⟨kvs, k _ h1, h2.t e⟩
theorem alook_mapV {α : Type} (f : α → PyData) (l : List (Int × α)) (k : Int) : alook (l.map fun p => (p.1, f p.2)) k = (alook l k).map f := by
  induction l with
  | nil => rfl
  | cons p r ih =>
    rw [List.map_cons]
    by_cases e : p.1 = k
    · rw [alook_pos (p := (p.1, f p.2)) e, alook_pos e]
      rfl
    · rw [alook_neg (p := (p.1, f p.2)) e, alook_neg e, ih]
theorem aput_mapV {α : Type} (f : α → PyData) (l : List (Int × α)) (k : Int) (v : α) : aput (l.map fun p => (p.1, f p.2)) k (f v) = (aput l k v).map fun p => (p.1, f p.2) := by
  unfold aput
  have e : ((l.map fun p => (p.1, f p.2)).any fun kv => decide (kv.1 = k)) = (l.any fun kv => decide (kv.1 = k)) := by
    rw [List.any_map]
    rfl
  rw [e]
  by_cases a : (l.any fun kv => decide (kv.1 = k)) = true
  · rw [if_pos a, if_pos a, List.map_map, List.map_map]
    refine List.map_congr_left fun p _ => ?_
    show (if p.1 = k then (p.1, f v) else (p.1, f p.2)) = ((if p.1 = k then (p.1, v) else p).1, f (if p.1 = k then (p.1, v) else p).2)
    split <;> rfl
  · rw [if_neg a, if_neg a, List.map_append]
    rfl
/-- a typed dict -/
def DkT {α : Type} (f : α → PyData) (H : Hp) (a : Addr) (l : List (Int × α)) : Prop := DkAt H a (l.map fun p => (p.1, f p.2))
/-- d[k] = v -/
theorem DkT.put {α : Type} {f : α → PyData} {H : Hp} {a : Addr} {l : List (Int × α)} (h : DkT f H a l) {v : V} {x : α} (hv : Dn H v (f x)) (k : Int) (hz : l.length < 100000) : ∃ o, DPut H a (.int k) v (upd H a o) ∧ DkT f (upd H a o) a (aput l k x) ∧ (∃ kvs, o = .dK kvs) ∧ ∃ kvs, H a = some (.dK kvs) := by
  obtain ⟨kvs, h1, h2⟩ := h
  refine ⟨_, DPut.k (k := Sum.inl k) h1 (sz_lt (by rw [h2.length, List.length_map]; exact hz)), ⟨_, upd_same, ?_⟩, ⟨_, rfl⟩, _, h1⟩
  rw [← aput_mapV]
  exact (h2.put hv k).t (ExT.put fun xs z => by rw [h1] at z; cases z)
theorem DkT.get {α : Type} {f : α → PyData} {H : Hp} {a : Addr} {l : List (Int × α)} (h : DkT f H a l) {k : Int} {x : α} (e : alook l k = some x) : ∃ v, DGet H a (.int k) (some v) ∧ Dn H v (f x) := by
  obtain ⟨kvs, h1, h2⟩ := h
  obtain ⟨v, e1, e2⟩ := h2.look_some (k := k) (d := f x) (by rw [alook_mapV, e] <;> rfl)
  exact ⟨v, by rw [← e1]; exact DGet.k (k := Sum.inl k) h1, e2⟩
theorem DkT.get0 {α : Type} {f : α → PyData} {H : Hp} {a : Addr} {l : List (Int × α)} (h : DkT f H a l) {k : Int} (e : alook l k = none) : DGet H a (.int k) none := by
  obtain ⟨kvs, h1, h2⟩ := h
  have := h2.look_none (k := k) (by rw [alook_mapV, e] <;> rfl)
  rw [← this]
  exact DGet.k (k := Sum.inl k) h1
theorem DkT.is {α : Type} {f : α → PyData} {H : Hp} {a : Addr} {l : List (Int × α)} (h : DkT f H a l) : ∃ kvs, H a = some (.dK kvs) := by
  obtain ⟨kvs, h1, _⟩ := h
  exact ⟨kvs, h1⟩
theorem DkT.x {α : Type} {f : α → PyData} {H H' : Hp} {a : Addr} {l : List (Int × α)} (h : DkT f H a l) (e : Ex H H') : DkT f H' a l := DkAt.x h e
theorem DkT.keep {α : Type} {f : α → PyData} {H H' : Hp} {a : Addr} {l : List (Int × α)} (h : DkT f H a l) (e : ExT H H') (k : ∀ o, H a = some o → H' a = some o) : DkT f H' a l := DkAt.keep h e k

/-! ### the draft -/
structure Fr where
  pa : Addr
  sa : Addr
  ra : Addr
  aa : Addr
def dflds (fr : Fr) (z : Int) : List (Str × V) := [("path", .ref fr.pa), ("siblings", .ref fr.sa), ("records", .ref fr.ra), ("addresses", .ref fr.aa), ("fresh", .int z)]
theorem sne (a b : Str) (h : decide (a = b) = false) : ¬ a = b := of_decide_eq_false h
theorem lk_path (fr : Fr) (z : Int) : (dflds fr z).lookup ("path" : Str) = some (.ref fr.pa) := by unfold dflds; rw [List.lookup_cons_self]
theorem lk_siblings (fr : Fr) (z : Int) : (dflds fr z).lookup ("siblings" : Str) = some (.ref fr.sa) := by
  unfold dflds
  rw [List.lookup_cons, show (("siblings" : Str) == "path") = false by decide +kernel]
  simp only
  rw [List.lookup_cons_self]
theorem lk_records (fr : Fr) (z : Int) : (dflds fr z).lookup ("records" : Str) = some (.ref fr.ra) := by
  unfold dflds
  rw [List.lookup_cons, show (("records" : Str) == "path") = false by decide +kernel]
  simp only
  rw [List.lookup_cons, show (("records" : Str) == "siblings") = false by decide +kernel]
  simp only
  rw [List.lookup_cons_self]
theorem lk_addresses (fr : Fr) (z : Int) : (dflds fr z).lookup ("addresses" : Str) = some (.ref fr.aa) := by
  unfold dflds
  rw [List.lookup_cons, show (("addresses" : Str) == "path") = false by decide +kernel]
  simp only
  rw [List.lookup_cons, show (("addresses" : Str) == "siblings") = false by decide +kernel]
  simp only
  rw [List.lookup_cons, show (("addresses" : Str) == "records") = false by decide +kernel]
  simp only
  rw [List.lookup_cons_self]
theorem lk_fresh (fr : Fr) (z : Int) : (dflds fr z).lookup ("fresh" : Str) = some (.int z) := by
  unfold dflds
  rw [List.lookup_cons, show (("fresh" : Str) == "path") = false by decide +kernel]
  simp only
  rw [List.lookup_cons, show (("fresh" : Str) == "siblings") = false by decide +kernel]
  simp only
  rw [List.lookup_cons, show (("fresh" : Str) == "records") = false by decide +kernel]
  simp only
  rw [List.lookup_cons, show (("fresh" : Str) == "addresses") = false by decide +kernel]
  simp only
  rw [List.lookup_cons_self]
theorem lk_other (fr : Fr) (z : Int) {m : Str} (h : [("path" : Str), "siblings", "records", "addresses", "fresh"].all (fun x => !(m == x)) = true) : (dflds fr z).lookup m = none := by
  simp only [List.all_cons, List.all_nil, Bool.and_true, Bool.and_eq_true, Bool.not_eq_true'] at h
  obtain ⟨h1, h2, h3, h4, h5⟩ := h
  unfold dflds
  rw [List.lookup_cons, h1]
  simp only
  rw [List.lookup_cons, h2]
  simp only
  rw [List.lookup_cons, h3]
  simp only
  rw [List.lookup_cons, h4]
  simp only
  rw [List.lookup_cons, h5]
  simp only
  exact List.lookup_nil
theorem putF_neg {f g : Str} {v x : V} {r : List (Str × V)} (h : (g == f) = false) : putF f v ((g, x) :: r) = (g, x) :: putF f v r := by
  show (if g = f then _ else _) = _
  rw [if_neg]
  intro e
  rw [e] at h
  simp at h
theorem putF_fresh (fr : Fr) (z y : Int) : putF "fresh" (.int y) (dflds fr z) = dflds fr y := by
  unfold dflds
  rw [putF_neg (by decide +kernel), putF_neg (by decide +kernel), putF_neg (by decide +kernel), putF_neg (by decide +kernel)]
  show _ :: _ :: _ :: _ :: (if ("fresh" : Str) = "fresh" then _ else _) = _
  rw [if_pos rfl]
theorem flds_made (fr : Fr) : putF "fresh" (.int 0) (putF "addresses" (.ref fr.aa) (putF "records" (.ref fr.ra) (putF "siblings" (.ref fr.sa) (putF "path" (.ref fr.pa) [])))) = dflds fr 0 := by
  have e1 : putF "path" (.ref fr.pa) [] = [(("path" : Str), V.ref fr.pa)] := rfl
  rw [e1, putF_neg (by decide +kernel), putF_neg (by decide +kernel), putF_neg (by decide +kernel), putF_neg (by decide +kernel)]
  rfl
structure DraftAt (C : Addr) (H : Hp) (p : Addr) (fr : Fr) (path : List Step) (sibs : List (Int × Step)) (st : Dr) : Prop where
  ob : ∃ dx, H p = some (.ins C dx (dflds fr (-(st.fresh : Int))))
  pth : LsAt H fr.pa (path.map Step.d)
  sib : DkT Step.d H fr.sa sibs
  rcs : DkT Rec.d H fr.ra st.recs
  adr : DkT PyData.int H fr.aa st.addrs
  ne1 : fr.ra ≠ fr.aa
  ne2 : fr.sa ≠ fr.ra
  ne3 : fr.sa ≠ fr.aa
theorem DraftAt.x {C : Addr} {H H' : Hp} {p : Addr} {fr : Fr} {path : List Step} {sibs : List (Int × Step)} {st : Dr} (h : DraftAt C H p fr path sibs st) (e : Ex H H') : DraftAt C H' p fr path sibs st := by
  obtain ⟨dx, ho⟩ := h.ob
  exact ⟨⟨dx, e _ _ ho⟩, h.pth.x e, h.sib.x e, h.rcs.x e, h.adr.x e, h.ne1, h.ne2, h.ne3⟩
/-- what a method of the draft may touch -/
structure Chg (p : Addr) (fr : Fr) (H H' : Hp) : Prop where
  keep : ∀ b o, H b = some o → b ≠ p → b ≠ fr.ra → b ≠ fr.aa → H' b = some o
  tup : ExT H H'
theorem Chg.of {p : Addr} {fr : Fr} {H H' : Hp} (e : Ex H H') : Chg p fr H H' := ⟨fun b o h _ _ _ => e b o h, e.t⟩
theorem Chg.trans {p : Addr} {fr : Fr} {H H1 H2 : Hp} (a : Chg p fr H H1) (b : Chg p fr H1 H2) : Chg p fr H H2 := ⟨fun c o h h1 h2 h3 => b.keep c o (a.keep c o h h1 h2 h3) h1 h2 h3, a.tup.trans b.tup⟩
/-- what the walk asks of the class -/
structure TC (K : PySem.W.Frag) (mg : Str → Option Value) (C : Addr) : Prop where
  cl : Cls K C
  nP : NoAttr K C "path"
  nS : NoAttr K C "siblings"
  nR : NoAttr K C "records"
  nA : NoAttr K C "addresses"
  nF : NoAttr K C "fresh"
  mgC : mg "Draft" = some (.ref C)
structure MCal (P : Program) (w : World) (K : PySem.W.Frag) (mg : Str → Option Value) (base : Heap) (C : Addr) (k : Nat) (m : Str) (ps : List Str) (sp : Sp) : Prop where
  ex : ∃ f fd, Meth K C m f ∧ FnOk P w K mg base CX0 k f fd ps sp ∧ Binds K fd ps []
theorem pe_mt {X : Cx} {C : Addr} {k j : Nat} {m : Str} {ps : List Str} {sp : Sp} {o e : Expr} {es : List Expr} {ta : TE} {t : TA} {apos pos : Pos} {pl : Sem Bool} (he : PE X o ta) (c : Cls X.K C) (M : MCal X.prog X.w X.K X.mg X.base C k m ps sp) (hr : Room j X.A) (hj : k ≤ j) (ha : PA X (e :: es) t)
    (hst : starEach (e :: es) X.env = (false, eval e X.env) :: starEach es X.env := by rfl) (hpl : (backTo pos (starEach es X.env)).any (·.1) = false := by rfl)
    (ht : eval (.Call (.Attribute o m apos) (e :: es) [] pos) X.env = (do
      let ov ← eval o X.env
      standAt apos.atName
      let (f, first) ← holding [ov] (getMethod ov m pl)
      callWith pos f first (backTo pos (starEach (e :: es) X.env)) (backToKw pos (keywordEach [] X.env))) := by rfl) : PE X (.Call (.Attribute o m apos) (e :: es) [] pos) (tMeth C m sp [] E0 ta t) := by
  obtain ⟨f, fd, h1, h2, h3⟩ := M.ex
  exact pe_meth he c h1 h2 (hr.mono hj) h3 .nil pass0 ha hst hpl ht
theorem pe_mt0 {X : Cx} {C : Addr} {k j : Nat} {m : Str} {ps : List Str} {sp : Sp} {o : Expr} {ta : TE} {apos pos : Pos} {pl : Sem Bool} (he : PE X o ta) (c : Cls X.K C) (M : MCal X.prog X.w X.K X.mg X.base C k m ps sp) (hr : Room j X.A) (hj : k ≤ j)
    (ht : eval (.Call (.Attribute o m apos) [] [] pos) X.env = (do
      let ov ← eval o X.env
      standAt apos.atName
      let (f, first) ← holding [ov] (getMethod ov m pl)
      callWith pos f first (backTo pos (starEach [] X.env)) (backToKw pos (keywordEach [] X.env))) := by rfl) : PE X (.Call (.Attribute o m apos) [] [] pos) (tMeth C m sp [] E0 ta tNil) := by
  obtain ⟨f, fd, h1, h2, h3⟩ := M.ex
  exact pe_meth0 he c h1 h2 (hr.mono hj) h3 .nil pass0 ht
/-! ### evaluation at one heap and beyond -/
def EV (σ : L2.St) (H : Hp) (te : TE) (d : PyData) : Prop := ∀ H1, Ex H H1 → ∀ Q : VK, (∀ v H2, Ex H1 H2 → Dn H2 v d → Q v H2) → te σ H1 Q
def EVA (σ : L2.St) (H : Hp) (ta : TA) (ds : List PyData) : Prop := ∀ H1, Ex H H1 → ∀ Q : List V → Hp → Prop, (∀ vs H2, Ex H1 H2 → DnAll H2 vs ds → Q vs H2) → ta σ H1 Q
def EVT (σ : L2.St) (H : Hp) (tt : TT) (b : Bool) : Prop := ∀ H1, Ex H H1 → ∀ Q : Bool → Hp → Prop, (∀ H2, Ex H1 H2 → Q b H2) → tt σ H1 Q
section
variable {σ : L2.St} {H H' : Hp} {ρ : Env'} {ta tb te : TE} {d x y z : PyData} {ds : List PyData} {tt tu : TT} {a b : Bool}
theorem ev_ee (h : EE te ρ d) (ok : EnvOk H σ ρ) : EV σ H te d := fun H1 e Q q => h σ H1 (ok.x e) Q q
theorem evt_et (h : ET tt ρ b) (ok : EnvOk H σ ρ) : EVT σ H tt b := fun H1 e Q q => h σ H1 (ok.x e) Q q
theorem EV.ext (h : EV σ H te d) (e : Ex H H') : EV σ H' te d := fun H1 e1 Q q => h H1 (e.trans e1) Q q
theorem ev_op {r : R2} (ha : EV σ H ta x) (hb : EV σ H tb y) (hr : RD r x y z) : EV σ H (tOp r ta tb) z := fun H1 e Q q =>
  ha H1 e _ fun v H2 e2 d2 => hb H2 (e.trans e2) _ fun w H3 e3 d3 => hr H3 v w (d2.x e3) d3 Q fun u H4 e4 d4 => q u H4 ((e2.trans e3).trans e4) d4
theorem ev_c {v : V} (h : ∀ H, Dn H v d) : EV σ H (tC v) d := fun H1 _ Q q => q v H1 (Ex.refl H1) (h H1)
theorem ev_int {i : Int} : EV σ H (tC (.int i)) (.int i) := ev_c fun _ => .int i
theorem ev_str {i : Str} : EV σ H (tC (.str i)) (.str i) := ev_c fun _ => .str i
theorem ev_non : EV σ H (tC .non) .none := ev_c fun _ => .non
theorem eva_nil : EVA σ H tNil [] := fun H1 _ Q q => q [] H1 (Ex.refl H1) .nil
theorem eva_cons {tr : TA} (h : EV σ H te x) (hr : EVA σ H tr ds) : EVA σ H (tCons te tr) (x :: ds) := fun H1 e Q q =>
  h H1 e _ fun v H2 e2 d2 => hr H2 (e.trans e2) _ fun vs H3 e3 d3 => q _ H3 (e2.trans e3) (.cons (d2.x e3) d3)
theorem ev_call {R : List PyData → PyData → Prop} {E : XK} {ta : TA} (h : EVA σ H ta ds) (hr : R ds d) : EV σ H (tCall (spF R) [] E ta) d := fun H1 e Q q =>
  h H1 e _ fun vs H2 e2 d2 => ⟨ds, d, by rw [List.append_nil]; exact d2, hr, fun v H3 e3 d3 => q v H3 (e2.trans e3) d3⟩
theorem ev_cb {r : List V → Hp → VK → Prop} {ta : TA} (h : EVA σ H ta ds) (hr : RC r ds z) : EV σ H (tCB r ta) z := fun H1 e Q q =>
  h H1 e _ fun vs H2 e2 d2 => hr H2 vs d2 Q fun v H3 e3 d3 => q v H3 (e2.trans e3) d3
theorem ev_tup {ta : TA} (h : EVA σ H ta ds) (hl : ds.length ≤ 100000 := by exact Nat.le_of_ble_eq_true rfl) : EV σ H (tTup ta) (.tuple ds) := fun H1 e Q q =>
  h H1 e _ fun vs H2 e2 d2 => ⟨by rw [d2.length]; exact sz_of hl, fun p hp => q _ _ (e2.add hp) (.tup upd_same (d2.x (Ex.new hp)))⟩
theorem ev_var {i : Nat} {v : V} (h : σ[i]? = some (some v)) (hd : Dn H v d) : EV σ H (tVar i) d := fun H1 e Q q => ⟨v, h, q v H1 (Ex.refl H1) (hd.x e)⟩
theorem evt_test (h : EV σ H te (.bool b)) : EVT σ H (tTest te) b := fun H1 e Q q => h H1 e _ fun v H2 e2 d2 => by
  cases d2
  exact ⟨b, rfl, q H2 e2⟩
theorem evt_and (h1 : EVT σ H tt a) (h2 : a = true → EVT σ H tu b) : EVT σ H (tAnd tt tu) (a && b) := fun H1 e Q q => h1 H1 e _ fun H2 e2 => by
  cases a with
  | true =>
    show tu σ H2 Q
    exact h2 rfl H2 (e.trans e2) Q fun H3 e3 => q H3 (e2.trans e3)
  | false =>
    show Q false H2
    exact q H2 e2
theorem ev_is (h : EV σ H te x) (e : x = y) : EV σ H te y := e ▸ h
/-! statements -/
variable {D : Ends} {rest t u : TS} {i : Nat}
theorem cs_set (h : EV σ H te d) (k : ∀ v H1, Ex H H1 → Dn H1 v d → rest D (σ.set i (some v)) H1) : tSeq (tAsg te (gName i)) rest D σ H := h H (Ex.refl H) _ fun v H1 e1 d1 => k v H1 e1 d1
theorem cs_ret (h : EV σ H te d) (k : ∀ v H1, Ex H H1 → Dn H1 v d → D.rt v H1) : tRet te D σ H := h H (Ex.refl H) _ fun v H1 e1 d1 => k v H1 e1 d1
theorem cs_ifT (h : EVT σ H tt b) (e : b = true) (k : ∀ H1, Ex H H1 → t D σ H1) : tIfS tt t u D σ H := h H (Ex.refl H) _ fun H1 e1 => by
  subst e
  exact k H1 e1
theorem cs_ifF (h : EVT σ H tt b) (e : b = false) (k : ∀ H1, Ex H H1 → u D σ H1) : tIfS tt t u D σ H := h H (Ex.refl H) _ fun H1 e1 => by
  subst e
  exact k H1 e1
theorem cs_no (h : EVT σ H tt b) (e : b = false) (k : ∀ H1, Ex H H1 → rest D σ H1) : tSeq (tIfS tt t tNext) rest D σ H := cs_ifF (D := { D with nx := rest D }) h e k
theorem cs_yes (h : EVT σ H tt b) (e : b = true) (k : ∀ H1, Ex H H1 → t { D with nx := rest D } σ H1) : tSeq (tIfS tt t u) rest D σ H := cs_ifT (D := { D with nx := rest D }) h e k
end
section
variable {K : PySem.W.Frag} {mg : Str → Option Value} {C p : Addr} {H : Hp} {fr : Fr} {path : List Step} {sibs : List (Int × Step)} {st : Dr} {σ : L2.St} {tix te : TE}
/-- self.path[i] -/
theorem ev_path (T : TC K mg C) (d : DraftAt C H p fr path sibs st) (h0 : σ[0]? = some (some (.ref p))) {z : Int} {i : Nat} {s : Step} (h : EV σ H tix (.int z)) (e : z = (i : Int)) (hp : path[i]? = some s) : EV σ H (tOp (rIxL K) (tFld K (tVar 0) "path") tix) s.d := fun H1 e1 Q q => by
  have d1 := d.x e1
  obtain ⟨dx, ho⟩ := d1.ob
  refine ⟨_, h0, p, C, dx, _, _, rfl, ho, T.cl, T.nP, lk_path _ _, h H1 e1 _ fun v H2 e2 dv => ?_⟩
  cases dv
  obtain ⟨xs, hx, hd⟩ := (d1.x e2).pth
  obtain ⟨v, e3, hv⟩ := atI_dn (i := z) (d := s.d) hd (by rw [e]; exact atI_nat (by rw [List.getElem?_map, hp] <;> rfl))
  exact ⟨_, _, _, v, rfl, rfl, SqL.of hx, e3, q v H2 e2 hv⟩
/-- a part of a step -/
theorem ev_rcd {s : Step} (h : EV σ H te s.d) : EV σ H (tOp (rIxT K) te (tC (.int 2))) s.rcd.d := ev_op h ev_int (rd_ix rfl)
theorem ev_pg {s : Step} (h : EV σ H te s.d) : EV σ H (tOp (rIxT K) te (tC (.int 0))) (.int s.page) := ev_op h ev_int (rd_ix rfl)
end
end Esp
set_option Elab.async false
set_option linter.all false
set_option maxRecDepth 100000
set_option maxHeartbeats 4000000
/-! E08h: what the draft's methods promise. -/
namespace Esp
open PySem PySem.Spec PyProof.Rows L2
section
variable {C p : Addr} {H : Hp} {fr : Fr} {path : List Step} {sibs : List (Int × Step)} {st : Dr}
theorem DraftAt.putR (d : DraftAt C H p fr path sibs st) {v : V} {r : Rec} (hv : Dn H v r.d) (q : Int) (hz : st.recs.length < 100000) :
    ∃ o, DPut H fr.ra (.int q) v (upd H fr.ra o) ∧ DraftAt C (upd H fr.ra o) p fr path sibs ⟨aput st.recs q r, st.addrs, st.fresh⟩ ∧ Chg p fr H (upd H fr.ra o) := by
  obtain ⟨o, h1, h2, ⟨kv, rfl⟩, kv0, h0⟩ := d.rcs.put (x := r) hv q hz
  obtain ⟨dx, ho⟩ := d.ob
  have np : p ≠ fr.ra := ne_of ho h0 (by intro z; cases z)
  obtain ⟨xs, hx, _⟩ := id d.pth
  have npa : fr.pa ≠ fr.ra := ne_of hx h0 (by intro z; cases z)
  have et : ExT H (upd H fr.ra (.dK kv)) := ExT.put fun xs z => by rw [h0] at z; cases z
  exact ⟨_, h1, ⟨⟨dx, by rw [upd_ne np]; exact ho⟩, d.pth.keep et fun o h => by rw [upd_ne npa]; exact h, d.sib.keep et fun o h => by rw [upd_ne d.ne2]; exact h, h2, d.adr.keep et fun o h => by rw [upd_ne d.ne1.symm]; exact h, d.ne1, d.ne2, d.ne3⟩,
    ⟨fun b o h _ hb _ => by rw [upd_ne hb]; exact h, et⟩⟩
theorem DraftAt.putA (d : DraftAt C H p fr path sibs st) {v : V} {a : Int} (hv : Dn H v (.int a)) (q : Int) (hz : st.addrs.length < 100000) :
    ∃ o, DPut H fr.aa (.int q) v (upd H fr.aa o) ∧ DraftAt C (upd H fr.aa o) p fr path sibs ⟨st.recs, aput st.addrs q a, st.fresh⟩ ∧ Chg p fr H (upd H fr.aa o) := by
  obtain ⟨o, h1, h2, ⟨kv, rfl⟩, kv0, h0⟩ := d.adr.put (x := a) hv q hz
  obtain ⟨dx, ho⟩ := d.ob
  have np : p ≠ fr.aa := ne_of ho h0 (by intro z; cases z)
  obtain ⟨xs, hx, _⟩ := id d.pth
  have npa : fr.pa ≠ fr.aa := ne_of hx h0 (by intro z; cases z)
  have et : ExT H (upd H fr.aa (.dK kv)) := ExT.put fun xs z => by rw [h0] at z; cases z
  exact ⟨_, h1, ⟨⟨dx, by rw [upd_ne np]; exact ho⟩, d.pth.keep et fun o h => by rw [upd_ne npa]; exact h, d.sib.keep et fun o h => by rw [upd_ne d.ne3]; exact h, d.rcs.keep et fun o h => by rw [upd_ne d.ne1]; exact h, h2, d.ne1, d.ne2, d.ne3⟩,
    ⟨fun b o h _ _ hb => by rw [upd_ne hb]; exact h, et⟩⟩
theorem DraftAt.setF (d : DraftAt C H p fr path sibs st) {dx : Addr} (ho : H p = some (.ins C dx (dflds fr (-(st.fresh : Int))))) (n : Nat) :
    DraftAt C (upd H p (.ins C dx (dflds fr (-(n : Int))))) p fr path sibs ⟨st.recs, st.addrs, n⟩ ∧ Chg p fr H (upd H p (.ins C dx (dflds fr (-(n : Int))))) := by
  have et : ExT H (upd H p (.ins C dx (dflds fr (-(n : Int))))) := ExT.put fun xs z => by rw [ho] at z; cases z
  obtain ⟨xs, hx, _⟩ := id d.pth
  obtain ⟨k1, h1⟩ := d.sib.is
  obtain ⟨k2, h2⟩ := d.rcs.is
  obtain ⟨k3, h3⟩ := d.adr.is
  have n0 : fr.pa ≠ p := ne_of hx ho (by intro z; cases z)
  have n1 : fr.sa ≠ p := ne_of h1 ho (by intro z; cases z)
  have n2 : fr.ra ≠ p := ne_of h2 ho (by intro z; cases z)
  have n3 : fr.aa ≠ p := ne_of h3 ho (by intro z; cases z)
  exact ⟨⟨⟨dx, upd_same⟩, d.pth.keep et fun o h => by rw [upd_ne n0]; exact h, d.sib.keep et fun o h => by rw [upd_ne n1]; exact h, d.rcs.keep et fun o h => by rw [upd_ne n2]; exact h, d.adr.keep et fun o h => by rw [upd_ne n3]; exact h, d.ne1, d.ne2, d.ne3⟩,
    ⟨fun b o h hb _ _ => by rw [upd_ne hb]; exact h, et⟩⟩
end
def spInit (C : Addr) : Sp := fun vs H Q _ => ∃ (p dx pa sa : Addr), vs = [.ref p, .ref pa, .ref sa] ∧ H p = some (.ins C dx []) ∧ ∀ (ra aa : Addr) (H' : Hp), H ra = none → H aa = none → ra ≠ aa → H' p = some (.ins C dx (dflds ⟨pa, sa, ra, aa⟩ 0)) → H' ra = some (.dK []) → H' aa = some (.dK []) →
  (∀ b o, H b = some o → b ≠ p → H' b = some o) → Q .non H'
def spGive (C : Addr) : Sp := fun vs H Q _ => ∃ (p : Addr) (fr : Fr) (path : List Step) (sibs : List (Int × Step)) (st : Dr) (s : Step) (r : Rec) (sv rv : V), vs = [.ref p, sv, rv] ∧ DraftAt C H p fr path sibs st ∧ Dn H sv s.d ∧ Dn H rv r.d ∧ st.recs.length ≤ 9000 ∧ st.addrs.length ≤ 9000 ∧
  ∀ H', Chg p fr H H' → DraftAt C H' p fr path sibs (st.give s r) → Q .non H'
def spAdd (C : Addr) : Sp := fun vs H Q _ => ∃ (p : Addr) (fr : Fr) (path : List Step) (sibs : List (Int × Step)) (st : Dr) (r : Rec) (rv : V), vs = [.ref p, rv] ∧ DraftAt C H p fr path sibs st ∧ Dn H rv r.d ∧ st.recs.length ≤ 9000 ∧
  ∀ H', Chg p fr H H' → DraftAt C H' p fr path sibs (st.add r) → Q (.int (-((st.fresh : Int) + 1))) H'
def spPlace (C : Addr) : Sp := fun vs H Q _ => ∃ (p : Addr) (fr : Fr) (path : List Step) (sibs : List (Int × Step)) (st : Dr) (s par : Step) (i pl : Nat) (lv : Int) (lo hi : Option Int) (ks ps : List Int), vs = [.ref p, .int ((i : Int) + 1)] ∧ DraftAt C H p fr path sibs st ∧ path[i + 1]? = some s ∧ path[i]? = some par ∧
  par.rcd = .inner lv lo hi ks ps ∧ PlaceIs lo hi ks ps s pl ∧ ∀ H', Ex H H' → Q (.int pl) H'
def Res.d : Res → PyData
  | .done _ => .tuple [.str "done", .none]
  | .up _ r => .tuple [.str "up", r.d]
  | .read q => .tuple [.str "read", .int q]
def Res.st (st : Dr) : Res → Dr
  | .done st' => st'
  | .up st' _ => st'
  | .read _ => st
/-- settle, divide, unite -/
def spSettle (C : Addr) (cond : Nat → Rec → Prop) : Sp := fun vs H Q _ => ∃ (p : Addr) (fr : Fr) (path : List Step) (sibs : List (Int × Step)) (st : Dr) (i : Nat) (r : Rec) (res : Res) (rv : V), vs = [.ref p, .int (i : Int), rv] ∧ DraftAt C H p fr path sibs st ∧ Dn H rv r.d ∧ st.recs.length ≤ 5000 ∧ st.addrs.length ≤ 5000 ∧
  Settle path sibs st i r res ∧ cond i r ∧ ∀ v H', Chg p fr H H' → DraftAt C H' p fr path sibs (res.st st) → Dn H' v res.d → Q v H'
def spPair (C : Addr) : Sp := fun vs H Q _ => ∃ (p : Addr) (fr : Fr) (path : List Step) (sibs : List (Int × Step)) (st : Dr) (i m : Nat) (sl sr : Step) (rl rr : Rec) (res : Res) (lv rv : V), vs = [.ref p, .int ((i : Int) + 1), .int ((m : Int) + 1), lv, rv] ∧ DraftAt C H p fr path sibs st ∧ Dn H lv (.tuple [sl.d, rl.d]) ∧ Dn H rv (.tuple [sr.d, rr.d]) ∧
  st.recs.length ≤ 6000 ∧ st.addrs.length ≤ 6000 ∧ Pair path st i m sl rl sr rr res ∧ ∀ v H', Chg p fr H H' → DraftAt C H' p fr path sibs (res.st st) → Dn H' v res.d → Q v H'
def spEntries (C : Addr) : Sp := fun vs H Q _ => ∃ (p : Addr) (fr : Fr) (path : List Step) (sibs : List (Int × Step)) (st : Dr), vs = [.ref p] ∧ DraftAt C H p fr path sibs st ∧ st.recs.length ≤ 9000 ∧ st.fresh ≤ 9000 ∧ (∀ i : Nat, i < st.fresh → (alook st.recs (-1 - (i : Int))).isSome = true) ∧
  ∀ E e H', Ex H H' → H e = none → LsAt H' e (E.map Entry.d) → EntriesOf st E → Q (.ref e) H'
section
variable {K : PySem.W.Frag} {mg : Str → Option Value} {C p : Addr} {H : Hp} {fr : Fr} {path : List Step} {sibs : List (Int × Step)} {st : Dr} {σ : L2.St} {Q : VK}
/-- self.m(..) with data arguments -/
theorem cs_meth {m : Str} {sp : Sp} {ta : TA} {ds : List PyData} (d : DraftAt C H p fr path sibs st) (h0 : σ[0]? = some (some (.ref p))) (hm : [("path" : Str), "siblings", "records", "addresses", "fresh"].all (fun x => !(m == x)) = true) (h : EVA σ H ta ds) (k : ∀ vs H1, Ex H H1 → DnAll H1 vs ds → sp (.ref p :: (vs ++ [])) H1 Q E0) : tMeth C m sp [] E0 (tVar 0) ta σ H Q := by
  obtain ⟨dx, ho⟩ := d.ob
  exact ⟨_, h0, p, dx, _, rfl, ho, lk_other _ _ hm, h H (Ex.refl H) _ fun vs H1 e1 d1 => k vs H1 e1 d1⟩
end

theorem pe_fldK {X : Cx} {K : PySem.W.Frag} {e : Expr} {f : Str} {pos : Pos} {ta : TE} (he : PE X e ta) (hb : attributeBase e f X.env (eval e X.env) = eval e X.env) (hK : X.K = K := by rfl) : PE X (.Attribute e f pos) (tFld K ta f) := hK ▸ pe_fld he hb
theorem ix_tupK {X : Cx} {K : PySem.W.Frag} (hK : X.K = K := by rfl) : IxR X (rIxT K) := hK ▸ ix_tup
theorem ix_listK {X : Cx} {K : PySem.W.Frag} (hK : X.K = K := by rfl) : IxR X (rIxL K) := hK ▸ ix_list
theorem most_le2 (r : Rec) : 4 ≤ r.most := by unfold Rec.most; split <;> omega
end Esp
set_option Elab.async false
set_option linter.all false
set_option maxRecDepth 100000
set_option maxHeartbeats 4000000
namespace Esp
open PySem PySem.Spec PyProof.Rows L2
section
variable {P : Program} {w : World} {K : PySem.W.Frag} {mg : Str → Option Value} {base : Heap} {C : Addr}
abbrev FnM (K : PySem.W.Frag) (x qual : Str) (st : Stmt) (f : Addr) (fd : FuncData) : Prop := FnP K x qual st f fd
abbrev N_Draft_init : List Str := ["self", "path", "siblings"]
theorem sc_Draft_init : FnScope N_Draft_init ["self", "path", "siblings"] (defScope s_Draft_init) := ⟨rfl, rfl, rfl, by decide +kernel, rfl, by decide +kernel, by decide +kernel⟩
theorem ok_Draft_init {f : Addr} {fd : FuncData} (F : FnM K "__init__" "Draft.__init__" s_Draft_init f fd) (Tc : TC K mg C) : FnOk P w K mg base CX0 1 f fd ["self", "path", "siblings"] (spInit C) := by
  refine F.ok sc_Draft_init (fun vs H Q E h => ?_) (fun cdv A outer s H vs Q E hr h => ?_)
  · obtain ⟨p, dx, pa, sa, rfl, _⟩ := h
    rfl
  obtain ⟨p, dx, pa, sa, rfl, ho, k⟩ := h
  have nd := sc_Draft_init.nd
  have hu := hu_of hr
  refine ⟨_, PSs.nox (pss_cons (ps_fld (pv 0) (pv 1) rfl)
    (pss_cons (ps_fld (pv 0) (pv 2) rfl)
    (pss_cons (ps_fld (pv 0) pe_dnewK rfl)
    (pss_cons (ps_fld (pv 0) pe_dnewK rfl)
    (pss_one (ps_fld (pv 0) pe_int rfl)))))), ?_⟩
  refine ⟨_, rfl, _, rfl, p, C, dx, [], rfl, ho, Tc.cl, Tc.nP, (by show 0 < 1000; decide), ?_⟩
  refine ⟨_, rfl, _, rfl, p, C, dx, _, rfl, upd_same, Tc.cl, Tc.nS, (by show 1 < 1000; decide), ?_⟩
  intro ra hra
  have npa : ra ≠ p := (ne_of_none upd_same hra).symm
  refine ⟨_, rfl, p, C, dx, _, rfl, by rw [upd_ne npa.symm, upd_same], Tc.cl, Tc.nR, (by show 2 < 1000; decide), ?_⟩
  intro aa haa
  have npa2 : aa ≠ p := (ne_of_none upd_same haa).symm
  have nra : aa ≠ ra := fun e => by
    rw [e, upd_ne npa, upd_same] at haa
    cases haa
  refine ⟨_, rfl, p, C, dx, _, rfl, by rw [upd_ne npa2.symm, upd_same], Tc.cl, Tc.nA, (by show 3 < 1000; decide), ?_⟩
  refine ⟨_, rfl, p, C, dx, _, rfl, upd_same, Tc.cl, Tc.nF, (by show 4 < 1000; decide), ?_⟩
  rw [upd_upd] at hra
  rw [upd_upd] at haa
  refine k ra aa _ (by rw [upd_ne npa] at hra; exact hra) (by rw [upd_ne npa2, upd_ne nra, upd_ne npa2] at haa; exact haa) nra.symm ?_ ?_ ?_ ?_
  · rw [upd_same]
    exact congrArg (fun l => some (HO.ins C dx l)) (flds_made ⟨pa, sa, ra, aa⟩)
  · rw [upd_ne npa, upd_ne npa, upd_ne nra.symm, upd_ne npa, upd_same]
  · rw [upd_ne npa2, upd_ne npa2, upd_same]
  · intro b o hb hbp
    have hbr : b ≠ ra := fun e => by rw [e] at hb; rw [upd_ne npa] at hra; rw [hra] at hb; cases hb
    have hba : b ≠ aa := fun e => by rw [e] at hb; rw [upd_ne npa2, upd_ne nra, upd_ne npa2] at haa; rw [haa] at hb; cases hb
    rw [upd_ne hbp, upd_ne hbp, upd_ne hba, upd_ne hbp, upd_ne hbr, upd_ne hbp, upd_ne hbp]
    exact hb
abbrev N_Draft_give : List Str := ["self", "step", "record"]
theorem sc_Draft_give : FnScope N_Draft_give ["self", "step", "record"] (defScope s_Draft_give) := ⟨rfl, rfl, rfl, by decide +kernel, rfl, by decide +kernel, by decide +kernel⟩
theorem ok_Draft_give {f : Addr} {fd : FuncData} (F : FnM K "give" "Draft.give" s_Draft_give f fd) (Tc : TC K mg C) : FnOk P w K mg base CX0 1 f fd ["self", "step", "record"] (spGive C) := by
  refine F.ok sc_Draft_give (fun vs H Q E h => ?_) (fun cdv A outer s H vs Q E hr h => ?_)
  · obtain ⟨p, fr, path, sibs, st, s, r, sv, rv, rfl, _⟩ := h
    rfl
  obtain ⟨p, fr, path, sibs, st, s, r, sv, rv, rfl, d, hs, hrv, z1, z2, k⟩ := h
  have nd := sc_Draft_give.nd
  have hu := hu_of hr
  refine ⟨_, PSs.nox (pss_cons (ps_dput hu (pe_fld (pv 0) rfl) (pe_ix ix_tup (pv 1) pe_int (fun _ _ => rfl)) (pv 2) rfl)
    (pss_one (ps_dput hu (pe_fld (pv 0) rfl) (pe_ix ix_tup (pv 1) pe_int (fun _ _ => rfl)) (pe_ix ix_tup (pv 1) pe_int (fun _ _ => rfl)) rfl))), ?_⟩
  have ok : EnvOk H [some (.ref p), some sv, some rv] [none, some s.d, some r.d] := ((envOk_nil.cons hrv).cons hs).consN
  obtain ⟨dx, ho⟩ := d.ob
  refine ⟨rv, rfl, _, rfl, p, C, dx, _, _, rfl, ho, Tc.cl, Tc.nR, lk_records _ _, ev_ee (ee_op (ee_var (i := 1) rfl) ee_int (rd_ix rfl)) ok H (Ex.refl H) _ fun y H1 e1 d1 => ?_⟩
  cases d1
  obtain ⟨o, hput, d2, c2⟩ := (d.x e1).putR (hrv.x e1) s.page (by omega)
  refine ⟨fr.ra, _, rfl, hput, ?_⟩
  have ok2 := (ok.x e1).t c2.tup
  refine ev_ee (ee_op (ee_var (i := 1) rfl) ee_int (rd_ix rfl)) ok2 _ (Ex.refl _) _ fun av H2 e2 da => ?_
  have d3 := d2.x e2
  obtain ⟨dx3, ho3⟩ := d3.ob
  refine ⟨_, rfl, p, C, dx3, _, _, rfl, ho3, Tc.cl, Tc.nA, lk_addresses _ _, ev_ee (ee_op (ee_var (i := 1) rfl) ee_int (rd_ix rfl)) (ok2.x e2) _ (Ex.refl _) _ fun y H3 e3 dy => ?_⟩
  cases dy
  obtain ⟨o4, hput4, d4, c4⟩ := (d3.x e3).putA (da.x e3) s.page (by show st.addrs.length < 100000; omega)
  refine ⟨fr.aa, _, rfl, hput4, ?_⟩
  exact k _ ((((Chg.of e1).trans c2).trans (Chg.of e2)).trans ((Chg.of e3).trans c4)) d4
abbrev N_Draft_add_page : List Str := ["self", "record"]
theorem sc_Draft_add_page : FnScope N_Draft_add_page ["self", "record"] (defScope s_Draft_add_page) := ⟨rfl, rfl, rfl, by decide +kernel, rfl, by decide +kernel, by decide +kernel⟩
theorem ok_Draft_add_page {f : Addr} {fd : FuncData} (F : FnM K "add_page" "Draft.add_page" s_Draft_add_page f fd) (Tc : TC K mg C) : FnOk P w K mg base CX0 1 f fd ["self", "record"] (spAdd C) := by
  refine F.ok sc_Draft_add_page (fun vs H Q E h => ?_) (fun cdv A outer s H vs Q E hr h => ?_)
  · obtain ⟨p, fr, path, sibs, st, r, rv, rfl, _⟩ := h
    rfl
  obtain ⟨p, fr, path, sibs, st, r, rv, rfl, d, hrv, z1, k⟩ := h
  have nd := sc_Draft_add_page.nd
  have hu := hu_of hr
  refine ⟨_, PSs.nox (pss_cons (ps_fldaug (pv 0) pe_int in_sub)
    (pss_cons (ps_dput hu (pe_fld (pv 0) rfl) (pe_fld (pv 0) rfl) (pv 1) rfl)
    (pss_one (ps_ret (pe_fld (pv 0) rfl))))), ?_⟩
  obtain ⟨dx, ho⟩ := d.ob
  refine ⟨_, rfl, p, C, dx, _, _, rfl, ho, Tc.cl, Tc.nF, lk_fresh _ _, _, _, rfl, rfl, dx, _, ho, (by show 5 < 1000; decide), ?_⟩
  rw [putF_fresh]
  have ez : -(st.fresh : Int) - 1 = -((st.fresh + 1 : Nat) : Int) := by omega
  obtain ⟨d1, c1⟩ := d.setF ho (st.fresh + 1)
  rw [ez]
  have ho1 := upd_same (H := H) (a := p) (o := .ins C dx (dflds fr (-((st.fresh + 1 : Nat) : Int))))
  refine ⟨rv, rfl, _, rfl, p, C, dx, _, _, rfl, ho1, Tc.cl, Tc.nR, lk_records _ _, _, rfl, p, C, dx, _, _, rfl, ho1, Tc.cl, Tc.nF, lk_fresh _ _, ?_⟩
  obtain ⟨o, hput, d2, c2⟩ := d1.putR (hrv.t c1.tup) (-((st.fresh + 1 : Nat) : Int)) (by show st.recs.length < 100000; omega)
  refine ⟨fr.ra, _, rfl, hput, ?_⟩
  obtain ⟨dx2, ho2⟩ := d2.ob
  refine ⟨_, rfl, p, C, dx2, _, _, rfl, ho2, Tc.cl, Tc.nF, lk_fresh _ _, ?_⟩
  have e2 : -((st.fresh + 1 : Nat) : Int) = -((st.fresh : Int) + 1) := by omega
  show Q (.int (-((st.fresh + 1 : Nat) : Int))) _
  rw [e2] at d2 c2 ⊢
  exact k _ (c1.trans c2) d2
end
end Esp
set_option Elab.async false
set_option linter.all false
set_option maxRecDepth 100000
set_option maxHeartbeats 4000000
namespace Esp
open PySem PySem.Spec PyProof.Rows L2
theorem range_find {α : Type} {f : Nat → Option α} {n pl : Nat} {d : α} (h : pl < n) (h0 : ∀ j, j < pl → f j = none) (h1 : f pl = some d) : (List.range n).findSome? f = some d := by
  rw [List.findSome?_eq_some_iff]
  refine ⟨List.range pl, pl, (List.range' (pl + 1) (n - pl - 1)), ?_, h1, fun a ha => h0 a (List.mem_range.mp ha)⟩
  rw [List.range_eq_range', List.range_eq_range']
  have : n = pl + (1 + (n - pl - 1)) := by omega
  rw [show List.range' 0 n = List.range' 0 (pl + (1 + (n - pl - 1))) by rw [← this], ← List.range'_append_1, ← List.range'_append_1]
  simp
def condD : Nat → Rec → Prop := fun _ r => r.most < r.size
def condU : Nat → Rec → Prop := fun i r => r.size < 2 ∧ 1 ≤ i
section
variable {K : PySem.W.Frag} {mg : Str → Option Value} {C p : Addr} {H : Hp} {fr : Fr} {path : List Step} {sibs : List (Int × Step)} {st : Dr} {σ : L2.St} {D : Ends} {rest : TS} {te : TE} {x y z u : PyData} {i j l m : Nat}
theorem cs_unp2 (h : EV σ H te (.tuple [x, y])) (k : ∀ a b H1, Ex H H1 → Dn H1 a x → Dn H1 b y → rest D ((σ.set i (some a)).set j (some b)) H1) : tSeq (tAsg te (gTup K 2 (gCons (gName i) (gCons (gName j) gNil)))) rest D σ H := h H (Ex.refl H) _ fun v H1 e1 d1 => by
  cases d1 with
  | tup h1 h2 =>
    cases h2 with
    | cons d1 h2 =>
      cases h2 with
      | cons d2 h2 =>
        cases h2
        exact ⟨_, _, rfl, SqT.of h1, rfl, _, _, rfl, _, _, rfl, rfl, k _ _ _ e1 d1 d2⟩
theorem cs_unp3 (h : EV σ H te (.tuple [x, y, z])) (k : ∀ a b c H1, Ex H H1 → Dn H1 a x → Dn H1 b y → Dn H1 c z → rest D (((σ.set i (some a)).set j (some b)).set l (some c)) H1) : tSeq (tAsg te (gTup K 3 (gCons (gName i) (gCons (gName j) (gCons (gName l) gNil))))) rest D σ H := h H (Ex.refl H) _ fun v H1 e1 d1 => by
  cases d1 with
  | tup h1 h2 =>
    cases h2 with
    | cons d1 h2 =>
      cases h2 with
      | cons d2 h2 =>
        cases h2 with
        | cons d3 h2 =>
          cases h2
          exact ⟨_, _, rfl, SqT.of h1, rfl, _, _, rfl, _, _, rfl, _, _, rfl, rfl, k _ _ _ _ e1 d1 d2 d3⟩
theorem cs_unp4 (h : EV σ H te (.tuple [x, y, z, u])) (k : ∀ a b c d H1, Ex H H1 → Dn H1 a x → Dn H1 b y → Dn H1 c z → Dn H1 d u → rest D ((((σ.set i (some a)).set j (some b)).set l (some c)).set m (some d)) H1) : tSeq (tAsg te (gTup K 4 (gCons (gName i) (gCons (gName j) (gCons (gName l) (gCons (gName m) gNil)))))) rest D σ H := h H (Ex.refl H) _ fun v H1 e1 d1 => by
  cases d1 with
  | tup h1 h2 =>
    cases h2 with
    | cons d1 h2 =>
      cases h2 with
      | cons d2 h2 =>
        cases h2 with
        | cons d3 h2 =>
          cases h2 with
          | cons d4 h2 =>
            cases h2
            exact ⟨_, _, rfl, SqT.of h1, rfl, _, _, rfl, _, _, rfl, _, _, rfl, _, _, rfl, rfl, k _ _ _ _ _ e1 d1 d2 d3 d4⟩
/-- self.give(step, record) -/
theorem ev_give {targs : TA} {s : Step} {r : Rec} {Q : VK} (d : DraftAt C H p fr path sibs st) (h0 : σ[0]? = some (some (.ref p))) (h : EVA σ H targs [s.d, r.d]) (z1 : st.recs.length ≤ 9000) (z2 : st.addrs.length ≤ 9000) (k : ∀ H', Chg p fr H H' → DraftAt C H' p fr path sibs (st.give s r) → Q .non H') :
    tMeth C "give" (spGive C) [] E0 (tVar 0) targs σ H Q := by
  refine cs_meth d h0 (by decide +kernel) h fun vs H1 e1 d1 => ?_
  cases d1 with
  | cons a1 d1 =>
    cases d1 with
    | cons a2 d1 =>
      cases d1
      exact ⟨p, fr, path, sibs, st, s, r, _, _, rfl, d.x e1, a1, a2, z1, z2, fun H' c d' => k H' ((Chg.of e1).trans c) d'⟩
theorem cs_give {targs : TA} {s : Step} {r : Rec} (d : DraftAt C H p fr path sibs st) (h0 : σ[0]? = some (some (.ref p))) (h : EVA σ H targs [s.d, r.d]) (z1 : st.recs.length ≤ 9000) (z2 : st.addrs.length ≤ 9000) (k : ∀ H', Chg p fr H H' → DraftAt C H' p fr path sibs (st.give s r) → rest D σ H') :
    tSeq (tDrop (tMeth C "give" (spGive C) [] E0 (tVar 0) targs)) rest D σ H := ev_give d h0 h z1 z2 k
theorem ev_add {targs : TA} {r : Rec} {Q : VK} (d : DraftAt C H p fr path sibs st) (h0 : σ[0]? = some (some (.ref p))) (h : EVA σ H targs [r.d]) (z1 : st.recs.length ≤ 9000) (k : ∀ H', Chg p fr H H' → DraftAt C H' p fr path sibs (st.add r) → Q (.int (-((st.fresh : Int) + 1))) H') :
    tMeth C "add_page" (spAdd C) [] E0 (tVar 0) targs σ H Q := by
  refine cs_meth d h0 (by decide +kernel) h fun vs H1 e1 d1 => ?_
  cases d1 with
  | cons a1 d1 =>
    cases d1
    exact ⟨p, fr, path, sibs, st, r, _, rfl, d.x e1, a1, z1, fun H' c d' => k H' ((Chg.of e1).trans c) d'⟩
theorem ev_place {targs : TA} {q : Int} {n pl : Nat} {s par : Step} {lv : Int} {lo hi : Option Int} {ks ps : List Int} {Q : VK} (d : DraftAt C H p fr path sibs st) (h0 : σ[0]? = some (some (.ref p))) (h : EVA σ H targs [.int q]) (eq : q = (n : Int) + 1) (hp : path[n + 1]? = some s) (hq : path[n]? = some par) (hr : par.rcd = .inner lv lo hi ks ps) (hpl : PlaceIs lo hi ks ps s pl)
    (k : ∀ H', Ex H H' → Q (.int pl) H') : tMeth C "place_in_parent" (spPlace C) [] E0 (tVar 0) targs σ H Q := by
  refine cs_meth d h0 (by decide +kernel) h fun vs H1 e1 d1 => ?_
  cases d1 with
  | cons a1 d1 =>
    cases d1
    cases a1
    subst eq
    exact ⟨p, fr, path, sibs, st, s, par, n, pl, lv, lo, hi, ks, ps, rfl, d.x e1, hp, hq, hr, hpl, fun H' e => k H' (e1.trans e)⟩
theorem give_len (st : Dr) (s : Step) (r : Rec) : (st.give s r).recs.length ≤ st.recs.length + 1 ∧ (st.give s r).addrs.length ≤ st.addrs.length + 1 := ⟨aput_len _ _ _, aput_len _ _ _⟩
theorem add_len (st : Dr) (r : Rec) : (st.add r).recs.length ≤ st.recs.length + 1 ∧ (st.add r).addrs.length = st.addrs.length := ⟨aput_len _ _ _, rfl⟩
end
section
variable {P : Program} {w : World} {K : PySem.W.Frag} {mg : Str → Option Value} {base : Heap} {C : Addr}
abbrev N_Draft_place_in_parent : List Str := ["self", "index", "parent", "place", "page", "_", "record"]
theorem sc_Draft_place_in_parent : FnScope N_Draft_place_in_parent ["self", "index"] (defScope s_Draft_place_in_parent) := ⟨rfl, rfl, rfl, by decide +kernel, rfl, by decide +kernel, by decide +kernel⟩
theorem ok_Draft_place_in_parent {f : Addr} {fd : FuncData} (F : FnM K "place_in_parent" "Draft.place_in_parent" s_Draft_place_in_parent f fd) (T : Bu mg) (Tc : TC K mg C) (c_size_of : Cal P w K mg base 1 "size_of" ["record"] (spF R_size_of)) (c_child_bounds : Cal P w K mg base 1 "child_bounds" ["record", "index"] (spF R_child_bounds))
    (c_bounds_of : Cal P w K mg base 1 "bounds_of" ["record"] (spF R_bounds_of)) : FnOk P w K mg base CX0 2 f fd ["self", "index"] (spPlace C) := by
  refine F.ok sc_Draft_place_in_parent (fun vs H Q E h => ?_) (fun cdv A outer s H vs Q E hr h => ?_)
  · obtain ⟨p, fr, path, sibs, st, s, par, i, pl, lv, lo, hi, ks, ps, rfl, _⟩ := h
    rfl
  obtain ⟨p, fr, path, sibs, st, s, par, i, pl, lv, lo, hi, ks, ps, rfl, d, hp, hq, hpr, hpl, k⟩ := h
  have nd := sc_Draft_place_in_parent.nd
  have hu := hu_of hr
  refine ⟨_, PSs.nox (pss_cons (ps_set (i := 2) nd rfl (Or.inl rfl) (pe_ix ix_tup (pe_ix ix_list (pe_fld (pv 0) rfl) (pe_op op_sub (pv 1) pe_int) (fun _ _ => rfl)) pe_int (fun _ _ => rfl)))
    (pss_cons (ps_asg (pe_ix ix_list (pe_fld (pv 0) rfl) (pv 1) (fun _ _ => rfl)) (pg_tup rfl (pgs_cons (pg_name (i := 4) nd rfl (Or.inl rfl)) (pgs_cons (pg_name (i := 5) nd rfl (Or.inl rfl)) (pgs_cons (pg_name (i := 6) nd rfl (Or.inl rfl)) (pgs_cons (pg_name (i := 5) nd rfl (Or.inl rfl)) pgs_nil))))))
    (pss_cons (ps_for PassesOwn.never rfl (pi_range1 (by rfl) T.range (pa_cons (pe_cl c_size_of hr (by decide) (by rfl) (pa_cons (pv 2) pa_nil)) pa_nil)) (pg_name (i := 3) nd rfl (Or.inl rfl))
    (pss_one (ps_if (PW.pt (pw_and (pt_cmpR op_eq (pe_ix ix_tup (pe_ix ix_tup (pv 2) pe_int (fun _ _ => rfl)) (pv 3) (fun _ _ => rfl)) (pv 4) (nomark _)) (pw_and1 (pt_cmpR (op_eqD hr.units) (pe_cl c_child_bounds hr (by decide) (by rfl) (pa_cons (pv 2) (pa_cons (pv 3) pa_nil))) (pe_cl c_bounds_of hr (by decide) (by rfl) (pa_cons (pv 6) pa_nil)) (nomark _))))) (pss_one (ps_ret (pv 3))) pss_nil)))
    (pss_one (ps_ret pe_non))))), ?_⟩
  refine cs_set (ev_rcd (ev_path Tc d rfl (ev_op (ev_var rfl (.int _)) ev_int rd_I) (i := i) (by omega) hq)) fun pv H1 e1 dp => ?_
  refine cs_unp4 (ev_path Tc (d.x e1) rfl (ev_var rfl (.int _)) (i := i + 1) (by omega) hp) fun a b c d4 H2 e2 d1 d2 d3 d5 => ?_
  have ok : EnvOk H2 [some (.ref p), some (.int ((i : Int) + 1)), some pv, none, some a, some d4, some c] [none, some (.int ((i : Int) + 1)), some par.rcd.d, none, some (.int s.page), some (.int s.acc), some s.rcd.d] :=
    ((((((envOk_nil.cons d3).cons d5).cons d1).consN).cons (dp.x e2)).cons (.int _)).consN
  rw [hpr] at ok
  have hlt : pl < ps.length := (List.getElem?_eq_some_iff.mp hpl.at_).1
  have hz := hpl.small
  have hlen := hpl.len
  have hrl : (Rec.inner lv lo hi ks ps).live = true := rfl
  refine (show SO _ [none, some (.int ((i : Int) + 1)), some (Rec.inner lv lo hi ks ps).d, none, some (.int s.page), some (.int s.acc), some s.rcd.d] (.rt (.int pl)) from ?_) _ H2 _ ok fun v H3 e3 dv => ?_
  · refine so_seqR (so_for (n := ps.length) (f := fun j => if j < pl then none else some (.int (j : Int))) (ti_rng1 (ea_cons (ee_call (ea_cons (ee_var rfl) ea_nil) (r_size_of hrl)) ea_nil) (by omega)) (fun j hj hbef => ?_) ?_)
    · have hjp : j ≤ pl := by
        by_cases h : pl < j
        · have := hbef pl h
          rw [if_neg (Nat.lt_irrefl _)] at this
          cases this
        · omega
      have e0 : (0 : Int) + (j : Int) = (j : Int) := by omega
      have hx : ps[j]? = some ps[j] := List.getElem?_eq_getElem hj
      by_cases hjl : j < pl
      · rw [if_pos hjl]
        have hne : ps[j] ≠ s.page := fun z => hpl.first j hjl (by rw [hx, z])
        refine so_weak (so_ifF (et_andF (et_test (ee_op (ee_ixI (ee_op (ee_var rfl) ee_int (rd_ix rfl)) (ee_var rfl) e0 hx) (ee_var rfl) rd_eqI)) (decide_eq_false hne)) so_next) ?_
        exact EnvLe.drop (EnvLe.cons (EnvLe.cons (EnvLe.drop (EnvLe.cons (EnvLe.cons (EnvLe.cons EnvLe.nil))))))
      · rw [if_neg hjl]
        obtain rfl : j = pl := by omega
        have hpg : ps[j] = s.page := by
          have := hpl.at_
          rw [hx] at this
          exact Option.some.inj this
        refine so_ifT (et_is (et_and (et_test (ee_op (ee_ixI (ee_op (ee_var rfl) ee_int (rd_ix rfl)) (ee_var rfl) e0 hx) (ee_var rfl) rd_eqI)) fun _ => et_test (ee_op (ee_call (ea_cons (ee_var rfl) (ea_cons (ee_var rfl) ea_nil)) (r_child_bounds e0 (by omega))) (ee_call (ea_cons (ee_var rfl) ea_nil) (r_bounds_of hpl.live)) rd_eqT)) ?_) (so_ret (ee_is (ee_var rfl) (by rw [e0])))
        rw [decide_eq_true hpg, decide_eq_true ⟨hpl.lo_, hpl.hi_⟩]
        rfl
    · rw [range_find (f := fun j : Nat => if j < pl then none else some (PyData.int (j : Int))) (d := .int (pl : Int)) hlt (fun j hj => if_pos hj) (if_neg (Nat.lt_irrefl _))]
  · cases dv
    exact k _ ((e1.trans e2).trans e3)
abbrev N_Draft_unite_pair : List Str := ["self", "index", "place", "left", "right", "parent", "both", "first", "separator", "second"]
theorem sc_Draft_unite_pair : FnScope N_Draft_unite_pair ["self", "index", "place", "left", "right"] (defScope s_Draft_unite_pair) := ⟨rfl, rfl, rfl, by decide +kernel, rfl, by decide +kernel, by decide +kernel⟩
theorem ok_Draft_unite_pair {f : Addr} {fd : FuncData} (F : FnM K "unite_pair" "Draft.unite_pair" s_Draft_unite_pair f fd) (T : Bu mg) (Tc : TC K mg C) (c_joined : Cal P w K mg base 7 "joined" ["first", "separator", "second"] (spF R_joined)) (c_bounds_of : Cal P w K mg base 1 "bounds_of" ["record"] (spF R_bounds_of))
    (c_size_of : Cal P w K mg base 1 "size_of" ["record"] (spF R_size_of)) (c_most_of : Cal P w K mg base 2 "most_of" ["record"] (spF R_most_of)) (c_cut : Cal P w K mg base 7 "cut" ["record"] (spF R_cut)) (c_with_separator : Cal P w K mg base 7 "with_separator" ["record", "index", "separator"] (spF R_with_separator))
    (c_without_child : Cal P w K mg base 7 "without_child" ["record", "index"] (spF R_without_child)) (c_Draft_give : MCal P w K mg base C 1 "give" ["self", "step", "record"] (spGive C)) : FnOk P w K mg base CX0 8 f fd ["self", "index", "place", "left", "right"] (spPair C) := by
  refine F.ok sc_Draft_unite_pair (fun vs H Q E h => ?_) (fun cdv A outer s H vs Q E hr h => ?_)
  · obtain ⟨p, fr, path, sibs, st, i, m, sl, sr, rl, rr, res, lv, rv, rfl, _⟩ := h
    rfl
  obtain ⟨p, fr, path, sibs, st, i, m, sl, sr, rl, rr, res, lv, rv, rfl, d, hl, hrv, z1, z2, pr, k⟩ := h
  have nd := sc_Draft_unite_pair.nd
  have hu := hu_of hr
  refine ⟨_, PSs.nox (pss_cons (ps_set (i := 5) nd rfl (Or.inl rfl) (pe_ix ix_tup (pe_ix ix_list (pe_fld (pv 0) rfl) (pe_op op_sub (pv 1) pe_int) (fun _ _ => rfl)) pe_int (fun _ _ => rfl)))
    (pss_cons (ps_set (i := 6) nd rfl (Or.inl rfl) (pe_cl c_joined hr (by decide) (by rfl) (pa_cons (pe_ix ix_tup (pv 3) pe_int (fun _ _ => rfl)) (pa_cons (pe_ix ix_tup (pe_cl c_bounds_of hr (by decide) (by rfl) (pa_cons (pe_ix ix_tup (pv 4) pe_int (fun _ _ => rfl)) pa_nil)) pe_int (fun _ _ => rfl)) (pa_cons (pe_ix ix_tup (pv 4) pe_int (fun _ _ => rfl)) pa_nil)))))
    (pss_cons (ps_if (pt_cmpR op_gt (pe_cl c_size_of hr (by decide) (by rfl) (pa_cons (pv 6) pa_nil)) (pe_cl c_most_of hr (by decide) (by rfl) (pa_cons (pv 6) pa_nil)) (nomark _)) (pss_cons (ps_asg (pe_cl c_cut hr (by decide) (by rfl) (pa_cons (pv 6) pa_nil)) (pg_tup rfl (pgs_cons (pg_name (i := 7) nd rfl (Or.inl rfl)) (pgs_cons (pg_name (i := 8) nd rfl (Or.inl rfl)) (pgs_cons (pg_name (i := 9) nd rfl (Or.inl rfl)) pgs_nil)))))
    (pss_cons (ps_expr (pe_mt (pv 0) Tc.cl c_Draft_give hr (by decide) (pa_cons (pe_ix ix_tup (pv 3) pe_int (fun _ _ => rfl)) (pa_cons (pv 7) pa_nil))))
    (pss_cons (ps_expr (pe_mt (pv 0) Tc.cl c_Draft_give hr (by decide) (pa_cons (pe_ix ix_tup (pv 4) pe_int (fun _ _ => rfl)) (pa_cons (pv 9) pa_nil))))
    (pss_one (ps_ret (pe_tup (pa_cons pe_str (pa_cons (pe_cl c_with_separator hr (by decide) (by rfl) (pa_cons (pv 5) (pa_cons (pv 2) (pa_cons (pv 8) pa_nil)))) pa_nil)))))))) pss_nil)
    (pss_cons (ps_set (i := 5) nd rfl (Or.inl rfl) (pe_cl c_without_child hr (by decide) (by rfl) (pa_cons (pv 5) (pa_cons (pv 2) pa_nil))))
    (pss_cons (ps_expr (pe_mt (pv 0) Tc.cl c_Draft_give hr (by decide) (pa_cons (pe_ix ix_tup (pv 4) pe_int (fun _ _ => rfl)) (pa_cons (pe_tup (pa_cons pe_str (pa_cons (pe_ix ix_tup (pe_ix ix_tup (pv 4) pe_int (fun _ _ => rfl)) pe_int (fun _ _ => rfl)) pa_nil))) pa_nil))))
    (pss_cons (ps_if (PW.pt (pw_and (pt_cmpR op_eq (pv 1) pe_int (nomark _)) (pw_and1 (pt_cmpR op_eq (pe_cl c_size_of hr (by decide) (by rfl) (pa_cons (pv 5) pa_nil)) pe_int (nomark _))))) (pss_cons (ps_expr (pe_mt (pv 0) Tc.cl c_Draft_give hr (by decide) (pa_cons (pe_ix ix_tup (pv 3) pe_int (fun _ _ => rfl)) (pa_cons (pe_tup (pa_cons pe_str (pa_cons (pe_ix ix_tup (pe_ix ix_tup (pv 3) pe_int (fun _ _ => rfl)) pe_int (fun _ _ => rfl)) pa_nil))) pa_nil))))
    (pss_cons (ps_expr (pe_mt (pv 0) Tc.cl c_Draft_give hr (by decide) (pa_cons (pe_ix ix_list (pe_fld (pv 0) rfl) pe_int (fun _ _ => rfl)) (pa_cons (pv 6) pa_nil))))
    (pss_one (ps_ret (pe_tup (pa_cons pe_str (pa_cons pe_non pa_nil))))))) pss_nil)
    (pss_cons (ps_expr (pe_mt (pv 0) Tc.cl c_Draft_give hr (by decide) (pa_cons (pe_ix ix_tup (pv 3) pe_int (fun _ _ => rfl)) (pa_cons (pv 6) pa_nil))))
    (pss_one (ps_ret (pe_tup (pa_cons pe_str (pa_cons (pv 5) pa_nil)))))))))))), ?_⟩
  obtain ⟨g1, g2⟩ := give_len st sl (rl.join 0 rr)
  cases pr with
  | @cut _ _ _ _ par _ _ lv0 k0 lo hi ks ps hp hpr hz hrl hk hj ho hs hc hn =>
    refine cs_set (ev_rcd (ev_path Tc d rfl (ev_op (ev_var rfl (.int _)) ev_int rd_I) (i := i) (by omega) hp)) fun pv H1 e1 dp => ?_
    rw [hpr] at dp
    have ok : EnvOk H1 [some (.ref p), some (.int ((i : Int) + 1)), some (.int ((m : Int) + 1)), some lv, some rv, some pv, none, none, none, none] [none, some (.int ((i : Int) + 1)), some (.int ((m : Int) + 1)), some (.tuple [sl.d, rl.d]), some (.tuple [sr.d, rr.d]), some (Rec.inner lv0 lo hi ks ps).d, none, none, none, none] :=
      (((((((((envOk_nil.consN).consN).consN).consN).cons dp).cons (hrv.x e1)).cons (hl.x e1)).cons (.int _)).cons (.int _)).consN
    refine cs_set (ev_ee (ee_call (ea_cons (ee_op (ee_var rfl) ee_int (rd_ix rfl)) (ea_cons (ee_is (ee_op (ee_call (ea_cons (ee_op (ee_var rfl) ee_int (rd_ix rfl)) ea_nil) (r_bounds_of hrl)) ee_int (rd_ix rfl)) (by rw [hk]; rfl)) (ea_cons (ee_op (ee_var rfl) ee_int (rd_ix rfl)) ea_nil))) (r_joined hj ho)) ok) fun bv H2 e2 db => ?_
    have ok2 := (ok.x e2).set db 6
    have hbl : (rl.join k0 rr).live = true := hc.1
    refine cs_yes (evt_et (et_test (ee_op (ee_call (ea_cons (ee_var (i := 6) rfl) ea_nil) (r_size_of hbl)) (ee_call (ea_cons (ee_var (i := 6) rfl) ea_nil) r_most_of) rd_B)) ok2) (decide_eq_true (by omega)) fun H3 e3 => ?_
    refine cs_unp3 (ev_ee (ee_call (ea_cons (ee_var (i := 6) rfl) ea_nil) (r_cut hc)) (ok2.x e3)) fun fv sv gv H4 e4 d1 d2 d3 => ?_
    cases d2
    have ok3 := ((((ok2.x e3).x e4).set d1 7).set (Dn.int (H := H4) (rl.join k0 rr).cut.2.1) 8).set d3 9
    have dd := d.x (((e1.trans e2).trans e3).trans e4)
    refine cs_give (s := sl) (r := (rl.join k0 rr).cut.1) dd rfl (eva_cons (ev_ee (ee_op (ee_var (i := 3) rfl) ee_int (rd_ix rfl)) ok3) (eva_cons (ev_ee (ee_var (i := 7) rfl) ok3) eva_nil)) (by omega) (by omega) fun H5 c5 d5 => ?_
    obtain ⟨l1, l2⟩ := give_len st sl (rl.join k0 rr).cut.1
    have ok4 := ok3.t c5.tup
    refine cs_give (s := sr) (r := (rl.join k0 rr).cut.2.2) d5 rfl (eva_cons (ev_ee (ee_op (ee_var (i := 4) rfl) ee_int (rd_ix rfl)) ok4) (eva_cons (ev_ee (ee_var (i := 9) rfl) ok4) eva_nil)) (by omega) (by omega) fun H6 c6 d6 => ?_
    have ok5 := ok4.t c6.tup
    refine cs_ret (ev_tup (eva_cons ev_str (eva_cons (ev_ee (ee_call (ea_cons (ee_var (i := 5) rfl) (ea_cons (ee_var (i := 2) rfl) (ea_cons (ee_var (i := 8) rfl) ea_nil))) (r_with_separator (i := m) rfl (by omega) hn)) ok5) eva_nil))) fun v H7 e7 d7 => ?_
    exact k v H7 (((Chg.of (((e1.trans e2).trans e3).trans e4)).trans (c5.trans c6)).trans (Chg.of e7)) (d6.x e7) d7
  | @up _ _ _ _ par _ _ lv0 k0 lo hi ks ps hp hpr hz hz2 hrl hk hj ho hs hn hne =>
    refine cs_set (ev_rcd (ev_path Tc d rfl (ev_op (ev_var rfl (.int _)) ev_int rd_I) (i := i) (by omega) hp)) fun pv H1 e1 dp => ?_
    rw [hpr] at dp
    have ok : EnvOk H1 [some (.ref p), some (.int ((i : Int) + 1)), some (.int ((m : Int) + 1)), some lv, some rv, some pv, none, none, none, none] [none, some (.int ((i : Int) + 1)), some (.int ((m : Int) + 1)), some (.tuple [sl.d, rl.d]), some (.tuple [sr.d, rr.d]), some (Rec.inner lv0 lo hi ks ps).d, none, none, none, none] :=
      (((((((((envOk_nil.consN).consN).consN).consN).cons dp).cons (hrv.x e1)).cons (hl.x e1)).cons (.int _)).cons (.int _)).consN
    refine cs_set (ev_ee (ee_call (ea_cons (ee_op (ee_var rfl) ee_int (rd_ix rfl)) (ea_cons (ee_is (ee_op (ee_call (ea_cons (ee_op (ee_var rfl) ee_int (rd_ix rfl)) ea_nil) (r_bounds_of hrl)) ee_int (rd_ix rfl)) (by rw [hk]; rfl)) (ea_cons (ee_op (ee_var rfl) ee_int (rd_ix rfl)) ea_nil))) (r_joined hj ho)) ok) fun bv H2 e2 db => ?_
    have ok2 := (ok.x e2).set db 6
    have hbl : (rl.join k0 rr).live = true := by
      cases rl <;> cases rr <;> first | rfl | cases hj
    refine cs_no (evt_et (et_test (ee_op (ee_call (ea_cons (ee_var (i := 6) rfl) ea_nil) (r_size_of hbl)) (ee_call (ea_cons (ee_var (i := 6) rfl) ea_nil) r_most_of) rd_B)) ok2) (decide_eq_false (by omega)) fun H3 e3 => ?_
    refine cs_set (ev_ee (ee_call (ea_cons (ee_var (i := 5) rfl) (ea_cons (ee_var (i := 2) rfl) ea_nil)) (r_without_child (i := m) rfl (by omega) (by omega) hn)) (ok2.x e3)) fun nv H4 e4 dn => ?_
    have ok3 := ((ok2.x e3).x e4).set dn 5
    have dd := d.x (((e1.trans e2).trans e3).trans e4)
    refine cs_give (s := sr) (r := .free sr.page) dd rfl (eva_cons (ev_ee (ee_op (ee_var (i := 4) rfl) ee_int (rd_ix rfl)) ok3) (eva_cons (ev_ee (ee_tup (ea_cons ee_str (ea_cons (ee_op (ee_op (ee_var (i := 4) rfl) ee_int (rd_ix rfl)) ee_int (rd_ix rfl)) ea_nil))) ok3) eva_nil)) (by omega) (by omega) fun H5 c5 d5 => ?_
    obtain ⟨l1, l2⟩ := give_len st sr (.free sr.page)
    have ok4 := ok3.t c5.tup
    have hnl : (Rec.inner lv0 lo hi (delI ks m) (delI ps (m + 1))).live = true := rfl
    refine cs_no (evt_et (et_and (et_test (ee_op (ee_var (i := 1) rfl) ee_int rd_eqI)) fun _ => et_test (ee_op (ee_call (ea_cons (ee_var (i := 5) rfl) ea_nil) (r_size_of hnl)) ee_int rd_eqI)) ok4) ?_ fun H6 e6 => ?_
    · by_cases hi0 : i = 0
      · have h2 : ¬ (delI ps (m + 1)).length = 1 := fun z => hne ⟨hi0, z⟩
        have : ¬ (((Rec.inner lv0 lo hi (delI ks m) (delI ps (m + 1))).size : Nat) : Int) = 1 := fun z => h2 (by
          have : ((delI ps (m + 1)).length : Int) = 1 := z
          omega)
        rw [decide_eq_false this, Bool.and_false]
      · rw [decide_eq_false (by omega), Bool.false_and]
    have ok5 := ok4.x e6
    refine cs_give (s := sl) (r := rl.join k0 rr) (d5.x e6) rfl (eva_cons (ev_ee (ee_op (ee_var (i := 3) rfl) ee_int (rd_ix rfl)) ok5) (eva_cons (ev_ee (ee_var (i := 6) rfl) ok5) eva_nil)) (by omega) (by omega) fun H7 c7 d7 => ?_
    refine cs_ret (ev_tup (eva_cons ev_str (eva_cons (ev_ee (ee_var (i := 5) rfl) (ok5.t c7.tup)) eva_nil))) fun v H8 e8 d8 => ?_
    exact k v H8 ((((Chg.of (((e1.trans e2).trans e3).trans e4)).trans c5).trans ((Chg.of e6).trans c7)).trans (Chg.of e8)) (d7.x e8) d8
  | @root _ _ _ par _ _ lv0 k0 lo hi ks ps hp hpr hz hz2 hrl hk hj ho hs hn hne =>
    refine cs_set (ev_rcd (ev_path Tc d rfl (ev_op (ev_var rfl (.int _)) ev_int rd_I) (i := 0) rfl hp)) fun pv H1 e1 dp => ?_
    rw [hpr] at dp
    have ok : EnvOk H1 [some (.ref p), some (.int (((0 : Nat) : Int) + 1)), some (.int ((m : Int) + 1)), some lv, some rv, some pv, none, none, none, none] [none, some (.int (((0 : Nat) : Int) + 1)), some (.int ((m : Int) + 1)), some (.tuple [sl.d, rl.d]), some (.tuple [sr.d, rr.d]), some (Rec.inner lv0 lo hi ks ps).d, none, none, none, none] :=
      (((((((((envOk_nil.consN).consN).consN).consN).cons dp).cons (hrv.x e1)).cons (hl.x e1)).cons (.int _)).cons (.int _)).consN
    refine cs_set (ev_ee (ee_call (ea_cons (ee_op (ee_var rfl) ee_int (rd_ix rfl)) (ea_cons (ee_is (ee_op (ee_call (ea_cons (ee_op (ee_var rfl) ee_int (rd_ix rfl)) ea_nil) (r_bounds_of hrl)) ee_int (rd_ix rfl)) (by rw [hk]; rfl)) (ea_cons (ee_op (ee_var rfl) ee_int (rd_ix rfl)) ea_nil))) (r_joined hj ho)) ok) fun bv H2 e2 db => ?_
    have ok2 := (ok.x e2).set db 6
    have hbl : (rl.join k0 rr).live = true := by
      cases rl <;> cases rr <;> first | rfl | cases hj
    refine cs_no (evt_et (et_test (ee_op (ee_call (ea_cons (ee_var (i := 6) rfl) ea_nil) (r_size_of hbl)) (ee_call (ea_cons (ee_var (i := 6) rfl) ea_nil) r_most_of) rd_B)) ok2) (decide_eq_false (by omega)) fun H3 e3 => ?_
    refine cs_set (ev_ee (ee_call (ea_cons (ee_var (i := 5) rfl) (ea_cons (ee_var (i := 2) rfl) ea_nil)) (r_without_child (i := m) rfl (by omega) (by omega) hn)) (ok2.x e3)) fun nv H4 e4 dn => ?_
    have ok3 := ((ok2.x e3).x e4).set dn 5
    have dd := d.x (((e1.trans e2).trans e3).trans e4)
    refine cs_give (s := sr) (r := .free sr.page) dd rfl (eva_cons (ev_ee (ee_op (ee_var (i := 4) rfl) ee_int (rd_ix rfl)) ok3) (eva_cons (ev_ee (ee_tup (ea_cons ee_str (ea_cons (ee_op (ee_op (ee_var (i := 4) rfl) ee_int (rd_ix rfl)) ee_int (rd_ix rfl)) ea_nil))) ok3) eva_nil)) (by omega) (by omega) fun H5 c5 d5 => ?_
    obtain ⟨l1, l2⟩ := give_len st sr (.free sr.page)
    have ok4 := ok3.t c5.tup
    have hnl : (Rec.inner lv0 lo hi (delI ks m) (delI ps (m + 1))).live = true := rfl
    refine cs_yes (evt_et (et_and (et_test (ee_op (ee_var (i := 1) rfl) ee_int rd_eqI)) fun _ => et_test (ee_op (ee_call (ea_cons (ee_var (i := 5) rfl) ea_nil) (r_size_of hnl)) ee_int rd_eqI)) ok4) ?_ fun H6 e6 => ?_
    · have : (((Rec.inner lv0 lo hi (delI ks m) (delI ps (m + 1))).size : Nat) : Int) = 1 := by
        show ((delI ps (m + 1)).length : Int) = 1
        omega
      rw [decide_eq_true this]
      rfl
    have ok5 := ok4.x e6
    refine cs_give (s := sl) (r := .free sl.page) (d5.x e6) rfl (eva_cons (ev_ee (ee_op (ee_var (i := 3) rfl) ee_int (rd_ix rfl)) ok5) (eva_cons (ev_ee (ee_tup (ea_cons ee_str (ea_cons (ee_op (ee_op (ee_var (i := 3) rfl) ee_int (rd_ix rfl)) ee_int (rd_ix rfl)) ea_nil))) ok5) eva_nil)) (by omega) (by omega) fun H7 c7 d7 => ?_
    obtain ⟨l3, l4⟩ := give_len (st.give sr (.free sr.page)) sl (.free sl.page)
    have ok6 := ok5.t c7.tup
    refine cs_give (s := par) (r := rl.join k0 rr) d7 rfl (eva_cons (ev_path Tc d7 rfl ev_int (i := 0) rfl hp) (eva_cons (ev_ee (ee_var (i := 6) rfl) ok6) eva_nil)) (by omega) (by omega) fun H8 c8 d8 => ?_
    refine cs_ret (ev_tup (eva_cons ev_str (eva_cons ev_non eva_nil))) fun v H9 e9 d9 => ?_
    exact k v H9 ((((Chg.of (((e1.trans e2).trans e3).trans e4)).trans c5).trans ((Chg.of e6).trans (c7.trans c8))).trans (Chg.of e9)) (d8.x e9) d9
end
end Esp
set_option Elab.async false
set_option linter.all false
set_option maxRecDepth 100000
set_option maxHeartbeats 4000000
namespace Esp
open PySem PySem.Spec PyProof.Rows L2
section
variable {P : Program} {w : World} {K : PySem.W.Frag} {mg : Str → Option Value} {base : Heap} {C : Addr}
abbrev N_Draft_divide : List Str := ["self", "index", "record", "place", "page", "first", "separator", "second", "pages", "level"]
theorem sc_Draft_divide : FnScope N_Draft_divide ["self", "index", "record"] (defScope s_Draft_divide) := ⟨rfl, rfl, rfl, by decide +kernel, rfl, by decide +kernel, by decide +kernel⟩
theorem ok_Draft_divide {f : Addr} {fd : FuncData} (F : FnM K "divide" "Draft.divide" s_Draft_divide f fd) (T : Bu mg) (Tc : TC K mg C) (c_cut : Cal P w K mg base 7 "cut" ["record"] (spF R_cut)) (c_level_of : Cal P w K mg base 1 "level_of" ["record"] (spF R_level_of))
    (c_inner : Cal P w K mg base 6 "inner" ["level", "low", "high", "keys", "pages"] (spF R_inner)) (c_with_child : Cal P w K mg base 7 "with_child" ["record", "index", "separator", "page"] (spF R_with_child))
    (c_Draft_give : MCal P w K mg base C 1 "give" ["self", "step", "record"] (spGive C)) (c_Draft_add_page : MCal P w K mg base C 1 "add_page" ["self", "record"] (spAdd C)) (c_Draft_place_in_parent : MCal P w K mg base C 2 "place_in_parent" ["self", "index"] (spPlace C)) : FnOk P w K mg base CX0 8 f fd ["self", "index", "record"] (spSettle C condD) := by
  refine F.ok sc_Draft_divide (fun vs H Q E h => ?_) (fun cdv A outer s H vs Q E hr h => ?_)
  · obtain ⟨p, fr, path, sibs, st, i, r, res, rv, rfl, _⟩ := h
    rfl
  obtain ⟨p, fr, path, sibs, st, i, r, res, rv, rfl, d, hrv, z1, z2, pr, hcond, k⟩ := h
  have nd := sc_Draft_divide.nd
  have hu := hu_of hr
  have hcond' : r.most < r.size := hcond
  refine ⟨_, PSs.nox (pss_cons (ps_asg (pe_cl c_cut hr (by decide) (by rfl) (pa_cons (pv 2) pa_nil)) (pg_tup rfl (pgs_cons (pg_name (i := 5) nd rfl (Or.inl rfl)) (pgs_cons (pg_name (i := 6) nd rfl (Or.inl rfl)) (pgs_cons (pg_name (i := 7) nd rfl (Or.inl rfl)) pgs_nil)))))
    (pss_cons (ps_if (pt_cmpR op_eq (pv 1) pe_int (nomark _)) (pss_cons (ps_set (i := 8) nd rfl (Or.inl rfl) (pe_tup (pa_cons (pe_mt (pv 0) Tc.cl c_Draft_add_page hr (by decide) (pa_cons (pv 5) pa_nil)) (pa_cons (pe_mt (pv 0) Tc.cl c_Draft_add_page hr (by decide) (pa_cons (pv 7) pa_nil)) pa_nil))))
    (pss_cons (ps_set (i := 9) nd rfl (Or.inl rfl) (pe_op op_add (pe_cl c_level_of hr (by decide) (by rfl) (pa_cons (pv 2) pa_nil)) pe_int))
    (pss_cons (ps_expr (pe_mt (pv 0) Tc.cl c_Draft_give hr (by decide) (pa_cons (pe_ix ix_list (pe_fld (pv 0) rfl) pe_int (fun _ _ => rfl)) (pa_cons (pe_cl c_inner hr (by decide) (by rfl) (pa_cons (pv 9) (pa_cons pe_non (pa_cons pe_non (pa_cons (pe_tup (pa_cons (pv 6) pa_nil)) (pa_cons (pv 8) pa_nil)))))) pa_nil))))
    (pss_one (ps_ret (pe_tup (pa_cons pe_str (pa_cons pe_non pa_nil)))))))) pss_nil)
    (pss_cons (ps_set (i := 3) nd rfl (Or.inl rfl) (pe_mt (pv 0) Tc.cl c_Draft_place_in_parent hr (by decide) (pa_cons (pv 1) pa_nil)))
    (pss_cons (ps_if (pt_cmpR op_isN1 (pv 3) pe_non (nomark _)) (pss_one (ps_ret (pe_tup (pa_cons pe_str (pa_cons pe_non pa_nil))))) pss_nil)
    (pss_cons (ps_expr (pe_mt (pv 0) Tc.cl c_Draft_give hr (by decide) (pa_cons (pe_ix ix_list (pe_fld (pv 0) rfl) (pv 1) (fun _ _ => rfl)) (pa_cons (pv 5) pa_nil))))
    (pss_cons (ps_set (i := 4) nd rfl (Or.inl rfl) (pe_mt (pv 0) Tc.cl c_Draft_add_page hr (by decide) (pa_cons (pv 7) pa_nil)))
    (pss_one (ps_ret (pe_tup (pa_cons pe_str (pa_cons (pe_cl c_with_child hr (by decide) (by rfl) (pa_cons (pe_ix ix_tup (pe_ix ix_list (pe_fld (pv 0) rfl) (pe_op op_sub (pv 1) pe_int) (fun _ _ => rfl)) pe_int (fun _ _ => rfl)) (pa_cons (pv 3) (pa_cons (pv 6) (pa_cons (pv 4) pa_nil))))) pa_nil))))))))))), ?_⟩
  have ok : EnvOk H [some (.ref p), some (.int (i : Int)), some rv, none, none, none, none, none, none, none] [none, some (.int (i : Int)), some r.d, none, none, none, none, none, none, none] :=
    (((((((((envOk_nil.consN).consN).consN).consN).consN).consN).consN).cons hrv).cons (.int _)).consN
  cases pr with
  | give hp hl hs hi => omega
  | read hp hq hr' hpl hl hs ho hn => have := most_le2 r; omega
  | uniteL hp hq hr' hpl hl hs => have := most_le2 r; omega
  | uniteR hp hq hr' hpl hl hs => have := most_le2 r; omega
  | @root _ s hp hs hc hn =>
    refine cs_unp3 (ev_ee (ee_call (ea_cons (ee_var (i := 2) rfl) ea_nil) (r_cut hc)) ok) fun fv sv gv H1 e1 d1 d2 d3 => ?_
    cases d2
    have ok1 := ((((ok.x e1).set d1 5).set (Dn.int (H := H1) r.cut.2.1) 6).set d3 7)
    refine cs_yes (evt_et (et_test (ee_op (ee_var (i := 1) rfl) ee_int rd_eqI)) ok1) (decide_eq_true rfl) fun H2 e2 => ?_
    have dd := d.x (e1.trans e2)
    have ok2 := ok1.x e2
    -- pages = (self.add_page(first), self.add_page(second))
    refine ev_add (r := r.cut.1) dd rfl (eva_cons (ev_ee (ee_var (i := 5) rfl) ok2) eva_nil) (by omega) fun H3 c3 dd3 => ?_
    have ok3 := ok2.t c3.tup
    obtain ⟨l1, l2⟩ := add_len st r.cut.1
    refine ev_add (r := r.cut.2.2) dd3 rfl (eva_cons (ev_ee (ee_var (i := 7) rfl) ok3) eva_nil) (by omega) fun H4 c4 dd4 => ?_
    have ok4 := ok3.t c4.tup
    obtain ⟨l3, l4⟩ := add_len (st.add r.cut.1) r.cut.2.2
    have e2' : -(((st.add r.cut.1).fresh : Int) + 1) = -((st.fresh : Int) + 2) := by
      show -(((st.fresh + 1 : Nat) : Int) + 1) = _
      omega
    refine ⟨by show 2 ≤ sizeLine; decide, fun q hq => ?_⟩
    have dq : Dn (upd H4 q (.tup [.int (-((st.fresh : Int) + 1)), .int (-(((st.add r.cut.1).fresh : Int) + 1))])) (.ref q) (tI [-((st.fresh : Int) + 1), -((st.fresh : Int) + 2)]) := by
      rw [e2']
      exact .tup upd_same (.cons (.int _) (.cons (.int _) .nil))
    have ok5 := (ok4.x (Ex.new (o := .tup [.int (-((st.fresh : Int) + 1)), .int (-(((st.add r.cut.1).fresh : Int) + 1))]) hq)).set dq 8
    have dd5 := dd4.x (Ex.new (o := .tup [.int (-((st.fresh : Int) + 1)), .int (-(((st.add r.cut.1).fresh : Int) + 1))]) hq)
    refine cs_set (ev_ee (ee_op (ee_call (ea_cons (ee_var (i := 2) rfl) ea_nil) r_level_of) ee_int rd_I) ok5) fun lv H6 e6 dl => ?_
    have ok6 := (ok5.x e6).set dl 9
    refine cs_give (s := s) (r := .inner (r.level + 1) none none [r.cut.2.1] [-((st.fresh : Int) + 1), -((st.fresh : Int) + 2)]) (dd5.x e6) rfl (eva_cons (ev_path Tc (dd5.x e6) rfl ev_int (i := 0) rfl hp) (eva_cons (ev_ee (ee_call (ea_cons (ee_var (i := 9) rfl) (ea_cons ee_non (ea_cons ee_non (ea_cons (ee_sing (ee_var (i := 6) rfl)) (ea_cons (ee_var (i := 8) rfl) ea_nil))))) (r_inner (lo := none) (hi := none) hn)) ok6) eva_nil)) (by omega) (by omega) fun H7 c7 d7 => ?_
    refine cs_ret (ev_tup (eva_cons ev_str (eva_cons ev_non eva_nil))) fun v H8 e8 d8 => ?_
    exact k v H8 (((((Chg.of (e1.trans e2)).trans c3).trans c4).trans ((Chg.of ((Ex.new hq).trans e6)).trans c7)).trans (Chg.of e8)) (d7.x e8) d8
  | @cut i pl _ s par lv0 lo hi ks ps hp hq hpr hpl hs hc hn =>
    refine cs_unp3 (ev_ee (ee_call (ea_cons (ee_var (i := 2) rfl) ea_nil) (r_cut hc)) ok) fun fv sv gv H1 e1 d1 d2 d3 => ?_
    cases d2
    have ok1 := ((((ok.x e1).set d1 5).set (Dn.int (H := H1) r.cut.2.1) 6).set d3 7)
    refine cs_no (evt_et (et_test (ee_op (ee_var (i := 1) rfl) ee_int rd_eqI)) ok1) (decide_eq_false (by omega)) fun H2 e2 => ?_
    have dd := d.x (e1.trans e2)
    have ok2 := ok1.x e2
    refine ev_place (n := i) (pl := pl) dd rfl (eva_cons (ev_ee (ee_var (i := 1) rfl) ok2) eva_nil) (by omega) hp hq hpr hpl fun H3 e3 => ?_
    have ok3 := (ok2.x e3).set (Dn.int (H := H3) (pl : Int)) 3
    refine cs_no (evt_et (et_test (ee_op (ee_var (i := 3) rfl) ee_non rd_isN)) ok3) rfl fun H4 e4 => ?_
    have ok4 := ok3.x e4
    have dd4 := dd.x (e3.trans e4)
    refine cs_give (s := s) (r := r.cut.1) dd4 rfl (eva_cons (ev_path Tc dd4 rfl (ev_ee (ee_var (i := 1) rfl) ok4) rfl hp) (eva_cons (ev_ee (ee_var (i := 5) rfl) ok4) eva_nil)) (by omega) (by omega) fun H5 c5 d5 => ?_
    have ok5 := ok4.t c5.tup
    obtain ⟨l1, l2⟩ := give_len st s r.cut.1
    refine ev_add (r := r.cut.2.2) d5 rfl (eva_cons (ev_ee (ee_var (i := 7) rfl) ok5) eva_nil) (by omega) fun H6 c6 d6 => ?_
    have ok6 := (ok5.t c6.tup).set (Dn.int (H := H6) (-(((st.give s r.cut.1).fresh : Int) + 1))) 4
    refine cs_ret (ev_tup (eva_cons ev_str (eva_cons (ev_call (eva_cons (ev_is (ev_rcd (ev_path Tc d6 rfl (ev_ee (ee_op (ee_var (i := 1) rfl) ee_int rd_I) ok6) (i := i) (by omega) hq)) (by rw [hpr])) (eva_cons (ev_ee (ee_var (i := 3) rfl) ok6) (eva_cons (ev_ee (ee_var (i := 6) rfl) ok6) (eva_cons (ev_ee (ee_var (i := 4) rfl) ok6) eva_nil)))) (r_with_child (i := pl) rfl (by have := hpl.small; omega) (by have := hpl.small; have := hpl.len; omega) hn)) eva_nil))) fun v H8 e8 d8 => ?_
    exact k v H8 ((((Chg.of (e1.trans e2)).trans (Chg.of (e3.trans e4))).trans (c5.trans c6)).trans (Chg.of e8)) (d6.x e8) d8
abbrev N_Draft_unite : List Str := ["self", "index", "record", "place", "parent", "other", "page", "sibling", "own"]
theorem sc_Draft_unite : FnScope N_Draft_unite ["self", "index", "record"] (defScope s_Draft_unite) := ⟨rfl, rfl, rfl, by decide +kernel, rfl, by decide +kernel, by decide +kernel⟩
theorem ok_Draft_unite {f : Addr} {fd : FuncData} (F : FnM K "unite" "Draft.unite" s_Draft_unite f fd) (T : Bu mg) (Tc : TC K mg C) (c_level_of : Cal P w K mg base 1 "level_of" ["record"] (spF R_level_of)) (c_bounds_of : Cal P w K mg base 1 "bounds_of" ["record"] (spF R_bounds_of)) (c_child_bounds : Cal P w K mg base 1 "child_bounds" ["record", "index"] (spF R_child_bounds))
    (c_Draft_place_in_parent : MCal P w K mg base C 2 "place_in_parent" ["self", "index"] (spPlace C)) (c_Draft_unite_pair : MCal P w K mg base C 8 "unite_pair" ["self", "index", "place", "left", "right"] (spPair C)) : FnOk P w K mg base CX0 9 f fd ["self", "index", "record"] (spSettle C condU) := by
  refine F.ok sc_Draft_unite (fun vs H Q E h => ?_) (fun cdv A outer s H vs Q E hr h => ?_)
  · obtain ⟨p, fr, path, sibs, st, i, r, res, rv, rfl, _⟩ := h
    rfl
  obtain ⟨p, fr, path, sibs, st, i, r, res, rv, rfl, d, hrv, z1, z2, pr, hcond, k⟩ := h
  have nd := sc_Draft_unite.nd
  have hu := hu_of hr
  obtain ⟨hcs, hci⟩ := hcond
  refine ⟨_, PSs.nox (pss_cons (ps_set (i := 3) nd rfl (Or.inl rfl) (pe_mt (pv 0) Tc.cl c_Draft_place_in_parent hr (by decide) (pa_cons (pv 1) pa_nil)))
    (pss_cons (ps_if (pt_cmpR op_isN1 (pv 3) pe_non (nomark _)) (pss_one (ps_ret (pe_tup (pa_cons pe_str (pa_cons pe_non pa_nil))))) pss_nil)
    (pss_cons (ps_set (i := 4) nd rfl (Or.inl rfl) (pe_ix ix_tup (pe_ix ix_list (pe_fld (pv 0) rfl) (pe_op op_sub (pv 1) pe_int) (fun _ _ => rfl)) pe_int (fun _ _ => rfl)))
    (pss_cons (ps_set (i := 5) nd rfl (Or.inl rfl) (pe_op op_sub (pv 3) pe_int))
    (pss_cons (ps_if (pt_cmpR op_eq (pv 3) pe_int (nomark _)) (pss_one (ps_set (i := 5) nd rfl (Or.inl rfl) pe_int)) pss_nil)
    (pss_cons (ps_set (i := 6) nd rfl (Or.inl rfl) (pe_ix ix_tup (pe_ix ix_tup (pv 4) pe_int (fun _ _ => rfl)) (pv 5) (fun _ _ => rfl)))
    (pss_cons (ps_if (pt_cmp (pc_dnotin hu (pv 6) (pe_fld (pv 0) rfl))) (pss_one (ps_ret (pe_tup (pa_cons pe_str (pa_cons (pv 6) pa_nil))))) pss_nil)
    (pss_cons (ps_set (i := 7) nd rfl (Or.inl rfl) (pe_dget hu (pe_fld (pv 0) rfl) (pv 6) (fun _ _ => rfl)))
    (pss_cons (ps_if (pt_cmpR op_ne (pe_cl c_level_of hr (by decide) (by rfl) (pa_cons (pe_ix ix_tup (pv 7) pe_int (fun _ _ => rfl)) pa_nil)) (pe_cl c_level_of hr (by decide) (by rfl) (pa_cons (pv 2) pa_nil)) (nomark _)) (pss_one (ps_ret (pe_tup (pa_cons pe_str (pa_cons pe_non pa_nil))))) pss_nil)
    (pss_cons (ps_if (pt_cmpR (op_neD hr.units) (pe_cl c_bounds_of hr (by decide) (by rfl) (pa_cons (pe_ix ix_tup (pv 7) pe_int (fun _ _ => rfl)) pa_nil)) (pe_cl c_child_bounds hr (by decide) (by rfl) (pa_cons (pv 4) (pa_cons (pv 5) pa_nil))) (nomark _)) (pss_one (ps_ret (pe_tup (pa_cons pe_str (pa_cons pe_non pa_nil))))) pss_nil)
    (pss_cons (ps_set (i := 8) nd rfl (Or.inl rfl) (pe_ix ix_list (pe_fld (pv 0) rfl) (pv 1) (fun _ _ => rfl)))
    (pss_cons (ps_if (pt_cmpR op_lt (pv 5) (pv 3) (nomark _)) (pss_one (ps_ret (pe_mt (pv 0) Tc.cl c_Draft_unite_pair hr (by decide) (pa_cons (pv 1) (pa_cons (pv 3) (pa_cons (pe_tup (pa_cons (pv 7) (pa_cons (pe_ix ix_tup (pv 7) pe_int (fun _ _ => rfl)) pa_nil))) (pa_cons (pe_tup (pa_cons (pv 8) (pa_cons (pv 2) pa_nil))) pa_nil))))))) pss_nil)
    (pss_one (ps_ret (pe_mt (pv 0) Tc.cl c_Draft_unite_pair hr (by decide) (pa_cons (pv 1) (pa_cons (pv 5) (pa_cons (pe_tup (pa_cons (pv 8) (pa_cons (pv 2) pa_nil))) (pa_cons (pe_tup (pa_cons (pv 7) (pa_cons (pe_ix ix_tup (pv 7) pe_int (fun _ _ => rfl)) pa_nil))) pa_nil))))))))))))))))))), ?_⟩
  have ok : EnvOk H [some (.ref p), some (.int (i : Int)), some rv, none, none, none, none, none, none] [none, some (.int (i : Int)), some r.d, none, none, none, none, none, none] :=
    ((((((((envOk_nil.consN).consN).consN).consN).consN).consN).cons hrv).cons (.int _)).consN
  -- up to the sibling's page
  have front : ∀ {n pl : Nat} {s par : Step} {lv0 q : Int} {lo hi : Option Int} {ks ps : List Int} {rest : TS} {D : Ends}, i = n + 1 → path[n + 1]? = some s → path[n]? = some par → par.rcd = .inner lv0 lo hi ks ps → PlaceIs lo hi ks ps s pl → ps[if pl = 0 then 1 else pl - 1]? = some q →
      (∀ v H', Ex H H' → EnvOk H' [some (.ref p), some (.int (i : Int)), some rv, some (.int (pl : Int)), some v, some (.int ((if pl = 0 then 1 else pl - 1 : Nat) : Int)), some (.int q), none, none] [none, some (.int (i : Int)), some r.d, some (.int (pl : Int)), some (Rec.inner lv0 lo hi ks ps).d, some (.int ((if pl = 0 then 1 else pl - 1 : Nat) : Int)), some (.int q), none, none] →
        rest D [some (.ref p), some (.int (i : Int)), some rv, some (.int (pl : Int)), some v, some (.int ((if pl = 0 then 1 else pl - 1 : Nat) : Int)), some (.int q), none, none] H') →
      tSeq (tAsg (tMeth C "place_in_parent" (spPlace C) [] E0 (tVar 0) (tCons (tVar 1) tNil)) (gName 3)) (tSeq (tIfS (tTest (tOp rIsN (tVar 3) (tC .non))) (tRet (tTup (tCons (tC (.str "stale")) (tCons (tC .non) tNil)))) tNext)
        (tSeq (tAsg (tOp (rIxT K) (tOp (rIxL K) (tFld K (tVar 0) "path") (tOp (rI0 fun i j => .int (i - j)) (tVar 1) (tC (.int 1)))) (tC (.int 2))) (gName 4)) (tSeq (tAsg (tOp (rI0 fun i j => .int (i - j)) (tVar 3) (tC (.int 1))) (gName 5))
          (tSeq (tIfS (tTest (tOp rEq (tVar 3) (tC (.int 0)))) (tAsg (tC (.int 1)) (gName 5)) tNext) (tSeq (tAsg (tOp (rIxT K) (tOp (rIxT K) (tVar 4) (tC (.int 5))) (tVar 5)) (gName 6)) rest))))) D
        [some (.ref p), some (.int (i : Int)), some rv, none, none, none, none, none, none] H := by
    intro n pl s par lv0 q lo hi ks ps rest D hi1 hp hq hpr hpl ho kk
    refine ev_place (n := n) (pl := pl) d rfl (eva_cons (ev_ee (ee_var (i := 1) rfl) ok) eva_nil) (by omega) hp hq hpr hpl fun H3 e3 => ?_
    have ok3 := (ok.x e3).set (Dn.int (H := H3) (pl : Int)) 3
    refine cs_no (evt_et (et_test (ee_op (ee_var (i := 3) rfl) ee_non rd_isN)) ok3) rfl fun H4 e4 => ?_
    have ok4 := ok3.x e4
    have dd4 := d.x (e3.trans e4)
    refine cs_set (ev_is (ev_rcd (ev_path Tc dd4 rfl (ev_ee (ee_op (ee_var (i := 1) rfl) ee_int rd_I) ok4) (i := n) (by omega) hq)) (by rw [hpr])) fun pv H5 e5 d5 => ?_
    have ok5 := (ok4.x e5).set d5 4
    refine cs_set (ev_ee (ee_op (ee_var (i := 3) rfl) ee_int rd_I) ok5) fun ov H6 e6 d6 => ?_
    cases d6
    have ok6 := (ok5.x e6).set (Dn.int (H := H6) ((pl : Int) - 1)) 5
    -- other
    have oth : ∀ {rest : TS} {D : Ends}, (∀ H', Ex H6 H' → rest D [some (.ref p), some (.int (i : Int)), some rv, some (.int (pl : Int)), some pv, some (.int ((if pl = 0 then 1 else pl - 1 : Nat) : Int)), none, none, none] H') →
        tSeq (tIfS (tTest (tOp rEq (tVar 3) (tC (.int 0)))) (tAsg (tC (.int 1)) (gName 5)) tNext) rest D [some (.ref p), some (.int (i : Int)), some rv, some (.int (pl : Int)), some pv, some (.int ((pl : Int) - 1)), none, none, none] H6 := by
      intro rest D kk
      by_cases h0 : pl = 0
      · refine cs_yes (evt_et (et_test (ee_op (ee_var (i := 3) rfl) ee_int rd_eqI)) ok6) (decide_eq_true (by omega)) fun H7 e7 => ?_
        have := kk H7 e7
        rw [if_pos h0] at this
        exact this
      · refine cs_no (evt_et (et_test (ee_op (ee_var (i := 3) rfl) ee_int rd_eqI)) ok6) (decide_eq_false (by omega)) fun H7 e7 => ?_
        have := kk H7 e7
        rw [if_neg h0, show ((pl - 1 : Nat) : Int) = (pl : Int) - 1 by omega] at this
        exact this
    refine oth fun H7 e7 => ?_
    have ok7 : EnvOk H7 [some (.ref p), some (.int (i : Int)), some rv, some (.int (pl : Int)), some pv, some (.int ((if pl = 0 then 1 else pl - 1 : Nat) : Int)), none, none, none] [none, some (.int (i : Int)), some r.d, some (.int (pl : Int)), some (Rec.inner lv0 lo hi ks ps).d, some (.int ((if pl = 0 then 1 else pl - 1 : Nat) : Int)), none, none, none] :=
      ((((((((envOk_nil.consN).consN).consN).cons (.int _)).cons (d5.x (e6.trans e7))).cons (.int _)).cons (hrv.x ((((e3.trans e4).trans e5).trans e6).trans e7))).cons (.int _)).consN
    refine cs_set (ev_ee (ee_ixI (ee_op (ee_var (i := 4) rfl) ee_int (rd_ix rfl)) (ee_var (i := 5) rfl) rfl ho) ok7) fun qv H8 e8 d8 => ?_
    cases d8
    exact kk pv H8 (((((e3.trans e4).trans e5).trans e6).trans e7).trans e8) ((ok7.x e8).set (Dn.int (H := H8) q) 6)
  cases pr with
  | give hp hl hs hi => omega
  | root hp hs hc => have := most_le2 r; omega
  | cut hp hq hr' hpl hs => have := most_le2 r; omega
  | @read i pl _ s par lv0 q lo hi ks ps hp hq hpr hpl hl hs ho hn =>
    refine front rfl hp hq hpr hpl ho fun pv H1 e1 ok1 => ?_
    have d1 := d.x e1
    obtain ⟨dx, hob⟩ := d1.ob
    -- if page not in self.siblings
    refine ⟨_, rfl, _, rfl, p, C, dx, _, _, rfl, hob, Tc.cl, Tc.nS, lk_siblings _ _, fr.sa, none, rfl, d1.sib.get0 hn, _, rfl, ?_⟩
    refine iteT ?_
    refine cs_ret (ev_tup (eva_cons ev_str (eva_cons (ev_ee (ee_var (i := 6) rfl) ok1) eva_nil))) fun v H2 e2 d2 => ?_
    exact k v H2 (Chg.of (e1.trans e2)) (d1.x e2) d2
  | @uniteL i m _ s par sb lv0 q lo hi ks ps _ hp hq hpr hpl hl hs ho hn hv hbl hb1 hb2 hpp =>
    refine front rfl hp hq hpr hpl (by rw [if_neg (by omega), Nat.add_sub_cancel]; exact ho) fun pv H1 e1 ok1 => ?_
    rw [if_neg (by omega), Nat.add_sub_cancel] at ok1 ⊢
    have d1 := d.x e1
    obtain ⟨dx, hob⟩ := d1.ob
    obtain ⟨sv, hg, dsv⟩ := d1.sib.get hn
    refine ⟨_, rfl, _, rfl, p, C, dx, _, _, rfl, hob, Tc.cl, Tc.nS, lk_siblings _ _, fr.sa, _, rfl, hg, _, rfl, ?_⟩
    refine iteF ?_
    refine ⟨_, rfl, p, C, dx, _, _, rfl, hob, Tc.cl, Tc.nS, lk_siblings _ _, _, rfl, fr.sa, sv, rfl, hg, ?_⟩
    have ok2 := ok1.set dsv 7
    refine cs_no (evt_et (et_test (ee_op (ee_call (ea_cons (ee_op (ee_var (i := 7) rfl) ee_int (rd_ix rfl)) ea_nil) r_level_of) (ee_call (ea_cons (ee_var (i := 2) rfl) ea_nil) r_level_of) rd_neI)) ok2) (by rw [decide_eq_true hv]; rfl) fun H3 e3 => ?_
    have hm : m ≤ ks.length := by
      have h1 := (List.getElem?_eq_some_iff.mp ho).1
      have h2 := hpl.len
      omega
    refine cs_no (evt_et (et_test (ee_op (ee_call (ea_cons (ee_op (ee_var (i := 7) rfl) ee_int (rd_ix rfl)) ea_nil) (r_bounds_of hbl)) (ee_call (ea_cons (ee_var (i := 4) rfl) (ea_cons (ee_var (i := 5) rfl) ea_nil)) (r_child_bounds rfl hm)) rd_neT)) (ok2.x e3)) (by rw [decide_eq_true ⟨hb1.symm, hb2.symm⟩]; rfl) fun H4 e4 => ?_
    have d4 := d1.x (e3.trans e4)
    have ok4 := (ok2.x e3).x e4
    refine cs_set (ev_path Tc d4 rfl (ev_ee (ee_var (i := 1) rfl) ok4) rfl hp) fun ov H5 e5 d5 => ?_
    have ok5 := (ok4.x e5).set d5 8
    refine cs_yes (evt_et (et_test (ee_op (ee_var (i := 5) rfl) (ee_var (i := 3) rfl) rd_B)) ok5) (decide_eq_true (by omega)) fun H6 e6 => ?_
    have ok6 := ok5.x e6
    have d6 := d4.x (e5.trans e6)
    refine cs_meth d6 rfl (by decide +kernel) (eva_cons (ev_ee (ee_var (i := 1) rfl) ok6) (eva_cons (ev_ee (ee_var (i := 3) rfl) ok6) (eva_cons (ev_ee (ee_tup (ea_cons (ee_var (i := 7) rfl) (ea_cons (ee_op (ee_var (i := 7) rfl) ee_int (rd_ix rfl)) ea_nil))) ok6) (eva_cons (ev_ee (ee_tup (ea_cons (ee_var (i := 8) rfl) (ea_cons (ee_var (i := 2) rfl) ea_nil))) ok6) eva_nil)))) fun vs H7 e7 d7 => ?_
    cases d7 with
    | cons a1 d7 => cases d7 with
      | cons a2 d7 => cases d7 with
        | cons a3 d7 => cases d7 with
          | cons a4 d7 =>
            cases d7
            cases a1
            cases a2
            exact ⟨p, fr, path, sibs, st, i, m, sb, s, _, _, _, _, _, rfl, d6.x e7, a3, a4, by omega, by omega, hpp, fun v H8 c8 d8 dv => k v H8 ((Chg.of ((((e1.trans e3).trans e4).trans (e5.trans e6)).trans e7)).trans c8) d8 dv⟩
  | @uniteR i _ s par sb lv0 q lo hi ks ps _ hp hq hpr hpl hl hs ho hn hv hbl hb1 hb2 hpp =>
    refine front rfl hp hq hpr hpl (by rw [if_pos rfl]; exact ho) fun pv H1 e1 ok1 => ?_
    rw [if_pos rfl] at ok1 ⊢
    have d1 := d.x e1
    obtain ⟨dx, hob⟩ := d1.ob
    obtain ⟨sv, hg, dsv⟩ := d1.sib.get hn
    refine ⟨_, rfl, _, rfl, p, C, dx, _, _, rfl, hob, Tc.cl, Tc.nS, lk_siblings _ _, fr.sa, _, rfl, hg, _, rfl, ?_⟩
    refine iteF ?_
    refine ⟨_, rfl, p, C, dx, _, _, rfl, hob, Tc.cl, Tc.nS, lk_siblings _ _, _, rfl, fr.sa, sv, rfl, hg, ?_⟩
    have ok2 := ok1.set dsv 7
    refine cs_no (evt_et (et_test (ee_op (ee_call (ea_cons (ee_op (ee_var (i := 7) rfl) ee_int (rd_ix rfl)) ea_nil) r_level_of) (ee_call (ea_cons (ee_var (i := 2) rfl) ea_nil) r_level_of) rd_neI)) ok2) (by rw [decide_eq_true hv]; rfl) fun H3 e3 => ?_
    have hm : 1 ≤ ks.length := by
      have h1 := (List.getElem?_eq_some_iff.mp ho).1
      have h2 := hpl.len
      omega
    refine cs_no (evt_et (et_test (ee_op (ee_call (ea_cons (ee_op (ee_var (i := 7) rfl) ee_int (rd_ix rfl)) ea_nil) (r_bounds_of hbl)) (ee_call (ea_cons (ee_var (i := 4) rfl) (ea_cons (ee_var (i := 5) rfl) ea_nil)) (r_child_bounds rfl hm)) rd_neT)) (ok2.x e3)) (by rw [decide_eq_true ⟨hb1.symm, hb2.symm⟩]; rfl) fun H4 e4 => ?_
    have d4 := d1.x (e3.trans e4)
    have ok4 := (ok2.x e3).x e4
    refine cs_set (ev_path Tc d4 rfl (ev_ee (ee_var (i := 1) rfl) ok4) rfl hp) fun ov H5 e5 d5 => ?_
    have ok5 := (ok4.x e5).set d5 8
    refine cs_no (evt_et (et_test (ee_op (ee_var (i := 5) rfl) (ee_var (i := 3) rfl) rd_B)) ok5) (decide_eq_false (by omega)) fun H6 e6 => ?_
    have ok6 := ok5.x e6
    have d6 := d4.x (e5.trans e6)
    refine cs_meth d6 rfl (by decide +kernel) (eva_cons (ev_ee (ee_var (i := 1) rfl) ok6) (eva_cons (ev_ee (ee_var (i := 5) rfl) ok6) (eva_cons (ev_ee (ee_tup (ea_cons (ee_var (i := 8) rfl) (ea_cons (ee_var (i := 2) rfl) ea_nil))) ok6) (eva_cons (ev_ee (ee_tup (ea_cons (ee_var (i := 7) rfl) (ea_cons (ee_op (ee_var (i := 7) rfl) ee_int (rd_ix rfl)) ea_nil))) ok6) eva_nil)))) fun vs H7 e7 d7 => ?_
    cases d7 with
    | cons a1 d7 => cases d7 with
      | cons a2 d7 => cases d7 with
        | cons a3 d7 => cases d7 with
          | cons a4 d7 =>
            cases d7
            cases a1
            cases a2
            exact ⟨p, fr, path, sibs, st, i, 0, s, sb, _, _, _, _, _, rfl, d6.x e7, a3, a4, by omega, by omega, hpp, fun v H8 c8 d8 dv => k v H8 ((Chg.of ((((e1.trans e3).trans e4).trans (e5.trans e6)).trans e7)).trans c8) d8 dv⟩
abbrev N_Draft_settle : List Str := ["self", "index", "record"]
theorem sc_Draft_settle : FnScope N_Draft_settle ["self", "index", "record"] (defScope s_Draft_settle) := ⟨rfl, rfl, rfl, by decide +kernel, rfl, by decide +kernel, by decide +kernel⟩
theorem ok_Draft_settle {f : Addr} {fd : FuncData} (F : FnM K "settle" "Draft.settle" s_Draft_settle f fd) (T : Bu mg) (Tc : TC K mg C) (c_size_of : Cal P w K mg base 1 "size_of" ["record"] (spF R_size_of)) (c_most_of : Cal P w K mg base 2 "most_of" ["record"] (spF R_most_of))
    (c_Draft_give : MCal P w K mg base C 1 "give" ["self", "step", "record"] (spGive C)) (c_Draft_divide : MCal P w K mg base C 8 "divide" ["self", "index", "record"] (spSettle C condD)) (c_Draft_unite : MCal P w K mg base C 9 "unite" ["self", "index", "record"] (spSettle C condU)) : FnOk P w K mg base CX0 10 f fd ["self", "index", "record"] (spSettle C fun _ r => r.live = true) := by
  refine F.ok sc_Draft_settle (fun vs H Q E h => ?_) (fun cdv A outer s H vs Q E hr h => ?_)
  · obtain ⟨p, fr, path, sibs, st, i, r, res, rv, rfl, _⟩ := h
    rfl
  obtain ⟨p, fr, path, sibs, st, i, r, res, rv, rfl, d, hrv, z1, z2, pr, hlive, k⟩ := h
  have nd := sc_Draft_settle.nd
  have hu := hu_of hr
  refine ⟨_, PSs.nox (pss_cons (ps_if (pt_cmpR op_gt (pe_cl c_size_of hr (by decide) (by rfl) (pa_cons (pv 2) pa_nil)) (pe_cl c_most_of hr (by decide) (by rfl) (pa_cons (pv 2) pa_nil)) (nomark _)) (pss_one (ps_ret (pe_mt (pv 0) Tc.cl c_Draft_divide hr (by decide) (pa_cons (pv 1) (pa_cons (pv 2) pa_nil))))) pss_nil)
    (pss_cons (ps_if (PW.pt (pw_and (pt_cmpR op_gt (pv 1) pe_int (nomark _)) (pw_and1 (pt_cmpR op_lt (pe_cl c_size_of hr (by decide) (by rfl) (pa_cons (pv 2) pa_nil)) (pe_gi (by rfl) T.LEAST) (nomark _))))) (pss_one (ps_ret (pe_mt (pv 0) Tc.cl c_Draft_unite hr (by decide) (pa_cons (pv 1) (pa_cons (pv 2) pa_nil))))) pss_nil)
    (pss_cons (ps_expr (pe_mt (pv 0) Tc.cl c_Draft_give hr (by decide) (pa_cons (pe_ix ix_list (pe_fld (pv 0) rfl) (pv 1) (fun _ _ => rfl)) (pa_cons (pv 2) pa_nil))))
    (pss_one (ps_ret (pe_tup (pa_cons pe_str (pa_cons pe_non pa_nil)))))))), ?_⟩
  have ok : EnvOk H [some (.ref p), some (.int (i : Int)), some rv] [none, some (.int (i : Int)), some r.d] := (((envOk_nil).cons hrv).cons (.int _)).consN
  have hm2 := most_le2 r
  by_cases h1 : r.most < r.size
  · refine cs_yes (evt_et (et_test (ee_op (ee_call (ea_cons (ee_var (i := 2) rfl) ea_nil) (r_size_of hlive)) (ee_call (ea_cons (ee_var (i := 2) rfl) ea_nil) r_most_of) rd_B)) ok) (decide_eq_true (by omega)) fun H1 e1 => ?_
    refine cs_meth (d.x e1) rfl (by decide +kernel) (eva_cons (ev_ee (ee_var (i := 1) rfl) (ok.x e1)) (eva_cons (ev_ee (ee_var (i := 2) rfl) (ok.x e1)) eva_nil)) fun vs H2 e2 d2 => ?_
    cases d2 with
    | cons a1 d2 => cases d2 with
      | cons a2 d2 =>
        cases d2
        cases a1
        exact ⟨p, fr, path, sibs, st, i, r, res, _, rfl, (d.x e1).x e2, a2, z1, z2, pr, h1, fun v H8 c8 d8 dv => k v H8 ((Chg.of (e1.trans e2)).trans c8) d8 dv⟩
  · refine cs_no (evt_et (et_test (ee_op (ee_call (ea_cons (ee_var (i := 2) rfl) ea_nil) (r_size_of hlive)) (ee_call (ea_cons (ee_var (i := 2) rfl) ea_nil) r_most_of) rd_B)) ok) (decide_eq_false (by omega)) fun H1 e1 => ?_
    by_cases h2 : r.size < 2 ∧ 1 ≤ i
    · refine cs_yes (evt_et (et_and (et_test (ee_op (ee_var (i := 1) rfl) ee_int rd_B)) fun _ => et_test (ee_op (ee_call (ea_cons (ee_var (i := 2) rfl) ea_nil) (r_size_of hlive)) ee_int rd_B)) (ok.x e1)) (by simp; omega) fun H2 e2 => ?_
      refine cs_meth (d.x (e1.trans e2)) rfl (by decide +kernel) (eva_cons (ev_ee (ee_var (i := 1) rfl) (ok.x (e1.trans e2))) (eva_cons (ev_ee (ee_var (i := 2) rfl) (ok.x (e1.trans e2))) eva_nil)) fun vs H3 e3 d3 => ?_
      cases d3 with
      | cons a1 d3 => cases d3 with
        | cons a2 d3 =>
          cases d3
          cases a1
          exact ⟨p, fr, path, sibs, st, i, r, res, _, rfl, (d.x (e1.trans e2)).x e3, a2, z1, z2, pr, h2, fun v H8 c8 d8 dv => k v H8 ((Chg.of ((e1.trans e2).trans e3)).trans c8) d8 dv⟩
    · refine cs_no (evt_et (et_and (et_test (ee_op (ee_var (i := 1) rfl) ee_int rd_B)) fun _ => et_test (ee_op (ee_call (ea_cons (ee_var (i := 2) rfl) ea_nil) (r_size_of hlive)) ee_int rd_B)) (ok.x e1)) (by simp; omega) fun H2 e2 => ?_
      have ok2 := ok.x (e1.trans e2)
      have d2 := d.x (e1.trans e2)
      cases pr with
      | @give _ _ s hp hl hs hi =>
        refine cs_give (s := s) (r := r) d2 rfl (eva_cons (ev_path Tc d2 rfl (ev_ee (ee_var (i := 1) rfl) ok2) rfl hp) (eva_cons (ev_ee (ee_var (i := 2) rfl) ok2) eva_nil)) (by omega) (by omega) fun H3 c3 d3 => ?_
        refine cs_ret (ev_tup (eva_cons ev_str (eva_cons ev_non eva_nil))) fun v H4 e4 d4 => ?_
        exact k v H4 (((Chg.of (e1.trans e2)).trans c3).trans (Chg.of e4)) (d3.x e4) d4
      | root hp hs hc => omega
      | cut hp hq hr' hpl hs => omega
      | read hp hq hr' hpl hl hs => omega
      | uniteL hp hq hr' hpl hl hs => omega
      | uniteR hp hq hr' hpl hl hs => omega
end
end Esp
set_option Elab.async false
set_option linter.all false
set_option maxRecDepth 100000
set_option maxHeartbeats 4000000
namespace Esp
open PySem PySem.Spec PyProof.Rows L2
theorem filter_take {α : Type} {l : List α} {i : Nat} {x : α} (p : α → Bool) (h : l[i]? = some x) : (l.take (i + 1)).filter p = (l.take i).filter p ++ (if p x then [x] else []) := by
  obtain ⟨hi, e⟩ := List.getElem?_eq_some_iff.mp h
  rw [List.take_succ_eq_append_getElem hi, List.filter_append, e, List.filter_cons]
  simp
theorem KvD.key {H : Hp} : ∀ {kvs : List (Key × V)} {l : List (Int × PyData)} {i : Nat} {k : Key} {v : V}, KvD H kvs l → kvs[i]? = some (k, v) → ∃ q, (l.map (·.1))[i]? = some q ∧ k = Sum.inl q
  | _, _, _, _, _, .nil, e => by simp at e
  | _, _, 0, _, _, .cons r _, e => by
    simp at e
    subst e
    exact ⟨_, rfl, r.1⟩
  | _, _, i + 1, _, _, .cons _ t, e => by
    obtain ⟨q, h1, h2⟩ := KvD.key (i := i) t (by simpa using e)
    exact ⟨q, by simpa using h1, h2⟩
section
variable {P : Program} {w : World} {K : PySem.W.Frag} {mg : Str → Option Value} {base : Heap} {C : Addr}
abbrev N_Draft_entries : List Str := ["self", "pages", "page", "index"]
theorem sc_Draft_entries : FnScope N_Draft_entries ["self"] (defScope s_Draft_entries) := ⟨rfl, rfl, rfl, by decide +kernel, rfl, by decide +kernel, by decide +kernel⟩
theorem ok_Draft_entries {f : Addr} {fd : FuncData} (F : FnM K "entries" "Draft.entries" s_Draft_entries f fd) (T : Bu mg) (Tc : TC K mg C) : FnOk P w K mg base CX0 1 f fd ["self"] (spEntries C) := by
  refine F.ok sc_Draft_entries (fun vs H Q E h => ?_) (fun cdv A outer s H vs Q E hr h => ?_)
  · obtain ⟨p, fr, path, sibs, st, rfl, _⟩ := h
    rfl
  obtain ⟨p, fr, path, sibs, st, rfl, d, z1, z2, hnew, k⟩ := h
  have nd := sc_Draft_entries.nd
  have hu := hu_of hr
  refine ⟨_, PSs.nox (pss_cons (ps_set (i := 1) nd rfl (Or.inl rfl) (pe_callB cr_sortedI (by rfl) T.sorted (by decide +kernel) (pa_cons (pe_lock (pe_lc (own := [("page", 2)]) (g := gName 2) (by rfl) nd (pi_keys (pe_fld (pv 0) rfl)) (blkOk_by (own := [("page", 2)]) (N := N_Draft_entries) (sc := defScope s_Draft_entries) (by decide +kernel)) (fun _ _ _ _ _ => pg_name (i := 2) nd rfl (Or.inl rfl)) (fun _ _ _ _ _ => pts_one (pt_cmpR op_ge (pv 2) pe_int (nomark _))) (fun _ _ _ _ _ => (pv 2)))) pa_nil)))
    (pss_cons (ps_set (i := 1) nd rfl (Or.inl rfl) (pe_op op_cat (pv 1) (pe_lc (own := [("index", 3)]) (g := gName 3) (by rfl) nd (pi_range1 (by rfl) T.range (pa_cons (pe_un un_neg (pe_fld (pv 0) rfl)) pa_nil)) (blkOk_by (own := [("index", 3)]) (N := N_Draft_entries) (sc := defScope s_Draft_entries) (by decide +kernel)) (fun _ _ _ _ _ => pg_name (i := 3) nd rfl (Or.inl rfl)) (fun _ _ _ _ _ => pts_nil) (fun _ _ _ _ _ => (pe_op op_sub (pe_un un_neg pe_int) (pv 3))))))
    (pss_one (ps_ret (pe_lc (own := [("page", 2)]) (g := gName 2) (by rfl) nd (pi_list (pv 1)) (blkOk_by (own := [("page", 2)]) (N := N_Draft_entries) (sc := defScope s_Draft_entries) (by decide +kernel)) (fun _ _ _ _ _ => pg_name (i := 2) nd rfl (Or.inl rfl)) (fun _ _ _ _ _ => pts_nil) (fun _ _ _ _ _ => (pe_tup (pa_cons (pv 2) (pa_cons (pe_dget1 (by exact hu) (pe_fldK (K := K) (pv 0) rfl) (pv 2) ⟨by rfl, by rfl, by rfl, by rfl⟩) (pa_cons (pe_dget (by exact hu) (pe_fldK (K := K) (pv 0) rfl) (pv 2) (fun _ _ => rfl)) pa_nil)))))))))), ?_⟩
  obtain ⟨dx, ho⟩ := d.ob
  obtain ⟨kvs, hk, hkv⟩ := id d.rcs
  have npr : p ≠ fr.ra := ne_of ho hk (by intro z; cases z)
  have hkeys : (st.recs.map fun x => (x.1, x.2.d)).map (·.1) = st.recs.map (·.1) := by rw [List.map_map]; rfl
  have hlen : kvs.length = (st.recs.map (·.1)).length := by rw [hkv.length, List.length_map, List.length_map]
  -- the keys that are not negative
  refine ⟨fr.ra, _, hk, trivial, fun od => ?_⟩
  generalize hHl : upd H fr.ra (.frz od (.dK kvs)) = Hl
  have l1 : ∀ b o, H b = some o → b ≠ fr.ra → Hl b = some o := fun b o h hb => by rw [← hHl, upd_ne hb]; exact h
  have l2 : Hl fr.ra = some (.frz od (.dK kvs)) := by rw [← hHl, upd_same]
  refine ⟨_, rfl, p, C, dx, _, _, rfl, l1 _ _ ho npr, Tc.cl, Tc.nR, lk_records _ _, fr.ra, od, rfl, .inl ⟨kvs, l2, ?_⟩⟩
  intro D hD
  refine lc_it walk_keys (fun i H' => Ex Hl H' ∧ H' D = some (.lst ((((st.recs.map (·.1)).take i).filter fun q => decide (0 ≤ q)).map V.int))) ⟨Ex.new hD, upd_same⟩ (fun i H' _ p => p.1 _ _ l2) ?_ ?_
  · rintro i x H1 H2 hi ⟨e1, hD1⟩ ⟨rfl, kk, v, hkk, rfl⟩
    obtain ⟨q, hq, rfl⟩ := hkv.key hkk
    rw [hkeys] at hq
    show wipe ((wipe _ [2]).set 2 (some (.int q))) [2] = wipe _ [2] ∧ _
    refine ⟨wipe1_set _ _ _, ?_⟩
    refine ⟨_, rfl, _, _, rfl, rfl, _, rfl, ?_⟩
    refine ite2 (fun hc => ?_) (fun hc => ?_)
    · refine ⟨_, rfl, _, hD1, ?_, ?_⟩
      · rw [List.length_map]
        refine sz_lt ?_
        have := List.length_filter_le (fun q => decide ((0 : Int) ≤ q)) ((st.recs.map (·.1)).take i)
        have := List.length_take_le' i (st.recs.map (·.1))
        rw [List.length_map] at this
        omega
      · refine ⟨fun b o h => ?_, ?_⟩
        · rw [upd_ne (ne_of_none h hD)]
          exact e1 b o h
        · rw [upd_same, filter_take _ hq, if_pos hc, List.map_append]
          rfl
    · refine ⟨e1, ?_⟩
      rw [hD1, filter_take _ hq, if_neg hc, List.append_nil]
  · rintro H1 ⟨e1, hD1⟩
    rw [hlen, List.take_length] at hD1
    refine ⟨e1 _ _ l2, ?_⟩
    generalize hH2 : upd H1 fr.ra (.dK kvs) = H2
    have nDr : D ≠ fr.ra := (ne_of_none l2 hD).symm
    have e2 : Ex H H2 := fun b o h => by
      rw [← hH2]
      by_cases hb : b = fr.ra
      · rw [hb] at h ⊢
        rw [upd_same, ← hk, h]
      · rw [upd_ne hb]
        exact e1 _ _ (l1 b o h hb)
    have hD2 : H2 D = some (.lst (((st.recs.map (·.1)).filter fun q => decide (0 ≤ q)).map V.int)) := by rw [← hH2, upd_ne nDr]; exact hD1
    refine ⟨D, _, rfl, SqL.of hD2, fun ns pp hperm hsort hpp => ?_⟩
    generalize hH3 : upd H2 pp (.lst (ns.map V.int)) = H3
    have e3 : Ex H H3 := by rw [← hH3]; exact e2.add hpp
    have hp3 : H3 pp = some (.lst (ns.map V.int)) := by rw [← hH3]; exact upd_same
    have ho3 := e3 _ _ ho
    -- pages + [-1 - index ..]
    refine ⟨_, rfl, _, rfl, p, C, dx, _, _, rfl, ho3, Tc.cl, Tc.nF, lk_fresh _ _, _, rfl, _, rfl, by omega, by omega, ?_⟩
    rw [show (-(-(st.fresh : Int))).toNat = st.fresh by omega]
    intro D2 hD2'
    refine lc_range (lo := 0) (n := st.fresh) (fun i H' => Ex H3 H' ∧ H' D2 = some (.lst (((List.range i).map fun (j : Nat) => -1 - (j : Int)).map V.int))) ⟨Ex.new hD2', upd_same⟩ ?_ ?_
    · rintro i H4 hi ⟨e4, hD4⟩
      show wipe ((wipe _ [3]).set 3 (some (.int (0 + (i : Int))))) [3] = wipe _ [3] ∧ _
      refine ⟨wipe1_set _ _ _, ?_⟩
      refine ⟨_, rfl, _, rfl, _, _, rfl, rfl, _, hD4, ?_, ?_⟩
      · rw [List.length_map, List.length_map, List.length_range]
        exact sz_lt (by omega)
      · refine ⟨fun b o h => ?_, ?_⟩
        · rw [upd_ne (ne_of_none h hD2')]
          exact e4 b o h
        · rw [upd_same, List.range_succ, List.map_append, List.map_append]
          have : -1 - (0 + (i : Int)) = -1 - (i : Int) := by omega
          show some (HO.lst (_ ++ [V.int (-1 - (0 + (i : Int)))])) = _
          rw [this]
          rfl
    · rintro H4 ⟨e4, hD4⟩
      have hfl : ns.length ≤ 9000 := by
        rw [hperm.length_eq]
        have := List.length_filter_le (fun q => decide ((0 : Int) ≤ q)) (st.recs.map (·.1))
        rw [List.length_map] at this
        omega
      refine ⟨pp, D2, _, _, rfl, rfl, e4 _ _ hp3, hD4, ?_, fun q hq => ?_⟩
      · rw [List.length_map, List.length_map, List.length_map, List.length_range]
        exact sz_of (by omega)
      generalize hH5 : upd H4 q (.lst (ns.map V.int ++ ((List.range st.fresh).map fun (j : Nat) => -1 - (j : Int)).map V.int)) = H5
      have e5 : Ex H H5 := by rw [← hH5]; exact (e3.trans e4).add hq
      have hq5 : H5 q = some (.lst ((ns ++ st.news).map V.int)) := by rw [← hH5, upd_same, List.map_append]; rfl
      have d5 := d.x e5
      have ho5 := e5 _ _ ho
      have hin : ∀ x ∈ ns ++ st.news, ∃ r, alook st.recs x = some r := fun x hx => by
        rcases List.mem_append.mp hx with hx | hx
        · have h1 : x ∈ st.recs.map (·.1) := (List.mem_filter.mp (hperm.mem_iff.mp hx)).1
          cases hc : alook st.recs x with
          | some r => exact ⟨r, rfl⟩
          | none => exact absurd h1 (alook_none.mp hc)
        · obtain ⟨j, hj, rfl⟩ := List.mem_map.mp hx
          exact Option.isSome_iff_exists.mp (hnew j (List.mem_range.mp hj))
      refine ⟨_, rfl, q, rfl, ⟨_, SqL.of hq5⟩, fun D3 hD3 => ?_⟩
      refine lc_list (K := K) (a := q) (xs := (ns ++ st.news).map V.int) (fun i H' => Ex H5 H' ∧ ∃ ys, H' D3 = some (.lst ys) ∧ DnAll H' ys (((ns ++ st.news).take i).map fun x => (st.entry x).d)) ⟨Ex.new hD3, [], upd_same, .nil⟩ (fun i H' _ p => SqL.of (p.1 _ _ hq5)) ?_ ?_
      · rintro i x H6 hx ⟨e6, ys, hy, hdy⟩
        rw [List.getElem?_map] at hx
        obtain ⟨y, hy2, rfl⟩ := Option.map_eq_some_iff.mp hx
        show wipe ((wipe _ [2]).set 2 (some (.int y))) [2] = wipe _ [2] ∧ _
        refine ⟨wipe1_set _ _ _, ?_⟩
        have d6 := d5.x e6
        have ho6 := e6 _ _ ho5
        obtain ⟨r, hr'⟩ := hin y (List.mem_of_getElem? hy2)
        obtain ⟨rv, hg, drv⟩ := d6.rcs.get hr'
        obtain ⟨kv2, hk2⟩ := d6.adr.is
        have hlen6 : ys.length < 100000 := by
          have a1 := hdy.length
          have a2 := List.length_take_le' i (ns ++ st.news)
          rw [List.length_map] at a1
          have a3 : st.news.length = st.fresh := by unfold Dr.news; rw [List.length_map, List.length_range]
          rw [List.length_append] at a2
          omega
        -- the entry
        have fin : ∀ (o : Option V) , Dn H6 (o.getD .non) (bd (alook st.addrs y)) → ∀ t, H6 t = none → ∃ acc, upd H6 t (.tup [.int y, o.getD .non, rv]) D3 = some (.lst acc) ∧ acc.length < sizeLine ∧
            (Ex H5 (upd (upd H6 t (.tup [.int y, o.getD .non, rv])) D3 (.lst (acc ++ [.ref t]))) ∧ ∃ ys, upd (upd H6 t (.tup [.int y, o.getD .non, rv])) D3 (.lst (acc ++ [.ref t])) D3 = some (.lst ys) ∧ DnAll (upd (upd H6 t (.tup [.int y, o.getD .non, rv])) D3 (.lst (acc ++ [.ref t]))) ys (((ns ++ st.news).take (i + 1)).map fun x => (st.entry x).d)) := fun o hdo t ht => by
          have ntD : D3 ≠ t := fun z => by rw [← z, hy] at ht; cases ht
          have et : ExT H6 (upd (upd H6 t (.tup [.int y, o.getD .non, rv])) D3 (.lst (ys ++ [.ref t]))) := (Ex.new ht).t.trans (ExT.put fun zs z => by rw [upd_ne ntD, hy] at z; cases z)
          refine ⟨ys, by rw [upd_ne ntD]; exact hy, sz_lt hlen6, fun b o h => ?_, ys ++ [.ref t], upd_same, ?_⟩
          · rw [upd_ne (ne_of_none h hD3), upd_ne (ne_of_none (e6 _ _ h) ht)]
            exact e6 _ _ h
          · have e7 : ((ns ++ st.news).take (i + 1)).map (fun x => (st.entry x).d) = ((ns ++ st.news).take i).map (fun x => (st.entry x).d) ++ [(st.entry y).d] := by
              obtain ⟨hi, e⟩ := List.getElem?_eq_some_iff.mp hy2
              rw [List.take_succ_eq_append_getElem hi, List.map_append, e]
              rfl
            rw [e7]
            have htup : upd (upd H6 t (.tup [.int y, o.getD .non, rv])) D3 (.lst (ys ++ [.ref t])) t = some (.tup [.int y, o.getD .non, rv]) := by rw [upd_ne ntD.symm, upd_same]
            refine (hdy.t et).append (.cons (.tup htup (.cons (.int _) (.cons (hdo.t et) (.cons ?_ .nil)))) .nil)
            show Dn _ rv ((alook st.recs y).getD (.free 0)).d
            rw [hr']
            exact drv.t et
        cases ha : alook st.addrs y with
        | some a =>
          obtain ⟨av, hga, dav⟩ := d6.adr.get ha
          cases dav
          have := fin (some (.int a)) (by rw [ha]; exact .int a)
          exact ⟨_, rfl, _, rfl, p, C, dx, _, _, rfl, ho6, Tc.cl, Tc.nA, lk_addresses _ _, fr.aa, rfl, .inl ⟨kv2, .inl hk2⟩, _, rfl, some (.int a), hga, _, rfl, p, C, dx, _, _, rfl, ho6, Tc.cl, Tc.nR, lk_records _ _, _, rfl, fr.ra, rv, rfl, hg, by show 3 ≤ sizeLine; decide, this⟩
        | none =>
          have hga := d6.adr.get0 ha
          have := fin none (by rw [ha]; exact .non)
          exact ⟨_, rfl, _, rfl, p, C, dx, _, _, rfl, ho6, Tc.cl, Tc.nA, lk_addresses _ _, fr.aa, rfl, .inl ⟨kv2, .inl hk2⟩, _, rfl, none, hga, _, rfl, p, C, dx, _, _, rfl, ho6, Tc.cl, Tc.nR, lk_records _ _, _, rfl, fr.ra, rv, rfl, hg, by show 3 ≤ sizeLine; decide, this⟩
      · rintro H6 ⟨e6, ys, hy, hdy⟩
        rw [List.length_map, List.take_length] at hdy
        refine k ((ns ++ st.news).map st.entry) D3 H6 (e5.trans e6) (e5.free hD3) ⟨ys, hy, by rw [List.map_map]; exact hdy⟩ ⟨ns, hperm, rfl⟩
end
end Esp
set_option Elab.async false
set_option linter.all false
set_option maxRecDepth 100000
set_option maxHeartbeats 4000000
namespace Esp
open PySem PySem.Spec PyProof.Rows L2
theorem pair_up_live {path : List Step} {st st' : Dr} {i m : Nat} {sl sr : Step} {rl rr r' : Rec} (h : Pair path st i m sl rl sr rr (.up st' r')) : r'.live = true := by
  cases h <;> rfl
theorem settle_up_live {path : List Step} {sibs : List (Int × Step)} {st st' : Dr} {i : Nat} {r r' : Rec} (h : Settle path sibs st i r (.up st' r')) : r'.live = true := by
  cases h with
  | cut => rfl
  | uniteL hp hq hr hpl hl hs ho hn hv hbl hb1 hb2 hpr => exact pair_up_live hpr
  | uniteR hp hq hr hpl hl hs ho hn hv hbl hb1 hb2 hpr => exact pair_up_live hpr
def lenN (n m : Nat) (st st' : Dr) : Prop := st'.recs.length ≤ st.recs.length + n ∧ st'.addrs.length ≤ st.addrs.length + n ∧ st'.fresh ≤ st.fresh + m
abbrev lenOk (st st' : Dr) : Prop := lenN 3 2 st st'
theorem lenN.trans {a b c d : Nat} {s0 s1 s2 : Dr} (h : lenN a b s0 s1) (g : lenN c d s1 s2) : lenN (a + c) (b + d) s0 s2 := by
  obtain ⟨h1, h2, h3⟩ := h
  obtain ⟨g1, g2, g3⟩ := g
  exact ⟨by omega, by omega, by omega⟩
theorem lenN.mono {a b c d : Nat} {s0 s1 : Dr} (h : lenN a b s0 s1) (x : a ≤ c) (y : b ≤ d) : lenN c d s0 s1 := by
  obtain ⟨h1, h2, h3⟩ := h
  exact ⟨by omega, by omega, by omega⟩
theorem lenN_give (st : Dr) (s : Step) (r : Rec) : lenN 1 0 st (st.give s r) := ⟨(give_len st s r).1, (give_len st s r).2, Nat.le_refl _⟩
theorem lenN_add (st : Dr) (r : Rec) : lenN 1 1 st (st.add r) := ⟨(add_len st r).1, by rw [(add_len st r).2]; omega, Nat.le_refl _⟩
theorem lenN_refl (st : Dr) : lenN 0 0 st st := ⟨Nat.le_refl _, Nat.le_refl _, Nat.le_refl _⟩
theorem pair_len {path : List Step} {st : Dr} {i m : Nat} {sl sr : Step} {rl rr : Rec} {res : Res} (h : Pair path st i m sl rl sr rr res) : lenOk st (res.st st) := by
  cases h with
  | cut => exact ((lenN_give _ _ _).trans (lenN_give _ _ _)).mono (by omega) (by omega)
  | up => exact ((lenN_give _ _ _).trans (lenN_give _ _ _)).mono (by omega) (by omega)
  | root => exact (((lenN_give _ _ _).trans (lenN_give _ _ _)).trans (lenN_give _ _ _)).mono (by omega) (by omega)
theorem settle_len {path : List Step} {sibs : List (Int × Step)} {st : Dr} {i : Nat} {r : Rec} {res : Res} (h : Settle path sibs st i r res) : lenOk st (res.st st) := by
  cases h with
  | give => exact (lenN_give _ _ _).mono (by omega) (by omega)
  | root => exact (((lenN_add _ _).trans (lenN_add _ _)).trans (lenN_give _ _ _)).mono (by omega) (by omega)
  | cut => exact ((lenN_give _ _ _).trans (lenN_add _ _)).mono (by omega) (by omega)
  | read => exact (lenN_refl _).mono (by omega) (by omega)
  | uniteL hp hq hr hpl hl hs ho hn hv hbl hb1 hb2 hpr => exact pair_len hpr
  | uniteR hp hq hr hpl hl hs ho hn hv hbl hb1 hb2 hpr => exact pair_len hpr
inductive PlanRes where
  | ans (d : PyData)
  | read (q : Int)
  | change (d : PyData) (st : Dr)
inductive PlanR (c : Call) (path : List Step) (sibs : List (Int × Step)) : PlanRes → Prop
  | ans {fs : List Step} {s : Step} {lo hi : Option Int} {ks vs : List Int} (hp : path = fs ++ [s]) (hr : s.rcd = .leaf lo hi ks vs) (z : ks.length ≤ 100) (l : ks.length = vs.length) (ha : c.act (lkp ks vs c.key) = none) : PlanR c path sibs (.ans (c.ans (lkp ks vs c.key)))
  | read {fs : List Step} {s : Step} {lo hi : Option Int} {ks vs : List Int} {a : Option Int} {q : Int} (hp : path = fs ++ [s]) (hr : s.rcd = .leaf lo hi ks vs) (z : ks.length ≤ 100) (l : ks.length = vs.length) (ha : c.act (lkp ks vs c.key) = some a)
      (ho : (actRec lo hi ks vs c.key a).Ok) (hl : Loop path sibs ⟨[], [], 0⟩ fs.length (actRec lo hi ks vs c.key a) (.inr q)) : PlanR c path sibs (.read q)
  | change {fs : List Step} {s : Step} {lo hi : Option Int} {ks vs : List Int} {a : Option Int} {st : Dr} (hp : path = fs ++ [s]) (hr : s.rcd = .leaf lo hi ks vs) (z : ks.length ≤ 100) (l : ks.length = vs.length) (ha : c.act (lkp ks vs c.key) = some a)
      (ho : (actRec lo hi ks vs c.key a).Ok) (hl : Loop path sibs ⟨[], [], 0⟩ fs.length (actRec lo hi ks vs c.key a) (.inl st)) (hn : ∀ i : Nat, i < st.fresh → (alook st.recs (-1 - (i : Int))).isSome = true) : PlanR c path sibs (.change (c.ans (lkp ks vs c.key)) st)
/-- how a plan stands in the heap -/
def PlanAt (H : Hp) (v : V) : PlanRes → Prop
  | .ans d => Dn H v (.tuple [.str "answer", d])
  | .read q => Dn H v (.tuple [.str "read", .int q])
  | .change d st => ∃ E a av e, v = .ref a ∧ H a = some (.tup [.str "change", av, .ref e]) ∧ Dn H av d ∧ LsAt H e (E.map Entry.d) ∧ EntriesOf st E
def spPlan : Sp := fun vs H Q _ => ∃ (c : Call) (path : List Step) (sibs : List (Int × Step)) (cv : V) (pa sa : Addr) (res : PlanRes), vs = [cv, .ref pa, .ref sa] ∧ Dn H cv c.d ∧ LsAt H pa (path.map Step.d) ∧ DkT Step.d H sa sibs ∧ path.length ≤ 100 ∧ PlanR c path sibs res ∧
  ∀ v H', Ex H H' → PlanAt H' v res → Q v H'
theorem pe_mkd {X : Cx} {C : Addr} {k j : Nat} {x : Str} {ps : List Str} {sp : Sp} {e : Expr} {es : List Expr} {p pos : Pos} {t : TA} (c : ∃ f fd, Mk X.K C f ∧ FnOk X.prog X.w X.K X.mg X.base CX0 k f fd ps sp ∧ Binds X.K fd ps []) (hr : Room j X.A) (hj : k + 1 ≤ j) (hg : Gl X x) (hm : X.mg x = some (.ref C))
    (ha : PA X (e :: es) t) (hdb : (x == ("__debug__" : Str)) = false := by decide) (he : starEach (e :: es) X.env = (false, eval e X.env) :: starEach es X.env := by rfl) (hpl : (backTo pos (starEach es X.env)).any (·.1) = false := by rfl) : PE X (.Call (.Name x p) (e :: es) [] pos) (tMake C sp [] E0 t) := by
  obtain ⟨f, fd, h1, h2, h3⟩ := c
  exact pe_make h1 h2 (hr.mono hj) hg hm h3 .nil pass0 ha hdb he hpl
theorem done_read : ¬ (("done" : Str) = "read") := by decide +kernel
theorem done_stale : ¬ (("done" : Str) = "stale") := by decide +kernel
theorem up_read : ¬ (("up" : Str) = "read") := by decide +kernel
theorem up_stale : ¬ (("up" : Str) = "stale") := by decide +kernel
theorem up_done : ¬ (("up" : Str) = "done") := by decide +kernel
theorem ev_last {K : PySem.W.Frag} {σ : L2.St} {H : Hp} {i : Nat} {pa : Addr} {ds : List PyData} {d : PyData} (h0 : σ[i]? = some (some (.ref pa))) (h : LsAt H pa (ds ++ [d])) : EV σ H (tOp (rIxL K) (tVar i) (tUn (rU fun i => .int (-i)) (tC (.int 1)))) d := fun H1 e1 Q q => by
  obtain ⟨xs, hx, hd⟩ := h.x e1
  obtain ⟨v, e3, hv⟩ := atI_dn (i := -1) (d := d) hd (atI_last ds d)
  exact ⟨_, h0, _, rfl, _, _, _, v, rfl, rfl, SqL.of hx, e3, q v H1 (Ex.refl _) hv⟩
theorem Ex.chg {H H1 H2 : Hp} {p : Addr} {fr : Fr} (e : Ex H H1) (hp : H p = none) (hr : H fr.ra = none) (ha : H fr.aa = none) (c : Chg p fr H1 H2) : Ex H H2 := fun b o h => c.keep b o (e b o h) (ne_of_none h hp) (ne_of_none h hr) (ne_of_none h ha)
section
variable {P : Program} {w : World} {K : PySem.W.Frag} {mg : Str → Option Value} {base : Heap} {C : Addr}
abbrev N_plan : List Str := ["call", "path", "siblings", "draft", "index", "answer", "record", "kind", "value"]
theorem sc_plan : FnScope N_plan ["call", "path", "siblings"] (defScope s_plan) := ⟨rfl, rfl, rfl, by decide +kernel, rfl, by decide +kernel, by decide +kernel⟩
theorem ok_plan {f : Addr} {fd : FuncData} (F : FnP K "plan" "plan" s_plan f fd) (T : Bu mg) (Tc : TC K mg C) (c_leaf_change : Cal P w K mg base 8 "leaf_change" ["call", "record"] (spF R_leaf_change)) (c_Draft_init : ∃ f fd, Mk K C f ∧ FnOk P w K mg base CX0 1 f fd ["self", "path", "siblings"] (spInit C) ∧ Binds K fd ["self", "path", "siblings"] [])
    (c_Draft_settle : MCal P w K mg base C 10 "settle" ["self", "index", "record"] (spSettle C fun _ r => r.live = true)) (c_Draft_entries : MCal P w K mg base C 1 "entries" ["self"] (spEntries C)) : FnOk P w K mg base CX0 12 f fd ["call", "path", "siblings"] spPlan := by
  refine F.ok sc_plan (fun vs H Q E h => ?_) (fun cdv A outer s H vs Q E hr h => ?_)
  · obtain ⟨c, path, sibs, cv, pa, sa, res, rfl, _⟩ := h
    rfl
  obtain ⟨c, path, sibs, cv, pa, sa, res, rfl, dc, hpa, hsa, hpl, pr, k⟩ := h
  have nd := sc_plan.nd
  have hu := hu_of hr
  refine ⟨_, PSs.nox (pss_cons (ps_asg (pe_cl c_leaf_change hr (by decide) (by rfl) (pa_cons (pv 0) (pa_cons (pe_ix ix_tup (pe_ix ix_list (pv 1) (pe_un un_neg pe_int) (fun _ _ => rfl)) pe_int (fun _ _ => rfl)) pa_nil))) (pg_tup rfl (pgs_cons (pg_name (i := 5) nd rfl (Or.inl rfl)) (pgs_cons (pg_name (i := 6) nd rfl (Or.inl rfl)) pgs_nil))))
    (pss_cons (ps_if (pt_cmpR op_isN1 (pv 6) pe_non (nomark _)) (pss_one (ps_ret (pe_tup (pa_cons pe_str (pa_cons (pv 5) pa_nil))))) pss_nil)
    (pss_cons (ps_set (i := 3) nd rfl (Or.inl rfl) (pe_mkd c_Draft_init hr (by decide) (by rfl) Tc.mgC (pa_cons (pv 1) (pa_cons (pv 2) pa_nil))))
    (pss_cons (ps_for PassesOwn.never rfl (pi_range3 (by rfl) T.range (pa_cons (pe_op op_sub (pe_callB call_lenS (by rfl) T.len (by decide +kernel) (pa_cons (pv 1) pa_nil)) pe_int) (pa_cons (pe_un un_neg pe_int) (pa_cons (pe_un un_neg pe_int) pa_nil)))) (pg_name (i := 4) nd rfl (Or.inl rfl))
    (pss_cons (ps_asg (pe_mt (pv 3) Tc.cl c_Draft_settle hr (by decide) (pa_cons (pv 4) (pa_cons (pv 6) pa_nil))) (pg_tup rfl (pgs_cons (pg_name (i := 7) nd rfl (Or.inl rfl)) (pgs_cons (pg_name (i := 8) nd rfl (Or.inl rfl)) pgs_nil))))
    (pss_cons (ps_if (pt_cmpR op_eq (pv 7) pe_str (nomark _)) (pss_one (ps_ret (pe_tup (pa_cons pe_str (pa_cons (pv 8) pa_nil))))) pss_nil)
    (pss_cons (ps_if (pt_cmpR op_eq (pv 7) pe_str (nomark _)) (pss_one (ps_ret (pe_tup (pa_cons pe_str pa_nil)))) pss_nil)
    (pss_cons (ps_if (pt_cmpR op_eq (pv 7) pe_str (nomark _)) (pss_one ps_break) pss_nil)
    (pss_one (ps_set (i := 6) nd rfl (Or.inl rfl) (pv 8))))))))
    (pss_one (ps_ret (pe_tup (pa_cons pe_str (pa_cons (pv 5) (pa_cons (pe_mt0 (pv 3) Tc.cl c_Draft_entries hr (by decide)) pa_nil)))))))))), ?_⟩
  -- the leaf's change
  have front : ∀ {fs : List Step} {s : Step} {lo hi : Option Int} {ks vs : List Int} {rest : TS} {D : Ends}, path = fs ++ [s] → s.rcd = .leaf lo hi ks vs → ks.length ≤ 100 → ks.length = vs.length → (∀ a, c.act (lkp ks vs c.key) = some a → (actRec lo hi ks vs c.key a).Ok) →
      (∀ av rv H1, Ex H H1 → Dn H1 av (c.ans (lkp ks vs c.key)) → Dn H1 rv (orNon ((c.act (lkp ks vs c.key)).map (actRec lo hi ks vs c.key))) → rest D [some cv, some (.ref pa), some (.ref sa), none, none, some av, some rv, none, none] H1) →
      tSeq (tAsg (tCall (spF R_leaf_change) [] E0 (tCons (tVar 0) (tCons (tOp (rIxT K) (tOp (rIxL K) (tVar 1) (tUn (rU fun i => .int (-i)) (tC (.int 1)))) (tC (.int 2))) tNil))) (gTup K 2 (gCons (gName 5) (gCons (gName 6) gNil)))) rest D [some cv, some (.ref pa), some (.ref sa), none, none, none, none, none, none] H := by
    intro fs s lo hi ks vs rest D hp hsr hz hl ho kk
    subst hp
    rw [List.map_append] at hpa
    refine cs_unp2 (ev_call (eva_cons (ev_var rfl dc) (eva_cons (ev_is (ev_rcd (ev_last (i := 1) rfl hpa)) (by rw [hsr])) eva_nil)) ⟨c, lo, hi, ks, vs, hz, hl, ho, rfl, rfl⟩) fun av rv H1 e1 d1 d2 => ?_
    exact kk av rv H1 e1 d1 d2
  -- the two kinds of end
  have cs : (∃ (fs : List Step) (s : Step) (lo hi : Option Int) (ks vs : List Int), path = fs ++ [s] ∧ s.rcd = .leaf lo hi ks vs ∧ ks.length ≤ 100 ∧ ks.length = vs.length ∧ c.act (lkp ks vs c.key) = none ∧ res = .ans (c.ans (lkp ks vs c.key))) ∨
      ∃ (fs : List Step) (s : Step) (lo hi : Option Int) (ks vs : List Int) (a : Option Int) (resL : Dr ⊕ Int), path = fs ++ [s] ∧ s.rcd = .leaf lo hi ks vs ∧ ks.length ≤ 100 ∧ ks.length = vs.length ∧ c.act (lkp ks vs c.key) = some a ∧ (actRec lo hi ks vs c.key a).Ok ∧ Loop path sibs ⟨[], [], 0⟩ fs.length (actRec lo hi ks vs c.key a) resL ∧
        (∀ st, resL = .inl st → ∀ i : Nat, i < st.fresh → (alook st.recs (-1 - (i : Int))).isSome = true) ∧ ∀ v H', Ex H H' → PlanAt H' v (match resL with
          | .inl st => .change (c.ans (lkp ks vs c.key)) st
          | .inr q => .read q) → Q v H' := by
    cases pr with
    | @ans fs s lo hi ks vs hp hsr hz hl ha => exact .inl ⟨fs, s, lo, hi, ks, vs, hp, hsr, hz, hl, ha, rfl⟩
    | @read fs s lo hi ks vs a q hp hsr hz hl ha ho hlp => exact .inr ⟨fs, s, lo, hi, ks, vs, a, .inr q, hp, hsr, hz, hl, ha, ho, hlp, (fun st h => by cases h), k⟩
    | @change fs s lo hi ks vs a st hp hsr hz hl ha ho hlp hn => exact .inr ⟨fs, s, lo, hi, ks, vs, a, .inl st, hp, hsr, hz, hl, ha, ho, hlp, (fun st h => by cases h; exact hn), k⟩
  rcases cs with ⟨fs, s, lo, hi, ks, vs, hp, hsr, hz, hl, ha, rfl⟩ | ⟨fs, s, lo, hi, ks, vs, a, resL, hp, hsr, hz, hl, ha, ho, hlp, hn, k⟩
  · refine front hp hsr hz hl (fun a h => by rw [ha] at h; cases h) fun av rv H1 e1 d1 d2 => ?_
    rw [ha] at d2
    refine cs_yes (evt_test (ev_op (ev_var (i := 6) rfl d2) ev_non rd_isN)) rfl fun H2 e2 => ?_
    refine cs_ret (ev_tup (eva_cons ev_str (eva_cons (ev_var (i := 5) rfl (d1.x e2)) eva_nil))) fun v H3 e3 d3 => ?_
    exact k v H3 ((e1.trans e2).trans e3) d3
  · clear pr
    refine front hp hsr hz hl (fun a' h => by rw [ha] at h; cases h; exact ho) fun av rv H1 e1 d1 d2 => ?_
    rw [ha] at d2
    have hlive : (actRec lo hi ks vs c.key a).live = true := by cases a <;> rfl
    have hnn : isNon (actRec lo hi ks vs c.key a).d = false := by cases a <;> rfl
    refine cs_no (evt_test (ev_op (ev_var (i := 6) rfl d2) ev_non rd_isN)) hnn fun H2 e2 => ?_
    have e12 := e1.trans e2
    -- draft = Draft(path, siblings)
    refine ⟨_, rfl, _, rfl, fun x dx hx hdx hne => ?_⟩
    refine ⟨x, dx, pa, sa, rfl, upd_same, fun ra aa H3 h1 h2 h3 h4 h5 h6 h7 => ⟨rfl, ?_⟩⟩
    have same : ∀ b o, H2 b = some o → (upd (upd H2 dx (.own x)) x (.ins C dx [])) b = some o := fun b o h => by rw [upd_ne (ne_of_none h hx), upd_ne (ne_of_none h hdx)]; exact h
    have free2 : ∀ b, (upd (upd H2 dx (.own x)) x (.ins C dx [])) b = none → H2 b = none := fun b h => by
      cases q : H2 b with
      | none => rfl
      | some o => rw [same b o q] at h; cases h
    have e3 : Ex H2 H3 := fun b o h => h7 b o (same b o h) (ne_of_none h hx)
    have e13 := e12.trans e3
    have fx : H x = none := e12.free hx
    have fra : H ra = none := e12.free (free2 ra h1)
    have faa : H aa = none := e12.free (free2 aa h2)
    obtain ⟨kvs, hsk⟩ := hsa.is
    have d0 : DraftAt C H3 x ⟨pa, sa, ra, aa⟩ path sibs ⟨[], [], 0⟩ := ⟨⟨dx, h4⟩, hpa.x e13, hsa.x e13, ⟨_, h5, .nil⟩, ⟨_, h6, .nil⟩, h3, ne_of_none hsk fra, ne_of_none hsk faa⟩
    have hpl1 : path.length = fs.length + 1 := by rw [hp, List.length_append]; rfl
    obtain ⟨xs, hxs, hxd⟩ := hpa.x e13
    have hxl : xs.length = fs.length + 1 := by rw [hxd.length, List.length_map, hpl1]
    refine ⟨_, rfl, pa, xs, rfl, .inl (SqL.of hxs), ?_⟩
    refine ⟨_, _, rfl, rfl, _, rfl, _, rfl, _, _, _, _, rfl, RgC.neg (by omega) (by omega) (by decide) (by decide), ?_⟩
    have en : ((xs.length : Int) - 1 - -1).toNat = fs.length + 1 := by omega
    show ∃ W : Nat → Nat → L2.St → Hp → Prop, (∃ m, W 0 m _ _) ∧ _
    have hlo : (xs.length : Int) - 1 = (fs.length : Int) := by omega
    refine for_rangeC (lo := (xs.length : Int) - 1) (c := -1) (fun t σ' H' => ∃ (st : Dr) (r : Rec) (rv' : V) (i : Nat) (o1 o2 o3 : Option V), i + t = fs.length ∧ Loop path sibs st i r resL ∧ r.live = true ∧ DraftAt C H' x ⟨pa, sa, ra, aa⟩ path sibs st ∧ Dn H' rv' r.d ∧ Dn H' av (c.ans (lkp ks vs c.key)) ∧ Ex H H' ∧
      st.recs.length ≤ 3 * t ∧ st.addrs.length ≤ 3 * t ∧ st.fresh ≤ 2 * t ∧ σ' = [some cv, some (.ref pa), some (.ref sa), some (.ref x), o1, some av, some rv', o2, o3]) ?_ ?_ ?_
    · exact ⟨⟨[], [], 0⟩, _, rv, fs.length, none, none, none, rfl, hlp, hlive, d0, d2.x (e2.trans e3), d1.x (e2.trans e3), e13, Nat.le_refl _, Nat.le_refl _, Nat.le_refl _, rfl⟩
    · rintro t σ' H4 ht ⟨st, r, rv', i, o1, o2, o3, hit, hL, hrl, d4, drv, dav, e4, z1, z2, z3, rfl⟩
      have hidx : ((xs.length : Int) - 1 + (t : Nat) * -1) = (i : Int) := by omega
      show (fun σ2 H2 => _) [some cv, some (.ref pa), some (.ref sa), some (.ref x), some (.int ((xs.length : Int) - 1 + (t : Nat) * -1)), some av, some rv', o2, o3] H4
      rw [hidx]
      obtain ⟨dx4, ho4⟩ := d4.ob
      -- kind, value = draft.settle(index, record)
      have settle : ∀ {rs : Res} {rest : TS} {D : Ends}, Settle path sibs st i r rs → (∀ kv vv H5, Chg x ⟨pa, sa, ra, aa⟩ H4 H5 → DraftAt C H5 x ⟨pa, sa, ra, aa⟩ path sibs (rs.st st) → Dn H5 kv (match rs with
            | .done _ => .str "done"
            | .up _ _ => .str "up"
            | .read _ => .str "read") → Dn H5 vv (match rs with
            | .done _ => .none
            | .up _ r => r.d
            | .read q => .int q) → rest D [some cv, some (.ref pa), some (.ref sa), some (.ref x), some (.int (i : Int)), some av, some rv', some kv, some vv] H5) →
          tSeq (tAsg (tMeth C "settle" (spSettle C fun _ r => r.live = true) [] E0 (tVar 3) (tCons (tVar 4) (tCons (tVar 6) tNil))) (gTup K 2 (gCons (gName 7) (gCons (gName 8) gNil)))) rest D [some cv, some (.ref pa), some (.ref sa), some (.ref x), some (.int (i : Int)), some av, some rv', o2, o3] H4 := by
        intro rs rest D hS kk
        refine ⟨_, rfl, x, dx4, _, rfl, ho4, lk_other _ _ (by decide +kernel), _, rfl, _, rfl, ?_⟩
        refine ⟨x, ⟨pa, sa, ra, aa⟩, path, sibs, st, i, r, rs, rv', rfl, d4, drv, by omega, by omega, hS, hrl, fun v H5 c5 d5 dv => ?_⟩
        cases rs with
        | done st' =>
          cases dv with
          | tup g1 g2 => cases g2 with
            | cons q1 g2 => cases g2 with
              | cons q2 g2 =>
                cases g2
                exact ⟨_, _, rfl, SqT.of g1, rfl, _, _, rfl, _, _, rfl, rfl, kk _ _ H5 c5 d5 q1 q2⟩
        | up st' r' =>
          cases dv with
          | tup g1 g2 => cases g2 with
            | cons q1 g2 => cases g2 with
              | cons q2 g2 =>
                cases g2
                exact ⟨_, _, rfl, SqT.of g1, rfl, _, _, rfl, _, _, rfl, rfl, kk _ _ H5 c5 d5 q1 q2⟩
        | read q =>
          cases dv with
          | tup g1 g2 => cases g2 with
            | cons q1 g2 => cases g2 with
              | cons q2 g2 =>
                cases g2
                exact ⟨_, _, rfl, SqT.of g1, rfl, _, _, rfl, _, _, rfl, rfl, kk _ _ H5 c5 d5 q1 q2⟩
      cases hL with
      | @done _ st' _ _ hS =>
        refine settle hS fun kv vv H5 c5 d5 dk dv => ?_
        obtain ⟨l1, l2, l3⟩ := settle_len hS
        refine cs_no (evt_test (ev_op (ev_var (i := 7) rfl dk) ev_str rd_eqS)) (decide_eq_false done_read) fun H6 e6 => ?_
        refine cs_no (evt_test (ev_op (ev_var (i := 7) rfl (dk.x e6)) ev_str rd_eqS)) (decide_eq_false done_stale) fun H7 e7 => ?_
        refine cs_yes (evt_test (ev_op (ev_var (i := 7) rfl (dk.x (e6.trans e7))) ev_str rd_eqS)) (decide_eq_true rfl) fun H8 e8 => ?_
        -- break; return ("change", answer, draft.entries())
        have e58 := (e6.trans e7).trans e8
        have d8 := d5.x e58
        obtain ⟨dx8, ho8⟩ := d8.ob
        have eH8 : Ex H H8 := (e4.chg fx fra faa c5).trans e58
        have dav8 : Dn H8 av (c.ans (lkp ks vs c.key)) := (dav.t c5.tup).x e58
        refine ⟨_, rfl, _, rfl, x, dx8, _, rfl, ho8, lk_other _ _ (by decide +kernel), ?_⟩
        refine ⟨x, ⟨pa, sa, ra, aa⟩, path, sibs, st', rfl, d8, (by have : st'.recs.length ≤ st.recs.length + 3 := l1; omega), (by have : st'.fresh ≤ st.fresh + 2 := l3; omega), hn st' rfl, fun E e H9 e9 he hE1 hE2 => ?_⟩
        refine ⟨by show 3 ≤ sizeLine; decide, fun q hq => ?_⟩
        have e10 := Ex.new (o := .tup [.str "change", av, .ref e]) hq
        exact k _ _ ((eH8.trans e9).trans e10) ⟨E, q, av, e, rfl, upd_same, dav8.x (e9.trans e10), hE1.x e10, hE2⟩
      | @read _ _ _ q hS =>
        refine settle hS fun kv vv H5 c5 d5 dk dv => ?_
        refine cs_yes (evt_test (ev_op (ev_var (i := 7) rfl dk) ev_str rd_eqS)) (decide_eq_true rfl) fun H6 e6 => ?_
        refine cs_ret (ev_tup (eva_cons ev_str (eva_cons (ev_var (i := 8) rfl (dv.x e6)) eva_nil))) fun v H7 e7 d7 => ?_
        exact k v H7 (((e4.chg fx fra faa c5).trans e6).trans e7) d7
      | @up _ st' i r r' _ hS hL' =>
        refine settle hS fun kv vv H5 c5 d5 dk dv => ?_
        obtain ⟨l1, l2, l3⟩ := settle_len hS
        refine cs_no (evt_test (ev_op (ev_var (i := 7) rfl dk) ev_str rd_eqS)) (decide_eq_false up_read) fun H6 e6 => ?_
        refine cs_no (evt_test (ev_op (ev_var (i := 7) rfl (dk.x e6)) ev_str rd_eqS)) (decide_eq_false up_stale) fun H7 e7 => ?_
        refine cs_no (evt_test (ev_op (ev_var (i := 7) rfl (dk.x (e6.trans e7))) ev_str rd_eqS)) (decide_eq_false up_done) fun H8 e8 => ?_
        have e58 := (e6.trans e7).trans e8
        refine ⟨vv, rfl, st', r', vv, i, _, _, _, by omega, hL', settle_up_live hS, d5.x e58, dv.x e58, (dav.t c5.tup).x e58, (e4.chg fx fra faa c5).trans e58, ?_, ?_, ?_, rfl⟩
        · have : st'.recs.length ≤ st.recs.length + 3 := l1; omega
        · have : st'.addrs.length ≤ st.addrs.length + 3 := l2; omega
        · have : st'.fresh ≤ st.fresh + 2 := l3; omega
    · rw [en]
      rintro σ' H4 ⟨st, r, rv', i, o1, o2, o3, hit, _⟩
      omega
end
end Esp
set_option Elab.async false
set_option linter.all false
set_option maxRecDepth 100000
set_option maxHeartbeats 4000000
/-! E13: sorted(d) of a dict of ints, any number of keys. -/
namespace Esp
open PySem PySem.Spec PyProof.Rows L2
section
variable {X : Cx}
theorem call_sortedDA (hcalm : X.calm = true) : CallR X (.builtin "sorted") (fun xs H Q => ∃ (a : Addr) (kvs : List (Key × V)) (ks : List Int), xs = [.ref a] ∧ Rd H a (.dK kvs) ∧ kvs.map (·.1) = ks.map Sum.inl ∧
    ∀ (ys : List Int) (p : Addr), ys.Perm ks → ys.Pairwise (· ≤ ·) → H p = none → Q (.ref p) (upd H p (.lst (ys.map V.int)))) := by
  intro pins s σ H xs us Q I r q
  obtain ⟨a, kvs, ks, ex, hd, hks, q⟩ := q
  subst ex
  obtain ⟨u, eu, rx⟩ := vals1 r
  subst eu
  cases rx
  obtain ⟨z, lo, vs, rel, dd⟩ := dk_rd I.hok hd
  obtain ⟨ep, hat⟩ := dd.dictAt
  have hkeys : vs.map (·.1) = ks.map Sum.inl := rel.keys.symm.trans hks
  have hl : vs.length = ks.length := by
    have e := congrArg List.length hkeys
    rw [List.length_map, List.length_map] at e
    exact e
  have h16 : vs.length ≤ sizeLine := by rw [← rel.length]; exact z
  refine Calls.call_function_entry PyProof.Rows.kind_sorted PyProof.Rows.plain_sorted PyProof.Rows.entry_sorted (PyProof.Rows.args_sorted1 _) ?_
  unfold Builtin.«sorted»
  refine wpAny_bind (m := checkCount "sorted" 1 1 _) (wpAny_pure ?_)
  refine wpAny_bind (PySem.W.kdu_collect (A := X.A.in1) (PySem.W.kdl_dict (knd := mixKind X.prog X.w) (kvs := vs) (ep := ep) lo) (I.ok.hd hcalm) hat h16 fun h' tk acc hk hacc => ?_)
  have hal : acc.toList.length = ks.length := by rw [Array.length_toList, hacc.1, hl]
  have hS : IntsAre acc.toList ks := ints_each hal fun j v e => by
    obtain ⟨k, x, e1, e2⟩ := hacc.2 j v (by rw [← Array.getElem?_toList]; exact e)
    have e3 : (vs.map (·.1))[j]? = some k := by rw [List.getElem?_map, e1]; rfl
    rw [hkeys, List.getElem?_map] at e3
    cases e4 : ks[j]? with
    | none => rw [e4] at e3; cases e3
    | some y =>
      rw [e4] at e3
      have e5 : Sum.inl y = k := Option.some.inj e3
      subst e5
      rcases keyIs_shape (show keyIs (Sum.inl y) v = true from e2) with ⟨i, t, ek, ev⟩ | ⟨z, t, ek, ev⟩
      · cases ek
        exact ⟨y, t, rfl, ev⟩
      · cases ek
  have hz2 : acc.toList.length ≤ sizeLine := by rw [hal, ← hl]; exact h16
  have I1 : Inv X pins σ H { s with heap := h', toks := tk } := I.kept hk
  refine wpAny_bind (wpAny_newList ?_ hz2)
  have hoL : (h'.push (seqObj "list" acc.toList.toArray 0)).get? h'.objs.size = some (seqObj "list" acc.toList.toArray 0) := Heap.get?_push_size _ rfl
  show wpAny _ _ _ _ _ { s with heap := h'.push (seqObj "list" acc.toList.toArray 0), toks := tk }
  refine wpAny_bind (wpAny_holding (wpAny_call_entry PyProof.Rows.slot_list_sort ⟨_, hoL, rfl⟩ PyProof.Rows.entry_list_sort
    (SrtO.list_sort_ord (s := { s with heap := h'.push (seqObj "list" acc.toList.toArray 0), toks := tk }) SrtO.swo_int hoL hz2 (fun h2 => SrtO.ints_sortable hS h2) fun out h1 h2 => ⟨_, rfl, ?_⟩) (PyProof.Rows.args_list_sort _)))
  obtain ⟨k1, k2, k3⟩ := SrtO.ints_out hS h1 h2
  obtain ⟨e', he'⟩ := PyProof.Rows.sortedHeap_at (vs := acc.toList) (out := out.toArray) hoL
  have hlen : ((out.map SrtO.iv).map V.int).length ≤ sizeLine := by
    rw [List.length_map, k2.length_eq, ← hl]
    exact h16
  refine wpAny_pure ⟨_, rfl, .ref h'.objs.size, upd H h'.objs.size (.lst ((out.map SrtO.iv).map V.int)), I1.laid (t' := tk) (fun b u e => ?_) (Nat.le_refl _)
    (show ObjOk X.prog X.w _ _ _ (.lst ((out.map SrtO.iv).map V.int)) from ⟨hlen, out, e', vals_of_ints k1, he'⟩), rfl, q _ _ k2 k3 (I1.hok.fresh (Nat.le_refl _))⟩
  have hb : b < h'.objs.size := Heap.lt_size e
  rw [PyProof.Rows.sortedHeap_old (Nat.ne_of_lt hb) (by rw [size_push']; exact Nat.lt_succ_of_lt hb)]
  exact Heap.get?_push_of_some _ e
end
end Esp
set_option Elab.async false
set_option linter.all false
set_option maxRecDepth 100000
set_option maxHeartbeats 1000000
/-! M3: settle keeps the tree. -/
namespace Esp
def ov (st : Dr) (g : G) : G := fun q => match alook st.recs q with
  | some r => some r
  | none => g q
def Neg (st : Dr) (q : Int) : Prop := -(st.fresh : Int) ≤ q ∧ q < 0
theorem ov_give (st : Dr) (g : G) (s : Step) (r : Rec) (q : Int) : ov (st.give s r) g q = if q = s.page then some r else ov st g q := by
  unfold ov Dr.give
  simp only
  rw [alook_put]
  by_cases e : q = s.page <;> simp [e]
theorem ov_add (st : Dr) (g : G) (r : Rec) (q : Int) : ov (st.add r) g q = if q = -((st.fresh : Int) + 1) then some r else ov st g q := by
  unfold ov Dr.add
  simp only
  rw [alook_put]
  by_cases e : q = -((st.fresh : Int) + 1) <;> simp [e]
theorem ov_out {st : Dr} {g : G} {q : Int} (h : q ∉ st.recs.map (·.1)) : ov st g q = g q := by
  unfold ov
  rw [alook_none.mpr h]
structure DrOk (ad : Int → Option Int) (Q : List Int) (st : Dr) : Prop where
  nd : (st.recs.map (·.1)).Nodup
  dom : ∀ q, q ∈ st.recs.map (·.1) → q ∈ Q ∨ Neg st q
  neg : ∀ q, Neg st q → q ∈ st.recs.map (·.1)
  adr : ∀ q, q ∈ st.recs.map (·.1) → 0 ≤ q → alook st.addrs q = ad q ∧ (ad q).isSome = true
  adn : ∀ q, q < 0 → alook st.addrs q = none
theorem DrOk.empty (ad : Int → Option Int) : DrOk ad [] ⟨[], [], 0⟩ where
  nd := List.nodup_nil
  dom := fun q h => by simp at h
  neg := fun q h => by
    have h1 : -(0 : Int) ≤ q := h.1
    have := h.2
    omega
  adr := fun q h => by simp at h
  adn := fun q _ => rfl
theorem DrOk.mono {ad : Int → Option Int} {Q Q' : List Int} {st : Dr} (h : DrOk ad Q st) (hq : ∀ q ∈ Q, q ∈ Q') : DrOk ad Q' st := ⟨h.nd, fun q m => (h.dom q m).imp (hq q) id, h.neg, h.adr, h.adn⟩
theorem DrOk.give {ad : Int → Option Int} {Q : List Int} {st : Dr} (h : DrOk ad Q st) {s : Step} (hs : s.page ∈ Q) (h0 : 0 ≤ s.page) (ha : ad s.page = some s.addr) (r : Rec) : DrOk ad Q (st.give s r) where
  nd := aput_nd _ _ h.nd
  dom := fun q m => by
    rcases aput_mem.mp m with rfl | m
    · exact .inl hs
    · exact h.dom q m
  neg := fun q m => aput_mem.mpr (.inr (h.neg q m))
  adr := fun q m hq => by
    show alook (aput st.addrs s.page s.addr) q = ad q ∧ _
    rw [alook_put]
    by_cases e : q = s.page
    · rw [if_pos e, e, ha]
      exact ⟨rfl, rfl⟩
    · rw [if_neg e]
      rcases aput_mem.mp m with z | m
      · exact absurd z e
      · exact h.adr q m hq
  adn := fun q hq => by
    show alook (aput st.addrs s.page s.addr) q = none
    rw [alook_put, if_neg (by omega)]
    exact h.adn q hq
theorem DrOk.add {ad : Int → Option Int} {Q : List Int} {st : Dr} (h : DrOk ad Q st) (r : Rec) : DrOk ad Q (st.add r) where
  nd := aput_nd _ _ h.nd
  dom := fun q m => by
    rcases aput_mem.mp m with rfl | m
    · refine .inr ⟨?_, by omega⟩
      show -((st.fresh + 1 : Nat) : Int) ≤ _
      omega
    · refine (h.dom q m).imp id fun z => ⟨?_, z.2⟩
      have := z.1
      show -((st.fresh + 1 : Nat) : Int) ≤ _
      omega
  neg := fun q m => by
    have h1 : -((st.fresh + 1 : Nat) : Int) ≤ q := m.1
    have h2 := m.2
    by_cases e : q = -((st.fresh : Int) + 1)
    · exact aput_mem.mpr (.inl e)
    · exact aput_mem.mpr (.inr (h.neg q ⟨by omega, h2⟩))
  adr := fun q m hq => by
    rcases aput_mem.mp m with z | m
    · omega
    · exact h.adr q m hq
  adn := h.adn

/-! ### the rest of the tree -/
def Ctx (g : G) (ad : Int → Option Int) : List Step → Nat → Int → Option Int → Option Int → List Int → Items → Items → Prop
  | [], _, p, lo, hi, Pc, Il, Ir => p = 0 ∧ lo = none ∧ hi = none ∧ Pc = [] ∧ Il = [] ∧ Ir = []
  | f :: fs, n, p, lo, hi, Pc, Il, Ir => ∃ ksL ksR psL psR plo phi PL PR IL IR Pc' Il' Ir', f.rcd = .inner ((n : Int) + 1) plo phi (ksL ++ ksR) (psL ++ p :: psR) ∧ KL (Sub g n) plo ksL psL lo PL IL ∧ KR (Sub g n) hi ksR psR phi PR IR ∧
      2 ≤ f.rcd.size ∧ f.rcd.size ≤ 5 ∧ g f.page = some f.rcd ∧ ad f.page = some f.addr ∧ Ctx g ad fs (n + 1) f.page plo phi Pc' Il' Ir' ∧ Pc = Pc' ++ f.page :: (PL ++ PR) ∧ Il = Il' ++ IL ∧ Ir = IR ++ Ir'
def Top (g : G) (b : Bool) (n : Nat) (p : Int) (lo hi : Option Int) (P' : List Int) (I : Items) : Prop := ∃ r, g p = some r ∧ SubR g n r lo hi P' I ∧ r.size ≤ r.most ∧ (b = true ∨ n ≠ 0 → 2 ≤ r.size)
theorem perm_of {l l' : List Int} (h : ∀ a, List.count a l = List.count a l') : l.Perm l' := List.perm_iff_count.mpr h
theorem Ctx.fill {g gd : G} {ad : Int → Option Int} : ∀ (fs : List Step) {n : Nat} {p : Int} {lo hi : Option Int} {Pc P' : List Int} {I' Il Ir : Items}, Ctx g ad fs n p lo hi Pc Il Ir → (∀ q ∈ Pc, gd q = g q) → Top gd (!fs.isEmpty) n p lo hi P' I' →
    ∃ N P0, Top gd false N 0 none none P0 (Il ++ (I' ++ Ir)) ∧ (0 :: P0).Perm ((p :: P') ++ Pc)
  | [], n, p, lo, hi, Pc, P', I', Il, Ir, h, _, t => by
    obtain ⟨rfl, rfl, rfl, rfl, rfl, rfl⟩ := h
    refine ⟨n, P', ?_, by simp⟩
    simpa using t
  | f :: fs, n, p, lo, hi, Pc, P', I', Il, Ir, h, hq, t => by
    obtain ⟨ksL, ksR, psL, psR, plo, phi, PL, PR, IL, IR, Pc', Il', Ir', e1, h1, h2, h3, h4, h5, h6, h7, rfl, rfl, rfl⟩ := h
    obtain ⟨r, t1, t2, t3, t4⟩ := t
    have s0 : Sub gd n p lo hi (p :: P') I' := ⟨r, P', t1, t2, t4 (.inl rfl), t3, rfl⟩
    have l1 : KL (Sub gd n) plo ksL psL lo PL IL := h1.monoP fun c l h P1 I hp s => s.frame fun q hq' => hq q (by simp [hp q hq'])
    have l2 : KR (Sub gd n) hi ksR psR phi PR IR := h2.monoP fun c l h P1 I hp s => s.frame fun q hq' => hq q (by simp [hp q hq'])
    have k := l1.kids s0 l2
    have sr : SubR gd (n + 1) f.rcd plo phi (PL ++ ((p :: P') ++ PR)) (IL ++ (I' ++ IR)) := ⟨_, _, e1, k⟩
    have hm := sr.most
    rw [if_neg (by omega)] at hm
    obtain ⟨N, P0, a, b⟩ := Ctx.fill fs (gd := gd) h7 (fun q hq' => hq q (by simp [hq'])) (P' := PL ++ ((p :: P') ++ PR)) (I' := IL ++ (I' ++ IR)) ⟨f.rcd, by rw [hq _ (by simp)]; exact h5, sr, by rw [hm]; exact h4, fun _ => h3⟩
    refine ⟨N, P0, ?_, b.trans (perm_of fun a => ?_)⟩
    · have : Il' ++ IL ++ (I' ++ (IR ++ Ir')) = Il' ++ (IL ++ (I' ++ IR) ++ Ir') := by simp
      rw [this]
      exact a
    · simp only [List.count_append, List.count_cons, List.cons_append]
      omega
/-! ### the draft while it goes up -/
structure Fin (g : G) (ad : Int → Option Int) (Po : List Int) (Is : Items) (st : Dr) : Prop where
  dr : DrOk ad Po st
  ex : ∃ N P0, Top (ov st g) false N 0 none none P0 Is ∧ (0 :: P0).Nodup ∧ (∀ q ∈ 0 :: P0, q ∈ Po ∨ Neg st q) ∧ ∀ q, (q ∈ Po ∨ Neg st q) → (q ∈ 0 :: P0 ↔ ∃ r, ov st g q = some r ∧ r.live = true)
/-- the pages below: P' the new ones, Q the old ones -/
structure Part (g : G) (ad : Int → Option Int) (Q P' : List Int) (st : Dr) : Prop where
  dr : DrOk ad Q st
  nd : P'.Nodup
  sub : ∀ q ∈ P', q ∈ Q ∨ Neg st q
  live : ∀ q, (q ∈ Q ∨ Neg st q) → (q ∈ P' ↔ ∃ r, ov st g q = some r ∧ r.live = true)
structure Old (g : G) (Po : List Int) : Prop where
  nd : Po.Nodup
  pos : ∀ q ∈ Po, 0 ≤ q
  live : ∀ q ∈ Po, ∃ r, g q = some r ∧ r.live = true
structure Pend (g : G) (ad : Int → Option Int) (Po : List Int) (Is : Items) (fs : List Step) (s : Step) (n : Nat) (st : Dr) (r : Rec) : Prop where
  ex : ∃ lo hi Q P' Pc I' Il Ir, Ctx g ad fs n s.page lo hi Pc Il Ir ∧ SubR (ov st g) n r lo hi P' I' ∧ s.rcd.lo = lo ∧ s.rcd.hi = hi ∧ Part g ad Q P' st ∧ Po.Perm (s.page :: (Q ++ Pc)) ∧ Is = Il ++ (I' ++ Ir)
  sl : s.rcd.live = true
  sa : ad s.page = some s.addr
  big : r.size ≤ r.most + 1
  low : fs ≠ [] → 1 ≤ r.size
  root : fs = [] → n ≠ 0 → 2 ≤ r.size
theorem Part.out {g : G} {ad : Int → Option Int} {Q P' : List Int} {st : Dr} (h : Part g ad Q P' st) {q : Int} (hq : q ∉ Q) (h0 : 0 ≤ q) : ov st g q = g q ∧ q ∉ P' := by
  refine ⟨ov_out fun m => ?_, fun m => ?_⟩
  · rcases h.dr.dom q m with z | z
    · exact hq z
    · have := z.2; omega
  · rcases h.sub q m with z | z
    · exact hq z
    · have := z.2; omega
/-- the new tree stands when the last record is given -/
theorem fin_of {g : G} {ad : Int → Option Int} {Po : List Int} {Is : Items} {st : Dr} (old : Old g Po) {fs : List Step} {n : Nat} {p : Int} {lo hi : Option Int} {Pc Q P' : List Int} {I' Il Ir : Items} (c : Ctx g ad fs n p lo hi Pc Il Ir)
    (pt : Part g ad (p :: Q) (p :: P') st) (hp : Po.Perm (p :: (Q ++ Pc))) (t : Top (ov st g) (!fs.isEmpty) n p lo hi P' I') (hI : Is = Il ++ (I' ++ Ir)) : Fin g ad Po Is st := by
  have nd : (p :: (Q ++ Pc)).Nodup := hp.nodup_iff.mp old.nd
  have dis : ∀ q ∈ Pc, q ∉ p :: Q ∧ 0 ≤ q := fun q hq => by
    have h1 : List.count q (p :: (Q ++ Pc)) ≤ 1 := List.nodup_iff_count.mp nd q
    have h2 := List.count_pos_iff.mpr hq
    refine ⟨fun m => ?_, old.pos q (hp.mem_iff.mpr (by simp [hq]))⟩
    have h3 := List.count_pos_iff.mpr m
    simp only [List.count_cons, List.count_append] at h1 h3
    omega
  obtain ⟨N, P0, a, b⟩ := c.fill (gd := ov st g) fs (fun q hq => (pt.out (dis q hq).1 (dis q hq).2).1) t
  have ndn : ((p :: P') ++ Pc).Nodup := by
    refine List.nodup_append.mpr ⟨pt.nd, ?_, fun x hx y hy e => ?_⟩
    · have := (List.nodup_cons.mp nd).2
      exact (List.nodup_append.mp this).2.1
    · subst e
      exact (pt.out (dis x hy).1 (dis x hy).2).2 hx
  refine ⟨pt.dr.mono fun q hq => hp.mem_iff.mpr (by rcases List.mem_cons.mp hq with rfl | h <;> simp [*]), N, P0, by rw [hI]; exact a, b.nodup_iff.mpr ndn, fun q hq => ?_, fun q hq => ?_⟩
  · rcases List.mem_append.mp (b.mem_iff.mp hq) with m | m
    · refine (pt.sub q m).imp (fun z => hp.mem_iff.mpr ?_) id
      rcases List.mem_cons.mp z with rfl | z
      · simp
      · simp [z]
    · exact .inl (hp.mem_iff.mpr (by simp [m]))
  · rw [b.mem_iff, List.mem_append]
    by_cases hc : q ∈ Pc
    · obtain ⟨d1, d2⟩ := dis q hc
      obtain ⟨e1, e2⟩ := pt.out d1 d2
      rw [e1]
      exact ⟨fun _ => old.live q (hp.mem_iff.mpr (by simp [hc])), fun _ => .inr hc⟩
    · have : q ∈ p :: Q ∨ Neg st q := by
        rcases hq with m | m
        · rcases List.mem_cons.mp (hp.mem_iff.mp m) with z | z
          · exact .inl (by simp [z])
          · rcases List.mem_append.mp z with z | z
            · exact .inl (by simp [z])
            · exact absurd z hc
        · exact .inr m
      rw [← pt.live q this]
      exact ⟨fun z => z.resolve_right hc, .inl⟩
end Esp
set_option Elab.async false
set_option linter.all false
set_option maxRecDepth 100000
set_option maxHeartbeats 2000000
/-! M4: two neighbours put together. -/
namespace Esp
section
variable {g : G} {ad : Int → Option Int} {Q P' : List Int} {st : Dr}
theorem Part.perm (h : Part g ad Q P' st) {Q2 P2 : List Int} (hq : Q.Perm Q2) (hp : P'.Perm P2) : Part g ad Q2 P2 st where
  dr := h.dr.mono fun q m => hq.mem_iff.mp m
  nd := hp.nodup_iff.mp h.nd
  sub := fun q m => (h.sub q (hp.mem_iff.mpr m)).imp hq.mem_iff.mp id
  live := fun q m => by rw [← hp.mem_iff, h.live q (m.imp hq.mem_iff.mpr id)]
theorem Part.give (h : Part g ad Q P' st) {s : Step} (hs : s.page ∉ Q) (h0 : 0 ≤ s.page) (ha : ad s.page = some s.addr) {r : Rec} (hl : r.live = true) : Part g ad (s.page :: Q) (s.page :: P') (st.give s r) where
  dr := (h.dr.mono fun q m => List.mem_cons_of_mem _ m).give List.mem_cons_self h0 ha r
  nd := List.nodup_cons.mpr ⟨(h.out hs h0).2, h.nd⟩
  sub := fun q m => by
    rcases List.mem_cons.mp m with rfl | m
    · exact .inl List.mem_cons_self
    · exact (h.sub q m).imp (List.mem_cons_of_mem _) id
  live := fun q m => by
    rw [ov_give]
    by_cases e : q = s.page
    · rw [if_pos e]
      exact ⟨fun _ => ⟨r, rfl, hl⟩, fun _ => by rw [e]; exact List.mem_cons_self⟩
    · rw [if_neg e, ← h.live q (m.imp (fun z => (List.mem_cons.mp z).resolve_left e) id), List.mem_cons]
      exact ⟨fun z => z.resolve_left e, .inr⟩
theorem Part.free (h : Part g ad Q P' st) {s : Step} (hs : s.page ∉ Q) (h0 : 0 ≤ s.page) (ha : ad s.page = some s.addr) (k : Int) : Part g ad (s.page :: Q) P' (st.give s (.free k)) where
  dr := (h.dr.mono fun q m => List.mem_cons_of_mem _ m).give List.mem_cons_self h0 ha _
  nd := h.nd
  sub := fun q m => (h.sub q m).imp (List.mem_cons_of_mem _) id
  live := fun q m => by
    rw [ov_give]
    by_cases e : q = s.page
    · rw [if_pos e]
      refine ⟨fun z => absurd z ?_, fun ⟨r, z, hl⟩ => ?_⟩
      · rw [e]; exact (h.out hs h0).2
      · cases z; cases hl
    · rw [if_neg e, ← h.live q (m.imp (fun z => (List.mem_cons.mp z).resolve_left e) id)]
theorem Part.add (h : Part g ad Q P' st) (hpos : ∀ q ∈ Q, 0 ≤ q) {r : Rec} (hl : r.live = true) : Part g ad Q (-((st.fresh : Int) + 1) :: P') (st.add r) where
  dr := h.dr.add r
  nd := List.nodup_cons.mpr ⟨fun m => by
    rcases h.sub _ m with z | z
    · have := hpos _ z; omega
    · have := z.1; omega, h.nd⟩
  sub := fun q m => by
    rcases List.mem_cons.mp m with rfl | m
    · refine .inr ⟨?_, by omega⟩
      show -((st.fresh + 1 : Nat) : Int) ≤ _
      omega
    · refine (h.sub q m).imp id fun z => ⟨?_, z.2⟩
      have := z.1
      show -((st.fresh + 1 : Nat) : Int) ≤ _
      omega
  live := fun q m => by
    rw [ov_add]
    by_cases e : q = -((st.fresh : Int) + 1)
    · rw [if_pos e]
      exact ⟨fun _ => ⟨r, rfl, hl⟩, fun _ => by rw [e]; exact List.mem_cons_self⟩
    · have m' : q ∈ Q ∨ Neg st q := m.imp id fun z => by
        have h1 : -((st.fresh + 1 : Nat) : Int) ≤ q := z.1
        exact ⟨by omega, z.2⟩
      rw [if_neg e, ← h.live q m', List.mem_cons]
      exact ⟨fun z => z.resolve_left e, .inr⟩
/-- pages that nothing touches -/
theorem Part.app (h : Part g ad Q P' st) {Ps : List Int} (nd : (Q ++ Ps).Nodup) (hpos : ∀ q ∈ Ps, 0 ≤ q) (hl : ∀ q ∈ Ps, ∃ r, g q = some r ∧ r.live = true) : Part g ad (Q ++ Ps) (P' ++ Ps) st := by
  have dis : ∀ q ∈ Ps, q ∉ Q := fun q hq m => (List.nodup_append.mp nd).2.2 q m q hq rfl
  refine ⟨h.dr.mono fun q m => List.mem_append_left _ m, List.nodup_append.mpr ⟨h.nd, (List.nodup_append.mp nd).2.1, fun x hx y hy e => ?_⟩, fun q m => ?_, fun q m => ?_⟩
  · subst e
    exact (h.out (dis x hy) (hpos x hy)).2 hx
  · rcases List.mem_append.mp m with m | m
    · exact (h.sub q m).imp (List.mem_append_left _) id
    · exact .inl (List.mem_append_right _ m)
  · by_cases hs : q ∈ Ps
    · obtain ⟨e1, e2⟩ := h.out (dis q hs) (hpos q hs)
      rw [e1]
      exact ⟨fun _ => hl q hs, fun _ => List.mem_append_right _ hs⟩
    · have m' : q ∈ Q ∨ Neg st q := m.imp (fun z => (List.mem_append.mp z).resolve_right hs) id
      rw [← h.live q m', List.mem_append]
      exact ⟨fun z => z.resolve_right hs, .inl⟩
end
theorem SubR.give {g : G} {st : Dr} {s : Step} {r0 r : Rec} {n : Nat} {lo hi : Option Int} {P : List Int} {I : Items} (h : SubR (ov st g) n r lo hi P I) (hs : s.page ∉ P) : SubR (ov (st.give s r0) g) n r lo hi P I :=
  h.frame fun q hq => by
    rw [ov_give, if_neg]
    rintro rfl
    exact hs hq
theorem SubR.add {g : G} {st : Dr} {r0 r : Rec} {n : Nat} {lo hi : Option Int} {P : List Int} {I : Items} (h : SubR (ov st g) n r lo hi P I) (hs : -((st.fresh : Int) + 1) ∉ P) : SubR (ov (st.add r0) g) n r lo hi P I :=
  h.frame fun q hq => by
    rw [ov_add, if_neg]
    rintro rfl
    exact hs hq
theorem insI_at (a b : List Int) (x : Int) : insI (a ++ b) a.length x = a ++ x :: b := by unfold insI; simp
theorem insI_at1 (a b : List Int) (c x : Int) : insI (a ++ c :: b) (a.length + 1) x = a ++ c :: x :: b := by
  have h := insI_at (a ++ [c]) b x
  simpa using h
theorem setI_at (a b : List Int) (k x : Int) : setI (a ++ k :: b) a.length x = a ++ x :: b := by
  unfold setI
  rw [List.take_append, List.drop_append]
  simp
theorem delI_at (a b : List Int) (k : Int) : delI (a ++ k :: b) a.length = a ++ b := by
  unfold delI
  rw [List.take_append, List.drop_append]
  simp
theorem delI_at1 (a b : List Int) (c k : Int) : delI (a ++ c :: k :: b) (a.length + 1) = a ++ c :: b := by
  have h := delI_at (a ++ [c]) b k
  simpa using h
def After (g : G) (ad : Int → Option Int) (Po : List Int) (Is : Items) (fs : List Step) (n : Nat) : Res → Prop
  | .done st' => Fin g ad Po Is st'
  | .up st' r' => ∃ f fs', fs = f :: fs' ∧ Pend g ad Po Is fs' f (n + 1) st' r'
  | .read _ => False
theorem joined_pair {g : G} {ad : Int → Option Int} {Po : List Int} {Is : Items} {path : List Step} {fs : List Step} {f sl sr : Step} {n : Nat} {st : Dr} {ra rb : Rec} {k a b : Int} {plo phi y z : Option Int} {ksL ksR psL psR PL PR Pa Pb Pc Qab : List Int} {IL IR Ia Ib Il Ir : Items}
    (old : Old g Po) (hpath : path[fs.length]? = some f) (ctx : Ctx g ad fs (n + 1) f.page plo phi Pc Il Ir) (hf : f.rcd = .inner ((n : Int) + 1) plo phi (ksL ++ k :: ksR) (psL ++ a :: b :: psR)) (h1 : KL (Sub g n) plo ksL psL y PL IL) (h2 : KR (Sub g n) z ksR psR phi PR IR)
    (hz5 : f.rcd.size ≤ 5) (hfa : ad f.page = some f.addr) (sa : SubR (ov st g) n ra y (some k) Pa Ia) (sb : SubR (ov st g) n rb (some k) z Pb Ib) (ea : sl.page = a) (eb : sr.page = b) (haa : ad a = some sl.addr) (hab : ad b = some sr.addr)
    (pt : Part g ad Qab (Pa ++ Pb) st) (perm : Po.Perm (f.page :: a :: b :: (Qab ++ (PL ++ (PR ++ Pc))))) (hI : Is = Il ++ ((IL ++ ((Ia ++ Ib) ++ IR)) ++ Ir)) (hmx : ra.size + rb.size ≤ (if n = 0 then 4 else 5) + 1) (hmn : 3 ≤ ra.size + rb.size) :
    ∃ res, Pair path st fs.length ksL.length sl ra sr rb res ∧ After g ad Po Is (f :: fs) n res := by
  subst ea eb
  obtain ⟨sj, zj, jj⟩ := sa.join sb
  have hmost := sj.most
  have m5 := most_le (ra.join k rb)
  have hl := h1.len
  have hl2 := h2.len
  have hps : psL.length + psR.length + 2 ≤ 5 := by
    rw [hf] at hz5
    have : (psL ++ sl.page :: sr.page :: psR).length ≤ 5 := hz5
    rw [List.length_append, List.length_cons, List.length_cons] at this
    omega
  have hzk : (ksL ++ k :: ksR).length ≤ 90 := by rw [List.length_append, List.length_cons]; omega
  have nd := perm.nodup_iff.mp old.nd
  have cnt : ∀ q, List.count q (f.page :: sl.page :: sr.page :: (Qab ++ (PL ++ (PR ++ Pc)))) ≤ 1 := List.nodup_iff_count.mp nd
  have inPo : ∀ q, q ∈ (f.page :: sl.page :: sr.page :: (Qab ++ (PL ++ (PR ++ Pc)))) → q ∈ Po := fun q => perm.mem_iff.mpr
  have pos : ∀ q, q ∈ (f.page :: sl.page :: sr.page :: (Qab ++ (PL ++ (PR ++ Pc)))) → 0 ≤ q := fun q m => old.pos q (inPo q m)
  have hab' : sl.page ≠ sr.page := fun e => by
    have := cnt sl.page
    simp only [List.count_cons, List.count_append, ← e, beq_self_eq_true, if_true] at this
    omega
  have ha1 : sl.page ∉ Qab := fun m => by
    have h1 := cnt sl.page
    have h2 := List.count_pos_iff.mpr m
    simp only [List.count_cons, List.count_append, beq_self_eq_true, if_true] at h1
    omega
  have hb1 : sr.page ∉ Qab := fun m => by
    have h1 := cnt sr.page
    have h2 := List.count_pos_iff.mpr m
    simp only [List.count_cons, List.count_append, beq_self_eq_true, if_true] at h1
    omega
  have hf1 : f.page ∉ Qab := fun m => by
    have h1 := cnt f.page
    have h2 := List.count_pos_iff.mpr m
    simp only [List.count_cons, List.count_append, beq_self_eq_true, if_true] at h1
    omega
  have hfa' : f.page ≠ sl.page := fun e => by
    have := cnt f.page
    simp only [List.count_cons, List.count_append, ← e, beq_self_eq_true, if_true] at this
    omega
  have hfb' : f.page ≠ sr.page := fun e => by
    have := cnt f.page
    simp only [List.count_cons, List.count_append, ← e, beq_self_eq_true, if_true] at this
    omega
  have pa0 : 0 ≤ sl.page := pos _ (by simp)
  have pb0 : 0 ≤ sr.page := pos _ (by simp)
  have pf0 : 0 ≤ f.page := pos _ (by simp)
  have na : sl.page ∉ Pa ++ Pb := (pt.out ha1 pa0).2
  have nb : sr.page ∉ Pa ++ Pb := (pt.out hb1 pb0).2
  have nf : f.page ∉ Pa ++ Pb := (pt.out hf1 pf0).2
  -- what lies beside
  have beside : ∀ {st' : Dr} {P2 : List Int}, Part g ad (sr.page :: sl.page :: Qab) P2 st' → KL (Sub (ov st' g) n) plo ksL psL y PL IL ∧ KR (Sub (ov st' g) n) z ksR psR phi PR IR ∧ Part g ad ((sr.page :: sl.page :: Qab) ++ (PL ++ PR)) (P2 ++ (PL ++ PR)) st' := fun {st' P2} p2 => by
    have out : ∀ q, q ∈ PL ++ PR → ov st' g q = g q := fun q hq => by
      refine (p2.out (fun m => ?_) (pos q (by simp at hq; rcases hq with h | h <;> simp [h]))).1
      have h1 := cnt q
      have h2 := List.count_pos_iff.mpr m
      have h3 := List.count_pos_iff.mpr hq
      simp only [List.count_cons, List.count_append] at h1 h2 h3
      omega
    refine ⟨h1.monoP fun c l h P1 I hp s => s.frame fun q hq => out q (List.mem_append_left _ (hp q hq)), h2.monoP fun c l h P1 I hp s => s.frame fun q hq => out q (List.mem_append_right _ (hp q hq)), p2.app ?_ ?_ ?_⟩
    · refine List.nodup_iff_count.mpr fun q => ?_
      have h1 := cnt q
      simp only [List.count_cons, List.count_append, List.cons_append] at h1 ⊢
      omega
    · exact fun q hq => pos q (by simp at hq; rcases hq with h | h <;> simp [h])
    · exact fun q hq => old.live q (inPo q (by simp at hq; rcases hq with h | h <;> simp [h]))
  by_cases hs : (ra.join k rb).size ≤ (ra.join k rb).most
  · -- joined
    have ek : delI (ksL ++ k :: ksR) ksL.length = ksL ++ ksR := delI_at _ _ _
    have ep : delI (psL ++ sl.page :: sr.page :: psR) (ksL.length + 1) = psL ++ sl.page :: psR := by rw [hl]; exact delI_at1 _ _ _ _
    have p1 : Part g ad (sr.page :: Qab) (Pa ++ Pb) (st.give sr (.free sr.page)) := pt.free hb1 pb0 hab _
    have sj1 : SubR (ov (st.give sr (.free sr.page)) g) n (ra.join k rb) y z (Pa ++ Pb) (Ia ++ Ib) := sj.give nb
    have hlive : (ra.join k rb).live = true := sj.level.2.2.2
    have hfresh : sl.page ∉ sr.page :: Qab := fun m => (List.mem_cons.mp m).elim hab' ha1
    have p2 : Part g ad (sl.page :: sr.page :: Qab) (sl.page :: (Pa ++ Pb)) ((st.give sr (.free sr.page)).give sl (ra.join k rb)) := p1.give hfresh pa0 haa hlive
    have p3 := p2.perm (Q2 := sr.page :: sl.page :: Qab) (List.Perm.swap _ _ _) (List.Perm.refl _)
    obtain ⟨b1, b2, b3⟩ := beside p3
    have sub : Sub (ov ((st.give sr (.free sr.page)).give sl (ra.join k rb)) g) n sl.page y z (sl.page :: (Pa ++ Pb)) (Ia ++ Ib) := ⟨_, _, by rw [ov_give, if_pos rfl], sj1.give na, by omega, hs, rfl⟩
    have kids := b1.kids sub b2
    have sn : SubR (ov ((st.give sr (.free sr.page)).give sl (ra.join k rb)) g) (n + 1) (.inner ((n : Int) + 1) plo phi (ksL ++ ksR) (psL ++ sl.page :: psR)) plo phi (PL ++ ((sl.page :: (Pa ++ Pb)) ++ PR)) (IL ++ ((Ia ++ Ib) ++ IR)) := ⟨_, _, rfl, kids⟩
    have hsz : (Rec.inner ((n : Int) + 1) plo phi (ksL ++ ksR) (psL ++ sl.page :: psR)).size = psL.length + psR.length + 1 := by
      show (psL ++ sl.page :: psR).length = _
      rw [List.length_append, List.length_cons]
      omega
    by_cases hroot : fs.length = 0 ∧ (psL ++ sl.page :: psR).length = 1
    · -- the root goes down
      obtain ⟨hr1, hr2⟩ := hroot
      obtain rfl : fs = [] := List.length_eq_zero_iff.mp hr1
      rw [List.length_append, List.length_cons] at hr2
      obtain rfl : psL = [] := List.length_eq_zero_iff.mp (by omega)
      obtain rfl : psR = [] := List.length_eq_zero_iff.mp (by omega)
      obtain rfl : ksL = [] := List.length_eq_zero_iff.mp (by rw [hl]; rfl)
      obtain rfl : ksR = [] := List.length_eq_zero_iff.mp (by rw [hl2]; rfl)
      obtain ⟨rfl, rfl, rfl⟩ := h1
      obtain ⟨rfl, rfl, rfl⟩ := h2
      obtain ⟨c1, c2, c3, c4, c5, c6⟩ := id ctx
      refine ⟨_, Pair.root hpath hf hzk (by simp) sb.level.2.2.2 sb.level.2.1 jj (sj.ok (by omega)) hs ?_ ?_, ?_⟩
      · rw [ek, ep]
        exact sn.ok (by rw [hsz]; simp)
      · rw [ep]; rfl
      · have q1 : Part g ad (sl.page :: sr.page :: Qab) (Pa ++ Pb) ((st.give sr (.free sr.page)).give sl (.free sl.page)) := p1.free hfresh pa0 haa _
        have hff : f.page ∉ sl.page :: sr.page :: Qab := fun m => by
          rcases List.mem_cons.mp m with h | h
          · exact hfa' h
          · rcases List.mem_cons.mp h with h | h
            · exact hfb' h
            · exact hf1 h
        have q2 := q1.give (r := ra.join k rb) hff pf0 hfa hlive
        show Fin g ad Po Is (((st.give sr (.free sr.page)).give sl (.free sl.page)).give f (ra.join k rb))
        refine fin_of old (fs := []) (n := n) (p := f.page) (lo := none) (hi := none) (Pc := []) (P' := Pa ++ Pb) (I' := Ia ++ Ib) (Il := []) (Ir := []) (Q := sl.page :: sr.page :: Qab) ⟨c1, rfl, rfl, rfl, rfl, rfl⟩ q2 ?_ ?_ ?_
        · refine perm.trans (perm_of fun q => ?_)
          rw [c4]
          simp only [List.count_cons, List.count_append, List.cons_append, List.count_nil] <;> omega
        · refine ⟨ra.join k rb, by rw [ov_give, if_pos rfl], ?_, hs, fun _ => by omega⟩
          have e := (sj1.give (r0 := .free sl.page) na).give (r0 := ra.join k rb) nf
          rw [c2, c3] at e
          exact e
        · rw [hI, c5, c6]
          simp
    · refine ⟨_, Pair.up hpath hf hzk (by rw [List.length_append, List.length_cons, List.length_cons]; omega) sb.level.2.2.2 sb.level.2.1 jj (sj.ok (by omega)) hs ?_ ?_, f, fs, rfl, ?_⟩
      · rw [ek, ep]
        exact sn.ok (by rw [hsz]; omega)
      · rw [ep]; exact hroot
      · rw [ek, ep]
        have hm := sn.most
        rw [if_neg (by omega)] at hm
        refine ⟨⟨plo, phi, (sr.page :: sl.page :: Qab) ++ (PL ++ PR), PL ++ ((sl.page :: (Pa ++ Pb)) ++ PR), Pc, _, Il, Ir, ctx, sn, by rw [hf]; rfl, by rw [hf]; rfl, b3.perm (List.Perm.refl _) (perm_of fun q => ?_), perm.trans (perm_of fun q => ?_), hI⟩, by rw [hf]; rfl, hfa, by rw [hm, hsz]; omega, fun _ => by rw [hsz]; omega, fun e _ => ?_⟩
        · simp only [List.count_cons, List.count_append, List.cons_append]
          omega
        · simp only [List.count_cons, List.count_append, List.cons_append]
          omega
        · rw [hsz]
          have : ¬ (psL ++ sl.page :: psR).length = 1 := fun z => hroot ⟨by rw [e]; rfl, z⟩
          rw [List.length_append, List.length_cons] at this
          omega
  · -- cut anew
    have cs := sj.cutS (by omega)
    obtain ⟨P1, P2, J1, J2, s1, s2, eP, eI⟩ := cs.ex
    have ek : setI (ksL ++ k :: ksR) ksL.length (ra.join k rb).cut.2.1 = ksL ++ (ra.join k rb).cut.2.1 :: ksR := setI_at _ _ _ _
    have cP : ∀ q, List.count q Pa + List.count q Pb = List.count q P1 + List.count q P2 := fun q => by
      have := congrArg (List.count q) eP
      rwa [List.count_append, List.count_append] at this
    rw [eP] at na nb
    have na1 : sl.page ∉ P1 := fun m => na (List.mem_append_left _ m)
    have na2 : sl.page ∉ P2 := fun m => na (List.mem_append_right _ m)
    have nb1 : sr.page ∉ P1 := fun m => nb (List.mem_append_left _ m)
    have nb2 : sr.page ∉ P2 := fun m => nb (List.mem_append_right _ m)
    have p1 := pt.give (r := (ra.join k rb).cut.1) ha1 pa0 haa s1.level.2.2.2
    have p2 := p1.give (r := (ra.join k rb).cut.2.2) (s := sr) (fun m => (List.mem_cons.mp m).elim (fun e => hab' e.symm) hb1) pb0 hab s2.level.2.2.2
    obtain ⟨b1, b2, b3⟩ := beside p2
    have suba : Sub (ov ((st.give sl (ra.join k rb).cut.1).give sr (ra.join k rb).cut.2.2) g) n sl.page y (some (ra.join k rb).cut.2.1) (sl.page :: P1) J1 :=
      ⟨_, _, by rw [ov_give, if_neg hab', ov_give, if_pos rfl], (s1.give na1).give nb1, cs.z1.1, cs.z1.2, rfl⟩
    have subb : Sub (ov ((st.give sl (ra.join k rb).cut.1).give sr (ra.join k rb).cut.2.2) g) n sr.page (some (ra.join k rb).cut.2.1) z (sr.page :: P2) J2 :=
      ⟨_, _, by rw [ov_give, if_pos rfl], (s2.give na2).give nb2, cs.z2.1, cs.z2.2, rfl⟩
    have kids := b1.kids suba (ksR := (ra.join k rb).cut.2.1 :: ksR) (psR := sr.page :: psR) ⟨rfl, z, sr.page :: P2, PR, J2, IR, subb, b2, rfl, rfl⟩
    have sn : SubR (ov ((st.give sl (ra.join k rb).cut.1).give sr (ra.join k rb).cut.2.2) g) (n + 1) (.inner ((n : Int) + 1) plo phi (ksL ++ (ra.join k rb).cut.2.1 :: ksR) (psL ++ sl.page :: sr.page :: psR)) plo phi _ _ := ⟨_, _, rfl, kids⟩
    have hsz : (Rec.inner ((n : Int) + 1) plo phi (ksL ++ (ra.join k rb).cut.2.1 :: ksR) (psL ++ sl.page :: sr.page :: psR)).size = psL.length + psR.length + 2 := by
      show (psL ++ sl.page :: sr.page :: psR).length = _
      rw [List.length_append, List.length_cons, List.length_cons]
      omega
    refine ⟨_, Pair.cut hpath hf hzk sb.level.2.2.2 sb.level.2.1 jj (sj.ok (by omega)) (by omega) cs.ok ?_, f, fs, rfl, ?_⟩
    · rw [ek]
      exact sn.ok (by rw [hsz]; omega)
    · rw [ek]
      have hm := sn.most
      rw [if_neg (by omega)] at hm
      refine ⟨⟨plo, phi, (sr.page :: sl.page :: Qab) ++ (PL ++ PR), _, Pc, _, Il, Ir, ctx, sn, by rw [hf]; rfl, by rw [hf]; rfl, b3.perm (List.Perm.refl _) (perm_of fun q => ?_), perm.trans (perm_of fun q => ?_), ?_⟩, by rw [hf]; rfl, hfa, by rw [hm, hsz]; omega, fun _ => by rw [hsz]; omega, fun e _ => by rw [hsz]; omega⟩
      · have := cP q
        simp only [List.count_cons, List.count_append, List.cons_append]
        omega
      · simp only [List.count_cons, List.count_append, List.cons_append]
        omega
      · rw [hI, eI]
        simp
end Esp
set_option Elab.async false
set_option linter.all false
set_option maxRecDepth 100000
set_option maxHeartbeats 2000000
/-! M5: one settle, from a pending draft. -/
namespace Esp
theorem KL.mem {g : G} {n : Nat} : ∀ {lo : Option Int} {ks ps : List Int} {x : Option Int} {P : List Int} {I : Items}, KL (Sub g n) lo ks ps x P I → ∀ c ∈ ps, c ∈ P
  | _, [], [], _, _, _, h => fun c hc => by simp at hc
  | _, k :: ks, c :: ps, _, _, _, h => fun d hd => by
    obtain ⟨P1, P2, I1, I2, ⟨r, P', _, _, _, _, rfl⟩, h2, rfl, _⟩ := h
    rcases List.mem_cons.mp hd with rfl | hd
    · simp
    · exact List.mem_append_right _ (KL.mem h2 d hd)
  | _, [], _ :: _, _, _, _, h => h.elim
  | _, _ :: _, [], _, _, _, h => h.elim
theorem KL.cLo {S : Sb} {lo x : Option Int} {ksL psL : List Int} {P : List Int} {I : Items} (h : KL S lo ksL psL x P I) (ksR : List Int) : Esp.cLo lo (ksL ++ ksR) ksL.length = x := by
  have hl := h.len
  rcases List.eq_nil_or_concat ksL with rfl | ⟨ks, k, rfl⟩
  · obtain rfl : psL = [] := List.length_eq_zero_iff.mp hl.symm
    obtain ⟨rfl, _⟩ := h
    rfl
  · rcases List.eq_nil_or_concat psL with rfl | ⟨ps, p, rfl⟩
    · simp at hl
    · rw [List.concat_eq_append] at h ⊢
      rw [List.concat_eq_append] at h
      obtain ⟨_, _, _, _, _, _, _, rfl, _⟩ := KL.last h
      unfold Esp.cLo
      rw [if_neg (by simp)]
      simp
theorem KR.cHi {S : Sb} {x hi : Option Int} {ksR psR : List Int} {P : List Int} {I : Items} (h : KR S x ksR psR hi P I) (ksL : List Int) : Esp.cHi hi (ksL ++ ksR) ksL.length = x := by
  unfold Esp.cHi
  cases ksR with
  | nil =>
    cases psR with
    | nil =>
      obtain ⟨rfl, _⟩ := h
      simp
    | cons _ _ => exact h.elim
  | cons k ksR =>
    cases psR with
    | nil => exact h.elim
    | cons p psR =>
      obtain ⟨rfl, _⟩ := h
      simp
def SibOk (g : G) (ad : Int → Option Int) (sibs : List (Int × Step)) : Prop := ∀ q sb, alook sibs q = some sb → sb.page = q ∧ g q = some sb.rcd ∧ ad q = some sb.addr
def oth (par s : Step) : Int := match par.rcd with
  | .inner _ _ _ _ ps => ps.getD (if ps.idxOf s.page = 0 then 1 else ps.idxOf s.page - 1) 0
  | _ => 0
def OnPath (path : List Step) : List Step → Prop
  | [] => True
  | f :: fs => path[fs.length]? = some f ∧ OnPath path fs
theorem idxOf_at {psL psR : List Int} {p : Int} (h : p ∉ psL) : (psL ++ p :: psR).idxOf p = psL.length := by
  rw [List.idxOf_append, if_neg h]
  simp
theorem settle_step {g : G} {ad : Int → Option Int} {Po : List Int} {Is : Items} {path : List Step} {sibs : List (Int × Step)} {fs : List Step} {s : Step} {n : Nat} {st : Dr} {r : Rec} (old : Old g Po) (sib : SibOk g ad sibs) (had : ∀ q r, g q = some r → ∃ a, ad q = some a)
    (hpath : OnPath path (s :: fs)) (P : Pend g ad Po Is fs s n st r) :
    ∃ res, Settle path sibs st fs.length r res ∧ (After g ad Po Is fs n res ∨ ∃ q f fs', res = .read q ∧ alook sibs q = none ∧ fs = f :: fs' ∧ q = oth f s ∧ (∃ rq, g q = some rq)) := by
  obtain ⟨lo, hi, Q, P', Pc, I', Il, Ir, ctx, sub, hlo, hhi, pt, perm, hI⟩ := P.ex
  have hmost := sub.most
  have m5 := most_le r
  have nd := perm.nodup_iff.mp old.nd
  have cnt : ∀ q, List.count q (s.page :: (Q ++ Pc)) ≤ 1 := List.nodup_iff_count.mp nd
  have inPo : ∀ q, q ∈ (s.page :: (Q ++ Pc)) → q ∈ Po := fun q => perm.mem_iff.mpr
  have pos : ∀ q, q ∈ (s.page :: (Q ++ Pc)) → 0 ≤ q := fun q m => old.pos q (inPo q m)
  have hs1 : s.page ∉ Q := fun m => by
    have h1 := cnt s.page
    have h2 := List.count_pos_iff.mpr m
    simp only [List.count_cons, List.count_append, beq_self_eq_true, if_true] at h1
    omega
  have hs0 : 0 ≤ s.page := pos _ (by simp)
  have ns : s.page ∉ P' := (pt.out hs1 hs0).2
  have posQ : ∀ q ∈ Q, 0 ≤ q := fun q m => pos q (by simp [m])
  have na : -((st.fresh : Int) + 1) ∉ P' := fun m => by
    rcases pt.sub _ m with z | z
    · have := posQ _ z; omega
    · have := z.1; omega
  by_cases hbig : r.most < r.size
  · -- too many
    have cs := sub.cutS (by have := P.big; omega)
    obtain ⟨P1, P2, J1, J2, s1, s2, eP, eI⟩ := cs.ex
    have cP : ∀ q, List.count q P' = List.count q P1 + List.count q P2 := fun q => by rw [eP, List.count_append]
    have mem1 : ∀ q ∈ P1, q ∈ P' := fun q h => by rw [eP]; exact List.mem_append_left _ h
    have mem2 : ∀ q ∈ P2, q ∈ P' := fun q h => by rw [eP]; exact List.mem_append_right _ h
    cases fs with
    | nil =>
      obtain ⟨c1, rfl, rfl, rfl, rfl, rfl⟩ := id ctx
      have hlev := sub.level.1
      have p1 := pt.add (r := r.cut.1) posQ s1.level.2.2.2
      have p2 := p1.add (r := r.cut.2.2) posQ s2.level.2.2.2
      have e2 : -(((st.add r.cut.1).fresh : Int) + 1) = -((st.fresh : Int) + 2) := by
        show -(((st.fresh + 1 : Nat) : Int) + 1) = _
        omega
      rw [e2] at p2
      have p3 := p2.give (r := .inner (r.level + 1) none none [r.cut.2.1] [-((st.fresh : Int) + 1), -((st.fresh : Int) + 2)]) hs1 hs0 P.sa rfl
      have nb : -((st.fresh : Int) + 2) ∉ P' := fun m => by
        rcases pt.sub _ m with z | z
        · have := posQ _ z; omega
        · have := z.1; omega
      have up : ∀ {r0 : Rec} {lo hi : Option Int} {P : List Int} {I : Items}, (∀ q ∈ P, q ∈ P') → SubR (ov st g) n r0 lo hi P I → SubR (ov (((st.add r.cut.1).add r.cut.2.2).give s (.inner (r.level + 1) none none [r.cut.2.1] [-((st.fresh : Int) + 1), -((st.fresh : Int) + 2)])) g) n r0 lo hi P I := fun hm h => by
        refine SubR.give (SubR.add (SubR.add h fun m => na (hm _ m)) fun m => nb (hm _ ?_)) fun m => ns (hm _ m)
        rw [e2] at m
        exact m
      have ga : ov (((st.add r.cut.1).add r.cut.2.2).give s (.inner (r.level + 1) none none [r.cut.2.1] [-((st.fresh : Int) + 1), -((st.fresh : Int) + 2)])) g (-((st.fresh : Int) + 1)) = some r.cut.1 := by
        rw [ov_give, if_neg (by omega), ov_add, if_neg (by rw [e2]; omega), ov_add, if_pos rfl]
      have gb : ov (((st.add r.cut.1).add r.cut.2.2).give s (.inner (r.level + 1) none none [r.cut.2.1] [-((st.fresh : Int) + 1), -((st.fresh : Int) + 2)])) g (-((st.fresh : Int) + 2)) = some r.cut.2.2 := by
        rw [ov_give, if_neg (by omega), ov_add, if_pos e2.symm]
      have sn : SubR (ov (((st.add r.cut.1).add r.cut.2.2).give s (.inner (r.level + 1) none none [r.cut.2.1] [-((st.fresh : Int) + 1), -((st.fresh : Int) + 2)])) g) (n + 1) (.inner (r.level + 1) none none [r.cut.2.1] [-((st.fresh : Int) + 1), -((st.fresh : Int) + 2)]) none none
          ((-((st.fresh : Int) + 1) :: P1) ++ ((-((st.fresh : Int) + 2) :: P2) ++ [])) (J1 ++ (J2 ++ [])) :=
        ⟨[r.cut.2.1], [-((st.fresh : Int) + 1), -((st.fresh : Int) + 2)], by rw [hlev], -((st.fresh : Int) + 1), [-((st.fresh : Int) + 2)], some r.cut.2.1, _, _, _, _, rfl, ⟨_, _, ga, up mem1 s1, cs.z1.1, cs.z1.2, rfl⟩, ⟨rfl, none, _, [], _, [], ⟨_, _, gb, up mem2 s2, cs.z2.1, cs.z2.2, rfl⟩, ⟨rfl, rfl, rfl⟩, rfl, rfl⟩, rfl, rfl⟩
      refine ⟨_, Settle.root hpath.1 hbig cs.ok (sn.ok (show 2 ≤ 100 by omega)), .inl ?_⟩
      have hm := sn.most
      rw [if_neg (by omega)] at hm
      refine fin_of old (fs := []) (n := n + 1) (p := s.page) (lo := none) (hi := none) (Pc := []) (P' := _) (I' := _) (Il := []) (Ir := []) (Q := Q) ⟨c1, rfl, rfl, rfl, rfl, rfl⟩ (p3.perm (List.Perm.refl _) (perm_of fun q => ?_)) perm ⟨_, by rw [ov_give, if_pos rfl], sn, by rw [hm]; show 2 ≤ 5; omega, fun _ => show 2 ≤ 2 by omega⟩ (by rw [hI, eI]; simp)
      have := cP q
      simp only [List.count_cons, List.count_append, List.cons_append, List.count_nil]
      omega
    | cons f fs =>
      obtain ⟨ksL, ksR, psL, psR, plo, phi, PL, PR, IL, IR, Pc', Il', Ir', hf, h1, h2, h3, h4, h5, h6, h7, rfl, rfl, rfl⟩ := ctx
      have hl := h1.len
      have hl2 := h2.len
      have hps : psL.length + psR.length + 1 ≤ 5 := by
        rw [hf] at h4
        have : (psL ++ s.page :: psR).length ≤ 5 := h4
        rw [List.length_append, List.length_cons] at this
        omega
      have nps : s.page ∉ psL := fun m => by
        have a1 := cnt s.page
        have a2 := List.count_pos_iff.mpr (h1.mem _ m)
        simp only [List.count_cons, List.count_append, beq_self_eq_true, if_true] at a1
        omega
      have hpl : PlaceIs plo phi (ksL ++ ksR) (psL ++ s.page :: psR) s ksL.length := by
        refine ⟨by rw [hl]; simp, by rw [h1.cLo, hlo], by rw [h2.cHi, hhi], fun j hj e => ?_, P.sl, by simp; omega, by simp; omega⟩
        rw [List.getElem?_append_left (by omega)] at e
        exact nps (List.mem_of_getElem? e)
      have p1 := pt.give (r := r.cut.1) hs1 hs0 P.sa s1.level.2.2.2
      have p2 := p1.add (r := r.cut.2.2) (fun q m => (List.mem_cons.mp m).elim (fun e => e ▸ hs0) (posQ q)) s2.level.2.2.2
      have e2 : -(((st.give s r.cut.1).fresh : Int) + 1) = -((st.fresh : Int) + 1) := rfl
      rw [e2] at p2
      have out : ∀ q, q ∈ PL ++ PR → ov ((st.give s r.cut.1).add r.cut.2.2) g q = g q := fun q hq => by
        have h0 : q ∈ s.page :: (Q ++ (Pc' ++ f.page :: (PL ++ PR))) := by simp at hq; rcases hq with h | h <;> simp [h]
        refine (p2.out (fun m => ?_) (pos q h0)).1
        have h1 := cnt q
        have h2 := List.count_pos_iff.mpr m
        have h3 := List.count_pos_iff.mpr hq
        simp only [List.count_cons, List.count_append] at h1 h2 h3
        omega
      have b1 : KL (Sub (ov ((st.give s r.cut.1).add r.cut.2.2) g) n) plo ksL psL lo PL IL := h1.monoP fun c l h P1 I hp s => s.frame fun q hq => out q (List.mem_append_left _ (hp q hq))
      have b2 : KR (Sub (ov ((st.give s r.cut.1).add r.cut.2.2) g) n) hi ksR psR phi PR IR := h2.monoP fun c l h P1 I hp s => s.frame fun q hq => out q (List.mem_append_right _ (hp q hq))
      have p3 := p2.app (Ps := PL ++ PR) (by
        refine List.nodup_iff_count.mpr fun q => ?_
        have h1 := cnt q
        simp only [List.count_cons, List.count_append, List.cons_append] at h1 ⊢
        omega) (fun q hq => pos q (by simp at hq; rcases hq with h | h <;> simp [h])) (fun q hq => old.live q (inPo q (by simp at hq; rcases hq with h | h <;> simp [h])))
      have up : ∀ {r0 : Rec} {lo hi : Option Int} {P : List Int} {I : Items}, (∀ q ∈ P, q ∈ P') → SubR (ov st g) n r0 lo hi P I → SubR (ov ((st.give s r.cut.1).add r.cut.2.2) g) n r0 lo hi P I := fun hm h =>
        SubR.add (SubR.give h fun m => ns (hm _ m)) fun m => na (hm _ m)
      have suba : Sub (ov ((st.give s r.cut.1).add r.cut.2.2) g) n s.page lo (some r.cut.2.1) (s.page :: P1) J1 :=
        ⟨_, _, by rw [ov_add, if_neg (by rw [e2]; omega), ov_give, if_pos rfl], up mem1 s1, cs.z1.1, cs.z1.2, rfl⟩
      have subb : Sub (ov ((st.give s r.cut.1).add r.cut.2.2) g) n (-((st.fresh : Int) + 1)) (some r.cut.2.1) hi (-((st.fresh : Int) + 1) :: P2) J2 :=
        ⟨_, _, by rw [ov_add, if_pos e2.symm], up mem2 s2, cs.z2.1, cs.z2.2, rfl⟩
      have kids := b1.kids suba (ksR := r.cut.2.1 :: ksR) (psR := -((st.fresh : Int) + 1) :: psR) ⟨rfl, hi, _, PR, J2, IR, subb, b2, rfl, rfl⟩
      have sn : SubR (ov ((st.give s r.cut.1).add r.cut.2.2) g) (n + 1) (.inner ((n : Int) + 1) plo phi (ksL ++ r.cut.2.1 :: ksR) (psL ++ s.page :: -((st.fresh : Int) + 1) :: psR)) plo phi _ _ := ⟨_, _, rfl, kids⟩
      have hsz : (Rec.inner ((n : Int) + 1) plo phi (ksL ++ r.cut.2.1 :: ksR) (psL ++ s.page :: -((st.fresh : Int) + 1) :: psR)).size = psL.length + psR.length + 2 := by
        show (psL ++ s.page :: -((st.fresh : Int) + 1) :: psR).length = _
        rw [List.length_append, List.length_cons, List.length_cons]
        omega
      have ek : insI (ksL ++ ksR) ksL.length r.cut.2.1 = ksL ++ r.cut.2.1 :: ksR := insI_at _ _ _
      have ep : insI (psL ++ s.page :: psR) (ksL.length + 1) (-((st.fresh : Int) + 1)) = psL ++ s.page :: -((st.fresh : Int) + 1) :: psR := by rw [hl]; exact insI_at1 _ _ _ _
      refine ⟨_, Settle.cut hpath.1 hpath.2.1 hf hpl hbig cs.ok ?_, .inl ⟨f, fs, rfl, ?_⟩⟩
      · rw [ek, ep]
        exact sn.ok (by rw [hsz]; omega)
      · rw [ek, ep]
        have hm := sn.most
        rw [if_neg (by omega)] at hm
        refine ⟨⟨plo, phi, (s.page :: Q) ++ (PL ++ PR), _, Pc', _, Il', Ir', h7, sn, by rw [hf]; rfl, by rw [hf]; rfl, p3.perm (List.Perm.refl _) (perm_of fun q => ?_), perm.trans (perm_of fun q => ?_), ?_⟩, by rw [hf]; rfl, h6, by rw [hm, hsz]; omega, fun _ => by rw [hsz]; omega, fun e _ => by rw [hsz]; omega⟩
        · have := cP q
          simp only [List.count_cons, List.count_append, List.cons_append]
          omega
        · simp only [List.count_cons, List.count_append, List.cons_append]
          omega
        · rw [hI, eI]
          simp
  · by_cases hlow : fs ≠ [] ∧ r.size < 2
    · -- too few
      obtain ⟨hne, hlt⟩ := hlow
      cases fs with
      | nil => exact absurd rfl hne
      | cons f fs =>
        have hr1 := P.low hne
        obtain ⟨ksL, ksR, psL, psR, plo, phi, PL, PR, IL, IR, Pc', Il', Ir', hf, h1, h2, h3, h4, h5, h6, h7, rfl, rfl, rfl⟩ := ctx
        have hl := h1.len
        have hl2 := h2.len
        have hps : psL.length + psR.length + 1 ≤ 5 ∧ 2 ≤ psL.length + psR.length + 1 := by
          rw [hf] at h4 h3
          have a1 : (psL ++ s.page :: psR).length ≤ 5 := h4
          have a2 : 2 ≤ (psL ++ s.page :: psR).length := h3
          rw [List.length_append, List.length_cons] at a1 a2
          omega
        have nps : s.page ∉ psL := fun m => by
          have a1 := cnt s.page
          have a2 := List.count_pos_iff.mpr (h1.mem _ m)
          simp only [List.count_cons, List.count_append, beq_self_eq_true, if_true] at a1
          omega
        have hpl : PlaceIs plo phi (ksL ++ ksR) (psL ++ s.page :: psR) s ksL.length := by
          refine ⟨by rw [hl]; simp, by rw [h1.cLo, hlo], by rw [h2.cHi, hhi], fun j hj e => ?_, P.sl, by simp; omega, by simp; omega⟩
          rw [List.getElem?_append_left (by omega)] at e
          exact nps (List.mem_of_getElem? e)
        have hio := idxOf_at (psR := psR) nps
        have hoth : oth f s = (psL ++ s.page :: psR).getD (if psL.length = 0 then 1 else psL.length - 1) 0 := by
          unfold oth
          rw [hf]
          simp only [hio]
        have hrl : r.live = true := sub.level.2.2.2
        -- an untouched neighbour
        have nb : ∀ {q : Int} {rs : Rec} {l h : Option Int} {Ps : List Int} {Ii : Items}, g q = some rs → SubR g n rs l h Ps Ii → (∀ x ∈ q :: Ps, x ∈ Pc' ++ f.page :: (PL ++ PR)) → (Q ++ Ps).Nodup → SubR (ov st g) n rs l h Ps Ii ∧ Part g ad (Q ++ Ps) (P' ++ Ps) st := fun {q rs l h Ps Ii} gq sq hm hnd => by
          have hP : ∀ x ∈ Ps, x ∈ s.page :: (Q ++ (Pc' ++ f.page :: (PL ++ PR))) := fun x hx => by
            have := hm x (List.mem_cons_of_mem _ hx)
            exact List.mem_cons_of_mem _ (List.mem_append_right _ this)
          exact ⟨sq.frame fun x hx => (pt.out ((fun m => (List.nodup_append.mp hnd).2.2 x m x hx rfl)) (pos x (hP x hx))).1,
            pt.app hnd (fun x hx => pos x (hP x hx)) fun x hx => old.live x (inPo x (hP x hx))⟩
        rcases List.eq_nil_or_concat psL with rfl | ⟨psL', q, e⟩
        · -- the first child: its right neighbour
          obtain rfl : ksL = [] := List.length_eq_zero_iff.mp hl
          obtain ⟨rfl, rfl, rfl⟩ := h1
          cases psR with
          | nil => simp at hps
          | cons q psR =>
            cases ksR with
            | nil => simp at hl2
            | cons k ksR =>
              obtain ⟨rfl, z, Pq, PR', Iq, IR', ⟨rs, Ps, gq, sq, z1, z2, rfl⟩, h2', rfl, rfl⟩ := h2
              have hmq := sq.most
              cases hsb : alook sibs q with
              | none =>
                refine ⟨_, Settle.read hpath.1 hpath.2.1 hf hpl hrl hlt (show ([] ++ s.page :: q :: psR)[1]? = some q from rfl) hsb, .inr ⟨q, f, fs, rfl, hsb, rfl, ?_, rs, gq⟩⟩
                rw [hoth]; rfl
              | some sb =>
                obtain ⟨e1, e2, e3⟩ := sib q sb hsb
                rw [gq] at e2
                cases e2
                obtain ⟨n1, n2⟩ := nb gq sq (fun x hx => by simp at hx ⊢; rcases hx with h | h <;> simp [h]) (by
                  refine List.nodup_iff_count.mpr fun x => ?_
                  have a1 := cnt x
                  simp only [List.count_cons, List.count_append, List.cons_append] at a1 ⊢
                  omega)
                obtain ⟨res, pr, af⟩ := joined_pair (ksL := []) (psL := []) (ksR := ksR) (psR := psR) (PL := []) (IL := []) (Il := Il') (Ir := Ir') (a := s.page) (b := q) (sl := s) (sr := sb) (Pc := Pc') (Is := Is) (path := path) old hpath.2.1 h7 hf ⟨rfl, rfl, rfl⟩ h2' h4 h6 sub n1 rfl e1 P.sa e3 n2
                  (perm.trans (perm_of fun x => by simp only [List.count_cons, List.count_append, List.cons_append, List.count_nil]; omega)) (by rw [hI]; simp) (by omega) (by omega)
                refine ⟨res, Settle.uniteR hpath.1 hpath.2.1 hf hpl hrl hlt (show ([] ++ s.page :: q :: psR)[1]? = some q from rfl) hsb ?_ sq.level.2.2.2 ?_ ?_ pr, .inl af⟩
                · rw [sq.level.1, sub.level.1]
                · rw [sq.level.2.1]; rfl
                · rw [sq.level.2.2.1]
                  exact h2'.cHi [k]
        · -- its left neighbour
          rw [List.concat_eq_append] at e
          subst e
          rcases List.eq_nil_or_concat ksL with rfl | ⟨ksL', k, e⟩
          · simp at hl
          · rw [List.concat_eq_append] at e
            subst e
            obtain ⟨y, PL1, Pq, IL1, Iq, h1', ⟨rs, Ps, gq, sq, z1, z2, rfl⟩, rfl, rfl, rfl⟩ := KL.last h1
            have hl' := h1'.len
            have hmq := sq.most
            have hf' : f.rcd = .inner ((n : Int) + 1) plo phi (ksL' ++ k :: ksR) (psL' ++ q :: s.page :: psR) := by rw [hf]; simp
            have hpl' : PlaceIs plo phi (ksL' ++ k :: ksR) (psL' ++ q :: s.page :: psR) s (ksL'.length + 1) := by
              have := hpl
              simp only [List.append_assoc, List.cons_append, List.nil_append, List.length_append, List.length_cons, List.length_nil] at this
              exact this
            have hq : (psL' ++ q :: s.page :: psR)[ksL'.length]? = some q := by rw [hl']; simp
            cases hsb : alook sibs q with
            | none =>
              refine ⟨_, Settle.read hpath.1 hpath.2.1 hf' hpl' hrl hlt (by rw [if_neg (by omega), Nat.add_sub_cancel]; exact hq) hsb, .inr ⟨q, f, fs, rfl, hsb, rfl, ?_, rs, gq⟩⟩
              rw [hoth, if_neg (by simp), List.getD_eq_getElem?_getD]
              simp
            | some sb =>
              obtain ⟨e1, e2, e3⟩ := sib q sb hsb
              rw [gq] at e2
              cases e2
              obtain ⟨n1, n2⟩ := nb gq sq (fun x hx => by simp at hx ⊢; rcases hx with h | h <;> simp [h]) (by
                refine List.nodup_iff_count.mpr fun x => ?_
                have a1 := cnt x
                simp only [List.count_cons, List.count_append, List.cons_append] at a1 ⊢
                omega)
              obtain ⟨res, pr, af⟩ := joined_pair (ksL := ksL') (psL := psL') (ksR := ksR) (psR := psR) (PL := PL1) (IL := IL1) (Il := Il') (Ir := Ir') (a := q) (b := s.page) (sl := sb) (sr := s) (Pc := Pc') (Is := Is) (path := path) old hpath.2.1 h7 hf' h1' h2 h4 h6 n1 sub e1 rfl e3 P.sa
                (n2.perm (List.Perm.refl _) List.perm_append_comm) (perm.trans (perm_of fun x => by simp only [List.count_cons, List.count_append, List.cons_append, List.count_nil]; omega)) (by rw [hI]; simp) (by omega) (by omega)
              refine ⟨res, Settle.uniteL hpath.1 hpath.2.1 hf' hpl' hrl hlt hq hsb ?_ sq.level.2.2.2 ?_ ?_ pr, .inl af⟩
              · rw [sq.level.1, sub.level.1]
              · rw [sq.level.2.1]
                exact h1'.cLo _
              · rw [sq.level.2.2.1]
                unfold Esp.cHi
                simp
    · -- it fits
      refine ⟨_, Settle.give hpath.1 sub.level.2.2.2 (by omega) ?_, .inl ?_⟩
      · by_cases e : fs = []
        · subst e; exact .inl rfl
        · exact .inr (by
            by_cases h2 : r.size < 2
            · exact absurd ⟨e, h2⟩ hlow
            · omega)
      · have p1 := pt.give (r := r) hs1 hs0 P.sa sub.level.2.2.2
        refine fin_of old ctx p1 perm ⟨r, by rw [ov_give, if_pos rfl], sub.give ns, by omega, fun h => ?_⟩ hI
        by_cases e : fs = []
        · subst e
          rcases h with h | h
          · simp at h
          · exact P.root rfl h
        · by_cases h2 : r.size < 2
          · exact absurd ⟨e, h2⟩ hlow
          · omega
end Esp
set_option Elab.async false
set_option linter.all false
set_option maxRecDepth 100000
set_option maxHeartbeats 2000000
/-! M6: the loop; the walk down; the leaf. -/
namespace Esp
/-! ### the loop -/
theorem OnPath.cand {path : List Step} {f s : Step} {fs : List Step} (h : OnPath path (s :: f :: fs)) : oth f s ∈ (List.range (path.length - 1)).map fun i => match path[i]?, path[i + 1]? with
    | some a, some b => oth a b
    | _, _ => 0 := by
  have h1 : path[fs.length + 1]? = some s := h.1
  have h2 : path[fs.length]? = some f := h.2.1
  have := (List.getElem?_eq_some_iff.mp h1).1
  refine List.mem_map.mpr ⟨fs.length, List.mem_range.mpr (by omega), ?_⟩
  rw [h1, h2]
def cands (path : List Step) : List Int := (List.range (path.length - 1)).map fun i => match path[i]?, path[i + 1]? with
    | some a, some b => oth a b
    | _, _ => 0
theorem loop_of {g : G} {ad : Int → Option Int} {Po : List Int} {Is : Items} {path : List Step} {sibs : List (Int × Step)} (old : Old g Po) (sib : SibOk g ad sibs) (had : ∀ q r, g q = some r → ∃ a, ad q = some a) :
    ∀ (fs : List Step) {s : Step} {n : Nat} {st : Dr} {r : Rec}, OnPath path (s :: fs) → Pend g ad Po Is fs s n st r →
    ∃ res, Loop path sibs st fs.length r res ∧ ((∃ st', res = .inl st' ∧ Fin g ad Po Is st') ∨ ∃ q, res = .inr q ∧ alook sibs q = none ∧ q ∈ cands path ∧ ∃ rq, g q = some rq)
  | [], s, n, st, r, hp, P => by
    obtain ⟨res, h, af | ⟨q, f, fs', rfl, h2, h3, _⟩⟩ := settle_step old sib had hp P
    · cases res with
      | done st' => exact ⟨_, .done h, .inl ⟨st', rfl, af⟩⟩
      | up st' r' =>
        obtain ⟨f, fs', e, _⟩ := af
        cases e
      | read q => exact af.elim
    · cases h3
  | f :: fs, s, n, st, r, hp, P => by
    obtain ⟨res, h, af | ⟨q, f', fs', rfl, h2, h3, h4, h5⟩⟩ := settle_step old sib had hp P
    · cases res with
      | done st' => exact ⟨_, .done h, .inl ⟨st', rfl, af⟩⟩
      | up st' r' =>
        obtain ⟨f', fs', e, P'⟩ := af
        injection e with e1 e2
        subst e1 e2
        obtain ⟨res, k1, k2⟩ := loop_of old sib had fs hp.2 P'
        exact ⟨res, .up h k1, k2⟩
      | read q => exact af.elim
    · injection h3 with e1 e2
      subst e1 e2
      refine ⟨_, .read h, .inr ⟨q, rfl, h2, ?_, h5⟩⟩
      rw [h4]
      exact hp.cand
/-! ### the walk down -/
structure Tree (g : G) (P : List Int) (I : Items) : Prop where
  ex : ∃ N P0, Top g false N 0 none none P0 I ∧ P = 0 :: P0
  nd : P.Nodup
  pos : ∀ q ∈ P, 0 ≤ q
  live : ∀ q, q ∈ P ↔ ∃ r, g q = some r ∧ r.live = true
theorem Tree.old {g : G} {P : List Int} {I : Items} (t : Tree g P I) : Old g P := ⟨t.nd, t.pos, fun q h => (t.live q).mp h⟩
def inB (key : Int) (lo hi : Option Int) : Prop := abv key lo = true ∧ blw key hi = true
structure Down (g : G) (ad : Int → Option Int) (Po : List Int) (I : Items) (key : Int) (n : Nat) (fs : List Step) (s : Step) : Prop where
  ex : ∃ lo hi P' Pc I' Il Ir, Ctx g ad fs n s.page lo hi Pc Il Ir ∧ SubR g n s.rcd lo hi P' I' ∧ inB key lo hi ∧ Po.Perm (s.page :: (P' ++ Pc)) ∧ I = Il ++ (I' ++ Ir)
  at_ : g s.page = some s.rcd
  sa : ad s.page = some s.addr
  big : s.rcd.size ≤ s.rcd.most
  low : fs ≠ [] ∨ n ≠ 0 → 2 ≤ s.rcd.size
theorem split_key (key : Int) : ∀ {ks : List Int}, ks.Pairwise (· < ·) → ∃ A B, ks = A ++ B ∧ (∀ k ∈ A, k ≤ key) ∧ (∀ k ∈ B, key < k) ∧ (ks.filter fun x => decide (x ≤ key)).length = A.length
  | [], _ => ⟨[], [], rfl, by simp, by simp, rfl⟩
  | k :: ks, h => by
    obtain ⟨h1, h2⟩ := List.pairwise_cons.mp h
    by_cases e : k ≤ key
    · obtain ⟨A, B, rfl, a, b, c⟩ := split_key key h2
      refine ⟨k :: A, B, rfl, fun x hx => ?_, b, ?_⟩
      · rcases List.mem_cons.mp hx with rfl | hx
        · exact e
        · exact a x hx
      · rw [List.filter_cons, if_pos (decide_eq_true e), List.length_cons, c, List.length_cons]
    · refine ⟨[], k :: ks, rfl, by simp, fun x hx => ?_, ?_⟩
      · rcases List.mem_cons.mp hx with rfl | hx
        · omega
        · have := h1 x hx; omega
      · have hz : ∀ x ∈ k :: ks, ¬ (decide (x ≤ key)) = true := by
          intro x hx
          rcases List.mem_cons.mp hx with rfl | hx
          · simpa using e
          · have := h1 x hx
            simp
            omega
        rw [List.filter_eq_nil_iff.mpr hz] <;> rfl
theorem KL.above {S : Sb} {lo x : Option Int} {ksL psL : List Int} {P : List Int} {I : Items} {key : Int} (h : KL S lo ksL psL x P I) (a : ∀ k ∈ ksL, k ≤ key) (b : abv key lo = true) : abv key x = true := by
  have e := h.cLo []
  rw [List.append_nil] at e
  rcases List.eq_nil_or_concat ksL with rfl | ⟨ks, k, rfl⟩
  · rw [← e]
    exact b
  · rw [← e]
    unfold Esp.cLo
    rw [List.concat_eq_append, if_neg (by simp)]
    simp only [List.length_append, List.length_cons, List.length_nil, Nat.zero_add, Nat.add_sub_cancel, List.getElem?_append_right (Nat.le_refl _), Nat.sub_self, List.getElem?_cons_zero]
    exact decide_eq_true (a k (by simp))
theorem KR.below {S : Sb} {x hi : Option Int} {ksR psR : List Int} {P : List Int} {I : Items} {key : Int} (h : KR S x ksR psR hi P I) (a : ∀ k ∈ ksR, key < k) (b : blw key hi = true) : blw key x = true := by
  have e := h.cHi []
  rw [← e]
  cases ksR with
  | nil => exact b
  | cons k ks => exact decide_eq_true (a k (by simp))
theorem Down.child {g : G} {ad : Int → Option Int} {Po : List Int} {I : Items} {key : Int} {n : Nat} {fs : List Step} {s : Step} (had : ∀ q r, g q = some r → ∃ a, ad q = some a) (d : Down g ad Po I key (n + 1) fs s) :
    ∃ lo hi ks ps c rc a, s.rcd = .inner ((n : Int) + 1) lo hi ks ps ∧ ps.length ≤ 5 ∧ ks.length ≤ 5 ∧ ps[(ks.filter fun x => decide (x ≤ key)).length]? = some c ∧ g c = some rc ∧ ad c = some a ∧ ∀ acc, Down g ad Po I key n (s :: fs) ⟨c, a, rc, acc⟩ := by
  obtain ⟨lo, hi, P', Pc, I', Il, Ir, ctx, sub, hb, perm, hI⟩ := d.ex
  have hm := sub.most
  rw [if_neg (by omega)] at hm
  obtain ⟨ks, ps, e, kids⟩ := sub
  have hl := kids.len
  obtain ⟨kp, _, _⟩ := kids.keys fun _ _ _ _ _ s => Sub.bk s
  obtain ⟨A, B, rfl, ha, hB, hc⟩ := split_key key kp
  have hsz : ps.length ≤ 5 := by
    have := d.big
    rw [hm, e] at this
    exact this
  have hlow : 2 ≤ ps.length := by
    have := d.low (.inr (by omega))
    rw [e] at this
    exact this
  rw [List.length_append] at hl
  have hc1 : A.length < ps.length := by omega
  have eps : ps = ps.take A.length ++ ps[A.length] :: ps.drop (A.length + 1) := by
    rw [List.getElem_cons_drop hc1, List.take_append_drop]
  have hkl : A.length = (ps.take A.length).length := by rw [List.length_take]; omega
  rw [eps] at kids
  obtain ⟨x, y, PL, P1, PR, IL, I1, IR, k1, ⟨rc, Pr, gc, sc, z1, z2, rfl⟩, k3, rfl, rfl⟩ := Kids.at hkl kids
  obtain ⟨a, haa⟩ := had _ _ gc
  refine ⟨lo, hi, A ++ B, ps, ps[A.length], rc, a, e, hsz, by rw [List.length_append]; omega, ?_, gc, haa, fun acc => ⟨⟨x, y, Pr, _, I1, _, _, ⟨A, B, _, _, lo, hi, PL, PR, IL, IR, Pc, Il, Ir, by rw [e]; show _ = Rec.inner _ _ _ _ (List.take A.length ps ++ ps[A.length] :: List.drop (A.length + 1) ps); rw [← eps], k1, k3, d.low (.inr (by omega)), by rw [e]; exact hsz, d.at_, d.sa, ctx, rfl, rfl, rfl⟩, sc, ⟨k1.above ha hb.1, k3.below hB hb.2⟩, perm.trans (perm_of fun q => ?_), ?_⟩, gc, haa, z2, fun _ => z1⟩⟩
  · rw [hc]
    exact List.getElem?_eq_getElem hc1
  · simp only [List.count_cons, List.count_append, List.cons_append]
    omega
  · rw [hI]
    simp
theorem Tree.down {g : G} {ad : Int → Option Int} {P : List Int} {I : Items} (t : Tree g P I) (had : ∀ q r, g q = some r → ∃ a, ad q = some a) (key : Int) : ∃ N r a, g 0 = some r ∧ ad 0 = some a ∧ (N ≠ 0 → 2 ^ (N + 1) ≤ I.length) ∧ ∀ acc, Down g ad P I key N [] ⟨0, a, r, acc⟩ := by
  obtain ⟨N, P0, ⟨r, h1, h2, h3, h4⟩, rfl⟩ := t.ex
  obtain ⟨a, ha⟩ := had _ _ h1
  exact ⟨N, r, a, h1, ha, fun h => (h2.count (h4 (.inr h))).2, fun acc => ⟨⟨none, none, P0, [], I, [], [], ⟨rfl, rfl, rfl, rfl, rfl, rfl⟩, h2, ⟨rfl, rfl⟩, by simp, by simp⟩, h1, ha, h3, fun h => h4 (.inr (h.resolve_left fun z => z rfl))⟩⟩
theorem Tree.count {g : G} {P : List Int} {I : Items} (t : Tree g P I) : P.length ≤ I.length + 1 := by
  obtain ⟨N, P0, ⟨r, h1, h2, h3, h4⟩, rfl⟩ := t.ex
  cases N with
  | zero =>
    obtain ⟨ks, vs, _, _, rfl, _⟩ := h2
    simp
  | succ N =>
    have := (h2.count (h4 (.inr (by omega)))).1
    rw [List.length_cons]
    omega
/-! ### the leaf -/
theorem split_lt (key : Int) : ∀ {ks : List Int}, ks.Pairwise (· < ·) → ∃ A B, ks = A ++ B ∧ (∀ k ∈ A, k < key) ∧ (∀ k ∈ B, key ≤ k) ∧ plc ks key = A.length
  | [], _ => ⟨[], [], rfl, by simp, by simp, rfl⟩
  | k :: ks, h => by
    obtain ⟨h1, h2⟩ := List.pairwise_cons.mp h
    by_cases e : k < key
    · obtain ⟨A, B, rfl, a, b, c⟩ := split_lt key h2
      refine ⟨k :: A, B, rfl, fun x hx => ?_, b, ?_⟩
      · rcases List.mem_cons.mp hx with rfl | hx
        · exact e
        · exact a x hx
      · unfold plc at c ⊢
        rw [List.filter_cons, if_pos (decide_eq_true e), List.length_cons, c, List.length_cons]
    · refine ⟨[], k :: ks, rfl, by simp, fun x hx => ?_, ?_⟩
      · rcases List.mem_cons.mp hx with rfl | hx
        · omega
        · have := h1 x hx; omega
      · unfold plc
        have hz : ∀ x ∈ k :: ks, ¬ (decide (x < key)) = true := by
          intro x hx
          rcases List.mem_cons.mp hx with rfl | hx
          · simpa using e
          · have := h1 x hx
            simp
            omega
        rw [List.filter_eq_nil_iff.mpr hz] <;> rfl
theorem lkp_app : ∀ {A VA : List Int} (B VB : List Int) (k : Int), A.length = VA.length → (∀ a ∈ A, a ≠ k) → lkp (A ++ B) (VA ++ VB) k = lkp B VB k
  | [], [], _, _, _, _, _ => rfl
  | a :: A, v :: VA, B, VB, k, hl, h => by
    show (if a = k then some v else lkp (A ++ B) (VA ++ VB) k) = _
    rw [if_neg (h a (by simp)), lkp_app B VB k (by simpa using hl) fun x hx => h x (by simp [hx])]
  | [], _ :: _, _, _, _, hl, _ => by simp at hl
  | _ :: _, [], _, _, _, hl, _ => by simp at hl
theorem lkp_none : ∀ {B VB : List Int} {k : Int}, (∀ b ∈ B, b ≠ k) → lkp B VB k = none
  | [], _, _, _ => by unfold lkp; rfl
  | b :: B, [], _, _ => by unfold lkp; rfl
  | b :: B, v :: VB, k, h => by
    show (if b = k then some v else lkp B VB k) = none
    rw [if_neg (h b (by simp)), lkp_none fun x hx => h x (by simp [hx])]
def mid {α : Type} (A B : List α) : Option α → List α
  | some x => A ++ x :: B
  | none => A ++ B
/-- a leaf's keys about a key -/
structure Split (ks vs : List Int) (key : Int) (A VA B VB : List Int) (w : Option Int) : Prop where
  lenA : A.length = VA.length
  lenB : B.length = VB.length
  ltA : ∀ a ∈ A, a < key
  ltB : ∀ b ∈ B, key < b
  kA : A.Pairwise (· < ·)
  kB : B.Pairwise (· < ·)
  plc_ : plc ks key = A.length
  look : lkp ks vs key = w
  ks_ : ks = mid A B (w.map fun _ => key)
  vs_ : vs = mid VA VB w
  bhd_ : bhd ks key = A.length + (if w.isSome then 1 else 0)
theorem split_of {ks vs : List Int} (hl : ks.length = vs.length) (hp : ks.Pairwise (· < ·)) (key : Int) : ∃ A VA B VB w, Split ks vs key A VA B VB w := by
  obtain ⟨A, B, rfl, ha, hb, hc⟩ := split_lt key hp
  rw [List.length_append] at hl
  obtain ⟨p1, p2, p3⟩ := List.pairwise_append.mp hp
  have ev : vs = vs.take A.length ++ vs.drop A.length := (List.take_append_drop _ _).symm
  have lA : A.length = (vs.take A.length).length := by rw [List.length_take]; omega
  have lB : B.length = (vs.drop A.length).length := by rw [List.length_drop]; omega
  have hne : ∀ a ∈ A, a ≠ key := fun a h => by have := ha a h; omega
  generalize hVA : vs.take A.length = VA at *
  generalize hVB : vs.drop A.length = VB at *
  subst ev
  by_cases hk : ∃ B', B = key :: B'
  · obtain ⟨B', rfl⟩ := hk
    cases VB with
    | nil => simp at lB
    | cons w VB =>
      obtain ⟨q1, q2⟩ := List.pairwise_cons.mp p2
      refine ⟨A, VA, B', VB, some w, lA, by simpa using lB, ha, q1, p1, q2, hc, ?_, rfl, rfl, ?_⟩
      · rw [lkp_app _ _ _ lA hne]
        show (if key = key then some w else _) = _
        rw [if_pos rfl]
      · unfold bhd
        rw [hc, if_pos (by simp)] <;> rfl
  · have hb' : ∀ b ∈ B, key < b := fun b hb' => by
      cases B with
      | nil => simp at hb'
      | cons x B =>
        have h1 := hb x (by simp)
        have h2 : x ≠ key := fun e => hk ⟨B, by rw [e]⟩
        obtain ⟨q1, _⟩ := List.pairwise_cons.mp p2
        rcases List.mem_cons.mp hb' with rfl | h
        · omega
        · have := q1 b h; omega
    refine ⟨A, VA, B, VB, none, lA, lB, ha, hb', p1, p2, hc, ?_, rfl, rfl, ?_⟩
    · rw [lkp_app _ _ _ lA hne]
      exact lkp_none fun b h => by have := hb' b h; omega
    · unfold bhd
      have hn : ¬ (A ++ B)[A.length]? = some key := by
        intro e
        rw [List.getElem?_append_right (Nat.le_refl _), Nat.sub_self] at e
        have := hb' key (List.mem_of_getElem? e)
        omega
      rw [hc, if_neg hn] <;> rfl
/-- the items behind a call -/
def itm (A VA B VB : List Int) (key : Int) : Option Int → Items
  | some v => A.zip VA ++ (key, v) :: B.zip VB
  | none => A.zip VA ++ B.zip VB
theorem Split.items {ks vs : List Int} {key : Int} {A VA B VB : List Int} {w : Option Int} (s : Split ks vs key A VA B VB w) : ks.zip vs = itm A VA B VB key w := by
  rw [s.ks_, s.vs_]
  cases w with
  | some x => exact List.zip_append s.lenA
  | none => exact List.zip_append s.lenA
theorem Split.ins {ks vs : List Int} {key : Int} {A VA B VB : List Int} {w : Option Int} (s : Split ks vs key A VA B VB w) (v : Int) : insK ks key = A ++ key :: B ∧ insV ks vs key v = VA ++ v :: VB := by
  unfold insK insV
  rw [s.plc_, s.bhd_, s.ks_, s.vs_]
  have e := s.lenA
  cases w with
  | some x =>
    simp only [mid, Option.map_some, Option.isSome_some, if_true]
    refine ⟨by simp, ?_⟩
    rw [e]
    simp
  | none =>
    simp only [mid, Option.map_none, Option.isSome_none]
    refine ⟨by simp, ?_⟩
    rw [e]
    simp
theorem Split.del {ks vs : List Int} {key x : Int} {A VA B VB : List Int} (s : Split ks vs key A VA B VB (some x)) : delI ks (plc ks key) = A ++ B ∧ delI vs (plc ks key) = VA ++ VB := by
  rw [s.plc_]
  have e := s.lenA
  have e1 : ks = A ++ key :: B := s.ks_
  have e2 : vs = VA ++ x :: VB := s.vs_
  refine ⟨by rw [e1]; exact delI_at _ _ _, ?_⟩
  rw [e2, e]
  exact delI_at _ _ _
theorem Split.leaf {ks vs : List Int} {key : Int} {A VA B VB : List Int} {w : Option Int} {lo hi : Option Int} (s : Split ks vs key A VA B VB w) (h : LeafOk lo hi ks vs) (hk : inB key lo hi) {a : Option Int} (ha : a = none → w.isSome = true) :
    ∃ ks' vs', actRec lo hi ks vs key a = .leaf lo hi ks' vs' ∧ LeafOk lo hi ks' vs' ∧ ks'.zip vs' = itm A VA B VB key a ∧ vs'.length ≤ vs.length + 1 ∧ vs.length ≤ vs'.length + 1 := by
  obtain ⟨_, hb, _, hm⟩ := h
  have hmA : ∀ x ∈ A, (abv x lo && blw x hi) = true := fun x hx => hm x (by rw [s.ks_]; cases w <;> simp [mid, hx])
  have hmB : ∀ x ∈ B, (abv x lo && blw x hi) = true := fun x hx => hm x (by rw [s.ks_]; cases w <;> simp [mid, hx])
  have lv : vs.length = VA.length + VB.length + (if w.isSome then 1 else 0) := by
    rw [s.vs_]
    cases w <;> simp [mid] <;> omega
  cases a with
  | some v =>
    obtain ⟨e1, e2⟩ := s.ins v
    refine ⟨_, _, rfl, ?_, ?_, ?_, ?_⟩
    · rw [e1, e2]
      refine ⟨by simp [s.lenA, s.lenB], hb, List.pairwise_append.mpr ⟨s.kA, List.pairwise_cons.mpr ⟨s.ltB, s.kB⟩, fun x hx y hy => ?_⟩, fun x hx => ?_⟩
      · have := s.ltA x hx
        rcases List.mem_cons.mp hy with rfl | hy
        · exact this
        · have := s.ltB y hy; omega
      · rcases List.mem_append.mp hx with hx | hx
        · exact hmA x hx
        · rcases List.mem_cons.mp hx with rfl | hx
          · rw [Bool.and_eq_true]; exact hk
          · exact hmB x hx
    · rw [e1, e2]
      exact List.zip_append s.lenA
    · rw [e2, lv]
      simp
      omega
    · rw [e2, lv]
      cases w <;> simp <;> omega
  | none =>
    cases w with
    | none => simp at ha
    | some x =>
      obtain ⟨e1, e2⟩ := s.del
      refine ⟨_, _, rfl, ?_, ?_, ?_, ?_⟩
      · rw [e1, e2]
        refine ⟨by simp [s.lenA, s.lenB], hb, List.pairwise_append.mpr ⟨s.kA, s.kB, fun x hx y hy => ?_⟩, fun x hx => ?_⟩
        · have := s.ltA x hx
          have := s.ltB y hy
          omega
        · rcases List.mem_append.mp hx with hx | hx
          · exact hmA x hx
          · exact hmB x hx
      · rw [e1, e2]
        exact List.zip_append s.lenA
      · rw [e2, lv]
        simp
        omega
      · rw [e2, lv]
        simp
theorem itm_mem {A VA B VB : List Int} {key : Int} (hA : ∀ a ∈ A, a < key) (hB : ∀ b ∈ B, key < b) (w : Option Int) (x v : Int) : (x, v) ∈ itm A VA B VB key w ↔ if x = key then w = some v else (x, v) ∈ A.zip VA ∨ (x, v) ∈ B.zip VB := by
  have nA : ∀ v, (key, v) ∉ A.zip VA := fun v h => by have := hA key (List.of_mem_zip h).1; omega
  have nB : ∀ v, (key, v) ∉ B.zip VB := fun v h => by have := hB key (List.of_mem_zip h).1; omega
  unfold itm
  by_cases e : x = key
  · subst e
    rw [if_pos rfl]
    cases w with
    | some y => simp [nA, nB]; exact eq_comm
    | none => simp [nA, nB]
  · rw [if_neg e]
    cases w with
    | some y => simp [e]
    | none => simp
end Esp
set_option Elab.async false
set_option linter.all false
set_option maxRecDepth 100000
set_option maxHeartbeats 2000000
/-! M7: a call's start and end. -/
namespace Esp
theorem Ctx.items {g : G} {ad : Int → Option Int} : ∀ {fs : List Step} {n : Nat} {p : Int} {lo hi : Option Int} {Pc : List Int} {Il Ir : Items}, Ctx g ad fs n p lo hi Pc Il Ir → (∀ q ∈ Il, ∃ l, lo = some l ∧ q.1 < l) ∧ ∀ q ∈ Ir, ∃ h, hi = some h ∧ h ≤ q.1
  | [], _, _, _, _, _, _, _, h => by
    obtain ⟨_, _, _, _, rfl, rfl⟩ := h
    simp
  | f :: fs, n, p, lo, hi, Pc, Il, Ir, h => by
    obtain ⟨ksL, ksR, psL, psR, plo, phi, PL, PR, IL, IR, Pc', Il', Ir', e1, h1, h2, h3, h4, h5, h6, h7, rfl, rfl, rfl⟩ := h
    obtain ⟨a, b⟩ := Ctx.items h7
    refine ⟨fun q hq => ?_, fun q hq => ?_⟩
    · rcases h1.items Sub.both with ⟨rfl, rfl⟩ | ⟨k, rfl, bk, hb⟩
      · rw [List.append_nil] at hq
        exact a q hq
      · refine ⟨k, rfl, ?_⟩
        rcases List.mem_append.mp hq with hq | hq
        · obtain ⟨l, rfl, hl⟩ := a q hq
          have : l < k := of_decide_eq_true bk
          omega
        · exact of_decide_eq_true (hb.2 q hq).2
    · rcases h2.items Sub.both with ⟨rfl, rfl⟩ | ⟨k, rfl, bk, hb⟩
      · rw [List.nil_append] at hq
        exact b q hq
      · refine ⟨k, rfl, ?_⟩
        rcases List.mem_append.mp hq with hq | hq
        · exact of_decide_eq_true (hb.2 q hq).1
        · obtain ⟨l, rfl, hl⟩ := b q hq
          have : k < l := of_decide_eq_true bk
          omega
theorem onPath_rev : ∀ (fs rest : List Step), OnPath (fs.reverse ++ rest) fs
  | [], _ => trivial
  | f :: fs, rest => by
    have e : (f :: fs).reverse ++ rest = fs.reverse ++ f :: rest := by simp
    rw [e]
    refine ⟨?_, onPath_rev fs (f :: rest)⟩
    rw [List.getElem?_append_right (by simp)]
    simp
structure Start (g : G) (ad : Int → Option Int) (P : List Int) (I : Items) (c : Call) (fs : List Step) (s : Step) (lo hi : Option Int) (ks vs : List Int) : Prop where
  rcd : s.rcd = .leaf lo hi ks vs
  len : ks.length = vs.length
  small : ks.length ≤ 4
  old : ∀ v, (c.key, v) ∈ I ↔ lkp ks vs c.key = some v
  ok : ∀ a, c.act (lkp ks vs c.key) = some a → (actRec lo hi ks vs c.key a).Ok
  go : ∀ a, c.act (lkp ks vs c.key) = some a → ∃ Is, Pend g ad P Is fs s 0 ⟨[], [], 0⟩ (actRec lo hi ks vs c.key a) ∧ Is.length ≤ I.length + 1 ∧ ∀ x v, (x, v) ∈ Is ↔ if x = c.key then a = some v else (x, v) ∈ I
theorem act_none {c : Call} {w : Option Int} (h : c.act w = some none) : w.isSome = true := by
  cases w with
  | some x => rfl
  | none => cases c <;> simp [Call.act] at h
theorem Down.start {g : G} {ad : Int → Option Int} {P : List Int} {I : Items} {c : Call} {fs : List Step} {s : Step} (d : Down g ad P I c.key 0 fs s) : ∃ lo hi ks vs, Start g ad P I c fs s lo hi ks vs := by
  obtain ⟨lo, hi, P', Pc, I', Il, Ir, ctx, sub, hk, perm, rfl⟩ := d.ex
  have sub0 := sub
  have hm := sub.most
  rw [if_pos rfl] at hm
  obtain ⟨ks, vs, e, ho, rfl, rfl⟩ := sub
  obtain ⟨A, VA, B, VB, w, sp⟩ := split_of ho.1 ho.2.2.1 c.key
  have hw : lkp ks vs c.key = w := sp.look
  obtain ⟨cl, cr⟩ := ctx.items
  have nl : ∀ v, (c.key, v) ∉ Il := fun v h => by
    obtain ⟨l, rfl, hl⟩ := cl _ h
    have := of_decide_eq_true hk.1
    simp only at hl
    omega
  have nr : ∀ v, (c.key, v) ∉ Ir := fun v h => by
    obtain ⟨l, rfl, hl⟩ := cr _ h
    have := of_decide_eq_true hk.2
    simp only at hl
    omega
  have hsz : vs.length ≤ 4 := by
    have := d.big
    rw [hm, e] at this
    exact this
  have mem : ∀ (a : Option Int) x v, (x, v) ∈ Il ++ (itm A VA B VB c.key a ++ Ir) ↔ if x = c.key then a = some v else (x, v) ∈ Il ++ (ks.zip vs ++ Ir) := fun a x v => by
    rw [sp.items, List.mem_append, List.mem_append, List.mem_append, List.mem_append, itm_mem sp.ltA sp.ltB, itm_mem sp.ltA sp.ltB]
    by_cases ex : x = c.key
    · subst ex
      simp [nl, nr]
    · simp [ex]
  have good : ∀ a, c.act (lkp ks vs c.key) = some a → ∃ ks' vs', actRec lo hi ks vs c.key a = .leaf lo hi ks' vs' ∧ LeafOk lo hi ks' vs' ∧ ks'.zip vs' = itm A VA B VB c.key a ∧ vs'.length ≤ vs.length + 1 ∧ vs.length ≤ vs'.length + 1 := fun a h =>
    sp.leaf ho hk fun z => by
      subst z
      rw [hw] at h
      exact act_none h
  refine ⟨lo, hi, ks, vs, e, ho.1, by rw [ho.1]; exact hsz, fun v => ?_, fun a h => ?_, fun a h => ?_⟩
  · have := mem w c.key v
    rw [← sp.items] at this
    rw [this, if_pos rfl, hw]
  · obtain ⟨ks', vs', e1, o1, _, z1, _⟩ := good a h
    rw [e1]
    exact ⟨by rw [o1.1]; omega, o1⟩
  · obtain ⟨ks', vs', e1, o1, e2, z1, z2⟩ := good a h
    have sn : SubR (ov ⟨[], [], 0⟩ g) 0 (actRec lo hi ks vs c.key a) lo hi [] (itm A VA B VB c.key a) := ⟨ks', vs', e1, o1, rfl, e2.symm⟩
    have hm2 := sn.most
    rw [if_pos rfl] at hm2
    have es : (actRec lo hi ks vs c.key a).size = vs'.length := by rw [e1]; rfl
    refine ⟨Il ++ (itm A VA B VB c.key a ++ Ir), ⟨⟨lo, hi, [], [], Pc, _, Il, Ir, ctx, sn, by rw [e]; rfl, by rw [e]; rfl, ⟨DrOk.empty ad, List.nodup_nil, by simp, fun q hq => ?_⟩, by simpa using perm, rfl⟩, by rw [e]; rfl, d.sa, by rw [hm2, es]; omega, fun hne => ?_, fun _ h0 => absurd rfl h0⟩, ?_, mem a⟩
    · rcases hq with h | h
      · simp at h
      · have h1 : -(0 : Int) ≤ q := h.1
        have := h.2
        omega
    · have := d.low (.inl hne)
      rw [e] at this
      have h2 : 2 ≤ vs.length := this
      rw [es]
      omega
    · have l1 : (itm A VA B VB c.key a).length ≤ (ks.zip vs).length + 1 := by
        rw [← e2, List.length_zip, List.length_zip, o1.1, ho.1]
        omega
      simp only [List.length_append]
      omega
/-! ### new pages get their numbers -/
def rho (F : List Int) (q : Int) : Int := if q < 0 then F.getD (-1 - q).toNat 0 else q
def Rec.pages : Rec → List Int
  | .inner _ _ _ _ ps => ps
  | _ => []
theorem KR.pages {g : G} {n : Nat} : ∀ {x : Option Int} {ks ps : List Int} {hi : Option Int} {P : List Int} {I : Items}, KR (Sub g n) x ks ps hi P I → ∀ c ∈ ps, c ∈ P
  | _, [], [], _, _, _, h => fun c hc => by simp at hc
  | _, k :: ks, c :: ps, _, _, _, h => fun d hd => by
    obtain ⟨_, y, P1, P2, I1, I2, ⟨r, P', _, _, _, _, rfl⟩, h2, rfl, _⟩ := h
    rcases List.mem_cons.mp hd with rfl | hd
    · simp
    · exact List.mem_append_right _ (KR.pages h2 d hd)
  | _, [], _ :: _, _, _, _, h => h.elim
  | _, _ :: _, [], _, _, _, h => h.elim
theorem SubR.pages {g : G} {n : Nat} {r : Rec} {lo hi : Option Int} {P : List Int} {I : Items} (h : SubR g n r lo hi P I) : ∀ c ∈ r.pages, c ∈ P := by
  cases n with
  | zero =>
    obtain ⟨ks, vs, rfl, _⟩ := h
    intro c hc
    cases hc
  | succ n =>
    obtain ⟨ks, ps, rfl, c, ps', x, P1, P2, I1, I2, rfl, ⟨r, P', _, _, _, _, rfl⟩, h2, rfl, _⟩ := h
    intro d hd
    rcases List.mem_cons.mp hd with rfl | hd
    · simp
    · exact List.mem_append_right _ (KR.pages h2 d hd)
theorem KR.deep {S : Sb} {T : Int → Prop} : ∀ {x : Option Int} {ks ps : List Int} {hi : Option Int} {P : List Int} {I : Items}, (∀ c l h P1 I, S c l h P1 I → ∀ q ∈ P1, T q) → KR S x ks ps hi P I → ∀ q ∈ P, T q
  | _, [], [], _, _, _, _, h => by
    obtain ⟨_, rfl, _⟩ := h
    simp
  | _, k :: ks, c :: ps, _, _, _, hS, h => fun q hq => by
    obtain ⟨_, y, P1, P2, I1, I2, h1, h2, rfl, _⟩ := h
    rcases List.mem_append.mp hq with hq | hq
    · exact hS _ _ _ _ _ h1 q hq
    · exact KR.deep hS h2 q hq
  | _, [], _ :: _, _, _, _, _, h => h.elim
  | _, _ :: _, [], _, _, _, _, h => h.elim
/-- every record of a subtree names pages of T, if its pages are in T -/
theorem SubR.deep {g : G} {T : Int → Prop} : ∀ {n : Nat} {r : Rec} {lo hi : Option Int} {P : List Int} {I : Items}, SubR g n r lo hi P I → (∀ q ∈ P, T q) → ∀ q ∈ P, ∀ r', g q = some r' → ∀ c ∈ r'.pages, T c
  | 0, _, _, _, _, _, ⟨_, _, _, _, rfl, _⟩, _ => by simp
  | n + 1, _, _, _, P, _, ⟨ks, ps, _, kids⟩, hT => by
    have hK := kids.monoP (S' := fun c l h P1 I => ∀ q ∈ P1, ∀ r', g q = some r' → ∀ c ∈ r'.pages, T c) fun c l h P1 I hp s => by
      obtain ⟨r, P', gc, sc, _, _, rfl⟩ := s
      intro q hq r' gq d hd
      rcases List.mem_cons.mp hq with rfl | hq
      · rw [gc] at gq
        cases gq
        exact hT d (hp d (List.mem_cons_of_mem _ (sc.pages d hd)))
      · exact SubR.deep sc (fun x hx => hT x (hp x (List.mem_cons_of_mem _ hx))) q hq r' gq d hd
    obtain ⟨c, ps', x, P1, P2, I1, I2, _, h1, h2, rfl, _⟩ := hK
    intro q hq
    rcases List.mem_append.mp hq with hq | hq
    · exact h1 q hq
    · exact KR.deep (fun c l h P1 I s => s) h2 q hq
theorem ren_id {F : List Int} {r : Rec} (h : ∀ c ∈ r.pages, 0 ≤ c) : r.ren (rho F) = r := by
  cases r with
  | inner lv lo hi ks ps =>
    have : ps.map (rho F) = ps := by
      rw [List.map_congr_left (g := id)]
      · simp
      · intro c hc
        have := h c hc
        unfold rho
        rw [if_neg (by omega)]
        rfl
    show Rec.inner lv lo hi ks (ps.map (rho F)) = _
    rw [this]
  | _ => rfl
theorem Tree.pages {g : G} {P : List Int} {I : Items} (t : Tree g P I) {q : Int} {r : Rec} (hq : q ∈ P) (hr : g q = some r) : ∀ c ∈ r.pages, c ∈ P := by
  obtain ⟨N, P0, ⟨r0, h1, h2, h3, h4⟩, rfl⟩ := t.ex
  rcases List.mem_cons.mp hq with rfl | hq
  · rw [h1] at hr
    cases hr
    exact fun c hc => List.mem_cons_of_mem _ (h2.pages c hc)
  · exact h2.deep (T := fun c => c ∈ 0 :: P0) (fun q hq => List.mem_cons_of_mem _ hq) q hq r hr
theorem nodup_map_on {f : Int → Int} : ∀ {l : List Int}, (∀ x ∈ l, ∀ y ∈ l, f x = f y → x = y) → l.Nodup → (l.map f).Nodup
  | [], _, _ => List.nodup_nil
  | a :: l, h, nd => by
    obtain ⟨h1, h2⟩ := List.nodup_cons.mp nd
    refine List.nodup_cons.mpr ⟨fun m => ?_, nodup_map_on (fun x hx y hy => h x (List.mem_cons_of_mem _ hx) y (List.mem_cons_of_mem _ hy)) h2⟩
    obtain ⟨b, hb, e⟩ := List.mem_map.mp m
    have := h b (List.mem_cons_of_mem _ hb) a List.mem_cons_self e
    exact h1 (this ▸ hb)
structure FreeOk (Po F : List Int) (n : Nat) : Prop where
  len : F.length = n
  nd : F.Nodup
  pos : ∀ q ∈ F, 0 < q
  out : ∀ q ∈ F, q ∉ Po
theorem rho_neg {F : List Int} {st : Dr} {Po : List Int} (h : FreeOk Po F st.fresh) {q : Int} (hq : Neg st q) : rho F q = F.getD (-1 - q).toNat 0 ∧ (-1 - q).toNat < F.length ∧ rho F q ∈ F := by
  have h1 := hq.1
  have h2 := hq.2
  have e : rho F q = F.getD (-1 - q).toNat 0 := by unfold rho; rw [if_pos h2]
  have hl : (-1 - q).toNat < F.length := by rw [h.len]; omega
  refine ⟨e, hl, ?_⟩
  rw [e, List.getD_eq_getElem?_getD, List.getElem?_eq_getElem hl]
  exact List.getElem_mem hl
theorem rho_pos {F : List Int} {q : Int} (h : 0 ≤ q) : rho F q = q := by unfold rho; rw [if_neg (by omega)]
theorem rho_inj {F : List Int} {st : Dr} {Po : List Int} (h : FreeOk Po F st.fresh) (hp : ∀ q ∈ Po, 0 ≤ q) {x y : Int} (hx : x ∈ Po ∨ Neg st x) (hy : y ∈ Po ∨ Neg st y) (e : rho F x = rho F y) : x = y := by
  rcases hx with hx | hx
  · rcases hy with hy | hy
    · rwa [rho_pos (hp x hx), rho_pos (hp y hy)] at e
    · rw [rho_pos (hp x hx)] at e
      exact absurd (e ▸ hx) (h.out _ (rho_neg h hy).2.2)
  · rcases hy with hy | hy
    · rw [rho_pos (hp y hy)] at e
      exact absurd (e.symm ▸ hy) (h.out _ (rho_neg h hx).2.2)
    · obtain ⟨a1, a2, _⟩ := rho_neg h hx
      obtain ⟨b1, b2, _⟩ := rho_neg h hy
      rw [a1, b1, List.getD_eq_getElem?_getD, List.getD_eq_getElem?_getD, List.getElem?_eq_getElem a2, List.getElem?_eq_getElem b2] at e
      have := (List.getElem_inj h.nd).mp (show F[(-1 - x).toNat] = F[(-1 - y).toNat] from e)
      have := hx.2
      have := hy.2
      omega
theorem Fin.tree {g g2 : G} {ad : Int → Option Int} {Po F : List Int} {I Is : Items} {st : Dr} (t : Tree g Po I) (f : Fin g ad Po Is st) (hF : FreeOk Po F st.fresh) (h1 : ∀ q r, alook st.recs q = some r → g2 (rho F q) = some (r.ren (rho F)))
    (h2 : ∀ q, (∀ q' ∈ st.recs.map (·.1), rho F q' ≠ q) → g2 q = g q) : ∃ P2, Tree g2 P2 Is := by
  obtain ⟨N, P0, ⟨r, t1, t2, t3, t4⟩, nd, sub, live⟩ := f.ex
  have key : ∀ q, (q ∈ Po ∨ Neg st q) → g2 (rho F q) = (ov st g q).map (Rec.ren (rho F)) := fun q hq => by
    unfold ov
    cases e : alook st.recs q with
    | some r => exact h1 q r e
    | none =>
      have hk := alook_none.mp e
      have hPo : q ∈ Po := hq.resolve_right fun z => hk (f.dr.neg q z)
      have : g2 (rho F q) = g q := by
        rw [rho_pos (t.pos q hPo)]
        refine h2 q fun q' hq' e' => ?_
        rw [← rho_pos (F := F) (t.pos q hPo)] at e'
        exact hk (rho_inj hF t.pos (f.dr.dom q' hq') hq e' ▸ hq')
      rw [this]
      cases eg : g q with
      | none => rfl
      | some r0 =>
        show some r0 = some (r0.ren (rho F))
        rw [ren_id fun c hc => t.pos c (t.pages hPo eg c hc)]
  have h0 : rho F 0 = 0 := rho_pos (by omega)
  refine ⟨(0 :: P0).map (rho F), ⟨N, P0.map (rho F), ⟨r.ren (rho F), ?_, t2.ren fun q hq => key q (sub q (List.mem_cons_of_mem _ hq)), by rw [Rec.ren_size, Rec.ren_most]; exact t3, fun h => by rw [Rec.ren_size]; exact t4 h⟩, by rw [List.map_cons, h0]⟩, ?_, fun q hq => ?_, fun q => ⟨fun hq => ?_, fun ⟨r2, e, hl⟩ => ?_⟩⟩
  · have := key 0 (sub 0 List.mem_cons_self)
    rw [h0, t1] at this
    exact this
  · exact nodup_map_on (fun x hx y hy e => rho_inj hF t.pos (sub x hx) (sub y hy) e) nd
  · obtain ⟨x, hx, rfl⟩ := List.mem_map.mp hq
    rcases sub x hx with h | h
    · rw [rho_pos (t.pos x h)]
      exact t.pos x h
    · have := hF.pos _ (rho_neg hF h).2.2
      omega
  · obtain ⟨x, hx, rfl⟩ := List.mem_map.mp hq
    obtain ⟨r2, e, hl⟩ := (live x (sub x hx)).mp hx
    refine ⟨r2.ren (rho F), by rw [key x (sub x hx), e]; rfl, ?_⟩
    cases r2 <;> first | rfl | cases hl
  · by_cases hx : ∃ q', (q' ∈ Po ∨ Neg st q') ∧ rho F q' = q
    · obtain ⟨q', hq', rfl⟩ := hx
      rw [key q' hq'] at e
      obtain ⟨r3, e3, rfl⟩ := Option.map_eq_some_iff.mp e
      refine List.mem_map.mpr ⟨q', (live q' hq').mpr ⟨r3, e3, ?_⟩, rfl⟩
      cases r3 <;> first | rfl | cases hl
    · have hn : ∀ q' ∈ st.recs.map (·.1), rho F q' ≠ q := fun q' hq' e' => hx ⟨q', f.dr.dom q' hq', e'⟩
      rw [h2 q hn] at e
      have hPo := (t.live q).mpr ⟨r2, e, hl⟩
      exact absurd ⟨q, .inl hPo, rho_pos (t.pos q hPo)⟩ hx
end Esp
set_option Elab.async false
set_option linter.all false
set_option maxRecDepth 100000
set_option maxHeartbeats 4000000
/-! E14h: promises of the law's own defs, and steps they share. -/
namespace Esp
open PySem PySem.Spec PyProof.Rows L2
theorem Ex.put0 {H H1 : Hp} {l : Addr} {o : HO} (e : Ex H H1) (h : H l = none) : Ex H (upd H1 l o) := fun b x hb => by
  rw [upd_ne (ne_of_none hb h)]
  exact e b x hb
theorem ExT.lput {H : Hp} {l : Addr} {xs : List V} {o : HO} (h : H l = some (.lst xs)) : ExT H (upd H l o) := ExT.put fun ys z => by rw [h] at z; cases z
theorem ExT.dput {H : Hp} {l : Addr} {xs : List (Key × V)} {o : HO} (h : H l = some (.dK xs)) : ExT H (upd H l o) := ExT.put fun ys z => by rw [h] at z; cases z
theorem lst_app {H : Hp} {l : Addr} {xs : List V} {ds : List PyData} {v : V} {d : PyData} (hx : H l = some (.lst xs)) (hd : DnAll H xs ds) (hv : Dn H v d) : LsAt (upd H l (.lst (xs ++ [v]))) l (ds ++ [d]) :=
  ⟨_, upd_same, (hd.append (.cons hv .nil)).t (ExT.lput hx)⟩
section
variable {K : PySem.W.Frag} {σ : L2.St} {H : Hp} {te ty : TE} {d : PyData} {D : Ends} {i : Nat} {l : Addr} {xs : List V}
theorem cs_app (hl : σ[i]? = some (some (.ref l))) (hx : H l = some (.lst xs)) (hz : xs.length < 100000) (h : EV σ H te d) (k : ∀ v H1, Ex H H1 → Dn H1 v d → D.nx σ (upd H1 l (.lst (xs ++ [v])))) : tDrop (tBM K "list" rAppend (tVar i) (tCons te tNil)) D σ H :=
  ⟨_, hl, Or.inl ⟨rfl, xs, SqL.of hx⟩, h H (Ex.refl H) _ fun v H1 e1 d1 => ⟨l, xs, v, rfl, rfl, e1 _ _ hx, sz_lt hz, k v H1 e1 d1⟩⟩
theorem ev_dget {α : Type} {f : α → PyData} {a : Addr} {m : List (Int × α)} {q : Int} {x : α} (hi : σ[i]? = some (some (.ref a))) (h : DkT f H a m) (hy : EV σ H ty (.int q)) (e : alook m q = some x) : EV σ H (tDGet (tVar i) ty) (f x) := fun H1 e1 Q k =>
  ⟨_, hi, hy H1 e1 _ fun v H2 e2 d2 => by
    cases d2
    obtain ⟨w, hg, hd⟩ := ((h.x e1).x e2).get e
    exact ⟨a, w, rfl, hg, k w H2 e2 hd⟩⟩
theorem ev_dget2 {α : Type} {f : α → PyData} {a : Addr} {m : List (Int × α)} {q : Int} {tz : TE} {dz : PyData} (hi : σ[i]? = some (some (.ref a))) (h : DkT f H a m) (hy : EV σ H ty (.int q)) (hz : EV σ H tz dz) : EV σ H (tDGet2 (tVar i) ty tz) (((alook m q).map f).getD dz) := fun H1 e1 Q k => by
  obtain ⟨kvs, hk⟩ := (h.x e1).is
  refine ⟨_, hi, a, rfl, .inl ⟨kvs, .inl hk⟩, hy H1 e1 _ fun v H2 e2 d2 => hz H2 (e1.trans e2) _ fun u H3 e3 d3 => ?_⟩
  cases d2
  have h3 := ((h.x e1).x e2).x e3
  cases c : alook m q with
  | some x =>
    obtain ⟨w, hg, hd⟩ := h3.get c
    rw [c] at k
    exact ⟨some w, hg, k w H3 (e2.trans e3) hd⟩
  | none =>
    rw [c] at k
    exact ⟨none, h3.get0 c, k u H3 (e2.trans e3) d3⟩
theorem ev_dnotin {α : Type} {f : α → PyData} {a : Addr} {m : List (Int × α)} {q : Int} (hi : σ[i]? = some (some (.ref a))) (h : DkT f H a m) (hy : EV σ H ty (.int q)) : EV σ H (tDNotIn ty (tVar i)) (.bool (!(alook m q).isSome)) := fun H1 e1 Q k =>
  hy H1 e1 _ fun v H2 e2 d2 => by
    cases d2
    refine ⟨_, hi, ?_⟩
    have h2 := (h.x e1).x e2
    cases c : alook m q with
    | some x =>
      obtain ⟨w, hg, hd⟩ := h2.get c
      rw [c] at k
      exact ⟨a, _, rfl, hg, k _ H2 e2 (.bl _)⟩
    | none =>
      rw [c] at k
      exact ⟨a, _, rfl, h2.get0 c, k _ H2 e2 (.bl _)⟩
theorem ev_ixL {ds : List PyData} {z : Int} (hi : σ[i]? = some (some (.ref l))) (h : LsAt H l ds) (hy : EV σ H ty (.int z)) (e : atI ds z = some d) : EV σ H (tOp (rIxL K) (tVar i) ty) d := fun H1 e1 Q k => by
  refine ⟨_, hi, hy H1 e1 _ fun v H2 e2 d2 => ?_⟩
  cases d2
  obtain ⟨ys, hx, hd⟩ := (h.x e1).x e2
  obtain ⟨u, e3, hu⟩ := atI_dn hd e
  exact ⟨_, _, _, u, rfl, rfl, SqL.of hx, e3, k u H2 e2 hu⟩
theorem ev_lenL {ds : List PyData} (hi : σ[i]? = some (some (.ref l))) (h : LsAt H l ds) : EV σ H (tCB (rLenS K) (tCons (tVar i) tNil)) (.int ds.length) := fun H1 e1 Q k => by
  obtain ⟨ys, hx, hd⟩ := h.x e1
  refine ⟨_, hi, l, ys, rfl, .inl (SqL.of hx), ?_⟩
  rw [hd.length]
  exact k _ H1 (Ex.refl _) (.int _)
theorem SqL.x {H' : Hp} {a : Addr} (h : SqL K H a xs) (e : Ex H H') : SqL K H' a xs := by
  rcases h with h | h
  · rcases h with h | ⟨o, h⟩
    · exact .inl (.inl (e _ _ h))
    · exact .inl (.inr ⟨o, e _ _ h⟩)
  · exact .inr h
theorem ev_lenQ {a : Addr} (hi : σ[i]? = some (some (.ref a))) (h : SqL K H a xs) : EV σ H (tCB (rLenS K) (tCons (tVar i) tNil)) (.int xs.length) := fun H1 e1 Q k =>
  ⟨_, hi, a, xs, rfl, .inl (SqL.x h e1), k _ H1 (Ex.refl _) (.int _)⟩
theorem ev_ixQ {a : Addr} {z v : Int} {ns : List Int} (hi : σ[i]? = some (some (.ref a))) (h : SqL K H a (ns.map V.int)) (hy : EV σ H ty (.int z)) (e : atI (ns.map V.int) z = some (.int v)) : EV σ H (tOp (rIxL K) (tVar i) ty) (.int v) := fun H1 e1 Q k => by
  refine ⟨_, hi, hy H1 e1 _ fun u H2 e2 d2 => ?_⟩
  cases d2
  exact ⟨_, _, _, _, rfl, rfl, SqL.x (SqL.x h e1) e2, e, k _ H2 e2 (.int _)⟩
theorem ls_ints {ns : List Int} (h : H l = some (.lst (ns.map V.int))) : LsAt H l (ns.map PyData.int) := ⟨_, h, dnAll_ints ns⟩
theorem LsAt.ints {ns : List Int} (h : LsAt H l (ns.map PyData.int)) : H l = some (.lst (ns.map V.int)) := by
  obtain ⟨xs, h1, h2⟩ := h
  rw [dn_ints h2] at h1
  exact h1
end
abbrev pgd (x : Int × Rec) : PyData := .tuple [.int x.1, x.2.d]
def spCell (K : PySem.W.Frag) : Sp := fun vs H Q _ => ∃ (a : Addr) (ns : List Int) (k : Nat), vs = [.ref a, .int k] ∧ SqL K H a (ns.map V.int) ∧ ns.length ≤ 63 ∧ ∀ H', Ex H H' → Q (.int (ns.getD k 0)) H'
def spMany (K : PySem.W.Frag) : Sp := fun vs H Q _ => ∃ (a : Addr) (ns : List Int) (f m : Int), vs = [.ref a, .int f, .int m] ∧ SqL K H a (ns.map V.int) ∧ ns.length ≤ 63 ∧ ∀ r H', Ex H H' → r = f ∨ r = m → Q (.int r) H'
def spDigits : Sp := fun vs H Q _ => ∃ (c : Int) (b : Addr) (bs : List Int), vs = [.int c, .ref b] ∧ H b = some (.lst (bs.map V.int)) ∧ (∀ x ∈ bs, 0 < x ∧ x < 1073741824) ∧ bs.length ≤ 10 ∧
  ∀ (ds : List Int) p H', Ex H H' → Paired (fun d b : Int => 0 ≤ d ∧ d < b) ds bs → H' p = some (.lst (ds.map V.int)) → Q (.ref p) H'
structure Td where
  page : Int
  lo : Option Int
  hi : Option Int
  lv : Int
abbrev Td.d (t : Td) : PyData := .tuple [.int t.page, bd t.lo, bd t.hi, .int t.lv]
def below (lo hi : Option Int) (ks ps : List Int) (l : Int) : List Td := (List.range ps.length).map fun i => ⟨ps.getD i 0, cLo lo ks i, cHi hi ks i, l - 1⟩
def spBelow : Sp := fun vs H Q _ => ∃ (rv : V) (lv : Int) (lo hi : Option Int) (ks ps : List Int) (l : Int), vs = [rv, .int l] ∧ Dn H rv (Rec.inner lv lo hi ks ps).d ∧ ps.length = ks.length + 1 ∧ ks.length ≤ 100 ∧
  ∀ p H', Ex H H' → H p = none → LsAt H' p ((below lo hi ks ps l).map Td.d) → Q (.ref p) H'
def liveP (pg : List (Int × (Int × Rec))) (q : Int) : Bool := match alook pg q with
  | some x => x.2.live
  | none => false
def nums (t : Nat) : List Int := (List.range t).map fun i : Nat => (i : Int) + 1
def frees (pg : List (Int × (Int × Rec))) (n : Nat) : List Int := ((nums 199).filter fun q => !liveP pg q).take n
def spFree : Sp := fun vs H Q _ => ∃ (a : Addr) (pg : List (Int × (Int × Rec))) (n : Nat), vs = [.ref a, .int n] ∧ DkT pgd H a pg ∧ ∀ p H', Ex H H' → H' p = some (.lst ((frees pg n).map V.int)) → Q (.ref p) H'
def newsN (E : List Entry) : Nat := (E.filter fun e => decide (e.page < 0)).length
def spNew : Sp := fun vs H Q _ => ∃ (a : Addr) (E : List Entry), vs = [.ref a] ∧ LsAt H a (E.map Entry.d) ∧ E.length ≤ 9000 ∧ ∀ H', Ex H H' → Q (.int (newsN E)) H'
def spReal : Sp := fun vs H Q _ => ∃ (a : Addr) (F : List Int) (q : Int), vs = [.int q, .ref a] ∧ H a = some (.lst (F.map V.int)) ∧ (q < 0 → (-1 - q).toNat < F.length) ∧ ∀ H', Ex H H' → Q (.int (rho F q)) H'
def Entry.ren (F : List Int) (e : Entry) : Entry := ⟨rho F e.page, e.addr, e.rcd.ren (rho F)⟩
def InF (F : List Int) (q : Int) : Prop := q < 0 → (-1 - q).toNat < F.length
def EntryOk (F : List Int) (e : Entry) : Prop := InF F e.page ∧ e.rcd.pages.length ≤ 100 ∧ ∀ c ∈ e.rcd.pages, InF F c
def spPlaced : Sp := fun vs H Q _ => ∃ (a b : Addr) (E : List Entry) (F : List Int), vs = [.ref a, .ref b] ∧ LsAt H a (E.map Entry.d) ∧ E.length ≤ 9000 ∧ H b = some (.lst (F.map V.int)) ∧ (∀ e ∈ E, EntryOk F e) ∧
  ∀ p H', Ex H H' → LsAt H' p ((E.map (Entry.ren F)).map Entry.d) → Q (.ref p) H'
def spStart : Sp := fun vs H Q _ => vs = [] ∧ ∀ p H', Ex H H' → H p = none → DkT pgd H' p [(0, (100, .leaf none none [] []))] → Q (.ref p) H'
end Esp
set_option Elab.async false
set_option linter.all false
set_option maxRecDepth 100000
set_option maxHeartbeats 4000000
namespace Esp
open PySem PySem.Spec PyProof.Rows L2
theorem ev_i1 {σ : L2.St} {H : Hp} {te : TE} {i : Int} (h : EV σ H te (.int i)) : EV σ H (tCB rInt1 (tCons te tNil)) (.int i) := ev_cb (eva_cons h eva_nil) rc_intI
theorem atI_ints {ns : List Int} {k : Nat} (h : k < ns.length) : atI (ns.map V.int) (k : Int) = some (.int (ns.getD k 0)) := by
  refine atI_nat ?_
  rw [List.getElem?_map, List.getElem?_eq_getElem h, List.getD_eq_getElem?_getD, List.getElem?_eq_getElem h]
  rfl
theorem rd_mod {i j : Int} (h : j ≠ 0) : RD (rI (fun _ j => j ≠ 0) fun i j => .int (i.fmod j)) (.int i) (.int j) (.int (i.fmod j)) := rd_IC (C := fun _ j => j ≠ 0) h
section
variable {P : Program} {w : World} {K : PySem.W.Frag} {mg : Str → Option Value} {base : Heap} {C : Addr}
abbrev N_law_cell : List Str := ["_law_script", "_law_k"]
theorem sc_law_cell : FnScope N_law_cell ["_law_script", "_law_k"] (defScope s_law_cell) := ⟨rfl, rfl, rfl, by decide +kernel, rfl, by decide +kernel, by decide +kernel⟩
theorem ok_law_cell {f : Addr} {fd : FuncData} (F : FnP K "_law_cell" "_law_cell" s_law_cell f fd) (T : Bu mg) : FnOk P w K mg base CX0 1 f fd ["_law_script", "_law_k"] (spCell K) := by
  refine F.ok sc_law_cell (fun vs H Q E h => ?_) (fun cdv A outer s H vs Q E hr h => ?_)
  · obtain ⟨a, ns, k, rfl, _⟩ := h
    rfl
  obtain ⟨a, ns, k, rfl, hs, hz, q⟩ := h
  have nd := sc_law_cell.nd
  have hu := hu_of hr
  refine ⟨_, PSs.nox (pss_cons (ps_if (pt_cmpR op_lt (pv 1) (pe_callB call_lenS (by rfl) T.len (by decide +kernel) (pa_cons (pv 0) pa_nil)) (nomark _)) (pss_one (ps_ret (pe_callTy call_intS (by rfl) T.int (by decide +kernel) (pa_cons (pe_ix ix_list (pv 0) (pv 1) (fun _ _ => rfl)) pa_nil)))) pss_nil)
    (pss_one (ps_ret pe_int))), ?_⟩
  have t1 : EVT [some (.ref a), some (.int (k : Int))] H (tTest (tOp (rI0 fun i j => .bl (decide (i < j))) (tVar 1) (tCB (rLenS K) (tCons (tVar 0) tNil)))) (decide ((k : Int) < ((ns.map V.int).length : Int))) := evt_test (ev_op (ev_var (i := 1) rfl (.int _)) (ev_lenQ (i := 0) rfl hs) rd_B)
  by_cases c : k < ns.length
  · refine cs_yes t1 (decide_eq_true (by rw [List.length_map]; omega)) fun H1 e1 => ?_
    refine cs_ret (ev_i1 (ev_ixQ (i := 0) rfl (SqL.x hs e1) (ev_var (i := 1) rfl (.int _)) (atI_ints c))) fun v H2 e2 d2 => ?_
    cases d2
    exact q _ (e1.trans e2)
  · refine cs_no t1 (decide_eq_false (by rw [List.length_map]; omega)) fun H1 e1 => ?_
    refine cs_ret ev_int fun v H2 e2 d2 => ?_
    cases d2
    have := q _ (e1.trans e2)
    rw [List.getD_eq_getElem?_getD, List.getElem?_eq_none (by omega)] at this
    exact this
abbrev N_law_many : List Str := ["_law_script", "_law_few", "_law_many_here"]
theorem sc_law_many : FnScope N_law_many ["_law_script", "_law_few", "_law_many_here"] (defScope s_law_many) := ⟨rfl, rfl, rfl, by decide +kernel, rfl, by decide +kernel, by decide +kernel⟩
theorem ok_law_many {f : Addr} {fd : FuncData} (F : FnP K "_law_many" "_law_many" s_law_many f fd) (T : Bu mg) : FnOk P w K mg base CX0 1 f fd ["_law_script", "_law_few", "_law_many_here"] (spMany K) := by
  refine F.ok sc_law_many (fun vs H Q E h => ?_) (fun cdv A outer s H vs Q E hr h => ?_)
  · obtain ⟨a, ns, fw, m, rfl, _⟩ := h
    rfl
  obtain ⟨a, ns, fw, m, rfl, hs, hz, q⟩ := h
  have nd := sc_law_many.nd
  have hu := hu_of hr
  refine ⟨_, PSs.nox (pss_cons (ps_if (PW.pt (pw_and (pt_cmpR op_gt (pe_callB call_lenS (by rfl) T.len (by decide +kernel) (pa_cons (pv 0) pa_nil)) pe_int (nomark _)) (pw_and1 (pt_cmpR op_eq (pe_op op_modN (pe_op op_fdivN (pe_callTy call_intS (by rfl) T.int (by decide +kernel) (pa_cons (pe_ix ix_list (pv 0) pe_int (fun _ _ => rfl)) pa_nil)) pe_int) pe_int) pe_int (nomark _))))) (pss_one (ps_ret (pv 2))) pss_nil)
    (pss_one (ps_ret (pv 1)))), ?_⟩
  by_cases c : 0 < ns.length
  · have t1 : EVT [some (.ref a), some (.int fw), some (.int m)] H (tAnd (tTest (tOp (rI0 fun i j => .bl (decide (i > j))) (tCB (rLenS K) (tCons (tVar 0) tNil)) (tC (.int 0)))) _) (decide (((ns.map V.int).length : Int) > 0) && decide (((ns.getD 0 0).fdiv 1009).fmod 5 = 1)) :=
      evt_and (evt_test (ev_op (ev_lenQ (i := 0) rfl hs) ev_int rd_B)) fun _ => evt_test (ev_op (ev_op (ev_op (ev_i1 (ev_ixQ (i := 0) rfl hs ev_int (atI_ints c))) ev_int (rd_IC (C := CDivN) ⟨by decide, by decide⟩)) ev_int (rd_mod (by decide))) ev_int rd_eqI)
    by_cases c2 : ((ns.getD 0 0).fdiv 1009).fmod 5 = 1
    · refine cs_yes t1 (by rw [decide_eq_true c2, Bool.and_true, List.length_map]; exact decide_eq_true (by omega)) fun H1 e1 => ?_
      exact cs_ret (ev_var (i := 2) rfl (.int _)) fun v H2 e2 d2 => by cases d2; exact q _ _ (e1.trans e2) (.inr rfl)
    · refine cs_no t1 (by rw [decide_eq_false c2, Bool.and_false]) fun H1 e1 => ?_
      exact cs_ret (ev_var (i := 1) rfl (.int _)) fun v H2 e2 d2 => by cases d2; exact q _ _ (e1.trans e2) (.inl rfl)
  · refine cs_no (b := false) (fun H1 e1 Q k => ?_) rfl fun H1 e1 => cs_ret (ev_var (i := 1) rfl (.int _)) fun v H2 e2 d2 => by cases d2; exact q _ _ (e1.trans e2) (.inl rfl)
    refine evt_test (ev_op (ev_lenQ (i := 0) rfl (SqL.x hs e1)) ev_int rd_B) H1 (Ex.refl _) _ fun H2 e2 => ?_
    rw [show decide (((ns.map V.int).length : Int) > 0) = false by rw [List.length_map]; exact decide_eq_false (by omega)]
    exact k H2 e2
abbrev N_law_digits : List Str := ["_law_cell_here", "_law_bases", "_law_digits_here", "_law_rest", "_law_base", "_law_mixed"]
theorem sc_law_digits : FnScope N_law_digits ["_law_cell_here", "_law_bases"] (defScope s_law_digits) := ⟨rfl, rfl, rfl, by decide +kernel, rfl, by decide +kernel, by decide +kernel⟩
theorem ok_law_digits {f : Addr} {fd : FuncData} (F : FnP K "_law_digits" "_law_digits" s_law_digits f fd) (T : Bu mg) : FnOk P w K mg base CX0 1 f fd ["_law_cell_here", "_law_bases"] spDigits := by
  refine F.ok sc_law_digits (fun vs H Q E h => ?_) (fun cdv A outer s H vs Q E hr h => ?_)
  · obtain ⟨c, b, bs, rfl, _⟩ := h
    rfl
  obtain ⟨c, b, bs, rfl, hb, hbs, hz, q⟩ := h
  have nd := sc_law_digits.nd
  have hu := hu_of hr
  refine ⟨_, PSs.nox (pss_cons (ps_set (i := 2) nd rfl (Or.inl rfl) (pe_lst pa_nil))
    (pss_cons (ps_set (i := 3) nd rfl (Or.inl rfl) (pe_callTy call_intS (by rfl) T.int (by decide +kernel) (pa_cons (pv 0) pa_nil)))
    (pss_cons (ps_for PassesOwn.never rfl (pi_list (pv 1)) (pg_name (i := 4) nd rfl (Or.inl rfl))
    (pss_one (ps_if (pt_cmpR op_ge (pv 0) (pe_op op_pow pe_int pe_int) (nomark _)) (pss_cons (ps_expr (pe_bm PySem.F.plainAttrs_list PySem.F.slot_list_append PySem.F.type_list_append mt_append (pv 2) (pa_cons (pe_op op_modN (pe_callTy call_intS (by rfl) T.int (by decide +kernel) (pa_cons (pv 3) pa_nil)) (pv 4)) pa_nil)))
    (pss_one (ps_set (i := 3) nd rfl (Or.inl rfl) (pe_op op_fdivN (pv 3) (pv 4))))) (pss_cons (ps_set (i := 3) nd rfl (Or.inl rfl) (pe_op op_modN (pe_op op_add (pe_op op_add (pe_op op_mul (pe_callTy call_intS (by rfl) T.int (by decide +kernel) (pa_cons (pv 3) pa_nil)) pe_int) (pe_op op_mul pe_int (pe_callB call_lenS (by rfl) T.len (by decide +kernel) (pa_cons (pv 2) pa_nil)))) pe_int) pe_int))
    (pss_cons (ps_set (i := 5) nd rfl (Or.inl rfl) (pe_op op_modN (pe_op op_mul (pe_callTy call_intS (by rfl) T.int (by decide +kernel) (pa_cons (pv 3) pa_nil)) (pe_callTy call_intS (by rfl) T.int (by decide +kernel) (pa_cons (pv 3) pa_nil))) pe_int))
    (pss_one (ps_expr (pe_bm PySem.F.plainAttrs_list PySem.F.slot_list_append PySem.F.type_list_append mt_append (pv 2) (pa_cons (pe_op op_modN (pe_op op_fdivN (pe_callTy call_intS (by rfl) T.int (by decide +kernel) (pa_cons (pv 5) pa_nil)) pe_int) (pv 4)) pa_nil)))))))))
    (pss_one (ps_ret (pv 2)))))), ?_⟩
  refine ⟨by decide, fun p hp => ?_⟩
  have e0 : Ex H (upd H p (.lst [])) := Ex.new hp
  refine cs_set (i := 3) (ev_i1 (ev_var (i := 0) rfl (.int _))) fun v H1 e1 d1 => ?_
  cases d1
  refine ⟨_, rfl, b, rfl, ⟨_, SqL.of (e1 _ _ (e0 _ _ hb))⟩, ?_⟩
  refine for_list (K := K) (a := b) (xs := bs.map V.int) (fun i σ' H' => Ex H H' ∧ ∃ (ds : List Int) (r : Int) (o1 o2 : Option V), Paired (fun d b : Int => 0 ≤ d ∧ d < b) ds (bs.take i) ∧ H' p = some (.lst (ds.map V.int)) ∧ σ' = [some (.int c), some (.ref b), some (.ref p), some (.int r), o1, o2]) ?_ ?_ ?_ ?_
  · exact ⟨e0.trans e1, [], c, none, none, .nil, e1 _ _ upd_same, rfl⟩
  · rintro i σ' H' _ ⟨e, _⟩
    exact SqL.of (e _ _ hb)
  · rintro i x σ' H2 hx ⟨e2, ds, r, o1, o2, hds, hp2, rfl⟩
    rw [List.getElem?_map] at hx
    obtain ⟨y, hy, rfl⟩ := Option.map_eq_some_iff.mp hx
    obtain ⟨y1, y2⟩ := hbs y (List.mem_of_getElem? hy)
    have hlen : ds.length < 100000 := by
      rw [Paired.length hds]
      have := List.length_take_le' i bs
      omega
    have htk : bs.take (i + 1) = bs.take i ++ [y] := by
      obtain ⟨hi, e⟩ := List.getElem?_eq_some_iff.mp hy
      rw [List.take_succ_eq_append_getElem hi, e]
    have fin : ∀ (z : Int) (H3 : Hp) (r' : Int) (o1' o2' : Option V), Ex H2 H3 → Ex H (upd H3 p (.lst (ds.map V.int ++ [.int (z.fmod y)]))) ∧ ∃ (ds' : List Int) (r2 : Int) (o1 o2 : Option V), Paired (fun d b : Int => 0 ≤ d ∧ d < b) ds' (bs.take (i + 1)) ∧ (upd H3 p (.lst (ds.map V.int ++ [.int (z.fmod y)]))) p = some (.lst (ds'.map V.int)) ∧
        [some (V.int c), some (.ref b), some (.ref p), some (.int r'), o1', o2'] = [some (.int c), some (.ref b), some (.ref p), some (.int r2), o1, o2] := fun z H3 r' o1' o2' e3 =>
      ⟨(e2.trans e3).put0 hp, ds ++ [z.fmod y], r', o1', o2', by rw [htk]; exact Paired.appP hds (.cons ⟨Int.fmod_nonneg_of_pos _ y1, Int.fmod_lt_of_pos _ y1⟩ .nil), by rw [upd_same, List.map_append]; rfl, rfl⟩
    show (fun σ3 H3 => _) [some (V.int c), some (.ref b), some (.ref p), some (.int r), some (.int y), o2] H2
    have t1 : EVT [some (V.int c), some (.ref b), some (.ref p), some (.int r), some (.int y), o2] H2 (tTest (tOp (rI0 fun i j => .bl (decide (i ≥ j))) (tVar 0) (tOp (rI CPow fun i j => .int (i ^ j.toNat)) (tC (.int 10)) (tC (.int 18))))) (decide (c ≥ 10 ^ (18 : Int).toNat)) :=
      evt_test (ev_op (ev_var (i := 0) rfl (.int _)) (ev_op ev_int ev_int (rd_IC (C := CPow) ⟨by decide, by decide, by decide⟩)) rd_B)
    by_cases cc : c ≥ 10 ^ (18 : Int).toNat
    · refine cs_ifT t1 (decide_eq_true cc) fun H3 e3 => ?_
      refine cs_app (i := 2) rfl (e3 _ _ hp2) (by rw [List.length_map]; exact hlen) (ev_op (ev_i1 (ev_var (i := 3) rfl (.int _))) (ev_var (i := 4) rfl (.int _)) (rd_mod (by omega))) fun v H4 e4 d4 => ?_
      cases d4
      refine ⟨_, rfl, _, rfl, _, _, rfl, rfl, ⟨by omega, by omega⟩, ?_⟩
      exact fin _ H4 _ _ _ (e3.trans e4)
    · refine cs_ifF t1 (decide_eq_false cc) fun H3 e3 => ?_
      refine cs_set (i := 3) (ev_op (ev_op (ev_op (ev_op (ev_i1 (ev_var (i := 3) rfl (.int _))) ev_int (rd_IC (C := CMul) (.inr ⟨by decide, by decide⟩))) (ev_op ev_int (ev_lenL (i := 2) rfl (ls_ints (e3 _ _ hp2))) (rd_IC (C := CMul) (.inl ⟨by decide, by decide⟩))) rd_I) ev_int rd_I) ev_int (rd_mod (by decide))) fun v H4 e4 d4 => ?_
      generalize hr2 : ((r * 48271 + 1009 * ((ds.map PyData.int).length : Int)) + 12345).fmod 2147483647 = r2 at d4
      have b1 : 0 ≤ r2 ∧ r2 < 2147483647 := by rw [← hr2]; exact ⟨Int.fmod_nonneg_of_pos _ (by decide), Int.fmod_lt_of_pos _ (by decide)⟩
      cases d4
      refine cs_set (i := 5) (ev_op (ev_op (ev_i1 (ev_var (i := 3) rfl (.int _))) (ev_i1 (ev_var (i := 3) rfl (.int _))) (rd_IC (C := CMul) (.inl ⟨by omega, by omega⟩))) ev_int (rd_mod (by decide))) fun v H5 e5 d5 => ?_
      generalize hr3 : (r2 * r2).fmod 2147483629 = r3 at d5
      cases d5
      refine cs_app (i := 2) rfl (e5 _ _ (e4 _ _ (e3 _ _ hp2))) (by rw [List.length_map]; exact hlen) (ev_op (ev_op (ev_i1 (ev_var (i := 5) rfl (.int _))) ev_int (rd_IC (C := CDivN) ⟨by decide, by decide⟩)) (ev_var (i := 4) rfl (.int _)) (rd_mod (by omega))) fun v H6 e6 d6 => ?_
      cases d6
      exact fin _ H6 _ _ _ (((e3.trans e4).trans e5).trans e6)
  · rintro σ' H2 ⟨e2, ds, r, o1, o2, hds, hp2, rfl⟩
    rw [List.length_map, List.take_length] at hds
    refine ⟨_, rfl, ?_⟩
    exact q ds p H2 e2 hds hp2
end
end Esp
set_option Elab.async false
set_option linter.all false
set_option maxRecDepth 100000
set_option maxHeartbeats 4000000
namespace Esp
open PySem PySem.Spec PyProof.Rows L2
def Rec.tag : Rec → Str
  | .leaf .. => "leaf"
  | .inner .. => "inner"
  | .free _ => "free"
theorem Rec.tag_free (r : Rec) : decide (r.tag = "free") = !r.live := by
  cases r with
  | leaf => exact decide_eq_false leaf_free
  | inner => exact decide_eq_false inner_free
  | free => exact decide_eq_true rfl
theorem ev_tag {K : PySem.W.Frag} {σ : L2.St} {H : Hp} {te : TE} {r : Rec} (h : EV σ H te r.d) : EV σ H (tOp (rIxT K) te (tC (.int 0))) (.str r.tag) := by
  cases r with
  | leaf => exact ev_op h (ev_int (i := 0)) (rd_ix rfl)
  | inner => exact ev_op h (ev_int (i := 0)) (rd_ix rfl)
  | free => exact ev_op h (ev_int (i := 0)) (rd_ix rfl)
theorem map_take {α β : Type} {l : List α} {i : Nat} {x : α} (g : α → β) (h : l[i]? = some x) : (l.take (i + 1)).map g = (l.take i).map g ++ [g x] := by
  obtain ⟨hi, e⟩ := List.getElem?_eq_some_iff.mp h
  rw [List.take_succ_eq_append_getElem hi, List.map_append, e]
  rfl
theorem DnAll.at_ {H : Hp} {vs : List V} {ds : List PyData} {i : Nat} {v : V} (h : DnAll H vs ds) (e : vs[i]? = some v) : ∃ d, ds[i]? = some d ∧ Dn H v d := by
  have hl := h.length
  obtain ⟨hi, _⟩ := List.getElem?_eq_some_iff.mp e
  have hd : ds[i]? = some ds[i] := List.getElem?_eq_getElem (by omega)
  obtain ⟨u, e1, e2⟩ := h.get hd
  rw [e] at e1
  cases e1
  exact ⟨_, hd, e2⟩
theorem ev_un {σ : L2.St} {H : Hp} {ta : TE} {x z : PyData} {r : V → Hp → VK → Prop} (ha : EV σ H ta x) (hr : RU r x z) : EV σ H (tUn r ta) z := fun H1 e1 Q q =>
  ha H1 e1 _ fun v H2 e2 d2 => hr H2 v d2 Q fun u H3 e3 d3 => q u H3 (e2.trans e3) d3
section
variable {P : Program} {w : World} {K : PySem.W.Frag} {mg : Str → Option Value} {base : Heap} {C : Addr}
abbrev N_real_page : List Str := ["page", "pages"]
theorem sc_real_page : FnScope N_real_page ["page", "pages"] (defScope s_real_page) := ⟨rfl, rfl, rfl, by decide +kernel, rfl, by decide +kernel, by decide +kernel⟩
theorem ok_real_page {f : Addr} {fd : FuncData} (F : FnP K "real_page" "real_page" s_real_page f fd) (T : Bu mg) : FnOk P w K mg base CX0 1 f fd ["page", "pages"] spReal := by
  refine F.ok sc_real_page (fun vs H Q E h => ?_) (fun cdv A outer s H vs Q E hr h => ?_)
  · obtain ⟨a, F, q, rfl, _⟩ := h
    rfl
  obtain ⟨a, F, q, rfl, ha, hq, k⟩ := h
  have nd := sc_real_page.nd
  have hu := hu_of hr
  refine ⟨_, PSs.nox (pss_cons (ps_if (pt_cmpR op_lt (pv 0) pe_int (nomark _)) (pss_one (ps_ret (pe_ix ix_list (pv 1) (pe_op op_sub (pe_un un_neg pe_int) (pv 0)) (fun _ _ => rfl)))) pss_nil)
    (pss_one (ps_ret (pv 0)))), ?_⟩
  have t1 : EVT [some (V.int q), some (.ref a)] H (tTest (tOp (rI0 fun i j => .bl (decide (i < j))) (tVar 0) (tC (.int 0)))) (decide (q < 0)) := evt_test (ev_op (ev_var (i := 0) rfl (.int _)) ev_int rd_B)
  by_cases c : q < 0
  · refine cs_yes t1 (decide_eq_true c) fun H1 e1 => ?_
    refine cs_ret (ev_ixQ (i := 1) (v := F.getD (-1 - q).toNat 0) rfl (SqL.of (e1 _ _ ha)) (ev_op (ev_un ev_int ru_I) (ev_var (i := 0) rfl (.int _)) rd_I) ?_) fun v H2 e2 d2 => ?_
    · rw [show -1 - q = (((-1 - q).toNat : Nat) : Int) by omega]
      have := atI_ints (hq c)
      rw [show (((((-1 - q).toNat : Nat) : Int)).toNat) = (-1 - q).toNat by omega]
      exact this
    · cases d2
      have := k H2 (e1.trans e2)
      unfold rho at this
      rw [if_pos c] at this
      exact this
  · refine cs_no t1 (decide_eq_false c) fun H1 e1 => ?_
    refine cs_ret (ev_var (i := 0) rfl (.int _)) fun v H2 e2 d2 => ?_
    cases d2
    have := k H2 (e1.trans e2)
    unfold rho at this
    rw [if_neg c] at this
    exact this
abbrev N_new_pages : List Str := ["entries", "entry"]
theorem sc_new_pages : FnScope N_new_pages ["entries"] (defScope s_new_pages) := ⟨rfl, rfl, rfl, by decide +kernel, rfl, by decide +kernel, by decide +kernel⟩
theorem ok_new_pages {f : Addr} {fd : FuncData} (F : FnP K "new_pages" "new_pages" s_new_pages f fd) (T : Bu mg) : FnOk P w K mg base CX0 1 f fd ["entries"] spNew := by
  refine F.ok sc_new_pages (fun vs H Q E h => ?_) (fun cdv A outer s H vs Q E hr h => ?_)
  · obtain ⟨a, E, rfl, _⟩ := h
    rfl
  obtain ⟨a, E, rfl, ha, hz, k⟩ := h
  have nd := sc_new_pages.nd
  have hu := hu_of hr
  refine ⟨_, PSs.nox (pss_one (ps_ret (pe_callB call_lenS (by rfl) T.len (by decide +kernel) (pa_cons (pe_lc (own := [("entry", 1)]) (g := gName 1) (by rfl) nd (pi_list (pv 0)) (blkOk_by (own := [("entry", 1)]) (N := N_new_pages) (sc := defScope s_new_pages) (by decide +kernel)) (fun _ _ _ _ _ => pg_name (i := 1) nd rfl (Or.inl rfl)) (fun _ _ _ _ _ => pts_one (pt_cmpR op_lt (pe_ix (ix_tupK (K := K)) (pv 1) pe_int (fun _ _ => rfl)) pe_int (nomark _))) (fun _ _ _ _ _ => (pv 1))) pa_nil)))), ?_⟩
  obtain ⟨xs, hx, hd⟩ := id ha
  refine ⟨_, rfl, a, rfl, ⟨_, SqL.of hx⟩, fun D hD => ?_⟩
  refine lc_list (K := K) (a := a) (xs := xs) (fun i H' => Ex H H' ∧ LsAt H' D (((E.take i).filter fun e => decide (e.page < 0)).map Entry.d)) ⟨Ex.new hD, [], upd_same, .nil⟩ (fun i H' _ p => SqL.of (p.1 _ _ hx)) ?_ ?_
  · rintro i x H1 hxi ⟨e1, hL⟩
    obtain ⟨d, hd1, hd2⟩ := hd.at_ hxi
    rw [List.getElem?_map] at hd1
    obtain ⟨en, hen, rfl⟩ := Option.map_eq_some_iff.mp hd1
    show wipe ((wipe _ [1]).set 1 (some x)) [1] = wipe _ [1] ∧ _
    refine ⟨wipe1_set _ _ _, ?_⟩
    refine evt_test (ev_op (ev_op (ev_var (i := 1) rfl (hd2.x e1)) (ev_int (i := 0)) (rd_ix (d := .int en.page) rfl)) ev_int rd_B) H1 (Ex.refl _) _ fun H2 e2 => ?_
    have hL2 := hL.x e2
    by_cases c : en.page < 0
    · rw [decide_eq_true c, if_pos rfl]
      obtain ⟨ys, hy, hdy⟩ := hL2
      refine ⟨_, rfl, ys, hy, ?_, (e1.trans e2).put0 hD, ?_⟩
      · have a1 := hdy.length
        have a2 := List.length_filter_le (fun e : Entry => decide (e.page < 0)) (E.take i)
        have a3 := List.length_take_le' i E
        rw [List.length_map] at a1
        exact sz_lt (by omega)
      · rw [filter_take _ hen, if_pos (decide_eq_true c), List.map_append]
        exact lst_app hy hdy (hd2.x (e1.trans e2))
    · rw [decide_eq_false c, if_neg (by decide)]
      refine ⟨e1.trans e2, ?_⟩
      rw [filter_take _ hen, if_neg (by rw [decide_eq_false c]; decide), List.append_nil]
      exact hL2
  · rintro H1 ⟨e1, ys, hy, hdy⟩
    refine ⟨D, ys, rfl, .inl (SqL.of hy), ?_⟩
    have a1 := hdy.length
    have a2 := hd.length
    rw [List.length_map] at a1 a2
    rw [a2, List.take_length] at a1
    rw [a1]
    exact k _ e1
abbrev N_law_free : List Str := ["_law_pages", "_law_many_here", "_law_found", "_law_page"]
theorem sc_law_free : FnScope N_law_free ["_law_pages", "_law_many_here"] (defScope s_law_free) := ⟨rfl, rfl, rfl, by decide +kernel, rfl, by decide +kernel, by decide +kernel⟩
theorem ok_law_free {f : Addr} {fd : FuncData} (F : FnP K "_law_free" "_law_free" s_law_free f fd) (T : Bu mg) : FnOk P w K mg base CX0 1 f fd ["_law_pages", "_law_many_here"] spFree := by
  refine F.ok sc_law_free (fun vs H Q E h => ?_) (fun cdv A outer s H vs Q E hr h => ?_)
  · obtain ⟨a, pg, n, rfl, _⟩ := h
    rfl
  obtain ⟨a, pg, n, rfl, ha, k⟩ := h
  have nd := sc_law_free.nd
  have hu := hu_of hr
  refine ⟨_, PSs.nox (pss_cons (ps_set (i := 2) nd rfl (Or.inl rfl) (pe_lst pa_nil))
    (pss_cons (ps_for PassesOwn.never rfl (pi_range2 (by rfl) T.range (pa_cons pe_int (pa_cons pe_int pa_nil))) (pg_name (i := 3) nd rfl (Or.inl rfl))
    (pss_one (ps_if (PW.pt (pw_and (pt_cmpR op_lt (pe_callB call_lenS (by rfl) T.len (by decide +kernel) (pa_cons (pv 2) pa_nil)) (pv 1) (nomark _)) (pw_and1 (PW.pt (pw_or (pt_cmp (pc_dnotin (by exact hu) (pv 3) (pv 0))) (pw_or1 (pt_cmpR op_eq (pe_ix ix_tup (pe_ix ix_tup (pe_dget (by exact hu) (pv 0) (pv 3) (fun _ _ => rfl)) pe_int (fun _ _ => rfl)) pe_int (fun _ _ => rfl)) pe_str (nomark _)))))))) (pss_one (ps_expr (pe_bm PySem.F.plainAttrs_list PySem.F.slot_list_append PySem.F.type_list_append mt_append (pv 2) (pa_cons (pv 3) pa_nil)))) pss_nil)))
    (pss_one (ps_ret (pv 2))))), ?_⟩
  refine ⟨by decide, fun p hp => ?_⟩
  refine ⟨1, 200, rfl, by decide, ?_⟩
  refine for_range (lo := 1) (n := 199) (fun i σ' H' => Ex H H' ∧ H' p = some (.lst ((((nums i).filter fun q => !liveP pg q).take n).map V.int)) ∧ ∃ o, σ' = [some (.ref a), some (.int n), some (.ref p), o]) ⟨Ex.new hp, by rw [upd_same]; simp [nums], none, rfl⟩ ?_ ?_
  · rintro i σ' H1 hi ⟨e1, hp1, o, rfl⟩
    show (fun σ3 H3 => _) [some (V.ref a), some (.int n), some (.ref p), some (.int (1 + (i : Int)))] H1
    have hn1 : nums (i + 1) = nums i ++ [1 + (i : Int)] := by unfold nums; rw [List.range_succ, List.map_append, Int.add_comm 1]; rfl
    have hlen : ((nums i).filter fun q => !liveP pg q).length ≤ 199 := by
      have := List.length_filter_le (fun q => !liveP pg q) (nums i)
      have : (nums i).length = i := by unfold nums; rw [List.length_map, List.length_range]
      omega
    generalize hL : ((nums i).filter fun q => !liveP pg q) = L at hp1 hlen
    have tk : ((nums (i + 1)).filter fun q => !liveP pg q) = L ++ (if !liveP pg (1 + (i : Int)) then [1 + (i : Int)] else []) := by
      rw [hn1, List.filter_append, hL, List.filter_cons]
      simp
    have d1 := ha.x e1
    have tlen : ∀ H2, Ex H1 H2 → EVT [some (V.ref a), some (.int n), some (.ref p), some (.int (1 + (i : Int)))] H2 (tTest (tOp (rI0 fun i j => .bl (decide (i < j))) (tCB (rLenS K) (tCons (tVar 2) tNil)) (tVar 1))) (decide ((((L.take n).map PyData.int).length : Int) < (n : Int))) := fun H2 e2 =>
      evt_test (ev_op (ev_lenL (i := 2) rfl (ls_ints (e2 _ _ hp1))) (ev_var (i := 1) rfl (.int _)) rd_B)
    have cond : EVT [some (V.ref a), some (.int n), some (.ref p), some (.int (1 + (i : Int)))] H1 (tOr (tTest (tDNotIn (tVar 3) (tVar 0))) (tTest (tOp rEq (tOp (rIxT K) (tOp (rIxT K) (tDGet (tVar 0) (tVar 3)) (tC (.int 1))) (tC (.int 0))) (tC (.str "free"))))) (!liveP pg (1 + (i : Int))) := fun H2 e2 Q2 k2 => by
      refine evt_test (ev_dnotin (i := 0) rfl (d1.x e2) (ev_var (i := 3) rfl (.int _))) H2 (Ex.refl _) _ fun H3 e3 => ?_
      cases c : alook pg (1 + (i : Int)) with
      | none =>
        show Q2 true H3
        have : liveP pg (1 + (i : Int)) = false := by unfold liveP; rw [c]
        rw [this] at k2
        exact k2 H3 e3
      | some x =>
        rw [if_neg (show ¬ (!(some x).isSome) = true from fun z => nomatch z)]
        refine evt_test (ev_op (ev_tag (r := x.2) (ev_op (ev_dget (i := 0) rfl ((d1.x e2).x e3) (ev_var (i := 3) rfl (.int _)) c) (ev_int (i := 1)) (rd_ix rfl))) ev_str rd_eqS) H3 (Ex.refl _) _ fun H4 e4 => ?_
        have : (!liveP pg (1 + (i : Int))) = decide (x.2.tag = "free") := by
          unfold liveP
          rw [c, Rec.tag_free]
        rw [this] at k2
        exact k2 H4 (e3.trans e4)
    have tt := evt_and (tlen H1 (Ex.refl _)) fun _ => cond
    by_cases c1 : L.length < n
    · cases c2 : liveP pg (1 + (i : Int)) with
      | true =>
        rw [c2] at tt tk
        refine cs_ifF tt (by simp) fun H2 e2 => ?_
        refine ⟨e1.trans e2, ?_, _, rfl⟩
        rw [tk, e2 _ _ hp1]
        simp
      | false =>
        rw [c2] at tt tk
        refine cs_ifT tt (by rw [List.length_map, List.length_take, decide_eq_true (show ((min n L.length : Nat) : Int) < n by omega)]; rfl) fun H2 e2 => ?_
        refine cs_app (i := 2) rfl (e2 _ _ hp1) (by rw [List.length_map, List.length_take]; omega) (ev_var (i := 3) rfl (.int _)) fun v H3 e3 d3 => ?_
        cases d3
        refine ⟨((e1.trans e2).trans e3).put0 hp, ?_, _, rfl⟩
        rw [upd_same, tk, if_pos (show (!false) = true from rfl), List.take_of_length_le (l := L) (by omega), List.take_of_length_le (l := L ++ _) (by rw [List.length_append]; show L.length + 1 ≤ n; omega), List.map_append]
        rfl
    · refine cs_ifF tt (by rw [List.length_map, List.length_take, decide_eq_false (show ¬ ((min n L.length : Nat) : Int) < n by omega)]; rfl) fun H2 e2 => ?_
      refine ⟨e1.trans e2, ?_, _, rfl⟩
      rw [tk, e2 _ _ hp1, List.take_append_of_le_length (by omega)]
  · rintro σ' H1 ⟨e1, hp1, o, rfl⟩
    exact ⟨_, rfl, k p H1 e1 hp1⟩
end
end Esp
set_option Elab.async false
set_option linter.all false
set_option maxRecDepth 100000
set_option maxHeartbeats 4000000
namespace Esp
open PySem PySem.Spec PyProof.Rows L2
theorem range_take {n i : Nat} (h : i ≤ n) : (List.range n).take i = List.range i := by
  rw [List.take_range]
  congr 1
  omega
theorem cs_par {σ : L2.St} {H : Hp} {D : Ends} {rest : TS} {i j : Nat} {ta : TA} {x y : PyData} (h : EVA σ H ta [x, y]) (k : ∀ v w H1, Ex H H1 → Dn H1 v x → Dn H1 w y → rest D ((σ.set i (some v)).set j (some w)) H1) : tSeq (tPar i j ta) rest D σ H := h H (Ex.refl H) _ fun vs H1 e1 d1 => by
  cases d1 with
  | cons h1 h2 =>
    cases h2 with
    | cons h2 h3 =>
      cases h3
      exact ⟨_, _, rfl, k _ _ H1 e1 h1 h2⟩
theorem cs_set1 {σ : L2.St} {H : Hp} {D : Ends} {te : TE} {d : PyData} {i : Nat} (h : EV σ H te d) (k : ∀ v H1, Ex H H1 → Dn H1 v d → D.nx (σ.set i (some v)) H1) : tAsg te (gName i) D σ H := h H (Ex.refl H) _ fun v H1 e1 d1 => k v H1 e1 d1
theorem tPairs1 {i : Int} {tv : TE} {σ : L2.St} {H : Hp} {Q : List (V × V) → Hp → Prop} (h : tv σ H fun y H2 => Q [(V.int i, y)] H2) : tPairs [(tC (.int i), tv)] σ H Q := h
section
variable {P : Program} {w : World} {K : PySem.W.Frag} {mg : Str → Option Value} {base : Heap} {C : Addr}
abbrev N_law_below : List Str := ["_law_record", "_law_level", "_law_todo", "_law_k", "_law_low", "_law_high"]
theorem sc_law_below : FnScope N_law_below ["_law_record", "_law_level"] (defScope s_law_below) := ⟨rfl, rfl, rfl, by decide +kernel, rfl, by decide +kernel, by decide +kernel⟩
theorem ok_law_below {f : Addr} {fd : FuncData} (F : FnP K "_law_below" "_law_below" s_law_below f fd) (T : Bu mg) : FnOk P w K mg base CX0 1 f fd ["_law_record", "_law_level"] spBelow := by
  refine F.ok sc_law_below (fun vs H Q E h => ?_) (fun cdv A outer s H vs Q E hr h => ?_)
  · obtain ⟨rv, lv, lo, hi, ks, ps, l, rfl, _⟩ := h
    rfl
  obtain ⟨rv, lv, lo, hi, ks, ps, l, rfl, drv, hl, hz, k⟩ := h
  have nd := sc_law_below.nd
  have hu := hu_of hr
  refine ⟨_, PSs.nox (pss_cons (ps_set (i := 2) nd rfl (Or.inl rfl) (pe_lst pa_nil))
    (pss_cons (ps_for PassesOwn.never rfl (pi_range1 (by rfl) T.range (pa_cons (pe_callB call_lenS (by rfl) T.len (by decide +kernel) (pa_cons (pe_ix ix_tup (pv 0) pe_int (fun _ _ => rfl)) pa_nil)) pa_nil)) (pg_name (i := 3) nd rfl (Or.inl rfl))
    (pss_cons (ps_par (i := 4) (j := 5) (by rfl) nd rfl rfl (by decide) rfl rfl (pa_cons (pe_ix ix_tup (pv 0) pe_int (fun _ _ => rfl)) (pa_cons (pe_ix ix_tup (pv 0) pe_int (fun _ _ => rfl)) pa_nil)) (by rfl))
    (pss_cons (ps_if (pt_cmpR op_gt (pv 3) pe_int (nomark _)) (pss_one (ps_set (i := 4) nd rfl (Or.inl rfl) (pe_ix ix_tup (pe_ix ix_tup (pv 0) pe_int (fun _ _ => rfl)) (pe_op op_sub (pv 3) pe_int) (fun _ _ => rfl)))) pss_nil)
    (pss_cons (ps_if (pt_cmpR op_lt (pv 3) (pe_callB call_lenS (by rfl) T.len (by decide +kernel) (pa_cons (pe_ix ix_tup (pv 0) pe_int (fun _ _ => rfl)) pa_nil)) (nomark _)) (pss_one (ps_set (i := 5) nd rfl (Or.inl rfl) (pe_ix ix_tup (pe_ix ix_tup (pv 0) pe_int (fun _ _ => rfl)) (pv 3) (fun _ _ => rfl)))) pss_nil)
    (pss_one (ps_expr (pe_bm PySem.F.plainAttrs_list PySem.F.slot_list_append PySem.F.type_list_append mt_append (pv 2) (pa_cons (pe_tup (pa_cons (pe_ix ix_tup (pe_ix ix_tup (pv 0) pe_int (fun _ _ => rfl)) (pv 3) (fun _ _ => rfl)) (pa_cons (pv 4) (pa_cons (pv 5) (pa_cons (pe_op op_sub (pv 1) pe_int) pa_nil))))) pa_nil))))))))
    (pss_one (ps_ret (pv 2))))), ?_⟩
  refine ⟨by decide, fun p hp => ?_⟩
  generalize hH0 : upd H p (.lst []) = H0
  have e0 : Ex H H0 := by rw [← hH0]; exact Ex.new hp
  have hp0 : H0 p = some (.lst []) := by rw [← hH0, upd_same]
  have rec5 : ∀ {o1 o2 o3 : Option V} {H1 : Hp}, Ex H H1 → EV [some rv, some (.int l), some (.ref p), o1, o2, o3] H1 (tOp (rIxT K) (tVar 0) (tC (.int 5))) (tI ps) := fun e => ev_op (ev_var (i := 0) rfl (drv.x e)) ev_int (rd_ix rfl)
  have rec4 : ∀ {o1 o2 o3 : Option V} {H1 : Hp}, Ex H H1 → EV [some rv, some (.int l), some (.ref p), o1, o2, o3] H1 (tOp (rIxT K) (tVar 0) (tC (.int 4))) (tI ks) := fun e => ev_op (ev_var (i := 0) rfl (drv.x e)) ev_int (rd_ix rfl)
  refine ev_cb (eva_cons (rec5 (o1 := none) (o2 := none) (o3 := none) e0) eva_nil) rc_len H0 (Ex.refl _) _ fun v H1 e1 d1 => ?_
  cases d1
  refine ⟨_, rfl, by rw [List.length_map]; omega, by rw [List.length_map]; omega, ?_⟩
  rw [show ((((ps.map PyData.int).length : Nat) : Int)).toNat = ps.length by rw [List.length_map]; omega]
  refine for_range (lo := 0) (n := ps.length) (fun i σ' H' => Ex H H' ∧ LsAt H' p (((below lo hi ks ps l).take i).map Td.d) ∧ ∃ o1 o2 o3, σ' = [some rv, some (.int l), some (.ref p), o1, o2, o3]) ⟨e0.trans e1, ⟨[], e1 _ _ hp0, .nil⟩, none, none, none, rfl⟩ ?_ ?_
  · rintro i σ' H2 hin ⟨e2, hL, o1, o2, o3, rfl⟩
    show (fun σ3 H3 => _) [some rv, some (.int l), some (.ref p), some (.int (0 + (i : Int))), o2, o3] H2
    rw [show (0 : Int) + (i : Int) = (i : Int) by omega]
    refine cs_par (eva_cons (ev_op (ev_var (i := 0) rfl (drv.x e2)) (ev_int (i := 2)) (rd_ix (d := bd lo) rfl)) (eva_cons (ev_op (ev_var (i := 0) rfl (drv.x e2)) (ev_int (i := 3)) (rd_ix (d := bd hi) rfl)) eva_nil)) fun v1 v2 H3 e3 dlo dhi => ?_
    have e13 := e2.trans e3
    have hb : (below lo hi ks ps l)[i]? = some ⟨ps.getD i 0, cLo lo ks i, cHi hi ks i, l - 1⟩ := by
      unfold below
      rw [List.getElem?_map, List.getElem?_range hin]
      rfl
    -- low
    have low : ∀ {rest : TS} {D : Ends}, (∀ u H4, Ex H3 H4 → Dn H4 u (bd (cLo lo ks i)) → rest D [some rv, some (.int l), some (.ref p), some (.int (i : Int)), some u, some v2] H4) →
        tSeq (tIfS (tTest (tOp (rI0 fun i j => .bl (decide (i > j))) (tVar 3) (tC (.int 0)))) (tAsg (tOp (rIxT K) (tOp (rIxT K) (tVar 0) (tC (.int 4))) (tOp (rI0 fun i j => .int (i - j)) (tVar 3) (tC (.int 1)))) (gName 4)) tNext) rest D [some rv, some (.int l), some (.ref p), some (.int (i : Int)), some v1, some v2] H3 := by
      intro rest D kk
      have t1 : EVT [some rv, some (.int l), some (.ref p), some (.int (i : Int)), some v1, some v2] H3 (tTest (tOp (rI0 fun i j => .bl (decide (i > j))) (tVar 3) (tC (.int 0)))) (decide ((i : Int) > 0)) := evt_test (ev_op (ev_var (i := 3) rfl (.int _)) ev_int rd_B)
      by_cases c : 0 < i
      · refine cs_yes t1 (decide_eq_true (by omega)) fun H4 e4 => ?_
        have hk : ks[i - 1]? = some (ks[i - 1]'(by omega)) := List.getElem?_eq_getElem (by omega)
        refine cs_set1 (i := 4) (ev_op (rec4 (e13.trans e4)) (ev_op (ev_var (i := 3) rfl (.int _)) (ev_int (i := 1)) (rd_I (f := fun i j => i - j))) (rd_ix (i := (i : Int) - 1) (at_ix (j := i - 1) (by omega) hk))) fun u H5 e5 d5 => ?_
        refine kk u H5 (e4.trans e5) ?_
        unfold cLo
        rw [if_neg (by omega), hk]
        exact d5
      · refine cs_no t1 (decide_eq_false (by omega)) fun H4 e4 => ?_
        refine kk v1 H4 e4 ?_
        unfold cLo
        rw [if_pos (by omega)]
        exact dlo.x e4
    refine low fun u1 H4 e4 d4 => ?_
    have high : ∀ {rest : TS} {D : Ends}, (∀ u H5, Ex H4 H5 → Dn H5 u (bd (cHi hi ks i)) → rest D [some rv, some (.int l), some (.ref p), some (.int (i : Int)), some u1, some u] H5) →
        tSeq (tIfS (tTest (tOp (rI0 fun i j => .bl (decide (i < j))) (tVar 3) (tCB (rLenS K) (tCons (tOp (rIxT K) (tVar 0) (tC (.int 4))) tNil)))) (tAsg (tOp (rIxT K) (tOp (rIxT K) (tVar 0) (tC (.int 4))) (tVar 3)) (gName 5)) tNext) rest D [some rv, some (.int l), some (.ref p), some (.int (i : Int)), some u1, some v2] H4 := by
      intro rest D kk
      have t1 : EVT [some rv, some (.int l), some (.ref p), some (.int (i : Int)), some u1, some v2] H4 (tTest (tOp (rI0 fun i j => .bl (decide (i < j))) (tVar 3) (tCB (rLenS K) (tCons (tOp (rIxT K) (tVar 0) (tC (.int 4))) tNil)))) (decide ((i : Int) < (((ks.map PyData.int).length : Nat) : Int))) :=
        evt_test (ev_op (ev_var (i := 3) rfl (.int _)) (ev_cb (eva_cons (rec4 (e13.trans e4)) eva_nil) rc_len) rd_B)
      by_cases c : i < ks.length
      · refine cs_yes t1 (decide_eq_true (by rw [List.length_map]; omega)) fun H5 e5 => ?_
        have hk : ks[i]? = some (ks[i]'c) := List.getElem?_eq_getElem c
        refine cs_set1 (i := 5) (ev_op (rec4 ((e13.trans e4).trans e5)) (ev_var (i := 3) rfl (.int _)) (rd_ix (at_ix (j := i) rfl hk))) fun u H6 e6 d6 => ?_
        refine kk u H6 (e5.trans e6) ?_
        unfold cHi
        rw [if_pos c, hk]
        exact d6
      · refine cs_no t1 (decide_eq_false (by rw [List.length_map]; omega)) fun H5 e5 => ?_
        refine kk v2 H5 e5 ?_
        unfold cHi
        rw [if_neg c]
        exact dhi.x (e4.trans e5)
    refine high fun u2 H5 e5 d5 => ?_
    obtain ⟨ys, hy, hdy⟩ := ((hL.x e3).x e4).x e5
    have hps : ps[i]? = some (ps.getD i 0) := by rw [List.getD_eq_getElem?_getD, List.getElem?_eq_getElem hin]; rfl
    refine cs_app (i := 2) rfl hy ?_ (ev_tup (σ := [some rv, some (.int l), some (.ref p), some (.int (i : Int)), some u1, some u2]) (eva_cons (ev_op (rec5 ((e13.trans e4).trans e5)) (ev_var (i := 3) rfl (.int _)) (rd_ix (at_ix (j := i) rfl hps))) (eva_cons (ev_var (i := 4) rfl (d4.x e5)) (eva_cons (ev_var (i := 5) rfl d5) (eva_cons (ev_op (ev_var (i := 1) rfl (.int l)) ev_int rd_I) eva_nil))))) fun u H6 e6 d6 => ?_
    · have a1 := hdy.length
      have a2 := List.length_take_le' i (below lo hi ks ps l)
      have a3 : (below lo hi ks ps l).length = ps.length := by unfold below; rw [List.length_map, List.length_range]
      rw [List.length_map] at a1
      omega
    · refine ⟨(((e13.trans e4).trans e5).trans e6).put0 hp, ?_, _, _, _, rfl⟩
      rw [map_take _ hb]
      exact lst_app (e6 _ _ hy) (hdy.x e6) d6
  · rintro σ' H2 ⟨e2, hL, o1, o2, o3, rfl⟩
    refine ⟨_, rfl, k p H2 e2 hp ?_⟩
    have a3 : (below lo hi ks ps l).length = ps.length := by unfold below; rw [List.length_map, List.length_range]
    rw [← a3, List.take_length] at hL
    exact hL
abbrev N_law_start : List Str := []
theorem sc_law_start : FnScope N_law_start [] (defScope s_law_start) := ⟨rfl, rfl, rfl, by decide +kernel, rfl, by decide +kernel, by decide +kernel⟩
theorem ok_law_start {f : Addr} {fd : FuncData} (F : FnP K "_law_start" "_law_start" s_law_start f fd) (T : Bu mg) : FnOk P w K mg base CX0 1 f fd [] spStart := by
  refine F.ok sc_law_start (fun vs H Q E h => ?_) (fun cdv A outer s H vs Q E hr h => ?_)
  · obtain ⟨rfl, _⟩ := h
    rfl
  obtain ⟨rfl, k⟩ := h
  have nd := sc_law_start.nd
  have hu := hu_of hr
  refine ⟨_, PSs.nox (pss_one (ps_ret (pe_disp (pps_cons pe_int (pe_tup (pa_cons pe_int (pa_cons (pe_tup (pa_cons pe_str (pa_cons pe_non (pa_cons pe_non (pa_cons (pe_tup pa_nil) (pa_cons (pe_tup pa_nil) pa_nil)))))) pa_nil))) pps_nil) rfl rfl (by simp) (by decide)))), ?_⟩
  intro p hp
  have e0 : Ex H (upd H p (.dK [])) := Ex.new hp
  have rd := ev_tup (σ := L2.start N_law_start []) (H := upd H p (.dK [])) (eva_cons (ev_int (i := 100)) (eva_cons (ev_tup (eva_cons (ev_str (i := "leaf")) (eva_cons ev_non (eva_cons ev_non (eva_cons (ev_tup eva_nil) (eva_cons (ev_tup eva_nil) eva_nil)))))) eva_nil))
  refine tPairs1 ?_
  refine rd _ (Ex.refl _) _ fun v H1 e1 d1 => ?_
  have hp1 : H1 p = some (.dK []) := e1 _ _ upd_same
  refine ⟨hp1, [(Sum.inl 0, v)], rfl, Nat.le_of_ble_eq_true rfl, ?_⟩
  refine k p _ ((e0.trans e1).put0 hp) hp ⟨_, upd_same, ?_⟩
  exact (KvD.put (kvs := []) (l := []) .nil (d := pgd (100, .leaf none none [] [])) d1 0).t (ExT.dput hp1)
end
end Esp
set_option Elab.async false
set_option linter.all false
set_option maxRecDepth 100000
set_option maxHeartbeats 4000000
namespace Esp
open PySem PySem.Spec PyProof.Rows L2
/-! ### shared steps, and a key that goes -/
theorem cs_dput {α : Type} {f : α → PyData} {σ : L2.St} {H : Hp} {D : Ends} {i : Nat} {a : Addr} {l : List (Int × α)} {ty tv : TE} {q : Int} {x : α} (hi : σ[i]? = some (some (.ref a))) (h : DkT f H a l) (hv : EV σ H tv (f x)) (hy : EV σ H ty (.int q)) (hz : l.length < 100000)
    (k : ∀ H1 o kvs, Ex H H1 → H1 a = some (.dK kvs) → DkT f (upd H1 a o) a (aput l q x) → D.nx σ (upd H1 a o)) : sDPut (tVar i) ty tv D σ H := hv H (Ex.refl H) _ fun v H1 e1 d1 => ⟨_, hi, hy H1 e1 _ fun y H2 e2 d2 => by
    cases d2
    obtain ⟨o, h1, h2, _, kvs, h3⟩ := ((h.x e1).x e2).put (d1.x e2) q hz
    exact ⟨a, _, rfl, h1, k H2 o kvs (e1.trans e2) h3 h2⟩⟩
theorem cs_lst {σ : L2.St} {H : Hp} {D : Ends} {rest : TS} {i : Nat} {ta : TA} {ds : List PyData} (h : EVA σ H ta ds) (k : ∀ p vs H1, Ex H H1 → H1 p = none → DnAll H1 vs ds → rest D (σ.set i (some (.ref p))) (upd H1 p (.lst vs))) (hl : ds.length ≤ 100000 := by exact Nat.le_of_ble_eq_true rfl) : tSeq (tAsg (tLst ta) (gName i)) rest D σ H := h H (Ex.refl H) _ fun vs H1 e1 d1 => ⟨by rw [d1.length]; exact sz_of hl, fun p hp => k p vs H1 e1 hp d1⟩
def adel {α : Type} (l : List (Int × α)) (k : Int) : List (Int × α) := l.filter fun kv => decide (kv.1 ≠ k)
theorem alook_del {α : Type} (k j : Int) : ∀ l : List (Int × α), alook (adel l k) j = if j = k then none else alook l j
  | [] => by unfold adel; rw [List.filter_nil, alook_nil]; split <;> rfl
  | p :: r => by
    have ih := alook_del k j r
    unfold adel at ih ⊢
    rw [List.filter_cons]
    by_cases e : p.1 = k
    · rw [if_neg (by rw [decide_eq_false (by simp [e])]; decide), ih]
      by_cases e2 : j = k
      · rw [if_pos e2, if_pos e2]
      · rw [if_neg e2, if_neg e2, alook_neg (by rw [e]; exact fun z => e2 z.symm)]
    · rw [if_pos (decide_eq_true e)]
      by_cases e3 : p.1 = j
      · rw [alook_pos e3, alook_pos e3, if_neg (by rw [← e3]; exact e)]
      · rw [alook_neg e3, alook_neg e3, ih]
theorem KvD.del {H : Hp} {kvs : List (Key × V)} {l : List (Int × PyData)} (h : KvD H kvs l) (k : Int) : KvD H (dropK kvs (Sum.inl k : Key)) (adel l k) := by
  unfold KvD dropK adel at *
  induction h with
  | nil => exact .nil
  | @cons p q ps qs r t ih =>
    rw [List.filter_cons, List.filter_cons]
    by_cases e : q.1 = k
    · rw [if_neg (by rw [decide_eq_false (p := p.1 ≠ Sum.inl k) (not_not_intro (by rw [r.1, e]))]; decide), if_neg (by rw [decide_eq_false (p := q.1 ≠ k) (not_not_intro e)]; decide)]
      exact ih
    · rw [if_pos (decide_eq_true (p := p.1 ≠ Sum.inl k) fun z => e (inl_iff.mp (r.1.symm.trans z))), if_pos (decide_eq_true (p := q.1 ≠ k) e)]
      exact .cons r ih
theorem adel_map {α : Type} (f : α → PyData) (l : List (Int × α)) (k : Int) : adel (l.map fun p => (p.1, f p.2)) k = (adel l k).map fun p => (p.1, f p.2) := by
  unfold adel
  rw [List.filter_map]
  rfl
structure DueR (c : Call) (T T' : List (Int × Int)) : Prop where
  nd : (T.map (·.1)).Nodup → (T'.map (·.1)).Nodup
  len : T'.length ≤ T.length + 1
  look : ∀ k, alook T' k = if k = c.key then (match c.act (alook T c.key) with
    | none => alook T c.key
    | some a => a) else alook T k
theorem DueR.id {c : Call} {T : List (Int × Int)} (h : c.act (alook T c.key) = none) : DueR c T T := ⟨fun x => x, by omega, fun k => by
  rw [h]
  by_cases e : k = c.key
  · rw [if_pos e, e]
  · rw [if_neg e]⟩
theorem DueR.put {c : Call} {T : List (Int × Int)} {v : Int} (h : (match c.act (alook T c.key) with
    | none => alook T c.key
    | some a => a) = some v) : DueR c T (aput T c.key v) := ⟨fun x => aput_nd _ _ x, aput_len _ _ _, fun k => by
  rw [h, alook_put]⟩
theorem DueR.del {c : Call} {T : List (Int × Int)} (h : (match c.act (alook T c.key) with
    | none => alook T c.key
    | some a => a) = none) : DueR c T (adel T c.key) := ⟨fun x => List.Nodup.sublist (List.Sublist.map _ List.filter_sublist) x, Nat.le_trans (List.length_filter_le _ _) (by omega), fun k => by
  rw [h, alook_del]⟩
def spDue : Sp := fun vs H Q _ => ∃ (a : Addr) (T : List (Int × Int)) (c : Call) (cv : V), vs = [.ref a, cv] ∧ DkT PyData.int H a T ∧ Dn H cv c.d ∧ T.length ≤ 9000 ∧
  ∀ t p x T' H', Ex H H' → H' t = some (.tup [x, .ref p]) → DkT PyData.int H' p T' → DueR c T T' → Q (.ref t) H'
structure WalkR (pg : List (Int × (Int × Rec))) (key : Int) (path : List Step) : Prop where
  first : ∃ a r, alook pg 0 = some (a, r) ∧ path[0]? = some ⟨0, a, r, 1⟩
  next : ∀ (i : Nat) s, path[i]? = some s → (∃ lv lo hi ks ps q a r, s.rcd = .inner lv lo hi ks ps ∧ ks.length ≤ 100 ∧ ps[(ks.filter fun x => decide (x ≤ key)).length]? = some q ∧ alook pg q = some (a, r) ∧ path[i + 1]? = some ⟨q, a, r, (i : Int) + 2⟩) ∨ ((s.rcd.tag = "inner") = False ∧ path[i + 1]? = none)
  len : path.length ≤ 20
def spWalk : Sp := fun vs H Q _ => ∃ (a : Addr) (pg : List (Int × (Int × Rec))) (key : Int) (path : List Step), vs = [.ref a, .int key] ∧ DkT pgd H a pg ∧ WalkR pg key path ∧ ∀ p H', Ex H H' → LsAt H' p (path.map Step.d) → Q (.ref p) H'
section
variable {P : Program} {w : World} {K : PySem.W.Frag} {mg : Str → Option Value} {base : Heap} {C : Addr}
abbrev N_law_due : List Str := ["_law_table", "_law_call_here", "_law_after", "_law_old"]
theorem sc_law_due : FnScope N_law_due ["_law_table", "_law_call_here"] (defScope s_law_due) := ⟨rfl, rfl, rfl, by decide +kernel, rfl, by decide +kernel, by decide +kernel⟩
theorem ok_law_due {f : Addr} {fd : FuncData} (F : FnP K "_law_due" "_law_due" s_law_due f fd) (T : Bu mg) : FnOk P w K mg base CX0 1 f fd ["_law_table", "_law_call_here"] spDue := by
  refine F.ok sc_law_due (fun vs H Q E h => ?_) (fun cdv A outer s H vs Q E hr h => ?_)
  · obtain ⟨a, T, c, cv, rfl, _⟩ := h
    rfl
  obtain ⟨a, M, c, cv, rfl, ha, dc, hz, k⟩ := h
  have nd := sc_law_due.nd
  have hu := hu_of hr
  refine ⟨_, PSs.nox (pss_cons (ps_set (i := 2) nd rfl (Or.inl rfl) (pe_callTy call_dictD (by rfl) T.dict (by decide +kernel) (pa_cons (pv 0) pa_nil)))
    (pss_cons (ps_set (i := 3) nd rfl (Or.inl rfl) (pe_dget2 (by exact hu) (pv 0) (pe_ix ix_tup (pv 1) pe_int (fun _ _ => rfl)) pe_non ⟨by rfl, by rfl, by rfl, by rfl⟩))
    (pss_cons (ps_if (pt_cmpR op_eq (pe_ix ix_tup (pv 1) pe_int (fun _ _ => rfl)) pe_str (nomark _)) (pss_cons (ps_dput (by exact hu) (pv 2) (pe_ix ix_tup (pv 1) pe_int (fun _ _ => rfl)) (pe_ix ix_tup (pv 1) pe_int (fun _ _ => rfl)) rfl)
    (pss_one (ps_ret (pe_tup (pa_cons (pv 3) (pa_cons (pv 2) pa_nil)))))) pss_nil)
    (pss_cons (ps_if (pt_cmpR op_eq (pe_ix ix_tup (pv 1) pe_int (fun _ _ => rfl)) pe_str (nomark _)) (pss_cons (ps_if (pt_cmpR op_isN1 (pv 3) pe_non (nomark _)) (pss_one (ps_dput (by exact hu) (pv 2) (pe_ix ix_tup (pv 1) pe_int (fun _ _ => rfl)) (pe_ix ix_tup (pv 1) pe_int (fun _ _ => rfl)) rfl)) pss_nil)
    (pss_one (ps_ret (pe_tup (pa_cons (pe_cmpR op_isN1 (pv 3) pe_non (nomark _)) (pa_cons (pv 2) pa_nil)))))) pss_nil)
    (pss_cons (ps_if (pt_cmpR op_eq (pe_ix ix_tup (pv 1) pe_int (fun _ _ => rfl)) pe_str (nomark _)) (pss_cons (ps_if (PW.pt (pw_and (pt_cmpR op_notN1 (pv 3) pe_non (nomark _)) (pw_and1 (pt_cmpR op_eq (pv 3) (pe_ix ix_tup (pv 1) pe_int (fun _ _ => rfl)) (nomark _))))) (pss_cons (ps_dput (by exact hu) (pv 2) (pe_ix ix_tup (pv 1) pe_int (fun _ _ => rfl)) (pe_ix ix_tup (pv 1) pe_int (fun _ _ => rfl)) rfl)
    (pss_one (ps_ret (pe_tup (pa_cons pe_bl (pa_cons (pv 2) pa_nil)))))) pss_nil)
    (pss_one (ps_ret (pe_tup (pa_cons pe_bl (pa_cons (pv 2) pa_nil)))))) pss_nil)
    (pss_cons (ps_if (PW.pt (pw_and (pt_cmpR op_eq (pe_ix ix_tup (pv 1) pe_int (fun _ _ => rfl)) pe_str (nomark _)) (pw_and1 (pt_cmpR op_notN1 (pv 3) pe_non (nomark _))))) (pss_one (ps_expr (pe_dpop1 (pv 2) (pe_ix ix_tup (pv 1) pe_int (fun _ _ => rfl)) ⟨by rfl, by rfl, by rfl, by rfl⟩))) pss_nil)
    (pss_one (ps_ret (pe_tup (pa_cons (pv 3) (pa_cons (pv 2) pa_nil))))))))))), ?_⟩
  obtain ⟨kvs, hk1, hk2⟩ := id ha
  refine ⟨_, rfl, a, kvs, rfl, .inl hk1, fun p hp => ?_⟩
  generalize hH0 : upd H p (.dK kvs) = H0
  have e0 : Ex H H0 := by rw [← hH0]; exact Ex.new hp
  have p0 : DkT PyData.int H0 p M := ⟨kvs, by rw [← hH0, upd_same], hk2.t e0.t⟩
  have ckey : ∀ {o2 o3 : Option V} {H1 : Hp}, Ex H H1 → EV [some (.ref a), some cv, o2, o3] H1 (tOp (rIxT K) (tVar 1) (tC (.int 1))) (.int c.key) := fun e => by
    cases c <;> exact ev_op (ev_var (i := 1) rfl (dc.x e)) (ev_int (i := 1)) (rd_ix rfl)
  refine cs_set (σ := [some (.ref a), some cv, some (.ref p), none]) (i := 3) (ev_dget2 (i := 0) rfl (ha.x e0) (ckey e0) ev_non) fun ov H1 e1 d1 => ?_
  have e01 := e0.trans e1
  generalize hold : alook M c.key = old at d1
  have d1' : Dn H1 ov (bd old) := by cases old <;> exact d1
  have p1 := p0.x e1
  -- the end
  have fin : ∀ {H2 : Hp} {M' : List (Int × Int)} {r : TE} {d : PyData}, Ex H H2 → DkT PyData.int H2 p M' → DueR c M M' → EV [some (.ref a), some cv, some (.ref p), some ov] H2 r d → (tTup (tCons r (tCons (tVar 2) tNil)) : TE) [some (.ref a), some cv, some (.ref p), some ov] H2 Q := fun e2 h2 hd hr' => by
    refine hr' _ (Ex.refl _) _ fun v H3 e3 d3 => ⟨_, rfl, by show 2 ≤ sizeLine; decide, fun t ht => ?_⟩
    exact k t p v _ _ ((e2.trans e3).add ht) upd_same ((h2.x e3).x (Ex.new ht)) hd
  have put : ∀ {H2 : Hp} {v : Int} {D : Ends} {tv : TE}, Ex H1 H2 → EV [some (.ref a), some cv, some (.ref p), some ov] H2 tv (.int v) → (∀ H3, Ex H H3 → DkT PyData.int H3 p (aput M c.key v) → (∀ x d, Dn H1 x d → Dn H3 x d) → D.nx [some (.ref a), some cv, some (.ref p), some ov] H3) → sDPut (tVar 2) (tOp (rIxT K) (tVar 1) (tC (.int 1))) tv D [some (.ref a), some cv, some (.ref p), some ov] H2 := fun e2 hv kk =>
    cs_dput (i := 2) rfl (p1.x e2) hv (ckey (e01.trans e2)) (by omega) fun H3 o kv e3 hk3 hd3 => kk _ (((e01.trans e2).trans e3).put0 hp) hd3 fun x d hx => (hx.x (e2.trans e3)).t (ExT.dput hk3)
  have tagT : ∀ {t s : Str} {H2 : Hp}, Ex H H2 → EV [some (.ref a), some cv, some (.ref p), some ov] H2 (tOp (rIxT K) (tVar 1) (tC (.int 0))) (.str s) → EVT [some (.ref a), some cv, some (.ref p), some ov] H2 (tTest (tOp rEq (tOp (rIxT K) (tVar 1) (tC (.int 0))) (tC (.str t)))) (decide (s = t)) := fun e h => evt_test (ev_op h ev_str rd_eqS)
  cases c with
  | put key v =>
    have ctag : ∀ {H2 : Hp}, Ex H H2 → EV [some (.ref a), some cv, some (.ref p), some ov] H2 (tOp (rIxT K) (tVar 1) (tC (.int 0))) (.str "put") := fun e => ev_op (ev_var (i := 1) rfl (dc.x e)) (ev_int (i := 0)) (rd_ix rfl)
    have hact : (match (Call.put key v).act (alook M key) with
        | none => alook M key
        | some a => a) = some v := by
      show (match (if alook M key = some v then none else some (some v)) with
        | none => alook M key
        | some a => a) = some v
      by_cases e : alook M key = some v
      · rw [if_pos e]; exact e
      · rw [if_neg e]
    refine cs_yes (tagT e01 (ctag e01)) (decide_eq_true rfl) fun H2 e2 => ?_
    refine put e2 (ev_op (ev_var (i := 1) rfl (dc.x (e01.trans e2))) (ev_int (i := 2)) (rd_ix rfl)) fun H3 e3 h3 h4 => ?_
    exact fin e3 h3 (DueR.put hact) (ev_var (i := 3) rfl (h4 _ _ d1'))
  | add key v =>
    have ctag : ∀ {H2 : Hp}, Ex H H2 → EV [some (.ref a), some cv, some (.ref p), some ov] H2 (tOp (rIxT K) (tVar 1) (tC (.int 0))) (.str "add") := fun e => ev_op (ev_var (i := 1) rfl (dc.x e)) (ev_int (i := 0)) (rd_ix rfl)
    refine cs_no (tagT e01 (ctag e01)) (decide_eq_false add_put) fun H2 e2 => ?_
    refine cs_yes (tagT (e01.trans e2) (ctag (e01.trans e2))) (decide_eq_true rfl) fun H3 e3 => ?_
    have e13 := e2.trans e3
    have tt := evt_test (ev_op (ev_var (σ := [some (.ref a), some cv, some (.ref p), some ov]) (i := 3) rfl (d1'.x e13)) ev_non rd_isN)
    cases old with
    | none =>
      refine cs_yes tt rfl fun H4 e4 => ?_
      refine put (e13.trans e4) (ev_op (ev_var (i := 1) rfl (dc.x (e01.trans (e13.trans e4)))) (ev_int (i := 2)) (rd_ix rfl)) fun H5 e5 h5 h6 => ?_
      exact fin e5 h5 (DueR.put (c := .add key v) (by show (match (if (alook M key).isSome = true then none else some (some v)) with | none => alook M key | some a => a) = some v; rw [show alook M key = _ from hold]; rfl)) (ev_op (ev_var (i := 3) rfl (h6 _ _ d1')) ev_non rd_isN)
    | some x =>
      refine cs_no tt rfl fun H4 e4 => ?_
      exact fin (e01.trans (e13.trans e4)) (p1.x (e13.trans e4)) (DueR.id (c := .add key v) (by show (if (alook M key).isSome = true then none else some (some v)) = none; rw [show alook M key = _ from hold]; rfl)) (ev_op (ev_var (i := 3) rfl (d1'.x (e13.trans e4))) ev_non rd_isN)
  | change key o n =>
    have ctag : ∀ {H2 : Hp}, Ex H H2 → EV [some (.ref a), some cv, some (.ref p), some ov] H2 (tOp (rIxT K) (tVar 1) (tC (.int 0))) (.str "change") := fun e => ev_op (ev_var (i := 1) rfl (dc.x e)) (ev_int (i := 0)) (rd_ix rfl)
    refine cs_no (tagT e01 (ctag e01)) (decide_eq_false change_put) fun H2 e2 => ?_
    refine cs_no (tagT (e01.trans e2) (ctag (e01.trans e2))) (decide_eq_false change_add) fun H3 e3 => ?_
    have e13 := e2.trans e3
    refine cs_yes (tagT (e01.trans e13) (ctag (e01.trans e13))) (decide_eq_true rfl) fun H4 e4 => ?_
    have e14 := e13.trans e4
    have tt := evt_and (tu := tTest (tOp rEq (tVar 3) (tOp (rIxT K) (tVar 1) (tC (.int 2))))) (b := decide (old = some o)) (evt_test (ev_op (ev_var (σ := [some (.ref a), some cv, some (.ref p), some ov]) (i := 3) rfl (d1'.x e14)) ev_non rd_notN)) fun hb => by
      cases old with
      | none => cases hb
      | some x =>
        rw [show decide (some x = some o) = decide (x = o) from dcd (by simp)]
        exact evt_test (ev_op (ev_var (i := 3) rfl (d1'.x e14)) (ev_op (ev_var (i := 1) rfl (dc.x (e01.trans e14))) (ev_int (i := 2)) (rd_ix rfl)) rd_eqI)
    by_cases c0 : old = some o
    · refine cs_yes tt (by subst c0; simp [isNon, bd]) fun H5 e5 => ?_
      refine put (e14.trans e5) (ev_op (ev_var (i := 1) rfl (dc.x (e01.trans (e14.trans e5)))) (ev_int (i := 3)) (rd_ix rfl)) fun H6 e6 h6 h7 => ?_
      refine fin e6 h6 (DueR.put (c := .change key o n) ?_) (ev_c fun _ => .bl true)
      show (match (if alook M key = some o then (if n = o then none else some (some n)) else none) with
        | none => alook M key
        | some a => a) = some n
      have hk : alook M key = some o := by rw [← c0]; exact hold
      rw [if_pos hk]
      by_cases e : n = o
      · rw [if_pos e, e]; exact hk
      · rw [if_neg e]
    · refine cs_no tt (by rw [decide_eq_false c0, Bool.and_false]) fun H5 e5 => ?_
      have e15 := e14.trans e5
      refine fin (e01.trans e15) (p1.x e15) (DueR.id (c := .change key o n) ?_) (ev_c fun _ => .bl false)
      show (if alook M key = some o then (if n = o then none else some (some n)) else none) = none
      rw [if_neg (c := alook M key = some o) fun z => c0 (hold.symm.trans z)]
  | take key =>
    have ctag : ∀ {H2 : Hp}, Ex H H2 → EV [some (.ref a), some cv, some (.ref p), some ov] H2 (tOp (rIxT K) (tVar 1) (tC (.int 0))) (.str "take") := fun e => ev_op (ev_var (i := 1) rfl (dc.x e)) (ev_int (i := 0)) (rd_ix rfl)
    refine cs_no (tagT e01 (ctag e01)) (decide_eq_false take_put) fun H2 e2 => ?_
    refine cs_no (tagT (e01.trans e2) (ctag (e01.trans e2))) (decide_eq_false take_add) fun H3 e3 => ?_
    have e13 := e2.trans e3
    refine cs_no (tagT (e01.trans e13) (ctag (e01.trans e13))) (decide_eq_false take_change) fun H4 e4 => ?_
    have e14 := e13.trans e4
    have tt := evt_and (b := !isNon (bd old)) (tagT (t := "take") (e01.trans e14) (ctag (e01.trans e14))) fun _ => evt_test (ev_op (ev_var (i := 3) rfl (d1'.x e14)) ev_non rd_notN)
    cases old with
    | none =>
      refine cs_no tt (by rw [show isNon (bd none) = true from rfl, Bool.not_true, Bool.and_false]) fun H5 e5 => ?_
      have e15 := e14.trans e5
      exact fin (e01.trans e15) (p1.x e15) (DueR.id (c := .take key) (by show (if (alook M key).isSome = true then some none else none) = none; rw [show alook M key = _ from hold]; rfl)) (ev_var (i := 3) rfl (d1'.x e15))
    | some x =>
      refine cs_yes tt (by rw [decide_eq_true rfl]; rfl) fun H5 e5 => ?_
      have e15 := e14.trans e5
      obtain ⟨kv5, hk5, hd5⟩ := p1.x e15
      refine ⟨_, rfl, p, rfl, .inl ⟨kv5, .inl hk5⟩, ckey (e01.trans e15) _ (Ex.refl _) _ fun y H6 e6 d6 => ?_⟩
      cases d6
      have hd6 := hd5.t e6.t
      obtain ⟨w, hw1, hw2⟩ := hd6.look_some (k := key) (d := .int x) (by rw [alook_mapV, show alook M key = some x from hold]; rfl)
      refine ⟨kv5, Sum.inl key, w, e6 _ _ hk5, rfl, hw1, ?_⟩
      have et : ExT H6 (upd H6 p (.dK (dropK kv5 (Sum.inl key : Key)))) := ExT.dput (e6 _ _ hk5)
      exact fin (((e01.trans e15).trans e6).put0 hp) ⟨_, upd_same, by rw [← adel_map]; exact (hd6.del key).t et⟩ (DueR.del (c := .take key) (by show (match (if (alook M key).isSome = true then some none else none) with | none => alook M key | some a => a) = none; rw [show alook M key = _ from hold]; rfl)) (ev_var (i := 3) rfl ((d1'.x (e15.trans e6)).t et))
  | look key =>
    have ctag : ∀ {H2 : Hp}, Ex H H2 → EV [some (.ref a), some cv, some (.ref p), some ov] H2 (tOp (rIxT K) (tVar 1) (tC (.int 0))) (.str "look") := fun e => ev_op (ev_var (i := 1) rfl (dc.x e)) (ev_int (i := 0)) (rd_ix rfl)
    refine cs_no (tagT e01 (ctag e01)) (decide_eq_false look_put) fun H2 e2 => ?_
    refine cs_no (tagT (e01.trans e2) (ctag (e01.trans e2))) (decide_eq_false look_add) fun H3 e3 => ?_
    have e13 := e2.trans e3
    refine cs_no (tagT (e01.trans e13) (ctag (e01.trans e13))) (decide_eq_false look_change) fun H4 e4 => ?_
    have e14 := e13.trans e4
    have tt := evt_and (b := !isNon (bd old)) (tagT (t := "take") (e01.trans e14) (ctag (e01.trans e14))) fun _ => evt_test (ev_op (ev_var (i := 3) rfl (d1'.x e14)) ev_non rd_notN)
    refine cs_no tt (by rw [decide_eq_false look_take, Bool.false_and]) fun H5 e5 => ?_
    have e15 := e14.trans e5
    exact fin (e01.trans e15) (p1.x e15) (DueR.id (c := .look key) rfl) (ev_var (i := 3) rfl (d1'.x e15))
abbrev N_law_walk : List Str := ["_law_pages", "_law_key", "_law_path", "_law_k", "_law_record", "_law_below_here", "_law_one"]
theorem sc_law_walk : FnScope N_law_walk ["_law_pages", "_law_key"] (defScope s_law_walk) := ⟨rfl, rfl, rfl, by decide +kernel, rfl, by decide +kernel, by decide +kernel⟩
theorem ok_law_walk {f : Addr} {fd : FuncData} (F : FnP K "_law_walk" "_law_walk" s_law_walk f fd) (T : Bu mg) : FnOk P w K mg base CX0 1 f fd ["_law_pages", "_law_key"] spWalk := by
  refine F.ok sc_law_walk (fun vs H Q E h => ?_) (fun cdv A outer s H vs Q E hr h => ?_)
  · obtain ⟨a, pg, key, path, rfl, _⟩ := h
    rfl
  obtain ⟨a, pg, key, path, rfl, ha, hw, k⟩ := h
  have nd := sc_law_walk.nd
  have hu := hu_of hr
  refine ⟨_, PSs.nox (pss_cons (ps_set (i := 2) nd rfl (Or.inl rfl) (pe_lst (pa_cons (pe_tup (pa_cons pe_int (pa_cons (pe_ix ix_tup (pe_dget (by exact hu) (pv 0) pe_int (fun _ _ => rfl)) pe_int (fun _ _ => rfl)) (pa_cons (pe_ix ix_tup (pe_dget (by exact hu) (pv 0) pe_int (fun _ _ => rfl)) pe_int (fun _ _ => rfl)) (pa_cons pe_int pa_nil))))) pa_nil)))
    (pss_cons (ps_for PassesOwn.never rfl (pi_range1 (by rfl) T.range (pa_cons pe_int pa_nil)) (pg_name (i := 3) nd rfl (Or.inl rfl))
    (pss_cons (ps_set (i := 4) nd rfl (Or.inl rfl) (pe_ix ix_tup (pe_ix ix_list (pv 2) (pe_un un_neg pe_int) (fun _ _ => rfl)) pe_int (fun _ _ => rfl)))
    (pss_one (ps_if (pt_cmpR op_eq (pe_ix ix_tup (pv 4) pe_int (fun _ _ => rfl)) pe_str (nomark _)) (pss_cons (ps_set (i := 5) nd rfl (Or.inl rfl) (pe_ix ix_tup (pe_ix ix_tup (pv 4) pe_int (fun _ _ => rfl)) (pe_callB call_lenS (by rfl) T.len (by decide +kernel) (pa_cons (pe_lc (own := [("_law_one", 6)]) (g := gName 6) (by rfl) nd (pi_tup (pe_ix ix_tup (pv 4) pe_int (fun _ _ => rfl))) (blkOk_by (own := [("_law_one", 6)]) (N := N_law_walk) (sc := defScope s_law_walk) (by decide +kernel)) (fun _ _ _ _ _ => pg_name (i := 6) nd rfl (Or.inl rfl)) (fun _ _ _ _ _ => pts_one (pt_cmpR op_le (pv 6) (pv 1) (nomark _))) (fun _ _ _ _ _ => (pv 6))) pa_nil)) (fun _ _ => rfl)))
    (pss_one (ps_expr (pe_bm PySem.F.plainAttrs_list PySem.F.slot_list_append PySem.F.type_list_append mt_append (pv 2) (pa_cons (pe_tup (pa_cons (pv 5) (pa_cons (pe_ix ix_tup (pe_dget (by exact hu) (pv 0) (pv 5) (fun _ _ => rfl)) pe_int (fun _ _ => rfl)) (pa_cons (pe_ix ix_tup (pe_dget (by exact hu) (pv 0) (pv 5) (fun _ _ => rfl)) pe_int (fun _ _ => rfl)) (pa_cons (pe_op op_add (pv 3) pe_int) pa_nil))))) pa_nil))))) pss_nil))))
    (pss_one (ps_ret (pv 2))))), ?_⟩
  obtain ⟨a0, r0, h0, hp0⟩ := hw.first
  -- pages[q][0], pages[q][1]
  have at0 : ∀ {σ : L2.St} {H1 : Hp} {ty : TE} {q ad : Int} {r : Rec}, σ[0]? = some (some (.ref a)) → Ex H H1 → EV σ H1 ty (.int q) → alook pg q = some (ad, r) → EV σ H1 (tOp (rIxT K) (tDGet (tVar 0) ty) (tC (.int 0))) (.int ad) := fun h e hy he => ev_op (ev_dget (i := 0) h (ha.x e) hy he) (ev_int (i := 0)) (rd_ix rfl)
  have at1 : ∀ {σ : L2.St} {H1 : Hp} {ty : TE} {q ad : Int} {r : Rec}, σ[0]? = some (some (.ref a)) → Ex H H1 → EV σ H1 ty (.int q) → alook pg q = some (ad, r) → EV σ H1 (tOp (rIxT K) (tDGet (tVar 0) ty) (tC (.int 1))) r.d := fun h e hy he => ev_op (ev_dget (i := 0) h (ha.x e) hy he) (ev_int (i := 1)) (rd_ix rfl)
  have first : EV [some (.ref a), some (.int key), none, none, none, none, none] H (tTup (tCons (tC (.int 0)) (tCons (tOp (rIxT K) (tDGet (tVar 0) (tC (.int 0))) (tC (.int 0))) (tCons (tOp (rIxT K) (tDGet (tVar 0) (tC (.int 0))) (tC (.int 1))) (tCons (tC (.int 1)) tNil))))) (Step.mk 0 a0 r0 1).d :=
    ev_tup (eva_cons ev_int (eva_cons (at0 rfl (Ex.refl _) ev_int h0) (eva_cons (at1 rfl (Ex.refl _) ev_int h0) (eva_cons ev_int eva_nil))))
  refine cs_lst (i := 2) (eva_cons first eva_nil) fun p vs H1 e1 fp' dv => ?_
  cases dv with
  | @cons v _ _ _ d1 dv =>
  cases dv
  have fp : H p = none := e1.free fp'
  have hp := fp'
  refine ⟨20, rfl, by decide, by decide, ?_⟩
  have lpos : 0 < path.length := (List.getElem?_eq_some_iff.mp hp0).1
  refine for_range (lo := 0) (n := 20) (fun t σ' H' => Ex H H' ∧ LsAt H' p ((path.take (t + 1)).map Step.d) ∧ ∃ o1 o2 o3, σ' = [some (.ref a), some (.int key), some (.ref p), o1, o2, o3, none]) ?_ ?_ ?_
  · refine ⟨e1.put0 fp, ⟨[v], upd_same, ?_⟩, none, none, none, rfl⟩
    rw [map_take _ hp0, List.take_zero]
    exact .cons (d1.x (Ex.new hp)) .nil
  · rintro t σ' H2 ht ⟨e2, hL, o1, o2, o3, rfl⟩
    show (fun σ3 H3 => _) [some (V.ref a), some (.int key), some (.ref p), some (.int (0 + (t : Int))), o2, o3, none] H2
    rw [show (0 : Int) + (t : Int) = (t : Int) by omega]
    -- the last
    obtain ⟨j, s, hs, hj, hlast, hcase⟩ : ∃ (j : Nat) (s : Step), path[j]? = some s ∧ j ≤ t ∧ (∃ fs, (path.take (t + 1)).map Step.d = fs ++ [s.d]) ∧ (path[j + 1]?.isSome = true → j = t) := by
      by_cases c : t < path.length
      · have hs : path[t]? = some path[t] := List.getElem?_eq_getElem c
        exact ⟨t, _, hs, Nat.le_refl _, ⟨_, map_take _ hs⟩, fun _ => rfl⟩
      · have hs : path[path.length - 1]? = some (path[path.length - 1]'(by omega)) := List.getElem?_eq_getElem (by omega)
        refine ⟨path.length - 1, _, hs, by omega, ⟨(path.take (path.length - 1)).map Step.d, ?_⟩, fun z => ?_⟩
        · rw [← map_take _ hs, show path.length - 1 + 1 = path.length by omega, List.take_length, List.take_of_length_le (by omega)]
        · rw [List.getElem?_eq_none (by omega)] at z
          cases z
    obtain ⟨fs, hfs⟩ := hlast
    have hL' := hL
    rw [hfs] at hL'
    refine cs_set (i := 4) (ev_rcd (s := s) (ev_last (i := 2) rfl hL')) fun rv H3 e3 d3 => ?_
    have tt : EVT [some (.ref a), some (.int key), some (.ref p), some (.int (t : Int)), some rv, o3, none] H3 (tTest (tOp rEq (tOp (rIxT K) (tVar 4) (tC (.int 0))) (tC (.str "inner")))) (decide (s.rcd.tag = "inner")) := evt_test (ev_op (ev_tag (ev_var (i := 4) rfl d3)) ev_str rd_eqS)
    rcases hw.next j s hs with ⟨lv, lo, hi, ks, ps, q, ad, r, hsr, hz, hq, hpg, hnx⟩ | ⟨hn, hnx⟩
    · have jt : j = t := hcase (by rw [hnx]; rfl)
      subst jt
      refine cs_ifT tt (by rw [hsr]; exact decide_eq_true rfl) fun H4 e4 => ?_
      rw [hsr] at d3
      have d4 := d3.x e4
      have ok4 : EnvOk H4 [some (.ref a), some (.int key), some (.ref p), some (.int (j : Int)), some rv, o3, none] [none, some (.int key), none, none, some (Rec.inner lv lo hi ks ps).d, none, none] := ((((((envOk_nil.consN).consN).cons d4).consN).consN).cons (.int key)).consN
      have cnt := ev_ee (ee_cnt (K := K) (i := 6) (fun x => decide (x ≤ key)) (ns := ks) (ee_op (ee_var (i := 4) rfl) (ee_int (i := 4)) (rd_ix (K := K) rfl)) (by omega) (fun n _ => et_test (ee_op (ee_var (i := 6) rfl) (ee_var (i := 1) rfl) (rd_B (f := fun i j => decide (i ≤ j))))) (fun n _ => ee_var (i := 6) rfl)) ok4
      refine cs_set (i := 5) (ev_op (ev_op (ev_var (i := 4) rfl d4) (ev_int (i := 5)) (rd_ix (d := tI ps) rfl)) cnt (rd_ix (at_ix rfl hq))) fun qv H5 e5 d5 => ?_
      cases d5
      have e25 := (e2.trans e3).trans (e4.trans e5)
      have ent : EV [some (.ref a), some (.int key), some (.ref p), some (.int (j : Int)), some rv, some (.int q), none] H5 (tTup (tCons (tVar 5) (tCons (tOp (rIxT K) (tDGet (tVar 0) (tVar 5)) (tC (.int 0))) (tCons (tOp (rIxT K) (tDGet (tVar 0) (tVar 5)) (tC (.int 1))) (tCons (tOp (rI0 fun i j => .int (i + j)) (tVar 3) (tC (.int 2))) tNil))))) (Step.mk q ad r ((j : Int) + 2)).d :=
        ev_tup (eva_cons (ev_var (i := 5) rfl (.int _)) (eva_cons (at0 rfl e25 (ev_var (i := 5) rfl (.int _)) hpg) (eva_cons (at1 rfl e25 (ev_var (i := 5) rfl (.int _)) hpg) (eva_cons (ev_op (ev_var (i := 3) rfl (.int _)) ev_int rd_I) eva_nil))))
      obtain ⟨ys, hy, hdy⟩ := ((hL.x e3).x e4).x e5
      refine cs_app (i := 2) rfl hy ?_ ent fun u H6 e6 d6 => ?_
      · have a1 := hdy.length
        have a2 := List.length_take_le' (j + 1) path
        have := hw.len
        rw [List.length_map] at a1
        omega
      · refine ⟨(e25.trans e6).put0 fp, ?_, _, _, _, rfl⟩
        rw [map_take _ hnx]
        exact lst_app (e6 _ _ hy) (hdy.x e6) d6
    · refine cs_ifF tt (by rw [decide_eq_false]; rw [hn]; exact id) fun H4 e4 => ?_
      refine ⟨(e2.trans e3).trans e4, ?_, _, _, _, rfl⟩
      have hl : path.length ≤ j + 1 := List.getElem?_eq_none_iff.mp hnx
      rw [List.take_of_length_le (by omega)] at hL
      rw [List.take_of_length_le (by omega)]
      exact (hL.x e3).x e4
  · rintro σ' H2 ⟨e2, hL, o1, o2, o3, rfl⟩
    refine ⟨_, rfl, k p H2 e2 ?_⟩
    rw [List.take_of_length_le (by have := hw.len; omega)] at hL
    exact hL
end
end Esp
set_option Elab.async false
set_option linter.all false
set_option maxRecDepth 100000
set_option maxHeartbeats 4000000
namespace Esp
open PySem PySem.Spec PyProof.Rows L2
theorem ev_real {σ : L2.St} {H : Hp} {j : Nat} {b : Addr} {F : List Int} {ty : TE} {q : Int} (hi : σ[j]? = some (some (.ref b))) (hb : H b = some (.lst (F.map V.int))) (hy : EV σ H ty (.int q)) (hq : InF F q) : EV σ H (tCall spReal [] E0 (tCons ty (tCons (tVar j) tNil))) (.int (rho F q)) := fun H1 e1 Q k =>
  hy H1 e1 _ fun v H2 e2 d2 => by
    cases d2
    exact ⟨_, hi, b, F, q, rfl, e2 _ _ (e1 _ _ hb), hq, fun H3 e3 => k _ H3 (e2.trans e3) (.int _)⟩
section
variable {P : Program} {w : World} {K : PySem.W.Frag} {mg : Str → Option Value} {base : Heap} {C : Addr}
abbrev N_placed : List Str := ["entries", "pages", "out", "page", "address", "record", "inside", "below"]
theorem sc_placed : FnScope N_placed ["entries", "pages"] (defScope s_placed) := ⟨rfl, rfl, rfl, by decide +kernel, rfl, by decide +kernel, by decide +kernel⟩
theorem ok_placed {f : Addr} {fd : FuncData} (F : FnP K "placed" "placed" s_placed f fd) (T : Bu mg) (c_real_page : Cal P w K mg base 1 "real_page" ["page", "pages"] spReal) : FnOk P w K mg base CX0 2 f fd ["entries", "pages"] spPlaced := by
  refine F.ok sc_placed (fun vs H Q E h => ?_) (fun cdv A outer s H vs Q E hr h => ?_)
  · obtain ⟨a, b, E, F, rfl, _⟩ := h
    rfl
  obtain ⟨a, b, E, F, rfl, ha, hz, hb, hE, k⟩ := h
  have nd := sc_placed.nd
  have hu := hu_of hr
  refine ⟨_, PSs.nox (pss_cons (ps_set (i := 2) nd rfl (Or.inl rfl) (pe_lst pa_nil))
    (pss_cons (ps_for PassesOwn.never rfl (pi_list (pv 0)) (pg_tup rfl (pgs_cons (pg_name (i := 3) nd rfl (Or.inl rfl)) (pgs_cons (pg_name (i := 4) nd rfl (Or.inl rfl)) (pgs_cons (pg_name (i := 5) nd rfl (Or.inl rfl)) pgs_nil))))
    (pss_cons (ps_if (pt_cmpR op_eq (pe_ix ix_tup (pv 5) pe_int (fun _ _ => rfl)) pe_str (nomark _)) (pss_cons (ps_set (i := 6) nd rfl (Or.inl rfl) (pe_callTy call_tupO (by rfl) T.tuple (by decide +kernel) (pa_cons (pe_lc (own := [("below", 7)]) (g := gName 7) (by rfl) nd (pi_tup (pe_ix ix_tup (pv 5) pe_int (fun _ _ => rfl))) (blkOk_by (own := [("below", 7)]) (N := N_placed) (sc := defScope s_placed) (by decide +kernel)) (fun _ _ _ _ _ => pg_name (i := 7) nd rfl (Or.inl rfl)) (fun _ _ _ _ _ => pts_nil) (fun _ _ _ _ _ => (pe_cl c_real_page hr (by decide) (by rfl) (pa_cons (pv 7) (pa_cons (pv 1) pa_nil))))) pa_nil)))
    (pss_one (ps_set (i := 5) nd rfl (Or.inl rfl) (pe_op op_catA (pe_slice sl_tupA (pv 5) po_none (po_some pe_int)) (pe_tup (pa_cons (pv 6) pa_nil)))))) pss_nil)
    (pss_one (ps_expr (pe_bm PySem.F.plainAttrs_list PySem.F.slot_list_append PySem.F.type_list_append mt_append (pv 2) (pa_cons (pe_tup (pa_cons (pe_cl c_real_page hr (by decide) (by rfl) (pa_cons (pv 3) (pa_cons (pv 1) pa_nil))) (pa_cons (pv 4) (pa_cons (pv 5) pa_nil)))) pa_nil))))))
    (pss_one (ps_ret (pv 2))))), ?_⟩
  refine cs_lst (i := 2) eva_nil fun p vs H1 e1 hp' dv => ?_
  cases dv
  have hp : H p = none := e1.free hp'
  have e0 : Ex H (upd H1 p (.lst [])) := e1.put0 hp
  have hp0 : (upd H1 p (.lst [])) p = some (.lst []) := upd_same
  generalize upd H1 p (.lst []) = H0 at e0 hp0
  obtain ⟨xs, hx, hd⟩ := id ha
  refine ⟨_, rfl, a, rfl, ⟨_, SqL.of (e0 _ _ hx)⟩, ?_⟩
  refine for_list (K := K) (a := a) (xs := xs) (fun i σ' H' => Ex H H' ∧ LsAt H' p (((E.take i).map (Entry.ren F)).map Entry.d) ∧ ∃ o1 o2 o3 o4, σ' = [some (.ref a), some (.ref b), some (.ref p), o1, o2, o3, o4, none]) ⟨e0, ⟨[], hp0, .nil⟩, none, none, none, none, rfl⟩ (fun i σ' H' _ h => SqL.of (h.1 _ _ hx)) ?_ ?_
  · rintro i x σ' H2 hxi ⟨e2, hL, o1, o2, o3, o4, rfl⟩
    obtain ⟨d, hd1, hd2⟩ := hd.at_ hxi
    rw [List.getElem?_map] at hd1
    obtain ⟨en, hen, rfl⟩ := Option.map_eq_some_iff.mp hd1
    obtain ⟨hq, hl100, hpgs⟩ := hE en (List.mem_of_getElem? hen)
    have hd2' := hd2.x e2
    cases hd2' with
    | @tup t tv _ ht hts =>
    cases hts with
    | @cons v1 _ _ _ dv1 hts =>
    cases hts with
    | @cons v2 _ _ _ dv2 hts =>
    cases hts with
    | @cons v3 _ _ _ dv3 hts =>
    cases hts
    cases dv1
    refine ⟨t, _, rfl, SqT.of ht, rfl, _, _, rfl, _, _, rfl, _, _, rfl, rfl, ?_⟩
    show (fun σ3 H3 => _) [some (V.ref a), some (.ref b), some (.ref p), some (.int en.page), some v2, some v3, o4, none] H2
    -- the last step
    have fin : ∀ {H3 : Hp} {o4 : Option V} {rv : V} {D : Ends}, Ex H2 H3 → Dn H3 rv (en.rcd.ren (rho F)).d → (∀ H4, Ex H H4 → LsAt H4 p (((E.take (i + 1)).map (Entry.ren F)).map Entry.d) → D.nx [some (V.ref a), some (.ref b), some (.ref p), some (.int en.page), some v2, some rv, o4, none] H4) →
        tDrop (tBM K "list" rAppend (tVar 2) (tCons (tTup (tCons (tCall spReal [] E0 (tCons (tVar 3) (tCons (tVar 1) tNil))) (tCons (tVar 4) (tCons (tVar 5) tNil)))) tNil)) D [some (V.ref a), some (.ref b), some (.ref p), some (.int en.page), some v2, some rv, o4, none] H3 := fun {H3 o4 rv D} e3 drv kk => by
      obtain ⟨ys, hy, hdy⟩ := hL.x e3
      refine cs_app (i := 2) rfl hy ?_ (d := (en.ren F).d) (ev_tup (σ := [some (V.ref a), some (.ref b), some (.ref p), some (.int en.page), some v2, some rv, o4, none]) (eva_cons (ev_real (j := 1) rfl ((e2.trans e3) _ _ hb) (ev_var (i := 3) rfl (.int _)) hq) (eva_cons (ev_var (i := 4) rfl (dv2.x e3)) (eva_cons (ev_var (i := 5) rfl drv) eva_nil)))) fun u H4 e4 d4 => ?_
      · have a1 := hdy.length
        have a3 := List.length_take_le' i E
        rw [List.length_map, List.length_map] at a1
        omega
      · refine kk _ (((e2.trans e3).trans e4).put0 hp) ?_
        rw [map_take _ hen, List.map_append]
        exact lst_app (e4 _ _ hy) (hdy.x e4) d4
    have tt : EVT [some (V.ref a), some (.ref b), some (.ref p), some (.int en.page), some v2, some v3, o4, none] H2 (tTest (tOp rEq (tOp (rIxT K) (tVar 5) (tC (.int 0))) (tC (.str "inner")))) (decide (en.rcd.tag = "inner")) := evt_test (ev_op (ev_tag (ev_var (i := 5) rfl dv3)) ev_str rd_eqS)
    by_cases c : en.rcd.tag = "inner"
    · refine cs_yes tt (decide_eq_true c) fun H3 e3 => ?_
      cases hrc : en.rcd with
      | leaf => rw [hrc] at c; exact absurd c leaf_inner
      | free => rw [hrc] at c; exact absurd c free_inner
      | inner lv lo hi ks ps =>
      rw [hrc] at dv3 hl100 hpgs fin
      have d3 := dv3.x e3
      -- inside
      have ins : EV [some (V.ref a), some (.ref b), some (.ref p), some (.int en.page), some v2, some v3, o4, none] H3 (tCB (rTupO K) (tCons (tLc (iTup K (tOp (rIxT K) (tVar 5) (tC (.int 5)))) (gName 7) tYes (tCall spReal [] E0 (tCons (tVar 7) (tCons (tVar 1) tNil))) [7]) tNil)) (tI (ps.map (rho F))) := fun H4 e4 Q4 k4 => by
        have five : EV [some (V.ref a), some (.ref b), some (.ref p), some (.int en.page), some v2, some v3, o4, none] H4 (tOp (rIxT K) (tVar 5) (tC (.int 5))) (tI ps) := ev_op (ev_var (i := 5) rfl (d3.x e4)) (ev_int (i := 5)) (rd_ix rfl)
        refine five H4 (Ex.refl _) _ fun pv H5 e5 d5 => ?_
        cases d5 with
        | @tup t5 tv5 _ ht5 hts5 =>
        rw [dn_ints hts5] at ht5
        refine ⟨t5, rfl, ⟨_, SqT.of ht5⟩, fun D hD => ?_⟩
        have e45 := e4.trans e5
        refine lc_tup (K := K) (a := t5) (xs := ps.map V.int) (fun i H' => Ex H5 H' ∧ H' D = some (.lst (((ps.take i).map (rho F)).map V.int))) ⟨Ex.new hD, upd_same⟩ (fun i H' _ h => SqT.of (h.1 _ _ ht5)) ?_ ?_
        · rintro i2 x2 H6 hx2 ⟨e6, hD6⟩
          rw [List.getElem?_map] at hx2
          obtain ⟨q2, hq2, rfl⟩ := Option.map_eq_some_iff.mp hx2
          show wipe ((wipe _ [7]).set 7 (some (.int q2))) [7] = wipe _ [7] ∧ _
          refine ⟨wipe1_set _ _ _, ?_⟩
          refine ev_real (j := 1) rfl ((((e2.trans e3).trans e45).trans e6) _ _ hb) (ev_var (i := 7) rfl (.int _)) (hpgs q2 (List.mem_of_getElem? hq2)) H6 (Ex.refl _) _ fun y H7 e7 d7 => ?_
          cases d7
          refine ⟨_, e7 _ _ hD6, ?_, (e6.trans e7).put0 hD, ?_⟩
          · rw [List.length_map, List.length_map]
            have := List.length_take_le' i2 ps
            have : ps.length ≤ 100 := hl100
            exact sz_lt (by omega)
          · rw [upd_same, map_take _ hq2, List.map_append]
            rfl
        · rintro H6 ⟨e6, hD6⟩
          rw [List.length_map, List.take_length] at hD6
          refine ⟨D, _, rfl, .inl ⟨SqL.of hD6, fun l hl => k4 _ _ ((e5.trans e6).add hl) (.tup upd_same (dnAll_ints _))⟩⟩
      refine cs_set (i := 6) ins fun iv H4 e4 d4 => ?_
      have d5 := d3.x e4
      have okE : EnvOk H4 [some (V.ref a), some (.ref b), some (.ref p), some (.int en.page), some v2, some v3, some iv, none] [none, none, none, none, none, some (Rec.inner lv lo hi ks ps).d, some (tI (ps.map (rho F))), none] := ((((((((envOk_nil.consN).cons d4).cons d5).consN).consN).consN).consN).consN)
      have cat := ev_ee (ee_op (ee_sl (K := K) (ee_var (i := 5) rfl) eo_none (eo_some (ee_int (i := 5)))) (ee_tup (ea_cons (ee_var (i := 6) rfl) ea_nil)) (rd_cat (K := K) (Nat.le_of_ble_eq_true rfl))) okE
      refine cs_set1 (i := 5) cat fun rv H5 e5 d6 => ?_
      refine fin ((e3.trans e4).trans e5) d6 fun H6 e6 h6 => ?_
      exact ⟨e6, h6, _, _, _, _, rfl⟩
    · refine cs_no tt (decide_eq_false c) fun H3 e3 => ?_
      have hren : en.rcd.ren (rho F) = en.rcd := by
        cases hrc : en.rcd with
        | leaf => rfl
        | free => rfl
        | inner => rw [hrc] at c; exact absurd rfl c
      refine fin e3 (by rw [hren]; exact dv3.x e3) fun H6 e6 h6 => ?_
      exact ⟨e6, h6, _, _, _, _, rfl⟩
  · rintro σ' H2 ⟨e2, hL, o1, o2, o3, o4, rfl⟩
    refine ⟨_, rfl, k p H2 e2 ?_⟩
    have := hd.length
    rw [List.length_map] at this
    rw [this, List.take_length] at hL
    exact hL
end
end Esp
set_option Elab.async false
set_option linter.all false
set_option maxRecDepth 100000
set_option maxHeartbeats 4000000
namespace Esp
open PySem PySem.Spec PyProof.Rows L2
def PlanRes.tag : PlanRes → Str
  | .ans _ => "answer"
  | .read _ => "read"
  | .change _ _ => "change"
inductive Rounds (pg : List (Int × (Int × Rec))) (c : Call) (path : List Step) : Nat → List (Int × Step) → PlanRes → Prop
  | fin {k : Nat} {sibs : List (Int × Step)} {res : PlanRes} (h : PlanR c path sibs res) (hk : k < 10) (hn : ¬ res.tag = "read") : Rounds pg c path k sibs res
  | more {k : Nat} {sibs : List (Int × Step)} {q a : Int} {r : Rec} {res : PlanRes} (h : PlanR c path sibs (.read q)) (hk : k < 10) (hp : alook pg q = some (a, r)) (m : Rounds pg c path (k + 1) (aput sibs q ⟨q, a, r, 40 + (k : Int)⟩) res) : Rounds pg c path k sibs res
theorem Rounds.lt {pg : List (Int × (Int × Rec))} {c : Call} {path : List Step} {k : Nat} {sibs : List (Int × Step)} {res : PlanRes} (h : Rounds pg c path k sibs res) : k < 10 := by
  cases h <;> assumption
theorem PlanAt.x {H H' : Hp} {v : V} {res : PlanRes} (h : PlanAt H v res) (e : Ex H H') : PlanAt H' v res := by
  cases res with
  | ans d => exact Dn.x h e
  | read q => exact Dn.x h e
  | change d st =>
    obtain ⟨E, a, av, l, h1, h2, h3, h4, h5⟩ := h
    exact ⟨E, a, av, l, h1, e _ _ h2, h3.x e, h4.x e, h5⟩
theorem PlanAt.tup {H : Hp} {v : V} {res : PlanRes} (h : PlanAt H v res) : ∃ a rest, v = .ref a ∧ H a = some (.tup (.str res.tag :: rest)) := by
  cases res with
  | ans d =>
    have h' : Dn H v (.tuple [.str "answer", d]) := h
    cases h' with
    | tup h1 h2 =>
      cases h2 with
      | cons h2 h3 =>
        cases h2
        exact ⟨_, _, rfl, h1⟩
  | read d =>
    have h' : Dn H v (.tuple [.str "read", .int d]) := h
    cases h' with
    | tup h1 h2 =>
      cases h2 with
      | cons h2 h3 =>
        cases h2
        exact ⟨_, _, rfl, h1⟩
  | change d st =>
    obtain ⟨E, a, av, l, h1, h2, h3, h4, h5⟩ := h
    exact ⟨_, _, h1, h2⟩
theorem ev_ptag {K : PySem.W.Frag} {σ : L2.St} {H : Hp} {i : Nat} {v : V} {res : PlanRes} (hi : σ[i]? = some (some v)) (h : PlanAt H v res) : EV σ H (tOp (rIxT K) (tVar i) (tC (.int 0))) (.str res.tag) := fun H1 e1 Q k => by
  obtain ⟨a, rest, rfl, h2⟩ := (h.x e1).tup
  exact ⟨_, hi, a, _, 0, .str res.tag, rfl, rfl, SqT.of h2, atI_nat (j := 0) rfl, k _ H1 (Ex.refl _) (.str _)⟩
def spPlanned : Sp := fun vs H Q _ => ∃ (a : Addr) (pg : List (Int × (Int × Rec))) (c : Call) (cv : V) (path : List Step) (res : PlanRes), vs = [.ref a, cv] ∧ DkT pgd H a pg ∧ Dn H cv c.d ∧ WalkR pg c.key path ∧ Rounds pg c path 0 [] res ∧ ∀ v H', Ex H H' → PlanAt H' v res → Q v H'
def applyE (m : Int) (pg : List (Int × (Int × Rec))) : List Entry → List (Int × (Int × Rec))
  | [] => pg
  | e :: es => applyE (m + 1) (aput pg e.page (m + 1, e.rcd)) es
theorem applyE_snoc (e : Entry) : ∀ (l : List Entry) (m : Int) (pg : List (Int × (Int × Rec))), applyE m pg (l ++ [e]) = aput (applyE m pg l) e.page (m + l.length + 1, e.rcd)
  | [], m, pg => by show aput pg _ _ = aput pg _ _; rw [show m + (([] : List Entry).length : Int) + 1 = m + 1 by simp]
  | f :: l, m, pg => by
    show applyE (m + 1) _ (l ++ [e]) = aput (applyE (m + 1) _ l) _ _
    rw [applyE_snoc e l, show m + 1 + (l.length : Int) + 1 = m + (((f :: l).length : Nat) : Int) + 1 by rw [List.length_cons]; omega]
theorem applyE_len : ∀ (l : List Entry) (m : Int) (pg : List (Int × (Int × Rec))), (applyE m pg l).length ≤ pg.length + l.length
  | [], m, pg => Nat.le_refl _
  | f :: l, m, pg => by
    have h1 := applyE_len l (m + 1) (aput pg f.page (m + 1, f.rcd))
    have h2 := aput_len pg f.page (m + 1, f.rcd)
    show (applyE (m + 1) _ l).length ≤ _
    rw [List.length_cons]
    omega
def AppOk (pg : List (Int × (Int × Rec))) (E : List Entry) : Prop := (∀ e ∈ E, 0 ≤ e.page → ∃ ad r, alook pg e.page = some (ad, r) ∧ e.addr = some ad) ∧ (∀ e ∈ E, EntryOk (frees pg (newsN E)) e) ∧ 0 < pg.length ∧ pg.length ≤ 9000 ∧ E.length ≤ 9000
def spApplied : Sp := fun vs H Q _ => ∃ (a e : Addr) (pg : List (Int × (Int × Rec))) (E : List Entry), vs = [.ref a, .ref e] ∧ DkT pgd H a pg ∧ LsAt H e (E.map Entry.d) ∧ AppOk pg E ∧ ∀ p m H', Ex H H' → H p = none → DkT pgd H' p (applyE m pg (E.map (Entry.ren (frees pg (newsN E))))) → Q (.ref p) H'
section
variable {P : Program} {w : World} {K : PySem.W.Frag} {mg : Str → Option Value} {base : Heap} {C : Addr}
abbrev N_law_planned : List Str := ["_law_pages", "_law_call_here", "_law_path", "_law_siblings", "_law_k", "_law_told", "_law_page"]
theorem sc_law_planned : FnScope N_law_planned ["_law_pages", "_law_call_here"] (defScope s_law_planned) := ⟨rfl, rfl, rfl, by decide +kernel, rfl, by decide +kernel, by decide +kernel⟩
theorem ok_law_planned {f : Addr} {fd : FuncData} (F : FnP K "_law_planned" "_law_planned" s_law_planned f fd) (T : Bu mg) (c_law_walk : Cal P w K mg base 1 "_law_walk" ["_law_pages", "_law_key"] spWalk) (c_plan : Cal P w K mg base 12 "plan" ["call", "path", "siblings"] spPlan) : FnOk P w K mg base CX0 13 f fd ["_law_pages", "_law_call_here"] spPlanned := by
  refine F.ok sc_law_planned (fun vs H Q E h => ?_) (fun cdv A outer s H vs Q E hr h => ?_)
  · obtain ⟨a, pg, c, cv, path, res, rfl, _⟩ := h
    rfl
  obtain ⟨a, pg, c, cv, path, res, rfl, ha, dc, hw, hR, k⟩ := h
  have nd := sc_law_planned.nd
  have hu := hu_of hr
  refine ⟨_, PSs.nox (pss_cons (ps_set (i := 2) nd rfl (Or.inl rfl) (pe_cl c_law_walk hr (by decide) (by rfl) (pa_cons (pv 0) (pa_cons (pe_ix ix_tup (pv 1) pe_int (fun _ _ => rfl)) pa_nil))))
    (pss_cons (ps_set (i := 3) nd rfl (Or.inl rfl) pe_dnewK)
    (pss_cons (ps_for PassesOwn.never rfl (pi_range1 (by rfl) T.range (pa_cons pe_int pa_nil)) (pg_name (i := 4) nd rfl (Or.inl rfl))
    (pss_cons (ps_set (i := 5) nd rfl (Or.inl rfl) (pe_cl c_plan hr (by decide) (by rfl) (pa_cons (pv 1) (pa_cons (pe_callTy call_list_of (by rfl) T.list (by decide +kernel) (pa_cons (pv 2) pa_nil)) (pa_cons (pe_callTy call_dictD (by rfl) T.dict (by decide +kernel) (pa_cons (pv 3) pa_nil)) pa_nil)))))
    (pss_cons (ps_if (pt_cmpR op_ne (pe_ix ix_tup (pv 5) pe_int (fun _ _ => rfl)) pe_str (nomark _)) (pss_one (ps_ret (pv 5))) pss_nil)
    (pss_cons (ps_set (i := 6) nd rfl (Or.inl rfl) (pe_ix ix_tup (pv 5) pe_int (fun _ _ => rfl)))
    (pss_one (ps_dput (by exact hu) (pv 3) (pv 6) (pe_tup (pa_cons (pv 6) (pa_cons (pe_ix ix_tup (pe_dget (by exact hu) (pv 0) (pv 6) (fun _ _ => rfl)) pe_int (fun _ _ => rfl)) (pa_cons (pe_ix ix_tup (pe_dget (by exact hu) (pv 0) (pv 6) (fun _ _ => rfl)) pe_int (fun _ _ => rfl)) (pa_cons (pe_op op_add pe_int (pv 4)) pa_nil))))) rfl))))))
    (pss_one (ps_ret (pv 5)))))), ?_⟩
  have ckey : EV [some (V.ref a), some cv, none, none, none, none, none] H (tOp (rIxT K) (tVar 1) (tC (.int 1))) (.int c.key) := by
    cases c <;> exact ev_op (ev_var (i := 1) rfl dc) (ev_int (i := 1)) (rd_ix rfl)
  refine ⟨_, rfl, ckey H (Ex.refl _) _ fun kv H1 e1 d1 => ?_⟩
  cases d1
  refine ⟨a, pg, c.key, path, rfl, ha.x e1, hw, fun pa H2 e2 hpa => ?_⟩
  intro sa hsa
  have e02 := e1.trans e2
  have e3 : Ex H2 (upd H2 sa (.dK [])) := Ex.new hsa
  have fs : H sa = none := e02.free hsa
  refine ⟨10, rfl, by decide, by decide, ?_⟩
  refine for_range (lo := 0) (n := 10) (fun t σ' H' => Ex H H' ∧ LsAt H' pa (path.map Step.d) ∧ sa ≠ pa ∧ ∃ sibs o1 o2 o3, DkT Step.d H' sa sibs ∧ sibs.length ≤ t ∧ Rounds pg c path t sibs res ∧ σ' = [some (.ref a), some cv, some (.ref pa), some (.ref sa), o1, o2, o3]) ?_ ?_ ?_
  · refine ⟨e02.trans e3, hpa.x e3, ?_, [], none, none, none, ⟨[], upd_same, .nil⟩, Nat.le_refl _, hR, rfl⟩
    obtain ⟨xs, hx, _⟩ := hpa
    exact (ne_of_none hx hsa).symm
  · rintro t σ' H3 ht ⟨e3, hpa3, hne, sibs, o1, o2, o3, hsb, hsl, hR3, rfl⟩
    show (fun σ3 H3 => _) [some (V.ref a), some cv, some (.ref pa), some (.ref sa), some (.int (0 + (t : Int))), o2, o3] H3
    rw [show (0 : Int) + (t : Int) = (t : Int) by omega]
    obtain ⟨xs, hx, hxd⟩ := id hpa3
    obtain ⟨kvs, hk1, hk2⟩ := id hsb
    -- told = plan(..)
    have told : ∀ {rs : PlanRes} {rest : TS} {D : Ends}, PlanR c path sibs rs → (∀ v H4, Ex H3 H4 → PlanAt H4 v rs → rest D [some (V.ref a), some cv, some (.ref pa), some (.ref sa), some (.int (t : Int)), some v, o3] H4) →
        tSeq (tAsg (tCall spPlan [] E0 (tCons (tVar 1) (tCons (tCB (fun xs H Q => ∃ p ys, xs = [.ref p] ∧ (SqL K H p ys ∨ SqT K H p ys) ∧ ∀ l, H l = none → Q (.ref l) (upd H l (.lst ys))) (tCons (tVar 2) tNil)) (tCons (tCB (fun xs H Q => ∃ (a : Addr) (kvs : List (Key × V)), xs = [.ref a] ∧ Rd H a (.dK kvs) ∧ ∀ p, H p = none → Q (.ref p) (upd H p (.dK kvs))) (tCons (tVar 3) tNil)) tNil)))) (gName 5)) rest D [some (V.ref a), some cv, some (.ref pa), some (.ref sa), some (.int (t : Int)), o2, o3] H3 := fun {rs rest D} hP kk => by
      refine ⟨cv, rfl, _, rfl, pa, xs, rfl, .inl (SqL.of hx), fun l hl => ?_⟩
      have e4 : Ex H3 (upd H3 l (.lst xs)) := Ex.new hl
      have hl4 : LsAt (upd H3 l (.lst xs)) l (path.map Step.d) := ⟨xs, upd_same, hxd.x e4⟩
      refine ⟨_, rfl, sa, kvs, rfl, .inl (e4 _ _ hk1), fun l2 hl2 => ?_⟩
      have e5 := Ex.new (o := .dK kvs) hl2
      have hd5 : DkT Step.d (upd (upd H3 l (.lst xs)) l2 (.dK kvs)) l2 sibs := ⟨kvs, upd_same, hk2.t (e4.trans e5).t⟩
      refine ⟨c, path, sibs, cv, l, l2, rs, rfl, dc.x (e3.trans (e4.trans e5)), hl4.x e5, hd5, by have := hw.len; omega, hP, fun v H4 e6 hv => ?_⟩
      exact kk v H4 ((e4.trans e5).trans e6) hv
    cases hR3 with
    | fin hP hk hn =>
      refine told hP fun v H4 e4 hv => ?_
      refine cs_yes (evt_test (ev_op (ev_ptag (i := 5) rfl hv) ev_str rd_neS)) (by rw [decide_eq_false hn]; rfl) fun H5 e5 => ?_
      exact ⟨v, rfl, k v H5 ((e3.trans e4).trans e5) (hv.x e5)⟩
    | @more _ _ q ad r _ hP hk hpg m =>
      refine told hP fun v H4 e4 hv => ?_
      refine cs_no (evt_test (ev_op (ev_ptag (i := 5) rfl hv) ev_str rd_neS)) rfl fun H5 e5 => ?_
      have dv : Dn H5 v (.tuple [.str "read", .int q]) := hv.x e5
      refine cs_set (i := 6) (ev_op (ev_var (i := 5) rfl dv) (ev_int (i := 1)) (rd_ix (d := .int q) rfl)) fun qv H6 e6 d6 => ?_
      cases d6
      have e36 := (e4.trans e5).trans e6
      have dg := ev_dget (f := pgd) (σ := [some (V.ref a), some cv, some (.ref pa), some (.ref sa), some (.int (t : Int)), some v, some (.int q)]) (i := 0) rfl (ha.x (e3.trans e36)) (ev_var (i := 6) rfl (.int q)) hpg
      refine cs_dput (f := Step.d) (x := ⟨q, ad, r, 40 + (t : Int)⟩) (i := 3) rfl (hsb.x e36) (ev_tup (eva_cons (ev_var (i := 6) rfl (.int q)) (eva_cons (ev_op dg (ev_int (i := 0)) (rd_ix rfl)) (eva_cons (ev_op dg (ev_int (i := 1)) (rd_ix rfl)) (eva_cons (ev_op ev_int (ev_var (i := 4) rfl (.int _)) rd_I) eva_nil))))) (ev_var (i := 6) rfl (.int q)) (by omega) fun H7 o kv e7 hk7 hd7 => ?_
      refine ⟨((e3.trans e36).trans e7).put0 fs, ?_, hne, aput sibs q ⟨q, ad, r, 40 + (t : Int)⟩, _, _, _, hd7, ?_, m, rfl⟩
      · obtain ⟨zs, hz, hzd⟩ := hpa3.x (e36.trans e7)
        exact ⟨zs, by rw [upd_ne hne.symm]; exact hz, hzd.t (ExT.dput hk7)⟩
      · have := aput_len sibs q (⟨q, ad, r, 40 + (t : Int)⟩ : Step)
        omega
  · rintro σ' H3 ⟨e3, hpa3, hne, sibs, o1, o2, o3, hsb, hsl, hR3, rfl⟩
    exact absurd hR3.lt (by decide)
abbrev N_law_applied : List Str := ["_law_pages", "_law_entries", "_law_after", "_law_most", "_law_page", "_law_address", "_law_record"]
theorem sc_law_applied : FnScope N_law_applied ["_law_pages", "_law_entries"] (defScope s_law_applied) := ⟨rfl, rfl, rfl, by decide +kernel, rfl, by decide +kernel, by decide +kernel⟩
theorem ok_law_applied {f : Addr} {fd : FuncData} (F : FnP K "_law_applied" "_law_applied" s_law_applied f fd) (T : Bu mg) (c_placed : Cal P w K mg base 2 "placed" ["entries", "pages"] spPlaced) (c_law_free : Cal P w K mg base 1 "_law_free" ["_law_pages", "_law_many_here"] spFree) (c_new_pages : Cal P w K mg base 1 "new_pages" ["entries"] spNew) : FnOk P w K mg base CX0 3 f fd ["_law_pages", "_law_entries"] spApplied := by
  refine F.ok sc_law_applied (fun vs H Q E h => ?_) (fun cdv A outer s H vs Q E hr h => ?_)
  · obtain ⟨a, e, pg, E, rfl, _⟩ := h
    rfl
  obtain ⟨a, e, pg, E, rfl, ha, he, ⟨hE, hF, hpos, hz1, hz2⟩, k⟩ := h
  have nd := sc_law_applied.nd
  have hu := hu_of hr
  refine ⟨_, PSs.nox (pss_cons (ps_for PassesOwn.never rfl (pi_list (pv 1)) (pg_tup rfl (pgs_cons (pg_name (i := 4) nd rfl (Or.inl rfl)) (pgs_cons (pg_name (i := 5) nd rfl (Or.inl rfl)) (pgs_cons (pg_name (i := 6) nd rfl (Or.inl rfl)) pgs_nil))))
    (pss_one (ps_if (PW.pt (pw_and (pt_cmpR op_ge (pv 4) pe_int (nomark _)) (pw_and1 (PW.pt (pw_or (pt_cmp (pc_dnotin (by exact hu) (pv 4) (pv 0))) (pw_or1 (pt_cmpR op_ne (pe_ix ix_tup (pe_dget (by exact hu) (pv 0) (pv 4) (fun _ _ => rfl)) pe_int (fun _ _ => rfl)) (pv 5) (nomark _)))))))) (pss_one (ps_ret pe_non)) pss_nil)))
    (pss_cons (ps_set (i := 2) nd rfl (Or.inr rfl) (pe_callTy call_dictD (by rfl) T.dict (by decide +kernel) (pa_cons (pv 0) pa_nil)))
    (pss_cons (ps_set (i := 3) nd rfl (Or.inl rfl) (pe_callB (cr_max rfl) (by rfl) T.max (by decide +kernel) (pa_cons (pe_lock (pe_lc (own := [("_law_page", 4)]) (g := gName 4) (by rfl) nd (pi_keys (pv 2)) (blkOk_by (own := [("_law_page", 4)]) (N := N_law_applied) (sc := defScope s_law_applied) (by decide +kernel)) (fun _ _ _ _ _ => pg_name (i := 4) nd rfl (Or.inl rfl)) (fun _ _ _ _ _ => pts_nil) (fun _ _ _ _ _ => (pe_ix (ix_tupK (K := K)) (pe_dget (by exact hu) (pv 2) (pv 4) (fun _ _ => rfl)) pe_int (fun _ _ => rfl))))) pa_nil)))
    (pss_cons (ps_for PassesOwn.never rfl (pi_list (pe_cl c_placed hr (by decide) (by rfl) (pa_cons (pv 1) (pa_cons (pe_cl c_law_free hr (by decide) (by rfl) (pa_cons (pv 0) (pa_cons (pe_cl c_new_pages hr (by decide) (by rfl) (pa_cons (pv 1) pa_nil)) pa_nil))) pa_nil)))) (pg_tup rfl (pgs_cons (pg_name (i := 4) nd rfl (Or.inl rfl)) (pgs_cons (pg_name (i := 5) nd rfl (Or.inl rfl)) (pgs_cons (pg_name (i := 6) nd rfl (Or.inl rfl)) pgs_nil))))
    (pss_cons (ps_set (i := 3) nd rfl (Or.inl rfl) (pe_op op_add (pv 3) pe_int))
    (pss_one (ps_dput (by exact hu) (pv 2) (pv 4) (pe_tup (pa_cons (pv 3) (pa_cons (pv 6) pa_nil))) rfl))))
    (pss_one (ps_ret (pv 2))))))), ?_⟩
  obtain ⟨xs, hx, hd⟩ := id he
  obtain ⟨kvs, hk1, hk2⟩ := id ha
  refine ⟨_, rfl, e, rfl, ⟨_, SqL.of hx⟩, ?_⟩
  refine for_list (K := K) (a := e) (xs := xs) (fun i σ' H' => Ex H H' ∧ ∃ o4 o5 o6, σ' = [some (.ref a), some (.ref e), none, none, o4, o5, o6]) ⟨Ex.refl _, none, none, none, rfl⟩ (fun i σ' H' _ h => SqL.of (h.1 _ _ hx)) ?_ ?_
  · rintro i x σ' H2 hxi ⟨e2, o4, o5, o6, rfl⟩
    obtain ⟨d, hd1, hd2⟩ := hd.at_ hxi
    rw [List.getElem?_map] at hd1
    obtain ⟨en, hen, rfl⟩ := Option.map_eq_some_iff.mp hd1
    have hd2' := hd2.x e2
    cases hd2' with
    | @tup t tv _ ht hts =>
    cases hts with
    | @cons v1 _ _ _ dv1 hts =>
    cases hts with
    | @cons v2 _ _ _ dv2 hts =>
    cases hts with
    | @cons v3 _ _ _ dv3 hts =>
    cases hts
    cases dv1
    refine ⟨t, _, rfl, SqT.of ht, rfl, _, _, rfl, _, _, rfl, _, _, rfl, rfl, ?_⟩
    show (fun σ3 H3 => _) [some (V.ref a), some (.ref e), none, none, some (.int en.page), some v2, some v3] H2
    refine cs_ifF (b := false) ?_ rfl fun H3 e3 => ⟨e2.trans e3, _, _, _, rfl⟩
    have t1 := evt_test (ev_op (ev_var (σ := [some (V.ref a), some (.ref e), none, none, some (.int en.page), some v2, some v3]) (H := H2) (i := 4) rfl (.int en.page)) (ev_int (i := 0)) (rd_B (f := fun i j => decide (i ≥ j))))
    by_cases c : 0 ≤ en.page
    · obtain ⟨ad, r, h1, h2⟩ := hE en (List.mem_of_getElem? hen) c
      rw [h2] at dv2
      have dg := ev_dget (f := pgd) (σ := [some (V.ref a), some (.ref e), none, none, some (.int en.page), some v2, some v3]) (i := 0) rfl (ha.x e2) (ev_var (i := 4) rfl (.int _)) h1
      have t2 := evt_test (ev_dnotin (σ := [some (V.ref a), some (.ref e), none, none, some (.int en.page), some v2, some v3]) (i := 0) rfl (ha.x e2) (ev_var (i := 4) rfl (.int en.page)))
      rw [h1] at t2
      have t3 := evt_test (ev_op (ev_op dg (ev_int (i := 0)) (rd_ix (K := K) (d := .int ad) rfl)) (ev_var (i := 5) rfl dv2) (rd_neI (i := ad) (j := ad)))
      intro H4 e4 Q4 k4
      refine t1 H4 e4 _ fun H5 e5 => ?_
      rw [show decide (en.page ≥ 0) = true from decide_eq_true c]
      refine t2 H5 (e4.trans e5) _ fun H6 e6 => ?_
      refine t3 H6 ((e4.trans e5).trans e6) _ fun H7 e7 => ?_
      rw [decide_eq_true (rfl : ad = ad)]
      exact k4 H7 ((e5.trans e6).trans e7)
    · intro H4 e4 Q4 k4
      refine t1 H4 e4 _ fun H5 e5 => ?_
      rw [show decide (en.page ≥ 0) = false from decide_eq_false c]
      exact k4 H5 e5
  · rintro σ' H2 ⟨e2, o4, o5, o6, rfl⟩
    refine ⟨_, rfl, a, kvs, rfl, .inl (e2 _ _ hk1), fun p hp => ?_⟩
    generalize hH3 : upd H2 p (.dK kvs) = H3
    have e3 : Ex H H3 := by rw [← hH3]; exact e2.add hp
    have fp : H p = none := e2.free hp
    have hp3 : H3 p = some (.dK kvs) := by rw [← hH3, upd_same]
    have hk3 : KvD H3 kvs (pg.map fun x => (x.1, pgd x.2)) := hk2.t e3.t
    have hkeys : (pg.map fun x => (x.1, pgd x.2)).map (·.1) = pg.map (·.1) := by rw [List.map_map]; rfl
    have hlen : kvs.length = pg.length := by rw [hk3.length, List.length_map]
    -- most
    refine ⟨p, _, hp3, trivial, fun od => ?_⟩
    generalize hHl : upd H3 p (.frz od (.dK kvs)) = Hl
    have l1 : ∀ b o, H3 b = some o → b ≠ p → Hl b = some o := fun b o h hb => by rw [← hHl, upd_ne hb]; exact h
    have l2 : Hl p = some (.frz od (.dK kvs)) := by rw [← hHl, upd_same]
    have hkl : KvD Hl kvs (pg.map fun x => (x.1, pgd x.2)) := hk3.t (by rw [← hHl]; exact ExT.dput hp3)
    refine ⟨_, rfl, p, od, rfl, .inl ⟨kvs, l2, ?_⟩⟩
    intro D hD
    refine lc_it walk_keys (fun i H' => Ex Hl H' ∧ ∃ ns : List Int, ns.length = i ∧ H' D = some (.lst (ns.map V.int))) ⟨Ex.new hD, [], rfl, upd_same⟩ (fun i H' _ p => p.1 _ _ l2) ?_ ?_
    · rintro i x H4 H5 hi ⟨e4, ns, hns, hD4⟩ ⟨rfl, kk, v, hkk, rfl⟩
      obtain ⟨q, hq, rfl⟩ := hkl.key hkk
      rw [hkeys] at hq
      show wipe ((wipe _ [4]).set 4 (some (.int q))) [4] = wipe _ [4] ∧ _
      refine ⟨wipe1_set _ _ _, ?_⟩
      have hq2 : ∃ x, alook pg q = some x := by
        cases hc : alook pg q with
        | some r => exact ⟨r, rfl⟩
        | none => exact absurd (List.mem_of_getElem? hq) (alook_none.mp hc)
      obtain ⟨⟨ad, r⟩, hq2⟩ := hq2
      obtain ⟨u, hu1, hu2⟩ := (hkl.t e4.t).look_some (k := q) (d := pgd (ad, r)) (by rw [alook_mapV, hq2]; rfl)
      cases hu2 with
      | @tup t tv _ ht hts =>
      cases hts with
      | @cons v1 _ _ _ dv1 hts =>
      cases dv1
      refine ⟨_, rfl, _, rfl, p, _, rfl, .inl ⟨kvs, Sum.inl q, .inr ⟨od, e4 _ _ l2⟩, rfl, hu1.symm⟩, t, _, 0, .int ad, rfl, rfl, SqT.of ht, atI_nat (j := 0) rfl, ?_⟩
      refine ⟨_, hD4, ?_, e4.put0 hD, ns ++ [ad], by rw [List.length_append, hns]; rfl, by rw [upd_same, List.map_append]; rfl⟩
      rw [List.length_map, hns]
      exact sz_lt (by omega)
    · rintro H4 ⟨e4, ns, hns, hD4⟩
      refine ⟨e4 _ _ l2, ?_⟩
      generalize hH5 : upd H4 p (.dK kvs) = H5
      have nDp : D ≠ p := (ne_of_none l2 hD).symm
      have e5 : Ex H3 H5 := fun b o h => by
        rw [← hH5]
        by_cases hb : b = p
        · rw [hb] at h ⊢
          rw [upd_same, ← hp3, h]
        · rw [upd_ne hb]
          exact e4 _ _ (l1 b o h hb)
      have hD5 : H5 D = some (.lst (ns.map V.int)) := by rw [← hH5, upd_ne nDp]; exact hD4
      refine ⟨D, ns, rfl, SqL.of hD5, by omega, fun m hm hmax => ?_⟩
      have e05 := e3.trans e5
      -- placed(..)
      have news : ∀ H6, Ex H5 H6 → True := fun _ _ => trivial
      refine ⟨_, rfl, _, rfl, _, rfl, e, E, rfl, he.x e05, hz2, fun H6 e6 => ?_⟩
      refine ⟨a, pg, newsN E, rfl, ha.x (e05.trans e6), fun pf H7 e7 hpf => ?_⟩
      have e07 := (e05.trans e6).trans e7
      refine ⟨e, pf, E, frees pg (newsN E), rfl, he.x e07, hz2, hpf, hF, fun pl H8 e8 hpl => ?_⟩
      have e08 := e07.trans e8
      generalize hEr : E.map (Entry.ren (frees pg (newsN E))) = Er at hpl k
      have hErl : Er.length = E.length := by rw [← hEr, List.length_map]
      obtain ⟨ys, hy, hyd⟩ := id hpl
      have hyl : ys.length = Er.length := by rw [hyd.length, List.length_map]
      refine ⟨pl, rfl, ⟨ys, SqL.of hy⟩, ?_⟩
      have hp8 : DkT pgd H8 p pg := ⟨kvs, (e5.trans ((e6.trans e7).trans e8)) _ _ hp3, hk3.t (e5.trans ((e6.trans e7).trans e8)).t⟩
      have npl : pl ≠ p := ne_of hy hp8.is.choose_spec (by intro z; cases z)
      refine for_list (K := K) (a := pl) (xs := ys) (fun i σ' H' => Ex H H' ∧ LsAt H' pl (Er.map Entry.d) ∧ H' pl = some (.lst ys) ∧ DkT pgd H' p (applyE m pg (Er.take i)) ∧ ∃ o4 o5 o6, σ' = [some (.ref a), some (.ref e), some (.ref p), some (.int (m + (i : Int))), o4, o5, o6]) ⟨e08, hpl, hy, hp8, _, _, _, by rw [show m + ((0 : Nat) : Int) = m by omega]; rfl⟩ (fun i σ' H' _ h => SqL.of h.2.2.1) ?_ ?_
      · rintro i x σ' H9 hxi ⟨e9, hL, hyy, hdp, o4, o5, o6, rfl⟩
        obtain ⟨zs, hzs, hzd⟩ := hL
        rw [hyy] at hzs
        cases hzs
        obtain ⟨d, hd1, hd2⟩ := hzd.at_ hxi
        rw [List.getElem?_map] at hd1
        obtain ⟨en, hen, rfl⟩ := Option.map_eq_some_iff.mp hd1
        cases hd2 with
        | @tup t tv _ ht hts =>
        cases hts with
        | @cons v1 _ _ _ dv1 hts =>
        cases hts with
        | @cons v2 _ _ _ dv2 hts =>
        cases hts with
        | @cons v3 _ _ _ dv3 hts =>
        cases hts
        cases dv1
        refine ⟨t, _, rfl, SqT.of ht, rfl, _, _, rfl, _, _, rfl, _, _, rfl, rfl, ?_⟩
        show (fun σ3 H3 => _) [some (V.ref a), some (.ref e), some (.ref p), some (.int (m + (i : Int))), some (.int en.page), some v2, some v3] H9
        refine cs_set (i := 3) (ev_op (ev_var (i := 3) rfl (.int _)) (ev_int (i := 1)) (rd_I (f := fun i j => i + j))) fun mv H10 e10 d10 => ?_
        cases d10
        have hl9 : (applyE m pg (Er.take i)).length < 100000 := by
          have h1 := applyE_len (Er.take i) m pg
          have h2 := List.length_take_le' i Er
          omega
        refine cs_dput (f := pgd) (x := (m + (i : Int) + 1, en.rcd)) (i := 2) rfl (hdp.x e10) (ev_tup (eva_cons (ev_var (i := 3) rfl (.int _)) (eva_cons (ev_var (i := 6) rfl (dv3.x e10)) eva_nil))) (ev_var (i := 4) rfl (.int en.page)) hl9 fun H11 o kv e11 hk11 hd11 => ?_
        have e911 := e10.trans e11
        have et := ExT.dput (o := o) hk11
        refine ⟨(e9.trans e911).put0 fp, ⟨ys, by rw [upd_ne npl]; exact e911 _ _ hyy, (hzd.x e911).t et⟩, by rw [upd_ne npl]; exact e911 _ _ hyy, ?_, some (.int en.page), some v2, some v3, ?_⟩
        · have htk : Er.take (i + 1) = Er.take i ++ [en] := by
            have := map_take (fun x : Entry => x) hen
            rwa [List.map_id', List.map_id'] at this
          have hil : (Er.take i).length = i := by
            obtain ⟨hi, _⟩ := List.getElem?_eq_some_iff.mp hen
            rw [List.length_take]
            omega
          rw [htk, applyE_snoc, hil]
          exact hd11
        · rw [show m + ((i + 1 : Nat) : Int) = m + (i : Int) + 1 by omega]
          rfl
      · rintro σ' H9 ⟨e9, hL, hyy, hdp, o4, o5, o6, rfl⟩
        rw [hyl, List.take_length] at hdp
        exact ⟨_, rfl, k p m H9 e9 fp hdp⟩
end
end Esp
set_option Elab.async false
set_option linter.all false
set_option maxRecDepth 100000
set_option maxHeartbeats 4000000
namespace Esp
open PySem PySem.Spec PyProof.Rows L2
theorem eqv_all : ∀ ns ms : List Int, PyData.eqvAll (ns.map PyData.int) (ms.map PyData.int) = decide (ns = ms)
  | [], [] => by simp [PyData.eqvAll]
  | [], _ :: _ => by simp [PyData.eqvAll]
  | _ :: _, [] => by simp [PyData.eqvAll]
  | a :: r, b :: t => by
    simp only [List.map_cons, PyData.eqvAll, PyData.eqv, eqv_all r t]
    by_cases h : a = b <;> by_cases h' : r = t <;> simp [h, h']
theorem eqv_lst (ns ms : List Int) : PyData.eqv (.list (ns.map PyData.int)) (.list (ms.map PyData.int)) = decide (ns = ms) := by
  simp only [PyData.eqv]
  exact eqv_all ns ms
theorem dpAll_ints {K : PySem.W.Frag} {H : Hp} : ∀ ns : List Int, DpAll K H (ns.map V.int) (ns.map PyData.int)
  | [] => .nil
  | n :: ns => .cons (.int n) (dpAll_ints ns)
theorem neL {K : PySem.W.Frag} {H : Hp} {a b : Addr} {ns ms : List Int} {Q : VK} (ha : H a = some (.lst (ns.map V.int))) (hb : H b = some (.lst (ms.map V.int))) (q : Q (.bl (!decide (ns = ms))) H) : rNeD K (.ref a) (.ref b) H Q :=
  ⟨_, _, .lst (SqL.of ha) (dpAll_ints ns), .lst (SqL.of hb) (dpAll_ints ms), PySem.W.ke_shaped_ints ns, PySem.W.ke_shaped_ints ms, by rw [eqv_lst]; exact q⟩
theorem sorted_eq {ns ms : List Int} (p : ns.Perm ms) (h1 : ns.Pairwise (· ≤ ·)) (h2 : ms.Pairwise (· ≤ ·)) : ns = ms := p.eq_of_pairwise (fun a b _ _ x y => Int.le_antisymm x y) h1 h2
theorem inV_ints (q : Int) (ns : List Int) : inV (.int q) (ns.map V.int) = decide (q ∈ ns) := by
  unfold inV
  rw [List.any_map]
  induction ns with
  | nil => rfl
  | cons n ns ih =>
    rw [List.any_cons, ih]
    have : ((fun y => eqV y (.int q)) ∘ V.int) n = decide (n = q) := by
      show (n == q) = decide (n = q)
      by_cases h : n = q
      · simp [h]
      · simp [h]
    rw [this]
    by_cases h : n = q
    · subst h; simp
    · have : ¬ q = n := fun e => h e.symm
      simp [h, this]
def putsT : List (Int × Int) → List Int → List Int → List (Int × Int)
  | T, k :: ks, v :: vs => putsT (aput T k v) ks vs
  | T, _, _ => T
theorem putsT_snoc (k v : Int) : ∀ (ks vs : List Int) (T : List (Int × Int)), ks.length = vs.length → putsT T (ks ++ [k]) (vs ++ [v]) = aput (putsT T ks vs) k v
  | [], [], T, _ => rfl
  | a :: ks, b :: vs, T, h => putsT_snoc k v ks vs (aput T a b) (by simpa using h)
  | [], _ :: _, _, h => by simp at h
  | _ :: _, [], _, h => by simp at h
theorem putsT_len : ∀ (ks vs : List Int) (T : List (Int × Int)), (putsT T ks vs).length ≤ T.length + ks.length
  | [], _, T => by unfold putsT; omega
  | _ :: _, [], T => by show T.length ≤ _; omega
  | a :: ks, b :: vs, T => by
    have h1 := putsT_len ks vs (aput T a b)
    have h2 := aput_len T a b
    show (putsT (aput T a b) ks vs).length ≤ _
    rw [List.length_cons]
    omega
inductive Bfs (pg : List (Int × (Int × Rec))) : List Int → List Td → List (Int × Int) → List Int → List (Int × Int) → Prop
  | nil {seen : List Int} {T : List (Int × Int)} : Bfs pg seen [] T seen T
  | leaf {seen s' : List Int} {td : Td} {rest : List Td} {T T' : List (Int × Int)} {a : Int} {lo hi : Option Int} {ks vs : List Int} (hn : td.page ∉ seen) (h : alook pg td.page = some (a, .leaf lo hi ks vs)) (hf : Fits td.page (.leaf lo hi ks vs) td.lo td.hi td.lv) (k : Bfs pg (seen ++ [td.page]) rest (putsT T ks vs) s' T') : Bfs pg seen (td :: rest) T s' T'
  | inner {seen s' : List Int} {td : Td} {rest : List Td} {T T' : List (Int × Int)} {a lv : Int} {lo hi : Option Int} {ks ps : List Int} (hn : td.page ∉ seen) (h : alook pg td.page = some (a, .inner lv lo hi ks ps)) (hf : Fits td.page (.inner lv lo hi ks ps) td.lo td.hi td.lv) (k : Bfs pg (seen ++ [td.page]) (rest ++ below lo hi ks ps lv) T s' T') : Bfs pg seen (td :: rest) T s' T'
theorem Bfs.len {pg : List (Int × (Int × Rec))} {seen s' : List Int} {rest : List Td} {T T' : List (Int × Int)} (h : Bfs pg seen rest T s' T') : seen.length + (if rest = [] then 0 else 1) ≤ s'.length := by
  induction h with
  | nil => simp
  | leaf hn h hf k ih =>
    rw [List.length_append, List.length_singleton] at ih
    rw [if_neg (by simp)]
    omega
  | inner hn h hf k ih =>
    rw [List.length_append, List.length_singleton] at ih
    rw [if_neg (by simp)]
    omega
def liveL (pg : List (Int × (Int × Rec))) : List Int := (pg.map (·.1)).filter (liveP pg)
def spMap : Sp := fun vs H Q _ => ∃ (a : Addr) (pg : List (Int × (Int × Rec))) (s' : List Int) (T' : List (Int × Int)), vs = [.ref a] ∧ DkT pgd H a pg ∧ Bfs pg [] [⟨0, none, none, -1⟩] [] s' T' ∧ s'.length ≤ 400 ∧ s'.Perm (liveL pg) ∧ pg.length ≤ 9000 ∧ ∀ p H', Ex H H' → DkT PyData.int H' p T' → Q (.ref p) H'
theorem evt_not {σ : L2.St} {H : Hp} {tt : TT} {a : Bool} (h : EVT σ H tt a) : EVT σ H (tNot tt) (!a) := fun H1 e Q q => h H1 e _ fun H2 e2 => q H2 e2
theorem evt_B {σ : L2.St} {H : Hp} {te : TE} {b : Bool} (h : EV σ H te (.bool b)) : EVT σ H (tB te) b := fun H1 e Q q => h H1 e _ fun v H2 e2 d2 => by
  cases d2
  exact ⟨b, rfl, q H2 e2⟩
theorem evt_or {σ : L2.St} {H : Hp} {tt tu : TT} {a b : Bool} (h1 : EVT σ H tt a) (h2 : a = false → EVT σ H tu b) : EVT σ H (tOr tt tu) (a || b) := fun H1 e Q q => h1 H1 e _ fun H2 e2 => by
  cases a with
  | true =>
    show Q true H2
    exact q H2 e2
  | false =>
    show tu σ H2 Q
    exact h2 rfl H2 (e.trans e2) Q fun H3 e3 => q H3 (e2.trans e3)
theorem ev_inL {K : PySem.W.Frag} {σ : L2.St} {H : Hp} {i : Nat} {a : Addr} {ns : List Int} {q : Int} {te : TE} (hi : σ[i]? = some (some (.ref a))) (h : H a = some (.lst (ns.map V.int))) (hy : EV σ H te (.int q)) : EV σ H (tOp (rIn K false) te (tVar i)) (.bool (decide (q ∈ ns))) := fun H1 e1 Q k => hy H1 e1 _ fun v H2 e2 d2 => by
  cases d2
  refine ⟨_, hi, a, _, rfl, .inl (SqL.of (e2 _ _ (e1 _ _ h))), rfl, flat_ints ns, ?_⟩
  rw [if_neg (by decide), inV_ints]
  exact k _ H2 e2 (.bl _)
section
variable {P : Program} {w : World} {K : PySem.W.Frag} {mg : Str → Option Value} {base : Heap} {C : Addr}
abbrev N_law_map : List Str := ["_law_pages", "_law_table", "_law_todo", "_law_seen", "_law_turn", "_law_live", "_law_record", "_law_page", "_law_low", "_law_high", "_law_level", "_law_k"]
theorem sc_law_map : FnScope N_law_map ["_law_pages"] (defScope s_law_map) := ⟨rfl, rfl, rfl, by decide +kernel, rfl, by decide +kernel, by decide +kernel⟩
theorem ok_law_map {f : Addr} {fd : FuncData} (F : FnP K "_law_map" "_law_map" s_law_map f fd) (T : Bu mg) (c_law_fits : Cal P w K mg base 2 "_law_fits" ["_law_page", "_law_record", "_law_low", "_law_high", "_law_level"] (spF R_law_fits)) (c_law_below : Cal P w K mg base 1 "_law_below" ["_law_record", "_law_level"] spBelow) : FnOk P w K mg base CX0 3 f fd ["_law_pages"] spMap := by
  refine F.ok sc_law_map (fun vs H Q E h => ?_) (fun cdv A outer s H vs Q E hr h => ?_)
  · obtain ⟨a, pg, s', M', rfl, _⟩ := h
    rfl
  obtain ⟨a, pg, s', M', rfl, ha, hB, hs400, hperm, hz, k⟩ := h
  have nd := sc_law_map.nd
  have hu := hu_of hr
  refine ⟨_, PSs.nox (pss_cons (ps_set (i := 1) nd rfl (Or.inl rfl) pe_dnewK)
    (pss_cons (ps_set (i := 2) nd rfl (Or.inl rfl) (pe_lst (pa_cons (pe_tup (pa_cons pe_int (pa_cons pe_non (pa_cons pe_non (pa_cons (pe_un un_neg pe_int) pa_nil))))) pa_nil)))
    (pss_cons (ps_set (i := 3) nd rfl (Or.inl rfl) (pe_lst pa_nil))
    (pss_cons (ps_for PassesOwn.never rfl (pi_range1 (by rfl) T.range (pa_cons pe_int pa_nil)) (pg_name (i := 4) nd rfl (Or.inl rfl))
    (pss_one (ps_if (pt_cmpR op_lt (pv 4) (pe_callB call_lenS (by rfl) T.len (by decide +kernel) (pa_cons (pv 2) pa_nil)) (nomark _)) (pss_cons (ps_asg (pe_ix ix_list (pv 2) (pv 4) (fun _ _ => rfl)) (pg_tup rfl (pgs_cons (pg_name (i := 7) nd rfl (Or.inl rfl)) (pgs_cons (pg_name (i := 8) nd rfl (Or.inl rfl)) (pgs_cons (pg_name (i := 9) nd rfl (Or.inl rfl)) (pgs_cons (pg_name (i := 10) nd rfl (Or.inl rfl)) pgs_nil))))))
    (pss_cons (ps_if (PW.pt (pw_or (pt_cmpR op_in_seq (pv 7) (pv 3) (by rfl)) (pw_or1 (pt_cmp (pc_dnotin (by exact hu) (pv 7) (pv 0)))))) (pss_one (ps_ret pe_non)) pss_nil)
    (pss_cons (ps_expr (pe_bm PySem.F.plainAttrs_list PySem.F.slot_list_append PySem.F.type_list_append mt_append (pv 3) (pa_cons (pv 7) pa_nil)))
    (pss_cons (ps_set (i := 6) nd rfl (Or.inl rfl) (pe_ix ix_tup (pe_dget (by exact hu) (pv 0) (pv 7) (fun _ _ => rfl)) pe_int (fun _ _ => rfl)))
    (pss_cons (ps_if (pt_not (pt_val (pe_cl c_law_fits hr (by decide) (by rfl) (pa_cons (pv 7) (pa_cons (pv 6) (pa_cons (pv 8) (pa_cons (pv 9) (pa_cons (pv 10) pa_nil)))))))) (pss_one (ps_ret pe_non)) pss_nil)
    (pss_one (ps_if (pt_cmpR op_eq (pe_ix ix_tup (pv 6) pe_int (fun _ _ => rfl)) pe_str (nomark _)) (pss_one (ps_for PassesOwn.never rfl (pi_range1 (by rfl) T.range (pa_cons (pe_callB call_lenS (by rfl) T.len (by decide +kernel) (pa_cons (pe_ix ix_tup (pv 6) pe_int (fun _ _ => rfl)) pa_nil)) pa_nil)) (pg_name (i := 11) nd rfl (Or.inl rfl))
    (pss_one (ps_dput (by exact hu) (pv 1) (pe_ix ix_tup (pe_ix ix_tup (pv 6) pe_int (fun _ _ => rfl)) (pv 11) (fun _ _ => rfl)) (pe_ix ix_tup (pe_ix ix_tup (pv 6) pe_int (fun _ _ => rfl)) (pv 11) (fun _ _ => rfl)) rfl)))) (pss_one (ps_set (i := 2) nd rfl (Or.inl rfl) (pe_op op_cat (pv 2) (pe_cl c_law_below hr (by decide) (by rfl) (pa_cons (pv 6) (pa_cons (pe_ix ix_tup (pv 6) pe_int (fun _ _ => rfl)) pa_nil))))))))))))) pss_nil)))
    (pss_cons (ps_lock (ps_setLc (i := 5) (own := [("_law_page", 7)]) (g := gName 7) (by rfl) nd rfl rfl (sw_true rfl rfl rfl (by decide +kernel)) (pi_keys (pv 0)) (blkOk_by (own := [("_law_page", 7)]) (N := N_law_map) (sc := defScope s_law_map) (by decide +kernel)) (fun _ _ _ _ _ => pg_name (i := 7) nd rfl (Or.inl rfl)) (fun _ _ _ _ _ => pts_one (pt_cmpR op_ne (pe_ix (ix_tupK (K := K)) (pe_ix (ix_tupK (K := K)) (pe_dget (by exact hu) (pv 0) (pv 7) (fun _ _ => rfl)) pe_int (fun _ _ => rfl)) pe_int (fun _ _ => rfl)) pe_str (nomark _))) (fun _ _ _ _ _ => (pv 7))))
    (pss_cons (ps_if (pt_cmpR (op_neD hr.units) (pe_callB cr_sortedI (by rfl) T.sorted (by decide +kernel) (pa_cons (pv 3) pa_nil)) (pe_callB cr_sortedI (by rfl) T.sorted (by decide +kernel) (pa_cons (pv 5) pa_nil)) (nomark _)) (pss_one (ps_ret pe_non)) pss_nil)
    (pss_one (ps_ret (pv 1))))))))), ?_⟩
  -- table
  intro tp htp
  have e1 : Ex H (upd H tp (.dK [])) := Ex.new htp
  have t1 : DkT PyData.int (upd H tp (.dK [])) tp [] := ⟨[], upd_same, .nil⟩
  generalize upd H tp (.dK []) = H1 at e1 t1
  refine cs_lst (σ := [some (.ref a), some (.ref tp), none, none, none, none, none, none, none, none, none, none]) (i := 2) (eva_cons (ev_tup (eva_cons (ev_int (i := 0)) (eva_cons ev_non (eva_cons ev_non (eva_cons (ev_un (ev_int (i := 1)) ru_I) eva_nil))))) eva_nil) fun qp vs H2 e2 hqp dv => ?_
  have fq : H1 qp = none := e2.free hqp
  have q3 : LsAt (upd H2 qp (.lst vs)) qp [(Td.mk 0 none none (-1)).d] := ⟨vs, upd_same, dv.x (Ex.new hqp)⟩
  have e3 : Ex H1 (upd H2 qp (.lst vs)) := e2.put0 fq
  generalize upd H2 qp (.lst vs) = H3 at q3 e3
  refine cs_lst (i := 3) eva_nil fun sp vs H4 e4 hsp dv4 => ?_
  cases dv4
  have fs3 : H3 sp = none := e4.free hsp
  have e5 : Ex H3 (upd H4 sp (.lst [])) := e4.put0 fs3
  have s5 : (upd H4 sp (.lst [])) sp = some (.lst []) := upd_same
  generalize upd H4 sp (.lst []) = H5 at e5 s5
  have ntq : tp ≠ qp := by obtain ⟨kv, h⟩ := t1.is; exact ne_of_none h fq
  have nts : tp ≠ sp := by obtain ⟨kv, h⟩ := t1.is; exact ne_of_none (e3 _ _ h) fs3
  have nqs : qp ≠ sp := by obtain ⟨xs, h, _⟩ := q3; exact ne_of_none h fs3
  have e15 := e3.trans e5
  have fsp : H sp = none := (e1.trans e3).free fs3
  have ftp : H tp = none := htp
  refine ⟨400, rfl, by decide, by decide, ?_⟩
  refine for_range (lo := 0) (n := 400) (fun t σ' H' => ∃ (qp : Addr) (seen : List Int) (dn rest : List Td) (M : List (Int × Int)) (o4 o6 o7 o8 o9 o10 o11 : Option V), Ex H H' ∧ H' sp = some (.lst (seen.map V.int)) ∧ LsAt H' qp ((dn ++ rest).map Td.d) ∧ DkT PyData.int H' tp M ∧ tp ≠ qp ∧ qp ≠ sp ∧ Bfs pg seen rest M s' M' ∧
    dn.length = seen.length ∧ (rest ≠ [] → seen.length = t) ∧ seen.length ≤ t ∧ M.length ≤ 4 * t ∧ (dn ++ rest).length ≤ 1 + 5 * t ∧ σ' = [some (.ref a), some (.ref tp), some (.ref qp), some (.ref sp), o4, none, o6, o7, o8, o9, o10, o11]) ?_ ?_ ?_
  · exact ⟨qp, [], [], [⟨0, none, none, -1⟩], [], none, none, none, none, none, none, none, e1.trans e15, s5, q3.x e5, t1.x e15, ntq, nqs, hB, rfl, fun _ => rfl, Nat.le_refl _, Nat.le_refl _, by decide, rfl⟩
  · rintro t σ' H6 ht ⟨qp, seen, dn, rest, M, o4, o6, o7, o8, o9, o10, o11, e6, hs6, hq6, ht6, ntq, nqs, hB, hdl, hsl, hst, hMl, hql, rfl⟩
    show (fun σ3 H3 => _) [some (V.ref a), some (.ref tp), some (.ref qp), some (.ref sp), some (.int (0 + (t : Int))), none, o6, o7, o8, o9, o10, o11] H6
    rw [show (0 : Int) + (t : Int) = (t : Int) by omega]
    have tt : EVT [some (V.ref a), some (.ref tp), some (.ref qp), some (.ref sp), some (.int (t : Int)), none, o6, o7, o8, o9, o10, o11] H6 (tTest (tOp (rI0 fun i j => .bl (decide (i < j))) (tVar 4) (tCB (rLenS K) (tCons (tVar 2) tNil)))) (decide ((t : Int) < ((((dn ++ rest).map Td.d).length : Nat) : Int))) := evt_test (ev_op (ev_var (i := 4) rfl (.int _)) (ev_lenL (i := 2) rfl hq6) (rd_B (f := fun i j => decide (i < j))))
    rw [List.length_map, List.length_append] at tt
    rw [List.length_append] at hql
    cases hB with
    | nil =>
      refine cs_ifF tt (decide_eq_false (by rw [List.length_nil]; omega)) fun H7 e7 => ?_
      exact ⟨qp, _, dn, [], _, _, _, _, _, _, _, _, e6.trans e7, e7 _ _ hs6, hq6.x e7, ht6.x e7, ntq, nqs, .nil, hdl, fun z => absurd rfl z, by omega, by omega, by rw [List.length_append]; omega, rfl⟩
    | @leaf _ _ td rest _ _ ad lo hi ks vs hn hpg hf hk =>
      have hsl' : seen.length = t := hsl (by simp)
      rw [List.length_cons] at hql tt
      refine cs_ifT tt (decide_eq_true (by omega)) fun H7 e7 => ?_
      have hat : atI ((dn ++ td :: rest).map Td.d) (t : Int) = some td.d := atI_nat (by rw [List.getElem?_map, List.getElem?_append_right (by omega), show t - dn.length = 0 by omega]; rfl)
      refine cs_unp4 (ev_ixL (i := 2) rfl (hq6.x e7) (ev_var (i := 4) rfl (.int _)) hat) fun x7 x8 x9 x10 H8 e8 y7 y8 y9 y10 => ?_
      cases y7
      cases y10
      have e68 := e7.trans e8
      refine cs_no (b := false) ?_ rfl fun H9 e9 => ?_
      · have t2 := evt_or (evt_test (ev_inL (K := K) (σ := [some (V.ref a), some (.ref tp), some (.ref qp), some (.ref sp), some (.int (t : Int)), none, o6, some (.int td.page), some x8, some x9, some (.int td.lv), o11]) (i := 3) rfl (e68 _ _ hs6) (ev_var (i := 7) rfl (.int td.page)))) fun _ => evt_test (ev_dnotin (i := 0) rfl (ha.x (e6.trans e68)) (ev_var (i := 7) rfl (.int td.page)))
        rw [decide_eq_false hn, hpg] at t2
        exact t2
      have e69 := e68.trans e9
      refine cs_app (D := { nx := _, rt := _, bk := _, ct := _ }) (i := 3) rfl (e69 _ _ hs6) (by rw [List.length_map]; omega) (ev_var (i := 7) rfl (.int td.page)) fun v H10 e10 d10 => ?_
      cases d10
      have e610 := e69.trans e10
      have etx : ExT H10 (upd H10 sp (.lst (seen.map V.int ++ [.int td.page]))) := ExT.lput (e610 _ _ hs6)
      have e11 : Ex H (upd H10 sp (.lst (seen.map V.int ++ [.int td.page]))) := (e6.trans e610).put0 fsp
      have s11 : (upd H10 sp (.lst (seen.map V.int ++ [.int td.page]))) sp = some (.lst ((seen ++ [td.page]).map V.int)) := by rw [upd_same, List.map_append]; rfl
      have q11 : LsAt (upd H10 sp (.lst (seen.map V.int ++ [.int td.page]))) qp ((dn ++ td :: rest).map Td.d) := (hq6.x e610).keep etx fun o h => by rw [upd_ne nqs]; exact h
      have t11 : DkT PyData.int (upd H10 sp (.lst (seen.map V.int ++ [.int td.page]))) tp M := (ht6.x e610).keep etx fun o h => by rw [upd_ne nts]; exact h
      have d8 := (y8.x (e9.trans e10)).t etx
      have d9 := (y9.x (e9.trans e10)).t etx
      generalize upd H10 sp (.lst (seen.map V.int ++ [.int td.page])) = H11 at e11 s11 q11 t11 d8 d9
      refine cs_set (i := 6) (ev_op (ev_dget (f := pgd) (i := 0) rfl (ha.x e11) (ev_var (i := 7) rfl (.int td.page)) hpg) (ev_int (i := 1)) (rd_ix (d := (Rec.leaf lo hi ks vs).d) rfl)) fun rv H12 e12 d12 => ?_
      refine cs_no (evt_not (evt_B (ev_call (eva_cons (ev_var (i := 7) rfl (.int td.page)) (eva_cons (ev_var (i := 6) rfl d12) (eva_cons (ev_var (i := 8) rfl (d8.x e12)) (eva_cons (ev_var (i := 9) rfl (d9.x e12)) (eva_cons (ev_var (i := 10) rfl (.int td.lv)) eva_nil))))) (r_law_fits hf)))) rfl fun H13 e13 => ?_
      refine cs_ifT (evt_test (ev_op (ev_tag (ev_var (i := 6) rfl (d12.x e13))) (ev_str (i := "leaf")) rd_eqS)) (decide_eq_true rfl) fun H14 e14 => ?_
      have e1114 := (e12.trans e13).trans e14
      have hkv : ks.length = vs.length := hf.1.2.1
      have hk4 : ks.length ≤ 4 := hf.2.2.2.2.2
      have dr := (d12.x e13).x e14
      refine ev_cb (eva_cons (ev_op (ev_var (i := 6) rfl dr) (ev_int (i := 3)) (rd_ix (d := tI ks) rfl)) eva_nil) rc_len H14 (Ex.refl _) _ fun nv H15 e15' d15 => ?_
      cases d15
      refine ⟨_, rfl, by rw [List.length_map]; omega, by rw [List.length_map]; omega, ?_⟩
      rw [show ((((ks.map PyData.int).length : Nat) : Int)).toNat = ks.length by rw [List.length_map]; omega]
      have e1115 := e1114.trans e15'
      refine for_range (lo := 0) (n := ks.length) (fun i σ' H' => Ex H H' ∧ H' sp = some (.lst ((seen ++ [td.page]).map V.int)) ∧ LsAt H' qp ((dn ++ td :: rest).map Td.d) ∧ DkT PyData.int H' tp (putsT M (ks.take i) (vs.take i)) ∧ Dn H' rv (Rec.leaf lo hi ks vs).d ∧ ∃ o11, σ' = [some (V.ref a), some (.ref tp), some (.ref qp), some (.ref sp), some (.int (t : Int)), none, some rv, some (.int td.page), some x8, some x9, some (.int td.lv), o11]) ⟨e11.trans e1115, e1115 _ _ s11, q11.x e1115, t11.x e1115, dr.x e15', _, rfl⟩ ?_ ?_
      · rintro i σ' H16 hi ⟨e16, s16, q16, t16, dr16, o11', rfl⟩
        show (fun σ3 H3 => _) [some (V.ref a), some (.ref tp), some (.ref qp), some (.ref sp), some (.int (t : Int)), none, some rv, some (.int td.page), some x8, some x9, some (.int td.lv), some (.int (0 + (i : Int)))] H16
        rw [show (0 : Int) + (i : Int) = (i : Int) by omega]
        have hki : ks[i]? = some ks[i] := List.getElem?_eq_getElem hi
        have hvi : vs[i]? = some (vs[i]'(by omega)) := List.getElem?_eq_getElem (by omega)
        have hpl := putsT_len (ks.take i) (vs.take i) M
        have := List.length_take_le' i ks
        refine cs_dput (f := PyData.int) (x := vs[i]'(by omega)) (q := ks[i]) (i := 1) rfl t16 (ev_op (ev_op (ev_var (i := 6) rfl dr16) (ev_int (i := 4)) (rd_ix (d := tI vs) rfl)) (ev_var (i := 11) rfl (.int _)) (rd_ix (at_ix (j := i) rfl hvi))) (ev_op (ev_op (ev_var (i := 6) rfl dr16) (ev_int (i := 3)) (rd_ix (d := tI ks) rfl)) (ev_var (i := 11) rfl (.int _)) (rd_ix (at_ix (j := i) rfl hki))) (by omega) fun H17 o kv e17 hk17 hd17 => ?_
        have et := ExT.dput (o := o) hk17
        have htk : ks.take (i + 1) = ks.take i ++ [ks[i]] := List.take_succ_eq_append_getElem hi
        have htv : vs.take (i + 1) = vs.take i ++ [vs[i]'(by omega)] := List.take_succ_eq_append_getElem (by omega)
        refine ⟨(e16.trans e17).put0 ftp, by rw [upd_ne nts.symm]; exact e17 _ _ s16, (q16.x e17).keep et fun o h => by rw [upd_ne ntq.symm]; exact h, ?_, (dr16.x e17).t et, _, rfl⟩
        rw [htk, htv, putsT_snoc _ _ _ _ _ (by rw [List.length_take, List.length_take]; omega)]
        exact hd17
      · rintro σ' H16 ⟨e16, s16, q16, t16, dr16, o11', rfl⟩
        rw [List.take_length, hkv, List.take_length] at t16
        have hpl := putsT_len ks vs M
        refine ⟨qp, seen ++ [td.page], dn ++ [td], rest, putsT M ks vs, _, _, _, _, _, _, _, e16, s16, by rw [List.append_assoc]; exact q16, t16, ntq, nqs, hk, by rw [List.length_append, List.length_append, hdl]; rfl, fun _ => by rw [List.length_append, hsl']; rfl, by rw [List.length_append, hsl']; exact Nat.le_refl _, by omega, by rw [List.append_assoc, List.length_append]; show dn.length + (rest.length + 1) ≤ _; omega, rfl⟩
    | @inner _ _ td rest _ _ ad lv lo hi ks ps hn hpg hf hk =>
      have hsl' : seen.length = t := hsl (by simp)
      rw [List.length_cons] at hql tt
      refine cs_ifT tt (decide_eq_true (by omega)) fun H7 e7 => ?_
      have hat : atI ((dn ++ td :: rest).map Td.d) (t : Int) = some td.d := atI_nat (by rw [List.getElem?_map, List.getElem?_append_right (by omega), show t - dn.length = 0 by omega]; rfl)
      refine cs_unp4 (ev_ixL (i := 2) rfl (hq6.x e7) (ev_var (i := 4) rfl (.int _)) hat) fun x7 x8 x9 x10 H8 e8 y7 y8 y9 y10 => ?_
      cases y7
      cases y10
      have e68 := e7.trans e8
      refine cs_no (b := false) ?_ rfl fun H9 e9 => ?_
      · have t2 := evt_or (evt_test (ev_inL (K := K) (σ := [some (V.ref a), some (.ref tp), some (.ref qp), some (.ref sp), some (.int (t : Int)), none, o6, some (.int td.page), some x8, some x9, some (.int td.lv), o11]) (i := 3) rfl (e68 _ _ hs6) (ev_var (i := 7) rfl (.int td.page)))) fun _ => evt_test (ev_dnotin (i := 0) rfl (ha.x (e6.trans e68)) (ev_var (i := 7) rfl (.int td.page)))
        rw [decide_eq_false hn, hpg] at t2
        exact t2
      have e69 := e68.trans e9
      refine cs_app (D := { nx := _, rt := _, bk := _, ct := _ }) (i := 3) rfl (e69 _ _ hs6) (by rw [List.length_map]; omega) (ev_var (i := 7) rfl (.int td.page)) fun v H10 e10 d10 => ?_
      cases d10
      have e610 := e69.trans e10
      have etx : ExT H10 (upd H10 sp (.lst (seen.map V.int ++ [.int td.page]))) := ExT.lput (e610 _ _ hs6)
      have e11 : Ex H (upd H10 sp (.lst (seen.map V.int ++ [.int td.page]))) := (e6.trans e610).put0 fsp
      have s11 : (upd H10 sp (.lst (seen.map V.int ++ [.int td.page]))) sp = some (.lst ((seen ++ [td.page]).map V.int)) := by rw [upd_same, List.map_append]; rfl
      have q11 : LsAt (upd H10 sp (.lst (seen.map V.int ++ [.int td.page]))) qp ((dn ++ td :: rest).map Td.d) := (hq6.x e610).keep etx fun o h => by rw [upd_ne nqs]; exact h
      have t11 : DkT PyData.int (upd H10 sp (.lst (seen.map V.int ++ [.int td.page]))) tp M := (ht6.x e610).keep etx fun o h => by rw [upd_ne nts]; exact h
      have d8 := (y8.x (e9.trans e10)).t etx
      have d9 := (y9.x (e9.trans e10)).t etx
      generalize upd H10 sp (.lst (seen.map V.int ++ [.int td.page])) = H11 at e11 s11 q11 t11 d8 d9
      refine cs_set (i := 6) (ev_op (ev_dget (f := pgd) (i := 0) rfl (ha.x e11) (ev_var (i := 7) rfl (.int td.page)) hpg) (ev_int (i := 1)) (rd_ix (d := (Rec.inner lv lo hi ks ps).d) rfl)) fun rv H12 e12 d12 => ?_
      refine cs_no (evt_not (evt_B (ev_call (eva_cons (ev_var (i := 7) rfl (.int td.page)) (eva_cons (ev_var (i := 6) rfl d12) (eva_cons (ev_var (i := 8) rfl (d8.x e12)) (eva_cons (ev_var (i := 9) rfl (d9.x e12)) (eva_cons (ev_var (i := 10) rfl (.int td.lv)) eva_nil))))) (r_law_fits hf)))) rfl fun H13 e13 => ?_
      refine cs_ifF (evt_test (ev_op (ev_tag (ev_var (i := 6) rfl (d12.x e13))) (ev_str (i := "leaf")) rd_eqS)) (decide_eq_false inner_leaf) fun H14 e14 => ?_
      have e1114 := (e12.trans e13).trans e14
      have dr := (d12.x e13).x e14
      obtain ⟨zs, hz14, hzd⟩ := q11.x e1114
      -- todo + below
      refine ⟨_, rfl, _, rfl, ev_op (ev_var (i := 6) rfl dr) (ev_int (i := 1)) (rd_ix (d := .int lv) rfl) H14 (Ex.refl _) _ fun lvv H15 e15' d15 => ?_⟩
      cases d15
      refine ⟨rv, lv, lo, hi, ks, ps, lv, rfl, dr.x e15', hf.1.2.2.1, hf.1.1, fun bp H16 e16 hbp hL => ?_⟩
      obtain ⟨bs, hb1, hb2⟩ := hL
      have e1116 := (e1114.trans e15').trans e16
      have hzl := hzd.length
      have hbl := hb2.length
      have hbl2 : (below lo hi ks ps lv).length = ps.length := by unfold below; rw [List.length_map, List.length_range]
      have hp5 : ps.length ≤ 5 := hf.2.2.2.2.2
      rw [List.length_map, List.length_append, List.length_cons] at hzl
      rw [List.length_map, hbl2] at hbl
      refine ⟨qp, bp, zs, bs, rfl, rfl, (e15'.trans e16) _ _ hz14, hb1, by rw [hzl, hbl]; exact sz_of (by omega), fun np hnp => ?_⟩
      have e17 := Ex.new (o := .lst (zs ++ bs)) hnp
      have e1117 := e1116.trans e17
      have ntn : tp ≠ np := by obtain ⟨kv, h⟩ := t11.x e1116; exact ne_of_none h.1 hnp
      have nns : np ≠ sp := (ne_of_none (e1116 _ _ s11) hnp).symm
      refine ⟨np, seen ++ [td.page], dn ++ [td], rest ++ below lo hi ks ps lv, M, _, _, _, _, _, _, _, e11.trans e1117, e1117 _ _ s11, ⟨zs ++ bs, upd_same, ?_⟩, t11.x e1117, ntn, nns, hk, by rw [List.length_append, List.length_append, hdl]; rfl, fun _ => by rw [List.length_append, hsl']; rfl, by rw [List.length_append, hsl']; exact Nat.le_refl _, by omega, by rw [List.append_assoc, List.length_append]; show dn.length + (([td] ++ (rest ++ _)).length) ≤ _; rw [List.length_append, List.length_append, hbl2]; show dn.length + (1 + (rest.length + ps.length)) ≤ _; omega, rfl⟩
      rw [show (dn ++ [td]) ++ (rest ++ below lo hi ks ps lv) = (dn ++ td :: rest) ++ below lo hi ks ps lv by simp, List.map_append]
      exact ((hzd.x (e15'.trans e16)).append hb2).x e17
  · rintro σ' H6 ⟨qp, seen, dn, rest, M, o4, o6, o7, o8, o9, o10, o11, e6, hs6, hq6, ht6, ntq, nqs, hB, hdl, hsl, hst, hMl, hql, rfl⟩
    have hr0 : rest = [] := by
      by_cases c : rest = []
      · exact c
      · have h1 := hB.len
        rw [if_neg c] at h1
        have := hsl c
        omega
    subst hr0
    cases hB
    -- live
    obtain ⟨kvs, hk, hkv⟩ := ha.x e6
    have hkeys : (pg.map fun x => (x.1, pgd x.2)).map (·.1) = pg.map (·.1) := by rw [List.map_map]; rfl
    have hlen : kvs.length = (pg.map (·.1)).length := by rw [hkv.length, List.length_map, List.length_map]
    refine ⟨a, _, hk, trivial, fun od => ?_⟩
    generalize hHl : upd H6 a (.frz od (.dK kvs)) = Hl
    have l1 : ∀ b o, H6 b = some o → b ≠ a → Hl b = some o := fun b o h hb => by rw [← hHl, upd_ne hb]; exact h
    have l2 : Hl a = some (.frz od (.dK kvs)) := by rw [← hHl, upd_same]
    have hkl : KvD Hl kvs (pg.map fun x => (x.1, pgd x.2)) := hkv.t (by rw [← hHl]; exact ExT.dput hk)
    refine ⟨_, rfl, a, od, rfl, .inl ⟨kvs, l2, ?_⟩⟩
    intro D hD
    refine lc_it walk_keys (fun i H' => Ex Hl H' ∧ H' D = some (.lst ((((pg.map (·.1)).take i).filter (liveP pg)).map V.int))) ⟨Ex.new hD, upd_same⟩ (fun i H' _ p => p.1 _ _ l2) ?_ ?_
    · rintro i x H7 H8 hi ⟨e7, hD7⟩ ⟨rfl, kk, v, hkk, rfl⟩
      obtain ⟨q, hq, rfl⟩ := hkl.key hkk
      rw [hkeys] at hq
      show wipe ((wipe _ [7]).set 7 (some (.int q))) [7] = wipe _ [7] ∧ _
      refine ⟨wipe1_set _ _ _, ?_⟩
      have hq2 : ∃ x, alook pg q = some x := by
        cases hc : alook pg q with
        | some r => exact ⟨r, rfl⟩
        | none => exact absurd (List.mem_of_getElem? hq) (alook_none.mp hc)
      obtain ⟨⟨ad, r⟩, hq2⟩ := hq2
      obtain ⟨u, hu1, hu2⟩ := (hkl.t e7.t).look_some (k := q) (d := pgd (ad, r)) (by rw [alook_mapV, hq2]; rfl)
      have dgv : EV (List.set (wipe [some (V.ref a), some (.ref tp), some (.ref qp), some (.ref sp), o4, none, o6, o7, o8, o9, o10, o11] [7]) 7 (some (.int q))) H8 (tDGet (tVar 0) (tVar 7)) (pgd (ad, r)) := fun H9 e9 Q9 k9 => ⟨_, rfl, _, rfl, a, u, rfl, .inl ⟨kvs, Sum.inl q, .inr ⟨od, e9 _ _ (e7 _ _ l2)⟩, rfl, hu1.symm⟩, k9 u H9 (Ex.refl _) (hu2.x e9)⟩
      refine evt_test (ev_op (ev_tag (r := r) (ev_op dgv (ev_int (i := 1)) (rd_ix rfl))) (ev_str (i := "free")) rd_neS) H8 (Ex.refl _) _ fun H9 e9 => ?_
      rw [Rec.tag_free, Bool.not_not]
      have hlv : liveP pg q = r.live := by unfold liveP; rw [hq2]
      refine ite2 (fun hc => ?_) (fun hc => ?_)
      · refine ⟨_, rfl, _, e9 _ _ hD7, ?_, (e7.trans e9).put0 hD, ?_⟩
        · rw [List.length_map]
          refine sz_lt ?_
          have := List.length_filter_le (liveP pg) ((pg.map (·.1)).take i)
          have := List.length_take_le' i (pg.map (·.1))
          rw [List.length_map] at this
          omega
        · rw [upd_same, filter_take _ hq, if_pos (by rw [hlv]; exact hc), List.map_append]
          rfl
      · refine ⟨e7.trans e9, ?_⟩
        rw [e9 _ _ hD7, filter_take _ hq, if_neg (by rw [hlv]; exact hc), List.append_nil]
    · rintro H7 ⟨e7, hD7⟩
      rw [hlen, List.take_length] at hD7
      refine ⟨e7 _ _ l2, ?_⟩
      generalize hH8 : upd H7 a (.dK kvs) = H8
      have nDa : D ≠ a := (ne_of_none l2 hD).symm
      have e8 : Ex H6 H8 := fun b o h => by
        rw [← hH8]
        by_cases hb : b = a
        · rw [hb] at h ⊢
          rw [upd_same, ← hk, h]
        · rw [upd_ne hb]
          exact e7 _ _ (l1 b o h hb)
      have hD8 : H8 D = some (.lst ((liveL pg).map V.int)) := by rw [← hH8, upd_ne nDa]; exact hD7
      dsimp only
      refine cs_no (b := false) (fun H9 e9 Q9 k9 => ?_) rfl fun H9 e9 => ⟨_, rfl, k tp H9 ((e6.trans e8).trans e9) (ht6.x (e8.trans e9))⟩
      refine ⟨_, rfl, sp, _, rfl, SqL.of (e9 _ _ (e8 _ _ hs6)), fun ns1 p1 hp1 ho1 hn1 => ?_⟩
      have e10 := Ex.new (o := .lst (ns1.map V.int)) hn1
      refine ⟨_, rfl, D, _, rfl, SqL.of (e10 _ _ (e9 _ _ hD8)), fun ns2 p2 hp2 ho2 hn2 => ?_⟩
      have e11 := Ex.new (o := .lst (ns2.map V.int)) hn2
      refine neL (e11 _ _ upd_same) upd_same ?_
      rw [decide_eq_true (sorted_eq ((hp1.trans hperm).trans hp2.symm) ho1 ho2)]
      exact ⟨_, rfl, k9 _ (e10.trans e11)⟩
end
end Esp
set_option Elab.async false
set_option linter.all false
set_option maxRecDepth 100000
set_option maxHeartbeats 2000000
/-! M8: the breadth walk of a tree. -/
namespace Esp
def kidsTd : Option Int → List Int → Option Int → List Int → Int → List Td
  | lo, k :: ks, hi, c :: ps, l => ⟨c, lo, some k, l⟩ :: kidsTd (some k) ks hi ps l
  | lo, [], hi, [c], l => [⟨c, lo, hi, l⟩]
  | _, _, _, _, _ => []
theorem below_kids (hi : Option Int) (l : Int) : ∀ (ks ps : List Int) (lo : Option Int), ps.length = ks.length + 1 → below lo hi ks ps l = kidsTd lo ks hi ps (l - 1)
  | [], [c], lo, _ => rfl
  | [], [], _, h => by simp at h
  | [], _ :: _ :: _, _, h => by simp at h
  | k :: ks, [], _, h => by simp at h
  | k :: ks, c :: ps, lo, h => by
    have ih := below_kids hi l ks ps (some k) (by simpa using h)
    show below lo hi (k :: ks) (c :: ps) l = ⟨c, lo, some k, l - 1⟩ :: kidsTd (some k) ks hi ps (l - 1)
    rw [← ih]
    unfold below
    rw [List.length_cons, List.range_succ_eq_map, List.map_cons, List.map_map]
    refine congr (congrArg List.cons ?_) (List.map_congr_left fun i hi' => ?_)
    · simp [cLo, cHi]
    · show Td.mk ((c :: ps).getD (i + 1) 0) (cLo lo (k :: ks) (i + 1)) (cHi hi (k :: ks) (i + 1)) (l - 1) = _
      have h1 : cLo lo (k :: ks) (i + 1) = cLo (some k) ks i := by
        unfold cLo
        rw [if_neg (by omega)]
        cases i with
        | zero => rfl
        | succ i => rw [if_neg (by omega)]; rfl
      have h2 : cHi hi (k :: ks) (i + 1) = cHi hi ks i := by
        unfold cHi
        rw [List.length_cons]
        by_cases c : i < ks.length
        · rw [if_pos (by omega), if_pos c]; rfl
        · rw [if_neg (by omega), if_neg c]
      rw [h1, h2]
      rfl
def TdOk (g : G) (td : Td) (P : List Int) (I : Items) : Prop := ∃ n r P', g td.page = some r ∧ SubR g n r td.lo td.hi P' I ∧ r.size ≤ r.most ∧ (td.page ≠ 0 → 2 ≤ r.size) ∧ (n ≠ 0 → 2 ≤ r.size) ∧ P = td.page :: P' ∧ (td.lv = (n : Int) ∨ td.lv = -1)
def Forest (g : G) : List Td → List Int → Items → Prop
  | [], P, I => P = [] ∧ I = []
  | td :: rest, P, I => ∃ P1 P2 I1 I2, TdOk g td P1 I1 ∧ Forest g rest P2 I2 ∧ P = P1 ++ P2 ∧ I = I1 ++ I2
theorem Forest.app {g : G} : ∀ {a b : List Td} {P P2 : List Int} {I I2 : Items}, Forest g a P I → Forest g b P2 I2 → Forest g (a ++ b) (P ++ P2) (I ++ I2)
  | [], b, _, _, _, _, h, k => by
    obtain ⟨rfl, rfl⟩ := h
    exact k
  | td :: r, b, _, _, _, _, h, k => by
    obtain ⟨P1, P3, I1, I3, h1, h2, rfl, rfl⟩ := h
    exact ⟨P1, _, I1, _, h1, Forest.app h2 k, by simp, by simp⟩
theorem sub_td {g : G} {n : Nat} {c : Int} {lo hi : Option Int} {P : List Int} {I : Items} (h : Sub g n c lo hi P I) : TdOk g ⟨c, lo, hi, n⟩ P I := by
  obtain ⟨r, P', h1, h2, h3, h4, h5⟩ := h
  exact ⟨n, r, P', h1, h2, h4, fun _ => h3, fun _ => h3, h5, .inl rfl⟩
theorem kr_forest {g : G} {n : Nat} {hi : Option Int} : ∀ (ks ps : List Int) {c : Int} {lo x : Option Int} {P1 P2 : List Int} {I1 I2 : Items}, Sub g n c lo x P1 I1 → KR (Sub g n) x ks ps hi P2 I2 → Forest g (kidsTd lo ks hi (c :: ps) n) (P1 ++ P2) (I1 ++ I2)
  | [], [], c, lo, x, P1, P2, I1, I2, s, k => by
    obtain ⟨rfl, rfl, rfl⟩ := k
    exact ⟨P1, [], I1, [], sub_td s, ⟨rfl, rfl⟩, rfl, rfl⟩
  | k :: ks, d :: ps, c, lo, x, P1, P2, I1, I2, s, h => by
    obtain ⟨rfl, y, P3, P4, I3, I4, h1, h2, rfl, rfl⟩ := h
    exact ⟨P1, _, I1, _, sub_td s, kr_forest ks ps h1 h2, rfl, rfl⟩
  | [], _ :: _, _, _, _, _, _, _, _, _, h => h.elim
  | _ :: _, [], _, _, _, _, _, _, _, _, h => h.elim
theorem kids_forest {g : G} {n : Nat} {lo hi : Option Int} {ks ps : List Int} {P : List Int} {I : Items} (h : Kids (Sub g n) lo ks hi ps P I) : Forest g (below lo hi ks ps ((n : Int) + 1)) P I := by
  have hl := h.len
  obtain ⟨c, ps', x, P1, P2, I1, I2, rfl, h1, h2, rfl, rfl⟩ := h
  rw [below_kids hi _ ks _ lo hl, show (n : Int) + 1 - 1 = (n : Int) by omega]
  exact kr_forest ks ps' h1 h2
theorem putsT_new : ∀ {ks vs : List Int} {T : List (Int × Int)}, ks.length = vs.length → (T.map (·.1) ++ ks).Nodup → putsT T ks vs = T ++ ks.zip vs
  | [], [], T, _, _ => by simp [putsT]
  | k :: ks, v :: vs, T, h, nd => by
    have hk : k ∉ T.map (·.1) := fun m => by
      rw [List.nodup_append] at nd
      exact nd.2.2 k m k List.mem_cons_self rfl
    have e : aput T k v = T ++ [(k, v)] := by
      unfold aput
      rw [alook_any, alook_none.mpr hk]
      rfl
    show putsT (aput T k v) ks vs = _
    rw [e, putsT_new (by simpa using h) (by
      rw [List.map_append, List.append_assoc]
      exact nd)]
    simp
  | [], _ :: _, _, h, _ => by simp at h
  | _ :: _, [], _, h, _ => by simp at h
theorem gOf_look {pg : List (Int × (Int × Rec))} {q : Int} {r : Rec} (h : (alook pg q).map (·.2) = some r) : ∃ a, alook pg q = some (a, r) := by
  cases c : alook pg q with
  | none => rw [c] at h; cases h
  | some x =>
    rw [c] at h
    exact ⟨x.1, by cases h; rfl⟩
theorem bfs_of {pg : List (Int × (Int × Rec))} : ∀ (m : Nat) {rest : List Td} {P seen : List Int} {I : Items} {T : List (Int × Int)}, P.length ≤ m → Forest (fun q => (alook pg q).map (·.2)) rest P I → (seen ++ P).Nodup → (T.map (·.1) ++ I.map (·.1)).Nodup →
    ∃ s' T', Bfs pg seen rest T s' T' ∧ s'.Perm (seen ++ P) ∧ T'.Perm (T ++ I) := by
  intro m
  induction m with
  | zero =>
    intro rest P seen I T hm hf nd nt
    cases rest with
    | nil =>
      obtain ⟨rfl, rfl⟩ := hf
      exact ⟨seen, T, .nil, by simp, by simp⟩
    | cons td rest =>
      obtain ⟨P1, P2, I1, I2, ⟨n, r, P', _, _, _, _, _, rfl, _⟩, h2, rfl, rfl⟩ := hf
      simp at hm
  | succ m ih =>
    intro rest P seen I T hm hf nd nt
    cases rest with
    | nil =>
      obtain ⟨rfl, rfl⟩ := hf
      exact ⟨seen, T, .nil, by simp, by simp⟩
    | cons td rest =>
      obtain ⟨P1, P2, I1, I2, ⟨n, r, P', hg, sub, hs, h0, hn, rfl, hlv⟩, h2, rfl, rfl⟩ := hf
      obtain ⟨ad, hpg⟩ := gOf_look hg
      have hout : td.page ∉ seen := fun z => by
        rw [List.nodup_append] at nd
        exact nd.2.2 _ z _ (by simp) rfl
      have hm5 := most_le r
      have hok : r.Ok := sub.ok (by omega)
      rw [List.length_append, List.length_cons] at hm
      cases n with
      | zero =>
        obtain ⟨ks, vs, rfl, lo, rfl, rfl⟩ := sub
        have hm4 : (Rec.leaf td.lo td.hi ks vs).most = 4 := rfl
        have hsz : (Rec.leaf td.lo td.hi ks vs).size = vs.length := rfl
        have hkv := lo.1
        have hz : (ks.zip vs).map (·.1) = ks := zip_fst hkv
        have e : putsT T ks vs = T ++ ks.zip vs := putsT_new hkv (by
          rw [List.map_append, hz, ← List.append_assoc] at nt
          exact (List.nodup_append.mp nt).1)
        obtain ⟨s', T', hb, p1, p2⟩ := ih (rest := rest) (P := P2) (seen := seen ++ [td.page]) (I := I2) (T := putsT T ks vs) (by omega) h2 (by
          rw [List.append_assoc]
          exact nd) (by
          rw [e, List.map_append, List.append_assoc, ← List.map_append]
          exact nt)
        refine ⟨s', T', .leaf hout hpg ⟨hok, rfl, rfl, ?_, fun q => ?_, ?_⟩ hb, p1.trans (by simp), p2.trans (by rw [e]; simp)⟩
        · rcases hlv with h | h <;> rw [h] <;> decide
        · have := h0 q
          omega
        · omega
      | succ n =>
        obtain ⟨ks, ps, rfl, kids⟩ := sub
        have hps : (Rec.inner ((n : Int) + 1) td.lo td.hi ks ps).size = ps.length := rfl
        have hf2 : Forest (fun q => (alook pg q).map (·.2)) (rest ++ below td.lo td.hi ks ps ((n : Int) + 1)) (P2 ++ P') (I2 ++ I1) := h2.app (kids_forest (n := n) kids)
        obtain ⟨s', T', hb, p1, p2⟩ := ih (seen := seen ++ [td.page]) (T := T) (by rw [List.length_append]; omega) hf2 (by
          refine (List.Perm.nodup_iff ?_).mpr nd
          exact perm_of fun a => by simp only [List.count_append, List.count_cons, List.count_nil]; omega) (by
          refine (List.Perm.nodup_iff ?_).mpr nt
          exact perm_of fun a => by simp only [List.map_append, List.count_append]; omega)
        refine ⟨s', T', .inner hout hpg ⟨hok, rfl, rfl, fun q => ?_, ?_, ?_⟩ hb, p1.trans ?_, p2.trans ?_⟩
        · rcases hlv with h | h
          · rw [h]; simp
          · rw [h] at q; exact absurd q (by decide)
        · have := hn (by omega)
          omega
        · omega
        · exact perm_of fun a => by simp only [List.count_append, List.count_cons, List.count_nil]; omega
        · exact List.Perm.append_left T List.perm_append_comm
/-! ### what stands between the calls -/
abbrev gOf (pg : List (Int × (Int × Rec))) : G := fun q => (alook pg q).map (·.2)
abbrev adOf (pg : List (Int × (Int × Rec))) : Int → Option Int := fun q => (alook pg q).map (·.1)
structure Good (pg : List (Int × (Int × Rec))) (T : List (Int × Int)) (n : Nat) : Prop where
  nd : (pg.map (·.1)).Nodup
  keys : ∀ q ∈ pg.map (·.1), 0 ≤ q ∧ q < 200
  tree : ∃ P I, Tree (gOf pg) P I ∧ (∀ k v, (k, v) ∈ I ↔ alook T k = some v) ∧ I.length ≤ n
  tnd : (T.map (·.1)).Nodup
  tlen : T.length ≤ n
theorem nodup_le : ∀ {l m : List Int}, l.Nodup → (∀ x ∈ l, x ∈ m) → l.length ≤ m.length
  | [], _, _, _ => Nat.zero_le _
  | a :: l, m, nd, h => by
    obtain ⟨h1, h2⟩ := List.nodup_cons.mp nd
    have hm := h a List.mem_cons_self
    have := nodup_le (m := m.erase a) h2 fun x hx => (List.mem_erase_of_ne (fun e : x = a => h1 (by rw [← e]; exact hx))).mpr (h x (List.mem_cons_of_mem _ hx))
    rw [List.length_erase_of_mem hm] at this
    have : 0 < m.length := List.length_pos_of_mem hm
    rw [List.length_cons]
    omega
theorem Good.len {pg : List (Int × (Int × Rec))} {T : List (Int × Int)} {n : Nat} (h : Good pg T n) : pg.length ≤ 200 := by
  have := nodup_le (m := (List.range 200).map fun i : Nat => (i : Int)) h.nd fun x hx => by
    obtain ⟨a, b⟩ := h.keys x hx
    exact List.mem_map.mpr ⟨x.toNat, List.mem_range.mpr (by omega), by omega⟩
  rwa [List.length_map, List.length_map, List.length_range] at this
theorem mem_live {pg : List (Int × (Int × Rec))} {q : Int} : q ∈ liveL pg ↔ ∃ r, gOf pg q = some r ∧ r.live = true := by
  unfold liveL
  rw [List.mem_filter]
  unfold liveP
  constructor
  · rintro ⟨_, h⟩
    cases c : alook pg q with
    | none => rw [c] at h; cases h
    | some x =>
      rw [c] at h
      exact ⟨x.2, by show (alook pg q).map (·.2) = _; rw [c]; rfl, h⟩
  · rintro ⟨r, h1, h2⟩
    obtain ⟨a, h3⟩ := gOf_look h1
    exact ⟨List.mem_map.mpr ⟨_, alook_mem h3, rfl⟩, by rw [h3]; exact h2⟩
theorem pw_nodup {I : Items} (h : I.Pairwise fun a b => a.1 < b.1) : (I.map (·.1)).Nodup := List.pairwise_map.mpr (h.imp fun {a b} h => by show a.1 ≠ b.1; omega)
theorem nodup_of_map {α β : Type} (f : α → β) {l : List α} (h : (l.map f).Nodup) : l.Nodup := (List.pairwise_map.mp h).imp fun {a b} h e => h (by rw [e])
theorem Good.bfs {pg : List (Int × (Int × Rec))} {T : List (Int × Int)} {n : Nat} (h : Good pg T n) (hn : n ≤ 300) : ∃ s' T', Bfs pg [] [⟨0, none, none, -1⟩] [] s' T' ∧ s'.length ≤ 400 ∧ s'.Perm (liveL pg) ∧ T'.length = T.length ∧ ∀ k v, (k, v) ∈ T' → alook T k = some v := by
  obtain ⟨P, I, t, hI, hl⟩ := h.tree
  have hc := t.count
  have tnd := t.nd
  have tlive := t.live
  obtain ⟨N, P0, ⟨r, h1, h2, h3, h4⟩, rfl⟩ := t.ex
  have hIn := pw_nodup h2.items.1
  obtain ⟨s', T', hb, p1, p2⟩ := bfs_of (pg := pg) (rest := [⟨0, none, none, -1⟩]) (P := 0 :: P0) (seen := []) (I := I) (T := []) (0 :: P0).length (Nat.le_refl _) ⟨0 :: P0, [], I, [], ⟨N, r, P0, h1, h2, h3, fun z => absurd rfl z, fun z => h4 (.inr z), rfl, .inr rfl⟩, ⟨rfl, rfl⟩, by simp, by simp⟩ tnd hIn
  rw [List.nil_append] at p1 p2
  have hTI : T.Perm I := (List.perm_ext_iff_of_nodup (nodup_of_map _ h.tnd) (nodup_of_map _ hIn)).mpr fun ⟨k, v⟩ => ⟨fun m => (hI k v).mpr (alook_of_mem h.tnd m), fun m => alook_mem ((hI k v).mp m)⟩
  refine ⟨s', T', hb, ?_, p1.trans ?_, by rw [p2.length_eq, hTI.length_eq], fun k v m => (hI k v).mp (p2.mem_iff.mp m)⟩
  · rw [p1.length_eq]
    omega
  · refine (List.perm_ext_iff_of_nodup tnd (List.Nodup.sublist List.filter_sublist h.nd)).mpr fun q => ?_
    rw [tlive q]
    exact mem_live.symm
theorem good_start : Good [(0, (100, .leaf none none [] []))] [] 0 where
  nd := by simp
  keys := fun q h => by
    have : q = 0 := by simpa using h
    omega
  tree := by
    refine ⟨[0], [], ⟨⟨0, [], ⟨.leaf none none [] [], rfl, ⟨[], [], rfl, ⟨rfl, rfl, List.Pairwise.nil, by simp⟩, rfl, rfl⟩, by decide, fun h => by rcases h with h | h; cases h; exact absurd rfl h⟩, rfl⟩, by simp, by simp, fun q => ?_⟩, by simp [alook], Nat.le_refl _⟩
    rw [List.mem_singleton]
    constructor
    · rintro rfl
      exact ⟨_, rfl, rfl⟩
    · rintro ⟨r, h, _⟩
      obtain ⟨a, h⟩ := gOf_look h
      have := alook_mem h
      simp at this
      exact this.1
  tnd := by simp
  tlen := Nat.le_refl _
end Esp
set_option Elab.async false
set_option linter.all false
set_option maxRecDepth 100000
set_option maxHeartbeats 2000000
/-! M9: one call on a good tree. -/
namespace Esp
theorem settle_fresh {path : List Step} {sibs : List (Int × Step)} {st : Dr} {i : Nat} {r : Rec} {res : Res} (h : Settle path sibs st i r res) : (res.st st).fresh ≤ st.fresh + 2 ∧ (res.st st).recs.length ≤ st.recs.length + 3 := by
  obtain ⟨a, b, c⟩ := settle_len h
  exact ⟨c, a⟩
theorem loop_fresh {path : List Step} {sibs : List (Int × Step)} {st st' : Dr} {i : Nat} {r : Rec} {res : Dr ⊕ Int} (h : Loop path sibs st i r res) (e : res = .inl st') : st'.fresh ≤ st.fresh + 2 * (i + 1) ∧ st'.recs.length ≤ st.recs.length + 3 * (i + 1) := by
  induction h with
  | done h =>
    cases e
    have := settle_fresh h
    show st'.fresh ≤ _ ∧ _
    have a : st'.fresh ≤ _ := this.1
    have b : st'.recs.length ≤ _ := this.2
    omega
  | read h => cases e
  | @up st0 st1 i r r' res h k ih =>
    have := settle_fresh h
    have a : st1.fresh ≤ st0.fresh + 2 := this.1
    have b : st1.recs.length ≤ st0.recs.length + 3 := this.2
    have := ih e
    omega
theorem KR.deepS {S : Sb} {T : Int → Prop} : ∀ {x : Option Int} {ks ps : List Int} {hi : Option Int} {P : List Int} {I : Items}, (∀ c l h P1 I, S c l h P1 I → ∀ q ∈ P1, T q) → KR S x ks ps hi P I → ∀ q ∈ P, T q := KR.deep
theorem SubR.deepS {g : G} : ∀ {n : Nat} {r : Rec} {lo hi : Option Int} {P : List Int} {I : Items}, SubR g n r lo hi P I → ∀ q ∈ P, ∀ r', g q = some r' → r'.size ≤ r'.most
  | 0, _, _, _, _, _, ⟨_, _, _, _, rfl, _⟩ => by simp
  | n + 1, _, _, _, P, _, ⟨ks, ps, _, kids⟩ => by
    have hK := kids.monoP (S' := fun c l h P1 I => ∀ q ∈ P1, ∀ r', g q = some r' → r'.size ≤ r'.most) fun c l h P1 I hp s => by
      obtain ⟨r, P', gc, sc, _, hs, rfl⟩ := s
      intro q hq r' gq
      rcases List.mem_cons.mp hq with rfl | hq
      · rw [gc] at gq
        cases gq
        exact hs
      · exact SubR.deepS sc q hq r' gq
    obtain ⟨c, ps', x, P1, P2, I1, I2, _, h1, h2, rfl, _⟩ := hK
    intro q hq
    rcases List.mem_append.mp hq with hq | hq
    · exact h1 q hq
    · exact KR.deep (fun c l h P1 I s => s) h2 q hq
theorem change_read : ¬ ((PlanRes.change d st).tag = "read") := by show ¬ (("change" : PySem.Str) = "read"); decide +kernel
theorem ans_read : ¬ ((PlanRes.ans d).tag = "read") := by show ¬ (("answer" : PySem.Str) = "read"); decide +kernel
/-! the path -/
theorem descend {pg : List (Int × (Int × Rec))} {P : List Int} {I : Items} {key : Int} (had : ∀ q r, gOf pg q = some r → ∃ a, adOf pg q = some a) : ∀ (n : Nat) {fs : List Step} {s : Step}, Down (gOf pg) (adOf pg) P I key n fs s →
    ∃ (rest fs' : List Step) (s' : Step), rest.length = n ∧ fs.reverse ++ s :: rest = fs'.reverse ++ [s'] ∧ Down (gOf pg) (adOf pg) P I key 0 fs' s' ∧ ∀ (i : Nat) x, fs.length ≤ i → (fs.reverse ++ s :: rest)[i]? = some x →
      (∃ lv lo hi ks ps q a r, x.rcd = .inner lv lo hi ks ps ∧ ks.length ≤ 100 ∧ ps[(ks.filter fun x => decide (x ≤ key)).length]? = some q ∧ alook pg q = some (a, r) ∧ (fs.reverse ++ s :: rest)[i + 1]? = some ⟨q, a, r, (i : Int) + 2⟩) ∨ ((x.rcd.tag = "inner") = False ∧ (fs.reverse ++ s :: rest)[i + 1]? = none)
  | 0, fs, s, d => by
    refine ⟨[], fs, s, rfl, rfl, d, fun i x hi hx => .inr ?_⟩
    have hil : i = fs.length := by
      obtain ⟨h, _⟩ := List.getElem?_eq_some_iff.mp hx
      rw [List.length_append, List.length_reverse, List.length_singleton] at h
      omega
    subst hil
    rw [List.getElem?_append_right (by simp)] at hx
    simp at hx
    subst hx
    refine ⟨eq_false ?_, List.getElem?_eq_none (by simp)⟩
    obtain ⟨lo, hi, P', Pc, I', Il, Ir, ctx, sub, _⟩ := d.ex
    obtain ⟨ks, vs, e, _⟩ := sub
    rw [e]
    exact leaf_inner
  | n + 1, fs, s, d => by
    obtain ⟨lo, hi, ks, ps, c, rc, a, hsr, h5, h6, hq, hg, ha, hd⟩ := d.child had
    obtain ⟨rest, fs', s', hl, he, hd', hw⟩ := descend had n (hd ((fs.length : Int) + 2))
    have e : fs.reverse ++ s :: ⟨c, a, rc, (fs.length : Int) + 2⟩ :: rest = (s :: fs).reverse ++ ⟨c, a, rc, (fs.length : Int) + 2⟩ :: rest := by simp
    refine ⟨⟨c, a, rc, (fs.length : Int) + 2⟩ :: rest, fs', s', by rw [List.length_cons, hl], by rw [e]; exact he, hd', fun i x hi' hx => ?_⟩
    by_cases hc : i = fs.length
    · subst hc
      rw [List.getElem?_append_right (by simp)] at hx
      simp at hx
      subst hx
      refine .inl ⟨_, lo, hi, ks, ps, c, a, rc, hsr, by omega, hq, ?_, ?_⟩
      · obtain ⟨a', h1⟩ := gOf_look hg
        have : adOf pg c = some a' := by show (alook pg c).map (·.1) = _; rw [h1]; rfl
        rw [ha] at this
        cases this
        exact h1
      · rw [List.getElem?_append_right (by simp)]
        simp
    · rw [e] at hx ⊢
      exact hw i x (by rw [List.length_cons]; omega) hx
theorem pow_small {N n : Nat} (h : N ≠ 0 → 2 ^ (N + 1) ≤ n) (hn : n ≤ 120) : N ≤ 5 := by
  by_cases c : N ≤ 5
  · exact c
  · have h1 := h (by omega)
    have h2 : 2 ^ 7 ≤ 2 ^ (N + 1) := Nat.pow_le_pow_right (by decide) (by omega)
    omega
theorem rounds_of {pg : List (Int × (Int × Rec))} {P : List Int} {I Is : Items} {c : Call} {fs : List Step} {s : Step} {lo hi : Option Int} {ks vs : List Int} {a : Option Int} (t : Tree (gOf pg) P I) (had : ∀ q r, gOf pg q = some r → ∃ a, adOf pg q = some a) (S : Start (gOf pg) (adOf pg) P I c fs s lo hi ks vs) (ha : c.act (lkp ks vs c.key) = some a)
    (hP : Pend (gOf pg) (adOf pg) P Is fs s 0 ⟨[], [], 0⟩ (actRec lo hi ks vs c.key a)) (hlen : fs.length ≤ 5) : ∀ (m : Nat) {k : Nat} {sibs : List (Int × Step)}, SibOk (gOf pg) (adOf pg) sibs → (sibs.map (·.1)).Nodup → (∀ q ∈ sibs.map (·.1), q ∈ cands (fs.reverse ++ [s])) → sibs.length = k → 5 ≤ k + m →
    ∃ d st, Rounds pg c (fs.reverse ++ [s]) k sibs (.change d st) ∧ Fin (gOf pg) (adOf pg) P Is st ∧ st.fresh ≤ 12 ∧ st.recs.length ≤ 18 := by
  intro m
  induction m using Nat.strongRecOn with
  | _ m ih =>
  intro k sibs hs nd hc hk h5
  have onp : OnPath (fs.reverse ++ [s]) (s :: fs) := ⟨by rw [List.getElem?_append_right (by simp)]; simp, onPath_rev fs [s]⟩
  obtain ⟨res, hl, hcase⟩ := loop_of t.old hs had fs onp hP
  have hl' : Loop (fs.reverse ++ [s]) sibs ⟨[], [], 0⟩ fs.reverse.length (actRec lo hi ks vs c.key a) res := by rw [List.length_reverse]; exact hl
  have hcl : (cands (fs.reverse ++ [s])).length = fs.length := by unfold cands; simp
  have hk5 : k ≤ 5 := by
    have := nodup_le nd hc
    rw [List.length_map, hk, hcl] at this
    omega
  rcases hcase with ⟨st, rfl, hf⟩ | ⟨q, rfl, h1, h2, rq, h3⟩
  · have hb := loop_fresh hl rfl
    have b1 : st.fresh ≤ 0 + 2 * (fs.length + 1) := hb.1
    have b2 : st.recs.length ≤ 0 + 3 * (fs.length + 1) := hb.2
    refine ⟨_, st, .fin (.change rfl S.rcd (by have := S.small; omega) S.len ha (S.ok a ha) hl' fun i hi => ?_) (by omega) change_read, hf, by omega, by omega⟩
    have hm := hf.dr.neg (-1 - (i : Int)) ⟨by omega, by omega⟩
    cases hc : alook st.recs (-1 - (i : Int)) with
    | some r => rfl
    | none => exact absurd hm (alook_none.mp hc)
  · have hnk := alook_none.mp h1
    have hlt : k + 1 ≤ 5 := by
      have := nodup_le (l := q :: sibs.map (·.1)) (m := cands (fs.reverse ++ [s])) (List.nodup_cons.mpr ⟨hnk, nd⟩) fun x hx => by
        rcases List.mem_cons.mp hx with rfl | hx
        · exact h2
        · exact hc x hx
      rw [List.length_cons, List.length_map, hk, hcl] at this
      omega
    obtain ⟨ad, hpg⟩ := gOf_look h3
    have hput : aput sibs q ⟨q, ad, rq, 40 + (k : Int)⟩ = sibs ++ [(q, ⟨q, ad, rq, 40 + (k : Int)⟩)] := by
      unfold aput
      rw [alook_any, h1]
      rfl
    obtain ⟨d, st, hr, hf⟩ := ih (m - 1) (by omega) (k := k + 1) (sibs := aput sibs q ⟨q, ad, rq, 40 + (k : Int)⟩) (fun q' sb hq' => by
      rw [alook_put] at hq'
      by_cases e : q' = q
      · rw [if_pos e] at hq'
        cases hq'
        subst e
        exact ⟨rfl, h3, by show (alook pg q').map (·.1) = _; rw [hpg]; rfl⟩
      · rw [if_neg e] at hq'
        exact hs q' sb hq') (aput_nd _ _ nd) (fun x hx => by
      rcases aput_mem.mp hx with rfl | hx
      · exact h2
      · exact hc x hx) (by rw [hput, List.length_append, hk]; rfl) (by omega)
    exact ⟨d, st, .more (.read rfl S.rcd (by have := S.small; omega) S.len ha (S.ok a ha) hl') (by omega) hpg hr, hf⟩
/-! the entries on the pages -/
theorem applyE_out {q : Int} : ∀ (L : List Entry) (m : Int) (pg : List (Int × (Int × Rec))), q ∉ L.map (·.page) → alook (applyE m pg L) q = alook pg q
  | [], m, pg, _ => rfl
  | e :: L, m, pg, h => by
    show alook (applyE (m + 1) _ L) q = _
    rw [applyE_out L _ _ fun z => h (List.mem_cons_of_mem _ z), alook_put, if_neg fun z => h (by rw [z]; exact List.mem_cons_self)]
theorem applyE_in : ∀ (L : List Entry) (m : Int) (pg : List (Int × (Int × Rec))), (L.map (·.page)).Nodup → ∀ e ∈ L, ∃ a, alook (applyE m pg L) e.page = some (a, e.rcd)
  | [], _, _, _ => by simp
  | f :: L, m, pg, nd => fun e he => by
    obtain ⟨h1, h2⟩ := List.nodup_cons.mp nd
    show ∃ a, alook (applyE (m + 1) _ L) e.page = _
    rcases List.mem_cons.mp he with rfl | he
    · exact ⟨m + 1, by rw [applyE_out L _ _ h1, alook_put, if_pos rfl]⟩
    · exact applyE_in L _ _ h2 e he
theorem applyE_nd : ∀ (L : List Entry) (m : Int) (pg : List (Int × (Int × Rec))), (pg.map (·.1)).Nodup → ((applyE m pg L).map (·.1)).Nodup
  | [], _, _, h => h
  | e :: L, m, pg, h => applyE_nd L (m + 1) _ (aput_nd _ _ h)
theorem applyE_keys {q : Int} : ∀ (L : List Entry) (m : Int) (pg : List (Int × (Int × Rec))), q ∈ (applyE m pg L).map (·.1) → q ∈ L.map (·.page) ∨ q ∈ pg.map (·.1)
  | [], _, _, h => .inr h
  | e :: L, m, pg, h => by
    rcases applyE_keys L (m + 1) _ h with h | h
    · exact .inl (List.mem_cons_of_mem _ h)
    · rcases aput_mem.mp h with rfl | h
      · exact .inl List.mem_cons_self
      · exact .inr h
/-! the free pages -/
theorem nums_nd (t : Nat) : (nums t).Nodup := by
  unfold nums
  exact List.pairwise_map.mpr (List.nodup_range.imp fun {a b} h e => h (by omega))
theorem nums_mem {t : Nat} {q : Int} : q ∈ nums t ↔ 1 ≤ q ∧ q ≤ t := by
  unfold nums
  rw [List.mem_map]
  constructor
  · rintro ⟨i, hi, rfl⟩
    have := List.mem_range.mp hi
    omega
  · rintro ⟨a, b⟩
    exact ⟨(q - 1).toNat, List.mem_range.mpr (by omega), by omega⟩
theorem filter_split (p : Int → Bool) : ∀ l : List Int, (l.filter p).length + (l.filter fun x => !p x).length = l.length
  | [] => rfl
  | a :: l => by
    have := filter_split p l
    rw [List.filter_cons, List.filter_cons]
    cases p a <;> simp <;> omega
theorem free_ok {pg : List (Int × (Int × Rec))} {P : List Int} {I : Items} (t : Tree (gOf pg) P I) (hI : I.length ≤ 120) {n : Nat} (hn : n ≤ 12) : FreeOk P (frees pg n) n where
  len := by
    unfold frees
    rw [List.length_take]
    have h1 := filter_split (liveP pg) (nums 199)
    have h2 : ((nums 199).filter (liveP pg)).length ≤ P.length := nodup_le (List.Nodup.sublist List.filter_sublist (nums_nd _)) fun x hx => by
      have hl := (List.mem_filter.mp hx).2
      refine (t.live x).mpr ?_
      unfold liveP at hl
      cases c : alook pg x with
      | none => rw [c] at hl; cases hl
      | some y =>
        rw [c] at hl
        exact ⟨y.2, by show (alook pg x).map (·.2) = _; rw [c]; rfl, hl⟩
    have h3 := t.count
    have h4 : (nums 199).length = 199 := by unfold nums; rw [List.length_map, List.length_range]
    omega
  nd := List.Nodup.sublist (List.take_sublist _ _) (List.Nodup.sublist List.filter_sublist (nums_nd _))
  pos := fun q h => by
    have := nums_mem.mp (List.mem_filter.mp (List.mem_of_mem_take h)).1
    omega
  out := fun q h hP => by
    have hl := (List.mem_filter.mp (List.mem_of_mem_take h)).2
    obtain ⟨r, h1, h2⟩ := (t.live q).mp hP
    obtain ⟨a, h3⟩ := gOf_look h1
    unfold liveP at hl
    rw [h3] at hl
    simp only at hl
    rw [h2] at hl
    cases hl
theorem rec_pages {r : Rec} (h : r.live = false) : r.pages = [] := by
  cases r with
  | free => rfl
  | _ => cases h
theorem entry_facts {g : G} {ad : Int → Option Int} {P Is : _} {st : Dr} (f : Fin g ad P Is st) {q : Int} {r : Rec} (h : alook st.recs q = some r) : r.pages.length ≤ 100 ∧ ∀ c ∈ r.pages, c ∈ P ∨ Neg st c := by
  obtain ⟨N, P0, ⟨r0, t1, t2, t3, t4⟩, nd, sub, live⟩ := f.ex
  have hq := f.dr.dom q (by
    by_cases c : q ∈ st.recs.map (·.1)
    · exact c
    · rw [alook_none.mpr c] at h; cases h)
  have ho : ov st g q = some r := by unfold ov; rw [h]
  cases hl : r.live with
  | false => rw [rec_pages hl]; simp
  | true =>
    have hm := (live q hq).mpr ⟨r, ho, hl⟩
    have both : r.size ≤ r.most ∧ ∀ c ∈ r.pages, c ∈ 0 :: P0 := by
      rcases List.mem_cons.mp hm with rfl | hm
      · rw [t1] at ho
        cases ho
        exact ⟨t3, fun c hc => List.mem_cons_of_mem _ (t2.pages c hc)⟩
      · exact ⟨t2.deepS q hm r ho, t2.deep (T := fun c => c ∈ 0 :: P0) (fun q hq => List.mem_cons_of_mem _ hq) q hm r ho⟩
    have hsz : r.pages.length ≤ r.size := by
      cases r with
      | inner => exact Nat.le_refl _
      | _ => exact Nat.zero_le _
    have := most_le r
    exact ⟨by omega, fun c hc => sub c (both.2 c hc)⟩
structure StepOk (pg : List (Int × (Int × Rec))) (T : List (Int × Int)) (n : Nat) (c : Call) (res : PlanRes) : Prop where
  ans : ∀ d, res = .ans d → ∀ T', DueR c T T' → Good pg T' (n + 1)
  read : ∀ q, res ≠ .read q
  change : ∀ d st, res = .change d st → ∀ E, EntriesOf st E → AppOk pg E ∧ ∀ m T', DueR c T T' → Good (applyE m pg (E.map (Entry.ren (frees pg (newsN E))))) T' (n + 1)
theorem Good.step {pg : List (Int × (Int × Rec))} {T : List (Int × Int)} {n : Nat} (h : Good pg T n) (hn : n ≤ 115) (c : Call) : ∃ path res, WalkR pg c.key path ∧ Rounds pg c path 0 [] res ∧ StepOk pg T n c res := by
  obtain ⟨P, I, t, hI, hIl⟩ := h.tree
  have had : ∀ q r, gOf pg q = some r → ∃ a, adOf pg q = some a := fun q r hg => by
    obtain ⟨a, e⟩ := gOf_look hg
    exact ⟨a, by show (alook pg q).map (·.1) = _; rw [e]; rfl⟩
  obtain ⟨N, r0, a0, hg0, ha0, hN, hD⟩ := t.down had c.key
  have hN5 := pow_small hN (by omega)
  obtain ⟨rest, fs, s, hrl, he, hd, hw⟩ := descend had N (hD 1)
  rw [List.reverse_nil, List.nil_append] at he hw
  have hpl : fs.length = N := by
    have := congrArg List.length he
    rw [List.length_cons, List.length_append, List.length_reverse, List.length_singleton, hrl] at this
    omega
  have hpg0 : alook pg 0 = some (a0, r0) := by
    obtain ⟨a', e⟩ := gOf_look hg0
    have : adOf pg 0 = some a' := by show (alook pg 0).map (·.1) = _; rw [e]; rfl
    rw [ha0] at this
    cases this
    exact e
  have walk : WalkR pg c.key (fs.reverse ++ [s]) := by
    refine ⟨⟨a0, r0, hpg0, by rw [← he]; rfl⟩, fun i x hx => ?_, by rw [List.length_append, List.length_reverse, List.length_singleton]; omega⟩
    rw [← he] at hx ⊢
    exact hw i x (Nat.zero_le _) hx
  obtain ⟨lo, hi, ks, vs, S⟩ := hd.start
  have hold : lkp ks vs c.key = alook T c.key := by
    refine Option.ext fun v => ?_
    rw [← S.old v, hI]
  have same : ∀ T', DueR c T T' → c.act (lkp ks vs c.key) = none → Good pg T' (n + 1) := fun T' hT ha => by
    refine ⟨h.nd, h.keys, ⟨P, I, t, fun k v => ?_, by omega⟩, hT.nd h.tnd, by have := hT.len; have := h.tlen; omega⟩
    rw [hI, hT.look k, ← hold, ha]
    by_cases e : k = c.key
    · rw [if_pos e, e, hold]
    · rw [if_neg e]
  cases ha : c.act (lkp ks vs c.key) with
  | none => exact ⟨_, _, walk, .fin (.ans rfl S.rcd (by have := S.small; omega) S.len ha) (by decide) ans_read, ⟨fun d _ T' hT => same T' hT ha, fun q z => (by cases z), fun d st z => (by cases z)⟩⟩
  | some a =>
    obtain ⟨Is, hP, hIs, hmem⟩ := S.go a ha
    obtain ⟨d, st, hr, hf, hfr, hrc⟩ := rounds_of t had S ha hP (by omega) 5 (k := 0) (sibs := []) (fun q sb z => by rw [alook_nil] at z; cases z) List.nodup_nil (fun q hq => by simp at hq) rfl (by omega)
    refine ⟨_, _, walk, hr, ⟨fun d z => (by cases z), fun q z => (by cases z), fun d' st' z E hE => ?_⟩⟩
    cases z
    obtain ⟨ns, hns, rfl⟩ := hE
    have hF := free_ok t (by omega) hfr
    have hns0 : ∀ x ∈ ns, 0 ≤ x ∧ x ∈ st.recs.map (·.1) := fun x hx => by
      have := List.mem_filter.mp (hns.mem_iff.mp hx)
      exact ⟨of_decide_eq_true this.2, this.1⟩
    have hnw : ∀ x, x ∈ st.news ↔ Neg st x := fun x => by
      unfold Dr.news Neg
      rw [List.mem_map]
      constructor
      · rintro ⟨i, hi, rfl⟩
        have := List.mem_range.mp hi
        omega
      · rintro ⟨a, b⟩
        exact ⟨(-1 - x).toNat, List.mem_range.mpr (by omega), by omega⟩
    have hnwl : st.news.length = st.fresh := by unfold Dr.news; rw [List.length_map, List.length_range]
    have hnd : (ns ++ st.news).Nodup := by
      refine List.nodup_append.mpr ⟨(List.Perm.nodup_iff hns).mpr (List.Nodup.sublist List.filter_sublist hf.dr.nd), ?_, fun x hx y hy e => ?_⟩
      · unfold Dr.news
        exact List.pairwise_map.mpr (List.nodup_range.imp fun {a b} h e => h (by omega))
      · have h1 := (hns0 x hx).1
        have h2 := ((hnw y).mp hy).2
        omega
    have hin : ∀ x ∈ ns ++ st.news, x ∈ st.recs.map (·.1) := fun x hx => by
      rcases List.mem_append.mp hx with hx | hx
      · exact (hns0 x hx).2
      · exact hf.dr.neg x ((hnw x).mp hx)
    have hall : ∀ x ∈ st.recs.map (·.1), x ∈ ns ++ st.news := fun x hx => by
      by_cases c0 : 0 ≤ x
      · exact List.mem_append_left _ (hns.mem_iff.mpr (List.mem_filter.mpr ⟨hx, decide_eq_true c0⟩))
      · refine List.mem_append_right _ ((hnw x).mpr ?_)
        rcases hf.dr.dom x hx with z | z
        · exact absurd (t.pos x z) c0
        · exact z
    have hrec : ∀ x ∈ ns ++ st.news, ∃ r, alook st.recs x = some r ∧ st.entry x = ⟨x, alook st.addrs x, r⟩ := fun x hx => by
      cases hc : alook st.recs x with
      | none => exact absurd (hin x hx) (alook_none.mp hc)
      | some r => exact ⟨r, rfl, by unfold Dr.entry; rw [hc]; rfl⟩
    have hN : newsN ((ns ++ st.news).map st.entry) = st.fresh := by
      unfold newsN
      rw [List.map_append, List.filter_append, (List.filter_eq_nil_iff (l := ns.map st.entry)).mpr fun e he z => ?_, (List.filter_eq_self (l := st.news.map st.entry)).mpr fun e he => ?_, List.nil_append, List.length_map, hnwl]
      · obtain ⟨x, hx, rfl⟩ := List.mem_map.mp he
        exact decide_eq_true ((hnw x).mp hx).2
      · obtain ⟨x, hx, rfl⟩ := List.mem_map.mp he
        have h1 : x < 0 := of_decide_eq_true z
        have := (hns0 x hx).1
        omega
    have inF : ∀ x, x ∈ P ∨ Neg st x → InF (frees pg st.fresh) x := fun x hx h0 => by
      rw [hF.len]
      rcases hx with hx | hx
      · have := t.pos x hx
        omega
      · have := hx.1
        omega
    have hlk : ∀ x ∈ P, x ∈ pg.map (·.1) := fun x hx => by
      obtain ⟨r, h1, _⟩ := (t.live x).mp hx
      obtain ⟨a, h2⟩ := gOf_look h1
      exact List.mem_map.mpr ⟨_, alook_mem h2, rfl⟩
    have hlen : ((ns ++ st.news).map st.entry).length ≤ 9000 := by
      rw [List.length_map, List.length_append, hns.length_eq, hnwl]
      have := List.length_filter_le (fun p => decide (0 ≤ p)) (st.recs.map (·.1))
      rw [List.length_map] at this
      omega
    rw [hN]
    refine ⟨⟨fun e he h0 => ?_, fun e he => ?_, ?_, by have := h.len; omega, hlen⟩, fun m T' hT => ?_⟩
    · obtain ⟨x, hx, rfl⟩ := List.mem_map.mp he
      obtain ⟨h1, h2⟩ := hf.dr.adr x (hin x hx) h0
      obtain ⟨v, hv⟩ := Option.isSome_iff_exists.mp h2
      have hv' : (alook pg x).map (·.1) = some v := hv
      cases hc : alook pg x with
      | none => rw [hc] at hv'; cases hv'
      | some y =>
        rw [hc] at hv'
        cases hv'
        exact ⟨y.1, y.2, hc, by show alook st.addrs x = _; rw [h1, hv]⟩
    · obtain ⟨x, hx, rfl⟩ := List.mem_map.mp he
      obtain ⟨r, h1, h2⟩ := hrec x hx
      obtain ⟨f1, f2⟩ := entry_facts hf h1
      rw [h2, hN]
      exact ⟨inF x (hf.dr.dom x (hin x hx)), f1, fun c hc => inF c (f2 c hc)⟩
    · exact List.length_pos_of_mem (alook_mem hpg0)
    · -- the new pages
      generalize hFe : frees pg st.fresh = F at hF inF
      have hmapp : (((ns ++ st.news).map st.entry).map (Entry.ren F)).map (·.page) = (ns ++ st.news).map (rho F) := by
        rw [List.map_map, List.map_map]
        rfl
      have hdom : ∀ x ∈ ns ++ st.news, x ∈ P ∨ Neg st x := fun x hx => hf.dr.dom x (hin x hx)
      have hnd2 : ((((ns ++ st.news).map st.entry).map (Entry.ren F)).map (·.page)).Nodup := by
        rw [hmapp]
        exact nodup_map_on (fun x hx y hy e => rho_inj hF t.pos (hdom x hx) (hdom y hy) e) hnd
      have g1 : ∀ q r, alook st.recs q = some r → gOf (applyE m pg (((ns ++ st.news).map st.entry).map (Entry.ren F))) (rho F q) = some (r.ren (rho F)) := fun q r hq => by
        have hm : q ∈ ns ++ st.news := hall q (by
          by_cases c1 : q ∈ st.recs.map (·.1)
          · exact c1
          · rw [alook_none.mpr c1] at hq; cases hq)
        obtain ⟨r', h1, h2⟩ := hrec q hm
        rw [hq] at h1
        cases h1
        obtain ⟨a', h3⟩ := applyE_in _ m pg hnd2 ((st.entry q).ren F) (List.mem_map.mpr ⟨_, List.mem_map.mpr ⟨q, hm, rfl⟩, rfl⟩)
        rw [h2] at h3
        have h3' : alook (applyE m pg (((ns ++ st.news).map st.entry).map (Entry.ren F))) (rho F q) = some (a', r.ren (rho F)) := h3
        show (alook (applyE m pg (((ns ++ st.news).map st.entry).map (Entry.ren F))) (rho F q)).map (fun x : Int × Rec => x.2) = _
        rw [h3']
        rfl
      have g2 : ∀ q, (∀ q' ∈ st.recs.map (·.1), rho F q' ≠ q) → gOf (applyE m pg (((ns ++ st.news).map st.entry).map (Entry.ren F))) q = gOf pg q := fun q hq => by
        show (alook (applyE m pg (((ns ++ st.news).map st.entry).map (Entry.ren F))) q).map (fun x : Int × Rec => x.2) = (alook pg q).map (fun x : Int × Rec => x.2)
        rw [applyE_out _ m pg fun z => ?_]
        rw [hmapp] at z
        obtain ⟨x, hx, e⟩ := List.mem_map.mp z
        exact hq x (hin x hx) e
      obtain ⟨P2, t2⟩ := hf.tree t hF g1 g2
      refine ⟨applyE_nd _ _ _ h.nd, fun q hq => ?_, ⟨P2, Is, t2, fun k v => ?_, by omega⟩, hT.nd h.tnd, by have := hT.len; have := h.tlen; omega⟩
      · rcases applyE_keys _ _ _ hq with hq | hq
        · rw [hmapp] at hq
          obtain ⟨x, hx, rfl⟩ := List.mem_map.mp hq
          rcases hdom x hx with z | z
          · rw [rho_pos (t.pos x z)]
            exact h.keys x (hlk x z)
          · have hm := (rho_neg hF z).2.2
            rw [← hFe] at hm
            have := nums_mem.mp (List.mem_filter.mp (List.mem_of_mem_take hm)).1
            rw [hFe] at *
            omega
        · exact h.keys q hq
      · rw [hmem k v, hT.look k, ← hold, ha]
        by_cases e : k = c.key
        · rw [if_pos e, if_pos e]
        · rw [if_neg e, if_neg e, hI]
end Esp
set_option Elab.async false
set_option linter.all false
set_option maxRecDepth 100000
set_option maxHeartbeats 4000000
namespace Esp
open PySem PySem.Spec PyProof.Rows L2
theorem ev_lit {K : PySem.W.Frag} {σ : L2.St} {H : Hp} {ta : TA} {ty : TE} {ds : List PyData} {d : PyData} {z : Int} (h : EVA σ H ta ds) (hy : EV σ H ty (.int z)) (e : atI ds z = some d) (hl : ds.length ≤ 100000 := by exact Nat.le_of_ble_eq_true rfl) : EV σ H (tOp (rIxL K) (tLst ta) ty) d := fun H1 e1 Q k =>
  h H1 e1 _ fun vs H2 e2 d2 => ⟨by rw [d2.length]; exact sz_of hl, fun p hp => hy _ ((e1.trans e2).add hp) _ fun y H3 e3 d3 => by
    cases d3
    have ed : Ex H2 (upd H2 p (.lst vs)) := Ex.new hp
    obtain ⟨u, e4, hu⟩ := atI_dn (d2.x (ed.trans e3)) e
    exact ⟨p, vs, z, u, rfl, rfl, SqL.of (e3 _ _ upd_same), e4, k u H3 ((e2.trans ed).trans e3) hu⟩⟩
theorem ev_in3 {K : PySem.W.Frag} {σ : L2.St} {H : Hp} {i : Nat} {s x y z : Str} (hi : σ[i]? = some (some (.str s))) : EV σ H (tOp (rIn K false) (tVar i) (tTup (tCons (tC (.str x)) (tCons (tC (.str y)) (tCons (tC (.str z)) tNil))))) (.bool (inV (.str s) [.str x, .str y, .str z])) := fun H1 e1 Q k =>
  ⟨_, hi, by show 3 ≤ sizeLine; decide, fun p hp => ⟨p, _, rfl, .inr (SqT.of upd_same), rfl, rfl, by
    rw [if_neg (by decide)]
    exact k _ _ (Ex.new hp) (.bl _)⟩⟩
theorem ev_ne0 {K : PySem.W.Frag} {σ : L2.St} {H : Hp} {i : Nat} {a : Addr} {ns : List Int} (hi : σ[i]? = some (some (.ref a))) (h : H a = some (.lst (ns.map V.int))) : EV σ H (tOp (rNeD K) (tVar i) (tLst tNil)) (.bool (!decide (ns = []))) := fun H1 e1 Q k =>
  ⟨_, hi, by show 0 ≤ sizeLine; decide, fun p hp => neL (ms := []) (Ex.new hp _ _ (e1 _ _ h)) upd_same (k _ _ (Ex.new hp) (.bl _))⟩
theorem KvD.keys {H : Hp} {kvs : List (Key × V)} {l : List (Int × PyData)} (h : KvD H kvs l) : kvs.map (·.1) = (l.map (·.1)).map Sum.inl := by
  unfold KvD at h
  induction h with
  | nil => rfl
  | cons r t ih => rw [List.map_cons, List.map_cons, List.map_cons, ih, r.1]
theorem ev_cell {K : PySem.W.Frag} {σ : L2.St} {H : Hp} {a : Addr} {ns : List Int} {k : Nat} {ty : TE} (hi : σ[0]? = some (some (.ref a))) (hs : SqL K H a (ns.map V.int)) (hz : ns.length ≤ 63) (hy : EV σ H ty (.int (k : Int))) : EV σ H (tCall (spCell K) [] E0 (tCons (tVar 0) (tCons ty tNil))) (.int (ns.getD k 0)) := fun H1 e1 Q q =>
  ⟨_, hi, hy H1 e1 _ fun v H2 e2 d2 => by
    cases d2
    exact ⟨a, ns, k, rfl, SqL.x hs (e1.trans e2), hz, fun H3 e3 => q _ H3 (e2.trans e3) (.int _)⟩⟩
def spCall : Sp := fun vs H Q _ => ∃ (cell width : Int) (b : Addr) (M : List (Int × Int)), vs = [.int cell, .int width, .ref b] ∧ DkT PyData.int H b M ∧ (0 < width ∧ width < 1073741824) ∧ M.length ≤ 9000 ∧ ∀ (c : Call) v H', Ex H H' → Dn H' v c.d → Q v H'
def spFilled : Sp := fun vs H Q _ => ∃ c : Int, vs = [.int c] ∧ ∀ t a b pg M H', Ex H H' → H' t = some (.tup [.ref a, .ref b]) → DkT pgd H' a pg → DkT PyData.int H' b M → Good pg M 40 → Q (.ref t) H'
def spLaw (K : PySem.W.Frag) : Sp := fun vs H Q _ => ∃ (a : Addr) (ns : List Int), vs = [.ref a] ∧ SqL K H a (ns.map V.int) ∧ ns.length ≤ 63 ∧ ∀ H', Q (.bl true) H'
theorem Good.mono {pg : List (Int × (Int × Rec))} {M : List (Int × Int)} {n m : Nat} (h : Good pg M n) (l : n ≤ m) : Good pg M m := by
  obtain ⟨P, I, a, b, c⟩ := h.tree
  exact ⟨h.nd, h.keys, ⟨P, I, a, b, by omega⟩, h.tnd, by have := h.tlen; omega⟩
theorem rd_isRef {σ : L2.St} {H : Hp} {i : Nat} {a : Addr} (hi : σ[i]? = some (some (.ref a))) : EVT σ H (tTest (tOp rIsN (tVar i) (tC .non))) false := fun H1 e1 Q k =>
  ⟨_, hi, rfl, false, rfl, k H1 (Ex.refl _)⟩
theorem evt_map {K : PySem.W.Frag} {σ : L2.St} {H : Hp} {a b : Addr} {pg : List (Int × (Int × Rec))} {M : List (Int × Int)} {n : Nat} (h2 : σ[2]? = some (some (.ref a))) (h3 : σ[3]? = some (some (.ref b))) (ha : DkT pgd H a pg) (hb : DkT PyData.int H b M) (g : Good pg M n) (hn : n ≤ 300) :
    EVT σ H (tTest (tOp rNeDA (tCall spMap [] E0 (tCons (tVar 2) tNil)) (tVar 3))) false := fun H1 e1 Q k => by
  obtain ⟨s', M', hB, h400, hp, hl, hm⟩ := g.bfs hn
  refine ⟨_, h2, a, pg, s', M', rfl, ha.x e1, hB, h400, hp, by have := g.len; omega, fun p H2 e2 hd => ?_⟩
  obtain ⟨ks, hk1, hk2⟩ := hd
  obtain ⟨ls, hl1, hl2⟩ := (hb.x e1).x e2
  refine ⟨_, h3, p, b, ks, ls, rfl, rfl, hk1, hl1, by rw [hk2.length, hl2.length, List.length_map, List.length_map, hl], fun x hx => ?_, false, rfl, k H2 e2⟩
  obtain ⟨i, hi⟩ := List.getElem?_of_mem hx
  have : ∃ q v, (q, v) ∈ M' ∧ x = (Sum.inl q, V.int v) := by
    clear hk1 hm hB hp hl
    unfold KvD at hk2
    revert hx
    clear hi
    generalize hM : (M'.map fun p => (p.1, PyData.int p.2)) = L at hk2
    induction hk2 generalizing M' with
    | nil => intro hx; simp at hx
    | @cons r s rs ss hr ht ih =>
      cases M' with
      | nil => simp at hM
      | cons m M' =>
        rw [List.map_cons] at hM
        injection hM with e1 e2
        intro hx
        rcases List.mem_cons.mp hx with rfl | hx
        · obtain ⟨r1, r2⟩ := hr
          rw [← e1] at r1 r2
          refine ⟨m.1, m.2, List.mem_cons_self, ?_⟩
          obtain ⟨x1, x2⟩ := x
          have r1' : x1 = Sum.inl m.1 := r1
          have r2' : Dn H2 x2 (.int m.2) := r2
          cases r2'
          rw [r1']
        · obtain ⟨q, v, h1, h2⟩ := ih M' e2 hx
          exact ⟨q, v, List.mem_cons_of_mem _ h1, h2⟩
  obtain ⟨q, v, h1, rfl⟩ := this
  obtain ⟨w, w1, w2⟩ := hl2.look_some (k := q) (d := .int v) (by rw [alook_mapV, hm q v h1]; rfl)
  cases w2
  exact ⟨w1, rfl⟩
section
variable {P : Program} {w : World} {K : PySem.W.Frag} {mg : Str → Option Value} {base : Heap} {C : Addr}
abbrev N_law_call : List Str := ["_law_cell_here", "_law_width", "_law_table", "_law_digits_here", "_law_key", "_law_kind", "_law_keys", "_law_old"]
theorem sc_law_call : FnScope N_law_call ["_law_cell_here", "_law_width", "_law_table"] (defScope s_law_call) := ⟨rfl, rfl, rfl, by decide +kernel, rfl, by decide +kernel, by decide +kernel⟩
theorem ok_law_call {f : Addr} {fd : FuncData} (F : FnP K "_law_call" "_law_call" s_law_call f fd) (T : Bu mg) (c_law_digits : Cal P w K mg base 1 "_law_digits" ["_law_cell_here", "_law_bases"] spDigits) : FnOk P w K mg base CX0 2 f fd ["_law_cell_here", "_law_width", "_law_table"] spCall := by
  refine F.ok sc_law_call (fun vs H Q E h => ?_) (fun cdv A outer s H vs Q E hr h => ?_)
  · obtain ⟨cell, width, b, M, rfl, _⟩ := h
    rfl
  obtain ⟨cell, width, b, M, rfl, hb, ⟨w1, w2⟩, hz, k⟩ := h
  have nd := sc_law_call.nd
  have hu := hu_of hr
  refine ⟨_, PSs.nox (pss_cons (ps_set (i := 3) nd rfl (Or.inl rfl) (pe_cl c_law_digits hr (by decide) (by rfl) (pa_cons (pv 0) (pa_cons (pe_lst (pa_cons pe_int (pa_cons (pv 1) (pa_cons pe_int (pa_cons pe_int (pa_cons pe_int (pa_cons pe_int pa_nil))))))) pa_nil))))
    (pss_cons (ps_set (i := 4) nd rfl (Or.inl rfl) (pe_op op_sub (pe_ix ix_list (pv 3) pe_int (fun _ _ => rfl)) (pe_op op_fdivN (pv 1) pe_int)))
    (pss_cons (ps_set (i := 5) nd rfl (Or.inl rfl) (pe_ix ix_list (pe_lst (pa_cons pe_str (pa_cons pe_str (pa_cons pe_str (pa_cons pe_str (pa_cons pe_str (pa_cons pe_str (pa_cons pe_str pa_nil)))))))) (pe_ix ix_list (pv 3) pe_int (fun _ _ => rfl)) (fun _ _ => rfl)))
    (pss_cons (ps_set (i := 6) nd rfl (Or.inl rfl) (pe_callB (call_sortedDA rfl) (by rfl) T.sorted (by decide +kernel) (pa_cons (pv 2) pa_nil)))
    (pss_cons (ps_if (PW.pt (pw_and (pt_cmpR op_gt (pe_ix ix_list (pv 3) pe_int (fun _ _ => rfl)) pe_int (nomark _)) (pw_and (pt_cmpR op_in_seq (pv 5) (pe_tup (pa_cons pe_str (pa_cons pe_str (pa_cons pe_str pa_nil)))) (by rfl)) (pw_and1 (pt_cmpR (op_neD hr.units) (pv 6) (pe_lst pa_nil) (nomark _)))))) (pss_one (ps_set (i := 4) nd rfl (Or.inl rfl) (pe_ix ix_list (pv 6) (pe_op op_modN (pe_ix ix_list (pv 3) pe_int (fun _ _ => rfl)) (pe_callB call_lenS (by rfl) T.len (by decide +kernel) (pa_cons (pv 6) pa_nil))) (fun _ _ => rfl)))) pss_nil)
    (pss_cons (ps_if (PW.pt (pw_or (pt_cmpR op_eq (pv 5) pe_str (nomark _)) (pw_or1 (pt_cmpR op_eq (pv 5) pe_str (nomark _))))) (pss_one (ps_ret (pe_tup (pa_cons (pv 5) (pa_cons (pv 4) (pa_cons (pe_ix ix_list (pv 3) pe_int (fun _ _ => rfl)) pa_nil)))))) pss_nil)
    (pss_cons (ps_if (pt_cmpR op_eq (pv 5) pe_str (nomark _)) (pss_cons (ps_set (i := 7) nd rfl (Or.inl rfl) (pe_ix ix_list (pv 3) pe_int (fun _ _ => rfl)))
    (pss_cons (ps_if (pt_cmpR op_gt (pe_ix ix_list (pv 3) pe_int (fun _ _ => rfl)) pe_int (nomark _)) (pss_one (ps_set (i := 7) nd rfl (Or.inl rfl) (pe_dget2 (by exact hu) (pv 2) (pv 4) (pe_ix ix_list (pv 3) pe_int (fun _ _ => rfl)) ⟨by rfl, by rfl, by rfl, by rfl⟩))) pss_nil)
    (pss_one (ps_ret (pe_tup (pa_cons (pv 5) (pa_cons (pv 4) (pa_cons (pv 7) (pa_cons (pe_ix ix_list (pv 3) pe_int (fun _ _ => rfl)) pa_nil))))))))) pss_nil)
    (pss_one (ps_ret (pe_tup (pa_cons (pv 5) (pa_cons (pv 4) pa_nil)))))))))))), ?_⟩
  refine ⟨_, rfl, _, rfl, by show 6 ≤ sizeLine; decide, fun bp hbp => ?_⟩
  refine ⟨cell, bp, [7, width, 9, 9, 4, 3], rfl, upd_same, fun x hx => ?_, by show 6 ≤ 10; decide, fun ds dp H1 e1 hds hdp => ?_⟩
  · simp only [List.mem_cons, List.not_mem_nil, or_false] at hx
    rcases hx with rfl | rfl | rfl | rfl | rfl | rfl <;> omega
  have e01 : Ex H H1 := (Ex.new hbp).trans e1
  cases hds with
  | @cons d0 _ _ _ r0 hds =>
  cases hds with
  | @cons d1 _ _ _ r1 hds =>
  cases hds with
  | @cons d2 _ _ _ r2 hds =>
  cases hds with
  | @cons d3 _ _ _ r3 hds =>
  cases hds with
  | @cons d4 _ _ _ r4 hds =>
  cases hds with
  | @cons d5 _ _ _ r5 hds =>
  cases hds
  have hdL : LsAt H1 dp [.int d0, .int d1, .int d2, .int d3, .int d4, .int d5] := ls_ints (ns := [d0, d1, d2, d3, d4, d5]) hdp
  have dg : ∀ {o4 o5 o6 o7 : Option V} {H2 : Hp} {z v : Int}, Ex H1 H2 → atI [PyData.int d0, .int d1, .int d2, .int d3, .int d4, .int d5] z = some (.int v) → EV [some (.int cell), some (.int width), some (.ref b), some (.ref dp), o4, o5, o6, o7] H2 (tOp (rIxL K) (tVar 3) (tC (.int z))) (.int v) := fun e h => ev_ixL (i := 3) rfl (hdL.x e) ev_int h
  refine cs_set (i := 4) (ev_op (dg (Ex.refl _) (z := 1) rfl) (ev_op (ev_var (i := 1) rfl (.int width)) (ev_int (i := 2)) (rd_IC (C := CDivN) (f := fun i j => i.fdiv j) ⟨by decide, by decide⟩)) (rd_I (f := fun i j => i - j))) fun v H2 e2 y2 => ?_
  generalize hkey : d1 - width.fdiv 2 = key at y2
  cases y2
  obtain ⟨s0, hs0, hs1⟩ : ∃ s : Str, atI [PyData.str "put", .str "put", .str "add", .str "change", .str "take", .str "take", .str "look"] d0 = some (.str s) ∧ (s = "put" ∨ s = "add" ∨ s = "change" ∨ s = "take" ∨ s = "look") := by
    have : d0 = 0 ∨ d0 = 1 ∨ d0 = 2 ∨ d0 = 3 ∨ d0 = 4 ∨ d0 = 5 ∨ d0 = 6 := by omega
    rcases this with rfl | rfl | rfl | rfl | rfl | rfl | rfl
    · exact ⟨"put", rfl, .inl rfl⟩
    · exact ⟨"put", rfl, .inl rfl⟩
    · exact ⟨"add", rfl, .inr (.inl rfl)⟩
    · exact ⟨"change", rfl, .inr (.inr (.inl rfl))⟩
    · exact ⟨"take", rfl, .inr (.inr (.inr (.inl rfl)))⟩
    · exact ⟨"take", rfl, .inr (.inr (.inr (.inl rfl)))⟩
    · exact ⟨"look", rfl, .inr (.inr (.inr (.inr rfl)))⟩
  refine cs_set (i := 5) (ev_lit (eva_cons ev_str (eva_cons ev_str (eva_cons ev_str (eva_cons ev_str (eva_cons ev_str (eva_cons ev_str (eva_cons ev_str eva_nil))))))) (dg e2 (z := 0) rfl) hs0) fun v H3 e3 y3 => ?_
  cases y3
  have e23 := e2.trans e3
  obtain ⟨kvs, hk1, hk2⟩ := hb.x (e01.trans e23)
  refine ⟨_, rfl, b, kvs, M.map (·.1), rfl, .inl hk1, by rw [hk2.keys, show (M.map fun p => (p.1, PyData.int p.2)).map (·.1) = M.map (·.1) by rw [List.map_map]; rfl], fun ys kp hperm hsort hkp => ?_⟩
  have e4 : Ex H3 (upd H3 kp (.lst (ys.map V.int))) := Ex.new hkp
  have hk4 : (upd H3 kp (.lst (ys.map V.int))) kp = some (.lst (ys.map V.int)) := upd_same
  generalize upd H3 kp (.lst (ys.map V.int)) = H4 at e4 hk4
  have e14 := e23.trans e4
  -- the rest, whatever the key
  have fin : ∀ (key : Int) (H5 : Hp) (D : Ends), Ex H1 H5 → (∀ v H', D.rt v H' = Q v H') → 
      (tSeq (tIfS (tOr (tTest (tOp rEq (tVar 5) (tC (.str "put")))) (tTest (tOp rEq (tVar 5) (tC (.str "add"))))) (tRet (tTup (tCons (tVar 5) (tCons (tVar 4) (tCons (tOp (rIxL K) (tVar 3) (tC (.int 2))) tNil))))) tNext)
        (tSeq (tIfS (tTest (tOp rEq (tVar 5) (tC (.str "change")))) (tSeq (tAsg (tOp (rIxL K) (tVar 3) (tC (.int 2))) (gName 7)) (tSeq (tIfS (tTest (tOp (rI0 fun i j => .bl (decide (i > j))) (tOp (rIxL K) (tVar 3) (tC (.int 4))) (tC (.int 0)))) (tAsg (tDGet2 (tVar 2) (tVar 4) (tOp (rIxL K) (tVar 3) (tC (.int 2)))) (gName 7)) tNext)
          (tRet (tTup (tCons (tVar 5) (tCons (tVar 4) (tCons (tVar 7) (tCons (tOp (rIxL K) (tVar 3) (tC (.int 3))) tNil)))))))) tNext)
        (tRet (tTup (tCons (tVar 5) (tCons (tVar 4) tNil)))))) D [some (.int cell), some (.int width), some (.ref b), some (.ref dp), some (.int key), some (.str s0), some (.ref kp), none] H5 := fun key H5 D e5 hD => by
    have eq : ∀ {H6 : Hp} (t : Str), EVT [some (.int cell), some (.int width), some (.ref b), some (.ref dp), some (.int key), some (.str s0), some (.ref kp), none] H6 (tTest (tOp rEq (tVar 5) (tC (.str t)))) (decide (s0 = t)) := fun t => evt_test (ev_op (ev_var (i := 5) rfl (.str s0)) ev_str rd_eqS)
    rcases hs1 with rfl | rfl | rfl | rfl | rfl
    · refine cs_yes (evt_or (eq "put") fun _ => eq "add") (by rw [decide_eq_true rfl]; rfl) fun H6 e6 => ?_
      refine cs_ret (ev_tup (eva_cons (ev_var (i := 5) rfl (.str _)) (eva_cons (ev_var (i := 4) rfl (.int key)) (eva_cons (dg (e5.trans e6) (z := 2) rfl) eva_nil)))) fun v H7 e7 d7 => ?_
      show D.rt v H7
      rw [hD]
      exact k (.put key d2) v H7 (e01.trans ((e5.trans e6).trans e7)) d7
    · refine cs_yes (evt_or (eq "put") fun _ => eq "add") (by rw [decide_eq_true (rfl : ("add" : Str) = "add"), Bool.or_true]) fun H6 e6 => ?_
      refine cs_ret (ev_tup (eva_cons (ev_var (i := 5) rfl (.str _)) (eva_cons (ev_var (i := 4) rfl (.int key)) (eva_cons (dg (e5.trans e6) (z := 2) rfl) eva_nil)))) fun v H7 e7 d7 => ?_
      show D.rt v H7
      rw [hD]
      exact k (.add key d2) v H7 (e01.trans ((e5.trans e6).trans e7)) d7
    · refine cs_no (evt_or (eq "put") fun _ => eq "add") (by rw [decide_eq_false change_put, decide_eq_false change_add]; rfl) fun H6 e6 => ?_
      refine cs_yes (eq "change") (decide_eq_true rfl) fun H7 e7 => ?_
      have e57 := (e5.trans e6).trans e7
      refine cs_set (i := 7) (dg e57 (z := 2) (v := d2) rfl) fun v H8 e8 d8 => ?_
      cases d8
      have e58 := e57.trans e8
      have t4 : EVT [some (.int cell), some (.int width), some (.ref b), some (.ref dp), some (.int key), some (.str "change"), some (.ref kp), some (.int d2)] H8 (tTest (tOp (rI0 fun i j => .bl (decide (i > j))) (tOp (rIxL K) (tVar 3) (tC (.int 4))) (tC (.int 0)))) (decide (d4 > 0)) := evt_test (ev_op (dg e58 (z := 4) (v := d4) rfl) ev_int rd_B)
      have last : ∀ (o : Int) (H9 : Hp) (D' : Ends), Ex H1 H9 → (∀ v H', D'.rt v H' = Q v H') → tRet (tTup (tCons (tVar 5) (tCons (tVar 4) (tCons (tVar 7) (tCons (tOp (rIxL K) (tVar 3) (tC (.int 3))) tNil))))) D' [some (.int cell), some (.int width), some (.ref b), some (.ref dp), some (.int key), some (.str "change"), some (.ref kp), some (.int o)] H9 := fun o H9 D' e9 hD' => by
        refine cs_ret (ev_tup (eva_cons (ev_var (i := 5) rfl (.str _)) (eva_cons (ev_var (i := 4) rfl (.int key)) (eva_cons (ev_var (i := 7) rfl (.int o)) (eva_cons (dg e9 (z := 3) rfl) eva_nil))))) fun v H10 e10 d10 => ?_
        rw [hD']
        exact k (.change key o d3) v H10 (e01.trans (e9.trans e10)) d10
      by_cases c4 : d4 > 0
      · refine cs_yes t4 (decide_eq_true c4) fun H9 e9 => ?_
        refine cs_set1 (i := 7) (ev_dget2 (i := 2) rfl (hb.x (e01.trans (e58.trans e9))) (ev_var (i := 4) rfl (.int key)) (dg (e58.trans e9) (z := 2) rfl)) fun v H10 e10 d10 => ?_
        have : ∃ o : Int, v = .int o := by
          cases hc : alook M key with
          | none => rw [hc] at d10; cases d10; exact ⟨_, rfl⟩
          | some x => rw [hc] at d10; cases d10; exact ⟨_, rfl⟩
        obtain ⟨o, rfl⟩ := this
        exact last o H10 _ ((e58.trans e9).trans e10) hD
      · refine cs_no t4 (decide_eq_false c4) fun H9 e9 => ?_
        exact last d2 H9 _ (e58.trans e9) hD
    · refine cs_no (evt_or (eq "put") fun _ => eq "add") (by rw [decide_eq_false take_put, decide_eq_false take_add]; rfl) fun H6 e6 => ?_
      refine cs_no (eq "change") (decide_eq_false take_change) fun H7 e7 => ?_
      refine cs_ret (ev_tup (eva_cons (ev_var (i := 5) rfl (.str _)) (eva_cons (ev_var (i := 4) rfl (.int key)) eva_nil))) fun v H8 e8 d8 => ?_
      rw [hD]
      exact k (.take key) v H8 (e01.trans (((e5.trans e6).trans e7).trans e8)) d8
    · refine cs_no (evt_or (eq "put") fun _ => eq "add") (by rw [decide_eq_false look_put, decide_eq_false look_add]; rfl) fun H6 e6 => ?_
      refine cs_no (eq "change") (decide_eq_false look_change) fun H7 e7 => ?_
      refine cs_ret (ev_tup (eva_cons (ev_var (i := 5) rfl (.str _)) (eva_cons (ev_var (i := 4) rfl (.int key)) eva_nil))) fun v H8 e8 d8 => ?_
      rw [hD]
      exact k (.look key) v H8 (e01.trans (((e5.trans e6).trans e7).trans e8)) d8
  -- the key from the table, or not
  have cond : EVT [some (.int cell), some (.int width), some (.ref b), some (.ref dp), some (.int key), some (.str s0), some (.ref kp), none] H4 (tAnd (tTest (tOp (rI0 fun i j => .bl (decide (i > j))) (tOp (rIxL K) (tVar 3) (tC (.int 5))) (tC (.int 0)))) (tAnd (tTest (tOp (rIn K false) (tVar 5) (tTup (tCons (tC (.str "change")) (tCons (tC (.str "take")) (tCons (tC (.str "look")) tNil)))))) (tTest (tOp (rNeD K) (tVar 6) (tLst tNil))))) (decide (d5 > 0) && (inV (.str s0) [.str "change", .str "take", .str "look"] && !decide (ys = []))) :=
    evt_and (evt_test (ev_op (dg e14 (z := 5) (v := d5) rfl) ev_int rd_B)) fun _ => evt_and (evt_test (ev_in3 (i := 5) rfl)) fun _ => evt_test (ev_ne0 (i := 6) rfl hk4)
  cases hc : (decide (d5 > 0) && (inV (.str s0) [.str "change", .str "take", .str "look"] && !decide (ys = []))) with
  | false =>
    rw [hc] at cond
    refine cs_no cond rfl fun H5 e5 => ?_
    exact fin key H5 _ (e14.trans e5) fun _ _ => rfl
  | true =>
    rw [hc] at cond
    have hys : ys ≠ [] := fun e => by
      rw [e] at hc
      simp at hc
    have hyl : 0 < ys.length := List.length_pos_iff.mpr hys
    refine cs_yes cond rfl fun H5 e5 => ?_
    have hm := Int.fmod_nonneg_of_pos d1 (b := (ys.length : Int)) (by omega)
    have hm2 := Int.fmod_lt_of_pos d1 (b := (ys.length : Int)) (by omega)
    obtain ⟨j, hj⟩ := Int.eq_ofNat_of_zero_le hm
    have hjl : j < ys.length := by omega
    refine cs_set1 (i := 4) (ev_ixL (d := .int ys[j]) (i := 6) rfl (ls_ints (e5 _ _ hk4)) (ev_op (dg (e14.trans e5) (z := 1) (v := d1) rfl) (ev_lenL (i := 6) rfl (ls_ints (e5 _ _ hk4))) (rd_mod (by rw [List.length_map]; omega))) ?_) fun v H6 e6 d6 => ?_
    · rw [List.length_map]
      exact at_ix (j := j) hj (List.getElem?_eq_getElem hjl)
    · cases d6
      exact fin _ H6 _ ((e14.trans e5).trans e6) fun _ _ => rfl
end
end Esp
set_option Elab.async false
set_option linter.all false
set_option maxRecDepth 100000
set_option maxHeartbeats 4000000
namespace Esp
open PySem PySem.Spec PyProof.Rows L2
theorem ans_change {d : PyData} : ¬ ((PlanRes.ans d).tag = "change") := by
  show ¬ (("answer" : Str) = "change")
  decide +kernel
section
variable {P : Program} {w : World} {K : PySem.W.Frag} {mg : Str → Option Value} {base : Heap} {C : Addr}
/-- pages = _law_applied(pages, told[2]) -/
theorem cs_applied {σ : L2.St} {H : Hp} {a : Addr} {i j : Nat} {v : V} {pg : List (Int × (Int × Rec))} {d : PyData} {st : Dr} {D : Ends} {rest : TS} (hi : σ[i]? = some (some (.ref a))) (hj : σ[j]? = some (some v)) (ha : DkT pgd H a pg) (hv : PlanAt H v (.change d st)) (ok : ∀ E, EntriesOf st E → AppOk pg E)
    (k : ∀ p m E H1, EntriesOf st E → Ex H H1 → H p = none → DkT pgd H1 p (applyE m pg (E.map (Entry.ren (frees pg (newsN E))))) → rest D (σ.set i (some (.ref p))) H1) :
    tSeq (tAsg (tCall spApplied [] E0 (tCons (tVar i) (tCons (tOp (rIxT K) (tVar j) (tC (.int 2))) tNil))) (gName i)) rest D σ H := by
  obtain ⟨E, t, av, e, rfl, h2, h3, h4, h5⟩ := hv
  exact ⟨_, hi, _, hj, t, _, 2, .ref e, rfl, rfl, SqT.of h2, atI_nat (j := 2) rfl, a, e, pg, E, rfl, ha, h4, ok E h5, fun p m H1 e1 fp hd => k p m E H1 h5 e1 fp hd⟩
abbrev N_law_filled : List Str := ["_law_cell_here", "_law_digits_here", "_law_pages", "_law_table", "_law_many_here", "_law_k", "_law_key", "_law_told"]
theorem sc_law_filled : FnScope N_law_filled ["_law_cell_here"] (defScope s_law_filled) := ⟨rfl, rfl, rfl, by decide +kernel, rfl, by decide +kernel, by decide +kernel⟩
theorem ok_law_filled {f : Addr} {fd : FuncData} (F : FnP K "_law_filled" "_law_filled" s_law_filled f fd) (T : Bu mg) (c_law_digits : Cal P w K mg base 1 "_law_digits" ["_law_cell_here", "_law_bases"] spDigits) (c_law_start : Cal P w K mg base 1 "_law_start" [] spStart) (c_law_planned : Cal P w K mg base 13 "_law_planned" ["_law_pages", "_law_call_here"] spPlanned)
    (c_law_applied : Cal P w K mg base 3 "_law_applied" ["_law_pages", "_law_entries"] spApplied) : FnOk P w K mg base CX0 14 f fd ["_law_cell_here"] spFilled := by
  refine F.ok sc_law_filled (fun vs H Q E h => ?_) (fun cdv A outer s H vs Q E hr h => ?_)
  · obtain ⟨c, rfl, _⟩ := h
    rfl
  obtain ⟨c, rfl, k⟩ := h
  have nd := sc_law_filled.nd
  have hu := hu_of hr
  refine ⟨_, PSs.nox (pss_cons (ps_set (i := 1) nd rfl (Or.inl rfl) (pe_cl c_law_digits hr (by decide) (by rfl) (pa_cons (pv 0) (pa_cons (pe_lst (pa_cons pe_int (pa_cons pe_int (pa_cons pe_int (pa_cons pe_int pa_nil))))) pa_nil))))
    (pss_cons (ps_set (i := 2) nd rfl (Or.inl rfl) (pe_cl0 c_law_start hr (by decide) (by rfl)))
    (pss_cons (ps_set (i := 3) nd rfl (Or.inl rfl) pe_dnewK)
    (pss_cons (ps_set (i := 4) nd rfl (Or.inl rfl) (pe_op op_modN (pe_ix ix_list (pv 1) pe_int (fun _ _ => rfl)) pe_int))
    (pss_cons (ps_if (pt_cmpR op_eq (pe_ix ix_list (pv 1) pe_int (fun _ _ => rfl)) pe_int (nomark _)) (pss_one (ps_set (i := 4) nd rfl (Or.inl rfl) (pe_ix ix_list (pv 1) pe_int (fun _ _ => rfl)))) pss_nil)
    (pss_cons (ps_for PassesOwn.never rfl (pi_range1 (by rfl) T.range (pa_cons (pv 4) pa_nil)) (pg_name (i := 5) nd rfl (Or.inl rfl))
    (pss_cons (ps_set (i := 6) nd rfl (Or.inl rfl) (pe_op op_sub (pe_op op_mul (pe_op op_modN (pe_op op_add (pe_op op_mul (pv 5) (pe_op op_add (pe_op op_mul pe_int (pe_ix ix_list (pv 1) pe_int (fun _ _ => rfl))) pe_int)) (pe_ix ix_list (pv 1) pe_int (fun _ _ => rfl))) pe_int) pe_int) pe_int))
    (pss_cons (ps_set (i := 7) nd rfl (Or.inl rfl) (pe_cl c_law_planned hr (by decide) (by rfl) (pa_cons (pv 2) (pa_cons (pe_tup (pa_cons pe_str (pa_cons (pv 6) (pa_cons (pv 5) pa_nil)))) pa_nil))))
    (pss_cons (ps_if (pt_cmpR op_eq (pe_ix ix_tup (pv 7) pe_int (fun _ _ => rfl)) pe_str (nomark _)) (pss_cons (ps_set (i := 2) nd rfl (Or.inl rfl) (pe_cl c_law_applied hr (by decide) (by rfl) (pa_cons (pv 2) (pa_cons (pe_ix ix_tup (pv 7) pe_int (fun _ _ => rfl)) pa_nil))))
    (pss_one (ps_if (pt_cmpR op_isN1 (pv 2) pe_non (nomark _)) (pss_one (ps_ret (pe_tup (pa_cons pe_non (pa_cons (pv 3) pa_nil))))) pss_nil))) pss_nil)
    (pss_one (ps_dput (by exact hu) (pv 3) (pv 6) (pv 5) rfl))))))
    (pss_one (ps_ret (pe_tup (pa_cons (pv 2) (pa_cons (pv 3) pa_nil))))))))))), ?_⟩
  refine ⟨_, rfl, by show 4 ≤ sizeLine; decide, fun bp hbp => ?_⟩
  refine ⟨c, bp, [4, 40, 7, 3], rfl, upd_same, fun x hx => ?_, by show 4 ≤ 10; decide, fun ds dp H1 e1 hds hdp => ?_⟩
  · simp only [List.mem_cons, List.not_mem_nil, or_false] at hx
    rcases hx with rfl | rfl | rfl | rfl <;> omega
  have e01 : Ex H H1 := (Ex.new hbp).trans e1
  cases hds with
  | @cons d0 _ _ _ r0 hds =>
  cases hds with
  | @cons d1 _ _ _ r1 hds =>
  cases hds with
  | @cons d2 _ _ _ r2 hds =>
  cases hds with
  | @cons d3 _ _ _ r3 hds =>
  cases hds
  have hdL : LsAt H1 dp [.int d0, .int d1, .int d2, .int d3] := ls_ints (ns := [d0, d1, d2, d3]) hdp
  have dg : ∀ {o2 o3 o4 o5 o6 o7 : Option V} {H2 : Hp} {z v : Int}, Ex H1 H2 → atI [PyData.int d0, .int d1, .int d2, .int d3] z = some (.int v) → EV [some (.int c), some (.ref dp), o2, o3, o4, o5, o6, o7] H2 (tOp (rIxL K) (tVar 1) (tC (.int z))) (.int v) := fun e h => ev_ixL (i := 1) rfl (hdL.x e) ev_int h
  refine ⟨rfl, fun a0 H2 e2 fa0 ha0 => ?_⟩
  intro tp htp
  have e3 : Ex H2 (upd H2 tp (.dK [])) := Ex.new htp
  have ht3 : DkT PyData.int (upd H2 tp (.dK [])) tp [] := ⟨[], upd_same, .nil⟩
  have ha3 := ha0.x e3
  have na : a0 ≠ tp := by obtain ⟨kv, h⟩ := ha0.is; exact ne_of_none h htp
  generalize upd H2 tp (.dK []) = H3 at e3 ht3 ha3
  have ftp : H tp = none := (e01.trans e2).free htp
  have e13 := e2.trans e3
  have e03 := e01.trans e13
  refine cs_set (σ := [some (.int c), some (.ref dp), some (.ref a0), some (.ref tp), none, none, none, none]) (i := 4) (ev_op (dg e13 (z := 1) (v := d1) rfl) (ev_int (i := 8)) (rd_mod (by decide))) fun v H4 e4 y4 => ?_
  generalize hm : d1.fmod 8 = m0 at y4
  have hm0 : 0 ≤ m0 ∧ m0 < 8 := by rw [← hm]; exact ⟨Int.fmod_nonneg_of_pos _ (by decide), Int.fmod_lt_of_pos _ (by decide)⟩
  cases y4
  have e14 := e13.trans e4
  -- the loop
  have main : ∀ (m : Int) (H5 : Hp) (D : Ends), 0 ≤ m → m < 40 → Ex H3 H5 → (∀ o5 o6 o7 a pg M H6, Ex H H6 → DkT pgd H6 a pg → DkT PyData.int H6 tp M → Good pg M 40 → D.nx [some (.int c), some (.ref dp), some (.ref a), some (.ref tp), some (.int m), o5, o6, o7] H6) →
      tFor (iRng1 (tCons (tVar 4) tNil)) (gName 5) (tSeq (tAsg (tOp (rI0 fun i j => .int (i - j)) (tOp (rI CMul fun i j => .int (i * j)) (tOp (rI (fun _ j => j ≠ 0) fun i j => .int (i.fmod j)) (tOp (rI0 fun i j => .int (i + j)) (tOp (rI CMul fun i j => .int (i * j)) (tVar 5) (tOp (rI0 fun i j => .int (i + j)) (tOp (rI CMul fun i j => .int (i * j)) (tC (.int 2)) (tOp (rIxL K) (tVar 1) (tC (.int 2)))) (tC (.int 1)))) (tOp (rIxL K) (tVar 1) (tC (.int 3)))) (tC (.int 41))) (tC (.int 3))) (tC (.int 60))) (gName 6))
        (tSeq (tAsg (tCall spPlanned [] E0 (tCons (tVar 2) (tCons (tTup (tCons (tC (.str "put")) (tCons (tVar 6) (tCons (tVar 5) tNil)))) tNil))) (gName 7))
        (tSeq (tIfS (tTest (tOp rEq (tOp (rIxT K) (tVar 7) (tC (.int 0))) (tC (.str "change")))) (tSeq (tAsg (tCall spApplied [] E0 (tCons (tVar 2) (tCons (tOp (rIxT K) (tVar 7) (tC (.int 2))) tNil))) (gName 2)) (tIfS (tTest (tOp rIsN (tVar 2) (tC .non))) (tRet (tTup (tCons (tC .non) (tCons (tVar 3) tNil)))) tNext)) tNext)
        (sDPut (tVar 3) (tVar 6) (tVar 5))))) D [some (.int c), some (.ref dp), some (.ref a0), some (.ref tp), some (.int m), none, none, none] H5 := fun m H5 D m0 m1 e5 kk => by
    refine ⟨_, rfl, m, rfl, by omega, by omega, ?_⟩
    refine for_range (lo := 0) (n := m.toNat) (fun i σ' H' => ∃ (a : Addr) (pg : List (Int × (Int × Rec))) (M : List (Int × Int)) (o5 o6 o7 : Option V), Ex H H' ∧ H' dp = some (.lst ([d0, d1, d2, d3].map V.int)) ∧ DkT pgd H' a pg ∧ DkT PyData.int H' tp M ∧ Good pg M i ∧ a ≠ tp ∧ dp ≠ tp ∧ σ' = [some (.int c), some (.ref dp), some (.ref a), some (.ref tp), some (.int m), o5, o6, o7]) ?_ ?_ ?_
    · refine ⟨a0, _, _, none, none, none, e03.trans e5, (e13.trans e5) _ _ hdp, ha3.x e5, ht3.x e5, good_start, na, ?_, rfl⟩
      obtain ⟨kv, h⟩ := ha0.is
      exact ne_of_none (e2 _ _ hdp) htp
    · rintro i σ' H6 hi ⟨a, pg, M, o5, o6, o7, e6, hdp6, ha6, ht6, g6, nat, ndt, rfl⟩
      show (fun σ3 H3 => _) [some (V.int c), some (.ref dp), some (.ref a), some (.ref tp), some (.int m), some (.int (0 + (i : Int))), o6, o7] H6
      rw [show (0 : Int) + (i : Int) = (i : Int) by omega]
      have dL6 : LsAt H6 dp [.int d0, .int d1, .int d2, .int d3] := ls_ints (ns := [d0, d1, d2, d3]) hdp6
      have dg6 : ∀ {z v : Int}, atI [PyData.int d0, .int d1, .int d2, .int d3] z = some (.int v) → EV [some (V.int c), some (.ref dp), some (.ref a), some (.ref tp), some (.int m), some (.int (i : Int)), o6, o7] H6 (tOp (rIxL K) (tVar 1) (tC (.int z))) (.int v) := fun h => ev_ixL (i := 1) rfl dL6 ev_int h
      refine cs_set (i := 6) (ev_op (ev_op (ev_op (ev_op (ev_op (ev_var (i := 5) rfl (.int (i : Int))) (ev_op (ev_op (ev_int (i := 2)) (dg6 (z := 2) (v := d2) rfl) (rd_IC (C := CMul) (f := fun i j => i * j) (.inl ⟨by decide, by decide⟩))) (ev_int (i := 1)) (rd_I (f := fun i j => i + j))) (rd_IC (C := CMul) (f := fun i j => i * j) (.inl ⟨by omega, by omega⟩))) (dg6 (z := 3) (v := d3) rfl) (rd_I (f := fun i j => i + j))) (ev_int (i := 41)) (rd_mod (by decide))) (ev_int (i := 3)) (rd_IC (C := CMul) (f := fun i j => i * j) (.inr ⟨by decide, by decide⟩))) (ev_int (i := 60)) (rd_I (f := fun i j => i - j))) fun v H7 e7 y7 => ?_
      generalize hkey : (((i : Int) * (2 * d2 + 1) + d3).fmod 41) * 3 - 60 = key at y7
      cases y7
      obtain ⟨path, res, hw, hR, sOk⟩ := g6.step (by omega) (.put key (i : Int))
      have act : (match (Call.put key (i : Int)).act (alook M key) with
          | none => alook M key
          | some a => a) = some (i : Int) := by
        show (match (if alook M key = some (i : Int) then none else some (some (i : Int))) with
          | none => alook M key
          | some a => a) = some (i : Int)
        by_cases e : alook M key = some (i : Int)
        · rw [if_pos e]; exact e
        · rw [if_neg e]
      have hdue : DueR (.put key (i : Int)) M (aput M key (i : Int)) := DueR.put act
      have htd : EV [some (V.int c), some (.ref dp), some (.ref a), some (.ref tp), some (.int m), some (.int (i : Int)), some (.int key), o7] H7 (tTup (tCons (tC (.str "put")) (tCons (tVar 6) (tCons (tVar 5) tNil)))) (Call.put key (i : Int)).d := ev_tup (eva_cons ev_str (eva_cons (ev_var (i := 6) rfl (.int key)) (eva_cons (ev_var (i := 5) rfl (.int (i : Int))) eva_nil)))
      refine ⟨_, rfl, htd H7 (Ex.refl _) _ fun cv H8 e8 d8 => ?_⟩
      refine ⟨a, pg, .put key (i : Int), cv, path, res, rfl, ha6.x (e7.trans e8), d8, hw, hR, fun v H9 e9 hv => ?_⟩
      have e69 := (e7.trans e8).trans e9
      -- the table
      have put : ∀ (a2 : Addr) (pg2 : List (Int × (Int × Rec))) (H10 : Hp) (D' : Ends), Ex H6 H10 → DkT pgd H10 a2 pg2 → a2 ≠ tp → Good pg2 (aput M key (i : Int)) (i + 1) →
          (∀ σ' H', (∃ (a : Addr) (pg : List (Int × (Int × Rec))) (M : List (Int × Int)) (o5 o6 o7 : Option V), Ex H H' ∧ H' dp = some (.lst ([d0, d1, d2, d3].map V.int)) ∧ DkT pgd H' a pg ∧ DkT PyData.int H' tp M ∧ Good pg M (i + 1) ∧ a ≠ tp ∧ dp ≠ tp ∧ σ' = [some (.int c), some (.ref dp), some (.ref a), some (.ref tp), some (.int m), o5, o6, o7]) → D'.nx σ' H') →
          sDPut (tVar 3) (tVar 6) (tVar 5) D' [some (V.int c), some (.ref dp), some (.ref a2), some (.ref tp), some (.int m), some (.int (i : Int)), some (.int key), some v] H10 := fun a2 pg2 H10 D' e10 ha10 n2 g10 kk' =>
        cs_dput (f := PyData.int) (x := (i : Int)) (i := 3) rfl (ht6.x e10) (ev_var (i := 5) rfl (.int _)) (ev_var (i := 6) rfl (.int key)) (by have := g6.tlen; omega) fun H11 o kv e11 hk11 hd11 =>
          kk' _ _ ⟨a2, pg2, _, _, _, _, ((e6.trans e10).trans e11).put0 ftp, by rw [upd_ne ndt]; exact (e10.trans e11) _ _ hdp6, (ha10.x e11).keep (ExT.dput hk11) fun o h => by rw [upd_ne n2]; exact h, hd11, g10, n2, ndt, rfl⟩
      show (fun σ3 H3 => _) [some (V.int c), some (.ref dp), some (.ref a), some (.ref tp), some (.int m), some (.int (i : Int)), some (.int key), some v] H9
      have tt : EVT [some (V.int c), some (.ref dp), some (.ref a), some (.ref tp), some (.int m), some (.int (i : Int)), some (.int key), some v] H9 (tTest (tOp rEq (tOp (rIxT K) (tVar 7) (tC (.int 0))) (tC (.str "change")))) (decide (res.tag = "change")) := evt_test (ev_op (ev_ptag (i := 7) rfl hv) ev_str rd_eqS)
      cases res with
      | read q => exact absurd rfl (sOk.read q)
      | ans d =>
        refine cs_no tt (decide_eq_false ans_change) fun H10 e10 => ?_
        exact put a pg H10 _ (e69.trans e10) (ha6.x (e69.trans e10)) nat (sOk.ans d rfl _ hdue) fun _ _ h => h
      | change d st =>
        refine cs_yes tt (decide_eq_true rfl) fun H10 e10 => ?_
        refine cs_applied (i := 2) (j := 7) rfl rfl (ha6.x (e69.trans e10)) (hv.x e10) (fun E hE => (sOk.change d st rfl E hE).1) fun p mm E H11 hE e11 fp hp => ?_
        have e611 := (e69.trans e10).trans e11
        have np : p ≠ tp := by
          obtain ⟨kv, h⟩ := (ht6.x (e69.trans e10)).is
          exact (ne_of_none h fp).symm
        refine cs_ifF (rd_isRef (i := 2) rfl) rfl fun H12 e12 => ?_
        exact put p _ H12 _ (e611.trans e12) (hp.x e12) np ((sOk.change d st rfl E hE).2 mm _ hdue) fun _ _ h => h
    · rintro σ' H6 ⟨a, pg, M, o5, o6, o7, e6, hdp6, ha6, ht6, g6, nat, ndt, rfl⟩
      exact kk _ _ _ a pg M H6 e6 ha6 ht6 (g6.mono (by omega))
  have back : ∀ (o4 o5 o6 o7 : Option V) (a : Addr) (pg : List (Int × (Int × Rec))) (M : List (Int × Int)) (H6 : Hp), Ex H H6 → DkT pgd H6 a pg → DkT PyData.int H6 tp M → Good pg M 40 → (tTup (tCons (tVar 2) (tCons (tVar 3) tNil)) : TE) [some (.int c), some (.ref dp), some (.ref a), some (.ref tp), o4, o5, o6, o7] H6 Q := fun o4 o5 o6 o7 a pg M H6 e6 ha6 ht6 g6 =>
    ⟨_, rfl, _, rfl, by show 2 ≤ sizeLine; decide, fun t ht => k t a tp pg M _ (e6.add ht) upd_same (ha6.x (Ex.new ht)) (ht6.x (Ex.new ht)) g6⟩
  have tt : EVT [some (.int c), some (.ref dp), some (.ref a0), some (.ref tp), some (.int m0), none, none, none] H4 (tTest (tOp rEq (tOp (rIxL K) (tVar 1) (tC (.int 0))) (tC (.int 0)))) (decide (d0 = 0)) := evt_test (ev_op (dg e14 (z := 0) (v := d0) rfl) ev_int rd_eqI)
  by_cases c0 : d0 = 0
  · refine cs_yes tt (decide_eq_true c0) fun H5 e5 => ?_
    refine cs_set1 (i := 4) (dg (e14.trans e5) (z := 1) (v := d1) rfl) fun v H6 e6 y6 => ?_
    cases y6
    exact main d1 H6 _ r1.1 r1.2 ((e4.trans e5).trans e6) fun o5 o6 o7 a pg M H7 e7 ha7 ht7 g7 => back _ _ _ _ a pg M H7 e7 ha7 ht7 g7
  · refine cs_no tt (decide_eq_false c0) fun H5 e5 => ?_
    exact main m0 H5 _ hm0.1 (by omega) (e4.trans e5) fun o5 o6 o7 a pg M H7 e7 ha7 ht7 g7 => back _ _ _ _ a pg M H7 e7 ha7 ht7 g7
abbrev N_law : List Str := ["_law_script", "_law_k", "_law_pages", "_law_table", "_law_call_here", "_law_told"]
theorem sc_law : FnScope N_law ["_law_script"] (defScope s_law) := ⟨rfl, rfl, rfl, by decide +kernel, rfl, by decide +kernel, by decide +kernel⟩
theorem ok_law {f : Addr} {fd : FuncData} (F : FnP K "law" "law" s_law f fd) (T : Bu mg) (c_law_filled : Cal P w K mg base 14 "_law_filled" ["_law_cell_here"] spFilled) (c_law_cell : Cal P w K mg base 1 "_law_cell" ["_law_script", "_law_k"] (spCell K)) (c_law_map : Cal P w K mg base 3 "_law_map" ["_law_pages"] spMap) (c_law_many : Cal P w K mg base 1 "_law_many" ["_law_script", "_law_few", "_law_many_here"] (spMany K))
    (c_law_call : Cal P w K mg base 2 "_law_call" ["_law_cell_here", "_law_width", "_law_table"] spCall) (c_law_planned : Cal P w K mg base 13 "_law_planned" ["_law_pages", "_law_call_here"] spPlanned) (c_law_applied : Cal P w K mg base 3 "_law_applied" ["_law_pages", "_law_entries"] spApplied) (c_law_due : Cal P w K mg base 1 "_law_due" ["_law_table", "_law_call_here"] spDue) : FnOk P w K mg base CX0 15 f fd ["_law_script"] (spLaw K) := by
  refine F.ok sc_law (fun vs H Q E h => ?_) (fun cdv A outer s H vs Q E hr h => ?_)
  · obtain ⟨a, ns, rfl, _⟩ := h
    rfl
  obtain ⟨sa, ns, rfl, hs, hz, k⟩ := h
  have nd := sc_law.nd
  have hu := hu_of hr
  refine ⟨_, PSs.nox (pss_cons (ps_asg (pe_cl c_law_filled hr (by decide) (by rfl) (pa_cons (pe_cl c_law_cell hr (by decide) (by rfl) (pa_cons (pv 0) (pa_cons pe_int pa_nil))) pa_nil)) (pg_tup rfl (pgs_cons (pg_name (i := 2) nd rfl (Or.inl rfl)) (pgs_cons (pg_name (i := 3) nd rfl (Or.inl rfl)) pgs_nil))))
    (pss_cons (ps_if (PW.pt (pw_or (pt_cmpR op_isN1 (pv 2) pe_non (nomark _)) (pw_or1 (pt_cmpR (op_ne_dictA (Nat.lt_of_succ_lt hu)) (pe_cl c_law_map hr (by decide) (by rfl) (pa_cons (pv 2) pa_nil)) (pv 3) (nomark _))))) (pss_one (ps_ret pe_bl)) pss_nil)
    (pss_cons (ps_for PassesOwn.never rfl (pi_range1 (by rfl) T.range (pa_cons (pe_callB (call_min2 rfl) (by rfl) T.min (by decide +kernel) (pa_cons (pe_callB call_lenS (by rfl) T.len (by decide +kernel) (pa_cons (pv 0) pa_nil)) (pa_cons (pe_cl c_law_many hr (by decide) (by rfl) (pa_cons (pv 0) (pa_cons pe_int (pa_cons pe_int pa_nil)))) pa_nil))) pa_nil)) (pg_name (i := 1) nd rfl (Or.inl rfl))
    (pss_cons (ps_set (i := 4) nd rfl (Or.inl rfl) (pe_cl c_law_call hr (by decide) (by rfl) (pa_cons (pe_op op_add (pe_cl c_law_cell hr (by decide) (by rfl) (pa_cons (pv 0) (pa_cons (pv 1) pa_nil))) (pe_op op_mul pe_int (pv 1))) (pa_cons (pe_ix ix_list (pe_lst (pa_cons pe_int (pa_cons pe_int (pa_cons pe_int (pa_cons pe_int pa_nil))))) (pe_op op_modN (pe_op op_fdivN (pe_callTy call_intS (by rfl) T.int (by decide +kernel) (pa_cons (pe_cl c_law_cell hr (by decide) (by rfl) (pa_cons (pv 0) (pa_cons pe_int pa_nil))) pa_nil)) pe_int) pe_int) (fun _ _ => rfl)) (pa_cons (pv 3) pa_nil)))))
    (pss_cons (ps_set (i := 5) nd rfl (Or.inl rfl) (pe_cl c_law_planned hr (by decide) (by rfl) (pa_cons (pv 2) (pa_cons (pv 4) pa_nil))))
    (pss_cons (ps_if (pt_cmpR op_eq (pe_ix ix_tup (pv 5) pe_int (fun _ _ => rfl)) pe_str (nomark _)) (pss_cons (ps_set (i := 2) nd rfl (Or.inl rfl) (pe_cl c_law_applied hr (by decide) (by rfl) (pa_cons (pv 2) (pa_cons (pe_ix ix_tup (pv 5) pe_int (fun _ _ => rfl)) pa_nil))))
    (pss_one (ps_if (pt_cmpR op_isN1 (pv 2) pe_non (nomark _)) (pss_one (ps_ret pe_bl)) pss_nil))) (pss_one (ps_if (pt_cmpR op_ne (pe_ix ix_tup (pv 5) pe_int (fun _ _ => rfl)) pe_str (nomark _)) (pss_one (ps_ret pe_bl)) pss_nil)))
    (pss_cons (ps_set (i := 3) nd rfl (Or.inl rfl) (pe_ix ix_tup (pe_cl c_law_due hr (by decide) (by rfl) (pa_cons (pv 3) (pa_cons (pv 4) pa_nil))) pe_int (fun _ _ => rfl)))
    (pss_one (ps_if (pt_cmpR (op_ne_dictA (Nat.lt_of_succ_lt hu)) (pe_cl c_law_map hr (by decide) (by rfl) (pa_cons (pv 2) pa_nil)) (pv 3) (nomark _)) (pss_one (ps_ret pe_bl)) pss_nil)))))))
    (pss_one (ps_ret pe_bl))))), ?_⟩
  have cell0 : ∀ {o1 o2 o3 o4 o5 : Option V} {H1 : Hp}, Ex H H1 → EV [some (.ref sa), o1, o2, o3, o4, o5] H1 (tCall (spCell K) [] E0 (tCons (tVar 0) (tCons (tC (.int 0)) tNil))) (.int (ns.getD 0 0)) := fun e => ev_cell (k := 0) rfl (SqL.x hs e) hz (ev_int (i := 0))
  refine cell0 (o1 := none) (o2 := none) (o3 := none) (o4 := none) (o5 := none) (Ex.refl H) H (Ex.refl _) _ fun v H1 e1 d1 => ?_
  cases d1
  refine ⟨_, rfl, fun t a b pg M H2 e2 ht ha hb g => ?_⟩
  refine ⟨t, _, rfl, SqT.of ht, rfl, _, _, rfl, _, _, rfl, rfl, ?_⟩
  have e02 := e1.trans e2
  show (fun σ3 H3 => _) [some (V.ref sa), none, some (.ref a), some (.ref b), none, none] H2
  refine cs_no (evt_or (rd_isRef (i := 2) rfl) fun _ => evt_map (K := K) rfl rfl ha hb g (by decide)) rfl fun H3 e3 => ?_
  -- the range
  have e03 := e02.trans e3
  refine ev_lenQ (K := K) (i := 0) (σ := [some (.ref sa), none, some (.ref a), some (.ref b), none, none]) rfl (SqL.x hs e03) H3 (Ex.refl _) _ fun lv H4 e4 d4 => ?_
  cases d4
  refine ⟨_, rfl, sa, ns, 14, 60, rfl, SqL.x hs (e03.trans e4), hz, fun r H5 e5 hr' => ?_⟩
  have e35 := e4.trans e5
  refine ⟨_, _, rfl, ?_⟩
  rw [List.length_map]
  generalize hmn : (if r < (ns.length : Int) then r else (ns.length : Int)) = mn
  have hmn2 : 0 ≤ mn ∧ mn ≤ 60 := by
    rw [← hmn]
    rcases hr' with rfl | rfl <;> split <;> omega
  refine ⟨mn, rfl, by omega, by omega, ?_⟩
  refine for_range (lo := 0) (n := mn.toNat) (fun i σ' H' => ∃ (a b : Addr) (pg : List (Int × (Int × Rec))) (M : List (Int × Int)) (o1 o4 o5 : Option V), Ex H H' ∧ DkT pgd H' a pg ∧ DkT PyData.int H' b M ∧ Good pg M (40 + i) ∧ σ' = [some (.ref sa), o1, some (.ref a), some (.ref b), o4, o5]) ⟨a, b, pg, M, none, none, none, e03.trans e35, ha.x (e3.trans e35), hb.x (e3.trans e35), g, rfl⟩ ?_ fun σ' H6 _ => k _
  rintro i σ' H6 hi ⟨a, b, pg, M, o1, o4, o5, e6, ha6, hb6, g6, rfl⟩
  show (fun σ3 H3 => _) [some (V.ref sa), some (.int (0 + (i : Int))), some (.ref a), some (.ref b), o4, o5] H6
  rw [show (0 : Int) + (i : Int) = (i : Int) by omega]
  -- the call
  have first : EV [some (V.ref sa), some (.int (i : Int)), some (.ref a), some (.ref b), o4, o5] H6 (tOp (rI0 fun i j => .int (i + j)) (tCall (spCell K) [] E0 (tCons (tVar 0) (tCons (tVar 1) tNil))) (tOp (rI CMul fun i j => .int (i * j)) (tC (.int 3)) (tVar 1))) (.int (ns.getD i 0 + 3 * (i : Int))) :=
    ev_op (ev_cell (k := i) rfl (SqL.x hs e6) hz (ev_var (i := 1) rfl (.int _))) (ev_op (ev_int (i := 3)) (ev_var (i := 1) rfl (.int _)) (rd_IC (C := CMul) (f := fun i j => i * j) (.inl ⟨by decide, by decide⟩))) (rd_I (f := fun i j => i + j))
  have hx1 := Int.fmod_nonneg_of_pos ((ns.getD 0 0).fdiv 7) (b := 4) (by decide)
  have hx2 := Int.fmod_lt_of_pos ((ns.getD 0 0).fdiv 7) (b := 4) (by decide)
  obtain ⟨wd, hw1, hw2⟩ : ∃ wd : Int, atI [PyData.int 8, .int 30, .int 60, .int 1000] (((ns.getD 0 0).fdiv 7).fmod 4) = some (.int wd) ∧ 0 < wd ∧ wd < 1073741824 := by
    generalize ((ns.getD 0 0).fdiv 7).fmod 4 = z at hx1 hx2
    have : z = 0 ∨ z = 1 ∨ z = 2 ∨ z = 3 := by omega
    rcases this with rfl | rfl | rfl | rfl
    · exact ⟨8, rfl, by decide, by decide⟩
    · exact ⟨30, rfl, by decide, by decide⟩
    · exact ⟨60, rfl, by decide, by decide⟩
    · exact ⟨1000, rfl, by decide, by decide⟩
  refine first H6 (Ex.refl _) _ fun v1 H7 e7 y7 => ?_
  cases y7
  refine ev_lit (K := K) (σ := [some (V.ref sa), some (.int (i : Int)), some (.ref a), some (.ref b), o4, o5]) (eva_cons (ev_int (i := 8)) (eva_cons (ev_int (i := 30)) (eva_cons (ev_int (i := 60)) (eva_cons (ev_int (i := 1000)) eva_nil)))) (ev_op (ev_op (ev_i1 (cell0 (e6.trans e7))) (ev_int (i := 7)) (rd_IC (C := CDivN) (f := fun i j => i.fdiv j) ⟨by decide, by decide⟩)) (ev_int (i := 4)) (rd_mod (by decide))) hw1 (Nat.le_of_ble_eq_true rfl) H7 (Ex.refl _) _ fun v2 H8 e8 y8 => ?_
  cases y8
  have e68 := e7.trans e8
  refine ⟨_, rfl, _, wd, b, M, rfl, hb6.x e68, hw2, by have := g6.tlen; omega, fun c cv H9 e9 d9 => ?_⟩
  have e69 := e68.trans e9
  obtain ⟨path, res, hw, hR, sOk⟩ := g6.step (by omega) c
  -- told
  refine ⟨_, rfl, _, rfl, a, pg, c, cv, path, res, rfl, ha6.x e69, d9, hw, hR, fun v H10 e10 hv => ?_⟩
  have e610 := e69.trans e10
  show (fun σ3 H3 => _) [some (V.ref sa), some (.int (i : Int)), some (.ref a), some (.ref b), some cv, some v] H10
  -- the end of a turn
  have last : ∀ (a2 : Addr) (pg2 : List (Int × (Int × Rec))) (H11 : Hp) (D : Ends), Ex H6 H11 → Ex H10 H11 → DkT pgd H11 a2 pg2 → (∀ M', DueR c M M' → Good pg2 M' (40 + i + 1)) → (∀ σ' H', (∃ (a b : Addr) (pg : List (Int × (Int × Rec))) (M : List (Int × Int)) (o1 o4 o5 : Option V), Ex H H' ∧ DkT pgd H' a pg ∧ DkT PyData.int H' b M ∧ Good pg M (40 + (i + 1)) ∧ σ' = [some (.ref sa), o1, some (.ref a), some (.ref b), o4, o5]) → D.nx σ' H') →
      tSeq (tAsg (tOp (rIxT K) (tCall spDue [] E0 (tCons (tVar 3) (tCons (tVar 4) tNil))) (tC (.int 1))) (gName 3)) (tIfS (tTest (tOp rNeDA (tCall spMap [] E0 (tCons (tVar 2) tNil)) (tVar 3))) (tRet (tC (.bl false))) tNext) D [some (V.ref sa), some (.int (i : Int)), some (.ref a2), some (.ref b), some cv, some v] H11 := fun a2 pg2 H11 D e11 e1011 ha11 g11 kk => by
    refine ⟨_, rfl, _, rfl, b, M, c, cv, rfl, hb6.x e11, d9.x (e10.trans e1011), by have := g6.tlen; omega, fun t p x M' H12 e12 ht12 hd12 hdue => ?_⟩
    refine ⟨t, _, 1, .ref p, rfl, rfl, SqT.of ht12, atI_nat (j := 1) rfl, ?_⟩
    have g12 := g11 M' hdue
    refine cs_ifF (evt_map (K := K) (σ := [some (V.ref sa), some (.int (i : Int)), some (.ref a2), some (.ref p), some cv, some v]) rfl rfl (ha11.x e12) hd12 g12 (by omega)) rfl fun H13 e13 => ?_
    exact kk _ _ ⟨a2, p, pg2, M', _, _, _, (e6.trans e11).trans (e12.trans e13), (ha11.x e12).x e13, hd12.x e13, g12, rfl⟩
  have tt : ∀ {H11 : Hp}, Ex H10 H11 → EVT [some (V.ref sa), some (.int (i : Int)), some (.ref a), some (.ref b), some cv, some v] H11 (tTest (tOp rEq (tOp (rIxT K) (tVar 5) (tC (.int 0))) (tC (.str "change")))) (decide (res.tag = "change")) := fun e => evt_test (ev_op (ev_ptag (i := 5) rfl (hv.x e)) ev_str rd_eqS)
  cases res with
  | read q => exact absurd rfl (sOk.read q)
  | ans d =>
    refine cs_ifF (D := { nx := _, rt := _, bk := _, ct := _ }) (tt (Ex.refl _)) (decide_eq_false ans_change) fun H11 e11 => ?_
    refine cs_ifF (evt_test (ev_op (ev_ptag (i := 5) (res := .ans d) rfl (hv.x e11)) (ev_str (i := "answer")) rd_neS)) rfl fun H12 e12 => ?_
    exact last a pg H12 _ (e610.trans (e11.trans e12)) (e11.trans e12) (ha6.x (e610.trans (e11.trans e12))) (fun M' hM => sOk.ans d rfl M' hM) fun _ _ h => h
  | change d st =>
    refine cs_ifT (D := { nx := _, rt := _, bk := _, ct := _ }) (tt (Ex.refl _)) (decide_eq_true rfl) fun H11 e11 => ?_
    refine cs_applied (i := 2) (j := 5) rfl rfl (ha6.x (e610.trans e11)) (hv.x e11) (fun E hE => (sOk.change d st rfl E hE).1) fun p mm E H12 hE e12 fp hp => ?_
    refine cs_ifF (rd_isRef (i := 2) rfl) rfl fun H13 e13 => ?_
    have e1013 := (e11.trans e12).trans e13
    exact last p _ H13 _ (e610.trans e1013) e1013 (hp.x e13) (fun M' hM => (sOk.change d st rfl E hE).2 mm M' hM) fun _ _ h => h
end
end Esp
set_option Elab.async false
set_option linter.all false
set_option maxRecDepth 100000
set_option maxHeartbeats 4000000
namespace Esp
open PySem PySem.Spec PyProof.Rows L2
def fn : List He.DefD := [
  ⟨("is_integer", none), "is_integer", "is_integer", defArgs s_is_integer, defBody s_is_integer, defScope s_is_integer, [], []⟩,
  ⟨("is_bound", none), "is_bound", "is_bound", defArgs s_is_bound, defBody s_is_bound, defScope s_is_bound, [], []⟩,
  ⟨("are_integers", none), "are_integers", "are_integers", defArgs s_are_integers, defBody s_are_integers, defScope s_are_integers, [], []⟩,
  ⟨("are_ascending", none), "are_ascending", "are_ascending", defArgs s_are_ascending, defBody s_are_ascending, defScope s_are_ascending, [], []⟩,
  ⟨("is_above", none), "is_above", "is_above", defArgs s_is_above, defBody s_is_above, defScope s_is_above, [], []⟩,
  ⟨("is_below", none), "is_below", "is_below", defArgs s_is_below, defBody s_is_below, defScope s_is_below, [], []⟩,
  ⟨("is_leaf", none), "is_leaf", "is_leaf", defArgs s_is_leaf, defBody s_is_leaf, defScope s_is_leaf, [], []⟩,
  ⟨("is_inner", none), "is_inner", "is_inner", defArgs s_is_inner, defBody s_is_inner, defScope s_is_inner, [], []⟩,
  ⟨("is_record", none), "is_record", "is_record", defArgs s_is_record, defBody s_is_record, defScope s_is_record, [], []⟩,
  ⟨("checked", none), "checked", "checked", defArgs s_checked, defBody s_checked, defScope s_checked, [], []⟩,
  ⟨("leaf", none), "leaf", "leaf", defArgs s_leaf, defBody s_leaf, defScope s_leaf, [], []⟩,
  ⟨("inner", none), "inner", "inner", defArgs s_inner, defBody s_inner, defScope s_inner, [], []⟩,
  ⟨("level_of", none), "level_of", "level_of", defArgs s_level_of, defBody s_level_of, defScope s_level_of, [], []⟩,
  ⟨("bounds_of", none), "bounds_of", "bounds_of", defArgs s_bounds_of, defBody s_bounds_of, defScope s_bounds_of, [], []⟩,
  ⟨("size_of", none), "size_of", "size_of", defArgs s_size_of, defBody s_size_of, defScope s_size_of, [], []⟩,
  ⟨("value_in", none), "value_in", "value_in", defArgs s_value_in, defBody s_value_in, defScope s_value_in, [], []⟩,
  ⟨("place_of", none), "place_of", "place_of", defArgs s_place_of, defBody s_place_of, defScope s_place_of, [], []⟩,
  ⟨("child_bounds", none), "child_bounds", "child_bounds", defArgs s_child_bounds, defBody s_child_bounds, defScope s_child_bounds, [], []⟩,
  ⟨("with_value", none), "with_value", "with_value", defArgs s_with_value, defBody s_with_value, defScope s_with_value, [], []⟩,
  ⟨("without_key", none), "without_key", "without_key", defArgs s_without_key, defBody s_without_key, defScope s_without_key, [], []⟩,
  ⟨("with_child", none), "with_child", "with_child", defArgs s_with_child, defBody s_with_child, defScope s_with_child, [], []⟩,
  ⟨("without_child", none), "without_child", "without_child", defArgs s_without_child, defBody s_without_child, defScope s_without_child, [], []⟩,
  ⟨("with_separator", none), "with_separator", "with_separator", defArgs s_with_separator, defBody s_with_separator, defScope s_with_separator, [], []⟩,
  ⟨("cut", none), "cut", "cut", defArgs s_cut, defBody s_cut, defScope s_cut, [], []⟩,
  ⟨("joined", none), "joined", "joined", defArgs s_joined, defBody s_joined, defScope s_joined, [], []⟩,
  ⟨("leaf_change", none), "leaf_change", "leaf_change", defArgs s_leaf_change, defBody s_leaf_change, defScope s_leaf_change, [], []⟩,
  ⟨("most_of", none), "most_of", "most_of", defArgs s_most_of, defBody s_most_of, defScope s_most_of, [], []⟩,
  ⟨("Draft", some "__init__"), "__init__", "Draft.__init__", defArgs s_Draft_init, defBody s_Draft_init, defScope s_Draft_init, [], []⟩,
  ⟨("Draft", some "give"), "give", "Draft.give", defArgs s_Draft_give, defBody s_Draft_give, defScope s_Draft_give, [], []⟩,
  ⟨("Draft", some "add_page"), "add_page", "Draft.add_page", defArgs s_Draft_add_page, defBody s_Draft_add_page, defScope s_Draft_add_page, [], []⟩,
  ⟨("Draft", some "entries"), "entries", "Draft.entries", defArgs s_Draft_entries, defBody s_Draft_entries, defScope s_Draft_entries, [], []⟩,
  ⟨("Draft", some "place_in_parent"), "place_in_parent", "Draft.place_in_parent", defArgs s_Draft_place_in_parent, defBody s_Draft_place_in_parent, defScope s_Draft_place_in_parent, [], []⟩,
  ⟨("Draft", some "settle"), "settle", "Draft.settle", defArgs s_Draft_settle, defBody s_Draft_settle, defScope s_Draft_settle, [], []⟩,
  ⟨("Draft", some "divide"), "divide", "Draft.divide", defArgs s_Draft_divide, defBody s_Draft_divide, defScope s_Draft_divide, [], []⟩,
  ⟨("Draft", some "unite"), "unite", "Draft.unite", defArgs s_Draft_unite, defBody s_Draft_unite, defScope s_Draft_unite, [], []⟩,
  ⟨("Draft", some "unite_pair"), "unite_pair", "Draft.unite_pair", defArgs s_Draft_unite_pair, defBody s_Draft_unite_pair, defScope s_Draft_unite_pair, [], []⟩,
  ⟨("plan", none), "plan", "plan", defArgs s_plan, defBody s_plan, defScope s_plan, [], []⟩,
  ⟨("new_pages", none), "new_pages", "new_pages", defArgs s_new_pages, defBody s_new_pages, defScope s_new_pages, [], []⟩,
  ⟨("real_page", none), "real_page", "real_page", defArgs s_real_page, defBody s_real_page, defScope s_real_page, [], []⟩,
  ⟨("placed", none), "placed", "placed", defArgs s_placed, defBody s_placed, defScope s_placed, [], []⟩,
  ⟨("_law_cell", none), "_law_cell", "_law_cell", defArgs s_law_cell, defBody s_law_cell, defScope s_law_cell, [], []⟩,
  ⟨("_law_digits", none), "_law_digits", "_law_digits", defArgs s_law_digits, defBody s_law_digits, defScope s_law_digits, [], []⟩,
  ⟨("_law_many", none), "_law_many", "_law_many", defArgs s_law_many, defBody s_law_many, defScope s_law_many, [], []⟩,
  ⟨("_law_call", none), "_law_call", "_law_call", defArgs s_law_call, defBody s_law_call, defScope s_law_call, [], []⟩,
  ⟨("_law_due", none), "_law_due", "_law_due", defArgs s_law_due, defBody s_law_due, defScope s_law_due, [], []⟩,
  ⟨("_law_walk", none), "_law_walk", "_law_walk", defArgs s_law_walk, defBody s_law_walk, defScope s_law_walk, [], []⟩,
  ⟨("_law_planned", none), "_law_planned", "_law_planned", defArgs s_law_planned, defBody s_law_planned, defScope s_law_planned, [], []⟩,
  ⟨("_law_free", none), "_law_free", "_law_free", defArgs s_law_free, defBody s_law_free, defScope s_law_free, [], []⟩,
  ⟨("_law_applied", none), "_law_applied", "_law_applied", defArgs s_law_applied, defBody s_law_applied, defScope s_law_applied, [], []⟩,
  ⟨("_law_ascending", none), "_law_ascending", "_law_ascending", defArgs s_law_ascending, defBody s_law_ascending, defScope s_law_ascending, [], []⟩,
  ⟨("_law_below", none), "_law_below", "_law_below", defArgs s_law_below, defBody s_law_below, defScope s_law_below, [], []⟩,
  ⟨("_law_fits", none), "_law_fits", "_law_fits", defArgs s_law_fits, defBody s_law_fits, defScope s_law_fits, [], []⟩,
  ⟨("_law_map", none), "_law_map", "_law_map", defArgs s_law_map, defBody s_law_map, defScope s_law_map, [], []⟩,
  ⟨("_law_start", none), "_law_start", "_law_start", defArgs s_law_start, defBody s_law_start, defScope s_law_start, [], []⟩,
  ⟨("_law_filled", none), "_law_filled", "_law_filled", defArgs s_law_filled, defBody s_law_filled, defScope s_law_filled, [], []⟩,
  ⟨("law", none), "law", "law", defArgs s_law, defBody s_law, defScope s_law, [], []⟩]
def fa : List He.Fa := [.glo "is_integer", .glo "is_bound", .glo "are_integers", .glo "are_ascending", .glo "is_above", .glo "is_below", .glo "is_leaf", .glo "is_inner", .glo "is_record", .glo "checked", .glo "leaf", .glo "inner", .glo "level_of", .glo "bounds_of", .glo "size_of", .glo "value_in", .glo "place_of", .glo "child_bounds", .glo "with_value", .glo "without_key", .glo "with_child", .glo "without_child", .glo "with_separator", .glo "cut", .glo "joined", .glo "leaf_change", .glo "most_of", .glo "Draft", .glo "plan", .glo "new_pages", .glo "real_page", .glo "placed", .glo "_law_cell", .glo "_law_digits", .glo "_law_many", .glo "_law_call", .glo "_law_due", .glo "_law_walk", .glo "_law_planned", .glo "_law_free", .glo "_law_applied", .glo "_law_ascending", .glo "_law_below", .glo "_law_fits", .glo "_law_map", .glo "_law_start", .glo "_law_filled", .glo "law", .int "LEAF_MOST" 4, .int "INNER_MOST" 5, .int "LEAST" 2, .free "len", .free "isinstance", .free "all", .free "range", .free "tuple", .free "sorted", .free "dict", .free "list", .free "max", .free "min", .free "int", .free "bool", .cls "Draft", .noat "Draft" "path", .noat "Draft" "siblings", .noat "Draft" "records", .noat "Draft" "addresses", .noat "Draft" "fresh", .meth "Draft" "give", .meth "Draft" "add_page", .meth "Draft" "entries", .meth "Draft" "place_in_parent", .meth "Draft" "settle", .meth "Draft" "divide", .meth "Draft" "unite", .meth "Draft" "unite_pair", .mkr "Draft"]
def loose0 : List Str := ["EspalierError", "Broken", "LEAF_MOST", "INNER_MOST", "LEAST", "is_integer", "is_bound", "are_integers", "are_ascending", "is_above", "is_below", "is_leaf", "is_inner", "is_record", "checked", "leaf", "inner", "level_of", "bounds_of", "size_of"]
def loose1 : List Str := ["value_in", "place_of", "child_bounds", "with_value", "without_key", "with_child", "without_child", "with_separator", "cut", "joined", "leaf_change", "most_of", "Draft", "plan", "new_pages", "real_page", "placed", "_law_cell", "_law_digits", "_law_many"]
def loose2 : List Str := ["_law_call", "_law_due", "_law_covers", "_law_walk", "_law_planned", "_law_free", "_law_applied", "_law_ascending", "_law_below", "_law_fits", "_law_map", "_law_start", "_law_filled"]
def loose : List Str := loose0 ++ (loose1 ++ (loose2))
end Esp
set_option Elab.async false
set_option linter.all false
set_option maxRecDepth 100000
set_option maxHeartbeats 4000000
namespace Esp
open PySem PySem.Spec PyProof.Rows L2

section
variable {K : PySem.W.Frag}
theorem fd_is_integer (c : He.SaysD fa fn K) : ∃ fd, FnP K "is_integer" "is_integer" s_is_integer (He.ga K "is_integer") fd := c.def_ 0 (d := ⟨("is_integer", none), "is_integer", "is_integer", defArgs s_is_integer, defBody s_is_integer, defScope s_is_integer, [], []⟩) rfl
theorem fd_is_bound (c : He.SaysD fa fn K) : ∃ fd, FnP K "is_bound" "is_bound" s_is_bound (He.ga K "is_bound") fd := c.def_ 1 (d := ⟨("is_bound", none), "is_bound", "is_bound", defArgs s_is_bound, defBody s_is_bound, defScope s_is_bound, [], []⟩) rfl
theorem fd_are_integers (c : He.SaysD fa fn K) : ∃ fd, FnP K "are_integers" "are_integers" s_are_integers (He.ga K "are_integers") fd := c.def_ 2 (d := ⟨("are_integers", none), "are_integers", "are_integers", defArgs s_are_integers, defBody s_are_integers, defScope s_are_integers, [], []⟩) rfl
theorem fd_are_ascending (c : He.SaysD fa fn K) : ∃ fd, FnP K "are_ascending" "are_ascending" s_are_ascending (He.ga K "are_ascending") fd := c.def_ 3 (d := ⟨("are_ascending", none), "are_ascending", "are_ascending", defArgs s_are_ascending, defBody s_are_ascending, defScope s_are_ascending, [], []⟩) rfl
theorem fd_is_above (c : He.SaysD fa fn K) : ∃ fd, FnP K "is_above" "is_above" s_is_above (He.ga K "is_above") fd := c.def_ 4 (d := ⟨("is_above", none), "is_above", "is_above", defArgs s_is_above, defBody s_is_above, defScope s_is_above, [], []⟩) rfl
theorem fd_is_below (c : He.SaysD fa fn K) : ∃ fd, FnP K "is_below" "is_below" s_is_below (He.ga K "is_below") fd := c.def_ 5 (d := ⟨("is_below", none), "is_below", "is_below", defArgs s_is_below, defBody s_is_below, defScope s_is_below, [], []⟩) rfl
theorem fd_is_leaf (c : He.SaysD fa fn K) : ∃ fd, FnP K "is_leaf" "is_leaf" s_is_leaf (He.ga K "is_leaf") fd := c.def_ 6 (d := ⟨("is_leaf", none), "is_leaf", "is_leaf", defArgs s_is_leaf, defBody s_is_leaf, defScope s_is_leaf, [], []⟩) rfl
theorem fd_is_inner (c : He.SaysD fa fn K) : ∃ fd, FnP K "is_inner" "is_inner" s_is_inner (He.ga K "is_inner") fd := c.def_ 7 (d := ⟨("is_inner", none), "is_inner", "is_inner", defArgs s_is_inner, defBody s_is_inner, defScope s_is_inner, [], []⟩) rfl
theorem fd_is_record (c : He.SaysD fa fn K) : ∃ fd, FnP K "is_record" "is_record" s_is_record (He.ga K "is_record") fd := c.def_ 8 (d := ⟨("is_record", none), "is_record", "is_record", defArgs s_is_record, defBody s_is_record, defScope s_is_record, [], []⟩) rfl
theorem fd_checked (c : He.SaysD fa fn K) : ∃ fd, FnP K "checked" "checked" s_checked (He.ga K "checked") fd := c.def_ 9 (d := ⟨("checked", none), "checked", "checked", defArgs s_checked, defBody s_checked, defScope s_checked, [], []⟩) rfl
theorem fd_leaf (c : He.SaysD fa fn K) : ∃ fd, FnP K "leaf" "leaf" s_leaf (He.ga K "leaf") fd := c.def_ 10 (d := ⟨("leaf", none), "leaf", "leaf", defArgs s_leaf, defBody s_leaf, defScope s_leaf, [], []⟩) rfl
theorem fd_inner (c : He.SaysD fa fn K) : ∃ fd, FnP K "inner" "inner" s_inner (He.ga K "inner") fd := c.def_ 11 (d := ⟨("inner", none), "inner", "inner", defArgs s_inner, defBody s_inner, defScope s_inner, [], []⟩) rfl
theorem fd_level_of (c : He.SaysD fa fn K) : ∃ fd, FnP K "level_of" "level_of" s_level_of (He.ga K "level_of") fd := c.def_ 12 (d := ⟨("level_of", none), "level_of", "level_of", defArgs s_level_of, defBody s_level_of, defScope s_level_of, [], []⟩) rfl
theorem fd_bounds_of (c : He.SaysD fa fn K) : ∃ fd, FnP K "bounds_of" "bounds_of" s_bounds_of (He.ga K "bounds_of") fd := c.def_ 13 (d := ⟨("bounds_of", none), "bounds_of", "bounds_of", defArgs s_bounds_of, defBody s_bounds_of, defScope s_bounds_of, [], []⟩) rfl
theorem fd_size_of (c : He.SaysD fa fn K) : ∃ fd, FnP K "size_of" "size_of" s_size_of (He.ga K "size_of") fd := c.def_ 14 (d := ⟨("size_of", none), "size_of", "size_of", defArgs s_size_of, defBody s_size_of, defScope s_size_of, [], []⟩) rfl
theorem fd_value_in (c : He.SaysD fa fn K) : ∃ fd, FnP K "value_in" "value_in" s_value_in (He.ga K "value_in") fd := c.def_ 15 (d := ⟨("value_in", none), "value_in", "value_in", defArgs s_value_in, defBody s_value_in, defScope s_value_in, [], []⟩) rfl
theorem fd_place_of (c : He.SaysD fa fn K) : ∃ fd, FnP K "place_of" "place_of" s_place_of (He.ga K "place_of") fd := c.def_ 16 (d := ⟨("place_of", none), "place_of", "place_of", defArgs s_place_of, defBody s_place_of, defScope s_place_of, [], []⟩) rfl
theorem fd_child_bounds (c : He.SaysD fa fn K) : ∃ fd, FnP K "child_bounds" "child_bounds" s_child_bounds (He.ga K "child_bounds") fd := c.def_ 17 (d := ⟨("child_bounds", none), "child_bounds", "child_bounds", defArgs s_child_bounds, defBody s_child_bounds, defScope s_child_bounds, [], []⟩) rfl
theorem fd_with_value (c : He.SaysD fa fn K) : ∃ fd, FnP K "with_value" "with_value" s_with_value (He.ga K "with_value") fd := c.def_ 18 (d := ⟨("with_value", none), "with_value", "with_value", defArgs s_with_value, defBody s_with_value, defScope s_with_value, [], []⟩) rfl
theorem fd_without_key (c : He.SaysD fa fn K) : ∃ fd, FnP K "without_key" "without_key" s_without_key (He.ga K "without_key") fd := c.def_ 19 (d := ⟨("without_key", none), "without_key", "without_key", defArgs s_without_key, defBody s_without_key, defScope s_without_key, [], []⟩) rfl
theorem fd_with_child (c : He.SaysD fa fn K) : ∃ fd, FnP K "with_child" "with_child" s_with_child (He.ga K "with_child") fd := c.def_ 20 (d := ⟨("with_child", none), "with_child", "with_child", defArgs s_with_child, defBody s_with_child, defScope s_with_child, [], []⟩) rfl
theorem fd_without_child (c : He.SaysD fa fn K) : ∃ fd, FnP K "without_child" "without_child" s_without_child (He.ga K "without_child") fd := c.def_ 21 (d := ⟨("without_child", none), "without_child", "without_child", defArgs s_without_child, defBody s_without_child, defScope s_without_child, [], []⟩) rfl
theorem fd_with_separator (c : He.SaysD fa fn K) : ∃ fd, FnP K "with_separator" "with_separator" s_with_separator (He.ga K "with_separator") fd := c.def_ 22 (d := ⟨("with_separator", none), "with_separator", "with_separator", defArgs s_with_separator, defBody s_with_separator, defScope s_with_separator, [], []⟩) rfl
theorem fd_cut (c : He.SaysD fa fn K) : ∃ fd, FnP K "cut" "cut" s_cut (He.ga K "cut") fd := c.def_ 23 (d := ⟨("cut", none), "cut", "cut", defArgs s_cut, defBody s_cut, defScope s_cut, [], []⟩) rfl
theorem fd_joined (c : He.SaysD fa fn K) : ∃ fd, FnP K "joined" "joined" s_joined (He.ga K "joined") fd := c.def_ 24 (d := ⟨("joined", none), "joined", "joined", defArgs s_joined, defBody s_joined, defScope s_joined, [], []⟩) rfl
theorem fd_leaf_change (c : He.SaysD fa fn K) : ∃ fd, FnP K "leaf_change" "leaf_change" s_leaf_change (He.ga K "leaf_change") fd := c.def_ 25 (d := ⟨("leaf_change", none), "leaf_change", "leaf_change", defArgs s_leaf_change, defBody s_leaf_change, defScope s_leaf_change, [], []⟩) rfl
theorem fd_most_of (c : He.SaysD fa fn K) : ∃ fd, FnP K "most_of" "most_of" s_most_of (He.ga K "most_of") fd := c.def_ 26 (d := ⟨("most_of", none), "most_of", "most_of", defArgs s_most_of, defBody s_most_of, defScope s_most_of, [], []⟩) rfl
theorem fd_Draft_init (c : He.SaysD fa fn K) : ∃ fd, FnP K "__init__" "Draft.__init__" s_Draft_init (He.ma K (He.ga K "Draft") "__init__") fd := c.def_ 27 (d := ⟨("Draft", some "__init__"), "__init__", "Draft.__init__", defArgs s_Draft_init, defBody s_Draft_init, defScope s_Draft_init, [], []⟩) rfl
theorem fd_Draft_give (c : He.SaysD fa fn K) : ∃ fd, FnP K "give" "Draft.give" s_Draft_give (He.ma K (He.ga K "Draft") "give") fd := c.def_ 28 (d := ⟨("Draft", some "give"), "give", "Draft.give", defArgs s_Draft_give, defBody s_Draft_give, defScope s_Draft_give, [], []⟩) rfl
theorem fd_Draft_add_page (c : He.SaysD fa fn K) : ∃ fd, FnP K "add_page" "Draft.add_page" s_Draft_add_page (He.ma K (He.ga K "Draft") "add_page") fd := c.def_ 29 (d := ⟨("Draft", some "add_page"), "add_page", "Draft.add_page", defArgs s_Draft_add_page, defBody s_Draft_add_page, defScope s_Draft_add_page, [], []⟩) rfl
theorem fd_Draft_entries (c : He.SaysD fa fn K) : ∃ fd, FnP K "entries" "Draft.entries" s_Draft_entries (He.ma K (He.ga K "Draft") "entries") fd := c.def_ 30 (d := ⟨("Draft", some "entries"), "entries", "Draft.entries", defArgs s_Draft_entries, defBody s_Draft_entries, defScope s_Draft_entries, [], []⟩) rfl
theorem fd_Draft_place_in_parent (c : He.SaysD fa fn K) : ∃ fd, FnP K "place_in_parent" "Draft.place_in_parent" s_Draft_place_in_parent (He.ma K (He.ga K "Draft") "place_in_parent") fd := c.def_ 31 (d := ⟨("Draft", some "place_in_parent"), "place_in_parent", "Draft.place_in_parent", defArgs s_Draft_place_in_parent, defBody s_Draft_place_in_parent, defScope s_Draft_place_in_parent, [], []⟩) rfl
theorem fd_Draft_settle (c : He.SaysD fa fn K) : ∃ fd, FnP K "settle" "Draft.settle" s_Draft_settle (He.ma K (He.ga K "Draft") "settle") fd := c.def_ 32 (d := ⟨("Draft", some "settle"), "settle", "Draft.settle", defArgs s_Draft_settle, defBody s_Draft_settle, defScope s_Draft_settle, [], []⟩) rfl
theorem fd_Draft_divide (c : He.SaysD fa fn K) : ∃ fd, FnP K "divide" "Draft.divide" s_Draft_divide (He.ma K (He.ga K "Draft") "divide") fd := c.def_ 33 (d := ⟨("Draft", some "divide"), "divide", "Draft.divide", defArgs s_Draft_divide, defBody s_Draft_divide, defScope s_Draft_divide, [], []⟩) rfl
theorem fd_Draft_unite (c : He.SaysD fa fn K) : ∃ fd, FnP K "unite" "Draft.unite" s_Draft_unite (He.ma K (He.ga K "Draft") "unite") fd := c.def_ 34 (d := ⟨("Draft", some "unite"), "unite", "Draft.unite", defArgs s_Draft_unite, defBody s_Draft_unite, defScope s_Draft_unite, [], []⟩) rfl
theorem fd_Draft_unite_pair (c : He.SaysD fa fn K) : ∃ fd, FnP K "unite_pair" "Draft.unite_pair" s_Draft_unite_pair (He.ma K (He.ga K "Draft") "unite_pair") fd := c.def_ 35 (d := ⟨("Draft", some "unite_pair"), "unite_pair", "Draft.unite_pair", defArgs s_Draft_unite_pair, defBody s_Draft_unite_pair, defScope s_Draft_unite_pair, [], []⟩) rfl
theorem fd_plan (c : He.SaysD fa fn K) : ∃ fd, FnP K "plan" "plan" s_plan (He.ga K "plan") fd := c.def_ 36 (d := ⟨("plan", none), "plan", "plan", defArgs s_plan, defBody s_plan, defScope s_plan, [], []⟩) rfl
theorem fd_new_pages (c : He.SaysD fa fn K) : ∃ fd, FnP K "new_pages" "new_pages" s_new_pages (He.ga K "new_pages") fd := c.def_ 37 (d := ⟨("new_pages", none), "new_pages", "new_pages", defArgs s_new_pages, defBody s_new_pages, defScope s_new_pages, [], []⟩) rfl
theorem fd_real_page (c : He.SaysD fa fn K) : ∃ fd, FnP K "real_page" "real_page" s_real_page (He.ga K "real_page") fd := c.def_ 38 (d := ⟨("real_page", none), "real_page", "real_page", defArgs s_real_page, defBody s_real_page, defScope s_real_page, [], []⟩) rfl
theorem fd_placed (c : He.SaysD fa fn K) : ∃ fd, FnP K "placed" "placed" s_placed (He.ga K "placed") fd := c.def_ 39 (d := ⟨("placed", none), "placed", "placed", defArgs s_placed, defBody s_placed, defScope s_placed, [], []⟩) rfl
theorem fd_law_cell (c : He.SaysD fa fn K) : ∃ fd, FnP K "_law_cell" "_law_cell" s_law_cell (He.ga K "_law_cell") fd := c.def_ 40 (d := ⟨("_law_cell", none), "_law_cell", "_law_cell", defArgs s_law_cell, defBody s_law_cell, defScope s_law_cell, [], []⟩) rfl
theorem fd_law_digits (c : He.SaysD fa fn K) : ∃ fd, FnP K "_law_digits" "_law_digits" s_law_digits (He.ga K "_law_digits") fd := c.def_ 41 (d := ⟨("_law_digits", none), "_law_digits", "_law_digits", defArgs s_law_digits, defBody s_law_digits, defScope s_law_digits, [], []⟩) rfl
theorem fd_law_many (c : He.SaysD fa fn K) : ∃ fd, FnP K "_law_many" "_law_many" s_law_many (He.ga K "_law_many") fd := c.def_ 42 (d := ⟨("_law_many", none), "_law_many", "_law_many", defArgs s_law_many, defBody s_law_many, defScope s_law_many, [], []⟩) rfl
theorem fd_law_call (c : He.SaysD fa fn K) : ∃ fd, FnP K "_law_call" "_law_call" s_law_call (He.ga K "_law_call") fd := c.def_ 43 (d := ⟨("_law_call", none), "_law_call", "_law_call", defArgs s_law_call, defBody s_law_call, defScope s_law_call, [], []⟩) rfl
theorem fd_law_due (c : He.SaysD fa fn K) : ∃ fd, FnP K "_law_due" "_law_due" s_law_due (He.ga K "_law_due") fd := c.def_ 44 (d := ⟨("_law_due", none), "_law_due", "_law_due", defArgs s_law_due, defBody s_law_due, defScope s_law_due, [], []⟩) rfl
theorem fd_law_walk (c : He.SaysD fa fn K) : ∃ fd, FnP K "_law_walk" "_law_walk" s_law_walk (He.ga K "_law_walk") fd := c.def_ 45 (d := ⟨("_law_walk", none), "_law_walk", "_law_walk", defArgs s_law_walk, defBody s_law_walk, defScope s_law_walk, [], []⟩) rfl
theorem fd_law_planned (c : He.SaysD fa fn K) : ∃ fd, FnP K "_law_planned" "_law_planned" s_law_planned (He.ga K "_law_planned") fd := c.def_ 46 (d := ⟨("_law_planned", none), "_law_planned", "_law_planned", defArgs s_law_planned, defBody s_law_planned, defScope s_law_planned, [], []⟩) rfl
theorem fd_law_free (c : He.SaysD fa fn K) : ∃ fd, FnP K "_law_free" "_law_free" s_law_free (He.ga K "_law_free") fd := c.def_ 47 (d := ⟨("_law_free", none), "_law_free", "_law_free", defArgs s_law_free, defBody s_law_free, defScope s_law_free, [], []⟩) rfl
theorem fd_law_applied (c : He.SaysD fa fn K) : ∃ fd, FnP K "_law_applied" "_law_applied" s_law_applied (He.ga K "_law_applied") fd := c.def_ 48 (d := ⟨("_law_applied", none), "_law_applied", "_law_applied", defArgs s_law_applied, defBody s_law_applied, defScope s_law_applied, [], []⟩) rfl
theorem fd_law_ascending (c : He.SaysD fa fn K) : ∃ fd, FnP K "_law_ascending" "_law_ascending" s_law_ascending (He.ga K "_law_ascending") fd := c.def_ 49 (d := ⟨("_law_ascending", none), "_law_ascending", "_law_ascending", defArgs s_law_ascending, defBody s_law_ascending, defScope s_law_ascending, [], []⟩) rfl
theorem fd_law_below (c : He.SaysD fa fn K) : ∃ fd, FnP K "_law_below" "_law_below" s_law_below (He.ga K "_law_below") fd := c.def_ 50 (d := ⟨("_law_below", none), "_law_below", "_law_below", defArgs s_law_below, defBody s_law_below, defScope s_law_below, [], []⟩) rfl
theorem fd_law_fits (c : He.SaysD fa fn K) : ∃ fd, FnP K "_law_fits" "_law_fits" s_law_fits (He.ga K "_law_fits") fd := c.def_ 51 (d := ⟨("_law_fits", none), "_law_fits", "_law_fits", defArgs s_law_fits, defBody s_law_fits, defScope s_law_fits, [], []⟩) rfl
theorem fd_law_map (c : He.SaysD fa fn K) : ∃ fd, FnP K "_law_map" "_law_map" s_law_map (He.ga K "_law_map") fd := c.def_ 52 (d := ⟨("_law_map", none), "_law_map", "_law_map", defArgs s_law_map, defBody s_law_map, defScope s_law_map, [], []⟩) rfl
theorem fd_law_start (c : He.SaysD fa fn K) : ∃ fd, FnP K "_law_start" "_law_start" s_law_start (He.ga K "_law_start") fd := c.def_ 53 (d := ⟨("_law_start", none), "_law_start", "_law_start", defArgs s_law_start, defBody s_law_start, defScope s_law_start, [], []⟩) rfl
theorem fd_law_filled (c : He.SaysD fa fn K) : ∃ fd, FnP K "_law_filled" "_law_filled" s_law_filled (He.ga K "_law_filled") fd := c.def_ 54 (d := ⟨("_law_filled", none), "_law_filled", "_law_filled", defArgs s_law_filled, defBody s_law_filled, defScope s_law_filled, [], []⟩) rfl
theorem fd_law (c : He.SaysD fa fn K) : ∃ fd, FnP K "law" "law" s_law (He.ga K "law") fd := c.def_ 55 (d := ⟨("law", none), "law", "law", defArgs s_law, defBody s_law, defScope s_law, [], []⟩) rfl
end
section
variable {P : Program} {w : World} {K : PySem.W.Frag} {mg : Str → Option Value} {base h : Heap}
theorem fa_bu (X : K.In h) (G : h.Ns mainGlobals mg) (c : He.SaysD fa fn K) : Bu mg := ⟨He.free_ok X G (c.fact 51 (f := .free "len") rfl), He.free_ok X G (c.fact 52 (f := .free "isinstance") rfl), He.free_ok X G (c.fact 53 (f := .free "all") rfl), He.free_ok X G (c.fact 54 (f := .free "range") rfl), He.free_ok X G (c.fact 55 (f := .free "tuple") rfl), He.free_ok X G (c.fact 56 (f := .free "sorted") rfl), He.free_ok X G (c.fact 57 (f := .free "dict") rfl), He.free_ok X G (c.fact 58 (f := .free "list") rfl), He.free_ok X G (c.fact 59 (f := .free "max") rfl), He.free_ok X G (c.fact 60 (f := .free "min") rfl), He.free_ok X G (c.fact 61 (f := .free "int") rfl), He.free_ok X G (c.fact 62 (f := .free "bool") rfl), He.int_ok X G (c.fact 48 (f := .int "LEAF_MOST" 4) rfl), He.int_ok X G (c.fact 49 (f := .int "INNER_MOST" 5) rfl), He.int_ok X G (c.fact 50 (f := .int "LEAST" 2) rfl)⟩
theorem fa_tc (X : K.In h) (G : h.Ns mainGlobals mg) (c : He.SaysD fa fn K) : TC K mg (He.ga K "Draft") := ⟨He.cls_ok (c.fact 63 (f := .cls "Draft") rfl), He.noat_ok (c.fact 64 (f := .noat "Draft" "path") rfl), He.noat_ok (c.fact 65 (f := .noat "Draft" "siblings") rfl), He.noat_ok (c.fact 66 (f := .noat "Draft" "records") rfl), He.noat_ok (c.fact 67 (f := .noat "Draft" "addresses") rfl), He.noat_ok (c.fact 68 (f := .noat "Draft" "fresh") rfl), He.glo_ok X G (c.fact 27 (f := .glo "Draft") rfl)⟩
theorem facts (X : K.In h) (G : h.Ns mainGlobals mg) {f : Addr} (hfa : mg ("law" : Str) = some (.ref f)) (c : He.SaysD fa fn K) :
    ∃ fd : FuncData, (∀ (s : Shared) (v : Value), BindsTo s fd ⟨[v], []⟩ [("_law_script", v)]) ∧ ∀ base : Heap, K.In base → base.Ns mainGlobals mg → FnOk P w K mg base CX0 15 f fd ["_law_script"] (spLaw K) := by
  have T := fa_bu X G c
  have Tc := fa_tc X G c
  obtain ⟨d_is_integer, F_is_integer⟩ := fd_is_integer c
  obtain ⟨d_is_bound, F_is_bound⟩ := fd_is_bound c
  obtain ⟨d_are_integers, F_are_integers⟩ := fd_are_integers c
  obtain ⟨d_are_ascending, F_are_ascending⟩ := fd_are_ascending c
  obtain ⟨d_is_above, F_is_above⟩ := fd_is_above c
  obtain ⟨d_is_below, F_is_below⟩ := fd_is_below c
  obtain ⟨d_is_leaf, F_is_leaf⟩ := fd_is_leaf c
  obtain ⟨d_is_inner, F_is_inner⟩ := fd_is_inner c
  obtain ⟨d_is_record, F_is_record⟩ := fd_is_record c
  obtain ⟨d_checked, F_checked⟩ := fd_checked c
  obtain ⟨d_leaf, F_leaf⟩ := fd_leaf c
  obtain ⟨d_inner, F_inner⟩ := fd_inner c
  obtain ⟨d_level_of, F_level_of⟩ := fd_level_of c
  obtain ⟨d_bounds_of, F_bounds_of⟩ := fd_bounds_of c
  obtain ⟨d_size_of, F_size_of⟩ := fd_size_of c
  obtain ⟨d_value_in, F_value_in⟩ := fd_value_in c
  obtain ⟨d_place_of, F_place_of⟩ := fd_place_of c
  obtain ⟨d_child_bounds, F_child_bounds⟩ := fd_child_bounds c
  obtain ⟨d_with_value, F_with_value⟩ := fd_with_value c
  obtain ⟨d_without_key, F_without_key⟩ := fd_without_key c
  obtain ⟨d_with_child, F_with_child⟩ := fd_with_child c
  obtain ⟨d_without_child, F_without_child⟩ := fd_without_child c
  obtain ⟨d_with_separator, F_with_separator⟩ := fd_with_separator c
  obtain ⟨d_cut, F_cut⟩ := fd_cut c
  obtain ⟨d_joined, F_joined⟩ := fd_joined c
  obtain ⟨d_leaf_change, F_leaf_change⟩ := fd_leaf_change c
  obtain ⟨d_most_of, F_most_of⟩ := fd_most_of c
  obtain ⟨d_Draft_init, F_Draft_init⟩ := fd_Draft_init c
  obtain ⟨d_Draft_give, F_Draft_give⟩ := fd_Draft_give c
  obtain ⟨d_Draft_add_page, F_Draft_add_page⟩ := fd_Draft_add_page c
  obtain ⟨d_Draft_entries, F_Draft_entries⟩ := fd_Draft_entries c
  obtain ⟨d_Draft_place_in_parent, F_Draft_place_in_parent⟩ := fd_Draft_place_in_parent c
  obtain ⟨d_Draft_settle, F_Draft_settle⟩ := fd_Draft_settle c
  obtain ⟨d_Draft_divide, F_Draft_divide⟩ := fd_Draft_divide c
  obtain ⟨d_Draft_unite, F_Draft_unite⟩ := fd_Draft_unite c
  obtain ⟨d_Draft_unite_pair, F_Draft_unite_pair⟩ := fd_Draft_unite_pair c
  obtain ⟨d_plan, F_plan⟩ := fd_plan c
  obtain ⟨d_new_pages, F_new_pages⟩ := fd_new_pages c
  obtain ⟨d_real_page, F_real_page⟩ := fd_real_page c
  obtain ⟨d_placed, F_placed⟩ := fd_placed c
  obtain ⟨d_law_cell, F_law_cell⟩ := fd_law_cell c
  obtain ⟨d_law_digits, F_law_digits⟩ := fd_law_digits c
  obtain ⟨d_law_many, F_law_many⟩ := fd_law_many c
  obtain ⟨d_law_call, F_law_call⟩ := fd_law_call c
  obtain ⟨d_law_due, F_law_due⟩ := fd_law_due c
  obtain ⟨d_law_walk, F_law_walk⟩ := fd_law_walk c
  obtain ⟨d_law_planned, F_law_planned⟩ := fd_law_planned c
  obtain ⟨d_law_free, F_law_free⟩ := fd_law_free c
  obtain ⟨d_law_applied, F_law_applied⟩ := fd_law_applied c
  obtain ⟨d_law_ascending, F_law_ascending⟩ := fd_law_ascending c
  obtain ⟨d_law_below, F_law_below⟩ := fd_law_below c
  obtain ⟨d_law_fits, F_law_fits⟩ := fd_law_fits c
  obtain ⟨d_law_map, F_law_map⟩ := fd_law_map c
  obtain ⟨d_law_start, F_law_start⟩ := fd_law_start c
  obtain ⟨d_law_filled, F_law_filled⟩ := fd_law_filled c
  obtain ⟨d_law, F_law⟩ := fd_law c
  have e := hfa.symm.trans (He.glo_ok X G (c.fact 47 (f := .glo "law") rfl))
  cases e
  have b := FunD.bindsA (ps := ["_law_script"]) F_law fun _ _ _ _ _ _ us hl => match us, hl with | [_], _ => rfl
  refine ⟨d_law, fun s v => b s [v] rfl, fun base _ _ => ?_⟩
  have c_law_digits : Cal P w K mg base 1 "_law_digits" ["_law_cell_here", "_law_bases"] spDigits := cal_of F_law_digits (He.glo_ok X G (c.fact 33 (f := .glo "_law_digits") rfl)) (ok_law_digits F_law_digits T) (fun _ _ _ _ _ _ us hl => match us, hl with | [_, _], _ => rfl)
  have c_law_start : Cal P w K mg base 1 "_law_start" [] spStart := cal_of F_law_start (He.glo_ok X G (c.fact 45 (f := .glo "_law_start") rfl)) (ok_law_start F_law_start T) (fun _ _ _ _ _ _ us hl => match us, hl with | [], _ => rfl)
  have c_law_walk : Cal P w K mg base 1 "_law_walk" ["_law_pages", "_law_key"] spWalk := cal_of F_law_walk (He.glo_ok X G (c.fact 37 (f := .glo "_law_walk") rfl)) (ok_law_walk F_law_walk T) (fun _ _ _ _ _ _ us hl => match us, hl with | [_, _], _ => rfl)
  have c_value_in : Cal P w K mg base 1 "value_in" ["record", "key"] (spF R_value_in) := cal_of F_value_in (He.glo_ok X G (c.fact 15 (f := .glo "value_in") rfl)) (ok_value_in F_value_in T) (fun _ _ _ _ _ _ us hl => match us, hl with | [_, _], _ => rfl)
  have c_place_of : Cal P w K mg base 1 "place_of" ["keys", "key"] (spF R_place_of) := cal_of F_place_of (He.glo_ok X G (c.fact 16 (f := .glo "place_of") rfl)) (ok_place_of F_place_of T) (fun _ _ _ _ _ _ us hl => match us, hl with | [_, _], _ => rfl)
  have c_is_integer : Cal P w K mg base 1 "is_integer" ["value"] (spF R_is_integer) := cal_of F_is_integer (He.glo_ok X G (c.fact 0 (f := .glo "is_integer") rfl)) (ok_is_integer F_is_integer T) (fun _ _ _ _ _ _ us hl => match us, hl with | [_], _ => rfl)
  have c_is_bound : Cal P w K mg base 2 "is_bound" ["value"] (spF R_is_bound) := cal_of F_is_bound (He.glo_ok X G (c.fact 1 (f := .glo "is_bound") rfl)) (ok_is_bound F_is_bound T c_is_integer) (fun _ _ _ _ _ _ us hl => match us, hl with | [_], _ => rfl)
  have c_are_integers : Cal P w K mg base 2 "are_integers" ["values"] (spF R_are_integers) := cal_of F_are_integers (He.glo_ok X G (c.fact 2 (f := .glo "are_integers") rfl)) (ok_are_integers F_are_integers T c_is_integer) (fun _ _ _ _ _ _ us hl => match us, hl with | [_], _ => rfl)
  have c_are_ascending : Cal P w K mg base 1 "are_ascending" ["keys"] (spF R_are_ascending) := cal_of F_are_ascending (He.glo_ok X G (c.fact 3 (f := .glo "are_ascending") rfl)) (ok_are_ascending F_are_ascending T) (fun _ _ _ _ _ _ us hl => match us, hl with | [_], _ => rfl)
  have c_is_below : Cal P w K mg base 1 "is_below" ["key", "high"] (spF R_is_below) := cal_of F_is_below (He.glo_ok X G (c.fact 5 (f := .glo "is_below") rfl)) (ok_is_below F_is_below T) (fun _ _ _ _ _ _ us hl => match us, hl with | [_, _], _ => rfl)
  have c_is_above : Cal P w K mg base 1 "is_above" ["key", "low"] (spF R_is_above) := cal_of F_is_above (He.glo_ok X G (c.fact 4 (f := .glo "is_above") rfl)) (ok_is_above F_is_above T) (fun _ _ _ _ _ _ us hl => match us, hl with | [_, _], _ => rfl)
  have c_is_leaf : Cal P w K mg base 3 "is_leaf" ["record"] (spF R_is_leaf) := cal_of F_is_leaf (He.glo_ok X G (c.fact 6 (f := .glo "is_leaf") rfl)) (ok_is_leaf F_is_leaf T c_is_bound c_are_integers c_are_ascending c_is_below c_is_above) (fun _ _ _ _ _ _ us hl => match us, hl with | [_], _ => rfl)
  have c_is_inner : Cal P w K mg base 3 "is_inner" ["record"] (spF R_is_inner) := cal_of F_is_inner (He.glo_ok X G (c.fact 7 (f := .glo "is_inner") rfl)) (ok_is_inner F_is_inner T c_is_integer c_is_bound c_are_integers c_is_below c_are_ascending) (fun _ _ _ _ _ _ us hl => match us, hl with | [_], _ => rfl)
  have c_is_record : Cal P w K mg base 4 "is_record" ["value"] (spF R_is_record) := cal_of F_is_record (He.glo_ok X G (c.fact 8 (f := .glo "is_record") rfl)) (ok_is_record F_is_record T c_is_leaf c_is_inner c_is_integer) (fun _ _ _ _ _ _ us hl => match us, hl with | [_], _ => rfl)
  have c_checked : Cal P w K mg base 5 "checked" ["record"] (spF R_checked) := cal_of F_checked (He.glo_ok X G (c.fact 9 (f := .glo "checked") rfl)) (ok_checked F_checked T c_is_record) (fun _ _ _ _ _ _ us hl => match us, hl with | [_], _ => rfl)
  have c_leaf : Cal P w K mg base 6 "leaf" ["low", "high", "keys", "values"] (spF R_leaf) := cal_of F_leaf (He.glo_ok X G (c.fact 10 (f := .glo "leaf") rfl)) (ok_leaf F_leaf T c_checked) (fun _ _ _ _ _ _ us hl => match us, hl with | [_, _, _, _], _ => rfl)
  have c_with_value : Cal P w K mg base 7 "with_value" ["record", "key", "value"] (spF R_with_value) := cal_of F_with_value (He.glo_ok X G (c.fact 18 (f := .glo "with_value") rfl)) (ok_with_value F_with_value T c_place_of c_leaf) (fun _ _ _ _ _ _ us hl => match us, hl with | [_, _, _], _ => rfl)
  have c_without_key : Cal P w K mg base 7 "without_key" ["record", "key"] (spF R_without_key) := cal_of F_without_key (He.glo_ok X G (c.fact 19 (f := .glo "without_key") rfl)) (ok_without_key F_without_key T c_place_of c_leaf) (fun _ _ _ _ _ _ us hl => match us, hl with | [_, _], _ => rfl)
  have c_leaf_change : Cal P w K mg base 8 "leaf_change" ["call", "record"] (spF R_leaf_change) := cal_of F_leaf_change (He.glo_ok X G (c.fact 25 (f := .glo "leaf_change") rfl)) (ok_leaf_change F_leaf_change T c_value_in c_with_value c_without_key) (fun _ _ _ _ _ _ us hl => match us, hl with | [_, _], _ => rfl)
  have c_Draft_init : ∃ f fd, Mk K (He.ga K "Draft") f ∧ FnOk P w K mg base CX0 1 f fd ["self", "path", "siblings"] (spInit (He.ga K "Draft")) ∧ Binds K fd ["self", "path", "siblings"] [] := ⟨_, d_Draft_init, He.mkr_ok (c.fact 77 (f := .mkr "Draft") rfl), ok_Draft_init F_Draft_init Tc, F_Draft_init.bindsN (fun _ _ _ _ _ _ us hl => match us, hl with | [_, _, _], _ => rfl)⟩
  have c_size_of : Cal P w K mg base 1 "size_of" ["record"] (spF R_size_of) := cal_of F_size_of (He.glo_ok X G (c.fact 14 (f := .glo "size_of") rfl)) (ok_size_of F_size_of T) (fun _ _ _ _ _ _ us hl => match us, hl with | [_], _ => rfl)
  have c_level_of : Cal P w K mg base 1 "level_of" ["record"] (spF R_level_of) := cal_of F_level_of (He.glo_ok X G (c.fact 12 (f := .glo "level_of") rfl)) (ok_level_of F_level_of T) (fun _ _ _ _ _ _ us hl => match us, hl with | [_], _ => rfl)
  have c_most_of : Cal P w K mg base 2 "most_of" ["record"] (spF R_most_of) := cal_of F_most_of (He.glo_ok X G (c.fact 26 (f := .glo "most_of") rfl)) (ok_most_of F_most_of T c_level_of) (fun _ _ _ _ _ _ us hl => match us, hl with | [_], _ => rfl)
  have c_Draft_give : MCal P w K mg base (He.ga K "Draft") 1 "give" ["self", "step", "record"] (spGive (He.ga K "Draft")) := ⟨_, d_Draft_give, He.meth_ok (c.fact 69 (f := .meth "Draft" "give") rfl), ok_Draft_give F_Draft_give Tc, F_Draft_give.bindsN (fun _ _ _ _ _ _ us hl => match us, hl with | [_, _, _], _ => rfl)⟩
  have c_inner : Cal P w K mg base 6 "inner" ["level", "low", "high", "keys", "pages"] (spF R_inner) := cal_of F_inner (He.glo_ok X G (c.fact 11 (f := .glo "inner") rfl)) (ok_inner F_inner T c_checked) (fun _ _ _ _ _ _ us hl => match us, hl with | [_, _, _, _, _], _ => rfl)
  have c_cut : Cal P w K mg base 7 "cut" ["record"] (spF R_cut) := cal_of F_cut (He.glo_ok X G (c.fact 23 (f := .glo "cut") rfl)) (ok_cut F_cut T c_inner c_leaf c_size_of) (fun _ _ _ _ _ _ us hl => match us, hl with | [_], _ => rfl)
  have c_with_child : Cal P w K mg base 7 "with_child" ["record", "index", "separator", "page"] (spF R_with_child) := cal_of F_with_child (He.glo_ok X G (c.fact 20 (f := .glo "with_child") rfl)) (ok_with_child F_with_child T c_inner) (fun _ _ _ _ _ _ us hl => match us, hl with | [_, _, _, _], _ => rfl)
  have c_Draft_add_page : MCal P w K mg base (He.ga K "Draft") 1 "add_page" ["self", "record"] (spAdd (He.ga K "Draft")) := ⟨_, d_Draft_add_page, He.meth_ok (c.fact 70 (f := .meth "Draft" "add_page") rfl), ok_Draft_add_page F_Draft_add_page Tc, F_Draft_add_page.bindsN (fun _ _ _ _ _ _ us hl => match us, hl with | [_, _], _ => rfl)⟩
  have c_child_bounds : Cal P w K mg base 1 "child_bounds" ["record", "index"] (spF R_child_bounds) := cal_of F_child_bounds (He.glo_ok X G (c.fact 17 (f := .glo "child_bounds") rfl)) (ok_child_bounds F_child_bounds T) (fun _ _ _ _ _ _ us hl => match us, hl with | [_, _], _ => rfl)
  have c_bounds_of : Cal P w K mg base 1 "bounds_of" ["record"] (spF R_bounds_of) := cal_of F_bounds_of (He.glo_ok X G (c.fact 13 (f := .glo "bounds_of") rfl)) (ok_bounds_of F_bounds_of T) (fun _ _ _ _ _ _ us hl => match us, hl with | [_], _ => rfl)
  have c_Draft_place_in_parent : MCal P w K mg base (He.ga K "Draft") 2 "place_in_parent" ["self", "index"] (spPlace (He.ga K "Draft")) := ⟨_, d_Draft_place_in_parent, He.meth_ok (c.fact 72 (f := .meth "Draft" "place_in_parent") rfl), ok_Draft_place_in_parent F_Draft_place_in_parent T Tc c_size_of c_child_bounds c_bounds_of, F_Draft_place_in_parent.bindsN (fun _ _ _ _ _ _ us hl => match us, hl with | [_, _], _ => rfl)⟩
  have c_Draft_divide : MCal P w K mg base (He.ga K "Draft") 8 "divide" ["self", "index", "record"] (spSettle (He.ga K "Draft") condD) := ⟨_, d_Draft_divide, He.meth_ok (c.fact 74 (f := .meth "Draft" "divide") rfl), ok_Draft_divide F_Draft_divide T Tc c_cut c_level_of c_inner c_with_child c_Draft_give c_Draft_add_page c_Draft_place_in_parent, F_Draft_divide.bindsN (fun _ _ _ _ _ _ us hl => match us, hl with | [_, _, _], _ => rfl)⟩
  have c_joined : Cal P w K mg base 7 "joined" ["first", "separator", "second"] (spF R_joined) := cal_of F_joined (He.glo_ok X G (c.fact 24 (f := .glo "joined") rfl)) (ok_joined F_joined T c_inner c_bounds_of c_leaf) (fun _ _ _ _ _ _ us hl => match us, hl with | [_, _, _], _ => rfl)
  have c_with_separator : Cal P w K mg base 7 "with_separator" ["record", "index", "separator"] (spF R_with_separator) := cal_of F_with_separator (He.glo_ok X G (c.fact 22 (f := .glo "with_separator") rfl)) (ok_with_separator F_with_separator T c_inner) (fun _ _ _ _ _ _ us hl => match us, hl with | [_, _, _], _ => rfl)
  have c_without_child : Cal P w K mg base 7 "without_child" ["record", "index"] (spF R_without_child) := cal_of F_without_child (He.glo_ok X G (c.fact 21 (f := .glo "without_child") rfl)) (ok_without_child F_without_child T c_inner) (fun _ _ _ _ _ _ us hl => match us, hl with | [_, _], _ => rfl)
  have c_Draft_unite_pair : MCal P w K mg base (He.ga K "Draft") 8 "unite_pair" ["self", "index", "place", "left", "right"] (spPair (He.ga K "Draft")) := ⟨_, d_Draft_unite_pair, He.meth_ok (c.fact 76 (f := .meth "Draft" "unite_pair") rfl), ok_Draft_unite_pair F_Draft_unite_pair T Tc c_joined c_bounds_of c_size_of c_most_of c_cut c_with_separator c_without_child c_Draft_give, F_Draft_unite_pair.bindsN (fun _ _ _ _ _ _ us hl => match us, hl with | [_, _, _, _, _], _ => rfl)⟩
  have c_Draft_unite : MCal P w K mg base (He.ga K "Draft") 9 "unite" ["self", "index", "record"] (spSettle (He.ga K "Draft") condU) := ⟨_, d_Draft_unite, He.meth_ok (c.fact 75 (f := .meth "Draft" "unite") rfl), ok_Draft_unite F_Draft_unite T Tc c_level_of c_bounds_of c_child_bounds c_Draft_place_in_parent c_Draft_unite_pair, F_Draft_unite.bindsN (fun _ _ _ _ _ _ us hl => match us, hl with | [_, _, _], _ => rfl)⟩
  have c_Draft_settle : MCal P w K mg base (He.ga K "Draft") 10 "settle" ["self", "index", "record"] (spSettle (He.ga K "Draft") fun _ r => r.live = true) := ⟨_, d_Draft_settle, He.meth_ok (c.fact 73 (f := .meth "Draft" "settle") rfl), ok_Draft_settle F_Draft_settle T Tc c_size_of c_most_of c_Draft_give c_Draft_divide c_Draft_unite, F_Draft_settle.bindsN (fun _ _ _ _ _ _ us hl => match us, hl with | [_, _, _], _ => rfl)⟩
  have c_Draft_entries : MCal P w K mg base (He.ga K "Draft") 1 "entries" ["self"] (spEntries (He.ga K "Draft")) := ⟨_, d_Draft_entries, He.meth_ok (c.fact 71 (f := .meth "Draft" "entries") rfl), ok_Draft_entries F_Draft_entries T Tc, F_Draft_entries.bindsN (fun _ _ _ _ _ _ us hl => match us, hl with | [_], _ => rfl)⟩
  have c_plan : Cal P w K mg base 12 "plan" ["call", "path", "siblings"] spPlan := cal_of F_plan (He.glo_ok X G (c.fact 28 (f := .glo "plan") rfl)) (ok_plan F_plan T Tc c_leaf_change c_Draft_init c_Draft_settle c_Draft_entries) (fun _ _ _ _ _ _ us hl => match us, hl with | [_, _, _], _ => rfl)
  have c_law_planned : Cal P w K mg base 13 "_law_planned" ["_law_pages", "_law_call_here"] spPlanned := cal_of F_law_planned (He.glo_ok X G (c.fact 38 (f := .glo "_law_planned") rfl)) (ok_law_planned F_law_planned T c_law_walk c_plan) (fun _ _ _ _ _ _ us hl => match us, hl with | [_, _], _ => rfl)
  have c_real_page : Cal P w K mg base 1 "real_page" ["page", "pages"] spReal := cal_of F_real_page (He.glo_ok X G (c.fact 30 (f := .glo "real_page") rfl)) (ok_real_page F_real_page T) (fun _ _ _ _ _ _ us hl => match us, hl with | [_, _], _ => rfl)
  have c_placed : Cal P w K mg base 2 "placed" ["entries", "pages"] spPlaced := cal_of F_placed (He.glo_ok X G (c.fact 31 (f := .glo "placed") rfl)) (ok_placed F_placed T c_real_page) (fun _ _ _ _ _ _ us hl => match us, hl with | [_, _], _ => rfl)
  have c_law_free : Cal P w K mg base 1 "_law_free" ["_law_pages", "_law_many_here"] spFree := cal_of F_law_free (He.glo_ok X G (c.fact 39 (f := .glo "_law_free") rfl)) (ok_law_free F_law_free T) (fun _ _ _ _ _ _ us hl => match us, hl with | [_, _], _ => rfl)
  have c_new_pages : Cal P w K mg base 1 "new_pages" ["entries"] spNew := cal_of F_new_pages (He.glo_ok X G (c.fact 29 (f := .glo "new_pages") rfl)) (ok_new_pages F_new_pages T) (fun _ _ _ _ _ _ us hl => match us, hl with | [_], _ => rfl)
  have c_law_applied : Cal P w K mg base 3 "_law_applied" ["_law_pages", "_law_entries"] spApplied := cal_of F_law_applied (He.glo_ok X G (c.fact 40 (f := .glo "_law_applied") rfl)) (ok_law_applied F_law_applied T c_placed c_law_free c_new_pages) (fun _ _ _ _ _ _ us hl => match us, hl with | [_, _], _ => rfl)
  have c_law_filled : Cal P w K mg base 14 "_law_filled" ["_law_cell_here"] spFilled := cal_of F_law_filled (He.glo_ok X G (c.fact 46 (f := .glo "_law_filled") rfl)) (ok_law_filled F_law_filled T c_law_digits c_law_start c_law_planned c_law_applied) (fun _ _ _ _ _ _ us hl => match us, hl with | [_], _ => rfl)
  have c_law_cell : Cal P w K mg base 1 "_law_cell" ["_law_script", "_law_k"] (spCell K) := cal_of F_law_cell (He.glo_ok X G (c.fact 32 (f := .glo "_law_cell") rfl)) (ok_law_cell F_law_cell T) (fun _ _ _ _ _ _ us hl => match us, hl with | [_, _], _ => rfl)
  have c_law_ascending : Cal P w K mg base 1 "_law_ascending" ["_law_keys", "_law_low", "_law_high"] (spF R_law_ascending) := cal_of F_law_ascending (He.glo_ok X G (c.fact 41 (f := .glo "_law_ascending") rfl)) (ok_law_ascending F_law_ascending T) (fun _ _ _ _ _ _ us hl => match us, hl with | [_, _, _], _ => rfl)
  have c_law_fits : Cal P w K mg base 2 "_law_fits" ["_law_page", "_law_record", "_law_low", "_law_high", "_law_level"] (spF R_law_fits) := cal_of F_law_fits (He.glo_ok X G (c.fact 43 (f := .glo "_law_fits") rfl)) (ok_law_fits F_law_fits T c_law_ascending) (fun _ _ _ _ _ _ us hl => match us, hl with | [_, _, _, _, _], _ => rfl)
  have c_law_below : Cal P w K mg base 1 "_law_below" ["_law_record", "_law_level"] spBelow := cal_of F_law_below (He.glo_ok X G (c.fact 42 (f := .glo "_law_below") rfl)) (ok_law_below F_law_below T) (fun _ _ _ _ _ _ us hl => match us, hl with | [_, _], _ => rfl)
  have c_law_map : Cal P w K mg base 3 "_law_map" ["_law_pages"] spMap := cal_of F_law_map (He.glo_ok X G (c.fact 44 (f := .glo "_law_map") rfl)) (ok_law_map F_law_map T c_law_fits c_law_below) (fun _ _ _ _ _ _ us hl => match us, hl with | [_], _ => rfl)
  have c_law_many : Cal P w K mg base 1 "_law_many" ["_law_script", "_law_few", "_law_many_here"] (spMany K) := cal_of F_law_many (He.glo_ok X G (c.fact 34 (f := .glo "_law_many") rfl)) (ok_law_many F_law_many T) (fun _ _ _ _ _ _ us hl => match us, hl with | [_, _, _], _ => rfl)
  have c_law_call : Cal P w K mg base 2 "_law_call" ["_law_cell_here", "_law_width", "_law_table"] spCall := cal_of F_law_call (He.glo_ok X G (c.fact 35 (f := .glo "_law_call") rfl)) (ok_law_call F_law_call T c_law_digits) (fun _ _ _ _ _ _ us hl => match us, hl with | [_, _, _], _ => rfl)
  have c_law_due : Cal P w K mg base 1 "_law_due" ["_law_table", "_law_call_here"] spDue := cal_of F_law_due (He.glo_ok X G (c.fact 36 (f := .glo "_law_due") rfl)) (ok_law_due F_law_due T) (fun _ _ _ _ _ _ us hl => match us, hl with | [_, _], _ => rfl)
  exact ok_law F_law T c_law_filled c_law_cell c_law_map c_law_many c_law_call c_law_planned c_law_applied c_law_due
end
end Esp
set_option Elab.async false
set_option linter.all false
set_option maxRecDepth 100000
set_option maxHeartbeats 0
namespace Esp
open PySem PySem.Spec PyProof.Rows L2
abbrev R : PySem.W.OpenRow := PySem.W.OpenLaw.row PySem.Challenge.rw_espalier_k27_whole_plans_keep_the_tree_e
abbrev hk : PySem.W.Hook := He.hookD 5 fa fn
def ob (s : PySem.W.SharedT) : He.AlD := He.obsDG 5 fa fn (HandSHeadRun.getT s)
theorem ob_eq (s : PySem.W.SharedT) : ob s = hk.obs s.abs := He.obsDG_eq (HandSHeadRun.getT_eq s)
theorem run (w : World) : HandSHeadRun.RunEq R (PySem.W.view R.prog [57]) hk ob 4000 loose w := by
  intro os
  kernel_rfl
end Esp
open PySem PySem.W PySem.Calls PyProof.Rows
theorem PySem.Challenge.cw_espalier_k27_whole_plans_keep_the_tree_e_holds : PySem.Challenge.rw_espalier_k27_whole_plans_keep_the_tree_e.Holds := by
  w_on; o_law
  refine HandSHeadRun.head_any (r := OpenLaw.row PySem.Challenge.rw_espalier_k27_whole_plans_keep_the_tree_e) (q := view (OpenLaw.row PySem.Challenge.rw_espalier_k27_whole_plans_keep_the_tree_e).prog [57]) (H := Esp.hk) (ob := Esp.ob) (M := 4000) (loose := Esp.loose) (d := HandSHeadRun.topDef (OpenLaw.row PySem.Challenge.rw_espalier_k27_whole_plans_keep_the_tree_e).prog 57) (kwd := []) Esp.ob_eq
    (by kernel_rfl) (fun s => by kernel_rfl) Esp.run (by kernel_rfl) (by kernel_rfl) (by kernel_rfl) (by rfl) (by first | assumption | decide +kernel) (by decide +kernel) ⟨rfl, rfl, rfl, rfl, rfl, by decide +kernel⟩ ?hw ?hc
  case hw => w_witness2
  case hc =>
    refine L2.walk_ofE (l := PySem.Challenge.rw_espalier_k27_whole_plans_keep_the_tree_e) (n := 63) (k := 15) (x := "_law_script") (CX := L2.CX0) rfl (by decide) (by kernel_rfl) ⟨rfl, by decide, by decide⟩ ?F (fun _ _ _ _ z => z)
    intro w mg fa h Y G hmg0
    obtain ⟨K, KX, c⟩ := Y
    have hmg : mg ("law" : PySem.Str) = some (.ref fa) := by
      have e : (HandSHeadRun.topDef (OpenLaw.row PySem.Challenge.rw_espalier_k27_whole_plans_keep_the_tree_e).prog 57).name = ("law" : PySem.Str) := by kernel_rfl
      rw [← e]
      exact hmg0
    obtain ⟨fd, hb, hF⟩ := Esp.facts (P := (PySem.Challenge.rw_espalier_k27_whole_plans_keep_the_tree_e).prog) (w := w) KX G hmg c
    exact ⟨K, fd, Esp.spLaw K, KX, hb, fun H a ns hl _ hS => ⟨a, ns, rfl, hS, hl, fun _ => rfl⟩, hF⟩
