import PyProof.Rows.All
import Wide.All
import OpenK.AllK
import Wide.FinOn
import HandS.Base
import HandS.Call
import HandS.List
import HandS.Comp
import HandS.Ends
import HandS.Dict
import HandS.Iter
import HandS.Text
import HandS.Words
import HandS.WordsList
import HandS.Exc
import HandS.ExcOwn
import HandS.WordsExc
import HandS.Evl
import HandS.Wide
import HandS.WideBits
import KE.DataEq
import HandS.Replace
import HandS.SetFor
import HandS.Style
import HandS.IsInst
import HandS.ExcIs
import HandS.TryOnly
import HandS.HotCalls
import HandS.Codes
import PySem.Challenge.RW_nearfrac_k10_whole_sides_outside
set_option Elab.async false
set_option linter.all false
set_option maxRecDepth 100000
set_option maxHeartbeats 4000000
namespace NF
open PySem PySem.Spec L2
open Evl (Ex)

/-! ### data at a value -/
mutual
inductive Is (K : PySem.W.Frag) (H : Hp) : V → PyData → Prop
  | non : Is K H .non .none
  | bl (b : Bool) : Is K H (.bl b) (.bool b)
  | int (i : Int) : Is K H (.int i) (.int i)
  | str (x : Str) : Is K H (.str x) (.str x)
  | lst {a : Addr} {xs : List V} {ds : List PyData} : SqL K H a xs → IsAll K H xs ds → Is K H (.ref a) (.list ds)
  | tup {a : Addr} {xs : List V} {ds : List PyData} : SqT K H a xs → IsAll K H xs ds → Is K H (.ref a) (.tuple ds)
  | dct {a : Addr} : H a = some (.dK []) → Is K H (.ref a) (.dict [])
inductive IsAll (K : PySem.W.Frag) (H : Hp) : List V → List PyData → Prop
  | nil : IsAll K H [] []
  | cons {v : V} {vs : List V} {d : PyData} {ds : List PyData} : Is K H v d → IsAll K H vs ds → IsAll K H (v :: vs) (d :: ds)
end
mutual
/-- no list, no dict within -/
def imm : PyData → Bool
  | .list _ => false
  | .dict _ => false
  | .tuple xs => immAll xs
  | .none => true
  | .bool _ => true
  | .int _ => true
  | .str _ => true
def immAll : List PyData → Bool
  | [] => true
  | x :: xs => imm x && immAll xs
end
section
variable {K : PySem.W.Frag} {H H' : Hp}
mutual
theorem Is.mono (e : Ex H H') : ∀ (d : PyData) (v : V), Is K H v d → Is K H' v d
  | .none, _, h => by cases h; exact .non
  | .bool b, _, h => by cases h; exact .bl b
  | .int i, _, h => by cases h; exact .int i
  | .str x, _, h => by cases h; exact .str x
  | .list ds, _, h => by
    cases h with
    | lst hs ha => exact .lst (Evl.ex_l e hs) (Is.monoAll e ds _ ha)
  | .tuple ds, _, h => by
    cases h with
    | tup hs ha => exact .tup (Evl.ex_t e hs) (Is.monoAll e ds _ ha)
  | .dict ks, _, h => by
    cases h with
    | dct hs => exact .dct (e _ _ hs)
theorem Is.monoAll (e : Ex H H') : ∀ (ds : List PyData) (vs : List V), IsAll K H vs ds → IsAll K H' vs ds
  | [], _, h => by cases h; exact .nil
  | d :: ds, _, h => by
    cases h with
    | cons h1 h2 => exact .cons (Is.mono e d _ h1) (Is.monoAll e ds _ h2)
end
/-- tuples stand -/
def ExT (K : PySem.W.Frag) (H H' : Hp) : Prop := ∀ a xs, SqT K H a xs → SqT K H' a xs
mutual
theorem Is.keep (e : ExT K H H') : ∀ (d : PyData) (v : V), imm d = true → Is K H v d → Is K H' v d
  | .none, _, _, h => by cases h; exact .non
  | .bool b, _, _, h => by cases h; exact .bl b
  | .int i, _, _, h => by cases h; exact .int i
  | .str x, _, _, h => by cases h; exact .str x
  | .list ds, _, m, h => by simp [imm] at m
  | .tuple ds, _, m, h => by
    cases h with
    | tup hs ha => exact .tup (e _ _ hs) (Is.keepAll e ds _ (by simpa [imm] using m) ha)
  | .dict ks, _, m, h => by simp [imm] at m
theorem Is.keepAll (e : ExT K H H') : ∀ (ds : List PyData) (vs : List V), immAll ds = true → IsAll K H vs ds → IsAll K H' vs ds
  | [], _, _, h => by cases h; exact .nil
  | d :: ds, _, m, h => by
    have m' : imm d = true ∧ immAll ds = true := by simpa [immAll] using m
    cases h with
    | cons h1 h2 => exact .cons (Is.keep e d _ m'.1 h1) (Is.keepAll e ds _ m'.2 h2)
end
mutual
theorem Is.dp : ∀ (d : PyData) (v : V), d.plain = true → Is K H v d → Dp K H v d
  | .none, _, _, h => by cases h; exact .non
  | .bool b, _, _, h => by cases h; exact .bl b
  | .int i, _, _, h => by cases h; exact .int i
  | .str x, _, _, h => by cases h; exact .str x
  | .list ds, _, m, h => by
    cases h with
    | lst hs ha => exact .lst hs (Is.dpAll ds _ (by simpa [PyData.plain] using m) ha)
  | .tuple ds, _, m, h => by
    cases h with
    | tup hs ha => exact .tup hs (Is.dpAll ds _ (by simpa [PyData.plain] using m) ha)
  | .dict ks, _, m, h => by simp [PyData.plain] at m
theorem Is.dpAll : ∀ (ds : List PyData) (vs : List V), PyData.plainAll ds = true → IsAll K H vs ds → DpAll K H vs ds
  | [], _, _, h => by cases h; exact .nil
  | d :: ds, _, m, h => by
    have m' : d.plain = true ∧ PyData.plainAll ds = true := by simpa [PyData.plainAll] using m
    cases h with
    | cons h1 h2 => exact .cons (Is.dp d _ m'.1 h1) (Is.dpAll ds _ m'.2 h2)
end
theorem IsAll.length {vs : List V} {ds : List PyData} (h : IsAll K H vs ds) : vs.length = ds.length := by
  induction ds generalizing vs with
  | nil => cases h; rfl
  | cons d ds ih =>
    cases h with
    | cons h1 h2 => simp [ih h2]
theorem IsAll.get {vs : List V} {ds : List PyData} (h : IsAll K H vs ds) {i : Nat} {d : PyData} (e : ds[i]? = some d) : ∃ v, vs[i]? = some v ∧ Is K H v d := by
  induction ds generalizing vs i with
  | nil => simp at e
  | cons d ds ih =>
    cases h with
    | cons h1 h2 =>
      cases i with
      | zero => simp at e; subst e; exact ⟨_, rfl, h1⟩
      | succ i => simp at e; simpa using ih h2 e
theorem IsAll.app {vs ws : List V} {ds es : List PyData} (h : IsAll K H vs ds) (h' : IsAll K H ws es) : IsAll K H (vs ++ ws) (ds ++ es) := by
  induction ds generalizing vs with
  | nil => cases h; exact h'
  | cons d ds ih =>
    cases h with
    | cons h1 h2 => exact .cons h1 (ih h2)
theorem IsAll.set {vs : List V} {ds : List PyData} {v : V} {d : PyData} (h : IsAll K H vs ds) (h' : Is K H v d) (i : Nat) : IsAll K H (vs.set i v) (ds.set i d) := by
  induction ds generalizing vs i with
  | nil => cases h; exact .nil
  | cons d ds ih =>
    cases h with
    | cons h1 h2 =>
      cases i with
      | zero => exact .cons h' h2
      | succ i => exact .cons h1 (ih h2 i)
theorem IsAll.take {vs : List V} {ds : List PyData} (n : Nat) (h : IsAll K H vs ds) : IsAll K H (vs.take n) (ds.take n) := by
  induction ds generalizing vs n with
  | nil => cases h; simp; exact .nil
  | cons d ds ih =>
    cases h with
    | cons h1 h2 =>
      cases n with
      | zero => exact .nil
      | succ n => exact .cons h1 (ih n h2)
theorem IsAll.drop {vs : List V} {ds : List PyData} (n : Nat) (h : IsAll K H vs ds) : IsAll K H (vs.drop n) (ds.drop n) := by
  induction ds generalizing vs n with
  | nil => cases h; simp; exact .nil
  | cons d ds ih =>
    cases h with
    | cons h1 h2 =>
      cases n with
      | zero => exact .cons h1 h2
      | succ n => exact ih n h2
theorem immAll_app : ∀ {xs ys : List PyData}, immAll xs = true → immAll ys = true → immAll (xs ++ ys) = true
  | [], _, _, h => h
  | x :: xs, ys, h, h' => by
    have m : imm x = true ∧ immAll xs = true := by simpa [immAll] using h
    show (imm x && immAll (xs ++ ys)) = true
    rw [m.1, immAll_app m.2 h', Bool.and_self]
theorem ExT.mut {p : Addr} {o o' : HO} (h : H p = some (.lst o1)) : ExT K H (upd H p (.lst o2)) := fun a xs q => by
  have ne : ∀ u, H a = some u → (∀ z, u ≠ .lst z) → (upd H p (.lst o2)) a = some u := fun u e n => by
    have z : a ≠ p := fun z => by
      rw [z, h] at e
      exact n _ (Option.some.inj e).symm
    rw [upd_ne z]; exact e
  rcases q with (q | ⟨o, q⟩) | q
  · exact .inl (.inl (ne _ q fun z => by simp))
  · exact .inl (.inr ⟨o, ne _ q fun z => by simp⟩)
  · exact .inr q
theorem Is.intV {v : V} {i : Int} (h : Is K H v (.int i)) : v = .int i := by cases h; rfl
theorem Is.strV {v : V} {i : Str} (h : Is K H v (.str i)) : v = .str i := by cases h; rfl
theorem Is.blV {v : V} {i : Bool} (h : Is K H v (.bool i)) : v = .bl i := by cases h; rfl
theorem Is.nonV {v : V} (h : Is K H v .none) : v = .non := by cases h; rfl
theorem Is.tupV {v : V} {ds : List PyData} (h : Is K H v (.tuple ds)) : ∃ p vs, v = .ref p ∧ SqT K H p vs ∧ IsAll K H vs ds := by
  cases h with
  | tup a b => exact ⟨_, _, rfl, a, b⟩
theorem Is.lstV {v : V} {ds : List PyData} (h : Is K H v (.list ds)) : ∃ p vs, v = .ref p ∧ SqL K H p vs ∧ IsAll K H vs ds := by
  cases h with
  | lst a b => exact ⟨_, _, rfl, a, b⟩
end

/-! ### what the slots hold -/
inductive Sl where
  | u
  | d (x : PyData)
  | L (p : Addr) (xs : List PyData)
  | R (xs : List PyData)
  | v (x : V)
def SlOk (K : PySem.W.Frag) (H0 H : Hp) (o : Option (Option V)) : Sl → Prop
  | .u => True
  | .d x => ∃ v, o = some (some v) ∧ Is K H v x
  | .L p xs => ∃ vs, o = some (some (.ref p)) ∧ H p = some (.lst vs) ∧ H0 p = none ∧ IsAll K H vs xs
  | .R xs => ∃ p vs, o = some (some (.ref p)) ∧ SqL K H0 p vs ∧ IsAll K H0 vs xs
  | .v x => o = some (some x)
structure SOk (K : PySem.W.Frag) (H0 : Hp) (σ : St) (H : Hp) (δ : List Sl) : Prop where
  ex : Ex H0 H
  len : σ.length = δ.length
  sl : ∀ (i : Nat) (s : Sl), δ[i]? = some s → SlOk K H0 H σ[i]? s
  apart : ∀ (i j : Nat) (p : Addr) (xs ys : List PyData), δ[i]? = some (.L p xs) → δ[j]? = some (.L p ys) → i = j
section
variable {K : PySem.W.Frag} {H0 H H' : Hp} {σ : St} {δ : List Sl}
theorem SlOk.mono {o : Option (Option V)} {s : Sl} (e : Ex H H') (h : SlOk K H0 H o s) : SlOk K H0 H' o s := by
  cases s with
  | u => trivial
  | d x => obtain ⟨v, h1, h2⟩ := h; exact ⟨v, h1, h2.mono e _ _⟩
  | L p xs => obtain ⟨vs, h1, h2, h3, h4⟩ := h; exact ⟨vs, h1, e _ _ h2, h3, Is.monoAll e _ _ h4⟩
  | R xs => exact h
  | v x => exact h
theorem SOk.mono (S : SOk K H0 σ H δ) (e : Ex H H') : SOk K H0 σ H' δ := ⟨S.ex.trans e, S.len, fun i s h => (S.sl i s h).mono e, S.apart⟩
theorem set_at {α : Type} {l : List α} {i j : Nat} {x y : α} (e : (l.set i x)[j]? = some y) : (j = i ∧ y = x ∧ j < l.length) ∨ (j ≠ i ∧ l[j]? = some y) := by
  by_cases z : j = i
  · subst z
    have hj : j < l.length := by
      have := (List.getElem?_eq_some_iff.mp e).1
      simpa using this
    rw [List.getElem?_set_self hj] at e
    exact .inl ⟨rfl, (Option.some.inj e).symm, hj⟩
  · rw [List.getElem?_set_ne (Ne.symm z)] at e
    exact .inr ⟨z, e⟩
/-- a slot is stored -/
theorem SOk.put (S : SOk K H0 σ H δ) {i : Nat} {o : Option V} {s : Sl} (h : SlOk K H0 H (some o) s) (ha : ∀ p xs j ys, s = .L p xs → j ≠ i → δ[j]? ≠ some (.L p ys)) : SOk K H0 (σ.set i o) H (δ.set i s) := by
  refine ⟨S.ex, by simp [S.len], fun j t e => ?_, fun j l p xs ys e1 e2 => ?_⟩
  · rcases set_at e with ⟨rfl, rfl, hj⟩ | ⟨z, e⟩
    · rw [List.getElem?_set_self (by rw [S.len]; exact hj)]
      exact h
    · rw [List.getElem?_set_ne (Ne.symm z)]
      exact S.sl j t e
  · rcases set_at e1 with ⟨r1, t1, _⟩ | ⟨z1, f1⟩
    · rcases set_at e2 with ⟨r2, t2, _⟩ | ⟨z2, f2⟩
      · rw [r1, r2]
      · exact absurd f2 (ha p xs l ys t1.symm z2)
    · rcases set_at e2 with ⟨r2, t2, _⟩ | ⟨z2, f2⟩
      · exact absurd f1 (ha p ys j xs t2.symm z1)
      · exact S.apart j l p xs ys f1 f2
theorem SOk.setD (S : SOk K H0 σ H δ) {i : Nat} {v : V} {x : PyData} (h : Is K H v x) : SOk K H0 (σ.set i (some v)) H (δ.set i (.d x)) := S.put ⟨v, rfl, h⟩ fun _ _ _ _ e => nomatch e
theorem SOk.setU (S : SOk K H0 σ H δ) {i : Nat} {o : Option V} : SOk K H0 (σ.set i o) H (δ.set i .u) := S.put trivial fun _ _ _ _ e => nomatch e
/-- a new list: no slot holds it -/
theorem SOk.newL (S : SOk K H0 σ H δ) (e : Ex H H') {i : Nat} {p : Addr} {vs : List V} {xs : List PyData} (hp : H p = none) (h1 : H' p = some (.lst vs)) (h : IsAll K H' vs xs) : SOk K H0 (σ.set i (some (.ref p))) H' (δ.set i (.L p xs)) := by
  refine (S.mono e).put ⟨vs, rfl, h1, Evl.fresh_back S.ex hp, h⟩ fun q ys j zs z _ hj => ?_
  cases z
  obtain ⟨ws, _, e2, _⟩ := S.sl j _ hj
  rw [hp] at e2
  cases e2
def immSl : Sl → Bool
  | .u => true
  | .d x => imm x
  | .L _ xs => immAll xs
  | .R xs => immAll xs
  | .v _ => true
/-- a list of a slot is changed -/
theorem SOk.mut (S : SOk K H0 σ H δ) {i : Nat} {p : Addr} {ws : List V} {xs ys : List PyData} (hi : δ[i]? = some (.L p xs)) (h : IsAll K H ws ys) (hm : immAll ys = true) (him : δ.all immSl = true) :
    SOk K H0 σ (upd H p (.lst ws)) (δ.set i (.L p ys)) := by
  obtain ⟨vs, hp, h1, e3, _⟩ := S.sl i _ hi
  have eT : ExT K H (upd H p (.lst ws)) := ExT.mut (o := .lst vs) (o' := .lst ws) h1
  refine ⟨fun a o e => ?_, by simp [S.len], fun j s e => ?_, fun j l q xs' ys' a1 a2 => ?_⟩
  · rw [upd_ne (ne_of_none e e3)]
    exact S.ex a o e
  · rcases set_at e with ⟨rfl, rfl, hj⟩ | ⟨z, f⟩
    · exact ⟨ws, hp, upd_same, e3, Is.keepAll eT _ _ hm h⟩
    · clear e
      have e := f
      have hs := S.sl j s e
      have hims : immSl s = true := List.all_eq_true.mp him s (List.mem_of_getElem? e)
      cases s with
      | u => trivial
      | d x => obtain ⟨v, h1', h2⟩ := hs; exact ⟨v, h1', Is.keep eT _ _ hims h2⟩
      | L p2 xs2 =>
        obtain ⟨vs2, b1, b2, b3, b4⟩ := hs
        refine ⟨vs2, b1, ?_, b3, Is.keepAll eT _ _ hims b4⟩
        have ne : p2 ≠ p := fun w => by
          subst w
          exact z (S.apart j i p2 _ _ e hi)
        rw [upd_ne ne]
        exact b2
      | R xs2 => exact hs
      | v x => exact hs
  · have f : ∀ {j : Nat} {q : Addr} {zs : List PyData}, (δ.set i (.L p ys))[j]? = some (.L q zs) → ∃ zs', δ[j]? = some (.L q zs') := fun {j q zs} e => by
      rcases set_at e with ⟨rfl, t, hj⟩ | ⟨z, e⟩
      · cases t
        exact ⟨xs, hi⟩
      · exact ⟨_, e⟩
    obtain ⟨z1, c1⟩ := f a1
    obtain ⟨z2, c2⟩ := f a2
    exact S.apart j l q _ _ c1 c2
/-- the ground may grow by what no slot changes -/
theorem SOk.ground (S : SOk K H0 σ H δ) {a : Addr} {o : HO} (ha : H a = some o) (hn : H0 a = none) (hl : ∀ (i : Nat) (p : Addr) (xs : List PyData), δ[i]? = some (.L p xs) → p ≠ a) : SOk K (upd H0 a o) σ H δ := by
  have e1 : Ex H0 (upd H0 a o) := Evl.Ex.new hn
  refine ⟨fun b u e => ?_, S.len, fun i s e => ?_, S.apart⟩
  · by_cases z : b = a
    · subst z
      rw [upd_same] at e
      cases e
      exact ha
    · rw [upd_ne z] at e
      exact S.ex b u e
  · have h := S.sl i s e
    cases s with
    | u => trivial
    | d x => exact h
    | L p xs =>
      obtain ⟨vs, h1, h2, h3, h4⟩ := h
      exact ⟨vs, h1, h2, by rw [upd_ne (hl i p xs e)]; exact h3, h4⟩
    | R xs => obtain ⟨p, vs, h1, h2, h4⟩ := h; exact ⟨p, vs, h1, Evl.ex_l e1 h2, Is.monoAll e1 _ _ h4⟩
    | v x => exact h
end
end NF
namespace NF
open PySem PySem.Spec L2
open Evl (Ex)
/-! ### what evaluates to what -/
def EvD (K : PySem.W.Frag) (H0 : Hp) (δ : List Sl) (te : TE) (x : PyData) : Prop := ∀ σ H, SOk K H0 σ H δ → ∀ Q : VK, (∀ v H', Ex H H' → Is K H' v x → Q v H') → te σ H Q
def EvN (K : PySem.W.Frag) (H0 : Hp) (δ : List Sl) (te : TE) (xs : List PyData) : Prop := ∀ σ H, SOk K H0 σ H δ → ∀ Q : VK, (∀ p vs H', H p = none → Ex H H' → H' p = some (.lst vs) → IsAll K H' vs xs → Q (.ref p) H') → te σ H Q
def EvW (K : PySem.W.Frag) (H0 : Hp) (δ : List Sl) (te : TE) (xs : List PyData) : Prop := ∀ σ H, SOk K H0 σ H δ → ∀ Q : VK, (∀ p vs H', Ex H H' → H' p = some (.lst vs) → IsAll K H' vs xs → Q (.ref p) H') → te σ H Q
def EvT (K : PySem.W.Frag) (H0 : Hp) (δ : List Sl) (tt : TT) (b : Bool) : Prop := ∀ σ H, SOk K H0 σ H δ → ∀ Q : Bool → Hp → Prop, (∀ H', Ex H H' → Q b H') → tt σ H Q
def EvA (K : PySem.W.Frag) (H0 : Hp) (δ : List Sl) (ta : TA) (xs : List PyData) : Prop := ∀ σ H, SOk K H0 σ H δ → ∀ Q : List V → Hp → Prop, (∀ vs H', Ex H H' → IsAll K H' vs xs → Q vs H') → ta σ H Q
def XE (X : Cx) (H0 : Hp) (δ : List Sl) (e : Expr) (x : PyData) : Prop := ∃ te, PE X e te ∧ EvD X.K H0 δ te x
def XN (X : Cx) (H0 : Hp) (δ : List Sl) (e : Expr) (xs : List PyData) : Prop := ∃ te, PE X e te ∧ EvN X.K H0 δ te xs
def XL (X : Cx) (H0 : Hp) (δ : List Sl) (e : Expr) (xs : List PyData) : Prop := ∃ te, PE X e te ∧ EvW X.K H0 δ te xs
def XT (X : Cx) (H0 : Hp) (δ : List Sl) (e : Expr) (b : Bool) : Prop := ∃ tt, PT X e tt ∧ EvT X.K H0 δ tt b
def XW (X : Cx) (H0 : Hp) (δ : List Sl) (e : Expr) (b : Bool) : Prop := ∃ tt, PW X e tt ∧ EvT X.K H0 δ tt b
/-- a comparison: as a value and as a test -/
def XQ (X : Cx) (H0 : Hp) (δ : List Sl) (e : Expr) (b : Bool) : Prop := ∃ te, PE X e te ∧ PT X e (tTest te) ∧ EvD X.K H0 δ te (.bool b)
def XA (X : Cx) (H0 : Hp) (δ : List Sl) (es : List Expr) (xs : List PyData) : Prop := ∃ ta, PA X es ta ∧ EvA X.K H0 δ ta xs

section
variable {X : Cx} {H0 : Hp} {δ : List Sl} {a b c e : Expr} {es : List Expr} {pos p2 : Pos} {x y z : PyData} {xs ys ds : List PyData} {i j : Int} {s t : Str} {k l : Bool}
theorem XE.is (h : XE X H0 δ e x) (e1 : x = y) : XE X H0 δ e y := e1 ▸ h
theorem XT.is (h : XT X H0 δ e k) (e1 : k = l) : XT X H0 δ e l := e1 ▸ h
theorem XN.xl (h : XN X H0 δ e xs) : XL X H0 δ e xs := by
  obtain ⟨te, h1, h2⟩ := h
  exact ⟨te, h1, fun σ H S Q q => h2 σ H S Q fun p vs H' _ e hp hi => q p vs H' e hp hi⟩
theorem XL.xe (h : XL X H0 δ e xs) : XE X H0 δ e (.list xs) := by
  obtain ⟨te, h1, h2⟩ := h
  exact ⟨te, h1, fun σ H S Q q => h2 σ H S Q fun p vs H' e hp hi => q _ H' e (.lst (Evl.sq_of hp) hi)⟩
theorem XN.xe (h : XN X H0 δ e xs) : XE X H0 δ e (.list xs) := h.xl.xe
theorem xe_int {n} : XE X H0 δ (.Constant (.int i) n pos) (.int i) := ⟨_, pe_int, fun _ H _ _ q => q _ H (Evl.Ex.refl H) (.int _)⟩
theorem xe_str {n} : XE X H0 δ (.Constant (.str s) n pos) (.str s) := ⟨_, pe_str, fun _ H _ _ q => q _ H (Evl.Ex.refl H) (.str _)⟩
theorem xe_bl {n} : XE X H0 δ (.Constant (.bool k) n pos) (.bool k) := ⟨_, pe_bl, fun _ H _ _ q => q _ H (Evl.Ex.refl H) (.bl _)⟩
theorem xe_non {n} : XE X H0 δ (.Constant .none n pos) .none := ⟨_, pe_non, fun _ H _ _ q => q _ H (Evl.Ex.refl H) .non⟩
theorem xe_var (n : Nat) {nm : Str} (hs : δ[n]? = some (.d x)) (hN : X.N[n]? = some nm := by rfl) (hv : Vis X.env.scope nm := by first | exact Or.inl rfl | exact Or.inr (Or.inl rfl) | exact Or.inr (Or.inr rfl))
    (hd : (nm == ("__debug__" : Str)) = false := by decide) (hcd : (nm == ("__classdict__" : Str)) = false := by decide) : XE X H0 δ (.Name nm pos) x :=
  ⟨tVar n, pe_var hN hv hd hcd, fun σ H S Q q => by
    obtain ⟨v, e, h⟩ := S.sl n _ hs
    exact ⟨v, e, q v H (Evl.Ex.refl H) h⟩⟩
theorem xl_var (n : Nat) {nm : Str} {ad : Addr} (hs : δ[n]? = some (.L ad xs)) (hN : X.N[n]? = some nm := by rfl) (hv : Vis X.env.scope nm := by first | exact Or.inl rfl | exact Or.inr (Or.inl rfl) | exact Or.inr (Or.inr rfl))
    (hd : (nm == ("__debug__" : Str)) = false := by decide) (hcd : (nm == ("__classdict__" : Str)) = false := by decide) : XL X H0 δ (.Name nm pos) xs :=
  ⟨tVar n, pe_var hN hv hd hcd, fun σ H S Q q => by
    obtain ⟨vs, e, h, _, ha⟩ := S.sl n _ hs
    exact ⟨.ref _, e, q _ vs H (Evl.Ex.refl H) h ha⟩⟩
theorem xe_varL (n : Nat) {nm : Str} {q : Addr} (hs : δ[n]? = some (.L q xs)) (hN : X.N[n]? = some nm := by rfl) (hv : Vis X.env.scope nm := by first | exact Or.inl rfl | exact Or.inr (Or.inl rfl) | exact Or.inr (Or.inr rfl))
    (hd : (nm == ("__debug__" : Str)) = false := by decide) (hcd : (nm == ("__classdict__" : Str)) = false := by decide) : XE X H0 δ (.Name nm pos) (.list xs) := (xl_var n hs hN hv hd hcd).xe
theorem xe_varR (n : Nat) {nm : Str} (hs : δ[n]? = some (.R xs)) (hN : X.N[n]? = some nm := by rfl) (hv : Vis X.env.scope nm := by first | exact Or.inl rfl | exact Or.inr (Or.inl rfl) | exact Or.inr (Or.inr rfl))
    (hd : (nm == ("__debug__" : Str)) = false := by decide) (hcd : (nm == ("__classdict__" : Str)) = false := by decide) : XE X H0 δ (.Name nm pos) (.list xs) :=
  ⟨tVar n, pe_var hN hv hd hcd, fun σ H S Q q => by
    obtain ⟨p, vs, e, h, ha⟩ := S.sl n _ hs
    exact ⟨.ref p, e, q _ H (Evl.Ex.refl H) (.lst (Evl.ex_l S.ex h) (Is.monoAll S.ex _ _ ha))⟩⟩

/-! ### operations -/
theorem ev_op {r : R2} {ta tb : TE} (ha : EvD X.K H0 δ ta x) (hb : EvD X.K H0 δ tb y) (hr : ∀ v w H, Is X.K H v x → Is X.K H w y → ∀ Q : VK, (∀ u H', Ex H H' → Is X.K H' u z → Q u H') → r v w H Q) : EvD X.K H0 δ (tOp r ta tb) z :=
  fun σ H S Q q => ha σ H S _ fun v H1 e1 i1 => hb σ H1 (S.mono e1) _ fun w H2 e2 i2 => hr v w H2 (i1.mono e2 _ _) i2 Q fun u H3 e3 i3 => q u H3 ((e1.trans e2).trans e3) i3
theorem xe_op {op : Operator} {r : R2} (ho : OpR X (binaryOp op) r) (ha : XE X H0 δ a x) (hb : XE X H0 δ b y) (hr : ∀ v w H, Is X.K H v x → Is X.K H w y → ∀ Q : VK, (∀ u H', Ex H H' → Is X.K H' u z → Q u H') → r v w H Q) : XE X H0 δ (.BinOp a op b pos) z := by
  obtain ⟨ta, a1, a2⟩ := ha
  obtain ⟨tb, b1, b2⟩ := hb
  exact ⟨_, pe_op ho a1 b1, ev_op a2 b2 hr⟩
theorem xe_cmp {op : CmpOp} {r : R2} (ho : OpR X (compareOp op) r) (ha : XE X H0 δ a x) (hb : XE X H0 δ b y) (hm : behindInMarks op b = false) (hr : ∀ v w H, Is X.K H v x → Is X.K H w y → ∀ Q : VK, (∀ u H', Ex H H' → Is X.K H' u (.bool k) → Q u H') → r v w H Q) : XQ X H0 δ (.Compare a [op] [b] pos) k := by
  obtain ⟨ta, a1, a2⟩ := ha
  obtain ⟨tb, b1, b2⟩ := hb
  exact ⟨_, pe_cmpR ho a1 b1 hm, pt_cmpR ho a1 b1 hm, ev_op a2 b2 hr⟩
theorem XQ.asE (h : XQ X H0 δ e k) : XE X H0 δ e (.bool k) := by
  obtain ⟨t, h1, _, h2⟩ := h
  exact ⟨t, h1, h2⟩
theorem XQ.asT (h : XQ X H0 δ e k) : XT X H0 δ e k := by
  obtain ⟨t, _, h1, h2⟩ := h
  exact ⟨_, h1, fun σ H S Q q => h2 σ H S _ fun v H1 e1 i1 => ⟨k, i1.blV, q H1 e1⟩⟩
theorem rI0_is {g : Int → Int → V} {K : PySem.W.Frag} (hg : ∀ H, Is K H (g i j) z) : ∀ v w H, Is K H v (.int i) → Is K H w (.int j) → ∀ Q : VK, (∀ u H', Ex H H' → Is K H' u z → Q u H') → rI0 g v w H Q :=
  fun v w H hv hw Q q => ⟨i, j, hv.intV, hw.intV, q _ H (Evl.Ex.refl H) (hg H)⟩
theorem rI_is {C : Int → Int → Prop} {g : Int → Int → V} {K : PySem.W.Frag} (hc : C i j) (hg : ∀ H, Is K H (g i j) z) : ∀ v w H, Is K H v (.int i) → Is K H w (.int j) → ∀ Q : VK, (∀ u H', Ex H H' → Is K H' u z → Q u H') → rI C g v w H Q :=
  fun v w H hv hw Q q => ⟨i, j, hv.intV, hw.intV, hc, q _ H (Evl.Ex.refl H) (hg H)⟩
theorem xe_add (ha : XE X H0 δ a (.int i)) (hb : XE X H0 δ b (.int j)) : XE X H0 δ (.BinOp a .Add b pos) (.int (i + j)) := xe_op op_add ha hb (rI0_is fun _ => .int _)
theorem xe_sub (ha : XE X H0 δ a (.int i)) (hb : XE X H0 δ b (.int j)) : XE X H0 δ (.BinOp a .Sub b pos) (.int (i - j)) := xe_op op_sub ha hb (rI0_is fun _ => .int _)
theorem xe_mul (ha : XE X H0 δ a (.int i)) (hb : XE X H0 δ b (.int j)) (hc : CMulX i j) : XE X H0 δ (.BinOp a .Mult b pos) (.int (i * j)) := xe_op op_mulX ha hb (rI_is hc fun _ => .int _)
theorem xe_mulS (ha : XE X H0 δ a (.int i)) (hb : XE X H0 δ b (.int j)) (hc : CMul i j) : XE X H0 δ (.BinOp a .Mult b pos) (.int (i * j)) := xe_op op_mul ha hb (rI_is hc fun _ => .int _)
theorem xe_div (ha : XE X H0 δ a (.int i)) (hb : XE X H0 δ b (.int j)) (hc : CDivW i j) : XE X H0 δ (.BinOp a .FloorDiv b pos) (.int (i / j)) := xe_op op_fdivW ha hb (rI_is hc fun _ => .int _)
theorem xe_mod (ha : XE X H0 δ a (.int i)) (hb : XE X H0 δ b (.int j)) (hc : 0 < j) : XE X H0 δ (.BinOp a .Mod b pos) (.int (i % j)) := xe_op op_mod ha hb (rI_is (C := fun _ j => 0 < j) hc fun _ => .int _)
theorem xe_pow (ha : XE X H0 δ a (.int i)) (hb : XE X H0 δ b (.int j)) (hc : CPow i j) : XE X H0 δ (.BinOp a .Pow b pos) (.int (i ^ j.toNat)) := xe_op op_pow ha hb (rI_is hc fun _ => .int _)
theorem xe_neg (ha : XE X H0 δ a (.int i)) : XE X H0 δ (.UnaryOp .USub a pos) (.int (-i)) := by
  obtain ⟨ta, a1, a2⟩ := ha
  exact ⟨_, pe_un un_neg a1, fun σ H S Q q => a2 σ H S _ fun v H1 e1 i1 => ⟨i, i1.intV, q _ H1 e1 (.int _)⟩⟩
theorem xe_lt (ha : XE X H0 δ a (.int i)) (hb : XE X H0 δ b (.int j)) : XQ X H0 δ (.Compare a [.Lt] [b] pos) (decide (i < j)) := xe_cmp op_lt ha hb (nomark _) (rI0_is fun _ => .bl _)
theorem xe_le (ha : XE X H0 δ a (.int i)) (hb : XE X H0 δ b (.int j)) : XQ X H0 δ (.Compare a [.LtE] [b] pos) (decide (i ≤ j)) := xe_cmp op_le ha hb (nomark _) (rI0_is fun _ => .bl _)
theorem xe_gt (ha : XE X H0 δ a (.int i)) (hb : XE X H0 δ b (.int j)) : XQ X H0 δ (.Compare a [.Gt] [b] pos) (decide (j < i)) := xe_cmp op_gt ha hb (nomark _) (rI0_is fun _ => .bl _)
theorem xe_ge (ha : XE X H0 δ a (.int i)) (hb : XE X H0 δ b (.int j)) : XQ X H0 δ (.Compare a [.GtE] [b] pos) (decide (j ≤ i)) := xe_cmp op_ge ha hb (nomark _) (rI0_is fun _ => .bl _)
/-- == of any data -/
def rEqP (K : PySem.W.Frag) : R2 := fun x y H Q => ∃ d e, Dp K H x d ∧ Dp K H y e ∧ d.plain = true ∧ e.plain = true ∧ min d.depth e.depth ≤ 64 ∧ Q (.bl (PyData.eqv d e)) H
def rNeP (K : PySem.W.Frag) : R2 := fun x y H Q => ∃ d e, Dp K H x d ∧ Dp K H y e ∧ d.plain = true ∧ e.plain = true ∧ min d.depth e.depth ≤ 64 ∧ Q (.bl (!PyData.eqv d e)) H
theorem op_eqP (hu : X.A.units + 64 < cLine) : OpR X (compareOp .Eq) (rEqP X.K) := by
  intro pins s σ H x y v u Q I rx ry h
  obtain ⟨d, e, hd, he, sd, se, hm, q⟩ := h
  obtain ⟨as, r1⟩ := Dp.reads I d x v hd rx
  obtain ⟨bs, r2⟩ := Dp.reads I e y u he ry
  exact SeqAt.eq_plain r1 r2 sd se (by omega) ⟨.bl _, H, I, rfl, q⟩
theorem op_neP (hu : X.A.units + 64 < cLine) : OpR X (compareOp .NotEq) (rNeP X.K) := by
  intro pins s σ H x y v u Q I rx ry h
  obtain ⟨d, e, hd, he, sd, se, hm, q⟩ := h
  obtain ⟨as, r1⟩ := Dp.reads I d x v hd rx
  obtain ⟨bs, r2⟩ := Dp.reads I e y u he ry
  exact SeqAt.ne_plain r1 r2 sd se (by omega) ⟨.bl _, H, I, rfl, q⟩
theorem xe_eq (hu : X.A.units + 64 < cLine) (ha : XE X H0 δ a x) (hb : XE X H0 δ b y) (hx : x.plain = true) (hy : y.plain = true) (hd : min x.depth y.depth ≤ 64) : XQ X H0 δ (.Compare a [.Eq] [b] pos) (PyData.eqv x y) :=
  xe_cmp (op_eqP hu) ha hb (nomark _) fun v w H hv hw Q q => ⟨x, y, hv.dp _ _ hx, hw.dp _ _ hy, hx, hy, hd, q _ H (Evl.Ex.refl H) (.bl _)⟩
theorem xe_ne (hu : X.A.units + 64 < cLine) (ha : XE X H0 δ a x) (hb : XE X H0 δ b y) (hx : x.plain = true) (hy : y.plain = true) (hd : min x.depth y.depth ≤ 64) : XQ X H0 δ (.Compare a [.NotEq] [b] pos) (!PyData.eqv x y) :=
  xe_cmp (op_neP hu) ha hb (nomark _) fun v w H hv hw Q q => ⟨x, y, hv.dp _ _ hx, hw.dp _ _ hy, hx, hy, hd, q _ H (Evl.Ex.refl H) (.bl _)⟩
/-- == of ints -/
theorem xe_eqI (ha : XE X H0 δ a (.int i)) (hb : XE X H0 δ b (.int j)) : XQ X H0 δ (.Compare a [.Eq] [b] pos) (decide (i = j)) :=
  xe_cmp op_eq ha hb (nomark _) fun v w H hv hw Q q => by
    rw [hv.intV, hw.intV]
    refine ⟨rfl, ?_⟩
    have e : decide (V.int i = V.int j) = decide (i = j) := by
      by_cases h : i = j
      · subst h; simp
      · simp [h]
    rw [e]
    exact q _ H (Evl.Ex.refl H) (.bl _)
theorem xe_neI (ha : XE X H0 δ a (.int i)) (hb : XE X H0 δ b (.int j)) : XQ X H0 δ (.Compare a [.NotEq] [b] pos) (!decide (i = j)) :=
  xe_cmp op_ne ha hb (nomark _) fun v w H hv hw Q q => by
    rw [hv.intV, hw.intV]
    refine ⟨rfl, ?_⟩
    have e : decide (V.int i = V.int j) = decide (i = j) := by
      by_cases h : i = j
      · subst h; simp
      · simp [h]
    rw [e]
    exact q _ H (Evl.Ex.refl H) (.bl _)
theorem xe_eqS (ha : XE X H0 δ a (.str s)) (hb : XE X H0 δ b (.str t)) : XQ X H0 δ (.Compare a [.Eq] [b] pos) (decide (s = t)) :=
  xe_cmp op_eq ha hb (nomark _) fun v w H hv hw Q q => by
    rw [hv.strV, hw.strV]
    refine ⟨rfl, ?_⟩
    have e : decide (V.str s = V.str t) = decide (s = t) := by
      by_cases h : s = t
      · subst h; simp
      · simp [h]
    rw [e]
    exact q _ H (Evl.Ex.refl H) (.bl _)
theorem xe_neS (ha : XE X H0 δ a (.str s)) (hb : XE X H0 δ b (.str t)) : XQ X H0 δ (.Compare a [.NotEq] [b] pos) (!decide (s = t)) :=
  xe_cmp op_ne ha hb (nomark _) fun v w H hv hw Q q => by
    rw [hv.strV, hw.strV]
    refine ⟨rfl, ?_⟩
    have e : decide (V.str s = V.str t) = decide (s = t) := by
      by_cases h : s = t
      · subst h; simp
      · simp [h]
    rw [e]
    exact q _ H (Evl.Ex.refl H) (.bl _)
theorem xe_isB (ha : XE X H0 δ a (.bool k)) (hb : XE X H0 δ b (.bool l)) : XQ X H0 δ (.Compare a [.Is] [b] pos) (decide (k = l)) :=
  xe_cmp op_isBl ha hb (nomark _) fun v w H hv hw Q q => ⟨k, l, hv.blV, hw.blV, q _ H (Evl.Ex.refl H) (.bl _)⟩
theorem xe_notB (ha : XE X H0 δ a (.bool k)) (hb : XE X H0 δ b (.bool l)) : XQ X H0 δ (.Compare a [.IsNot] [b] pos) (!decide (k = l)) :=
  xe_cmp op_notBl ha hb (nomark _) fun v w H hv hw Q q => ⟨k, l, hv.blV, hw.blV, q _ H (Evl.Ex.refl H) (.bl _)⟩
def isNone : PyData → Bool
  | .none => true
  | _ => false
theorem Is.noneB {K : PySem.W.Frag} {H : Hp} {v : V} (h : Is K H v x) : decide (v = .non) = isNone x := by cases h <;> simp [isNone]
theorem xe_isN {n} {p3 : Pos} (ha : XE X H0 δ a x) : XQ X H0 δ (.Compare a [.Is] [.Constant .none n p3] pos) (isNone x) :=
  xe_cmp op_isN ha xe_non (nomark _) fun v w H hv hw Q q => ⟨hw.nonV, by rw [hv.noneB]; exact q _ H (Evl.Ex.refl H) (.bl _)⟩
theorem xe_cat (ha : XE X H0 δ a (.str s)) (hb : XE X H0 δ b (.str t)) (hl : s.length + t.length ≤ sizeLine) : XE X H0 δ (.BinOp a .Add b pos) (.str (s ++ t)) :=
  xe_op op_add_str ha hb fun v w H hv hw Q q => ⟨s, t, hv.strV, hw.strV, hl, q _ H (Evl.Ex.refl H) (.str _)⟩
/-- one sign in a text -/
theorem xe_inS {n : Nat} (ha : XE X H0 δ a (.str ⟨#[n]⟩)) (hb : XE X H0 δ b (.str t)) (hm : behindInMarks .In b = false := by rfl) : XQ X H0 δ (.Compare a [.In] [b] pos) (decide (n ∈ t.cps.toList)) :=
  xe_cmp op_in_sign ha hb hm fun v w H hv hw Q q => ⟨n, t, hv.strV, hw.strV, q _ H (Evl.Ex.refl H) (.bl _)⟩
theorem xe_ninS {n : Nat} (ha : XE X H0 δ a (.str ⟨#[n]⟩)) (hb : XE X H0 δ b (.str t)) (hm : behindInMarks .NotIn b = false := by rfl) : XQ X H0 δ (.Compare a [.NotIn] [b] pos) (!decide (n ∈ t.cps.toList)) :=
  xe_cmp op_notIn_sign ha hb hm fun v w H hv hw Q q => ⟨n, t, hv.strV, hw.strV, q _ H (Evl.Ex.refl H) (.bl _)⟩
/-- a text in a tuple of texts -/
theorem texts_v {K : PySem.W.Frag} {H : Hp} : ∀ {ts : List Str} {vs : List V}, IsAll K H vs (ts.map .str) → vs = ts.map V.str
  | [], vs, h => by cases h; rfl
  | t :: ts, vs, h => by
    cases h with
    | cons h1 h2 => rw [h1.strV, texts_v h2]; rfl
theorem all_flat : ∀ ts : List Str, (ts.map V.str).all flatV = true
  | [] => rfl
  | t :: ts => by simp [flatV]
theorem in_texts (s : Str) : ∀ ts : List Str, inV (.str s) (ts.map V.str) = decide (s ∈ ts)
  | [] => by simp [inV]
  | t :: ts => by
    have ih := in_texts s ts
    unfold inV at ih ⊢
    rw [List.map_cons, List.any_cons, ih]
    have e : eqV (V.str t) (V.str s) = decide (s = t) := by
      unfold eqV
      by_cases h : s = t
      · subst h; simp
      · have h' : ¬ t = s := fun z => h z.symm
        simp [h, h']
    rw [e]
    by_cases h : s = t
    · simp [h]
    · simp [h]
theorem xe_inT {ts : List Str} (ha : XE X H0 δ a (.str s)) (hb : XE X H0 δ b (.tuple (ts.map .str))) (hm : behindInMarks .In b = false := by rfl) : XQ X H0 δ (.Compare a [.In] [b] pos) (decide (s ∈ ts)) :=
  xe_cmp op_in_seq ha hb hm fun v w H hv hw Q q => by
    obtain ⟨p, vs, rfl, h1, h2⟩ := hw.tupV
    rw [hv.strV]
    rw [texts_v h2] at h1
    refine ⟨p, _, rfl, .inr h1, rfl, all_flat ts, ?_⟩
    rw [in_texts]
    exact q _ H (Evl.Ex.refl H) (.bl _)
theorem xe_ninT {ts : List Str} (ha : XE X H0 δ a (.str s)) (hb : XE X H0 δ b (.tuple (ts.map .str))) (hm : behindInMarks .NotIn b = false := by rfl) : XQ X H0 δ (.Compare a [.NotIn] [b] pos) (!decide (s ∈ ts)) :=
  xe_cmp op_notIn_seq ha hb hm fun v w H hv hw Q q => by
    obtain ⟨p, vs, rfl, h1, h2⟩ := hw.tupV
    rw [hv.strV]
    rw [texts_v h2] at h1
    refine ⟨p, _, rfl, .inr h1, rfl, all_flat ts, ?_⟩
    rw [in_texts]
    exact q _ H (Evl.Ex.refl H) (.bl _)

/-! ### tests, and, or, not -/
theorem xt_val (h : XE X H0 δ e (.bool k)) (he : ∀ whole, isTrue e X.env whole = (do let v ← whole; standAt e.pos; holding [v] (truthy v)) := by intro _; rfl) : XT X H0 δ e k := by
  obtain ⟨te, h1, h2⟩ := h
  exact ⟨_, pt_val h1 he, fun σ H S Q q => h2 σ H S _ fun v H1 e1 i1 => ⟨k, i1.blV, q H1 e1⟩⟩
theorem XW.xt (h : XW X H0 δ e k) : XT X H0 δ e k := by
  obtain ⟨t, h1, h2⟩ := h
  exact ⟨t, h1.pt, h2⟩
theorem xt_not (h : XT X H0 δ e k) : XT X H0 δ (.UnaryOp .Not e pos) (!k) := by
  obtain ⟨t, h1, h2⟩ := h
  exact ⟨_, pt_not h1, fun σ H S Q q => h2 σ H S _ fun H1 e1 => q H1 e1⟩
theorem xw_and1 (h : XT X H0 δ e k) : XW X H0 δ (.BoolOp .And [e] pos) k := by
  obtain ⟨t, h1, h2⟩ := h
  exact ⟨t, pw_and1 h1, h2⟩
theorem xw_or1 (h : XT X H0 δ e k) : XW X H0 δ (.BoolOp .Or [e] pos) k := by
  obtain ⟨t, h1, h2⟩ := h
  exact ⟨t, pw_or1 h1, h2⟩
/-- both are walked -/
theorem xw_and (h : XT X H0 δ a k) (h' : k = true → XW X H0 δ (.BoolOp .And (b :: es) pos) l) : XW X H0 δ (.BoolOp .And (a :: b :: es) pos) (k && l) := by
  obtain ⟨t, h1, h2⟩ := h
  cases k with
  | true =>
    obtain ⟨u, g1, g2⟩ := h' rfl
    refine ⟨_, pw_and h1 g1, fun σ H S Q q => h2 σ H S _ fun H1 e1 => ?_⟩
    rw [if_pos rfl]
    exact g2 σ H1 (S.mono e1) Q fun H2 e2 => q H2 (e1.trans e2)
  | false =>
    refine ⟨_, pw_and h1 (tB' := fun σ H Q => ∀ (pins : List (Addr × Obj)) (s : Shared) (whole : Sem Value), Inv X pins σ H s → wpAny (model X.prog X.w) X.A (isTrue (.BoolOp .And (b :: es) pos) X.env whole) (TP X pins σ Q) X.xe s) ⟨fun whole pins s σ H Q I h => h pins s whole I⟩, fun σ H S Q q => h2 σ H S _ fun H1 e1 => ?_⟩
    rw [if_neg Bool.false_ne_true]
    exact q H1 e1
theorem xw_or (h : XT X H0 δ a k) (h' : k = false → XW X H0 δ (.BoolOp .Or (b :: es) pos) l) : XW X H0 δ (.BoolOp .Or (a :: b :: es) pos) (k || l) := by
  obtain ⟨t, h1, h2⟩ := h
  cases k with
  | false =>
    obtain ⟨u, g1, g2⟩ := h' rfl
    refine ⟨_, pw_or h1 g1, fun σ H S Q q => h2 σ H S _ fun H1 e1 => ?_⟩
    rw [if_neg Bool.false_ne_true]
    exact g2 σ H1 (S.mono e1) Q fun H2 e2 => q H2 (e1.trans e2)
  | true =>
    refine ⟨_, pw_or h1 (tB' := fun σ H Q => ∀ (pins : List (Addr × Obj)) (s : Shared) (whole : Sem Value), Inv X pins σ H s → wpAny (model X.prog X.w) X.A (isTrue (.BoolOp .Or (b :: es) pos) X.env whole) (TP X pins σ Q) X.xe s) ⟨fun whole pins s σ H Q I h => h pins s whole I⟩, fun σ H S Q q => h2 σ H S _ fun H1 e1 => ?_⟩
    rw [if_pos rfl]
    exact q H1 e1
theorem xe_one {op} (h : XE X H0 δ a x) : XE X H0 δ (.BoolOp op [a] pos) x := by
  obtain ⟨t, h1, h2⟩ := h
  exact ⟨t, pe_one h1, h2⟩
theorem xe_and (h : XE X H0 δ a (.bool k)) (h' : k = true → XE X H0 δ (.BoolOp .And (b :: es) pos) (.bool l)) : XE X H0 δ (.BoolOp .And (a :: b :: es) pos) (.bool (k && l)) := by
  obtain ⟨t, h1, h2⟩ := h
  cases k with
  | true =>
    obtain ⟨u, g1, g2⟩ := h' rfl
    refine ⟨_, pe_and h1 g1, fun σ H S Q q => h2 σ H S _ fun v H1 e1 i1 => ⟨true, i1.blV, ?_⟩⟩
    rw [if_pos rfl]
    exact g2 σ H1 (S.mono e1) Q fun w H2 e2 => q w H2 (e1.trans e2)
  | false =>
    refine ⟨_, pe_and h1 (tb := fun σ H Q => ∀ (pins : List (Addr × Obj)) (s : Shared), Inv X pins σ H s → wpAny (model X.prog X.w) X.A (eval (.BoolOp .And (b :: es) pos) X.env) (EP X pins σ Q) X.xe s) ⟨fun pins s σ H Q I h => h pins s I⟩, fun σ H S Q q => h2 σ H S _ fun v H1 e1 i1 => ⟨false, i1.blV, ?_⟩⟩
    rw [if_neg Bool.false_ne_true]
    exact q _ H1 e1 (.bl _)
theorem xe_or (h : XE X H0 δ a (.bool k)) (h' : k = false → XE X H0 δ (.BoolOp .Or (b :: es) pos) (.bool l)) : XE X H0 δ (.BoolOp .Or (a :: b :: es) pos) (.bool (k || l)) := by
  obtain ⟨t, h1, h2⟩ := h
  cases k with
  | false =>
    obtain ⟨u, g1, g2⟩ := h' rfl
    refine ⟨_, pe_or h1 g1, fun σ H S Q q => h2 σ H S _ fun v H1 e1 i1 => ⟨false, i1.blV, ?_⟩⟩
    rw [if_neg Bool.false_ne_true]
    exact g2 σ H1 (S.mono e1) Q fun w H2 e2 => q w H2 (e1.trans e2)
  | true =>
    refine ⟨_, pe_or h1 (tb := fun σ H Q => ∀ (pins : List (Addr × Obj)) (s : Shared), Inv X pins σ H s → wpAny (model X.prog X.w) X.A (eval (.BoolOp .Or (b :: es) pos) X.env) (EP X pins σ Q) X.xe s) ⟨fun pins s σ H Q I h => h pins s I⟩, fun σ H S Q q => h2 σ H S _ fun v H1 e1 i1 => ⟨true, i1.blV, ?_⟩⟩
    rw [if_pos rfl]
    exact q _ H1 e1 (.bl _)
theorem xe_not (h : XE X H0 δ a (.bool k)) : XE X H0 δ (.UnaryOp .Not a pos) (.bool (!k)) := by
  obtain ⟨t, h1, h2⟩ := h
  exact ⟨_, pe_not h1, fun σ H S Q q => h2 σ H S _ fun v H1 e1 i1 => ⟨k, i1.blV, q _ H1 e1 (.bl _)⟩⟩
/-- an expression of any meaning: what it needs is what it needs -/
theorem pe_any (X : Cx) (e : Expr) : PE X e (fun σ H Q => ∀ (pins : List (Addr × Obj)) (s : Shared), Inv X pins σ H s → wpAny (model X.prog X.w) X.A (eval e X.env) (EP X pins σ Q) X.xe s) := ⟨fun pins s σ H Q I h => h pins s I⟩
theorem xe_ifT (h : XT X H0 δ c true) (ha : XE X H0 δ a x) : XE X H0 δ (.IfExp c a b pos) x := by
  obtain ⟨t, h1, h2⟩ := h
  obtain ⟨u, g1, g2⟩ := ha
  refine ⟨_, pe_ifExp h1 g1 (pe_any X b), fun σ H S Q q => h2 σ H S _ fun H1 e1 => ?_⟩
  rw [if_pos rfl]
  exact g2 σ H1 (S.mono e1) Q fun w H2 e2 => q w H2 (e1.trans e2)
theorem xe_ifF (h : XT X H0 δ c false) (hb : XE X H0 δ b x) : XE X H0 δ (.IfExp c a b pos) x := by
  obtain ⟨t, h1, h2⟩ := h
  obtain ⟨u, g1, g2⟩ := hb
  refine ⟨_, pe_ifExp h1 (pe_any X a) g1, fun σ H S Q q => h2 σ H S _ fun H1 e1 => ?_⟩
  rw [if_neg Bool.false_ne_true]
  exact g2 σ H1 (S.mono e1) Q fun w H2 e2 => q w H2 (e1.trans e2)
theorem xe_if (h : XT X H0 δ c k) (ha : k = true → XE X H0 δ a x) (hb : k = false → XE X H0 δ b x) : XE X H0 δ (.IfExp c a b pos) x := by
  cases k with
  | true => exact xe_ifT h (ha rfl)
  | false => exact xe_ifF h (hb rfl)

/-! ### displays, subscripts -/
theorem xa_nil : XA X H0 δ [] [] := ⟨_, pa_nil, fun _ H _ _ q => q [] H (Evl.Ex.refl H) .nil⟩
theorem xa_cons (h : XE X H0 δ e x) (hr : XA X H0 δ es xs) (hs : starEach (e :: es) X.env = (false, eval e X.env) :: starEach es X.env := by rfl) : XA X H0 δ (e :: es) (x :: xs) := by
  obtain ⟨t, h1, h2⟩ := h
  obtain ⟨u, g1, g2⟩ := hr
  exact ⟨_, pa_cons h1 g1 hs, fun σ H S Q q => h2 σ H S _ fun v H1 e1 i1 => g2 σ H1 (S.mono e1) _ fun vs H2 e2 i2 => q _ H2 (e1.trans e2) (.cons (i1.mono e2 _ _) i2)⟩
theorem size_le {n : Nat} (h : Nat.ble n 100000 = true) : n ≤ sizeLine := Evl.sz_of (Nat.le_of_ble_eq_true h)
theorem xe_tup {n} (h : XA X H0 δ es ds) (hl : Nat.ble ds.length 100000 = true := by rfl) : XE X H0 δ (.Tuple es n pos) (.tuple ds) := by
  obtain ⟨t, h1, h2⟩ := h
  refine ⟨_, pe_tup h1, fun σ H S Q q => h2 σ H S _ fun vs H1 e1 i1 => ⟨by rw [i1.length]; exact size_le hl, fun p hp => ?_⟩⟩
  have e2 : Ex H1 (upd H1 p (.tup vs)) := Evl.Ex.new hp
  exact q _ _ (e1.trans e2) (.tup (Evl.st_of upd_same) (Is.monoAll e2 _ _ i1))
theorem xn_lst (h : XA X H0 δ es ds) (hl : Nat.ble ds.length 100000 = true := by rfl) : XN X H0 δ (.List es pos) ds := by
  obtain ⟨t, h1, h2⟩ := h
  refine ⟨_, pe_lst h1, fun σ H S Q q => h2 σ H S _ fun vs H1 e1 i1 => ⟨by rw [i1.length]; exact size_le hl, fun p hp => ?_⟩⟩
  have e2 : Ex H1 (upd H1 p (.lst vs)) := Evl.Ex.new hp
  exact q _ _ _ (Evl.fresh_back e1 hp) (e1.trans e2) upd_same (Is.monoAll e2 _ _ i1)
theorem at_is {K : PySem.W.Frag} {H : Hp} {vs : List V} (h : IsAll K H vs ds) (e : atI ds i = some x) : ∃ v, atI vs i = some v ∧ Is K H v x := by
  unfold atI at e ⊢
  rw [h.length]
  cases hx : ixN ds.length i with
  | none => rw [hx] at e; cases e
  | some j =>
    rw [hx] at e
    obtain ⟨v, e1, i1⟩ := h.get (show ds[j]? = some x from e)
    exact ⟨v, e1, i1⟩
theorem xe_ixT (ha : XE X H0 δ a (.tuple ds)) (hb : XE X H0 δ b (.int i)) (hx : atI ds i = some x) (hs : PlainIx b := by exact fun _ _ => rfl) : XE X H0 δ (.Subscript a b pos) x := by
  obtain ⟨ta, a1, a2⟩ := ha
  obtain ⟨tb, b1, b2⟩ := hb
  refine ⟨_, pe_ix ix_tup a1 b1 hs, ev_op a2 b2 fun v w H hv hw Q q => ?_⟩
  obtain ⟨p, vs, rfl, h1, h2⟩ := hv.tupV
  obtain ⟨u, e1, i1⟩ := at_is h2 hx
  exact ⟨p, vs, i, u, rfl, hw.intV, h1, e1, q u H (Evl.Ex.refl H) i1⟩
theorem xe_ixL (ha : XE X H0 δ a (.list ds)) (hb : XE X H0 δ b (.int i)) (hx : atI ds i = some x) (hs : PlainIx b := by exact fun _ _ => rfl) : XE X H0 δ (.Subscript a b pos) x := by
  obtain ⟨ta, a1, a2⟩ := ha
  obtain ⟨tb, b1, b2⟩ := hb
  refine ⟨_, pe_ix ix_list a1 b1 hs, ev_op a2 b2 fun v w H hv hw Q q => ?_⟩
  obtain ⟨p, vs, rfl, h1, h2⟩ := hv.lstV
  obtain ⟨u, e1, i1⟩ := at_is h2 hx
  exact ⟨p, vs, i, u, rfl, hw.intV, h1, e1, q u H (Evl.Ex.refl H) i1⟩
theorem xe_ixS {n : Nat} (ha : XE X H0 δ a (.str s)) (hb : XE X H0 δ b (.int i)) (hl : s.length ≤ sizeLine) (hx : atI s.cps.toList i = some n) (hs : PlainIx b := by exact fun _ _ => rfl) : XE X H0 δ (.Subscript a b pos) (.str ⟨#[n]⟩) := by
  obtain ⟨ta, a1, a2⟩ := ha
  obtain ⟨tb, b1, b2⟩ := hb
  exact ⟨_, pe_ix ix_str a1 b1 hs, ev_op a2 b2 fun v w H hv hw Q q => ⟨s, i, n, hv.strV, hw.intV, hl, hx, q _ H (Evl.Ex.refl H) (.str _)⟩⟩
/-- the parts of a slice -/
def XO (X : Cx) (H0 : Hp) (δ : List Sl) (e : Option Expr) (o : Option Int) : Prop := ∃ t, PO X e t ∧ ∀ σ H, SOk X.K H0 σ H δ → ∀ Q : Option Int → Hp → Prop, (∀ H', Ex H H' → Q o H') → t σ H Q
theorem xo_none : XO X H0 δ none none := ⟨_, po_none, fun _ H _ _ q => q H (Evl.Ex.refl H)⟩
theorem xo_some (h : XE X H0 δ e (.int i)) : XO X H0 δ (some e) (some i) := by
  obtain ⟨t, h1, h2⟩ := h
  exact ⟨_, po_some h1, fun σ H S Q q => h2 σ H S _ fun v H1 e1 i1 => ⟨i, i1.intV, q H1 e1⟩⟩
theorem xe_slS {lo hi : Option Expr} {l h : Option Int} (ha : XE X H0 δ a (.str s)) (hl : XO X H0 δ lo l) (hh : XO X H0 δ hi h) (hz : s.length ≤ sizeLine) : XE X H0 δ (.Subscript a (.Slice lo hi none p2) pos) (.str (cutS s l h)) := by
  obtain ⟨ta, a1, a2⟩ := ha
  obtain ⟨tl, b1, b2⟩ := hl
  obtain ⟨th, c1, c2⟩ := hh
  exact ⟨_, pe_slice sl_str a1 b1 c1, fun σ H S Q q => a2 σ H S _ fun v H1 e1 i1 => b2 σ H1 (S.mono e1) _ fun H2 e2 => c2 σ H2 (S.mono (e1.trans e2)) _ fun H3 e3 => ⟨s, i1.strV, hz, q _ H3 ((e1.trans e2).trans e3) (.str _)⟩⟩
def cutD (xs : List PyData) (lo hi : Option Int) : List PyData := (xs.drop (HT.sIx xs.length 0 lo)).take (HT.sIx xs.length xs.length hi - HT.sIx xs.length 0 lo)
theorem cut_is {K : PySem.W.Frag} {H : Hp} {vs : List V} (h : IsAll K H vs ds) (lo hi : Option Int) : IsAll K H (cutV vs lo hi) (cutD ds lo hi) := by
  unfold cutV cutD
  rw [h.length]
  exact (h.drop _).take _
theorem xn_slL {lo hi : Option Expr} {l h : Option Int} (ha : XE X H0 δ a (.list ds)) (hl : XO X H0 δ lo l) (hh : XO X H0 δ hi h) : XN X H0 δ (.Subscript a (.Slice lo hi none p2) pos) (cutD ds l h) := by
  obtain ⟨ta, a1, a2⟩ := ha
  obtain ⟨tl, b1, b2⟩ := hl
  obtain ⟨th, c1, c2⟩ := hh
  refine ⟨_, pe_slice sl_list a1 b1 c1, fun σ H S Q q => a2 σ H S _ fun v H1 e1 i1 => b2 σ H1 (S.mono e1) _ fun H2 e2 => c2 σ H2 (S.mono (e1.trans e2)) _ fun H3 e3 => ?_⟩
  obtain ⟨p, vs, rfl, h1, h2⟩ := (i1.mono (e2.trans e3) _ _).lstV
  refine ⟨p, vs, rfl, h1, fun r hr => ?_⟩
  have e4 : Ex H3 (upd H3 r (.lst (cutV vs l h))) := Evl.Ex.new hr
  exact q r _ _ (Evl.fresh_back ((e1.trans e2).trans e3) hr) (((e1.trans e2).trans e3).trans e4) upd_same (Is.monoAll e4 _ _ (cut_is h2 l h))
/-- two lists -/
theorem xn_cat (ha : XL X H0 δ a xs) (hb : XL X H0 δ b ys) (hl : xs.length + ys.length ≤ sizeLine) : XN X H0 δ (.BinOp a .Add b pos) (xs ++ ys) := by
  obtain ⟨ta, a1, a2⟩ := ha
  obtain ⟨tb, b1, b2⟩ := hb
  refine ⟨_, pe_op op_cat a1 b1, fun σ H S Q q => a2 σ H S _ fun p vs H1 e1 h1 i1 => b2 σ H1 (S.mono e1) _ fun r ws H2 e2 h2 i2 => ⟨p, r, vs, ws, rfl, rfl, e2 _ _ h1, h2, by rw [i1.length, i2.length]; exact hl, fun l hl => ?_⟩⟩
  have e3 : Ex H2 (upd H2 l (.lst (vs ++ ws))) := Evl.Ex.new hl
  exact q l _ _ (Evl.fresh_back (e1.trans e2) hl) ((e1.trans e2).trans e3) upd_same (Is.monoAll e3 _ _ ((Is.monoAll e2 _ _ i1).app i2))

/-! ### calls of built-ins -/
theorem xe_cb {nm : Str} {p : Pos} {id : String} {r : List V → Hp → VK → Prop} (hc : CallR X (.builtin id) r) (hm : X.mg nm = none) (ha : XA X H0 δ (e :: es) xs) (hr : ∀ vs H, IsAll X.K H vs xs → ∀ Q : VK, (∀ u H', Ex H H' → Is X.K H' u z → Q u H') → r vs H Q) (hg : Gl X nm := by rfl) (hv : bootBuiltins nm = some (.builtin id) := by decide +kernel)
    (hn : nm ≠ "__name__" := by decide) (hdb : (nm == ("__debug__" : Str)) = false := by decide)
    (he : starEach (e :: es) X.env = (false, eval e X.env) :: starEach es X.env := by rfl) (hpl : (backTo pos (starEach es X.env)).any (·.1) = false := by rfl) : XE X H0 δ (.Call (.Name nm p) (e :: es) [] pos) z := by
  obtain ⟨t, h1, h2⟩ := ha
  exact ⟨_, pe_callB hc hg hm hv h1 hn hdb he hpl, fun σ H S Q q => h2 σ H S _ fun vs H1 e1 i1 => hr vs H1 i1 Q fun u H2 e2 i2 => q u H2 (e1.trans e2) i2⟩
theorem xe_cty {nm : Str} {p : Pos} {T : String} {r : List V → Hp → VK → Prop} (hc : CallR X (.type T) r) (hm : X.mg nm = none) (ha : XA X H0 δ (e :: es) xs) (hr : ∀ vs H, IsAll X.K H vs xs → ∀ Q : VK, (∀ u H', Ex H H' → Is X.K H' u z → Q u H') → r vs H Q) (hg : Gl X nm := by rfl) (hv : bootBuiltins nm = some (.type T) := by decide +kernel)
    (hn : nm ≠ "__name__" := by decide) (hdb : (nm == ("__debug__" : Str)) = false := by decide)
    (he : starEach (e :: es) X.env = (false, eval e X.env) :: starEach es X.env := by rfl) (hpl : (backTo pos (starEach es X.env)).any (·.1) = false := by rfl) : XE X H0 δ (.Call (.Name nm p) (e :: es) [] pos) z := by
  obtain ⟨t, h1, h2⟩ := ha
  exact ⟨_, pe_callTy hc hg hm hv h1 hn hdb he hpl, fun σ H S Q q => h2 σ H S _ fun vs H1 e1 i1 => hr vs H1 i1 Q fun u H2 e2 i2 => q u H2 (e1.trans e2) i2⟩
theorem all1 {K : PySem.W.Frag} {H : Hp} {vs : List V} (h : IsAll K H vs [x]) : ∃ v, vs = [v] ∧ Is K H v x := by
  cases h with
  | cons h1 h2 => cases h2; exact ⟨_, rfl, h1⟩
theorem all2 {K : PySem.W.Frag} {H : Hp} {vs : List V} (h : IsAll K H vs [x, y]) : ∃ v w, vs = [v, w] ∧ Is K H v x ∧ Is K H w y := by
  cases h with
  | cons h1 h2 =>
    obtain ⟨w, rfl, h3⟩ := all1 h2
    exact ⟨_, w, rfl, h1, h3⟩
variable {p : Pos}
theorem xe_abs (hm : X.mg "abs" = none) (ha : XE X H0 δ a (.int i)) (hg : Gl X "abs" := by rfl) (he : starEach (a :: []) X.env = (false, eval a X.env) :: starEach [] X.env := by rfl) (hpl : (backTo pos (starEach [] X.env)).any (·.1) = false := by rfl) :
    XE X H0 δ (.Call (.Name "abs" p) [a] [] pos) (.int (if i < 0 then -i else i)) :=
  xe_cb call_abs hm (xa_cons ha xa_nil he) (fun vs H h Q q => by
    obtain ⟨v, rfl, h1⟩ := all1 h
    rw [h1.intV]
    exact ⟨i, rfl, q _ H (Evl.Ex.refl H) (.int _)⟩) hg (he := he) (hpl := hpl)
theorem xe_max (hc : X.calm = true) (hm : X.mg "max" = none) (ha : XA X H0 δ [a, b] [.int i, .int j]) (hg : Gl X "max" := by rfl) (he : starEach (a :: [b]) X.env = (false, eval a X.env) :: starEach [b] X.env := by rfl) (hpl : (backTo pos (starEach [b] X.env)).any (·.1) = false := by rfl) :
    XE X H0 δ (.Call (.Name "max" p) [a, b] [] pos) (.int (if j > i then j else i)) :=
  xe_cb (call_max2 hc) hm ha (fun vs H h Q q => by
    obtain ⟨v, w, rfl, h1, h2⟩ := all2 h
    rw [h1.intV, h2.intV]
    exact ⟨i, j, rfl, q _ H (Evl.Ex.refl H) (.int _)⟩) hg (he := he) (hpl := hpl)
theorem xe_min (hc : X.calm = true) (hm : X.mg "min" = none) (ha : XA X H0 δ [a, b] [.int i, .int j]) (hg : Gl X "min" := by rfl) (he : starEach (a :: [b]) X.env = (false, eval a X.env) :: starEach [b] X.env := by rfl) (hpl : (backTo pos (starEach [b] X.env)).any (·.1) = false := by rfl) :
    XE X H0 δ (.Call (.Name "min" p) [a, b] [] pos) (.int (if j < i then j else i)) :=
  xe_cb (call_min2 hc) hm ha (fun vs H h Q q => by
    obtain ⟨v, w, rfl, h1, h2⟩ := all2 h
    rw [h1.intV, h2.intV]
    exact ⟨i, j, rfl, q _ H (Evl.Ex.refl H) (.int _)⟩) hg (he := he) (hpl := hpl)
theorem xe_lenL (hm : X.mg "len" = none) (ha : XE X H0 δ a (.list xs)) (hg : Gl X "len" := by rfl) (he : starEach (a :: []) X.env = (false, eval a X.env) :: starEach [] X.env := by rfl) (hpl : (backTo pos (starEach [] X.env)).any (·.1) = false := by rfl) :
    XE X H0 δ (.Call (.Name "len" p) [a] [] pos) (.int xs.length) :=
  xe_cb call_len_seq hm (xa_cons ha xa_nil he) (fun vs H h Q q => by
    obtain ⟨v, rfl, h1⟩ := all1 h
    obtain ⟨r, ws, rfl, h2, h3⟩ := h1.lstV
    refine ⟨r, ws, rfl, .inl h2, ?_⟩
    rw [h3.length]
    exact q _ H (Evl.Ex.refl H) (.int _)) hg (he := he) (hpl := hpl)
theorem xe_lenT (hm : X.mg "len" = none) (ha : XE X H0 δ a (.tuple xs)) (hg : Gl X "len" := by rfl) (he : starEach (a :: []) X.env = (false, eval a X.env) :: starEach [] X.env := by rfl) (hpl : (backTo pos (starEach [] X.env)).any (·.1) = false := by rfl) :
    XE X H0 δ (.Call (.Name "len" p) [a] [] pos) (.int xs.length) :=
  xe_cb call_len_seq hm (xa_cons ha xa_nil he) (fun vs H h Q q => by
    obtain ⟨v, rfl, h1⟩ := all1 h
    obtain ⟨r, ws, rfl, h2, h3⟩ := h1.tupV
    refine ⟨r, ws, rfl, .inr h2, ?_⟩
    rw [h3.length]
    exact q _ H (Evl.Ex.refl H) (.int _)) hg (he := he) (hpl := hpl)
theorem xe_lenS (hm : X.mg "len" = none) (ha : XE X H0 δ a (.str s)) (hz : s.length ≤ sizeLine) (hg : Gl X "len" := by rfl) (he : starEach (a :: []) X.env = (false, eval a X.env) :: starEach [] X.env := by rfl) (hpl : (backTo pos (starEach [] X.env)).any (·.1) = false := by rfl) :
    XE X H0 δ (.Call (.Name "len" p) [a] [] pos) (.int s.length) :=
  xe_cb call_len_str hm (xa_cons ha xa_nil he) (fun vs H h Q q => by
    obtain ⟨v, rfl, h1⟩ := all1 h
    rw [h1.strV]
    exact ⟨s, rfl, hz, q _ H (Evl.Ex.refl H) (.int _)⟩) hg (he := he) (hpl := hpl)
theorem xe_intB (hm : X.mg "int" = none) (ha : XE X H0 δ a (.bool k)) (hg : Gl X "int" := by rfl) (he : starEach (a :: []) X.env = (false, eval a X.env) :: starEach [] X.env := by rfl) (hpl : (backTo pos (starEach [] X.env)).any (·.1) = false := by rfl) :
    XE X H0 δ (.Call (.Name "int" p) [a] [] pos) (.int (if k then 1 else 0)) :=
  xe_cty call_int1 hm (xa_cons ha xa_nil he) (fun vs H h Q q => by
    obtain ⟨v, rfl, h1⟩ := all1 h
    rw [h1.blV]
    exact .inr ⟨k, rfl, q _ H (Evl.Ex.refl H) (.int _)⟩) hg (he := he) (hpl := hpl)
theorem xe_intS (hm : X.mg "int" = none) (ha : XE X H0 δ a (.str s)) (hi : PySem.intText? s = some i) (hz : s.length ≤ 640) (hg : Gl X "int" := by rfl) (he : starEach (a :: []) X.env = (false, eval a X.env) :: starEach [] X.env := by rfl) (hpl : (backTo pos (starEach [] X.env)).any (·.1) = false := by rfl) :
    XE X H0 δ (.Call (.Name "int" p) [a] [] pos) (.int i) :=
  xe_cty call_int_str hm (xa_cons ha xa_nil he) (fun vs H h Q q => by
    obtain ⟨v, rfl, h1⟩ := all1 h
    rw [h1.strV]
    exact ⟨s, i, rfl, hi, hz, q _ H (Evl.Ex.refl H) (.int _)⟩) hg (he := he) (hpl := hpl)
theorem xe_strI (hm : X.mg "str" = none) (ha : XE X H0 δ a (.int i)) (hz : i.natAbs.log2 < 1920) (hg : Gl X "str" := by rfl) (he : starEach (a :: []) X.env = (false, eval a X.env) :: starEach [] X.env := by rfl) (hpl : (backTo pos (starEach [] X.env)).any (·.1) = false := by rfl) :
    XE X H0 δ (.Call (.Name "str" p) [a] [] pos) (.str (toString i)) :=
  xe_cty call_str_int hm (xa_cons ha xa_nil he) (fun vs H h Q q => by
    obtain ⟨v, rfl, h1⟩ := all1 h
    rw [h1.intV]
    exact ⟨i, rfl, hz, q _ H (Evl.Ex.refl H) (.str _)⟩) hg (he := he) (hpl := hpl)
theorem xn_list (hm : X.mg "list" = none) (ha : XE X H0 δ a (.list xs)) (hg : Gl X "list" := by rfl) (he : starEach (a :: []) X.env = (false, eval a X.env) :: starEach [] X.env := by rfl) (hpl : (backTo pos (starEach [] X.env)).any (·.1) = false := by rfl) :
    XN X H0 δ (.Call (.Name "list" p) [a] [] pos) xs := by
  obtain ⟨t, h1, h2⟩ := xa_cons ha xa_nil he
  refine ⟨_, pe_callTy call_list_of hg hm (by decide +kernel) h1 (by decide) (by decide) he hpl, fun σ H S Q q => h2 σ H S _ fun vs H1 e1 i1 => ?_⟩
  obtain ⟨v, rfl, i2⟩ := all1 i1
  obtain ⟨r, ws, rfl, h3, h4⟩ := i2.lstV
  refine ⟨r, ws, rfl, .inl h3, fun l hl => ?_⟩
  have e2 : Ex H1 (upd H1 l (.lst ws)) := Evl.Ex.new hl
  exact q l _ _ (Evl.fresh_back e1 hl) (e1.trans e2) upd_same (Is.monoAll e2 _ _ h4)
end
end NF
namespace NF
open PySem PySem.Spec L2
open Evl (Ex)
open PyProof.Rows (envOfC)
/-! ### the widest readings -/
def wS (X : Cx) (sts : List Stmt) : TS := fun D σ H => ∃ t, PSs X sts t ∧ t D σ H
theorem wS_ok {X : Cx} {sts : List Stmt} : PSs X sts (wS X sts) := ⟨fun pins s σ H D I h => by obtain ⟨t, ht, q⟩ := h; exact ht.run pins s σ H D I q⟩
def w1 (X : Cx) (st : Stmt) : TS := fun D σ H => ∃ t, PS X st t ∧ t D σ H
theorem w1_ok {X : Cx} {st : Stmt} : PS X st (w1 X st) := ⟨fun pins s σ H D I h => by obtain ⟨t, ht, q⟩ := h; exact ht.run pins s σ H D I q⟩
def wT (X : Cx) (e : Expr) : TT := fun σ H Q => ∃ t, PT X e t ∧ t σ H Q
theorem wT_ok {X : Cx} {e : Expr} : PT X e (wT X e) := ⟨fun pins s σ H Q I h => by obtain ⟨t, ht, q⟩ := h; exact ht.run pins s σ H Q I q⟩
def wG (X : Cx) (e : Expr) : TG := fun v σ H Q => ∃ g, PG X e g ∧ g v σ H Q
theorem wG_ok {X : Cx} {e : Expr} : PG X e (wG X e) := ⟨fun pins s σ H v u Q I r h => by obtain ⟨g, hg, q⟩ := h; exact hg.run pins s σ H v u Q I r q⟩
/-- from slots that are as δ tells, the block is fine -/
def XS (X : Cx) (H0 : Hp) (δ : List Sl) (D : Ends) (sts : List Stmt) : Prop := ∀ σ H, SOk X.K H0 σ H δ → wS X sts D σ H
def X1 (X : Cx) (H0 : Hp) (δ : List Sl) (D : Ends) (st : Stmt) : Prop := ∀ σ H, SOk X.K H0 σ H δ → w1 X st D σ H

inductive Out where
  | d (x : PyData)
  | L (xs : List PyData)
  | E (C : Addr)
/-- what is to be shown where a value of this form is handed back -/
def Post (K : PySem.W.Frag) (H : Hp) (Q : VK) (E : XK) : Out → Prop
  | .d x => ∀ v H', Ex H H' → Is K H' v x → Q v H'
  | .L xs => ∀ p vs H', H p = none → Ex H H' → H' p = some (.lst vs) → IsAll K H' vs xs → Q (.ref p) H'
  | .E C => ∀ H', Ex H H' → E (.ref C) none H'
theorem Post.back {K : PySem.W.Frag} {H H1 : Hp} {Q : VK} {E : XK} {o : Out} (e : Ex H H1) (h : Post K H Q E o) : Post K H1 Q E o := by
  cases o with
  | d x => exact fun v H' e' i => h v H' (e.trans e') i
  | L xs => exact fun p vs H' hp e' h1 i => h p vs H' (Evl.fresh_back e hp) (e.trans e') h1 i
  | E C => exact fun H' e' => h H' (e.trans e')
/-- a def's promise, by data -/
def spF (K : PySem.W.Frag) (n : Nat) (φ : List PyData → Out → Prop) : Sp := fun vs H Q E => vs.length = n ∧ ∃ ds o, IsAll K H vs ds ∧ φ ds o ∧ Post K H Q E o
structure FnAt (P : Program) (w : World) (K : PySem.W.Frag) (mg : Str → Option Value) (base : Heap) (x : Str) (k : Nat) (ps : List Str) (φ : List PyData → Out → Prop) : Prop where
  ex : ∃ f fd, FnOk P w K mg base (L2.CX P w) k f fd ps (spF K ps.length φ) ∧ mg x = some (.ref f) ∧ PySem.W.keepIn K (.ref f) = true ∧ Binds K fd ps []
/-- a def of the text, where it stands -/
structure DefAt (K : PySem.W.Frag) (mg : Str → Option Value) (x : Str) (st : Stmt) (ps : List Str) : Prop where
  ex : ∃ f fd, Fun K x x st f fd ∧ mg x = some (.ref f) ∧ Binds K fd ps []
def toSl : PyData → Sl
  | .list xs => .R xs
  | .none => .d .none
  | .bool b => .d (.bool b)
  | .int i => .d (.int i)
  | .str s => .d (.str s)
  | .tuple xs => .d (.tuple xs)
  | .dict xs => .d (.dict xs)
def entry (N : List Str) (ds : List PyData) : List Sl := ds.map toSl ++ List.replicate (N.length - ds.length) .u
theorem toSl_ok {K : PySem.W.Frag} {H : Hp} {v : V} {x : PyData} (h : Is K H v x) : SlOk K H H (some (some v)) (toSl x) := by
  cases h with
  | lst a b => exact ⟨_, _, rfl, a, b⟩
  | non => exact ⟨_, rfl, .non⟩
  | bl b => exact ⟨_, rfl, .bl b⟩
  | int b => exact ⟨_, rfl, .int b⟩
  | str b => exact ⟨_, rfl, .str b⟩
  | tup a b => exact ⟨_, rfl, .tup a b⟩
  | dct a => exact ⟨_, rfl, .dct a⟩
theorem toSl_L (x : PyData) (p : Addr) (xs : List PyData) : toSl x ≠ .L p xs := by cases x <;> simp [toSl]
theorem entry_no {N : List Str} {ds : List PyData} {i : Nat} {p : Addr} {xs : List PyData} : (entry N ds)[i]? ≠ some (.L p xs) := fun h => by
  have m := List.mem_of_getElem? h
  unfold entry at m
  rcases List.mem_append.mp m with m | m
  · obtain ⟨d, _, e⟩ := List.mem_map.mp m
    exact toSl_L d p xs e
  · have e := (List.mem_replicate.mp m).2
    cases e
theorem entry_ok {K : PySem.W.Frag} {H : Hp} {N : List Str} {vs : List V} {ds : List PyData} (h : IsAll K H vs ds) : SOk K H (L2.start N vs) H (entry N ds) := by
  refine ⟨Evl.Ex.refl H, ?_, fun i s e => ?_, fun i j p xs ys a => absurd a entry_no⟩
  · unfold L2.start entry
    simp [h.length]
  · unfold entry at e
    by_cases hi : i < ds.length
    · rw [List.getElem?_append_left (by simpa using hi), List.getElem?_map, List.getElem?_eq_getElem hi] at e
      obtain ⟨v, hv, iv⟩ := h.get (List.getElem?_eq_getElem hi)
      have hi' : i < vs.length := by rw [h.length]; exact hi
      have e2 : (L2.start N vs)[i]? = some (some v) := by
        unfold L2.start
        rw [List.getElem?_append_left (by simpa using hi'), List.getElem?_map, hv]
        rfl
      rw [e2]
      have e3 : toSl ds[i] = s := Option.some.inj e
      rw [← e3]
      exact toSl_ok iv
    · have m := List.mem_of_getElem? (show (List.replicate (N.length - ds.length) Sl.u)[i - ds.length]? = some s by
        rw [List.getElem?_append_right (by simp; omega)] at e
        simpa using e)
      rw [(List.mem_replicate.mp m).2]
      trivial
/-- the rule for a def -/
theorem fn_ok {P : Program} {w : World} {K : PySem.W.Frag} {mg : Str → Option Value} {base : Heap} {x : Str} {st : Stmt} {N ps : List Str} {k : Nat} {φ : List PyData → Out → Prop} {f : Addr} {fd : FuncData} (F : Fun K x x st f fd) (S : FnScope N ps (defScope st))
    (hb : ∀ (f : Addr) (cdv : Value) (A : Around) (outer : List Env) (s : Shared) (H : Hp) (Q : VK) (E : XK) (ds : List PyData) (o : Out), Room k (A.deeper (envOfC x (defScope st) s.heap.objs.size f cdv)) → φ ds o → Post K H Q E o →
      XS (cxOf (L2.CX P w) P w K mg base N x (defScope st) f cdv A outer s H E) H (entry N ds) { nx := fun _ H' => Q .non H', rt := Q } (defBody st)) : FnOk P w K mg base (L2.CX P w) (k + 1) f fd ps (spF K ps.length φ) := by
  refine F.okX S (fun vs H Q E h => h.1) (fun cdv A outer s H vs Q E hr h => ?_)
  obtain ⟨_, ds, o, hi, hφ, hp⟩ := h
  exact hb f cdv A outer s H Q E ds o hr hφ hp _ _ (entry_ok hi)
theorem fn_at {P : Program} {w : World} {K : PySem.W.Frag} {mg : Str → Option Value} {base : Heap} {x : Str} {st : Stmt} {N ps : List Str} {k : Nat} {φ : List PyData → Out → Prop} (T : DefAt K mg x st ps) (S : FnScope N ps (defScope st))
    (hb : ∀ (f : Addr) (cdv : Value) (A : Around) (outer : List Env) (s : Shared) (H : Hp) (Q : VK) (E : XK) (ds : List PyData) (o : Out), Room k (A.deeper (envOfC x (defScope st) s.heap.objs.size f cdv)) → φ ds o → Post K H Q E o →
      XS (cxOf (L2.CX P w) P w K mg base N x (defScope st) f cdv A outer s H E) H (entry N ds) { nx := fun _ H' => Q .non H', rt := Q } (defBody st)) : FnAt P w K mg base x (k + 1) ps φ := by
  obtain ⟨f, fd, F, hm, hbi⟩ := T.ex
  exact ⟨f, fd, fn_ok F S hb, hm, F.kp, hbi⟩

section
variable {X : Cx} {H0 : Hp} {δ : List Sl} {D : Ends} {a b c e : Expr} {es : List Expr} {st : Stmt} {rest body sa sb : List Stmt} {pos p p2 p3 : Pos} {x y z : PyData} {xs ys ds : List PyData} {i j : Int} {s t : Str} {k l : Bool} {nm nm2 nm3 : Str}
theorem xs_cons (h : X1 X H0 δ { D with nx := wS X rest D } st) : XS X H0 δ D (st :: rest) := fun σ H S => by
  obtain ⟨t, ht, q⟩ := h σ H S
  exact ⟨_, pss_cons ht wS_ok, q⟩
theorem xs_nil (h : ∀ σ H, SOk X.K H0 σ H δ → D.nx σ H) : XS X H0 δ D [] := fun σ H S => ⟨_, pss_nil, h σ H S⟩
/-- a block ends, what stands behind it goes on -/
theorem xs_end (h : XS X H0 δ D rest) : XS X H0 δ { D with nx := wS X rest D } [] := xs_nil h
theorem XS.is {δ' : List Sl} (h : XS X H0 δ' D rest) (e1 : δ = δ') : XS X H0 δ D rest := e1 ▸ h
theorem SOk.of {K : PySem.W.Frag} {H : Hp} {σ : St} {δ' : List Sl} (S : SOk K H0 σ H δ) (e1 : δ = δ') : SOk K H0 σ H δ' := e1 ▸ S
/-- less is known -/
theorem SOk.forget {K : PySem.W.Frag} {H : Hp} {σ : St} (S : SOk K H0 σ H δ) (n : Nat) : SOk K H0 σ H (δ.set n .u) := by
  refine ⟨S.ex, by simp [S.len], fun j t e1 => ?_, fun j l p xs ys e1 e2 => ?_⟩
  · rcases set_at e1 with ⟨rfl, rfl, hj⟩ | ⟨z, e1⟩
    · trivial
    · exact S.sl j t e1
  · rcases set_at e1 with ⟨_, t1, _⟩ | ⟨_, f1⟩
    · cases t1
    · rcases set_at e2 with ⟨_, t2, _⟩ | ⟨_, f2⟩
      · cases t2
      · exact S.apart j l p xs ys f1 f2
theorem xs_forget (n : Nat) (h : XS X H0 (δ.set n .u) D rest) : XS X H0 δ D rest := fun σ H S => h σ H (S.forget n)

/-! ### stores -/
theorem xs_set (n : Nat) (hx : XE X H0 δ e x) (hr : XS X H0 (δ.set n (.d x)) D rest) (hnd : X.N.Nodup) (hN : X.N[n]? = some nm := by rfl) (hl : Loc X.env.scope nm := by exact Or.inl rfl) (hs : swapsWith e (some (.Name nm p)) pos.line X.env = pure false := by rfl)
    (hf : X.fn nm = true ∨ X.env.scope.names.lookup nm = some .local := by first | exact .inl rfl | exact .inr rfl) : XS X H0 δ D (.Assign [.Name nm p] e pos :: rest) := xs_cons fun σ H S => by
  obtain ⟨t, h1, h2⟩ := hx
  refine ⟨_, ps_set hnd hN hl h1 hs hf, h2 σ H S _ fun v H1 e1 i1 => ?_⟩
  exact hr _ _ ((S.mono e1).setD i1)
theorem xs_setN (n : Nat) (hx : XN X H0 δ e xs) (hr : ∀ q, XS X H0 (δ.set n (.L q xs)) D rest) (hnd : X.N.Nodup) (hN : X.N[n]? = some nm := by rfl) (hl : Loc X.env.scope nm := by exact Or.inl rfl) (hs : swapsWith e (some (.Name nm p)) pos.line X.env = pure false := by rfl)
    (hf : X.fn nm = true ∨ X.env.scope.names.lookup nm = some .local := by first | exact .inl rfl | exact .inr rfl) : XS X H0 δ D (.Assign [.Name nm p] e pos :: rest) := xs_cons fun σ H S => by
  obtain ⟨t, h1, h2⟩ := hx
  refine ⟨_, ps_set hnd hN hl h1 hs hf, h2 σ H S _ fun q vs H1 hq e1 hl1 i1 => ?_⟩
  exact hr q _ _ (S.newL e1 hq hl1 i1)
/-- a, b = e, a tuple -/
theorem xs_un2 (n m : Nat) {kt : Nat} (hx : XE X H0 δ e (.tuple [x, y])) (hr : XS X H0 ((δ.set n (.d x)).set m (.d y)) D rest) (hnd : X.N.Nodup) (hc : X.calm = true) (hN : X.N[n]? = some nm := by rfl) (hM : X.N[m]? = some nm2 := by rfl) (hl : Loc X.env.scope nm := by exact Or.inl rfl) (hl2 : Loc X.env.scope nm2 := by exact Or.inl rfl)
    (hs : swapsWithSole [.Tuple [.Name nm p, .Name nm2 p2] kt p3] e pos.line X.env = pure false := by rfl) (hw : swappedStores [.Tuple [.Name nm p, .Name nm2 p2] kt p3] e X.env = pure none := by rfl)
    (h1 : (assignEach [.Tuple [.Name nm p, .Name nm2 p2] kt p3] X.env).map (·.2) = [assign (.Tuple [.Name nm p, .Name nm2 p2] kt p3) X.env] := by rfl)
    (hq1 : (assignEach [.Name nm p, .Name nm2 p2] X.env).length = 2 := by rfl) (hq2 : (assignEach [.Name nm p, .Name nm2 p2] X.env).findIdx? (·.1) = none := by rfl)
    (hc1 : (assignEach (.Name nm p :: [.Name nm2 p2]) X.env).map (·.2) = assign (.Name nm p) X.env :: (assignEach [.Name nm2 p2] X.env).map (·.2) := by rfl)
    (hc2 : (assignEach (.Name nm2 p2 :: []) X.env).map (·.2) = assign (.Name nm2 p2) X.env :: (assignEach [] X.env).map (·.2) := by rfl)
    (hf : X.fn nm = true ∨ X.env.scope.names.lookup nm = some .local := by first | exact .inl rfl | exact .inr rfl) (hf2 : X.fn nm2 = true ∨ X.env.scope.names.lookup nm2 = some .local := by first | exact .inl rfl | exact .inr rfl) :
    XS X H0 δ D (.Assign [.Tuple [.Name nm p, .Name nm2 p2] kt p3] e pos :: rest) := xs_cons fun σ H S => by
  obtain ⟨t, g1, g2⟩ := hx
  refine ⟨_, ps_asg g1 (pg_tup hc (pgs_cons (pg_name hnd hN hl hf) (pgs_cons (pg_name hnd hM hl2 hf2) pgs_nil hc2) hc1) hq1 hq2) hs hw h1, g2 σ H S _ fun v H1 e1 i1 => ?_⟩
  obtain ⟨q, vs, rfl, h3, h4⟩ := i1.tupV
  obtain ⟨v1, v2, rfl, i2, i3⟩ := all2 h4
  exact ⟨q, _, rfl, h3, rfl, v1, _, rfl, v2, _, rfl, rfl, hr _ _ (((S.mono e1).setD i2).setD i3)⟩
theorem xs_un3 (n m o : Nat) {kt : Nat} {p4 : Pos} (hx : XE X H0 δ e (.tuple [x, y, z])) (hr : XS X H0 (((δ.set n (.d x)).set m (.d y)).set o (.d z)) D rest) (hnd : X.N.Nodup) (hc : X.calm = true) (hN : X.N[n]? = some nm := by rfl) (hM : X.N[m]? = some nm2 := by rfl) (hO : X.N[o]? = some nm3 := by rfl)
    (hl : Loc X.env.scope nm := by exact Or.inl rfl) (hl2 : Loc X.env.scope nm2 := by exact Or.inl rfl) (hl3 : Loc X.env.scope nm3 := by exact Or.inl rfl)
    (hs : swapsWithSole [.Tuple [.Name nm p, .Name nm2 p2, .Name nm3 p4] kt p3] e pos.line X.env = pure false := by rfl) (hw : swappedStores [.Tuple [.Name nm p, .Name nm2 p2, .Name nm3 p4] kt p3] e X.env = pure none := by rfl)
    (h1 : (assignEach [.Tuple [.Name nm p, .Name nm2 p2, .Name nm3 p4] kt p3] X.env).map (·.2) = [assign (.Tuple [.Name nm p, .Name nm2 p2, .Name nm3 p4] kt p3) X.env] := by rfl)
    (hq1 : (assignEach [.Name nm p, .Name nm2 p2, .Name nm3 p4] X.env).length = 3 := by rfl) (hq2 : (assignEach [.Name nm p, .Name nm2 p2, .Name nm3 p4] X.env).findIdx? (·.1) = none := by rfl)
    (hc1 : (assignEach (.Name nm p :: [.Name nm2 p2, .Name nm3 p4]) X.env).map (·.2) = assign (.Name nm p) X.env :: (assignEach [.Name nm2 p2, .Name nm3 p4] X.env).map (·.2) := by rfl)
    (hc2 : (assignEach (.Name nm2 p2 :: [.Name nm3 p4]) X.env).map (·.2) = assign (.Name nm2 p2) X.env :: (assignEach [.Name nm3 p4] X.env).map (·.2) := by rfl)
    (hc3 : (assignEach (.Name nm3 p4 :: []) X.env).map (·.2) = assign (.Name nm3 p4) X.env :: (assignEach [] X.env).map (·.2) := by rfl)
    (hf : X.fn nm = true ∨ X.env.scope.names.lookup nm = some .local := by first | exact .inl rfl | exact .inr rfl) (hf2 : X.fn nm2 = true ∨ X.env.scope.names.lookup nm2 = some .local := by first | exact .inl rfl | exact .inr rfl) (hf3 : X.fn nm3 = true ∨ X.env.scope.names.lookup nm3 = some .local := by first | exact .inl rfl | exact .inr rfl) :
    XS X H0 δ D (.Assign [.Tuple [.Name nm p, .Name nm2 p2, .Name nm3 p4] kt p3] e pos :: rest) := xs_cons fun σ H S => by
  obtain ⟨t, g1, g2⟩ := hx
  refine ⟨_, ps_asg g1 (pg_tup hc (pgs_cons (pg_name hnd hN hl hf) (pgs_cons (pg_name hnd hM hl2 hf2) (pgs_cons (pg_name hnd hO hl3 hf3) pgs_nil hc3) hc2) hc1) hq1 hq2) hs hw h1, g2 σ H S _ fun v H1 e1 i1 => ?_⟩
  obtain ⟨q, vs, rfl, h3, h4⟩ := i1.tupV
  cases h4 with
  | cons j1 j2 =>
    obtain ⟨v2, v3, rfl, i2, i3⟩ := all2 j2
    exact ⟨q, _, rfl, h3, rfl, _, _, rfl, v2, _, rfl, v3, _, rfl, rfl, hr _ _ ((((S.mono e1).setD j1).setD i2).setD i3)⟩
/-- a, b = x, y -/
theorem xs_par (n m : Nat) {kt k2 : Nat} {q1 : Pos} (ha : XE X H0 δ a x) (hb : XE X H0 δ b y) (hr : XS X H0 ((δ.set n (.d x)).set m (.d y)) D rest) (hnd : X.N.Nodup) (hc : X.calm = true) (hnm : n ≠ m) (hN : X.N[n]? = some nm := by rfl) (hM : X.N[m]? = some nm2 := by rfl)
    (hl : X.env.scope.names.lookup nm = some .local := by rfl) (hl2 : X.env.scope.names.lookup nm2 = some .local := by rfl)
    (hw : swappedStores [.Tuple [.Name nm p, .Name nm2 p2] kt p3] (.Tuple [a, b] k2 q1) X.env = pure (some [nm, nm2]) := by rfl)
    (hs : swapsWithSole [.Tuple [.Name nm p, .Name nm2 p2] kt p3] (.Tuple [a, b] k2 q1) pos.line X.env = pure false := by rfl)
    (hs1 : starEach (a :: [b]) X.env = (false, eval a X.env) :: starEach [b] X.env := by rfl) (hs2 : starEach (b :: []) X.env = (false, eval b X.env) :: starEach [] X.env := by rfl) :
    XS X H0 δ D (.Assign [.Tuple [.Name nm p, .Name nm2 p2] kt p3] (.Tuple [a, b] k2 q1) pos :: rest) := xs_cons fun σ H S => by
  obtain ⟨t, g1, g2⟩ := xa_cons ha (xa_cons hb xa_nil hs2) hs1
  refine ⟨_, ps_par hc hnd hN hM hnm hl hl2 g1 hw hs, g2 σ H S _ fun vs H1 e1 i1 => ?_⟩
  obtain ⟨v1, v2, rfl, i2, i3⟩ := all2 i1
  exact ⟨v1, v2, rfl, hr _ _ (((S.mono e1).setD i2).setD i3)⟩
/-- a, b = a new list, y -/
theorem xs_parN (n m : Nat) {kt k2 : Nat} {q1 : Pos} (ha : XN X H0 δ a xs) (hb : XE X H0 δ b y) (hr : ∀ q, XS X H0 ((δ.set n (.L q xs)).set m (.d y)) D rest) (hnd : X.N.Nodup) (hc : X.calm = true) (hnm : n ≠ m) (hN : X.N[n]? = some nm := by rfl) (hM : X.N[m]? = some nm2 := by rfl)
    (hl : X.env.scope.names.lookup nm = some .local := by rfl) (hl2 : X.env.scope.names.lookup nm2 = some .local := by rfl)
    (hw : swappedStores [.Tuple [.Name nm p, .Name nm2 p2] kt p3] (.Tuple [a, b] k2 q1) X.env = pure (some [nm, nm2]) := by rfl)
    (hs : swapsWithSole [.Tuple [.Name nm p, .Name nm2 p2] kt p3] (.Tuple [a, b] k2 q1) pos.line X.env = pure false := by rfl)
    (hs1 : starEach (a :: [b]) X.env = (false, eval a X.env) :: starEach [b] X.env := by rfl) (hs2 : starEach (b :: []) X.env = (false, eval b X.env) :: starEach [] X.env := by rfl) :
    XS X H0 δ D (.Assign [.Tuple [.Name nm p, .Name nm2 p2] kt p3] (.Tuple [a, b] k2 q1) pos :: rest) := xs_cons fun σ H S => by
  obtain ⟨ta, f1, f2⟩ := ha
  obtain ⟨tb, g1, g2⟩ := xa_cons hb xa_nil hs2
  refine ⟨_, ps_par hc hnd hN hM hnm hl hl2 (pa_cons f1 g1 hs1) hw hs, f2 σ H S _ fun q vs H1 hq e1 h1 i1 => g2 σ H1 (S.mono e1) _ fun ws H2 e2 i2 => ?_⟩
  obtain ⟨w, rfl, i3⟩ := all1 i2
  exact ⟨.ref q, w, rfl, hr q _ _ ((S.newL (e1.trans e2) hq (e2 _ _ h1) (Is.monoAll e2 _ _ i1)).setD i3)⟩
/-- xs.append(e) -/
theorem xs_app (n : Nat) {q : Addr} {apos cpos : Pos} (hn : δ[n]? = some (.L q xs)) (hx : XE X H0 δ e x) (hr : XS X H0 (δ.set n (.L q (xs ++ [x]))) D rest) (hm : imm x = true) (hi : immAll xs = true) (him : δ.all immSl = true) (hz : xs.length < 100000)
    (hN : X.N[n]? = some nm := by rfl) (hv : Vis X.env.scope nm := by first | exact Or.inl rfl | exact Or.inr (Or.inl rfl) | exact Or.inr (Or.inr rfl)) (hd : (nm == ("__debug__" : Str)) = false := by decide) (hcd : (nm == ("__classdict__" : Str)) = false := by decide)
    (hbase : attributeBase (.Name nm p) "append" X.env (eval (.Name nm p) X.env) = eval (.Name nm p) X.env := by rfl)
    (hfew : ((backTo cpos (starEach (e :: []) X.env)).all (fun x => !x.1) && (backToKw cpos (keywordEach [] X.env)).all (fun x => x.1.isSome) && decide ((e :: []).length + ([] : List Keyword).length + (if ([] : List Keyword).isEmpty then 0 else 1) < 30)) = true := by rfl)
    (hline : (apos.endLine == cpos.line) = true := by rfl) (hs : starEach (e :: []) X.env = (false, eval e X.env) :: starEach [] X.env := by rfl) (hplain : (backTo cpos (starEach [] X.env)).any (·.1) = false := by rfl)
    (hsw : swapsWith (.Call (.Attribute (.Name nm p) "append" apos) [e] [] cpos) none pos.line X.env = pure false := by rfl) :
    XS X H0 δ D (.Expr (.Call (.Attribute (.Name nm p) "append" apos) [e] [] cpos) pos :: rest) := xs_cons fun σ H S => by
  obtain ⟨t, g1, g2⟩ := hx
  refine ⟨_, ps_expr (pe_bm PySem.F.plainAttrs_list PySem.F.slot_list_append PySem.F.type_list_append mt_append (pe_var hN hv hd hcd) (pa_cons g1 pa_nil hs) hbase hfew hline hs hplain) hsw, ?_⟩
  obtain ⟨vs, e1, h1, h2, h3⟩ := S.sl n _ hn
  refine ⟨_, e1, .inl ⟨rfl, vs, Evl.sq_of h1⟩, g2 σ H S _ fun v H1 ex i1 => ?_⟩
  refine ⟨q, vs, v, rfl, rfl, ex _ _ h1, Evl.sz_lt (by rw [h3.length]; exact hz), ?_⟩
  exact hr _ _ ((S.mono ex).mut hn ((Is.monoAll ex _ _ h3).app (.cons i1 .nil)) (immAll_app hi (by simp [immAll, hm])) him)
/-- xs[i] = e -/
theorem xs_setI (n : Nat) {m : Nat} {q : Addr} {ie : Expr} (hn : δ[n]? = some (.L q xs)) (hx : XE X H0 δ e x) (hix : XE X H0 δ ie (.int i)) (hk : ixN xs.length i = some m) (hr : XS X H0 (δ.set n (.L q (xs.set m x))) D rest) (hm : imm x = true) (hi : immAll (xs.set m x) = true) (him : δ.all immSl = true)
    (hN : X.N[n]? = some nm := by rfl) (hv : Vis X.env.scope nm := by first | exact Or.inl rfl | exact Or.inr (Or.inl rfl) | exact Or.inr (Or.inr rfl)) (hd : (nm == ("__debug__" : Str)) = false := by decide) (hcd : (nm == ("__classdict__" : Str)) = false := by decide)
    (ha : ∀ v, assign (.Subscript (.Name nm p) ie p2) X.env v = (do
      let ov ← holding [v] (eval (.Name nm p) X.env)
      let iv ← holding [v, ov] (eval ie X.env)
      standAt p2
      holding [v, ov, iv] (setItem ov iv v)
      release [v, ov, iv] []) := by intro _; rfl)
    (hs : swapsWithSole [.Subscript (.Name nm p) ie p2] e pos.line X.env = pure false := by rfl) (hw : swappedStores [.Subscript (.Name nm p) ie p2] e X.env = pure none := by rfl)
    (h1 : (assignEach [.Subscript (.Name nm p) ie p2] X.env).map (·.2) = [assign (.Subscript (.Name nm p) ie p2) X.env] := by rfl) :
    XS X H0 δ D (.Assign [.Subscript (.Name nm p) ie p2] e pos :: rest) := xs_cons fun σ H S => by
  obtain ⟨t, g1, g2⟩ := hx
  obtain ⟨u, f1, f2⟩ := hix
  refine ⟨_, ps_asg g1 (pg_sub (pe_var hN hv hd hcd) f1 set_list ha) hs hw h1, g2 σ H S _ fun v H1 ex i1 => ?_⟩
  obtain ⟨vs, e1, l1, l2, l3⟩ := S.sl n _ hn
  refine ⟨_, e1, f2 σ H1 (S.mono ex) _ fun iv H2 ex2 i2 => ?_⟩
  have ex3 := ex.trans ex2
  refine ⟨q, vs, i, m, rfl, i2.intV, ex3 _ _ l1, by rw [l3.length]; exact hk, ?_⟩
  exact hr _ _ ((S.mono ex3).mut hn ((Is.monoAll ex3 _ _ l3).set (i1.mono ex2 _ _) m) hi him)

/-! ### small statements -/
theorem xs_expr (hx : XE X H0 δ e x) (hr : XS X H0 δ D rest) (hs : swapsWith e none pos.line X.env = pure false := by rfl) : XS X H0 δ D (.Expr e pos :: rest) := xs_cons fun σ H S => by
  obtain ⟨t, g1, g2⟩ := hx
  exact ⟨_, ps_expr g1 hs, g2 σ H S _ fun v H1 ex i1 => hr _ _ (S.mono ex)⟩
theorem xs_ret {E : XK} {xo : PyData} (hx : XE X H0 δ e x) (q : Post X.K H0 D.rt E (.d xo)) (he : x = xo := by rfl) : XS X H0 δ D (.Return (some e) pos :: rest) := xs_cons fun σ H S => by
  subst he
  obtain ⟨t, g1, g2⟩ := hx
  exact ⟨_, ps_ret g1, g2 σ H S _ fun v H1 ex i1 => q v H1 (S.ex.trans ex) i1⟩
theorem xs_retN {E : XK} {xo : List PyData} (hx : XN X H0 δ e xs) (q : Post X.K H0 D.rt E (.L xo)) (he : xs = xo := by rfl) : XS X H0 δ D (.Return (some e) pos :: rest) := xs_cons fun σ H S => by
  subst he
  obtain ⟨t, g1, g2⟩ := hx
  exact ⟨_, ps_ret g1, g2 σ H S _ fun p vs H1 hp ex h1 i1 => q p vs H1 (Evl.fresh_back S.ex hp) (S.ex.trans ex) h1 i1⟩
theorem xs_retL (n : Nat) {E : XK} {ad : Addr} {xo : List PyData} (hs : δ[n]? = some (.L ad xs)) (q : Post X.K H0 D.rt E (.L xo)) (he : xs = xo := by rfl) (hN : X.N[n]? = some nm := by rfl) (hv : Vis X.env.scope nm := by first | exact Or.inl rfl | exact Or.inr (Or.inl rfl) | exact Or.inr (Or.inr rfl))
    (hd : (nm == ("__debug__" : Str)) = false := by decide) (hcd : (nm == ("__classdict__" : Str)) = false := by decide) : XS X H0 δ D (.Return (some (.Name nm p)) pos :: rest) := xs_cons fun σ H S => by
  subst he
  refine ⟨_, ps_ret (pe_var hN hv hd hcd), ?_⟩
  obtain ⟨vs, e1, h1, h2, h3⟩ := S.sl n _ hs
  exact ⟨_, e1, q ad vs H h2 S.ex h1 h3⟩
theorem xs_pass (hr : XS X H0 δ D rest) : XS X H0 δ D (.Pass pos :: rest) := xs_cons fun σ H S => ⟨_, ps_pass, hr σ H S⟩
theorem x1_if (hc : XT X H0 δ c k) (ha : k = true → XS X H0 δ D sa) (hb : k = false → XS X H0 δ D sb) : X1 X H0 δ D (.If c sa sb pos) := fun σ H S => by
  obtain ⟨t, g1, g2⟩ := hc
  refine ⟨_, ps_if g1 wS_ok wS_ok, g2 σ H S _ fun H1 ex => ?_⟩
  cases k with
  | true =>
    rw [if_pos rfl]
    exact ha rfl _ _ (S.mono ex)
  | false =>
    rw [if_neg Bool.false_ne_true]
    exact hb rfl _ _ (S.mono ex)
theorem xs_if (hc : XT X H0 δ c k) (ha : k = true → XS X H0 δ { D with nx := wS X rest D } sa) (hb : k = false → XS X H0 δ { D with nx := wS X rest D } sb) : XS X H0 δ D (.If c sa sb pos :: rest) := xs_cons (x1_if hc ha hb)
theorem xs_ifT (hc : XT X H0 δ c k) (hk : k = true) (ha : XS X H0 δ { D with nx := wS X rest D } sa) : XS X H0 δ D (.If c sa sb pos :: rest) := xs_if hc (fun _ => ha) fun h => by rw [hk] at h; cases h
theorem xs_ifF (hc : XT X H0 δ c k) (hk : k = false) (hb : XS X H0 δ { D with nx := wS X rest D } sb) : XS X H0 δ D (.If c sa sb pos :: rest) := xs_if hc (fun h => by rw [hk] at h; cases h) fun _ => hb
/-- an if without else, not gone into -/
theorem xs_skip (hc : XT X H0 δ c k) (hk : k = false) (hr : XS X H0 δ D rest) : XS X H0 δ D (.If c sa [] pos :: rest) := xs_ifF hc hk (xs_end hr)
/-- what stands behind an if is shown once, from δ' -/
theorem xs_join (δ' : List Sl) (h1 : X1 X H0 δ { D with nx := fun σ H => SOk X.K H0 σ H δ' } st) (hr : XS X H0 δ' D rest) : XS X H0 δ D (st :: rest) := fun σ H S => by
  obtain ⟨t, ht, q⟩ := h1 σ H S
  exact ⟨_, Evl.pss_cut ht wS_ok, _, q, hr⟩
/-- .. from a family of states -/
theorem xs_joinX {ι : Type} (F : ι → List Sl) (W : ι → Prop) (h1 : X1 X H0 δ { D with nx := fun σ H => ∃ i, W i ∧ SOk X.K H0 σ H (F i) } st) (hr : ∀ i, W i → XS X H0 (F i) D rest) : XS X H0 δ D (st :: rest) := fun σ H S => by
  obtain ⟨t, ht, q⟩ := h1 σ H S
  exact ⟨_, Evl.pss_cut ht wS_ok, _, q, fun σ' H' ⟨i, wi, Si⟩ => hr i wi _ _ Si⟩
theorem xs_toX {ι : Type} {F : ι → List Sl} {W : ι → Prop} (i : ι) (wi : W i) (e1 : δ = F i) : XS X H0 δ { D with nx := fun σ H => ∃ i, W i ∧ SOk X.K H0 σ H (F i) } [] := xs_nil fun σ H S => ⟨i, wi, e1 ▸ S⟩
/-- the end of an arm, at the states that the join names -/
theorem xs_to {δ' : List Sl} (e1 : δ = δ') : XS X H0 δ { D with nx := fun σ H => SOk X.K H0 σ H δ' } [] := xs_nil fun σ H S => e1 ▸ S

/-! ### loops -/
/-- while, by a family of states with a measure -/
theorem xs_while {ι : Type} (F : ι → List Sl) (μ : ι → Nat) (W : ι → Prop) (cond : ι → Bool) (i0 : ι) (h0 : δ = F i0) (w0 : W i0) (hc : ∀ i, W i → XT X H0 (F i) c (cond i))
    (hb : ∀ i, W i → cond i = true → XS X H0 (F i) { D with nx := fun σ H => ∃ j, W j ∧ μ j < μ i ∧ SOk X.K H0 σ H (F j), ct := fun σ H => ∃ j, W j ∧ μ j < μ i ∧ SOk X.K H0 σ H (F j), bk := wS X rest D } body)
    (hd : ∀ i, W i → cond i = false → XS X H0 (F i) D rest) (hp : PassesOwn (model X.prog X.w) X.A X.env X.xe) : XS X H0 δ D (.While c body [] pos :: rest) := xs_cons fun σ H S => by
  refine ⟨_, ps_while hp wT_ok wS_ok, ?_⟩
  refine ⟨fun m σ H => ∃ i, W i ∧ μ i = m ∧ SOk X.K H0 σ H (F i), ⟨μ i0, i0, w0, rfl, h0 ▸ S⟩, ?_⟩
  rintro m σ' H' ⟨i, wi, rfl, Si⟩
  obtain ⟨t, g1, g2⟩ := hc i wi
  refine ⟨t, g1, g2 σ' H' Si _ fun H1 ex => ?_⟩
  cases hci : cond i with
  | true =>
    rw [if_pos rfl]
    exact ⟨_, fun σ2 H2 ⟨j, wj, lj, Sj⟩ => ⟨μ j, lj, j, wj, rfl, Sj⟩, hb i wi hci _ _ (Si.mono ex)⟩
  | false =>
    rw [if_neg Bool.false_ne_true]
    exact hd i wi hci _ _ (Si.mono ex)
/-- a turn's end -/
theorem xs_turn {ι : Type} {F : ι → List Sl} {μ : ι → Nat} {W : ι → Prop} {n : Nat} {r : VK} {bk ct : St → Hp → Prop} (j : ι) (wj : W j) (lj : μ j < n) (e1 : δ = F j) : XS X H0 δ { nx := fun σ H => ∃ j, W j ∧ μ j < n ∧ SOk X.K H0 σ H (F j), rt := r, bk := bk, ct := ct } [] := xs_nil fun σ H S => ⟨j, wj, lj, e1 ▸ S⟩
/-! ### for -/
/-- a target of a for takes a value -/
def XG (X : Cx) (H0 : Hp) (tg : Expr) (y : PyData) (δ δ' : List Sl) : Prop := ∀ v σ H (Q : St → Hp → Prop), Is X.K H v y → SOk X.K H0 σ H δ → (∀ σ', SOk X.K H0 σ' H δ' → Q σ' H) → wG X tg v σ H Q
theorem xg_name (n : Nat) (hnd : X.N.Nodup) (hN : X.N[n]? = some nm := by rfl) (hl : Loc X.env.scope nm := by exact Or.inl rfl) (hf : X.fn nm = true ∨ X.env.scope.names.lookup nm = some .local := by first | exact .inl rfl | exact .inr rfl) :
    XG X H0 (.Name nm p) x δ (δ.set n (.d x)) := fun v σ H Q i1 S q => ⟨_, pg_name hnd hN hl hf, q _ (S.setD i1)⟩
theorem xg_pair (n m : Nat) {kt : Nat} (hnd : X.N.Nodup) (hc : X.calm = true) (hN : X.N[n]? = some nm := by rfl) (hM : X.N[m]? = some nm2 := by rfl) (hl : Loc X.env.scope nm := by exact Or.inl rfl) (hl2 : Loc X.env.scope nm2 := by exact Or.inl rfl)
    (hq1 : (assignEach [.Name nm p, .Name nm2 p2] X.env).length = 2 := by rfl) (hq2 : (assignEach [.Name nm p, .Name nm2 p2] X.env).findIdx? (·.1) = none := by rfl)
    (hc1 : (assignEach (.Name nm p :: [.Name nm2 p2]) X.env).map (·.2) = assign (.Name nm p) X.env :: (assignEach [.Name nm2 p2] X.env).map (·.2) := by rfl)
    (hc2 : (assignEach (.Name nm2 p2 :: []) X.env).map (·.2) = assign (.Name nm2 p2) X.env :: (assignEach [] X.env).map (·.2) := by rfl)
    (hf : X.fn nm = true ∨ X.env.scope.names.lookup nm = some .local := by first | exact .inl rfl | exact .inr rfl) (hf2 : X.fn nm2 = true ∨ X.env.scope.names.lookup nm2 = some .local := by first | exact .inl rfl | exact .inr rfl) :
    XG X H0 (.Tuple [.Name nm p, .Name nm2 p2] kt p3) (.tuple [x, y]) δ ((δ.set n (.d x)).set m (.d y)) := fun v σ H Q i1 S q => by
  refine ⟨_, pg_tup hc (pgs_cons (pg_name hnd hN hl hf) (pgs_cons (pg_name hnd hM hl2 hf2) pgs_nil hc2) hc1) hq1 hq2, ?_⟩
  obtain ⟨a, vs, rfl, h3, h4⟩ := i1.tupV
  obtain ⟨v1, v2, rfl, i2, i3⟩ := all2 h4
  exact ⟨a, _, rfl, h3, rfl, v1, _, rfl, v2, _, rfl, rfl, q _ ((S.setD i2).setD i3)⟩
/-- a loop's body, from turn to turn -/
def Turns (X : Cx) (H0 : Hp) (D : Ends) (rest body : List Stmt) (tg : Expr) (F : Nat → List Sl) (P : Nat → Prop) (i : Nat) (y : PyData) : Prop :=
  ∃ δ', XG X H0 tg y (F i) δ' ∧ XS X H0 δ' { D with nx := fun σ H => P (i + 1) ∧ SOk X.K H0 σ H (F (i + 1)), ct := fun σ H => P (i + 1) ∧ SOk X.K H0 σ H (F (i + 1)), bk := wS X rest D } body
/-- the end of a turn -/
theorem xs_next {F : Nat → List Sl} {P : Nat → Prop} {n : Nat} {r : VK} {bk ct : St → Hp → Prop} (e1 : δ = F (n + 1)) (p1 : P (n + 1)) : XS X H0 δ { nx := fun σ H => P (n + 1) ∧ SOk X.K H0 σ H (F (n + 1)), rt := r, bk := bk, ct := ct } [] := xs_nil fun σ H S => ⟨p1, e1 ▸ S⟩
theorem turn_go {tg : Expr} {F : Nat → List Sl} {P : Nat → Prop} {n : Nat} {v : V} {σ : St} {H : Hp} (h : Turns X H0 D rest body tg F P n y) (i1 : Is X.K H v y) (S : SOk X.K H0 σ H (F n)) :
    wG X tg v σ H fun σ2 H2 => wS X body { D with nx := fun σ H => P (n + 1) ∧ SOk X.K H0 σ H (F (n + 1)), ct := fun σ H => P (n + 1) ∧ SOk X.K H0 σ H (F (n + 1)), bk := wS X rest D } σ2 H2 := by
  obtain ⟨δ', hg, hb⟩ := h
  exact hg v σ H _ i1 S fun σ' S' => hb _ _ S'
theorem list_core {tg : Expr} {q : Addr} {F : Nat → List Sl} {P : Nat → Prop} {σ : St} {H : Hp} (hsrc : ∀ i σ H, SOk X.K H0 σ H (F i) → ∃ vs, SqL X.K H q vs ∧ IsAll X.K H vs xs) (S : SOk X.K H0 σ H (F 0)) (p0 : P 0)
    (hb : ∀ i y, xs[i]? = some y → P i → Turns X H0 D rest body tg F P i y) (hd : P xs.length → XS X H0 (F xs.length) D rest) :
    ∃ W : Nat → Nat → St → Hp → Prop, (∃ m, W 0 m σ H) ∧ ∀ i m σ H, W i m σ H →
      ((Itl X.K q).stop i H ∧ wS X rest D σ H) ∨ ((Itl X.K q).go i H ∧ ∃ N : St → Hp → Prop, (∀ σ' H', N σ' H' → ∃ m', m' < m ∧ W (i + 1) m' σ' H') ∧ ∀ v H', (Itl X.K q).yld i H v H' → wG X tg v σ H' fun σ2 H2 => wS X body { D with nx := N, ct := N, bk := wS X rest D } σ2 H2) := by
  refine ⟨fun i m σ H => m = xs.length - i ∧ i ≤ xs.length ∧ P i ∧ SOk X.K H0 σ H (F i), ⟨xs.length, by omega, Nat.zero_le _, p0, S⟩, ?_⟩
  rintro i m σ H ⟨rfl, hi, pi, Si⟩
  obtain ⟨vs, hv, ha⟩ := hsrc i σ H Si
  by_cases hlt : i < xs.length
  · obtain ⟨v, hv1, iv⟩ := ha.get (List.getElem?_eq_getElem hlt)
    refine .inr ⟨⟨vs, v, hv, hv1⟩, fun σ H => P (i + 1) ∧ SOk X.K H0 σ H (F (i + 1)), fun σ' H' ⟨p', S'⟩ => ⟨xs.length - (i + 1), by omega, rfl, hlt, p', S'⟩, fun u H' yl => ?_⟩
    obtain ⟨rfl, hu⟩ := yl
    have e : u = v := Option.some.inj ((hu vs hv).symm.trans hv1)
    subst e
    exact turn_go (hb i _ (List.getElem?_eq_getElem hlt) pi) iv Si
  · have e : i = xs.length := by omega
    subst e
    exact .inl ⟨⟨vs, hv, by rw [ha.length]; exact Nat.le_refl _⟩, hd pi _ _ Si⟩
/-- for .. in a list that a parameter bears -/
theorem xs_forR (n : Nat) {tg : Expr} (F : Nat → List Sl) (P : Nat → Prop) (hs : δ[n]? = some (.R xs)) (h0 : δ = F 0) (p0 : P 0) (hb : ∀ i y, xs[i]? = some y → P i → Turns X H0 D rest body tg F P i y) (hd : P xs.length → XS X H0 (F xs.length) D rest)
    (hp : PassesOwn (model X.prog X.w) X.A X.env X.xe) (hc : X.calm = true) (hN : X.N[n]? = some nm := by rfl) (hv : Vis X.env.scope nm := by first | exact Or.inl rfl | exact Or.inr (Or.inl rfl) | exact Or.inr (Or.inr rfl)) (hdb : (nm == ("__debug__" : Str)) = false := by decide) (hcd : (nm == ("__classdict__" : Str)) = false := by decide)
    (hfold : ∀ x, foldedSetIterable (.Name nm p) X.env x = pure x := by intro _; rfl) : XS X H0 δ D (.For tg (.Name nm p) body [] pos :: rest) := xs_cons fun σ H S => by
  obtain ⟨q, vs, e1, h1, h2⟩ := S.sl n _ hs
  refine ⟨_, ps_for hp hc (pi_list (pe_var hN hv hdb hcd)) wG_ok wS_ok hfold, ?_⟩
  refine ⟨_, e1, q, rfl, ⟨vs, Evl.ex_l S.ex h1⟩, ?_⟩
  exact list_core (fun i σ H S' => ⟨vs, Evl.ex_l S'.ex h1, Is.monoAll S'.ex _ _ h2⟩) (h0 ▸ S) p0 hb hd
/-- for .. in a list of our own that stays as it is -/
theorem xs_forO (n : Nat) {q : Addr} {tg : Expr} (F : Nat → List Sl) (P : Nat → Prop) (hs : ∀ i, (F i)[n]? = some (.L q xs)) (h0 : δ = F 0) (p0 : P 0) (hb : ∀ i y, xs[i]? = some y → P i → Turns X H0 D rest body tg F P i y) (hd : P xs.length → XS X H0 (F xs.length) D rest)
    (hp : PassesOwn (model X.prog X.w) X.A X.env X.xe) (hc : X.calm = true) (hN : X.N[n]? = some nm := by rfl) (hv : Vis X.env.scope nm := by first | exact Or.inl rfl | exact Or.inr (Or.inl rfl) | exact Or.inr (Or.inr rfl)) (hdb : (nm == ("__debug__" : Str)) = false := by decide) (hcd : (nm == ("__classdict__" : Str)) = false := by decide)
    (hfold : ∀ x, foldedSetIterable (.Name nm p) X.env x = pure x := by intro _; rfl) : XS X H0 δ D (.For tg (.Name nm p) body [] pos :: rest) := xs_cons fun σ H S => by
  subst h0
  obtain ⟨vs, e1, h1, h2, h3⟩ := S.sl n _ (hs 0)
  refine ⟨_, ps_for hp hc (pi_list (pe_var hN hv hdb hcd)) wG_ok wS_ok hfold, ?_⟩
  refine ⟨_, e1, q, rfl, ⟨vs, Evl.sq_of h1⟩, ?_⟩
  refine list_core (fun i σ H S' => ?_) S p0 hb hd
  obtain ⟨ws, _, g1, _, g3⟩ := S'.sl n _ (hs i)
  exact ⟨ws, Evl.sq_of g1, g3⟩
theorem texts_is {K : PySem.W.Frag} {H : Hp} : ∀ ts : List Str, IsAll K H (ts.map V.str) (ts.map .str)
  | [] => .nil
  | t :: ts => .cons (.str t) (texts_is ts)
/-- for .. in a new list of texts -/
theorem xs_forN {tg : Expr} {ts : List Str} (F : Nat → List Sl) (P : Nat → Prop) (hx : XN X H0 δ e (ts.map .str)) (h0 : δ = F 0) (p0 : P 0) (hb : ∀ H1, Ex H0 H1 → ∀ i (t : Str), ts[i]? = some t → P i → Turns X H1 D rest body tg F P i (.str t)) (hd : ∀ H1, Ex H0 H1 → P ts.length → XS X H1 (F ts.length) D rest)
    (hp : PassesOwn (model X.prog X.w) X.A X.env X.xe) (hc : X.calm = true) (hfold : ∀ x, foldedSetIterable e X.env x = pure x := by intro _; rfl) : XS X H0 δ D (.For tg e body [] pos :: rest) := xs_cons fun σ H S => by
  subst h0
  obtain ⟨t, g1, g2⟩ := hx
  refine ⟨_, ps_for hp hc (pi_list g1) wG_ok wS_ok hfold, g2 σ H S _ fun q vs H1 hq ex h1 i1 => ?_⟩
  refine ⟨q, rfl, ⟨vs, Evl.sq_of h1⟩, ?_⟩
  have ev := texts_v i1
  have hq0 : H0 q = none := Evl.fresh_back S.ex hq
  have S1 := (S.mono ex).ground h1 hq0 fun i p xs e z => by
    subst z
    obtain ⟨ws, _, e2, _⟩ := S.sl i _ e
    rw [hq] at e2
    cases e2
  have exg : Ex H0 (upd H0 q (.lst vs)) := Evl.Ex.new hq0
  have hl : (ts.map PyData.str).length = ts.length := List.length_map _
  refine list_core (H0 := upd H0 q (.lst vs)) (xs := ts.map .str) (fun i σ H S' => ⟨vs, Evl.sq_of (S'.ex q _ upd_same), by rw [ev]; exact texts_is ts⟩) S1 p0 (fun i y hy pi => ?_) ?_
  · rw [List.getElem?_map] at hy
    cases e1 : ts[i]? with
    | none => rw [e1] at hy; cases hy
    | some t =>
      rw [e1] at hy
      cases hy
      exact hb _ exg i t e1 pi
  · rw [hl]
    exact hd _ exg
theorem tup_core {tg : Expr} {q : Addr} {F : Nat → List Sl} {P : Nat → Prop} {σ : St} {H : Hp} (hsrc : ∀ i σ H, SOk X.K H0 σ H (F i) → ∃ vs, SqT X.K H q vs ∧ IsAll X.K H vs xs) (S : SOk X.K H0 σ H (F 0)) (p0 : P 0)
    (hb : ∀ i y, xs[i]? = some y → P i → Turns X H0 D rest body tg F P i y) (hd : P xs.length → XS X H0 (F xs.length) D rest) :
    ∃ W : Nat → Nat → St → Hp → Prop, (∃ m, W 0 m σ H) ∧ ∀ i m σ H, W i m σ H →
      ((Itt X.K q).stop i H ∧ wS X rest D σ H) ∨ ((Itt X.K q).go i H ∧ ∃ N : St → Hp → Prop, (∀ σ' H', N σ' H' → ∃ m', m' < m ∧ W (i + 1) m' σ' H') ∧ ∀ v H', (Itt X.K q).yld i H v H' → wG X tg v σ H' fun σ2 H2 => wS X body { D with nx := N, ct := N, bk := wS X rest D } σ2 H2) := by
  refine ⟨fun i m σ H => m = xs.length - i ∧ i ≤ xs.length ∧ P i ∧ SOk X.K H0 σ H (F i), ⟨xs.length, by omega, Nat.zero_le _, p0, S⟩, ?_⟩
  rintro i m σ H ⟨rfl, hi, pi, Si⟩
  obtain ⟨vs, hv, ha⟩ := hsrc i σ H Si
  by_cases hlt : i < xs.length
  · obtain ⟨v, hv1, iv⟩ := ha.get (List.getElem?_eq_getElem hlt)
    refine .inr ⟨⟨vs, v, hv, hv1⟩, fun σ H => P (i + 1) ∧ SOk X.K H0 σ H (F (i + 1)), fun σ' H' ⟨p', S'⟩ => ⟨xs.length - (i + 1), by omega, rfl, hlt, p', S'⟩, fun u H' yl => ?_⟩
    obtain ⟨rfl, hu⟩ := yl
    have e : u = v := Option.some.inj ((hu vs hv).symm.trans hv1)
    subst e
    exact turn_go (hb i _ (List.getElem?_eq_getElem hlt) pi) iv Si
  · have e : i = xs.length := by omega
    subst e
    exact .inl ⟨⟨vs, hv, by rw [ha.length]; exact Nat.le_refl _⟩, hd pi _ _ Si⟩
theorem ints_is {K : PySem.W.Frag} {H : Hp} : ∀ ns : List Int, IsAll K H (ns.map V.int) (ns.map .int)
  | [] => .nil
  | t :: ts => .cons (.int t) (ints_is ts)
theorem ints_v {K : PySem.W.Frag} {H : Hp} : ∀ {ts : List Int} {vs : List V}, IsAll K H vs (ts.map .int) → vs = ts.map V.int
  | [], vs, h => by cases h; rfl
  | t :: ts, vs, h => by
    cases h with
    | cons h1 h2 => rw [h1.intV, ints_v h2]; rfl
/-- for .. in a written tuple of ints -/
theorem xs_forT {tg : Expr} {ns : List Int} {kt : Nat} (F : Nat → List Sl) (P : Nat → Prop) (hx : XA X H0 δ es (ns.map .int)) (h0 : δ = F 0) (p0 : P 0) (hb : ∀ H1, Ex H0 H1 → ∀ i (t : Int), ns[i]? = some t → P i → Turns X H1 D rest body tg F P i (.int t)) (hd : ∀ H1, Ex H0 H1 → P ns.length → XS X H1 (F ns.length) D rest)
    (hp : PassesOwn (model X.prog X.w) X.A X.env X.xe) (hc : X.calm = true) (hz : Nat.ble ns.length 100000 = true := by rfl) (hfold : ∀ x, foldedSetIterable (.Tuple es kt p2) X.env x = pure x := by intro _; rfl) : XS X H0 δ D (.For tg (.Tuple es kt p2) body [] pos :: rest) := xs_cons fun σ H S => by
  subst h0
  obtain ⟨t, g1, g2⟩ := hx
  refine ⟨_, ps_for hp hc (pi_tup (pe_tup g1)) wG_ok wS_ok hfold, g2 σ H S _ fun vs H1 ex i1 => ⟨by rw [i1.length, List.length_map]; exact size_le hz, fun q hq => ?_⟩⟩
  refine ⟨q, rfl, ⟨vs, Evl.st_of upd_same⟩, ?_⟩
  have ev := ints_v i1
  have hq0 : H0 q = none := Evl.fresh_back (S.ex.trans ex) hq
  have S1 := ((S.mono ex).mono (Evl.Ex.new hq)).ground (o := .tup vs) upd_same hq0 fun i p xs e z => by
    subst z
    obtain ⟨ws, _, e2, _⟩ := (S.mono ex).sl i _ e
    rw [hq] at e2
    cases e2
  have exg : Ex H0 (upd H0 q (.tup vs)) := Evl.Ex.new hq0
  have hl : (ns.map PyData.int).length = ns.length := List.length_map _
  refine tup_core (H0 := upd H0 q (.tup vs)) (xs := ns.map .int) (fun i σ H S' => ⟨vs, Evl.st_of (S'.ex q _ upd_same), by rw [ev]; exact ints_is ns⟩) S1 p0 (fun i y hy pi => ?_) ?_
  · rw [List.getElem?_map] at hy
    cases e1 : ns[i]? with
    | none => rw [e1] at hy; cases hy
    | some t =>
      rw [e1] at hy
      cases hy
      exact hb _ exg i t e1 pi
  · rw [hl]
    exact hd _ exg
/-- for .. in a text, sign by sign -/
theorem xs_forS {tg : Expr} (F : Nat → List Sl) (P : Nat → Prop) (hx : XE X H0 δ e (.str s)) (h0 : δ = F 0) (p0 : P 0) (hb : ∀ i (n : Nat), s.cps.toList[i]? = some n → P i → Turns X H0 D rest body tg F P i (.str ⟨#[n]⟩)) (hd : P s.cps.toList.length → XS X H0 (F s.cps.toList.length) D rest)
    (hp : PassesOwn (model X.prog X.w) X.A X.env X.xe) (hc : X.calm = true) (hfold : ∀ x, foldedSetIterable e X.env x = pure x := by intro _; rfl) : XS X H0 δ D (.For tg e body [] pos :: rest) := xs_cons fun σ H S => by
  subst h0
  obtain ⟨t, g1, g2⟩ := hx
  refine ⟨_, ps_for hp hc (pi_str g1) wG_ok wS_ok hfold, g2 σ H S _ fun v H1 ex i1 => ⟨s, i1.strV, ?_⟩⟩
  have hsz : s.cps.size = s.cps.toList.length := by simp
  refine ⟨fun i m σ H => m = s.cps.toList.length - i ∧ i ≤ s.cps.toList.length ∧ P i ∧ SOk X.K H0 σ H (F i), ⟨s.cps.toList.length, by omega, Nat.zero_le _, p0, S.mono ex⟩, ?_⟩
  rintro i m σ H ⟨rfl, hi, pi, Si⟩
  by_cases hlt : i < s.cps.toList.length
  · refine .inr ⟨by show i < s.cps.size; omega, fun σ H => P (i + 1) ∧ SOk X.K H0 σ H (F (i + 1)), fun σ' H' ⟨p', S'⟩ => ⟨s.cps.toList.length - (i + 1), by omega, rfl, hlt, p', S'⟩, fun u H' yl => ?_⟩
    obtain ⟨rfl, c, hc, rfl⟩ := yl
    have hc' : s.cps.toList[i]? = some c := by simpa using hc
    exact turn_go (hb i c hc' pi) (.str _) Si
  · have e : i = s.cps.toList.length := by omega
    subst e
    exact .inl ⟨by show s.cps.size ≤ _; omega, hd pi _ _ Si⟩
theorem range_core {tg : Expr} {lo : Int} {n : Nat} {F : Nat → List Sl} {P : Nat → Prop} {σ : St} {H : Hp} (S : SOk X.K H0 σ H (F 0)) (p0 : P 0) (hb : ∀ i, i < n → P i → Turns X H0 D rest body tg F P i (.int (lo + i))) (hd : P n → XS X H0 (F n) D rest) :
    ∃ W : Nat → Nat → St → Hp → Prop, (∃ m, W 0 m σ H) ∧ ∀ i m σ H, W i m σ H →
      ((Itr lo n).stop i H ∧ wS X rest D σ H) ∨ ((Itr lo n).go i H ∧ ∃ N : St → Hp → Prop, (∀ σ' H', N σ' H' → ∃ m', m' < m ∧ W (i + 1) m' σ' H') ∧ ∀ v H', (Itr lo n).yld i H v H' → wG X tg v σ H' fun σ2 H2 => wS X body { D with nx := N, ct := N, bk := wS X rest D } σ2 H2) := by
  refine ⟨fun i m σ H => m = n - i ∧ i ≤ n ∧ P i ∧ SOk X.K H0 σ H (F i), ⟨n, by omega, Nat.zero_le _, p0, S⟩, ?_⟩
  rintro i m σ H ⟨rfl, hi, pi, Si⟩
  by_cases hlt : i < n
  · refine .inr ⟨hlt, fun σ H => P (i + 1) ∧ SOk X.K H0 σ H (F (i + 1)), fun σ' H' ⟨p', S'⟩ => ⟨n - (i + 1), by omega, rfl, hlt, p', S'⟩, fun u H' yl => ?_⟩
    obtain ⟨rfl, rfl⟩ := yl
    exact turn_go (hb i hlt pi) (.int _) Si
  · have e : i = n := by omega
    subst e
    exact .inl ⟨Nat.le_refl _, hd pi _ _ Si⟩
theorem xs_forR1 {tg : Expr} (F : Nat → List Sl) (P : Nat → Prop) (hx : XA X H0 δ [e] [.int i]) (hi : -(2 ^ 62) ≤ i ∧ i < 2 ^ 62) (h0 : δ = F 0) (p0 : P 0) (hb : ∀ n : Nat, (n : Int) < i → P n → Turns X H0 D rest body tg F P n (.int n)) (hd : P i.toNat → XS X H0 (F i.toNat) D rest)
    (hm : X.mg "range" = none) (hp : PassesOwn (model X.prog X.w) X.A X.env X.xe) (hc : X.calm = true) (hg : Gl X "range" := by rfl) (hs : starEach [e] X.env = [(false, eval e X.env)] := by rfl)
    (hfold : ∀ x, foldedSetIterable (.Call (.Name "range" p) [e] [] p2) X.env x = pure x := by intro _; rfl) : XS X H0 δ D (.For tg (.Call (.Name "range" p) [e] [] p2) body [] pos :: rest) := xs_cons fun σ H S => by
  subst h0
  obtain ⟨t, g1, g2⟩ := hx
  refine ⟨_, ps_for hp hc (pi_range1 hg hm g1 hs) wG_ok wS_ok hfold, g2 σ H S _ fun vs H1 ex i1 => ?_⟩
  obtain ⟨v, rfl, i2⟩ := all1 i1
  rw [i2.intV]
  refine ⟨i, rfl, hi.1, hi.2, range_core (S.mono ex) p0 (fun n hn pn => ?_) hd⟩
  rw [Int.zero_add]
  exact hb n (by omega) pn
theorem xs_forR2 {tg a2 : Expr} (F : Nat → List Sl) (P : Nat → Prop) (hx : XA X H0 δ [e, a2] [.int i, .int j]) (hi : (-(2 ^ 62) ≤ i ∧ i < 2 ^ 62) ∧ (-(2 ^ 62) ≤ j ∧ j < 2 ^ 62)) (h0 : δ = F 0) (p0 : P 0) (hb : ∀ n : Nat, i + (n : Int) < j → P n → Turns X H0 D rest body tg F P n (.int (i + n))) (hd : P (j - i).toNat → XS X H0 (F (j - i).toNat) D rest)
    (hm : X.mg "range" = none) (hp : PassesOwn (model X.prog X.w) X.A X.env X.xe) (hc : X.calm = true) (hg : Gl X "range" := by rfl) (hs : starEach [e, a2] X.env = [(false, eval e X.env), (false, eval a2 X.env)] := by rfl) (hs2 : starEach [a2] X.env = [(false, eval a2 X.env)] := by rfl)
    (hfold : ∀ x, foldedSetIterable (.Call (.Name "range" p) [e, a2] [] p2) X.env x = pure x := by intro _; rfl) : XS X H0 δ D (.For tg (.Call (.Name "range" p) [e, a2] [] p2) body [] pos :: rest) := xs_cons fun σ H S => by
  subst h0
  obtain ⟨t, g1, g2⟩ := hx
  refine ⟨_, ps_for hp hc (pi_range2 hg hm g1 hs hs2) wG_ok wS_ok hfold, g2 σ H S _ fun vs H1 ex i1 => ?_⟩
  obtain ⟨v, w, rfl, i2, i3⟩ := all2 i1
  rw [i2.intV, i3.intV]
  exact ⟨i, j, rfl, ⟨hi.1.1, hi.1.2, hi.2.1, hi.2.2⟩, range_core (S.mono ex) p0 (fun n hn pn => hb n (by omega) pn) hd⟩
/-- for .. in reversed(a list of our own that stays) -/
theorem xs_forV (n : Nat) {q : Addr} {tg : Expr} (F : Nat → List Sl) (P : Nat → Prop) (hs : ∀ i, (F i)[n]? = some (.L q xs)) (h0 : δ = F 0) (p0 : P 0) (hb : ∀ i y, i < xs.length → xs[xs.length - 1 - i]? = some y → P i → Turns X H0 D rest body tg F P i y) (hd : P xs.length → XS X H0 (F xs.length) D rest)
    (hm : X.mg "reversed" = none) (hp : PassesOwn (model X.prog X.w) X.A X.env X.xe) (hc : X.calm = true) (hg : Gl X "reversed" := by rfl) (hN : X.N[n]? = some nm := by rfl) (hv : Vis X.env.scope nm := by first | exact Or.inl rfl | exact Or.inr (Or.inl rfl) | exact Or.inr (Or.inr rfl)) (hdb : (nm == ("__debug__" : Str)) = false := by decide) (hcd : (nm == ("__classdict__" : Str)) = false := by decide)
    (hst : starEach [.Name nm p] X.env = [(false, eval (.Name nm p) X.env)] := by rfl) (hst2 : starEach (.Name nm p :: []) X.env = (false, eval (.Name nm p) X.env) :: starEach [] X.env := by rfl)
    (hfold : ∀ x, foldedSetIterable (.Call (.Name "reversed" p3) [.Name nm p] [] p2) X.env x = pure x := by intro _; rfl) : XS X H0 δ D (.For tg (.Call (.Name "reversed" p3) [.Name nm p] [] p2) body [] pos :: rest) := xs_cons fun σ H S => by
  subst h0
  obtain ⟨vs, e1, h1, h2, h3⟩ := S.sl n _ (hs 0)
  refine ⟨_, ps_for hp hc (pi_reversed hg hm (pa_cons (pe_var hN hv hdb hcd) pa_nil hst2) hst) wG_ok wS_ok hfold, ?_⟩
  refine ⟨_, e1, q, vs, rfl, Evl.sq_of h1, ?_⟩
  rw [h3.length]
  refine ⟨fun i m σ H => m = xs.length - i ∧ i ≤ xs.length ∧ P i ∧ SOk X.K H0 σ H (F i), ⟨xs.length, by omega, Nat.zero_le _, p0, S⟩, ?_⟩
  rintro i m σ H ⟨rfl, hi, pi, Si⟩
  obtain ⟨ws, _, g1, _, g3⟩ := Si.sl n _ (hs i)
  by_cases hlt : i < xs.length
  · have hj : xs.length - 1 - i < xs.length := by omega
    obtain ⟨v, hv1, iv⟩ := g3.get (List.getElem?_eq_getElem hj)
    refine .inr ⟨⟨hlt, ws, v, Evl.sq_of g1, hv1⟩, fun σ H => P (i + 1) ∧ SOk X.K H0 σ H (F (i + 1)), fun σ' H' ⟨p', S'⟩ => ⟨xs.length - (i + 1), by omega, rfl, hlt, p', S'⟩, fun u H' yl => ?_⟩
    obtain ⟨rfl, hu⟩ := yl
    have e : u = v := Option.some.inj ((hu ws (Evl.sq_of g1)).symm.trans hv1)
    subst e
    exact turn_go (hb i _ hlt (List.getElem?_eq_getElem hj) pi) iv Si
  · have e : i = xs.length := by omega
    subst e
    exact .inl ⟨Nat.le_refl _, hd pi _ _ Si⟩
/-- the block's end: None is handed back -/
theorem xs_fall {E : XK} (q : Post X.K H0 D.rt E (.d .none)) (hD : D.nx = fun _ H' => D.rt .non H' := by rfl) : XS X H0 δ D [] := xs_nil fun σ H S => by
  rw [hD]
  exact q .non H S.ex .non
end
theorem def_at {K : PySem.W.Frag} {h : Heap} {mg : Str → Option Value} {x : Str} {st : Stmt} {f : Addr} {ps : List Str} (X : K.In h) (G : h.Ns mainGlobals mg) {oc : Value} {od an : Option Addr} {osl : Array (Option Value)} {kV doc pm cdv ct : Value}
    (a : PySem.W.nsIn K mainGlobals x = some (some (.ref f))) (l : K.lookup f = some ⟨oc, od, .func (PySem.W.fnOf x x (defArgs st) (defBody st) (defScope st) .none kV doc pm an cdv ct), osl⟩) (c : PySem.W.codeIn K cdv x = true) (k : PySem.W.keepIn K (.ref f) = true)
    (hb : ∀ (kV doc pm : Value) (an : Option Addr) (cdv ct : Value) (us : List Value), us.length = ps.length → bindArgs (PySem.W.fnOf x x (defArgs st) (defBody st) (defScope st) .none kV doc pm an cdv ct) ⟨us, []⟩ = pure (ps.zip us)) : DefAt K mg x st ps := by
  have F := fun_mk (st := st) l c k
  exact ⟨_, _, F, PySem.W.mg_of X G a, F.binds hb⟩
end NF
namespace NF
open PySem PySem.Spec L2
open Evl (Ex)
open PyProof.Rows (envOfC)
section
variable {X : Cx} {H0 : Hp} {δ : List Sl} {D : Ends} {a b c e : Expr} {es : List Expr} {st : Stmt} {rest body sa sb : List Stmt} {pos p p2 p3 : Pos} {x y z : PyData} {xs ys ds : List PyData} {i j : Int} {s t : Str} {k l : Bool} {nm nm2 nm3 : Str} {m : Nat} {ps : List Str} {φ : List PyData → Out → Prop}
/-! ### calls of defs -/
theorem xe_call (G : FnAt X.prog X.w X.K X.mg X.base nm m ps φ) (hr : Room m X.A) (ha : XA X H0 δ (e :: es) ds) (hφ : φ ds (.d x)) (hg : Gl X nm := by rfl) (hl : ds.length = ps.length := by rfl) (hdb : (nm == ("__debug__" : Str)) = false := by decide)
    (he : starEach (e :: es) X.env = (false, eval e X.env) :: starEach es X.env := by rfl) (hpl : (backTo pos (starEach es X.env)).any (·.1) = false := by rfl) : XE X H0 δ (.Call (.Name nm p) (e :: es) [] pos) x := by
  obtain ⟨f, fd, F, hm, hk, hb⟩ := G.ex
  obtain ⟨t, h1, h2⟩ := ha
  refine ⟨_, pe_call F hr hg hm hk hb .nil passL h1 hdb he hpl, fun σ H S Q q => h2 σ H S _ fun vs H1 ex i1 => ?_⟩
  rw [List.append_nil]
  exact ⟨by rw [i1.length]; exact hl, ds, _, i1, hφ, fun v H' ex' i' => q v H' (ex.trans ex') i'⟩
theorem xe_call0 (G : FnAt X.prog X.w X.K X.mg X.base nm m [] φ) (hr : Room m X.A) (hφ : φ [] (.d x)) (hg : Gl X nm := by rfl) (hdb : (nm == ("__debug__" : Str)) = false := by decide) : XE X H0 δ (.Call (.Name nm p) [] [] pos) x := by
  obtain ⟨f, fd, F, hm, hk, hb⟩ := G.ex
  exact ⟨_, pe_call0 F hr hg hm hk hb .nil passL hdb, fun σ H S Q q => ⟨rfl, [], _, .nil, hφ, fun v H' ex' i' => q v H' ex' i'⟩⟩
theorem xn_call (G : FnAt X.prog X.w X.K X.mg X.base nm m ps φ) (hr : Room m X.A) (ha : XA X H0 δ (e :: es) ds) (hφ : φ ds (.L xs)) (hg : Gl X nm := by rfl) (hl : ds.length = ps.length := by rfl) (hdb : (nm == ("__debug__" : Str)) = false := by decide)
    (he : starEach (e :: es) X.env = (false, eval e X.env) :: starEach es X.env := by rfl) (hpl : (backTo pos (starEach es X.env)).any (·.1) = false := by rfl) : XN X H0 δ (.Call (.Name nm p) (e :: es) [] pos) xs := by
  obtain ⟨f, fd, F, hm, hk, hb⟩ := G.ex
  obtain ⟨t, h1, h2⟩ := ha
  refine ⟨_, pe_call F hr hg hm hk hb .nil passL h1 hdb he hpl, fun σ H S Q q => h2 σ H S _ fun vs H1 ex i1 => ?_⟩
  rw [List.append_nil]
  exact ⟨by rw [i1.length]; exact hl, ds, _, i1, hφ, fun p vs' H' hp ex' hl' i' => q p vs' H' (Evl.fresh_back ex hp) (ex.trans ex') hl' i'⟩
/-- an expression that raises -/
def XR (X : Cx) (H0 : Hp) (δ : List Sl) (e : Expr) (W : WX) (C : Addr) : Prop := ∃ te, PE X e te ∧ ∀ σ H, SOk X.K H0 σ H δ → ∀ Q : VK, (∀ H', Ex H H' → W (.ref C) none σ H') → te σ H Q
def XRA (X : Cx) (H0 : Hp) (δ : List Sl) (es : List Expr) (W : WX) (C : Addr) : Prop := ∃ ta, PA X es ta ∧ ∀ σ H, SOk X.K H0 σ H δ → ∀ Q : List V → Hp → Prop, (∀ H', Ex H H' → W (.ref C) none σ H') → ta σ H Q
theorem xr_call {W : WX} {C : Addr} (tk : Takes X W) (G : FnAt X.prog X.w X.K X.mg X.base nm m ps φ) (hr : Room m X.A) (ha : XA X H0 δ (e :: es) ds) (hφ : φ ds (.E C)) (hg : Gl X nm := by rfl) (hl : ds.length = ps.length := by rfl) (hdb : (nm == ("__debug__" : Str)) = false := by decide)
    (he : starEach (e :: es) X.env = (false, eval e X.env) :: starEach es X.env := by rfl) (hpl : (backTo pos (starEach es X.env)).any (·.1) = false := by rfl) : XR X H0 δ (.Call (.Name nm p) (e :: es) [] pos) W C := by
  obtain ⟨f, fd, F, hm, hk, hb⟩ := G.ex
  obtain ⟨t, h1, h2⟩ := ha
  refine ⟨_, pe_callS F hr hg hm hk hb (fun σ => passAt tk σ) h1 hdb he hpl, fun σ H S Q q => h2 σ H S _ fun vs H1 ex i1 => ?_⟩
  exact ⟨by rw [i1.length]; exact hl, ds, _, i1, hφ, fun H' ex' => q H' (ex.trans ex')⟩
/-- the first argument raises -/
theorem xra_head {W : WX} {C : Addr} (h : XR X H0 δ e W C) (hes : ∃ ta, PA X es ta) (hs : starEach (e :: es) X.env = (false, eval e X.env) :: starEach es X.env := by rfl) : XRA X H0 δ (e :: es) W C := by
  obtain ⟨t, h1, h2⟩ := h
  obtain ⟨u, g1⟩ := hes
  exact ⟨_, pa_cons h1 g1 hs, fun σ H S Q q => h2 σ H S _ q⟩
theorem xr_callA {W : WX} {C : Addr} {sp : Sp} {f : Addr} {fd : FuncData} (F : FnOk X.prog X.w X.K X.mg X.base (L2.CX X.prog X.w) m f fd ps sp) (hm : X.mg nm = some (.ref f)) (hk : PySem.W.keepIn X.K (.ref f) = true) (hb : Binds X.K fd ps []) (hr : Room m X.A) (ha : XRA X H0 δ (e :: es) W C) (hg : Gl X nm := by rfl) (hdb : (nm == ("__debug__" : Str)) = false := by decide)
    (he : starEach (e :: es) X.env = (false, eval e X.env) :: starEach es X.env := by rfl) (hpl : (backTo pos (starEach es X.env)).any (·.1) = false := by rfl) : XR X H0 δ (.Call (.Name nm p) (e :: es) [] pos) W C := by
  obtain ⟨t, h1, h2⟩ := ha
  exact ⟨_, pe_call F hr hg hm hk hb .nil passL h1 hdb he hpl, fun σ H S Q q => h2 σ H S _ q⟩
theorem xr_callG {W : WX} {C : Addr} (G : FnAt X.prog X.w X.K X.mg X.base nm m ps φ) (hr : Room m X.A) (ha : XRA X H0 δ (e :: es) W C) (hg : Gl X nm := by rfl) (hdb : (nm == ("__debug__" : Str)) = false := by decide)
    (he : starEach (e :: es) X.env = (false, eval e X.env) :: starEach es X.env := by rfl) (hpl : (backTo pos (starEach es X.env)).any (·.1) = false := by rfl) : XR X H0 δ (.Call (.Name nm p) (e :: es) [] pos) W C := by
  obtain ⟨f, fd, F, hm, hk, hb⟩ := G.ex
  exact xr_callA F hm hk hb hr ha hg hdb he hpl
theorem xs_exprR {W : WX} {C : Addr} (h : XR X H0 δ e W C) (q : ∀ σ H, SOk X.K H0 σ H δ → W (.ref C) none σ H) (hs : swapsWith e none pos.line X.env = pure false := by rfl) : XS X H0 δ D (.Expr e pos :: rest) := xs_cons fun σ H S => by
  obtain ⟨t, g1, g2⟩ := h
  exact ⟨_, ps_expr g1 hs, g2 σ H S _ fun H' ex => q σ H' (S.mono ex)⟩
theorem xs_asgR {W : WX} {C : Addr} {tg : Expr} (h : XR X H0 δ e W C) (q : ∀ σ H, SOk X.K H0 σ H δ → W (.ref C) none σ H) (hs : swapsWithSole [tg] e pos.line X.env = pure false := by rfl) (hw : swappedStores [tg] e X.env = pure none := by rfl)
    (h1 : (assignEach [tg] X.env).map (·.2) = [assign tg X.env] := by rfl) : XS X H0 δ D (.Assign [tg] e pos :: rest) := xs_cons fun σ H S => by
  obtain ⟨t, g1, g2⟩ := h
  exact ⟨_, ps_asg g1 wG_ok hs hw h1, g2 σ H S _ fun H' ex => q σ H' (S.mono ex)⟩
theorem xs_retR {W : WX} {C : Addr} (h : XR X H0 δ e W C) (q : ∀ σ H, SOk X.K H0 σ H δ → W (.ref C) none σ H) : XS X H0 δ D (.Return (some e) pos :: rest) := xs_cons fun σ H S => by
  obtain ⟨t, g1, g2⟩ := h
  exact ⟨_, ps_ret g1, g2 σ H S _ fun H' ex => q σ H' (S.mono ex)⟩
/-- an own exception class, where it stands -/
structure ExcAt (K : PySem.W.Frag) (mg : Str → Option Value) (x : Str) (C : Addr) : Prop where
  g : mg x = some (.ref C)
  q : PySem.W.excIn K C [.type "ValueError", .type "Exception", .type "BaseException", .type "object"] "ValueError.__new__" = true
  k : PySem.W.keepIn K (.ref C) = true
  s : PySem.W.subIn K (.ref C) (.type "BaseException") = some true
  t : PySem.W.typeIn K (.ref C) = some (.type "type")
theorem xs_raise {W : WX} {C : Addr} {n : Nat} {tx : Str} (tk : Takes X W) (A : ExcAt X.K X.mg nm C) (hc : X.calm = true) (q : ∀ σ H, SOk X.K H0 σ H δ → W (.ref C) none σ H) (hg : Gl X nm := by rfl) (hdb : (nm == ("__debug__" : Str)) = false := by decide) :
    XS X H0 δ D (.Raise (some (.Call (.Name nm p) [.Constant (.str tx) n p2] [] p3)) none pos :: rest) := xs_cons fun σ H S =>
  ⟨_, ps_raise hc tk (pmk_own PySem.F.excBase_ValueError A.q A.g A.k (raises_own A.s A.t) hg hdb), q σ H S⟩
/-- try: one call that raises C; except B as n: suite -/
theorem xs_try (n : Nat) {bn : Str} {B C : Addr} {b₀ : Stmt} {suite : List Stmt} {np pos' : Pos} {fn : Str} (G : FnAt X.prog X.w X.K X.mg X.base fn m ps φ) (hr : Room m X.A)
    (ha : ∀ (pn : List (Addr × Obj)) (xe : Value → Shared → Prop), XA (X.tr pn xe) H0 δ (e :: es) ds) (hφ : φ ds (.E C))
    (gB : X.mg bn = some (.ref B)) (hex : PySem.W.exmOne X.K (.ref C) (.ref B) = some true)
    (hsu : ∀ (ad : Addr) (oe : Obj) (pn : List (Addr × Obj)) (D' : Ends), D'.rt = D.rt → Zc (.ref C) none oe → (∃ vs, oe.data = .fields vs) → XS (X.suite ad ((ad, oe) :: pn)) H0 (δ.set n (.v (.ref ad))) D' (b₀ :: suite))
    (hs : X.stack = X.env :: X.outer) (hf : X.env.frame = some X.env.locals) (hnd : X.N.Nodup) (hN : X.N[n]? = some nm := by rfl) (hln : X.env.kindOf nm = some .local := by rfl) (hgB : Gl X bn := by rfl) (hdB : (bn == ("__debug__" : Str)) = false := by decide) (tk : Takes X (fun _ _ _ _ => False) := by exact takes0)
    (hg : ∀ pn xe, Gl (X.tr pn xe) fn := by exact fun _ _ => rfl) (hl : ds.length = ps.length := by rfl) (hdb : (fn == ("__debug__" : Str)) = false := by decide)
    (he : ∀ pn xe, starEach (e :: es) (X.tr pn xe).env = (false, eval e (X.tr pn xe).env) :: starEach es (X.tr pn xe).env := by exact fun _ _ => rfl) (hpl : ∀ pn xe, (backTo p2 (starEach es (X.tr pn xe).env)).any (·.1) = false := by exact fun _ _ => rfl)
    (hsw : ∀ pn xe, swapsWith (.Call (.Name fn p) (e :: es) [] p2) none p3.line (X.tr pn xe).env = pure false := by exact fun _ _ => rfl) :
    XS X H0 δ D (.Try [.Expr (.Call (.Name fn p) (e :: es) [] p2) p3] [.ExceptHandler (some (.Name bn np)) (some nm) (b₀ :: suite) pos'] [] [] pos :: rest) := xs_cons fun σ H S => by
  obtain ⟨f, fd, F, hm, hk, hb⟩ := G.ex
  refine ⟨_, ps_try_as (i := n) (tb := fun W => fun D σ H => ∃ t, PSs X [] tNext ∧ (∀ pn xe, Takes (X.tr pn xe) W → PSs (X.tr pn xe) [.Expr (.Call (.Name fn p) (e :: es) [] p2) p3] t) ∧ t D σ H) (ts := fun a cls d => fun D σ H => ∀ oe pn, Zc cls d oe → (∃ vs, oe.data = .fields vs) → wS (X.suite a ((a, oe) :: pn)) (b₀ :: suite) D σ H) (Wout := fun _ _ _ _ => False)
    hs hf hnd hN hln ⟨hgB, hdB, .inl gB⟩ tk (fun W pn xe tkW _ => ⟨fun pins s σ H D I h => ?_⟩) (fun a oe cls d pn hz hv => ⟨fun pins s σ H D I h => wS_ok.run pins s σ H D I (h oe pn hz hv)⟩), ?_⟩
  · obtain ⟨t, _, ht, q⟩ := h
    exact (ht pn xe tkW).run pins s σ H D I q
  · refine ⟨fun D' σ' H' => ∀ (W : WX), W = wAs X.K (.ref B) n (fun a cls d => fun D σ H => ∀ oe pn, Zc cls d oe → (∃ vs, oe.data = .fields vs) → wS (X.suite a ((a, oe) :: pn)) (b₀ :: suite) D σ H) (fun _ _ _ _ => False) { D with nx := wS X rest D } → SOk X.K H0 σ' H' δ, pss_nil, fun pn xe tkW => ⟨fun pins s σ H D2 I h => ?_⟩, fun W _ => S⟩
    have S2 := h _ rfl
    obtain ⟨t, h1, h2⟩ := ha pn xe
    have R := xr_call (X := X.tr pn xe) (H0 := H0) (δ := δ) (C := C) (p := p) (pos := p2) tkW (nm := fn) (m := m) (ps := ps) (φ := φ) ⟨f, fd, F, hm, hk, hb⟩ hr ⟨t, h1, h2⟩ hφ (hg pn xe) hl hdb (he pn xe) (hpl pn xe)
    have B1 := xs_exprR (D := D2) (rest := []) R (fun σ1 H1 S1 => ⟨true, hex, fun _ ad had oe pn2 hz hv => ?_, fun z => nomatch z⟩) (hsw pn xe)
    · obtain ⟨t2, q1, q2⟩ := B1 σ H S2
      exact q1.run pins s σ H D2 I q2
    · exact hsu ad oe pn2 { nx := fun σ' H' => wS X rest D (σ'.set n none) H', rt := D.rt, bk := fun σ' H' => D.bk (σ'.set n none) H', ct := fun σ' H' => D.ct (σ'.set n none) H' } rfl hz hv _ H1 (S1.put (i := n) (o := some (.ref ad)) (s := .v (.ref ad)) rfl fun _ _ _ _ e => nomatch e)
/-! ### isinstance -/
def tyD : PyData → String
  | .none => "NoneType"
  | .bool _ => "bool"
  | .int _ => "int"
  | .str _ => "str"
  | .list _ => "list"
  | .tuple _ => "tuple"
  | .dict _ => "dict"
theorem Is.ty {K : PySem.W.Frag} {H : Hp} {v : V} (h : Is K H v x) : TyX K H v (.type (tyD x)) := by
  cases h with
  | non => exact .base .non
  | bl b => exact .base (.bl b)
  | int b => exact .base (.int b)
  | str b => exact .base (.str b)
  | lst a b =>
    rcases a with (a | ⟨o, a⟩) | ⟨o, its, n, e1, e2, _⟩
    · exact .base (.lst a)
    · exact .base (.frz a)
    · exact .kList e1 e2
  | tup a b =>
    rcases a with (a | ⟨o, a⟩) | ⟨o, its, n, e1, e2, _⟩
    · exact .base (.tup a)
    · exact .fTuple a
    · exact .kTuple e1 e2
  | dct a => exact .base (.dK a)
theorem xe_isi {T : String} {tn : Str} (hm : X.mg "isinstance" = none) (ha : XE X H0 δ a x) (hT : X.mg tn = none) (hk : kitB (tyD x) T = some k) (hv : bootBuiltins tn = some (.type T) := by decide +kernel) (hg : Gl X "isinstance" := by rfl) (hgT : Gl X tn := by rfl) (hnT : tn ≠ "__name__" := by decide) (hdT : (tn == ("__debug__" : Str)) = false := by decide)
    (he : starEach (a :: [.Name tn p2]) X.env = (false, eval a X.env) :: starEach [.Name tn p2] X.env := by rfl) (he2 : starEach (.Name tn p2 :: []) X.env = (false, eval (.Name tn p2) X.env) :: starEach [] X.env := by rfl) (hpl : (backTo pos (starEach [.Name tn p2] X.env)).any (·.1) = false := by rfl) :
    XE X H0 δ (.Call (.Name "isinstance" p) [a, .Name tn p2] [] pos) (.bool k) := by
  obtain ⟨t, h1, h2⟩ := ha
  refine ⟨_, pe_callB call_isi hg hm (by decide +kernel) (pa_cons h1 (pa_cons (pe_bltn (v := .ty T) hgT hT hv rfl hnT hdT) pa_nil he2) he) (by decide) (by decide) he hpl, fun σ H S Q q => h2 σ H S _ fun v H1 ex i1 => ?_⟩
  exact ⟨v, .ty T, _, _, k, rfl, .ty T, i1.ty, kit_ty hk, q _ H1 ex (.bl _)⟩
/-- the exception that is handled, asked for its class -/
theorem call_isE2 {ad D : Addr} {oe : Obj} (C : ExcC X.K D) (hz : Zc (.ref D) none oe) (hf : ∃ vs, oe.data = .fields vs) (hp : (ad, oe) ∈ X.pn) : CallR X (.builtin "isinstance") (rIsE X.K D ad) := by
  intro pins s σ H xs us Q I r h
  obtain ⟨c, cv, b, rfl, hcv, e, q⟩ := h
  cases r with
  | cons rx rr =>
    cases rr with
    | cons rt rr =>
      cases rr
      cases rx
      have ec := hcv _ rt
      subst ec
      obtain ⟨hget, _⟩ := I.pin (ad, oe) (List.mem_append.mpr (.inl hp))
      obtain ⟨vs, hv⟩ := hf
      have J : PySem.W.InstAt s.heap ad oe D none := by
        obtain ⟨oc, od, oda, osl⟩ := oe
        obtain ⟨h1, h2⟩ := hz
        dsimp only at h1 h2 hv
        subst h1 h2 hv
        exact ⟨hget, rfl, rfl, trivial⟩
      exact PySem.W.kia_one (PySem.W.handS_kitx_exc C.hg C.hk C.hs C.hd C.ha C.hn C.ht C.hm) I.kIn J e (fun z => nomatch z) fun tk => ⟨.bl b, H, I.kept (t' := tk) fun _ _ z => z, rfl, q⟩
/-- isinstance(e, X), X an own class at B -/
theorem xe_isX (n : Nat) {ad D B : Addr} {oe : Obj} {tn : Str} (hm : X.mg "isinstance" = none) (hs : δ[n]? = some (.v (.ref ad))) (C : ExcC X.K D) (hz : Zc (.ref D) none oe) (hf : ∃ vs, oe.data = .fields vs) (hp : (ad, oe) ∈ X.pn) (gB : X.mg tn = some (.ref B)) (hk : PySem.W.kitOne X.K (.ref D) (.ref B) = some k)
    (hN : X.N[n]? = some nm := by rfl) (hv : Vis X.env.scope nm := by first | exact Or.inl rfl | exact Or.inr (Or.inl rfl) | exact Or.inr (Or.inr rfl)) (hd : (nm == ("__debug__" : Str)) = false := by decide) (hcd : (nm == ("__classdict__" : Str)) = false := by decide) (hg : Gl X "isinstance" := by rfl) (hgT : Gl X tn := by rfl) (hdT : (tn == ("__debug__" : Str)) = false := by decide)
    (he : starEach (.Name nm p3 :: [.Name tn p2]) X.env = (false, eval (.Name nm p3) X.env) :: starEach [.Name tn p2] X.env := by rfl) (he2 : starEach (.Name tn p2 :: []) X.env = (false, eval (.Name tn p2) X.env) :: starEach [] X.env := by rfl) (hpl : (backTo pos (starEach [.Name tn p2] X.env)).any (·.1) = false := by rfl) :
    XE X H0 δ (.Call (.Name "isinstance" p) [.Name nm p3, .Name tn p2] [] pos) (.bool k) := by
  refine ⟨_, pe_callB (call_isE2 C hz hf hp) hg hm (by decide +kernel) (pa_cons (pe_var hN hv hd hcd) (pa_cons (pe_glob (v := .ref B) hgT gB rfl hdT) pa_nil he2) he) (by decide) (by decide) he hpl, fun σ H S Q q => ?_⟩
  have h := S.sl n _ hs
  exact ⟨_, h, .ref B, _, k, rfl, fun u r => r, hk, q _ H (Evl.Ex.refl H) (.bl _)⟩
/-- isinstance(e, T), T a built-in class -/
theorem xe_isXB (n : Nat) {ad D : Addr} {oe : Obj} {tn : Str} {T : String} (hm : X.mg "isinstance" = none) (hs : δ[n]? = some (.v (.ref ad))) (C : ExcC X.K D) (hz : Zc (.ref D) none oe) (hf : ∃ vs, oe.data = .fields vs) (hp : (ad, oe) ∈ X.pn) (hT : X.mg tn = none) (hk : PySem.W.kitOne X.K (.ref D) (.type T) = some k) (hbt : bootBuiltins tn = some (.type T) := by decide +kernel)
    (hN : X.N[n]? = some nm := by rfl) (hv : Vis X.env.scope nm := by first | exact Or.inl rfl | exact Or.inr (Or.inl rfl) | exact Or.inr (Or.inr rfl)) (hd : (nm == ("__debug__" : Str)) = false := by decide) (hcd : (nm == ("__classdict__" : Str)) = false := by decide) (hg : Gl X "isinstance" := by rfl) (hgT : Gl X tn := by rfl) (hnT : tn ≠ "__name__" := by decide) (hdT : (tn == ("__debug__" : Str)) = false := by decide)
    (he : starEach (.Name nm p3 :: [.Name tn p2]) X.env = (false, eval (.Name nm p3) X.env) :: starEach [.Name tn p2] X.env := by rfl) (he2 : starEach (.Name tn p2 :: []) X.env = (false, eval (.Name tn p2) X.env) :: starEach [] X.env := by rfl) (hpl : (backTo pos (starEach [.Name tn p2] X.env)).any (·.1) = false := by rfl) :
    XE X H0 δ (.Call (.Name "isinstance" p) [.Name nm p3, .Name tn p2] [] pos) (.bool k) := by
  refine ⟨_, pe_callB (call_isE2 C hz hf hp) hg hm (by decide +kernel) (pa_cons (pe_var hN hv hd hcd) (pa_cons (pe_bltn (v := .ty T) hgT hT hbt rfl hnT hdT) pa_nil he2) he) (by decide) (by decide) he hpl, fun σ H S Q q => ?_⟩
  have h := S.sl n _ hs
  exact ⟨_, h, .ty T, _, k, rfl, fun u r => r, hk, q _ H (Evl.Ex.refl H) (.bl _)⟩

/-! ### methods of texts -/
theorem xn_split {apos : Pos} (ha : XE X H0 δ a (.str s)) (hb : XE X H0 δ b (.str t)) (ht : (t.length == 0) = false) (hz : s.length + 2 ≤ sizeLine) (hs : starEach [b] X.env = [(false, eval b X.env)] := by rfl) (hbase : attributeBase a "split" X.env (eval a X.env) = eval a X.env := by rfl) (hline : (apos.endLine == pos.line) = true := by rfl) :
    XN X H0 δ (.Call (.Attribute a "split" apos) [b] [] pos) ((Txt.split s t).map .str) := by
  obtain ⟨ta, a1, a2⟩ := ha
  obtain ⟨tb, b1, b2⟩ := hb
  refine ⟨_, pe_split a1 b1 hs hbase hline, fun σ H S Q q => a2 σ H S _ fun v H1 e1 i1 => ⟨⟨s, i1.strV⟩, b2 σ H1 (S.mono e1) _ fun w H2 e2 i2 => ⟨s, t, i1.strV, by rw [i2.strV], ht, hz, fun p hp => ?_⟩⟩⟩
  have e3 : Ex H2 (upd H2 p (.lst ((Txt.split s t).map V.str))) := Evl.Ex.new hp
  exact q p _ _ (Evl.fresh_back (e1.trans e2) hp) ((e1.trans e2).trans e3) upd_same (texts_is _)
theorem xe_part {apos : Pos} (ha : XE X H0 δ a (.str s)) (hb : XE X H0 δ b (.str t)) (ht : (t.length == 0) = false) (hz : s.length ≤ sizeLine) (hs : starEach [b] X.env = [(false, eval b X.env)] := by rfl) (hbase : attributeBase a "partition" X.env (eval a X.env) = eval a X.env := by rfl) (hline : (apos.endLine == pos.line) = true := by rfl) :
    XE X H0 δ (.Call (.Attribute a "partition" apos) [b] [] pos) (.tuple [.str (Txt.partition s t).1, .str (Txt.partition s t).2.1, .str (Txt.partition s t).2.2]) := by
  obtain ⟨ta, a1, a2⟩ := ha
  obtain ⟨tb, b1, b2⟩ := hb
  refine ⟨_, pe_partition a1 b1 hs hbase hline, fun σ H S Q q => a2 σ H S _ fun v H1 e1 i1 => ⟨⟨s, i1.strV⟩, b2 σ H1 (S.mono e1) _ fun w H2 e2 i2 => ⟨s, t, i1.strV, by rw [i2.strV], ht, hz, fun p hp => ?_⟩⟩⟩
  have e3 : Ex H2 (upd H2 p (.tup [.str (Txt.partition s t).1, .str (Txt.partition s t).2.1, .str (Txt.partition s t).2.2])) := Evl.Ex.new hp
  exact q _ _ ((e1.trans e2).trans e3) (.tup (Evl.st_of upd_same) (.cons (.str _) (.cons (.str _) (.cons (.str _) .nil))))
theorem xe_join {apos : Pos} {ts : List Str} (ha : XE X H0 δ a (.str s)) (hb : XE X H0 δ b (.list (ts.map .str))) (hz : (ts.map (·.length)).sum + ts.length * s.length ≤ 16777216) (hs : starEach [b] X.env = [(false, eval b X.env)] := by rfl) (hbase : attributeBase a "join" X.env (eval a X.env) = eval a X.env := by rfl) (hline : (apos.endLine == pos.line) = true := by rfl) :
    XE X H0 δ (.Call (.Attribute a "join" apos) [b] [] pos) (.str (Txt.join s ts)) := by
  obtain ⟨ta, a1, a2⟩ := ha
  obtain ⟨tb, b1, b2⟩ := hb
  refine ⟨_, pe_join a1 b1 hs hbase hline, fun σ H S Q q => a2 σ H S _ fun v H1 e1 i1 => ⟨⟨s, i1.strV⟩, b2 σ H1 (S.mono e1) _ fun w H2 e2 i2 => ?_⟩⟩
  obtain ⟨r, vs, rfl, h1, h2⟩ := i2.lstV
  rw [texts_v h2] at h1
  exact ⟨s, r, ts, i1.strV, rfl, .inl h1, hz, q _ _ (e1.trans e2) (.str _)⟩
theorem xe_sindex {apos : Pos} {rs : List Nat} {r : Nat} (ha : XE X H0 δ a (.str s)) (hb : XE X H0 δ b (.str t)) (ho : Builtin.Str.occurrences s t 0 s.length 1 = r :: rs) (hs : starEach [b] X.env = [(false, eval b X.env)] := by rfl) (hbase : attributeBase a "index" X.env (eval a X.env) = eval a X.env := by rfl) (hline : (apos.endLine == pos.line) = true := by rfl) :
    XE X H0 δ (.Call (.Attribute a "index" apos) [b] [] pos) (.int (r : Nat)) := by
  obtain ⟨ta, a1, a2⟩ := ha
  obtain ⟨tb, b1, b2⟩ := hb
  exact ⟨_, pe_m1 F.slot_str_index F.type_str_index mt_sindex a1 b1 hs hbase hline, fun σ H S Q q => a2 σ H S _ fun v H1 e1 i1 => ⟨⟨s, i1.strV⟩, b2 σ H1 (S.mono e1) _ fun w H2 e2 i2 => ⟨s, t, r, rs, i1.strV, by rw [i2.strV], ho, q _ _ (e1.trans e2) (.int _)⟩⟩⟩
end
theorem kt_int_int : kitB "int" "int" = some true := by decide +kernel
theorem kt_int_bool : kitB "int" "bool" = some false := by decide +kernel
theorem kt_bool_int : kitB "bool" "int" = some true := by decide +kernel
theorem kt_bool_bool : kitB "bool" "bool" = some true := by decide +kernel
theorem kt_NoneType_int : kitB "NoneType" "int" = some false := by decide +kernel
theorem kt_str_int : kitB "str" "int" = some false := by decide +kernel
theorem kt_tuple_int : kitB "tuple" "int" = some false := by decide +kernel
theorem kt_dict_int : kitB "dict" "int" = some false := by decide +kernel
theorem kt_list_int : kitB "list" "int" = some false := by decide +kernel
theorem kt_tuple_tuple : kitB "tuple" "tuple" = some true := by decide +kernel
theorem kt_str_str : kitB "str" "str" = some true := by decide +kernel
theorem kt_list_list : kitB "list" "list" = some true := by decide +kernel
theorem kt_NoneType_list : kitB "NoneType" "list" = some false := by decide +kernel
theorem kt_list_tuple : kitB "list" "tuple" = some false := by decide +kernel
theorem kit_self {K : PySem.W.Frag} {C : Addr} : PySem.W.kitOne K (.ref C) (.ref C) = some true := by
  unfold PySem.W.kitOne
  rw [if_pos (by simp)]
theorem kit_ve {K : PySem.W.Frag} {C : Addr} (h : PySem.W.subIn K (.ref C) (.type "ValueError") = some true) : PySem.W.kitOne K (.ref C) (.type "ValueError") = some true := by
  unfold PySem.W.kitOne PySem.W.kitCls
  rw [if_neg (by simp)]
  dsimp only
  rw [if_pos (by decide +kernel)]
  exact h
theorem exm_of {K : PySem.W.Frag} {C B : Addr} (h1 : PySem.W.subIn K (.ref B) (.type "BaseException") = some true) (h2 : PySem.W.isClsIn K B = true) (h3 : PySem.W.typeIn K (.ref B) = some (.type "type")) (h4 : PySem.W.subIn K (.ref C) (.ref B) = some true) : PySem.W.exmOne K (.ref C) (.ref B) = some true := by
  have h2' : (PySem.W.clsIn K B).isSome = true := h2
  unfold PySem.W.exmOne PySem.W.kitCls
  rw [if_pos (by rw [h1]; rfl)]
  dsimp only
  rw [if_pos (by rw [h2', h3]; rfl)]
  exact h4
/-- the names of Python's own that the module leaves alone -/
structure Bi (mg : Str → Option Value) : Prop where
  len : mg "len" = none
  isinstance : mg "isinstance" = none
  int : mg "int" = none
  bool : mg "bool" = none
  tuple : mg "tuple" = none
  str : mg "str" = none
  list : mg "list" = none
  abs : mg "abs" = none
  max : mg "max" = none
  min : mg "min" = none
  range : mg "range" = none
  reversed : mg "reversed" = none
  ValueError : mg "ValueError" = none
theorem exc_at {K : PySem.W.Frag} {h : Heap} {mg : Str → Option Value} {x : Str} {C : Addr} (X : K.In h) (G : h.Ns mainGlobals mg) (a : PySem.W.nsIn K mainGlobals x = some (some (.ref C)))
    (q : PySem.W.excIn K C [.type "ValueError", .type "Exception", .type "BaseException", .type "object"] "ValueError.__new__" = true) (k : PySem.W.keepIn K (.ref C) = true) (s : PySem.W.subIn K (.ref C) (.type "BaseException") = some true) (t : PySem.W.typeIn K (.ref C) = some (.type "type")) : ExcAt K mg x C := ⟨PySem.W.mg_of X G a, q, k, s, t⟩
theorem noExc {P : Program} {w : World} {H : Hp} {s : Shared} {e : Value} {s' : Shared} (h : L2.CX P w [] H s (fun _ _ _ => False) e s') : False := by
  obtain ⟨_, _, _, _, _, _, _, _, _, _, _, _, z⟩ := h
  exact z
end NF
namespace NF
open PySem PySem.Spec L2
open Evl (Ex)
open PyProof.Rows (envOfC)
/-! ### list.count of truth values -/
def eqb (k : Bool) (v : Value) : Bool := match v with
  | .bool n => n == k
  | _ => false
def rCntB (K : PySem.W.Frag) : V → List V → Hp → VK → Prop := fun x xs H Q => ∃ (p : Addr) (ns : List Bool) (k : Bool), x = .ref p ∧ xs = [.bl k] ∧ SqL K H p (ns.map V.bl) ∧ Q (.int (ns.count k : Nat)) H
theorem bools_v : ∀ {ns : List Bool} {us : List Value}, Vals (ns.map V.bl) us → us = ns.map Value.bool
  | [], us, h => by cases h; rfl
  | n :: ns, us, h => by
    cases h with
    | cons h1 h2 => rw [show _ = Value.bool n from h1, bools_v h2]; rfl
theorem eqb_count (k : Bool) : ∀ ns : List Bool, (ns.map Value.bool).countP (eqb k) = ns.count k
  | [] => rfl
  | n :: ns => by rw [List.map_cons, List.countP_cons, List.count_cons, eqb_count k ns]; rfl
theorem mt_countB {X : Cx} : MtR X "list.count" (rCntB X.K) := by
  intro pins s σ H x xs v us Q I rx rxs h
  obtain ⟨p, ns, k, rfl, rfl, hs, q⟩ := h
  cases rx
  obtain ⟨u, rfl, ru⟩ := rxs.one
  obtain rfl : u = Value.bool k := ru
  obtain ⟨its, rv, ⟨⟨cls, dd, data, sl⟩, n, ho, hc, hdn, hd⟩, hlen⟩ := I.list hs
  simp only at hc hd
  subst hc hd
  have hi := bools_v rv
  refine PySem.call_meets PySem.F.slot_list_count ⟨_, ho, rfl⟩ PySem.F.entry_list_count (PySem.F.args_list_count_2 _ _) (SeqAt.list_countAt p its.toArray n dd sl (.bool k) (eqb k)) ⟨ho, fun y hy => ?_, ?_⟩
  · have hy' : y ∈ its := by simpa using hy
    rw [hi] at hy'
    obtain ⟨b, _, rfl⟩ := List.mem_map.mp hy'
    exact SeqAt.EqAt.bool_bool b k
  · have ec : its.toArray.toList.countP (eqb k) = ns.count k := by
      rw [hi]
      exact eqb_count k ns
    refine ⟨.int (ns.count k : Nat), H, I.tok _, ⟨s.toks, ?_⟩, q⟩
    show Value.int ((its.toArray.toList.countP (eqb k) : Nat) : Int) s.toks = Value.int ((ns.count k : Nat) : Int) s.toks
    rw [ec]
section
variable {X : Cx} {H0 : Hp} {δ : List Sl} {D : Ends} {a b c e : Expr} {es : List Expr} {rest body : List Stmt} {pos p p2 p3 : Pos} {x y z : PyData} {xs ys ds : List PyData} {i j : Int} {s t : Str} {k l : Bool} {nm nm2 nm3 : Str} {m : Nat}
theorem blv : ∀ {bs : List Bool} {K : PySem.W.Frag} {H : Hp} {vs : List V}, IsAll K H vs (bs.map .bool) → vs = bs.map V.bl
  | [], _, _, vs, h => by cases h; rfl
  | b :: bs, K, H, vs, h => by
    cases h with
    | cons h1 h2 => rw [h1.blV, blv h2]; rfl
theorem xe_countB {apos : Pos} {bs : List Bool} (ha : XE X H0 δ a (.list (bs.map .bool))) (hb : XE X H0 δ b (.bool k)) (hbase : attributeBase a "count" X.env (eval a X.env) = eval a X.env := by rfl)
    (hfew : ((backTo pos (starEach (b :: []) X.env)).all (fun x => !x.1) && (backToKw pos (keywordEach [] X.env)).all (fun x => x.1.isSome) && decide ((b :: []).length + ([] : List Keyword).length + (if ([] : List Keyword).isEmpty then 0 else 1) < 30)) = true := by rfl)
    (hline : (apos.endLine == pos.line) = true := by rfl) (hs : starEach (b :: []) X.env = (false, eval b X.env) :: starEach [] X.env := by rfl) (hplain : (backTo pos (starEach [] X.env)).any (·.1) = false := by rfl) :
    XE X H0 δ (.Call (.Attribute a "count" apos) [b] [] pos) (.int (bs.count k : Nat)) := by
  obtain ⟨ta, a1, a2⟩ := ha
  obtain ⟨tb, b1, b2⟩ := hb
  refine ⟨_, pe_bm PySem.F.plainAttrs_list PySem.F.slot_list_count PySem.F.type_list_count mt_countB a1 (pa_cons b1 pa_nil hs) hbase hfew hline hs hplain, fun σ H S Q q => a2 σ H S _ fun v H1 e1 i1 => ?_⟩
  obtain ⟨r, vs, rfl, h1, h2⟩ := i1.lstV
  have ev := blv h2
  subst ev
  refine ⟨.inl ⟨rfl, _, h1⟩, b2 σ H1 (S.mono e1) _ fun w H2 e2 i2 => ⟨r, bs, k, rfl, by rw [i2.blV], Evl.ex_l e2 h1, q _ H2 (e1.trans e2) (.int _)⟩⟩

/-! ### a def called with the exception that is handled -/
structure FnX (P : Program) (w : World) (K : PySem.W.Frag) (mg : Str → Option Value) (base : Heap) (x : Str) (k : Nat) (ps : List Str) (C : Addr) (b : Bool) : Prop where
  ex : ∃ f fd, mg x = some (.ref f) ∧ PySem.W.keepIn K (.ref f) = true ∧ Binds K fd ps [] ∧ ps.length = 1 ∧
    ∀ (A : Around) (outer : List Env) (s : Shared) (H : Hp) (args : Args) (us : List Value) (Q : VK) (q : Addr × Obj), L2H.RoomH k A → L2H.PinOk outer H s q → Zc (.ref C) none q.2 → (∃ vs, q.2.data = .fields vs) → Env0 P w K mg base A outer s H →
      BindsTo s fd args (ps.zip us) → Vals [.ref q.1] us → (∀ H', Ex H H' → Q (.bl b) H') → codeAny (model P w) A (.call (.ref f) args) (CR (L2.CX P w) outer P w H s Q E0) s
theorem fnx_at {P : Program} {w : World} {K : PySem.W.Frag} {mg : Str → Option Value} {base : Heap} {x : Str} {st : Stmt} {N ps : List Str} {k : Nat} {C : Addr} {b : Bool} (T : DefAt K mg x st ps) (S : FnScope N ps (defScope st)) (hps : ps.length = 1)
    (hb : ∀ (f : Addr) (cdv : Value) (A : Around) (outer : List Env) (s : Shared) (H : Hp) (Q : VK) (q : Addr × Obj), L2H.RoomH k (A.deeper (envOfC x (defScope st) s.heap.objs.size f cdv)) → Zc (.ref C) none q.2 → (∃ vs, q.2.data = .fields vs) → Post K H Q E0 (.d (.bool b)) →
      XS (L2H.cxH (L2.CX P w) P w K mg base N x (defScope st) f cdv A outer s H E0 q) H (.v (.ref q.1) :: List.replicate (N.length - 1) .u) { nx := fun _ H' => Q .non H', rt := Q } (defBody st)) : FnX P w K mg base x (k + 1) ps C b := by
  obtain ⟨f, fd, F, hm, hbi⟩ := T.ex
  refine ⟨f, fd, hm, F.kp, hbi, hps, fun A outer s H args us Q q hr hpin hz hf e0 hbt r hQ => ?_⟩
  obtain ⟨oc, od, kV, doc, pm, an, cdv, ct, osl, rfl, lk, hcd⟩ := F.ex
  have hk0 : ∀ b o, base.get? b = some o → s.heap.get? b = some o := fun b o h => (e0.bs b o h).1
  have KX : K.In s.heap := e0.mod.kin.keeps hk0
  have hkinds : ∀ y ∈ ps.zip us, (defScope st).names.lookup y.1 = some .local ∨ ((defScope st).names.lookup y.1 = some .cell ∧ ((PySem.cellsFrom (s.heap.objs.size + 1) (defScope st).names []).lookup y.1).isSome = true) := fun y hy => by
    rcases S.par y.1 (List.of_mem_zip (a := y.1) (b := y.2) hy).1 with h | h
    · exact .inl h
    · exact .inr ⟨h, PySem.W.cellsFrom_some _ _ _ (.inl h)⟩
  refine PySem.codeAny_call_function hr.depth (KX _ _ lk) rfl S.co S.gen rfl (PySem.W.codeRec_of KX hcd) (hbt _ _ _ _ ?_)
  refine PySem.wpAny_newFunctionEnv_cells S.kind hkinds fun env he s1 hx => ?_
  subst he
  refine ⟨(e0.mod.nolimit.keeps hk0).keeps hx.toInCall.keep, codeAny_func ?_⟩
  have I := L2H.inv_startH (CX := L2.CX P w) (E := E0) S hpin e0 (by rw [hps]; rfl) r hx
  have S0 : SOk K H (L2.start N [V.ref q.1]) H (.v (.ref q.1) :: List.replicate (N.length - 1) .u) := by
    refine ⟨Evl.Ex.refl H, by simp [L2.start], fun i s e => ?_, fun i j p xs ys a1 => ?_⟩
    · cases i with
      | zero =>
        have e' : Sl.v (.ref q.1) = s := by simpa using e
        subst e'
        rfl
      | succ i =>
        have e' := List.mem_of_getElem? (show (List.replicate (N.length - 1) Sl.u)[i]? = some s by simpa using e)
        rw [(List.mem_replicate.mp e').2]
        trivial
    · have a2 := List.mem_of_getElem? a1
      rcases List.mem_cons.mp a2 with a3 | a3
      · cases a3
      · have := (List.mem_replicate.mp a3).2
        cases this
  obtain ⟨t, ht, hq⟩ := hb f cdv A outer s H Q q (hr.deeper _) hz hf (fun v H' ex i => by rw [i.blV]; exact hQ H' ex) _ _ S0
  refine wpAny_mono (ht.run [] s1 _ H _ I hq) (fun fl s' hs => ?_) fun e s' hs => hs
  cases fl with
  | ret u =>
    obtain ⟨v, σ', H', J, rv, q'⟩ := hs
    exact ⟨v, H', J.os, J.bare, J.base, J.hok, rv, q'⟩
  | next =>
    obtain ⟨σ', H', J, q'⟩ := hs
    exact ⟨V.non, H', J.os, J.bare, J.base, J.hok, rfl, q'⟩
  | brk =>
    obtain ⟨_, _, _, q'⟩ := hs
    exact False.elim q'
  | cont =>
    obtain ⟨_, _, _, q'⟩ := hs
    exact False.elim q'
theorem xe_callX (n : Nat) {ad C : Addr} {oe : Obj} {ps : List Str} (G : FnX X.prog X.w X.K X.mg X.base nm m ps C k) (hr : L2H.RoomH m X.A) (hs : δ[n]? = some (.v (.ref ad))) (hz : Zc (.ref C) none oe) (hf : ∃ vs, oe.data = .fields vs) (hp : (ad, oe) ∈ X.pn) (hg : Gl X nm := by rfl)
    (hN : X.N[n]? = some nm2 := by rfl) (hv : Vis X.env.scope nm2 := by first | exact Or.inl rfl | exact Or.inr (Or.inl rfl) | exact Or.inr (Or.inr rfl)) (hd : (nm2 == ("__debug__" : Str)) = false := by decide) (hcd : (nm2 == ("__classdict__" : Str)) = false := by decide) (hdb : (nm == ("__debug__" : Str)) = false := by decide)
    (he : starEach (.Name nm2 p2 :: []) X.env = (false, eval (.Name nm2 p2) X.env) :: starEach [] X.env := by rfl) (hpl : (backTo pos (starEach [] X.env)).any (·.1) = false := by rfl) : XE X H0 δ (.Call (.Name nm p) [.Name nm2 p2] [] pos) (.bool k) := by
  obtain ⟨f, fd, hm, hk, hb, hl, run⟩ := G.ex
  refine ⟨fun σ H Q => σ[n]? = some (some (.ref ad)) ∧ ∀ H', Ex H H' → Q (.bl k) H', ⟨fun pins s σ H Q I h => ?_⟩, fun σ H S Q q => ⟨S.sl n _ hs, fun H' ex => q _ H' ex (.bl _)⟩⟩
  obtain ⟨hσ, hQ⟩ := h
  have ha : PA X [.Name nm2 p2] (tCons (tVar n) tNil) := pa_cons (pe_var hN hv hd hcd) pa_nil he
  refine wpAny_Call_Name_kw (ld_glob I hg hm ?_ hdb)
  refine PySem.W.callWith_K (h₀ := X.base) I.ok.mod.kin hk (thn (ha.run pos pins s σ H (fun vs H1 => vs = [V.ref ad] ∧ H1 = H) I ⟨_, hσ, rfl, rfl⟩) fun us s1 hh => ?_) he hpl
  obtain ⟨vs, H1, I1, r, ev, eH⟩ := hh
  subst ev eH
  refine ⟨I1.kIn, ?_⟩
  have P1 := I1.pin (ad, oe) (List.mem_append_left _ hp)
  have hpin : L2H.PinOk X.stack H1 s1 (ad, oe) := ⟨P1.1, P1.2.1, fun hm => (List.mem_cons.mp (I1.stkSub ad hm)).elim P1.2.2.1 P1.2.2.2.1, P1.2.2.2.2⟩
  have b1 := hb s1 us I1.kIn (by rw [List.append_nil, ← r.length, hl]; rfl)
  rw [List.append_nil] at b1
  refine wpAny_call (codeAny_mono (run X.A X.stack s1 H1 ⟨us, []⟩ us Q (ad, oe) hr hpin hz hf I1.env0 b1 r hQ) fun r s' hq => ?_)
  cases r with
  | error e => exact (noExcX hq).elim
  | ok fl =>
    cases fl with
    | ret u => exact I1.after hq
    | next => exact False.elim hq
    | brk => exact False.elim hq
    | cont => exact False.elim hq
where
  noExcX {P : Program} {w : World} {outer : List Env} {H : Hp} {s : Shared} {e : Value} {s' : Shared} (h : L2.CX P w outer H s E0 e s') : False := by
    obtain ⟨_, _, _, _, _, _, _, _, _, _, _, _, z⟩ := h
    exact z
/-- a parameter, whatever it bears -/
theorem xe_arg (n : Nat) (hs : δ[n]? = some (toSl x)) (hN : X.N[n]? = some nm := by rfl) (hv : Vis X.env.scope nm := by first | exact Or.inl rfl | exact Or.inr (Or.inl rfl) | exact Or.inr (Or.inr rfl)) (hd : (nm == ("__debug__" : Str)) = false := by decide) (hcd : (nm == ("__classdict__" : Str)) = false := by decide) : XE X H0 δ (.Name nm pos) x := by
  cases x with
  | list xs => exact xe_varR n hs hN hv hd hcd
  | none => exact xe_var n hs hN hv hd hcd
  | bool b => exact xe_var n hs hN hv hd hcd
  | int b => exact xe_var n hs hN hv hd hcd
  | str b => exact xe_var n hs hN hv hd hcd
  | tuple b => exact xe_var n hs hN hv hd hcd
  | dict b => exact xe_var n hs hN hv hd hcd
theorem xe_dict0 : XE X H0 δ (.Dict [] [] pos) (.dict []) := ⟨_, pe_dnewK, fun σ H S Q q d hd => q _ _ (Evl.Ex.new hd) (.dct upd_same)⟩
theorem roomX {A : Around} {k : Nat} {v : Option Value} (h : Room k A) : L2H.RoomH k (A.mark v) := ⟨h.dp, h.un⟩
end
end NF
namespace NF
open PySem PySem.Spec L2
open Evl (Ex)
open PyProof.Rows (envOfC)
section
variable {X : Cx} {H0 : Hp} {δ : List Sl} {a b c : Expr} {i j k : Int} {pos : Pos}
/-- a < b < c -/
theorem xe_chain (ha : XE X H0 δ a (.int i)) (hb : XE X H0 δ b (.int j)) (hc : XE X H0 δ c (.int k)) (hm : lastMarks [.Lt, .Lt] [b, c] = false := by with_unfolding_all rfl) : XQ X H0 δ (.Compare a [.Lt, .Lt] [b, c] pos) (decide (i < j) && decide (j < k)) := by
  obtain ⟨ta, a1, a2⟩ := ha
  obtain ⟨tb, b1, b2⟩ := hb
  obtain ⟨tc, c1, c2⟩ := hc
  refine ⟨_, pe_chain op_lt op_lt a1 b1 c1 hm, pt_chain op_lt op_lt a1 b1 c1 hm, fun σ H S Q q => a2 σ H S _ fun v H1 e1 i1 => b2 σ H1 (S.mono e1) _ fun w H2 e2 i2 => ?_⟩
  refine ⟨i, j, i1.intV, i2.intV, decide (i < j), rfl, ?_⟩
  cases hd : decide (i < j) with
  | false =>
    rw [if_neg Bool.false_ne_true]
    rw [hd] at q
    exact q _ H2 (e1.trans e2) (.bl _)
  | true =>
    rw [if_pos rfl]
    rw [hd] at q
    exact c2 σ H2 ((S.mono e1).mono e2) _ fun z H3 e3 i3 => ⟨j, k, i2.intV, i3.intV, q _ H3 ((e1.trans e2).trans e3) (.bl _)⟩
/-- an if whose test is got to know in more than one way -/
theorem xs_ifE {e : Expr} {sa sb rest : List Stmt} {D : Ends} (P : Bool → Prop) (h : ∃ k, XT X H0 δ e k ∧ P k) (ha : P true → XS X H0 δ { D with nx := wS X rest D } sa) (hb : P false → XS X H0 δ { D with nx := wS X rest D } sb) : XS X H0 δ D (.If e sa sb pos :: rest) := by
  obtain ⟨k, hk, hp⟩ := h
  exact xs_if hk (fun z => ha (z ▸ hp)) (fun z => hb (z ▸ hp))
end
def noR (δ : List Sl) : Bool := δ.all fun s => match s with
  | .R _ => false
  | _ => true
/-- what is fresh towards a later heap is so towards an earlier one -/
theorem SOk.base {K : PySem.W.Frag} {H0 H1 H : Hp} {σ : St} {δ : List Sl} (e : Ex H0 H1) (S : SOk K H1 σ H δ) (hn : noR δ = true) : SOk K H0 σ H δ := by
  refine ⟨e.trans S.ex, S.len, fun i s h => ?_, S.apart⟩
  have k := S.sl i s h
  cases s with
  | u => trivial
  | d x => exact k
  | L p xs => obtain ⟨vs, h1, h2, h3, h4⟩ := k; exact ⟨vs, h1, h2, Evl.fresh_back e h3, h4⟩
  | R xs =>
    have := List.all_eq_true.mp hn _ (List.mem_of_getElem? h)
    cases this
  | v x => exact k
end NF
namespace NF
open PySem PySem.Spec L2
open Evl (Ex)
open PyProof.Rows (envOfC)
section
variable {X : Cx} {H0 : Hp} {δ : List Sl} {e f : Expr} {s t k1 k2 v1 v2 : Str} {apos cpos dpos q1 q2 q3 q4 : Pos}
theorem m2_mk {o : Expr} {m : Str} (base : attributeBase o m X.env (eval o X.env) = eval o X.env)
    (few : ((backTo cpos (starEach [e, f] X.env)).all (fun x => !x.1) && (backToKw cpos (keywordEach [] X.env)).all (fun x => x.1.isSome) && decide (([e, f] : List Expr).length + ([] : List Keyword).length + (if ([] : List Keyword).isEmpty then 0 else 1) < 30)) = true)
    (line : (apos.endLine == cpos.line) = true) (trees : backTo cpos (starEach [e, f] X.env) = [(false, eval e X.env), (false, eval f X.env)]) : M2 X o m apos e f cpos := ⟨base, few, line, trees⟩
/-- {k1: v1, k2: v2}.get(e, f) over texts -/
theorem xe_get2 {n1 n2 n3 n4} (hu : X.A.units + 1 < cLine) (he : XE X H0 δ e (.str s)) (hf : XE X H0 δ f (.str t)) (h12 : k1 ≠ k2)
    (m : M2 X (.Dict [some (.Constant (.str k1) n1 q1), some (.Constant (.str k2) n2 q2)] [.Constant (.str v1) n3 q3, .Constant (.str v2) n4 q4] dpos) "get" apos e f cpos := by exact ⟨rfl, rfl, rfl, rfl⟩) :
    XE X H0 δ (.Call (.Attribute (.Dict [some (.Constant (.str k1) n1 q1), some (.Constant (.str k2) n2 q2)] [.Constant (.str v1) n3 q3, .Constant (.str v2) n4 q4] dpos) "get" apos) [e, f] [] cpos) (.str (if s = k1 then v1 else if s = k2 then v2 else t)) := by
  obtain ⟨te, e1, e2⟩ := he
  obtain ⟨tf, f1, f2⟩ := hf
  refine ⟨_, pe_dget2 hu (pe_disp (pps_cons pe_str pe_str (pps_cons pe_str pe_str pps_nil)) rfl rfl (by simp) (by simp)) e1 f1 m, fun σ H S Q q => ?_⟩
  intro p hp
  refine ⟨upd_same, [(.inr k1, .str v1), (.inr k2, .str v2)], rfl, Nat.le_of_ble_eq_true rfl, p, rfl, ?_, ?_⟩
  · exact .inl ⟨_, .inl upd_same⟩
  · have ex0 : Ex H (upd (upd H p (.dK [])) p (.dK (mergeK [] [(.inr k1, V.str v1), (.inr k2, V.str v2)]))) := fun a o ha => by
      have : a ≠ p := fun z => by rw [z, hp] at ha; cases ha
      rw [upd_ne this, upd_ne this]
      exact ha
    refine e2 σ _ (S.mono ex0) _ fun v H1 x1 i1 => f2 σ H1 ((S.mono ex0).mono x1) _ fun w' H2 x2 i2 => ?_
    have hd : H2 p = some (.dK (mergeK [] [(.inr k1, V.str v1), (.inr k2, V.str v2)])) := x2 _ _ (x1 _ _ upd_same)
    rw [i1.strV]
    refine ⟨_, DGet.k (k := .inr s) hd, ?_⟩
    have hm : mergeK [] [(.inr k1, V.str v1), (.inr k2, V.str v2)] = [(.inr k1, V.str v1), (.inr k2, V.str v2)] := by
      unfold mergeK
      simp [putK, h12]
    rw [hm]
    refine q _ H2 ((ex0.trans x1).trans x2) ?_
    by_cases z1 : s = k1
    · subst z1
      rw [valV_pos rfl, if_pos rfl]
      exact .str _
    · rw [valV_neg (by intro z; injection z with z; exact z1 z.symm), if_neg z1]
      by_cases z2 : s = k2
      · subst z2
        rw [valV_pos rfl, if_pos rfl]
        exact .str _
      · rw [valV_neg (by intro z; injection z with z; exact z2 z.symm), if_neg z2, valV_nil]
        exact i2
/-- a global text -/
theorem xe_globS {nm g : Str} {tk : Tok} {pos : Pos} (hm : X.mg nm = some (.str g tk)) (hg : Gl X nm := by rfl) (hd : (nm == ("__debug__" : Str)) = false := by decide) : XE X H0 δ (.Name nm pos) (.str g) :=
  ⟨_, pe_glob (v := .str g) hg hm ⟨tk, rfl⟩ hd, fun σ H S Q q => q _ H (Evl.Ex.refl H) (.str _)⟩
/-- a list as a test -/
theorem xt_list {xs : List PyData} (h : XE X H0 δ e (.list xs)) (he : ∀ whole, isTrue e X.env whole = (do let v ← whole; standAt e.pos; holding [v] (truthy v)) := by intro _; rfl) : XT X H0 δ e (!xs.isEmpty) := by
  obtain ⟨te, e1, e2⟩ := h
  refine ⟨_, pt_truth e1 he, fun σ H S Q q => e2 σ H S _ fun v H1 x1 i1 => ?_⟩
  obtain ⟨r, vs, rfl, h1, h2⟩ := i1.lstV
  refine ⟨!xs.isEmpty, .inl ⟨vs, h1, ?_⟩, q H1 x1⟩
  have := h2.length
  cases vs <;> cases xs <;> simp_all
end
end NF
namespace NF
open L2
def isInt : PySem.PyData → Bool
  | .int _ => true
  | _ => false
/-! ### sizes -/
def Bd (n : Nat) (i : Int) : Prop := i.natAbs < 2 ^ n
instance (n : Nat) (i : Int) : Decidable (Bd n i) := inferInstanceAs (Decidable (i.natAbs < 2 ^ n))
theorem Bd.mono {n m : Nat} {i : Int} (h : Bd n i) (hm : n ≤ m) : Bd m i := Nat.lt_of_lt_of_le h (Nat.pow_le_pow_right (by decide) hm)
theorem Bd.mul {n m : Nat} {i j : Int} (h : Bd n i) (h' : Bd m j) : Bd (n + m) (i * j) := wide_lt h h'
theorem two_pow_succ (n : Nat) : 2 ^ (n + 1) = 2 ^ n + 2 ^ n := by rw [Nat.pow_succ]; omega
theorem Bd.add {n m : Nat} {i j : Int} (h : Bd n i) (h' : Bd m j) : Bd (max n m + 1) (i + j) := by
  have h1 := Bd.mono h (Nat.le_max_left n m)
  have h2 := Bd.mono h' (Nat.le_max_right n m)
  unfold Bd at *
  rw [two_pow_succ]
  omega
theorem Bd.neg {n : Nat} {i : Int} (h : Bd n i) : Bd n (-i) := by unfold Bd at *; omega
theorem Bd.sub {n m : Nat} {i j : Int} (h : Bd n i) (h' : Bd m j) : Bd (max n m + 1) (i - j) := by
  have := h.add h'.neg
  rw [Int.sub_eq_add_neg]
  exact this
theorem Bd.of_le {n : Nat} {i j : Int} (h : Bd n j) (h0 : 0 ≤ i) (h1 : i ≤ j) : Bd n i := by unfold Bd at *; omega
theorem Bd.of_abs {n : Nat} {i j : Int} (h : Bd n j) (h0 : i.natAbs ≤ j.natAbs) : Bd n i := Nat.lt_of_le_of_lt h0 h
theorem Bd.lt {n : Nat} {i : Int} (h0 : 0 ≤ i) (h1 : i < 2 ^ n) : Bd n i := by
  unfold Bd
  have : ((2 ^ n : Nat) : Int) = 2 ^ n := by simp
  omega
theorem Bd.div {n : Nat} {i j : Int} (h : Bd n i) (h0 : 0 ≤ i) (hj : 0 < j) : Bd n (i / j) := h.of_le (Int.ediv_nonneg h0 (by omega)) (Int.ediv_le_self j h0)
theorem Bd.mod {n : Nat} {i j : Int} (h : Bd n j) (hj : 0 < j) : Bd n (i % j) := h.of_le (Int.emod_nonneg i (by omega)) (Int.le_of_lt (Int.emod_lt_of_pos i hj))
theorem mulx {n m : Nat} {i j : Int} (h : Bd n i) (h' : Bd m j) (hn : n + m ≤ 134217728) : CMulX i j := by
  have h1 := PyProof.Rows.intBits_le h
  have h2 := PyProof.Rows.intBits_le h'
  unfold CMulX
  omega
theorem divw {n : Nat} {i j : Int} (hj : 0 < j) (h : Bd n j) (hn : n ≤ 8999) : CDivW i j := wide_div hj (h.mono (Nat.le_succ n)) (Nat.succ_pos n) (by omega)
theorem Bd.nat {n : Nat} {i : Nat} (h : i < 2 ^ n) : Bd n (i : Int) := by unfold Bd; simpa using h

/-! ### gcd -/
theorem gcd_step (a b : Int) : Int.gcd b (a % b) = Int.gcd a b := by
  rw [Int.emod_def, Int.gcd_sub_mul_left_right, Int.gcd_comm]
/-- what a pair stands for, in lowest parts -/
def gu (u l : Int) : Int := u / (Int.gcd u l : Int)
def gl (u l : Int) : Int := l / (Int.gcd u l : Int)
structure Fr (u l : Int) : Prop where
  u0 : 0 ≤ u
  l1 : 1 ≤ l
  g : Int.gcd u l = 1
theorem gcd_pos' {u l : Int} (h : 1 ≤ l) : 0 < (Int.gcd u l : Int) := by
  have := Int.gcd_pos_of_ne_zero_right u (show l ≠ 0 by omega)
  omega
theorem gu_mul (u l : Int) : gu u l * (Int.gcd u l : Int) = u := Int.ediv_mul_cancel (Int.gcd_dvd_left u l)
theorem gl_mul (u l : Int) : gl u l * (Int.gcd u l : Int) = l := Int.ediv_mul_cancel (Int.gcd_dvd_right u l)
theorem gl_pos {u l : Int} (h : 1 ≤ l) : 1 ≤ gl u l := by
  have h1 := gl_mul u l
  have h2 := gcd_pos' (u := u) h
  by_cases z : 1 ≤ gl u l
  · exact z
  · have h3 : gl u l * (Int.gcd u l : Int) ≤ 0 := Int.mul_nonpos_of_nonpos_of_nonneg (by omega) (by omega)
    omega
theorem gu_nonneg {u l : Int} (h : 0 ≤ u) (hl : 1 ≤ l) : 0 ≤ gu u l := Int.ediv_nonneg h (Int.le_of_lt (gcd_pos' hl))
theorem fr_of {u l : Int} (hu : 0 ≤ u) (hl : 1 ≤ l) : Fr (gu u l) (gl u l) :=
  ⟨gu_nonneg hu hl, gl_pos hl, Int.gcd_ediv_gcd_ediv_gcd (by have := gcd_pos' (u := u) hl; omega)⟩
theorem gu_gl {u l : Int} (hl : 1 ≤ l) : gu u l * l = u * gl u l := by
  have h1 := gu_mul u l
  have h2 := gl_mul u l
  have h3 := gcd_pos' (u := u) hl
  generalize (Int.gcd u l : Int) = g at *
  have e : gu u l * l * g = u * gl u l * g := by
    have e1 : gu u l * l * g = (gu u l * g) * l := by rw [Int.mul_assoc, Int.mul_comm l g, ← Int.mul_assoc]
    have e2 : u * gl u l * g = u * (gl u l * g) := by rw [Int.mul_assoc]
    rw [e1, e2, h1, h2]
  exact Int.eq_of_mul_eq_mul_right (by omega) e
theorem gu_le {u l : Int} (hu : 0 ≤ u) : gu u l ≤ u := Int.ediv_le_self _ hu
theorem gl_le {u l : Int} (hl : 1 ≤ l) : gl u l ≤ l := Int.ediv_le_self _ (by omega)
theorem Bd.gu {n : Nat} {u l : Int} (h : Bd n u) (hu : 0 ≤ u) (hl : 1 ≤ l) : Bd n (gu u l) := h.of_le (gu_nonneg hu hl) (gu_le hu)
theorem Bd.gl {n : Nat} {u l : Int} (h : Bd n l) (hl : 1 ≤ l) : Bd n (gl u l) := h.of_le (by have := gl_pos (u := u) hl; omega) (gl_le hl)
theorem dvd_cop {u l m : Int} (h : Int.gcd u l = 1) (d : l ∣ u * m) : l ∣ m := by
  have := Int.dvd_gcd_mul_iff_dvd_mul.mpr d
  rw [Int.gcd_comm, h] at this
  simpa using this
/-- two fractions in lowest parts of the same value are the same -/
theorem Fr.eq {u l v m : Int} (h : Fr u l) (h' : Fr v m) (e : u * m = v * l) : u = v ∧ l = m := by
  have d1 : l ∣ m := by
    have : l ∣ u * m := e ▸ Int.dvd_mul_left v l
    exact dvd_cop h.g this
  have d2 : m ∣ l := by
    have : m ∣ v * l := e ▸ Int.dvd_mul_left u m
    exact dvd_cop h'.g this
  have el : l = m := Int.dvd_antisymm (by have := h.l1; omega) (by have := h'.l1; omega) d1 d2
  subst el
  exact ⟨Int.eq_of_mul_eq_mul_right (by have := h.l1; omega) e, rfl⟩
theorem Fr.gu {u l : Int} (h : Fr u l) : NF.gu u l = u := by unfold NF.gu; rw [h.g]; simp
theorem Fr.gl {u l : Int} (h : Fr u l) : NF.gl u l = l := by unfold NF.gl; rw [h.g]; simp
theorem ints_imm : ∀ ns : List Int, immAll (ns.map .int) = true
  | [] => rfl
  | n :: ns => by
    show (imm (.int n) && immAll (ns.map .int)) = true
    rw [ints_imm ns]
    rfl
end NF
namespace NF
open PySem L2
/-! ### paths -/
abbrev Run := Bool × Int
def wayS (b : Bool) : Str := if b = true then "right" else "left"
def runD (r : Run) : PyData := .tuple [.str (wayS r.1), .int r.2]
theorem div_bounds (a : Int) {b : Int} (hb : 1 ≤ b) : a / b * b ≤ a ∧ a < a / b * b + b := by
  have h1 := Int.emod_add_mul_ediv a b
  have h2 := Int.emod_nonneg a (show b ≠ 0 by omega)
  have h3 := Int.emod_lt_of_pos a (show 0 < b by omega)
  have h4 : b * (a / b) = a / b * b := Int.mul_comm _ _
  constructor <;> omega
/-- one run -/
theorem run_step {u l : Int} (hl : 1 ≤ l) (h : l < u) : 1 ≤ (u - 1) / l ∧ 1 ≤ u - (u - 1) / l * l ∧ u - (u - 1) / l * l ≤ l ∧ 2 * (u - (u - 1) / l * l) ≤ u := by
  obtain ⟨h1, h2⟩ := div_bounds (u - 1) hl
  have h3 : 1 ≤ (u - 1) / l := by
    have := Int.ediv_le_ediv (show 0 < l by omega) (show l ≤ u - 1 by omega)
    rw [Int.ediv_self (by omega)] at this
    exact this
  have h4 : 1 * l ≤ (u - 1) / l * l := Int.mul_le_mul_of_nonneg_right h3 (by omega)
  generalize (u - 1) / l * l = m at *
  refine ⟨h3, by omega, by omega, by omega⟩
def pathOf (u l : Int) : List Run :=
  if h : 1 ≤ u ∧ 1 ≤ l then
    if u = l then [] else if l < u then (true, (u - 1) / l) :: pathOf (u - (u - 1) / l * l) l else (false, (l - 1) / u) :: pathOf u (l - (l - 1) / u * u)
  else []
termination_by (u + l).toNat
decreasing_by
  · rename_i h2 h3
    have := run_step h.2 h3
    omega
  · rename_i h2 h3
    have := run_step h.1 (show u < l by omega)
    omega
theorem pathOf_top {u : Int} (h : 1 ≤ u) : pathOf u u = [] := by rw [pathOf]; simp
theorem pathOf_right {u l : Int} (hl : 1 ≤ l) (h : l < u) : pathOf u l = (true, (u - 1) / l) :: pathOf (u - (u - 1) / l * l) l := by
  rw [pathOf]
  rw [dif_pos ⟨by omega, hl⟩, if_neg (by omega), if_pos h]
theorem pathOf_left {u l : Int} (hl : 1 ≤ u) (h : u < l) : pathOf u l = (false, (l - 1) / u) :: pathOf u (l - (l - 1) / u * u) := by
  rw [pathOf]
  rw [dif_pos ⟨hl, by omega⟩, if_neg (by omega), if_neg (by omega)]
/-- by runs -/
theorem path_ind {C : Int → Int → Prop} (top : ∀ u, 1 ≤ u → C u u) (right : ∀ u l, 1 ≤ l → l < u → C (u - (u - 1) / l * l) l → C u l) (left : ∀ u l, 1 ≤ u → u < l → C u (l - (l - 1) / u * u) → C u l) : ∀ (n : Nat) (u l : Int), 1 ≤ u → 1 ≤ l → (u + l).toNat ≤ n → C u l := by
  intro n
  induction n with
  | zero => intro u l h1 h2 h3; omega
  | succ n ih =>
    intro u l h1 h2 h3
    by_cases e : u = l
    · subst e; exact top u h1
    · by_cases h : l < u
      · have s := run_step h2 h
        exact right u l h2 h (ih _ _ s.2.1 h2 (by omega))
      · have s := run_step h1 (show u < l by omega)
        exact left u l h1 (by omega) (ih _ _ h1 s.2.1 (by omega))
theorem path_rec {C : Int → Int → Prop} (top : ∀ u, 1 ≤ u → C u u) (right : ∀ u l, 1 ≤ l → l < u → C (u - (u - 1) / l * l) l → C u l) (left : ∀ u l, 1 ≤ u → u < l → C u (l - (l - 1) / u * u) → C u l) {u l : Int} (hu : 1 ≤ u) (hl : 1 ≤ l) : C u l := path_ind top right left _ u l hu hl (Nat.le_refl _)
/-- the ends: left upper, left lower, right upper, right lower -/
structure Ends4 where
  a : Int
  b : Int
  c : Int
  d : Int
def Ends4.go (s : Ends4) (r : Run) : Ends4 := if r.1 = true then ⟨s.a + r.2 * s.c, s.b + r.2 * s.d, s.c, s.d⟩ else ⟨s.a, s.b, s.c + r.2 * s.a, s.d + r.2 * s.b⟩
def endsFrom (s : Ends4) (p : List Run) : Ends4 := p.foldl Ends4.go s
def endsOf (p : List Run) : Ends4 := endsFrom ⟨0, 1, 1, 0⟩ p
structure Ends4.Nn (s : Ends4) : Prop where
  a : 0 ≤ s.a
  b : 0 ≤ s.b
  c : 0 ≤ s.c
  d : 0 ≤ s.d
structure Ends4.Le (s t : Ends4) : Prop where
  a : s.a ≤ t.a
  b : s.b ≤ t.b
  c : s.c ≤ t.c
  d : s.d ≤ t.d
theorem Ends4.Le.refl (s : Ends4) : s.Le s := ⟨Int.le_refl _, Int.le_refl _, Int.le_refl _, Int.le_refl _⟩
theorem Ends4.Le.trans {s t u : Ends4} (h : s.Le t) (k : t.Le u) : s.Le u := ⟨Int.le_trans h.a k.a, Int.le_trans h.b k.b, Int.le_trans h.c k.c, Int.le_trans h.d k.d⟩
theorem go_nn {s : Ends4} {r : Run} (h : s.Nn) (hr : 0 ≤ r.2) : (s.go r).Nn ∧ s.Le (s.go r) := by
  have h1 := Int.mul_nonneg hr h.a
  have h2 := Int.mul_nonneg hr h.b
  have h3 := Int.mul_nonneg hr h.c
  have h4 := Int.mul_nonneg hr h.d
  have e1 := h.a
  have e2 := h.b
  have e3 := h.c
  have e4 := h.d
  unfold Ends4.go
  split
  · exact ⟨⟨by show 0 ≤ s.a + r.2 * s.c; omega, by show 0 ≤ s.b + r.2 * s.d; omega, e3, e4⟩, ⟨by show s.a ≤ s.a + r.2 * s.c; omega, by show s.b ≤ s.b + r.2 * s.d; omega, Int.le_refl _, Int.le_refl _⟩⟩
  · exact ⟨⟨e1, e2, by show 0 ≤ s.c + r.2 * s.a; omega, by show 0 ≤ s.d + r.2 * s.b; omega⟩, ⟨Int.le_refl _, Int.le_refl _, by show s.c ≤ s.c + r.2 * s.a; omega, by show s.d ≤ s.d + r.2 * s.b; omega⟩⟩
theorem from_nn : ∀ (p : List Run) {s : Ends4}, s.Nn → (∀ r ∈ p, 0 ≤ r.2) → (endsFrom s p).Nn ∧ s.Le (endsFrom s p)
  | [], s, h, _ => ⟨h, .refl s⟩
  | r :: p, s, h, hp => by
    have g := go_nn h (hp r List.mem_cons_self)
    have i := from_nn p g.1 fun q hq => hp q (List.mem_cons_of_mem _ hq)
    exact ⟨i.1, g.2.trans i.2⟩
theorem from_app (s : Ends4) (p q : List Run) : endsFrom s (p ++ q) = endsFrom (endsFrom s p) q := by unfold endsFrom; rw [List.foldl_append]
theorem nn0 : (⟨0, 1, 1, 0⟩ : Ends4).Nn := ⟨by decide, by decide, by decide, by decide⟩
/-- the first i runs -/
theorem take_le {p : List Run} (hp : ∀ r ∈ p, 0 ≤ r.2) (i : Nat) : (endsOf (p.take i)).Nn ∧ (endsOf (p.take i)).Le (endsOf p) := by
  have h1 := from_nn (p.take i) nn0 fun r hr => hp r (List.mem_of_mem_take hr)
  refine ⟨h1.1, ?_⟩
  have e : endsOf p = endsFrom (endsOf (p.take i)) (p.drop i) := by
    show endsFrom _ p = endsFrom (endsFrom _ (p.take i)) (p.drop i)
    rw [← from_app, List.take_append_drop]
  rw [e]
  exact (from_nn (p.drop i) h1.1 fun r hr => hp r (List.mem_of_mem_drop hr)).2
theorem take_next {p : List Run} {i : Nat} {r : Run} (h : p[i]? = some r) : endsOf (p.take (i + 1)) = (endsOf (p.take i)).go r := by
  rw [List.take_add_one, h]
  show endsFrom _ (p.take i ++ [r]) = _
  rw [from_app]
  rfl
/-- the products' difference stays -/
def Ends4.det (s : Ends4) : Int := s.c * s.b - s.a * s.d
theorem go_det (s : Ends4) (r : Run) : (s.go r).det = s.det := by
  unfold Ends4.go Ends4.det
  split
  · show s.c * (s.b + r.2 * s.d) - (s.a + r.2 * s.c) * s.d = s.c * s.b - s.a * s.d
    have e : s.c * (r.2 * s.d) = r.2 * s.c * s.d := by rw [← Int.mul_assoc, Int.mul_comm s.c r.2]
    rw [Int.mul_add, Int.add_mul, e]
    omega
  · show (s.c + r.2 * s.a) * s.b - s.a * (s.d + r.2 * s.b) = s.c * s.b - s.a * s.d
    have e : s.a * (r.2 * s.b) = r.2 * s.a * s.b := by rw [← Int.mul_assoc, Int.mul_comm s.a r.2]
    rw [Int.mul_add, Int.add_mul, e]
    omega
theorem from_det : ∀ (p : List Run) (s : Ends4), (endsFrom s p).det = s.det
  | [], _ => rfl
  | r :: p, s => (from_det p (s.go r)).trans (go_det s r)
theorem ends_det (p : List Run) : (endsOf p).det = 1 := (from_det p _).trans (by decide)
/-- what a path of runs leads to -/
theorem path_pos {u l : Int} (hu : 1 ≤ u) (hl : 1 ≤ l) : ∀ r ∈ pathOf u l, 1 ≤ r.2 := by
  refine path_rec (C := fun u l => ∀ r ∈ pathOf u l, 1 ≤ r.2) (fun u hu => ?_) (fun u l hl h ih => ?_) (fun u l hl h ih => ?_) hu hl
  · rw [pathOf_top hu]; simp
  · rw [pathOf_right hl h]
    intro r hr
    rcases List.mem_cons.mp hr with rfl | hr
    · exact (run_step hl h).1
    · exact ih r hr
  · rw [pathOf_left hl h]
    intro r hr
    rcases List.mem_cons.mp hr with rfl | hr
    · exact (run_step hl h).1
    · exact ih r hr
theorem path_ends {u l : Int} (hu : 1 ≤ u) (hl : 1 ≤ l) (hg : Int.gcd u l = 1) (s : Ends4) : (endsFrom s (pathOf u l)).a + (endsFrom s (pathOf u l)).c = s.a * l + s.c * u ∧ (endsFrom s (pathOf u l)).b + (endsFrom s (pathOf u l)).d = s.b * l + s.d * u := by
  revert s
  have key := path_rec (C := fun u l => Int.gcd u l = 1 → ∀ s : Ends4, (endsFrom s (pathOf u l)).a + (endsFrom s (pathOf u l)).c = s.a * l + s.c * u ∧ (endsFrom s (pathOf u l)).b + (endsFrom s (pathOf u l)).d = s.b * l + s.d * u) (fun u hu hg s => ?_) (fun u l hl h ih hg s => ?_) (fun u l hl h ih hg s => ?_) hu hl
  · exact key hg
  · have e : u = 1 := by rw [Int.gcd_self] at hg; omega
    subst e
    rw [pathOf_top hu]
    show s.a + s.c = s.a * 1 + s.c * 1 ∧ s.b + s.d = s.b * 1 + s.d * 1
    omega
  · have i := ih (by rw [Int.gcd_sub_mul_right_left]; exact hg) (s.go (true, (u - 1) / l))
    rw [pathOf_right hl h]
    show (endsFrom (s.go (true, (u - 1) / l)) _).a + _ = _ ∧ _
    rw [show (endsFrom s ((true, (u - 1) / l) :: pathOf (u - (u - 1) / l * l) l)) = endsFrom (s.go (true, (u - 1) / l)) (pathOf (u - (u - 1) / l * l) l) from rfl]
    rw [i.1, i.2]
    generalize (u - 1) / l = m
    show (s.a + m * s.c) * l + s.c * (u - m * l) = s.a * l + s.c * u ∧ (s.b + m * s.d) * l + s.d * (u - m * l) = s.b * l + s.d * u
    have e : ∀ c : Int, c * (m * l) = m * c * l := fun c => by rw [← Int.mul_assoc, Int.mul_comm c m]
    rw [Int.add_mul, Int.add_mul, Int.mul_sub, Int.mul_sub, e, e]
    omega
  · have i := ih (by rw [Int.gcd_comm, Int.gcd_sub_mul_right_left, Int.gcd_comm]; exact hg) (s.go (false, (l - 1) / u))
    rw [pathOf_left hl h]
    rw [show (endsFrom s ((false, (l - 1) / u) :: pathOf u (l - (l - 1) / u * u))) = endsFrom (s.go (false, (l - 1) / u)) (pathOf u (l - (l - 1) / u * u)) from rfl]
    rw [i.1, i.2]
    generalize (l - 1) / u = m
    show s.a * (l - m * u) + (s.c + m * s.a) * u = s.a * l + s.c * u ∧ s.b * (l - m * u) + (s.d + m * s.b) * u = s.b * l + s.d * u
    have e : ∀ c : Int, c * (m * u) = m * c * u := fun c => by rw [← Int.mul_assoc, Int.mul_comm c m]
    rw [Int.add_mul, Int.add_mul, Int.mul_sub, Int.mul_sub, e, e]
    omega
/-- the path to a fraction leads there -/
theorem path_leads {u l : Int} (hu : 1 ≤ u) (h : Fr u l) : (endsOf (pathOf u l)).a + (endsOf (pathOf u l)).c = u ∧ (endsOf (pathOf u l)).b + (endsOf (pathOf u l)).d = l := by
  have := path_ends hu h.l1 h.g ⟨0, 1, 1, 0⟩
  show (endsFrom _ _).a + _ = _ ∧ _
  unfold endsOf
  rw [this.1, this.2]
  constructor
  · show (0 : Int) * l + 1 * u = u; omega
  · show (1 : Int) * l + 0 * u = l; omega
theorem path_le {u l : Int} (hu : 1 ≤ u) (h : Fr u l) : (endsOf (pathOf u l)).Nn ∧ (endsOf (pathOf u l)).a ≤ u ∧ (endsOf (pathOf u l)).c ≤ u ∧ (endsOf (pathOf u l)).b ≤ l ∧ (endsOf (pathOf u l)).d ≤ l := by
  have e := path_leads hu h
  have n := (from_nn (pathOf u l) nn0 fun r hr => by have := path_pos hu h.l1 r hr; omega).1
  have n' : (endsOf (pathOf u l)).Nn := n
  have h1 := n'.a
  have h2 := n'.b
  have h3 := n'.c
  have h4 := n'.d
  exact ⟨n', by omega, by omega, by omega, by omega⟩
/-- the runs are no greater than the parts -/
theorem path_run_le {u l : Int} (hu : 1 ≤ u) (hl : 1 ≤ l) : ∀ r ∈ pathOf u l, r.2 ≤ u + l := by
  refine path_rec (C := fun u l => ∀ r ∈ pathOf u l, r.2 ≤ u + l) (fun u hu => ?_) (fun u l hl h ih => ?_) (fun u l hl h ih => ?_) hu hl
  · rw [pathOf_top hu]; simp
  · rw [pathOf_right hl h]
    intro r hr
    have s := run_step hl h
    rcases List.mem_cons.mp hr with rfl | hr
    · have : (u - 1) / l ≤ u - 1 := Int.ediv_le_self l (by omega)
      show (u - 1) / l ≤ u + l
      omega
    · have := ih r hr
      omega
  · rw [pathOf_left hl h]
    intro r hr
    have s := run_step hl h
    rcases List.mem_cons.mp hr with rfl | hr
    · have : (l - 1) / u ≤ l - 1 := Int.ediv_le_self u (by omega)
      show (l - 1) / u ≤ u + l
      omega
    · have := ih r hr
      omega
end NF
namespace NF
open PySem L2
/-! ### runs as data -/
theorem plain_ok {p : List PyData} (h : ∀ x ∈ p, x.plain = true) : PyData.plainAll p = true := by
  induction p with
  | nil => rfl
  | cons x p ih =>
    simp only [PyData.plainAll, h x List.mem_cons_self, ih fun y hy => h y (List.mem_cons_of_mem _ hy), Bool.and_self]
theorem runs_plain (p : List Run) : (PyData.list (p.map runD)).plain = true := by
  simp only [PyData.plain]
  refine plain_ok fun x hx => ?_
  obtain ⟨r, _, rfl⟩ := List.mem_map.mp hx
  rfl
theorem depth_ok {p : List PyData} {n : Nat} (h : ∀ x ∈ p, x.depth ≤ n) : PyData.depthAll p ≤ n := by
  induction p with
  | nil => simp [PyData.depthAll]
  | cons x p ih =>
    simp only [PyData.depthAll]
    exact Nat.max_le.mpr ⟨h x List.mem_cons_self, ih fun y hy => h y (List.mem_cons_of_mem _ hy)⟩
theorem runs_depth (p : List Run) (y : PyData) : min (PyData.list (p.map runD)).depth y.depth ≤ 64 := by
  refine Nat.le_trans (Nat.min_le_left _ _) ?_
  simp only [PyData.depth]
  have := depth_ok (p := p.map runD) (n := 5) fun x hx => by
    obtain ⟨r, _, rfl⟩ := List.mem_map.mp hx
    exact Nat.le_of_ble_eq_true rfl
  omega
theorem wayS_inj {a b : Bool} (h : wayS a = wayS b) : a = b := by
  cases a <;> cases b
  · rfl
  · exact absurd h (by decide +kernel)
  · exact absurd h (by decide +kernel)
  · rfl
theorem run_eqv (r s : Run) : PyData.eqv (runD r) (runD s) = decide (r = s) := by
  obtain ⟨a, m⟩ := r
  obtain ⟨b, n⟩ := s
  show PyData.eqv (.tuple [.str (wayS a), .int m]) (.tuple [.str (wayS b), .int n]) = _
  simp only [PyData.eqv, PyData.eqvAll, Bool.and_true]
  by_cases h : a = b
  · subst h
    by_cases k : m = n
    · subst k; simp
    · simp [k]
  · have : ¬ wayS a = wayS b := fun e => h (wayS_inj e)
    have h2 : (wayS a == wayS b) = false := by simpa using this
    rw [h2]
    simp [h]
theorem runs_eqvAll : ∀ p q : List Run, PyData.eqvAll (p.map runD) (q.map runD) = decide (p = q)
  | [], [] => by simp [PyData.eqvAll]
  | [], _ :: _ => by simp [PyData.eqvAll]
  | _ :: _, [] => by simp [PyData.eqvAll]
  | r :: p, s :: q => by
    rw [List.map_cons, List.map_cons]
    simp only [PyData.eqvAll]
    rw [run_eqv, runs_eqvAll p q]
    by_cases h : r = s
    · subst h; simp
    · simp [h]
theorem runs_eqv (p q : List Run) : PyData.eqv (.list (p.map runD)) (.list (q.map runD)) = decide (p = q) := by
  simp only [PyData.eqv]
  exact runs_eqvAll p q
theorem pair_eqv (a b c d : Int) : PyData.eqv (.tuple [.int a, .int b]) (.tuple [.int c, .int d]) = decide (a = c ∧ b = d) := by
  simp only [PyData.eqv, PyData.eqvAll, Bool.and_true]
  by_cases h : a = c
  · by_cases k : b = d
    · simp [h, k]
    · simp [h, k]
  · simp [h]
/-! ### paths that are paths -/
def aheadS (q : List Run) : Str := match q.getLast? with
  | none => ""
  | some r => wayS r.1
theorem ahead_next {p : List Run} {i : Nat} {r : Run} (h : p[i]? = some r) : aheadS (p.take (i + 1)) = wayS r.1 := by
  unfold aheadS
  rw [List.take_add_one, h]
  simp
def GoodPath (p : List Run) : Prop := ∀ (i : Nat) (r : Run), p[i]? = some r → 1 ≤ r.2 ∧ wayS r.1 ≠ aheadS (p.take i)
def Alt : List Run → Prop
  | [] => True
  | [_] => True
  | a :: b :: r => a.1 ≠ b.1 ∧ Alt (b :: r)
theorem alt_get : ∀ {p : List Run} {i : Nat} {a b : Run}, Alt p → p[i]? = some a → p[i + 1]? = some b → a.1 ≠ b.1
  | [], _, _, _, _, h, _ => by simp at h
  | [_], i, _, _, _, _, h => by simp at h
  | x :: y :: r, 0, a, b, h, h1, h2 => by
    simp at h1 h2
    subst h1 h2
    exact h.1
  | x :: y :: r, i + 1, a, b, h, h1, h2 => alt_get (p := y :: r) (i := i) h.2 (by simpa using h1) (by simpa using h2)
theorem good_of {p : List Run} (h : Alt p) (hp : ∀ r ∈ p, 1 ≤ r.2) : GoodPath p := fun i r hr => by
  refine ⟨hp r (List.mem_of_getElem? hr), fun e => ?_⟩
  cases i with
  | zero =>
    have e' : wayS r.1 = "" := e
    cases hb : r.1 with
    | false => rw [hb] at e'; exact absurd e' (by decide +kernel)
    | true => rw [hb] at e'; exact absurd e' (by decide +kernel)
  | succ i =>
    have hi : i < p.length := by have := (List.getElem?_eq_some_iff.mp hr).1; omega
    rw [ahead_next (List.getElem?_eq_getElem hi)] at e
    exact alt_get h (List.getElem?_eq_getElem hi) hr (wayS_inj e).symm
theorem path_alt {u l : Int} (hu : 1 ≤ u) (hl : 1 ≤ l) : Alt (pathOf u l) := by
  refine path_rec (C := fun u l => Alt (pathOf u l)) (fun u hu => ?_) (fun u l hl h ih => ?_) (fun u l hl h ih => ?_) hu hl
  · rw [pathOf_top hu]; trivial
  · rw [pathOf_right hl h]
    have s := run_step hl h
    by_cases z : u - (u - 1) / l * l = l
    · rw [z, pathOf_top hl]; trivial
    · have zl : u - (u - 1) / l * l < l := by omega
      rw [pathOf_left s.2.1 zl] at ih ⊢
      exact ⟨by simp, ih⟩
  · rw [pathOf_left hl h]
    have s := run_step hl h
    by_cases z : l - (l - 1) / u * u = u
    · rw [z, pathOf_top hl]; trivial
    · have zl : l - (l - 1) / u * u < u := by omega
      rw [pathOf_right s.2.1 zl] at ih ⊢
      exact ⟨by simp, ih⟩
theorem path_good {u l : Int} (hu : 1 ≤ u) (hl : 1 ≤ l) : GoodPath (pathOf u l) := good_of (path_alt hu hl) (path_pos hu hl)
theorem path_len {u l : Int} (hu : 1 ≤ u) (hl : 1 ≤ l) : (2 : Int) ^ (pathOf u l).length ≤ u * l := by
  refine path_rec (C := fun u l => (2 : Int) ^ (pathOf u l).length ≤ u * l) (fun u hu => ?_) (fun u l hl h ih => ?_) (fun u l hl h ih => ?_) hu hl
  · rw [pathOf_top hu]
    have := Int.mul_pos (show 0 < u by omega) (show 0 < u by omega)
    show (2 : Int) ^ 0 ≤ u * u
    omega
  · rw [pathOf_right hl h, List.length_cons, Int.pow_succ]
    have s := run_step hl h
    have h2 : 2 * (u - (u - 1) / l * l) * l ≤ u * l := Int.mul_le_mul_of_nonneg_right s.2.2.2 (by omega)
    rw [Int.mul_assoc] at h2
    omega
  · rw [pathOf_left hl h, List.length_cons, Int.pow_succ]
    have s := run_step hl h
    have h2 : u * (2 * (l - (l - 1) / u * u)) ≤ u * l := Int.mul_le_mul_of_nonneg_left s.2.2.2 (by omega)
    rw [Int.mul_left_comm] at h2
    omega
theorem path_short {u l : Int} (hu : 1 ≤ u) (hl : 1 ≤ l) {n : Nat} (h : u * l < 2 ^ n) : (pathOf u l).length < n := by
  have h1 := path_len hu hl
  by_cases z : (pathOf u l).length < n
  · exact z
  · have h2 : 2 ^ n ≤ 2 ^ (pathOf u l).length := Nat.pow_le_pow_right (by decide) (by omega)
    have h3 : ((2 ^ n : Nat) : Int) ≤ ((2 ^ (pathOf u l).length : Nat) : Int) := Int.ofNat_le.mpr h2
    rw [Int.natCast_pow, Int.natCast_pow] at h3
    have h4 : ((2 : Nat) : Int) = 2 := rfl
    rw [h4] at h3
    omega
theorem Bd.up {n : Nat} {i : Int} (h : Bd n i) : i < 2 ^ n := by
  unfold Bd at h
  have h6 : (i.natAbs : Int) < ((2 ^ n : Nat) : Int) := Int.ofNat_lt.mpr h
  rw [Int.natCast_pow] at h6
  have h4 : ((2 : Nat) : Int) = 2 := rfl
  rw [h4] at h6
  have h7 : i ≤ (i.natAbs : Int) := Int.le_natAbs
  omega
/-- the other way round -/
theorem path_swap {u l : Int} (hu : 1 ≤ u) (hl : 1 ≤ l) (h : u ≠ l) : pathOf l u ≠ pathOf u l := by
  by_cases z : l < u
  · rw [pathOf_right hl z, pathOf_left hl z]
    simp
  · have z' : u < l := by omega
    rw [pathOf_right hu z', pathOf_left hu z']
    simp
/-! ### the check of a path, run by run -/
abbrev RunG := Str × Int
def runG (r : RunG) : PyData := .tuple [.str r.1, .int r.2]
def gen (r : Run) : RunG := (wayS r.1, r.2)
theorem runD_gen (p : List Run) : p.map runD = (p.map gen).map runG := by rw [List.map_map]; rfl
def okRun (a : Str) (r : RunG) : Bool := decide (r.1 ∈ (["left", "right"] : List Str)) && (!decide (r.1 = a) && decide (1 ≤ r.2))
def ck : Str → List RunG → Bool
  | _, [] => true
  | a, r :: q => okRun a r && ck r.1 q
def aheadG (q : List RunG) : Str := match q.getLast? with
  | none => ""
  | some r => r.1
theorem aheadG_next {q : List RunG} {i : Nat} {r : RunG} (h : q[i]? = some r) : aheadG (q.take (i + 1)) = r.1 := by
  unfold aheadG
  rw [List.take_add_one, h]
  simp
theorem ck_turn {q : List RunG} {i : Nat} {r : RunG} {a : Str} (h : q[i]? = some r) : ck a (q.drop i) = (okRun a r && ck r.1 (q.drop (i + 1))) := by
  obtain ⟨hi, e⟩ := List.getElem?_eq_some_iff.mp h
  rw [List.drop_eq_getElem_cons hi, e]
  rfl
theorem way_in (b : Bool) : wayS b ∈ (["left", "right"] : List Str) := by
  cases b
  · exact List.mem_cons_self
  · exact List.mem_cons_of_mem _ List.mem_cons_self
theorem way_ne (b : Bool) : wayS b ≠ "" := by
  cases b
  · decide +kernel
  · decide +kernel
theorem ck_runs : ∀ (p : List Run) (a : Str), Alt p → (∀ r ∈ p, 1 ≤ r.2) → (∀ r, p.head? = some r → wayS r.1 ≠ a) → ck a (p.map gen) = true
  | [], _, _, _, _ => rfl
  | [r], a, _, h1, h2 => by
    have e1 := h1 r List.mem_cons_self
    have e2 := h2 r rfl
    show ((decide (wayS r.1 ∈ (["left", "right"] : List Str)) && (!decide (wayS r.1 = a) && decide (1 ≤ r.2))) && true) = true
    rw [decide_eq_true (way_in r.1), decide_eq_false e2, decide_eq_true e1]
    rfl
  | r :: s :: p, a, h, h1, h2 => by
    have e1 := h1 r List.mem_cons_self
    have e2 := h2 r rfl
    have i := ck_runs (s :: p) (wayS r.1) h.2 (fun x hx => h1 x (List.mem_cons_of_mem _ hx)) (fun x hx e => by
      have : s = x := Option.some.inj hx
      subst this
      exact h.1 (wayS_inj e).symm)
    show (okRun a (gen r) && ck (wayS r.1) ((s :: p).map gen)) = true
    rw [i]
    show ((decide (wayS r.1 ∈ (["left", "right"] : List Str)) && (!decide (wayS r.1 = a) && decide (1 ≤ r.2))) && true) = true
    rw [decide_eq_true (way_in r.1), decide_eq_false e2, decide_eq_true e1]
    rfl
theorem path_ck {u l : Int} (hu : 1 ≤ u) (hl : 1 ≤ l) : ck "" ((pathOf u l).map gen) = true := ck_runs _ _ (path_alt hu hl) (path_pos hu hl) fun r _ => way_ne r.1
/-- what a path's runs may be -/
structure PathOk (p : List Run) : Prop where
  c : ck "" (p.map gen) = true
  m : ∀ r ∈ p, 0 ≤ r.2 ∧ Bd 8100 r.2
  a : Bd 8000 (endsOf p).a
  b : Bd 8000 (endsOf p).b
  cc : Bd 8000 (endsOf p).c
  d : Bd 8000 (endsOf p).d
theorem path_ok {u l : Int} (hu : 1 ≤ u) (h : Fr u l) (bu : Bd 8000 u) (bl : Bd 8000 l) : PathOk (pathOf u l) := by
  have pl := path_le hu h
  refine ⟨path_ck hu h.l1, fun r hr => ?_, bu.of_le pl.1.a pl.2.1, bl.of_le pl.1.b pl.2.2.2.1, bu.of_le pl.1.c pl.2.2.1, bl.of_le pl.1.d pl.2.2.2.2⟩
  have h1 := path_pos hu h.l1 r hr
  have h2 := path_run_le hu h.l1 r hr
  exact ⟨by omega, ((bu.add bl).of_le (by omega) h2).mono (by decide)⟩
def headD (s : Ends4) : PyData := .tuple [.int (s.a + s.c), .int (s.b + s.d)]
/-- grown fractions -/
def fibP : Nat → Int × Int
  | 0 => (1, 1)
  | n + 1 => ((fibP n).1 + (fibP n).2, (fibP n).1)
theorem fib_ok : ∀ n : Nat, 1 ≤ (fibP n).1 ∧ Fr (fibP n).1 (fibP n).2 ∧ (fibP n).1 + (fibP n).2 ≤ 2 * 2 ^ n
  | 0 => ⟨by decide, ⟨by decide, by decide, by decide⟩, by decide⟩
  | n + 1 => by
    have ih := fib_ok n
    have h1 := ih.1
    have h2 := ih.2.1.l1
    have h3 := ih.2.1.g
    have h4 := ih.2.2
    refine ⟨?_, ⟨?_, ?_, ?_⟩, ?_⟩
    · show 1 ≤ (fibP n).1 + (fibP n).2; omega
    · show 0 ≤ (fibP n).1 + (fibP n).2; omega
    · exact h1
    · show Int.gcd ((fibP n).1 + (fibP n).2) (fibP n).1 = 1
      rw [Int.gcd_self_add_left, Int.gcd_comm]
      exact h3
    · show (fibP n).1 + (fibP n).2 + (fibP n).1 ≤ 2 * 2 ^ (n + 1)
      rw [Int.pow_succ]
      omega
theorem pow_le_pow {n m : Nat} (h : n ≤ m) : (2 : Int) ^ n ≤ 2 ^ m := by
  have h1 : 2 ^ n ≤ 2 ^ m := Nat.pow_le_pow_right (by decide) h
  have h2 : ((2 ^ n : Nat) : Int) ≤ ((2 ^ m : Nat) : Int) := Int.ofNat_le.mpr h1
  rw [Int.natCast_pow, Int.natCast_pow] at h2
  exact h2
theorem fib_bd {n : Nat} (h : n ≤ 290) : Bd 300 (fibP n).1 ∧ Bd 300 (fibP n).2 := by
  have f := fib_ok n
  have h1 := f.1
  have h2 := f.2.1.l1
  have h3 := f.2.2
  have h4 := pow_le_pow h
  have h5 : (2 : Int) * 2 ^ 290 < 2 ^ 300 := by decide +kernel
  generalize (2 : Int) ^ n = x at *
  exact ⟨Bd.lt (by omega) (by omega), Bd.lt (by omega) (by omega)⟩
end NF
namespace NF
open PySem L2
/-! ### from a path to its fraction and back -/
def frOf : List Run → Int × Int
  | [] => (1, 1)
  | r :: p => if r.1 = true then ((frOf p).1 + r.2 * (frOf p).2, (frOf p).2) else ((frOf p).1, (frOf p).2 + r.2 * (frOf p).1)
theorem frOf_ends : ∀ (p : List Run) (s : Ends4), (endsFrom s p).a + (endsFrom s p).c = s.a * (frOf p).2 + s.c * (frOf p).1 ∧ (endsFrom s p).b + (endsFrom s p).d = s.b * (frOf p).2 + s.d * (frOf p).1
  | [], s => by show s.a + s.c = s.a * 1 + s.c * 1 ∧ s.b + s.d = s.b * 1 + s.d * 1; omega
  | (w, m) :: p, s => by
    have i := frOf_ends p (s.go (w, m))
    rw [show endsFrom s ((w, m) :: p) = endsFrom (s.go (w, m)) p from rfl, i.1, i.2]
    have e : ∀ c f : Int, m * c * f = c * (m * f) := fun c f => by rw [Int.mul_comm m c, Int.mul_assoc]
    cases w
    · show s.a * (frOf p).2 + (s.c + m * s.a) * (frOf p).1 = s.a * ((frOf p).2 + m * (frOf p).1) + s.c * (frOf p).1 ∧ s.b * (frOf p).2 + (s.d + m * s.b) * (frOf p).1 = s.b * ((frOf p).2 + m * (frOf p).1) + s.d * (frOf p).1
      rw [Int.add_mul, Int.add_mul, Int.mul_add, Int.mul_add, e, e]
      omega
    · show (s.a + m * s.c) * (frOf p).2 + s.c * (frOf p).1 = s.a * (frOf p).2 + s.c * ((frOf p).1 + m * (frOf p).2) ∧ (s.b + m * s.d) * (frOf p).2 + s.d * (frOf p).1 = s.b * (frOf p).2 + s.d * ((frOf p).1 + m * (frOf p).2)
      rw [Int.add_mul, Int.add_mul, Int.mul_add, Int.mul_add, e, e]
      omega
theorem frOf_head (p : List Run) : headD (endsOf p) = .tuple [.int (frOf p).1, .int (frOf p).2] := by
  have h := frOf_ends p ⟨0, 1, 1, 0⟩
  have h1 : (endsOf p).a + (endsOf p).c = (frOf p).1 := by
    have := h.1
    show (endsFrom _ p).a + (endsFrom _ p).c = _
    rw [this]
    show (0 : Int) * _ + 1 * _ = _
    omega
  have h2 : (endsOf p).b + (endsOf p).d = (frOf p).2 := by
    have := h.2
    show (endsFrom _ p).b + (endsFrom _ p).d = _
    rw [this]
    show (1 : Int) * _ + 0 * _ = _
    omega
  unfold headD
  rw [h1, h2]
structure Back (p : List Run) : Prop where
  u : 1 ≤ (frOf p).1
  l : 1 ≤ (frOf p).2
  g : Int.gcd (frOf p).1 (frOf p).2 = 1
  e : pathOf (frOf p).1 (frOf p).2 = p
  r : ∀ x, p.head? = some x → x.1 = true → (frOf p).2 < (frOf p).1
  s : ∀ x, p.head? = some x → x.1 = false → (frOf p).1 < (frOf p).2
theorem run_back {u l m : Int} (hu : 1 ≤ u) (hl : u ≤ l) : (u + m * l - 1) / l = m := by
  have e : u + m * l - 1 = u - 1 + m * l := by omega
  rw [e, Int.add_mul_ediv_right _ _ (by omega), Int.ediv_eq_zero_of_lt (by omega) (by omega)]
  omega
theorem alt_tail {a : Run} {p : List Run} (h : Alt (a :: p)) : Alt p ∧ ∀ x, p.head? = some x → a.1 ≠ x.1 := by
  cases p with
  | nil => exact ⟨trivial, fun x hx => nomatch hx⟩
  | cons b q => exact ⟨h.2, fun x hx => by cases hx; exact h.1⟩
theorem frOf_back : ∀ p : List Run, Alt p → (∀ r ∈ p, 1 ≤ r.2) → Back p
  | [], _, _ => ⟨by decide, by decide, by decide, pathOf_top (by decide), (fun x hx => nomatch hx), (fun x hx => nomatch hx)⟩
  | (w, m) :: p, ha, hm => by
    have t := alt_tail ha
    have i := frOf_back p t.1 fun r hr => hm r (List.mem_cons_of_mem _ hr)
    have m1 : 1 ≤ m := hm _ List.mem_cons_self
    have iu := i.u
    have il := i.l
    have ig := i.g
    have ie := i.e
    cases w
    · have le : (frOf p).2 ≤ (frOf p).1 := by
        cases p with
        | nil => exact Int.le_refl _
        | cons b q =>
          have hb : b.1 = true := by have := t.2 b rfl; cases hb : b.1 <;> simp_all
          have := i.r b rfl hb
          omega
      have lt : (frOf p).1 ≤ m * (frOf p).1 := by
        have := Int.mul_le_mul_of_nonneg_right m1 (show 0 ≤ (frOf p).1 by omega)
        omega
      have E1 : (frOf ((false, m) :: p)).1 = (frOf p).1 := rfl
      have E2 : (frOf ((false, m) :: p)).2 = (frOf p).2 + m * (frOf p).1 := rfl
      refine ⟨?_, ?_, ?_, ?_, ?_, ?_⟩ <;> (try rw [E1]) <;> (try rw [E2]) <;> generalize frOf p = f at *
      · show 1 ≤ f.1; exact iu
      · show 1 ≤ f.2 + m * f.1; omega
      · show Int.gcd f.1 (f.2 + m * f.1) = 1
        rw [Int.gcd_comm, Int.gcd_add_mul_right_left, Int.gcd_comm]
        exact ig
      · show pathOf f.1 (f.2 + m * f.1) = _
        rw [pathOf_left iu (by omega), run_back il le]
        have e : f.2 + m * f.1 - m * f.1 = f.2 := by omega
        rw [e, ie]
      · intro x hx hx1; cases hx; cases hx1
      · intro x hx hx1
        show f.1 < f.2 + m * f.1
        omega
    · have le : (frOf p).1 ≤ (frOf p).2 := by
        cases p with
        | nil => exact Int.le_refl _
        | cons b q =>
          have hb : b.1 = false := by have := t.2 b rfl; cases hb : b.1 <;> simp_all
          have := i.s b rfl hb
          omega
      have lt : (frOf p).2 ≤ m * (frOf p).2 := by
        have := Int.mul_le_mul_of_nonneg_right m1 (show 0 ≤ (frOf p).2 by omega)
        omega
      have E1 : (frOf ((true, m) :: p)).1 = (frOf p).1 + m * (frOf p).2 := rfl
      have E2 : (frOf ((true, m) :: p)).2 = (frOf p).2 := rfl
      refine ⟨?_, ?_, ?_, ?_, ?_, ?_⟩ <;> (try rw [E1]) <;> (try rw [E2]) <;> generalize frOf p = f at *
      · show 1 ≤ f.1 + m * f.2; omega
      · show 1 ≤ f.2; exact il
      · show Int.gcd (f.1 + m * f.2) f.2 = 1
        rw [Int.gcd_add_mul_right_left]
        exact ig
      · show pathOf (f.1 + m * f.2) f.2 = _
        rw [pathOf_right il (by omega), run_back iu le]
        have e : f.1 + m * f.2 - m * f.2 = f.1 := by omega
        rw [e, ie]
      · intro x hx hx1
        show f.2 < f.1 + m * f.2
        omega
      · intro x hx hx1; cases hx; cases hx1
/-! ### how great the ends grow -/
def Ends4.sum (s : Ends4) : Int := s.a + s.b + s.c + s.d
theorem sum_go {s : Ends4} {r : Run} (h : s.Nn) (hr : 0 ≤ r.2) : (s.go r).sum ≤ s.sum * (1 + r.2) := by
  have h1 := Int.mul_nonneg hr h.a
  have h2 := Int.mul_nonneg hr h.b
  have h3 := Int.mul_nonneg hr h.c
  have h4 := Int.mul_nonneg hr h.d
  have e : s.sum * (1 + r.2) = s.a + s.b + s.c + s.d + (r.2 * s.a + r.2 * s.b + r.2 * s.c + r.2 * s.d) := by
    unfold Ends4.sum
    rw [Int.mul_add, Int.mul_one, Int.mul_comm _ r.2, Int.mul_add, Int.mul_add, Int.mul_add]
  rw [e]
  unfold Ends4.go Ends4.sum
  split
  · show s.a + r.2 * s.c + (s.b + r.2 * s.d) + s.c + s.d ≤ _
    omega
  · show s.a + s.b + (s.c + r.2 * s.a) + (s.d + r.2 * s.b) ≤ _
    omega
theorem sum_nn {s : Ends4} (h : s.Nn) : 0 ≤ s.sum := by
  have := h.a; have := h.b; have := h.c; have := h.d
  unfold Ends4.sum
  omega
theorem pow_pos2 (n : Nat) : (0 : Int) < 2 ^ n := Int.pow_pos (by decide)
theorem sum_exp (k : Nat) : ∀ (p : List Run) (s : Ends4) (n : Nat), s.Nn → (∀ r ∈ p, 0 ≤ r.2 ∧ 1 + r.2 ≤ 2 ^ k) → s.sum ≤ 2 ^ n → (endsFrom s p).sum ≤ 2 ^ (n + k * p.length)
  | [], s, n, _, _, h => h
  | r :: p, s, n, hs, hp, h => by
    have h0 := hp r List.mem_cons_self
    have g := go_nn hs h0.1
    have h1 : (s.go r).sum ≤ 2 ^ (n + k) := by
      refine Int.le_trans (sum_go hs h0.1) ?_
      rw [Int.pow_add]
      exact Int.mul_le_mul h h0.2 (by omega) (Int.le_of_lt (pow_pos2 n))
    have i := sum_exp k p (s.go r) (n + k) g.1 (fun q hq => hp q (List.mem_cons_of_mem _ hq)) h1
    have e : n + k * (r :: p).length = n + k + k * p.length := by rw [List.length_cons, Nat.mul_add]; omega
    rw [e]
    exact i
theorem ends_le_sum {s : Ends4} (h : s.Nn) : s.a ≤ s.sum ∧ s.b ≤ s.sum ∧ s.c ≤ s.sum ∧ s.d ≤ s.sum := by
  have := h.a; have := h.b; have := h.c; have := h.d
  unfold Ends4.sum
  refine ⟨?_, ?_, ?_, ?_⟩ <;> omega
theorem pathOk_of {p : List Run} {n : Nat} (h : Alt p) (h1 : ∀ r ∈ p, 1 ≤ r.2 ∧ Bd 8100 r.2) (hn : n < 8000) (hs : (endsOf p).sum ≤ 2 ^ n) : PathOk p := by
  have nn := (from_nn p nn0 fun r hr => by have := (h1 r hr).1; omega).1
  have nn' : (endsOf p).Nn := nn
  have l := ends_le_sum nn'
  have lt : (2 : Int) ^ n < 2 ^ 8000 := by
    have a := pow_le_pow (show n + 1 ≤ 8000 by omega)
    have b := pow_pos2 n
    rw [Int.pow_succ] at a
    generalize (2 : Int) ^ 8000 = x at *
    generalize (2 : Int) ^ n = y at *
    omega
  refine ⟨ck_runs p "" h (fun r hr => (h1 r hr).1) fun r _ => way_ne r.1, fun r hr => ⟨by have := (h1 r hr).1; omega, (h1 r hr).2⟩, ?_, ?_, ?_, ?_⟩
  · exact Bd.lt nn'.a (by generalize (2 : Int) ^ 8000 = x at *; generalize (2 : Int) ^ n = y at *; omega)
  · exact Bd.lt nn'.b (by generalize (2 : Int) ^ 8000 = x at *; generalize (2 : Int) ^ n = y at *; omega)
  · exact Bd.lt nn'.c (by generalize (2 : Int) ^ 8000 = x at *; generalize (2 : Int) ^ n = y at *; omega)
  · exact Bd.lt nn'.d (by generalize (2 : Int) ^ 8000 = x at *; generalize (2 : Int) ^ n = y at *; omega)
theorem alt_of_get : ∀ {p : List Run}, (∀ (i : Nat) (a b : Run), p[i]? = some a → p[i + 1]? = some b → a.1 ≠ b.1) → Alt p
  | [], _ => trivial
  | [_], _ => trivial
  | x :: y :: r, h => ⟨h 0 x y rfl rfl, alt_of_get (p := y :: r) fun i a b h1 h2 => h (i + 1) a b (by simpa using h1) (by simpa using h2)⟩
/-- one run of a path set anew, the same way -/
theorem alt_set {p : List Run} {i : Nat} {r : Run} {m : Int} (h : Alt p) (hr : p[i]? = some r) : Alt (p.set i (r.1, m)) := by
  have key : ∀ (j : Nat) (a : Run), (p.set i (r.1, m))[j]? = some a → ∃ a', p[j]? = some a' ∧ a.1 = a'.1 := fun j a ha => by
    rw [List.getElem?_set] at ha
    split at ha
    · rename_i e
      subst e
      split at ha
      · cases ha; exact ⟨r, hr, rfl⟩
      · cases ha
    · exact ⟨a, ha, rfl⟩
  refine alt_of_get fun j a b ha hb => ?_
  obtain ⟨a', h1, e1⟩ := key j a ha
  obtain ⟨b', h2, e2⟩ := key (j + 1) b hb
  rw [e1, e2]
  exact alt_get h h1 h2
/-! ### a path with one run that can't stand there -/
theorem ck_split : ∀ (l1 : List RunG) (a : Str) (r : RunG) (l2 : List RunG), ck a (l1 ++ r :: l2) = true → ∃ b, okRun b r = true ∧ ck r.1 l2 = true ∧ ∀ x, l1.getLast? = some x → b = x.1
  | [], a, r, l2, h => by
    have h' : (okRun a r && ck r.1 l2) = true := h
    rw [Bool.and_eq_true_iff] at h'
    exact ⟨a, h'.1, h'.2, fun x hx => nomatch hx⟩
  | y :: l1, a, r, l2, h => by
    have h' : (okRun a y && ck y.1 (l1 ++ r :: l2)) = true := h
    rw [Bool.and_eq_true_iff] at h'
    obtain ⟨b, h1, h2, h3⟩ := ck_split l1 y.1 r l2 h'.2
    cases l1 with
    | nil =>
      have h4 : (okRun y.1 r && ck r.1 l2) = true := h'.2
      rw [Bool.and_eq_true_iff] at h4
      exact ⟨y.1, h4.1, h2, fun x hx => by simp at hx; rw [hx]⟩
    | cons z l => exact ⟨b, h1, h2, fun x hx => h3 x (by rw [List.getLast?_cons_cons] at hx; exact hx)⟩
def some7 (w : Bool) (m : Int) : List RunG := [("up", m), ("Left", m), ("", m), (wayS w, 0), (wayS w, -m), (wayS (!w), m), ("lef", m)]
def brkRun (n : Nat) (r : Run) (k : Int) : RunG := if n = 1 ∧ (some7 r.1 r.2).getD k.toNat ("", 0) = (wayS (!r.1), r.2) then ("R", r.2) else (some7 r.1 r.2).getD k.toNat ("", 0)
def broken (p : List Run) (i : Nat) (k : Int) : List RunG := (p.take i).map gen ++ [brkRun p.length (p.getD i (false, 0)) k] ++ (p.drop (i + 1)).map gen
theorem okRun_way {a : Str} {r : RunG} (h : okRun a r = true) : r.1 ∈ (["left", "right"] : List Str) ∧ r.1 ≠ a ∧ 1 ≤ r.2 := by
  unfold okRun at h
  rw [Bool.and_eq_true_iff, Bool.and_eq_true_iff] at h
  refine ⟨of_decide_eq_true h.1, ?_, of_decide_eq_true h.2.2⟩
  have := h.2.1
  simpa using this
theorem bnot_of_ne {a b : Bool} (h : a ≠ b) : (!a) = b := by cases a <;> cases b <;> first | rfl | exact absurd rfl h
theorem broken_ck {p : List Run} {i : Nat} {k : Int} (ha : Alt p) (h1 : ∀ r ∈ p, 1 ≤ r.2) (hi : i < p.length) (k0 : 0 ≤ k) (k7 : k < 7) : ck "" (broken p i k) = false := by
  refine Bool.eq_false_iff.mpr fun hc => ?_
  have hr : p[i]? = some p[i] := List.getElem?_eq_getElem hi
  have m1 : 1 ≤ p[i].2 := h1 _ (List.getElem_mem hi)
  have eg : p.getD i (false, 0) = p[i] := by simp [List.getD_eq_getElem?_getD, hr]
  have e : broken p i k = (p.take i).map gen ++ brkRun p.length p[i] k :: (p.drop (i + 1)).map gen := by unfold broken; rw [eg, List.append_assoc]; rfl
  rw [e] at hc
  obtain ⟨b, c1, c2, c3⟩ := ck_split _ _ _ _ hc
  have o := okRun_way c1
  have other : brkRun p.length p[i] k = (wayS (!p[i].1), p[i].2) → 2 ≤ p.length → False := fun eo h2 => by
    by_cases z : i = 0
    · subst z
      have h1' : 1 < p.length := by omega
      have e1 : p[1]? = some p[1] := List.getElem?_eq_getElem h1'
      have d1 : p.drop 1 = p[1] :: p.drop 2 := List.drop_eq_getElem_cons h1'
      have a := alt_get ha hr e1
      rw [eo] at c2
      rw [show 0 + 1 = 1 from rfl, d1] at c2
      have c4 : (okRun (wayS (!p[0].1)) (gen p[1]) && ck (gen p[1]).1 ((p.drop 2).map gen)) = true := c2
      rw [Bool.and_eq_true_iff] at c4
      refine (okRun_way c4.1).2.1 ?_
      show wayS p[1].1 = wayS (!p[0].1)
      rw [bnot_of_ne a]
    · obtain ⟨j, rfl⟩ : ∃ j, i = j + 1 := ⟨i - 1, by omega⟩
      have hj : j < p.length := by omega
      have e1 : p[j]? = some p[j] := List.getElem?_eq_getElem hj
      have a := alt_get ha e1 hr
      have gl : ((p.take (j + 1)).map gen).getLast? = some (gen p[j]) := by
        rw [List.take_add_one, e1, List.map_append]
        exact List.getLast?_concat
      have hb := c3 _ gl
      rw [eo] at o
      refine o.2.1 ?_
      rw [hb]
      show wayS (!p[j + 1].1) = wayS p[j].1
      rw [bnot_of_ne (Ne.symm a)]
  have hn : ¬ ("R" : Str) ∈ (["left", "right"] : List Str) := by decide +kernel
  unfold brkRun at o
  have kk : k = 0 ∨ k = 1 ∨ k = 2 ∨ k = 3 ∨ k = 4 ∨ k = 5 ∨ k = 6 := by omega
  split at o
  · exact hn o.1
  · rename_i hne
    rcases kk with rfl | rfl | rfl | rfl | rfl | rfl | rfl
    · exact absurd (show ("up" : Str) ∈ (["left", "right"] : List Str) from o.1) (by decide +kernel)
    · exact absurd (show ("Left" : Str) ∈ (["left", "right"] : List Str) from o.1) (by decide +kernel)
    · exact absurd (show ("" : Str) ∈ (["left", "right"] : List Str) from o.1) (by decide +kernel)
    · exact absurd (show (1 : Int) ≤ 0 from o.2.2) (by decide)
    · have : 1 ≤ -p[i].2 := o.2.2
      omega
    · by_cases z : p.length = 1
      · exact hne ⟨z, rfl⟩
      · refine other ?_ (by omega)
        unfold brkRun
        rw [if_neg hne]
        rfl
    · exact absurd (show ("lef" : Str) ∈ (["left", "right"] : List Str) from o.1) (by decide +kernel)
theorem runG_eqv (r s : RunG) : PyData.eqv (runG r) (runG s) = decide (r = s) := by
  obtain ⟨a, m⟩ := r
  obtain ⟨b, n⟩ := s
  show PyData.eqv (.tuple [.str a, .int m]) (.tuple [.str b, .int n]) = _
  simp only [PyData.eqv, PyData.eqvAll, Bool.and_true]
  by_cases h : a = b
  · subst h
    by_cases k : m = n
    · subst k; simp
    · simp [k]
  · have h2 : (a == b) = false := by simpa using h
    rw [h2]
    simp [h]
theorem runG_imm : ∀ p : List RunG, immAll (p.map runG) = true
  | [] => rfl
  | r :: p => by
    show (imm (runG r) && immAll (p.map runG)) = true
    rw [runG_imm p]
    rfl
end NF
namespace NF
open PySem L2
/-! ### neighbours on both sides of a fraction -/
theorem mul_pos1 {a b : Int} (ha : 1 ≤ a) (hb : 1 ≤ b) : 1 ≤ a * b := by have := Int.mul_pos (show 0 < a by omega) (show 0 < b by omega); omega
theorem le_mul1 {a b : Int} (ha : 0 ≤ a) (hb : 1 ≤ b) : a ≤ a * b := by have := Int.mul_le_mul_of_nonneg_left hb ha; omega
theorem det_gcd {a b c d : Int} (h : c * b - a * d = 1) : Int.gcd a b = 1 := by
  have h1 : (Int.gcd a b : Int) ∣ 1 := by
    rw [← h]
    exact Int.dvd_sub (Int.dvd_mul_of_dvd_right (Int.gcd_dvd_right a b)) (Int.dvd_mul_of_dvd_left (Int.gcd_dvd_left a b))
  have := Int.eq_one_of_dvd_one (by omega) h1
  omega
theorem det_gcd2 {a b c d : Int} (h : c * b - a * d = 1) : Int.gcd c d = 1 := det_gcd (a := c) (b := d) (c := -a) (d := -b) (by grind)
/-- what lies between two neighbours has a great lower part -/
theorem between_le {a b c d x y : Int} (h : c * b - a * d = 1) (hb : 1 ≤ b) (hd : 1 ≤ d) (h1 : a * y < x * b) (h2 : x * d < c * y) : b + d ≤ y := by
  have e : y = b * (c * y - x * d) + d * (x * b - a * y) := by grind
  have p1 := le_mul1 (a := b) (b := c * y - x * d) (by omega) (by omega)
  have p2 := le_mul1 (a := d) (b := x * b - a * y) (by omega) (by omega)
  omega
theorem fr_trans {a b u v c d : Int} (hb : 1 ≤ b) (hv : 1 ≤ v) (hd : 1 ≤ d) (h1 : a * v < u * b) (h2 : u * d < c * v) : a * d < c * b := by
  have p1 := Int.mul_lt_mul_of_pos_right h1 (show 0 < d by omega)
  have p2 := Int.mul_lt_mul_of_pos_right h2 (show 0 < b by omega)
  refine Int.lt_of_mul_lt_mul_right (a := v) ?_ (by omega)
  have e1 : a * d * v = a * v * d := by grind
  have e2 : c * b * v = c * v * b := by grind
  have e3 : u * b * d = u * d * b := by grind
  omega
theorem fr_ne {u v x y : Int} (f : Fr u v) (g : Fr x y) (h : y ≠ v) : x * v ≠ u * y := fun e => h (g.eq f e).2
structure Nb (u v m a b c d : Int) : Prop where
  a0 : 0 ≤ a
  b1 : 1 ≤ b
  d1 : 1 ≤ d
  det : c * b - a * d = 1
  lo : a * v < u * b
  hi : u * d < c * v
  bm : b ≤ m
  dm : d ≤ m
theorem Nb.fl {u v m a b c d : Int} (h : Nb u v m a b c d) : Fr a b := ⟨h.a0, h.b1, det_gcd h.det⟩
theorem Nb.c1 {u v m a b c d : Int} (h : Nb u v m a b c d) : 1 ≤ c := by
  have h1 := h.det
  have h2 := Int.mul_nonneg h.a0 (show 0 ≤ d by have := h.d1; omega)
  have hb := h.b1
  by_cases z : 1 ≤ c
  · exact z
  · have := Int.mul_nonpos_of_nonpos_of_nonneg (show c ≤ 0 by omega) (show 0 ≤ b by omega)
    omega
theorem Nb.fr {u v m a b c d : Int} (h : Nb u v m a b c d) : Fr c d := ⟨by have := h.c1; omega, h.d1, det_gcd2 h.det⟩
theorem Nb.sum {u v m a b c d : Int} (h : Nb u v m a b c d) : (u * b - a * v) * d + (c * v - u * d) * b = v := by have := h.det; grind
theorem Nb.over {u v m a b c d : Int} (h : Nb u v m a b c d) : 1 ≤ c * v - u * d ∧ c * v - u * d ≤ v := by
  have h1 := h.sum
  have h2 := h.lo
  have h3 := h.hi
  have p1 := le_mul1 (a := c * v - u * d) (b := b) (by omega) h.b1
  have p2 := mul_pos1 (a := u * b - a * v) (b := d) (by omega) h.d1
  omega
theorem Nb.short {u v m a b c d : Int} (h : Nb u v m a b c d) : 1 ≤ u * b - a * v ∧ u * b - a * v ≤ v := by
  have h1 := h.sum
  have h2 := h.lo
  have h3 := h.hi
  have p1 := le_mul1 (a := u * b - a * v) (b := d) (by omega) h.d1
  have p2 := mul_pos1 (a := c * v - u * d) (b := b) (by omega) h.b1
  omega
theorem Nb.al {u v m a b c d : Int} (h : Nb u v m a b c d) (hv : 1 ≤ v) (hu : 0 ≤ u) : a ≤ u * m := by
  have h1 := le_mul1 h.a0 hv
  have h2 := h.lo
  have h3 := Int.mul_le_mul_of_nonneg_left h.bm hu
  omega
theorem Nb.cl {u v m a b c d : Int} (h : Nb u v m a b c d) (hv : 1 ≤ v) (hu : 0 ≤ u) : c ≤ u * m + 1 := by
  have h1 := h.over
  have h2 := Int.mul_le_mul_of_nonneg_left h.dm hu
  have h3 := le_mul1 (a := u * m) (b := v) (Int.mul_nonneg hu (by have := h.b1; have := h.bm; omega)) hv
  by_cases z : c ≤ u * m + 1
  · exact z
  · have h4 := Int.mul_le_mul_of_nonneg_right (show u * m + 2 ≤ c by omega) (show 0 ≤ v by omega)
    rw [Int.add_mul] at h4
    omega
theorem nb0 {u v m : Int} (f : Fr u v) (hm : 1 ≤ m) (h : m < v) : Nb u v m (u / v) 1 (u / v + 1) 1 := by
  have d := div_bounds u f.l1
  have hu := Int.ediv_nonneg f.u0 (show 0 ≤ v by have := f.l1; omega)
  have ne := fr_ne f (x := u / v) (y := 1) ⟨hu, by decide, by simp⟩ (by omega)
  have e : (u / v + 1) * v = u / v * v + v := by rw [Int.add_mul, Int.one_mul]
  exact ⟨hu, by decide, by decide, by omega, by omega, by rw [e]; omega, hm, hm⟩
theorem Nb.left {u v m a b c d k : Int} (h : Nb u v m a b c d) (f : Fr u v) (hv : m < v) (hk : 0 ≤ k) (h1 : b + k * d ≤ m) (h2 : k * (c * v - u * d) ≤ u * b - a * v) : Nb u v m (a + k * c) (b + k * d) c d := by
  have p1 := Int.mul_nonneg hk (show 0 ≤ c by have := h.c1; omega)
  have p2 := Int.mul_nonneg hk (show 0 ≤ d by have := h.d1; omega)
  have dt : c * (b + k * d) - (a + k * c) * d = 1 := by have := h.det; grind
  have hb := h.b1
  have ha := h.a0
  have ne := fr_ne f (x := a + k * c) (y := b + k * d) ⟨by omega, by omega, det_gcd dt⟩ (by omega)
  have e : u * (b + k * d) - (a + k * c) * v = u * b - a * v - k * (c * v - u * d) := by grind
  exact ⟨by omega, by omega, h.d1, dt, by omega, h.hi, h1, h.dm⟩
theorem Nb.right {u v m a b c d k : Int} (h : Nb u v m a b c d) (f : Fr u v) (hv : m < v) (hk : 0 ≤ k) (h1 : d + k * b ≤ m) (h2 : k * (u * b - a * v) ≤ c * v - u * d) : Nb u v m a b (c + k * a) (d + k * b) := by
  have p1 := Int.mul_nonneg hk (show 0 ≤ a by have := h.a0; omega)
  have p2 := Int.mul_nonneg hk (show 0 ≤ b by have := h.b1; omega)
  have dt : (c + k * a) * b - a * (d + k * b) = 1 := by have := h.det; grind
  have hd := h.d1
  have hc := h.c1
  have ne := fr_ne f (x := c + k * a) (y := d + k * b) ⟨by omega, by omega, det_gcd2 dt⟩ (by omega)
  have e : (c + k * a) * v - u * (d + k * b) = c * v - u * d - k * (u * b - a * v) := by grind
  exact ⟨h.a0, h.b1, by omega, dt, h.lo, by omega, h.bm, h1⟩
/-- the child of two neighbours takes the place of one -/
theorem Nb.child {u v m a b c d : Int} (h : Nb u v m a b c d) (f : Fr u v) (hv : m < v) (hm : b + d ≤ m) : ((a + c) * v < u * (b + d) ∧ Nb u v m (a + c) (b + d) c d) ∨ (u * (b + d) < (a + c) * v ∧ Nb u v m a b (a + c) (b + d)) := by
  have e1 : (a + c) * v = a * v + c * v := Int.add_mul _ _ _
  have e2 : u * (b + d) = u * b + u * d := Int.mul_add _ _ _
  by_cases z : c * v - u * d ≤ u * b - a * v
  · have n := h.left (k := 1) f hv (by decide) (by omega) (by omega)
    rw [Int.one_mul, Int.one_mul] at n
    exact .inl ⟨n.lo, n⟩
  · have n := h.right (k := 1) f hv (by decide) (by omega) (by omega)
    rw [Int.one_mul, Int.one_mul, Int.add_comm c a, Int.add_comm d b] at n
    exact .inr ⟨n.hi, n⟩
theorem nb_go {u v m : Int} (f : Fr u v) (hv : m < v) : ∀ (n : Nat) (a b c d : Int), Nb u v m a b c d → (2 * m - b - d).toNat ≤ n → ∃ a b c d, Nb u v m a b c d ∧ m < b + d := by
  intro n
  induction n with
  | zero =>
    intro a b c d h hn
    have := h.b1; have := h.d1; have := h.bm; have := h.dm
    exact ⟨a, b, c, d, h, by omega⟩
  | succ n ih =>
    intro a b c d h hn
    have hb := h.b1; have hd := h.d1; have hbm := h.bm; have hdm := h.dm
    by_cases z : b + d ≤ m
    · rcases h.child f hv z with ⟨_, k⟩ | ⟨_, k⟩
      · exact ih _ _ _ _ k (by omega)
      · exact ih _ _ _ _ k (by omega)
    · exact ⟨a, b, c, d, h, by omega⟩
theorem nb_ex {u v m : Int} (f : Fr u v) (hm : 1 ≤ m) (hv : m < v) : ∃ a b c d, Nb u v m a b c d ∧ m < b + d := nb_go f hv _ _ _ _ _ (nb0 f hm hv) (Nat.le_refl _)
theorem nb_uniq {u v m a b c d a' b' c' d' : Int} (hv : 1 ≤ v) (h : Nb u v m a b c d) (e : m < b + d) (h' : Nb u v m a' b' c' d') (e' : m < b' + d') : a = a' ∧ b = b' ∧ c = c' ∧ d = d' := by
  have l1 : ¬ a * b' < a' * b := fun z => by
    have := between_le h.det h.b1 h.d1 z (fr_trans h'.b1 hv h.d1 h'.lo h.hi)
    have := h'.bm
    omega
  have l2 : ¬ a' * b < a * b' := fun z => by
    have := between_le h'.det h'.b1 h'.d1 z (fr_trans h.b1 hv h'.d1 h.lo h'.hi)
    have := h.bm
    omega
  have r1 : ¬ c' * d < c * d' := fun z => by
    have := between_le h.det h.b1 h.d1 (fr_trans h.b1 hv h'.d1 h.lo h'.hi) z
    have := h'.dm
    omega
  have r2 : ¬ c * d' < c' * d := fun z => by
    have := between_le h'.det h'.b1 h'.d1 (fr_trans h'.b1 hv h.d1 h'.lo h.hi) z
    have := h.dm
    omega
  have el := h.fl.eq h'.fl (by omega)
  have er := h.fr.eq h'.fr (by omega)
  exact ⟨el.1, el.2, er.1, er.2⟩
def mn (i j : Int) : Int := if j < i then j else i
theorem mn_le (i j : Int) : mn i j ≤ i ∧ mn i j ≤ j ∧ (mn i j = i ∨ mn i j = j) := by unfold mn; split <;> omega
theorem ard_left {u v m a b c d : Int} (h : Nb u v m a b c d) (f : Fr u v) (hv : m < v) (hm : b + d ≤ m) :
    0 ≤ mn ((u * b - a * v) / (c * v - u * d)) ((m - b) / d) ∧ mn ((u * b - a * v) / (c * v - u * d)) ((m - b) / d) ≤ v ∧ Nb u v m (a + mn ((u * b - a * v) / (c * v - u * d)) ((m - b) / d) * c) (b + mn ((u * b - a * v) / (c * v - u * d)) ((m - b) / d) * d) c d ∧ (mn ((u * b - a * v) / (c * v - u * d)) ((m - b) / d) = 0 → u * b - a * v < c * v - u * d) := by
  have ho := h.over
  have hs := h.short
  have hd := h.d1
  have q1 := div_bounds (u * b - a * v) ho.1
  have q2 := div_bounds (m - b) hd
  have p1 := Int.ediv_nonneg (show 0 ≤ u * b - a * v by omega) (show 0 ≤ c * v - u * d by omega)
  have p2 := Int.ediv_nonneg (show 0 ≤ m - b by omega) (show 0 ≤ d by omega)
  have p3 := Int.ediv_le_self (c * v - u * d) (show 0 ≤ u * b - a * v by omega)
  have p4 : 1 ≤ (m - b) / d := Int.le_ediv_of_mul_le (by omega) (by omega)
  have g := mn_le ((u * b - a * v) / (c * v - u * d)) ((m - b) / d)
  have g1 := Int.mul_le_mul_of_nonneg_right g.1 (show 0 ≤ c * v - u * d by omega)
  have g2 := Int.mul_le_mul_of_nonneg_right g.2.1 (show 0 ≤ d by omega)
  refine ⟨by omega, by omega, h.left f hv (by omega) (by omega) (by omega), fun z => ?_⟩
  have z2 : (u * b - a * v) / (c * v - u * d) = 0 := by omega
  rw [z2] at q1
  omega
theorem ard_right {u v m a b c d : Int} (h : Nb u v m a b c d) (f : Fr u v) (hv : m < v) :
    0 ≤ mn ((c * v - u * d) / (u * b - a * v)) ((m - d) / b) ∧ mn ((c * v - u * d) / (u * b - a * v)) ((m - d) / b) ≤ v ∧ Nb u v m a b (c + mn ((c * v - u * d) / (u * b - a * v)) ((m - d) / b) * a) (d + mn ((c * v - u * d) / (u * b - a * v)) ((m - d) / b) * b) ∧ (b + d ≤ m → u * b - a * v < c * v - u * d → 1 ≤ mn ((c * v - u * d) / (u * b - a * v)) ((m - d) / b)) := by
  have ho := h.over
  have hs := h.short
  have hb := h.b1
  have hdm := h.dm
  have q1 := div_bounds (c * v - u * d) hs.1
  have q2 := div_bounds (m - d) hb
  have p1 := Int.ediv_nonneg (show 0 ≤ c * v - u * d by omega) (show 0 ≤ u * b - a * v by omega)
  have p2 := Int.ediv_nonneg (show 0 ≤ m - d by omega) (show 0 ≤ b by omega)
  have p3 := Int.ediv_le_self (u * b - a * v) (show 0 ≤ c * v - u * d by omega)
  have g := mn_le ((c * v - u * d) / (u * b - a * v)) ((m - d) / b)
  have g1 := Int.mul_le_mul_of_nonneg_right g.1 (show 0 ≤ u * b - a * v by omega)
  have g2 := Int.mul_le_mul_of_nonneg_right g.2.1 (show 0 ≤ b by omega)
  refine ⟨by omega, by omega, h.right f hv (by omega) (by omega) (by omega), fun z1 z2 => ?_⟩
  have p4 : 1 ≤ (m - d) / b := Int.le_ediv_of_mul_le (by omega) (by omega)
  have p5 : 1 ≤ (c * v - u * d) / (u * b - a * v) := Int.le_ediv_of_mul_le (by omega) (by omega)
  omega
/-- what around answers -/
def Ard (u v m : Int) (x : (Int × Int) × (Int × Int)) : Prop := (v ≤ m ∧ x = ((u, v), (u, v))) ∨ (m < v ∧ Nb u v m x.1.1 x.1.2 x.2.1 x.2.2 ∧ m < x.1.2 + x.2.2)
theorem ard_ex {u v m : Int} (f : Fr u v) (hm : 1 ≤ m) : ∃ x, Ard u v m x := by
  by_cases z : v ≤ m
  · exact ⟨_, .inl ⟨z, rfl⟩⟩
  · obtain ⟨a, b, c, d, h, e⟩ := nb_ex f hm (show m < v by omega)
    exact ⟨((a, b), (c, d)), .inr ⟨by omega, h, e⟩⟩
theorem ard_uniq {u v m : Int} (hv : 1 ≤ v) {x y : (Int × Int) × (Int × Int)} (h : Ard u v m x) (k : Ard u v m y) : x = y := by
  rcases h with ⟨h1, h2⟩ | ⟨h1, h2, h3⟩ <;> rcases k with ⟨k1, k2⟩ | ⟨k1, k2, k3⟩
  · rw [h2, k2]
  · omega
  · omega
  · obtain ⟨e1, e2, e3, e4⟩ := nb_uniq hv h2 h3 k2 k3
    obtain ⟨⟨a, b⟩, c, d⟩ := x
    obtain ⟨⟨a', b'⟩, c', d'⟩ := y
    dsimp only at e1 e2 e3 e4
    rw [e1, e2, e3, e4]
inductive BadM : PyData → Prop
  | odd {x : PyData} (h : isInt x = false) : BadM x
  | low {i : Int} (h : i < 1) : BadM (.int i)
def fD (a b : Int) : PyData := .tuple [.int a, .int b]
end NF
namespace NF
open PySem L2
/-! ### what lies nearest -/
def ab (i : Int) : Int := if i < 0 then -i else i
theorem ab_nonneg (i : Int) : 0 ≤ ab i := by unfold ab; split <;> omega
theorem ab_pos {i : Int} (h : 0 ≤ i) : ab i = i := by unfold ab; rw [if_neg (by omega)]
theorem ab_neg {i : Int} (h : i ≤ 0) : ab i = -i := by unfold ab; split <;> omega
theorem ab_natAbs (i : Int) : (ab i).natAbs = i.natAbs := by unfold ab; split <;> omega
theorem Bd.ab {n : Nat} {i : Int} (h : Bd n i) : Bd n (NF.ab i) := by unfold Bd; rw [ab_natAbs]; exact h
theorem red_lt {p q r s : Int} (hq : 1 ≤ q) (hs : 1 ≤ s) : gu p q * gl r s < gu r s * gl p q ↔ p * s < r * q := by
  have h1 := gu_mul p q
  have h2 := gl_mul p q
  have h3 := gu_mul r s
  have h4 := gl_mul r s
  have g1 := gcd_pos' (u := p) hq
  have g2 := gcd_pos' (u := r) hs
  generalize (Int.gcd p q : Int) = g at *
  generalize (Int.gcd r s : Int) = h at *
  generalize gu p q = a at *
  generalize gl p q = b at *
  generalize gu r s = c at *
  generalize gl r s = d at *
  have e1 : p * s = a * d * (g * h) := by rw [← h1, ← h4]; grind
  have e2 : r * q = c * b * (g * h) := by rw [← h3, ← h2]; grind
  have gh : 0 < g * h := Int.mul_pos g1 g2
  rw [e1, e2]
  exact ⟨fun z => Int.mul_lt_mul_of_pos_right z gh, fun z => Int.lt_of_mul_lt_mul_right z (by omega)⟩
theorem red_eq {p q r s : Int} (hp : 0 ≤ p) (hq : 1 ≤ q) (hr : 0 ≤ r) (hs : 1 ≤ s) : (gu p q = gu r s ∧ gl p q = gl r s) ↔ p * s = r * q := by
  have k1 := red_lt (p := p) (q := q) (r := r) (s := s) hq hs
  have k2 := red_lt (p := r) (q := s) (r := p) (s := q) hs hq
  constructor
  · rintro ⟨h1, h2⟩
    rw [h1, h2] at k1 k2
    omega
  · intro h
    exact (fr_of hp hq).eq (fr_of hr hs) (by omega)
theorem Ard.fr {u v m : Int} (f : Fr u v) {y : (Int × Int) × (Int × Int)} (h : Ard u v m y) : Fr y.1.1 y.1.2 ∧ Fr y.2.1 y.2.2 ∧ y.1.2 ≤ m ∧ y.2.2 ≤ m := by
  rcases h with ⟨h1, rfl⟩ | ⟨h1, h2, h3⟩
  · exact ⟨f, f, h1, h1⟩
  · exact ⟨h2.fl, h2.fr, h2.bm, h2.dm⟩
structure ArB (n : Nat) (y : (Int × Int) × (Int × Int)) : Prop where
  a : Bd (2 * n + 1) y.1.1
  b : Bd n y.1.2
  c : Bd (2 * n + 1) y.2.1
  d : Bd n y.2.2
theorem Ard.bd {n : Nat} {u v m : Int} (f : Fr u v) (bu : Bd n u) (bv : Bd n v) (bm : Bd n m) {y : (Int × Int) × (Int × Int)} (h : Ard u v m y) : ArB n y := by
  have g := h.fr f
  have u0 := f.u0
  have v1 := f.l1
  rcases h with ⟨h1, rfl⟩ | ⟨h1, h2, h3⟩
  · exact ⟨bu.mono (by omega), bv, bu.mono (by omega), bv⟩
  · have bum := bu.mul bm
    have c1 := h2.c1
    refine ⟨(bum.of_le h2.a0 (h2.al v1 u0)).mono (by omega), bm.of_le (by have := h2.b1; omega) h2.bm, ?_, bm.of_le (by have := h2.d1; omega) h2.dm⟩
    refine ((bum.add (j := 1) (m := n + n) ?_).of_le (by omega) (h2.cl v1 u0)).mono (by omega)
    have n1 : 1 ≤ n := by
      by_cases z : n = 0
      · subst z
        unfold Bd at bv
        omega
      · omega
    exact Bd.mono (n := 1) (show Bd 1 1 by decide) (by omega)
/-- how far off the two sides lie -/
theorem Ard.off {u v m : Int} (f : Fr u v) {y : (Int × Int) × (Int × Int)} (h : Ard u v m y) : 0 ≤ u * y.1.2 - y.1.1 * v ∧ u * y.1.2 - y.1.1 * v ≤ v ∧ 0 ≤ y.2.1 * v - u * y.2.2 ∧ y.2.1 * v - u * y.2.2 ≤ v := by
  have v1 := f.l1
  rcases h with ⟨h1, rfl⟩ | ⟨h1, h2, h3⟩
  · dsimp only; omega
  · have a := h2.short
    have b := h2.over
    omega
def nearR (u v a b c d : Int) : Bool := decide ((c * v - u * d) * b < (u * b - a * v) * d) || (decide ((u * b - a * v) * d = (c * v - u * d) * b) && decide (d < b))
def nearP (u v : Int) (y : (Int × Int) × (Int × Int)) : Int × Int := if nearR u v y.1.1 y.1.2 y.2.1 y.2.2 = true then y.2 else y.1
theorem nearP_or (u v : Int) (y : (Int × Int) × (Int × Int)) : nearP u v y = y.1 ∨ nearP u v y = y.2 := by unfold nearP; split <;> simp
theorem nearP_self (u v : Int) : nearP u v ((u, v), (u, v)) = (u, v) := by unfold nearP; split <;> rfl
/-- one fraction beats another one -/
def Beats (p q x y u v : Int) : Prop := ab (p * v - u * q) * y < ab (x * v - u * y) * q ∨ (ab (p * v - u * q) * y = ab (x * v - u * y) * q ∧ (q < gl x y ∨ (q = gl x y ∧ p ≤ gu x y)))
def BeatsR (p q g h u v : Int) : Prop := ab (p * v - u * q) * h < ab (g * v - u * h) * q ∨ (ab (p * v - u * q) * h = ab (g * v - u * h) * q ∧ (q < h ∨ (q = h ∧ p ≤ g)))
theorem ab_mul {k : Int} (hk : 0 ≤ k) (i : Int) : ab (i * k) = ab i * k := by
  unfold ab
  by_cases z : i < 0
  · rw [if_pos z]
    have := Int.mul_nonneg (show 0 ≤ -i by omega) hk
    rw [Int.neg_mul] at this ⊢
    split <;> omega
  · rw [if_neg z, if_neg]
    have := Int.mul_nonneg (show 0 ≤ i by omega) hk
    omega
theorem beats_red {p q x y u v : Int} (hy : 1 ≤ y) (h : BeatsR p q (gu x y) (gl x y) u v) : Beats p q x y u v := by
  have h1 := gu_mul x y
  have h2 := gl_mul x y
  have g1 := gcd_pos' (u := x) hy
  unfold BeatsR at h
  unfold Beats
  generalize (Int.gcd x y : Int) = k at *
  generalize gu x y = g at *
  generalize gl x y = l at *
  subst h1 h2
  have e1 : g * k * v - u * (l * k) = (g * v - u * l) * k := by grind
  rw [e1, ab_mul (by omega)]
  have e2 : ab (p * v - u * q) * (l * k) = ab (p * v - u * q) * l * k := by grind
  have e3 : ab (g * v - u * l) * k * q = ab (g * v - u * l) * q * k := by grind
  rw [e2, e3]
  rcases h with h | ⟨h, h'⟩
  · exact .inl (Int.mul_lt_mul_of_pos_right h g1)
  · exact .inr ⟨by rw [h], h'⟩
theorem near_beatsR {u v m g h : Int} (f : Fr u v) {y : (Int × Int) × (Int × Int)} (hy : Ard u v m y) (r : Fr g h) (hm : h ≤ m) : BeatsR (nearP u v y).1 (nearP u v y).2 g h u v := by
  have v1 := f.l1
  have h1 := r.l1
  rcases hy with ⟨z1, rfl⟩ | ⟨z1, n, z3⟩
  · rw [nearP_self]
    unfold BeatsR
    dsimp only
    have e0 : ab (u * v - u * v) = 0 := by rw [Int.sub_self]; rfl
    rw [e0, Int.zero_mul]
    by_cases z : g * v = u * h
    · obtain ⟨rfl, rfl⟩ := r.eq f z
      rw [e0, Int.zero_mul]
      exact .inr ⟨rfl, .inr ⟨rfl, Int.le_refl _⟩⟩
    · left
      have := ab_nonneg (g * v - u * h)
      have : ab (g * v - u * h) ≠ 0 := by
        unfold ab
        split <;> omega
      exact Int.mul_pos (by omega) (by omega)
  obtain ⟨⟨a, b⟩, c, d⟩ := y
  dsimp only at n z3
  have b1 := n.b1
  have d1 := n.d1
  have sl := n.short
  have sr := n.over
  have dt := n.det
  have hmul : ∀ {x y z : Int}, 1 ≤ z → x * z < y * z → x < y := fun hz hh => Int.lt_of_mul_lt_mul_right hh (by omega)
  have emul : ∀ {x y z : Int}, 1 ≤ z → x * z = y * z → x = y := fun hz hh => Int.eq_of_mul_eq_mul_right (by omega) hh
  unfold nearP BeatsR
  dsimp only
  by_cases A : g * b ≤ a * h
  · have tb : (u * h - g * v) * b = (u * b - a * v) * h + v * (a * h - g * b) := by grind
    have w0 := Int.mul_nonneg (show 0 ≤ v by omega) (show 0 ≤ a * h - g * b by omega)
    have t1 : 1 ≤ u * h - g * v := by
      have p := mul_pos1 sl.1 h1
      by_cases z : 1 ≤ u * h - g * v
      · exact z
      · have := Int.mul_nonpos_of_nonpos_of_nonneg (show u * h - g * v ≤ 0 by omega) (show 0 ≤ b by omega)
        omega
    have eqs : v * (a * h - g * b) = 0 → g = a ∧ h = b := fun z => by
      have : a * h - g * b = 0 := by
        rcases Int.mul_eq_zero.mp z with e | e
        · omega
        · exact e
      exact r.eq n.fl (by omega)
    rw [ab_neg (show g * v - u * h ≤ 0 by omega), show -(g * v - u * h) = u * h - g * v by omega]
    generalize hT : u * h - g * v = T at *
    generalize hL : u * b - a * v = sL at *
    generalize hR : c * v - u * d = sR at *
    cases hN : nearR u v a b c d with
    | false =>
      rw [if_neg (by decide)]
      dsimp only
      rw [ab_neg (show a * v - u * b ≤ 0 by omega), show -(a * v - u * b) = sL by omega]
      by_cases z : v * (a * h - g * b) = 0
      · obtain ⟨rfl, rfl⟩ := eqs z
        exact .inr ⟨by omega, .inr ⟨rfl, Int.le_refl _⟩⟩
      · exact .inl (by omega)
    | true =>
      rw [if_pos rfl]
      dsimp only
      rw [ab_pos (show 0 ≤ c * v - u * d by omega), hR]
      unfold nearR at hN
      rw [hL, hR, Bool.or_eq_true_iff] at hN
      rcases hN with hN | hN
      · have hN := of_decide_eq_true hN
        left
        refine hmul b1 ?_
        have p := Int.mul_lt_mul_of_pos_right hN (show 0 < h by omega)
        have q := Int.mul_le_mul_of_nonneg_right (show sL * h ≤ T * b by omega) (show 0 ≤ d by omega)
        have e1 : sR * h * b = sR * b * h := by grind
        have e2 : T * d * b = T * b * d := by grind
        have e3 : sL * d * h = sL * h * d := by grind
        omega
      · rw [Bool.and_eq_true_iff] at hN
        have hN1 := of_decide_eq_true hN.1
        have hN2 := of_decide_eq_true hN.2
        have e1 : sR * h * b = sL * h * d := by grind
        have e2 : T * d * b = sL * h * d + v * (a * h - g * b) * d := by grind
        by_cases z : v * (a * h - g * b) = 0
        · obtain ⟨rfl, rfl⟩ := eqs z
          right
          refine ⟨?_, .inl hN2⟩
          refine emul b1 ?_
          rw [z] at e2
          omega
        · left
          refine hmul b1 ?_
          have := mul_pos1 (show 1 ≤ v * (a * h - g * b) by omega) d1
          omega
  · have B : c * h ≤ g * d := by
      by_cases z : c * h ≤ g * d
      · exact z
      · have := between_le dt b1 d1 (show a * h < g * b by omega) (show g * d < c * h by omega)
        omega
    have tb : (g * v - u * h) * d = (c * v - u * d) * h + v * (g * d - c * h) := by grind
    have w0 := Int.mul_nonneg (show 0 ≤ v by omega) (show 0 ≤ g * d - c * h by omega)
    have t1 : 1 ≤ g * v - u * h := by
      have p := mul_pos1 sr.1 h1
      by_cases z : 1 ≤ g * v - u * h
      · exact z
      · have := Int.mul_nonpos_of_nonpos_of_nonneg (show g * v - u * h ≤ 0 by omega) (show 0 ≤ d by omega)
        omega
    have eqs : v * (g * d - c * h) = 0 → g = c ∧ h = d := fun z => by
      have : g * d - c * h = 0 := by
        rcases Int.mul_eq_zero.mp z with e | e
        · omega
        · exact e
      exact r.eq n.fr (by omega)
    rw [ab_pos (show 0 ≤ g * v - u * h by omega)]
    generalize hT : g * v - u * h = T at *
    generalize hL : u * b - a * v = sL at *
    generalize hR : c * v - u * d = sR at *
    cases hN : nearR u v a b c d with
    | true =>
      rw [if_pos rfl]
      dsimp only
      rw [ab_pos (show 0 ≤ c * v - u * d by omega), hR]
      by_cases z : v * (g * d - c * h) = 0
      · obtain ⟨rfl, rfl⟩ := eqs z
        exact .inr ⟨by omega, .inr ⟨rfl, Int.le_refl _⟩⟩
      · exact .inl (by omega)
    | false =>
      rw [if_neg (by decide)]
      dsimp only
      rw [ab_neg (show a * v - u * b ≤ 0 by omega), show -(a * v - u * b) = sL by omega]
      unfold nearR at hN
      rw [hL, hR, Bool.or_eq_false_iff, Bool.and_eq_false_iff] at hN
      have hN1 := of_decide_eq_false hN.1
      have e2 : T * b * d = sR * b * h + v * (g * d - c * h) * b := by grind
      have e3 : sL * h * d = sL * d * h := by grind
      have p0 := Int.mul_nonneg w0 (show 0 ≤ b by omega)
      by_cases z : sL * d = sR * b
      · by_cases z2 : v * (g * d - c * h) = 0
        · obtain ⟨rfl, rfl⟩ := eqs z2
          right
          refine ⟨emul d1 ?_, ?_⟩
          · rw [z2] at e2
            rw [z]
            omega
          · have hbd : b ≤ h := by
              rcases hN.2 with k | k
              · exact absurd z (of_decide_eq_false k)
              · have := of_decide_eq_false k
                omega
            by_cases z3 : b < h
            · exact .inl z3
            · have e : b = h := by omega
              subst e
              refine .inr ⟨rfl, ?_⟩
              by_cases z4 : a ≤ g
              · exact z4
              · have := Int.mul_le_mul_of_nonneg_right (show g ≤ a by omega) (show 0 ≤ b by omega)
                omega
        · left
          refine hmul d1 ?_
          have := mul_pos1 (show 1 ≤ v * (g * d - c * h) by omega) b1
          rw [z] at e3
          omega
      · left
        refine hmul d1 ?_
        have := Int.mul_lt_mul_of_pos_right (show sL * d < sR * b by omega) (show 0 < h by omega)
        omega
theorem near_beats {u v m x z : Int} (f : Fr u v) {y : (Int × Int) × (Int × Int)} (hy : Ard u v m y) (hx : 0 ≤ x) (hz : 1 ≤ z) (hm : z ≤ m) : Beats (nearP u v y).1 (nearP u v y).2 x z u v :=
  beats_red hz (near_beatsR f hy (fr_of hx hz) (by have := gl_le (u := x) hz; omega))
end NF
namespace NF
open PySem L2
/-! ### fractions that are nearer than all with lesser lower parts -/
def fP (x : Int × Int) : PyData := fD x.1 x.2
def rU (u v t : Int) : Int := if v - (u * t - u * t / v * v) < u * t - u * t / v * v then u * t / v + 1 else u * t / v
def oF (u v x t : Int) : Int := ab (u * t - x * v)
def dueS (u v : Int) (n : Nat) (F : List (Int × Int)) : List (Int × Int) := match F.getLast? with
  | none => F ++ [(rU u v (n + 1 : Nat), ((n + 1 : Nat) : Int))]
  | some e => if oF u v (rU u v (n + 1 : Nat)) (n + 1 : Nat) * e.2 < oF u v e.1 e.2 * (n + 1 : Nat) then F ++ [(rU u v (n + 1 : Nat), ((n + 1 : Nat) : Int))] else F
def dueL (u v : Int) : Nat → List (Int × Int)
  | 0 => []
  | n + 1 => dueS u v n (dueL u v n)
theorem oF_nonneg (u v x t : Int) : 0 ≤ oF u v x t := ab_nonneg _
theorem rU_off {u v t : Int} (hv : 1 ≤ v) : oF u v (rU u v t) t = if v - (u * t - u * t / v * v) < u * t - u * t / v * v then v - (u * t - u * t / v * v) else u * t - u * t / v * v := by
  have h := div_bounds (u * t) hv
  unfold oF rU
  generalize u * t / v = q at *
  generalize u * t = y at *
  have e : (q + 1) * v = q * v + v := by grind
  split
  · rw [e, ab_neg (by omega)]
    omega
  · rw [ab_pos (by omega)]
theorem rU_min {u v t : Int} (hv : 1 ≤ v) (x : Int) : oF u v (rU u v t) t ≤ oF u v x t := by
  rw [rU_off hv]
  have h := div_bounds (u * t) hv
  unfold oF
  generalize u * t / v = q at *
  generalize u * t = y at *
  by_cases z : x ≤ q
  · have p := Int.mul_le_mul_of_nonneg_right z (show 0 ≤ v by omega)
    rw [ab_pos (by omega)]
    split <;> omega
  · have p := Int.mul_le_mul_of_nonneg_right (show q + 1 ≤ x by omega) (show 0 ≤ v by omega)
    have e : (q + 1) * v = q * v + v := by grind
    rw [ab_neg (by omega)]
    split <;> omega
theorem rU_nonneg {u v t : Int} (hu : 0 ≤ u) (hv : 1 ≤ v) (ht : 0 ≤ t) : 0 ≤ rU u v t := by
  have := Int.ediv_nonneg (Int.mul_nonneg hu ht) (show 0 ≤ v by omega)
  unfold rU
  split <;> omega
theorem lt_cancel {x y z : Int} (hz : 1 ≤ z) (h : x * z < y * z) : x < y := Int.lt_of_mul_lt_mul_right h (by omega)
theorem le_cancel {x y z : Int} (hz : 1 ≤ z) (h : x * z ≤ y * z) : x ≤ y := Int.le_of_mul_le_mul_right h (by omega)
/-- the last one is the nearest so far -/
structure Best (u v : Int) (n : Nat) (e : Int × Int) : Prop where
  l1 : 1 ≤ e.2
  ln : e.2 ≤ n
  b : ∀ t x : Int, 1 ≤ t → t ≤ n → oF u v e.1 e.2 * t ≤ oF u v x t * e.2
theorem due_best {u v : Int} (hv : 1 ≤ v) : ∀ n : Nat, 1 ≤ n → ∃ e, (dueL u v n).getLast? = some e ∧ Best u v n e
  | 0, h => by omega
  | 1, _ => ⟨(rU u v 1, 1), rfl, Int.le_refl 1, Int.le_refl 1, fun t x h1 h2 => by
      have e : t = 1 := by omega
      subst e
      show oF u v (rU u v 1) 1 * 1 ≤ oF u v x 1 * 1
      have := rU_min (u := u) (t := 1) hv x
      omega⟩
  | n + 2, _ => by
    obtain ⟨e, he, hb⟩ := due_best (u := u) hv (n + 1) (by omega)
    have hd : dueL u v (n + 2) = if oF u v (rU u v (n + 2 : Nat)) (n + 2 : Nat) * e.2 < oF u v e.1 e.2 * (n + 2 : Nat) then dueL u v (n + 1) ++ [(rU u v (n + 2 : Nat), ((n + 2 : Nat) : Int))] else dueL u v (n + 1) := by
      show dueS u v (n + 1) (dueL u v (n + 1)) = _
      unfold dueS
      rw [he]
    have l1 := hb.l1
    have ln := hb.ln
    have e0 := oF_nonneg u v e.1 e.2
    rw [hd]
    generalize hT : ((n + 2 : Nat) : Int) = T
    have T0 : T = (n : Int) + 2 := by omega
    split
    · rename_i hc
      refine ⟨_, List.getLast?_concat, ?_, ?_, fun t x h1 h2 => ?_⟩
      · show 1 ≤ T; omega
      · show T ≤ ((n + 2 : Nat) : Int); omega
      · show oF u v (rU u v T) T * t ≤ oF u v x t * T
        by_cases z : t ≤ (n + 1 : Nat)
        · have h3 := hb.b t x h1 z
          have p1 := Int.mul_le_mul_of_nonneg_right (Int.le_of_lt hc) (show 0 ≤ t by omega)
          have p2 := Int.mul_le_mul_of_nonneg_right h3 (show 0 ≤ T by omega)
          refine le_cancel l1 ?_
          have q1 : oF u v (rU u v T) T * t * e.2 = oF u v (rU u v T) T * e.2 * t := by grind
          have q2 : oF u v x t * T * e.2 = oF u v x t * e.2 * T := by grind
          have q3 : oF u v e.1 e.2 * T * t = oF u v e.1 e.2 * t * T := by grind
          omega
        · have ez : t = T := by omega
          subst ez
          exact Int.mul_le_mul_of_nonneg_right (rU_min hv x) (by omega)
    · rename_i hc
      refine ⟨e, he, l1, by omega, fun t x h1 h2 => ?_⟩
      by_cases z : t ≤ (n + 1 : Nat)
      · exact hb.b t x h1 z
      · have ez : t = T := by omega
        subst ez
        have := Int.mul_le_mul_of_nonneg_right (rU_min (u := u) (t := t) hv x) (show 0 ≤ e.2 by omega)
        omega
theorem due_next {u v : Int} {n : Nat} {e : Int × Int} (he : (dueL u v n).getLast? = some e) : dueL u v (n + 1) = if oF u v (rU u v (n + 1 : Nat)) (n + 1 : Nat) * e.2 < oF u v e.1 e.2 * (n + 1 : Nat) then dueL u v n ++ [(rU u v (n + 1 : Nat), ((n + 1 : Nat) : Int))] else dueL u v n := by
  show dueS u v n (dueL u v n) = _
  unfold dueS
  rw [he]
theorem due_stay {u v : Int} {n : Nat} {e : Int × Int} (he : (dueL u v n).getLast? = some e) : ∀ k : Nat, (∀ t x : Int, n < t → t ≤ (n + k : Nat) → oF u v e.1 e.2 * t ≤ oF u v x t * e.2) → dueL u v (n + k) = dueL u v n
  | 0, _ => rfl
  | k + 1, h => by
    have ih := due_stay he k fun t x h1 h2 => h t x h1 (by omega)
    have h1 := due_next (n := n + k) (e := e) (by rw [ih]; exact he)
    have h2 := h ((n + k + 1 : Nat) : Int) (rU u v (n + k + 1 : Nat)) (by omega) (by omega)
    rw [if_neg (by omega)] at h1
    show dueL u v (n + k + 1) = _
    rw [h1, ih]
theorem due_len (u v : Int) : ∀ n : Nat, (dueL u v n).length ≤ n
  | 0 => Nat.le_refl _
  | n + 1 => by
    have ih := due_len u v n
    show (dueS u v n (dueL u v n)).length ≤ n + 1
    unfold dueS
    split
    · rw [List.length_append]; exact Nat.add_le_add_right ih 1
    · split
      · rw [List.length_append]; exact Nat.add_le_add_right ih 1
      · omega
theorem due_fr {u v : Int} (hu : 0 ≤ u) (hv : 1 ≤ v) : ∀ n : Nat, ∀ f ∈ dueL u v n, Fr f.1 f.2 ∧ f.2 ≤ n
  | 0, f, hf => by cases hf
  | n + 1, f, hf => by
    have ih := due_fr hu hv n
    have old : f ∈ dueL u v n → Fr f.1 f.2 ∧ f.2 ≤ (n + 1 : Nat) := fun h => ⟨(ih f h).1, by have := (ih f h).2; omega⟩
    by_cases n0 : n = 0
    · subst n0
      have e : f = (rU u v 1, 1) := by simpa [dueL, dueS] using hf
      subst e
      exact ⟨⟨rU_nonneg hu hv (by decide), Int.le_refl 1, by simp⟩, Int.le_refl 1⟩
    obtain ⟨e, he, hb⟩ := due_best (u := u) hv n (by omega)
    rw [due_next he] at hf
    split at hf
    · rename_i hc
      rcases List.mem_append.mp hf with hf | hf
      · exact old hf
      · have ef : f = (rU u v (n + 1 : Nat), ((n + 1 : Nat) : Int)) := by simpa using hf
        subst ef
        refine ⟨⟨rU_nonneg hu hv (by omega), by show (1 : Int) ≤ (n + 1 : Nat); omega, ?_⟩, Int.le_refl _⟩
        show Int.gcd (rU u v (n + 1 : Nat)) (n + 1 : Nat) = 1
        generalize hT : ((n + 1 : Nat) : Int) = T at *
        generalize hX : rU u v T = X at *
        have g1 := gu_mul X T
        have g2 := gl_mul X T
        have gp := gcd_pos' (u := X) (show 1 ≤ T by omega)
        have gl1 := gl_pos (u := X) (show 1 ≤ T by omega)
        by_cases z : Int.gcd X T = 1
        · exact z
        · exfalso
          have g0 : 2 ≤ (Int.gcd X T : Int) := by omega
          generalize (Int.gcd X T : Int) = g at *
          generalize gu X T = x' at *
          generalize gl X T = t' at *
          have lt := Int.mul_le_mul_of_nonneg_left g0 (show 0 ≤ t' by omega)
          have h3 := hb.b t' x' gl1 (by omega)
          have e1 : oF u v X T = oF u v x' t' * g := by
            unfold oF
            rw [← ab_mul (by omega), ← g1, ← g2]
            congr 1
            grind
          rw [e1] at hc
          have p := Int.mul_le_mul_of_nonneg_right h3 (show 0 ≤ g by omega)
          have q1 : oF u v x' t' * g * e.2 = oF u v x' t' * e.2 * g := by grind
          have q2 : oF u v e.1 e.2 * T = oF u v e.1 e.2 * t' * g := by rw [← g2]; grind
          omega
    · exact old hf
/-- no one outside the neighbours is nearer -/
theorem rec_out {u v m a b c d x t : Int} {e : Int × Int} (h : Nb u v m a b c d) (hv : 1 ≤ v) (ht : 1 ≤ t) (he : 1 ≤ e.2) (b1 : oF u v e.1 e.2 * b ≤ oF u v a b * e.2) (b2 : oF u v e.1 e.2 * d ≤ oF u v c d * e.2) (ho : ¬ (a * t < x * b ∧ x * d < c * t)) : oF u v e.1 e.2 * t ≤ oF u v x t * e.2 := by
  have hb := h.b1
  have hd := h.d1
  have sl := h.short
  have sr := h.over
  have o1 : oF u v a b = u * b - a * v := by unfold oF; exact ab_pos (by omega)
  have o2 : oF u v c d = c * v - u * d := by unfold oF; rw [ab_neg (by omega)]; omega
  by_cases A : x * b ≤ a * t
  · have k : (u * t - x * v) * b = (u * b - a * v) * t + v * (a * t - x * b) := by grind
    have w0 := Int.mul_nonneg (show 0 ≤ v by omega) (show 0 ≤ a * t - x * b by omega)
    have p0 := mul_pos1 sl.1 ht
    have t1 : 0 ≤ u * t - x * v := by
      by_cases z : 0 ≤ u * t - x * v
      · exact z
      · have := Int.mul_nonpos_of_nonpos_of_nonneg (show u * t - x * v ≤ 0 by omega) (show 0 ≤ b by omega)
        omega
    have o3 : oF u v x t = u * t - x * v := by unfold oF; exact ab_pos t1
    rw [o3]
    rw [o1] at b1
    generalize u * t - x * v = X at *
    generalize u * b - a * v = L at *
    generalize oF u v e.1 e.2 = E0 at *
    refine le_cancel hb ?_
    have q1 := Int.mul_le_mul_of_nonneg_right b1 (show 0 ≤ t by omega)
    have q2 := Int.mul_le_mul_of_nonneg_right (show L * t ≤ X * b by omega) (show 0 ≤ e.2 by omega)
    have e1 : E0 * t * b = E0 * b * t := by grind
    have e2 : X * e.2 * b = X * b * e.2 := by grind
    have e3 : L * e.2 * t = L * t * e.2 := by grind
    omega
  · have B : c * t ≤ x * d := by
      by_cases z : c * t ≤ x * d
      · exact z
      · exact absurd ⟨by omega, by omega⟩ ho
    have k : (x * v - u * t) * d = (c * v - u * d) * t + v * (x * d - c * t) := by grind
    have w0 := Int.mul_nonneg (show 0 ≤ v by omega) (show 0 ≤ x * d - c * t by omega)
    have p0 := mul_pos1 sr.1 ht
    have t1 : 0 ≤ x * v - u * t := by
      by_cases z : 0 ≤ x * v - u * t
      · exact z
      · have := Int.mul_nonpos_of_nonpos_of_nonneg (show x * v - u * t ≤ 0 by omega) (show 0 ≤ d by omega)
        omega
    have o3 : oF u v x t = x * v - u * t := by unfold oF; rw [ab_neg (by omega)]; omega
    rw [o3]
    rw [o2] at b2
    generalize x * v - u * t = X at *
    generalize c * v - u * d = R at *
    generalize oF u v e.1 e.2 = E0 at *
    refine le_cancel hd ?_
    have q1 := Int.mul_le_mul_of_nonneg_right b2 (show 0 ≤ t by omega)
    have q2 := Int.mul_le_mul_of_nonneg_right (show R * t ≤ X * d by omega) (show 0 ≤ e.2 by omega)
    have e1 : E0 * t * d = E0 * d * t := by grind
    have e2 : X * e.2 * d = X * d * e.2 := by grind
    have e3 : R * e.2 * t = R * t * e.2 := by grind
    omega
/-- the one between two neighbours with the sum as its lower part -/
theorem mid_uniq {a b c d x : Int} (h : c * b - a * d = 1) (hb : 1 ≤ b) (hd : 1 ≤ d) (h1 : a * (b + d) < x * b) (h2 : x * d < c * (b + d)) : x = a + c := by
  have e : b + d = b * (c * (b + d) - x * d) + d * (x * b - a * (b + d)) := by grind
  have q1 : x * b - a * (b + d) = 1 := by
    by_cases z : x * b - a * (b + d) = 1
    · exact z
    · have p1 := le_mul1 (a := b) (b := c * (b + d) - x * d) (by omega) (by omega)
      have p2 := Int.mul_le_mul_of_nonneg_left (show 2 ≤ x * b - a * (b + d) by omega) (show 0 ≤ d by omega)
      omega
  have e2 : x * b = (a + c) * b := by grind
  exact Int.eq_of_mul_eq_mul_right (by omega) e2
structure RecAt (u v m a b c d : Int) (k : Nat) (F : List (Int × Int)) (e : Int × Int) : Prop where
  n : Nb u v m a b c d
  k1 : 1 ≤ k
  hb : b ≤ k
  hd : d ≤ k
  hk : (k : Int) = b ∨ (k : Int) = d
  f : dueL u v k = F
  e : F.getLast? = some e
theorem RecAt.best {u v m a b c d : Int} {k : Nat} {F : List (Int × Int)} {e : Int × Int} (h : RecAt u v m a b c d k F e) (hv : 1 ≤ v) : Best u v k e := by
  obtain ⟨e', h1, h2⟩ := due_best (u := u) hv k h.k1
  rw [h.f, h.e] at h1
  cases h1
  exact h2
theorem RecAt.out {u v m a b c d : Int} {k : Nat} {F : List (Int × Int)} {e : Int × Int} (h : RecAt u v m a b c d k F e) (hv : 1 ≤ v) {t x : Int} (ht : 1 ≤ t) (ho : ¬ (a * t < x * b ∧ x * d < c * t)) : oF u v e.1 e.2 * t ≤ oF u v x t * e.2 := by
  have hb := h.best hv
  exact rec_out h.n hv ht hb.l1 (hb.b b a h.n.b1 h.hb) (hb.b d c h.n.d1 h.hd) ho
/-- up to the sum of the lower parts nothing new -/
theorem RecAt.till {u v m a b c d : Int} {k : Nat} {F : List (Int × Int)} {e : Int × Int} (h : RecAt u v m a b c d k F e) (hv : 1 ≤ v) {j : Nat} (hj : k ≤ j) (hs : (j : Int) < b + d) : dueL u v j = F := by
  have := due_stay (n := k) (e := e) (u := u) (v := v) (by rw [h.f]; exact h.e) (j - k) fun t x h1 h2 => h.out hv (by omega) fun ⟨z1, z2⟩ => by
    have := between_le h.n.det h.n.b1 h.n.d1 z1 z2
    omega
  rw [show k + (j - k) = j by omega] at this
  rw [this, h.f]
theorem RecAt.step {u v m a b c d : Int} {k : Nat} {F : List (Int × Int)} {e : Int × Int} (h : RecAt u v m a b c d k F e) (hv : 1 ≤ v) : dueL u v (b + d).toNat = if oF u v (a + c) (b + d) * e.2 < oF u v e.1 e.2 * (b + d) then F ++ [(a + c, b + d)] else F := by
  have hb := h.n.b1
  have hd := h.n.d1
  have hbk := h.hb
  have hdk := h.hd
  have hk := h.hk
  obtain ⟨j, hj⟩ : ∃ j : Nat, b + d = ((j + 1 : Nat) : Int) := ⟨(b + d - 1).toNat, by omega⟩
  have f1 := h.till hv (j := j) (by omega) (by omega)
  have n1 := due_next (n := j) (e := e) (u := u) (v := v) (by rw [f1]; exact h.e)
  rw [show (b + d).toNat = j + 1 by omega, n1, f1, ← hj]
  have be := h.best hv
  by_cases z : oF u v (rU u v (b + d)) (b + d) * e.2 < oF u v e.1 e.2 * (b + d)
  · have inn : a * (b + d) < rU u v (b + d) * b ∧ rU u v (b + d) * d < c * (b + d) := by
      by_cases y : a * (b + d) < rU u v (b + d) * b ∧ rU u v (b + d) * d < c * (b + d)
      · exact y
      · have := h.out hv (show 1 ≤ b + d by omega) y
        omega
    have ex := mid_uniq h.n.det hb hd inn.1 inn.2
    rw [ex] at z ⊢
  · have mn := Int.mul_le_mul_of_nonneg_right (rU_min (u := u) (t := b + d) hv (a + c)) (show 0 ≤ e.2 by have := be.l1; omega)
    rw [if_neg z, if_neg (by omega)]
theorem due_zero {u v : Int} {n j : Nat} {F : List (Int × Int)} {e : Int × Int} (hf : dueL u v n = F) (he : F.getLast? = some e) (h0 : oF u v e.1 e.2 = 0) (e1 : 1 ≤ e.2) (hj : n ≤ j) : dueL u v j = F := by
  have := due_stay (n := n) (e := e) (u := u) (v := v) (by rw [hf]; exact he) (j - n) fun t x h1 h2 => by
    rw [h0, Int.zero_mul]
    exact Int.mul_nonneg (oF_nonneg _ _ _ _) (by omega)
  rw [show n + (j - n) = j by omega] at this
  rw [this, hf]
theorem near_one {u v : Int} (f : Fr u v) {y : (Int × Int) × (Int × Int)} (h : Ard u v 1 y) : nearP u v y = (rU u v 1, 1) := by
  have v1 := f.l1
  by_cases z : v ≤ 1
  · have e : v = 1 := by omega
    subst e
    rw [ard_uniq v1 h (.inl ⟨z, rfl⟩), nearP_self]
    unfold rU
    simp
  · have k := nb0 f (m := 1) (by decide) (by omega)
    rw [ard_uniq v1 h (y := ((u / v, 1), (u / v + 1, 1))) (.inr ⟨by omega, k, by show (1 : Int) < 1 + 1; decide⟩)]
    have d := div_bounds u v1
    unfold nearP nearR rU
    dsimp only
    have e : (u / v + 1) * v = u / v * v + v := by grind
    rw [e]
    simp only [Int.mul_one]
    generalize u / v * v = q at *
    have e2 : decide ((1 : Int) < 1) = false := by decide
    rw [e2, Bool.and_false, Bool.or_false]
    by_cases w : v - (u - q) < u - q
    · rw [if_pos w, decide_eq_true (by omega)]
      rfl
    · rw [if_neg w, decide_eq_false (by omega)]
      rfl
structure RW (u v m : Int) (i : Nat × (Int × Int × Int × Int) × List (Int × Int) × (Int × Int)) : Prop where
  k1 : 1 ≤ i.1
  km : (i.1 : Int) ≤ m
  f : dueL u v i.1 = i.2.2.1
  e : i.2.2.1.getLast? = some i.2.2.2
  l1 : 1 ≤ i.2.2.2.2
  lk : i.2.2.2.2 ≤ i.1
  ov : oF u v i.2.2.2.1 i.2.2.2.2 ≤ v
  z : oF u v i.2.2.2.1 i.2.2.2.2 = 0 ∨ RecAt u v m i.2.1.1 i.2.1.2.1 i.2.1.2.2.1 i.2.1.2.2.2 i.1 i.2.2.1 i.2.2.2
theorem rw0 {u v m : Int} (f : Fr u v) (hm : 1 ≤ m) : RW u v m (1, (u / v, 1, u / v + 1, 1), [(rU u v 1, 1)], (rU u v 1, 1)) := by
  have v1 := f.l1
  have d := div_bounds u v1
  have ro := rU_off (u := u) (v := v) (t := 1) v1
  simp only [Int.mul_one] at ro
  refine ⟨Nat.le_refl 1, by show ((1 : Nat) : Int) ≤ m; omega, rfl, rfl, Int.le_refl 1, Int.le_refl 1, ?_, ?_⟩
  · show oF u v (rU u v 1) 1 ≤ v
    rw [ro]
    split <;> omega
  · by_cases z : v = 1
    · left
      subst z
      show oF u 1 (rU u 1 1) 1 = 0
      rw [ro]
      simp
    · right
      have k := nb0 f (m := 1) (by decide) (by omega)
      exact ⟨⟨k.a0, k.b1, k.d1, k.det, k.lo, k.hi, hm, hm⟩, Nat.le_refl 1, Int.le_refl 1, Int.le_refl 1, .inl rfl, rfl, rfl⟩
theorem RW.end_ {u v m : Int} {i : Nat × (Int × Int × Int × Int) × List (Int × Int) × (Int × Int)} (h : RW u v m i) (hv : 1 ≤ v) (hc : (decide (i.2.1.2.1 + i.2.1.2.2.2 ≤ m) && !decide (oF u v i.2.2.2.1 i.2.2.2.2 = 0)) = false) : i.2.2.1 = dueL u v m.toNat := by
  have km := h.km
  have k1 := h.k1
  by_cases z : oF u v i.2.2.2.1 i.2.2.2.2 = 0
  · exact (due_zero h.f h.e z h.l1 (by omega)).symm
  · rcases h.z with z2 | r
    · exact absurd z2 z
    · rw [decide_eq_false z, Bool.not_false, Bool.and_true] at hc
      have := of_decide_eq_false hc
      exact (r.till hv (by omega) (by omega)).symm
def nxF (u v : Int) (M : Int × Int) (F : List (Int × Int)) (e : Int × Int) : List (Int × Int) := if oF u v M.1 M.2 * e.2 < oF u v e.1 e.2 * M.2 then F ++ [M] else F
def nxE (u v : Int) (M : Int × Int) (e : Int × Int) : Int × Int := if oF u v M.1 M.2 * e.2 < oF u v e.1 e.2 * M.2 then M else e
theorem nx_last {u v : Int} {M : Int × Int} {F : List (Int × Int)} {e : Int × Int} (h : F.getLast? = some e) : (nxF u v M F e).getLast? = some (nxE u v M e) := by
  unfold nxF nxE
  split
  · exact List.getLast?_concat
  · exact h
theorem rw_next {u v m a b c d : Int} {k : Nat} {F : List (Int × Int)} {e : Int × Int} (hu : 0 ≤ u) (hv : 1 ≤ v) (h : RW u v m (k, (a, b, c, d), F, e)) (hm : b + d ≤ m) (hz : oF u v e.1 e.2 ≠ 0) :
    ((a + c) * v < u * (b + d) → RW u v m ((b + d).toNat, (a + c, b + d, c, d), nxF u v (a + c, b + d) F e, nxE u v (a + c, b + d) e)) ∧ (¬ (a + c) * v < u * (b + d) → RW u v m ((b + d).toNat, (a, b, a + c, b + d), nxF u v (a + c, b + d) F e, nxE u v (a + c, b + d) e)) := by
  rcases h.z with z2 | r
  · exact absurd z2 hz
  replace r : RecAt u v m a b c d k F e := r
  have n : Nb u v m a b c d := r.n
  have hb := n.b1
  have hd := n.d1
  have hc := n.c1
  have ha := n.a0
  have st : dueL u v (b + d).toNat = nxF u v (a + c, b + d) F e := r.step hv
  have ls : (nxF u v (a + c, b + d) F e).getLast? = some (nxE u v (a + c, b + d) e) := nx_last h.e
  have sl := n.short
  have sr := n.over
  have ek : e.2 ≤ k := h.lk
  have e1 : 1 ≤ e.2 := h.l1
  have eo : oF u v e.1 e.2 ≤ v := h.ov
  have kb : (k : Int) ≤ b + d := by rcases r.hk with q | q <;> omega
  have eq1 : u * (b + d) - (a + c) * v = (u * b - a * v) - (c * v - u * d) := by grind
  have om : oF u v (a + c) (b + d) ≤ v := by
    unfold oF
    rw [eq1]
    unfold ab
    split <;> omega
  have x1 : 1 ≤ (nxE u v (a + c, b + d) e).2 ∧ (nxE u v (a + c, b + d) e).2 ≤ b + d ∧ oF u v (nxE u v (a + c, b + d) e).1 (nxE u v (a + c, b + d) e).2 ≤ v := by
    unfold nxE
    split
    · exact ⟨by show 1 ≤ b + d; omega, Int.le_refl _, om⟩
    · exact ⟨e1, by omega, eo⟩
  have tn : (((b + d).toNat : Nat) : Int) = b + d := by omega
  constructor
  · intro hlt
    refine ⟨by show 1 ≤ (b + d).toNat; omega, by show (((b + d).toNat : Nat) : Int) ≤ m; omega, st, ls, x1.1, by show (nxE u v (a + c, b + d) e).2 ≤ (((b + d).toNat : Nat) : Int); omega, x1.2.2, .inr ?_⟩
    exact ⟨⟨by show 0 ≤ a + c; omega, by show 1 ≤ b + d; omega, hd, by show c * (b + d) - (a + c) * d = 1; have := n.det; grind, hlt, n.hi, hm, n.dm⟩, by show 1 ≤ (b + d).toNat; omega, by show b + d ≤ (((b + d).toNat : Nat) : Int); omega, by show d ≤ (((b + d).toNat : Nat) : Int); omega, .inl tn, st, ls⟩
  · intro hge
    refine ⟨by show 1 ≤ (b + d).toNat; omega, by show (((b + d).toNat : Nat) : Int) ≤ m; omega, st, ls, x1.1, by show (nxE u v (a + c, b + d) e).2 ≤ (((b + d).toNat : Nat) : Int); omega, x1.2.2, ?_⟩
    by_cases q : u * (b + d) = (a + c) * v
    · left
      have o0 : oF u v (a + c) (b + d) = 0 := by
        unfold oF
        rw [q, Int.sub_self]
        rfl
      have en : nxE u v (a + c, b + d) e = (a + c, b + d) := by
        unfold nxE
        rw [if_pos]
        show oF u v (a + c) (b + d) * e.2 < oF u v e.1 e.2 * (b + d)
        rw [o0, Int.zero_mul]
        have := oF_nonneg u v e.1 e.2
        exact Int.mul_pos (by omega) (by omega)
      show oF u v (nxE u v (a + c, b + d) e).1 (nxE u v (a + c, b + d) e).2 = 0
      rw [en]
      exact o0
    · right
      exact ⟨⟨ha, hb, by show 1 ≤ b + d; omega, by show (a + c) * b - a * (b + d) = 1; have := n.det; grind, n.lo, by show u * (b + d) < (a + c) * v; omega, n.bm, hm⟩, by show 1 ≤ (b + d).toNat; omega, by show b ≤ (((b + d).toNat : Nat) : Int); omega, by show b + d ≤ (((b + d).toNat : Nat) : Int); omega, .inr tn, st, ls⟩
/-! lists of fractions as data -/
theorem frs_plain (p : List (Int × Int)) : (PyData.list (p.map fP)).plain = true := by
  simp only [PyData.plain]
  refine plain_ok fun x hx => ?_
  obtain ⟨r, _, rfl⟩ := List.mem_map.mp hx
  rfl
theorem frs_depth (p : List (Int × Int)) (y : PyData) : min (PyData.list (p.map fP)).depth y.depth ≤ 64 := by
  refine Nat.le_trans (Nat.min_le_left _ _) ?_
  simp only [PyData.depth]
  have := depth_ok (p := p.map fP) (n := 5) fun x hx => by
    obtain ⟨r, _, rfl⟩ := List.mem_map.mp hx
    exact Nat.le_of_ble_eq_true rfl
  omega
theorem frs_eqv : ∀ p : List (Int × Int), PyData.eqvAll (p.map fP) (p.map fP) = true
  | [] => by simp [PyData.eqvAll]
  | r :: p => by
    rw [List.map_cons]
    simp only [PyData.eqvAll]
    rw [frs_eqv p, fP, fD, pair_eqv]
    simp
theorem frs_self (p : List (Int × Int)) : PyData.eqv (.list (p.map fP)) (.list (p.map fP)) = true := by
  simp only [PyData.eqv]
  exact frs_eqv p
theorem frs_imm : ∀ p : List (Int × Int), immAll (p.map fP) = true
  | [] => rfl
  | r :: p => by
    show (imm (fP r) && immAll (p.map fP)) = true
    rw [frs_imm p]
    rfl
end NF
namespace NF
open PySem L2
/-! ### going through all lower parts; within bounds -/
theorem ab_symm (i : Int) : ab (-i) = ab i := by unfold ab; split <;> split <;> omega
/-- the order: nearer, or as near with a lesser lower part, or that and a lesser upper one -/
def LB (u v : Int) (e f : Int × Int) : Prop := oF u v e.1 e.2 * f.2 < oF u v f.1 f.2 * e.2 ∨ (oF u v e.1 e.2 * f.2 = oF u v f.1 f.2 * e.2 ∧ (e.2 < f.2 ∨ (e.2 = f.2 ∧ e.1 ≤ f.1)))
theorem LB.of {p q g h u v : Int} (k : BeatsR p q g h u v) : LB u v (p, q) (g, h) := by
  unfold BeatsR at k
  unfold LB oF
  dsimp only
  rw [show u * q - p * v = -(p * v - u * q) by omega, show u * h - g * v = -(g * v - u * h) by omega, ab_symm, ab_symm]
  exact k
theorem LB.refl (u v : Int) (e : Int × Int) : LB u v e e := .inr ⟨rfl, .inr ⟨rfl, Int.le_refl _⟩⟩
theorem LB.trans {u v : Int} {e f g : Int × Int} (he : 1 ≤ e.2) (hf : 1 ≤ f.2) (hg : 1 ≤ g.2) (h : LB u v e f) (k : LB u v f g) : LB u v e g := by
  unfold LB at *
  generalize oF u v e.1 e.2 = E at *
  generalize oF u v f.1 f.2 = F at *
  generalize oF u v g.1 g.2 = G at *
  have c1 : E * g.2 * f.2 = E * f.2 * g.2 := by grind
  have c2 : G * e.2 * f.2 = G * f.2 * e.2 := by grind
  have c3 : F * e.2 * g.2 = F * g.2 * e.2 := by grind
  rcases h with h | ⟨h, h'⟩
  · left
    refine lt_cancel hf ?_
    have p1 := Int.mul_lt_mul_of_pos_right h (show 0 < g.2 by omega)
    have p2 : F * g.2 * e.2 ≤ G * f.2 * e.2 := Int.mul_le_mul_of_nonneg_right (by rcases k with k | k <;> omega) (by omega)
    omega
  · rcases k with k | ⟨k, k'⟩
    · left
      refine lt_cancel hf ?_
      have p2 := Int.mul_lt_mul_of_pos_right k (show 0 < e.2 by omega)
      rw [h] at c1
      omega
    · right
      refine ⟨Int.eq_of_mul_eq_mul_right (show f.2 ≠ 0 by omega) ?_, by omega⟩
      rw [c1, c2, h, ← k, c3]
theorem LB.anti {u v : Int} {e f : Int × Int} (h : LB u v e f) (k : LB u v f e) : e = f := by
  unfold LB at *
  have : e.1 = f.1 ∧ e.2 = f.2 := by omega
  exact Prod.ext this.1 this.2
def stp (u v : Int) (e f : Int × Int) : Int × Int := if oF u v f.1 f.2 * e.2 < oF u v e.1 e.2 * f.2 then f else e
theorem stp_le {u v : Int} {e f : Int × Int} (h : e.2 < f.2 ∨ (e.2 = f.2 ∧ e.1 ≤ f.1)) : LB u v (stp u v e f) e ∧ LB u v (stp u v e f) f := by
  unfold stp
  split
  · rename_i z
    exact ⟨.inl z, .refl u v f⟩
  · rename_i z
    refine ⟨.refl u v e, ?_⟩
    unfold LB
    omega
theorem stp_or (u v : Int) (e f : Int × Int) : stp u v e f = e ∨ stp u v e f = f := by unfold stp; split <;> simp
def fb1 (u v : Int) (e : Int × Int) (t : Int) : Int × Int := stp u v e (u * t / v, t)
def fbT (u v : Int) (e : Int × Int) (t : Int) : Int × Int := stp u v (fb1 u v e t) (u * t / v + 1, t)
def fbE (u v : Int) : Nat → Int × Int
  | 0 => (u / v, 1)
  | n + 1 => fbT u v (fbE u v n) (n + 1 : Nat)
structure Fb1 (u v : Int) (n : Nat) (e : Int × Int) : Prop where
  l1 : 1 ≤ e.2
  ln : e.2 ≤ n ∨ (n = 0 ∧ e = (u / v, 1))
  b : ∀ t x : Int, 1 ≤ t → t ≤ n → LB u v e (x, t)
theorem row_lb {u v t : Int} (hv : 1 ≤ v) (ht : 1 ≤ t) (x : Int) : LB u v (u * t / v, t) (x, t) ∨ LB u v (u * t / v + 1, t) (x, t) := by
  have d := div_bounds (u * t) hv
  have key : ∀ y x : Int, oF u v y t < oF u v x t → LB u v (y, t) (x, t) := fun y x h => .inl (Int.mul_lt_mul_of_pos_right h (by show 0 < t; omega))
  unfold oF at key
  generalize hq : u * t / v = q at *
  generalize hy : u * t = y at *
  have e : (q + 1) * v = q * v + v := by grind
  by_cases z1 : x = q
  · rw [z1]; exact .inl (.refl _ _ _)
  by_cases z2 : x = q + 1
  · rw [z2]; exact .inr (.refl _ _ _)
  by_cases z3 : x < q
  · left
    have p := Int.mul_le_mul_of_nonneg_right (show x + 1 ≤ q by omega) (show 0 ≤ v by omega)
    rw [Int.add_mul] at p
    refine key _ _ ?_
    rw [ab_pos (by omega), ab_pos (by omega)]
    omega
  · right
    have p := Int.mul_le_mul_of_nonneg_right (show q + 1 + 1 ≤ x by omega) (show 0 ≤ v by omega)
    rw [Int.add_mul (q + 1)] at p
    refine key _ _ ?_
    rw [ab_neg (by omega), ab_neg (by omega)]
    omega
theorem fbE_ok {u v : Int} (hv : 1 ≤ v) : ∀ n : Nat, Fb1 u v n (fbE u v n)
  | 0 => ⟨Int.le_refl 1, .inr ⟨rfl, rfl⟩, fun t x h1 h2 => by omega⟩
  | n + 1 => by
    have ih := fbE_ok (u := u) hv n
    show Fb1 u v (n + 1) (fbT u v (fbE u v n) (n + 1 : Nat))
    generalize fbE u v n = e at *
    generalize hT : ((n + 1 : Nat) : Int) = t
    have t1 : 1 ≤ t := by omega
    have l1 := ih.l1
    have le1 : e.2 < t ∨ (e.2 = t ∧ e.1 ≤ u * t / v) := by
      rcases ih.ln with h | ⟨h, k⟩
      · omega
      · subst h
        have : t = 1 := by omega
        subst this
        rw [k]
        exact .inr ⟨rfl, by show u / v ≤ u * 1 / v; rw [Int.mul_one]; exact Int.le_refl _⟩
    have s1 := stp_le (u := u) (v := v) (e := e) (f := (u * t / v, t)) le1
    have o1 := stp_or u v e (u * t / v, t)
    have a1 : 1 ≤ (fb1 u v e t).2 ∧ (fb1 u v e t).2 ≤ t ∧ ((fb1 u v e t).2 < t ∨ ((fb1 u v e t).2 = t ∧ (fb1 u v e t).1 ≤ u * t / v + 1)) := by
      unfold fb1
      rcases o1 with o | o <;> rw [o]
      · exact ⟨l1, by omega, by omega⟩
      · exact ⟨t1, Int.le_refl _, .inr ⟨rfl, by show u * t / v ≤ u * t / v + 1; omega⟩⟩
    have s2 := stp_le (u := u) (v := v) (e := fb1 u v e t) (f := (u * t / v + 1, t)) a1.2.2
    have o2 := stp_or u v (fb1 u v e t) (u * t / v + 1, t)
    have a2 : 1 ≤ (fbT u v e t).2 ∧ (fbT u v e t).2 ≤ t := by
      unfold fbT
      rcases o2 with o | o <;> rw [o]
      · exact ⟨a1.1, a1.2.1⟩
      · exact ⟨t1, Int.le_refl _⟩
    refine ⟨a2.1, .inl (by omega), fun t' x h1 h2 => ?_⟩
    have tr : LB u v (fbT u v e t) e := LB.trans a2.1 a1.1 l1 s2.1 s1.1
    by_cases z : t' ≤ n
    · exact LB.trans a2.1 l1 h1 tr (ih.b t' x h1 z)
    · have ez : t' = t := by omega
      subst ez
      rcases row_lb (u := u) hv t1 x with r | r
      · exact LB.trans a2.1 t1 t1 (LB.trans a2.1 a1.1 t1 s2.1 s1.2) r
      · exact LB.trans a2.1 t1 t1 s2.2 r
/-- both ways find the same -/
theorem fbE_near {u v : Int} (f : Fr u v) {n : Nat} (hn : 1 ≤ n) {y : (Int × Int) × (Int × Int)} (hy : Ard u v n y) : fbE u v n = nearP u v y := by
  have v1 := f.l1
  have h := fbE_ok (u := u) v1 n
  have ln : (fbE u v n).2 ≤ n := by
    rcases h.ln with k | ⟨k, _⟩
    · exact k
    · omega
  have g := hy.fr f
  have gp : Fr (nearP u v y).1 (nearP u v y).2 ∧ (nearP u v y).2 ≤ n := by
    rcases nearP_or u v y with e | e <;> rw [e]
    · exact ⟨g.1, g.2.2.1⟩
    · exact ⟨g.2.1, g.2.2.2⟩
  have k1 := h.b (nearP u v y).2 (nearP u v y).1 gp.1.l1 gp.2
  -- the reduced form of what was found
  have e0 : 0 ≤ (fbE u v n).1 := by
    by_cases z : 0 ≤ (fbE u v n).1
    · exact z
    · have k0 := h.b (fbE u v n).2 0 h.l1 ln
      have l1 := h.l1
      have n1 := Int.mul_nonneg f.u0 (show 0 ≤ (fbE u v n).2 by omega)
      have n2 := Int.mul_pos (show 0 < -(fbE u v n).1 by omega) (show 0 < v by omega)
      rw [Int.neg_mul] at n2
      unfold LB oF at k0
      dsimp only at k0
      rw [Int.zero_mul, Int.sub_zero, ab_pos (by omega), ab_pos n1] at k0
      have q : u * (fbE u v n).2 * (fbE u v n).2 < (u * (fbE u v n).2 - (fbE u v n).1 * v) * (fbE u v n).2 := Int.mul_lt_mul_of_pos_right (by omega) (by omega)
      omega
  have b := near_beats f hy e0 h.l1 ln
  have gl1 := gl_le (u := (fbE u v n).1) h.l1
  have gu1 := gu_le (u := (fbE u v n).1) (l := (fbE u v n).2) e0
  have k2 : LB u v (nearP u v y) (fbE u v n) := by
    unfold Beats at b
    unfold LB oF
    rw [show u * (nearP u v y).2 - (nearP u v y).1 * v = -((nearP u v y).1 * v - u * (nearP u v y).2) by omega, show u * (fbE u v n).2 - (fbE u v n).1 * v = -((fbE u v n).1 * v - u * (fbE u v n).2) by omega, ab_symm, ab_symm]
    rcases b with b | ⟨b, b'⟩
    · exact .inl b
    · exact .inr ⟨b, by omega⟩
  exact LB.anti k1 k2
/-! within bounds -/
theorem half_le {p q g h u v : Int} (hq : 1 ≤ q) (hh : 1 ≤ h) (hv : 1 ≤ v) (hx : p * h < g * q) : (oF u v p q * h ≤ oF u v g h * q ↔ 2 * (u * q * h) ≤ v * (p * h + g * q)) ∧ (oF u v p q * h = oF u v g h * q ↔ 2 * (u * q * h) = v * (p * h + g * q)) := by
  have e1 : oF u v p q * h = ab ((u * q - p * v) * h) := by unfold oF; rw [ab_mul (by omega)]
  have e2 : oF u v g h * q = ab ((u * h - g * v) * q) := by unfold oF; rw [ab_mul (by omega)]
  rw [e1, e2]
  have a1 : (u * q - p * v) * h = u * q * h - v * (p * h) := by grind
  have a2 : (u * h - g * v) * q = u * q * h - v * (g * q) := by grind
  have a3 : v * (p * h + g * q) = v * (p * h) + v * (g * q) := Int.mul_add _ _ _
  have lt := Int.mul_lt_mul_of_pos_left hx (show 0 < v by omega)
  rw [a1, a2, a3]
  generalize u * q * h = X at *
  generalize v * (p * h) = Y at *
  generalize v * (g * q) = Z at *
  unfold ab
  constructor <;> constructor <;> intro w <;> (split at * <;> split at * <;> omega)
theorem LB.mid {a b c d u v : Int} {e f : Int × Int} (hb : 1 ≤ b) (hd : 1 ≤ d) (hv : 1 ≤ v) (he : 1 ≤ e.2) (hf : 1 ≤ f.2) (h1 : a * v ≤ u * b) (h2 : u * d ≤ c * v) (k1 : LB a b e f) (k2 : LB c d e f) : LB u v e f := by
  have le : ∀ {u v : Int}, LB u v e f → oF u v e.1 e.2 * f.2 ≤ oF u v f.1 f.2 * e.2 := fun h => by rcases h with h | h <;> omega
  have tie : ∀ {u v : Int}, LB u v e f → oF u v e.1 e.2 * f.2 = oF u v f.1 f.2 * e.2 → (e.2 < f.2 ∨ (e.2 = f.2 ∧ e.1 ≤ f.1)) := fun h k => by rcases h with h | h <;> omega
  have fin : ∀ {u v : Int}, oF u v e.1 e.2 * f.2 ≤ oF u v f.1 f.2 * e.2 → (oF u v e.1 e.2 * f.2 = oF u v f.1 f.2 * e.2 → (e.2 < f.2 ∨ (e.2 = f.2 ∧ e.1 ≤ f.1))) → LB u v e f := fun h k => by
    unfold LB
    rcases Int.lt_or_eq_of_le h with z | z
    · exact .inl z
    · exact .inr ⟨z, k z⟩
  have l1 := le k1
  have l2 := le k2
  have t1 := tie k1
  have t2 := tie k2
  obtain ⟨p, q⟩ := e
  obtain ⟨g, h⟩ := f
  dsimp only at *
  have qh := mul_pos1 he hf
  rcases Int.lt_trichotomy (p * h) (g * q) with hx | hx | hx
  · have m1 := half_le (u := u) he hf hv hx
    have m2 := half_le (u := c) he hf hd hx
    have l2' := m2.1.mp l2
    have w1 : u * d * (q * h) ≤ c * v * (q * h) := Int.mul_le_mul_of_nonneg_right h2 (by omega)
    have w2 := Int.mul_le_mul_of_nonneg_right l2' (show 0 ≤ v by omega)
    have g1 : 2 * (u * q * h) * d = 2 * (u * d * (q * h)) := by grind
    have g2 : 2 * (c * q * h) * v = 2 * (c * v * (q * h)) := by grind
    have g3 : v * (p * h + g * q) * d = d * (p * h + g * q) * v := by grind
    refine fin (m1.1.mpr (le_cancel hd (by omega))) fun z => t2 (m2.2.mpr ?_)
    have z2 := m1.2.mp z
    have z3 : 2 * (u * q * h) * d = v * (p * h + g * q) * d := by rw [z2]
    exact Int.eq_of_mul_eq_mul_right (show v ≠ 0 by omega) (by omega)
  · have s : ∀ u v : Int, oF u v p q * h = oF u v g h * q := fun u v => by
      unfold oF
      rw [← ab_mul (by omega), ← ab_mul (by omega)]
      congr 1
      have e1 : (u * q - p * v) * h = u * q * h - v * (p * h) := by grind
      have e2 : (u * h - g * v) * q = u * q * h - v * (g * q) := by grind
      rw [e1, e2, hx]
    exact fin (by rw [s]; exact Int.le_refl _) fun z => t1 (s a b)
  · have m1 := half_le (p := g) (q := h) (g := p) (h := q) (u := u) hf he hv hx
    have m2 := half_le (p := g) (q := h) (g := p) (h := q) (u := a) hf he hb hx
    have c1 : ¬ (oF a b g h * q < oF a b p q * h) := by omega
    have d2 : b * (g * q + p * h) ≤ 2 * (a * h * q) := by
      by_cases z : b * (g * q + p * h) ≤ 2 * (a * h * q)
      · exact z
      · have y1 := m2.1.mpr (by omega)
        have y2 := m2.2
        have : ¬ (oF a b g h * q = oF a b p q * h) := fun y => by have := y2.mp y; omega
        omega
    have w1 : a * v * (h * q) ≤ u * b * (h * q) := Int.mul_le_mul_of_nonneg_right h1 (by have := mul_pos1 hf he; omega)
    have w2 := Int.mul_le_mul_of_nonneg_right d2 (show 0 ≤ v by omega)
    have g1 : 2 * (a * h * q) * v = 2 * (a * v * (h * q)) := by grind
    have g2 : 2 * (u * h * q) * b = 2 * (u * b * (h * q)) := by grind
    have g3 : b * (g * q + p * h) * v = v * (g * q + p * h) * b := by grind
    have d3 : v * (g * q + p * h) ≤ 2 * (u * h * q) := le_cancel hb (by omega)
    refine fin ?_ fun z => t1 ?_
    · by_cases y : oF u v g h * q ≤ oF u v p q * h
      · have y1 := m1.1.mp y
        have y2 := m1.2.mpr (by omega)
        omega
      · omega
    · have z2 := m1.2.mp z.symm
      have z3 : 2 * (u * h * q) * b = v * (g * q + p * h) * b := by rw [z2]
      have y : 2 * (a * h * q) = b * (g * q + p * h) := Int.eq_of_mul_eq_mul_right (show v ≠ 0 by omega) (by omega)
      exact (m2.2.mpr y).symm
theorem near_lb {u v m g h : Int} (f : Fr u v) {y : (Int × Int) × (Int × Int)} (hy : Ard u v m y) (r : Fr g h) (hm : h ≤ m) : LB u v (nearP u v y) (g, h) := LB.of (near_beatsR f hy r hm)
theorem near_fr {u v m : Int} (f : Fr u v) {y : (Int × Int) × (Int × Int)} (hy : Ard u v m y) : Fr (nearP u v y).1 (nearP u v y).2 ∧ (nearP u v y).2 ≤ m := by
  have g := hy.fr f
  rcases nearP_or u v y with e | e <;> rw [e]
  · exact ⟨g.1, g.2.2.1⟩
  · exact ⟨g.2.1, g.2.2.2⟩
/-- nearest to both bounds: nearest to all within -/
theorem near_mid {a b c d u v m : Int} (f1 : Fr a b) (f2 : Fr c d) (f : Fr u v) {y z x : (Int × Int) × (Int × Int)} (hy : Ard a b m y) (hz : Ard c d m z) (hx : Ard u v m x) (h1 : a * v ≤ u * b) (h2 : u * d ≤ c * v) (he : nearP a b y = nearP c d z) : nearP u v x = nearP a b y := by
  have g := near_fr f1 hy
  have k := near_fr f hx
  have w1 := near_lb f hx g.1 g.2
  have w2 := near_lb f1 hy k.1 k.2
  have w3 := near_lb f2 hz k.1 k.2
  rw [← he] at w3
  exact LB.anti w1 (LB.mid f1.l1 f2.l1 f.l1 g.1.l1 k.1.l1 h1 h2 w2 w3)
theorem oF_symm (u v x t : Int) : ab (x * v - u * t) = oF u v x t := by
  unfold oF
  rw [show u * t - x * v = -(x * v - u * t) by omega, ab_symm]
theorem ediv_le {x v : Int} (hx : 0 ≤ x) : x / v ≤ x := Int.ediv_le_self v hx
/-- how great what is found is -/
structure FbR (u : Int) (n : Nat) (e : Int × Int) : Prop where
  a : 0 ≤ e.1
  b : e.1 ≤ u * (n + 1 : Nat) + 1
  c : 1 ≤ e.2
  d : e.2 ≤ (n + 1 : Nat)
theorem fb_cand {u v : Int} (hu : 0 ≤ u) (hv : 1 ≤ v) (n : Nat) {y : Int} (y0 : 0 ≤ y) (y1 : y ≤ 1) : FbR u n (u * (n + 1 : Nat) / v + y, ((n + 1 : Nat) : Int)) := by
  have h0 := Int.mul_nonneg hu (show 0 ≤ ((n + 1 : Nat) : Int) by omega)
  have h1 := Int.ediv_nonneg h0 (show 0 ≤ v by omega)
  have h2 := ediv_le (v := v) h0
  exact ⟨by show 0 ≤ u * (n + 1 : Nat) / v + y; omega, by show u * (n + 1 : Nat) / v + y ≤ _; omega, by show (1 : Int) ≤ (n + 1 : Nat); omega, Int.le_refl _⟩
theorem fb_stp {u v : Int} {n : Nat} {e f : Int × Int} (he : FbR u n e) (hf : FbR u n f) : FbR u n (stp u v e f) := by
  rcases stp_or u v e f with o | o <;> rw [o] <;> assumption
theorem fb_up {u : Int} (hu : 0 ≤ u) {n : Nat} {e : Int × Int} (h : FbR u n e) : FbR u (n + 1) e := by
  have h1 := Int.mul_le_mul_of_nonneg_left (show ((n + 1 : Nat) : Int) ≤ ((n + 1 + 1 : Nat) : Int) by omega) hu
  exact ⟨h.a, by have := h.b; omega, h.c, by have := h.d; omega⟩
theorem fbE_rg {u v : Int} (hu : 0 ≤ u) (hv : 1 ≤ v) : ∀ n : Nat, FbR u n (fbE u v n)
  | 0 => by
    have h1 := Int.ediv_nonneg hu (show 0 ≤ v by omega)
    have h2 := ediv_le (v := v) hu
    refine ⟨h1, ?_, Int.le_refl 1, Int.le_refl 1⟩
    show u / v ≤ u * 1 + 1
    omega
  | n + 1 => by
    have ih := fb_up hu (fbE_rg hu hv n)
    have c0 := fb_up hu (fb_cand (v := v) hu hv n (y := 0) (by decide) (by decide))
    have c1 := fb_up hu (fb_cand (v := v) hu hv n (y := 1) (by decide) (by decide))
    rw [Int.add_zero] at c0
    exact fb_stp (fb_stp ih c0) c1
/-! reduced parts and order -/
theorem red_le1 {a b U V : Int} (hV : 1 ≤ V) (h : a * V ≤ U * b) : a * gl U V ≤ gu U V * b := by
  have h1 := gu_mul U V
  have h2 := gl_mul U V
  have g1 := gcd_pos' (u := U) hV
  generalize (Int.gcd U V : Int) = g at *
  refine le_cancel (z := g) (by omega) ?_
  have e1 : a * gl U V * g = a * V := by rw [← h2]; grind
  have e2 : gu U V * b * g = U * b := by rw [← h1]; grind
  omega
theorem red_le2 {a b U V : Int} (hV : 1 ≤ V) (h : U * b ≤ a * V) : gu U V * b ≤ a * gl U V := by
  have h1 := gu_mul U V
  have h2 := gl_mul U V
  have g1 := gcd_pos' (u := U) hV
  generalize (Int.gcd U V : Int) = g at *
  refine le_cancel (z := g) (by omega) ?_
  have e1 : a * gl U V * g = a * V := by rw [← h2]; grind
  have e2 : gu U V * b * g = U * b := by rw [← h1]; grind
  omega
theorem half_lo {p q r s : Int} (hq : 1 ≤ q) (h : p * s ≤ r * q) : p * (2 * q * s) ≤ (p * s + r * q) * q := by
  have := Int.mul_le_mul_of_nonneg_right h (show 0 ≤ q by omega)
  have e1 : p * (2 * q * s) = p * s * q + p * s * q := by grind
  have e2 : (p * s + r * q) * q = p * s * q + r * q * q := by grind
  omega
theorem half_hi {p q r s : Int} (hs : 1 ≤ s) (h : p * s ≤ r * q) : (p * s + r * q) * s ≤ r * (2 * q * s) := by
  have := Int.mul_le_mul_of_nonneg_right h (show 0 ≤ s by omega)
  have e1 : r * (2 * q * s) = r * q * s + r * q * s := by grind
  have e2 : (p * s + r * q) * s = p * s * s + r * q * s := by grind
  omega
end NF
namespace NF
open PySem L2
/-! ### the simplest fraction within bounds -/
structure Smp (a b c d p q : Int) : Prop where
  f : Fr p q
  lo : a * q ≤ p * b
  hi : p * d ≤ c * q
  mn : ∀ x y : Int, 1 ≤ y → a * y ≤ x * b → x * d ≤ c * y → q ≤ y ∧ p ≤ x
theorem Smp.uniq {a b c d p q p' q' : Int} (h : Smp a b c d p q) (k : Smp a b c d p' q') : p = p' ∧ q = q' := by
  have h1 := h.mn p' q' k.f.l1 k.lo k.hi
  have h2 := k.mn p q h.f.l1 h.lo h.hi
  omega
theorem smp_self {c d : Int} (f : Fr c d) : Smp c d c d c d := by
  refine ⟨f, Int.le_refl _, Int.le_refl _, fun x y h1 h2 h3 => ?_⟩
  have e : x * d = c * y := by omega
  have dv : d ∣ y := dvd_cop f.g (by rw [← e]; exact Int.dvd_mul_left x d)
  obtain ⟨k, rfl⟩ := dv
  have l1 := f.l1
  have k1 : 1 ≤ k := by
    by_cases z : 1 ≤ k
    · exact z
    · have := Int.mul_nonpos_of_nonneg_of_nonpos (show 0 ≤ d by omega) (show k ≤ 0 by omega)
      omega
  have ex : x = c * k := by
    refine Int.eq_of_mul_eq_mul_right (show d ≠ 0 by omega) ?_
    rw [e]
    grind
  rw [ex]
  exact ⟨le_mul1 (by omega) k1, le_mul1 f.u0 k1⟩
/-- a whole number within -/
theorem smp_low {a b c d : Int} (b1 : 1 ≤ b) (d1 : 1 ≤ d) (a0 : 0 ≤ a) (le : a * d ≤ c * b) (e : ¬ a / b * b < a) : Smp a b c d (a / b) 1 := by
  have dv := div_bounds a b1
  have q0 := Int.ediv_nonneg a0 (show 0 ≤ b by omega)
  have ea : a / b * b = a := by omega
  generalize a / b = w at *
  subst ea
  refine ⟨⟨q0, by decide, by simp⟩, by omega, ?_, fun x y h1 h2 h3 => ⟨h1, ?_⟩⟩
  · have e1 : w * b * d = w * d * b := by grind
    have := le_cancel b1 (show w * d * b ≤ c * b by omega)
    omega
  · have e1 : w * b * y = w * y * b := by grind
    have := le_cancel b1 (show w * y * b ≤ x * b by omega)
    have := le_mul1 q0 h1
    omega
theorem smp_up {a b c d : Int} (b1 : 1 ≤ b) (a0 : 0 ≤ a) (e : a / b * b < a) (k : ¬ c < (a / b + 1) * d) : Smp a b c d (a / b + 1) 1 := by
  have dv := div_bounds a b1
  have q0 := Int.ediv_nonneg a0 (show 0 ≤ b by omega)
  generalize a / b = w at *
  have e1 : (w + 1) * b = w * b + b := by grind
  refine ⟨⟨by omega, by decide, by simp⟩, by omega, by omega, fun x y h1 h2 h3 => ⟨h1, ?_⟩⟩
  have p1 := Int.mul_lt_mul_of_pos_right e (show 0 < y by omega)
  have e2 : w * b * y = w * y * b := by grind
  have := lt_cancel b1 (show w * y * b < x * b by omega)
  have := le_mul1 q0 h1
  omega
structure Flp (a b c d : Int) : Prop where
  b1 : 1 ≤ c - a / b * d
  b2 : c - a / b * d < d
  d1 : 1 ≤ a - a / b * b
  d2 : a - a / b * b < b
  w0 : 0 ≤ a / b
  le : d * (a - a / b * b) ≤ b * (c - a / b * d)
theorem flp_ok {a b c d : Int} (b1 : 1 ≤ b) (d1 : 1 ≤ d) (a0 : 0 ≤ a) (le : a * d ≤ c * b) (e : a / b * b < a) (k : c < (a / b + 1) * d) : Flp a b c d := by
  have dv := div_bounds a b1
  have q0 := Int.ediv_nonneg a0 (show 0 ≤ b by omega)
  generalize hw : a / b = w at *
  have e1 : (w + 1) * d = w * d + d := by grind
  have e2 : b * (c - w * d) = c * b - w * b * d := by grind
  have e3 : d * (a - w * b) = a * d - w * b * d := by grind
  have p1 := mul_pos1 d1 (show 1 ≤ a - w * b by omega)
  refine ⟨?_, by rw [hw]; omega, by rw [hw]; omega, by rw [hw]; omega, by rw [hw]; exact q0, by rw [hw]; omega⟩
  rw [hw]
  by_cases z : 1 ≤ c - w * d
  · exact z
  · have := Int.mul_nonpos_of_nonneg_of_nonpos (show 0 ≤ b by omega) (show c - w * d ≤ 0 by omega)
    omega
theorem smp_flip {a b c d p q : Int} (b1 : 1 ≤ b) (d1 : 1 ≤ d) (h : Flp a b c d) (s : Smp d (c - a / b * d) b (a - a / b * b) p q) : Smp a b c d (a / b * p + q) p := by
  have w0 := h.w0
  have hb := h.b1
  have hd := h.d1
  have f := s.f
  have lo := s.lo
  have hi := s.hi
  have mn := s.mn
  generalize a / b = w at *
  have q1 := f.l1
  have p1 : 1 ≤ p := by
    have := mul_pos1 d1 q1
    by_cases z : 1 ≤ p
    · exact z
    · have := Int.mul_nonpos_of_nonpos_of_nonneg (show p ≤ 0 by omega) (show 0 ≤ c - w * d by omega)
      omega
  have wp := Int.mul_nonneg w0 (show 0 ≤ p by omega)
  have g1 : (w * p + q) * b = w * p * b + q * b := Int.add_mul _ _ _
  have g2 : (w * p + q) * d = w * p * d + q * d := Int.add_mul _ _ _
  have g3 : p * (a - w * b) = a * p - w * p * b := by grind
  have g4 : p * (c - w * d) = c * p - w * p * d := by grind
  have g5 : b * q = q * b := Int.mul_comm _ _
  have g6 : d * q = q * d := Int.mul_comm _ _
  refine ⟨⟨by omega, p1, ?_⟩, by omega, by omega, fun x y h1 h2 h3 => ?_⟩
  · have e : w * p + q = q + w * p := by omega
    rw [e, Int.gcd_add_mul_right_left, Int.gcd_comm]
    exact f.g
  · have y1 : 1 ≤ x - w * y := by
      have k1 : y * (a - w * b) ≤ (x - w * y) * b := by
        have k2 : y * (a - w * b) = a * y - w * y * b := by grind
        have k3 : (x - w * y) * b = x * b - w * y * b := by grind
        omega
      have k4 := mul_pos1 h1 hd
      by_cases z : 1 ≤ x - w * y
      · exact z
      · have := Int.mul_nonpos_of_nonpos_of_nonneg (show x - w * y ≤ 0 by omega) (show 0 ≤ b by omega)
        omega
    have m := mn y (x - w * y) y1 (by
      have k2 : d * (x - w * y) = x * d - w * y * d := by grind
      have k3 : y * (c - w * d) = c * y - w * y * d := by grind
      omega) (by
      have k2 : y * (a - w * b) = a * y - w * y * b := by grind
      have k3 : b * (x - w * y) = x * b - w * y * b := by grind
      omega)
    have k5 := Int.mul_le_mul_of_nonneg_left m.2 w0
    omega
theorem smp_go : ∀ (n : Nat) (a b c d : Int), (b + d).toNat ≤ n → 0 ≤ a → 1 ≤ b → 1 ≤ d → a * d ≤ c * b → ∃ p q, Smp a b c d p q := by
  intro n
  induction n with
  | zero => intro a b c d h1 h2 h3 h4 h5; omega
  | succ n ih =>
    intro a b c d h1 h2 h3 h4 h5
    by_cases z1 : a / b * b < a
    · by_cases z2 : c < (a / b + 1) * d
      · have k := flp_ok h3 h4 h2 h5 z1 z2
        have b1 := k.b1
        have b2 := k.b2
        have d1 := k.d1
        have d2 := k.d2
        obtain ⟨p, q, s⟩ := ih d (c - a / b * d) b (a - a / b * b) (by omega) (by omega) b1 d1 (by have := k.le; omega)
        exact ⟨_, _, smp_flip h3 h4 k s⟩
      · exact ⟨_, _, smp_up h3 h2 z1 z2⟩
    · exact ⟨_, _, smp_low h3 h4 h2 h5 z1⟩
theorem smp_ex {a b c d : Int} (a0 : 0 ≤ a) (b1 : 1 ≤ b) (d1 : 1 ≤ d) (le : a * d ≤ c * b) : ∃ p q, Smp a b c d p q := smp_go _ a b c d (Nat.le_refl _) a0 b1 d1 le
/-- back from the whole numbers -/
def back : List Int → Int × Int → Int × Int
  | [], x => x
  | w :: ws, x => (w * (back ws x).1 + (back ws x).2, (back ws x).1)
theorem back_app (x : Int × Int) (v : Int) : ∀ ws : List Int, back (ws ++ [v]) x = back ws (v * x.1 + x.2, x.1)
  | [] => rfl
  | w :: ws => by
    show (w * (back (ws ++ [v]) x).1 + (back (ws ++ [v]) x).2, (back (ws ++ [v]) x).1) = _
    rw [back_app x v ws]
    rfl
theorem back_rg {x : Int × Int} (h1 : 0 ≤ x.1) (h2 : 0 ≤ x.2) : ∀ ws : List Int, (∀ w ∈ ws, 0 ≤ w) → 0 ≤ (back ws x).1 ∧ 0 ≤ (back ws x).2
  | [], _ => ⟨h1, h2⟩
  | w :: ws, h => by
    have i := back_rg h1 h2 ws fun v hv => h v (List.mem_cons_of_mem _ hv)
    have w0 := h w List.mem_cons_self
    have := Int.mul_nonneg w0 i.1
    exact ⟨by show 0 ≤ w * (back ws x).1 + (back ws x).2; omega, i.1⟩
theorem back_drop {x : Int × Int} (h1 : 0 ≤ x.1) (h2 : 0 ≤ x.2) : ∀ (ws : List Int) (j : Nat), (∀ w ∈ ws, 0 ≤ w) → (back (ws.drop j) x).1 + (back (ws.drop j) x).2 ≤ (back ws x).1 + (back ws x).2
  | [], j, _ => by simp
  | w :: ws, 0, _ => Int.le_refl _
  | w :: ws, j + 1, h => by
    have i := back_drop h1 h2 ws j fun v hv => h v (List.mem_cons_of_mem _ hv)
    have r := back_rg h1 h2 ws fun v hv => h v (List.mem_cons_of_mem _ hv)
    have w0 := h w List.mem_cons_self
    have := Int.mul_nonneg w0 r.1
    show (back (ws.drop j) x).1 + (back (ws.drop j) x).2 ≤ w * (back ws x).1 + (back ws x).2 + (back ws x).1
    omega
abbrev SmI := List Int × Int × Int × Int × Int
structure SmW (n : Nat) (a0 b0 c0 d0 : Int) (i : SmI) : Prop where
  a : 0 ≤ i.2.1
  b : 1 ≤ i.2.2.1
  d : 1 ≤ i.2.2.2.2
  le : i.2.1 * i.2.2.2.2 ≤ i.2.2.2.1 * i.2.2.1
  ba : Bd n i.2.1
  bb : Bd n i.2.2.1
  bc : Bd n i.2.2.2.1
  bd : Bd n i.2.2.2.2
  ws : ∀ w ∈ i.1, 0 ≤ w ∧ Bd n w
  bk : ∀ p q, Smp i.2.1 i.2.2.1 i.2.2.2.1 i.2.2.2.2 p q → Smp a0 b0 c0 d0 (back i.1 (p, q)).1 (back i.1 (p, q)).2
  len : i.1 = [] ∨ (i.2.2.1 ≤ i.2.1 ∧ (2 : Int) ^ i.1.length * (i.2.1 * i.2.2.1 * (i.2.2.2.1 * i.2.2.2.2)) ≤ 2 ^ (4 * n + 1))
theorem sm_next {n : Nat} {a0 b0 c0 d0 a b c d : Int} {ws : List Int} (h : SmW n a0 b0 c0 d0 (ws, a, b, c, d)) (e : a / b * b < a) (k : c < (a / b + 1) * d) : SmW n a0 b0 c0 d0 (ws ++ [a / b], d, c - a / b * d, b, a - a / b * b) := by
  have hb : 1 ≤ b := h.b
  have hd : 1 ≤ d := h.d
  have ha : 0 ≤ a := h.a
  have ba : Bd n a := h.ba
  have bb : Bd n b := h.bb
  have bc : Bd n c := h.bc
  have bd : Bd n d := h.bd
  have hle : a * d ≤ c * b := h.le
  have f := flp_ok hb hd ha hle e k
  have w0 := f.w0
  have wle : a / b ≤ a := ediv_le ha
  have n1 := Int.mul_nonneg w0 (show 0 ≤ d by omega)
  have n2 := Int.mul_nonneg w0 (show 0 ≤ b by omega)
  have bw : Bd n (a / b) := ba.of_le w0 wle
  refine ⟨by show 0 ≤ d; omega, f.b1, f.d1, f.le, bd, bd.of_le (by have := f.b1; show 0 ≤ c - a / b * d; omega) (by have := f.b2; show c - a / b * d ≤ d; omega), bb, bb.of_le (by have := f.d1; show 0 ≤ a - a / b * b; omega) (by have := f.d2; show a - a / b * b ≤ b; omega), ?_, ?_, .inr ⟨by have := f.b2; show c - a / b * d ≤ d; omega, ?_⟩⟩
  · intro w hw
    rcases List.mem_append.mp hw with hw | hw
    · exact h.ws w hw
    · have : w = a / b := by simpa using hw
      subst this
      exact ⟨w0, bw⟩
  · intro p q s
    show Smp a0 b0 c0 d0 (back (ws ++ [a / b]) (p, q)).1 (back (ws ++ [a / b]) (p, q)).2
    rw [back_app]
    exact h.bk _ _ (smp_flip hb hd f s)
  · have b1 := f.b1
    have b2 := f.b2
    have d1 := f.d1
    have d2 := f.d2
    have hlen := h.len
    show (2 : Int) ^ (ws ++ [a / b]).length * (d * (c - a / b * d) * (b * (a - a / b * b))) ≤ 2 ^ (4 * n + 1)
    rw [List.length_append]
    rcases hlen with hl | ⟨hl, hp⟩
    · have hl' : ws = [] := hl
      rw [hl']
      have q1 : Bd n (c - a / b * d) := bd.of_le (by omega) (by omega)
      have q2 : Bd n (a - a / b * b) := bb.of_le (by omega) (by omega)
      have q3 := ((bd.mul q1).mul (bb.mul q2)).up
      rw [show n + n + (n + n) = 4 * n by omega] at q3
      rw [Int.pow_succ]
      show (2 : Int) ^ 1 * _ ≤ _
      generalize (2 : Int) ^ (4 * n) = z at *
      omega
    · have hl' : b ≤ a := hl
      have w1 : 1 ≤ a / b := Int.le_ediv_of_mul_le (by omega) (by omega)
      have wb := le_mul1 (a := b) (b := a / b) (by omega) w1
      rw [Int.mul_comm b (a / b)] at wb
      have k1 : d * (c - a / b * d) ≤ c * d := by
        have := Int.mul_le_mul_of_nonneg_left (show c - a / b * d ≤ c by omega) (show 0 ≤ d by omega)
        rw [Int.mul_comm c d]
        exact this
      have k2 : b * (2 * (a - a / b * b)) ≤ a * b := by
        have := Int.mul_le_mul_of_nonneg_left (show 2 * (a - a / b * b) ≤ a by omega) (show 0 ≤ b by omega)
        rw [Int.mul_comm a b]
        exact this
      have k0 : 0 ≤ b * (2 * (a - a / b * b)) := Int.mul_nonneg (by omega) (by omega)
      have k3 := mul_pos1 hd b1
      have k4 := Int.mul_le_mul k1 k2 k0 (by omega)
      have e1 : (2 : Int) ^ (ws.length + 1) * (d * (c - a / b * d) * (b * (a - a / b * b))) = 2 ^ ws.length * (d * (c - a / b * d) * (b * (2 * (a - a / b * b)))) := by
        rw [Int.pow_succ]
        grind
      show (2 : Int) ^ (ws.length + 1) * _ ≤ _
      rw [e1]
      refine Int.le_trans (Int.mul_le_mul_of_nonneg_left k4 (Int.le_of_lt (pow_pos2 _))) ?_
      have hp' : (2 : Int) ^ ws.length * (a * b * (c * d)) ≤ 2 ^ (4 * n + 1) := hp
      rw [Int.mul_comm (c * d)]
      exact hp'
theorem sm_short {n : Nat} {a0 b0 c0 d0 : Int} {i : SmI} (h : SmW n a0 b0 c0 d0 i) : i.1.length ≤ 4 * n + 1 := by
  rcases h.len with hl | ⟨hl, hp⟩
  · rw [hl]; simp
  · have hb := h.b
    have hd := h.d
    have hle := h.le
    have a1 : 1 ≤ i.2.1 := by omega
    have c1 : 1 ≤ i.2.2.2.1 := by
      have := mul_pos1 a1 hd
      by_cases z : 1 ≤ i.2.2.2.1
      · exact z
      · have := Int.mul_nonpos_of_nonpos_of_nonneg (show i.2.2.2.1 ≤ 0 by omega) (show 0 ≤ i.2.2.1 by omega)
        omega
    have k := mul_pos1 (mul_pos1 a1 hb) (mul_pos1 c1 hd)
    have k2 := le_mul1 (a := (2 : Int) ^ i.1.length) (Int.le_of_lt (pow_pos2 _)) k
    by_cases z : i.1.length ≤ 4 * n + 1
    · exact z
    · have z1 := pow_le_pow (show 4 * n + 1 + 1 ≤ i.1.length by omega)
      rw [Int.pow_succ] at z1
      have z2 := pow_pos2 (4 * n + 1)
      generalize (2 : Int) ^ (4 * n + 1) = x at *
      generalize (2 : Int) ^ i.1.length = y at *
      omega
end NF
namespace NF
open PySem L2 SX
open TL (numL numL_free numL_ne numL_digits numL_val numL_len int_num)
/-! ### words and figures -/
def isFig (c : Nat) : Bool := decide (48 ≤ c) && decide (c ≤ 57)
def figs (w : Str) : Bool := w.cps.toList.all isFig && !w.cps.toList.isEmpty
theorem fig_in (c : Nat) : decide (c ∈ (("0123456789" : Str).cps.toList)) = isFig c := by
  have e : ("0123456789" : Str).cps.toList = [48, 49, 50, 51, 52, 53, 54, 55, 56, 57] := by decide +kernel
  rw [e]
  unfold isFig
  by_cases h : 48 ≤ c ∧ c ≤ 57
  · rw [decide_eq_true h.1, decide_eq_true h.2]
    refine decide_eq_true ?_
    have : c = 48 ∨ c = 49 ∨ c = 50 ∨ c = 51 ∨ c = 52 ∨ c = 53 ∨ c = 54 ∨ c = 55 ∨ c = 56 ∨ c = 57 := by omega
    simp
    omega
  · have h2 : (decide (48 ≤ c) && decide (c ≤ 57)) = false := by
      by_cases z : 48 ≤ c
      · rw [decide_eq_true z, decide_eq_false (by omega)]; rfl
      · rw [decide_eq_false z]; rfl
    rw [h2]
    refine decide_eq_false ?_
    simp
    omega
/-- the word of a run -/
def wordL (r : Run) : List Nat := (if r.1 = true then 82 else 76) :: numL r.2.toNat
def wordS (r : Run) : Str := S (wordL r)
theorem strI {m : Int} (h : 0 ≤ m) : (toString m : Str) = S (numL m.toNat) := by
  have e := num_S m.toNat
  rw [show ((m.toNat : Nat) : Int) = m by omega] at e
  exact e
theorem numL_head : ∀ n : Nat, 1 ≤ n → ∃ c r, numL n = c :: r ∧ c ≠ 48 := by
  intro n
  induction n using Nat.strongRecOn with
  | _ n ih =>
    intro h1
    by_cases h : n < 10
    · exact ⟨48 + n, [], TL.numL_lt h, by omega⟩
    · obtain ⟨c, r, e, k⟩ := ih (n / 10) (by omega) (by omega)
      exact ⟨c, r ++ [48 + n % 10], by rw [TL.numL_step (by omega), e]; rfl, k⟩
theorem numL_fig (n : Nat) : (numL n).all isFig = true := by
  refine List.all_eq_true.mpr fun c hc => ?_
  have := numL_digits n c hc
  unfold isFig
  rw [decide_eq_true this.1, decide_eq_true this.2]
  rfl
/-- what a word's first sign tells -/
def headB : List Nat → Option Bool
  | 76 :: _ => some false
  | 82 :: _ => some true
  | _ => none
def rd1 (ah : Option Bool) (w : List Nat) : Option Run := match headB w with
  | none => none
  | some b => if some b = ah then none else if ((w.drop 1).all isFig && !(w.drop 1).isEmpty) = true then (if (w.drop 1).head? = some 48 then none else some (b, ((NumText.digitsVal (w.drop 1) : Nat) : Int))) else none
def rdW : Option Bool → List Str → Option (List Run)
  | _, [] => some []
  | ah, w :: ws => match rd1 ah w.cps.toList with
    | none => none
    | some r => match rdW (some r.1) ws with
      | none => none
      | some p => some (r :: p)
theorem rd1_word {ah : Option Bool} {r : Run} (h : ah ≠ some r.1) (hm : 1 ≤ r.2) : rd1 ah (wordL r) = some r := by
  obtain ⟨c, t, e, k⟩ := numL_head r.2.toNat (by omega)
  have f := numL_fig r.2.toNat
  have ne : ((numL r.2.toNat).all isFig && !(numL r.2.toNat).isEmpty) = true := by
    rw [f, e]
    rfl
  have hd : (numL r.2.toNat).head? ≠ some 48 := by
    rw [e]
    intro z
    exact k (Option.some.inj z)
  have v := numL_val r.2.toNat
  have hb : headB (wordL r) = some r.1 := by
    unfold wordL
    cases r.1 <;> rfl
  unfold rd1
  rw [hb]
  show (if some r.1 = ah then none else if ((numL r.2.toNat).all isFig && !(numL r.2.toNat).isEmpty) = true then (if (numL r.2.toNat).head? = some 48 then none else some (r.1, ((NumText.digitsVal (numL r.2.toNat) : Nat) : Int))) else none) = some r
  rw [if_neg (fun z => h z.symm), if_pos ne, if_neg hd, v]
  obtain ⟨b, m⟩ := r
  have e2 : ((m.toNat : Nat) : Int) = m := by have : 1 ≤ m := hm; omega
  show some (b, ((m.toNat : Nat) : Int)) = some (b, m)
  rw [e2]
theorem rdW_words : ∀ (p : List Run) (ah : Option Bool), Alt p → (∀ r ∈ p, 1 ≤ r.2) → (∀ r, p.head? = some r → ah ≠ some r.1) → rdW ah (p.map wordS) = some p
  | [], _, _, _, _ => rfl
  | r :: p, ah, h, h1, h2 => by
    have a := alt_tail h
    have i := rdW_words p (some r.1) a.1 (fun x hx => h1 x (List.mem_cons_of_mem _ hx)) fun x hx z => a.2 x hx (Option.some.inj z)
    have e : rd1 ah (wordS r).cps.toList = some r := rd1_word (h2 r rfl) (h1 r List.mem_cons_self)
    show (match rd1 ah (wordS r).cps.toList with
      | none => none
      | some r => match rdW (some r.1) (p.map wordS) with
        | none => none
        | some p => some (r :: p)) = some (r :: p)
    rw [e]
    show (match rdW (some r.1) (p.map wordS) with
        | none => none
        | some p => some (r :: p)) = some (r :: p)
    rw [i]
def letS (b : Bool) : Str := if b = true then "R" else "L"
theorem let_S (b : Bool) : letS b = S [if b = true then 82 else 76] := by
  cases b
  · exact TL.ext_tl (by decide +kernel)
  · exact TL.ext_tl (by decide +kernel)
theorem word_cat (b : Bool) {m : Int} (h : 0 ≤ m) : letS b ++ (toString m : Str) = wordS (b, m) := by
  rw [let_S, strI h, S_cat]
  rfl
theorem num_small {m : Int} (h0 : 0 ≤ m) (h : m < 10 ^ 60) : m.natAbs.log2 < 1920 ∧ (toString m : Str).length ≤ 60 := by
  have h1 : m.toNat < 10 ^ 60 := by
    have e : ((10 ^ 60 : Nat) : Int) = (10 : Int) ^ 60 := by rw [Int.natCast_pow]; rfl
    omega
  have h2 : (10 : Nat) ^ 60 < 2 ^ 1920 := by decide +kernel
  constructor
  · by_cases z : m.natAbs = 0
    · rw [z]; decide
    · rw [Nat.log2_lt z]
      have : m.natAbs = m.toNat := by omega
      rw [this]
      exact Nat.lt_trans h1 h2
  · rw [strI h0, S_len]
    exact numL_len (by decide) h1
theorem word_len {r : Run} (h0 : 0 ≤ r.2) (h : r.2 < 10 ^ 60) : (wordS r).length ≤ 61 := by
  have := (num_small h0 h).2
  rw [strI h0, S_len] at this
  unfold wordS wordL
  rw [S_len, List.length_cons]
  omega
theorem words_sum : ∀ (p : List Run), (∀ r ∈ p, 0 ≤ r.2 ∧ r.2 < 10 ^ 60) → ((p.map wordS).map (·.length)).sum ≤ 61 * p.length
  | [], _ => Nat.le_refl _
  | r :: p, h => by
    have i := words_sum p fun x hx => h x (List.mem_cons_of_mem _ hx)
    have w := word_len (h r List.mem_cons_self).1 (h r List.mem_cons_self).2
    rw [List.map_cons, List.map_cons, List.sum_cons, List.length_cons]
    omega
def lineOf (p : List Run) : Str := if p.isEmpty = true then "top" else Txt.join " " (p.map wordS)
theorem runD_imm : ∀ p : List Run, immAll (p.map runD) = true
  | [] => rfl
  | r :: p => by
    show (imm (runD r) && immAll (p.map runD)) = true
    rw [runD_imm p]
    rfl
theorem way_rightB (b : Bool) : decide (wayS b = ("right" : Str)) = b := by
  cases b
  · exact decide_eq_false (by decide +kernel)
  · exact decide_eq_true rfl
def lastB (a : Option Bool) (p : List Run) : Option Bool := match p.getLast? with
  | none => a
  | some r => some r.1
theorem rdW_cons (a : Option Bool) (w : Str) (ws : List Str) : rdW a (w :: ws) = (rd1 a w.cps.toList).bind fun r => (rdW (some r.1) ws).map (r :: ·) := by
  show (match rd1 a w.cps.toList with
    | none => none
    | some r => match rdW (some r.1) ws with
      | none => none
      | some p => some (r :: p)) = _
  cases rd1 a w.cps.toList with
  | none => rfl
  | some r =>
    show (match rdW (some r.1) ws with
      | none => none
      | some p => some (r :: p)) = (rdW (some r.1) ws).map (r :: ·)
    cases rdW (some r.1) ws <;> rfl
theorem rdW_snoc : ∀ (l : List Str) (a : Option Bool) (p : List Run) (w : Str), rdW a l = some p → rdW a (l ++ [w]) = (rd1 (lastB a p) w.cps.toList).map fun r => p ++ [r]
  | [], a, p, w, h => by
    have : p = [] := (Option.some.inj h).symm
    subst this
    show rdW a [w] = _
    rw [rdW_cons]
    show (rd1 a w.cps.toList).bind _ = (rd1 a w.cps.toList).map _
    cases rd1 a w.cps.toList <;> rfl
  | v :: l, a, p, w, h => by
    rw [rdW_cons] at h
    show rdW a (v :: (l ++ [w])) = _
    rw [rdW_cons]
    cases h1 : rd1 a v.cps.toList with
    | none => rw [h1] at h; cases h
    | some r =>
      rw [h1] at h
      cases h2 : rdW (some r.1) l with
      | none =>
        have h' : (rdW (some r.1) l).map (r :: ·) = some p := h
        rw [h2] at h'
        cases h'
      | some q =>
        have h' : (rdW (some r.1) l).map (r :: ·) = some p := h
        rw [h2] at h'
        have e : p = r :: q := (Option.some.inj h').symm
        subst e
        show (rdW (some r.1) (l ++ [w])).map (r :: ·) = _
        rw [rdW_snoc l (some r.1) q w h2]
        have el : lastB a (r :: q) = lastB (some r.1) q := by
          cases q with
          | nil => rfl
          | cons x y =>
            unfold lastB
            rw [List.getLast?_cons_cons]
            cases hz : (x :: y).getLast? with
            | none => exact absurd hz (by simp)
            | some z => rfl
        rw [el]
        cases rd1 (lastB (some r.1) q) w.cps.toList <;> rfl
theorem rdW_stop : ∀ (l m : List Str) (a : Option Bool), rdW a l = none → rdW a (l ++ m) = none
  | [], m, a, h => by cases h
  | v :: l, m, a, h => by
    rw [rdW_cons] at h
    show rdW a (v :: (l ++ m)) = none
    rw [rdW_cons]
    cases h1 : rd1 a v.cps.toList with
    | none => rfl
    | some r =>
      rw [h1] at h
      have h' : (rdW (some r.1) l).map (r :: ·) = none := h
      cases h2 : rdW (some r.1) l with
      | some q => rw [h2] at h'; cases h'
      | none =>
        show (rdW (some r.1) (l ++ m)).map (r :: ·) = none
        rw [rdW_stop l m (some r.1) h2]
        rfl
def ahW : Option Bool → Str
  | none => ""
  | some b => wayS b
theorem cut1 (t : Str) : cutS t none (some 1) = S (t.cps.toList.take 1) := by
  unfold cutS
  refine TL.ext_tl ?_
  show (t.cps.toList.drop (HT.sIx t.length 0 none)).take (HT.sIx t.length t.length (some 1) - HT.sIx t.length 0 none) = t.cps.toList.take 1
  have e : HT.sIx t.length t.length (some 1) = min 1 t.length := HT.sIx_nat _ _ 1
  rw [HT.sIx_none, e, List.drop_zero, Nat.sub_zero]
  have hl : t.length = t.cps.toList.length := TL.len_tl t
  rw [hl]
  cases t.cps.toList with
  | nil => rfl
  | cons a b =>
    rw [Nat.min_eq_left (by simp)]
theorem cut2 (t : Str) : cutS t (some 1) none = S (t.cps.toList.drop 1) := by
  unfold cutS
  refine TL.ext_tl ?_
  show (t.cps.toList.drop (HT.sIx t.length 0 (some 1))).take (HT.sIx t.length t.length none - HT.sIx t.length 0 (some 1)) = t.cps.toList.drop 1
  have e : HT.sIx t.length 0 (some 1) = min 1 t.length := HT.sIx_nat _ _ 1
  have hl : t.length = t.cps.toList.length := TL.len_tl t
  rw [HT.sIx_none, e, hl]
  cases t.cps.toList with
  | nil => rfl
  | cons a b =>
    rw [Nat.min_eq_left (by simp)]
    exact List.take_of_length_le (by simp)
theorem L_S : ("L" : Str) = S [76] := TL.ext_tl (by decide +kernel)
theorem R_S : ("R" : Str) = S [82] := TL.ext_tl (by decide +kernel)
theorem way_of (t : Str) (a : Str) : (if cutS t none (some 1) = "L" then ("left" : Str) else if cutS t none (some 1) = "R" then "right" else a) = (match headB t.cps.toList with
    | none => a
    | some b => wayS b) := by
  rw [cut1, L_S, R_S]
  cases ht : t.cps.toList with
  | nil =>
    rw [if_neg (fun z => by have := S_inj z; cases this), if_neg (fun z => by have := S_inj z; cases this)]
    rfl
  | cons c r =>
    show (if S [c] = S [76] then _ else if S [c] = S [82] then _ else a) = _
    by_cases z : c = 76
    · subst z
      rw [if_pos rfl]
      rfl
    · rw [if_neg (fun y => by have := S_inj y; injection this with this; exact z this)]
      by_cases z2 : c = 82
      · subst z2
        rw [if_pos rfl]
        rfl
      · rw [if_neg (fun y => by have := S_inj y; injection this with this; exact z2 this)]
        have hb : headB (c :: r) = none := by
          unfold headB
          split
          · rename_i h; injection h with h; exact absurd h z
          · rename_i h; injection h with h; exact absurd h z2
          · rfl
        rw [hb]
theorem rdW_len : ∀ (l : List Str) (a : Option Bool) (p : List Run), rdW a l = some p → p.length = l.length
  | [], a, p, h => by cases h; rfl
  | v :: l, a, p, h => by
    rw [rdW_cons] at h
    cases h1 : rd1 a v.cps.toList with
    | none => rw [h1] at h; cases h
    | some r =>
      rw [h1] at h
      have h' : (rdW (some r.1) l).map (r :: ·) = some p := h
      cases h2 : rdW (some r.1) l with
      | none => rw [h2] at h'; cases h'
      | some q =>
        rw [h2] at h'
        have e : p = r :: q := (Option.some.inj h').symm
        rw [e, List.length_cons, List.length_cons, rdW_len l _ q h2]
end NF
namespace NF
open PySem L2 SX
open TL (numL numL_free numL_ne numL_digits numL_val numL_len int_num)
/-! ### lines: how long, and how long a run of figures within -/
/-- every run of figures within is short -/
def DR (n : Nat) (l : List Nat) : Prop := ∀ m, m <:+: l → m.all isFig = true → m.length ≤ n
theorem DR.sub {n : Nat} {l k : List Nat} (h : DR n l) (i : k <:+: l) : DR n k := fun m hm => h m (hm.trans i)
theorem DR.mono {n m : Nat} {l : List Nat} (h : DR n l) (i : n ≤ m) : DR m l := fun k hk f => Nat.le_trans (h k hk f) i
theorem DR.len {n : Nat} {l : List Nat} (h : l.length ≤ n) : DR n l := fun m hm _ => Nat.le_trans hm.length_le h
theorem DR.app {n k : Nat} {a b : List Nat} (ha : DR n a) (hb : DR k b) : DR (n + k) (a ++ b) := by
  rintro m ⟨s, t, e⟩ f
  rcases List.append_eq_append_iff.mp e with ⟨c, e1, e2⟩ | ⟨c, e1, e2⟩
  · exact Nat.le_trans (ha m ⟨s, c, e1.symm⟩ f) (Nat.le_add_right _ _)
  · rcases List.append_eq_append_iff.mp e1 with ⟨d, e3, e4⟩ | ⟨d, e3, e4⟩
    · subst e4
      rw [List.all_append, Bool.and_eq_true_iff] at f
      have h1 := ha d ⟨s, [], by rw [List.append_nil, e3]⟩ f.1
      have h2 := hb c ⟨[], t, by rw [List.nil_append, e2]⟩ f.2
      rw [List.length_append]
      omega
    · subst e4
      exact Nat.le_trans (hb m ⟨d, t, by rw [e2]⟩ f) (Nat.le_add_left _ _)
/-- another sign parts -/
theorem DR.sep {n c : Nat} {a b : List Nat} (ha : DR n a) (hb : DR n b) (hc : isFig c = false) : DR n (a ++ c :: b) := by
  rintro m ⟨s, t, e⟩ f
  rcases List.append_eq_append_iff.mp e with ⟨d, e1, e2⟩ | ⟨d, e1, e2⟩
  · exact ha m ⟨s, d, e1.symm⟩ f
  · rcases List.append_eq_append_iff.mp e1 with ⟨g, e3, e4⟩ | ⟨g, e3, e4⟩
    · subst e4
      rw [List.all_append, Bool.and_eq_true_iff] at f
      cases d with
      | nil =>
        rw [List.append_nil]
        exact ha g ⟨s, [], by rw [List.append_nil, e3]⟩ f.1
      | cons x d =>
        injection e2 with z1 z2
        subst z1
        have := f.2
        rw [List.all_cons, hc] at this
        cases this
    · subst e4
      cases g with
      | nil =>
        cases m with
        | nil => exact Nat.zero_le _
        | cons x m =>
          injection e2 with z1 z2
          subst z1
          rw [List.all_cons, hc] at f
          cases f
      | cons x g =>
        injection e2 with z1 z2
        exact hb m ⟨g, t, z2.symm⟩ f
theorem DR.joinL {n : Nat} : ∀ {ws : List (List Nat)}, (∀ w ∈ ws, DR n w) → DR n (TL.joinL [32] ws)
  | [], _ => fun m hm _ => Nat.le_trans hm.length_le (Nat.zero_le _)
  | [p], h => h p List.mem_cons_self
  | p :: q :: r, h => by
    have i := DR.joinL (ws := q :: r) fun w hw => h w (List.mem_cons_of_mem _ hw)
    exact (h p List.mem_cons_self).sep (c := 32) i rfl
theorem joinL_len : ∀ ws : List (List Nat), (TL.joinL [32] ws).length ≤ (ws.map (·.length)).sum + ws.length
  | [] => Nat.le_refl _
  | [p] => by
    show p.length ≤ _
    simp
  | p :: q :: r => by
    have i := joinL_len (q :: r)
    have e : (TL.joinL [32] (p :: q :: r)).length = p.length + (TL.joinL [32] (q :: r)).length + 1 := by
      show (p ++ ([32] ++ TL.joinL [32] (q :: r))).length = _
      rw [List.length_append, List.length_append, List.length_singleton]
      omega
    rw [e, List.map_cons, List.sum_cons, List.length_cons]
    omega
theorem spl_step (acc r : List Nat) (c : Nat) : TL.spl [32] 0 acc (c :: r) = if TL.pre [32] (c :: r) = true then acc :: TL.spl [32] 0 [] r else TL.spl [32] 0 (acc ++ [c]) r := rfl
theorem spl_sub : ∀ (l acc w : List Nat), w ∈ TL.spl [32] 0 acc l → w <:+: acc ++ l
  | [], acc, w, h => by
    rw [TL.spl_nil] at h
    have : w = acc := by simpa using h
    subst this
    exact ⟨[], [], by simp⟩
  | c :: r, acc, w, h => by
    rw [spl_step] at h
    split at h
    · rcases List.mem_cons.mp h with rfl | h
      · exact ⟨[], c :: r, by simp⟩
      · have := spl_sub r [] w h
        rw [List.nil_append] at this
        exact this.trans ⟨acc ++ [c], [], by simp⟩
    · have := spl_sub r (acc ++ [c]) w h
      rwa [List.append_assoc] at this
theorem spl_sum : ∀ (l acc : List Nat), ((TL.spl [32] 0 acc l).map (·.length)).sum ≤ acc.length + l.length
  | [], acc => by rw [TL.spl_nil]; simp
  | c :: r, acc => by
    rw [spl_step]
    split
    · have := spl_sum r []
      rw [List.map_cons, List.sum_cons, List.length_cons]
      rw [List.length_nil] at this
      omega
    · have := spl_sum r (acc ++ [c])
      rw [List.length_append, List.length_singleton] at this
      rw [List.length_cons]
      omega
theorem spl_cnt : ∀ (l acc : List Nat), (TL.spl [32] 0 acc l).length ≤ l.length + 1
  | [], acc => by rw [TL.spl_nil]; simp
  | c :: r, acc => by
    rw [spl_step]
    split
    · have := spl_cnt r []
      rw [List.length_cons, List.length_cons]
      omega
    · have := spl_cnt r (acc ++ [c])
      rw [List.length_cons]
      omega
theorem spl_pos : ∀ (l acc : List Nat), 0 < (TL.spl [32] 0 acc l).length
  | [], acc => by rw [TL.spl_nil]; simp
  | c :: r, acc => by
    rw [spl_step]
    split
    · rw [List.length_cons]; omega
    · exact spl_pos r _
theorem sum_set : ∀ (ws : List (List Nat)) (i : Nat) (w : List Nat), ((ws.set i w).map (·.length)).sum ≤ (ws.map (·.length)).sum + w.length
  | [], i, w => by simp
  | v :: ws, 0, w => by
    rw [List.set_cons_zero, List.map_cons, List.map_cons, List.sum_cons, List.sum_cons]
    omega
  | v :: ws, i + 1, w => by
    have := sum_set ws i w
    rw [List.set_cons_succ, List.map_cons, List.map_cons, List.sum_cons, List.sum_cons]
    omega
theorem sp_S : (" " : Str) = S [32] := TL.ext_tl (by decide +kernel)
theorem split_tl (z : Str) : Txt.split z " " = (TL.spl [32] 0 [] z.cps.toList).map S := by
  rw [sp_S, ← split_S (by simp) (by decide), S_tl]
structure LineOk (n m : Nat) (z : Str) : Prop where
  len : z.cps.toList.length ≤ m
  dr : DR n z.cps.toList
theorem LineOk.mono {n m n2 m2 : Nat} {z : Str} (h : LineOk n m z) (h1 : n ≤ n2) (h2 : m ≤ m2) : LineOk n2 m2 z := ⟨Nat.le_trans h.len h2, h.dr.mono h1⟩
theorem LineOk.short {n : Nat} {z : Str} (h : z.cps.toList.length ≤ n) : LineOk n n z := ⟨h, .len h⟩
theorem LineOk.read {z : Str} (h : LineOk 599 80000 z) : z.length ≤ 90000 ∧ (Txt.split z " ").length ≤ 90000 ∧ ∀ t ∈ Txt.split z " ", t.length ≤ 90000 ∧ ((t.cps.toList.drop 1).all isFig = true → t.length ≤ 600) := by
  have hl := h.len
  have e : z.length = z.cps.toList.length := TL.len_tl z
  have c := spl_cnt z.cps.toList []
  refine ⟨by omega, by rw [split_tl, List.length_map]; omega, fun t ht => ?_⟩
  rw [split_tl] at ht
  obtain ⟨w, hw, rfl⟩ := List.mem_map.mp ht
  have i := spl_sub _ _ _ hw
  rw [List.nil_append] at i
  have il := i.length_le
  refine ⟨by rw [S_len]; omega, fun f => ?_⟩
  have j : (w.drop 1) <:+: z.cps.toList := List.IsInfix.trans (List.drop_suffix 1 w).isInfix i
  have k := h.dr _ j f
  rw [List.length_drop] at k
  rw [S_len]
  omega
/-! ### the line of a path -/
def codesOf (p : List Run) : List Nat := if p.isEmpty = true then [116, 111, 112] else TL.joinL [32] (p.map wordL)
theorem top_S : ("top" : Str) = S [116, 111, 112] := TL.ext_tl (by decide +kernel)
theorem words_S (p : List Run) : p.map wordS = (p.map wordL).map S := by
  rw [List.map_map]
  rfl
theorem lineOf_S (p : List Run) : lineOf p = S (codesOf p) := by
  unfold lineOf codesOf
  split
  · exact top_S
  · rw [sp_S, words_S, join_S]
theorem word_free (r : Run) : 32 ∉ wordL r := by
  unfold wordL
  intro h
  rcases List.mem_cons.mp h with h | h
  · split at h <;> cases h
  · exact numL_free (by omega) h
theorem lineOf_split {p : List Run} (h : p ≠ []) : Txt.split (lineOf p) " " = p.map wordS := by
  rw [lineOf_S, sp_S, split_S (by simp) (by decide)]
  unfold codesOf
  rw [if_neg (by cases p with | nil => exact absurd rfl h | cons a b => simp), words_S]
  rw [spl_join (by simpa using h) fun w hw => by
    obtain ⟨r, _, rfl⟩ := List.mem_map.mp hw
    exact word_free r]
theorem codes_head {p : List Run} (h : p ≠ []) : ∃ c r, codesOf p = c :: r ∧ (c = 76 ∨ c = 82) := by
  cases p with
  | nil => exact absurd rfl h
  | cons a b =>
    have e : codesOf (a :: b) = TL.joinL [32] (wordL a :: b.map wordL) := rfl
    rw [e]
    have hc : (if a.1 = true then 82 else 76) = 76 ∨ (if a.1 = true then 82 else 76) = 82 := by
      split
      · exact .inr rfl
      · exact .inl rfl
    cases hb : b.map wordL with
    | nil => exact ⟨_, _, rfl, hc⟩
    | cons x y => exact ⟨_, _, rfl, hc⟩
theorem lineOf_top {p : List Run} (h : p ≠ []) : lineOf p ≠ "top" := by
  rw [lineOf_S, top_S]
  intro z
  have e := S_inj z
  obtain ⟨c, r, e2, k⟩ := codes_head h
  rw [e2] at e
  injection e with e _
  omega
theorem wordL_len {r : Run} (h0 : 0 ≤ r.2) (h : r.2 < 10 ^ 60) : (wordL r).length ≤ 61 := by
  have := word_len h0 h
  unfold wordS at this
  rwa [S_len] at this
theorem lineOf_ok {p : List Run} (hl : p.length ≤ 300) (hp : ∀ r ∈ p, 0 ≤ r.2 ∧ r.2 < 10 ^ 60) : LineOk 61 18700 (lineOf p) := by
  rw [lineOf_S]
  unfold codesOf
  split
  · exact (LineOk.short (n := 3) (Nat.le_refl _)).mono (by decide) (by decide)
  · refine ⟨?_, DR.joinL fun w hw => ?_⟩
    · have h1 := joinL_len (p.map wordL)
      have h2 := words_sum p hp
      rw [words_S, lens] at h2
      rw [List.length_map] at h1
      show (TL.joinL [32] (p.map wordL)).length ≤ _
      omega
    · obtain ⟨r, hr, rfl⟩ := List.mem_map.mp hw
      exact .len (wordL_len (hp r hr).1 (hp r hr).2)
/-- what a line is read to -/
def rdO (z : Str) : Option (List Run) := if z = "top" then some [] else rdW none (Txt.split z " ")
theorem rdO_line {p : List Run} (ha : Alt p) (h1 : ∀ r ∈ p, 1 ≤ r.2) : rdO (lineOf p) = some p := by
  unfold rdO
  by_cases h : p = []
  · subst h
    rfl
  · rw [if_neg (lineOf_top h), lineOf_split h]
    exact rdW_words p none ha h1 fun r _ z => nomatch z
/-- a read path is one -/
theorem digits_from : ∀ (l : List Nat) (a : Nat), 1 ≤ a → 1 ≤ l.foldl (fun acc c => acc * 10 + (c - 48)) a
  | [], a, h => h
  | c :: l, a, h => digits_from l (a * 10 + (c - 48)) (by omega)
theorem digits_pos {l : List Nat} (hf : l.all isFig = true) (hn : l ≠ []) (h0 : l.head? ≠ some 48) : 1 ≤ NumText.digitsVal l := by
  cases l with
  | nil => exact absurd rfl hn
  | cons c l =>
    rw [List.all_cons, Bool.and_eq_true_iff] at hf
    have h1 := hf.1
    unfold isFig at h1
    rw [Bool.and_eq_true_iff] at h1
    have h2 := of_decide_eq_true h1.1
    have h3 : c ≠ 48 := fun z => h0 (by rw [z]; rfl)
    show 1 ≤ l.foldl (fun acc c => acc * 10 + (c - 48)) (0 * 10 + (c - 48))
    exact digits_from l (0 * 10 + (c - 48)) (by omega)
theorem rd1_ok {ah : Option Bool} {w : List Nat} {r : Run} (h : rd1 ah w = some r) : 1 ≤ r.2 ∧ ah ≠ some r.1 := by
  unfold rd1 at h
  cases hb : headB w with
  | none => rw [hb] at h; cases h
  | some b =>
    rw [hb] at h
    dsimp only at h
    split at h
    · cases h
    · rename_i h1
      split at h
      · rename_i h2
        split at h
        · cases h
        · rename_i h3
          cases h
          rw [Bool.and_eq_true_iff] at h2
          have := digits_pos h2.1 (by intro z; rw [z] at h2; cases h2.2) h3
          exact ⟨by show (1 : Int) ≤ ((NumText.digitsVal (w.drop 1) : Nat) : Int); omega, fun z => h1 z.symm⟩
      · cases h
theorem rdW_ok : ∀ (ws : List Str) (ah : Option Bool) (p : List Run), rdW ah ws = some p → Alt p ∧ (∀ r ∈ p, 1 ≤ r.2) ∧ ∀ r, p.head? = some r → ah ≠ some r.1
  | [], ah, p, h => by
    cases h
    exact ⟨trivial, fun r hr => (nomatch hr), fun r hr => nomatch hr⟩
  | w :: ws, ah, p, h => by
    rw [rdW_cons] at h
    cases h1 : rd1 ah w.cps.toList with
    | none => rw [h1] at h; cases h
    | some r =>
      rw [h1] at h
      have h' : (rdW (some r.1) ws).map (r :: ·) = some p := h
      cases h2 : rdW (some r.1) ws with
      | none => rw [h2] at h'; cases h'
      | some q =>
        rw [h2] at h'
        have e : p = r :: q := (Option.some.inj h').symm
        subst e
        have i := rdW_ok ws (some r.1) q h2
        have j := rd1_ok h1
        refine ⟨?_, fun x hx => ?_, fun x hx => ?_⟩
        · cases q with
          | nil => exact trivial
          | cons y q => exact ⟨fun z => i.2.2 y rfl (by rw [z]), i.1⟩
        · rcases List.mem_cons.mp hx with rfl | hx
          · exact j.1
          · exact i.2.1 x hx
        · cases hx
          exact j.2
theorem rdO_ok {z : Str} {p : List Run} (h : rdO z = some p) : ck "" (p.map gen) = true := by
  unfold rdO at h
  split at h
  · cases h
    rfl
  · have := rdW_ok _ _ _ h
    exact ck_runs p "" this.1 this.2.1 fun r _ => way_ne r.1
theorem rdO_len {z : Str} {p : List Run} (l : LineOk 599 80000 z) (h : rdO z = some p) : p.length ≤ 90000 := by
  unfold rdO at h
  split at h
  · cases h
    exact Nat.zero_le _
  · rw [rdW_len _ _ _ h]
    exact l.read.2.1
/-- the first letter of a word, as the law takes it -/
theorem cut_let {t : Str} {b : Bool} (h : headB t.cps.toList = some b) : cutS t none (some 1) = letS b := by
  rw [cut1, let_S]
  cases ht : t.cps.toList with
  | nil => rw [ht] at h; cases h
  | cons c r =>
    rw [ht] at h
    unfold headB at h
    split at h
    · rename_i h1; injection h1 with h1 _; cases h; subst h1; rfl
    · rename_i h1; injection h1 with h1 _; cases h; subst h1; rfl
    · cases h
theorem let_inj {a b : Bool} (h : letS a = letS b) : a = b := by
  rw [let_S, let_S] at h
  have := S_inj h
  cases a <;> cases b <;> first | rfl | cases this
def ahL : Option Bool → Str
  | none => ""
  | some b => letS b
theorem let_ahL (b : Bool) (a : Option Bool) : decide (letS b = ahL a) = decide (some b = a) := by
  cases a with
  | none =>
    have h : ¬ (some b = (none : Option Bool)) := fun z => nomatch z
    rw [decide_eq_false h]
    refine decide_eq_false fun z => ?_
    rw [let_S] at z
    have e : ("" : Str) = S [] := TL.ext_tl (by decide +kernel)
    have z2 : S [if b = true then 82 else 76] = S [] := z.trans e
    have := S_inj z2
    cases this
  | some c =>
    show decide (letS b = letS c) = _
    by_cases h : b = c
    · subst h; rw [decide_eq_true rfl, decide_eq_true rfl]
    · rw [decide_eq_false (fun z => h (let_inj z)), decide_eq_false (fun z => h (Option.some.inj z))]
theorem cut_in (t : Str) : decide (cutS t none (some 1) ∈ (["L", "R"] : List Str)) = (headB t.cps.toList).isSome := by
  cases hb : headB t.cps.toList with
  | some b =>
    rw [cut_let hb]
    cases b
    · exact decide_eq_true (by decide +kernel)
    · exact decide_eq_true (by decide +kernel)
  | none =>
    refine decide_eq_false fun z => ?_
    rw [cut1, L_S, R_S] at z
    have z2 : S (t.cps.toList.take 1) = S [76] ∨ S (t.cps.toList.take 1) = S [82] := by simpa using z
    cases ht : t.cps.toList with
    | nil =>
      rw [ht] at z2
      rcases z2 with z2 | z2 <;> (have := S_inj z2; cases this)
    | cons c r =>
      rw [ht] at z2 hb
      rcases z2 with z2 | z2 <;> (have := S_inj z2; injection this with this; subst this; cases hb)
/-! ### cuts -/
theorem cut_to (t : Str) (k : Nat) : cutS t none (some (k : Int)) = S (t.cps.toList.take k) := by
  have := slice_to (a := t.cps.toList) (i := (k : Int)) (by omega)
  rw [S_tl] at this
  rw [C8.cutS_slice, this, Int.toNat_natCast]
theorem cut_from (t : Str) (k : Nat) : cutS t (some (k : Int)) none = S (t.cps.toList.drop k) := by
  have := slice_from (a := t.cps.toList) (i := (k : Int)) (by omega)
  rw [S_tl] at this
  rw [C8.cutS_slice, this, Int.toNat_natCast]
/-! ### a line turned -/
def turnL (l : List Nat) (k : Int) (i : Nat) (c : Nat) : List Nat := if k = 1 then l.take i ++ c :: l.drop i else if k = 2 then l.take i ++ c :: l.drop (i + 1) else if k = 3 then l.take i ++ l.drop (i + 1) else l
theorem DR.take {n : Nat} {l : List Nat} (h : DR n l) (i : Nat) : DR n (l.take i) := h.sub (List.take_prefix i l).isInfix
theorem DR.drop {n : Nat} {l : List Nat} (h : DR n l) (i : Nat) : DR n (l.drop i) := h.sub (List.drop_suffix i l).isInfix
theorem DR.ins {n : Nat} {a b : List Nat} (ha : DR n a) (hb : DR n b) (c : Nat) : DR (2 * n + 1) (a ++ c :: b) := by
  have h1 : DR 1 [c] := .len (Nat.le_refl _)
  have h2 := (ha.app (h1.app hb))
  exact DR.mono h2 (by omega)
theorem turn_ok {n m : Nat} {z : Str} (h : LineOk n m z) (k : Int) (i c : Nat) : LineOk (2 * n + 1) (m + 1) (S (turnL z.cps.toList k i c)) := by
  have hl := h.len
  constructor
  · show (turnL z.cps.toList k i c).length ≤ _
    unfold turnL
    split
    · rw [List.length_append, List.length_cons, List.length_take, List.length_drop]; omega
    · split
      · rw [List.length_append, List.length_cons, List.length_take, List.length_drop]; omega
      · split
        · rw [List.length_append, List.length_take, List.length_drop]; omega
        · omega
  · show DR _ (turnL z.cps.toList k i c)
    unfold turnL
    split
    · exact (h.dr.take i).ins (h.dr.drop i) c
    · split
      · exact (h.dr.take i).ins (h.dr.drop (i + 1)) c
      · split
        · exact DR.mono ((h.dr.take i).app (h.dr.drop (i + 1))) (by omega)
        · exact h.dr.mono (by omega)
/-- a nought behind the first sign of a word -/
def noughtL (w : List Nat) : List Nat := w.take 1 ++ 48 :: w.drop 1
def noughtWs (l : List Nat) (i : Nat) : List (List Nat) := (TL.spl [32] 0 [] l).set i (noughtL ((TL.spl [32] 0 [] l).getD i []))
def noughtS (z : Str) (i : Nat) : Str := S (TL.joinL [32] (noughtWs z.cps.toList i))
theorem nought_ok {n m : Nat} {z : Str} (h : LineOk n m z) {i : Nat} (hi : i < (TL.spl [32] 0 [] z.cps.toList).length) : LineOk (2 * n + 1) (3 * m + 3) (noughtS z i) ∧ ((noughtWs z.cps.toList i).map (·.length)).sum + (noughtWs z.cps.toList i).length ≤ 3 * m + 3 := by
  have hl := h.len
  have hsum := spl_sum z.cps.toList []
  have hcnt := spl_cnt z.cps.toList []
  rw [List.length_nil] at hsum
  have hw : (TL.spl [32] 0 [] z.cps.toList).getD i [] ∈ TL.spl [32] 0 [] z.cps.toList := by
    rw [List.getD_eq_getElem?_getD, List.getElem?_eq_getElem hi]
    exact List.getElem_mem hi
  have inf : ∀ w ∈ TL.spl [32] 0 [] z.cps.toList, w <:+: z.cps.toList := fun w hw => by
    have := spl_sub _ _ _ hw
    rwa [List.nil_append] at this
  have nl : (noughtL ((TL.spl [32] 0 [] z.cps.toList).getD i [])).length ≤ z.cps.toList.length + 1 := by
    have := (inf _ hw).length_le
    unfold noughtL
    rw [List.length_append, List.length_cons, List.length_take, List.length_drop]
    omega
  have s2 := sum_set (TL.spl [32] 0 [] z.cps.toList) i (noughtL ((TL.spl [32] 0 [] z.cps.toList).getD i []))
  have tot : ((noughtWs z.cps.toList i).map (·.length)).sum + (noughtWs z.cps.toList i).length ≤ 3 * m + 3 := by
    unfold noughtWs
    rw [List.length_set]
    omega
  refine ⟨⟨?_, ?_⟩, tot⟩
  · exact Nat.le_trans (joinL_len _) tot
  · refine DR.joinL fun w hwm => ?_
    unfold noughtWs at hwm
    rcases List.mem_or_eq_of_mem_set hwm with h1 | rfl
    · exact (h.dr.sub (inf w h1)).mono (by omega)
    · have d := h.dr.sub (inf _ hw)
      exact (d.take 1).ins (d.drop 1) 48
end NF
namespace NF
open PySem L2 SX
open TL (numL numL_free numL_ne numL_digits numL_val numL_len int_num)
/-! ### decimals -/
def figsL (l : List Nat) : Bool := l.all isFig && !l.isEmpty
theorem figs_S (l : List Nat) : figs (S l) = figsL l := rfl
/-- a nought ahead -/
def lead0 (h : List Nat) : Bool := decide (h.head? = some 48) && !decide (h = [48])
def dec2 (h t : List Nat) (pt : Bool) : Bool := figsL h && (!lead0 h && (!pt || figsL t))
theorem dec2_no1 {x y p q : Bool} (h : true = !(x && !y)) : (x && (!y && (!p || q))) = false := by revert h; cases x <;> cases y <;> cases p <;> cases q <;> decide
theorem dec2_no2 {x y p q : Bool} (h : true = (p && !q)) : (x && (!y && (!p || q))) = false := by revert h; cases x <;> cases y <;> cases p <;> cases q <;> decide
theorem dec2_yes {x y p q : Bool} (h : false = !(x && !y)) (h2 : false = (p && !q)) : (x && (!y && (!p || q))) = true := by revert h h2; cases x <;> cases y <;> cases p <;> cases q <;> decide
def decR (h t : List Nat) (pt : Bool) : Option (Nat × Nat) := if dec2 h t pt = true then some (NumText.digitsVal (h ++ t), t.length) else none
def decO (z : Str) : Option (Nat × Nat) := match TL.par [46] [] z.cps.toList with
  | some (h, t) => decR h t true
  | none => decR z.cps.toList [] false
def ptS (b : Bool) : Str := if b = true then "." else ""
theorem pt_S : ("." : Str) = S [46] := TL.ext_tl (by decide +kernel)
theorem nil_S : ("" : Str) = S [] := TL.ext_tl (by decide +kernel)
theorem pre46 {c : Nat} {r : List Nat} : TL.pre [46] (c :: r) = decide (c = 46) := by
  show ([c] == [46]) = _
  by_cases h : c = 46
  · subst h; rfl
  · rw [decide_eq_false h]
    simp [h]
theorem par_app : ∀ (l acc p q : List Nat), TL.par [46] acc l = some (p, q) → acc ++ l = p ++ 46 :: q
  | [], acc, p, q, h => by cases h
  | c :: r, acc, p, q, h => by
    by_cases hc : c = 46
    · rw [TL.par_hit (by rw [pre46, decide_eq_true hc])] at h
      cases h
      subst hc
      rfl
    · rw [TL.par_miss (by rw [pre46, decide_eq_false hc])] at h
      have := par_app r (acc ++ [c]) p q h
      rw [← this, List.append_assoc]
      rfl
structure Parts (z : Str) (h t : List Nat) (pt : Bool) : Prop where
  p : Txt.partition z "." = (S h, ptS pt, S t)
  d : decO z = decR h t pt
  l : h.length + t.length ≤ z.length
  n : pt = false → t = []
theorem parts_ex (z : Str) : ∃ h t pt, Parts z h t pt := by
  have hl : z.length = z.cps.toList.length := TL.len_tl z
  cases hp : TL.par [46] [] z.cps.toList with
  | some pq =>
    obtain ⟨h, t⟩ := pq
    refine ⟨h, t, true, ?_, ?_, ?_, fun q => by cases q⟩
    · have := partition_some (a := z.cps.toList) (b := [46]) (by simp) hp
      rw [S_tl, ← pt_S] at this
      exact this
    · unfold decO
      rw [hp]
    · have := par_app _ _ _ _ hp
      rw [List.nil_append] at this
      rw [hl, this, List.length_append, List.length_cons]
      omega
  | none =>
    refine ⟨z.cps.toList, [], false, ?_, ?_, ?_, fun _ => rfl⟩
    · have := partition_none (a := z.cps.toList) (b := [46]) (by simp) hp
      rw [S_tl, ← pt_S, ← nil_S] at this
      rw [this, S_tl, ← nil_S]
      rfl
    · unfold decO
      rw [hp]
    · rw [hl]
      simp
/-- how great a row of figures is -/
theorem digits_lt : ∀ (l : List Nat) (a : Nat), l.all isFig = true → l.foldl (fun acc c => acc * 10 + (c - 48)) a + 1 ≤ (a + 1) * 10 ^ l.length
  | [], a, _ => by simp
  | c :: l, a, h => by
    rw [List.all_cons, Bool.and_eq_true_iff] at h
    have hc := h.1
    unfold isFig at hc
    rw [Bool.and_eq_true_iff] at hc
    have c1 := of_decide_eq_true hc.1
    have c2 := of_decide_eq_true hc.2
    have i := digits_lt l (a * 10 + (c - 48)) h.2
    refine Nat.le_trans i ?_
    rw [List.length_cons, Nat.pow_succ]
    have e : (a + 1) * (10 ^ l.length * 10) = ((a + 1) * 10) * 10 ^ l.length := by rw [Nat.mul_comm (10 ^ l.length) 10, Nat.mul_assoc]
    rw [e]
    exact Nat.mul_le_mul_right _ (by omega)
theorem digitsVal_lt {l : List Nat} (h : l.all isFig = true) : NumText.digitsVal l < 10 ^ l.length := by
  have := digits_lt l 0 h
  show l.foldl (fun acc c => acc * 10 + (c - 48)) 0 < _
  omega
theorem digitsVal_snoc (l : List Nat) (c : Nat) : NumText.digitsVal (l ++ [c]) = NumText.digitsVal l * 10 + (c - 48) := by
  show (l ++ [c]).foldl (fun acc c => acc * 10 + (c - 48)) 0 = _
  rw [List.foldl_append]
  rfl
theorem decR_some {h t : List Nat} {pt : Bool} {n k : Nat} (e : decR h t pt = some (n, k)) (hn : pt = false → t = []) : (h ++ t).all isFig = true ∧ h ≠ [] ∧ n = NumText.digitsVal (h ++ t) ∧ k = t.length ∧ n < 10 ^ (h.length + t.length) := by
  unfold decR at e
  split at e
  · rename_i hd
    cases e
    unfold dec2 at hd
    rw [Bool.and_eq_true_iff, Bool.and_eq_true_iff] at hd
    obtain ⟨h1, _, h3⟩ := hd
    unfold figsL at h1
    rw [Bool.and_eq_true_iff] at h1
    have ht : t.all isFig = true := by
      cases pt with
      | false => rw [hn rfl]; rfl
      | true =>
        have h4 : figsL t = true := by simpa using h3
        unfold figsL at h4
        exact (Bool.and_eq_true_iff.mp h4).1
    have ha : (h ++ t).all isFig = true := by rw [List.all_append, h1.1, ht]; rfl
    refine ⟨ha, fun z => ?_, rfl, rfl, ?_⟩
    · rw [z] at h1
      cases h1.2
    · have := digitsVal_lt ha
      rwa [List.length_append] at this
  · cases e
theorem decO_bd {z : Str} {n k : Nat} (e : decO z = some (n, k)) : k ≤ z.length ∧ n < 10 ^ z.length := by
  obtain ⟨h, t, pt, P⟩ := parts_ex z
  rw [P.d] at e
  obtain ⟨_, _, _, rfl, h5⟩ := decR_some e P.n
  have := P.l
  exact ⟨by omega, Nat.lt_of_lt_of_le h5 (Nat.pow_le_pow_right (by decide) this)⟩
/-! ### the bounds that it tells -/
def loU (n : Nat) : Int := if 2 * (n : Int) - 1 > 0 then 2 * (n : Int) - 1 else 0
def hiU (n : Nat) : Int := 2 * (n : Int) + 1
def stL (k : Nat) : Int := 2 * 10 ^ k
theorem loU_rg (n : Nat) : 0 ≤ loU n ∧ loU n ≤ hiU n := by
  unfold loU hiU
  split <;> omega
theorem hiU_pos (n : Nat) : 0 ≤ hiU n := by unfold hiU; omega
theorem ten_pos (k : Nat) : (1 : Int) ≤ 10 ^ k := by
  have : (0 : Int) < 10 ^ k := Int.pow_pos (by decide)
  omega
theorem stL_pos (k : Nat) : 1 ≤ stL k := by
  have := ten_pos k
  unfold stL
  omega
theorem ten_le {k m : Nat} (h : k ≤ m) : (10 : Int) ^ k ≤ 10 ^ m := by
  have h2 : 10 ^ k ≤ 10 ^ m := Nat.pow_le_pow_right (by decide) h
  have h3 : ((10 ^ k : Nat) : Int) ≤ ((10 ^ m : Nat) : Int) := Int.ofNat_le.mpr h2
  rw [Int.natCast_pow, Int.natCast_pow] at h3
  exact h3
theorem ten200 : (4 : Int) * 10 ^ 200 < 2 ^ 700 := by decide +kernel
theorem dec_bd {z : Str} {n k : Nat} (e : decO z = some (n, k)) (hz : z.length ≤ 200) : Bd 700 (loU n) ∧ Bd 700 (hiU n) ∧ Bd 700 (stL k) ∧ Bd 700 ((10 : Int) ^ k) ∧ Bd 700 (n : Int) := by
  have h := decO_bd e
  have t := ten200
  have h1 := ten_le (show k ≤ 200 by omega)
  have h2 := ten_le hz
  have h3 : (n : Int) < 10 ^ z.length := by
    have h3 : (n : Int) < ((10 ^ z.length : Nat) : Int) := Int.ofNat_lt.mpr h.2
    rwa [Int.natCast_pow] at h3
  have r := loU_rg n
  have p := ten_pos k
  have q := ten_pos 200
  have s := hiU_pos n
  have e1 : hiU n = 2 * (n : Int) + 1 := rfl
  have e2 : stL k = 2 * 10 ^ k := rfl
  generalize (10 : Int) ^ 200 = x at *
  generalize (10 : Int) ^ z.length = y at *
  generalize (10 : Int) ^ k = v at *
  generalize hw : (2 : Int) ^ 700 = w at *
  refine ⟨.lt (by omega) ?_, .lt (by omega) ?_, .lt (by omega) ?_, .lt (by omega) ?_, .lt (by omega) ?_⟩ <;> rw [hw] <;> omega
/-- both bounds, in lowest parts -/
def lA (n k : Nat) : Int := gu (loU n) (stL k)
def lB (n k : Nat) : Int := gl (loU n) (stL k)
def hA (n k : Nat) : Int := gu (hiU n) (stL k)
def hB (n k : Nat) : Int := gl (hiU n) (stL k)
theorem lo_fr (n k : Nat) : Fr (lA n k) (lB n k) := fr_of (loU_rg n).1 (stL_pos k)
theorem hi_fr (n k : Nat) : Fr (hA n k) (hB n k) := fr_of (hiU_pos n) (stL_pos k)
theorem mul_swap_le {a b c d u v s : Int} (s1 : 1 ≤ s) (ha : a * s = u * b) (hc : c * s = v * d) (b0 : 0 ≤ b) (d0 : 0 ≤ d) (h : u ≤ v) : a * d ≤ c * b := by
  have e1 : a * d * s = u * (b * d) := by
    have : a * d * s = a * s * d := by grind
    rw [this, ha]
    grind
  have e2 : c * b * s = v * (b * d) := by
    have : c * b * s = c * s * b := by grind
    rw [this, hc]
    grind
  have h1 : u * (b * d) ≤ v * (b * d) := Int.mul_le_mul_of_nonneg_right h (Int.mul_nonneg b0 d0)
  exact Int.le_of_mul_le_mul_right (a := s) (by omega) (by omega)
theorem dec_le (n k : Nat) : lA n k * hB n k ≤ hA n k * lB n k := by
  have f1 := lo_fr n k
  have f2 := hi_fr n k
  have a1 := f1.l1
  have a2 := f2.l1
  exact mul_swap_le (stL_pos k) (gu_gl (stL_pos k)) (gu_gl (stL_pos k)) (by omega) (by omega) (loU_rg n).2
theorem lo_bd {z : Str} {n k : Nat} (e : decO z = some (n, k)) (hz : z.length ≤ 200) : Bd 700 (lA n k) ∧ Bd 700 (lB n k) ∧ Bd 700 (hA n k) ∧ Bd 700 (hB n k) := by
  have h := dec_bd e hz
  exact ⟨h.1.gu (loU_rg n).1 (stL_pos k), h.2.2.1.gl (stL_pos k), h.2.1.gu (hiU_pos n) (stL_pos k), h.2.2.1.gl (stL_pos k)⟩
/-! ### the figures' places -/
theorem fig_ix {c : Nat} (h : isFig c = true) : Builtin.Str.occurrences "0123456789" ⟨#[c]⟩ 0 (Str.length "0123456789") 1 = [c - 48] := by
  unfold isFig at h
  rw [Bool.and_eq_true_iff] at h
  have h1 := of_decide_eq_true h.1
  have h2 := of_decide_eq_true h.2
  rcases (show c = 48 ∨ c = 49 ∨ c = 50 ∨ c = 51 ∨ c = 52 ∨ c = 53 ∨ c = 54 ∨ c = 55 ∨ c = 56 ∨ c = 57 by omega) with rfl | rfl | rfl | rfl | rfl | rfl | rfl | rfl | rfl | rfl <;> decide +kernel
/-! ### a drawn decimal -/
theorem numL_long {n k : Nat} (h : 10 ^ k ≤ n) : k < (numL n).length := by
  have h1 := digitsVal_lt (numL_fig n)
  rw [numL_val] at h1
  exact (Nat.pow_lt_pow_iff_right (by decide : 1 < 10)).mp (Nat.lt_of_le_of_lt h h1)
theorem numL_lead (n : Nat) : lead0 (numL n) = false := by
  unfold lead0
  by_cases h : n = 0
  · subst h
    rfl
  · obtain ⟨c, r, e, k⟩ := numL_head n (by omega)
    rw [e]
    have : decide ((c :: r).head? = some 48) = false := decide_eq_false fun z => k (Option.some.inj z)
    rw [this]
    rfl
theorem figs_numL (n : Nat) : figsL (numL n) = true := by
  unfold figsL
  rw [numL_fig]
  cases h : numL n with
  | nil => exact absurd h (numL_ne n)
  | cons a b => rfl
theorem dec_one (n : Nat) : decO (S (numL n)) = some (n, 0) := by
  have hp : TL.par [46] [] (numL n) = none := TL.par_none1 (numL_free (by omega))
  unfold decO
  show (match TL.par [46] [] (numL n) with
    | some (h, t) => decR h t true
    | none => decR (numL n) [] false) = _
  rw [hp]
  show decR (numL n) [] false = _
  unfold decR
  have : dec2 (numL n) [] false = true := by
    unfold dec2
    rw [figs_numL, numL_lead]
    rfl
  rw [if_pos this, List.append_nil, numL_val]
  rfl
theorem dec_two (n : Nat) {t : List Nat} (ht : figsL t = true) : decO (S (numL n ++ 46 :: t)) = some (NumText.digitsVal (numL n ++ t), t.length) := by
  have hp : TL.par [46] [] (numL n ++ 46 :: t) = some (numL n, t) := by
    have := TL.par_part1 (s := 46) (S := []) (p := numL n) (rest := t) (acc := []) (numL_free (by omega))
    rw [List.nil_append] at this
    exact this
  unfold decO
  show (match TL.par [46] [] (numL n ++ 46 :: t) with
    | some (h, t) => decR h t true
    | none => decR (numL n ++ 46 :: t) [] false) = _
  rw [hp]
  show decR (numL n) t true = _
  unfold decR
  have : dec2 (numL n) t true = true := by
    unfold dec2
    rw [figs_numL, numL_lead, ht]
    rfl
  rw [if_pos this]
theorem tail_figs {n m : Nat} (h : 10 ^ 58 ≤ n) (m1 : 1 ≤ m) (m2 : m ≤ 59) : figsL ((numL n).drop (59 - m)) = true := by
  have hl := numL_long h
  unfold figsL
  have ha : ((numL n).drop (59 - m)).all isFig = true := List.all_eq_true.mpr fun c hc => List.all_eq_true.mp (numL_fig n) c (List.mem_of_mem_drop hc)
  rw [ha]
  cases hd : (numL n).drop (59 - m) with
  | nil =>
    have := congrArg List.length hd
    rw [List.length_drop, List.length_nil] at this
    omega
  | cons a b => rfl
/-! ### the neighbours of the simplest -/
theorem smp_le {a b c d p q : Int} (h : Smp a b c d p q) (b1 : 1 ≤ b) (le : a * d ≤ c * b) : q ≤ b ∧ p ≤ a := h.mn a b b1 (Int.le_refl _) le
theorem smp_left {a b c d p q la lb ra rb : Int} (h : Smp a b c d p q) (d1 : 1 ≤ d) (hs1 : la + ra = p) (hs2 : lb + rb = q) (det : ra * lb - la * rb = 1) (a0 : 0 ≤ la) (b0 : 0 ≤ lb) (c0 : 0 ≤ ra) (e0 : 0 ≤ rb) : 1 ≤ lb ∧ la * b < a * lb := by
  have lb1 : 1 ≤ lb := by
    by_cases z : 1 ≤ lb
    · exact z
    · have : lb = 0 := by omega
      rw [this, Int.mul_zero] at det
      have := Int.mul_nonneg a0 e0
      omega
  have ra1 : 1 ≤ ra := by
    by_cases z : 1 ≤ ra
    · exact z
    · have : ra = 0 := by omega
      rw [this, Int.zero_mul] at det
      have := Int.mul_nonneg a0 e0
      omega
  refine ⟨lb1, ?_⟩
  by_cases z : la * b < a * lb
  · exact z
  · have hi := h.hi
    have q1 := h.f.l1
    -- the left one is below the fraction
    have k1 : la * q ≤ p * lb := by
      rw [← hs1, ← hs2, Int.mul_add, Int.add_mul]
      omega
    have k2 : la * d ≤ c * lb := by
      have m1 : la * q * d ≤ p * lb * d := Int.mul_le_mul_of_nonneg_right k1 (by omega)
      have m2 : p * d * lb ≤ c * q * lb := Int.mul_le_mul_of_nonneg_right hi (by omega)
      have e1 : p * lb * d = p * d * lb := by grind
      have e2 : la * q * d = la * d * q := by grind
      have e3 : c * q * lb = c * lb * q := by grind
      exact Int.le_of_mul_le_mul_right (a := q) (by omega) (by omega)
    have := h.mn la lb lb1 (by omega) k2
    omega
theorem smp_right {a b c d p q la lb ra rb : Int} (h : Smp a b c d p q) (b1 : 1 ≤ b) (d1 : 1 ≤ d) (hs1 : la + ra = p) (hs2 : lb + rb = q) (det : ra * lb - la * rb = 1) (lb1 : 1 ≤ lb) (a0 : 0 ≤ la) (c0 : 0 ≤ ra) (e0 : 0 ≤ rb) : c * rb < ra * d := by
  by_cases z : c * rb < ra * d
  · exact z
  · by_cases r0 : rb = 0
    · subst r0
      rw [Int.mul_zero] at z det
      have ra1 : 1 ≤ ra := by
        by_cases y : 1 ≤ ra
        · exact y
        · have : ra = 0 := by omega
          rw [this, Int.zero_mul] at det
          omega
      have := Int.mul_pos (show 0 < ra by omega) (show 0 < d by omega)
      omega
    · have lo := h.lo
      have q1 := h.f.l1
      have k1 : p * rb ≤ ra * q := by
        rw [← hs1, ← hs2, Int.mul_add, Int.add_mul]
        omega
      have k2 : a * rb ≤ ra * b := by
        have m1 : a * q * rb ≤ p * b * rb := Int.mul_le_mul_of_nonneg_right lo (by omega)
        have m2 : p * rb * b ≤ ra * q * b := Int.mul_le_mul_of_nonneg_right k1 (by omega)
        have e1 : p * b * rb = p * rb * b := by grind
        have e2 : a * q * rb = a * rb * q := by grind
        have e3 : ra * q * b = ra * b * q := by grind
        exact Int.le_of_mul_le_mul_right (a := q) (by omega) (by omega)
      have := h.mn ra rb (by omega) k2 (by omega)
      omega
end NF
namespace NF.Law
open PySem PySem.Spec L2 NF
open Evl (Ex)
open PyProof.Rows (envOfC)
def topS (i : Nat) : Stmt := PySem.Challenge.pw_nearfrac_k10_whole_sides_outside.main.body.getD i (.Pass ⟨0, 0, 0, 0⟩)
abbrev s_path_of : Stmt := topS 7
abbrev s_ends_of : Stmt := topS 8
abbrev s_sides : Stmt := topS 9
abbrev s_is_whole : Stmt := topS 11
abbrev s_common : Stmt := topS 12
abbrev s_lowest : Stmt := topS 13
abbrev s_less : Stmt := topS 14
abbrev s_need_bounds : Stmt := topS 16
abbrev s_flipped : Stmt := topS 17
abbrev s_simplest : Stmt := topS 18
abbrev s_are_figures : Stmt := topS 21
abbrev s_told : Stmt := topS 22
abbrev s_guess : Stmt := topS 23
abbrev s__law_cell_at : Stmt := topS 25
abbrev s__law_way : Stmt := topS 26
abbrev s__law_whole : Stmt := topS 27
abbrev s__law_shared : Stmt := topS 28
abbrev s__law_frac : Stmt := topS 29
abbrev s__law_is_frac : Stmt := topS 30
abbrev s__law_number : Stmt := topS 31
abbrev s__law_drawn : Stmt := topS 32
abbrev s__law_figures : Stmt := topS 33
abbrev s__law_bounds_of : Stmt := topS 34
abbrev s__law_decimal_by : Stmt := topS 35
abbrev s__law_around : Stmt := topS 36
abbrev s_law : Stmt := topS 37
section
variable {P : Program} {w : World} {K : PySem.W.Frag} {mg : Str → Option Value} {base : Heap}
def φ_path_of (C : Addr) : List PyData → Out → Prop := fun ds o => ∃ u l : Int, ds = [.tuple [.int u, .int l]] ∧ ((u = 0 ∧ o = .E C) ∨ (1 ≤ u ∧ 1 ≤ l ∧ Int.gcd u l = 1 ∧ Bd 8000 u ∧ Bd 8000 l ∧ o = .L ((pathOf u l).map runD)))
theorem run_imm : ∀ p : List Run, immAll (p.map runD) = true
  | [] => rfl
  | r :: p => by
    show (imm (runD r) && immAll (p.map runD)) = true
    rw [run_imm p]
    rfl
structure PathInv (u l : Int) (x : Int × Int × List Run) : Prop where
  a : 1 ≤ x.1
  b : 1 ≤ x.2.1
  g : Int.gcd x.1 x.2.1 = 1
  ba : Bd 8000 x.1
  bb : Bd 8000 x.2.1
  e : x.2.2 ++ pathOf x.1 x.2.1 = pathOf u l
  n : 2 ^ x.2.2.length * (x.1 * x.2.1) ≤ u * l
theorem two_le (n : Nat) : (n : Int) < 2 ^ n := by
  have : n < 2 ^ n := Nat.lt_two_pow_self
  have e : ((2 ^ n : Nat) : Int) = 2 ^ n := by simp
  omega
theorem PathInv.short {u l : Int} {x : Int × Int × List Run} (h : PathInv u l x) (bu : Bd 8000 u) (bl : Bd 8000 l) (hu : 1 ≤ u) (hl : 1 ≤ l) : x.2.2.length < 100000 := by
  have h1 : 1 ≤ x.1 * x.2.1 := by have := Int.mul_pos (show 0 < x.1 by have := h.a; omega) (show 0 < x.2.1 by have := h.b; omega); omega
  have h2 := h.n
  have b1 := bu.mul bl
  have h3 : (2 : Int) ^ x.2.2.length ≤ 2 ^ x.2.2.length * (x.1 * x.2.1) := by
    have p0 : (0 : Int) ≤ 2 ^ x.2.2.length := Int.pow_nonneg (by decide)
    have := Int.mul_le_mul_of_nonneg_left h1 p0
    omega
  by_cases z : x.2.2.length < 100000
  · exact z
  · have h4 : (2 : Int) ^ 16000 ≤ 2 ^ x.2.2.length := by
      have h40 : 2 ^ 16000 ≤ 2 ^ x.2.2.length := Nat.pow_le_pow_right (by decide) (by omega)
      have h41 : ((2 ^ 16000 : Nat) : Int) ≤ ((2 ^ x.2.2.length : Nat) : Int) := Int.ofNat_le.mpr h40
      rw [Int.natCast_pow, Int.natCast_pow] at h41
      exact h41
    have h5 : u * l < 2 ^ 16000 := by
      unfold Bd at b1
      have : ((2 ^ (8000 + 8000) : Nat) : Int) = 2 ^ 16000 := by rw [Int.natCast_pow]; rfl
      have h6 : ((u * l).natAbs : Int) < ((2 ^ (8000 + 8000) : Nat) : Int) := Int.ofNat_lt.mpr b1
      rw [this] at h6
      have h7 : u * l ≤ ((u * l).natAbs : Int) := Int.le_natAbs
      generalize (2 : Int) ^ 16000 = q at *
      omega
    generalize (2 : Int) ^ 16000 = q at *
    generalize (2 : Int) ^ x.2.2.length = q2 at *
    omega
theorem PathInv.right {u l a b : Int} {acc : List Run} (h : PathInv u l (a, b, acc)) (hlt : b < a) : PathInv u l (a - (a - 1) / b * b, b, acc ++ [(true, (a - 1) / b)]) := by
  have s := run_step (show 1 ≤ b from h.b) hlt
  have hb : 1 ≤ b := h.b
  refine ⟨s.2.1, h.b, ?_, ?_, h.bb, ?_, ?_⟩
  · show Int.gcd (a - (a - 1) / b * b) b = 1
    rw [Int.gcd_sub_mul_right_left]
    exact h.g
  · exact Bd.of_le h.ba (by show 0 ≤ a - (a - 1) / b * b; omega) (by show a - (a - 1) / b * b ≤ a; omega)
  · show (acc ++ [(true, (a - 1) / b)]) ++ pathOf (a - (a - 1) / b * b) b = _
    rw [List.append_assoc]
    show acc ++ (true, (a - 1) / b) :: pathOf (a - (a - 1) / b * b) b = _
    rw [← pathOf_right hb hlt]
    exact h.e
  · show 2 ^ (acc ++ [(true, (a - 1) / b)]).length * ((a - (a - 1) / b * b) * b) ≤ u * l
    have h1 : 2 ^ acc.length * (a * b) ≤ u * l := h.n
    rw [List.length_append]
    show 2 ^ (acc.length + 1) * _ ≤ _
    rw [Int.pow_succ]
    have h2 : 2 * (a - (a - 1) / b * b) * b ≤ a * b := Int.mul_le_mul_of_nonneg_right s.2.2.2 (by omega)
    have p0 : (0 : Int) ≤ 2 ^ acc.length := Int.pow_nonneg (by decide)
    have h3 := Int.mul_le_mul_of_nonneg_left h2 p0
    rw [Int.mul_assoc, ← Int.mul_assoc 2]
    omega
theorem PathInv.left {u l a b : Int} {acc : List Run} (h : PathInv u l (a, b, acc)) (hlt : a < b) : PathInv u l (a, b - (b - 1) / a * a, acc ++ [(false, (b - 1) / a)]) := by
  have s := run_step (show 1 ≤ a from h.a) hlt
  have ha : 1 ≤ a := h.a
  refine ⟨h.a, s.2.1, ?_, h.ba, ?_, ?_, ?_⟩
  · show Int.gcd a (b - (b - 1) / a * a) = 1
    rw [Int.gcd_comm, Int.gcd_sub_mul_right_left, Int.gcd_comm]
    exact h.g
  · exact Bd.of_le h.bb (by show 0 ≤ b - (b - 1) / a * a; omega) (by show b - (b - 1) / a * a ≤ b; omega)
  · show (acc ++ [(false, (b - 1) / a)]) ++ pathOf a (b - (b - 1) / a * a) = _
    rw [List.append_assoc]
    show acc ++ (false, (b - 1) / a) :: pathOf a (b - (b - 1) / a * a) = _
    rw [← pathOf_left ha hlt]
    exact h.e
  · show 2 ^ (acc ++ [(false, (b - 1) / a)]).length * (a * (b - (b - 1) / a * a)) ≤ u * l
    have h1 : 2 ^ acc.length * (a * b) ≤ u * l := h.n
    rw [List.length_append]
    show 2 ^ (acc.length + 1) * _ ≤ _
    rw [Int.pow_succ]
    have h2 : a * (2 * (b - (b - 1) / a * a)) ≤ a * b := Int.mul_le_mul_of_nonneg_left s.2.2.2 (by omega)
    have p0 : (0 : Int) ≤ 2 ^ acc.length := Int.pow_nonneg (by decide)
    have h3 := Int.mul_le_mul_of_nonneg_left h2 p0
    rw [Int.mul_assoc, Int.mul_left_comm 2]
    omega
theorem sc_path_of : FnScope ["frac", "upper", "lower", "path", "many"] ["frac"] (defScope s_path_of) := ⟨rfl, rfl, rfl, by decide +kernel, rfl, by decide +kernel, by decide +kernel⟩
theorem ok_path_of (B : Bi mg) {C_NoPath : Addr} (T : DefAt K mg "path_of" s_path_of ["frac"]) (e_NoPath : ExcAt K mg "NoPath" C_NoPath) : FnAt P w K mg base "path_of" 1 ["frac"] (φ_path_of C_NoPath) := by
  refine fn_at T sc_path_of fun f cdv A outer s H Q E ds o hr hφ hq => ?_
  obtain ⟨u, l, rfl, hc⟩ := hφ
  refine xs_un2 1 2 (xe_var 0 rfl) ?_ sc_path_of.nd rfl
  rcases hc with ⟨rfl, rfl⟩ | ⟨hu, hl, hg, bu, bl, rfl⟩
  · refine xs_ifT (xe_eqI (xe_var 1 rfl) xe_int).asT rfl ?_
    exact xs_raise (takes_of rfl rfl rfl rfl) e_NoPath rfl (fun σ H S => hq H S.ex)
  refine xs_skip (xe_eqI (xe_var 1 rfl) xe_int).asT (decide_eq_false (by omega)) ?_
  refine xs_setN 3 (xn_lst xa_nil) (fun q => ?_) sc_path_of.nd
  refine xs_while (ι := Int × Int × List Run) (fun x => [.d (.tuple [.int u, .int l]), .d (.int x.1), .d (.int x.2.1), .L q (x.2.2.map runD), .u]) (fun x => (x.1 + x.2.1).toNat) (PathInv u l) (fun x => !decide (x.1 = x.2.1)) (u, l, []) rfl ⟨hu, hl, hg, bu, bl, rfl, by show 2 ^ 0 * (u * l) ≤ u * l; omega⟩ (fun x wx => (xe_neI (xe_var 1 rfl) (xe_var 2 rfl)).asT) (fun x wx hx => ?wb) (fun x wx hx => ?wd) (passes_of rfl)
  case wb =>
    obtain ⟨a, b, acc⟩ := x
    dsimp only
    have hsh := wx.short bu bl hu hl
    have hne : a ≠ b := by simpa using hx
    have ha : 1 ≤ a := wx.a
    have hb : 1 ≤ b := wx.b
    have bda : Bd 8000 a := wx.ba
    have bdb : Bd 8000 b := wx.bb
    refine xs_if (xe_gt (xe_var 1 rfl) (xe_var 2 rfl)).asT (fun h => ?_) (fun h => ?_)
    · have hlt : b < a := of_decide_eq_true h
      have st := run_step hb hlt
      have bm : Bd 8000 ((a - 1) / b) := bda.of_le (by omega) (Int.le_trans (Int.ediv_le_self b (by omega)) (by omega))
      refine xs_set 4 (xe_div (xe_sub (xe_var 1 rfl) xe_int) (xe_var 2 rfl) (divw (by omega) bdb (by decide))) ?_ sc_path_of.nd
      refine xs_app 3 rfl (xe_tup (xa_cons xe_str (xa_cons (xe_var 4 rfl) xa_nil))) ?_ rfl (run_imm acc) (by simp [immSl, imm, immAll, run_imm]) (by rw [List.length_map]; exact hsh)
      refine xs_set 1 (xe_sub (xe_var 1 rfl) (xe_mul (xe_var 4 rfl) (xe_var 2 rfl) (mulx bm bdb (by decide)))) ?_ sc_path_of.nd
      refine xs_forget 4 ?_
      refine xs_end ?_
      exact xs_turn (a - (a - 1) / b * b, b, acc ++ [(true, (a - 1) / b)]) (wx.right hlt) (by show (a - (a - 1) / b * b + b).toNat < (a + b).toNat; omega) (by
        show _ = [Sl.d (.tuple [.int u, .int l]), .d (.int (a - (a - 1) / b * b)), .d (.int b), .L q ((acc ++ [(true, (a - 1) / b)]).map runD), .u]
        rw [List.map_append]
        rfl)
    · have hlt : a < b := by have := of_decide_eq_false h; omega
      have st := run_step ha hlt
      have bm : Bd 8000 ((b - 1) / a) := bdb.of_le (by omega) (Int.le_trans (Int.ediv_le_self a (by omega)) (by omega))
      refine xs_set 4 (xe_div (xe_sub (xe_var 2 rfl) xe_int) (xe_var 1 rfl) (divw (by omega) bda (by decide))) ?_ sc_path_of.nd
      refine xs_app 3 rfl (xe_tup (xa_cons xe_str (xa_cons (xe_var 4 rfl) xa_nil))) ?_ rfl (run_imm acc) (by simp [immSl, imm, immAll, run_imm]) (by rw [List.length_map]; exact hsh)
      refine xs_set 2 (xe_sub (xe_var 2 rfl) (xe_mul (xe_var 4 rfl) (xe_var 1 rfl) (mulx bm bda (by decide)))) ?_ sc_path_of.nd
      refine xs_forget 4 ?_
      refine xs_end ?_
      exact xs_turn (a, b - (b - 1) / a * a, acc ++ [(false, (b - 1) / a)]) (wx.left hlt) (by show (a + (b - (b - 1) / a * a)).toNat < (a + b).toNat; omega) (by
        show _ = [Sl.d (.tuple [.int u, .int l]), .d (.int a), .d (.int (b - (b - 1) / a * a)), .L q ((acc ++ [(false, (b - 1) / a)]).map runD), .u]
        rw [List.map_append]
        rfl)
  case wd =>
    obtain ⟨a, b, acc⟩ := x
    have he : a = b := by simpa using hx
    refine xs_retL 3 rfl hq ?_
    have e := wx.e
    dsimp only at e ⊢
    rw [he, pathOf_top (show 1 ≤ b from wx.b), List.append_nil] at e
    rw [e]
def endsD (s : Ends4) : PyData := .tuple [.tuple [.int s.a, .int s.b], .tuple [.int s.c, .int s.d]]
def φ_ends_of : List PyData → Out → Prop := fun ds o => ∃ p : List Run, ds = [.list (p.map runD)] ∧ (∀ r ∈ p, 0 ≤ r.2 ∧ Bd 8100 r.2) ∧ Bd 8000 (endsOf p).a ∧ Bd 8000 (endsOf p).b ∧ Bd 8000 (endsOf p).c ∧ Bd 8000 (endsOf p).d ∧ o = .d (endsD (endsOf p))
theorem way_right (b : Bool) : decide (wayS b = ("right" : Str)) = b := by
  cases b
  · exact decide_eq_false (by decide +kernel)
  · exact decide_eq_true rfl
theorem sc_ends_of : FnScope ["path", "left", "right", "way", "many"] ["path"] (defScope s_ends_of) := ⟨rfl, rfl, rfl, by decide +kernel, rfl, by decide +kernel, by decide +kernel⟩
theorem ok_ends_of (B : Bi mg) (T : DefAt K mg "ends_of" s_ends_of ["path"]) : FnAt P w K mg base "ends_of" 1 ["path"] φ_ends_of := by
  refine fn_at T sc_ends_of fun f cdv A outer s H Q E ds o hr hφ hq => ?_
  obtain ⟨p, rfl, hp, b1, b2, b3, b4, rfl⟩ := hφ
  refine xs_un2 1 2 (xe_tup (xa_cons (xe_tup (xa_cons xe_int (xa_cons xe_int xa_nil))) (xa_cons (xe_tup (xa_cons xe_int (xa_cons xe_int xa_nil))) xa_nil))) ?_ sc_ends_of.nd rfl
  have hp0 : ∀ r ∈ p, 0 ≤ r.2 := fun r hr => (hp r hr).1
  refine xs_forR 0 (fun i => [.R (p.map runD), .d (.tuple [.int (endsOf (p.take i)).a, .int (endsOf (p.take i)).b]), .d (.tuple [.int (endsOf (p.take i)).c, .int (endsOf (p.take i)).d]), .u, .u]) (fun i => True) rfl rfl trivial (fun i y hy pi => ?_) (fun pi => ?_) (passes_of rfl) rfl
  · rw [List.getElem?_map] at hy
    cases hr1 : p[i]? with
    | none => rw [hr1] at hy; cases hy
    | some r =>
      rw [hr1] at hy
      have hy' : runD r = y := Option.some.inj hy
      subst hy'
      have hm := hp r (List.mem_of_getElem? hr1)
      have tl := take_le hp0 i
      have tn := take_next hr1
      have c1 : Bd 8000 (endsOf (p.take i)).a := b1.of_le tl.1.a tl.2.a
      have c2 : Bd 8000 (endsOf (p.take i)).b := b2.of_le tl.1.b tl.2.b
      have c3 : Bd 8000 (endsOf (p.take i)).c := b3.of_le tl.1.c tl.2.c
      have c4 : Bd 8000 (endsOf (p.take i)).d := b4.of_le tl.1.d tl.2.d
      obtain ⟨wy, m⟩ := r
      have bm : Bd 8100 m := hm.2
      refine ⟨_, xg_pair 3 4 sc_ends_of.nd rfl, ?_⟩
      refine xs_if (xe_eqS (xe_var 3 rfl) xe_str).asT (fun h => ?_) (fun h => ?_)
      · rw [way_right] at h
        subst h
        refine xs_set 1 (xe_tup (xa_cons (xe_add (xe_ixT (xe_var 1 rfl) xe_int rfl) (xe_mul (xe_var 4 rfl) (xe_ixT (xe_var 2 rfl) xe_int rfl) (mulx bm c3 (by decide)))) (xa_cons (xe_add (xe_ixT (xe_var 1 rfl) xe_int rfl) (xe_mul (xe_var 4 rfl) (xe_ixT (xe_var 2 rfl) xe_int rfl) (mulx bm c4 (by decide)))) xa_nil))) ?_ sc_ends_of.nd
        refine xs_end ?_
        refine xs_forget 3 (xs_forget 4 ?_)
        refine xs_nil fun σ H S => ⟨trivial, S.of ?_⟩
        dsimp only
        rw [tn]
        rfl
      · rw [way_right] at h
        subst h
        refine xs_set 2 (xe_tup (xa_cons (xe_add (xe_ixT (xe_var 2 rfl) xe_int rfl) (xe_mul (xe_var 4 rfl) (xe_ixT (xe_var 1 rfl) xe_int rfl) (mulx bm c1 (by decide)))) (xa_cons (xe_add (xe_ixT (xe_var 2 rfl) xe_int rfl) (xe_mul (xe_var 4 rfl) (xe_ixT (xe_var 1 rfl) xe_int rfl) (mulx bm c2 (by decide)))) xa_nil))) ?_ sc_ends_of.nd
        refine xs_end ?_
        refine xs_forget 3 (xs_forget 4 ?_)
        refine xs_nil fun σ H S => ⟨trivial, S.of ?_⟩
        dsimp only
        rw [tn]
        rfl
  · refine xs_ret (xe_tup (xa_cons (xe_var 1 rfl) (xa_cons (xe_var 2 rfl) xa_nil))) hq ?_
    rw [List.length_map, List.take_length]
    rfl
def φ_sides (C : Addr) : List PyData → Out → Prop := fun ds o => ∃ u l : Int, ds = [.tuple [.int u, .int l]] ∧ ((u = 0 ∧ o = .E C) ∨ (1 ≤ u ∧ Fr u l ∧ Bd 8000 u ∧ Bd 8000 l ∧ o = .d (endsD (endsOf (pathOf u l)))))
theorem sc_sides : FnScope ["frac"] ["frac"] (defScope s_sides) := ⟨rfl, rfl, rfl, by decide +kernel, rfl, by decide +kernel, by decide +kernel⟩
theorem ok_sides (B : Bi mg) {C_NoPath : Addr} (T : DefAt K mg "sides" s_sides ["frac"]) (g_path_of : FnAt P w K mg base "path_of" 1 ["frac"] (φ_path_of C_NoPath)) (g_ends_of : FnAt P w K mg base "ends_of" 1 ["path"] φ_ends_of) : FnAt P w K mg base "sides" 2 ["frac"] (φ_sides C_NoPath) := by
  refine fn_at T sc_sides fun f cdv A outer s H Q E ds o hr hφ hq => ?_
  obtain ⟨u, l, rfl, hc⟩ := hφ
  rcases hc with ⟨rfl, rfl⟩ | ⟨hu, hf, bu, bl, rfl⟩
  · exact xs_retR (W := fun cls d _ H => E cls d H) (xr_callG g_ends_of (hr.mono (by decide)) (xra_head (xr_call (takes_of rfl rfl rfl rfl) g_path_of (hr.mono (by decide)) (xa_cons (xe_var 0 rfl) xa_nil) ⟨_, _, rfl, .inl ⟨rfl, rfl⟩⟩) ⟨_, pa_nil⟩)) (fun σ H S => hq H S.ex)
  · have pl := path_le hu hf
    refine xs_ret (xe_call g_ends_of (hr.mono (by decide)) (xa_cons (xn_call g_path_of (hr.mono (by decide)) (xa_cons (xe_var 0 rfl) xa_nil) ⟨u, l, rfl, .inr ⟨hu, hf.l1, hf.g, bu, bl, rfl⟩⟩).xe xa_nil) ⟨pathOf u l, rfl, fun r hr => ?_, bu.of_le pl.1.a pl.2.1, bl.of_le pl.1.b pl.2.2.2.1, bu.of_le pl.1.c pl.2.2.1, bl.of_le pl.1.d pl.2.2.2.2, rfl⟩) hq
    have h1 := path_pos hu hf.l1 r hr
    have h2 := path_run_le hu hf.l1 r hr
    exact ⟨by omega, ((bu.add bl).of_le (by omega) h2).mono (by decide)⟩
def φ_is_whole : List PyData → Out → Prop := fun ds o => ∃ x, ds = [x] ∧ o = .d (.bool (isInt x))
theorem sc_is_whole : FnScope ["thing"] ["thing"] (defScope s_is_whole) := ⟨rfl, rfl, rfl, by decide +kernel, rfl, by decide +kernel, by decide +kernel⟩
theorem ok_is_whole (B : Bi mg) (T : DefAt K mg "is_whole" s_is_whole ["thing"]) : FnAt P w K mg base "is_whole" 1 ["thing"] φ_is_whole := by
  refine fn_at T sc_is_whole fun f cdv A outer s H Q E ds o hr hφ hq => ?_
  obtain ⟨x, rfl, rfl⟩ := hφ
  cases x with
  | int i => exact xs_ret (xe_and (xe_isi (T := "int") (k := true) B.isinstance (xe_var 0 rfl) B.int (by exact kt_int_int)) fun h => (xe_one (xe_not (xe_isi (T := "bool") (k := false) B.isinstance (xe_var 0 rfl) B.bool (by exact kt_int_bool))))) hq
  | bool b => exact xs_ret (xe_and (xe_isi (T := "int") (k := true) B.isinstance (xe_var 0 rfl) B.int (by exact kt_bool_int)) fun h => (xe_one (xe_not (xe_isi (T := "bool") (k := true) B.isinstance (xe_var 0 rfl) B.bool (by exact kt_bool_bool))))) hq
  | list xs => exact xs_ret (xe_and (l := true) (xe_isi (T := "int") (k := false) B.isinstance (xe_varR 0 rfl) B.int (by exact kt_list_int)) fun h => nomatch h) hq
  | none => exact xs_ret (xe_and (l := true) (xe_isi (T := "int") (k := false) B.isinstance (xe_var 0 rfl) B.int (by exact kt_NoneType_int)) fun h => nomatch h) hq
  | str b => exact xs_ret (xe_and (l := true) (xe_isi (T := "int") (k := false) B.isinstance (xe_var 0 rfl) B.int (by exact kt_str_int)) fun h => nomatch h) hq
  | tuple b => exact xs_ret (xe_and (l := true) (xe_isi (T := "int") (k := false) B.isinstance (xe_var 0 rfl) B.int (by exact kt_tuple_int)) fun h => nomatch h) hq
  | dict b => exact xs_ret (xe_and (l := true) (xe_isi (T := "int") (k := false) B.isinstance (xe_var 0 rfl) B.int (by exact kt_dict_int)) fun h => nomatch h) hq
def φ_common : List PyData → Out → Prop := fun ds o => ∃ a b : Int, ds = [.int a, .int b] ∧ 0 ≤ a ∧ 0 ≤ b ∧ o = .d (.int (Int.gcd a b))
theorem sc_common : FnScope ["one", "other"] ["one", "other"] (defScope s_common) := ⟨rfl, rfl, rfl, by decide +kernel, rfl, by decide +kernel, by decide +kernel⟩
theorem ok_common (B : Bi mg) (T : DefAt K mg "common" s_common ["one", "other"]) : FnAt P w K mg base "common" 1 ["one", "other"] φ_common := by
  refine fn_at T sc_common fun f cdv A outer s H Q E ds o hr hφ hq => ?_
  obtain ⟨a, b, rfl, ha, hb, rfl⟩ := hφ
  refine xs_while (ι := Int × Int) (fun i => [.d (.int i.1), .d (.int i.2)]) (fun i => i.2.toNat) (fun i => 0 ≤ i.1 ∧ 0 ≤ i.2 ∧ Int.gcd i.1 i.2 = Int.gcd a b) (fun i => decide (0 < i.2)) (a, b) rfl ⟨ha, hb, rfl⟩ (fun i wi => (xe_gt (xe_var 1 rfl) xe_int).asT) (fun i wi hi => ?wb) (fun i wi hi => ?wd) (passes_of rfl)
  case wb =>
    have h0 := of_decide_eq_true hi
    refine xs_par 0 1 (xe_var 1 rfl) (xe_mod (xe_var 0 rfl) (xe_var 1 rfl) h0) ?_ sc_common.nd rfl (by decide)
    have h1 := Int.emod_nonneg i.1 (show i.2 ≠ 0 by omega)
    have h2 := Int.emod_lt_of_pos i.1 h0
    exact xs_turn (i.2, i.1 % i.2) ⟨wi.2.1, h1, by rw [gcd_step]; exact wi.2.2⟩ (by show (i.1 % i.2).toNat < i.2.toNat; omega) rfl
  case wd =>
    have h0 := of_decide_eq_false hi
    refine xs_ret (xe_var 0 rfl) hq ?_
    have e : i.2 = 0 := by have := wi.2.1; omega
    have e2 := wi.2.2
    rw [e, Int.gcd_zero_right] at e2
    rw [← e2, Int.natAbs_of_nonneg wi.1]
def φ_lowest : List PyData → Out → Prop := fun ds o => ∃ u l : Int, ds = [.int u, .int l] ∧ 0 ≤ u ∧ 1 ≤ l ∧ Bd 8999 l ∧ o = .d (.tuple [.int (gu u l), .int (gl u l)])
theorem sc_lowest : FnScope ["upper", "lower", "part"] ["upper", "lower"] (defScope s_lowest) := ⟨rfl, rfl, rfl, by decide +kernel, rfl, by decide +kernel, by decide +kernel⟩
theorem ok_lowest (B : Bi mg) (T : DefAt K mg "lowest" s_lowest ["upper", "lower"]) (g_is_whole : FnAt P w K mg base "is_whole" 1 ["thing"] φ_is_whole) (g_common : FnAt P w K mg base "common" 1 ["one", "other"] φ_common) : FnAt P w K mg base "lowest" 2 ["upper", "lower"] φ_lowest := by
  refine fn_at T sc_lowest fun f cdv A outer s H Q E ds o hr hφ hq => ?_
  obtain ⟨u, l, rfl, hu, hl, bl, rfl⟩ := hφ
  refine xs_skip (xw_or (xt_not (xt_val (xe_call g_is_whole (hr.mono (by decide)) (xa_cons (xe_var 0 rfl) xa_nil) ⟨_, rfl, rfl⟩))) fun h => (xw_or (xt_not (xt_val (xe_call g_is_whole (hr.mono (by decide)) (xa_cons (xe_var 1 rfl) xa_nil) ⟨_, rfl, rfl⟩))) fun h => (xw_or (xe_lt (xe_var 0 rfl) xe_int).asT fun h => (xw_or1 (xe_lt (xe_var 1 rfl) xe_int).asT)))).xt ?_ ?_
  · have h1 : ¬ u < 0 := by omega
    have h2 : ¬ l < 1 := by omega
    simp [isInt, h1, h2]
  refine xs_set 2 (xe_call g_common (hr.mono (by decide)) (xa_cons (xe_var 0 rfl) (xa_cons (xe_var 1 rfl) xa_nil)) ⟨u, l, rfl, hu, by omega, rfl⟩) ?_ sc_lowest.nd
  have h3 := gcd_pos' (u := u) hl
  have h4 : Bd 8999 (Int.gcd u l : Int) := bl.of_le (by omega) (Int.gcd_le_right u (by omega))
  exact xs_ret (xe_tup (xa_cons (xe_div (xe_var 0 rfl) (xe_var 2 rfl) (divw h3 h4 (by decide))) (xa_cons (xe_div (xe_var 1 rfl) (xe_var 2 rfl) (divw h3 h4 (by decide))) xa_nil))) hq
def φ_less : List PyData → Out → Prop := fun ds o => ∃ a b c d : Int, ds = [.tuple [.int a, .int b], .tuple [.int c, .int d]] ∧ Bd 9000 a ∧ Bd 9000 b ∧ Bd 9000 c ∧ Bd 9000 d ∧ o = .d (.bool (decide (a * d < c * b)))
theorem sc_less : FnScope ["one", "other"] ["one", "other"] (defScope s_less) := ⟨rfl, rfl, rfl, by decide +kernel, rfl, by decide +kernel, by decide +kernel⟩
theorem ok_less (B : Bi mg) (T : DefAt K mg "less" s_less ["one", "other"]) : FnAt P w K mg base "less" 1 ["one", "other"] φ_less := by
  refine fn_at T sc_less fun f cdv A outer s H Q E ds o hr hφ hq => ?_
  obtain ⟨a, b, c, d, rfl, ba, bb, bc, bd, rfl⟩ := hφ
  exact xs_ret (xe_lt (xe_mul (xe_ixT (xe_var 0 rfl) xe_int rfl) (xe_ixT (xe_var 1 rfl) xe_int rfl) (mulx ba bd (by decide))) (xe_mul (xe_ixT (xe_var 1 rfl) xe_int rfl) (xe_ixT (xe_var 0 rfl) xe_int rfl) (mulx bc bb (by decide)))).asE hq
def φ_need_bounds (C : Addr) : List PyData → Out → Prop := fun ds o => ∃ a b c d : Int, ds = [fD a b, fD c d] ∧ Bd 9000 a ∧ Bd 9000 b ∧ Bd 9000 c ∧ Bd 9000 d ∧ ((c * b < a * d ∧ o = .E C) ∨ (¬ c * b < a * d ∧ o = .d .none))
theorem sc_need_bounds : FnScope ["low", "high"] ["low", "high"] (defScope s_need_bounds) := ⟨rfl, rfl, rfl, by decide +kernel, rfl, by decide +kernel, by decide +kernel⟩
theorem ok_need_bounds (B : Bi mg) {C_NoBounds : Addr} (T : DefAt K mg "need_bounds" s_need_bounds ["low", "high"]) (g_less : FnAt P w K mg base "less" 1 ["one", "other"] φ_less) (e_NoBounds : ExcAt K mg "NoBounds" C_NoBounds) : FnAt P w K mg base "need_bounds" 2 ["low", "high"] (φ_need_bounds C_NoBounds) := by
  refine fn_at T sc_need_bounds fun f cdv A outer s H Q E ds o hr hφ hq => ?_
  obtain ⟨a, b, c, d, rfl, ba, bb, bc, bd, hc⟩ := hφ
  refine xs_if (xt_val (xe_call g_less (hr.mono (by decide)) (xa_cons (xe_var 1 rfl) (xa_cons (xe_var 0 rfl) xa_nil)) ⟨_, _, _, _, rfl, bc, bd, ba, bb, rfl⟩)) (fun h => ?_) (fun h => ?_)
  · have h1 := of_decide_eq_true h
    rcases hc with ⟨_, rfl⟩ | ⟨hc, _⟩
    · exact xs_raise (takes_of rfl rfl rfl rfl) e_NoBounds rfl (fun σ H S => hq H S.ex)
    · exact absurd h1 hc
  · have h1 := of_decide_eq_false h
    rcases hc with ⟨hc, _⟩ | ⟨_, rfl⟩
    · exact absurd hc h1
    · exact xs_end (xs_fall hq)
def φ_flipped : List PyData → Out → Prop := fun ds o => ∃ x y t : Int, ds = [fD x y, .int t] ∧ Bd 1000 t ∧ Bd 1000 y ∧ o = .d (fD y (x - t * y))
theorem sc_flipped : FnScope ["frac", "whole"] ["frac", "whole"] (defScope s_flipped) := ⟨rfl, rfl, rfl, by decide +kernel, rfl, by decide +kernel, by decide +kernel⟩
theorem ok_flipped (B : Bi mg) (T : DefAt K mg "flipped" s_flipped ["frac", "whole"]) : FnAt P w K mg base "flipped" 1 ["frac", "whole"] φ_flipped := by
  refine fn_at T sc_flipped fun f cdv A outer s H Q E ds o hr hφ hq => ?_
  obtain ⟨x, y, t, rfl, bt, by_, rfl⟩ := hφ
  exact xs_ret (xe_tup (xa_cons (xe_ixT (ds := [.int x, .int y]) (xe_var 0 rfl) xe_int rfl) (xa_cons (xe_sub (xe_ixT (ds := [.int x, .int y]) (xe_var 0 rfl) xe_int rfl) (xe_mul (xe_var 1 rfl) (xe_ixT (ds := [.int x, .int y]) (xe_var 0 rfl) xe_int rfl) (mulx bt by_ (by decide)))) xa_nil))) hq
def φ_simplest (C : Addr) : List PyData → Out → Prop := fun ds o => ∃ a b c d : Int, ds = [fD a b, fD c d] ∧ ((Bd 9000 a ∧ Bd 9000 b ∧ Bd 9000 c ∧ Bd 9000 d ∧ c * b < a * d ∧ o = .E C) ∨ (∃ p q, 0 ≤ a ∧ 1 ≤ b ∧ 1 ≤ d ∧ Bd 1000 a ∧ Bd 1000 b ∧ Bd 1000 c ∧ Bd 1000 d ∧ a * d ≤ c * b ∧ Smp a b c d p q ∧ o = .d (fD p q)))
theorem sc_simplest : FnScope ["low", "high", "wholes", "whole", "upper", "lower", "ahead"] ["low", "high"] (defScope s_simplest) := ⟨rfl, rfl, rfl, by decide +kernel, rfl, by decide +kernel, by decide +kernel⟩
theorem ok_simplest (B : Bi mg) {C_NoBounds : Addr} (T : DefAt K mg "simplest" s_simplest ["low", "high"]) (g_need_bounds : FnAt P w K mg base "need_bounds" 2 ["low", "high"] (φ_need_bounds C_NoBounds)) (g_flipped : FnAt P w K mg base "flipped" 1 ["frac", "whole"] φ_flipped) : FnAt P w K mg base "simplest" 3 ["low", "high"] (φ_simplest C_NoBounds) := by
  refine fn_at T sc_simplest fun f cdv A outer s H Q E ds o hr hφ hq => ?_
  obtain ⟨a0, b0, c0, d0, rfl, hc⟩ := hφ
  rcases hc with ⟨ba, bb, bc, bd, hlt, rfl⟩ | ⟨p0, q0, ha, hb, hd, ba, bb, bc, bd, hle, hS, rfl⟩
  · exact xs_exprR (xr_call (takes_of rfl rfl rfl rfl) g_need_bounds (hr.mono (by decide)) (xa_cons (xe_var 0 rfl) (xa_cons (xe_var 1 rfl) xa_nil)) ⟨a0, b0, c0, d0, rfl, ba, bb, bc, bd, .inl ⟨hlt, rfl⟩⟩) (fun σ H S => hq H S.ex)
  refine xs_expr (xe_call g_need_bounds (hr.mono (by decide)) (xa_cons (xe_var 0 rfl) (xa_cons (xe_var 1 rfl) xa_nil)) ⟨a0, b0, c0, d0, rfl, ba.mono (by decide), bb.mono (by decide), bc.mono (by decide), bd.mono (by decide), .inr ⟨by omega, rfl⟩⟩) ?_
  have mn0 := hS.mn a0 b0 hb (Int.le_refl _) hle
  have pq0 := hS.f.u0
  have pq1 := hS.f.l1
  have bpq : Bd 1001 (p0 + q0) := ((ba.add bb).mono (m := 1001) (by decide)).of_le (by omega) (by omega)
  have one : Bd 1 1 := by decide
  refine xs_setN 2 (xn_lst xa_nil) (fun q2 => ?_) sc_simplest.nd
  refine xs_set 3 (xe_div (xe_ixT (ds := [.int a0, .int b0]) (xe_var 0 rfl) xe_int rfl) (xe_ixT (ds := [.int a0, .int b0]) (xe_var 0 rfl) xe_int rfl) (divw hb bb (by decide))) ?_ sc_simplest.nd
  refine xs_while (ι := SmI) (fun i => [.d (fD i.2.1 i.2.2.1), .d (fD i.2.2.2.1 i.2.2.2.2), .L q2 (i.1.map .int), .d (.int (i.2.1 / i.2.2.1)), .u, .u, .u]) (fun i => (i.2.2.1 + i.2.2.2.2).toNat) (SmW 1000 a0 b0 c0 d0) (fun i => decide (i.2.1 / i.2.2.1 * i.2.2.1 < i.2.1) && decide (i.2.2.2.1 < (i.2.1 / i.2.2.1 + 1) * i.2.2.2.2)) ([], a0, b0, c0, d0) rfl ⟨ha, hb, hd, hle, ba, bb, bc, bd, (fun w hw => nomatch hw), (fun p q h => h), .inl rfl⟩ (fun i wi => ?wc) (fun i wi hi => ?wb) (fun i wi hi => ?wd) (passes_of rfl)
  case wc =>
    have q0 := Int.ediv_nonneg wi.a (show 0 ≤ i.2.2.1 by have := wi.b; omega)
    have bw : Bd 1000 (i.2.1 / i.2.2.1) := wi.ba.of_le q0 (ediv_le wi.a)
    have bw1 : Bd 1001 (i.2.1 / i.2.2.1 + 1) := (bw.add one).mono (by decide)
    exact (xw_and (xe_lt (xe_mul (xe_var 3 rfl) (xe_ixT (ds := [.int i.2.1, .int i.2.2.1]) (xe_var 0 rfl) xe_int rfl) (mulx bw wi.bb (by decide))) (xe_ixT (ds := [.int i.2.1, .int i.2.2.1]) (xe_var 0 rfl) xe_int rfl)).asT fun h => (xw_and1 (xe_lt (xe_ixT (ds := [.int i.2.2.2.1, .int i.2.2.2.2]) (xe_var 1 rfl) xe_int rfl) (xe_mul (xe_add (xe_var 3 rfl) xe_int) (xe_ixT (ds := [.int i.2.2.2.1, .int i.2.2.2.2]) (xe_var 1 rfl) xe_int rfl) (mulx bw1 wi.bd (by decide)))).asT)).xt
  case wb =>
    obtain ⟨ws, a, b, c, d⟩ := i
    rw [Bool.and_eq_true_iff] at hi
    have h1 : a / b * b < a := of_decide_eq_true hi.1
    have h2 : c < (a / b + 1) * d := of_decide_eq_true hi.2
    have sh : ws.length ≤ 4 * 1000 + 1 := sm_short wi
    have nx := sm_next wi h1 h2
    have ka : 0 ≤ a := wi.a
    have kb : 1 ≤ b := wi.b
    have kd : 1 ≤ d := wi.d
    have kle : a * d ≤ c * b := wi.le
    have fl := flp_ok kb kd ka kle h1 h2
    have xa : Bd 1000 a := wi.ba
    have xb : Bd 1000 b := wi.bb
    have xd : Bd 1000 d := wi.bd
    have bw : Bd 1000 (a / b) := xa.of_le fl.w0 (ediv_le ka)
    have b1 : 1 ≤ c - a / b * d := fl.b1
    have b1' : Bd 1000 (c - a / b * d) := xd.of_le (by omega) (by have := fl.b2; omega)
    refine xs_app 2 rfl (xe_var 3 rfl) ?_ rfl (ints_imm ws) (by simp [immSl, imm, immAll, ints_imm, fD]) (by rw [List.length_map]; exact Nat.lt_of_le_of_lt sh (by decide))
    refine xs_par 0 1 (x := fD d (c - a / b * d)) (y := fD b (a - a / b * b)) (xe_call g_flipped (hr.mono (by decide)) (xa_cons (xe_var 1 rfl) (xa_cons (xe_var 3 rfl) xa_nil)) ⟨c, d, a / b, rfl, bw, xd, rfl⟩) (xe_call g_flipped (hr.mono (by decide)) (xa_cons (xe_var 0 rfl) (xa_cons (xe_var 3 rfl) xa_nil)) ⟨a, b, a / b, rfl, bw, xb, rfl⟩) ?_ sc_simplest.nd rfl (by decide)
    refine xs_set 3 (xe_div (xe_ixT (ds := [.int d, .int (c - a / b * d)]) (xe_var 0 rfl) xe_int rfl) (xe_ixT (ds := [.int d, .int (c - a / b * d)]) (xe_var 0 rfl) xe_int rfl) (divw b1 b1' (by decide))) ?_ sc_simplest.nd
    refine xs_turn (ws ++ [a / b], d, c - a / b * d, b, a - a / b * b) nx (by have := fl.b2; have := fl.d2; have := fl.d1; show (c - a / b * d + (a - a / b * b)).toNat < (b + d).toNat; omega) ?_
    show _ = [Sl.d (fD d (c - a / b * d)), .d (fD b (a - a / b * b)), .L q2 ((ws ++ [a / b]).map .int), .d (.int (d / (c - a / b * d))), .u, .u, .u]
    rw [List.map_append]
    rfl
  case wd =>
    obtain ⟨ws, a, b, c, d⟩ := i
    have ka : 0 ≤ a := wi.a
    have kb : 1 ≤ b := wi.b
    have kd : 1 ≤ d := wi.d
    have kle : a * d ≤ c * b := wi.le
    have xa : Bd 1000 a := wi.ba
    have xb : Bd 1000 b := wi.bb
    have w0 := Int.ediv_nonneg ka (show 0 ≤ b by omega)
    have bw : Bd 1000 (a / b) := xa.of_le w0 (ediv_le ka)
    have fin : ∃ t, t = (if a / b * b < a then a / b + 1 else a / b) ∧ 0 ≤ t ∧ Smp a b c d t 1 := by
      refine ⟨_, rfl, ?_, ?_⟩
      · split <;> omega
      · by_cases z : a / b * b < a
        · rw [if_pos z]
          refine smp_up kb ka z ?_
          have h1 : (decide (a / b * b < a) && decide (c < (a / b + 1) * d)) = false := hi
          rw [decide_eq_true z, Bool.true_and] at h1
          exact of_decide_eq_false h1
        · rw [if_neg z]
          exact smp_low kb kd ka kle z
    obtain ⟨t, et, t0, st⟩ := fin
    have eq := (wi.bk t 1 st).uniq hS
    have e1 : (back ws (t, 1)).1 = p0 := eq.1
    have e2 : (back ws (t, 1)).2 = q0 := eq.2
    have wsn : ∀ w ∈ ws, 0 ≤ w := fun w hw => (wi.ws w hw).1
    have rg := fun j => back_rg (x := (t, 1)) t0 (by show (0 : Int) ≤ 1; decide) (ws.drop j) fun w hw => wsn w (List.mem_of_mem_drop hw)
    have sm := fun j => back_drop (x := (t, 1)) t0 (by show (0 : Int) ≤ 1; decide) ws j wsn
    have bp := fun j => bpq.of_le (rg j).1 (by have h1 := sm j; have h2 := (rg j).2; rw [e1, e2] at h1; omega)
    refine xs_join [.d (fD a b), .d (fD c d), .L q2 (ws.map .int), .d (.int t), .u, .u, .u] (x1_if (xe_lt (xe_mul (xe_var 3 rfl) (xe_ixT (ds := [.int a, .int b]) (xe_var 0 rfl) xe_int rfl) (mulx bw xb (by decide))) (xe_ixT (ds := [.int a, .int b]) (xe_var 0 rfl) xe_int rfl)).asT (fun h => ?_) (fun h => ?_)) ?_
    · refine xs_set 3 (xe_add (xe_var 3 rfl) xe_int) ?_ sc_simplest.nd
      refine xs_to ?_
      rw [et, if_pos (of_decide_eq_true h)]
      try rfl
    · refine xs_to ?_
      rw [et, if_neg (of_decide_eq_false h)]
      try rfl
    refine xs_par 4 5 (xe_var 3 rfl) xe_int ?_ sc_simplest.nd rfl (by decide)
    refine xs_forV 2 (fun i => [.d (fD a b), .d (fD c d), .L q2 (ws.map .int), .d (.int t), .d (.int (back (ws.drop (ws.length - i)) (t, 1)).1), .d (.int (back (ws.drop (ws.length - i)) (t, 1)).2), .u]) (fun i => True) (fun i => rfl) ?h0 trivial (fun i y hi hy pi => ?_) (fun pi => ?_) B.reversed (passes_of rfl) rfl
    case h0 =>
      rw [Nat.sub_zero, List.drop_length]
      rfl
    · rw [List.length_map] at hi hy
      have hlt : ws.length - 1 - i < ws.length := by omega
      rw [List.getElem?_map, List.getElem?_eq_getElem hlt] at hy
      have hy' : PyData.int (ws[ws.length - 1 - i]) = y := Option.some.inj hy
      subst hy'
      have ed : ws.drop (ws.length - (i + 1)) = ws[ws.length - 1 - i] :: ws.drop (ws.length - i) := by
        have := List.drop_eq_getElem_cons hlt
        rw [show ws.length - (i + 1) = ws.length - 1 - i by omega, this, show ws.length - 1 - i + 1 = ws.length - i by omega]
      have bv : Bd 1000 (ws[ws.length - 1 - i]) := (wi.ws _ (List.getElem_mem hlt)).2
      refine ⟨_, xg_name 6 sc_simplest.nd, ?_⟩
      refine xs_par 4 5 (xe_add (xe_mul (xe_var 6 rfl) (xe_var 4 rfl) (mulx bv (bp _) (by decide))) (xe_var 5 rfl)) (xe_var 4 rfl) ?_ sc_simplest.nd rfl (by decide)
      refine xs_forget 6 ?_
      refine xs_nil fun σ H S => ⟨trivial, S.of ?_⟩
      dsimp only
      rw [ed]
      rfl
    · refine xs_ret (xe_tup (xa_cons (xe_var 4 rfl) (xa_cons (xe_var 5 rfl) xa_nil))) hq ?_
      rw [List.length_map, Nat.sub_self, List.drop_zero, e1, e2]
      rfl
def φ_are_figures : List PyData → Out → Prop := fun ds o => ∃ s : Str, ds = [.str s] ∧ o = .d (.bool (figs s))
theorem sc_are_figures : FnScope ["word", "sign"] ["word"] (defScope s_are_figures) := ⟨rfl, rfl, rfl, by decide +kernel, rfl, by decide +kernel, by decide +kernel⟩
theorem ok_are_figures (B : Bi mg) {tkF : Tok} (T : DefAt K mg "are_figures" s_are_figures ["word"]) (x_fig : mg "FIGURES" = some (.str "0123456789" tkF)) : FnAt P w K mg base "are_figures" 1 ["word"] φ_are_figures := by
  refine fn_at T sc_are_figures fun f cdv A outer s H Q E ds o hr hφ hq => ?_
  obtain ⟨z, rfl, rfl⟩ := hφ
  refine xs_forS (fun i => [.d (.str z), .u]) (fun i => (z.cps.toList.take i).all isFig = true) (xe_var 0 rfl) rfl rfl (fun i c hc pi => ?_) (fun pi => ?_) (passes_of rfl) rfl
  · refine ⟨_, xg_name 1 sc_are_figures.nd, ?_⟩
    refine xs_if (xe_ninS (xe_var 1 rfl) (xe_globS x_fig)).asT (fun h => ?_) (fun h => ?_)
    · rw [fig_in] at h
      have hf : figs z = false := by
        unfold figs
        have : z.cps.toList.all isFig = false := by
          refine List.all_eq_false.mpr ⟨c, List.mem_of_getElem? hc, ?_⟩
          have : isFig c = false := by simpa using h
          rw [this]
          decide
        rw [this]
        rfl
      rw [hf] at hq
      exact xs_ret xe_bl hq
    · rw [fig_in] at h
      have hc1 : isFig c = true := by simpa using h
      refine xs_end ?_
      refine xs_forget 1 ?_
      refine xs_nil fun σ H S => ⟨?_, S.of rfl⟩
      show (z.cps.toList.take (i + 1)).all isFig = true
      rw [List.take_add_one, hc, List.all_append, pi]
      simp [hc1]
  · have h1 : z.cps.toList.all isFig = true := by
      have := pi
      rwa [List.take_length] at this
    refine xs_ret (xe_neS (xe_var 0 rfl) xe_str).asE hq ?_
    unfold figs
    rw [h1, Bool.true_and]
    congr 1
    have e : ("" : Str).cps.toList = [] := by decide +kernel
    by_cases k : z = ""
    · rw [decide_eq_true k, k, e]
      rfl
    · rw [decide_eq_false k]
      have : z.cps.toList ≠ [] := fun q => k (TL.ext_tl (q.trans e.symm))
      cases hz : z.cps.toList with
      | nil => exact absurd hz this
      | cons a b => rfl
def toldD (n k : Nat) : PyData := .tuple [.tuple [.int (lA n k), .int (lB n k)], .tuple [.int (hA n k), .int (hB n k)]]
def φ_told (C : Addr) : List PyData → Out → Prop := fun ds o => ∃ z : Str, ds = [.str z] ∧ z.length ≤ 200 ∧ ((decO z = none ∧ o = .E C) ∨ (∃ n k, decO z = some (n, k) ∧ o = .d (toldD n k)))
theorem sc_told : FnScope ["line", "head", "point", "tail", "step", "sign", "number"] ["line"] (defScope s_told) := ⟨rfl, rfl, rfl, by decide +kernel, rfl, by decide +kernel, by decide +kernel⟩
theorem pt_dec (b : Bool) : decide (ptS b = ".") = b := by
  cases b
  · exact decide_eq_false (by decide +kernel)
  · exact decide_eq_true rfl
theorem ok_told (B : Bi mg) {C_NoNumber : Addr} (T : DefAt K mg "told" s_told ["line"]) (g_are_figures : FnAt P w K mg base "are_figures" 1 ["word"] φ_are_figures) (g_lowest : FnAt P w K mg base "lowest" 2 ["upper", "lower"] φ_lowest) (e_NoNumber : ExcAt K mg "NoNumber" C_NoNumber) : FnAt P w K mg base "told" 3 ["line"] (φ_told C_NoNumber) := by
  refine fn_at T sc_told fun f cdv A outer s H Q E ds o hr hφ hq => ?_
  obtain ⟨z, rfl, hz, hc⟩ := hφ
  obtain ⟨h, t, pt, pp⟩ := parts_ex z
  have tz : z.length ≤ sizeLine := Evl.sz_of (by omega)
  have hl := pp.l
  have tzh : (SX.S h).length ≤ sizeLine := Evl.sz_of (by rw [SX.S_len]; omega)
  refine xs_un3 1 2 3 (x := .str (SX.S h)) (y := .str (ptS pt)) (z := .str (SX.S t)) ((xe_part (xe_var 0 rfl) xe_str (by decide +kernel) tz).is (by rw [show Txt.partition z "." = (SX.S h, ptS pt, SX.S t) from pp.p])) ?_ sc_told.nd rfl
  refine xs_ifE (fun k : Bool => k = !dec2 h t pt) ?cond (fun hk => ?_) (fun hk => ?_)
  case cond =>
    by_cases hA : figsL h = true
    · obtain ⟨c1, r, hd⟩ : ∃ c1 r, h = c1 :: r := by
        cases h with
        | nil => cases hA
        | cons a b => exact ⟨a, b, rfl⟩
      have hx : atI (SX.S h).cps.toList 0 = some c1 := by
        rw [hd]
        exact atI_nat (j := 0) rfl
      have z0 : decide ((⟨#[c1]⟩ : Str) = "0") = decide (c1 = 48) := by
        have e0 : ("0" : Str) = SX.S [48] := TL.ext_tl (by decide +kernel)
        rw [e0, decide_eq_decide]
        exact ⟨fun q => by have := SX.S_inj (a := [c1]) (b := [48]) q; injection this, fun q => by rw [q]⟩
      have z1 : decide (SX.S h = ("0" : Str)) = decide (h = [48]) := by
        have e0 : ("0" : Str) = SX.S [48] := TL.ext_tl (by decide +kernel)
        rw [e0, decide_eq_decide]
        exact ⟨fun q => SX.S_inj q, fun q => by rw [q]⟩
      have l0 : (decide (c1 = 48) && !decide (h = [48])) = lead0 h := by
        unfold lead0
        have : decide (h.head? = some 48) = decide (c1 = 48) := by
          rw [hd, decide_eq_decide]
          exact ⟨fun q => Option.some.inj q, fun q => by rw [q]; rfl⟩
        rw [this]
      refine ⟨_, XW.xt (xw_or (k := false) (XT.is (xt_not (xt_val (xe_call g_are_figures (hr.mono (by decide)) (xa_cons (xe_var 1 rfl) xa_nil) ⟨SX.S h, rfl, rfl⟩))) (by rw [figs_S, hA]; rfl)) fun _ => xw_or (XT.is (XW.xt (xw_and (XT.is (XQ.asT (xe_eqS (xe_ixS (xe_var 1 rfl) xe_int tzh hx) xe_str)) z0) fun _ => xw_and1 (XT.is (XQ.asT (xe_neS (xe_var 1 rfl) xe_str)) (by rw [z1])))) l0) fun _ => xw_or1 (XW.xt (xw_and (XT.is (XQ.asT (xe_eqS (xe_var 2 rfl) xe_str)) (pt_dec pt)) fun _ => xw_and1 (XT.is (xt_not (xt_val (xe_call g_are_figures (hr.mono (by decide)) (xa_cons (xe_var 3 rfl) xa_nil) ⟨SX.S t, rfl, rfl⟩))) (by rw [figs_S]))))), ?_⟩
      unfold dec2
      rw [hA]
      cases lead0 h <;> cases pt <;> cases figsL t <;> rfl
    · have hA' : figsL h = false := by simpa using hA
      exact ⟨true, XW.xt (xw_or (k := true) (l := true) (XT.is (xt_not (xt_val (xe_call g_are_figures (hr.mono (by decide)) (xa_cons (xe_var 1 rfl) xa_nil) ⟨SX.S h, rfl, rfl⟩))) (by rw [figs_S, hA']; rfl)) fun q => nomatch q), by unfold dec2; rw [hA']; rfl⟩
  · have hdd : dec2 h t pt = false := by cases hq2 : dec2 h t pt <;> rw [hq2] at hk <;> first | rfl | cases hk
    have hnone : decO z = none := by
      rw [pp.d]
      unfold decR
      rw [if_neg (by rw [hdd]; decide)]
    rcases hc with ⟨_, rfl⟩ | ⟨n, k, h2, _⟩
    · exact xs_raise (takes_of rfl rfl rfl rfl) e_NoNumber rfl (fun σ H' S => hq H' S.ex)
    · rw [hnone] at h2
      cases h2
  have hdd : dec2 h t pt = true := by cases hq2 : dec2 h t pt <;> rw [hq2] at hk <;> first | rfl | cases hk
  have hsome : decO z = some (NumText.digitsVal (h ++ t), t.length) := by
    rw [pp.d]
    unfold decR
    rw [if_pos hdd]
  have dR := decR_some (pp.d ▸ hsome) pp.n
  have bds := dec_bd hsome hz
  have ho : o = .d (toldD (NumText.digitsVal (h ++ t)) t.length) := by
    rcases hc with ⟨h2, _⟩ | ⟨n, k, h2, h3⟩
    · rw [hsome] at h2
      cases h2
    · rw [hsome] at h2
      cases h2
      exact h3
  subst ho
  clear hc
  refine xs_end ?_
  refine xs_set 4 xe_int ?_ sc_told.nd
  refine xs_forS (s := SX.S t) (fun i => [.d (.str z), .d (.str (SX.S h)), .d (.str (ptS pt)), .d (.str (SX.S t)), .d (.int (10 ^ i)), .u, .u]) (fun i => True) (xe_var 3 rfl) rfl trivial (fun i c hci pi => ?_) (fun pi => ?_) (passes_of rfl) rfl
  · refine ⟨_, xg_name 5 sc_told.nd, ?_⟩
    refine xs_set 4 (xe_mulS (xe_var 4 rfl) xe_int (.inr ⟨by decide, by decide⟩)) ?_ sc_told.nd
    refine xs_forget 5 ?_
    exact xs_nil fun σ H S => ⟨trivial, S.of rfl⟩
  have hint : PySem.intText? (SX.S (h ++ t)) = some ((NumText.digitsVal (h ++ t) : Nat) : Int) := SX.int_S dR.1 (by intro q; exact dR.2.1 (List.append_eq_nil_iff.mp q).1) (by rw [List.length_append]; omega)
  refine xs_set 6 (xe_intS B.int ((xe_cat (s := SX.S h) (t := SX.S t) (xe_var 1 rfl) (xe_var 3 rfl) (Evl.sz_of (by rw [SX.S_len, SX.S_len]; omega))).is (by rw [SX.S_cat])) hint (by rw [SX.S_len, List.length_append]; omega)) ?_ sc_told.nd
  show XS _ _ [.d (.str z), .d (.str (SX.S h)), .d (.str (ptS pt)), .d (.str (SX.S t)), .d (.int (10 ^ t.length)), .u, .d (.int ((NumText.digitsVal (h ++ t) : Nat) : Int))] _ _
  generalize NumText.digitsVal (h ++ t) = n at *
  generalize t.length = k at *
  refine xs_ret (xe_tup (xa_cons (xe_call (x := .tuple [.int (lA n k), .int (lB n k)]) g_lowest (hr.mono (by decide)) (xa_cons (xe_max rfl B.max (xa_cons xe_int (xa_cons (xe_sub (xe_mulS xe_int (xe_var 6 rfl) (.inl ⟨by decide, by decide⟩)) xe_int) xa_nil))) (xa_cons (xe_mulS xe_int (xe_var 4 rfl) (.inl ⟨by decide, by decide⟩)) xa_nil)) ⟨loU n, stL k, rfl, (loU_rg n).1, stL_pos k, bds.2.2.1.mono (by decide), rfl⟩) (xa_cons (xe_call (x := .tuple [.int (hA n k), .int (hB n k)]) g_lowest (hr.mono (by decide)) (xa_cons (xe_add (xe_mulS xe_int (xe_var 6 rfl) (.inl ⟨by decide, by decide⟩)) xe_int) (xa_cons (xe_mulS xe_int (xe_var 4 rfl) (.inl ⟨by decide, by decide⟩)) xa_nil)) ⟨hiU n, stL k, rfl, hiU_pos n, stL_pos k, bds.2.2.1.mono (by decide), rfl⟩) xa_nil))) hq
def φ_guess (C : Addr) : List PyData → Out → Prop := fun ds o => ∃ z : Str, ds = [.str z] ∧ z.length ≤ 200 ∧ ((decO z = none ∧ o = .E C) ∨ (∃ n k p q, decO z = some (n, k) ∧ Smp (lA n k) (lB n k) (hA n k) (hB n k) p q ∧ o = .d (fD p q)))
theorem sc_guess : FnScope ["line", "low", "high"] ["line"] (defScope s_guess) := ⟨rfl, rfl, rfl, by decide +kernel, rfl, by decide +kernel, by decide +kernel⟩
theorem ok_guess (B : Bi mg) {C_NoNumber C_NoBounds : Addr} (T : DefAt K mg "guess" s_guess ["line"]) (g_told : FnAt P w K mg base "told" 3 ["line"] (φ_told C_NoNumber)) (g_simplest : FnAt P w K mg base "simplest" 3 ["low", "high"] (φ_simplest C_NoBounds)) : FnAt P w K mg base "guess" 4 ["line"] (φ_guess C_NoNumber) := by
  refine fn_at T sc_guess fun f cdv A outer s H Q E ds o hr hφ hq => ?_
  obtain ⟨z, rfl, hz, hc⟩ := hφ
  rcases hc with ⟨h1, rfl⟩ | ⟨n, k, p, q, h1, hS, rfl⟩
  · exact xs_asgR (xr_call (takes_of rfl rfl rfl rfl) g_told (hr.mono (by decide)) (xa_cons (xe_var 0 rfl) xa_nil) ⟨z, rfl, hz, .inl ⟨h1, rfl⟩⟩) (fun σ H S => hq H S.ex)
  · have b := lo_bd h1 hz
    refine xs_un2 1 2 (x := fD (lA n k) (lB n k)) (y := fD (hA n k) (hB n k)) (xe_call g_told (hr.mono (by decide)) (xa_cons (xe_var 0 rfl) xa_nil) ⟨z, rfl, hz, .inr ⟨n, k, h1, rfl⟩⟩) ?_ sc_guess.nd rfl
    exact xs_ret (xe_call g_simplest (hr.mono (by decide)) (xa_cons (xe_var 1 rfl) (xa_cons (xe_var 2 rfl) xa_nil)) ⟨lA n k, lB n k, hA n k, hB n k, rfl, .inr ⟨p, q, (lo_fr n k).u0, (lo_fr n k).l1, (hi_fr n k).l1, b.1.mono (by decide), b.2.1.mono (by decide), b.2.2.1.mono (by decide), b.2.2.2.mono (by decide), dec_le n k, hS, rfl⟩⟩) hq
def cell (ns : List Int) (k : Nat) : Int := ns.getD k 0
def φ__law_cell_at : List PyData → Out → Prop := fun ds o => ∃ (ns : List Int) (k : Nat), ds = [.list (ns.map .int), .int (k : Int)] ∧ o = .d (.int (cell ns k))
theorem sc__law_cell_at : FnScope ["_law_script", "_law_k"] ["_law_script", "_law_k"] (defScope s__law_cell_at) := ⟨rfl, rfl, rfl, by decide +kernel, rfl, by decide +kernel, by decide +kernel⟩
theorem ok__law_cell_at (B : Bi mg) (T : DefAt K mg "_law_cell_at" s__law_cell_at ["_law_script", "_law_k"]) : FnAt P w K mg base "_law_cell_at" 1 ["_law_script", "_law_k"] φ__law_cell_at := by
  refine fn_at T sc__law_cell_at fun f cdv A outer s H Q E ds o hr hφ hq => ?_
  obtain ⟨ns, k, rfl, rfl⟩ := hφ
  refine xs_if (xe_lt (xe_var 1 rfl) (xe_lenL B.len (xe_varR 0 rfl))).asT (fun h => ?_) (fun h => ?_)
  · have h0 := of_decide_eq_true h
    rw [List.length_map] at h0
    have h1 : k < ns.length := by omega
    refine xs_ret (xe_ixL (x := .int (cell ns k)) (xe_varR 0 rfl) (xe_var 1 rfl) ?_) hq
    refine atI_nat ?_
    rw [List.getElem?_map, List.getElem?_eq_getElem h1]
    unfold cell
    simp [List.getD_eq_getElem?_getD, List.getElem?_eq_getElem h1]
  · have h0 := of_decide_eq_false h
    rw [List.length_map] at h0
    have h1 : ns.length ≤ k := by omega
    refine xs_end ?_
    refine xs_ret xe_int hq ?_
    unfold cell
    simp [List.getD_eq_getElem?_getD, List.getElem?_eq_none h1]
def way (ns : List Int) (k : Nat) (m : Int) : Int := (cell ns k * 48271 + 7919 * ((ns.map PyData.int).length : Int)) % 2147483647 % m
theorem way_nonneg (ns : List Int) (k : Nat) {m : Int} (h : 0 < m) : 0 ≤ way ns k m := Int.emod_nonneg _ (by omega)
theorem way_lt (ns : List Int) (k : Nat) {m : Int} (h : 0 < m) : way ns k m < m := Int.emod_lt_of_pos _ h
def φ__law_way : List PyData → Out → Prop := fun ds o => ∃ (ns : List Int) (k : Nat) (m : Int), ds = [.list (ns.map .int), .int (k : Int), .int m] ∧ ns.length ≤ 63 ∧ 0 < m ∧ o = .d (.int (way ns k m))
theorem sc__law_way : FnScope ["_law_script", "_law_k", "_law_many"] ["_law_script", "_law_k", "_law_many"] (defScope s__law_way) := ⟨rfl, rfl, rfl, by decide +kernel, rfl, by decide +kernel, by decide +kernel⟩
theorem ok__law_way (B : Bi mg) (T : DefAt K mg "_law_way" s__law_way ["_law_script", "_law_k", "_law_many"]) (g__law_cell_at : FnAt P w K mg base "_law_cell_at" 1 ["_law_script", "_law_k"] φ__law_cell_at) : FnAt P w K mg base "_law_way" 2 ["_law_script", "_law_k", "_law_many"] φ__law_way := by
  refine fn_at T sc__law_way fun f cdv A outer s H Q E ds o hr hφ hq => ?_
  obtain ⟨ns, k, m, rfl, hlen, hm, rfl⟩ := hφ
  exact xs_ret (xe_mod (xe_mod (xe_add (xe_mulS (xe_call g__law_cell_at (hr.mono (by decide)) (xa_cons (xe_varR 0 rfl) (xa_cons (xe_var 1 rfl) xa_nil)) ⟨ns, k, rfl, rfl⟩) xe_int (.inr ⟨by decide, by decide⟩)) (xe_mulS xe_int (xe_lenL B.len (xe_varR 0 rfl)) (.inl ⟨by decide, by decide⟩))) xe_int (by decide)) (xe_var 2 rfl) hm) hq
def φ__law_whole : List PyData → Out → Prop := fun ds o => ∃ x, ds = [x] ∧ o = .d (.bool (isInt x))
theorem sc__law_whole : FnScope ["_law_found"] ["_law_found"] (defScope s__law_whole) := ⟨rfl, rfl, rfl, by decide +kernel, rfl, by decide +kernel, by decide +kernel⟩
theorem ok__law_whole (B : Bi mg) (T : DefAt K mg "_law_whole" s__law_whole ["_law_found"]) : FnAt P w K mg base "_law_whole" 1 ["_law_found"] φ__law_whole := by
  refine fn_at T sc__law_whole fun f cdv A outer s H Q E ds o hr hφ hq => ?_
  obtain ⟨x, rfl, rfl⟩ := hφ
  cases x with
  | int i => exact xs_ret (xe_and (xe_isi (T := "int") (k := true) B.isinstance (xe_var 0 rfl) B.int (by exact kt_int_int)) fun h => (xe_one (xe_not (xe_isi (T := "bool") (k := false) B.isinstance (xe_var 0 rfl) B.bool (by exact kt_int_bool))))) hq
  | bool b => exact xs_ret (xe_and (xe_isi (T := "int") (k := true) B.isinstance (xe_var 0 rfl) B.int (by exact kt_bool_int)) fun h => (xe_one (xe_not (xe_isi (T := "bool") (k := true) B.isinstance (xe_var 0 rfl) B.bool (by exact kt_bool_bool))))) hq
  | list xs => exact xs_ret (xe_and (l := true) (xe_isi (T := "int") (k := false) B.isinstance (xe_varR 0 rfl) B.int (by exact kt_list_int)) fun h => nomatch h) hq
  | none => exact xs_ret (xe_and (l := true) (xe_isi (T := "int") (k := false) B.isinstance (xe_var 0 rfl) B.int (by exact kt_NoneType_int)) fun h => nomatch h) hq
  | str b => exact xs_ret (xe_and (l := true) (xe_isi (T := "int") (k := false) B.isinstance (xe_var 0 rfl) B.int (by exact kt_str_int)) fun h => nomatch h) hq
  | tuple b => exact xs_ret (xe_and (l := true) (xe_isi (T := "int") (k := false) B.isinstance (xe_var 0 rfl) B.int (by exact kt_tuple_int)) fun h => nomatch h) hq
  | dict b => exact xs_ret (xe_and (l := true) (xe_isi (T := "int") (k := false) B.isinstance (xe_var 0 rfl) B.int (by exact kt_dict_int)) fun h => nomatch h) hq
def φ__law_shared : List PyData → Out → Prop := fun ds o => ∃ a b : Int, ds = [.int a, .int b] ∧ 0 ≤ a ∧ 0 ≤ b ∧ o = .d (.int (Int.gcd a b))
theorem sc__law_shared : FnScope ["_law_one", "_law_other"] ["_law_one", "_law_other"] (defScope s__law_shared) := ⟨rfl, rfl, rfl, by decide +kernel, rfl, by decide +kernel, by decide +kernel⟩
theorem ok__law_shared (B : Bi mg) (T : DefAt K mg "_law_shared" s__law_shared ["_law_one", "_law_other"]) : FnAt P w K mg base "_law_shared" 1 ["_law_one", "_law_other"] φ__law_shared := by
  refine fn_at T sc__law_shared fun f cdv A outer s H Q E ds o hr hφ hq => ?_
  obtain ⟨a, b, rfl, ha, hb, rfl⟩ := hφ
  refine xs_while (ι := Int × Int) (fun i => [.d (.int i.1), .d (.int i.2)]) (fun i => i.2.toNat) (fun i => 0 ≤ i.1 ∧ 0 ≤ i.2 ∧ Int.gcd i.1 i.2 = Int.gcd a b) (fun i => decide (0 < i.2)) (a, b) rfl ⟨ha, hb, rfl⟩ (fun i wi => (xe_gt (xe_var 1 rfl) xe_int).asT) (fun i wi hi => ?wb) (fun i wi hi => ?wd) (passes_of rfl)
  case wb =>
    have h0 := of_decide_eq_true hi
    refine xs_par 0 1 (xe_var 1 rfl) (xe_mod (xe_var 0 rfl) (xe_var 1 rfl) h0) ?_ sc__law_shared.nd rfl (by decide)
    have h1 := Int.emod_nonneg i.1 (show i.2 ≠ 0 by omega)
    have h2 := Int.emod_lt_of_pos i.1 h0
    exact xs_turn (i.2, i.1 % i.2) ⟨wi.2.1, h1, by rw [gcd_step]; exact wi.2.2⟩ (by show (i.1 % i.2).toNat < i.2.toNat; omega) rfl
  case wd =>
    have h0 := of_decide_eq_false hi
    refine xs_ret (xe_var 0 rfl) hq ?_
    have e : i.2 = 0 := by have := wi.2.1; omega
    have e2 := wi.2.2
    rw [e, Int.gcd_zero_right] at e2
    rw [← e2, Int.natAbs_of_nonneg wi.1]
def φ__law_frac : List PyData → Out → Prop := fun ds o => ∃ u l : Int, ds = [.int u, .int l] ∧ 0 ≤ u ∧ 1 ≤ l ∧ Bd 8999 l ∧ o = .d (.tuple [.int (gu u l), .int (gl u l)])
theorem sc__law_frac : FnScope ["_law_upper", "_law_lower", "_law_part"] ["_law_upper", "_law_lower"] (defScope s__law_frac) := ⟨rfl, rfl, rfl, by decide +kernel, rfl, by decide +kernel, by decide +kernel⟩
theorem ok__law_frac (B : Bi mg) (T : DefAt K mg "_law_frac" s__law_frac ["_law_upper", "_law_lower"]) (g__law_shared : FnAt P w K mg base "_law_shared" 1 ["_law_one", "_law_other"] φ__law_shared) : FnAt P w K mg base "_law_frac" 2 ["_law_upper", "_law_lower"] φ__law_frac := by
  refine fn_at T sc__law_frac fun f cdv A outer s H Q E ds o hr hφ hq => ?_
  obtain ⟨u, l, rfl, hu, hl, bl, rfl⟩ := hφ
  refine xs_set 2 (xe_call g__law_shared (hr.mono (by decide)) (xa_cons (xe_var 0 rfl) (xa_cons (xe_var 1 rfl) xa_nil)) ⟨u, l, rfl, hu, by omega, rfl⟩) ?_ sc__law_frac.nd
  have h3 := gcd_pos' (u := u) hl
  have h4 : Bd 8999 (Int.gcd u l : Int) := bl.of_le (by omega) (Int.gcd_le_right u (by omega))
  exact xs_ret (xe_tup (xa_cons (xe_div (xe_var 0 rfl) (xe_var 2 rfl) (divw h3 h4 (by decide))) (xa_cons (xe_div (xe_var 1 rfl) (xe_var 2 rfl) (divw h3 h4 (by decide))) xa_nil))) hq
def φ__law_is_frac : List PyData → Out → Prop := fun ds o => ∃ u l : Int, ds = [.tuple [.int u, .int l]] ∧ Fr u l ∧ o = .d (.bool true)
theorem sc__law_is_frac : FnScope ["_law_found"] ["_law_found"] (defScope s__law_is_frac) := ⟨rfl, rfl, rfl, by decide +kernel, rfl, by decide +kernel, by decide +kernel⟩
theorem ok__law_is_frac (B : Bi mg) (T : DefAt K mg "_law_is_frac" s__law_is_frac ["_law_found"]) (g__law_whole : FnAt P w K mg base "_law_whole" 1 ["_law_found"] φ__law_whole) (g__law_shared : FnAt P w K mg base "_law_shared" 1 ["_law_one", "_law_other"] φ__law_shared) : FnAt P w K mg base "_law_is_frac" 2 ["_law_found"] φ__law_is_frac := by
  refine fn_at T sc__law_is_frac fun f cdv A outer s H Q E ds o hr hφ hq => ?_
  obtain ⟨u, l, rfl, hf, rfl⟩ := hφ
  refine xs_skip (xw_or (xt_not (xt_val (xe_isi (T := "tuple") (k := true) B.isinstance (xe_var 0 rfl) B.tuple (by exact kt_tuple_tuple)))) fun h => (xw_or1 (xe_neI (xe_lenT B.len (xe_var 0 rfl)) xe_int).asT)).xt rfl ?_
  refine xs_skip (xw_or (xt_not (xt_val (xe_call g__law_whole (hr.mono (by decide)) (xa_cons (xe_ixT (xe_var 0 rfl) xe_int rfl) xa_nil) ⟨_, rfl, rfl⟩))) fun h => (xw_or1 (xt_not (xt_val (xe_call g__law_whole (hr.mono (by decide)) (xa_cons (xe_ixT (xe_var 0 rfl) xe_int rfl) xa_nil) ⟨_, rfl, rfl⟩))))).xt rfl ?_
  refine xs_ret (xe_and (xe_ge (xe_ixT (xe_var 0 rfl) xe_int rfl) xe_int).asE fun h => (xe_and (xe_ge (xe_ixT (xe_var 0 rfl) xe_int rfl) xe_int).asE fun h => (xe_one (xe_eqI (xe_call g__law_shared (hr.mono (by decide)) (xa_cons (xe_ixT (xe_var 0 rfl) xe_int rfl) (xa_cons (xe_ixT (xe_var 0 rfl) xe_int rfl) xa_nil)) ⟨u, l, rfl, hf.u0, by have := hf.l1; omega, rfl⟩) xe_int).asE))) hq ?_
  have h1 := hf.u0
  have h2 := hf.l1
  have h3 := hf.g
  simp [h1, h2, h3]
def lawM : Int := 10 ^ 28
def numTop (k : Int) : Int := if k = 0 then 30 else if k = 1 then 1000 else if k = 2 then 1000000 else lawM
theorem numTop_pos (k : Int) : 0 < numTop k := by
  unfold numTop
  split
  · decide
  · split
    · decide
    · split
      · decide
      · decide
theorem numTop_le (k : Int) : numTop k ≤ 10 ^ 60 := by
  unfold numTop
  split
  · decide
  · split
    · decide
    · split
      · decide
      · decide
def num (c k : Int) : Int := c % numTop k
theorem num_nonneg (c k : Int) : 0 ≤ num c k := Int.emod_nonneg c (by have := numTop_pos k; omega)
theorem num_lt (c k : Int) : num c k < 10 ^ 60 := by
  have h1 := Int.emod_lt_of_pos c (numTop_pos k)
  have h2 := numTop_le k
  unfold num
  omega
theorem num_bd (c k : Int) : Bd 200 (num c k) := Bd.lt (num_nonneg c k) (by have := num_lt c k; have h : (10 : Int) ^ 60 ≤ 2 ^ 200 := by decide
                                                                            omega)
def φ__law_number : List PyData → Out → Prop := fun ds o => ∃ c k : Int, ds = [.int c, .int k] ∧ 0 ≤ k ∧ k < 4 ∧ o = .d (.int (num c k))
theorem sc__law_number : FnScope ["_law_cell", "_law_way_here"] ["_law_cell", "_law_way_here"] (defScope s__law_number) := ⟨rfl, rfl, rfl, by decide +kernel, rfl, by decide +kernel, by decide +kernel⟩
theorem ok__law_number (B : Bi mg) (T : DefAt K mg "_law_number" s__law_number ["_law_cell", "_law_way_here"]) : FnAt P w K mg base "_law_number" 1 ["_law_cell", "_law_way_here"] φ__law_number := by
  refine fn_at T sc__law_number fun f cdv A outer s H Q E ds o hr hφ hq => ?_
  obtain ⟨c, k, rfl, h0, h4, rfl⟩ := hφ
  refine xs_ret (xe_mod (j := numTop k) (xe_var 0 rfl) (xe_ixL (xn_lst (xa_cons xe_int (xa_cons xe_int (xa_cons (xe_pow xe_int xe_int ⟨by decide, by decide, by decide⟩) (xa_cons (xe_pow xe_int xe_int ⟨by decide, by decide, by decide⟩) xa_nil))))).xe (xe_var 1 rfl) ?x3) (numTop_pos k)) hq
  case x3 =>
    rcases (show k = 0 ∨ k = 1 ∨ k = 2 ∨ k = 3 by omega) with rfl | rfl | rfl | rfl <;> rfl
def drU (ns : List Int) (k : Nat) (y : Int) : Int := num (cell ns k) (y % 4)
def drL (ns : List Int) (k : Nat) (y : Int) : Int := 1 + num (cell ns (k + 1)) (y / 4 % 4)
theorem drU_nonneg (ns : List Int) (k : Nat) (y : Int) : 0 ≤ drU ns k y := num_nonneg _ _
theorem drL_pos (ns : List Int) (k : Nat) (y : Int) : 1 ≤ drL ns k y := by
  have := num_nonneg (cell ns (k + 1)) (y / 4 % 4)
  unfold drL
  omega
theorem drU_bd (ns : List Int) (k : Nat) (y : Int) : Bd 200 (drU ns k y) := num_bd _ _
theorem drL_bd (ns : List Int) (k : Nat) (y : Int) : Bd 201 (drL ns k y) := (Bd.add (n := 1) (show Bd 1 1 by decide) (num_bd (cell ns (k + 1)) (y / 4 % 4))).mono (by decide)
def drA (ns : List Int) (k : Nat) (y : Int) : Int := gu (drU ns k y) (drL ns k y)
def drB (ns : List Int) (k : Nat) (y : Int) : Int := gl (drU ns k y) (drL ns k y)
theorem dr_fr (ns : List Int) (k : Nat) (y : Int) : Fr (drA ns k y) (drB ns k y) := fr_of (drU_nonneg ns k y) (drL_pos ns k y)
theorem drA_bd (ns : List Int) (k : Nat) (y : Int) : Bd 200 (drA ns k y) := (drU_bd ns k y).gu (drU_nonneg ns k y) (drL_pos ns k y)
theorem drB_bd (ns : List Int) (k : Nat) (y : Int) : Bd 201 (drB ns k y) := (drL_bd ns k y).gl (drL_pos ns k y)
def φ__law_drawn : List PyData → Out → Prop := fun ds o => ∃ (ns : List Int) (k : Nat) (y : Int), ds = [.list (ns.map .int), .int (k : Int), .int y] ∧ o = .d (.tuple [.int (drA ns k y), .int (drB ns k y)])
theorem sc__law_drawn : FnScope ["_law_script", "_law_first", "_law_way_here", "_law_upper", "_law_lower"] ["_law_script", "_law_first", "_law_way_here"] (defScope s__law_drawn) := ⟨rfl, rfl, rfl, by decide +kernel, rfl, by decide +kernel, by decide +kernel⟩
theorem ok__law_drawn (B : Bi mg) (T : DefAt K mg "_law_drawn" s__law_drawn ["_law_script", "_law_first", "_law_way_here"]) (g__law_cell_at : FnAt P w K mg base "_law_cell_at" 1 ["_law_script", "_law_k"] φ__law_cell_at) (g__law_number : FnAt P w K mg base "_law_number" 1 ["_law_cell", "_law_way_here"] φ__law_number) (g__law_frac : FnAt P w K mg base "_law_frac" 2 ["_law_upper", "_law_lower"] φ__law_frac) : FnAt P w K mg base "_law_drawn" 3 ["_law_script", "_law_first", "_law_way_here"] φ__law_drawn := by
  refine fn_at T sc__law_drawn fun f cdv A outer s H Q E ds o hr hφ hq => ?_
  obtain ⟨ns, k, y, rfl, rfl⟩ := hφ
  refine xs_set 3 (xe_call (x := .int (drU ns k y)) g__law_number (hr.mono (by decide)) (xa_cons (xe_call g__law_cell_at (hr.mono (by decide)) (xa_cons (xe_varR 0 rfl) (xa_cons (xe_var 1 rfl) xa_nil)) ⟨ns, k, rfl, rfl⟩) (xa_cons (xe_mod (xe_var 2 rfl) xe_int (by decide)) xa_nil)) ⟨_, _, rfl, by omega, by omega, rfl⟩) ?_ sc__law_drawn.nd
  refine xs_set 4 (XE.is (y := .int (drL ns k y)) (xe_add xe_int (xe_call g__law_number (hr.mono (by decide)) (xa_cons (xe_call g__law_cell_at (hr.mono (by decide)) (xa_cons (xe_varR 0 rfl) (xa_cons (xe_add (xe_var 1 rfl) xe_int) xa_nil)) ⟨ns, k + 1, by simp, rfl⟩) (xa_cons (xe_mod (xe_div (xe_var 2 rfl) xe_int ⟨by decide, by decide⟩) xe_int (by decide)) xa_nil)) ⟨_, _, rfl, by omega, by omega, rfl⟩)) rfl) ?_ sc__law_drawn.nd
  exact xs_ret (xe_call g__law_frac (hr.mono (by decide)) (xa_cons (xe_var 3 rfl) (xa_cons (xe_var 4 rfl) xa_nil)) ⟨_, _, rfl, drU_nonneg ns k y, drL_pos ns k y, (drL_bd ns k y).mono (by decide), rfl⟩) hq
def φ__law_figures : List PyData → Out → Prop := fun ds o => ∃ s : Str, ds = [.str s] ∧ o = .d (.bool (figs s))
theorem sc__law_figures : FnScope ["_law_word", "_law_sign"] ["_law_word"] (defScope s__law_figures) := ⟨rfl, rfl, rfl, by decide +kernel, rfl, by decide +kernel, by decide +kernel⟩
theorem ok__law_figures (B : Bi mg) (T : DefAt K mg "_law_figures" s__law_figures ["_law_word"]) : FnAt P w K mg base "_law_figures" 1 ["_law_word"] φ__law_figures := by
  refine fn_at T sc__law_figures fun f cdv A outer s H Q E ds o hr hφ hq => ?_
  obtain ⟨z, rfl, rfl⟩ := hφ
  refine xs_forS (fun i => [.d (.str z), .u]) (fun i => (z.cps.toList.take i).all isFig = true) (xe_var 0 rfl) rfl rfl (fun i c hc pi => ?_) (fun pi => ?_) (passes_of rfl) rfl
  · refine ⟨_, xg_name 1 sc__law_figures.nd, ?_⟩
    refine xs_if (xe_ninS (xe_var 1 rfl) xe_str).asT (fun h => ?_) (fun h => ?_)
    · rw [fig_in] at h
      have hf : figs z = false := by
        unfold figs
        have : z.cps.toList.all isFig = false := by
          refine List.all_eq_false.mpr ⟨c, List.mem_of_getElem? hc, ?_⟩
          have : isFig c = false := by simpa using h
          rw [this]
          decide
        rw [this]
        rfl
      rw [hf] at hq
      exact xs_ret xe_bl hq
    · rw [fig_in] at h
      have hc1 : isFig c = true := by simpa using h
      refine xs_end ?_
      refine xs_forget 1 ?_
      refine xs_nil fun σ H S => ⟨?_, S.of rfl⟩
      show (z.cps.toList.take (i + 1)).all isFig = true
      rw [List.take_add_one, hc, List.all_append, pi]
      simp [hc1]
  · have h1 : z.cps.toList.all isFig = true := by
      have := pi
      rwa [List.take_length] at this
    refine xs_ret (xe_neS (xe_var 0 rfl) xe_str).asE hq ?_
    unfold figs
    rw [h1, Bool.true_and]
    congr 1
    have e : ("" : Str).cps.toList = [] := by decide +kernel
    by_cases k : z = ""
    · rw [decide_eq_true k, k, e]
      rfl
    · rw [decide_eq_false k]
      have : z.cps.toList ≠ [] := fun q => k (TL.ext_tl (q.trans e.symm))
      cases hz : z.cps.toList with
      | nil => exact absurd hz this
      | cons a b => rfl
def φ__law_bounds_of : List PyData → Out → Prop := fun ds o => ∃ z : Str, ds = [.str z] ∧ z.length ≤ 200 ∧ ((decO z = none ∧ o = .d .none) ∨ (∃ n k, decO z = some (n, k) ∧ o = .L [.int (loU n), .int (hiU n), .int (stL k)]))
theorem sc__law_bounds_of : FnScope ["_law_line", "_law_head", "_law_point", "_law_tail", "_law_step", "_law_number_here", "_law_sign"] ["_law_line"] (defScope s__law_bounds_of) := ⟨rfl, rfl, rfl, by decide +kernel, rfl, by decide +kernel, by decide +kernel⟩
theorem ptL_dec (b : Bool) : (!decide (ptS b = "")) = b := by
  cases b
  · show (!decide (("" : Str) = "")) = false
    rw [decide_eq_true rfl]
    rfl
  · show (!decide (("." : Str) = "")) = true
    rw [decide_eq_false (by decide +kernel)]
    rfl
theorem ok__law_bounds_of (B : Bi mg) (T : DefAt K mg "_law_bounds_of" s__law_bounds_of ["_law_line"]) (g__law_figures : FnAt P w K mg base "_law_figures" 1 ["_law_word"] φ__law_figures) : FnAt P w K mg base "_law_bounds_of" 2 ["_law_line"] φ__law_bounds_of := by
  refine fn_at T sc__law_bounds_of fun f cdv A outer s H Q E ds o hr hφ hq => ?_
  obtain ⟨z, rfl, hz, hc⟩ := hφ
  obtain ⟨h, t, pt, pp⟩ := parts_ex z
  have tz : z.length ≤ sizeLine := Evl.sz_of (by omega)
  have hl := pp.l
  have tzh : (SX.S h).length ≤ sizeLine := Evl.sz_of (by rw [SX.S_len]; omega)
  refine xs_un3 1 2 3 (x := .str (SX.S h)) (y := .str (ptS pt)) (z := .str (SX.S t)) ((xe_part (xe_var 0 rfl) xe_str (by decide +kernel) tz).is (by rw [show Txt.partition z "." = (SX.S h, ptS pt, SX.S t) from pp.p])) ?_ sc__law_bounds_of.nd rfl
  have hnone : dec2 h t pt = false → o = .d .none := fun hdd => by
    have hnone : decO z = none := by
      rw [pp.d]
      unfold decR
      rw [if_neg (by rw [hdd]; decide)]
    rcases hc with ⟨_, rfl⟩ | ⟨n, k, h2, _⟩
    · rfl
    · rw [hnone] at h2
      cases h2
  refine xs_ifE (fun k : Bool => k = !(figsL h && !lead0 h)) ?cond (fun hk => ?_) (fun hk => ?_)
  case cond =>
    by_cases hA : figsL h = true
    · obtain ⟨c1, r, hd⟩ : ∃ c1 r, h = c1 :: r := by
        cases h with
        | nil => cases hA
        | cons a b => exact ⟨a, b, rfl⟩
      have hx : atI (SX.S h).cps.toList 0 = some c1 := by
        rw [hd]
        exact atI_nat (j := 0) rfl
      have z0 : decide ((⟨#[c1]⟩ : Str) = "0") = decide (c1 = 48) := by
        have e0 : ("0" : Str) = SX.S [48] := TL.ext_tl (by decide +kernel)
        rw [e0, decide_eq_decide]
        exact ⟨fun q => by have := SX.S_inj (a := [c1]) (b := [48]) q; injection this, fun q => by rw [q]⟩
      have l0 : (decide ((1 : Int) < ((SX.S h).length : Int)) && decide (c1 = 48)) = lead0 h := by
        unfold lead0
        rw [SX.S_len, hd]
        by_cases y : c1 = 48
        · subst y
          have e1 : decide ((48 :: r).head? = some 48) = true := decide_eq_true rfl
          rw [e1, decide_eq_true (rfl : (48 : Nat) = 48), Bool.and_true, Bool.true_and]
          cases r with
          | nil => rfl
          | cons a b =>
            rw [decide_eq_true (by rw [List.length_cons, List.length_cons]; omega), decide_eq_false (by intro q; injection q with _ q; cases q)]
            rfl
        · have e1 : decide ((c1 :: r).head? = some 48) = false := decide_eq_false fun q => y (Option.some.inj q)
          rw [e1, decide_eq_false y, Bool.and_false]
          rfl
      refine ⟨_, XW.xt (xw_or (k := false) (XT.is (xt_not (xt_val (xe_call g__law_figures (hr.mono (by decide)) (xa_cons (xe_var 1 rfl) xa_nil) ⟨SX.S h, rfl, rfl⟩))) (by rw [figs_S, hA]; rfl)) fun _ => xw_or1 (XT.is (XW.xt (xw_and (XQ.asT (xe_gt (xe_lenS B.len (xe_var 1 rfl) tzh) xe_int)) fun _ => xw_and1 (XT.is (XQ.asT (xe_eqS (xe_ixS (xe_var 1 rfl) xe_int tzh hx) xe_str)) z0))) l0)), ?_⟩
      rw [hA]
      cases lead0 h <;> rfl
    · have hA' : figsL h = false := by simpa using hA
      exact ⟨true, XW.xt (xw_or (k := true) (l := true) (XT.is (xt_not (xt_val (xe_call g__law_figures (hr.mono (by decide)) (xa_cons (xe_var 1 rfl) xa_nil) ⟨SX.S h, rfl, rfl⟩))) (by rw [figs_S, hA']; rfl)) fun q => nomatch q), by rw [hA']; rfl⟩
  · have hdd : dec2 h t pt = false := dec2_no1 hk
    have ho := hnone hdd
    subst ho
    exact xs_ret xe_non hq
  refine xs_end ?_
  refine xs_ifE (fun k : Bool => k = (pt && !figsL t)) ⟨_, XW.xt (xw_and (XT.is (XQ.asT (xe_neS (xe_var 2 rfl) xe_str)) (ptL_dec pt)) fun _ => xw_and1 (XT.is (xt_not (xt_val (xe_call g__law_figures (hr.mono (by decide)) (xa_cons (xe_var 3 rfl) xa_nil) ⟨SX.S t, rfl, rfl⟩))) (by rw [figs_S]))), rfl⟩ (fun hk2 => ?_) (fun hk2 => ?_)
  · have hdd : dec2 h t pt = false := dec2_no2 hk2
    have ho := hnone hdd
    subst ho
    exact xs_ret xe_non hq
  have hdd : dec2 h t pt = true := dec2_yes hk hk2
  have hsome : decO z = some (NumText.digitsVal (h ++ t), t.length) := by
    rw [pp.d]
    unfold decR
    rw [if_pos hdd]
  have dR := decR_some (pp.d ▸ hsome) pp.n
  have hfig := dR.1
  rw [List.all_append, Bool.and_eq_true_iff] at hfig
  have bds := dec_bd hsome hz
  have ho : o = .L [.int (loU (NumText.digitsVal (h ++ t))), .int (hiU (NumText.digitsVal (h ++ t))), .int (stL t.length)] := by
    rcases hc with ⟨h2, _⟩ | ⟨n, k, h2, h3⟩
    · rw [hsome] at h2
      cases h2
    · rw [hsome] at h2
      cases h2
      exact h3
  subst ho
  clear hc hnone
  have zF : ("0123456789" : Str).length ≤ sizeLine := Evl.sz_of (by decide +kernel)
  have dstep : ∀ (l : List Nat) (c : Nat), isFig c = true → 10 * ((NumText.digitsVal l : Nat) : Int) + ((c - 48 : Nat) : Int) = ((NumText.digitsVal (l ++ [c]) : Nat) : Int) := fun l c _ => by
    rw [digitsVal_snoc]
    omega
  refine xs_end ?_
  refine xs_set 4 xe_int ?_ sc__law_bounds_of.nd
  refine xs_set 5 xe_int ?_ sc__law_bounds_of.nd
  refine xs_forS (s := SX.S h) (fun i => [.d (.str z), .d (.str (SX.S h)), .d (.str (ptS pt)), .d (.str (SX.S t)), .d (.int 2), .d (.int ((NumText.digitsVal (h.take i) : Nat) : Int)), .u]) (fun i => True) (xe_var 1 rfl) rfl trivial (fun i c hci pi => ?_) (fun pi => ?_) (passes_of rfl) rfl
  · have hci' : h[i]? = some c := hci
    have hf := List.all_eq_true.mp hfig.1 c (List.mem_of_getElem? hci')
    refine ⟨_, xg_name 6 sc__law_bounds_of.nd, ?_⟩
    refine xs_set 5 ((xe_add (xe_mulS xe_int (xe_var 5 rfl) (.inl ⟨by decide, by decide⟩)) (xe_sindex xe_str (xe_var 6 rfl) (fig_ix hf))).is (by rw [dstep _ _ hf])) ?_ sc__law_bounds_of.nd
    refine xs_forget 6 ?_
    refine xs_nil fun σ H S => ⟨trivial, S.of ?_⟩
    try dsimp only
    rw [List.take_add_one, hci']
    rfl
  show XS _ _ [.d (.str z), .d (.str (SX.S h)), .d (.str (ptS pt)), .d (.str (SX.S t)), .d (.int 2), .d (.int ((NumText.digitsVal (h.take h.length) : Nat) : Int)), .u] _ _
  rw [List.take_length]
  refine xs_forS (s := SX.S t) (fun i => [.d (.str z), .d (.str (SX.S h)), .d (.str (ptS pt)), .d (.str (SX.S t)), .d (.int (stL i)), .d (.int ((NumText.digitsVal (h ++ t.take i) : Nat) : Int)), .u]) (fun i => True) (xe_var 3 rfl) (by rw [List.take_zero, List.append_nil]; rfl) trivial (fun i c hci pi => ?_) (fun pi => ?_) (passes_of rfl) rfl
  · have hci' : t[i]? = some c := hci
    have hf := List.all_eq_true.mp hfig.2 c (List.mem_of_getElem? hci')
    refine ⟨_, xg_name 6 sc__law_bounds_of.nd, ?_⟩
    refine xs_set 5 ((xe_add (xe_mulS xe_int (xe_var 5 rfl) (.inl ⟨by decide, by decide⟩)) (xe_sindex xe_str (xe_var 6 rfl) (fig_ix hf))).is (by rw [dstep _ _ hf])) ?_ sc__law_bounds_of.nd
    refine xs_set 4 ((xe_mulS xe_int (xe_var 4 rfl) (.inl ⟨by decide, by decide⟩)).is (y := .int (stL (i + 1))) (by unfold stL; rw [Int.pow_succ]; congr 1; grind)) ?_ sc__law_bounds_of.nd
    refine xs_forget 6 ?_
    refine xs_nil fun σ H S => ⟨trivial, S.of ?_⟩
    try dsimp only
    rw [List.take_add_one, hci', ← List.append_assoc]
    rfl
  show XS _ _ [.d (.str z), .d (.str (SX.S h)), .d (.str (ptS pt)), .d (.str (SX.S t)), .d (.int (stL t.length)), .d (.int ((NumText.digitsVal (h ++ t.take t.length) : Nat) : Int)), .u] _ _
  rw [List.take_length]
  generalize NumText.digitsVal (h ++ t) = n at *
  generalize t.length = k at *
  exact xs_retN (xn_lst (xa_cons (xe_max rfl B.max (xa_cons xe_int (xa_cons (xe_sub (xe_mulS xe_int (xe_var 5 rfl) (.inl ⟨by decide, by decide⟩)) xe_int) xa_nil))) (xa_cons (xe_add (xe_mulS xe_int (xe_var 5 rfl) (.inl ⟨by decide, by decide⟩)) xe_int) (xa_cons (xe_var 4 rfl) xa_nil)))) hq
def dTop (w : Int) : Int := if w % 4 = 0 then 10 else if w % 4 = 1 then 1000 else if w % 4 = 2 then 10 ^ 28 else 1
def dC2 (w : Int) : Bool := decide (w / 32 % 4 = 2) && decide (25 < w / 128)
def dC3 (w : Int) : Bool := decide (w / 32 % 4 = 3) && decide (25 < w / 128)
def dH0 (c w : Int) : Int := c % dTop w
def dH1 (c w : Int) : Int := if dC2 w = true then c % 10 else dH0 c w
def dH2 (c w : Int) : Int := if dC3 w = true then c % 10 ^ 57 else dH1 c w
def dM0 (w : Int) : Int := if w / 32 % 4 = 1 then w / 128 else w / 4 % 8
def dM1 (w : Int) : Int := if dC2 w = true then 28 + w / 128 else dM0 w
def dM2 (w : Int) : Int := if dC3 w = true then w / 4 % 2 else dM1 w
def dT (c : Int) : Int := 10 ^ 58 + c % 10 ^ 58
def hdS (m : Int) : Str := SX.S (TL.numL m.toNat)
def decBy (ns : List Int) (f : Nat) : Str := if dM2 (way ns (f + 1) 3968) = 0 then hdS (dH2 (cell ns f) (way ns (f + 1) 3968)) else SX.S (TL.numL (dH2 (cell ns f) (way ns (f + 1) 3968)).toNat ++ 46 :: (TL.numL (dT (cell ns (f + 2))).toNat).drop (59 - (dM2 (way ns (f + 1) 3968)).toNat))
theorem dTop_rg (w : Int) : 0 < dTop w ∧ dTop w ≤ 10 ^ 57 := by
  unfold dTop
  split
  · exact ⟨by decide, by decide⟩
  · split
    · exact ⟨by decide, by decide⟩
    · split
      · exact ⟨by decide, by decide⟩
      · exact ⟨by decide, by decide⟩
theorem dH0_rg (c w : Int) : 0 ≤ dH0 c w ∧ dH0 c w < 10 ^ 57 := by
  have h := dTop_rg w
  have h1 := Int.emod_nonneg c (show dTop w ≠ 0 by omega)
  have h2 := Int.emod_lt_of_pos c h.1
  unfold dH0
  omega
theorem dH1_rg (c w : Int) : 0 ≤ dH1 c w ∧ dH1 c w < 10 ^ 57 := by
  have t : (10 : Int) < 10 ^ 57 := by decide
  unfold dH1
  split
  · omega
  · exact dH0_rg c w
theorem dH2_rg (c w : Int) : 0 ≤ dH2 c w ∧ dH2 c w < 10 ^ 57 := by
  have t : (0 : Int) < 10 ^ 57 := by decide
  unfold dH2
  split
  · exact ⟨Int.emod_nonneg c (by omega), Int.emod_lt_of_pos c t⟩
  · exact dH1_rg c w
theorem dM2_rg {w : Int} (h0 : 0 ≤ w) (h1 : w < 3968) : 0 ≤ dM2 w ∧ dM2 w ≤ 58 := by
  unfold dM2 dM1 dM0
  split
  · omega
  · split
    · omega
    · split
      · omega
      · omega
theorem dT_rg (c : Int) : 10 ^ 58 ≤ dT c ∧ dT c < 10 ^ 59 := by
  have t : (10 : Int) ^ 58 + 10 ^ 58 < 10 ^ 59 := by decide
  have t0 : (0 : Int) < 10 ^ 58 := by decide
  have h1 := Int.emod_nonneg c (show (10 : Int) ^ 58 ≠ 0 by omega)
  have h2 := Int.emod_lt_of_pos c t0
  unfold dT
  omega
theorem up60 {m : Int} {k : Nat} (h : m < 10 ^ k) (hk : k ≤ 60) : m < 10 ^ 60 := by
  have := ten_le hk
  omega
theorem natLt {m : Int} {k : Nat} (h0 : 0 ≤ m) (h : m < 10 ^ k) : m.toNat < 10 ^ k := by
  have e : ((10 ^ k : Nat) : Int) = (10 : Int) ^ k := by rw [Int.natCast_pow]; rfl
  omega
theorem hdS_len {m : Int} (h0 : 0 ≤ m) (h : m < 10 ^ 57) : (hdS m).length ≤ 57 := by
  unfold hdS
  rw [SX.S_len]
  exact TL.numL_len (by decide) (natLt h0 h)
theorem dT_len (c : Int) : (TL.numL (dT c).toNat).length ≤ 59 := by
  have h := dT_rg c
  have t0 : (0 : Int) < 10 ^ 58 := by decide
  exact TL.numL_len (by decide) (natLt (by omega) h.2)
theorem decBy_len (ns : List Int) (f : Nat) : (decBy ns f).length ≤ 120 := by
  have h := dH2_rg (cell ns f) (way ns (f + 1) 3968)
  have l1 := hdS_len h.1 h.2
  have l2 := dT_len (cell ns (f + 2))
  unfold decBy
  split
  · omega
  · unfold hdS at l1
    rw [SX.S_len] at l1
    rw [SX.S_len, List.length_append, List.length_cons, List.length_drop]
    omega
theorem decBy_dec (ns : List Int) (f : Nat) : ∃ n k, decO (decBy ns f) = some (n, k) := by
  have hm := dM2_rg (way_nonneg ns (f + 1) (by decide)) (way_lt ns (f + 1) (show (0 : Int) < 3968 by decide))
  have hT := dT_rg (cell ns (f + 2))
  unfold decBy
  split
  · exact ⟨_, _, dec_one _⟩
  · have hn : 10 ^ 58 ≤ (dT (cell ns (f + 2))).toNat := by
      have e : ((10 ^ 58 : Nat) : Int) = (10 : Int) ^ 58 := by rw [Int.natCast_pow]; rfl
      omega
    exact ⟨_, _, dec_two _ (tail_figs hn (by omega) (by omega))⟩
def φ__law_decimal_by : List PyData → Out → Prop := fun ds o => ∃ (ns : List Int) (f : Nat), ds = [.list (ns.map .int), .int (f : Int)] ∧ ns.length ≤ 63 ∧ o = .d (.str (decBy ns f))
theorem sc__law_decimal_by : FnScope ["_law_script", "_law_first", "_law_way_here", "_law_head", "_law_many"] ["_law_script", "_law_first"] (defScope s__law_decimal_by) := ⟨rfl, rfl, rfl, by decide +kernel, rfl, by decide +kernel, by decide +kernel⟩
theorem ok__law_decimal_by (B : Bi mg) (T : DefAt K mg "_law_decimal_by" s__law_decimal_by ["_law_script", "_law_first"]) (g__law_way : FnAt P w K mg base "_law_way" 2 ["_law_script", "_law_k", "_law_many"] φ__law_way) (g__law_cell_at : FnAt P w K mg base "_law_cell_at" 1 ["_law_script", "_law_k"] φ__law_cell_at) : FnAt P w K mg base "_law_decimal_by" 3 ["_law_script", "_law_first"] φ__law_decimal_by := by
  refine fn_at T sc__law_decimal_by fun f cdv A outer s H Q E ds o hr hφ hq => ?_
  obtain ⟨ns, k, rfl, hlen, rfl⟩ := hφ
  refine xs_set 2 (xe_call g__law_way (hr.mono (by decide)) (xa_cons (xe_varR 0 rfl) (xa_cons (xe_add (xe_var 1 rfl) xe_int) (xa_cons xe_int xa_nil))) ⟨ns, k + 1, 3968, by simp, hlen, by decide, rfl⟩) ?_ sc__law_decimal_by.nd
  have ww := way_nonneg ns (k + 1) (show (0 : Int) < 3968 by decide)
  have w9 := way_lt ns (k + 1) (show (0 : Int) < 3968 by decide)
  unfold decBy at hq
  generalize way ns (k + 1) 3968 = y at *
  generalize hc : cell ns k = c at *
  have h0 := dH0_rg c y
  have tp := dTop_rg y
  refine xs_set 3 ((xe_strI B.str (xe_mod (j := dTop y) (xe_call g__law_cell_at (hr.mono (by decide)) (xa_cons (xe_varR 0 rfl) (xa_cons (xe_var 1 rfl) xa_nil)) ⟨ns, k, rfl, by rw [← hc]⟩) (xe_ixL (xn_lst (xa_cons xe_int (xa_cons xe_int (xa_cons (xe_pow xe_int xe_int ⟨by decide, by decide, by decide⟩) (xa_cons xe_int xa_nil))))).xe (xe_mod (xe_var 2 rfl) xe_int (by decide)) ?x3) tp.1) (num_small h0.1 (up60 h0.2 (by decide))).1).is (y := .str (hdS (dH0 c y))) (by rw [show c % dTop y = dH0 c y from rfl, strI h0.1]; rfl)) ?_ sc__law_decimal_by.nd
  case x3 =>
    unfold dTop
    rcases (show y % 4 = 0 ∨ y % 4 = 1 ∨ y % 4 = 2 ∨ y % 4 = 3 by omega) with e | e | e | e <;> rw [e] <;> rfl
  refine xs_set 4 (xe_mod (xe_div (xe_var 2 rfl) xe_int ⟨by decide, by decide⟩) xe_int (by decide)) ?_ sc__law_decimal_by.nd
  refine xs_join [.R (ns.map .int), .d (.int (k : Int)), .d (.int y), .d (.str (hdS (dH0 c y))), .d (.int (dM0 y))] (x1_if (xe_eqI (xe_mod (xe_div (xe_var 2 rfl) xe_int ⟨by decide, by decide⟩) xe_int (by decide)) xe_int).asT (fun h => ?_) (fun h => ?_)) ?_
  · refine xs_set 4 (xe_div (xe_var 2 rfl) xe_int ⟨by decide, by decide⟩) ?_ sc__law_decimal_by.nd
    refine xs_to ?_
    unfold dM0
    rw [if_pos (of_decide_eq_true h)]
    rfl
  · refine xs_to ?_
    unfold dM0
    rw [if_neg (of_decide_eq_false h)]
    rfl
  have t10 : (10 : Int) < 10 ^ 60 := by decide
  refine xs_join [.R (ns.map .int), .d (.int (k : Int)), .d (.int y), .d (.str (hdS (dH1 c y))), .d (.int (dM1 y))] (x1_if (k := dC2 y) ((xw_and (xe_eqI (xe_mod (xe_div (xe_var 2 rfl) xe_int ⟨by decide, by decide⟩) xe_int (by decide)) xe_int).asT fun _ => xw_and1 (xe_gt (xe_div (xe_var 2 rfl) xe_int ⟨by decide, by decide⟩) xe_int).asT).xt.is rfl) (fun h => ?_) (fun h => ?_)) ?_
  · have m0 := Int.emod_nonneg c (show (10 : Int) ≠ 0 by decide)
    have m1 := Int.emod_lt_of_pos c (show (0 : Int) < 10 by decide)
    refine xs_set 3 ((xe_strI B.str (xe_mod (xe_call g__law_cell_at (hr.mono (by decide)) (xa_cons (xe_varR 0 rfl) (xa_cons (xe_var 1 rfl) xa_nil)) ⟨ns, k, rfl, by rw [← hc]⟩) xe_int (by decide)) (num_small m0 (by omega)).1).is (y := .str (hdS (dH1 c y))) (by unfold dH1; rw [if_pos h, strI m0]; rfl)) ?_ sc__law_decimal_by.nd
    refine xs_set 4 ((xe_add xe_int (xe_div (xe_var 2 rfl) xe_int ⟨by decide, by decide⟩)).is (y := .int (dM1 y)) (by unfold dM1; rw [if_pos h])) ?_ sc__law_decimal_by.nd
    exact xs_to rfl
  · refine xs_to ?_
    unfold dM1 dH1
    rw [if_neg (by rw [h]; decide), if_neg (by rw [h]; decide)]
  have t57 : (0 : Int) < 10 ^ 57 := by decide
  refine xs_join [.R (ns.map .int), .d (.int (k : Int)), .d (.int y), .d (.str (hdS (dH2 c y))), .d (.int (dM2 y))] (x1_if (k := dC3 y) ((xw_and (xe_eqI (xe_mod (xe_div (xe_var 2 rfl) xe_int ⟨by decide, by decide⟩) xe_int (by decide)) xe_int).asT fun _ => xw_and1 (xe_gt (xe_div (xe_var 2 rfl) xe_int ⟨by decide, by decide⟩) xe_int).asT).xt.is rfl) (fun h => ?_) (fun h => ?_)) ?_
  · have m0 := Int.emod_nonneg c (show (10 : Int) ^ 57 ≠ 0 by omega)
    have m1 := Int.emod_lt_of_pos c t57
    refine xs_set 3 ((xe_strI B.str (xe_mod (xe_call g__law_cell_at (hr.mono (by decide)) (xa_cons (xe_varR 0 rfl) (xa_cons (xe_var 1 rfl) xa_nil)) ⟨ns, k, rfl, by rw [← hc]⟩) (xe_pow xe_int xe_int ⟨by decide, by decide, by decide⟩) t57) (num_small m0 (up60 m1 (by decide))).1).is (y := .str (hdS (dH2 c y))) (by unfold dH2; rw [if_pos h]; exact congrArg PyData.str (strI m0))) ?_ sc__law_decimal_by.nd
    refine xs_set 4 ((xe_mod (xe_div (xe_var 2 rfl) xe_int ⟨by decide, by decide⟩) xe_int (by decide)).is (y := .int (dM2 y)) (by unfold dM2; rw [if_pos h])) ?_ sc__law_decimal_by.nd
    exact xs_to rfl
  · refine xs_to ?_
    unfold dM2 dH2
    rw [if_neg (by rw [h]; decide), if_neg (by rw [h]; decide)]
  have hm := dM2_rg ww w9
  have hh := dH2_rg c y
  generalize dM2 y = m at *
  generalize dH2 c y = hd at *
  refine xs_if (xe_eqI (xe_var 4 rfl) xe_int).asT (fun h => ?_) (fun h => ?_)
  · refine xs_ret (xe_var 3 rfl) hq ?_
    rw [if_pos (of_decide_eq_true h)]
  refine xs_end ?_
  have hne := of_decide_eq_false h
  have hT := dT_rg (cell ns (k + 2))
  have lT := dT_len (cell ns (k + 2))
  have t58 : (0 : Int) < 10 ^ 58 := by decide
  have T0 : 0 ≤ dT (cell ns (k + 2)) := by omega
  have lh := hdS_len hh.1 hh.2
  have e59 : (59 : Int) - m = ((59 - m.toNat : Nat) : Int) := by omega
  have ts : (SX.S (TL.numL (dT (cell ns (k + 2))).toNat)).length ≤ sizeLine := Evl.sz_of (by rw [SX.S_len]; omega)
  refine xs_ret (xe_cat (s := SX.S (TL.numL hd.toNat ++ [46])) (t := SX.S ((TL.numL (dT (cell ns (k + 2))).toNat).drop (59 - m.toNat))) ((xe_cat (s := hdS hd) (t := ".") (xe_var 3 rfl) xe_str (Evl.sz_of (by rw [pt_S, SX.S_len [46], List.length_singleton]; omega))).is (by rw [pt_S]; unfold hdS; rw [SX.S_cat])) ((xe_slS (s := SX.S (TL.numL (dT (cell ns (k + 2))).toNat)) ((xe_strI B.str (xe_add (xe_pow xe_int xe_int ⟨by decide, by decide, by decide⟩) (xe_mod (xe_call g__law_cell_at (hr.mono (by decide)) (xa_cons (xe_varR 0 rfl) (xa_cons (xe_add (xe_var 1 rfl) xe_int) xa_nil)) ⟨ns, k + 2, by simp, rfl⟩) (xe_pow xe_int xe_int ⟨by decide, by decide, by decide⟩) t58)) (num_small T0 (up60 hT.2 (by decide))).1).is (congrArg PyData.str (strI T0))) (xo_some ((xe_sub xe_int (xe_var 4 rfl)).is (by rw [e59]))) xo_none ts).is (by rw [cut_from])) (Evl.sz_of ?z9)) hq ?_
  case z9 =>
    unfold hdS at lh
    rw [SX.S_len] at lh
    rw [SX.S_len, SX.S_len, List.length_append, List.length_singleton, List.length_drop]
    omega
  rw [if_neg hne, SX.S_cat, List.append_assoc]
  rfl
def φ__law_around : List PyData → Out → Prop := fun ds o => ∃ a b c d p q : Int, ds = [.tuple [.int p, .int q], .tuple [.int a, .int b], .tuple [.int c, .int d]] ∧ Smp a b c d p q ∧ 1 ≤ p ∧ 1 ≤ b ∧ 1 ≤ d ∧ 0 ≤ a ∧ a * d ≤ c * b ∧ Bd 1000 a ∧ Bd 1000 b ∧ Bd 1000 c ∧ Bd 1000 d ∧ o = .d (.bool true)
theorem sc__law_around : FnScope ["_law_found", "_law_low", "_law_high", "_law_left", "_law_right"] ["_law_found", "_law_low", "_law_high"] (defScope s__law_around) := ⟨rfl, rfl, rfl, by decide +kernel, rfl, by decide +kernel, by decide +kernel⟩
theorem ok__law_around (B : Bi mg) {C_NoPath : Addr} (T : DefAt K mg "_law_around" s__law_around ["_law_found", "_law_low", "_law_high"]) (g_sides : FnAt P w K mg base "sides" 2 ["frac"] (φ_sides C_NoPath)) : FnAt P w K mg base "_law_around" 3 ["_law_found", "_law_low", "_law_high"] φ__law_around := by
  refine fn_at T sc__law_around fun f cdv A outer s H Q E ds o hr hφ hq => ?_
  obtain ⟨a, b, c, d, p, q, rfl, hS, hp, b1, d1, a0, le, ba, bb, bc, bd, rfl⟩ := hφ
  have sl := smp_le hS b1 le
  have fr := hS.f
  have q1 := fr.l1
  have bp : Bd 1000 p := ba.of_le (by omega) sl.2
  have bq : Bd 1000 q := bb.of_le (by omega) sl.1
  have pl := path_leads hp fr
  have pe := path_le hp fr
  have pd : (endsOf (pathOf p q)).c * (endsOf (pathOf p q)).b - (endsOf (pathOf p q)).a * (endsOf (pathOf p q)).d = 1 := ends_det (pathOf p q)
  have nn := pe.1
  refine xs_un2 3 4 (x := .tuple [.int (endsOf (pathOf p q)).a, .int (endsOf (pathOf p q)).b]) (y := .tuple [.int (endsOf (pathOf p q)).c, .int (endsOf (pathOf p q)).d]) (xe_call g_sides (hr.mono (by decide)) (xa_cons (xe_var 0 rfl) xa_nil) ⟨p, q, rfl, .inr ⟨hp, fr, bp.mono (by decide), bq.mono (by decide), rfl⟩⟩) ?_ sc__law_around.nd rfl
  have na := nn.a
  have nb := nn.b
  have nc := nn.c
  have nd := nn.d
  have k1 : Bd 1000 (endsOf (pathOf p q)).a := bp.of_le na pe.2.1
  have k2 : Bd 1000 (endsOf (pathOf p q)).b := bq.of_le nb pe.2.2.2.1
  have k3 : Bd 1000 (endsOf (pathOf p q)).c := bp.of_le nc pe.2.2.1
  have k4 : Bd 1000 (endsOf (pathOf p q)).d := bq.of_le nd pe.2.2.2.2
  clear pe nn
  generalize (endsOf (pathOf p q)).a = la at *
  generalize (endsOf (pathOf p q)).b = lb at *
  generalize (endsOf (pathOf p q)).c = ra at *
  generalize (endsOf (pathOf p q)).d = rb at *
  have L := smp_left hS d1 pl.1 pl.2 pd na nb nc nd
  have R := smp_right hS b1 d1 pl.1 pl.2 pd L.1 na nc nd
  refine xs_skip (xw_or (xe_neI (xe_sub (xe_mul (xe_ixT (ds := [.int ra, .int rb]) (xe_var 4 rfl) xe_int rfl) (xe_ixT (ds := [.int la, .int lb]) (xe_var 3 rfl) xe_int rfl) (mulx k3 k2 (by decide))) (xe_mul (xe_ixT (ds := [.int la, .int lb]) (xe_var 3 rfl) xe_int rfl) (xe_ixT (ds := [.int ra, .int rb]) (xe_var 4 rfl) xe_int rfl) (mulx k1 k4 (by decide)))) xe_int).asT fun _ => xw_or (xe_lt (xe_ixT (ds := [.int la, .int lb]) (xe_var 3 rfl) xe_int rfl) xe_int).asT fun _ => xw_or1 (xe_lt (xe_ixT (ds := [.int ra, .int rb]) (xe_var 4 rfl) xe_int rfl) xe_int).asT).xt (by
    rw [decide_eq_true pd, decide_eq_false (show ¬ lb < 1 by omega), decide_eq_false (show ¬ rb < 0 by omega)]
    rfl) ?_
  refine xs_skip (xw_or (xe_neI (xe_add (xe_ixT (ds := [.int la, .int lb]) (xe_var 3 rfl) xe_int rfl) (xe_ixT (ds := [.int ra, .int rb]) (xe_var 4 rfl) xe_int rfl)) (xe_ixT (ds := [.int p, .int q]) (xe_var 0 rfl) xe_int rfl)).asT fun _ => xw_or1 (xe_neI (xe_add (xe_ixT (ds := [.int la, .int lb]) (xe_var 3 rfl) xe_int rfl) (xe_ixT (ds := [.int ra, .int rb]) (xe_var 4 rfl) xe_int rfl)) (xe_ixT (ds := [.int p, .int q]) (xe_var 0 rfl) xe_int rfl)).asT).xt (by
    rw [decide_eq_true pl.1, decide_eq_true pl.2]
    rfl) ?_
  refine xs_ret (xe_and (xe_lt (xe_mul (xe_ixT (ds := [.int la, .int lb]) (xe_var 3 rfl) xe_int rfl) (xe_ixT (ds := [.int a, .int b]) (xe_var 1 rfl) xe_int rfl) (mulx k1 bb (by decide))) (xe_mul (xe_ixT (ds := [.int a, .int b]) (xe_var 1 rfl) xe_int rfl) (xe_ixT (ds := [.int la, .int lb]) (xe_var 3 rfl) xe_int rfl) (mulx ba k2 (by decide)))).asE fun _ => xe_one (xe_gt (xe_mul (xe_ixT (ds := [.int ra, .int rb]) (xe_var 4 rfl) xe_int rfl) (xe_ixT (ds := [.int c, .int d]) (xe_var 2 rfl) xe_int rfl) (mulx k3 bd (by decide))) (xe_mul (xe_ixT (ds := [.int c, .int d]) (xe_var 2 rfl) xe_int rfl) (xe_ixT (ds := [.int ra, .int rb]) (xe_var 4 rfl) xe_int rfl) (mulx bc k4 (by decide)))).asE) hq ?_
  rw [decide_eq_true L.2, decide_eq_true R]
  rfl
-- LEVEL 6
def φ_law : List PyData → Out → Prop := fun ds o => ∃ ns : List Int, ds = [.list (ns.map .int)] ∧ ns.length ≤ 63 ∧ o = .d (.bool true)
structure Lh (a b : Int) (i : Int × Int) : Prop where
  f : Fr i.1 i.2
  le : a * i.2 ≤ i.1 * b
  bc : Bd 430 i.1
  bd : Bd 430 i.2
structure Six where
  a : Int
  b : Int
  c : Int
  d : Int
  p : Int
  q : Int
structure SixOk (i : Six) : Prop where
  f1 : Fr i.a i.b
  f2 : Fr i.c i.d
  le : i.a * i.d ≤ i.c * i.b
  ba : Bd 1000 i.a
  bb : Bd 1000 i.b
  bc : Bd 1000 i.c
  bd : Bd 1000 i.d
  s : Smp i.a i.b i.c i.d i.p i.q
theorem sc_law : FnScope ["_law_script", "_law_way_here", "_law_line", "_law_due", "_law_low", "_law_high", "_law_found", "_law_gap"] ["_law_script"] (defScope s_law) := ⟨rfl, rfl, rfl, by decide +kernel, rfl, by decide +kernel, by decide +kernel⟩
theorem ok_law (B : Bi mg) {C_NoBounds C_NoNumber : Addr} {fL : Addr} {fdL : FuncData} (F : Fun K "law" "law" s_law fL fdL) (g__law_way : FnAt P w K mg base "_law_way" 2 ["_law_script", "_law_k", "_law_many"] φ__law_way) (g__law_drawn : FnAt P w K mg base "_law_drawn" 3 ["_law_script", "_law_first", "_law_way_here"] φ__law_drawn)
    (g__law_decimal_by : FnAt P w K mg base "_law_decimal_by" 3 ["_law_script", "_law_first"] φ__law_decimal_by) (g__law_bounds_of : FnAt P w K mg base "_law_bounds_of" 2 ["_law_line"] φ__law_bounds_of) (g_guess : FnAt P w K mg base "guess" 4 ["line"] (φ_guess C_NoNumber)) (g_simplest : FnAt P w K mg base "simplest" 3 ["low", "high"] (φ_simplest C_NoBounds)) (g__law_frac : FnAt P w K mg base "_law_frac" 2 ["_law_upper", "_law_lower"] φ__law_frac) (g__law_is_frac : FnAt P w K mg base "_law_is_frac" 2 ["_law_found"] φ__law_is_frac)
    (g__law_around : FnAt P w K mg base "_law_around" 3 ["_law_found", "_law_low", "_law_high"] φ__law_around) :
    FnOk P w K mg base (L2.CX P w) 6 fL fdL ["_law_script"] (spF K 1 φ_law) := by
  refine fn_ok F sc_law fun f cdv A outer s H Q E ds o hr hφ hq => ?_
  obtain ⟨ns, rfl, hlen, rfl⟩ := hφ
  refine xs_set 1 (xe_call g__law_way (hr.mono (by decide)) (xa_cons (xe_varR 0 rfl) (xa_cons xe_int (xa_cons xe_int xa_nil))) ⟨ns, 0, 128, rfl, hlen, by decide, rfl⟩) ?_ sc_law.nd
  have hy0 := way_nonneg ns 0 (show (0 : Int) < 128 by decide)
  generalize way ns 0 128 = y at *
  refine xs_joinX (fun i : Six => [.R (ns.map .int), .d (.int y), .u, .u, .d (fD i.a i.b), .d (fD i.c i.d), .d (fD i.p i.q), .u]) SixOk (x1_if (xe_eqI (xe_mod (xe_div (xe_var 1 rfl) xe_int ⟨by decide, by decide⟩) xe_int (by decide)) xe_int).asT (fun h => ?_) (fun h => ?_)) (fun i wi => ?_)
  · -- a decimal's bounds
    refine xs_set 2 (xe_call g__law_decimal_by (hr.mono (by decide)) (xa_cons (xe_varR 0 rfl) (xa_cons xe_int xa_nil)) ⟨ns, 1, rfl, hlen, rfl⟩) ?_ sc_law.nd
    have zl := decBy_len ns 1
    obtain ⟨n, k, hdo⟩ := decBy_dec ns 1
    generalize decBy ns 1 = z at *
    have hz : z.length ≤ 200 := by omega
    have b1 := lo_bd hdo hz
    have b2 := dec_bd hdo hz
    have f1 := lo_fr n k
    have f2 := hi_fr n k
    have le := dec_le n k
    obtain ⟨p, q, hS⟩ := smp_ex f1.u0 f1.l1 f2.l1 le
    refine xs_setN 3 (xn_call g__law_bounds_of (hr.mono (by decide)) (xa_cons (xe_var 2 rfl) xa_nil) ⟨z, rfl, hz, .inr ⟨n, k, hdo, rfl⟩⟩) (fun q3 => ?_) sc_law.nd
    refine xs_set 4 (x := fD (lA n k) (lB n k)) (xe_call g__law_frac (hr.mono (by decide)) (xa_cons (xe_ixL (x := .int (loU n)) (xe_varL 3 rfl) xe_int rfl) (xa_cons (xe_ixL (x := .int (stL k)) (xe_varL 3 rfl) xe_int rfl) xa_nil)) ⟨loU n, stL k, rfl, (loU_rg n).1, stL_pos k, b2.2.2.1.mono (by decide), rfl⟩) ?_ sc_law.nd
    refine xs_set 5 (x := fD (hA n k) (hB n k)) (xe_call g__law_frac (hr.mono (by decide)) (xa_cons (xe_ixL (x := .int (hiU n)) (xe_varL 3 rfl) xe_int rfl) (xa_cons (xe_ixL (x := .int (stL k)) (xe_varL 3 rfl) xe_int rfl) xa_nil)) ⟨hiU n, stL k, rfl, hiU_pos n, stL_pos k, b2.2.2.1.mono (by decide), rfl⟩) ?_ sc_law.nd
    refine xs_set 6 (xe_call g_guess (hr.mono (by decide)) (xa_cons (xe_var 2 rfl) xa_nil) ⟨z, rfl, hz, .inr ⟨n, k, p, q, hdo, hS, rfl⟩⟩) ?_ sc_law.nd
    refine xs_forget 2 (xs_forget 3 ?_)
    exact xs_toX (W := SixOk) ⟨lA n k, lB n k, hA n k, hB n k, p, q⟩ ⟨f1, f2, le, b1.1.mono (by decide), b1.2.1.mono (by decide), b1.2.2.1.mono (by decide), b1.2.2.2.mono (by decide), hS⟩ rfl
  · -- drawn bounds
    refine xs_set 4 (xe_call g__law_drawn (hr.mono (by decide)) (xa_cons (xe_varR 0 rfl) (xa_cons xe_int (xa_cons (xe_var 1 rfl) xa_nil))) ⟨ns, 1, y, rfl, rfl⟩) ?_ sc_law.nd
    have fr := dr_fr ns 1 y
    have ba : Bd 200 (drA ns 1 y) := drA_bd ns 1 y
    have bb : Bd 201 (drB ns 1 y) := drB_bd ns 1 y
    generalize drA ns 1 y = a at *
    generalize drB ns 1 y = b at *
    have one : Bd 1 1 := by decide
    have a0 := fr.u0
    have b1 := fr.l1
    refine xs_set 5 (x := fD a b) (xe_var 4 rfl) ?_ sc_law.nd
    refine xs_joinX (fun i : Int × Int => [.R (ns.map .int), .d (.int y), .u, .u, .d (fD a b), .d (fD i.1 i.2), .u, .u]) (Lh a b) (x1_if (xe_neI (xe_div (xe_var 1 rfl) xe_int ⟨by decide, by decide⟩) xe_int).asT (fun h => ?_) (fun h => ?_)) (fun i wi => ?_)
    · refine xs_set 7 (xe_call g__law_drawn (hr.mono (by decide)) (xa_cons (xe_varR 0 rfl) (xa_cons xe_int (xa_cons (xe_call g__law_way (hr.mono (by decide)) (xa_cons (xe_varR 0 rfl) (xa_cons xe_int (xa_cons xe_int xa_nil))) ⟨ns, 5, 16, rfl, hlen, by decide, rfl⟩) xa_nil))) ⟨ns, 3, _, rfl, rfl⟩) ?_ sc_law.nd
      generalize way ns 5 16 = y2
      have gf := dr_fr ns 3 y2
      have g1 : Bd 200 (drA ns 3 y2) := drA_bd ns 3 y2
      have bq : Bd 201 (drB ns 3 y2) := drB_bd ns 3 y2
      generalize drA ns 3 y2 = p at *
      generalize drB ns 3 y2 = q' at *
      have q1 := gf.l1
      have p0 := gf.u0
      have n1 := Int.mul_nonneg a0 (show 0 ≤ q' by omega)
      have n2 := Int.mul_nonneg p0 (show 0 ≤ b by omega)
      have bU : Bd 410 (a * q' + p * b) := ((ba.mul bq).add (g1.mul bb)).mono (by decide)
      have bV : Bd 410 (b * q') := (bb.mul bq).mono (by decide)
      have U0 : 0 ≤ a * q' + p * b := by omega
      have V1 : 1 ≤ b * q' := mul_pos1 b1 q1
      refine xs_set 5 (xe_call g__law_frac (hr.mono (by decide)) (xa_cons (xe_add (xe_mul (xe_ixT (ds := [.int a, .int b]) (xe_var 4 rfl) xe_int rfl) (xe_ixT (ds := [.int p, .int q']) (xe_var 7 rfl) xe_int rfl) (mulx ba bq (by decide))) (xe_mul (xe_ixT (ds := [.int p, .int q']) (xe_var 7 rfl) xe_int rfl) (xe_ixT (ds := [.int a, .int b]) (xe_var 4 rfl) xe_int rfl) (mulx g1 bb (by decide)))) (xa_cons (xe_mul (xe_ixT (ds := [.int a, .int b]) (xe_var 4 rfl) xe_int rfl) (xe_ixT (ds := [.int p, .int q']) (xe_var 7 rfl) xe_int rfl) (mulx bb bq (by decide))) xa_nil)) ⟨_, _, rfl, U0, V1, bV.mono (by decide), rfl⟩) ?_ sc_law.nd
      refine xs_forget 7 ?_
      refine xs_toX (W := Lh a b) (gu (a * q' + p * b) (b * q'), gl (a * q' + p * b) (b * q')) (Lh.mk (fr_of U0 V1) (red_le1 V1 ?_) ((bU.gu U0 V1).mono (by decide)) ((bV.gl V1).mono (by decide))) rfl
      have e1 : a * (b * q') = a * q' * b := by grind
      have e2 : (a * q' + p * b) * b = a * q' * b + p * b * b := Int.add_mul _ _ _
      have := Int.mul_nonneg n2 (show 0 ≤ b by omega)
      omega
    · exact xs_toX (W := Lh a b) (a, b) (Lh.mk fr (Int.le_refl _) (ba.mono (by decide)) (bb.mono (by decide))) rfl
    refine xs_joinX (fun i : Int × Int => [.R (ns.map .int), .d (.int y), .u, .u, .d (fD a b), .d (fD i.1 i.2), .u, .u]) (Lh a b) (x1_if (xe_eqI (xe_div (xe_var 1 rfl) xe_int ⟨by decide, by decide⟩) xe_int).asT (fun h => ?_) (fun h => ?_)) (fun j wj => ?_)
    · have dv := div_bounds a b1
      have q0 := Int.ediv_nonneg a0 (show 0 ≤ b by omega)
      have bw : Bd 200 (a / b) := ba.of_le q0 (ediv_le a0)
      refine xs_set 5 (xe_tup (xa_cons (xe_add (xe_div (xe_ixT (ds := [.int a, .int b]) (xe_var 4 rfl) xe_int rfl) (xe_ixT (ds := [.int a, .int b]) (xe_var 4 rfl) xe_int rfl) (divw b1 bb (by decide))) xe_int) (xa_cons xe_int xa_nil))) ?_ sc_law.nd
      refine xs_toX (W := Lh a b) (a / b + 1, 1) (Lh.mk ⟨by show 0 ≤ a / b + 1; omega, Int.le_refl 1, by simp⟩ ?_ ((bw.add one).mono (by decide)) (one.mono (by decide))) rfl
      show a * 1 ≤ (a / b + 1) * b
      rw [Int.add_mul]
      omega
    · exact xs_toX (W := Lh a b) i wi rfl
    obtain ⟨c, d⟩ := j
    have jf : Fr c d := wj.f
    have jle : a * d ≤ c * b := wj.le
    have jc : Bd 430 c := wj.bc
    have jd : Bd 430 d := wj.bd
    obtain ⟨p, q, hS⟩ := smp_ex a0 b1 jf.l1 jle
    refine xs_set 6 (xe_call g_simplest (hr.mono (by decide)) (xa_cons (xe_var 4 rfl) (xa_cons (xe_var 5 rfl) xa_nil)) ⟨a, b, c, d, rfl, .inr ⟨p, q, a0, b1, jf.l1, ba.mono (by decide), bb.mono (by decide), jc.mono (by decide), jd.mono (by decide), jle, hS, rfl⟩⟩) ?_ sc_law.nd
    exact xs_toX (W := SixOk) ⟨a, b, c, d, p, q⟩ ⟨fr, jf, jle, ba.mono (by decide), bb.mono (by decide), jc.mono (by decide), jd.mono (by decide), hS⟩ rfl
  obtain ⟨a, b, c, d, p, q⟩ := i
  obtain ⟨f1, f2, le, ba, bb, bc, bd, hS⟩ := wi
  dsimp only at f1 f2 le ba bb bc bd hS ⊢
  have a0 := f1.u0
  have b1 := f1.l1
  have d1 := f2.l1
  have sl := smp_le hS b1 le
  have p0 := hS.f.u0
  have q1 := hS.f.l1
  have bp : Bd 1000 p := ba.of_le p0 sl.2
  have bq : Bd 1000 q := bb.of_le (by omega) sl.1
  have hlo := hS.lo
  have hhi := hS.hi
  refine xs_skip (xw_or (xt_not (xt_val (xe_call g__law_is_frac (hr.mono (by decide)) (xa_cons (xe_var 6 rfl) xa_nil) ⟨p, q, rfl, hS.f, rfl⟩))) fun _ => xw_or (xe_lt (xe_mul (xe_ixT (ds := [.int p, .int q]) (xe_var 6 rfl) xe_int rfl) (xe_ixT (ds := [.int a, .int b]) (xe_var 4 rfl) xe_int rfl) (mulx bp bb (by decide))) (xe_mul (xe_ixT (ds := [.int a, .int b]) (xe_var 4 rfl) xe_int rfl) (xe_ixT (ds := [.int p, .int q]) (xe_var 6 rfl) xe_int rfl) (mulx ba bq (by decide)))).asT fun _ => xw_or1 (xe_gt (xe_mul (xe_ixT (ds := [.int p, .int q]) (xe_var 6 rfl) xe_int rfl) (xe_ixT (ds := [.int c, .int d]) (xe_var 5 rfl) xe_int rfl) (mulx bp bd (by decide))) (xe_mul (xe_ixT (ds := [.int c, .int d]) (xe_var 5 rfl) xe_int rfl) (xe_ixT (ds := [.int p, .int q]) (xe_var 6 rfl) xe_int rfl) (mulx bc bq (by decide)))).asT).xt (by
    rw [decide_eq_false (show ¬ p * b < a * q by omega), decide_eq_false (show ¬ c * q < p * d by omega)]
    rfl) ?_
  refine xs_if (xe_eqI (xe_ixT (ds := [.int p, .int q]) (xe_var 6 rfl) xe_int rfl) xe_int).asT (fun h => ?_) (fun h => ?_)
  · have hp := of_decide_eq_true h
    have az : a = 0 := by
      rw [hp, Int.zero_mul] at hlo
      by_cases z : a = 0
      · exact z
      · have := Int.mul_pos (show 0 < a by omega) (show 0 < q by omega)
        omega
    refine xs_ret (xe_eqI (xe_ixT (ds := [.int a, .int b]) (xe_var 4 rfl) xe_int rfl) xe_int).asE hq ?_
    rw [decide_eq_true az]
  refine xs_end ?_
  have hp := of_decide_eq_false h
  exact xs_ret (xe_call g__law_around (hr.mono (by decide)) (xa_cons (xe_var 6 rfl) (xa_cons (xe_var 4 rfl) (xa_cons (xe_var 5 rfl) xa_nil))) ⟨a, b, c, d, p, q, rfl, hS, by omega, b1, d1, a0, le, ba, bb, bc, bd, rfl⟩) hq
end
theorem all_mk {w : World} {K : PySem.W.Frag} {h : Heap} {mg : Str → Option Value} {fa fL : Addr} (X : K.In h) (G : h.Ns mainGlobals mg) (hfa : mg "law" = some (.ref fa)) (B : Bi mg)
    (T_path_of : DefAt K mg "path_of" s_path_of ["frac"])
    (T_ends_of : DefAt K mg "ends_of" s_ends_of ["path"])
    (T_sides : DefAt K mg "sides" s_sides ["frac"])
    (T_is_whole : DefAt K mg "is_whole" s_is_whole ["thing"])
    (T_common : DefAt K mg "common" s_common ["one", "other"])
    (T_lowest : DefAt K mg "lowest" s_lowest ["upper", "lower"])
    (T_less : DefAt K mg "less" s_less ["one", "other"])
    (T_need_bounds : DefAt K mg "need_bounds" s_need_bounds ["low", "high"])
    (T_flipped : DefAt K mg "flipped" s_flipped ["frac", "whole"])
    (T_simplest : DefAt K mg "simplest" s_simplest ["low", "high"])
    (T_are_figures : DefAt K mg "are_figures" s_are_figures ["word"])
    (T_told : DefAt K mg "told" s_told ["line"])
    (T_guess : DefAt K mg "guess" s_guess ["line"])
    (T__law_cell_at : DefAt K mg "_law_cell_at" s__law_cell_at ["_law_script", "_law_k"])
    (T__law_way : DefAt K mg "_law_way" s__law_way ["_law_script", "_law_k", "_law_many"])
    (T__law_whole : DefAt K mg "_law_whole" s__law_whole ["_law_found"])
    (T__law_shared : DefAt K mg "_law_shared" s__law_shared ["_law_one", "_law_other"])
    (T__law_frac : DefAt K mg "_law_frac" s__law_frac ["_law_upper", "_law_lower"])
    (T__law_is_frac : DefAt K mg "_law_is_frac" s__law_is_frac ["_law_found"])
    (T__law_number : DefAt K mg "_law_number" s__law_number ["_law_cell", "_law_way_here"])
    (T__law_drawn : DefAt K mg "_law_drawn" s__law_drawn ["_law_script", "_law_first", "_law_way_here"])
    (T__law_figures : DefAt K mg "_law_figures" s__law_figures ["_law_word"])
    (T__law_bounds_of : DefAt K mg "_law_bounds_of" s__law_bounds_of ["_law_line"])
    (T__law_decimal_by : DefAt K mg "_law_decimal_by" s__law_decimal_by ["_law_script", "_law_first"])
    (T__law_around : DefAt K mg "_law_around" s__law_around ["_law_found", "_law_low", "_law_high"])
    {C_NoPath C_NoBounds C_NoNumber : Addr} (e_NoBounds : ExcAt K mg "NoBounds" C_NoBounds) (e_NoNumber : ExcAt K mg "NoNumber" C_NoNumber) (e_NoPath : ExcAt K mg "NoPath" C_NoPath) (x_fig : mg "FIGURES" = some (.str "0123456789" tkF))
    {oc : Value} {od an : Option Addr} {osl : Array (Option Value)} {kV doc pm cdv ct : Value} (a : PySem.W.nsIn K mainGlobals "law" = some (some (.ref fL))) (l : K.lookup fL = some ⟨oc, od, .func (PySem.W.fnOf "law" "law" (defArgs s_law) (defBody s_law) (defScope s_law) .none kV doc pm an cdv ct), osl⟩) (c : PySem.W.codeIn K cdv "law" = true) (k : PySem.W.keepIn K (.ref fL) = true) :
    ∃ fd : FuncData, (∀ (s : Shared) (v : Value), BindsTo s fd ⟨[v], []⟩ [("_law_script", v)]) ∧ ∀ base : Heap, K.In base → base.Ns mainGlobals mg → FnOk PySem.Challenge.pw_nearfrac_k10_whole_sides_outside w K mg base (L2.CX PySem.Challenge.pw_nearfrac_k10_whole_sides_outside w) 6 fa fd ["_law_script"] (spF K 1 φ_law) := by
  have e := hfa.symm.trans (PySem.W.mg_of X G a)
  cases e
  refine ⟨PySem.W.fnOf "law" "law" (defArgs s_law) (defBody s_law) (defScope s_law) .none kV doc pm an cdv ct, fun s v => .of_eq rfl, fun base _ _ => ?_⟩
  have g_path_of := ok_path_of (P := PySem.Challenge.pw_nearfrac_k10_whole_sides_outside) (w := w) (base := base) B T_path_of e_NoPath
  have g_ends_of := ok_ends_of (P := PySem.Challenge.pw_nearfrac_k10_whole_sides_outside) (w := w) (base := base) B T_ends_of 
  have g_sides := ok_sides (P := PySem.Challenge.pw_nearfrac_k10_whole_sides_outside) (w := w) (base := base) B T_sides g_path_of g_ends_of
  have g_is_whole := ok_is_whole (P := PySem.Challenge.pw_nearfrac_k10_whole_sides_outside) (w := w) (base := base) B T_is_whole 
  have g_common := ok_common (P := PySem.Challenge.pw_nearfrac_k10_whole_sides_outside) (w := w) (base := base) B T_common 
  have g_lowest := ok_lowest (P := PySem.Challenge.pw_nearfrac_k10_whole_sides_outside) (w := w) (base := base) B T_lowest g_is_whole g_common
  have g_less := ok_less (P := PySem.Challenge.pw_nearfrac_k10_whole_sides_outside) (w := w) (base := base) B T_less 
  have g_need_bounds := ok_need_bounds (P := PySem.Challenge.pw_nearfrac_k10_whole_sides_outside) (w := w) (base := base) B T_need_bounds g_less e_NoBounds
  have g_flipped := ok_flipped (P := PySem.Challenge.pw_nearfrac_k10_whole_sides_outside) (w := w) (base := base) B T_flipped 
  have g_simplest := ok_simplest (P := PySem.Challenge.pw_nearfrac_k10_whole_sides_outside) (w := w) (base := base) B T_simplest g_need_bounds g_flipped
  have g_are_figures := ok_are_figures (P := PySem.Challenge.pw_nearfrac_k10_whole_sides_outside) (w := w) (base := base) B T_are_figures x_fig
  have g_told := ok_told (P := PySem.Challenge.pw_nearfrac_k10_whole_sides_outside) (w := w) (base := base) B T_told g_are_figures g_lowest e_NoNumber
  have g_guess := ok_guess (P := PySem.Challenge.pw_nearfrac_k10_whole_sides_outside) (w := w) (base := base) B T_guess g_told g_simplest
  have g__law_cell_at := ok__law_cell_at (P := PySem.Challenge.pw_nearfrac_k10_whole_sides_outside) (w := w) (base := base) B T__law_cell_at 
  have g__law_way := ok__law_way (P := PySem.Challenge.pw_nearfrac_k10_whole_sides_outside) (w := w) (base := base) B T__law_way g__law_cell_at
  have g__law_whole := ok__law_whole (P := PySem.Challenge.pw_nearfrac_k10_whole_sides_outside) (w := w) (base := base) B T__law_whole 
  have g__law_shared := ok__law_shared (P := PySem.Challenge.pw_nearfrac_k10_whole_sides_outside) (w := w) (base := base) B T__law_shared 
  have g__law_frac := ok__law_frac (P := PySem.Challenge.pw_nearfrac_k10_whole_sides_outside) (w := w) (base := base) B T__law_frac g__law_shared
  have g__law_is_frac := ok__law_is_frac (P := PySem.Challenge.pw_nearfrac_k10_whole_sides_outside) (w := w) (base := base) B T__law_is_frac g__law_whole g__law_shared
  have g__law_number := ok__law_number (P := PySem.Challenge.pw_nearfrac_k10_whole_sides_outside) (w := w) (base := base) B T__law_number 
  have g__law_drawn := ok__law_drawn (P := PySem.Challenge.pw_nearfrac_k10_whole_sides_outside) (w := w) (base := base) B T__law_drawn g__law_cell_at g__law_number g__law_frac
  have g__law_figures := ok__law_figures (P := PySem.Challenge.pw_nearfrac_k10_whole_sides_outside) (w := w) (base := base) B T__law_figures 
  have g__law_bounds_of := ok__law_bounds_of (P := PySem.Challenge.pw_nearfrac_k10_whole_sides_outside) (w := w) (base := base) B T__law_bounds_of g__law_figures
  have g__law_decimal_by := ok__law_decimal_by (P := PySem.Challenge.pw_nearfrac_k10_whole_sides_outside) (w := w) (base := base) B T__law_decimal_by g__law_way g__law_cell_at
  have g__law_around := ok__law_around (P := PySem.Challenge.pw_nearfrac_k10_whole_sides_outside) (w := w) (base := base) B T__law_around g_sides
  exact ok_law (P := PySem.Challenge.pw_nearfrac_k10_whole_sides_outside) (w := w) (base := base) B (fun_mk (st := s_law) l c k) g__law_way g__law_drawn g__law_decimal_by g__law_bounds_of g_guess g_simplest g__law_frac g__law_is_frac g__law_around
end NF.Law
open PySem PySem.W PyProof.Rows
set_option maxHeartbeats 0 in
theorem PySem.Challenge.cw_nearfrac_k10_whole_sides_outside_holds : PySem.Challenge.rw_nearfrac_k10_whole_sides_outside.Holds := by
  w_on; o_law; k_head; (case hw => w_witness2)
  k_fill
  refine L2.walk_of (l := PySem.Challenge.rw_nearfrac_k10_whole_sides_outside) (n := 63) (k := 6) (x := "_law_script") (CX := fun w => L2.CX PySem.Challenge.pw_nearfrac_k10_whole_sides_outside w) (sp := fun w => NF.spF _ 1 NF.Law.φ_law) rfl (by decide) rfl ⟨rfl, by decide, by decide⟩ (fun w h Y => PySem.W.kIn_of Y) ?F (fun _ _ a ns hl _ hS => ⟨rfl, [.list (ns.map .int)], .d (.bool true), .cons (.lst hS (NF.ints_is ns)) .nil, ⟨ns, rfl, hl, rfl⟩, fun v H' e i => i.blV⟩) (fun _ _ _ _ _ h => NF.noExc h)
  case F =>
    intro w mg fa h KX G hmg
    refine' NF.Law.all_mk KX G hmg ⟨PySem.W.mg_none_of KX G ?z_len, PySem.W.mg_none_of KX G ?z_isinstance, PySem.W.mg_none_of KX G ?z_int, PySem.W.mg_none_of KX G ?z_bool, PySem.W.mg_none_of KX G ?z_tuple, PySem.W.mg_none_of KX G ?z_str, PySem.W.mg_none_of KX G ?z_list, PySem.W.mg_none_of KX G ?z_abs, PySem.W.mg_none_of KX G ?z_max, PySem.W.mg_none_of KX G ?z_min, PySem.W.mg_none_of KX G ?z_range, PySem.W.mg_none_of KX G ?z_reversed, PySem.W.mg_none_of KX G ?z_ValueError⟩ (NF.def_at KX G ?a_path_of ?l_path_of ?c_path_of ?k_path_of (fun _ _ _ _ _ _ us hl => match us, hl with | [_], _ => rfl)) (NF.def_at KX G ?a_ends_of ?l_ends_of ?c_ends_of ?k_ends_of (fun _ _ _ _ _ _ us hl => match us, hl with | [_], _ => rfl)) (NF.def_at KX G ?a_sides ?l_sides ?c_sides ?k_sides (fun _ _ _ _ _ _ us hl => match us, hl with | [_], _ => rfl)) (NF.def_at KX G ?a_is_whole ?l_is_whole ?c_is_whole ?k_is_whole (fun _ _ _ _ _ _ us hl => match us, hl with | [_], _ => rfl)) (NF.def_at KX G ?a_common ?l_common ?c_common ?k_common (fun _ _ _ _ _ _ us hl => match us, hl with | [_, _], _ => rfl)) (NF.def_at KX G ?a_lowest ?l_lowest ?c_lowest ?k_lowest (fun _ _ _ _ _ _ us hl => match us, hl with | [_, _], _ => rfl)) (NF.def_at KX G ?a_less ?l_less ?c_less ?k_less (fun _ _ _ _ _ _ us hl => match us, hl with | [_, _], _ => rfl)) (NF.def_at KX G ?a_need_bounds ?l_need_bounds ?c_need_bounds ?k_need_bounds (fun _ _ _ _ _ _ us hl => match us, hl with | [_, _], _ => rfl)) (NF.def_at KX G ?a_flipped ?l_flipped ?c_flipped ?k_flipped (fun _ _ _ _ _ _ us hl => match us, hl with | [_, _], _ => rfl)) (NF.def_at KX G ?a_simplest ?l_simplest ?c_simplest ?k_simplest (fun _ _ _ _ _ _ us hl => match us, hl with | [_, _], _ => rfl)) (NF.def_at KX G ?a_are_figures ?l_are_figures ?c_are_figures ?k_are_figures (fun _ _ _ _ _ _ us hl => match us, hl with | [_], _ => rfl)) (NF.def_at KX G ?a_told ?l_told ?c_told ?k_told (fun _ _ _ _ _ _ us hl => match us, hl with | [_], _ => rfl)) (NF.def_at KX G ?a_guess ?l_guess ?c_guess ?k_guess (fun _ _ _ _ _ _ us hl => match us, hl with | [_], _ => rfl)) (NF.def_at KX G ?a__law_cell_at ?l__law_cell_at ?c__law_cell_at ?k__law_cell_at (fun _ _ _ _ _ _ us hl => match us, hl with | [_, _], _ => rfl)) (NF.def_at KX G ?a__law_way ?l__law_way ?c__law_way ?k__law_way (fun _ _ _ _ _ _ us hl => match us, hl with | [_, _, _], _ => rfl)) (NF.def_at KX G ?a__law_whole ?l__law_whole ?c__law_whole ?k__law_whole (fun _ _ _ _ _ _ us hl => match us, hl with | [_], _ => rfl)) (NF.def_at KX G ?a__law_shared ?l__law_shared ?c__law_shared ?k__law_shared (fun _ _ _ _ _ _ us hl => match us, hl with | [_, _], _ => rfl)) (NF.def_at KX G ?a__law_frac ?l__law_frac ?c__law_frac ?k__law_frac (fun _ _ _ _ _ _ us hl => match us, hl with | [_, _], _ => rfl)) (NF.def_at KX G ?a__law_is_frac ?l__law_is_frac ?c__law_is_frac ?k__law_is_frac (fun _ _ _ _ _ _ us hl => match us, hl with | [_], _ => rfl)) (NF.def_at KX G ?a__law_number ?l__law_number ?c__law_number ?k__law_number (fun _ _ _ _ _ _ us hl => match us, hl with | [_, _], _ => rfl)) (NF.def_at KX G ?a__law_drawn ?l__law_drawn ?c__law_drawn ?k__law_drawn (fun _ _ _ _ _ _ us hl => match us, hl with | [_, _, _], _ => rfl)) (NF.def_at KX G ?a__law_figures ?l__law_figures ?c__law_figures ?k__law_figures (fun _ _ _ _ _ _ us hl => match us, hl with | [_], _ => rfl)) (NF.def_at KX G ?a__law_bounds_of ?l__law_bounds_of ?c__law_bounds_of ?k__law_bounds_of (fun _ _ _ _ _ _ us hl => match us, hl with | [_], _ => rfl)) (NF.def_at KX G ?a__law_decimal_by ?l__law_decimal_by ?c__law_decimal_by ?k__law_decimal_by (fun _ _ _ _ _ _ us hl => match us, hl with | [_, _], _ => rfl)) (NF.def_at KX G ?a__law_around ?l__law_around ?c__law_around ?k__law_around (fun _ _ _ _ _ _ us hl => match us, hl with | [_, _, _], _ => rfl)) (NF.exc_at KX G ?ea_NoBounds ?eq_NoBounds ?ek_NoBounds ?es_NoBounds ?et_NoBounds) (NF.exc_at KX G ?ea_NoNumber ?eq_NoNumber ?ek_NoNumber ?es_NoNumber ?et_NoNumber) (NF.exc_at KX G ?ea_NoPath ?eq_NoPath ?ek_NoPath ?es_NoPath ?et_NoPath) (PySem.W.mg_of KX G ?x_fig) ?aL ?lL ?cL ?kL
    (case z_len => k_is)
    (case z_isinstance => k_is)
    (case z_int => k_is)
    (case z_bool => k_is)
    (case z_tuple => k_is)
    (case z_str => k_is)
    (case z_list => k_is)
    (case z_abs => k_is)
    (case z_max => k_is)
    (case z_min => k_is)
    (case z_range => k_is)
    (case z_reversed => k_is)
    (case z_ValueError => k_is)
    (case a_path_of => k_is)
    (case l_path_of => k_is)
    (case c_path_of => k_is)
    (case k_path_of => k_is)
    (case a_ends_of => k_is)
    (case l_ends_of => k_is)
    (case c_ends_of => k_is)
    (case k_ends_of => k_is)
    (case a_sides => k_is)
    (case l_sides => k_is)
    (case c_sides => k_is)
    (case k_sides => k_is)
    (case a_is_whole => k_is)
    (case l_is_whole => k_is)
    (case c_is_whole => k_is)
    (case k_is_whole => k_is)
    (case a_common => k_is)
    (case l_common => k_is)
    (case c_common => k_is)
    (case k_common => k_is)
    (case a_lowest => k_is)
    (case l_lowest => k_is)
    (case c_lowest => k_is)
    (case k_lowest => k_is)
    (case a_less => k_is)
    (case l_less => k_is)
    (case c_less => k_is)
    (case k_less => k_is)
    (case a_need_bounds => k_is)
    (case l_need_bounds => k_is)
    (case c_need_bounds => k_is)
    (case k_need_bounds => k_is)
    (case a_flipped => k_is)
    (case l_flipped => k_is)
    (case c_flipped => k_is)
    (case k_flipped => k_is)
    (case a_simplest => k_is)
    (case l_simplest => k_is)
    (case c_simplest => k_is)
    (case k_simplest => k_is)
    (case a_are_figures => k_is)
    (case l_are_figures => k_is)
    (case c_are_figures => k_is)
    (case k_are_figures => k_is)
    (case a_told => k_is)
    (case l_told => k_is)
    (case c_told => k_is)
    (case k_told => k_is)
    (case a_guess => k_is)
    (case l_guess => k_is)
    (case c_guess => k_is)
    (case k_guess => k_is)
    (case a__law_cell_at => k_is)
    (case l__law_cell_at => k_is)
    (case c__law_cell_at => k_is)
    (case k__law_cell_at => k_is)
    (case a__law_way => k_is)
    (case l__law_way => k_is)
    (case c__law_way => k_is)
    (case k__law_way => k_is)
    (case a__law_whole => k_is)
    (case l__law_whole => k_is)
    (case c__law_whole => k_is)
    (case k__law_whole => k_is)
    (case a__law_shared => k_is)
    (case l__law_shared => k_is)
    (case c__law_shared => k_is)
    (case k__law_shared => k_is)
    (case a__law_frac => k_is)
    (case l__law_frac => k_is)
    (case c__law_frac => k_is)
    (case k__law_frac => k_is)
    (case a__law_is_frac => k_is)
    (case l__law_is_frac => k_is)
    (case c__law_is_frac => k_is)
    (case k__law_is_frac => k_is)
    (case a__law_number => k_is)
    (case l__law_number => k_is)
    (case c__law_number => k_is)
    (case k__law_number => k_is)
    (case a__law_drawn => k_is)
    (case l__law_drawn => k_is)
    (case c__law_drawn => k_is)
    (case k__law_drawn => k_is)
    (case a__law_figures => k_is)
    (case l__law_figures => k_is)
    (case c__law_figures => k_is)
    (case k__law_figures => k_is)
    (case a__law_bounds_of => k_is)
    (case l__law_bounds_of => k_is)
    (case c__law_bounds_of => k_is)
    (case k__law_bounds_of => k_is)
    (case a__law_decimal_by => k_is)
    (case l__law_decimal_by => k_is)
    (case c__law_decimal_by => k_is)
    (case k__law_decimal_by => k_is)
    (case a__law_around => k_is)
    (case l__law_around => k_is)
    (case c__law_around => k_is)
    (case k__law_around => k_is)
    (case ea_NoBounds => k_is)
    (case ek_NoBounds => k_is)
    (case es_NoBounds => k_is)
    (case et_NoBounds => k_is)
    (case ea_NoNumber => k_is)
    (case ek_NoNumber => k_is)
    (case es_NoNumber => k_is)
    (case et_NoNumber => k_is)
    (case ea_NoPath => k_is)
    (case ek_NoPath => k_is)
    (case es_NoPath => k_is)
    (case et_NoPath => k_is)
    (case x_fig => k_is)
    (case aL => k_is)
    (case lL => k_is)
    (case cL => k_is)
    (case kL => k_is)
    (case eq_NoBounds => k_exc)
    (case eq_NoNumber => k_exc)
    (case eq_NoPath => k_exc)
