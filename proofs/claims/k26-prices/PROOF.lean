import PyProof.Rows.All
import Wide.All
import OpenK.AllK
import Wide.FinOn
import HandS.ForMost
import HandS.Exc
import HandS.ExcOwn
import HandS.WordsExc
import HandS.TupAny
import HandS.TupMul
import HandS.Deep
import HandS.IsInst
import PyProof.WalksMore
import PyProof.SumWalkG
import HandS.Zip
import PyProof.Draws
import PyProof.EnumMake
import HandS.ExcInit
import HandS.ExcField
import HandS.ExcIs
import HandS.NestedK
import HandS.TryOnly
import KE.KExcIs
import KE.KExcSuper
import HandS.Style
import HandS.Conv
import PySem.Challenge.RW_clothinonepiece_k26_prices
set_option Elab.async false
set_option linter.all false
set_option maxRecDepth 100000
namespace Ev
open PySem PySem.Spec PyProof.Rows L2

/-! ### values, objects, results -/
inductive D where
  | non | bl (b : Bool) | int (i : Int) | str (x : Str)
  | tup (xs : List D) | fl (xs : List D) | ref (l : Nat)

structure Xn where
  cls : String
  fs : List (String × D)
inductive O where
  | lst (xs : List D)
abbrev Hd := List O
abbrev Sd := List (Option D)
inductive R (α : Type) where
  | ok (a : α) (h : Hd) | err (x : Xn) (h : Hd) | no
def R.bind {α β : Type} : R α → (α → Hd → R β) → R β
  | .ok a h, f => f a h
  | .err x h, _ => .err x h
  | .no, _ => .no
inductive RS where
  | nx (s : Sd) (h : Hd) | ret (d : D) (h : Hd) | bk (s : Sd) (h : Hd) | ct (s : Sd) (h : Hd) | err (x : Xn) (s : Sd) (h : Hd) | no
/-- an expression within a statement -/
def R.thn {α : Type} (s : Sd) : R α → (α → Hd → RS) → RS
  | .ok a h, f => f a h
  | .err x h, _ => .err x s h
  | .no, _ => .no

/-! ### how they stand for the layer's -/
/-- a call with keywords: the def, how many values come by place, the names, where each value goes -/
structure KC where
  f : String
  n : Nat
  ks : List String
  pm : List Nat
  deriving DecidableEq
/-- an own exception class: its fields (none: it is never raised), the own classes above it, itself too -/
structure XC where
  name : String
  fields : List String
  anc : List String
  deriving DecidableEq
structure Kx where
  K : PySem.W.Frag
  ca : String → Addr
  kfs : List KC
  xcs : List XC
/-- where a class stands, by its global name -/
def caOf (K : PySem.W.Frag) (c : String) : Addr := match PySem.W.nsIn K mainGlobals (Str.ofString c) with
  | some (some (.ref a)) => a
  | _ => 0
theorem caOf_eq {K : PySem.W.Frag} {c : String} {a : Addr} (h : PySem.W.nsIn K mainGlobals (Str.ofString c) = some (some (.ref a))) : caOf K c = a := by
  unfold caOf
  rw [h]
abbrev kx (K : PySem.W.Frag) (kfs : List KC) (xcs : List XC) : Kx := ⟨K, caOf K, kfs, xcs⟩
def FrL (K : PySem.W.Frag) (H : Hp) (a : Addr) (xs : List V) : Prop :=
  (∃ o, H a = some (.frz o (.lst xs))) ∨
    ∃ (o : Obj) (its : Array Value) (n : Nat), K.lookup a = some o ∧ o.cls = .type "list" ∧ o.dict = none ∧ o.data = .seq its n ∧ its.size ≤ sizeLine ∧ Vals xs its.toList
theorem FrL.seq {K : PySem.W.Frag} {H : Hp} {a : Addr} {xs : List V} (h : FrL K H a xs) : SqL K H a xs := by
  rcases h with ⟨o, h⟩ | h
  · exact .inl (.inr ⟨o, h⟩)
  · exact .inr h
mutual
def Rep (κ : Kx) (ρ : List Addr) (H : Hp) : D → V → Prop
  | .non, v => v = .non
  | .bl b, v => v = .bl b
  | .int i, v => v = .int i
  | .str x, v => v = .str x
  | .tup ds, v => ∃ a vs, v = .ref a ∧ SqT κ.K H a vs ∧ Reps κ ρ H ds vs
  | .fl ds, v => ∃ a vs, v = .ref a ∧ FrL κ.K H a vs ∧ Reps κ ρ H ds vs
  | .ref l, v => ∃ a, ρ[l]? = some a ∧ v = .ref a
def Reps (κ : Kx) (ρ : List Addr) (H : Hp) : List D → List V → Prop
  | [], vs => vs = []
  | d :: ds, vs => ∃ v r, vs = v :: r ∧ Rep κ ρ H d v ∧ Reps κ ρ H ds r
end
def ObR (κ : Kx) (ρ : List Addr) (H : Hp) : O → Addr → Prop
  | .lst xs, a => ∃ vs, H a = some (.lst vs) ∧ Reps κ ρ H xs vs
structure Sim (κ : Kx) (ρ : List Addr) (h : Hd) (H : Hp) : Prop where
  len : ρ.length = h.length
  nd : ρ.Nodup
  ob : ∀ (l : Nat) (o : O) (a : Addr), h[l]? = some o → ρ[l]? = some a → ObR κ ρ H o a
structure Ext (ρ ρ' : List Addr) (H H' : Hp) : Prop where
  pre : ρ <+: ρ'
  tup : ∀ a xs, H a = some (.tup xs) → H' a = some (.tup xs)
  frz : ∀ a o u, H a = some (.frz o u) → H' a = some (.frz o u)
  fr : ∀ a o, H a = some o → a ∉ ρ → H' a = some o
  new : ∀ a, a ∈ ρ' → a ∉ ρ → H a = none
def SimS (κ : Kx) (ρ : List Addr) (H : Hp) (sd : Sd) (σ : L2.St) : Prop :=
  sd.length = σ.length ∧ ∀ (i : Nat) d, sd[i]? = some (some d) → ∃ v, σ[i]? = some (some v) ∧ Rep κ ρ H d v
/-- an exception, by its class and its own dict -/
def XRep (κ : Kx) (ρ : List Addr) (H : Hp) (x : Xn) (c : Value) (d : Option Addr) : Prop :=
  c = .ref (κ.ca x.cls) ∧ ∃ dx fs, d = some dx ∧ H dx = some (.xd fs) ∧ Reps κ ρ H (x.fs.map (·.2)) (fs.map (·.2)) ∧ fs.map (·.1) = x.fs.map fun p => Str.ofString p.1

section
variable {κ : Kx} {ρ ρ' ρ1 ρ2 : List Addr} {H H' H1 H2 : Hp} {h h' : Hd} {sd : Sd} {σ : L2.St} {d : D} {ds : List D} {v : V} {vs : List V}
theorem Ext.refl : Ext ρ ρ H H := ⟨List.prefix_rfl, fun _ _ e => e, fun _ _ _ e => e, fun _ _ e _ => e, fun a h1 h2 => absurd h1 h2⟩
theorem Ext.trans (x : Ext ρ ρ1 H H1) (y : Ext ρ1 ρ2 H1 H2) : Ext ρ ρ2 H H2 := by
  refine ⟨x.pre.trans y.pre, fun a xs e => y.tup _ _ (x.tup _ _ e), fun a o u e => y.frz _ _ _ (x.frz _ _ _ e), fun a o e n => ?_, fun a h1 h2 => ?_⟩
  · by_cases h1 : a ∈ ρ1
    · rw [x.new a h1 n] at e; cases e
    · exact y.fr a o (x.fr a o e n) h1
  · by_cases h3 : a ∈ ρ1
    · exact x.new a h3 h2
    · have n1 := y.new a h1 h3
      cases q : H a with
      | none => rfl
      | some o => rw [x.fr a o q h2] at n1; cases n1
/-- what a value's standing leans on -/
structure Kp (ρ ρ' : List Addr) (H H' : Hp) : Prop where
  at' : ∀ (l : Nat) (a : Addr), ρ[l]? = some a → ρ'[l]? = some a
  tup : ∀ a xs, H a = some (.tup xs) → H' a = some (.tup xs)
  frz : ∀ a o u, H a = some (.frz o u) → H' a = some (.frz o u)
theorem Kp.sqT {K : PySem.W.Frag} {a : Addr} {xs : List V} (x : Kp ρ ρ' H H') (q : SqT K H a xs) : SqT K H' a xs := by
  rcases q with (q | ⟨o, q⟩) | q
  · exact .inl (.inl (x.tup _ _ q))
  · exact .inl (.inr ⟨o, x.frz _ _ _ q⟩)
  · exact .inr q
theorem Kp.frL {K : PySem.W.Frag} {a : Addr} {xs : List V} (x : Kp ρ ρ' H H') (q : FrL K H a xs) : FrL K H' a xs := by
  rcases q with ⟨o, q⟩ | q
  · exact .inl ⟨o, x.frz _ _ _ q⟩
  · exact .inr q
mutual
theorem Rep.kp (x : Kp ρ ρ' H H') : ∀ (d : D) (v : V), Rep κ ρ H d v → Rep κ ρ' H' d v
  | .non, v, r => r
  | .bl _, v, r => r
  | .int _, v, r => r
  | .str _, v, r => r
  | .tup ds, v, r => by
    obtain ⟨a, vs, e, q, rs⟩ := r
    exact ⟨a, vs, e, x.sqT q, Reps.kp x ds vs rs⟩
  | .fl ds, v, r => by
    obtain ⟨a, vs, e, q, rs⟩ := r
    exact ⟨a, vs, e, x.frL q, Reps.kp x ds vs rs⟩
  | .ref l, v, r => by
    obtain ⟨a, e, q⟩ := r
    exact ⟨a, x.at' _ _ e, q⟩
theorem Reps.kp (x : Kp ρ ρ' H H') : ∀ (ds : List D) (vs : List V), Reps κ ρ H ds vs → Reps κ ρ' H' ds vs
  | [], vs, r => r
  | d :: ds, vs, r => by
    obtain ⟨v, w, e, r1, r2⟩ := r
    exact ⟨v, w, e, Rep.kp x d v r1, Reps.kp x ds w r2⟩
end
theorem Ext.at (x : Ext ρ ρ' H H') {l : Nat} {a : Addr} (e : ρ[l]? = some a) : ρ'[l]? = some a := by
  obtain ⟨r, e2⟩ := x.pre
  rw [← e2, List.getElem?_append_left (List.getElem?_eq_some_iff.mp e).1]
  exact e
theorem Ext.kp (x : Ext ρ ρ' H H') : Kp ρ ρ' H H' := ⟨fun _ _ e => x.at e, x.tup, x.frz⟩
theorem Ext.sqT {K : PySem.W.Frag} {a : Addr} {xs : List V} (x : Ext ρ ρ' H H') (q : SqT K H a xs) : SqT K H' a xs := x.kp.sqT q
theorem Ext.frL {K : PySem.W.Frag} {a : Addr} {xs : List V} (x : Ext ρ ρ' H H') (q : FrL K H a xs) : FrL K H' a xs := x.kp.frL q
theorem Rep.ext (x : Ext ρ ρ' H H') (d : D) (v : V) : Rep κ ρ H d v → Rep κ ρ' H' d v := Rep.kp x.kp d v
theorem Reps.ext (x : Ext ρ ρ' H H') (ds : List D) (vs : List V) : Reps κ ρ H ds vs → Reps κ ρ' H' ds vs := Reps.kp x.kp ds vs
theorem Rep.mono (r : Rep κ ρ H d v) (x : Ext ρ ρ' H H') : Rep κ ρ' H' d v := Rep.ext x d v r
theorem Reps.mono (r : Reps κ ρ H ds vs) (x : Ext ρ ρ' H H') : Reps κ ρ' H' ds vs := Reps.ext x ds vs r
theorem Reps.nil : Reps κ ρ H [] [] := rfl
theorem Reps.cons (r : Rep κ ρ H d v) (rs : Reps κ ρ H ds vs) : Reps κ ρ H (d :: ds) (v :: vs) := ⟨v, vs, rfl, r, rs⟩
theorem Reps.length : ∀ {ds : List D} {vs : List V}, Reps κ ρ H ds vs → ds.length = vs.length
  | [], vs, r => by have : vs = [] := r; subst this; rfl
  | d :: ds, vs, r => by
    obtain ⟨v, w, e, _, r2⟩ := r
    subst e
    simp only [List.length_cons, Reps.length r2]
theorem Reps.get : ∀ {ds : List D} {vs : List V} {i : Nat} {d : D}, Reps κ ρ H ds vs → ds[i]? = some d → ∃ v, vs[i]? = some v ∧ Rep κ ρ H d v
  | [], vs, i, d, r, e => by simp at e
  | x :: ds, vs, i, d, r, e => by
    obtain ⟨v, w, e1, r1, r2⟩ := r
    subst e1
    cases i with
    | zero => simp at e; subst e; exact ⟨v, rfl, r1⟩
    | succ i => simpa using Reps.get r2 (by simpa using e)
theorem Reps.get' : ∀ {ds : List D} {vs : List V} {i : Nat} {v : V}, Reps κ ρ H ds vs → vs[i]? = some v → ∃ d, ds[i]? = some d ∧ Rep κ ρ H d v := fun {ds vs i v} r e => by
  have hl := r.length
  have hi : i < ds.length := by have := (List.getElem?_eq_some_iff.mp e).1; omega
  obtain ⟨v', e', r'⟩ := r.get (List.getElem?_eq_getElem hi)
  rw [e] at e'; cases e'
  exact ⟨_, List.getElem?_eq_getElem hi, r'⟩
theorem Reps.append : ∀ {ds es : List D} {vs ws : List V}, Reps κ ρ H ds vs → Reps κ ρ H es ws → Reps κ ρ H (ds ++ es) (vs ++ ws)
  | [], es, vs, ws, r, q => by have : vs = [] := r; subst this; exact q
  | d :: ds, es, vs, ws, r, q => by
    obtain ⟨v, w, e, r1, r2⟩ := r
    subst e
    exact .cons r1 (Reps.append r2 q)
theorem Reps.set : ∀ {ds : List D} {vs : List V} {i : Nat} {d : D} {v : V}, Reps κ ρ H ds vs → Rep κ ρ H d v → Reps κ ρ H (ds.set i d) (vs.set i v)
  | [], vs, i, d, v, r, q => by have : vs = [] := r; subst this; exact .nil
  | x :: ds, vs, i, d, v, r, q => by
    obtain ⟨u, w, e, r1, r2⟩ := r
    subst e
    cases i with
    | zero => exact .cons q r2
    | succ i => exact .cons r1 (Reps.set r2 q)
theorem Reps.take : ∀ {ds : List D} {vs : List V} (n : Nat), Reps κ ρ H ds vs → Reps κ ρ H (ds.take n) (vs.take n)
  | _, vs, 0, r => by simp only [List.take_zero]; exact .nil
  | [], vs, n + 1, r => by have : vs = [] := r; subst this; exact .nil
  | x :: ds, vs, n + 1, r => by
    obtain ⟨u, w, e, r1, r2⟩ := r
    subst e
    exact .cons r1 (Reps.take n r2)
theorem Reps.drop : ∀ {ds : List D} {vs : List V} (n : Nat), Reps κ ρ H ds vs → Reps κ ρ H (ds.drop n) (vs.drop n)
  | ds, vs, 0, r => by simpa using r
  | [], vs, n + 1, r => by have : vs = [] := r; subst this; exact .nil
  | x :: ds, vs, n + 1, r => by
    obtain ⟨u, w, e, r1, r2⟩ := r
    subst e
    simpa using Reps.drop n r2
theorem Reps.eraseIdx : ∀ {ds : List D} {vs : List V} (n : Nat), Reps κ ρ H ds vs → Reps κ ρ H (ds.eraseIdx n) (vs.eraseIdx n)
  | [], vs, n, r => by have : vs = [] := r; subst this; exact .nil
  | x :: ds, vs, 0, r => by
    obtain ⟨u, w, e, r1, r2⟩ := r
    subst e
    exact r2
  | x :: ds, vs, n + 1, r => by
    obtain ⟨u, w, e, r1, r2⟩ := r
    subst e
    exact .cons r1 (Reps.eraseIdx n r2)
theorem Reps.reverse {ds : List D} {vs : List V} (r : Reps κ ρ H ds vs) : Reps κ ρ H ds.reverse vs.reverse := by
  induction ds generalizing vs with
  | nil => have : vs = [] := r; subst this; exact .nil
  | cons x ds ih =>
    obtain ⟨u, w, e, r1, r2⟩ := r
    subst e
    simp only [List.reverse_cons]
    exact (ih r2).append (.cons r1 .nil)
theorem Reps.dropLast {ds : List D} {vs : List V} (r : Reps κ ρ H ds vs) : Reps κ ρ H ds.dropLast vs.dropLast := by
  rw [List.dropLast_eq_take, List.dropLast_eq_take, r.length]
  exact r.take _
theorem Reps.rep {ds : List D} {vs : List V} (r : Reps κ ρ H ds vs) : ∀ k : Nat, Reps κ ρ H (List.replicate k ds).flatten (List.replicate k vs).flatten
  | 0 => by simp only [List.replicate_zero, List.flatten_nil]; exact .nil
  | k + 1 => by
    simp only [List.replicate_succ, List.flatten_cons]
    exact r.append (Reps.rep r k)
theorem Reps.ints : ∀ (ns : List Int), Reps κ ρ H (ns.map D.int) (ns.map V.int)
  | [] => .nil
  | n :: ns => .cons (show Rep κ ρ H (.int n) (.int n) from rfl) (Reps.ints ns)
theorem Reps.of_ints : ∀ {ns : List Int} {vs : List V}, Reps κ ρ H (ns.map D.int) vs → vs = ns.map V.int
  | [], vs, r => r
  | n :: ns, vs, r => by
    obtain ⟨u, w, e, r1, r2⟩ := r
    have r1 : u = .int n := r1
    rw [e, r1, Reps.of_ints r2]
    rfl
theorem Reps.of_bls : ∀ {ns : List Bool} {vs : List V}, Reps κ ρ H (ns.map D.bl) vs → vs = ns.map V.bl
  | [], vs, r => r
  | n :: ns, vs, r => by
    obtain ⟨u, w, e, r1, r2⟩ := r
    have r1 : u = .bl n := r1
    rw [e, r1, Reps.of_bls r2]
    rfl
theorem SimS.mono (q : SimS κ ρ H sd σ) (x : Ext ρ ρ' H H') : SimS κ ρ' H' sd σ := ⟨q.1, fun i d e => let ⟨v, e1, r⟩ := q.2 i d e; ⟨v, e1, r.mono x⟩⟩
theorem SimS.set (q : SimS κ ρ H sd σ) (r : Rep κ ρ H d v) (i : Nat) : SimS κ ρ H (sd.set i (some d)) (σ.set i (some v)) := by
  refine ⟨by simp [q.1], fun j e he => ?_⟩
  by_cases hj : i = j
  · subst hj
    by_cases hi : i < sd.length
    · rw [List.getElem?_set_self hi] at he
      cases he
      exact ⟨v, by rw [List.getElem?_set_self (by rw [← q.1]; exact hi)], r⟩
    · rw [List.getElem?_eq_none (by simp; omega)] at he; cases he
  · rw [List.getElem?_set_ne hj] at he
    obtain ⟨w, e1, r1⟩ := q.2 j e he
    exact ⟨w, by rw [List.getElem?_set_ne hj]; exact e1, r1⟩
theorem Sim.get (S : Sim κ ρ h H) {l : Nat} {o : O} (e : h[l]? = some o) : ∃ a, ρ[l]? = some a ∧ ObR κ ρ H o a := by
  have hl : l < ρ.length := by rw [S.len]; exact (List.getElem?_eq_some_iff.mp e).1
  exact ⟨ρ[l], List.getElem?_eq_getElem hl, S.ob l o _ e (List.getElem?_eq_getElem hl)⟩
theorem Sim.held (S : Sim κ ρ h H) {a : Addr} (e : a ∈ ρ) : ∃ xs, H a = some (.lst xs) := by
  obtain ⟨l, hl, e⟩ := List.mem_iff_getElem.mp e
  have hl2 : l < h.length := by rw [← S.len]; exact hl
  have q := S.ob l _ a (List.getElem?_eq_getElem hl2) (by rw [List.getElem?_eq_getElem hl, e])
  revert q
  cases h[l] with
  | lst xs => rintro ⟨vs, q, _⟩; exact ⟨vs, q⟩
/-- a new object, not one of ours: a tuple, what is soon forgotten -/
theorem Ext.alloc {p : Addr} {o : HO} (n : H p = none) : Ext ρ ρ H (upd H p o) :=
  ⟨List.prefix_rfl, fun a xs e => by rw [upd_ne (ne_of_none e n)]; exact e, fun a u w e => by rw [upd_ne (ne_of_none e n)]; exact e, fun a u e _ => by rw [upd_ne (ne_of_none e n)]; exact e, fun a h1 h2 => absurd h1 h2⟩
theorem ObR.kp (x : Kp ρ ρ' H H') {o : O} {a : Addr} (q : ObR κ ρ H o a) (k : H' a = H a) : ObR κ ρ' H' o a := by
  cases o with
  | lst xs =>
    obtain ⟨vs, e, r⟩ := q
    exact ⟨vs, by rw [k]; exact e, Reps.kp x _ _ r⟩
theorem ObR.ext (x : Ext ρ ρ' H H') {o : O} {a : Addr} (q : ObR κ ρ H o a) (k : H' a = H a) : ObR κ ρ' H' o a := by
  cases o with
  | lst xs =>
    obtain ⟨vs, e, r⟩ := q
    exact ⟨vs, by rw [k]; exact e, r.mono x⟩
theorem Sim.alloc (S : Sim κ ρ h H) {p : Addr} {o : HO} (n : H p = none) : Sim κ ρ h (upd H p o) :=
  ⟨S.len, S.nd, fun l u a e1 e2 => (S.ob l u a e1 e2).ext (.alloc n) (by
    obtain ⟨xs, q⟩ := S.held (List.mem_of_getElem? e2)
    rw [upd_ne (ne_of_none q n)])⟩
/-- a new list of ours -/
theorem Ext.newL {p : Addr} {o : HO} (n : H p = none) : Ext ρ (ρ ++ [p]) H (upd H p o) :=
  ⟨List.prefix_append .., fun a xs e => by rw [upd_ne (ne_of_none e n)]; exact e, fun a u w e => by rw [upd_ne (ne_of_none e n)]; exact e, fun a u e _ => by rw [upd_ne (ne_of_none e n)]; exact e, fun a h1 h2 => by
    rcases List.mem_append.mp h1 with z | z
    · exact absurd z h2
    · have : a = p := by simpa using z
      rw [this]; exact n⟩
/-- an object that stands becomes one of ours -/
theorem Ext.adopt {p : Addr} (x : Ext ρ ρ1 H H1) (n : H p = none) : Ext ρ (ρ1 ++ [p]) H H1 :=
  ⟨x.pre.trans (List.prefix_append ..), x.tup, x.frz, x.fr, fun a h1 h2 => by
    rcases List.mem_append.mp h1 with z | z
    · exact x.new a z h2
    · have : a = p := by simpa using z
      rw [this]; exact n⟩
end
end Ev

set_option Elab.async false
set_option linter.all false
set_option maxRecDepth 100000
namespace Ev
open PySem PySem.Spec PyProof.Rows L2

/-! ### what is wanted behind -/
abbrev Rel (α β : Type) := List Addr → Hp → α → β → Prop
def Post {α β : Type} (κ : Kx) (rel : Rel α β) (ρ : List Addr) (H : Hp) (r : R α) (Q : β → Hp → Prop) (E : XK) : Prop := match r with
  | .ok x h' => ∀ ρ' H' y, Ext ρ ρ' H H' → Sim κ ρ' h' H' → rel ρ' H' x y → Q y H'
  | .err x h' => ∀ ρ' H' c a, Ext ρ ρ' H H' → Sim κ ρ' h' H' → XRep κ ρ' H' x c a → E c a H'
  | .no => False
def PostS (κ : Kx) (ρ : List Addr) (H : Hp) (r : RS) (D : Ends) (W : WX) : Prop := match r with
  | .nx sd h' => ∀ ρ' H' σ', Ext ρ ρ' H H' → Sim κ ρ' h' H' → SimS κ ρ' H' sd σ' → D.nx σ' H'
  | .bk sd h' => ∀ ρ' H' σ', Ext ρ ρ' H H' → Sim κ ρ' h' H' → SimS κ ρ' H' sd σ' → D.bk σ' H'
  | .ct sd h' => ∀ ρ' H' σ', Ext ρ ρ' H H' → Sim κ ρ' h' H' → SimS κ ρ' H' sd σ' → D.ct σ' H'
  | .ret d h' => ∀ ρ' H' v, Ext ρ ρ' H H' → Sim κ ρ' h' H' → Rep κ ρ' H' d v → D.rt v H'
  | .err x sd h' => ∀ ρ' H' σ' c a, Ext ρ ρ' H H' → Sim κ ρ' h' H' → SimS κ ρ' H' sd σ' → XRep κ ρ' H' x c a → W c a σ' H'
  | .no => False
abbrev rD (κ : Kx) : Rel D V := fun ρ H d v => Rep κ ρ H d v
abbrev rDs (κ : Kx) : Rel (List D) (List V) := fun ρ H d v => Reps κ ρ H d v
abbrev rB : Rel Bool Bool := fun _ _ b c => c = b
/-- a sequence that is read at once -/
abbrev rQ (κ : Kx) : Rel (List D) V := fun ρ H ds v => ∃ a vs, v = .ref a ∧ (SqL κ.K H a vs ∨ SqT κ.K H a vs) ∧ Reps κ ρ H ds vs
section
variable {κ : Kx} {ρ ρ' ρ1 ρ2 : List Addr} {H H' H1 H2 : Hp} {h h' h1 : Hd} {sd : Sd} {σ : L2.St} {α β γ δ : Type} {rel : Rel α β} {rel' : Rel γ δ} {r : R α} {Q : β → Hp → Prop} {E : XK} {W : WX}
theorem Post.ext (p : Post κ rel ρ H r Q E) (x : Ext ρ ρ1 H H1) : Post κ rel ρ1 H1 r Q E := by
  cases r with
  | ok a h' => exact fun ρ' H' y e s q => p ρ' H' y (x.trans e) s q
  | err a h' => exact fun ρ' H' c d e s q => p ρ' H' c d (x.trans e) s q
  | no => exact p
theorem PostS.ext {r : RS} {D : Ends} (p : PostS κ ρ H r D W) (x : Ext ρ ρ1 H H1) : PostS κ ρ1 H1 r D W := by
  cases r with
  | nx a h' => exact fun ρ' H' y e s q => p ρ' H' y (x.trans e) s q
  | bk a h' => exact fun ρ' H' y e s q => p ρ' H' y (x.trans e) s q
  | ct a h' => exact fun ρ' H' y e s q => p ρ' H' y (x.trans e) s q
  | ret a h' => exact fun ρ' H' y e s q => p ρ' H' y (x.trans e) s q
  | err a b h' => exact fun ρ' H' y c d e s q z => p ρ' H' y c d (x.trans e) s q z
  | no => exact p
theorem Post.mono {Q' : β → Hp → Prop} (p : Post κ rel ρ H r Q E) (hQ : ∀ y H', Q y H' → Q' y H') : Post κ rel ρ H r Q' E := by
  cases r with
  | ok a h' => exact fun ρ' H' y e s q => hQ _ _ (p ρ' H' y e s q)
  | err a h' => exact p
  | no => exact p
/-- an answer at hand, nothing changed -/
theorem Post.here {a : α} {y : β} (p : Post κ rel ρ H (.ok a h) Q E) (S : Sim κ ρ h H) (q : rel ρ H a y) : Q y H := p ρ H y .refl S q
/-- the reading of an expression by its evaluation -/
def tE (κ : Kx) (rel : Rel α β) (W : WX) (ev : Sd → Hd → R α) : L2.St → Hp → (β → Hp → Prop) → Prop := fun σ H Q =>
  ∃ ρ sd h, SimS κ ρ H sd σ ∧ Sim κ ρ h H ∧ Post κ rel ρ H (ev sd h) Q (fun c a H' => W c a σ H')
def tS (κ : Kx) (W : WX) (ev : Sd → Hd → RS) : TS := fun D σ H =>
  ∃ ρ sd h, SimS κ ρ H sd σ ∧ Sim κ ρ h H ∧ PostS κ ρ H (ev sd h) D W
/-- the state behind the first part -/
def Aft (κ : Kx) (rel : Rel α β) (rel' : Rel γ δ) (W : WX) (f : α → Sd → Hd → R γ) (σ : L2.St) (Q : δ → Hp → Prop) (y : β) (H1 : Hp) : Prop :=
  ∃ ρ sd h x, SimS κ ρ H1 sd σ ∧ Sim κ ρ h H1 ∧ rel ρ H1 x y ∧ Post κ rel' ρ H1 (f x sd h) Q (fun c a H' => W c a σ H')
theorem tE_bind {ev : Sd → Hd → R α} {f : α → Sd → Hd → R γ} {Q : δ → Hp → Prop} (t : tE κ rel' W (fun s h => (ev s h).bind fun x h1 => f x s h1) σ H Q) : tE κ rel W ev σ H (Aft κ rel rel' W f σ Q) := by
  obtain ⟨ρ, sd, h, ss, S, p⟩ := t
  refine ⟨ρ, sd, h, ss, S, ?_⟩
  cases q : ev sd h with
  | no => simp only [q, R.bind] at p; exact p
  | err x h' => simp only [q, R.bind] at p; exact p
  | ok x h' =>
    simp only [q, R.bind] at p
    exact fun ρ' H' y e s r => ⟨ρ', sd, h', x, ss.mono e, s, r, p.ext e⟩
/-- .. and the second -/
def Aft2 (κ : Kx) {α1 β1 : Type} (rel : Rel α β) (rel1 : Rel α1 β1) (rel' : Rel γ δ) (W : WX) (f : α → α1 → Sd → Hd → R γ) (σ : L2.St) (Q : δ → Hp → Prop) (y : β) (z : β1) (H1 : Hp) : Prop :=
  ∃ ρ sd h x x1, SimS κ ρ H1 sd σ ∧ Sim κ ρ h H1 ∧ rel ρ H1 x y ∧ rel1 ρ H1 x1 z ∧ Post κ rel' ρ H1 (f x x1 sd h) Q (fun c a H' => W c a σ H')
def Stays (rel : Rel α β) : Prop := ∀ ρ ρ' H H' x y, Ext ρ ρ' H H' → rel ρ H x y → rel ρ' H' x y
theorem stays_D : Stays (rD κ) := fun _ _ _ _ _ _ e r => r.mono e
theorem stays_Ds : Stays (rDs κ) := fun _ _ _ _ _ _ e r => r.mono e
theorem Aft.bind {α1 β1 : Type} {rel1 : Rel α1 β1} {ev1 : Sd → Hd → R α1} {f : α → α1 → Sd → Hd → R γ} {Q : δ → Hp → Prop} {y : β} (hs : Stays rel) (t : Aft κ rel rel' W (fun x s h => (ev1 s h).bind fun x1 h1 => f x x1 s h1) σ Q y H) :
    tE κ rel1 W ev1 σ H (fun z H2 => Aft2 κ rel rel1 rel' W f σ Q y z H2) := by
  obtain ⟨ρ, sd, h, x, ss, S, r, p⟩ := t
  refine ⟨ρ, sd, h, ss, S, ?_⟩
  cases q : ev1 sd h with
  | no => simp only [q, R.bind] at p; exact p
  | err x h' => simp only [q, R.bind] at p; exact p
  | ok x1 h' =>
    simp only [q, R.bind] at p
    exact fun ρ' H' z e s r1 => ⟨ρ', sd, h', x, x1, ss.mono e, s, hs _ _ _ _ _ _ e r, r1, p.ext e⟩
theorem tE_bind2 {α1 β1 : Type} {rel1 : Rel α1 β1} {ev : Sd → Hd → R α} {ev1 : Sd → Hd → R α1} {f : α → α1 → Sd → Hd → R γ} {Q : δ → Hp → Prop} (hs : Stays rel)
    (t : tE κ rel' W (fun s h => (ev s h).bind fun x h1 => (ev1 s h1).bind fun x1 h2 => f x x1 s h2) σ H Q) :
    ∀ {T : (β → Hp → Prop) → Prop} (_ : ∀ Q1 Q2, (∀ y H', Q1 y H' → Q2 y H') → T Q1 → T Q2) (_ : T (Aft κ rel rel' W (fun x s h => (ev1 s h).bind fun x1 h1 => f x x1 s h1) σ Q)),
      T (fun y H1 => tE κ rel1 W ev1 σ H1 (fun z H2 => Aft2 κ rel rel1 rel' W f σ Q y z H2)) := fun m a => m _ _ (fun y H' q => q.bind hs) a
theorem tE.mono {ev : Sd → Hd → R α} {Q Q' : β → Hp → Prop} (t : tE κ rel W ev σ H Q) (hQ : ∀ y H', Q y H' → Q' y H') : tE κ rel W ev σ H Q' := by
  obtain ⟨ρ, sd, h, ss, S, p⟩ := t
  exact ⟨ρ, sd, h, ss, S, p.mono hQ⟩
end

/-! ### the judgements, weakened -/
section
variable {X : Cx} {e : Expr}
theorem PE.imp {t t' : TE} (h : PE X e t) (k : ∀ σ H Q, t' σ H Q → t σ H Q) : PE X e t' := ⟨fun pins s σ H Q I hw => h.run pins s σ H Q I (k _ _ _ hw)⟩
theorem PT.imp {t t' : TT} (h : PT X e t) (k : ∀ σ H Q, t' σ H Q → t σ H Q) : PT X e t' := ⟨fun pins s σ H Q I hw => h.run pins s σ H Q I (k _ _ _ hw)⟩
theorem PW.imp {t t' : TT} (h : PW X e t) (k : ∀ σ H Q, t' σ H Q → t σ H Q) : PW X e t' := ⟨fun wh pins s σ H Q I hw => h.run wh pins s σ H Q I (k _ _ _ hw)⟩
theorem PA.imp {es : List Expr} {t t' : TA} (h : PA X es t) (k : ∀ σ H Q, t' σ H Q → t σ H Q) : PA X es t' := ⟨fun pos pins s σ H Q I hw => h.run pos pins s σ H Q I (k _ _ _ hw)⟩
theorem PS.imp {st : Stmt} {t t' : TS} (h : PS X st t) (k : ∀ D σ H, t' D σ H → t D σ H) : PS X st t' := ⟨fun pins s σ H D I hw => h.run pins s σ H D I (k _ _ _ hw)⟩
theorem PSs.imp {st : List Stmt} {t t' : TS} (h : PSs X st t) (k : ∀ D σ H, t' D σ H → t D σ H) : PSs X st t' := ⟨fun pins s σ H D I hw => h.run pins s σ H D I (k _ _ _ hw)⟩
end
end Ev

set_option Elab.async false
set_option linter.all false
set_option maxRecDepth 100000
namespace Ev
open PySem PySem.Spec PyProof.Rows L2

/-! ### the text, without its places -/
inductive T where
  | v (i : Nat) | t (ts : List T)
inductive Bif where
  | len | abs | int | bool | min2 | max2 | str
  deriving DecidableEq
inductive Sq where
  | tuple | list | sum | all | any | len
  deriving DecidableEq
inductive Ty where
  | int | bool | str | tuple | list
  deriving DecidableEq
inductive E where
  | var (i : Nat) | int (i : Int) | bl (b : Bool) | non | str (x : Str)
  | glob (x : Str)
  | bin (op : Operator) (a b : E) | neg (a : E)
  | cmp (op : CmpOp) (a b : E) | chain (op op' : CmpOp) (a b c : E)
  | and_ (es : List E) | or_ (es : List E) | not_ (a : E) | ite (c a b : E)
  | tup (es : List E) | lst (es : List E)
  | ix (a i : E) | sl (a lo hi : E) | hole
  | call (f : String) (es : List E)
  | bif (b : Bif) (es : List E) | seq (b : Sq) (a : E) | isi (a : E) (ty : Ty)
  | pop (a : E) | popAt (a i : E) | app (a x : E)
  | comp (elt : E) (tg : T) (it : E) (ifs : List E) (own : List Nat)
  | comp2 (elt : E) (tg : T) (it : E) (ifs : List E) (tg2 : T) (it2 : E) (ifs2 : List E) (own : List Nat)
  | callk (f : String) (ks : List String) (pm : List Nat) (es kes : List E) | rgs (b : Bool) (a : E) | rgs2 (b : Bool) (a c : E)
  | rev (a : E) | ext (a x : E)
  | rng1 (a : E) | rng2 (a b : E) | rng3 (a b c : E) | enum (a : E) | zip (a b : E)
/-- within an except suite: what is asked of the error -/
inductive HQ where
  | isx (c : String) (tb : List (String × Bool)) | not_ (a : HQ) | and_ (es : List HQ)
inductive HA where
  | str (x : Str) | int (i : Int) | bl (b : Bool) | non | fld (f : String) | ite (c : HQ) (a b : HA)
inductive HR where
  | a (x : HA) | t (xs : List HA)
inductive HS where
  | ret (r : HR) | ifr (c : HQ) (r : HR)
inductive S where
  | raise_ (c : String) (fs : List String) (es : List E) | try_ (b : List S) (c : String) (i : Nat) (tb : List (String × Bool)) (hs : List HS)
  | expr (e : E) | asg (t : T) (e : E) | setix (a i e : E) | aug (i : Nat) (op : Operator) (e : E)
  | if_ (c : E) (a b : List S) | for_ (t : T) (it : E) (b : List S) | while_ (c : E) (b : List S)
  | ret (e : E) | retn | brk | cont | pass

/-! ### operations upon values -/
def Hd.lst (h : Hd) (l : Nat) : Option (List D) := match h[l]? with
  | some (.lst xs) => some xs
  | _ => none
def seqOf (h : Hd) : D → Option (List D)
  | .tup xs => some xs
  | .fl xs => some xs
  | .ref l => Hd.lst h l
  | _ => none
mutual
def pur : D → Option PyData
  | .non => some .none
  | .bl b => some (.bool b)
  | .int i => some (.int i)
  | .str x => some (.str x)
  | .tup xs => (purs xs).map .tuple
  | .fl _ => none
  | .ref _ => none
def purs : List D → Option (List PyData)
  | [] => some []
  | d :: ds => (pur d).bind fun x => (purs ds).map fun xs => x :: xs
end
/-- data, read: nothing within is a list of ours, but the whole may be one -/
def dat (h : Hd) : D → Option PyData
  | .ref l => (Hd.lst h l).bind fun xs => (purs xs).map .list
  | .fl xs => (purs xs).map .list
  | d => pur d
def eqD (h : Hd) (x y : D) : Option Bool := (dat h x).bind fun d => (dat h y).bind fun e => if SeqAt.shaped d = true ∧ SeqAt.shaped e = true then some (PyData.eqv d e) else none
def new (xs : List D) (h : Hd) : R D := .ok (.ref h.length) (h ++ [.lst xs])
def setL (l : Nat) (xs : List D) (h : Hd) : Hd := h.set l (.lst xs)
def addD (h : Hd) : D → D → R D
  | .int i, .int j => .ok (.int (i + j)) h
  | .str i, .str j => if i.length + j.length ≤ sizeLine then .ok (.str (i ++ j)) h else .no
  | .tup xs, .tup ys => if xs.length + ys.length ≤ sizeLine then .ok (.tup (xs ++ ys)) h else .no
  | .ref a, .ref b => match Hd.lst h a, Hd.lst h b with
    | some xs, some ys => if xs.length + ys.length ≤ sizeLine then new (xs ++ ys) h else .no
    | _, _ => .no
  | _, _ => .no
def subD (h : Hd) : D → D → R D
  | .int i, .int j => .ok (.int (i - j)) h
  | _, _ => .no
instance (i j : Int) : Decidable (CMul i j) := by unfold CMul; infer_instance
/-- a product that is not too great -/
def CMulW (i j : Int) : Prop := CMul i j ∨ (i.natAbs < 2 ^ 1000 ∧ j.natAbs < 2 ^ 1000)
instance (i j : Int) : Decidable (CMulW i j) := by unfold CMulW; infer_instance
instance (i j : Int) : Decidable (CDivN i j) := by unfold CDivN; infer_instance
instance (i j : Int) : Decidable (CPow i j) := by unfold CPow; infer_instance
def mulD (h : Hd) : D → D → R D
  | .int i, .int j => if CMulW i j then .ok (.int (i * j)) h else .no
  | .tup xs, .int k => if k = 1 then .ok (.tup xs) h else if 2 ≤ k ∧ k ≤ 1000 ∧ 1 ≤ xs.length ∧ xs.length ≤ 1000 then .ok (.tup (List.replicate k.toNat xs).flatten) h else .no
  | .ref a, .int k => match Hd.lst h a with
    | some xs => if -(2 ^ 62) ≤ k ∧ k < 2 ^ 62 ∧ xs.length * k.toNat ≤ sizeLine then new (List.replicate k.toNat xs).flatten h else .no
    | none => .no
  | _, _ => .no
def intD (h : Hd) (C : Int → Int → Prop) [∀ i j, Decidable (C i j)] (g : Int → Int → Int) : D → D → R D
  | .int i, .int j => if C i j then .ok (.int (g i j)) h else .no
  | _, _ => .no
def binD (op : Operator) (x y : D) (h : Hd) : R D := match op with
  | .Add => addD h x y
  | .Sub => subD h x y
  | .Mult => mulD h x y
  | .FloorDiv => intD h CDivN Int.fdiv x y
  | .Mod => intD h (fun _ j => j ≠ 0) Int.fmod x y
  | .Pow => intD h CPow (fun i j => i ^ j.toNat) x y
  | .LShift => intD h CPow (fun i j => i * 2 ^ j.toNat) x y
  | .RShift => intD h (fun _ j => 0 ≤ j) (fun i j => i / 2 ^ j.toNat) x y
  | .BitAnd => intD h (fun _ _ => True) Builtin.bitAnd x y
  | .BitOr => intD h (fun _ _ => True) Builtin.bitOr x y
  | .BitXor => intD h (fun _ _ => True) Builtin.bitXor x y
  | _ => .no
def augD (op : Operator) (x y : D) (h : Hd) : R D := match op with
  | .Add => intD h (fun _ _ => True) (fun i j => i + j) x y
  | .Sub => intD h (fun _ _ => True) (fun i j => i - j) x y
  | _ => .no
def ordD (g : Int → Int → Bool) : D → D → Option Bool
  | .int i, .int j => some (g i j)
  | _, _ => none
def isNon : D → Bool
  | .non => true
  | _ => false
/-- x in a sequence of pure data -/
def inD (h : Hd) (x y : D) : Option Bool := (dat h x).bind fun d => (dat h y).bind fun e => match e with
  | .list ds => if SeqAt.shaped d = true ∧ SeqAt.shaped e = true then some (ds.any fun z => PyData.eqv z d) else none
  | .tuple ds => if SeqAt.shaped d = true ∧ SeqAt.shaped e = true then some (ds.any fun z => PyData.eqv z d) else none
  | _ => none
def cmpD (op : CmpOp) (x y : D) (h : Hd) : Option Bool := match op with
  | .Lt => ordD (fun i j => decide (i < j)) x y
  | .LtE => ordD (fun i j => decide (i ≤ j)) x y
  | .Gt => ordD (fun i j => decide (j < i)) x y
  | .GtE => ordD (fun i j => decide (j ≤ i)) x y
  | .Eq => eqD h x y
  | .NotEq => (eqD h x y).map fun b => !b
  | .Is => match y with
    | .non => some (isNon x)
    | _ => none
  | .IsNot => match y with
    | .non => some (!isNon x)
    | _ => none
  | .In => inD h x y
  | .NotIn => (inD h x y).map fun b => !b
def Rb (o : Option Bool) (h : Hd) : R Bool := match o with
  | some b => .ok b h
  | none => .no
def Rv (o : Option Bool) (h : Hd) : R D := match o with
  | some b => .ok (.bl b) h
  | none => .no
def truth (h : Hd) : D → Option Bool
  | .non => some false
  | .bl b => some b
  | .int i => some (i != 0)
  | .tup xs => some (!xs.isEmpty)
  | .fl xs => some (!xs.isEmpty)
  | .ref l => (Hd.lst h l).map fun xs => !xs.isEmpty
  | .str _ => none
def ixD (x y : D) (h : Hd) : R D := match y with
  | .int i => match (seqOf h x).bind fun xs => atI xs i with
    | some d => .ok d h
    | none => .no
  | _ => .no
def cutD (xs : List D) (lo hi : Option Int) : List D := (xs.drop (HT.sIx xs.length 0 lo)).take (HT.sIx xs.length xs.length hi - HT.sIx xs.length 0 lo)
def part : D → Option (Option Int)
  | .int i => some (some i)
  | _ => none
def slD (x : D) (lo hi : Option Int) (h : Hd) : R D := match x with
  | .tup xs => .ok (.tup (cutD xs lo hi)) h
  | .fl xs => new (cutD xs lo hi) h
  | .ref l => match Hd.lst h l with
    | some xs => new (cutD xs lo hi) h
    | none => .no
  | _ => .no
def lenD (x : D) (h : Hd) : R D := match seqOf h x with
  | some xs => .ok (.int xs.length) h
  | none => .no
def bifD (b : Bif) (xs : List D) (h : Hd) : R D := match b, xs with
  | .len, [x] => lenD x h
  | .abs, [.int i] => .ok (.int (if i < 0 then -i else i)) h
  | .int, [.int i] => .ok (.int i) h
  | .int, [.bl b] => .ok (.int (if b then 1 else 0)) h
  | .bool, [.int i] => .ok (.bl (i != 0)) h
  | .bool, [.bl b] => .ok (.bl b) h
  | .min2, [.int i, .int j] => .ok (.int (if j < i then j else i)) h
  | .str, [.int i] => if i.natAbs.log2 < 1920 then .ok (.str (toString i)) h else .no
  | .max2, [.int i, .int j] => .ok (.int (if j > i then j else i)) h
  | _, _ => .no
def intsOf : List D → Option (List Int)
  | [] => some []
  | .int i :: r => (intsOf r).map fun is => i :: is
  | _ => none
def blsOf : List D → Option (List Bool)
  | [] => some []
  | .bl i :: r => (blsOf r).map fun is => i :: is
  | _ => none
def sqD (b : Sq) (xs : List D) (h : Hd) : R D := match b with
  | .tuple => .ok (.tup xs) h
  | .list => new xs h
  | .sum => match intsOf xs with
    | some is => .ok (.int is.sum) h
    | none => .no
  | .all => match blsOf xs with
    | some bs => .ok (.bl (bs.all id)) h
    | none => .no
  | .any => match blsOf xs with
    | some bs => .ok (.bl (bs.any id)) h
    | none => .no
  | .len => .ok (.int xs.length) h
def isTy (ty : Ty) (h : Hd) : D → Option Bool
  | .non => some false
  | .bl _ => some (ty == .bool || ty == .int)
  | .int _ => some (ty == .int)
  | .str _ => some (ty == .str)
  | .tup _ => some (ty == .tuple)
  | .fl _ => some (ty == .list)
  | .ref l => (Hd.lst h l).map fun _ => ty == .list
def isL (h : Hd) : D → Bool
  | .ref l => (Hd.lst h l).isSome
  | _ => false
def popD (x : D) (h : Hd) : R D := match x with
  | .ref l => match Hd.lst h l with
    | some xs => match xs[xs.length - 1]? with
      | some d => .ok d (setL l xs.dropLast h)
      | none => .no
    | none => .no
  | _ => .no
def popAtD (x y : D) (h : Hd) : R D := match x, y with
  | .ref l, .int i => match Hd.lst h l with
    | some xs => match ixN xs.length i with
      | some k => match xs[k]? with
        | some d => .ok d (setL l (xs.eraseIdx k) h)
        | none => .no
      | none => .no
    | none => .no
  | _, _ => .no
def appD (x y : D) (h : Hd) : R D := match x with
  | .ref l => match Hd.lst h l with
    | some xs => if xs.length < sizeLine then .ok .non (setL l (xs ++ [y]) h) else .no
    | none => .no
  | _ => .no
def extD (x y : D) (h : Hd) : R D := match x, y with
  | .ref l, .ref m => match Hd.lst h l, Hd.lst h m with
    | some xs, some ys => if l ≠ m ∧ xs.length + ys.length ≤ sizeLine then .ok .non (setL l (xs ++ ys) h) else .no
    | _, _ => .no
  | _, _ => .no
def revD (x : D) (h : Hd) : R D := match x with
  | .tup xs => .ok (.tup xs.reverse) h
  | _ => .no
def setD (x y z : D) (h : Hd) : R D := match x, y with
  | .ref l, .int i => match Hd.lst h l with
    | some xs => match ixN xs.length i with
      | some k => .ok .non (setL l (xs.set k z) h)
      | none => .no
    | none => .no
  | _, _ => .no
mutual
def putT : T → D → Sd → Option Sd
  | .v i, d, s => some (s.set i (some d))
  | .t ts, d, s => match d with
    | .tup ds => putTs ts ds s
    | _ => none
def putTs : List T → List D → Sd → Option Sd
  | [], ds, s => match ds with
    | [] => some s
    | _ :: _ => none
  | t :: ts, ds, s => match ds with
    | [] => none
    | d :: ds => (putT t d s).bind fun s' => putTs ts ds s'
end
/-- what a for walks: written items, or a list of ours as it stands -/
inductive Iv where
  | fx (items : List D) | lc (l n : Nat) | le (l n : Nat)
def Iv.len : Iv → Nat
  | .fx xs => xs.length
  | .lc _ n => n
  | .le _ n => n
def Iv.get (j : Iv) (i : Nat) (h : Hd) : Option D := match j with
  | .fx xs => xs[i]?
  | .lc l n => match Hd.lst h l with
    | some ys => if ys.length = n then ys[i]? else none
    | none => none
  | .le l n => match Hd.lst h l with
    | some ys => if ys.length = n then ys[i]?.map fun d => .tup [.int (i : Nat), d] else none
    | none => none
def Iv.fin (j : Iv) (h : Hd) : Bool := match j with
  | .fx _ => true
  | .lc l n => match Hd.lst h l with
    | some ys => ys.length == n
    | none => false
  | .le l n => match Hd.lst h l with
    | some ys => ys.length == n
    | none => false
def itD (d : D) (h : Hd) : R Iv := match d with
  | .tup xs => .ok (.fx xs) h
  | .fl xs => .ok (.fx xs) h
  | .ref l => match Hd.lst h l with
    | some xs => .ok (.lc l xs.length) h
    | none => .no
  | _ => .no
def rangeD (lo : Int) (n : Nat) : List D := (List.range n).map fun i => .int (lo + (i : Nat))
def rangeC (lo c : Int) (n : Nat) : List D := (List.range n).map fun i => .int (lo + (i : Nat) * c)
def small62 (i : Int) : Bool := decide (-(2 ^ 62) ≤ i) && decide (i < 2 ^ 62)
def rng1D (d : D) (h : Hd) : R Iv := match d with
  | .int j => if small62 j then .ok (.fx (rangeD 0 j.toNat)) h else .no
  | _ => .no
def rng2D (d e : D) (h : Hd) : R Iv := match d, e with
  | .int i, .int j => if small62 i && small62 j then .ok (.fx (rangeD i (j - i).toNat)) h else .no
  | _, _ => .no
def rng3D (d e f : D) (h : Hd) : R Iv := match d, e, f with
  | .int i, .int j, .int c => if small62 i && small62 j && c == -1 then .ok (.fx (rangeC i (-1) (i - j).toNat)) h else .no
  | _, _, _ => .no
def enumL : Nat → List D → List D
  | _, [] => []
  | k, d :: ds => .tup [.int k, d] :: enumL (k + 1) ds
def enumD (d : D) (h : Hd) : R Iv := match d with
  | .tup xs => .ok (.fx (enumL 0 xs)) h
  | .fl xs => .ok (.fx (enumL 0 xs)) h
  | .ref l => match Hd.lst h l with
    | some xs => .ok (.le l xs.length) h
    | none => .no
  | _ => .no
def zipD (d e : D) (h : Hd) : R Iv := match d, e with
  | .tup xs, .tup ys => .ok (.fx ((xs.zip ys).map fun p => .tup [p.1, p.2])) h
  | _, _ => .no
def rgsD (b : Bool) (x y : D) (h : Hd) : R D := match x, y with
  | .int i, .int j => if small62 i && small62 j && decide ((j - i).toNat ≤ sizeLine) then (if b then new (rangeD i (j - i).toNat) h else .ok (.tup (rangeD i (j - i).toNat)) h) else .no
  | _, _ => .no
def rgsName (b : Bool) : Str := if b then "list" else "tuple"
def permD (pm : List Nat) (xs : List D) : List D := pm.map fun i => xs.getD i .non
def kwD (C : String → List D → Hd → R D) (f : String) (n m : Nat) (pm : List Nat) (xs ys : List D) (h : Hd) : R D := if xs.length = n ∧ ys.length = m then C f (permD pm (xs ++ ys)) h else .no
def loopC (f : D → Hd → R (Option D)) (j : Iv) : Nat → Nat → List D → Hd → R (List D)
  | 0, i, acc, h => if j.fin h then .ok acc h else .no
  | n + 1, i, acc, h => match j.get i h with
    | some d => (f d h).bind fun o h1 => match o with
      | some y => if acc.length < sizeLine then loopC f j n (i + 1) (acc ++ [y]) h1 else .no
      | none => loopC f j n (i + 1) acc h1
    | none => .no
def loopS (f : D → Sd → Hd → RS) (j : Iv) : Nat → Nat → Sd → Hd → RS
  | 0, i, s, h => if j.fin h then .nx s h else .no
  | n + 1, i, s, h => match j.get i h with
    | some d => match f d s h with
      | .nx s1 h1 => loopS f j n (i + 1) s1 h1
      | .ct s1 h1 => loopS f j n (i + 1) s1 h1
      | .bk s1 h1 => .nx s1 h1
      | r => r
    | none => .no
def loopW (c : Sd → Hd → R Bool) (f : Sd → Hd → RS) : Nat → Sd → Hd → RS
  | 0, s, h => .no
  | n + 1, s, h => (c s h).thn s fun b h1 => if b then (match f s h1 with
      | .nx s1 h2 => loopW c f n s1 h2
      | .ct s1 h2 => loopW c f n s1 h2
      | .bk s1 h2 => .nx s1 h2
      | r => r) else .nx s h1
def RS.seq : RS → (Sd → Hd → RS) → RS
  | .nx s h, f => f s h
  | r, _ => r
def wipeD (s : Sd) : List Nat → Sd
  | [] => s
  | v :: vs => (wipeD s vs).set v none
/-- no exception leaves a comprehension -/
def R.quiet {α : Type} : R α → R α
  | .err _ _ => .no
  | r => r

/-! ### within an except suite -/
mutual
def evHQ (x : Xn) : HQ → Option Bool
  | .isx _ tb => tb.lookup x.cls
  | .not_ a => (evHQ x a).map fun b => !b
  | .and_ es => evHQs x es
def evHQs (x : Xn) : List HQ → Option Bool
  | [] => some true
  | a :: as => (evHQ x a).bind fun k => if k then evHQs x as else some false
end
def evA (x : Xn) : HA → Option D
  | .str s => some (.str s)
  | .int i => some (.int i)
  | .bl b => some (.bl b)
  | .non => some .non
  | .fld f => x.fs.lookup f
  | .ite c a b => (evHQ x c).bind fun k => if k then evA x a else evA x b
def evAl (x : Xn) : List HA → Option (List D)
  | [] => some []
  | a :: as => (evA x a).bind fun d => (evAl x as).map fun ds => d :: ds
def evHR (x : Xn) : HR → Option D
  | .a a => evA x a
  | .t as => (evAl x as).bind fun ds => if ds.length ≤ 100 then some (.tup ds) else none
def evHS (x : Xn) : List HS → Sd → Hd → RS
  | [], s, h => .nx s h
  | .ret r :: _, _, h => match evHR x r with
    | some d => .ret d h
    | none => .no
  | .ifr c r :: k, s, h => match evHQ x c with
    | some b => if b then (match evHR x r with
      | some d => .ret d h
      | none => .no) else evHS x k s h
    | none => .no
def raiseD (c : String) (fs : List String) (xs : List D) (s : Sd) (h : Hd) : RS := if xs.length = fs.length ∧ xs.length ≤ 100 then .err ⟨c, (fs.zip xs).reverse⟩ s h else .no
def tryD (r : RS) (i : Nat) (tb : List (String × Bool)) (hs : List HS) : RS := match r with
  | .err x s h => match tb.lookup x.cls with
    | some b => if b then (if i < s.length then evHS x hs (s.set i none) h else .no) else .err x s h
    | none => .no
  | r => r
/-! ### evaluation -/
/-- an expression as a value, a test, a sequence that is read, something walked, a slice's part -/
structure M where
  v : Sd → Hd → R D
  t : Sd → Hd → R Bool
  q : Sd → Hd → R (List D)
  i : Sd → Hd → R Iv
  p : Sd → Hd → R (Option Int)
def mkM (v : Sd → Hd → R D) : M where
  v := v
  t := fun s h => (v s h).bind fun x h1 => Rb (truth h1 x) h1
  q := fun s h => (v s h).bind fun x h1 => match seqOf h1 x with
    | some xs => .ok xs h1
    | none => .no
  i := fun s h => (v s h).bind fun x h1 => itD x h1
  p := fun s h => (v s h).bind fun x h1 => match x with
    | .int i => .ok (some i) h1
    | _ => .no
def noM : M := mkM fun _ _ => .no
def allV : List M → Sd → Hd → R (List D)
  | [], _, h => .ok [] h
  | e :: es, s, h => (e.v s h).bind fun x h1 => (allV es s h1).bind fun xs h2 => .ok (x :: xs) h2
def andV : List M → Sd → Hd → R D
  | [], _, _ => .no
  | [e], s, h => e.v s h
  | e :: es, s, h => (e.v s h).bind fun x h1 => match x with
    | .bl b => if b then andV es s h1 else .ok (.bl false) h1
    | _ => .no
def orV : List M → Sd → Hd → R D
  | [], _, _ => .no
  | [e], s, h => e.v s h
  | e :: es, s, h => (e.v s h).bind fun x h1 => match x with
    | .bl b => if b then .ok (.bl true) h1 else orV es s h1
    | _ => .no
def andT : List M → Sd → Hd → R Bool
  | [], _, _ => .no
  | [e], s, h => e.t s h
  | e :: es, s, h => (e.t s h).bind fun b h1 => if b then andT es s h1 else .ok false h1
def orT : List M → Sd → Hd → R Bool
  | [], _, _ => .no
  | [e], s, h => e.t s h
  | e :: es, s, h => (e.t s h).bind fun b h1 => if b then .ok true h1 else orT es s h1
def ifsT : List M → Sd → Hd → R Bool
  | [], _, h => .ok true h
  | [e], s, h => e.t s h
  | _, _, _ => .no
abbrev turnC (f : D → Sd → Option Sd) (evt : Sd → Hd → R Bool) (ev : Sd → Hd → R D) (own : List Nat) (s : Sd) : D → Hd → R (Option D) := fun d h2 => match f d (wipeD s own) with
  | some s1 => (evt s1 h2).bind fun b h3 => if b then (ev s1 h3).bind fun y h4 => .ok (some y) h4 else .ok none h3
  | none => .no
section
variable (G : Str → Option D) (C : String → List D → Hd → R D) (F : Nat)
mutual
def evM : E → M
  | .var i => mkM fun s h => match s[i]? with
    | some (some d) => .ok d h
    | _ => .no
  | .int i => mkM fun _ h => .ok (.int i) h
  | .bl b => mkM fun _ h => .ok (.bl b) h
  | .non => mkM fun _ h => .ok .non h
  | .str x => mkM fun _ h => .ok (.str x) h
  | .glob x => mkM fun _ h => match G x with
    | some d => .ok d h
    | none => .no
  | .bin op a b => mkM fun s h => ((evM a).v s h).bind fun x h1 => ((evM b).v s h1).bind fun y h2 => binD op x y h2
  | .neg a => mkM fun s h => ((evM a).v s h).bind fun x h1 => match x with
    | .int i => .ok (.int (-i)) h1
    | _ => .no
  | .cmp op a b => mkM fun s h => ((evM a).v s h).bind fun x h1 => ((evM b).v s h1).bind fun y h2 => Rv (cmpD op x y h2) h2
  | .chain op op' a b c => mkM fun s h => ((evM a).v s h).bind fun x h1 => ((evM b).v s h1).bind fun y h2 => (Rb (cmpD op x y h2) h2).bind fun k h3 => if k then ((evM c).v s h3).bind fun z h4 => Rv (cmpD op' y z h4) h4 else .ok (.bl false) h3
  | .and_ es => { mkM (andV (evMs es)) with t := andT (evMs es) }
  | .or_ es => { mkM (orV (evMs es)) with t := orT (evMs es) }
  | .not_ a => { mkM (fun s h => ((evM a).v s h).bind fun x h1 => match x with
    | .bl b => .ok (.bl (!b)) h1
    | _ => .no) with t := fun s h => ((evM a).t s h).bind fun b h1 => .ok (!b) h1 }
  | .ite c a b => mkM fun s h => ((evM c).t s h).bind fun k h1 => if k then (evM a).v s h1 else (evM b).v s h1
  | .tup es => mkM fun s h => (allV (evMs es) s h).bind fun xs h1 => if xs.length ≤ sizeLine then .ok (.tup xs) h1 else .no
  | .lst es => mkM fun s h => (allV (evMs es) s h).bind fun xs h1 => if xs.length ≤ sizeLine then new xs h1 else .no
  | .ix a i => mkM fun s h => ((evM a).v s h).bind fun x h1 => ((evM i).v s h1).bind fun y h2 => ixD x y h2
  | .sl a lo hi => mkM fun s h => ((evM a).v s h).bind fun x h1 => ((evM lo).p s h1).bind fun l h2 => ((evM hi).p s h2).bind fun u h3 => slD x l u h3
  | .hole => { noM with p := fun _ h => .ok none h }
  | .call f es => mkM fun s h => (allV (evMs es) s h).bind fun xs h1 => C f xs h1
  | .callk f ks pm es kes => mkM fun s h => (allV (evMs es) s h).bind fun xs h1 => (allV (evMs kes) s h1).bind fun ys h2 => kwD C f es.length ks.length pm xs ys h2
  | .rgs b a => mkM fun s h => ((evM a).v s h).bind fun x h1 => rgsD b (.int 0) x h1
  | .rgs2 b a c => mkM fun s h => ((evM a).v s h).bind fun x h1 => ((evM c).v s h1).bind fun y h2 => rgsD b x y h2
  | .bif b es => mkM fun s h => (allV (evMs es) s h).bind fun xs h1 => bifD b xs h1
  | .seq b a => mkM fun s h => ((evM a).q s h).bind fun xs h1 => sqD b xs h1
  | .isi a ty => mkM fun s h => ((evM a).v s h).bind fun x h1 => Rv (isTy ty h1 x) h1
  | .pop a => mkM fun s h => ((evM a).v s h).bind fun x h1 => popD x h1
  | .popAt a i => mkM fun s h => ((evM a).v s h).bind fun x h1 => if isL h1 x then ((evM i).v s h1).bind fun y h2 => popAtD x y h2 else .no
  | .app a x => mkM fun s h => ((evM a).v s h).bind fun x1 h1 => if isL h1 x1 then ((evM x).v s h1).bind fun y h2 => appD x1 y h2 else .no
  | .rev a => mkM fun s h => ((evM a).v s h).bind fun x h1 => revD x h1
  | .ext a x => mkM fun s h => ((evM a).v s h).bind fun x1 h1 => if isL h1 x1 then ((evM x).v s h1).bind fun y h2 => extD x1 y h2 else .no
  | .comp elt tg it ifs own => { mkM (fun s h => ((evM it).i s h).bind fun j h1 => (loopC (turnC (putT tg) (ifsT (evMs ifs)) (evM elt).v own s) j j.len 0 [] h1).quiet.bind fun xs h2 => new xs h2) with
      q := fun s h => ((evM it).i s h).bind fun j h1 => (loopC (turnC (putT tg) (ifsT (evMs ifs)) (evM elt).v own s) j j.len 0 [] h1).quiet }
  | .comp2 .. => noM
  | .rng1 a => { noM with i := fun s h => ((evM a).v s h).bind fun x h1 => rng1D x h1 }
  | .rng2 a b => { noM with i := fun s h => ((evM a).v s h).bind fun x h1 => ((evM b).v s h1).bind fun y h2 => rng2D x y h2 }
  | .rng3 a b c => { noM with i := fun s h => ((evM a).v s h).bind fun x h1 => ((evM b).v s h1).bind fun y h2 => ((evM c).v s h2).bind fun z h3 => rng3D x y z h3 }
  | .enum a => { noM with i := fun s h => ((evM a).v s h).bind fun x h1 => enumD x h1 }
  | .zip a b => { noM with i := fun s h => ((evM a).v s h).bind fun x h1 => ((evM b).v s h1).bind fun y h2 => zipD x y h2 }
def evMs : List E → List M
  | [] => []
  | e :: es => evM e :: evMs es
end
abbrev evE (e : E) : Sd → Hd → R D := (evM G C e).v
abbrev evT (e : E) : Sd → Hd → R Bool := (evM G C e).t
abbrev evI (e : E) : Sd → Hd → R Iv := (evM G C e).i
mutual
def evS : S → Sd → Hd → RS
  | .raise_ c fs es => fun s h => (allV (evMs G C es) s h).thn s fun xs h1 => raiseD c fs xs s h1
  | .try_ b _ i tb hs => fun s h => tryD (evSs b s h) i tb hs
  | .expr e => fun s h => (evE G C e s h).thn s fun _ h1 => .nx s h1
  | .asg t e => fun s h => (evE G C e s h).thn s fun x h1 => match putT t x s with
    | some s1 => .nx s1 h1
    | none => .no
  | .setix a i e => fun s h => (evE G C e s h).thn s fun z h1 => (evE G C a s h1).thn s fun x h2 => (evE G C i s h2).thn s fun y h3 => (setD x y z h3).thn s fun _ h4 => .nx s h4
  | .aug i op e => fun s h => match s[i]? with
    | some (some x) => (evE G C e s h).thn s fun y h1 => (augD op x y h1).thn s fun z h2 => .nx (s.set i (some z)) h2
    | _ => .no
  | .if_ c a b => fun s h => (evT G C c s h).thn s fun k h1 => if k then evSs a s h1 else evSs b s h1
  | .for_ t it b => fun s h => (evI G C it s h).thn s fun j h1 => loopS (fun d s1 h2 => match putT t d s1 with
    | some s2 => evSs b s2 h2
    | none => .no) j j.len 0 s h1
  | .while_ c b => fun s h => loopW (evT G C c) (evSs b) F s h
  | .ret e => fun s h => (evE G C e s h).thn s fun x h1 => .ret x h1
  | .retn => fun _ h => .ret .non h
  | .brk => fun s h => .bk s h
  | .cont => fun s h => .ct s h
  | .pass => fun s h => .nx s h
def evSs : List S → Sd → Hd → RS
  | [] => fun s h => .nx s h
  | x :: xs => fun s h => (evS x s h).seq fun s1 h1 => evSs xs s1 h1
end
end
end Ev

set_option Elab.async false
set_option linter.all false
set_option maxRecDepth 100000
namespace Ev
open PySem PySem.Spec PyProof.Rows L2

section
variable {κ : Kx} {ρ ρ' ρ1 ρ2 : List Addr} {H H' H1 H2 : Hp} {h h' h1 : Hd} {sd : Sd} {σ : L2.St} {x y d : D} {ds xs ys : List D} {v u : V} {vs ws : List V} {Q : VK} {E : XK}
theorem Hd.lst_eq {l : Nat} (e : Hd.lst h l = some xs) : h[l]? = some (.lst xs) := by
  unfold Hd.lst at e
  split at e
  · rename_i q; cases e; exact q
  · cases e
theorem Sim.lst (S : Sim κ ρ h H) {l : Nat} (e : Hd.lst h l = some xs) : ∃ a vs, ρ[l]? = some a ∧ H a = some (.lst vs) ∧ Reps κ ρ H xs vs := by
  obtain ⟨a, e1, vs, e2, r⟩ := S.get (Hd.lst_eq e)
  exact ⟨a, vs, e1, e2, r⟩
/-- a sequence read -/
theorem Sim.sq (S : Sim κ ρ h H) (e : seqOf h x = some xs) (r : Rep κ ρ H x v) : rQ κ ρ H xs v := by
  cases x with
  | tup zs => cases e; obtain ⟨a, vs, rfl, q, rs⟩ := r; exact ⟨a, vs, rfl, .inr q, rs⟩
  | fl zs => cases e; obtain ⟨a, vs, rfl, q, rs⟩ := r; exact ⟨a, vs, rfl, .inl q.seq, rs⟩
  | ref l =>
    obtain ⟨a, vs, e1, e2, rs⟩ := S.lst e
    obtain ⟨a', e3, rfl⟩ := r
    rw [e1] at e3; cases e3
    exact ⟨a, vs, rfl, .inl (.of e2), rs⟩
  | non => cases e
  | bl _ => cases e
  | int _ => cases e
  | str _ => cases e
theorem Sim.push (S : Sim κ ρ h H) (r : Reps κ ρ H xs vs) {p : Addr} (n : H p = none) : Sim κ (ρ ++ [p]) (h ++ [.lst xs]) (upd H p (.lst vs)) := by
  have x : Ext ρ (ρ ++ [p]) H (upd H p (.lst vs)) := .newL n
  have hp : p ∉ ρ := fun z => by
    obtain ⟨ys, q⟩ := S.held z
    rw [n] at q; cases q
  refine ⟨by simp [S.len], List.nodup_append.mpr ⟨S.nd, by simp, fun a ha b hb => by rintro rfl; exact hp (by simpa [show a = p by simpa using hb] using ha)⟩, fun l o a e1 e2 => ?_⟩
  by_cases hl : l < h.length
  · rw [List.getElem?_append_left hl] at e1
    rw [List.getElem?_append_left (by rw [S.len]; exact hl)] at e2
    refine (S.ob l o a e1 e2).ext x ?_
    rw [upd_ne]
    rintro rfl
    exact hp (List.mem_of_getElem? e2)
  · have hl2 : l = h.length := by
      have := (List.getElem?_eq_some_iff.mp e1).1
      simp at this; omega
    subst hl2
    rw [List.getElem?_append_right (Nat.le_refl _)] at e1
    rw [← S.len, List.getElem?_append_right (Nat.le_refl _)] at e2
    simp at e1 e2
    subst e1 e2
    exact ⟨vs, upd_same, r.mono x⟩
theorem Post.new (p : Post κ (rD κ) ρ H (new xs h) Q E) (S : Sim κ ρ h H) (r : Reps κ ρ H xs vs) : ∀ a, H a = none → Q (.ref a) (upd H a (.lst vs)) := fun a n =>
  p (ρ ++ [a]) _ _ (.newL n) (S.push r n) ⟨a, by rw [← S.len]; simp, rfl⟩
theorem Post.tup (p : Post κ (rD κ) ρ H (.ok (.tup xs) h) Q E) (S : Sim κ ρ h H) (r : Reps κ ρ H xs vs) : ∀ a, H a = none → Q (.ref a) (upd H a (.tup vs)) := fun a n =>
  p ρ _ _ (.alloc n) (S.alloc n) ⟨a, vs, rfl, .of upd_same, r.mono (.alloc n)⟩
theorem Ext.write {a : Addr} {l : Nat} (S : Sim κ ρ h H) (e : ρ[l]? = some a) {o : HO} : Ext ρ ρ H (upd H a o) := by
  obtain ⟨ys, q⟩ := S.held (List.mem_of_getElem? e)
  refine ⟨List.prefix_rfl, fun b zs z => ?_, fun b o u z => ?_, fun b o z nb => ?_, fun b h1 h2 => absurd h1 h2⟩
  · rw [upd_ne (by rintro rfl; rw [q] at z; cases z)]; exact z
  · rw [upd_ne (by rintro rfl; rw [q] at z; cases z)]; exact z
  · rw [upd_ne (by rintro rfl; exact nb (List.mem_of_getElem? e))]; exact z
theorem Sim.write {a : Addr} {l : Nat} (S : Sim κ ρ h H) (e : ρ[l]? = some a) (r : Reps κ ρ H xs vs) : Sim κ ρ (setL l xs h) (upd H a (.lst vs)) := by
  have x := Ext.write (o := .lst vs) S e
  refine ⟨by simp [setL, S.len], S.nd, fun k o b e1 e2 => ?_⟩
  by_cases hk : l = k
  · subst hk
    rw [e] at e2; cases e2
    have hl : l < h.length := by rw [← S.len]; exact (List.getElem?_eq_some_iff.mp e).1
    rw [setL, List.getElem?_set_self hl] at e1
    cases e1
    exact ⟨vs, upd_same, r.mono x⟩
  · rw [setL, List.getElem?_set_ne hk] at e1
    refine (S.ob k o b e1 e2).ext x ?_
    rw [upd_ne]
    rintro rfl
    refine hk ?_
    obtain ⟨h1, e1⟩ := List.getElem?_eq_some_iff.mp e
    obtain ⟨h2, e2⟩ := List.getElem?_eq_some_iff.mp e2
    exact (List.getElem_inj S.nd).mp (e1.trans e2.symm)
theorem Post.set {a : Addr} {l : Nat} {w : V} (p : Post κ (rD κ) ρ H (.ok d (setL l xs h)) Q E) (S : Sim κ ρ h H) (e : ρ[l]? = some a) (r : Reps κ ρ H xs vs) (q : Rep κ ρ H d w) : Q w (upd H a (.lst vs)) :=
  p ρ _ _ (.write S e) (S.write e r) (q.mono (.write S e))
theorem rep_int {i : Int} (r : Rep κ ρ H (.int i) v) : v = .int i := r
theorem rep_bl {i : Bool} (r : Rep κ ρ H (.bl i) v) : v = .bl i := r
end

/-! ### what the operators' rules ask -/
section
variable {κ : Kx} {X : Cx} {ρ : List Addr} {H : Hp} {h : Hd} {x y : D} {v u : V} {Q : VK} {E : XK}
/-- a rule serves an operation -/
structure Op2 (κ : Kx) (f : D → D → Hd → R D) (r : R2) : Prop where
  run : ∀ ρ H h x y v u Q E, Sim κ ρ h H → Rep κ ρ H x v → Rep κ ρ H y u → Post κ (rD κ) ρ H (f x y h) Q E → r v u H Q
theorem Op2.int {f : D → D → Hd → R D} {C : Int → Int → Prop} [∀ i j, Decidable (C i j)] {g : Int → Int → Int} (hf : ∀ x y h, f x y h = intD h C g x y) : Op2 κ f (rI C fun i j => .int (g i j)) := by
  refine ⟨fun ρ H h x y v u Q E S r1 r2 p => ?_⟩
  rw [hf] at p
  cases x <;> try exact p.elim
  cases y <;> try exact p.elim
  rename_i i j
  unfold intD at p
  simp only at p
  split at p
  · rename_i c
    exact ⟨i, j, rep_int r1, rep_int r2, c, p.here S rfl⟩
  · exact p.elim
theorem Op2.int0 {f : D → D → Hd → R D} {g : Int → Int → Int} (hf : ∀ x y h, f x y h = intD h (fun _ _ => True) g x y) : Op2 κ f (rI0 fun i j => .int (g i j)) := by
  refine ⟨fun ρ H h x y v u Q E S r1 r2 p => ?_⟩
  obtain ⟨i, j, e1, e2, _, q⟩ := (Op2.int (κ := κ) hf).run ρ H h x y v u Q E S r1 r2 p
  exact ⟨i, j, e1, e2, q⟩
abbrev rAddA (K : PySem.W.Frag) : R2 := fun x y H Q => (rI0 fun i j => .int (i + j)) x y H Q ∨ (rCatA K x y H Q ∨ (rCat x y H Q ∨ ∃ i j, x = .str i ∧ y = .str j ∧ i.length + j.length ≤ sizeLine ∧ Q (.str (i ++ j)) H))
theorem op_addA : OpR X (binaryOp .Add) (rAddA X.K) := op_add.or (op_catA.or (op_cat.or op_add_str))
theorem ad_add : Op2 κ (binD .Add) (rAddA κ.K) := by
  refine ⟨fun ρ H h x y v u Q E S r1 r2 p => ?_⟩
  unfold binD at p
  simp only at p
  unfold addD at p
  split at p
  · rename_i i j
    exact .inl ⟨i, j, rep_int r1, rep_int r2, p.here S rfl⟩
  · rename_i i j
    split at p
    · rename_i c
      exact .inr (.inr (.inr ⟨i, j, r1, r2, c, p.here S rfl⟩))
    · exact p.elim
  · rename_i xs ys
    split at p
    · rename_i c
      obtain ⟨a, vs, rfl, q1, s1⟩ := r1
      obtain ⟨b, ws, rfl, q2, s2⟩ := r2
      refine .inr (.inl ⟨a, b, vs, ws, rfl, rfl, q1, q2, by rw [← s1.length, ← s2.length]; exact c, fun e => ?_, fun _ e => ?_, fun _ _ => p.tup S (s1.append s2)⟩)
      · subst e
        have : xs = [] := List.length_eq_zero_iff.mp (by rw [s1.length]; rfl)
        subst this
        exact p.here S ⟨b, ws, rfl, q2, s2⟩
      · subst e
        have : ys = [] := List.length_eq_zero_iff.mp (by rw [s2.length]; rfl)
        subst this
        exact p.here S ⟨a, vs, rfl, q1, by rw [List.append_nil]; exact s1⟩
    · exact p.elim
  · rename_i l k
    split at p
    · rename_i xs ys e1 e2
      split at p
      · rename_i c
        obtain ⟨a, vs, p1, q1, s1⟩ := S.lst e1
        obtain ⟨b, ws, p2, q2, s2⟩ := S.lst e2
        obtain ⟨a', z1, rfl⟩ := r1
        obtain ⟨b', z2, rfl⟩ := r2
        rw [p1] at z1; cases z1
        rw [p2] at z2; cases z2
        exact .inr (.inr (.inl ⟨a, b, vs, ws, rfl, rfl, q1, q2, by rw [← s1.length, ← s2.length]; exact c, p.new S (s1.append s2)⟩))
      · exact p.elim
    · exact p.elim
  · exact p.elim
theorem ad_sub : Op2 κ (binD .Sub) (rI0 fun i j => .int (i - j)) := by
  refine ⟨fun ρ H h x y v u Q E S r1 r2 p => ?_⟩
  unfold binD at p
  simp only at p
  unfold subD at p
  split at p
  · rename_i i j
    exact ⟨i, j, rep_int r1, rep_int r2, p.here S rfl⟩
  · exact p.elim
theorem ad_fdiv : Op2 κ (binD .FloorDiv) (rI CDivN fun i j => .int (i.fdiv j)) := .int fun _ _ _ => rfl
theorem ad_mod : Op2 κ (binD .Mod) (rI (fun _ j => j ≠ 0) fun i j => .int (i.fmod j)) := .int fun _ _ _ => rfl
theorem ad_pow : Op2 κ (binD .Pow) (rI CPow fun i j => .int (i ^ j.toNat)) := .int fun _ _ _ => rfl
theorem ad_shl : Op2 κ (binD .LShift) (rI CPow fun i j => .int (i * 2 ^ j.toNat)) := .int fun _ _ _ => rfl
theorem ad_shr : Op2 κ (binD .RShift) (rI (fun _ j => 0 ≤ j) fun i j => .int (i / 2 ^ j.toNat)) := .int fun _ _ _ => rfl
theorem ad_and : Op2 κ (binD .BitAnd) (rI0 fun i j => .int (Builtin.bitAnd i j)) := .int0 fun _ _ _ => rfl
theorem ad_or : Op2 κ (binD .BitOr) (rI0 fun i j => .int (Builtin.bitOr i j)) := .int0 fun _ _ _ => rfl
theorem ad_xor : Op2 κ (binD .BitXor) (rI0 fun i j => .int (Builtin.bitXor i j)) := .int0 fun _ _ _ => rfl
end
end Ev

set_option Elab.async false
set_option linter.all false
set_option maxRecDepth 100000
namespace Ev
open PySem PySem.Spec PyProof.Rows L2

section
variable {κ : Kx} {ρ : List Addr} {H : Hp} {h : Hd}
mutual
theorem pur_dp (S : Sim κ ρ h H) : ∀ (x : D) (v : V) (d : PyData), pur x = some d → Rep κ ρ H x v → Dp κ.K H v d
  | .non, v, d, e, r => by cases e; cases (show v = .non from r); exact .non
  | .bl b, v, d, e, r => by cases e; cases (show v = .bl b from r); exact .bl b
  | .int i, v, d, e, r => by cases e; cases (show v = .int i from r); exact .int i
  | .str z, v, d, e, r => by cases e; cases (show v = .str z from r); exact .str z
  | .tup xs, v, d, e, r => by
    obtain ⟨a, vs, rfl, q, rs⟩ := r
    unfold pur at e
    obtain ⟨es, e1, rfl⟩ := Option.map_eq_some_iff.mp e
    exact .tup q (purs_dp S xs vs es e1 rs)
  | .fl _, v, d, e, r => by cases e
  | .ref _, v, d, e, r => by cases e
theorem purs_dp (S : Sim κ ρ h H) : ∀ (xs : List D) (vs : List V) (ds : List PyData), purs xs = some ds → Reps κ ρ H xs vs → DpAll κ.K H vs ds
  | [], vs, ds, e, r => by
    have : vs = [] := r
    subst this
    cases e
    exact .nil
  | x :: xs, vs, ds, e, r => by
    obtain ⟨v, w, rfl, r1, r2⟩ := r
    unfold purs at e
    obtain ⟨d, e1, e2⟩ := Option.bind_eq_some_iff.mp e
    obtain ⟨es, e3, rfl⟩ := Option.map_eq_some_iff.mp e2
    exact .cons (pur_dp S x v d e1 r1) (purs_dp S xs w es e3 r2)
end
theorem dat_dp (S : Sim κ ρ h H) {x : D} {v : V} {d : PyData} (e : dat h x = some d) (r : Rep κ ρ H x v) : Dp κ.K H v d := by
  cases x with
  | ref l =>
    unfold dat at e
    obtain ⟨xs, e1, e2⟩ := Option.bind_eq_some_iff.mp e
    obtain ⟨es, e3, rfl⟩ := Option.map_eq_some_iff.mp e2
    obtain ⟨a, vs, p1, q1, rs⟩ := S.lst e1
    obtain ⟨a', z, rfl⟩ := r
    rw [p1] at z; cases z
    exact .lst (.of q1) (purs_dp S xs vs es e3 rs)
  | fl xs =>
    unfold dat at e
    obtain ⟨es, e3, rfl⟩ := Option.map_eq_some_iff.mp e
    obtain ⟨a, vs, rfl, q1, rs⟩ := r
    exact .lst q1.seq (purs_dp S xs vs es e3 rs)
  | non => exact pur_dp S _ v d e r
  | bl _ => exact pur_dp S _ v d e r
  | int _ => exact pur_dp S _ v d e r
  | str _ => exact pur_dp S _ v d e r
  | tup _ => exact pur_dp S _ v d e r
/-! ### comparisons -/
variable {X : Cx}
structure Cmp2 (κ : Kx) (f : D → D → Hd → Option Bool) (r : R2) : Prop where
  run : ∀ ρ H h x y v u (Q : VK) b, Sim κ ρ h H → Rep κ ρ H x v → Rep κ ρ H y u → f x y h = some b → Q (.bl b) H → r v u H Q
theorem Cmp2.int {f : D → D → Hd → Option Bool} {g : Int → Int → Bool} (hf : ∀ x y h, f x y h = ordD g x y) : Cmp2 κ f (rI0 fun i j => .bl (g i j)) := by
  refine ⟨fun ρ H h x y v u Q b S r1 r2 e q => ?_⟩
  rw [hf] at e
  unfold ordD at e
  split at e
  · cases e; exact ⟨_, _, r1, r2, q⟩
  · cases e
theorem ad_eq : Cmp2 κ (cmpD .Eq) (rEqD κ.K) := by
  refine ⟨fun ρ H h x y v u Q b S r1 r2 e q => ?_⟩
  replace e : eqD h x y = some b := e
  unfold eqD at e
  obtain ⟨d, e1, e⟩ := Option.bind_eq_some_iff.mp e
  obtain ⟨d', e2, e⟩ := Option.bind_eq_some_iff.mp e
  split at e
  · rename_i c
    cases e
    exact ⟨d, d', dat_dp S e1 r1, dat_dp S e2 r2, c.1, c.2, q⟩
  · cases e
theorem ad_ne : Cmp2 κ (cmpD .NotEq) (rNeD κ.K) := by
  refine ⟨fun ρ H h x y v u Q b S r1 r2 e q => ?_⟩
  replace e : (eqD h x y).map _ = some b := e
  obtain ⟨c, e0, rfl⟩ := Option.map_eq_some_iff.mp e
  replace e := e0
  unfold eqD at e
  obtain ⟨d, e1, e⟩ := Option.bind_eq_some_iff.mp e
  obtain ⟨d', e2, e⟩ := Option.bind_eq_some_iff.mp e
  split at e
  · rename_i c
    cases e
    exact ⟨d, d', dat_dp S e1 r1, dat_dp S e2 r2, c.1, c.2, q⟩
  · cases e
theorem non_iff {x : D} {v : V} (r : Rep κ ρ H x v) : decide (v = .non) = isNon x := by
  cases x with
  | non => cases (show v = .non from r); rfl
  | bl b => cases (show v = .bl b from r); rfl
  | int i => cases (show v = .int i from r); rfl
  | str z => cases (show v = .str z from r); rfl
  | tup xs => obtain ⟨a, vs, rfl, _⟩ := r; rfl
  | fl xs => obtain ⟨a, vs, rfl, _⟩ := r; rfl
  | ref l => obtain ⟨a, _, rfl⟩ := r; rfl
theorem ad_is : Cmp2 κ (cmpD .Is) (fun x y H Q => y = .non ∧ Q (.bl (decide (x = .non))) H) := by
  refine ⟨fun ρ H h x y v u Q b S r1 r2 e q => ?_⟩
  unfold cmpD at e
  cases y <;> try cases e
  cases (show u = .non from r2)
  exact ⟨rfl, by rw [non_iff r1]; exact q⟩
theorem ad_isn : Cmp2 κ (cmpD .IsNot) (fun x y H Q => y = .non ∧ Q (.bl (!decide (x = .non))) H) := by
  refine ⟨fun ρ H h x y v u Q b S r1 r2 e q => ?_⟩
  unfold cmpD at e
  cases y <;> try cases e
  cases (show u = .non from r2)
  exact ⟨rfl, by rw [non_iff r1]; exact q⟩
/-- in, not in: a list or a tuple of data -/
def rInA (K : PySem.W.Frag) (neg : Bool) : R2 := fun x y H Q => ∃ d e ds, Dp K H x d ∧ Dp K H y e ∧ (e = .list ds ∨ e = .tuple ds) ∧ SeqAt.shaped d = true ∧ SeqAt.shaped e = true ∧ Q (.bl (if neg then !(ds.any fun z => PyData.eqv z d) else ds.any fun z => PyData.eqv z d)) H
theorem room_in {d : PyData} {xs : List PyData} {A : Around} (sd : SeqAt.shaped d = true) (hu : A.units + 65 < cLine) : A.units + 1 + min (PyData.depthAll xs) d.depth < cLine := by
  have h1 := SeqAt.depth_of_shaped sd
  have h2 : min (PyData.depthAll xs) d.depth ≤ d.depth := Nat.min_le_right _ _
  omega
theorem op_inA (hu : X.A.units + 65 < cLine) : OpR X (compareOp .In) (rInA X.K false) := by
  intro pins s σ H x y v u Q I rx ry h
  obtain ⟨d, e, ds, hd, he, he2, sd, se, q⟩ := h
  obtain ⟨as, r1⟩ := Dp.reads I d x v hd rx
  obtain ⟨bs, r2⟩ := Dp.reads I e y u he ry
  rcases he2 with rfl | rfl
  · exact SeqAt.in_list_reads r2 r1 (SeqAt.canLay_of_shaped se) (SeqAt.canLay_of_shaped sd) (room_in sd hu) ⟨.bl _, H, I, rfl, q⟩
  · exact SeqAt.in_tuple_reads r2 r1 (SeqAt.canLay_of_shaped se) (SeqAt.canLay_of_shaped sd) (room_in sd hu) ⟨.bl _, H, I, rfl, q⟩
theorem op_ninA (hu : X.A.units + 65 < cLine) : OpR X (compareOp .NotIn) (rInA X.K true) := by
  intro pins s σ H x y v u Q I rx ry h
  obtain ⟨d, e, ds, hd, he, he2, sd, se, q⟩ := h
  obtain ⟨as, r1⟩ := Dp.reads I d x v hd rx
  obtain ⟨bs, r2⟩ := Dp.reads I e y u he ry
  rcases he2 with rfl | rfl
  · exact SeqAt.notIn_list_reads r2 r1 (SeqAt.canLay_of_shaped se) (SeqAt.canLay_of_shaped sd) (room_in sd hu) ⟨.bl _, H, I, rfl, q⟩
  · exact SeqAt.notIn_tuple_reads r2 r1 (SeqAt.canLay_of_shaped se) (SeqAt.canLay_of_shaped sd) (room_in sd hu) ⟨.bl _, H, I, rfl, q⟩
theorem ad_in0 {x y : D} {v u : V} {b : Bool} (S : Sim κ ρ h H) (r1 : Rep κ ρ H x v) (r2 : Rep κ ρ H y u) (e : inD h x y = some b) :
    ∃ d e ds, Dp κ.K H v d ∧ Dp κ.K H u e ∧ (e = .list ds ∨ e = .tuple ds) ∧ SeqAt.shaped d = true ∧ SeqAt.shaped e = true ∧ (ds.any fun z => PyData.eqv z d) = b := by
  unfold inD at e
  obtain ⟨d, e1, e⟩ := Option.bind_eq_some_iff.mp e
  obtain ⟨d', e2, e⟩ := Option.bind_eq_some_iff.mp e
  split at e
  · rename_i ds
    split at e
    · rename_i c
      exact ⟨d, _, ds, dat_dp S e1 r1, dat_dp S e2 r2, .inl rfl, c.1, c.2, Option.some.inj e⟩
    · cases e
  · rename_i ds
    split at e
    · rename_i c
      exact ⟨d, _, ds, dat_dp S e1 r1, dat_dp S e2 r2, .inr rfl, c.1, c.2, Option.some.inj e⟩
    · cases e
  · cases e
theorem ad_in : Cmp2 κ (cmpD .In) (rInA κ.K false) := by
  refine ⟨fun ρ H h x y v u Q b S r1 r2 e q => ?_⟩
  obtain ⟨d, e, ds, q1, q2, q3, q4, q5, q6⟩ := ad_in0 S r1 r2 e
  exact ⟨d, e, ds, q1, q2, q3, q4, q5, by rw [q6]; exact q⟩
theorem ad_nin : Cmp2 κ (cmpD .NotIn) (rInA κ.K true) := by
  refine ⟨fun ρ H h x y v u Q b S r1 r2 e q => ?_⟩
  replace e : (inD h x y).map _ = some b := e
  obtain ⟨c, e0, rfl⟩ := Option.map_eq_some_iff.mp e
  obtain ⟨d, e, ds, q1, q2, q3, q4, q5, q6⟩ := ad_in0 S r1 r2 e0
  exact ⟨d, e, ds, q1, q2, q3, q4, q5, by rw [q6]; exact q⟩
/-- every comparison that we have -/
def rCmp (K : PySem.W.Frag) : CmpOp → R2
  | .Lt => rI0 fun i j => .bl (decide (i < j))
  | .LtE => rI0 fun i j => .bl (decide (i ≤ j))
  | .Gt => rI0 fun i j => .bl (decide (j < i))
  | .GtE => rI0 fun i j => .bl (decide (j ≤ i))
  | .Eq => rEqD K
  | .NotEq => rNeD K
  | .Is => fun x y H Q => y = .non ∧ Q (.bl (decide (x = .non))) H
  | .IsNot => fun x y H Q => y = .non ∧ Q (.bl (!decide (x = .non))) H
  | .In => rInA K false
  | .NotIn => rInA K true
theorem op_cmp (hu : X.A.units + 65 < cLine) : ∀ op : CmpOp, OpR X (compareOp op) (rCmp X.K op)
  | .Lt => op_lt
  | .LtE => op_le
  | .Gt => op_gt
  | .GtE => op_ge
  | .Eq => op_eqD (by omega)
  | .NotEq => op_neD (by omega)
  | .Is => op_isN
  | .IsNot => op_notN
  | .In => op_inA hu
  | .NotIn => op_ninA hu
theorem ad_cmp : ∀ op : CmpOp, Cmp2 κ (cmpD op) (rCmp κ.K op)
  | .Lt => .int fun _ _ _ => rfl
  | .LtE => .int fun _ _ _ => rfl
  | .Gt => .int fun _ _ _ => rfl
  | .GtE => .int fun _ _ _ => rfl
  | .Eq => ad_eq
  | .NotEq => ad_ne
  | .Is => ad_is
  | .IsNot => ad_isn
  | .In => ad_in
  | .NotIn => ad_nin
/-! t * 1 is t itself -/
theorem tuple_mul1 (l : Addr) (items : Array Value) (n : Nat) (dd : Option Addr) (sl : Array (Option Value)) (u : Tok) :
    Meets (Builtin.«tuple.__mul__» ⟨[.ref l, .int 1 u], []⟩) (fun _ R s => s.heap.get? l = some { cls := .type "tuple", dict := dd, data := .seq items n, slots := sl } ∧ R (.ok (.ret (Value.ref l))) s) :=
  .of_wp fun prog w A R s h => by
    obtain ⟨hp, g, d, tk, os⟩ := s
    obtain ⟨hl, h⟩ := h
    have f1 := AutoSeq1.idx_int
    have c0 : (decide ((1 : Int) < -(2 ^ 63)) || decide ((1 : Int) ≥ 2 ^ 63)) = false := by decide
    have c1 : (items.isEmpty || (1 : Int) == 1) = true := by rw [Bool.or_comm]; rfl
    wp_walk using wpAny_loadPart' hl
    repeat (first
      | (refine wpAny_ite_false (decide_eq_false (by rw [c0]; exact Bool.false_ne_true)) ?_; wp_walk using wpAny_loadPart' hl)
      | (refine wpAny_ite_true (decide_eq_true (by first | exact c1 | rfl)) ?_; wp_walk using wpAny_loadPart' hl))
    exact ⟨_, rfl, h⟩
def rRep1 (K : PySem.W.Frag) : R2 := fun x y H Q => ∃ l xs, x = .ref l ∧ y = .int 1 ∧ SqT K H l xs ∧ Q (.ref l) H
theorem op_rep1 : OpR X (binaryOp .Mult) (rRep1 X.K) := by
  intro pins s σ H x y v u Q I rx ry h
  obtain ⟨l, xs, rfl, rfl, hT, q⟩ := h
  cases rx
  obtain ⟨t, rfl⟩ := ry
  obtain ⟨its, r, ⟨⟨cls, dd, data, sl⟩, ho, hc, n, hd⟩, hs⟩ := I.tuple hT
  simp only at hc hd
  subst hc hd
  refine wpAny_binaryOp_repeat_ref (T := "tuple") (U := "int") (by decide) ⟨_, ho, rfl⟩ (fun s' => typeIs_int s' 1 t) noFill_tuple_mul F.fills_int_mul F.slot_int_rmul repeat_tuple F.slot_int_index.lookup
    (call_meets F.slot_int_rmul (typeIs_int s 1 t) F.entry_int_rmul (F.args_int_rmul_2 _ _) (int_rmul_tuple 1 t l its.toArray n dd sl)
      ⟨ho, rfl, ⟨_, ho, rfl⟩, call_meets F.slot_tuple_mul ⟨_, ho, rfl⟩ F.entry_tuple_mul (F.args_tuple_mul_2 _ _) (tuple_mul1 l its.toArray n dd sl t) ⟨ho, ?_⟩⟩)
  exact ⟨.ref l, H, I, rfl, q⟩
/-! ### products -/
theorem intBits_1000 {k : Int} (h : k.natAbs < 2 ^ 1000) : Builtin.Int.intBits k ≤ 1000 := by
  unfold Builtin.Int.intBits
  split
  · exact Nat.zero_le _
  · have : k.natAbs.log2 < 1000 := by
      rcases Nat.eq_zero_or_pos k.natAbs with h0 | hp
      · rw [h0]; decide
      · exact (Nat.log2_lt (Nat.ne_of_gt hp)).mpr h
    omega
theorem CMulW.ok {i j : Int} (h : CMulW i j) : IntMulOk i j := by
  rcases h with h | ⟨h1, h2⟩
  · exact h.ok
  · have b1 := intBits_1000 h1
    have b2 := intBits_1000 h2
    have hb : Builtin.Int.intTooBig ((Builtin.Int.intBits i : Int) + (Builtin.Int.intBits j : Int)) = false := by
      unfold Builtin.Int.intTooBig
      refine decide_eq_false ?_
      have : (2000 : Int) ≤ (bitsLine : Int) := by decide
      omega
    unfold IntMulOk
    intro z
    rw [Bool.and_eq_true, hb] at z
    exact absurd z.2 Bool.false_ne_true
theorem op_mulW : OpR X (binaryOp .Mult) (rI CMulW fun i j => .int (i * j)) := opI fun _ _ _ _ _ _ _ hc q => mul_int q hc.ok
abbrev rMulA (K : PySem.W.Frag) : R2 := fun x y H Q => (rI CMulW fun i j => .int (i * j)) x y H Q ∨ (rRepT K x y H Q ∨ (rRep1 K x y H Q ∨ rRep x y H Q))
theorem op_mulA : OpR X (binaryOp .Mult) (rMulA X.K) := op_mulW.or (op_repT.or (op_rep1.or op_rep))
theorem ad_mul : Op2 κ (binD .Mult) (rMulA κ.K) := by
  refine ⟨fun ρ H h x y v u Q E S r1 r2 p => ?_⟩
  unfold binD at p
  simp only at p
  unfold mulD at p
  split at p
  · rename_i i j
    split at p
    · rename_i c
      exact .inl ⟨i, j, rep_int r1, rep_int r2, c, p.here S rfl⟩
    · exact p.elim
  · rename_i xs k
    split at p
    · rename_i c
      subst c
      obtain ⟨a, vs, rfl, q1, s1⟩ := r1
      exact .inr (.inr (.inl ⟨a, vs, rfl, r2, q1, p.here S ⟨a, vs, rfl, q1, s1⟩⟩))
    split at p
    · rename_i _ c
      obtain ⟨a, vs, rfl, q1, s1⟩ := r1
      refine .inr (.inl ⟨a, k, vs, rfl, r2, q1, ?_, c.1, c.2.1, by rw [← s1.length]; exact c.2.2.2, p.tup S (s1.rep _)⟩)
      intro z
      subst z
      have z1 := s1.length
      have z2 := c.2.2.1
      rw [z1] at z2
      exact absurd z2 (by decide)
    · exact p.elim
  · rename_i l k
    split at p
    · rename_i xs e1
      split at p
      · rename_i c
        obtain ⟨a, vs, p1, q1, s1⟩ := S.lst e1
        obtain ⟨a', z, rfl⟩ := r1
        rw [p1] at z; cases z
        exact .inr (.inr (.inr ⟨a, k, vs, rfl, r2, q1, by omega, by omega, by rw [← s1.length]; exact c.2.2, p.new S (s1.rep _)⟩))
      · exact p.elim
    · exact p.elim
  · exact p.elim
/-- every operator -/
def rBin (K : PySem.W.Frag) : Operator → R2
  | .Add => rAddA K
  | .Sub => rI0 fun i j => .int (i - j)
  | .Mult => rMulA K
  | .FloorDiv => rI CDivN fun i j => .int (i.fdiv j)
  | .Mod => rI (fun _ j => j ≠ 0) fun i j => .int (i.fmod j)
  | .Pow => rI CPow fun i j => .int (i ^ j.toNat)
  | .LShift => rI CPow fun i j => .int (i * 2 ^ j.toNat)
  | .RShift => rI (fun _ j => 0 ≤ j) fun i j => .int (i / 2 ^ j.toNat)
  | .BitAnd => rI0 fun i j => .int (Builtin.bitAnd i j)
  | .BitOr => rI0 fun i j => .int (Builtin.bitOr i j)
  | .BitXor => rI0 fun i j => .int (Builtin.bitXor i j)
  | _ => fun _ _ _ _ => False
theorem op_bin : ∀ op : Operator, OpR X (binaryOp op) (rBin X.K op)
  | .Add => op_addA
  | .Sub => op_sub
  | .Mult => op_mulA
  | .FloorDiv => op_fdivN
  | .Mod => op_modN
  | .Pow => op_pow
  | .LShift => op_shl
  | .RShift => op_shr
  | .BitAnd => op_and
  | .BitOr => op_or
  | .BitXor => op_xor
  | .Div => fun _ _ _ _ _ _ _ _ _ _ _ _ h => h.elim
  | .MatMult => fun _ _ _ _ _ _ _ _ _ _ _ _ h => h.elim
theorem ad_bin : ∀ op : Operator, Op2 κ (binD op) (rBin κ.K op)
  | .Add => ad_add
  | .Sub => ad_sub
  | .Mult => ad_mul
  | .FloorDiv => ad_fdiv
  | .Mod => ad_mod
  | .Pow => ad_pow
  | .LShift => ad_shl
  | .RShift => ad_shr
  | .BitAnd => ad_and
  | .BitOr => ad_or
  | .BitXor => ad_xor
  | .Div => ⟨fun _ _ _ _ _ _ _ _ _ _ _ _ p => p.elim⟩
  | .MatMult => ⟨fun _ _ _ _ _ _ _ _ _ _ _ _ p => p.elim⟩
end
end Ev

set_option Elab.async false
set_option linter.all false
set_option maxRecDepth 100000
namespace Ev
open PySem PySem.Spec PyProof.Rows L2

/-! ### sums and the like over a tuple -/
section
variable {X : Cx} {K : PySem.W.Frag}
theorem iter_tup {prog : Program} {w : World} {A : Around} {E : Value → Shared → Prop} {s : Shared} {l : Addr} {its : Array Value} {Q : Value → Shared → Prop} (hl : s.heap.IsTuple l its)
    (h : ∀ s2 : Shared, s2 = { s with heap := s.heap.push { cls := .type "tuple_iterator", data := .fields #[.ref l, .int 0 0] } } →
      (s2.heap.IsTupleIter s.heap.objs.size l 0 ∧ s2.heap.IsTuple l its) → (∀ b ∈ [s.heap.objs.size, l], b < s2.heap.objs.size) → l ≠ s.heap.objs.size → Q (.ref s.heap.objs.size) s2) :
    wpAny (model prog w) A (pyIter (.ref l)) Q E s := by
  have lt : l < s.heap.objs.size := by obtain ⟨_, e, _⟩ := hl; exact Heap.lt_size e
  refine wpAny_pyIter_tuple hl (h _ rfl ⟨⟨_, Heap.get?_push_size _ rfl, rfl, rfl⟩, ?_⟩ (fun b hb => ?_) (Nat.ne_of_lt lt))
  · obtain ⟨o, e, c, n, d⟩ := hl
    exact ⟨o, Heap.get?_push_of_some _ e, c, n, d⟩
  · show b < (s.heap.push _).objs.size
    rw [Heap.size_push]
    rcases List.mem_cons.mp hb with rfl | hb
    · exact Nat.lt_succ_self _
    · rw [show b = l by simpa using hb]
      exact Nat.lt_succ_of_lt lt
theorem kept_of {h h' : Heap} {o : Obj} (k : ∀ b u, b ∉ [h.objs.size] → (h.push o).get? b = some u → h'.get? b = some u) : ∀ b u, h.get? b = some u → h'.get? b = some u := fun b u e =>
  k b u (fun z => absurd (by rw [show b = h.objs.size by simpa using z] at e; exact Heap.lt_size e) (Nat.lt_irrefl _)) (Heap.get?_push_of_some _ e)
def rSumT (K : PySem.W.Frag) : List V → Hp → VK → Prop := fun vs H Q => ∃ (a : Addr) (ns : List Int), vs = [V.ref a] ∧ SqT K H a (ns.map V.int) ∧ Q (.int ns.sum) H
theorem cr_sumT (hc : X.calm = true) : CallR X (.builtin "sum") (rSumT X.K) := by
  intro pins s σ H vs us Q I r h
  obtain ⟨a, ns, rfl, hs, q⟩ := h
  obtain ⟨its, rv, hl, _⟩ := I.tuple hs
  rw [Vals.ref1 r]
  have hi : IntsAre its ns := rv.ints
  obtain ⟨xs, e⟩ := hi.allInts.items
  have hn : numsOf (intItems xs).toList = ns := by rw [← e]; exact hi.numsOf
  rw [nums_intItems] at hn
  refine call_sum_walkG (iter_tup hl fun s2 e2 st hfp hne => ?_)
  subst e2
  rw [e] at st
  refine ⟨_, _, _, _, _, _, numAt xs, rfl, Walks.tuple (A := X.A.in1) (I.ok.hd hc) _ a hne (intItems xs), st, hfp, (fun _ _ => intItems_at), fun h' tk t' hk => ?_⟩
  refine ⟨.int ns.sum, H, I.kept (kept_of hk), ⟨t', ?_⟩, q⟩
  have z : preSum (numAt xs) xs.size = ns.sum := by rw [preSum_eq, List.take_of_length_le (by simp), hn]
  simpa [intItems] using z
def rAnyT (K : PySem.W.Frag) : List V → Hp → VK → Prop := fun vs H Q => ∃ (a : Addr) (bs : List Bool), vs = [V.ref a] ∧ SqT K H a (bs.map V.bl) ∧ Q (.bl (bs.any id)) H
def rAllT (K : PySem.W.Frag) : List V → Hp → VK → Prop := fun vs H Q => ∃ (a : Addr) (bs : List Bool), vs = [V.ref a] ∧ SqT K H a (bs.map V.bl) ∧ Q (.bl (bs.all id)) H
theorem cr_anyT (hc : X.calm = true) : CallR X (.builtin "any") (rAnyT X.K) := by
  intro pins s σ H vs us Q I r h
  obtain ⟨a, bs, rfl, hs, q⟩ := h
  obtain ⟨its, rv, hl, _⟩ := I.tuple hs
  rw [Vals.ref1 r]
  have hb := rv.bls
  refine call_any_walk (iter_tup hl fun s2 e2 st hfp hne => ?_)
  subst e2
  refine ⟨_, _, _, _, _, _, _, rfl, Walks.tuple (A := X.A.in1) (I.ok.hd hc) _ a hne its.toArray, st, truth_bools hb, fun h' tk hk => ⟨.bl _, H, I.kept (kept_of hk), ?_, q⟩⟩
  show Value.bool _ = Value.bool _
  rw [← L2.any_range, hb, List.size_toArray, List.length_map]
theorem cr_allT (hc : X.calm = true) : CallR X (.builtin "all") (rAllT X.K) := by
  intro pins s σ H vs us Q I r h
  obtain ⟨a, bs, rfl, hs, q⟩ := h
  obtain ⟨its, rv, hl, _⟩ := I.tuple hs
  rw [Vals.ref1 r]
  have hb := rv.bls
  refine call_all_walk (iter_tup hl fun s2 e2 st hfp hne => ?_)
  subst e2
  refine ⟨_, _, _, _, _, _, _, rfl, Walks.tuple (A := X.A.in1) (I.ok.hd hc) _ a hne its.toArray, st, truth_bools hb, fun h' tk hk => ⟨.bl _, H, I.kept (kept_of hk), ?_, q⟩⟩
  show Value.bool _ = Value.bool _
  rw [← L2.all_range, hb, List.size_toArray, List.length_map]
end

/-! ### isinstance with one built-in class -/
section
variable {κ : Kx} {X : Cx} {ρ : List Addr} {H : Hp} {h : Hd}
def tyName : Ty → String
  | .int => "int"
  | .bool => "bool"
  | .str => "str"
  | .tuple => "tuple"
  | .list => "list"
inductive TyD (K : PySem.W.Frag) (H : Hp) : V → String → Prop where
  | non : TyD K H .non "NoneType"
  | bl (b : Bool) : TyD K H (.bl b) "bool"
  | int (i : Int) : TyD K H (.int i) "int"
  | str (x : Str) : TyD K H (.str x) "str"
  | lst {a : Addr} {xs : List V} (e : SqL K H a xs) : TyD K H (.ref a) "list"
  | tup {a : Addr} {xs : List V} (e : SqT K H a xs) : TyD K H (.ref a) "tuple"
theorem call_isD : CallR X (.builtin "isinstance") (fun xs H Q => ∃ x t T b, xs = [x, .ty T] ∧ TyD X.K H x t ∧ kitB t T = some b ∧ Q (.bl b) H) := by
  intro pins s σ H xs us Q I r h
  obtain ⟨x, t, T, b, rfl, ty, e, q⟩ := h
  obtain ⟨u1, u2, rfl, r1, r2⟩ := vals2 r
  cases (show u2 = Value.type T from r2)
  have e' : PySem.W.kitOne X.K (.type t) (.type T) = some b := kit_ty e
  have fin : ∀ tk, EP X pins σ Q (.bool b) { s with toks := tk } := fun tk => ⟨.bl b, H, I.tok tk, rfl, q⟩
  cases ty with
  | non => cases (show u1 = Value.none from r1); exact PySem.W.kia_one PySem.W.kitx_none I.kIn True.intro e' (fun z => nomatch z) fin
  | bl y => cases (show u1 = Value.bool y from r1); exact PySem.W.kia_one PySem.W.kitx_bool I.kIn True.intro e' (fun z => nomatch z) fin
  | int i => obtain ⟨t, z⟩ := (show ∃ t, u1 = Value.int i t from r1); cases z; exact PySem.W.kia_one PySem.W.kitx_int I.kIn True.intro e' (fun z => nomatch z) fin
  | str y => obtain ⟨t, z⟩ := (show ∃ t, u1 = Value.str y t from r1); cases z; exact PySem.W.kia_one PySem.W.kitx_str I.kIn True.intro e' (fun z => nomatch z) fin
  | lst ea =>
    rename_i a xs
    cases (show u1 = Value.ref a from r1)
    obtain ⟨its, rv, ⟨o, n, h1, h2, _⟩, _⟩ := I.list ea
    exact PySem.W.kia_one PySem.W.kitx_list I.kIn ⟨o, h1, h2⟩ e' (fun z => nomatch z) fin
  | tup ea =>
    rename_i a xs
    cases (show u1 = Value.ref a from r1)
    obtain ⟨its, rv, ⟨o, h1, h2, _⟩, _⟩ := I.tuple ea
    exact PySem.W.kia_one PySem.W.kitx_tuple I.kIn ⟨o, h1, h2⟩ e' (fun z => nomatch z) fin
theorem isTy_ok (S : Sim κ ρ h H) {x : D} {v : V} {ty : Ty} {b : Bool} (r : Rep κ ρ H x v) (e : isTy ty h x = some b) : ∃ t, TyD κ.K H v t ∧ kitB t (tyName ty) = some b := by
  cases x with
  | non => cases (show v = .non from r); refine ⟨_, .non, ?_⟩; cases ty <;> (cases e; decide +kernel)
  | bl y => cases (show v = .bl y from r); refine ⟨_, .bl y, ?_⟩; cases ty <;> (cases e; decide +kernel)
  | int i => cases (show v = .int i from r); refine ⟨_, .int i, ?_⟩; cases ty <;> (cases e; decide +kernel)
  | str i => cases (show v = .str i from r); refine ⟨_, .str i, ?_⟩; cases ty <;> (cases e; decide +kernel)
  | tup xs => obtain ⟨a, vs, rfl, q, _⟩ := r; refine ⟨_, .tup q, ?_⟩; cases ty <;> (cases e; decide +kernel)
  | fl xs => obtain ⟨a, vs, rfl, q, _⟩ := r; refine ⟨_, .lst q.seq, ?_⟩; cases ty <;> (cases e; decide +kernel)
  | ref l =>
    unfold isTy at e
    obtain ⟨xs, e1, rfl⟩ := Option.map_eq_some_iff.mp e
    obtain ⟨a, vs, p1, q1, _⟩ := S.lst e1
    obtain ⟨a', z, rfl⟩ := r
    rw [p1] at z; cases z
    refine ⟨_, .lst (.of q1), ?_⟩
    cases ty <;> decide +kernel

/-! ### built-ins of values -/
def bifName : Bif → Str
  | .len => "len"
  | .abs => "abs"
  | .int => "int"
  | .bool => "bool"
  | .min2 => "min"
  | .max2 => "max"
  | .str => "str"
def bifVal : Bif → Value
  | .len => .builtin "len"
  | .abs => .builtin "abs"
  | .int => .type "int"
  | .bool => .type "bool"
  | .min2 => .builtin "min"
  | .max2 => .builtin "max"
  | .str => .type "str"
def rBif (K : PySem.W.Frag) : Bif → List V → Hp → VK → Prop
  | .len => fun xs H Q => ∃ p ys, xs = [.ref p] ∧ (SqL K H p ys ∨ SqT K H p ys) ∧ Q (.int ys.length) H
  | .abs => fun xs H Q => ∃ i, xs = [.int i] ∧ Q (.int (if i < 0 then -i else i)) H
  | .int => fun xs H Q => (∃ i, xs = [.int i] ∧ Q (.int i) H) ∨ ∃ k, xs = [.bl k] ∧ Q (.int (if k then 1 else 0)) H
  | .bool => fun xs H Q => (∃ i, xs = [.int i] ∧ Q (.bl (i != 0)) H) ∨ ∃ k, xs = [.bl k] ∧ Q (.bl k) H
  | .min2 => fun xs H Q => ∃ i j, xs = [.int i, .int j] ∧ Q (.int (if j < i then j else i)) H
  | .max2 => fun xs H Q => ∃ i j, xs = [.int i, .int j] ∧ Q (.int (if j > i then j else i)) H
  | .str => fun xs H Q => ∃ i, xs = [.int i] ∧ i.natAbs.log2 < 1920 ∧ Q (.str (toString i)) H
theorem call_bif (hc : X.calm = true) : ∀ b : Bif, CallR X (bifVal b) (rBif X.K b)
  | .len => call_len_seq
  | .abs => call_abs
  | .int => call_int1
  | .bool => call_bool1
  | .min2 => call_min2 hc
  | .max2 => call_max2 hc
  | .str => call_str_int
theorem reps1 {x : D} {vs : List V} (r : Reps κ ρ H [x] vs) : ∃ v, vs = [v] ∧ Rep κ ρ H x v := by
  obtain ⟨v, w, rfl, r1, r2⟩ := r
  have : w = [] := r2
  subst this
  exact ⟨v, rfl, r1⟩
theorem reps2 {x y : D} {vs : List V} (r : Reps κ ρ H [x, y] vs) : ∃ v u, vs = [v, u] ∧ Rep κ ρ H x v ∧ Rep κ ρ H y u := by
  obtain ⟨v, w, rfl, r1, r2⟩ := r
  obtain ⟨u, rfl, r3⟩ := reps1 r2
  exact ⟨v, u, rfl, r1, r3⟩
theorem ad_bif (b : Bif) {ds : List D} {vs : List V} {Q : VK} {E : XK} (S : Sim κ ρ h H) (r : Reps κ ρ H ds vs) (p : Post κ (rD κ) ρ H (bifD b ds h) Q E) : rBif κ.K b vs H Q := by
  unfold bifD at p
  split at p
  · rename_i x
    obtain ⟨v, rfl, q0⟩ := reps1 r
    unfold lenD at p
    split at p
    · rename_i xs e
      obtain ⟨a, ws, rfl, q, rs⟩ := S.sq e q0
      exact ⟨a, ws, rfl, q, by rw [← rs.length]; exact p.here S rfl⟩
    · exact p.elim
  · obtain ⟨v, rfl, q0⟩ := reps1 r
    cases (show v = .int _ from q0)
    exact ⟨_, rfl, p.here S rfl⟩
  · obtain ⟨v, rfl, q0⟩ := reps1 r
    cases (show v = .int _ from q0)
    exact .inl ⟨_, rfl, p.here S rfl⟩
  · obtain ⟨v, rfl, q0⟩ := reps1 r
    cases (show v = .bl _ from q0)
    exact .inr ⟨_, rfl, p.here S rfl⟩
  · obtain ⟨v, rfl, q0⟩ := reps1 r
    cases (show v = .int _ from q0)
    exact .inl ⟨_, rfl, p.here S rfl⟩
  · obtain ⟨v, rfl, q0⟩ := reps1 r
    cases (show v = .bl _ from q0)
    exact .inr ⟨_, rfl, p.here S rfl⟩
  · obtain ⟨v, u, rfl, q0, r2⟩ := reps2 r
    cases (show v = .int _ from q0)
    cases (show u = .int _ from r2)
    exact ⟨_, _, rfl, p.here S rfl⟩
  · obtain ⟨v, rfl, q0⟩ := reps1 r
    cases (show v = .int _ from q0)
    split at p
    · rename_i z
      exact ⟨_, rfl, z, p.here S rfl⟩
    · exact p.elim
  · obtain ⟨v, u, rfl, q0, r2⟩ := reps2 r
    cases (show v = .int _ from q0)
    cases (show u = .int _ from r2)
    exact ⟨_, _, rfl, p.here S rfl⟩
  · exact p.elim
/-! ### built-ins of a sequence -/
def sqName : Sq → Str
  | .tuple => "tuple"
  | .list => "list"
  | .sum => "sum"
  | .all => "all"
  | .any => "any"
  | .len => "len"
def sqVal : Sq → Value
  | .tuple => .type "tuple"
  | .list => .type "list"
  | .sum => .builtin "sum"
  | .all => .builtin "all"
  | .any => .builtin "any"
  | .len => .builtin "len"
def rSq (K : PySem.W.Frag) : Sq → List V → Hp → VK → Prop
  | .tuple => fun xs H Q => ∃ p ys, xs = [.ref p] ∧ ((SqL K H p ys ∧ ∀ l, H l = none → Q (.ref l) (upd H l (.tup ys))) ∨ (SqT K H p ys ∧ Q (.ref p) H))
  | .list => fun xs H Q => ∃ p ys, xs = [.ref p] ∧ (SqL K H p ys ∨ SqT K H p ys) ∧ ∀ l, H l = none → Q (.ref l) (upd H l (.lst ys))
  | .sum => fun xs H Q => rSum K xs H Q ∨ rSumT K xs H Q
  | .all => fun xs H Q => rAll K xs H Q ∨ rAllT K xs H Q
  | .any => fun xs H Q => rAny K xs H Q ∨ rAnyT K xs H Q
  | .len => fun xs H Q => ∃ p ys, xs = [.ref p] ∧ (SqL K H p ys ∨ SqT K H p ys) ∧ Q (.int ys.length) H
theorem call_sq (hc : X.calm = true) : ∀ b : Sq, CallR X (sqVal b) (rSq X.K b)
  | .tuple => call_tuple_of
  | .list => call_list_of
  | .sum => (cr_sum hc).or (cr_sumT hc)
  | .all => (cr_all hc).or (cr_allT hc)
  | .any => (cr_any hc).or (cr_anyT hc)
  | .len => call_len_seq
theorem intsOf_eq : ∀ {ds : List D} {is : List Int}, intsOf ds = some is → ds = is.map D.int
  | [], is, e => by cases e; rfl
  | .int i :: r, is, e => by
    unfold intsOf at e
    obtain ⟨js, e1, rfl⟩ := Option.map_eq_some_iff.mp e
    rw [intsOf_eq e1]; rfl
  | .non :: r, is, e => by cases e
  | .bl _ :: r, is, e => by cases e
  | .str _ :: r, is, e => by cases e
  | .tup _ :: r, is, e => by cases e
  | .fl _ :: r, is, e => by cases e
  | .ref _ :: r, is, e => by cases e
theorem blsOf_eq : ∀ {ds : List D} {is : List Bool}, blsOf ds = some is → ds = is.map D.bl
  | [], is, e => by cases e; rfl
  | .bl i :: r, is, e => by
    unfold blsOf at e
    obtain ⟨js, e1, rfl⟩ := Option.map_eq_some_iff.mp e
    rw [blsOf_eq e1]; rfl
  | .non :: r, is, e => by cases e
  | .int _ :: r, is, e => by cases e
  | .str _ :: r, is, e => by cases e
  | .tup _ :: r, is, e => by cases e
  | .fl _ :: r, is, e => by cases e
  | .ref _ :: r, is, e => by cases e
theorem ad_sq (b : Sq) {ds : List D} {v : V} {Q : VK} {E : XK} (S : Sim κ ρ h H) (r : rQ κ ρ H ds v) (p : Post κ (rD κ) ρ H (sqD b ds h) Q E) : rSq κ.K b [v] H Q := by
  obtain ⟨a, vs, rfl, q, rs⟩ := r
  cases b with
  | tuple =>
    refine ⟨a, vs, rfl, ?_⟩
    rcases q with q | q
    · exact .inl ⟨q, p.tup S rs⟩
    · exact .inr ⟨q, p.here S ⟨a, vs, rfl, q, rs⟩⟩
  | list => exact ⟨a, vs, rfl, q, p.new S rs⟩
  | sum =>
    unfold sqD at p
    simp only at p
    split at p
    · rename_i is e
      have e := intsOf_eq e
      subst e
      have e2 := rs.of_ints
      subst e2
      rcases q with q | q
      · exact .inl ⟨a, is, rfl, q, p.here S rfl⟩
      · exact .inr ⟨a, is, rfl, q, p.here S rfl⟩
    · exact p.elim
  | all =>
    unfold sqD at p
    simp only at p
    split at p
    · rename_i is e
      have e := blsOf_eq e
      subst e
      have e2 := rs.of_bls
      subst e2
      rcases q with q | q
      · exact .inl ⟨a, is, rfl, q, p.here S rfl⟩
      · exact .inr ⟨a, is, rfl, q, p.here S rfl⟩
    · exact p.elim
  | any =>
    unfold sqD at p
    simp only at p
    split at p
    · rename_i is e
      have e := blsOf_eq e
      subst e
      have e2 := rs.of_bls
      subst e2
      rcases q with q | q
      · exact .inl ⟨a, is, rfl, q, p.here S rfl⟩
      · exact .inr ⟨a, is, rfl, q, p.here S rfl⟩
    · exact p.elim
  | len => exact ⟨a, vs, rfl, q, by rw [← rs.length]; exact p.here S rfl⟩
/-! ### subscripts, slices, lists' methods -/
theorem atI_rel {xs : List D} {vs : List V} {i : Int} {d : D} (r : Reps κ ρ H xs vs) (e : atI xs i = some d) : ∃ v, atI vs i = some v ∧ Rep κ ρ H d v := by
  unfold atI at *
  obtain ⟨j, e1, e2⟩ := Option.bind_eq_some_iff.mp e
  obtain ⟨v, e3, q⟩ := r.get e2
  exact ⟨v, by rw [← r.length, e1]; exact e3, q⟩
abbrev rIxA (K : PySem.W.Frag) : R2 := fun x y H Q => rIxL K x y H Q ∨ rIxT K x y H Q
theorem ix_A : IxR X (rIxA X.K) := ix_list.or ix_tup
theorem ad_ix {x y : D} {v u : V} {Q : VK} {E : XK} (S : Sim κ ρ h H) (r1 : Rep κ ρ H x v) (r2 : Rep κ ρ H y u) (p : Post κ (rD κ) ρ H (ixD x y h) Q E) : rIxA κ.K v u H Q := by
  unfold ixD at p
  split at p
  · rename_i i
    split at p
    · rename_i d e
      obtain ⟨xs, e1, e2⟩ := Option.bind_eq_some_iff.mp e
      obtain ⟨a, vs, rfl, q, rs⟩ := S.sq e1 r1
      obtain ⟨w, e3, q3⟩ := atI_rel rs e2
      rcases q with q | q
      · exact .inl ⟨a, vs, i, w, rfl, r2, q, e3, p.here S q3⟩
      · exact .inr ⟨a, vs, i, w, rfl, r2, q, e3, p.here S q3⟩
    · exact p.elim
  · exact p.elim
abbrev rSlB (K : PySem.W.Frag) : V → Option Int → Option Int → Hp → VK → Prop := fun x lo hi H Q => rSlL K x lo hi H Q ∨ rSlA K x lo hi H Q
theorem sl_B : SlR X (rSlB X.K) := sl_list.or sl_tupA
theorem reps_cut {xs : List D} {vs : List V} {lo hi : Option Int} (r : Reps κ ρ H xs vs) : Reps κ ρ H (cutD xs lo hi) (cutV vs lo hi) := by
  unfold cutD cutV
  rw [r.length]
  exact (r.drop _).take _
theorem ad_sl {x : D} {v : V} {lo hi : Option Int} {Q : VK} {E : XK} (S : Sim κ ρ h H) (r1 : Rep κ ρ H x v) (p : Post κ (rD κ) ρ H (slD x lo hi h) Q E) : rSlB κ.K v lo hi H Q := by
  unfold slD at p
  split at p
  · rename_i xs
    obtain ⟨a, vs, rfl, q, rs⟩ := r1
    refine .inr ⟨a, vs, rfl, q, fun e => p.here S ⟨a, vs, rfl, q, ?_⟩, fun _ => p.tup S (reps_cut rs)⟩
    have z := reps_cut (lo := lo) (hi := hi) rs
    have z2 : cutV vs lo hi = vs := by unfold cutV; rw [e.1, e.2]; simp
    rw [z2] at z
    exact z
  · rename_i xs
    obtain ⟨a, vs, rfl, q, rs⟩ := r1
    exact .inl ⟨a, vs, rfl, q.seq, p.new S (reps_cut rs)⟩
  · rename_i l
    split at p
    · rename_i xs e
      obtain ⟨a, vs, p1, q1, rs⟩ := S.lst e
      obtain ⟨a', z, rfl⟩ := r1
      rw [p1] at z; cases z
      exact .inl ⟨a, vs, rfl, .of q1, p.new S (reps_cut rs)⟩
    · exact p.elim
  · exact p.elim
theorem ixN_small {n : Nat} {i : Int} {k : Nat} (e : ixN n i = some k) (hn : n ≤ sizeLine) : -(2 ^ 63) ≤ i ∧ i < 2 ^ 63 := by
  obtain ⟨_, _, h1, h2⟩ := ixN_seq e
  have := sizeLine_eq
  constructor <;> omega
theorem ad_pop {x : D} {v : V} {Q : VK} {E : XK} (S : Sim κ ρ h H) (r1 : Rep κ ρ H x v) (p : Post κ (rD κ) ρ H (popD x h) Q E) : (∃ l, v = .ref l ∧ ∃ xs, H l = some (.lst xs)) ∧ rPop v [] H Q := by
  unfold popD at p
  split at p
  · rename_i l
    split at p
    · rename_i xs e
      obtain ⟨a, vs, p1, q1, rs⟩ := S.lst e
      obtain ⟨a', z, rfl⟩ := r1
      rw [p1] at z; cases z
      split at p
      · rename_i d e2
        obtain ⟨w, e3, q3⟩ := rs.get e2
        exact ⟨⟨a, rfl, vs, q1⟩, a, vs, w, rfl, rfl, q1, by rw [← rs.length]; exact e3, p.set S p1 rs.dropLast q3⟩
      · exact p.elim
    · exact p.elim
  · exact p.elim
theorem ad_app {x y : D} {v u : V} {Q : VK} {E : XK} (S : Sim κ ρ h H) (r1 : Rep κ ρ H x v) (r2 : Rep κ ρ H y u) (p : Post κ (rD κ) ρ H (appD x y h) Q E) : rAppend v [u] H Q := by
  unfold appD at p
  split at p
  · rename_i l
    split at p
    · rename_i xs e
      obtain ⟨a, vs, p1, q1, rs⟩ := S.lst e
      obtain ⟨a', z, rfl⟩ := r1
      rw [p1] at z; cases z
      split at p
      · rename_i c
        exact ⟨a, vs, u, rfl, rfl, q1, by rw [← rs.length]; exact c, p.set S p1 (rs.append (.cons r2 .nil)) rfl⟩
      · exact p.elim
    · exact p.elim
  · exact p.elim
/-- pop(i); the list is short enough -/
abbrev rPopAtA : V → List V → Hp → VK → Prop := fun x vs H Q => ∃ l xs i k y, x = .ref l ∧ vs = [.int i] ∧ H l = some (.lst xs) ∧ ixN xs.length i = some k ∧ xs[k]? = some y ∧ Q y (upd H l (.lst (xs.eraseIdx k)))
theorem mt_popAtA : MtM X "list.pop" rPopAtA := by
  intro pins s σ H x xs v us Q I r1 r2 h
  obtain ⟨l, ys, i, k, y, e1, e2, e3, e4, e5, q⟩ := h
  obtain ⟨hz, _⟩ := I.hok l _ e3
  obtain ⟨z1, z2⟩ := ixN_small e4 hz
  exact mt_popAt pins s σ H x xs v us Q I r1 r2 ⟨l, ys, i, k, y, e1, e2, e3, z1, z2, (ixN_seq e4).1, e5, q⟩
theorem ad_popAt {x y : D} {v u : V} {Q : VK} {E : XK} (S : Sim κ ρ h H) (r1 : Rep κ ρ H x v) (r2 : Rep κ ρ H y u) (p : Post κ (rD κ) ρ H (popAtD x y h) Q E) : rPopAtA v [u] H Q := by
  unfold popAtD at p
  split at p
  · rename_i l i
    cases (show u = .int i from r2)
    split at p
    · rename_i xs e
      obtain ⟨a, vs, p1, q1, rs⟩ := S.lst e
      obtain ⟨a', z, rfl⟩ := r1
      rw [p1] at z; cases z
      split at p
      · rename_i k ek
        split at p
        · rename_i d e2
          obtain ⟨w, e3, q3⟩ := rs.get e2
          exact ⟨a, vs, i, k, w, rfl, rfl, q1, by rw [← rs.length]; exact ek, e3, p.set S p1 (rs.eraseIdx k) q3⟩
        · exact p.elim
      · exact p.elim
    · exact p.elim
  · exact p.elim
theorem tru_D (S : Sim κ ρ h H) {x : D} {v : V} {b : Bool} (r : Rep κ ρ H x v) (e : truth h x = some b) : TruV κ.K v H b := by
  cases x with
  | non => cases (show v = .non from r); cases e; rfl
  | bl y => cases (show v = .bl y from r); cases e; rfl
  | int i => cases (show v = .int i from r); cases e; rfl
  | str i => cases e
  | tup xs =>
    obtain ⟨a, vs, rfl, q, rs⟩ := r
    cases e
    refine .inr (.inl ⟨vs, q, ?_⟩)
    have := rs.length
    cases xs <;> cases vs <;> simp_all
  | fl xs =>
    obtain ⟨a, vs, rfl, q, rs⟩ := r
    cases e
    refine .inl ⟨vs, q.seq, ?_⟩
    have := rs.length
    cases xs <;> cases vs <;> simp_all
  | ref l =>
    obtain ⟨xs, e1, rfl⟩ := Option.map_eq_some_iff.mp e
    obtain ⟨a, vs, p1, q1, rs⟩ := S.lst e1
    obtain ⟨a', z, rfl⟩ := r
    rw [p1] at z; cases z
    refine .inl ⟨vs, .of q1, ?_⟩
    have := rs.length
    cases xs <;> cases vs <;> simp_all
end
end Ev

set_option Elab.async false
set_option linter.all false
set_option maxRecDepth 100000
namespace Ev
open PySem PySem.Spec PyProof.Rows L2
open PySem.Sem (wp)
open AutoSeq1 (wpAny_loadPart')

/-! ### enumerate over a tuple -/
def tIt (l : Addr) : Obj := { cls := .type "tuple_iterator", data := .fields #[.ref l, .int 0 0] }
def eOb (n : Nat) : Obj := { cls := .type "enumerate", data := .fields #[.none, .bool false, .ref n, rawInt 0, .none, .none] }
theorem meets_enumT (l : Addr) (us : Array Value) (k : Nat) (dc : Option Addr) (ss : Array (Option Value)) :
    Meets (Builtin.«enumerate.__new__» ⟨[.type "enumerate", .ref l], []⟩) (fun _ R s => s.heap.get? l = some { cls := .type "tuple", dict := dc, data := .seq us k, slots := ss } ∧
      R (.ok (.ret (.ref (s.heap.push (tIt l)).objs.size))) { s with heap := (s.heap.push (tIt l)).push (eOb s.heap.objs.size) }) :=
  .of_wp fun pr w A R sh z => by
    obtain ⟨hp, gg, dd, tt, oo⟩ := sh; obtain ⟨zl, z⟩ := z
    have sub := sub_enumerate
    have isT : Heap.IsTuple (Shared.heap ⟨hp, gg, dd, tt, oo⟩) l us := ⟨_, zl, rfl, k, rfl⟩
    wp_walk using wpAny_loadPart' zl
    refine wpAny_stack_any fun st => wpAny_pure ?_
    split
    · rename_i c _ _ _ _ _
      cases (c == Value.type "enumerate") <;> (wp_walk using wpAny_loadPart' zl, wpAny_pyIter_tuple isT; exact ⟨_, rfl, z⟩)
    · wp_walk using wpAny_loadPart' zl, wpAny_pyIter_tuple isT; exact ⟨_, rfl, z⟩
section
variable {prog : Program} {w : World} {A : Around} {E : Value → Shared → Prop} {s : Shared}
theorem call_enumT {l : Addr} {us : Array Value} {Q : Value → Shared → Prop} (hL : s.heap.IsTuple l us)
    (h : ∀ h', IsEnum h' (s.heap.objs.size + 1) s.heap.objs.size 0 .none → h'.IsTupleIter s.heap.objs.size l 0 → h'.objs.size = s.heap.objs.size + 2 →
      (∀ b o, s.heap.get? b = some o → h'.get? b = some o) → Q (.ref (s.heap.objs.size + 1)) { s with heap := h' }) :
    wpAny (model prog w) A (call (.type "enumerate") [.ref l]) Q E s := by
  obtain ⟨⟨cc, dct, dt, sl⟩, hl, e1, k, e2⟩ := hL
  cases (show cc = .type "tuple" from e1)
  cases (show dt = .seq us k from e2)
  refine callType_new F.called_enumerate (by decide) (F.typeCall_enumerate_1 _) (F.newCall_enumerate_1 _) (fun o => F.args_object_init_2 o _) F.entry_enumerate_new (meets_enumT l us k dct sl) ⟨hl, ?_⟩
  have hz : (s.heap.push (tIt l)).objs.size = s.heap.objs.size + 1 := Heap.size_push ..
  show _ ∧ _
  rw [hz]
  have en : IsEnum ((s.heap.push (tIt l)).push (eOb s.heap.objs.size)) (s.heap.objs.size + 1) s.heap.objs.size 0 .none := by
    have q := Heap.get?_push_size (s.heap.push (tIt l)) (o := eOb s.heap.objs.size) rfl
    rw [hz] at q; exact q
  exact ⟨⟨_, en, rfl⟩, h _ en ⟨_, Heap.get?_push_of_some _ (Heap.get?_push_size _ rfl), rfl, rfl⟩ (by rw [Heap.size_push, hz]) fun b o x => Heap.get?_push_of_some _ (Heap.get?_push_of_some _ x)⟩
theorem draws_tuple (hh : A.handled = none) (it l : Addr) (hne : l ≠ it) (us : Array Value) :
    Draws prog w A it [it, l] us.size (fun i v => us[i]? = some v) (fun i h => h.IsTupleIter it l i ∧ h.IsTuple l us) where
  live := fun _ _ st => let ⟨⟨o, ho, _⟩, _⟩ := st; ⟨o, ho⟩
  frame := fun _ _ _ st hk => let ⟨⟨o, ho, r⟩, ⟨o2, ho2, r2⟩⟩ := st; ⟨⟨o, hk it (by simp) o ho, r⟩, ⟨o2, hk l (by simp) o2 ho2, r2⟩⟩
  item := fun i s Q E hi st hQ => RZ.nextOf_tuple_item st.1 st.2 (x := us[i]) (by simp [hi]) fun h' it' sb => hQ _ h' s.toks (by simp [hi]) ⟨it', st.2.extBut sb.extBut hne⟩ sb
  done := fun s Q E st hE => RZ.nextOf_tuple_end hh st.1 st.2 (by simp) hE
theorem draws_end (hh : A.handled = none) (it l : Addr) (us : Array Value) (n : Nat) (hn : us.size ≤ n) :
    Draws prog w A it [it, l] n (fun _ _ => False) (fun i h => i = n ∧ h.IsTupleIter it l i ∧ h.IsTuple l us) where
  live := fun _ _ st => let ⟨_, ⟨o, ho, _⟩, _⟩ := st; ⟨o, ho⟩
  frame := fun _ _ _ st hk => let ⟨q, ⟨o, ho, r⟩, ⟨o2, ho2, r2⟩⟩ := st; ⟨q, ⟨o, hk it (by simp) o ho, r⟩, ⟨o2, hk l (by simp) o2 ho2, r2⟩⟩
  item := fun i s Q E hi st hQ => absurd st.1 (by omega)
  done := fun s Q E st hE => RZ.nextOf_tuple_end hh st.2.1 st.2.2 (by simp [hn]) hE
end
def IteT (K : PySem.W.Frag) (a : Addr) : It :=
  ⟨fun i H => ∃ (xs : List V) (x : V), SqT K H a xs ∧ xs[i]? = some x, fun i H v H' => ∃ T x, v = .ref T ∧ H T = none ∧ H' = upd H T (.tup [.int (i : Nat), x]) ∧ ∀ xs, SqT K H a xs → xs[i]? = some x, fun i H => ∃ xs : List V, SqT K H a xs ∧ xs.length ≤ i⟩
theorem turn_enumT {P : Program} {w : World} {K : PySem.W.Frag} {elts : List Expr} {kk : Nat} {tpos : Pos} (a e it : Addr) :
    Turn P w K (.Tuple elts kk tpos) (IteT K a) [e, it] e (fun i h => (∃ old, IsEnum h e it ((i : Nat) : Int) old) ∧ h.IsTupleIter it a i ∧ e ≠ it ∧ a ≠ it ∧ a ≠ e) where
  mem := by simp
  obj := fun i h st b hb => by
    obtain ⟨⟨old, he⟩, ⟨o, ho, hc, hd⟩, _⟩ := st
    have q : b = e ∨ b = it := by simpa using hb
    rcases q with rfl | rfl
    · exact ⟨_, he, fun v q => nomatch q⟩
    · exact ⟨o, ho, fun v q => by rw [hd] at q; cases q⟩
  keep := fun i h h' st k => let ⟨⟨old, he⟩, hi, r⟩ := st; ⟨⟨old, k e (by simp) _ he⟩, hi.at fun o q => k it (by simp) o q, r⟩
  item := by
    intro X hP hw hK hc i pins s σ H E I hf st hg
    subst hP hw hK
    obtain ⟨⟨old, he⟩, hit, hne, hai, hae⟩ := st
    obtain ⟨xs, x, hq, hx⟩ := hg
    obtain ⟨its, rv, p, hz⟩ := I.tuple hq
    obtain ⟨u, hu, ru⟩ := rv.get hx
    have hel : e < s.heap.objs.size := Heap.lt_size he
    have hil : it < s.heap.objs.size := by obtain ⟨_, q, _⟩ := hit; exact Heap.lt_size q
    have hi : i < its.toArray.size := by
      have := (List.getElem?_eq_some_iff.mp hu).1
      simpa using this
    refine wpAny_pyNext_enum_itemD (draws_tuple (A := X.A.in1) (show X.A.in1.handled = none from I.ok.hd hc) it a hai its.toArray) he ⟨hit, p⟩ hi hne (by simp [hne, Ne.symm hae]) fun y h' tk hy ho hst hT hsz hk => ?_
    obtain rfl : u = y := by
      rw [show its.toArray[i]? = some u by simpa using hu] at hy
      exact Option.some.inj hy
    refine ⟨_, rfl, wpAny_letOwnedTupleGo_enum (s := { s with heap := h', toks := tk + 1 }) ho fun h'' he' sb => ?_⟩
    have hT2 : h''.get? s.heap.objs.size = some { cls := .type "tuple", data := .seq #[.int i tk, u] } := (sb.2 _ (Nat.ne_of_gt hel)).trans hT
    have new : ObjOk X.prog X.w (upd H s.heap.objs.size (.tup [.int (i : Nat), x])) h'' s.heap.objs.size (.tup [.int (i : Nat), x]) :=
      ⟨show 2 ≤ sizeLine by decide, [.int i tk, u], .cons ⟨_, rfl⟩ (.cons ru .nil), ⟨_, hT2, rfl, _, rfl⟩⟩
    have I1 := I.turnedNew (t' := tk + 1) (ch := [e, it]) (fun b ob hb q => (sb.2 b (fun z => hb (by simp [z]))).trans (hk b ob (fun z => hb (by simp [z])) (fun z => hb (by simp [z])) q)) hf (Nat.le_refl _) new
    refine ⟨.ref s.heap.objs.size, _, I1, rfl, ⟨_, x, rfl, I.hok.fresh (Nat.le_refl _), rfl, fun ys hy => by rw [I.tuple_inj hy hq]; exact hx⟩, ⟨⟨u, ?_⟩, hst.1.at fun o q => (sb.2 it (Ne.symm hne)).trans q, hne, hai, hae⟩, fun b hb => ?_⟩
    · rw [show ((i + 1 : Nat) : Int) = (i : Int) + 1 by omega]; exact he'
    · have q : b = e ∨ b = it := by simpa using hb
      have hb' : b < s.heap.objs.size := by rcases q with rfl | rfl <;> assumption
      rw [upd_ne (Nat.ne_of_lt hb')]
      exact (hf b hb).1
  done := by
    intro X hP hw hK hc i pins s σ H E I hf st hg
    subst hP hw hK
    obtain ⟨⟨old, he⟩, hit, hne, hai, hae⟩ := st
    obtain ⟨xs, hq, hx⟩ := hg
    obtain ⟨its, rv, p, hz⟩ := I.tuple hq
    obtain ⟨f0, f1, f2, f3, f4, f5⟩ := hf it (by simp)
    have hl := rv.length
    exact wpAny_pyNext_enum_endD (draws_end (A := X.A.in1) (show X.A.in1.handled = none from I.ok.hd hc) it a its.toArray i (by simp; omega)) he ⟨rfl, hit, p⟩ fun h' eb => ⟨rfl, I.turned (t' := s.toks) (fun b o hb q => eb b o hb q) f0 f1 f3 f4 f5⟩
  self := fun A i s Q E st h => let ⟨⟨_, he⟩, _⟩ := st; wpAny_pyIter_enum he h
/-- enumerate(x), x a list or a tuple -/
theorem pi_enumA {X : Cx} {e : Expr} {ta : TA} {p pos tpos : Pos} {elts : List Expr} {kk : Nat} (hg : Gl X "enumerate") (hm : X.mg "enumerate" = none) (ha : PA X [e] ta) (hs : starEach [e] X.env = [(false, eval e X.env)]) :
    PI X (.Tuple elts kk tpos) (.Call (.Name "enumerate" p) [e] [] pos) (fun σ H R => ta σ H fun vs H1 => ∃ a, vs = [.ref a] ∧ ((∃ xs, SqL X.K H1 a xs ∧ R (Ite X.K a) H1) ∨ (∃ xs, SqT X.K H1 a xs ∧ R (IteT X.K a) H1))) := by
  refine ⟨fun pins s σ H R I h => ?_⟩
  refine Call_ (ld_blt I hg hm boot_enumerate (PyProof.Rows.callWith_type1 (thn (ha.run pos pins s σ H _ I h) fun us s1 ⟨vs, H1, I1, r1, q1⟩ => ?_) hs rfl))
  obtain ⟨a, ex, q⟩ := q1
  subst ex
  cases r1 with
  | cons r rr =>
    cases rr
    cases r
    have fp : ∀ b, b ∈ [s1.heap.objs.size + 1, s1.heap.objs.size] → FpOk X pins H1 b := fun b hb => by
      have e' : b = s1.heap.objs.size + 1 ∨ b = s1.heap.objs.size := by simpa using hb
      have hle : s1.heap.objs.size ≤ b := by omega
      exact I1.fpOk hle (I1.hok.fresh hle)
    rcases q with ⟨xs, hq, q⟩ | ⟨xs, hq, q⟩
    · obtain ⟨its, rv, p', hz⟩ := I1.list hq
      exact call_enumerate_list p'.isList fun h' he hit hsz hk => wpAny_pyIter_enum he ⟨s1.heap.objs.size + 1, [s1.heap.objs.size + 1, s1.heap.objs.size], _, _, H1, rfl, I1.kept (t' := s1.toks) hk, turn_enum a (s1.heap.objs.size + 1) s1.heap.objs.size, ⟨⟨.none, he⟩, hit, Nat.succ_ne_self _⟩, fp, q⟩
    · obtain ⟨its, rv, p', hz⟩ := I1.tuple hq
      have hlt : a < s1.heap.objs.size := by obtain ⟨_, e, _⟩ := p'; exact Heap.lt_size e
      exact call_enumT (show s1.heap.IsTuple a its.toArray from p') fun h' he hit hsz hk => wpAny_pyIter_enum he ⟨s1.heap.objs.size + 1, [s1.heap.objs.size + 1, s1.heap.objs.size], _, _, H1, rfl, I1.kept (t' := s1.toks) hk, turn_enumT a (s1.heap.objs.size + 1) s1.heap.objs.size, ⟨⟨.none, he⟩, hit, Nat.succ_ne_self _, Nat.ne_of_lt hlt, Nat.ne_of_lt (Nat.lt_succ_of_lt hlt)⟩, fp, q⟩
end Ev

set_option Elab.async false
set_option linter.all false
set_option maxRecDepth 100000
set_option maxHeartbeats 1000000
namespace Ev
open PySem PySem.Spec PyProof.Rows L2 NdefX

/-! ### the looks at the text -/
def visB (sc : Scope) (x : Str) : Bool := match sc.names.lookup x with
  | some .local => true
  | some .cell => true
  | some .free => true
  | _ => false
theorem visB_ok {sc : Scope} {x : Str} (h : visB sc x = true) : Vis sc x := by
  unfold visB at h
  unfold Vis
  split at h
  · exact .inl (by assumption)
  · exact .inr (.inl (by assumption))
  · exact .inr (.inr (by assumption))
  · cases h
def glB (sc : Scope) (x : Str) : Bool := (match sc.names.lookup x with
  | some .globalImplicit => true
  | _ => false) && !(x == ("__debug__" : Str)) && !(x == ("__name__" : Str))
theorem glB_ok {sc : Scope} {x : Str} (h : glB sc x = true) : sc.names.lookup x = some .globalImplicit ∧ (x == ("__debug__" : Str)) = false ∧ x ≠ "__name__" := by
  unfold glB at h
  simp only [Bool.and_eq_true, Bool.not_eq_true'] at h
  refine ⟨?_, h.1.2, fun e => ?_⟩
  · have h1 := h.1.1
    split at h1
    · assumption
    · cases h1
  · have := h.2
    rw [e] at this
    simp at this
def starX : Expr → Bool
  | .Starred _ _ => true
  | _ => false
def callX : Expr → Bool
  | .Call _ _ _ _ => true
  | _ => false
def setX : Expr → Bool
  | .Set _ _ _ => true
  | _ => false
def sliceX : Expr → Bool
  | .Slice _ _ _ _ => true
  | _ => false
/-- its truth is asked of its value -/
def plainT : Expr → Bool
  | .UnaryOp .Not _ _ => false
  | .BoolOp _ _ _ => false
  | .IfExp _ _ _ _ => false
  | .Compare _ _ _ _ => false
  | _ => true
theorem star_cons {e : Expr} {es : List Expr} {env : Env} (h : starX e = false) : starEach (e :: es) env = (false, eval e env) :: starEach es env := by
  cases e <;> first | rfl | cases h
theorem star_none {es : List Expr} {env : Env} (h : es.all (fun e => !starX e) = true) : (starEach es env).any (·.1) = false := by
  induction es with
  | nil => rfl
  | cons e es ih =>
    rw [List.all_cons, Bool.and_eq_true] at h
    rw [star_cons (by simpa using h.1), List.any_cons, ih h.2]
    rfl
theorem back_none {es : List Expr} {env : Env} {pos : Pos} (h : es.all (fun e => !starX e) = true) : (backTo pos (starEach es env)).any (·.1) = false := by
  unfold backTo
  rw [List.any_map]
  exact star_none h
theorem attr_base {o : Expr} {a : Str} {env : Env} {w : Sem Value} (h : callX o = false) : attributeBase o a env w = w := by
  cases o <;> first | rfl | cases h
theorem no_marks {b : Expr} {op : CmpOp} (h : setX b = false) : behindInMarks op b = false := by
  cases b <;> first | rfl | cases h
theorem plain_ix {b : Expr} (h : sliceX b = false) : PlainIx b := by
  intro o i
  cases b <;> first | rfl | cases h
theorem plain_true {e : Expr} {env : Env} (h : plainT e = true) (w : Sem Value) : isTrue e env w = (do let v ← w; standAt e.pos; holding [v] (truthy v)) := by
  cases e with
  | UnaryOp op a p => cases op <;> first | rfl | cases h
  | BoolOp _ _ _ => cases h
  | IfExp _ _ _ _ => cases h
  | Compare _ _ _ _ => cases h
  | _ => rfl
theorem no_fold {e : Expr} {env : Env} (h : setX e = false) (x : Value) : foldedSetIterable e env x = pure x := by
  cases e <;> first | rfl | cases h

/-! ### own exceptions whose __init__ says super().__init__(f, ..), then self.f = f -/
section
variable {X : Cx} {pins : List (Addr × Obj)} {σ : L2.St} {H : Hp} {s : Shared} {a C u : Addr} {A : Around} {E : Value → Shared → Prop}
theorem obinit_ok {us : List Value} {Q : Value → Shared → Prop} (T : OexC X.K C) (I : Inv X pins σ H s) (e : H a = some (exo a C none)) (hu : s.heap.get? u = some (PySem.W.kxs_mw "ValueError.__init__" a)) (hl : us.length ≤ sizeLine) (h : ∀ s', Inv X pins σ H s' → Q .none s') :
    wpAny (model X.prog X.w) A (call (.ref u) us) Q E s := by
  obtain ⟨nm, q, N, bs, bm, sn, sub, ab, col, dd, k0, k1, k2, k3, k5, hC, hbm⟩ := T.cls
  obtain ⟨t1, ho⟩ := exo_at I.hok e
  have hCh := I.kIn _ _ hC
  obtain ⟨hp, g, d, t, os⟩ := s
  refine wpAny_call (codeAny_of_tree ?_)
  show wpAny _ A.in1 (callAny (.ref u) ⟨us, []⟩) _ _ _
  simp only [callAny]
  refine wpAny_bind (wpAny_load hu ?_)
  simp only [PySem.W.kxs_mw, show (Value.type "method-wrapper" == Value.type "method" || Value.type "method-wrapper" == Value.type "builtin_function_or_method" || Value.type "method-wrapper" == Value.type "method-wrapper") = true by decide, if_true]
  refine PySem.W.KFB.if_so (by decide) ?_
  refine wpAny_bind (PySem.W.check_bound_init F.excBase_ValueError.toExcCallFacts hCh ho rfl ?_)
  refine wpAny_bind (wpAny_pure (wpAny_pure ?_))
  refine ⟨plainId_quiet F.excBase_ValueError.init.plain _, codeAny_builtin F.excBase_ValueError.initEntry ?_⟩
  refine PySem.W.exc_init_tree (cls := .ref C) (t0 := t1) (dv := none) (c2 := .none) (c3 := .none) (b4 := .bool false) ho hl fun h' k hx _ => ?_
  have J := I.write (t' := t) (x := a) (e := a) (o := exo a C none) (by rw [e]; exact True.intro) (.inl rfl) k ⟨_, hx⟩ (exo_ok hx)
  have eu : upd H a (exo a C none) = H := by
    funext b
    by_cases hb : b = a
    · rw [hb, upd_same, e]
    · rw [upd_ne hb]
  rw [eu] at J
  exact h _ J
end

/-- what is told of the def __init__ of the class C -/
structure SupC (P : Program) (K : PySem.W.Frag) (C fI cc : Addr) (F : NF) (fd : FuncData) : Prop where
  fn : ∃ oc od osl, K.lookup fI = some ⟨oc, od, .func fd, osl⟩
  fd : ∃ dV kV doc pm an ct, fd = PySem.W.fnX F.name F.qual F.params F.body F.scope F.cl dV kV doc pm an (.ref F.c) ct
  cl : F.cl = [(("__class__" : Str), cc)]
  cd : PySem.W.codeIn K (.ref F.c) F.qual = true
  file : ∃ (ccl : Value) (cdd : Option Addr) (vs : Array Value) (ccs : Array (Option Value)) (file : Str) (tf : Tok), K.lookup F.c = some ⟨ccl, cdd, .fields vs, ccs⟩ ∧ vs[2]? = some (.str file tf) ∧ ((P.main.file : Str) == file) = true
  cell : ∃ (cl : Value) (cld : Option Addr) (csl : Array (Option Value)), K.lookup cc = some ⟨cl, cld, .cell (some (.ref C)), csl⟩
  sup : PySem.W.nsIn K mainGlobals "super" = some none
  thp : PySem.W.nsIn K cStatics "thirdparty.any" = some none
  ini : PySem.W.ks_superIn K C C "__init__" = some (some (.builtin "ValueError.__init__"))
  isV : PySem.W.subIn K (.ref C) (.type "ValueError") = some true
  top : (P.main.scope.names.lookup ("super" : Str)).isSome = false

/-! the shape of its body -/
def argsB (N : List Str) (sc : Scope) : Nat → List Str → List Expr → Bool
  | _, [], es => es.isEmpty
  | i, f :: fs, es => match es with
    | .Name y _ :: es => decide (y = f) && decide (N[i]? = some y) && visB sc y && !(y == ("__debug__" : Str)) && !(y == ("__classdict__" : Str)) && argsB N sc (i + 1) fs es
    | _ => false
def asgB (N : List Str) (sc : Scope) (self : Str) : Nat → List Str → List Stmt → Bool
  | _, [], es => es.isEmpty
  | i, f :: fs, es => match es with
    | .Assign [.Attribute (.Name z _) g _] (.Name y _) _ :: es => decide (g = f) && decide (z = self) && decide (N[i]? = some y) && visB sc y && !(y == ("__debug__" : Str)) && !(y == ("__classdict__" : Str)) && asgB N sc self (i + 1) fs es
    | _ => false
def initB (N : List Str) (sc : Scope) (self : Str) (fs : List Str) (body : List Stmt) : Bool := match body with
  | .Expr (.Call (.Attribute (.Call (.Name sp _) [] [] _) m ap) (e :: es) [] cp) _ :: rest => decide (sp = "super") && decide (m = "__init__") && (ap.endLine == cp.line) && decide ((e :: es).length ≤ 20) && argsB N sc 1 fs (e :: es) && asgB N sc self 1 fs rest
  | _ => false

section
variable {X : Cx}
/-- the parameters' values at the slots from i on -/
def Slots (σ : L2.St) (i : Nat) (vs : List V) : Prop := ∀ j v, vs[j]? = some v → σ[i + j]? = some (some v)
theorem Slots.head {σ : L2.St} {i : Nat} {v : V} {vs : List V} (h : Slots σ i (v :: vs)) : σ[i]? = some (some v) := h 0 v rfl
theorem Slots.tail {σ : L2.St} {i : Nat} {v : V} {vs : List V} (h : Slots σ i (v :: vs)) : Slots σ (i + 1) vs := fun j w e => by
  have := h (j + 1) w (by simpa using e)
  rw [Nat.add_assoc, Nat.add_comm 1 j]
  exact this
theorem pa_args : ∀ {fs : List Str} {es : List Expr} {i : Nat}, argsB X.N X.env.scope i fs es = true →
    PA X es (fun σ H Q => ∃ vs : List V, vs.length = fs.length ∧ Slots σ i vs ∧ Q vs H) ∧ es.all (fun e => !starX e) = true
  | [], es, i, h => by
    cases es with
    | nil =>
      refine ⟨PA.imp pa_nil fun σ H Q t => ?_, rfl⟩
      obtain ⟨vs, e, _, q⟩ := t
      have : vs = [] := by cases vs with | nil => rfl | cons _ _ => cases e
      subst this
      exact q
    | cons _ _ => cases h
  | f :: fs, es, i, h => by
    unfold argsB at h
    split at h
    · simp only [Bool.and_eq_true, decide_eq_true_eq, Bool.not_eq_true'] at h
      obtain ⟨⟨⟨⟨⟨h1, h2⟩, h3⟩, h4⟩, h5⟩, h6⟩ := h
      obtain ⟨k1, k2⟩ := pa_args h6
      refine ⟨PA.imp (pa_cons (pe_var (i := i) h2 (visB_ok h3) h4 h5) k1 rfl) fun σ H Q t => ?_, by rw [List.all_cons, k2]; rfl⟩
      obtain ⟨vs, e, sl, q⟩ := t
      cases vs with
      | nil => cases e
      | cons v vs => exact ⟨v, sl.head, vs, by simpa using e, sl.tail, q⟩
    · cases h
theorem upd_upd {H : Hp} {a : Addr} {o u : HO} : upd (upd H a o) a u = upd H a u := by
  funext b
  by_cases h : b = a
  · rw [h, upd_same, upd_same]
  · rw [upd_ne h, upd_ne h, upd_ne h]
/-- the fields, once there is a dict -/
theorem pss_more {self : Str} (h0 : X.N[0]? = some self) (hv : visB X.env.scope self = true) (hs : (self == ("__debug__" : Str)) = false ∧ (self == ("__classdict__" : Str)) = false) : ∀ {fs : List Str} {es : List Stmt} {i : Nat}, asgB X.N X.env.scope self i fs es = true →
    PSs X es (fun D σ H => ∃ (a C dx : Addr) (f0 : List (Str × V)) (vs : List V), σ[0]? = some (some (.ref a)) ∧ vs.length = fs.length ∧ Slots σ i vs ∧ OexC X.K C ∧ (∀ f ∈ fs, PySem.W.findIn X.K (.ref C) f = some none) ∧
      H a = some (exo a C (some dx)) ∧ H dx = some (exd dx f0) ∧ dx ≠ a ∧ f0.length + fs.length ≤ 900 ∧ D.nx σ (upd H dx (exd dx ((fs.zip vs).reverse ++ f0))))
  | [], es, i, h => by
    cases es with
    | nil =>
      refine PSs.imp pss_nil fun D σ H t => ?_
      obtain ⟨a, C, dx, f0, vs, _, _, _, _, _, _, ed, _, _, q⟩ := t
      have e : upd H dx (exd dx f0) = H := by
        funext b
        by_cases hb : b = dx
        · rw [hb, upd_same, ed]
        · rw [upd_ne hb]
      rw [List.zip_nil_left, List.reverse_nil, List.nil_append, e] at q
      exact q
    | cons _ _ => cases h
  | f :: fs, es, i, h => by
    unfold asgB at h
    split at h
    · simp only [Bool.and_eq_true, decide_eq_true_eq, Bool.not_eq_true'] at h
      obtain ⟨⟨⟨⟨⟨⟨h1, h2⟩, h3⟩, h4⟩, h5⟩, h6⟩, h7⟩ := h
      subst h1 h2
      refine PSs.imp (pss_cons (ps_ost (pe_var (i := 0) h0 (visB_ok hv) hs.1 hs.2) (pe_var (i := i) h3 (visB_ok h4) h5 h6)) (pss_more h0 hv hs h7)) fun D σ H t => ?_
      obtain ⟨a, C, dx, f0, vs, e0, e1, sl, T, hno, ea, ed, ne, hl, q⟩ := t
      cases vs with
      | nil => cases e1
      | cons v vs =>
        simp only [List.length_cons] at hl
        refine ⟨v, sl.head, .ref a, e0, a, C, rfl, T, hno _ List.mem_cons_self, .inr ⟨dx, f0, ea, ed, by omega, ?_⟩⟩
        refine ⟨a, C, dx, _, vs, e0, by simpa using e1, sl.tail, T, fun g hg => hno g (List.mem_cons_of_mem _ hg), by rw [upd_ne (Ne.symm ne)]; exact ea, upd_same, ne, by simp only [List.length_cons]; omega, ?_⟩
        rw [upd_upd]
        simp only [List.zip_cons_cons, List.reverse_cons, List.append_assoc, List.singleton_append] at q
        exact q
    · cases h
/-- all fields: the first makes the dict -/
theorem pss_asg {self : Str} (h0 : X.N[0]? = some self) (hv : visB X.env.scope self = true) (hs : (self == ("__debug__" : Str)) = false ∧ (self == ("__classdict__" : Str)) = false) {f : Str} {fs : List Str} {es : List Stmt} (h : asgB X.N X.env.scope self 1 (f :: fs) es = true) :
    PSs X es (fun D σ H => ∃ (a C : Addr) (vs : List V), σ[0]? = some (some (.ref a)) ∧ vs.length = (f :: fs).length ∧ Slots σ 1 vs ∧ OexC X.K C ∧ (∀ g ∈ f :: fs, PySem.W.findIn X.K (.ref C) g = some none) ∧
      H a = some (exo a C none) ∧ fs.length ≤ 100 ∧ ∀ dx, H dx = none → dx ≠ a → D.nx σ (upd (upd (upd H dx (exd dx [])) a (exo a C (some dx))) dx (exd dx ((f :: fs).zip vs).reverse))) := by
  unfold asgB at h
  split at h
  · simp only [Bool.and_eq_true, decide_eq_true_eq, Bool.not_eq_true'] at h
    obtain ⟨⟨⟨⟨⟨⟨h1, h2⟩, h3⟩, h4⟩, h5⟩, h6⟩, h7⟩ := h
    subst h1 h2
    refine PSs.imp (pss_cons (ps_ost (pe_var (i := 0) h0 (visB_ok hv) hs.1 hs.2) (pe_var (i := 1) h3 (visB_ok h4) h5 h6)) (pss_more h0 hv hs h7)) fun D σ H t => ?_
    obtain ⟨a, C, vs, e0, e1, sl, T, hno, ea, hl, q⟩ := t
    cases vs with
    | nil => cases e1
    | cons v vs =>
      refine ⟨v, sl.head, .ref a, e0, a, C, rfl, T, hno _ List.mem_cons_self, .inl ⟨ea, fun dx hn ne => ?_⟩⟩
      refine ⟨a, C, dx, _, vs, e0, by simpa using e1, sl.tail, T, fun g hg => hno g (List.mem_cons_of_mem _ hg), upd_same, by rw [upd_ne ne]; exact upd_same, ne, by simp only [List.length_cons, List.length_nil]; omega, ?_⟩
      have q := q dx hn ne
      simp only [List.zip_cons_cons, List.reverse_cons] at q
      have e : ∀ o o2 : HO, upd (upd (upd H dx o) a (exo a C (some dx))) dx o2 = upd (upd H a (exo a C (some dx))) dx o2 := fun o o2 => by
        funext b
        by_cases hb : b = dx
        · rw [hb, upd_same, upd_same]
        · rw [upd_ne hb, upd_ne hb]
          by_cases hb2 : b = a
          · rw [hb2, upd_same, upd_same]
          · rw [upd_ne hb2, upd_ne hb2, upd_ne hb]
      rw [e] at q ⊢
      exact q
  · cases h
end

theorem call_attr {o e : Expr} {es : List Expr} {m : Str} {ap cp : Pos} {env : Env} (hl : (ap.endLine == cp.line) = true) (hs : (e :: es).all (fun e => !starX e) = true) (hn : (e :: es).length ≤ 20) :
    eval (.Call (.Attribute o m ap) (e :: es) [] cp) env = (do
      let ov ← attributeBase o m env (eval o env)
      standAt ap.atName
      let (f, first) ← holding [ov] (getMethod ov m (do return (← importBound o env).getD true))
      callWith cp f first (backTo cp (starEach (e :: es) env)) []) := by
  have ha : ((backTo cp (starEach (e :: es) env)).all fun x => !x.1) = true := by
    have z := back_none (env := env) (pos := cp) hs
    rw [List.all_eq_true]
    intro x hx
    have y := List.any_eq_false.mp z x hx
    simpa using y
  have hform : methodCallForm ((e :: es).length + ([] : List Keyword).length) (backTo cp (starEach (e :: es) env)) (backToKw cp (keywordEach [] env)) = true := by
    unfold methodCallForm
    rw [ha]
    show decide (((e :: es).length + 0) + 0 < 30) = true
    exact decide_eq_true (by omega)
  have hpos : methodCallPos true o env ap cp = pure cp := by unfold methodCallPos; simp [hl]
  rw [arm_eval_Call]
  simp only [methodCall, hform, calleeOf, if_true, hpos, pure_bind]
  rfl
/-- what the def __init__ keeps -/
def spI (C : Addr) (fs : List Str) : Sp := fun vs H Q _ => ∃ (a : Addr) (ws : List V), vs = .ref a :: ws ∧ ws.length = fs.length ∧ H a = some (exo a C none) ∧
  ∀ dx, H dx = none → dx ≠ a → Q .non (upd (upd (upd H dx (exd dx [])) a (exo a C (some dx))) dx (exd dx (fs.zip ws).reverse))
theorem fr_lookup {y : Str} {c cc : Addr} (e : List.lookup y [(("__class__" : Str), cc)] = some c) : y = "__class__" ∧ c = cc := by
  by_cases h : y = "__class__"
  · subst h
    simp [List.lookup] at e
    exact ⟨rfl, e.symm⟩
  · have : (y == ("__class__" : Str)) = false := beq_eq_false_iff_ne.mpr h
    simp [List.lookup, this] at e
section
variable {P : Program} {w : World} {K : PySem.W.Frag} {mg : Str → Option Value} {base : Heap} {N : List Str} {F : NF} {C fI cc : Addr} {fd : FuncData} {self f : Str} {fs : List Str}
theorem init_ok (T : OexC K C) (U : SupC P K C fI cc F fd) (S : NScope N (self :: f :: fs) ["__class__"] F.scope) (hs : (self == ("__debug__" : Str)) = false ∧ (self == ("__classdict__" : Str)) = false) (hk : F.scope.names.lookup ("super" : Str) = some .globalImplicit)
    (hh : ∃ ar, (F.params.posonlyargs ++ F.params.args).head? = some ar ∧ ar.arg = self) (hb : initB N F.scope self (f :: fs) F.body = true) (hno : ∀ g ∈ f :: fs, PySem.W.findIn K (.ref C) g = some none) (hl : fs.length ≤ 100) :
    FnOk P w K mg base (L2.CX P w) 0 fI fd (self :: f :: fs) (spI C (f :: fs)) := by
  refine ⟨fun vs H Q E h => ?_, fun A outer s H args us vs Q E hr e0 hbd r hsp => ?_⟩
  · obtain ⟨a, ws, rfl, e, _⟩ := h
    simp [e]
  obtain ⟨a, ws, rfl, hwl, ea, hq⟩ := hsp
  obtain ⟨oc, od, osl, lk⟩ := U.fn
  obtain ⟨dV, kV, doc, pm, an, ct, rfl⟩ := U.fd
  obtain ⟨ccl, cdd, cvs, ccs, file, tf, lkc, hv2, hfile⟩ := U.file
  obtain ⟨cl, cld, csl, lkcc⟩ := U.cell
  obtain ⟨ar, har, rfl⟩ := hh
  have KX : K.In s.heap := e0.mod.kin.keeps fun b o e => (e0.bs b o e).1
  have lim : s.heap.NoLimit := e0.mod.nolimit.keeps fun b o e => (e0.bs b o e).1
  have hul : us.length = (ar.arg :: f :: fs).length := by
    rw [← r.length]
    simp [hwl]
  refine ks_codeAny_call_defAt (fd := PySem.W.fnX F.name F.qual F.params F.body F.scope F.cl dV kV doc pm an (.ref F.c) ct) (body := F.body) (binds := (ar.arg :: f :: fs).zip us) hr.depth (KX _ _ lk) rfl lim (PySem.W.codeRec_of KX U.cd) rfl hbd S.nocell
    (fun ⟨n, _⟩ hy => S.par n (List.of_mem_zip hy).1) (fun h₁ hns kp => ?_) S.co S.gen S.kind
  let Xc := ncx (L2.CX P w) P w K mg base N F fI A outer s H E
  have CA : CellsAt F.cl ["__class__"] [none] s.heap H := by
    rw [U.cl]
    refine ⟨rfl, fun y c e => ?_, fun x y c e1 e2 => ?_, fun i y e => ?_⟩
    · obtain ⟨_, rfl⟩ := fr_lookup e
      obtain ⟨z1, z2⟩ := e0.bs _ _ (e0.mod.kin _ _ lkcc)
      exact ⟨z2, _, _, z1, rfl⟩
    · rw [(fr_lookup e1).1, (fr_lookup e2).1]
    · cases i with
      | zero =>
        simp at e
        subst e
        exact ⟨cc, by simp [List.lookup], fun v z => by simp at z⟩
      | succ i => simp at e
  have I : Inv Xc [] (startF N (.ref a :: ws) [none]) H { s with heap := h₁, toks := s.toks + ((ar.arg :: f :: fs).zip us).length } := inv_startN S hr.hd e0 (by simp [hwl]) r CA hns kp
  have hN0 : N[0]? = some ar.arg := by
    have := congrArg (fun l => l[0]?) S.pre
    simp only [List.length_cons] at this
    rw [List.getElem?_take_of_lt (by omega)] at this
    simpa using this
  have slots : Slots (startF N (.ref a :: ws) [none]) 1 ws := fun j v e => by
    have hj : j < ws.length := (List.getElem?_eq_some_iff.mp e).1
    unfold startF
    rw [List.getElem?_append_left (by simp; omega), List.getElem?_map, Nat.add_comm 1 j, List.getElem?_cons_succ, e]
    rfl
  have hself : visB F.scope ar.arg = true := by
    unfold visB
    rw [S.par _ List.mem_cons_self]
  have hN : H a = some (exo a C none) := ea
  obtain ⟨nm, q, N', bs, bm, sn, sub, ab, col, dd, k0, k1, k2, k3, k5, hC, hbm⟩ := id T.cls
  have hcl : PySem.W.clsIn K C = some { name := nm, bases := bs, mro := .ref C :: bm, ns := N', qualname := q, hasDict := true, slotNames := sn, subclasses := sub, abstract := ab, collection := col, hasDel := false } := by unfold PySem.W.clsIn; rw [hC] <;> rfl
  have hmro : PySem.W.mroIn K C (.ref C) = some true := by
    unfold PySem.W.mroIn
    rw [hcl, Option.bind_some, if_neg (show ¬ (List.isEmpty (Value.ref C :: bm) = true) from Bool.false_ne_true)]
    simp
  have hini : PySem.W.alongIn K "__init__" (((Value.ref C :: bm).dropWhile (· != .ref C)).drop 1) = some (some (.builtin "ValueError.__init__")) := by
    have z := U.ini
    unfold PySem.W.ks_superIn at z
    rw [hcl, Option.bind_some] at z
    exact z
  have hbb := hb
  unfold initB at hb
  split at hb
  · rename_i sp p0 p1 m ap e es cp p3 rest hbody
    simp only [Bool.and_eq_true, decide_eq_true_eq] at hb
    obtain ⟨⟨⟨⟨⟨rfl, rfl⟩, hline⟩, hlen⟩, hargs⟩, hasg⟩ := hb
    show _root_.PySem.wpAt (model P w) Xc.A (.func F.body Xc.env) (execs F.body Xc.env) _ _ _
    rw [hbody]
    obtain ⟨PA1, hst⟩ := pa_args (X := Xc) (fs := f :: fs) (es := e :: es) (i := 1) hargs
    refine ks_wpAt_execs_cons (ks_wpAt_Expr_any (ks_wpAt_MethodCall ?_ (call_attr hline hst hlen)) I.quiet (by rfl))
    have ho1 := exo_at I.hok ea
    obtain ⟨t1, ho1⟩ := ho1
    have kin1 : K.In h₁ := I.kIn
    obtain ⟨m0, hns1, hloc⟩ := I.loc
    obtain ⟨u0, ru0, lu0⟩ := hloc 0 ar.arg (.ref a) hN0 rfl (visB_ok hself)
    obtain rfl : u0 = Value.ref a := ru0
    have hm0 : m0 ar.arg = some (.ref a) := by
      rcases lu0 with ⟨_, z⟩ | ⟨z, _⟩
      · exact z
      · have y : F.scope.names.lookup ar.arg = some .local := S.par _ List.mem_cons_self
        rcases z with z | z
        · have z : F.scope.names.lookup ar.arg = some .cell := z
          rw [y] at z; cases z
        · have z : F.scope.names.lookup ar.arg = some .free := z
          rw [y] at z; cases z
    obtain ⟨mb, b1, b2⟩ := I.mod.blt
    refine ks_wpAt_super_base (env := Xc.env) hk (S.frk _ List.mem_cons_self) (by decide) rfl (kin1 _ _ lk) rfl har rfl (kin1 _ _ lkc) rfl hv2 hfile U.top ?_
    refine PySem.W.ks_loadName_global S.kind hk (Calls.loadGlobal_builtin (I.mod.glob.keeps I.bk) (PySem.W.mg_none_of I.mod.kin I.mod.glob U.sup) (b1.keeps I.bk) ((b2 "super" (by decide)).trans (show bootBuiltins "super" = some (.type "super") by decide +kernel)) ⟨rfl, ?_⟩)
    refine wpAny_loadName_free S.kind (S.frk _ List.mem_cons_self) (show List.lookup ("__class__" : Str) F.cl = some cc by rw [U.cl]; simp [List.lookup]) ⟨_, kin1 _ _ lkcc, rfl⟩ ?_
    refine wpAny_loadName_local S.kind (S.par _ List.mem_cons_self) hns1 hm0 ?_
    refine ks_wpAny_isType_cls (kin1 _ _ hC) rfl ⟨rfl, ?_⟩
    refine ks_wpAny_call_super (kin1 _ _ hC) rfl ho1 rfl (fun c z => nomatch z) (PySem.W.looks_mroIn kin1 hmro) (fun h2 eso k2' => ?_)
    have I1 : Inv Xc [] (startF N (.ref a :: ws) [none]) H { s with heap := h2, toks := s.toks + ((ar.arg :: f :: fs).zip us).length } := I.kept k2'
    have kin2 : K.In h2 := I1.kIn
    obtain ⟨t2, ho2⟩ := exo_at I1.hok ea
    have hxC : a ≠ C := fun z => by
      have y := kin2 _ _ hC
      rw [← z, ho2] at y
      cases y
    have LT : PySem.W.Looks (model P w) h2 (typeOf (.ref a)) (.ref C) := fun A Q E s k q => wpAny_typeOf_ref (k _ _ ho2) q
    refine PySem.W.kxs_getMethod PySem.W.kxs_ValueError (x := a) eso (PySem.W.looks_opaque kin2 U.thp) (l₀ := .ref C :: bm) (fun A Q E s k q => wpAny_bind ((PySem.W.looks_clsIn kin2 hcl) A _ E s k (wpAny_pure q))) rfl kin2 hini (LT.andThen (PySem.W.looks_subIn kin2 U.isV)) hxC (by decide) ?_
    have I2 : Inv Xc [] (startF N (.ref a :: ws) [none]) H { s with heap := h2.push (PySem.W.kxs_mw "ValueError.__init__" a), toks := s.toks + ((ar.arg :: f :: fs).zip us).length + 1 } := I1.kept (fun b o e => Heap.get?_push_of_some _ e)
    have hmw : (h2.push (PySem.W.kxs_mw "ValueError.__init__" a)).get? h2.objs.size = some (PySem.W.kxs_mw "ValueError.__init__" a) := Heap.get?_push_at rfl rfl
    have I3 : Inv Xc [(h2.objs.size, PySem.W.kxs_mw "ValueError.__init__" a)] (startF N (.ref a :: ws) [none]) H { s with heap := h2.push (PySem.W.kxs_mw "ValueError.__init__" a), toks := s.toks + ((ar.arg :: f :: fs).zip us).length + 1 } := { I2 with
      pin := fun p hp => by
        rcases List.mem_append.mp hp with z | z
        · cases z
        · obtain rfl : p = (h2.objs.size, PySem.W.kxs_mw "ValueError.__init__" a) := by simpa using z
          exact ⟨hmw, I1.hok.fresh (Nat.le_refl _), fun z => absurd I1.lt (by rw [← z]; exact Nat.lt_irrefl _), I1.nofs (Nat.le_refl _), fun v z => nomatch z⟩ }
    have hst2 := hst
    rw [List.all_cons, Bool.and_eq_true] at hst2
    have hse : starX e = false := by simpa using hst2.1
    have hPA := PA1.run cp _ _ _ H (fun vs H1 => vs = ws ∧ H1 = H) I3 ⟨ws, hwl, slots, rfl, rfl⟩
    have hbk := back_none (env := Xc.env) (pos := cp) hst
    rw [star_cons hse] at hPA hbk ⊢
    refine PySem.W.kxs_callWith (i := "ValueError.__init__") (x := a) hbk (Calls.evalArgs_plain ?_)
    refine wpAny_mono hPA (fun vs s1 hv => ?_) fun e s' z => z
    obtain ⟨vs', H1, I4, r4, rfl, rfl⟩ := hv
    refine ⟨(I4.pin (h2.objs.size, PySem.W.kxs_mw "ValueError.__init__" a) (List.mem_append_right _ List.mem_cons_self)).1, ?_⟩
    refine obinit_ok T I4 ea (I4.pin (h2.objs.size, PySem.W.kxs_mw "ValueError.__init__" a) (List.mem_append_right _ List.mem_cons_self)).1 (by show vs.length ≤ sizeLine; rw [← Paired.length r4, hwl, sizeLine_eq]; simp only [List.length_cons]; omega) fun s' J => ?_
    have J' : Inv Xc [] (startF N (.ref a :: vs') [none]) H1 s' := { J with pin := fun p hp => absurd (show p ∈ ([] : List (Addr × Obj)) ++ [] from hp) (by simp) }
    refine wpAt_of_wpAny (wpAny_mono ((pss_asg (X := Xc) hN0 hself hs hasg).run [] s' (startF N (.ref a :: vs') [none]) H1 { nx := fun _ H' => Q .non H', rt := fun _ _ => False } J' ⟨a, C, vs', rfl, hwl, slots, T, hno, ea, hl, fun dx h1 h2 => hq dx h1 h2⟩) (fun fl s2 hs2 => ?_) fun e s' hs => hs)
    cases fl with
    | next =>
      obtain ⟨σ', H', J2, q2⟩ := hs2
      exact ⟨.non, H', J2.os, J2.bare, J2.base, J2.hok, rfl, q2⟩
    | ret u =>
      obtain ⟨v, σ', H', J2, rv, q2⟩ := hs2
      exact q2.elim
    | brk =>
      obtain ⟨_, _, _, q2⟩ := hs2
      exact False.elim q2
    | cont =>
      obtain ⟨_, _, _, q2⟩ := hs2
      exact False.elim q2
  · cases hb
end
/-- what is told of an own exception class -/
structure XOk (P : Program) (w : World) (K : PySem.W.Frag) (mg : Str → Option Value) (ca : String → Addr) (xcs : List XC) (q : XC) : Prop where
  gl : mg (Str.ofString q.name) = some (.ref (ca q.name))
  sub : ∀ r ∈ xcs, PySem.W.subIn K (.ref (ca q.name)) (.ref (ca r.name)) = some (decide (r.name ∈ q.anc))
  xf : XfC K (ca q.name)
  xi : ExcC K (ca q.name)
  ty : PySem.W.typeIn K (.ref (ca q.name)) = some (.type "type")
  kit : ∀ r ∈ xcs, PySem.W.kitOne K (.ref (ca q.name)) (.ref (ca r.name)) = some (decide (r.name ∈ q.anc))
  fld : ∀ r ∈ xcs, ∀ f ∈ r.fields, PySem.W.findIn K (.ref (ca q.name)) (Str.ofString f) = some none
  ini : q.fields ≠ [] → OexC K (ca q.name) ∧ ∃ fI fd ps, PySem.W.findIn K (.ref (ca q.name)) "__init__" = some (some (.ref fI)) ∧ PySem.W.typeIn K (.ref fI) = some (.type "function") ∧ Binds K fd ps [] ∧
    ∀ base, FnOk P w K mg base (L2.CX P w) 0 fI fd ps (spI (ca q.name) (q.fields.map Str.ofString))
end Ev

set_option Elab.async false
set_option linter.all false
set_option maxRecDepth 100000
namespace Ev
open PySem PySem.Spec PyProof.Rows L2
open HT

/-! ### t[::-1] of a tuple -/
section
variable {prog : Program} {w : World} {A : Around} {E : Value → Shared → Prop} {s : Shared}
theorem adj_back (n : Nat) : Builtin.Slice.sliceAdjust none none (-1) (n : Int) = ((n : Int) - 1, -1) := by
  unfold Builtin.Slice.sliceAdjust
  rfl
theorem plc_back (n : Nat) : Builtin.Slice.slicePlaces ((n : Int) - 1) (-1) (-1) = n := by
  unfold Builtin.Slice.slicePlaces
  have h1 : ¬ ((-1 : Int) > 0) := by omega
  simp only [h1, if_false]
  split
  · simp
  · omega
theorem range_get {α : Type} : ∀ l : List α, (List.range l.length).filterMap (fun m => l[m]?) = l
  | [] => rfl
  | a :: l => by
    rw [List.length_cons, List.range_succ_eq_map, List.filterMap_cons]
    simp only [List.getElem?_cons_zero]
    rw [List.filterMap_map]
    have e : ((fun m => (a :: l)[m]?) ∘ Nat.succ) = fun m => l[m]? := by
      funext m
      simp
    rw [e, range_get l]
theorem fm_congr {α β : Type} {f g : α → Option β} : ∀ {l : List α}, (∀ m ∈ l, f m = g m) → l.filterMap f = l.filterMap g
  | [], _ => rfl
  | a :: l, h => by
    rw [List.filterMap_cons, List.filterMap_cons, h a List.mem_cons_self, fm_congr fun m hm => h m (List.mem_cons_of_mem _ hm)]
theorem pick_back (xs : Array Value) : ((List.range xs.size).filterMap fun (m : Nat) => xs[(((xs.size : Int) - 1) + (m : Int) * (-1)).toNat]?).toArray = xs.toList.reverse.toArray := by
  congr 1
  have h : ∀ m ∈ List.range xs.size, xs[(((xs.size : Int) - 1) + (m : Int) * (-1)).toNat]? = xs.toList.reverse[m]? := fun m hm => by
    have hm := List.mem_range.mp hm
    have e : (((xs.size : Int) - 1) + (m : Int) * (-1)).toNat = xs.toList.length - 1 - m := by rw [Array.length_toList]; omega
    rw [List.getElem?_reverse (by rw [Array.length_toList]; exact hm), e, Array.getElem?_toList]
  rw [fm_congr h]
  have := range_get xs.toList.reverse
  rw [List.length_reverse, Array.length_toList] at this
  exact this
theorem applied_back {sl : Addr} {vl vu vs : Value} {n : Nat} {Q : Int × Int × Nat → Shared → Prop} (hs : s.heap.IsSliceOf sl vl vu vs) (pl : IsPart vl none) (pu : IsPart vu none) (ps : IsPart vs (some (-1))) (h : Q ((n : Int) - 1, -1, n) s) :
    wpAny (model prog w) A (Builtin.Slice.sliceApplied (.ref sl) (pure (n : Int))) Q E s := by
  obtain ⟨os, h1, h2, h3⟩ := id hs
  unfold Builtin.Slice.sliceApplied Builtin.Slice.sliceFields
  refine wpAny_bind (wpAny_bind (wpAny_field h1 h3 (x := vl) rfl (wpAny_bind (wpAny_field h1 h3 (x := vu) rfl (wpAny_bind (wpAny_field h1 h3 (x := vs) rfl (wpAny_pure ?_)))))))
  refine wpAny_bind (slicePart_ ps ?_)
  show wpAny _ _ (if ((-1 : Int) == 0) = true then _ else _) _ _ s
  rw [if_neg (by decide)]
  refine wpAny_bind (slicePart_ pl (wpAny_bind (slicePart_ pu (wpAny_bind (wpAny_pure ?_)))))
  show wpAny _ _ (match Builtin.Slice.sliceAdjust none none (-1) (n : Int) with | (a, b) => pure (a, (-1 : Int), Builtin.Slice.slicePlaces a b (-1))) _ _ s
  rw [adj_back n]
  show wpAny _ _ (pure ((n : Int) - 1, (-1 : Int), Builtin.Slice.slicePlaces ((n : Int) - 1) (-1) (-1))) _ _ s
  rw [plc_back]
  exact wpAny_pure h
theorem getItem_tuple_back {t sl : Addr} {items : Array Value} {vl vu vs : Value} {Q : Value → Shared → Prop} (ht : IsTup s.heap t items) (hs : s.heap.IsSliceOf sl vl vu vs) (pl : IsPart vl none) (pu : IsPart vu none) (ps : IsPart vs (some (-1)))
    (h : Q (.ref s.heap.objs.size) { s with heap := s.heap.push { cls := .type "tuple", data := .seq items.toList.reverse.toArray } })
    (hsz : items.size ≤ sizeLine) : wpAny (model prog w) A (getItem (.ref t) (.ref sl)) Q E s := by
  have htake : sizeOk (.seq items.toList.reverse.toArray) := by
    show items.toList.reverse.toArray.size ≤ sizeLine
    rw [List.size_toArray, List.length_reverse, Array.length_toList]
    exact hsz
  obtain ⟨os, hos, hcs, hds⟩ := id hs
  have hTs : s.TypeIs (.ref sl) "slice" := ⟨os, hos, hcs⟩
  unfold getItem
  try with_reducible refine wpAny_holding ?_
  first | refine wpAny_bind (wpAny_pure ?_) | skip
  refine wpAny_bind (wpAny_sequenceKey ht.typeIs (by decide) ?_)
  refine wpAny_bind (wpAny_callSpecial?_slot (name := Str.ofString "__getitem__") ht.typeIs PyProof.Rows.slot_tuple_getitem
    (wpAny_call_entry PyProof.Rows.slot_tuple_getitem ht.typeIs entry_tuple_getitem ?_ (args_tuple_getitem _ _)))
  show wpAny _ _ (Builtin.Tuple.tupleItemsOf (.ref t) >>= _) _ _ s
  refine wpAny_bind (tupleItemsOf_ ht ?_)
  refine wpAny_bind (wpAny_typeOf hTs ?_)
  rw [if_pos (by decide)]
  refine wpAny_bind (applied_back hs pl pu ps ?_)
  have hno : ¬ ((((items.size : Nat) : Int) - 1 == 0 && (-1 : Int) == 1 && items.size == items.size) = true) := by
    intro q
    rw [Bool.and_eq_true, Bool.and_eq_true] at q
    exact absurd q.1.2 (by decide)
  show wpAny _ _ (if (((items.size : Nat) : Int) - 1 == 0 && (-1 : Int) == 1 && items.size == items.size) = true then _ else _) _ _ s
  rw [if_neg hno, pick_back]
  first
    | exact wpAny_bind (m := Builtin.Tuple.tupleExact _) (wpAny_newObj_type (wpAny_pure ⟨_, rfl, wpAny_pure h⟩) htake)
    | exact wpAny_bind (m := Builtin.Tuple.tupleExact _) (wpAny_newObj_type (wpAny_bind (wpAny_pure (wpAny_pure ⟨_, rfl, wpAny_pure h⟩))) htake)
    | exact wpAny_bind (wpAny_bind (m := Builtin.Tuple.tupleExact _) (wpAny_newObj_type (wpAny_pure (wpAny_pure ⟨_, rfl, wpAny_pure h⟩)) htake))
    | exact wpAny_bind (wpAny_bind (m := Builtin.Tuple.tupleExact _) (wpAny_newObj_type (wpAny_pure ⟨_, rfl, wpAny_pure h⟩) htake))
end
def tRevT (K : PySem.W.Frag) (te : TE) : TE := fun σ H Q => te σ H fun x H1 => ∃ a xs, x = .ref a ∧ SqT K H1 a xs ∧ ∀ p, H1 p = none → Q (.ref p) (upd H1 p (.tup xs.reverse))
theorem pe_revT {X : Cx} {e : Expr} {te : TE} {k : Nat} {p1 p2 p3 pos : Pos} (he : PE X e te) : PE X (.Subscript e (.Slice none none (some (.UnaryOp .USub (.Constant (.int 1) k p1) p2)) p3) pos) (tRevT X.K te) := by
  refine ⟨fun pins s σ H Q I h => ?_⟩
  refine Subscript_ (thn (he.run pins s σ H _ I h) fun v s1 ⟨x, H1, I1, r1, q1⟩ => ?_)
  obtain ⟨a, xs, ex, hx, q⟩ := q1
  subst ex
  cases r1
  have hst : PO X (some (.UnaryOp .USub (.Constant (.int 1) k p1) p2)) (tPart (tUn (rU fun i => .int (-i)) (tC (.int 1)))) := po_some (pe_un un_neg pe_int)
  refine wpAny_Slice (thn (po_none.run pins s1 σ H1 (fun o H2 => o = none ∧ H2 = H1) I1 ⟨rfl, rfl⟩) fun vl s2 ⟨l, H2, I2, pl, el, e2⟩ => ?_)
  subst el e2
  refine thn (po_none.run pins s2 σ H2 (fun o H3 => o = none ∧ H3 = H2) I2 ⟨rfl, rfl⟩) fun vu s3 ⟨u, H3, I3, pu, eu, e3⟩ => ?_
  subst eu e3
  refine thn (hst.run pins s3 σ H3 (fun o H4 => o = some (-1) ∧ H4 = H3) I3 ⟨1, rfl, -1, rfl, rfl, rfl⟩) fun vs s4 ⟨o, H4, I4, ps, eo, e4⟩ => ?_
  subst eo e4
  have I5 : Inv X pins σ H4 { s4 with heap := s4.heap.push { cls := .type "slice", data := .fields #[vl, vu, vs] } } := I4.kept (t' := s4.toks) fun b ob q => Heap.get?_push_of_some _ q
  obtain ⟨its, r, ht, hz⟩ := I5.tuple hx
  have hlen := r.length
  show wpAny (model X.prog X.w) X.A (subscriptTail e (.Slice none none (some (.UnaryOp .USub (.Constant (.int 1) k p1) p2)) p3) (.ref a) (.ref s4.heap.objs.size)) (EP X pins σ Q) X.xe { s4 with heap := s4.heap.push { cls := .type "slice", data := .fields #[vl, vu, vs] } }
  refine tail_any (ops := [.ref a, .ref s4.heap.objs.size]) ht.typeIs (PyProof.Rows.slot_tuple_getitem.lookup) ?_ (by with_unfolding_all rfl)
  refine getItem_tuple_back ht (Heap.IsSliceOf.new _ vl vu vs) pl pu ps ?_ (by rw [List.size_toArray]; omega)
  refine ⟨.ref _, _, I5.laid (t' := s4.toks) (o := .tup xs.reverse) (fun b ob q => Heap.get?_push_of_some _ q) (Nat.le_refl _) ?_, rfl, q _ (I5.hok.fresh (Nat.le_refl _))⟩
  exact ⟨by rw [List.length_reverse]; exact hz, _, r.reverse, IsTup.new _ _⟩
end Ev

set_option Elab.async false
set_option linter.all false
set_option maxRecDepth 100000
namespace Ev
open PySem PySem.Spec PyProof.Rows L2

/-! ### where an expression stands -/
def bnames : List Str := ["len", "abs", "int", "bool", "min", "max", "tuple", "list", "sum", "all", "any", "isinstance", "str", "range", "enumerate", "zip", "sorted", "set", "reversed"]
/-- what a def of the text promises: what the evaluation says -/
def spOf (κ : Kx) (C : String → List D → Hd → R D) (f : String) : Sp := fun vs H Q E => ∃ ρ ds h, Sim κ ρ h H ∧ Reps κ ρ H ds vs ∧ Post κ (rD κ) ρ H (C f ds h) Q E
def permV (pm : List Nat) (xs : List V) : List V := pm.map fun i => xs.getD i .non
structure Good (κ : Kx) (G : Str → Option D) (C : String → List D → Hd → R D) (fs : List String) (N : List Str) (sc : Scope) (fn : Str → Bool) (W : WX) (X : Cx) : Prop where
  K : X.K = κ.K
  calm : X.calm = true
  nd : X.N.Nodup
  N : X.N = N
  sc : X.env.scope = sc
  fn : X.fn = fn
  un : X.A.units + 100 < cLine
  blt : ∀ x ∈ bnames, X.mg x = none
  glb : ∀ x d, G x = some d → ∃ v u, X.mg x = some u ∧ RelV v u ∧ ∀ ρ H, Rep κ ρ H d v
  fns : ∀ f ∈ fs, ∃ k fa fd ps, FnOk X.prog X.w X.K X.mg X.base (L2.CX X.prog X.w) k fa fd ps (spOf κ C f) ∧ Room k X.A ∧ X.mg (Str.ofString f) = some (.ref fa) ∧ PySem.W.keepIn X.K (.ref fa) = true ∧ Binds X.K fd ps []
  kfns : ∀ q ∈ κ.kfs, ∃ k fa fd ps gg gV, FnOk X.prog X.w X.K X.mg X.base (L2.CX X.prog X.w) k fa fd ps (spOf κ C q.f) ∧ Room k X.A ∧ X.mg (Str.ofString q.f) = some (.ref fa) ∧ PySem.W.keepIn X.K (.ref fa) = true ∧ KBinds X.K fd ps (q.ks.map Str.ofString) gg gV ∧ ∀ vs zs, vs.length = q.n → zs.length = q.ks.length → gV vs zs = permV q.pm (vs ++ zs)
  room : Room 1 X.A
  tk : Takes X W
  xok : ∀ q ∈ κ.xcs, XOk X.prog X.w X.K X.mg κ.ca κ.xcs q
  pass : ∀ σ, PassesAt (L2.CX X.prog X.w) X σ (fun c a H => W c a σ H)
abbrev XW (W : WX) (σ : L2.St) : XK := fun c a H => W c a σ H

section
variable {κ : Kx} {G : Str → Option D} {C : String → List D → Hd → R D} {fs : List String} {N : List Str} {sc : Scope} {fn : Str → Bool} {W : WX} {X : Cx}
variable {a b c : Expr} {eva evb evc : Sd → Hd → R D} {pos : Pos}
abbrev PV (κ : Kx) (W : WX) (X : Cx) (e : Expr) (ev : Sd → Hd → R D) : Prop := PE X e (tE κ (rD κ) W ev)
abbrev PB (κ : Kx) (W : WX) (X : Cx) (e : Expr) (ev : Sd → Hd → R Bool) : Prop := PT X e (tE κ rB W ev)
theorem g_var (g : Good κ G C fs N sc fn W X) {i : Nat} {x : Str} (h1 : N[i]? = some x) (h2 : visB sc x = true) (h3 : (x == ("__debug__" : Str)) = false) (h4 : (x == ("__classdict__" : Str)) = false) :
    PV κ W X (.Name x pos) (fun s h => match s[i]? with
      | some (some d) => .ok d h
      | _ => .no) := by
  refine PE.imp (pe_var (i := i) (by rw [g.N]; exact h1) (by rw [g.sc]; exact visB_ok h2) h3 h4) fun σ H Q t => ?_
  obtain ⟨ρ, sd, h, ss, S, p⟩ := t
  dsimp only at p
  split at p
  · rename_i d e
    obtain ⟨v, e1, r⟩ := ss.2 i d e
    exact ⟨v, e1, p.here S r⟩
  · exact p.elim
theorem g_const {d : D} {v : V} {e : Expr} (h : PE X e (tC v)) (hr : ∀ ρ H, Rep κ ρ H d v) : PV κ W X e (fun _ h => .ok d h) := by
  refine PE.imp h fun σ H Q t => ?_
  obtain ⟨ρ, sd, h, ss, S, p⟩ := t
  exact p.here S (hr _ _)
theorem g_glob (g : Good κ G C fs N sc fn W X) {x : Str} (h1 : glB sc x = true) : PV κ W X (.Name x pos) (fun _ h => match G x with
    | some d => .ok d h
    | none => .no) := by
  cases q : G x with
  | none => exact ⟨fun pins s σ H Q I ⟨ρ, sd, h, ss, S, p⟩ => p.elim⟩
  | some d =>
    obtain ⟨v, u, e1, e2, r⟩ := g.glb x d q
    obtain ⟨h2, h3, _⟩ := glB_ok h1
    exact g_const (pe_glob (by unfold Gl Env.kindOf; rw [g.sc]; exact h2) e1 e2 h3) r
theorem g_bin (g : Good κ G C fs N sc fn W X) {op : Operator} (ha : PV κ W X a eva) (hb : PV κ W X b evb) : PV κ W X (.BinOp a op b pos) (fun s h => (eva s h).bind fun x h1 => (evb s h1).bind fun y h2 => binD op x y h2) := by
  refine PE.imp (pe_op (op_bin op) ha hb) fun σ H Q t => ?_
  refine (tE_bind (rel := rD κ) t).mono fun v H1 a1 => ?_
  refine (a1.bind stays_D).mono fun u H2 a2 => ?_
  obtain ⟨ρ, sd, h, x, y, _, S, r1, r2, p⟩ := a2
  rw [g.K]
  exact (ad_bin op).run ρ H2 h x y v u Q _ S r1 r2 p
theorem g_neg (ha : PV κ W X a eva) : PV κ W X (.UnaryOp .USub a pos) (fun s h => (eva s h).bind fun x h1 => match x with
    | .int i => .ok (.int (-i)) h1
    | _ => .no) := by
  refine PE.imp (pe_un un_neg ha) fun σ H Q t => ?_
  refine (tE_bind (rel := rD κ) t).mono fun v H1 a1 => ?_
  obtain ⟨ρ, sd, h, x, _, S, r, p⟩ := a1
  dsimp only at p
  split at p
  · exact ⟨_, r, p.here S rfl⟩
  · exact p.elim
/-- behind two values, a comparison -/
theorem cmp_run (g : Good κ G C fs N sc fn W X) {op : CmpOp} {σ : L2.St} {H : Hp} {Q : VK} (t : tE κ (rD κ) W (fun s h => (eva s h).bind fun x h1 => (evb s h1).bind fun y h2 => Rv (cmpD op x y h2) h2) σ H Q) :
    tOp (rCmp X.K op) (tE κ (rD κ) W eva) (tE κ (rD κ) W evb) σ H Q := by
  refine (tE_bind (rel := rD κ) t).mono fun v H1 a1 => ?_
  refine (a1.bind stays_D).mono fun u H2 a2 => ?_
  obtain ⟨ρ, sd, h, x, y, _, S, r1, r2, p⟩ := a2
  rw [g.K]
  unfold Rv at p
  dsimp only at p
  split at p
  · rename_i e
    exact (ad_cmp op).run ρ H2 h x y v u Q _ S r1 r2 e (p.here S rfl)
  · exact p.elim
theorem g_cmp (g : Good κ G C fs N sc fn W X) {op : CmpOp} (ha : PV κ W X a eva) (hb : PV κ W X b evb) (hs : setX b = false) :
    PV κ W X (.Compare a [op] [b] pos) (fun s h => (eva s h).bind fun x h1 => (evb s h1).bind fun y h2 => Rv (cmpD op x y h2) h2) :=
  PE.imp (pe_cmpR (op_cmp (by have := g.un; omega) op) ha hb (no_marks hs)) fun σ H Q t => cmp_run g t
/-- a value's truth, where it is a bool or not -/
theorem truth_bind {ev : Sd → Hd → R D} {σ : L2.St} {H : Hp} {Q : Bool → Hp → Prop} (t : tE κ rB W (fun s h => (ev s h).bind fun x h1 => Rb (truth h1 x) h1) σ H Q) : tE κ (rD κ) W ev σ H (fun v H1 => ∃ k, TruV κ.K v H1 k ∧ Q k H1) := by
  refine (tE_bind (rel := rD κ) t).mono fun v H1 a1 => ?_
  obtain ⟨ρ, sd, h, x, _, S, r, p⟩ := a1
  unfold Rb at p
  dsimp only at p
  split at p
  · rename_i b e
    exact ⟨b, tru_D S r e, p.here S rfl⟩
  · exact p.elim
theorem g_truth (g : Good κ G C fs N sc fn W X) (ha : PV κ W X a eva) (hp : plainT a = true) : PB κ W X a (fun s h => (eva s h).bind fun x h1 => Rb (truth h1 x) h1) := by
  refine PT.imp (pt_truth ha (plain_true hp)) fun σ H Q t => ?_
  rw [g.K]
  exact truth_bind t
theorem tru_bl {K : PySem.W.Frag} {v : V} {H : Hp} {k : Bool} (h : ∃ c, v = .bl c ∧ k = c) : TruV K v H k := by
  obtain ⟨c, rfl, rfl⟩ := h
  rfl
/-- the evaluation gives bools alone -/
def BL (ev : Sd → Hd → R D) : Prop := ∀ s h x h', ev s h = .ok x h' → ∃ b, x = .bl b
theorem tE_test {ev : Sd → Hd → R D} (hb : BL ev) {σ : L2.St} {H : Hp} {Q : Bool → Hp → Prop} (t : tE κ rB W (fun s h => (ev s h).bind fun x h1 => Rb (truth h1 x) h1) σ H Q) :
    tE κ (rD κ) W ev σ H (fun v H' => ∃ k, v = .bl k ∧ Q k H') := by
  obtain ⟨ρ, sd, h, ss, S, p⟩ := t
  refine ⟨ρ, sd, h, ss, S, ?_⟩
  cases q1 : ev sd h with
  | no => simp only [q1, R.bind] at p; exact p.elim
  | err x h' => simp only [q1, R.bind] at p ⊢; exact p
  | ok x h1 =>
    simp only [q1, R.bind] at p ⊢
    obtain ⟨b, rfl⟩ := hb _ _ _ _ q1
    simp only [Rb, truth] at p
    exact fun ρ' H' v e s r => ⟨b, r, p ρ' H' b e s rfl⟩
theorem bl_rv {o : Option Bool} {h h' : Hd} {x : D} (e : Rv o h = .ok x h') : ∃ b, x = .bl b := by
  unfold Rv at e
  split at e
  · cases e; exact ⟨_, rfl⟩
  · cases e
theorem bl_bind {α : Type} {r : R α} {f : α → Hd → R D} (hf : ∀ x h y h', f x h = .ok y h' → ∃ b, y = .bl b) {y : D} {h' : Hd} (e : r.bind f = .ok y h') : ∃ b, y = .bl b := by
  cases r with
  | no => cases e
  | err x h => cases e
  | ok x h => exact hf _ _ _ _ e
theorem bl_cmp {op : CmpOp} : BL (fun s h => (eva s h).bind fun x h1 => (evb s h1).bind fun y h2 => Rv (cmpD op x y h2) h2) := fun s h x h' e =>
  bl_bind (fun _ _ _ _ e => bl_bind (fun _ _ _ _ e => bl_rv e) e) e
theorem bl_chain {op op' : CmpOp} : BL (fun s h => (eva s h).bind fun x h1 => (evb s h1).bind fun y h2 => (Rb (cmpD op x y h2) h2).bind fun k h3 => if k then (evc s h3).bind fun z h4 => Rv (cmpD op' y z h4) h4 else .ok (.bl false) h3) := fun s h x h' e =>
  bl_bind (fun _ _ _ _ e => bl_bind (fun _ _ _ _ e => bl_bind (fun k _ _ _ e => by
    cases k with
    | true => exact bl_bind (fun _ _ _ _ e => bl_rv e) e
    | false => cases e; exact ⟨_, rfl⟩) e) e) e
theorem g_cmpT (g : Good κ G C fs N sc fn W X) {op : CmpOp} (ha : PV κ W X a eva) (hb : PV κ W X b evb) (hs : setX b = false) :
    PB κ W X (.Compare a [op] [b] pos) (fun s h => ((eva s h).bind fun x h1 => (evb s h1).bind fun y h2 => Rv (cmpD op x y h2) h2).bind fun x h1 => Rb (truth h1 x) h1) :=
  PT.imp (pt_cmpR (op_cmp (by have := g.un; omega) op) ha hb (no_marks hs)) fun σ H Q t => cmp_run g (tE_test bl_cmp t)
theorem g_not (ha : PV κ W X a eva) : PV κ W X (.UnaryOp .Not a pos) (fun s h => (eva s h).bind fun x h1 => match x with
    | .bl b => .ok (.bl (!b)) h1
    | _ => .no) := by
  refine PE.imp (pe_not ha) fun σ H Q t => ?_
  refine (tE_bind (rel := rD κ) t).mono fun v H1 a1 => ?_
  obtain ⟨ρ, sd, h, x, _, S, r, p⟩ := a1
  dsimp only at p
  split at p
  · exact ⟨_, r, p.here S rfl⟩
  · exact p.elim
theorem g_notT {evt : Sd → Hd → R Bool} (ha : PB κ W X a evt) : PB κ W X (.UnaryOp .Not a pos) (fun s h => (evt s h).bind fun b h1 => .ok (!b) h1) := by
  refine PT.imp (pt_not ha) fun σ H Q t => ?_
  refine (tE_bind (rel := rB) t).mono fun v H1 a1 => ?_
  obtain ⟨ρ, sd, h, x, _, S, r, p⟩ := a1
  cases (show v = x from r)
  exact p.here S rfl
theorem g_ite {evt : Sd → Hd → R Bool} (hc : PB κ W X c evt) (ha : PV κ W X a eva) (hb : PV κ W X b evb) : PV κ W X (.IfExp c a b pos) (fun s h => (evt s h).bind fun k h1 => if k then eva s h1 else evb s h1) := by
  refine PE.imp (pe_ifExp hc ha hb) fun σ H Q t => ?_
  refine (tE_bind (rel := rB) t).mono fun v H1 a1 => ?_
  obtain ⟨ρ, sd, h, x, ss, S, r, p⟩ := a1
  cases (show v = x from r)
  cases v with
  | true => rw [if_pos rfl]; exact ⟨ρ, sd, h, ss, S, p⟩
  | false => rw [if_neg Bool.false_ne_true]; exact ⟨ρ, sd, h, ss, S, p⟩
/-! a comparison of three -/
theorem chain_run (g : Good κ G C fs N sc fn W X) {op op' : CmpOp} {σ : L2.St} {H : Hp} {Q : VK}
    (t : tE κ (rD κ) W (fun s h => (eva s h).bind fun x h1 => (evb s h1).bind fun y h2 => (Rb (cmpD op x y h2) h2).bind fun k h3 => if k then (evc s h3).bind fun z h4 => Rv (cmpD op' y z h4) h4 else .ok (.bl false) h3) σ H Q) :
    tChain (rCmp X.K op) (rCmp X.K op') (tE κ (rD κ) W eva) (tE κ (rD κ) W evb) (tE κ (rD κ) W evc) σ H Q := by
  refine (tE_bind (rel := rD κ) t).mono fun v H1 a1 => ?_
  refine (a1.bind stays_D).mono fun u H2 a2 => ?_
  obtain ⟨ρ, sd, h, x, y, ss, S, r1, r2, p⟩ := a2
  rw [g.K]
  cases e : cmpD op x y h with
  | none => simp only [e, Rb, R.bind] at p; exact p.elim
  | some k =>
    simp only [e, Rb, R.bind] at p
    refine (ad_cmp op).run ρ H2 h x y v u _ k S r1 r2 e ⟨k, rfl, ?_⟩
    cases k with
    | false =>
      rw [if_neg Bool.false_ne_true]
      exact p.here S rfl
    | true =>
      rw [if_pos rfl]
      refine ⟨ρ, sd, h, ss, S, ?_⟩
      simp only [if_true] at p
      cases q : evc sd h with
      | no => simp only [q, R.bind] at p; exact p.elim
      | err w h' => simp only [q, R.bind] at p; exact p
      | ok z h' =>
        simp only [q, R.bind] at p
        intro ρ' H' w' e3 S3 r3
        cases q4 : cmpD op' y z h' with
        | none => simp only [q4, Rv] at p; exact p.elim
        | some k' =>
          simp only [q4, Rv] at p
          exact (ad_cmp op').run ρ' H' h' y z u w' Q k' S3 (r2.mono e3) r3 q4 (p ρ' H' _ e3 S3 rfl)
theorem g_chain (g : Good κ G C fs N sc fn W X) {op op' : CmpOp} (ha : PV κ W X a eva) (hb : PV κ W X b evb) (hc : PV κ W X c evc) (hs : setX c = false) :
    PV κ W X (.Compare a [op, op'] [b, c] pos) (fun s h => (eva s h).bind fun x h1 => (evb s h1).bind fun y h2 => (Rb (cmpD op x y h2) h2).bind fun k h3 => if k then (evc s h3).bind fun z h4 => Rv (cmpD op' y z h4) h4 else .ok (.bl false) h3) :=
  PE.imp (pe_chain (op_cmp (by have := g.un; omega) op) (op_cmp (by have := g.un; omega) op') ha hb hc (no_marks (op := op') hs)) fun σ H Q t => chain_run g t
theorem g_chainT (g : Good κ G C fs N sc fn W X) {op op' : CmpOp} (ha : PV κ W X a eva) (hb : PV κ W X b evb) (hc : PV κ W X c evc) (hs : setX c = false) :
    PB κ W X (.Compare a [op, op'] [b, c] pos) (fun s h => ((eva s h).bind fun x h1 => (evb s h1).bind fun y h2 => (Rb (cmpD op x y h2) h2).bind fun k h3 => if k then (evc s h3).bind fun z h4 => Rv (cmpD op' y z h4) h4 else .ok (.bl false) h3).bind fun x h1 => Rb (truth h1 x) h1) :=
  PT.imp (pt_chain (op_cmp (by have := g.un; omega) op) (op_cmp (by have := g.un; omega) op') ha hb hc (no_marks (op := op') hs)) fun σ H Q t => chain_run g (tE_test bl_chain t)
end
end Ev

set_option Elab.async false
set_option linter.all false
set_option maxRecDepth 100000
namespace Ev
open PySem PySem.Spec PyProof.Rows L2

section
variable {κ : Kx} {G : Str → Option D} {C : String → List D → Hd → R D} {fs : List String} {N : List Str} {sc : Scope} {fn : Str → Bool} {W : WX} {X : Cx}
variable {a b c e : Expr} {es : List Expr} {eva evb evc ev : Sd → Hd → R D} {evs : Sd → Hd → R (List D)} {pos : Pos}
abbrev PVs (κ : Kx) (W : WX) (X : Cx) (es : List Expr) (ev : Sd → Hd → R (List D)) : Prop := PA X es (tE κ (rDs κ) W ev)
abbrev PQ (κ : Kx) (W : WX) (X : Cx) (e : Expr) (ev : Sd → Hd → R (List D)) : Prop := PE X e (tE κ (rQ κ) W ev)
theorem g_nil : PVs κ W X [] (fun _ h => .ok [] h) := by
  refine PA.imp pa_nil fun σ H Q t => ?_
  obtain ⟨ρ, sd, h, ss, S, p⟩ := t
  exact p.here S .nil
theorem g_cons (ha : PV κ W X e ev) (hr : PVs κ W X es evs) (hs : starX e = false) : PVs κ W X (e :: es) (fun s h => (ev s h).bind fun x h1 => (evs s h1).bind fun xs h2 => .ok (x :: xs) h2) := by
  refine PA.imp (pa_cons ha hr (star_cons hs)) fun σ H Q t => ?_
  refine (tE_bind (rel := rD κ) t).mono fun v H1 a1 => ?_
  refine (a1.bind stays_D).mono fun u H2 a2 => ?_
  obtain ⟨ρ, sd, h, x, y, _, S, r1, r2, p⟩ := a2
  exact p.here S (.cons r1 r2)
theorem g_tup {k : Nat} (ha : PVs κ W X es evs) : PV κ W X (.Tuple es k pos) (fun s h => (evs s h).bind fun xs h1 => if xs.length ≤ sizeLine then .ok (.tup xs) h1 else .no) := by
  refine PE.imp (pe_tup ha) fun σ H Q t => ?_
  refine (tE_bind (rel := rDs κ) t).mono fun v H1 a1 => ?_
  obtain ⟨ρ, sd, h, x, _, S, r, p⟩ := a1
  dsimp only at p
  split at p
  · rename_i z
    exact ⟨by rw [← r.length]; exact z, p.tup S r⟩
  · exact p.elim
theorem g_lst (ha : PVs κ W X es evs) : PV κ W X (.List es pos) (fun s h => (evs s h).bind fun xs h1 => if xs.length ≤ sizeLine then new xs h1 else .no) := by
  refine PE.imp (pe_lst ha) fun σ H Q t => ?_
  refine (tE_bind (rel := rDs κ) t).mono fun v H1 a1 => ?_
  obtain ⟨ρ, sd, h, x, _, S, r, p⟩ := a1
  dsimp only at p
  split at p
  · rename_i z
    exact ⟨by rw [← r.length]; exact z, p.new S r⟩
  · exact p.elim
theorem g_ix (g : Good κ G C fs N sc fn W X) (ha : PV κ W X a eva) (hb : PV κ W X b evb) (hs : sliceX b = false) : PV κ W X (.Subscript a b pos) (fun s h => (eva s h).bind fun x h1 => (evb s h1).bind fun y h2 => ixD x y h2) := by
  refine PE.imp (pe_ix ix_A ha hb (plain_ix hs)) fun σ H Q t => ?_
  refine (tE_bind (rel := rD κ) t).mono fun v H1 a1 => ?_
  refine (a1.bind stays_D).mono fun u H2 a2 => ?_
  obtain ⟨ρ, sd, h, x, y, _, S, r1, r2, p⟩ := a2
  rw [g.K]
  exact ad_ix S r1 r2 p
/-! slices -/
abbrev rP : Rel (Option Int) (Option Int) := fun _ _ x y => y = x
abbrev PP (κ : Kx) (W : WX) (X : Cx) (e : Option Expr) (ev : Sd → Hd → R (Option Int)) : Prop := PO X e (tE κ rP W ev)
theorem PO.imp {e : Option Expr} {t t' : TO} (h : PO X e t) (k : ∀ σ H Q, t' σ H Q → t σ H Q) : PO X e t' := ⟨fun pins s σ H Q I hw => h.run pins s σ H Q I (k _ _ _ hw)⟩
theorem g_nopart : PP κ W X none (fun _ h => .ok none h) := by
  refine PO.imp po_none fun σ H Q t => ?_
  obtain ⟨ρ, sd, h, ss, S, p⟩ := t
  exact p.here S rfl
theorem g_part (ha : PV κ W X e ev) : PP κ W X (some e) (fun s h => (ev s h).bind fun x h1 => match x with
    | .int i => .ok (some i) h1
    | _ => .no) := by
  refine PO.imp (po_some ha) fun σ H Q t => ?_
  refine (tE_bind (rel := rD κ) t).mono fun v H1 a1 => ?_
  obtain ⟨ρ, sd, h, x, _, S, r, p⟩ := a1
  dsimp only at p
  split at p
  · exact ⟨_, r, p.here S rfl⟩
  · exact p.elim
theorem stays_P : Stays rP := fun _ _ _ _ _ _ _ r => r
theorem g_sl (g : Good κ G C fs N sc fn W X) {lo hi : Option Expr} {evl evh : Sd → Hd → R (Option Int)} {p2 : Pos} (ha : PV κ W X a eva) (hl : PP κ W X lo evl) (hh : PP κ W X hi evh) :
    PV κ W X (.Subscript a (.Slice lo hi none p2) pos) (fun s h => (eva s h).bind fun x h1 => (evl s h1).bind fun l h2 => (evh s h2).bind fun u h3 => slD x l u h3) := by
  refine PE.imp (pe_slice sl_B ha hl hh) fun σ H Q t => ?_
  refine (tE_bind (rel := rD κ) t).mono fun v H1 a1 => ?_
  refine (a1.bind (rel1 := rP) stays_D).mono fun l H2 a2 => ?_
  obtain ⟨ρ, sd, h, x, y, ss, S, r1, r2, p⟩ := a2
  cases (show l = y from r2)
  refine ⟨ρ, sd, h, ss, S, ?_⟩
  cases q : evh sd h with
  | no => simp only [q, R.bind] at p; exact p.elim
  | err w h' => simp only [q, R.bind] at p; exact p
  | ok z h' =>
    simp only [q, R.bind] at p
    intro ρ' H' w e S' r3
    cases (show w = z from r3)
    rw [g.K]
    exact ad_sl S' (r1.mono e) (p.ext e)
/-! built-ins -/
theorem glB_gl (g : Good κ G C fs N sc fn W X) {x : Str} (h : glB sc x = true) : Gl X x ∧ (x == ("__debug__" : Str)) = false ∧ x ≠ "__name__" := by
  obtain ⟨h1, h2, h3⟩ := glB_ok h
  exact ⟨by unfold Gl Env.kindOf; rw [g.sc]; exact h1, h2, h3⟩
theorem bif_boot : ∀ f : Bif, bootBuiltins (bifName f) = some (bifVal f) ∧ bifName f ∈ bnames
  | .len => ⟨by decide +kernel, by decide +kernel⟩
  | .abs => ⟨by decide +kernel, by decide +kernel⟩
  | .int => ⟨by decide +kernel, by decide +kernel⟩
  | .bool => ⟨by decide +kernel, by decide +kernel⟩
  | .min2 => ⟨by decide +kernel, by decide +kernel⟩
  | .max2 => ⟨by decide +kernel, by decide +kernel⟩
  | .str => ⟨by decide +kernel, by decide +kernel⟩
theorem sq_boot : ∀ f : Sq, bootBuiltins (sqName f) = some (sqVal f) ∧ sqName f ∈ bnames
  | .tuple => ⟨by decide +kernel, by decide +kernel⟩
  | .list => ⟨by decide +kernel, by decide +kernel⟩
  | .sum => ⟨by decide +kernel, by decide +kernel⟩
  | .all => ⟨by decide +kernel, by decide +kernel⟩
  | .any => ⟨by decide +kernel, by decide +kernel⟩
  | .len => ⟨by decide +kernel, by decide +kernel⟩
theorem pe_blt {v : Value} {r : List V → Hp → VK → Prop} {t : TA} {x : Str} {p : Pos} (hv : (∃ id, v = .builtin id) ∨ ∃ T, v = .type T) (hc : CallR X v r) (hg : Gl X x) (hm : X.mg x = none) (hb : bootBuiltins x = some v) (ha : PA X (e :: es) t) (hn : x ≠ "__name__") (hd : (x == ("__debug__" : Str)) = false)
    (hs : starX e = false) (hs2 : es.all (fun e => !starX e) = true) : PE X (.Call (.Name x p) (e :: es) [] pos) (tCB r t) := by
  rcases hv with ⟨id, rfl⟩ | ⟨T, rfl⟩
  · exact pe_callB hc hg hm hb ha hn hd (star_cons hs) (back_none hs2)
  · exact pe_callTy hc hg hm hb ha hn hd (star_cons hs) (back_none hs2)
theorem bif_kind : ∀ f : Bif, (∃ id, bifVal f = .builtin id) ∨ ∃ T, bifVal f = .type T
  | .len => .inl ⟨_, rfl⟩
  | .abs => .inl ⟨_, rfl⟩
  | .int => .inr ⟨_, rfl⟩
  | .bool => .inr ⟨_, rfl⟩
  | .min2 => .inl ⟨_, rfl⟩
  | .max2 => .inl ⟨_, rfl⟩
  | .str => .inr ⟨_, rfl⟩
theorem sq_kind : ∀ f : Sq, (∃ id, sqVal f = .builtin id) ∨ ∃ T, sqVal f = .type T
  | .tuple => .inr ⟨_, rfl⟩
  | .list => .inr ⟨_, rfl⟩
  | .sum => .inl ⟨_, rfl⟩
  | .all => .inl ⟨_, rfl⟩
  | .any => .inl ⟨_, rfl⟩
  | .len => .inl ⟨_, rfl⟩
theorem g_bif (g : Good κ G C fs N sc fn W X) {f : Bif} {x : Str} {p : Pos} (hx : x = bifName f) (h1 : glB sc x = true) (ha : PVs κ W X (e :: es) evs) (hs : starX e = false) (hs2 : es.all (fun e => !starX e) = true) :
    PV κ W X (.Call (.Name x p) (e :: es) [] pos) (fun s h => (evs s h).bind fun xs h1 => bifD f xs h1) := by
  obtain ⟨g1, g2, g3⟩ := glB_gl g h1
  subst hx
  refine PE.imp (pe_blt (bif_kind f) (call_bif g.calm f) g1 (g.blt _ (bif_boot f).2) (bif_boot f).1 ha g3 g2 hs hs2) fun σ H Q t => ?_
  refine (tE_bind (rel := rDs κ) t).mono fun v H1 a1 => ?_
  obtain ⟨ρ, sd, h, x, _, S, r, p⟩ := a1
  rw [g.K]
  exact ad_bif f S r p
theorem g_seq (g : Good κ G C fs N sc fn W X) {f : Sq} {x : Str} {p : Pos} (hx : x = sqName f) (h1 : glB sc x = true) (ha : PQ κ W X e evs) (hs : starX e = false) :
    PV κ W X (.Call (.Name x p) [e] [] pos) (fun s h => (evs s h).bind fun xs h1 => sqD f xs h1) := by
  obtain ⟨g1, g2, g3⟩ := glB_gl g h1
  subst hx
  refine PE.imp (pe_blt (sq_kind f) (call_sq g.calm f) g1 (g.blt _ (sq_boot f).2) (sq_boot f).1 (pa_cons ha pa_nil (star_cons hs)) g3 g2 hs rfl) fun σ H Q t => ?_
  refine (tE_bind (rel := rQ κ) t).mono fun v H1 a1 => ?_
  obtain ⟨ρ, sd, h, x, _, S, r, p⟩ := a1
  rw [g.K]
  exact ad_sq f S r p
theorem ty_boot : ∀ t : Ty, bootBuiltins (Str.ofString (tyName t)) = some (.type (tyName t)) ∧ Str.ofString (tyName t) ∈ bnames
  | .int => ⟨by decide +kernel, by decide +kernel⟩
  | .bool => ⟨by decide +kernel, by decide +kernel⟩
  | .str => ⟨by decide +kernel, by decide +kernel⟩
  | .tuple => ⟨by decide +kernel, by decide +kernel⟩
  | .list => ⟨by decide +kernel, by decide +kernel⟩
theorem g_isi (g : Good κ G C fs N sc fn W X) {ty : Ty} {x y : Str} {p p2 : Pos} (hx : x = "isinstance") (hy : y = Str.ofString (tyName ty)) (h1 : glB sc x = true) (h2 : glB sc y = true) (ha : PV κ W X a eva) (hs : starX a = false) :
    PV κ W X (.Call (.Name x p) [a, .Name y p2] [] pos) (fun s h => (eva s h).bind fun x h1 => Rv (isTy ty h1 x) h1) := by
  obtain ⟨g1, g2, g3⟩ := glB_gl g h1
  obtain ⟨k1, k2, k3⟩ := glB_gl g h2
  subst hx hy
  have hT : PE X (.Name (Str.ofString (tyName ty)) p2) (tC (.ty (tyName ty))) := pe_bltn k1 (g.blt _ (ty_boot ty).2) (ty_boot ty).1 rfl k3 k2
  refine PE.imp (pe_callB call_isD g1 (g.blt _ (by decide +kernel)) (by decide +kernel) (pa_cons ha (pa_cons hT pa_nil rfl) (star_cons hs)) g3 g2 (star_cons hs) rfl) fun σ H Q t => ?_
  refine (tE_bind (rel := rD κ) t).mono fun v H1 a1 => ?_
  obtain ⟨ρ, sd, h, x, _, S, r, p⟩ := a1
  unfold Rv at p
  dsimp only at p
  split at p
  · rename_i b e
    obtain ⟨t, q1, q2⟩ := isTy_ok S r e
    exact ⟨v, t, tyName ty, b, rfl, by rw [g.K]; exact q1, q2, p.here S rfl⟩
  · exact p.elim
/-! methods of lists -/
theorem g_pop (g : Good κ G C fs N sc fn W X) {x : Str} {ap : Pos} (hx : x = "pop") (ha : PV κ W X a eva) (hc : callX a = false) (hl : (ap.endLine == pos.line) = true) :
    PV κ W X (.Call (.Attribute a x ap) [] [] pos) (fun s h => (eva s h).bind fun x h1 => popD x h1) := by
  subst hx
  refine PE.imp (pe_bm0 PySem.F.plainAttrs_list PySem.F.slot_list_pop PySem.F.type_list_pop mt_pop ha (attr_base hc) hl) fun σ H Q t => ?_
  refine (tE_bind (rel := rD κ) t).mono fun v H1 a1 => ?_
  obtain ⟨ρ, sd, h, x, _, S, r, p⟩ := a1
  obtain ⟨⟨l, rfl, xs, q1⟩, q2⟩ := ad_pop S r p
  exact ⟨.inl ⟨rfl, xs, .of q1⟩, q2⟩
theorem few_ok {cpos : Pos} {env : Env} (h : starX e = false) : ((backTo cpos (starEach [e] env)).all (fun x => !x.1) && (backToKw cpos (keywordEach [] env)).all (fun x => x.1.isSome)
      && decide (([e] : List Expr).length + ([] : List Keyword).length + (if ([] : List Keyword).isEmpty then 0 else 1) < 30)) = true := by
  rw [star_cons h]
  rfl
/-- a method with one argument of a list of ours -/
theorem meth1 {f : D → D → Hd → R D} {r : V → List V → Hp → VK → Prop} (hf : ∀ ρ H h x y v u Q E, Sim κ ρ h H → Rep κ ρ H x v → Rep κ ρ H y u → Post κ (rD κ) ρ H (f x y h) Q E → r v [u] H Q) {σ : L2.St} {H : Hp} {Q : VK}
    (t : tE κ (rD κ) W (fun s h => (eva s h).bind fun x h1 => if isL h1 x then (evb s h1).bind fun y h2 => f x y h2 else .no) σ H Q) : tBM κ.K "list" r (tE κ (rD κ) W eva) (tCons (tE κ (rD κ) W evb) tNil) σ H Q := by
  refine (tE_bind (rel := rD κ) t).mono fun v H1 a1 => ?_
  obtain ⟨ρ, sd, h, x, ss, S, r1, p⟩ := a1
  dsimp only at p
  split at p
  · rename_i z
    refine ⟨?_, ?_⟩
    · cases x with
      | ref l =>
        obtain ⟨xs, e⟩ := Option.isSome_iff_exists.mp (show (Hd.lst h l).isSome = true from z)
        obtain ⟨a, vs, p1, q1, _⟩ := S.lst e
        obtain ⟨a', z, rfl⟩ := r1
        rw [p1] at z; cases z
        exact .inl ⟨rfl, vs, .of q1⟩
      | _ => cases z
    · have t2 : Aft κ (rD κ) (rD κ) W (fun x s h1 => (evb s h1).bind fun y h2 => f x y h2) σ Q v H1 := ⟨ρ, sd, h, x, ss, S, r1, p⟩
      refine (t2.bind stays_D).mono fun u H2 a2 => ?_
      obtain ⟨ρ, sd, h, x, y, _, S, r1, r2, p⟩ := a2
      exact hf _ _ _ _ _ _ _ _ _ S r1 r2 p
  · exact p.elim
theorem g_popAt (g : Good κ G C fs N sc fn W X) {x : Str} {ap : Pos} (hx : x = "pop") (ha : PV κ W X a eva) (hb : PV κ W X b evb) (hc : callX a = false) (hs : starX b = false) (hl : (ap.endLine == pos.line) = true) :
    PV κ W X (.Call (.Attribute a x ap) [b] [] pos) (fun s h => (eva s h).bind fun x h1 => if isL h1 x then (evb s h1).bind fun y h2 => popAtD x y h2 else .no) := by
  subst hx
  refine PE.imp (pe_bm PySem.F.plainAttrs_list PySem.F.slot_list_pop PySem.F.type_list_pop mt_popAtA ha (pa_cons hb pa_nil (star_cons hs)) (attr_base hc) (few_ok hs) hl (star_cons hs) rfl) fun σ H Q t => ?_
  rw [g.K]
  exact meth1 (fun _ _ _ _ _ _ _ _ _ S r1 r2 p => ad_popAt S r1 r2 p) t
theorem g_app (g : Good κ G C fs N sc fn W X) {x : Str} {ap : Pos} (hx : x = "append") (ha : PV κ W X a eva) (hb : PV κ W X b evb) (hc : callX a = false) (hs : starX b = false) (hl : (ap.endLine == pos.line) = true) :
    PV κ W X (.Call (.Attribute a x ap) [b] [] pos) (fun s h => (eva s h).bind fun x h1 => if isL h1 x then (evb s h1).bind fun y h2 => appD x y h2 else .no) := by
  subst hx
  refine PE.imp (pe_bm PySem.F.plainAttrs_list PySem.F.slot_list_append PySem.F.type_list_append mt_append ha (pa_cons hb pa_nil (star_cons hs)) (attr_base hc) (few_ok hs) hl (star_cons hs) rfl) fun σ H Q t => ?_
  rw [g.K]
  exact meth1 (fun _ _ _ _ _ _ _ _ _ S r1 r2 p => ad_app S r1 r2 p) t
theorem ad_ext {ρ : List Addr} {H : Hp} {h : Hd} {x y : D} {v u : V} {Q : VK} {E : XK} (S : Sim κ ρ h H) (r1 : Rep κ ρ H x v) (r2 : Rep κ ρ H y u) (p : Post κ (rD κ) ρ H (extD x y h) Q E) : rExtend v [u] H Q := by
  unfold extD at p
  split at p
  · rename_i l m
    split at p
    · rename_i xs ys e1 e2
      obtain ⟨a, vs, p1, q1, rs⟩ := S.lst e1
      obtain ⟨a', z, rfl⟩ := r1
      rw [p1] at z; cases z
      obtain ⟨b, ws, p2, q2, rs2⟩ := S.lst e2
      obtain ⟨b', z, rfl⟩ := r2
      rw [p2] at z; cases z
      split at p
      · rename_i c
        exact ⟨a, b, vs, ws, rfl, rfl, q1, q2, by rw [← rs.length, ← rs2.length]; exact c.2, p.set S p1 (rs.append rs2) rfl⟩
      · exact p.elim
    · exact p.elim
  · exact p.elim
theorem g_ext (g : Good κ G C fs N sc fn W X) {x : Str} {ap : Pos} (hx : x = "extend") (ha : PV κ W X a eva) (hb : PV κ W X b evb) (hc : callX a = false) (hs : starX b = false) (hl : (ap.endLine == pos.line) = true) :
    PV κ W X (.Call (.Attribute a x ap) [b] [] pos) (fun s h => (eva s h).bind fun x h1 => if isL h1 x then (evb s h1).bind fun y h2 => extD x y h2 else .no) := by
  subst hx
  refine PE.imp (pe_bm PySem.F.plainAttrs_list PySem.F.slot_list_extend PySem.F.type_list_extend mt_extend ha (pa_cons hb pa_nil (star_cons hs)) (attr_base hc) (few_ok hs) hl (star_cons hs) rfl) fun σ H Q t => ?_
  rw [g.K]
  exact meth1 (fun _ _ _ _ _ _ _ _ _ S r1 r2 p => ad_ext S r1 r2 p) t
/-! t[::-1] -/
theorem g_rev (g : Good κ G C fs N sc fn W X) {k : Nat} {p1 p2 p3 : Pos} (ha : PV κ W X a eva) : PV κ W X (.Subscript a (.Slice none none (some (.UnaryOp .USub (.Constant (.int 1) k p1) p2)) p3) pos) (fun s h => (eva s h).bind fun x h1 => revD x h1) := by
  refine PE.imp (pe_revT ha) fun σ H Q t => ?_
  refine (tE_bind (rel := rD κ) t).mono fun v H1 a1 => ?_
  obtain ⟨ρ, sd, h, x, _, S, r, p⟩ := a1
  unfold revD at p
  dsimp only at p
  split at p
  · obtain ⟨a, vs, rfl, q, rs⟩ := r
    exact ⟨a, vs, rfl, by rw [g.K]; exact q, p.tup S rs.reverse⟩
  · exact p.elim
/-! calls of the text's own defs -/
theorem pe_call0S {k : Nat} {f : Addr} {fd : FuncData} {ps : List Str} {sp : Sp} {E : L2.St → XK} {x : Str} {p : Pos} (F : FnOk X.prog X.w X.K X.mg X.base (L2.CX X.prog X.w) k f fd ps sp) (hr : Room k X.A) (hg : Gl X x) (hm : X.mg x = some (.ref f)) (hk : PySem.W.keepIn X.K (.ref f) = true)
    (hb : Binds X.K fd ps []) (hx : ∀ σ, PassesAt (L2.CX X.prog X.w) X σ (E σ)) (hd : (x == ("__debug__" : Str)) = false) : PE X (.Call (.Name x p) [] [] pos) (fun σ H Q => sp [] H Q (E σ)) :=
  ⟨fun pins s σ H Q I h => wpAny_Call_Name_kw (ld_glob I hg hm (PySem.W.callWith_K0 I.kIn hk (run_fnS F hr hb (hx σ) I .nil h)) hd)⟩
theorem g_call0 (g : Good κ G C fs N sc fn W X) {f : String} {x : Str} {p : Pos} (hf : f ∈ fs) (hx : x = Str.ofString f) (h1 : glB sc x = true) :
    PV κ W X (.Call (.Name x p) [] [] pos) (fun s h => (R.ok [] h).bind fun xs h1 => C f xs h1) := by
  obtain ⟨g1, g2, g3⟩ := glB_gl g h1
  obtain ⟨k, fa, fd, ps, F, hr, hm, hk, hb⟩ := g.fns f hf
  subst hx
  refine PE.imp (pe_call0S F hr g1 hm hk hb g.pass g2) fun σ H Q t => ?_
  obtain ⟨ρ, sd, h, ss, S, p⟩ := t
  exact ⟨ρ, [], h, S, .nil, p⟩
theorem g_call (g : Good κ G C fs N sc fn W X) {f : String} {x : Str} {p : Pos} (hf : f ∈ fs) (hx : x = Str.ofString f) (h1 : glB sc x = true) (ha : PVs κ W X (e :: es) evs) (hs : starX e = false) (hs2 : es.all (fun e => !starX e) = true) :
    PV κ W X (.Call (.Name x p) (e :: es) [] pos) (fun s h => (evs s h).bind fun xs h1 => C f xs h1) := by
  obtain ⟨g1, g2, g3⟩ := glB_gl g h1
  obtain ⟨k, fa, fd, ps, F, hr, hm, hk, hb⟩ := g.fns f hf
  subst hx
  refine PE.imp (pe_callS F hr g1 hm hk hb g.pass ha g2 (star_cons hs) (back_none hs2)) fun σ H Q t => ?_
  refine (tE_bind (rel := rDs κ) t).mono fun v H1 a1 => ?_
  obtain ⟨ρ, sd, h, x, _, S, r, p⟩ := a1
  exact ⟨ρ, x, h, S, r, p⟩
/-! and, or -/
theorem g_one {op : BoolOp} (ha : PV κ W X e ev) : PV κ W X (.BoolOp op [e] pos) ev := PE.imp (pe_one ha) fun σ H Q t => t
theorem g_and {e2 : Expr} {rest : List Expr} {evr : Sd → Hd → R D} (ha : PV κ W X e ev) (hb : PV κ W X (.BoolOp .And (e2 :: rest) pos) evr) : PV κ W X (.BoolOp .And (e :: e2 :: rest) pos) (fun s h => (ev s h).bind fun x h1 => match x with
    | .bl b => if b then evr s h1 else .ok (.bl false) h1
    | _ => .no) := by
  refine PE.imp (pe_and ha hb) fun σ H Q t => ?_
  refine (tE_bind (rel := rD κ) t).mono fun v H1 a1 => ?_
  obtain ⟨ρ, sd, h, x, ss, S, r, p⟩ := a1
  dsimp only at p
  split at p
  · rename_i b
    refine ⟨b, r, ?_⟩
    cases b with
    | true => rw [if_pos rfl]; exact ⟨ρ, sd, h, ss, S, p⟩
    | false => rw [if_neg Bool.false_ne_true]; exact p.here S rfl
  · exact p.elim
theorem g_or {e2 : Expr} {rest : List Expr} {evr : Sd → Hd → R D} (ha : PV κ W X e ev) (hb : PV κ W X (.BoolOp .Or (e2 :: rest) pos) evr) : PV κ W X (.BoolOp .Or (e :: e2 :: rest) pos) (fun s h => (ev s h).bind fun x h1 => match x with
    | .bl b => if b then .ok (.bl true) h1 else evr s h1
    | _ => .no) := by
  refine PE.imp (pe_or ha hb) fun σ H Q t => ?_
  refine (tE_bind (rel := rD κ) t).mono fun v H1 a1 => ?_
  obtain ⟨ρ, sd, h, x, ss, S, r, p⟩ := a1
  dsimp only at p
  split at p
  · rename_i b
    refine ⟨b, r, ?_⟩
    cases b with
    | false => rw [if_neg Bool.false_ne_true]; exact ⟨ρ, sd, h, ss, S, p⟩
    | true => rw [if_pos rfl]; exact p.here S rfl
  · exact p.elim
abbrev PBw (κ : Kx) (W : WX) (X : Cx) (e : Expr) (ev : Sd → Hd → R Bool) : Prop := PW X e (tE κ rB W ev)
variable {evt evr : Sd → Hd → R Bool}
theorem g_oneA (ha : PB κ W X e evt) : PBw κ W X (.BoolOp .And [e] pos) evt := pw_and1 ha
theorem g_oneO (ha : PB κ W X e evt) : PBw κ W X (.BoolOp .Or [e] pos) evt := pw_or1 ha
theorem g_andT {e2 : Expr} {rest : List Expr} (ha : PB κ W X e evt) (hb : PBw κ W X (.BoolOp .And (e2 :: rest) pos) evr) : PBw κ W X (.BoolOp .And (e :: e2 :: rest) pos) (fun s h => (evt s h).bind fun b h1 => if b then evr s h1 else .ok false h1) := by
  refine PW.imp (pw_and ha hb) fun σ H Q t => ?_
  refine (tE_bind (rel := rB) t).mono fun v H1 a1 => ?_
  obtain ⟨ρ, sd, h, x, ss, S, r, p⟩ := a1
  cases (show v = x from r)
  cases v with
  | true => rw [if_pos rfl]; exact ⟨ρ, sd, h, ss, S, p⟩
  | false => rw [if_neg Bool.false_ne_true]; exact p.here S rfl
theorem g_orT {e2 : Expr} {rest : List Expr} (ha : PB κ W X e evt) (hb : PBw κ W X (.BoolOp .Or (e2 :: rest) pos) evr) : PBw κ W X (.BoolOp .Or (e :: e2 :: rest) pos) (fun s h => (evt s h).bind fun b h1 => if b then .ok true h1 else evr s h1) := by
  refine PW.imp (pw_or ha hb) fun σ H Q t => ?_
  refine (tE_bind (rel := rB) t).mono fun v H1 a1 => ?_
  obtain ⟨ρ, sd, h, x, ss, S, r, p⟩ := a1
  cases (show v = x from r)
  cases v with
  | false => rw [if_neg Bool.false_ne_true]; exact ⟨ρ, sd, h, ss, S, p⟩
  | true => rw [if_pos rfl]; exact p.here S rfl
/-! a sequence that is read -/
theorem g_q (ha : PV κ W X e ev) : PQ κ W X e (fun s h => (ev s h).bind fun x h1 => match seqOf h1 x with
    | some xs => .ok xs h1
    | none => .no) := by
  refine PE.imp ha fun σ H Q t => ?_
  refine (tE_bind (rel := rD κ) t).mono fun v H1 a1 => ?_
  obtain ⟨ρ, sd, h, x, ss, S, r, p⟩ := a1
  dsimp only at p
  split at p
  · rename_i xs z
    exact p.here S (S.sq z r)
  · exact p.elim
/-! targets -/
/-- the slots but these are as they were -/
def Off (is : List Nat) (σ σ' : L2.St) : Prop := σ'.length = σ.length ∧ ∀ i, i ∉ is → σ'[i]? = σ[i]?
theorem Off.trans {is js : List Nat} {σ σ1 σ2 : L2.St} (a : Off is σ σ1) (b : Off js σ1 σ2) : Off (is ++ js) σ σ2 := ⟨b.1.trans a.1, fun i n => by
  rw [List.mem_append, not_or] at n
  exact (b.2 i n.2).trans (a.2 i n.1)⟩
def tG (κ : Kx) (f : D → Sd → Option Sd) (is : List Nat) : TG := fun v σ H Q => ∃ ρ sd h d sd', SimS κ ρ H sd σ ∧ Sim κ ρ h H ∧ Rep κ ρ H d v ∧ f d sd = some sd' ∧ ∀ σ' H' ρ', Ext ρ ρ' H H' → Sim κ ρ' h H' → SimS κ ρ' H' sd' σ' → Off is σ σ' → Q σ' H'
def tGs (κ : Kx) (f : List D → Sd → Option Sd) (is : List Nat) : TGs := fun vs σ H Q => ∃ ρ sd h ds sd', SimS κ ρ H sd σ ∧ Sim κ ρ h H ∧ Reps κ ρ H ds vs ∧ f ds sd = some sd' ∧ ∀ σ' H' ρ', Ext ρ ρ' H H' → Sim κ ρ' h H' → SimS κ ρ' H' sd' σ' → Off is σ σ' → Q σ' H'
theorem PG.imp {t : Expr} {g g' : TG} (h : PG X t g) (k : ∀ v σ H Q, g' v σ H Q → g v σ H Q) : PG X t g' := ⟨fun pins s σ H v u Q I r hw => h.run pins s σ H v u Q I r (k _ _ _ _ hw)⟩
theorem PGs.imp {t : List Expr} {g g' : TGs} (h : PGs X t g) (k : ∀ v σ H Q, g' v σ H Q → g v σ H Q) : PGs X t g' := ⟨fun pins s σ H v u Q I r hw => h.run pins s σ H v u Q I r (k _ _ _ _ hw)⟩
theorem g_tv (g : Good κ G C fs N sc fn W X) {i : Nat} {x : Str} (h1 : N[i]? = some x) (h2 : sc.names.lookup x = some .local ∨ (sc.names.lookup x = some .cell ∧ fn x = true)) : PG X (.Name x pos) (tG κ (fun d s => some (s.set i (some d))) [i]) := by
  refine PG.imp (pg_name (i := i) g.nd (by rw [g.N]; exact h1) (by rw [g.sc]; exact h2.elim .inl fun z => .inr z.1) (by rw [g.fn, g.sc]; exact h2.elim .inr fun z => .inl z.2)) fun v σ H Q t => ?_
  obtain ⟨ρ, sd, h, d, sd', ss, S, r, e, q⟩ := t
  cases e
  exact q _ _ ρ .refl S (ss.set r i) ⟨by simp, fun k n => by rw [List.getElem?_set_ne (by simpa using Ne.symm (by simpa using n))]⟩
theorem g_ts0 : PGs X [] (tGs κ (fun ds s => match ds with
    | [] => some s
    | _ :: _ => none) []) := by
  refine PGs.imp pgs_nil fun v σ H Q t => ?_
  obtain ⟨ρ, sd, h, ds, sd', ss, S, r, e, q⟩ := t
  cases ds with
  | nil => cases e; exact ⟨r, q _ _ ρ .refl S ss ⟨rfl, fun _ _ => rfl⟩⟩
  | cons _ _ => cases e
theorem asg_cons {t : Expr} {ts : List Expr} {env : Env} (h : starX t = false) : assignEach (t :: ts) env = (false, assign t env) :: assignEach ts env := by
  cases t <;> first | rfl | cases h
theorem asg_len {env : Env} : ∀ {ts : List Expr}, (assignEach ts env).length = ts.length
  | [] => rfl
  | t :: ts => by
    cases t <;> (unfold assignEach; rw [List.length_cons, asg_len]; rfl)
theorem asg_none {env : Env} : ∀ {ts : List Expr}, ts.all (fun e => !starX e) = true → (assignEach ts env).findIdx? (·.1) = none
  | [], _ => rfl
  | t :: ts, h => by
    rw [List.all_cons, Bool.and_eq_true] at h
    rw [asg_cons (by simpa using h.1), List.findIdx?_cons, asg_none h.2]
    rfl
theorem g_ts {t : Expr} {ts : List Expr} {f : D → Sd → Option Sd} {f2 : List D → Sd → Option Sd} {is js : List Nat} (h1 : PG X t (tG κ f is)) (h2 : PGs X ts (tGs κ f2 js)) (hs : starX t = false) : PGs X (t :: ts) (tGs κ (fun ds s => match ds with
    | [] => none
    | d :: ds => (f d s).bind fun s' => f2 ds s') (is ++ js)) := by
  refine PGs.imp (pgs_cons h1 h2 (by rw [asg_cons hs]; rfl)) fun v σ H Q t => ?_
  obtain ⟨ρ, sd, h, ds, sd', ss, S, r, e, q⟩ := t
  cases ds with
  | nil => cases e
  | cons d ds =>
    obtain ⟨u, w, rfl, r1, r2⟩ := r
    obtain ⟨s1, e1, e2⟩ := Option.bind_eq_some_iff.mp e
    exact ⟨u, w, rfl, ρ, sd, h, d, s1, ss, S, r1, e1, fun σ' H' ρ' x S' ss' o1 => ⟨ρ', s1, h, ds, sd', ss', S', r2.mono x, e2, fun σ2 H2 ρ2 x2 S2 ss2 o2 => q σ2 H2 ρ2 (x.trans x2) S2 ss2 (o1.trans o2)⟩⟩
theorem g_tt (g : Good κ G C fs N sc fn W X) {ts : List Expr} {k : Nat} {f2 : List D → Sd → Option Sd} {is : List Nat} (h : PGs X ts (tGs κ f2 is)) (hs : ts.all (fun e => !starX e) = true) (hl : ∀ ds s s', f2 ds s = some s' → ds.length = ts.length) : PG X (.Tuple ts k pos) (tG κ (fun d s => match d with
    | .tup ds => f2 ds s
    | _ => none) is) := by
  refine PG.imp (pg_tup g.calm h (n := ts.length) asg_len (asg_none hs)) fun v σ H Q t => ?_
  obtain ⟨ρ, sd, h, d, sd', ss, S, r, e, q⟩ := t
  dsimp only at e
  split at e
  · rename_i ds
    obtain ⟨a, vs, rfl, q1, rs⟩ := r
    exact ⟨a, vs, rfl, by rw [g.K]; exact q1, by rw [← rs.length]; exact hl _ _ _ e, ρ, sd, h, ds, sd', ss, S, rs, e, q⟩
  · cases e
/-! calls with keywords -/
abbrev PKs (κ : Kx) (W : WX) (X : Cx) (es : List Keyword) (ev : Sd → Hd → R (List D)) : Prop := PK X es (tE κ (rDs κ) W ev)
theorem PK.imp {es : List Keyword} {t t' : TA} (h : PK X es t) (k : ∀ σ H Q, t' σ H Q → t σ H Q) : PK X es t' := ⟨fun pos pins s σ H Q I hw => h.run pos pins s σ H Q I (k _ _ _ hw)⟩
theorem g_knil : PKs κ W X [] (fun _ h => .ok [] h) := by
  refine PK.imp pk_nil fun σ H Q t => ?_
  obtain ⟨ρ, sd, h, ss, S, p⟩ := t
  exact p.here S .nil
theorem g_kcons {kws : List Keyword} {y : Option Str} {kp : Pos} (ha : PV κ W X e ev) (hr : PKs κ W X kws evs) : PKs κ W X (⟨y, e, kp⟩ :: kws) (fun s h => (ev s h).bind fun x h1 => (evs s h1).bind fun xs h2 => .ok (x :: xs) h2) := by
  refine PK.imp (pk_cons ha hr) fun σ H Q t => ?_
  refine (tE_bind (rel := rD κ) t).mono fun v H1 a1 => ?_
  refine (a1.bind stays_D).mono fun u H2 a2 => ?_
  obtain ⟨ρ, sd, h, x, y, _, S, r1, r2, p⟩ := a2
  exact p.here S (.cons r1 r2)
theorem kw_facts {pos : Pos} {env : Env} : ∀ {kws : List Keyword} {ks : List String}, kws.map (·.arg) = ks.map (fun k => some (Str.ofString k)) →
    (backToKw pos (keywordEach kws env)).all (·.1.isSome) = true ∧ (backToKw pos (keywordEach kws env)).any (·.1.isNone) = false ∧ (backToKw pos (keywordEach kws env)).filterMap (·.1) = ks.map Str.ofString
  | [], ks, e => by
    cases ks with
    | nil => exact ⟨rfl, rfl, rfl⟩
    | cons _ _ => cases e
  | ⟨nm, v, p⟩ :: kws, ks, e => by
    cases ks with
    | nil => cases e
    | cons k ks =>
      simp only [List.map_cons, List.cons.injEq] at e
      obtain ⟨e1, e2⟩ := e
      cases (show nm = some (Str.ofString k) from e1)
      obtain ⟨a1, a2, a3⟩ := kw_facts (pos := pos) (env := env) e2
      have u : backToKw pos (keywordEach (⟨some (Str.ofString k), v, p⟩ :: kws) env) = (some (Str.ofString k), do let x ← eval v env; standAt pos; pure x) :: backToKw pos (keywordEach kws env) := rfl
      rw [u]
      refine ⟨by rw [List.all_cons, a1]; rfl, by rw [List.any_cons, a2]; rfl, ?_⟩
      rw [List.map_cons, ← a3]
      rfl
theorem run_kw {k : Nat} {f : Addr} {fd : FuncData} {ps ks : List Str} {sp : Sp} {E : XK} {gg : List Value → List Value → List Value} {gV : List V → List V → List V} {pins : List (Addr × Obj)} {σ : L2.St} {H : Hp} {s : Shared} {Q : VK} {us ws : List Value} {vs zs : List V}
    (F : FnOk X.prog X.w X.K X.mg X.base (L2.CX X.prog X.w) k f fd ps sp) (hr : Room k X.A) (hb : KBinds X.K fd ps ks gg gV) (hx : PassesAt (L2.CX X.prog X.w) X σ E) (I : Inv X pins σ H s) (r : Vals vs us) (rz : Vals zs ws) (hs : sp (gV vs zs) H Q E) :
    wpAny (model X.prog X.w) X.A (call (.ref f) us (ks.zip ws)) (EP X pins σ Q) X.xe s := by
  have q := hb.rel r rz
  refine wpAny_call (codeAny_mono (F.run X.A X.stack s H ⟨us, ks.zip ws⟩ (gg us ws) (gV vs zs) Q E hr I.env0 (hb.to s us ws I.kIn (by rw [← q.length]; exact F.len _ _ _ _ hs)) q hs) fun o s' ho => ?_)
  cases o with
  | error e => exact hx pins H s e s' I ho
  | ok fl =>
    cases fl with
    | ret u => exact I.after ho
    | _ => exact False.elim ho
theorem pe_callKS0 {k : Nat} {f : Addr} {fd : FuncData} {ps : List Str} {ks : List String} {sp : Sp} {E : L2.St → XK} {gg : List Value → List Value → List Value} {gV : List V → List V → List V} {x : Str} {p : Pos} {kws : List Keyword} {tk : TA}
    (F : FnOk X.prog X.w X.K X.mg X.base (L2.CX X.prog X.w) k f fd ps sp) (hr : Room k X.A) (hg : Gl X x) (hm : X.mg x = some (.ref f)) (hk : PySem.W.keepIn X.K (.ref f) = true) (hb : KBinds X.K fd ps (ks.map Str.ofString) gg gV) (hx : ∀ σ, PassesAt (L2.CX X.prog X.w) X σ (E σ))
    (hkw : PK X kws tk) (hn : kws.map (·.arg) = ks.map (fun k => some (Str.ofString k))) (hd : (x == ("__debug__" : Str)) = false) :
    PE X (.Call (.Name x p) [] kws pos) (fun σ H Q => tk σ H fun zs H2 => sp (gV [] zs) H2 Q (E σ)) := by
  refine ⟨fun pins s σ H Q I h => ?_⟩
  obtain ⟨a1, a2, a3⟩ := kw_facts (pos := pos) (env := X.env) hn
  refine wpAny_Call_Name_kw (ld_glob I hg hm ?_ hd)
  refine PySem.W.callWith_KW0 (h₀ := X.base) I.ok.mod.kin hk a1 (thn (hkw.run pos pins s σ H _ I h) fun ws s2 ⟨zs, H2, I2, rz, q2⟩ => ⟨I2.kIn, ?_⟩) (by rw [a2]; rfl)
  rw [a3]
  exact run_kw F hr hb (hx σ) I2 .nil rz q2
theorem pe_callKS {k : Nat} {f : Addr} {fd : FuncData} {ps : List Str} {ks : List String} {sp : Sp} {E : L2.St → XK} {gg : List Value → List Value → List Value} {gV : List V → List V → List V} {x : Str} {p : Pos} {kws : List Keyword} {t tk : TA}
    (F : FnOk X.prog X.w X.K X.mg X.base (L2.CX X.prog X.w) k f fd ps sp) (hr : Room k X.A) (hg : Gl X x) (hm : X.mg x = some (.ref f)) (hk : PySem.W.keepIn X.K (.ref f) = true) (hb : KBinds X.K fd ps (ks.map Str.ofString) gg gV) (hx : ∀ σ, PassesAt (L2.CX X.prog X.w) X σ (E σ))
    (ha : PA X (e :: es) t) (hkw : PK X kws tk) (hn : kws.map (·.arg) = ks.map (fun k => some (Str.ofString k))) (hd : (x == ("__debug__" : Str)) = false) (hs : (e :: es).all (fun e => !starX e) = true) :
    PE X (.Call (.Name x p) (e :: es) kws pos) (fun σ H Q => t σ H fun vs H1 => tk σ H1 fun zs H2 => sp (gV vs zs) H2 Q (E σ)) := by
  refine ⟨fun pins s σ H Q I h => ?_⟩
  obtain ⟨a1, a2, a3⟩ := kw_facts (pos := pos) (env := X.env) hn
  refine wpAny_Call_Name_kw (ld_glob I hg hm ?_ hd)
  have hs1 := hs
  rw [List.all_cons, Bool.and_eq_true, Bool.not_eq_true'] at hs1
  refine PySem.W.callWith_KW (h₀ := X.base) I.ok.mod.kin hk a1 (thn (ha.run pos pins s σ H _ I h) fun us s1 ⟨vs, H1, I1, r, q⟩ => ?_) (by rw [a2, Bool.or_false]; exact back_none hs) (star_cons hs1.1)
  refine thn (hkw.run pos pins s1 σ H1 _ I1 q) fun ws s2 ⟨zs, H2, I2, rz, q2⟩ => ⟨I2.kIn, ?_⟩
  rw [a3]
  exact run_kw F hr hb (hx σ) I2 r rz q2
theorem Reps.perm {ρ : List Addr} {H : Hp} {ds : List D} {vs : List V} (r : Reps κ ρ H ds vs) : ∀ pm : List Nat, Reps κ ρ H (permD pm ds) (permV pm vs)
  | [] => .nil
  | i :: pm => by
    refine .cons ?_ (Reps.perm r pm)
    show Rep κ ρ H (ds.getD i .non) (vs.getD i .non)
    by_cases hi : i < ds.length
    · obtain ⟨v, e1, r1⟩ := r.get (List.getElem?_eq_getElem hi)
      simp only [List.getD_eq_getElem?_getD, List.getElem?_eq_getElem hi, e1, Option.getD_some]
      exact r1
    · have := r.length
      simp only [List.getD_eq_getElem?_getD, List.getElem?_eq_none (show ds.length ≤ i by omega), List.getElem?_eq_none (show vs.length ≤ i by omega), Option.getD_none]
      exact rfl
theorem g_callk (g : Good κ G C fs N sc fn W X) {f : String} {n : Nat} {ks : List String} {pm : List Nat} {evk : Sd → Hd → R (List D)} {x : Str} {p : Pos} {kws : List Keyword} (hq : (⟨f, n, ks, pm⟩ : KC) ∈ κ.kfs) (hx : x = Str.ofString f) (h1 : glB sc x = true)
    (ha : PVs κ W X (e :: es) evs) (hs : (e :: es).all (fun e => !starX e) = true) (hk : PKs κ W X kws evk) (hn : kws.map (·.arg) = ks.map (fun k => some (Str.ofString k))) :
    PV κ W X (.Call (.Name x p) (e :: es) kws pos) (fun s h => (evs s h).bind fun xs h1 => (evk s h1).bind fun ys h2 => kwD C f n ks.length pm xs ys h2) := by
  obtain ⟨g1, g2, g3⟩ := glB_gl g h1
  obtain ⟨k, fa, fd, ps, gg, gV, F, hr, hm, hkp, hb, hv⟩ := g.kfns _ hq
  subst hx
  refine PE.imp (pe_callKS F hr g1 hm hkp hb g.pass ha hk hn g2 hs) fun σ H Q t => ?_
  refine (tE_bind (rel := rDs κ) t).mono fun v H1 a1 => ?_
  refine (a1.bind (rel1 := rDs κ) stays_Ds).mono fun u H2 a2 => ?_
  obtain ⟨ρ, sd, h, x, y, _, S, r1, r2, p⟩ := a2
  unfold kwD at p
  dsimp only at p
  split at p
  · rename_i c
    rw [hv _ _ (by rw [← Reps.length r1]; exact c.1) (by rw [← Reps.length r2]; exact c.2)]
    exact ⟨ρ, _, h, S, (Reps.append r1 r2).perm pm, p⟩
  · exact p.elim
theorem g_callk0 (g : Good κ G C fs N sc fn W X) {f : String} {n : Nat} {ks : List String} {pm : List Nat} {evk : Sd → Hd → R (List D)} {x : Str} {p : Pos} {kws : List Keyword} (hq : (⟨f, n, ks, pm⟩ : KC) ∈ κ.kfs) (hx : x = Str.ofString f) (h1 : glB sc x = true)
    (hk : PKs κ W X kws evk) (hn : kws.map (·.arg) = ks.map (fun k => some (Str.ofString k))) :
    PV κ W X (.Call (.Name x p) [] kws pos) (fun s h => (R.ok [] h).bind fun xs h1 => (evk s h1).bind fun ys h2 => kwD C f n ks.length pm xs ys h2) := by
  obtain ⟨g1, g2, g3⟩ := glB_gl g h1
  obtain ⟨k, fa, fd, ps, gg, gV, F, hr, hm, hkp, hb, hv⟩ := g.kfns _ hq
  subst hx
  refine PE.imp (pe_callKS0 F hr g1 hm hkp hb g.pass hk hn g2) fun σ H Q t => ?_
  refine (tE_bind (rel := rDs κ) (ev := evk) t).mono fun v H1 a1 => ?_
  obtain ⟨ρ, sd, h, x, _, S, r1, p⟩ := a1
  unfold kwD at p
  dsimp only at p
  split at p
  · rename_i c
    rw [hv _ _ c.1 (by rw [← Reps.length r1]; exact c.2)]
    exact ⟨ρ, _, h, S, (Reps.append (ds := []) (vs := []) .nil r1).perm pm, p⟩
  · exact p.elim
/-! list(range(..)), tuple(range(..)) -/
theorem reps_rg {ρ : List Addr} {H : Hp} (i j : Int) : Reps κ ρ H (rangeD i (j - i).toNat) (rgV i j) := by
  unfold rangeD rgV
  generalize List.range (j - i).toNat = xs
  induction xs with
  | nil => exact .nil
  | cons x xs ih => exact .cons (show Rep κ ρ H (.int _) (.int _) from rfl) ih
theorem rgs_ok {i j : Int} (h : (small62 i && small62 j && decide ((j - i).toNat ≤ sizeLine)) = true) : RgOk i j := by
  simp only [small62, Bool.and_eq_true, decide_eq_true_eq] at h
  have := sizeLine_eq
  exact ⟨by omega, by omega, by omega, by omega, by omega⟩
theorem g_rgsX (g : Good κ G C fs N sc fn W X) {b : Bool} {x : Str} {p : Pos} {er : Expr} {te : L2.St → Hp → (Int → Int → Hp → Prop) → Prop} (hx : x = rgsName b) (h1 : glB sc x = true) (he : PRg X er te) (hs : starX er = false) :
    PE X (.Call (.Name x p) [er] [] pos) (if b then tLstRg te else tTupRg te) := by
  obtain ⟨g1, g2, g3⟩ := glB_gl g h1
  subst hx
  cases b with
  | true => exact pe_listRg g.calm g1 (g.blt _ (by decide +kernel)) he (star_cons hs)
  | false => exact pe_tupRg g.calm g1 (g.blt _ (by decide +kernel)) he (star_cons hs)
theorem g_rgs (g : Good κ G C fs N sc fn W X) {b : Bool} {x z : Str} {p p2 pos2 : Pos} (hx : x = rgsName b) (hz : z = "range") (h1 : glB sc x = true) (h2 : glB sc z = true) (ha : PV κ W X a eva) (hs : starX a = false) :
    PV κ W X (.Call (.Name x p) [.Call (.Name z p2) [a] [] pos2] [] pos) (fun s h => (eva s h).bind fun x h1 => rgsD b (.int 0) x h1) := by
  obtain ⟨g1, g2, g3⟩ := glB_gl g h2
  subst hz
  refine PE.imp (g_rgsX g hx h1 (prg_1 g1 (g.blt _ (by decide +kernel)) ha (star_cons hs)) rfl) fun σ H Q t => ?_
  have t2 := tE_bind (rel := rD κ) t
  cases b with
  | true =>
    refine t2.mono fun v H1 a1 => ?_
    obtain ⟨ρ, sd, h, x, _, S, r, p⟩ := a1
    unfold rgsD at p
    dsimp only at p
    split at p
    · rename_i i j e1
      cases e1
      cases (show v = .int _ from r)
      split at p
      · rename_i c
        exact ⟨_, rfl, rgs_ok c, Post.new p S (reps_rg _ _)⟩
      · exact p.elim
    · exact p.elim
  | false =>
    refine t2.mono fun v H1 a1 => ?_
    obtain ⟨ρ, sd, h, x, _, S, r, p⟩ := a1
    unfold rgsD at p
    dsimp only at p
    split at p
    · rename_i i j e1
      cases e1
      cases (show v = .int _ from r)
      split at p
      · rename_i c
        exact ⟨_, rfl, rgs_ok c, Post.tup p S (reps_rg _ _)⟩
      · exact p.elim
    · exact p.elim
theorem g_rgs2 (g : Good κ G C fs N sc fn W X) {b : Bool} {x z : Str} {c : Expr} {evc : Sd → Hd → R D} {p p2 pos2 : Pos} (hx : x = rgsName b) (hz : z = "range") (h1 : glB sc x = true) (h2 : glB sc z = true) (ha : PV κ W X a eva) (hc : PV κ W X c evc) (hs : starX a = false) (hs2 : starX c = false) :
    PV κ W X (.Call (.Name x p) [.Call (.Name z p2) [a, c] [] pos2] [] pos) (fun s h => (eva s h).bind fun x h1 => (evc s h1).bind fun y h2 => rgsD b x y h2) := by
  obtain ⟨g1, g2, g3⟩ := glB_gl g h2
  subst hz
  refine PE.imp (g_rgsX g hx h1 (prg_2 g1 (g.blt _ (by decide +kernel)) ha hc (star_cons hs) (star_cons hs2) (by rw [star_cons hs2]; rfl)) rfl) fun σ H Q t => ?_
  have t2 := tE_bind (rel := rD κ) t
  cases b with
  | true =>
    refine t2.mono fun v H1 a1 => (a1.bind stays_D).mono fun u H2 a2 => ?_
    obtain ⟨ρ, sd, h, x, y, _, S, r1, r2, p⟩ := a2
    unfold rgsD at p
    dsimp only at p
    split at p
    · cases (show v = .int _ from r1)
      cases (show u = .int _ from r2)
      split at p
      · rename_i c
        exact ⟨_, _, rfl, rfl, rgs_ok c, Post.new p S (reps_rg _ _)⟩
      · exact p.elim
    · exact p.elim
  | false =>
    refine t2.mono fun v H1 a1 => (a1.bind stays_D).mono fun u H2 a2 => ?_
    obtain ⟨ρ, sd, h, x, y, _, S, r1, r2, p⟩ := a2
    unfold rgsD at p
    dsimp only at p
    split at p
    · cases (show v = .int _ from r1)
      cases (show u = .int _ from r2)
      split at p
      · rename_i c
        exact ⟨_, _, rfl, rfl, rgs_ok c, Post.tup p S (reps_rg _ _)⟩
      · exact p.elim
    · exact p.elim
end
end Ev

set_option Elab.async false
set_option linter.all false
set_option maxRecDepth 100000
namespace Ev
open PySem PySem.Spec PyProof.Rows L2

/-! ### what is walked -/
def rI (κ : Kx) : Rel Iv L2.It := fun ρ H j J => ∀ ρ' H' h', Ext ρ ρ' H H' → Sim κ ρ' h' H' →
  (∀ i d, i < j.len → j.get i h' = some d → J.go i H' ∧ ∀ x H2, J.yld i H' x H2 → Ext ρ' ρ' H' H2 ∧ Sim κ ρ' h' H2 ∧ Rep κ ρ' H2 d x) ∧ (j.fin h' = true → J.stop j.len H')
abbrev PIv (κ : Kx) (W : WX) (X : Cx) (tg e : Expr) (ev : Sd → Hd → R Iv) : Prop := PI X tg e (tE κ (rI κ) W ev)
theorem PI.imp {X : Cx} {tg e : Expr} {t t' : TI} (h : PI X tg e t) (k : ∀ σ H R, t' σ H R → t σ H R) : PI X tg e t' := ⟨fun pins s σ H R I hw => h.run pins s σ H R I (k _ _ _ hw)⟩
section
variable {X : Cx} {tg e : Expr} {te : TE}
/-- a list or a tuple, as it comes -/
theorem pi_any (he : PE X e te) : PI X tg e (fun σ H R => te σ H fun x H1 => ∃ a, x = .ref a ∧ ((∃ xs, SqL X.K H1 a xs ∧ R (Itl X.K a) H1) ∨ (∃ xs, SqT X.K H1 a xs ∧ R (Itt X.K a) H1))) := by
  refine ⟨fun pins s σ H R I h => ?_⟩
  refine thn (he.run pins s σ H _ I h) fun v s1 ⟨x, H1, I1, r1, a, ea, q⟩ => ?_
  subst ea
  cases r1
  have fp : ∀ b ∈ [s1.heap.objs.size], FpOk X pins H1 b := fun b hb => by
    rw [show b = s1.heap.objs.size by simpa using hb]
    exact I1.fpOk (Nat.le_refl _) (I1.hok.fresh (Nat.le_refl _))
  rcases q with ⟨xs, hq, q⟩ | ⟨xs, hq, q⟩
  · obtain ⟨its, rv, p, hz⟩ := I1.list hq
    exact wpAny_pyIter_list p.isList ⟨_, [s1.heap.objs.size], _, _, H1, rfl, I1.kept (t' := s1.toks) fun b o e => Heap.get?_push_of_some _ e, turn_list a _, ⟨_, Heap.get?_push_size _ rfl, rfl, rfl⟩, fp, q⟩
  · obtain ⟨its, rv, p, hz⟩ := I1.tuple hq
    exact wpAny_pyIter_tuple (show s1.heap.IsTuple a its.toArray from p) ⟨_, [s1.heap.objs.size], _, _, H1, rfl, I1.kept (t' := s1.toks) fun b o e => Heap.get?_push_of_some _ e, turn_tuple a _, ⟨_, Heap.get?_push_size _ rfl, rfl, rfl⟩, fp, q⟩
end
section
variable {κ : Kx} {G : Str → Option D} {C : String → List D → Hd → R D} {fs : List String} {N : List Str} {sc : Scope} {fn : Str → Bool} {W : WX} {X : Cx}
variable {a b c e tg : Expr} {es : List Expr} {eva evb evc ev : Sd → Hd → R D} {pos : Pos} {ρ : List Addr} {H : Hp} {h : Hd}
theorem ri_seqT {a : Addr} {xs : List D} {vs : List V} (q : SqT κ.K H a vs) (r : Reps κ ρ H xs vs) : rI κ ρ H (.fx xs) (Itt κ.K a) := fun ρ' H' h' x S => by
  have q' := x.sqT q
  have r' := r.mono x
  refine ⟨fun i d _ e => ?_, fun _ => ⟨vs, q', by rw [← r.length]; exact Nat.le_refl _⟩⟩
  obtain ⟨v, e1, r1⟩ := r'.get (show xs[i]? = some d from e)
  refine ⟨⟨vs, v, q', e1⟩, fun y H2 z => ?_⟩
  obtain ⟨rfl, z⟩ := z
  have e3 := z vs q'
  rw [e1] at e3; cases e3
  exact ⟨.refl, S, r1⟩
theorem ri_seqF {a : Addr} {xs : List D} {vs : List V} (q : FrL κ.K H a vs) (r : Reps κ ρ H xs vs) : rI κ ρ H (.fx xs) (Itl κ.K a) := fun ρ' H' h' x S => by
  have q' := (x.frL q).seq
  have r' := r.mono x
  refine ⟨fun i d _ e => ?_, fun _ => ⟨vs, q', by rw [← r.length]; exact Nat.le_refl _⟩⟩
  obtain ⟨v, e1, r1⟩ := r'.get (show xs[i]? = some d from e)
  refine ⟨⟨vs, v, q', e1⟩, fun y H2 z => ?_⟩
  obtain ⟨rfl, z⟩ := z
  have e3 := z vs q'
  rw [e1] at e3; cases e3
  exact ⟨.refl, S, r1⟩
theorem ri_list {a : Addr} {l n : Nat} (q : ρ[l]? = some a) : rI κ ρ H (.lc l n) (Itl κ.K a) := fun ρ' H' h' x S => by
  have q' := x.at q
  refine ⟨fun i d _ e => ?_, fun e => ?_⟩
  · simp only [Iv.get] at e
    split at e
    · rename_i ys ey
      obtain ⟨a', vs, p1, p2, r⟩ := S.lst ey
      rw [q'] at p1; cases p1
      split at e
      · obtain ⟨v, e1, r1⟩ := r.get e
        refine ⟨⟨vs, v, .of p2, e1⟩, fun y H2 z => ?_⟩
        obtain ⟨rfl, z⟩ := z
        have e3 := z vs (.of p2)
        rw [e1] at e3; cases e3
        exact ⟨.refl, S, r1⟩
      · cases e
    · cases e
  · simp only [Iv.fin] at e
    split at e
    · rename_i ys ey
      obtain ⟨a', vs, p1, p2, r⟩ := S.lst ey
      rw [q'] at p1; cases p1
      exact ⟨vs, .of p2, by rw [← r.length]; have := eq_of_beq e; simp only [Iv.len]; omega⟩
    · cases e
theorem ri_range {lo : Int} {n : Nat} : rI κ ρ H (.fx (rangeD lo n)) (Itr lo n) := fun ρ' H' h' x S => by
  have hl : (rangeD lo n).length = n := by simp [rangeD]
  refine ⟨fun i d hi e => ?_, fun _ => show n ≤ (rangeD lo n).length by rw [hl]; exact Nat.le_refl _⟩
  have hi : i < n := by simpa [Iv.len, hl] using hi
  refine ⟨hi, fun y H2 z => ?_⟩
  obtain ⟨rfl, rfl⟩ := z
  have e : (rangeD lo n)[i]? = some d := e
  simp only [rangeD, List.getElem?_map, List.getElem?_range hi, Option.map_some] at e
  cases e
  exact ⟨.refl, S, rfl⟩
theorem ri_rangeC {lo c : Int} {n : Nat} : rI κ ρ H (.fx (rangeC lo c n)) (Itc lo c n) := fun ρ' H' h' x S => by
  have hl : (rangeC lo c n).length = n := by simp [rangeC]
  refine ⟨fun i d hi e => ?_, fun _ => show n ≤ (rangeC lo c n).length by rw [hl]; exact Nat.le_refl _⟩
  have hi : i < n := by simpa [Iv.len, hl] using hi
  refine ⟨hi, fun y H2 z => ?_⟩
  obtain ⟨rfl, rfl⟩ := z
  have e : (rangeC lo c n)[i]? = some d := e
  simp only [rangeC, List.getElem?_map, List.getElem?_range hi, Option.map_some] at e
  cases e
  exact ⟨.refl, S, rfl⟩
theorem g_it (g : Good κ G C fs N sc fn W X) (he : PV κ W X e ev) : PIv κ W X tg e (fun s h => (ev s h).bind fun x h1 => itD x h1) := by
  refine PI.imp (pi_any he) fun σ H Q t => ?_
  refine (tE_bind (rel := rD κ) t).mono fun v H1 a1 => ?_
  obtain ⟨ρ, sd, h, x, _, S, r, p⟩ := a1
  unfold itD at p
  dsimp only at p
  split at p
  · obtain ⟨a, vs, rfl, q, rs⟩ := r
    exact ⟨a, rfl, .inr ⟨vs, by rw [g.K]; exact q, by rw [g.K]; exact p.here S (ri_seqT q rs)⟩⟩
  · obtain ⟨a, vs, rfl, q, rs⟩ := r
    exact ⟨a, rfl, .inl ⟨vs, by rw [g.K]; exact q.seq, by rw [g.K]; exact p.here S (ri_seqF q rs)⟩⟩
  · split at p
    · rename_i l xs ex
      obtain ⟨a, vs, p1, p2, rs⟩ := S.lst ex
      obtain ⟨a', z, rfl⟩ := r
      rw [p1] at z; cases z
      exact ⟨a, rfl, .inl ⟨vs, .of p2, by rw [g.K]; exact p.here S (ri_list p1)⟩⟩
    · exact p.elim
  · exact p.elim
/-! enumerate -/
theorem enumL_get : ∀ {xs : List D} {k i : Nat} {d : D}, (enumL k xs)[i]? = some d → ∃ x, xs[i]? = some x ∧ d = .tup [.int ((k + i : Nat) : Int), x]
  | [], k, i, d, e => by simp [enumL] at e
  | x :: xs, k, 0, d, e => by
    simp only [enumL, List.getElem?_cons_zero, Option.some.injEq] at e
    exact ⟨x, rfl, e.symm⟩
  | x :: xs, k, i + 1, d, e => by
    simp only [enumL, List.getElem?_cons_succ] at e
    obtain ⟨y, e1, e2⟩ := enumL_get e
    exact ⟨y, by simpa using e1, by rw [e2, show k + 1 + i = k + (i + 1) by omega]⟩
theorem enumL_len : ∀ {xs : List D} {k : Nat}, (enumL k xs).length = xs.length
  | [], k => rfl
  | x :: xs, k => by simp [enumL, enumL_len (xs := xs)]
theorem rep_pair {T : Addr} {i : Nat} {d : D} {x : V} (n : H T = none) (S : Sim κ ρ h H) (r : Rep κ ρ H d x) : Ext ρ ρ H (upd H T (.tup [.int (i : Nat), x])) ∧ Sim κ ρ h (upd H T (.tup [.int (i : Nat), x])) ∧ Rep κ ρ (upd H T (.tup [.int (i : Nat), x])) (.tup [.int (i : Nat), d]) (.ref T) :=
  ⟨.alloc n, S.alloc n, T, _, rfl, .of upd_same, .cons rfl (.cons (r.mono (.alloc n)) .nil)⟩
theorem ri_enumT {a : Addr} {xs : List D} {vs : List V} (q : SqT κ.K H a vs) (r : Reps κ ρ H xs vs) : rI κ ρ H (.fx (enumL 0 xs)) (IteT κ.K a) := fun ρ' H' h' x S => by
  have q' := x.sqT q
  have r' := r.mono x
  refine ⟨fun i d _ e => ?_, fun _ => ⟨vs, q', by show vs.length ≤ (enumL 0 xs).length; rw [enumL_len, ← r.length]; exact Nat.le_refl _⟩⟩
  obtain ⟨y, e1, rfl⟩ := enumL_get (show (enumL 0 xs)[i]? = some d from e)
  obtain ⟨v, e2, r1⟩ := r'.get e1
  refine ⟨⟨vs, v, q', e2⟩, fun u H2 z => ?_⟩
  obtain ⟨T, w, rfl, n, rfl, z⟩ := z
  have e3 := z vs q'
  rw [e2] at e3; cases e3
  rw [Nat.zero_add]
  exact rep_pair n S r1
theorem ri_enumF {a : Addr} {xs : List D} {vs : List V} (q : FrL κ.K H a vs) (r : Reps κ ρ H xs vs) : rI κ ρ H (.fx (enumL 0 xs)) (Ite κ.K a) := fun ρ' H' h' x S => by
  have q' := (x.frL q).seq
  have r' := r.mono x
  refine ⟨fun i d _ e => ?_, fun _ => ⟨vs, q', by show vs.length ≤ (enumL 0 xs).length; rw [enumL_len, ← r.length]; exact Nat.le_refl _⟩⟩
  obtain ⟨y, e1, rfl⟩ := enumL_get (show (enumL 0 xs)[i]? = some d from e)
  obtain ⟨v, e2, r1⟩ := r'.get e1
  refine ⟨⟨vs, v, q', e2⟩, fun u H2 z => ?_⟩
  obtain ⟨T, w, rfl, n, rfl, z⟩ := z
  have e3 := z vs q'
  rw [e2] at e3; cases e3
  rw [Nat.zero_add]
  exact rep_pair n S r1
theorem ri_enumL {a : Addr} {l n : Nat} (q : ρ[l]? = some a) : rI κ ρ H (.le l n) (Ite κ.K a) := fun ρ' H' h' x S => by
  have q' := x.at q
  refine ⟨fun i d _ e => ?_, fun e => ?_⟩
  · simp only [Iv.get] at e
    split at e
    · rename_i ys ey
      obtain ⟨a', vs, p1, p2, r⟩ := S.lst ey
      rw [q'] at p1; cases p1
      split at e
      · obtain ⟨y, e1, rfl⟩ := Option.map_eq_some_iff.mp e
        obtain ⟨v, e2, r1⟩ := r.get e1
        refine ⟨⟨vs, v, .of p2, e2⟩, fun u H2 z => ?_⟩
        obtain ⟨T, w, rfl, m, rfl, z⟩ := z
        have e3 := z vs (.of p2)
        rw [e2] at e3; cases e3
        exact rep_pair m S r1
      · cases e
    · cases e
  · simp only [Iv.fin] at e
    split at e
    · rename_i ys ey
      obtain ⟨a', vs, p1, p2, r⟩ := S.lst ey
      rw [q'] at p1; cases p1
      exact ⟨vs, .of p2, by rw [← r.length]; have := eq_of_beq e; simp only [Iv.len]; omega⟩
    · cases e
theorem g_enum (g : Good κ G C fs N sc fn W X) {x : Str} {p tp : Pos} {elts : List Expr} {kk : Nat} (hx : x = "enumerate") (h1 : glB sc x = true) (ha : PV κ W X a eva) (hs : starX a = false) :
    PIv κ W X (.Tuple elts kk tp) (.Call (.Name x p) [a] [] pos) (fun s h => (eva s h).bind fun x h1 => enumD x h1) := by
  obtain ⟨g1, g2, g3⟩ := glB_gl g h1
  subst hx
  refine PI.imp (pi_enumA g1 (g.blt _ (by decide +kernel)) (pa_cons ha pa_nil (star_cons hs)) (star_cons hs)) fun σ H Q t => ?_
  refine (tE_bind (rel := rD κ) t).mono fun v H1 a1 => ?_
  obtain ⟨ρ, sd, h, x, _, S, r, p⟩ := a1
  unfold enumD at p
  dsimp only at p
  split at p
  · obtain ⟨a, vs, rfl, q, rs⟩ := r
    exact ⟨a, rfl, .inr ⟨vs, by rw [g.K]; exact q, by rw [g.K]; exact p.here S (ri_enumT q rs)⟩⟩
  · obtain ⟨a, vs, rfl, q, rs⟩ := r
    exact ⟨a, rfl, .inl ⟨vs, by rw [g.K]; exact q.seq, by rw [g.K]; exact p.here S (ri_enumF q rs)⟩⟩
  · split at p
    · rename_i l xs ex
      obtain ⟨a, vs, p1, p2, rs⟩ := S.lst ex
      obtain ⟨a', z, rfl⟩ := r
      rw [p1] at z; cases z
      exact ⟨a, rfl, .inl ⟨vs, .of p2, by rw [g.K]; exact p.here S (ri_enumL p1)⟩⟩
    · exact p.elim
  · exact p.elim
theorem small_of {i : Int} (h : small62 i = true) : -(2 ^ 62) ≤ i ∧ i < 2 ^ 62 := by
  unfold small62 at h
  simpa using h
theorem range_blt (g : Good κ G C fs N sc fn W X) : X.mg "range" = none := g.blt _ (by decide +kernel)
theorem g_rng1 (g : Good κ G C fs N sc fn W X) {x : Str} {p : Pos} (hx : x = "range") (h1 : glB sc x = true) (ha : PV κ W X a eva) (hs : starX a = false) : PIv κ W X tg (.Call (.Name x p) [a] [] pos) (fun s h => (eva s h).bind fun x h1 => rng1D x h1) := by
  obtain ⟨g1, g2, g3⟩ := glB_gl g h1
  subst hx
  refine PI.imp (pi_range1 g1 (range_blt g) (pa_cons ha pa_nil (star_cons hs)) (star_cons hs)) fun σ H Q t => ?_
  refine (tE_bind (rel := rD κ) t).mono fun v H1 a1 => ?_
  obtain ⟨ρ, sd, h, x, _, S, r, p⟩ := a1
  unfold rng1D at p
  dsimp only at p
  split at p
  · rename_i j
    cases (show v = .int j from r)
    split at p
    · rename_i z
      obtain ⟨z1, z2⟩ := small_of z
      exact ⟨j, rfl, z1, z2, p.here S ri_range⟩
    · exact p.elim
  · exact p.elim
theorem g_rng2 (g : Good κ G C fs N sc fn W X) {x : Str} {p : Pos} (hx : x = "range") (h1 : glB sc x = true) (ha : PV κ W X a eva) (hb : PV κ W X b evb) (hs : starX a = false) (hs2 : starX b = false) :
    PIv κ W X tg (.Call (.Name x p) [a, b] [] pos) (fun s h => (eva s h).bind fun x h1 => (evb s h1).bind fun y h2 => rng2D x y h2) := by
  obtain ⟨g1, g2, g3⟩ := glB_gl g h1
  subst hx
  refine PI.imp (pi_range2 g1 (range_blt g) (pa_cons ha (pa_cons hb pa_nil (star_cons hs2)) (star_cons hs)) (by rw [star_cons hs, star_cons hs2]; rfl) (by rw [star_cons hs2]; rfl)) fun σ H Q t => ?_
  refine (tE_bind (rel := rD κ) t).mono fun v H1 a1 => ?_
  refine (a1.bind stays_D).mono fun u H2 a2 => ?_
  obtain ⟨ρ, sd, h, x, y, _, S, r1, r2, p⟩ := a2
  unfold rng2D at p
  dsimp only at p
  split at p
  · rename_i i j
    cases (show v = .int i from r1)
    cases (show u = .int j from r2)
    split at p
    · rename_i z
      rw [Bool.and_eq_true] at z
      obtain ⟨z1, z2⟩ := small_of z.1
      obtain ⟨z3, z4⟩ := small_of z.2
      exact ⟨i, j, rfl, ⟨z1, z2, z3, z4⟩, p.here S ri_range⟩
    · exact p.elim
  · exact p.elim

theorem g_rng3 (g : Good κ G C fs N sc fn W X) {x : Str} {p : Pos} (hx : x = "range") (h1 : glB sc x = true) (ha : PV κ W X a eva) (hb : PV κ W X b evb) (hc : PV κ W X c evc) (hs : starX a = false) (hs2 : starX b = false) (hs3 : starX c = false) :
    PIv κ W X tg (.Call (.Name x p) [a, b, c] [] pos) (fun s h => (eva s h).bind fun x h1 => (evb s h1).bind fun y h2 => (evc s h2).bind fun z h3 => rng3D x y z h3) := by
  obtain ⟨g1, g2, g3⟩ := glB_gl g h1
  subst hx
  refine PI.imp (pi_range3 g1 (range_blt g) (pa_cons ha (pa_cons hb (pa_cons hc pa_nil (star_cons hs3)) (star_cons hs2)) (star_cons hs)) (by rw [star_cons hs, star_cons hs2, star_cons hs3] <;> rfl) (by rw [star_cons hs2, star_cons hs3] <;> rfl)) fun σ H Q t => ?_
  refine (tE_bind (rel := rD κ) t).mono fun v H1 a1 => ?_
  refine (a1.bind stays_D).mono fun u H2 a2 => ?_
  obtain ⟨ρ, sd, h, x, y, ss, S, r1, r2, p⟩ := a2
  refine ⟨ρ, sd, h, ss, S, ?_⟩
  cases q : evc sd h with
  | no => simp only [q, R.bind] at p; exact p.elim
  | err w h' => simp only [q, R.bind] at p; exact p
  | ok z h' =>
    simp only [q, R.bind] at p
    intro ρ' H' w e S' r3
    unfold rng3D at p
    split at p
    · rename_i i j k
      cases (show v = .int i from r1)
      cases (show u = .int j from r2)
      cases (show w = .int k from r3)
      split at p
      · rename_i z
        simp only [Bool.and_eq_true] at z
        obtain ⟨z1, z2⟩ := small_of z.1.1
        obtain ⟨z3, z4⟩ := small_of z.1.2
        have hk : k = -1 := eq_of_beq z.2
        subst hk
        exact ⟨i, j, -1, _, rfl, RgC.neg z1 z2 z3 z4, (p.ext e).here S' ri_rangeC⟩
      · exact p.elim
    · exact p.elim
theorem rep_pair2 {T : Addr} {d1 d2 : D} {x y : V} (n : H T = none) (S : Sim κ ρ h H) (r : Rep κ ρ H d1 x) (r2 : Rep κ ρ H d2 y) : Ext ρ ρ H (upd H T (.tup [x, y])) ∧ Sim κ ρ h (upd H T (.tup [x, y])) ∧ Rep κ ρ (upd H T (.tup [x, y])) (.tup [d1, d2]) (.ref T) :=
  ⟨.alloc n, S.alloc n, T, _, rfl, .of upd_same, .cons (r.mono (.alloc n)) (.cons (r2.mono (.alloc n)) .nil)⟩
theorem ri_zipT {a b : Addr} {xs ys : List D} {vs ws : List V} (q : SqT κ.K H a vs) (q2 : SqT κ.K H b ws) (r : Reps κ ρ H xs vs) (r2 : Reps κ ρ H ys ws) : rI κ ρ H (.fx ((xs.zip ys).map fun p => .tup [p.1, p.2])) (RZ.ItzT κ.K a b) := fun ρ' H' h' x S => by
  have q' := x.sqT q
  have q2' := x.sqT q2
  have r' := r.mono x
  have r2' := r2.mono x
  have hl : ((xs.zip ys).map fun p => D.tup [p.1, p.2]).length = min vs.length ws.length := by rw [List.length_map, List.length_zip, r.length, r2.length]
  refine ⟨fun i d hi e => ?_, fun _ => ⟨vs, ws, q', q2', ?_⟩⟩
  · have e : ((xs.zip ys).map fun p => D.tup [p.1, p.2])[i]? = some d := e
    rw [List.getElem?_map] at e
    obtain ⟨⟨d1, d2⟩, e1, rfl⟩ := Option.map_eq_some_iff.mp e
    obtain ⟨e2, e3⟩ := List.getElem?_zip_eq_some.mp e1
    obtain ⟨v, e4, s1⟩ := r'.get e2
    obtain ⟨w, e5, s2⟩ := r2'.get e3
    refine ⟨⟨vs, ws, v, w, q', q2', e4, e5⟩, fun u H2 z => ?_⟩
    obtain ⟨T, x1, y1, rfl, n, rfl, z1, z2⟩ := z
    have f1 := z1 vs q'
    rw [e4] at f1; cases f1
    have f2 := z2 ws q2'
    rw [e5] at f2; cases f2
    exact rep_pair2 n S s1 s2
  · show vs.length ≤ ((xs.zip ys).map fun p => D.tup [p.1, p.2]).length ∨ ws.length ≤ ((xs.zip ys).map fun p => D.tup [p.1, p.2]).length
    rw [hl]
    omega
theorem g_zip (g : Good κ G C fs N sc fn W X) {x : Str} {p tp : Pos} {elts : List Expr} {kk : Nat} (hx : x = "zip") (h1 : glB sc x = true) (ha : PV κ W X a eva) (hb : PV κ W X b evb) (hs : starX a = false) (hs2 : starX b = false) :
    PIv κ W X (.Tuple elts kk tp) (.Call (.Name x p) [a, b] [] pos) (fun s h => (eva s h).bind fun x h1 => (evb s h1).bind fun y h2 => zipD x y h2) := by
  obtain ⟨g1, g2, g3⟩ := glB_gl g h1
  subst hx
  refine PI.imp (RZ.pi_zipA g1 (g.blt _ (by decide +kernel)) (pa_cons ha (pa_cons hb pa_nil (star_cons hs2)) (star_cons hs)) (by rw [star_cons hs, star_cons hs2] <;> rfl) (by rw [star_cons hs2] <;> rfl)) fun σ H Q t => ?_
  refine (tE_bind (rel := rD κ) t).mono fun v H1 a1 => ?_
  refine (a1.bind stays_D).mono fun u H2 a2 => ?_
  obtain ⟨ρ, sd, h, x, y, _, S, r1, r2, p⟩ := a2
  unfold zipD at p
  dsimp only at p
  split at p
  · obtain ⟨a, vs, rfl, q, rs⟩ := r1
    obtain ⟨b, ws, rfl, q2, rs2⟩ := r2
    exact ⟨a, b, vs, ws, rfl, .inr ⟨by rw [g.K]; exact q, by rw [g.K]; exact q2, by rw [g.K]; exact p.here S (ri_zipT q q2 rs rs2)⟩⟩
  · exact p.elim

/-! ### a for -/
theorem RS.cases_loop {r : RS} : (∃ s h, r = .nx s h) ∨ (∃ s h, r = .ct s h) ∨ (∃ s h, r = .bk s h) ∨ (∃ d h, r = .ret d h) ∨ (∃ x s h, r = .err x s h) ∨ r = .no := by
  cases r with
  | nx s h => exact .inl ⟨s, h, rfl⟩
  | ct s h => exact .inr (.inl ⟨s, h, rfl⟩)
  | bk s h => exact .inr (.inr (.inl ⟨s, h, rfl⟩))
  | ret d h => exact .inr (.inr (.inr (.inl ⟨d, h, rfl⟩)))
  | err x s h => exact .inr (.inr (.inr (.inr (.inl ⟨x, s, h, rfl⟩))))
  | no => exact .inr (.inr (.inr (.inr (.inr rfl))))
/-- the parts of a statement: an expression's evaluation, then the rest -/
theorem tS_thn {α β : Type} {rel : Rel α β} {ev : Sd → Hd → R α} {f : α → Sd → Hd → RS} {D : Ends} {σ : L2.St} (t : tS κ W (fun s h => (ev s h).thn s fun x h1 => f x s h1) D σ H) :
    tE κ rel W ev σ H (fun y H1 => ∃ ρ sd h x, SimS κ ρ H1 sd σ ∧ Sim κ ρ h H1 ∧ rel ρ H1 x y ∧ PostS κ ρ H1 (f x sd h) D W) := by
  obtain ⟨ρ, sd, h, ss, S, p⟩ := t
  refine ⟨ρ, sd, h, ss, S, ?_⟩
  cases q : ev sd h with
  | no => simp only [q, R.thn] at p; exact p
  | err x h' =>
    simp only [q, R.thn] at p
    exact fun ρ' H' c a e s r => p ρ' H' σ c a e s (ss.mono e) r
  | ok x h' =>
    simp only [q, R.thn] at p
    exact fun ρ' H' y e s r => ⟨ρ', sd, h', x, ss.mono e, s, r, p.ext e⟩
theorem tS.here {f : Sd → Hd → RS} {D : Ends} {σ : L2.St} {sd : Sd} (ss : SimS κ ρ H sd σ) (S : Sim κ ρ h H) (p : PostS κ ρ H (f sd h) D W) : tS κ W f D σ H := ⟨ρ, sd, h, ss, S, p⟩
theorem g_for {f : D → Sd → Option Sd} {is : List Nat} {evi : Sd → Hd → R Iv} {evb : Sd → Hd → RS} {body : List Stmt} (g : Good κ G C fs N sc fn W X) (hp : PassesOwn (model X.prog X.w) X.A X.env X.xe) (hi : PIv κ W X tg e evi) (hg : PG X tg (tG κ f is)) (hb : PSs X body (tS κ W evb))
    (hs : setX e = false) : PS X (.For tg e body [] pos) (tS κ W fun s h => (evi s h).thn s fun j h1 => loopS (fun d s1 h2 => match f d s1 with
      | some s2 => evb s2 h2
      | none => .no) j j.len 0 s h1) := by
  refine PS.imp (ps_for hp g.calm hi hg hb (no_fold hs)) fun D σ H t => ?_
  refine (tS_thn (rel := rI κ) t).mono fun J H1 a1 => ?_
  obtain ⟨ρ, sd, h, j, ss, S, r, p⟩ := a1
  refine ⟨fun i m σ' H' => ∃ ρ' sd' h', Ext ρ ρ' H1 H' ∧ SimS κ ρ' H' sd' σ' ∧ Sim κ ρ' h' H' ∧ i + m = j.len ∧ PostS κ ρ' H' (loopS (fun d s1 h2 => match f d s1 with
      | some s2 => evb s2 h2
      | none => .no) j m i sd' h') D W, ⟨j.len, ρ, sd, h, .refl, ss, S, by omega, p⟩, ?_⟩
  rintro i m σ' H' ⟨ρ', sd', h', x, ss', S', em, p'⟩
  obtain ⟨go, stop⟩ := r ρ' H' h' x S'
  cases m with
  | zero =>
    simp only [loopS] at p'
    split at p'
    · rename_i z
      refine .inl ⟨?_, p' ρ' H' σ' .refl S' ss'⟩
      have : i = j.len := by omega
      rw [this]
      exact stop z
    · exact p'.elim
  | succ m =>
    simp only [loopS] at p'
    split at p'
    · rename_i d ed
      obtain ⟨g1, g2⟩ := go i d (by omega) ed
      refine .inr ⟨g1, fun σ2 H2 => ∃ ρ' sd' h', Ext ρ ρ' H1 H2 ∧ SimS κ ρ' H2 sd' σ2 ∧ Sim κ ρ' h' H2 ∧ (i + 1) + m = j.len ∧ PostS κ ρ' H2 (loopS (fun d s1 h2 => match f d s1 with
      | some s2 => evb s2 h2
      | none => .no) j m (i + 1) sd' h') D W, fun σ2 H2 z => ⟨m, by omega, z⟩, fun v H2 y => ?_⟩
      obtain ⟨x2, S2, r2⟩ := g2 v H2 y
      cases ef : f d sd' with
      | none => simp only [ef] at p'; exact p'.elim
      | some s2 =>
        simp only [ef] at p'
        refine ⟨ρ', sd', h', d, s2, ss'.mono x2, S2, r2, ef, fun σ3 H3 ρ3 x3 S3 ss3 _ => ?_⟩
        refine ⟨ρ3, s2, h', ss3, S3, ?_⟩
        have p3 := PostS.ext p' (x2.trans x3)
        cases eb : evb s2 h' with
        | nx s4 h4 =>
          simp only [eb] at p3
          exact fun ρ4 H4 σ4 x4 S4 ss4 => ⟨ρ4, s4, h4, x.trans (x2.trans (x3.trans x4)), ss4, S4, by omega, p3.ext x4⟩
        | ct s4 h4 =>
          simp only [eb] at p3
          exact fun ρ4 H4 σ4 x4 S4 ss4 => ⟨ρ4, s4, h4, x.trans (x2.trans (x3.trans x4)), ss4, S4, by omega, p3.ext x4⟩
        | bk s4 h4 => simp only [eb] at p3; exact p3
        | ret d h4 => simp only [eb] at p3; exact p3
        | err x4 s4 h4 => simp only [eb] at p3; exact p3
        | no => simp only [eb] at p3; exact p3
    · exact p'.elim
theorem g_while {evt : Sd → Hd → R Bool} {evb : Sd → Hd → RS} {F : Nat} {body : List Stmt} (hp : PassesOwn (model X.prog X.w) X.A X.env X.xe) (hc : PB κ W X c evt) (hb : PSs X body (tS κ W evb)) :
    PS X (.While c body [] pos) (tS κ W fun s h => loopW evt evb F s h) := by
  refine PS.imp (ps_while hp hc hb) fun D σ H t => ?_
  obtain ⟨ρ, sd, h, ss, S, p⟩ := t
  refine ⟨fun m σ' H' => ∃ ρ' sd' h', SimS κ ρ' H' sd' σ' ∧ Sim κ ρ' h' H' ∧ PostS κ ρ' H' (loopW evt evb m sd' h') D W, ⟨F, ρ, sd, h, ss, S, p⟩, ?_⟩
  rintro m σ' H' ⟨ρ', sd', h', ss', S', p'⟩
  cases m with
  | zero => exact p'.elim
  | succ m =>
    simp only [loopW] at p'
    refine (tS_thn (rel := rB) (f := fun b s h1 => if b = true then (match evb s h1 with
      | .nx s1 h2 => loopW evt evb m s1 h2
      | .ct s1 h2 => loopW evt evb m s1 h2
      | .bk s1 h2 => .nx s1 h2
      | r => r) else .nx s h1) ⟨ρ', sd', h', ss', S', p'⟩).mono fun b H1 a1 => ?_
    obtain ⟨ρ1, sd1, h1, b', ss1, S1, r1, p1⟩ := a1
    cases (show b = b' from r1)
    cases b with
    | false =>
      rw [if_neg Bool.false_ne_true]
      exact p1 ρ1 H1 σ' .refl S1 ss1
    | true =>
      rw [if_pos rfl]
      refine ⟨fun σ2 H2 => ∃ ρ' sd' h', SimS κ ρ' H2 sd' σ2 ∧ Sim κ ρ' h' H2 ∧ PostS κ ρ' H2 (loopW evt evb m sd' h') D W, fun σ2 H2 z => ⟨m, by omega, z⟩, ρ1, sd1, h1, ss1, S1, ?_⟩
      simp only [if_true] at p1
      cases eb : evb sd1 h1 with
      | nx s4 h4 =>
        simp only [eb] at p1
        exact fun ρ4 H4 σ4 x4 S4 ss4 => ⟨ρ4, s4, h4, ss4, S4, p1.ext x4⟩
      | ct s4 h4 =>
        simp only [eb] at p1
        exact fun ρ4 H4 σ4 x4 S4 ss4 => ⟨ρ4, s4, h4, ss4, S4, p1.ext x4⟩
      | bk s4 h4 => simp only [eb] at p1; exact p1
      | ret d h4 => simp only [eb] at p1; exact p1
      | err x4 s4 h4 => simp only [eb] at p1; exact p1
      | no => simp only [eb] at p1; exact p1
end
end Ev

set_option Elab.async false
set_option linter.all false
set_option maxRecDepth 100000
namespace Ev
open PySem PySem.Spec PyProof.Rows L2

/-! ### comprehensions -/
theorem wipe_get (σ : L2.St) (i : Nat) : ∀ vs : List Nat, (wipe σ vs)[i]? = if i ∈ vs then (if i < σ.length then some none else none) else σ[i]?
  | [] => by simp [wipe]
  | v :: vs => by
    have ih := wipe_get σ i vs
    unfold wipe
    by_cases h : v = i
    · subst h
      rw [List.getElem?_set_self']
      simp only [List.mem_cons, true_or, if_true]
      rw [ih]
      by_cases h2 : v < σ.length
      · have e : σ[v]? = some σ[v] := List.getElem?_eq_getElem h2
        by_cases h3 : v ∈ vs
        · simp [h2, h3]
        · simp [h2, h3]
      · have e : σ[v]? = none := List.getElem?_eq_none (by omega)
        by_cases h3 : v ∈ vs
        · simp [h2, h3]
        · simp [h2, h3]
    · rw [List.getElem?_set_ne h, ih]
      simp only [List.mem_cons, Ne.symm h, false_or]
theorem wipe_off {σ σ' : L2.St} {is vs : List Nat} (o : Off is (wipe σ vs) σ') (h : ∀ i ∈ is, i ∈ vs) : wipe σ' vs = wipe σ vs := by
  apply List.ext_getElem?
  intro i
  have hl : σ'.length = σ.length := o.1.trans (wipe_length σ vs)
  rw [wipe_get, wipe_get, hl]
  by_cases hi : i ∈ vs
  · simp [hi]
  · simp only [hi, if_false]
    rw [o.2 i fun z => hi (h i z), wipe_get]
    simp [hi]
section
variable {κ : Kx} {G : Str → Option D} {C : String → List D → Hd → R D} {fs : List String} {N : List Str} {sc : Scope} {fn : Str → Bool} {W : WX} {X : Cx}
variable {a b c e tg iter elt : Expr} {es ifs : List Expr} {eva evb evc ev : Sd → Hd → R D} {pos : Pos} {ρ : List Addr} {H : Hp} {h : Hd}
theorem SimS.wipe {sd : Sd} {σ : L2.St} (q : SimS κ ρ H sd σ) (vs : List Nat) : SimS κ ρ H (wipeD sd vs) (wipe σ vs) := by
  induction vs with
  | nil => exact q
  | cons v vs ih =>
    refine ⟨by simp [wipeD, L2.wipe, ih.1], fun i d e => ?_⟩
    unfold wipeD at e
    by_cases hv : v = i
    · subst hv
      rw [List.getElem?_set_self'] at e
      cases q : (wipeD sd vs)[v]? <;> simp [q] at e
    · rw [List.getElem?_set_ne hv] at e
      unfold L2.wipe
      rw [List.getElem?_set_ne hv]
      exact ih.2 i d e
/-- an object that stands becomes one of ours -/
theorem Sim.adopt (S : Sim κ ρ h H) {p : Addr} {xs : List D} {vs : List V} (n : p ∉ ρ) (e : H p = some (.lst vs)) (r : Reps κ ρ H xs vs) : Sim κ (ρ ++ [p]) (h ++ [.lst xs]) H := by
  have x : Kp ρ (ρ ++ [p]) H H := ⟨fun l a e => by rw [List.getElem?_append_left (List.getElem?_eq_some_iff.mp e).1]; exact e, fun _ _ e => e, fun _ _ _ e => e⟩
  refine ⟨by simp [S.len], List.nodup_append.mpr ⟨S.nd, by simp, fun a ha b hb => by rintro rfl; exact n (by simpa [show a = p by simpa using hb] using ha)⟩, fun l o a e1 e2 => ?_⟩
  by_cases hl : l < h.length
  · rw [List.getElem?_append_left hl] at e1
    rw [List.getElem?_append_left (by rw [S.len]; exact hl)] at e2
    exact (S.ob l o a e1 e2).kp x rfl
  · have hl2 : l = h.length := by
      have := (List.getElem?_eq_some_iff.mp e1).1
      simp at this; omega
    subst hl2
    rw [List.getElem?_append_right (Nat.le_refl _)] at e1
    rw [← S.len, List.getElem?_append_right (Nat.le_refl _)] at e2
    simp at e1 e2
    subst e1 e2
    exact ⟨vs, e, Reps.kp x _ _ r⟩
/-- a list that is none of ours, written -/
theorem kp_other {p : Addr} {vs ws : List V} (e : H p = some (.lst vs)) : Kp ρ ρ H (upd H p (.lst ws)) :=
  ⟨fun _ _ e => e, fun a xs z => by rw [upd_ne (by rintro rfl; rw [e] at z; cases z)]; exact z, fun a o u z => by rw [upd_ne (by rintro rfl; rw [e] at z; cases z)]; exact z⟩
theorem Sim.other (S : Sim κ ρ h H) {p : Addr} {vs ws : List V} (e : H p = some (.lst vs)) (n : p ∉ ρ) : Sim κ ρ h (upd H p (.lst ws)) :=
  ⟨S.len, S.nd, fun l o a e1 e2 => (S.ob l o a e1 e2).kp (kp_other e) (upd_ne (by rintro rfl; exact n (List.mem_of_getElem? e2)))⟩
abbrev WF : WX := fun _ _ _ _ => False
/-- how a comprehension's reading comes; fin: what is made of its items -/
theorem lc_run {α : Type} {rel : Rel α V} {f : D → Sd → Option Sd} {is own : List Nat} {evi : Sd → Hd → R Iv} {evt : Sd → Hd → R Bool} {fin : List D → Hd → R α} (ho : ∀ i ∈ is, i ∈ own)
    (hfin : ∀ ρ0 H0 ρ H h xs vs p Q E, Post κ rel ρ0 H0 (fin xs h) Q E → Ext ρ0 ρ H0 H → H0 p = none → p ∉ ρ → Sim κ ρ h H → H p = some (.lst vs) → Reps κ ρ H xs vs → Q (.ref p) H) {σ : L2.St} {Q : VK}
    (t : tE κ rel W (fun s h => (evi s h).bind fun j h1 => (loopC (turnC f evt ev own s) j j.len 0 [] h1).quiet.bind fun xs h2 => fin xs h2) σ H Q) :
    tLc (tE κ (rI κ) W evi) (tG κ f is) (tE κ rB WF evt) (tE κ (rD κ) WF ev) own σ H Q := by
  refine (tE_bind (rel := rI κ) t).mono fun J H1 a1 => ?_
  obtain ⟨ρ, sd, h, j, ss, S, r, p⟩ := a1
  intro L nL
  have hL : L ∉ ρ := fun z => by
    obtain ⟨ys, q⟩ := S.held z
    rw [nL] at q; cases q
  refine ⟨fun i m H' => ∃ ρ' h' acc vs, Ext ρ ρ' H1 H' ∧ Sim κ ρ' h' H' ∧ L ∉ ρ' ∧ H' L = some (.lst vs) ∧ Reps κ ρ' H' acc vs ∧ i + m = j.len ∧ Post κ rel ρ H1 ((loopC (turnC f evt ev own sd) j m i acc h').quiet.bind fun xs h2 => fin xs h2) Q (XW W σ),
    ⟨j.len, ρ, h, [], [], .alloc nL, S.alloc nL, hL, upd_same, .nil, by omega, p⟩, ?_⟩
  rintro i m H' ⟨ρ', h', acc, vs, x, S', nL', eL, ra, em, p'⟩
  obtain ⟨go, stop⟩ := r ρ' H' h' x S'
  cases m with
  | zero =>
    simp only [loopC] at p'
    split at p'
    · rename_i z
      have hi : i = j.len := by omega
      refine .inl ⟨by rw [hi]; exact stop z, ?_⟩
      simp only [R.quiet, R.bind] at p'
      exact hfin ρ H1 ρ' H' h' acc vs L Q _ p' x nL nL' S' eL ra
    · exact p'.elim
  | succ m =>
    simp only [loopC] at p'
    split at p'
    · rename_i d ed
      obtain ⟨g1, g2⟩ := go i d (by omega) ed
      refine .inr ⟨g1, fun H' => ∃ ρ' h' acc vs, Ext ρ ρ' H1 H' ∧ Sim κ ρ' h' H' ∧ L ∉ ρ' ∧ H' L = some (.lst vs) ∧ Reps κ ρ' H' acc vs ∧ (i + 1) + m = j.len ∧ Post κ rel ρ H1 ((loopC (turnC f evt ev own sd) j m (i + 1) acc h').quiet.bind fun xs h2 => fin xs h2) Q (XW W σ),
        fun H' z => ⟨m, by omega, z⟩, fun v H2 y => ?_⟩
      obtain ⟨x2, S2, r2⟩ := g2 v H2 y
      -- the target
      cases ef : f d (wipeD sd own) with
      | none => simp only [turnC, ef, R.bind, R.quiet] at p'; exact p'.elim
      | some s1 =>
        have x02 := x.trans x2
        refine ⟨ρ', wipeD sd own, h', d, s1, (ss.mono x02).wipe own, S2, r2, ef, fun σ3 H3 ρ3 x3 S3 ss3 off => ⟨wipe_off off ho, ?_⟩⟩
        have keepL : ∀ {ρ' ρ2 H' H2}, Ext ρ' ρ2 H' H2 → L ∉ ρ' → H' L = some (.lst vs) → L ∉ ρ2 ∧ H2 L = some (.lst vs) := fun {ρ' ρ2 H' H2} x n e =>
          ⟨fun z => (by rw [x.new L z n] at e; cases e), x.fr L _ e n⟩
        obtain ⟨n2, e2⟩ := keepL x2 nL' eL
        obtain ⟨n3, e3⟩ := keepL x3 n2 e2
        -- the tests
        refine ⟨ρ3, s1, h', ss3, S3, ?_⟩
        cases et : evt s1 h' with
        | no => simp only [turnC, ef, et, R.bind, R.quiet] at p'; exact p'.elim
        | err z h4 => simp only [turnC, ef, et, R.bind, R.quiet] at p'; exact p'.elim
        | ok b h4 =>
          intro ρ4 H4 b' x4 S4 rb
          cases (show b' = b from rb)
          obtain ⟨n4, e4⟩ := keepL x4 n3 e3
          have x04 := x02.trans (x3.trans x4)
          cases b with
          | false =>
            rw [if_neg Bool.false_ne_true]
            simp only [turnC, ef, et, R.bind, Bool.false_eq_true, if_false] at p'
            exact ⟨ρ4, h4, acc, vs, x04, S4, n4, e4, ra.mono (x2.trans (x3.trans x4)), by omega, p'⟩
          | true =>
            rw [if_pos rfl]
            refine ⟨ρ4, s1, h4, ss3.mono x4, S4, ?_⟩
            cases ee : ev s1 h4 with
            | no => simp only [turnC, ef, et, ee, R.bind, R.quiet, if_true] at p'; exact p'.elim
            | err z h5 => simp only [turnC, ef, et, ee, R.bind, R.quiet, if_true] at p'; exact p'.elim
            | ok y h5 =>
              intro ρ5 H5 w x5 S5 r5
              obtain ⟨n5, e5⟩ := keepL x5 n4 e4
              have x05 := x04.trans x5
              simp only [turnC, ef, et, ee, R.bind, if_true] at p'
              have ra5 := ra.mono (x2.trans (x3.trans (x4.trans x5)))
              by_cases hz : acc.length < sizeLine
              · simp only [if_pos hz] at p'
                refine ⟨vs, e5, by rw [← ra5.length]; exact hz, ρ5, h5, acc ++ [y], vs ++ [w], ?_, ?_, n5, upd_same, ?_, by omega, p'⟩
                · -- the list at L has grown: it is none of ours
                  refine ⟨x05.pre, fun a xs e => ?_, fun a o u e => ?_, fun a o e n => ?_, x05.new⟩
                  · rw [upd_ne (by rintro rfl; rw [nL] at e; cases e)]; exact x05.tup a xs e
                  · rw [upd_ne (by rintro rfl; rw [nL] at e; cases e)]; exact x05.frz a o u e
                  · rw [upd_ne (by rintro rfl; rw [nL] at e; cases e)]; exact x05.fr a o e n
                · exact S5.other e5 n5
                · exact (Reps.kp (kp_other e5) _ _ ra5).append (.cons (Rep.kp (kp_other e5) _ _ r5) .nil)
              · simp only [if_neg hz, R.quiet] at p'; exact p'.elim
    · exact p'.elim
end
end Ev

set_option Elab.async false
set_option linter.all false
set_option maxRecDepth 100000
namespace Ev
open PySem PySem.Spec PyProof.Rows L2

section
variable {κ : Kx} {G : Str → Option D} {C : String → List D → Hd → R D} {fs : List String} {N : List Str} {sc : Scope} {fn : Str → Bool} {W : WX} {X : Cx}
variable {a b c e tg iter elt : Expr} {es ifs : List Expr} {eva evb evc ev : Sd → Hd → R D} {pos : Pos} {ρ : List Addr} {H : Hp} {h : Hd}
theorem Good.blk (g : Good κ G C fs N sc fn W X) (s : Shared) (H : Hp) (scope : Scope) (cl : List (Str × Addr)) (A : Addr) (fp : List Addr) :
    Good κ G C fs N (relS scope sc) (fun x => scope.names.lookup x == some .cell) WF (X.blk s H scope (compEnvC scope cl A X.env) fp) where
  K := g.K
  calm := g.calm
  nd := g.nd
  N := g.N
  sc := by rw [← g.sc]; rfl
  fn := rfl
  un := g.un
  blt := g.blt
  glb := g.glb
  fns := g.fns
  kfns := g.kfns
  room := g.room
  tk := fun _ _ ⟨_, _, _, _, _, _, _, _, _, _, _, _, _, _, _, _, z⟩ => z.elim
  xok := g.xok
  pass := fun _ _ _ _ _ _ _ h => by
    obtain ⟨_, _, _, _, _, _, _, _, _, _, _, _, z⟩ := h
    exact z.elim
/-- the parts of a comprehension -/
structure CompOk (κ : Kx) (G : Str → Option D) (C : String → List D → Hd → R D) (fs : List String) (N : List Str) (sc : Scope) (W : WX) (X : Cx) (elt tg iter : Expr) (ifs : List Expr) (scope : Scope) (own : List (Str × Nat)) (f : D → Sd → Option Sd) (is : List Nat) (evi : Sd → Hd → R Iv) (evt : Sd → Hd → R Bool) (ev : Sd → Hd → R D) : Prop where
  blk : BlkOk N sc scope own
  it : PIv κ W X tg iter evi
  tg : ∀ X', Good κ G C fs N (relS scope sc) (fun x => scope.names.lookup x == some .cell) WF X' → PG X' tg (tG κ f is)
  tt : ∀ X', Good κ G C fs N (relS scope sc) (fun x => scope.names.lookup x == some .cell) WF X' → PTs X' ifs (tE κ rB WF evt)
  elt : ∀ X', Good κ G C fs N (relS scope sc) (fun x => scope.names.lookup x == some .cell) WF X' → PE X' elt (tE κ (rD κ) WF ev)
  set : setX iter = false
  own : ∀ i ∈ is, i ∈ own.map (·.2)
variable {scope : Scope} {own : List (Str × Nat)} {f : D → Sd → Option Sd} {is : List Nat} {evi : Sd → Hd → R Iv} {evt : Sd → Hd → R Bool}
theorem fin_q : ∀ ρ0 H0 ρ H h xs vs p (Q : VK) E, Post κ (rQ κ) ρ0 H0 (R.ok xs h) Q E → Ext ρ0 ρ H0 H → H0 p = none → p ∉ ρ → Sim κ ρ h H → H p = some (.lst vs) → Reps κ ρ H xs vs → Q (.ref p) H :=
  fun _ _ _ _ _ _ _ p _ _ q x _ _ S e r => q _ _ _ x S ⟨p, _, rfl, .inl (.of e), r⟩
theorem fin_v : ∀ ρ0 H0 ρ H h xs vs p (Q : VK) E, Post κ (rD κ) ρ0 H0 (new xs h) Q E → Ext ρ0 ρ H0 H → H0 p = none → p ∉ ρ → Sim κ ρ h H → H p = some (.lst vs) → Reps κ ρ H xs vs → Q (.ref p) H :=
  fun _ _ ρ _ _ _ _ p _ _ q x n np S e r => q (ρ ++ [p]) _ _ (x.adopt n) (S.adopt np e r) ⟨p, by rw [← S.len]; simp, rfl⟩
theorem bind_ok {α : Type} (r : R α) : (r.bind fun x h => .ok x h) = r := by cases r <;> rfl
theorem g_compQ (g : Good κ G C fs N sc fn W X) (k : CompOk κ G C fs N sc W X elt tg iter ifs scope own f is evi evt ev) :
    PQ κ W X (.ListComp elt [⟨tg, iter, ifs, 0⟩] scope pos) (fun s h => (evi s h).bind fun j h1 => (loopC (turnC f evt ev (own.map (·.2)) s) j j.len 0 [] h1).quiet) := by
  refine PE.imp (pe_lc (own := own) g.calm g.nd k.it (by rw [g.N, g.sc]; exact k.blk) (fun s H A cl fp => k.tg _ (g.blk s H scope cl A fp)) (fun s H A cl fp => k.tt _ (g.blk s H scope cl A fp)) (fun s H A cl fp => k.elt _ (g.blk s H scope cl A fp)) (no_fold k.set)) fun σ H Q t => ?_
  refine lc_run (fin := fun xs h => R.ok xs h) k.own fin_q ?_
  simp only [bind_ok]
  exact t
theorem g_compV (g : Good κ G C fs N sc fn W X) (k : CompOk κ G C fs N sc W X elt tg iter ifs scope own f is evi evt ev) :
    PV κ W X (.ListComp elt [⟨tg, iter, ifs, 0⟩] scope pos) (fun s h => (evi s h).bind fun j h1 => (loopC (turnC f evt ev (own.map (·.2)) s) j j.len 0 [] h1).quiet.bind fun xs h2 => new xs h2) :=
  PE.imp (pe_lc (own := own) g.calm g.nd k.it (by rw [g.N, g.sc]; exact k.blk) (fun s H A cl fp => k.tg _ (g.blk s H scope cl A fp)) (fun s H A cl fp => k.tt _ (g.blk s H scope cl A fp)) (fun s H A cl fp => k.elt _ (g.blk s H scope cl A fp)) (no_fold k.set)) fun σ H Q t => lc_run (fin := new) k.own fin_v t

/-! ### statements -/
abbrev PSv (κ : Kx) (W : WX) (X : Cx) (st : Stmt) (ev : Sd → Hd → RS) : Prop := PS X st (tS κ W ev)
abbrev PSsv (κ : Kx) (W : WX) (X : Cx) (st : List Stmt) (ev : Sd → Hd → RS) : Prop := PSs X st (tS κ W ev)
def compX : Expr → Bool
  | .ListComp _ _ _ _ => true
  | .SetComp _ _ _ _ => true
  | .DictComp _ _ _ _ _ => true
  | _ => false
theorem sw_none {e : Expr} {t : Option Expr} {l : Nat} {env : Env} (h : compX e = false) : swapsWith e t l env = pure false := by
  cases e <;> first | rfl | cases h
theorem sw_cell {e : Expr} {y : Str} {p : Pos} {l : Nat} {env : Env} (hk : env.scope.kind = .function) (hy : env.scope.names.lookup y = some .cell) : swapsWith e (some (.Name y p)) l env = pure false := by
  have hb : env.blockKind = .function := by unfold Env.blockKind; rw [hk]; rfl
  have ky : env.kindOf y = some .cell := hy
  cases e <;> first | rfl | (unfold swapsWith; simp only [hb, ky]; done) | (unfold swapsWith; simp only [hb, ky]; rfl)
theorem sw_sole {e t : Expr} {l : Nat} {env : Env} (h : compX e = false) : swapsWithSole [t] e l env = pure false := sw_none (t := some t) h
def tupX : Expr → Bool
  | .Tuple _ _ _ => true
  | _ => false
theorem sws_none {t e : Expr} {env : Env} (h : tupX e = false) : swappedStores [t] e env = pure none := by
  cases e <;> first | (cases t <;> rfl) | cases h
theorem g_expr (he : PV κ W X e ev) (hc : compX e = false) : PSv κ W X (.Expr e pos) (fun s h => (ev s h).thn s fun _ h1 => .nx s h1) := by
  refine PS.imp (ps_expr he (sw_none hc)) fun D σ H t => ?_
  refine (tS_thn (rel := rD κ) t).mono fun v H1 a1 => ?_
  obtain ⟨ρ, sd, h, x, ss, S, r, p⟩ := a1
  exact p ρ H1 σ .refl S ss
theorem g_ret (he : PV κ W X e ev) : PSv κ W X (.Return (some e) pos) (fun s h => (ev s h).thn s fun x h1 => .ret x h1) := by
  refine PS.imp (ps_ret he) fun D σ H t => ?_
  refine (tS_thn (rel := rD κ) t).mono fun v H1 a1 => ?_
  obtain ⟨ρ, sd, h, x, ss, S, r, p⟩ := a1
  exact p ρ H1 v .refl S r
theorem g_retn : PSv κ W X (.Return none pos) (fun s h => .ret .non h) := by
  refine PS.imp ps_retN fun D σ H t => ?_
  obtain ⟨ρ, sd, h, ss, S, p⟩ := t
  exact p ρ H .non .refl S rfl
theorem g_pass : PSv κ W X (.Pass pos) (fun s h => .nx s h) := by
  refine PS.imp ps_pass fun D σ H t => ?_
  obtain ⟨ρ, sd, h, ss, S, p⟩ := t
  exact p ρ H σ .refl S ss
theorem g_brk : PSv κ W X (.Break pos) (fun s h => .bk s h) := by
  refine PS.imp ps_break fun D σ H t => ?_
  obtain ⟨ρ, sd, h, ss, S, p⟩ := t
  exact p ρ H σ .refl S ss
theorem g_cont : PSv κ W X (.Continue pos) (fun s h => .ct s h) := by
  refine PS.imp ps_continue fun D σ H t => ?_
  obtain ⟨ρ, sd, h, ss, S, p⟩ := t
  exact p ρ H σ .refl S ss
theorem g_if {evx evy : Sd → Hd → RS} {xs ys : List Stmt} (hc : PB κ W X c evt) (hx : PSsv κ W X xs evx) (hy : PSsv κ W X ys evy) : PSv κ W X (.If c xs ys pos) (fun s h => (evt s h).thn s fun k h1 => if k then evx s h1 else evy s h1) := by
  refine PS.imp (ps_if hc hx hy) fun D σ H t => ?_
  refine (tS_thn (rel := rB) t).mono fun v H1 a1 => ?_
  obtain ⟨ρ, sd, h, x, ss, S, r, p⟩ := a1
  cases (show v = x from r)
  cases v with
  | true => rw [if_pos rfl]; exact ⟨ρ, sd, h, ss, S, p⟩
  | false => rw [if_neg Bool.false_ne_true]; exact ⟨ρ, sd, h, ss, S, p⟩
theorem g_snil : PSsv κ W X [] (fun s h => .nx s h) := by
  refine PSs.imp pss_nil fun D σ H t => ?_
  obtain ⟨ρ, sd, h, ss, S, p⟩ := t
  exact p ρ H σ .refl S ss
theorem g_scons {evx evy : Sd → Hd → RS} {x : Stmt} {xs : List Stmt} (hx : PSv κ W X x evx) (hy : PSsv κ W X xs evy) : PSsv κ W X (x :: xs) (fun s h => (evx s h).seq fun s1 h1 => evy s1 h1) := by
  refine PSs.imp (pss_cons hx hy) fun D σ H t => ?_
  obtain ⟨ρ, sd, h, ss, S, p⟩ := t
  refine ⟨ρ, sd, h, ss, S, ?_⟩
  cases q : evx sd h with
  | nx s1 h1 =>
    simp only [q, RS.seq] at p
    exact fun ρ' H' σ' x S' ss' => ⟨ρ', s1, h1, ss', S', p.ext x⟩
  | bk s1 h1 => simp only [q, RS.seq] at p; exact p
  | ct s1 h1 => simp only [q, RS.seq] at p; exact p
  | ret d h1 => simp only [q, RS.seq] at p; exact p
  | err x s1 h1 => simp only [q, RS.seq] at p; exact p
  | no => simp only [q, RS.seq] at p; exact p
/-- behind an evaluation, a target -/
theorem put_run {D : Ends} {σ : L2.St} (t : tS κ W (fun s h => (ev s h).thn s fun x h1 => match f x s with
    | some s1 => .nx s1 h1
    | none => .no) D σ H) : tAsg (tE κ (rD κ) W ev) (tG κ f is) D σ H := by
  refine (tS_thn (rel := rD κ) (f := fun x s h1 => match f x s with
    | some s1 => .nx s1 h1
    | none => .no) t).mono fun v H1 a1 => ?_
  obtain ⟨ρ, sd, h, x, ss, S, r, p⟩ := a1
  cases ef : f x sd with
  | none => simp only [ef] at p; exact p.elim
  | some s1 =>
    simp only [ef] at p
    exact ⟨ρ, sd, h, x, s1, ss, S, r, ef, fun σ' H' ρ' x' S' ss' _ => p ρ' H' σ' x' S' ss'⟩
theorem g_asg {t : Expr} (he : PV κ W X e ev) (hg : PG X t (tG κ f is)) (hc : compX e = false) (ht : tupX e = false) (hs : starX t = false) : PSv κ W X (.Assign [t] e pos) (fun s h => (ev s h).thn s fun x h1 => match f x s with
    | some s1 => .nx s1 h1
    | none => .no) :=
  PS.imp (ps_asg he hg (sw_sole hc) (sws_none ht) (by rw [asg_cons hs]; rfl)) fun D σ H t => put_run t
/-- .. to a name: any value -/
theorem g_asgN (g : Good κ G C fs N sc fn W X) {i : Nat} {x : Str} {p2 : Pos} (h1 : N[i]? = some x) (h2 : sc.names.lookup x = some .local ∨ (sc.names.lookup x = some .cell ∧ fn x = true)) (he : PV κ W X e ev) (hc : compX e = false ∨ (sc.kind = .function ∧ sc.names.lookup x = some .cell)) :
    PSv κ W X (.Assign [.Name x p2] e pos) (fun s h => (ev s h).thn s fun x h1 => .nx (s.set i (some x)) h1) := by
  refine PS.imp (ps_set (i := i) g.nd (by rw [g.N]; exact h1) (by rw [g.sc]; exact h2.elim .inl fun z => .inr z.1) he (hc.elim sw_none fun z => sw_cell (by rw [g.sc]; exact z.1) (by rw [g.sc]; exact z.2)) (by rw [g.fn, g.sc]; exact h2.elim .inr fun z => .inl z.2)) fun D σ H t => ?_
  refine (tS_thn (rel := rD κ) t).mono fun v H1 a1 => ?_
  obtain ⟨ρ, sd, h, x, ss, S, r, p⟩ := a1
  exact p ρ H1 _ .refl S (ss.set r i)
theorem g_asgC (g : Good κ G C fs N sc fn W X) {i : Nat} {y : Str} {py : Pos} (hk : sc.kind = .function) (h1 : N[i]? = some y) (h2 : sc.names.lookup y = some .local) (hl : (py.line == pos.line) = true) (hn : (scope.names.any fun (n, k) => n == y && (k == .local || k == .cell)) = false)
    {spos : Pos} (k : CompOk κ G C fs N sc W X elt tg iter ifs scope own f is evi evt ev) :
    PSv κ W X (.Assign [.Name y py] (.ListComp elt [⟨tg, iter, ifs, 0⟩] scope pos) spos) (fun s h => ((evi s h).bind fun j h1 => (loopC (turnC f evt ev (own.map (·.2)) s) j j.len 0 [] h1).quiet.bind fun xs h2 => new xs h2).thn s fun x h1 => .nx (s.set i (some x)) h1) := by
  refine PS.imp (ps_setLc (i := i) (own := own) g.calm g.nd (by rw [g.N]; exact h1) (by rw [g.sc]; exact h2) (sw_true (by rw [g.sc]; exact hk) (by rw [g.sc]; exact h2) hl hn) k.it (by rw [g.N, g.sc]; exact k.blk) (fun s H A cl fp => k.tg _ (g.blk s H scope cl A fp)) (fun s H A cl fp => k.tt _ (g.blk s H scope cl A fp)) (fun s H A cl fp => k.elt _ (g.blk s H scope cl A fp)) (no_fold k.set)) fun D σ H t => ?_
  refine lc_run (rel := rD κ) (fin := new) k.own fin_v ?_
  refine (tS_thn (rel := rD κ) t).mono fun v H1 a1 => ?_
  obtain ⟨ρ, sd, h, x, ss, S, r, p⟩ := a1
  exact p ρ H1 _ .refl S (ss.set r i)
theorem setD_ok {x y z d : Ev.D} {h h' : Hd} (e : setD x y z h = .ok d h') : ∃ l i xs k, x = .ref l ∧ y = .int i ∧ Hd.lst h l = some xs ∧ ixN xs.length i = some k ∧ h' = setL l (xs.set k z) h := by
  unfold setD at e
  split at e
  · rename_i l i
    split at e
    · rename_i xs ex
      split at e
      · rename_i k ek
        cases e
        exact ⟨l, i, xs, k, rfl, rfl, ex, ek, rfl⟩
      · cases e
    · cases e
  · cases e
theorem setD_err {x y z : Ev.D} {d : Xn} {h h' : Hd} (e : setD x y z h = .err d h') : False := by
  unfold setD at e
  split at e
  · split at e
    · split at e <;> cases e
    · cases e
  · cases e
theorem g_setix {a i : Expr} {evi : Sd → Hd → R D} {p2 : Pos} (he : PV κ W X e ev) (ha : PV κ W X a eva) (hi : PV κ W X i evi) (hc : compX e = false) (ht : tupX e = false) (hs : sliceX i = false) :
    PSv κ W X (.Assign [.Subscript a i p2] e pos) (fun s h => (ev s h).thn s fun z h1 => (eva s h1).thn s fun x h2 => (evi s h2).thn s fun y h3 => (setD x y z h3).thn s fun _ h4 => .nx s h4) := by
  refine PS.imp (ps_asg he (pg_sub ha hi set_list (by intro v; cases i <;> first | rfl | cases hs)) (sw_sole hc) (sws_none ht) rfl) fun D σ H t => ?_
  refine (tS_thn (rel := rD κ) t).mono fun v H1 a1 => ?_
  obtain ⟨ρ, sd, h, z, ss, S, r, p⟩ := a1
  refine ⟨ρ, sd, h, ss, S, ?_⟩
  cases q1 : eva sd h with
  | no => simp only [q1, R.thn] at p; exact p.elim
  | err x h' => simp only [q1, R.thn] at p; exact fun ρ' H' c a e S' r' => p ρ' H' σ c a e S' (ss.mono e) r'
  | ok x h2 =>
    simp only [q1, R.thn] at p
    intro ρ2 H2 vx x2 S2 r2
    refine ⟨ρ2, sd, h2, ss.mono x2, S2, ?_⟩
    cases q2 : evi sd h2 with
    | no => simp only [q2, R.thn] at p; exact p.elim
    | err x h' => simp only [q2, R.thn] at p; exact fun ρ' H' c a e S' r' => p ρ' H' σ c a (x2.trans e) S' ((ss.mono x2).mono e) r'
    | ok y h3 =>
      simp only [q2, R.thn] at p
      intro ρ3 H3 vy x3 S3 r3
      cases q3 : setD x y z h3 with
      | no => simp only [q3] at p; exact p.elim
      | err x h' => exact (setD_err q3).elim
      | ok d h4 =>
        simp only [q3] at p
        obtain ⟨l, m, xs, k, rfl, rfl, ex, ek, rfl⟩ := setD_ok q3
        cases (show vy = .int m from r3)
        obtain ⟨a, vs, p1, p2, rs⟩ := S3.lst ex
        obtain ⟨a', z1, rfl⟩ := r2.mono x3
        rw [p1] at z1; cases z1
        exact ⟨a, vs, m, k, rfl, rfl, p2, by rw [← rs.length]; exact ek, p ρ3 _ σ (x2.trans (x3.trans (.write S3 p1))) (S3.write p1 (rs.set ((r.mono x2).mono x3))) (((ss.mono x2).mono x3).mono (.write S3 p1))⟩
theorem g_aug (g : Good κ G C fs N sc fn W X) {i : Nat} {x : Str} {p2 : Pos} {op : Operator} (ho : op = .Add ∨ op = .Sub) (h1 : N[i]? = some x) (h2 : sc.names.lookup x = some .local ∨ (sc.names.lookup x = some .cell ∧ fn x = true)) (he : PV κ W X e ev) :
    PSv κ W X (.AugAssign (.Name x p2) op e pos) (fun s h => match s[i]? with
      | some (some x) => (ev s h).thn s fun y h1 => (augD op x y h1).thn s fun z h2 => .nx (s.set i (some z)) h2
      | _ => .no) := by
  have fin : ∀ {D : Ends} {σ : L2.St} {H : Hp} {gi : Int → Int → Int}, (∀ x y h, augD op x y h = intD h (fun _ _ => True) gi x y) → tS κ W (fun s h => match s[i]? with
      | some (some x) => (ev s h).thn s fun y h1 => (augD op x y h1).thn s fun z h2 => .nx (s.set i (some z)) h2
      | _ => .no) D σ H → tAug i (tE κ (rD κ) W ev) (ipI gi) D σ H := fun {D σ H gi} hg t => by
    obtain ⟨ρ, sd, h, ss, S, p⟩ := t
    dsimp only at p
    split at p
    · rename_i d ed
      obtain ⟨v, e1, r⟩ := ss.2 i d ed
      refine ⟨v, e1, ρ, sd, h, ss, S, ?_⟩
      cases q1 : ev sd h with
      | no => simp only [q1, R.thn] at p; exact p.elim
      | err x h' => simp only [q1, R.thn] at p; exact fun ρ' H' c a e S' r' => p ρ' H' σ c a e S' (ss.mono e) r'
      | ok y h1 =>
        simp only [q1, R.thn, hg] at p
        intro ρ1 H1 u x1 S1 r1
        cases d <;> try exact p.elim
        cases y <;> try exact p.elim
        rename_i m n
        cases (show v = .int m from r)
        cases (show u = .int n from r1)
        exact ⟨m, n, rfl, rfl, p ρ1 H1 _ x1 S1 ((ss.mono x1).set (d := .int (gi m n)) (v := .int (gi m n)) rfl i)⟩
    · exact p.elim
  have hN : X.N[i]? = some x := by rw [g.N]; exact h1
  have hL : Loc X.env.scope x := by rw [g.sc]; exact h2.elim .inl fun z => .inr z.1
  have hF : X.fn x = true ∨ X.env.scope.names.lookup x = some .local := by rw [g.fn, g.sc]; exact h2.elim .inr fun z => .inl z.2
  rcases ho with rfl | rfl
  · exact PS.imp (ps_aug (i := i) g.nd hN hL he ip_add hF) fun D σ H t => fin (fun _ _ _ => rfl) t
  · exact PS.imp (ps_aug (i := i) g.nd hN hL he ip_sub hF) fun D σ H t => fin (fun _ _ _ => rfl) t
end
end Ev

set_option Elab.async false
set_option linter.all false
set_option maxRecDepth 100000
namespace Ev
open PySem PySem.Spec PyProof.Rows L2

section
variable {κ : Kx} {G : Str → Option D} {C : String → List D → Hd → R D} {fs : List String} {N : List Str} {sc : Scope} {fn : Str → Bool} {W : WX} {X : Cx}
variable {e : Expr} {es : List Expr} {evs : Sd → Hd → R (List D)} {pos : Pos} {ρ : List Addr} {H : Hp} {h : Hd}
/-! ### raise C(e, ..) -/
theorem zip_snd {α : Type} : ∀ {xs : List String} {ys : List α}, ys.length = xs.length → (xs.zip ys).map (·.2) = ys
  | [], [], _ => rfl
  | x :: xs, y :: ys, h => by simp [zip_snd (xs := xs) (ys := ys) (by simpa using h)]
theorem zip_snd' {α : Type} : ∀ {xs : List Str} {ys : List α}, ys.length = xs.length → (xs.zip ys).map (·.2) = ys
  | [], [], _ => rfl
  | x :: xs, y :: ys, h => by simp [zip_snd' (xs := xs) (ys := ys) (by simpa using h)]
theorem zip_fst {α β : Type} : ∀ {xs : List String} {ys : List α} {zs : List β}, ys.length = xs.length → zs.length = xs.length → ((xs.map Str.ofString).zip ys).map (·.1) = (xs.zip zs).map fun p => Str.ofString p.1
  | [], [], [], _, _ => rfl
  | x :: xs, y :: ys, z :: zs, h, k => by simp [zip_fst (xs := xs) (ys := ys) (zs := zs) (by simpa using h) (by simpa using k)]
theorem g_raise (g : Good κ G C fs N sc fn W X) {q : XC} (hq : q ∈ κ.xcs) {x : Str} {p pos2 : Pos} (hx : x = Str.ofString q.name) (h1 : glB sc x = true) (hne : q.fields ≠ []) (ha : PVs κ W X (e :: es) evs) (hs : (e :: es).all (fun e => !starX e) = true) :
    PSv κ W X (.Raise (some (.Call (.Name x p) (e :: es) [] pos)) none pos2) (fun s h => (evs s h).thn s fun xs h1 => raiseD q.name q.fields xs s h1) := by
  subst hx
  obtain ⟨T, fI, fd, ps, i1, i2, hb, hF⟩ := (g.xok q hq).ini hne
  obtain ⟨g1, g2, g3⟩ := glB_gl g h1
  rw [List.all_cons, Bool.and_eq_true] at hs
  have hse : starX e = false := by simpa using hs.1
  refine PS.imp (ps_raise g.calm g.tk (pmk_oex T i1 i2 (hF X.base) g.room hb .nil (passes_call g.tk fun _ _ _ _ z => z.elim) g1 (g.xok q hq).gl ha g2 (star_cons hse) (back_none hs.2))) fun D σ H t => ?_
  refine (tS_thn (rel := rDs κ) t).mono fun vs H1 a1 => ?_
  obtain ⟨ρ, sd, h, xs, ss, S, r, p⟩ := a1
  unfold raiseD at p
  split at p
  · rename_i c
    have hl := r.length
    have hvl : vs.length = q.fields.length := by rw [← hl]; exact c.1
    refine ⟨by omega, fun a na => ⟨a, vs, by rw [List.append_nil], by rw [List.length_map]; exact hvl, upd_same, fun dx hn ne => ⟨rfl, dx, _, ?_, upd_same, ?_, ?_⟩⟩⟩
    · rw [upd_ne (Ne.symm ne), upd_same]
    · rw [upd_ne ne] at hn
      exact hn
    · rw [upd_ne ne] at hn
      have eH : ∀ zs : List (Str × V), upd (del (upd (upd (upd (upd H1 a (exo a (κ.ca q.name) none)) dx (exd dx [])) a (exo a (κ.ca q.name) (some dx))) dx (exd dx zs)) a) dx (.xd zs) = upd H1 dx (.xd zs) := fun zs => by
        funext b
        by_cases hbd : b = dx
        · rw [hbd, upd_same, upd_same]
        · rw [upd_ne hbd, upd_ne hbd]
          by_cases hba : b = a
          · rw [hba, del_same, na]
          · rw [del_ne hba, upd_ne hbd, upd_ne hba, upd_ne hbd, upd_ne hba]
      rw [eH]
      refine p ρ _ σ _ _ (.alloc hn) (S.alloc hn) (ss.mono (.alloc hn)) ⟨rfl, dx, _, rfl, upd_same, ?_, ?_⟩
      · rw [List.map_reverse, List.map_reverse, zip_snd (by omega), zip_snd' (by rw [List.length_map]; omega)]
        exact (r.mono (.alloc hn)).reverse
      · rw [List.map_reverse, List.map_reverse, zip_fst (zs := xs) hvl (by omega)]
  · exact p.elim

/-! ### an except suite -/
theorem XRep.ext {x : Xn} {c : Value} {d : Option Addr} {ρ' : List Addr} {H' : Hp} (r : XRep κ ρ H x c d) (y : Ext ρ ρ' H H') (S : Sim κ ρ h H) : XRep κ ρ' H' x c d := by
  obtain ⟨e, dx, fs, e2, e3, rs, e4⟩ := r
  refine ⟨e, dx, fs, e2, y.fr _ _ e3 fun hm => ?_, rs.mono y, e4⟩
  obtain ⟨xs, q⟩ := S.held hm
  rw [e3] at q
  cases q
/-- what stands within the suite: i the slot of the error's name, a the error -/
structure StH (κ : Kx) (i : Nat) (a : Addr) (cls : Value) (d : Option Addr) (x : Xn) (ρ : List Addr) (h : Hd) (σ : L2.St) (H : Hp) : Prop where
  nm : σ[i]? = some (some (.ref a))
  S : Sim κ ρ h H
  r : XRep κ ρ H x cls d
  q : ∃ q ∈ κ.xcs, q.name = x.cls
def tbB (xcs : List XC) (c : String) (tb : List (String × Bool)) : Bool := tb.all fun p => xcs.any fun q => decide (q.name = p.1) && (decide (c ∈ q.anc) == p.2)
theorem tb_ok {xcs : List XC} {c s : String} {tb : List (String × Bool)} {b : Bool} (h : tbB xcs c tb = true) (e : tb.lookup s = some b) : ∃ q ∈ xcs, q.name = s ∧ decide (c ∈ q.anc) = b := by
  have hm : (s, b) ∈ tb := by
    clear h
    induction tb with
    | nil => cases e
    | cons p tb ih =>
      obtain ⟨y, k⟩ := p
      rw [List.lookup_cons] at e
      by_cases z : s = y
      · subst z
        simp at e
        subst e
        exact List.mem_cons_self
      · rw [beq_eq_false_iff_ne.mpr z] at e
        exact List.mem_cons_of_mem _ (ih e)
  obtain ⟨q, hq, hk⟩ := List.any_eq_true.mp (List.all_eq_true.mp h _ hm)
  rw [Bool.and_eq_true, decide_eq_true_eq] at hk
  exact ⟨q, hq, hk.1, eq_of_beq hk.2⟩
/-- isinstance(e, C), e the error -/
def rIsX (K : PySem.W.Frag) (a : Addr) (cls : Value) (d : Option Addr) : List V → Hp → VK → Prop := fun xs H Q => ∃ (D Ca dd : Addr) (fs : List (Str × V)) (b : Bool), xs = [.ref a, .ref Ca] ∧ cls = .ref D ∧ d = some dd ∧ H dd = some (.xd fs) ∧ ExcC K D ∧ PySem.W.kitOne K (.ref D) (.ref Ca) = some b ∧ Q (.bl b) H
theorem call_isX {a : Addr} {oe : Obj} {cls : Value} {d : Option Addr} {pn : List (Addr × Obj)} (hz : Zc cls d oe) (hf : ∃ vs, oe.data = .fields vs) : CallR (X.suite a ((a, oe) :: pn)) (.builtin "isinstance") (rIsX X.K a cls d) := by
  intro pins s σ H xs us Q I r h
  obtain ⟨D, Ca, dd, fs, b, rfl, rfl, rfl, ed, E, e, q⟩ := h
  obtain ⟨u1, u2, rfl, rx, rt⟩ := vals2 r
  obtain rfl : u1 = Value.ref a := rx
  obtain rfl : u2 = Value.ref Ca := rt
  obtain ⟨hget, _⟩ := I.pin (a, oe) (List.mem_append.mpr (.inl List.mem_cons_self))
  obtain ⟨vs, hv⟩ := hf
  have hx : ObjOk X.prog X.w H s.heap dd (.xd fs) := I.hok dd _ ed
  obtain ⟨mA, hns, hr⟩ := hx
  obtain ⟨od, ho, hl⟩ := lookIn_ns hns
  have J : PySem.W.InstAt s.heap a oe D (some od) := ⟨hget, hz.1, by unfold PySem.W.notCls; rw [hv] <;> rfl, by rw [hz.2]; exact ho⟩
  have hcl : (PySem.W.clsIn X.K D).isSome = true := by
    obtain ⟨cd, hc, _⟩ := PySem.W.any_some E.hd
    rw [hc]; rfl
  exact PySem.W.kia_one (PySem.W.kitx_exc hcl E.hg E.hk E.hs E.ha E.hn E.ht E.hm) I.kIn J e (fun z => nomatch z) fun tk => ⟨.bl b, H, I.kept (t' := tk) fun _ _ z => z, rfl, q⟩
end
end Ev

set_option Elab.async false
set_option linter.all false
set_option maxRecDepth 100000
namespace Ev
open PySem PySem.Spec PyProof.Rows L2

theorem ofString_inj {a b : String} (h : Str.ofString a = Str.ofString b) : a = b := by
  rw [Str.ofString_eq_toList, Str.ofString_eq_toList] at h
  injection h with h
  have h1 : a.toList.map Char.toNat = b.toList.map Char.toNat := by simpa using h
  have h2 : a.toList = b.toList := by
    have inj : ∀ {x y : Char}, x.toNat = y.toNat → x = y := fun {x y} e => Char.ext (UInt32.toNat_inj.mp e)
    generalize a.toList = l at h1
    generalize b.toList = m at h1
    induction l generalizing m with
    | nil => cases m with
      | nil => rfl
      | cons _ _ => cases h1
    | cons x l ih => cases m with
      | nil => cases h1
      | cons y m =>
        simp only [List.map_cons, List.cons.injEq] at h1
        rw [inj h1.1, ih m h1.2]
  exact String.toList_inj.mp h2
section
variable {κ : Kx} {ρ : List Addr} {H : Hp}
theorem lookup_rep : ∀ {ps : List (String × D)} {fs : List (Str × V)} {f : String} {y : D}, fs.map (·.1) = ps.map (fun p => Str.ofString p.1) → Reps κ ρ H (ps.map (·.2)) (fs.map (·.2)) → ps.lookup f = some y → ∃ v, fs.lookup (Str.ofString f) = some v ∧ Rep κ ρ H y v
  | [], fs, f, y, _, _, e => by cases e
  | (g, d) :: ps, [], f, y, h, _, _ => by cases h
  | (g, d) :: ps, (g', v) :: fs, f, y, h, r, e => by
    simp only [List.map_cons, List.cons.injEq] at h
    obtain ⟨h1, h2⟩ := h
    obtain ⟨u, w, e1, r1, r2⟩ := r
    simp only [List.map_cons, List.cons.injEq] at e1
    obtain ⟨rfl, rfl⟩ := e1
    rw [List.lookup_cons] at e
    by_cases z : f = g
    · subst z
      simp at e
      subst e
      exact ⟨v, by rw [h1]; simp [List.lookup], r1⟩
    · rw [beq_eq_false_iff_ne.mpr z] at e
      obtain ⟨v', e2, r3⟩ := lookup_rep h2 r2 e
      refine ⟨v', ?_, r3⟩
      have ne : (Str.ofString f == g') = false := beq_eq_false_iff_ne.mpr fun q => z (ofString_inj (q.trans h1))
      rw [List.lookup_cons, ne]
      exact e2
end

section
variable (sc : Scope) (xcs : List XC) (n : Str)
mutual
def lkHQ : HQ → Expr → Bool
  | .isx c tb, x => match x with
    | .Call (.Name b _) [.Name y _, .Name z _] [] _ => decide (b = "isinstance") && decide (y = n) && decide (z = Str.ofString c) && glB sc b && glB sc z && xcs.any (fun q => decide (q.name = c)) && tbB xcs c tb
    | _ => false
  | .not_ a, x => match x with
    | .UnaryOp .Not a' _ => lkHQ a a'
    | _ => false
  | .and_ es, x => match x with
    | .BoolOp .And es' _ => lkHQs es es' && !es.isEmpty
    | _ => false
def lkHQs : List HQ → List Expr → Bool
  | [], xs => xs.isEmpty
  | a :: as, xs => match xs with
    | y :: ys => lkHQ a y && lkHQs as ys
    | [] => false
end
def lkA : HA → Expr → Bool
  | .str i, x => match x with
    | .Constant (.str j) _ _ => decide (i = j)
    | _ => false
  | .int i, x => match x with
    | .Constant (.int j) _ _ => i == j
    | _ => false
  | .bl i, x => match x with
    | .Constant (.bool j) _ _ => i == j
    | _ => false
  | .non, x => match x with
    | .Constant .none _ _ => true
    | _ => false
  | .fld f, x => match x with
    | .Attribute (.Name y _) g _ => decide (y = n) && decide (g = Str.ofString f) && xcs.any fun q => decide (f ∈ q.fields)
    | _ => false
  | .ite c a b, x => match x with
    | .IfExp c' a' b' _ => lkHQ sc xcs n c c' && lkA a a' && lkA b b'
    | _ => false
def lkAl : List HA → List Expr → Bool
  | [], xs => xs.isEmpty
  | a :: as, xs => match xs with
    | y :: ys => lkA sc xcs n a y && lkAl as ys && !starX y
    | [] => false
def lkHR : HR → Expr → Bool
  | .a a, x => lkA sc xcs n a x
  | .t as, x => match x with
    | .Tuple es _ _ => lkAl sc xcs n as es
    | _ => false
def lkHS : List HS → List Stmt → Bool
  | [], ss => ss.isEmpty
  | .ret r :: k, ss => match ss with
    | [.Return (some e) _] => lkHR sc xcs n r e && k.isEmpty
    | _ => false
  | .ifr c r :: k, ss => match ss with
    | .If c' [.Return (some e) _] [] _ :: ss => lkHQ sc xcs n c c' && lkHR sc xcs n r e && lkHS k ss
    | _ => false
end

section
variable {κ : Kx} {G : Str → Option D} {C : String → List D → Hd → R D} {fs : List String} {N : List Str} {sc : Scope} {fn : Str → Bool} {W : WX} {X : Cx}
/-- the suite's context -/
structure Su (κ : Kx) (G : Str → Option D) (C : String → List D → Hd → R D) (fs : List String) (N : List Str) (sc : Scope) (fn : Str → Bool) (W : WX) (X : Cx) (n : Str) (i : Nat) (a : Addr) (oe : Obj) (cls : Value) (d : Option Addr) : Prop where
  g : Good κ G C fs N sc fn W X
  hz : Zc cls d oe
  hf : ∃ vs, oe.data = .fields vs
  hi : N[i]? = some n
  hv : visB sc n = true
  d1 : (n == ("__debug__" : Str)) = false
  d2 : (n == ("__classdict__" : Str)) = false
variable {n : Str} {i : Nat} {a : Addr} {oe : Obj} {cls : Value} {d : Option Addr} {pn : List (Addr × Obj)}
theorem Su.name (u : Su κ G C fs N sc fn W X n i a oe cls d) {p : Pos} : PE (X.suite a ((a, oe) :: pn)) (.Name n p) (tVar i) :=
  pe_var (X := X.suite a ((a, oe) :: pn)) (by show X.N[i]? = some n; rw [u.g.N]; exact u.hi) (by show Vis X.env.scope n; rw [u.g.sc]; exact visB_ok u.hv) u.d1 u.d2
mutual
theorem lkHQ_ok (u : Su κ G C fs N sc fn W X n i a oe cls d) : ∀ (t : HQ) (e : Expr), lkHQ sc κ.xcs n t e = true → PT (X.suite a ((a, oe) :: pn)) e (fun σ H Q => ∃ x ρ h b, StH κ i a cls d x ρ h σ H ∧ evHQ x t = some b ∧ Q b H)
  | .isx c tb, e, hl => by
    unfold lkHQ at hl
    split at hl
    · simp only [Bool.and_eq_true, decide_eq_true_eq] at hl
      obtain ⟨⟨⟨⟨⟨⟨rfl, rfl⟩, rfl⟩, h4⟩, h5⟩, h6⟩, h7⟩ := hl
      obtain ⟨k1, k2, k3⟩ := glB_gl u.g h4
      obtain ⟨m1, m2, m3⟩ := glB_gl u.g h5
      obtain ⟨q, hq, hqn⟩ := List.any_eq_true.mp h6
      have hqn : q.name = c := of_decide_eq_true hqn
      subst hqn
      have gC := (u.g.xok q hq).gl
      refine ⟨fun pins s σ H Q I t => ?_⟩
      refine (pt_truth (pe_callB (X := X.suite a ((a, oe) :: pn)) (call_isX u.hz u.hf) k1 (u.g.blt _ (by decide +kernel)) (by decide +kernel) (pa_cons u.name (pa_cons (pe_glob (X := X.suite a ((a, oe) :: pn)) (v := .ref (κ.ca q.name)) m1 gC rfl m2) pa_nil rfl) rfl) k3 k2 rfl rfl) (plain_true rfl)).run pins s σ H Q I ?_
      obtain ⟨x, ρ, h, b, st, ev, q2⟩ := t
      obtain ⟨ec, dx, ffs, rfl, ed, rs, nm⟩ := st.r
      obtain ⟨r, hr, hrn, hb⟩ := tb_ok h7 ev
      refine ⟨.ref a, st.nm, (κ.ca x.cls), (κ.ca q.name), dx, ffs, b, rfl, ec, rfl, ed, ?_, ?_, b, rfl, q2⟩
      · show ExcC X.K _
        rw [← hrn]
        exact (u.g.xok r hr).xi
      · show PySem.W.kitOne X.K _ _ = _
        rw [← hrn, (u.g.xok r hr).kit q hq, hb]
    · cases hl
  | .not_ c, e, hl => by
    unfold lkHQ at hl
    split at hl
    · refine ⟨fun pins s σ H Q I t => (pt_not (lkHQ_ok u c _ hl)).run pins s σ H Q I ?_⟩
      obtain ⟨x, ρ, h, b, st, ev, q⟩ := t
      obtain ⟨k, e1, rfl⟩ := Option.map_eq_some_iff.mp (show (evHQ x c).map (fun b => !b) = some b from ev)
      exact ⟨x, ρ, h, k, st, e1, q⟩
    · cases hl
  | .and_ es, e, hl => by
    unfold lkHQ at hl
    split at hl
    · rename_i es' p
      rw [Bool.and_eq_true] at hl
      refine ⟨fun pins s σ H Q I t => (lkHQs_ok u es es' hl.1 (by cases es with | nil => cases hl.2 | cons _ _ => intro z; cases z)).pt.run pins s σ H Q I t⟩
    · cases hl
theorem lkHQs_ok (u : Su κ G C fs N sc fn W X n i a oe cls d) {pos : Pos} : ∀ (t : List HQ) (e : List Expr), lkHQs sc κ.xcs n t e = true → t ≠ [] → PW (X.suite a ((a, oe) :: pn)) (.BoolOp .And e pos) (fun σ H Q => ∃ x ρ h b, StH κ i a cls d x ρ h σ H ∧ evHQs x t = some b ∧ Q b H)
  | [], e, hl, hn => absurd rfl hn
  | [c], e, hl, _ => by
    unfold lkHQs at hl
    split at hl
    · rename_i y ys
      rw [Bool.and_eq_true] at hl
      cases ys with
      | nil =>
        refine PW.imp (pw_and1 (lkHQ_ok u c y hl.1)) fun σ H Q t => ?_
        obtain ⟨x, ρ, h, b, st, ev, q⟩ := t
        obtain ⟨k, e1, e2⟩ := Option.bind_eq_some_iff.mp (show (evHQ x c).bind (fun k => if k then evHQs x [] else some false) = some b from ev)
        refine ⟨x, ρ, h, k, st, e1, ?_⟩
        cases k with
        | true => rw [if_pos rfl] at e2; cases e2; exact q
        | false => rw [if_neg Bool.false_ne_true] at e2; cases e2; exact q
      | cons z zs => have := hl.2; unfold lkHQs at this; cases this
    · cases hl
  | c :: c2 :: cs, e, hl, _ => by
    unfold lkHQs at hl
    split at hl
    · rename_i y ys
      rw [Bool.and_eq_true] at hl
      cases ys with
      | nil => have := hl.2; unfold lkHQs at this; cases this
      | cons z zs =>
        refine PW.imp (pw_and (lkHQ_ok u c y hl.1) (lkHQs_ok u (c2 :: cs) (z :: zs) hl.2 (fun w => nomatch w))) fun σ H Q t => ?_
        obtain ⟨x, ρ, h, b, st, ev, q⟩ := t
        obtain ⟨k, e1, e2⟩ := Option.bind_eq_some_iff.mp (show (evHQ x c).bind (fun k => if k then evHQs x (c2 :: cs) else some false) = some b from ev)
        refine ⟨x, ρ, h, k, st, e1, ?_⟩
        cases k with
        | true => rw [if_pos rfl] at e2 ⊢; exact ⟨x, ρ, h, b, st, e2, q⟩
        | false => rw [if_neg Bool.false_ne_true] at e2 ⊢; cases e2; exact q
    · cases hl
end
theorem lkA_ok (u : Su κ G C fs N sc fn W X n i a oe cls d) : ∀ (t : HA) (e : Expr), lkA sc κ.xcs n t e = true → PE (X.suite a ((a, oe) :: pn)) e (fun σ H Q => ∃ x ρ h y, StH κ i a cls d x ρ h σ H ∧ evA x t = some y ∧ ∀ v, Rep κ ρ H y v → Q v H)
  | .str s, e, hl => by
    unfold lkA at hl
    split at hl
    · have e := of_decide_eq_true hl
      subst e
      refine PE.imp pe_str fun σ H Q t => ?_
      obtain ⟨x, ρ, h, y, st, ev, q⟩ := t
      cases ev
      exact q _ rfl
    · cases hl
  | .int s, e, hl => by
    unfold lkA at hl
    split at hl
    · have e := eq_of_beq hl
      subst e
      refine PE.imp pe_int fun σ H Q t => ?_
      obtain ⟨x, ρ, h, y, st, ev, q⟩ := t
      cases ev
      exact q _ rfl
    · cases hl
  | .bl s, e, hl => by
    unfold lkA at hl
    split at hl
    · have e := eq_of_beq hl
      subst e
      refine PE.imp pe_bl fun σ H Q t => ?_
      obtain ⟨x, ρ, h, y, st, ev, q⟩ := t
      cases ev
      exact q _ rfl
    · cases hl
  | .non, e, hl => by
    unfold lkA at hl
    split at hl
    · refine PE.imp pe_non fun σ H Q t => ?_
      obtain ⟨x, ρ, h, y, st, ev, q⟩ := t
      cases ev
      exact q _ rfl
    · cases hl
  | .fld f, e, hl => by
    unfold lkA at hl
    split at hl
    · rename_i y p g p2
      simp only [Bool.and_eq_true, decide_eq_true_eq] at hl
      obtain ⟨⟨rfl, rfl⟩, h3⟩ := hl
      obtain ⟨r0, hr0, hrf⟩ := List.any_eq_true.mp h3
      have hrf : f ∈ r0.fields := of_decide_eq_true hrf
      refine ⟨fun pins s σ H Q I t => ?_⟩
      obtain ⟨x, ρ, h, y, st, ev, q⟩ := t
      obtain ⟨rfl, dx, ffs, rfl, ed, rs, nm⟩ := st.r
      obtain ⟨r, hr, hrn⟩ := st.q
      have xf := (u.g.xok r hr).xf
      have fl := (u.g.xok r hr).fld r0 hr0 f hrf
      rw [hrn] at xf fl
      obtain ⟨v, e1, rv⟩ := lookup_rep nm rs ev
      exact (pe_xf (X := X) (pn := pn) (C := κ.ca x.cls) (cls := .ref (κ.ca x.cls)) (d := some dx) xf fl u.hz u.hf u.name (attr_base rfl)).run pins s σ H Q I ⟨.ref a, st.nm, rfl, rfl, dx, ffs, v, rfl, ed, e1, q v rv⟩
    · cases hl
  | .ite c ta tb, e, hl => by
    unfold lkA at hl
    split at hl
    · simp only [Bool.and_eq_true] at hl
      refine PE.imp (pe_ifExp (lkHQ_ok u c _ hl.1.1) (lkA_ok u ta _ hl.1.2) (lkA_ok u tb _ hl.2)) fun σ H Q t => ?_
      obtain ⟨x, ρ, h, y, st, ev, q⟩ := t
      obtain ⟨k, e1, e2⟩ := Option.bind_eq_some_iff.mp (show (evHQ x c).bind (fun k => if k then evA x ta else evA x tb) = some y from ev)
      refine ⟨x, ρ, h, k, st, e1, ?_⟩
      cases k with
      | true => rw [if_pos rfl] at e2 ⊢; exact ⟨x, ρ, h, y, st, e2, q⟩
      | false => rw [if_neg Bool.false_ne_true] at e2 ⊢; exact ⟨x, ρ, h, y, st, e2, q⟩
    · cases hl
theorem lkAl_ok (u : Su κ G C fs N sc fn W X n i a oe cls d) : ∀ (t : List HA) (e : List Expr), lkAl sc κ.xcs n t e = true → PA (X.suite a ((a, oe) :: pn)) e (fun σ H Q => ∃ x ρ h ys, StH κ i a cls d x ρ h σ H ∧ evAl x t = some ys ∧ ∀ vs, Reps κ ρ H ys vs → Q vs H)
  | [], e, hl => by
    cases e with
    | nil =>
      refine PA.imp pa_nil fun σ H Q t => ?_
      obtain ⟨x, ρ, h, ys, st, ev, q⟩ := t
      cases ev
      exact q _ .nil
    | cons _ _ => cases hl
  | c :: cs, e, hl => by
    unfold lkAl at hl
    split at hl
    · simp only [Bool.and_eq_true, Bool.not_eq_true'] at hl
      refine PA.imp (pa_cons (lkA_ok u c _ hl.1.1) (lkAl_ok u cs _ hl.1.2) (star_cons hl.2)) fun σ H Q t => ?_
      obtain ⟨x, ρ, h, ys, st, ev, q⟩ := t
      obtain ⟨y, e1, e2⟩ := Option.bind_eq_some_iff.mp (show (evA x c).bind (fun d => (evAl x cs).map fun ds => d :: ds) = some ys from ev)
      obtain ⟨zs, e3, rfl⟩ := Option.map_eq_some_iff.mp e2
      exact ⟨x, ρ, h, y, st, e1, fun v rv => ⟨x, ρ, h, zs, st, e3, fun vs rvs => q _ (.cons rv rvs)⟩⟩
    · cases hl
theorem lkHR_ok (u : Su κ G C fs N sc fn W X n i a oe cls d) (t : HR) (e : Expr) (hl : lkHR sc κ.xcs n t e = true) : PE (X.suite a ((a, oe) :: pn)) e (fun σ H Q => ∃ x ρ h y, StH κ i a cls d x ρ h σ H ∧ evHR x t = some y ∧ ∀ v H', Ext ρ ρ H H' → Sim κ ρ h H' → Rep κ ρ H' y v → Q v H') := by
  cases t with
  | a c =>
    refine PE.imp (lkA_ok u c e hl) fun σ H Q t => ?_
    obtain ⟨x, ρ, h, y, st, ev, q⟩ := t
    exact ⟨x, ρ, h, y, st, ev, fun v rv => q v H .refl st.S rv⟩
  | t cs =>
    simp only [lkHR] at hl
    split at hl
    · refine PE.imp (pe_tup (lkAl_ok u cs _ hl)) fun σ H Q t => ?_
      obtain ⟨x, ρ, h, y, st, ev, q⟩ := t
      obtain ⟨ds, e1, e2⟩ := Option.bind_eq_some_iff.mp (show (evAl x cs).bind (fun ds => if ds.length ≤ 100 then some (.tup ds) else none) = some y from ev)
      split at e2
      · rename_i hle
        cases e2
        refine ⟨x, ρ, h, ds, st, e1, fun vs rvs => ⟨by rw [← rvs.length, sizeLine_eq]; omega, fun p np => q _ _ (.alloc np) (st.S.alloc np) ⟨p, vs, rfl, .of upd_same, rvs.mono (.alloc np)⟩⟩⟩
      · cases e2
    · cases hl
theorem lkHS_ok (u : Su κ G C fs N sc fn W X n i a oe cls d) : ∀ (t : List HS) (ss : List Stmt), lkHS sc κ.xcs n t ss = true → PSs (X.suite a ((a, oe) :: pn)) ss (fun D σ H => ∃ x ρ h sd, StH κ i a cls d x ρ h σ H ∧ SimS κ ρ H sd σ ∧ PostS κ ρ H (evHS x t sd h) D WF)
  | [], ss, hl => by
    cases ss with
    | nil =>
      refine PSs.imp pss_nil fun D σ H t => ?_
      obtain ⟨x, ρ, h, sd, st, ss, p⟩ := t
      exact p ρ H σ .refl st.S ss
    | cons _ _ => cases hl
  | .ret r :: k, ss, hl => by
    unfold lkHS at hl
    split at hl
    · rw [Bool.and_eq_true] at hl
      refine PSs.imp (pss_cons (ps_ret (lkHR_ok u r _ hl.1)) pss_nil) fun D σ H t => ?_
      obtain ⟨x, ρ, h, sd, st, ss, p⟩ := t
      unfold evHS at p
      split at p
      · rename_i y e1
        exact ⟨x, ρ, h, y, st, e1, fun v H' ex S rv => p ρ H' v ex S rv⟩
      · exact p.elim
    · cases hl
  | .ifr c r :: k, ss, hl => by
    unfold lkHS at hl
    split at hl
    · simp only [Bool.and_eq_true] at hl
      refine PSs.imp (pss_cons (ps_if (lkHQ_ok u c _ hl.1.1) (pss_cons (ps_ret (lkHR_ok u r _ hl.1.2)) pss_nil) pss_nil) (lkHS_ok u k _ hl.2)) fun D σ H t => ?_
      obtain ⟨x, ρ, h, sd, st, ss, p⟩ := t
      unfold evHS at p
      split at p
      · rename_i b e1
        refine ⟨x, ρ, h, b, st, e1, ?_⟩
        cases b with
        | true =>
          rw [if_pos rfl] at p ⊢
          split at p
          · rename_i y e2
            exact ⟨x, ρ, h, y, st, e2, fun v H' ex S rv => p ρ H' v ex S rv⟩
          · exact p.elim
        | false =>
          rw [if_neg Bool.false_ne_true] at p ⊢
          exact ⟨x, ρ, h, sd, st, ss, p⟩
      · exact p.elim
    · cases hl
/-! ### try: .. except C as n: .. -/
theorem evHS_cases (x : Xn) : ∀ (t : List HS) (sd : Sd) (h : Hd), evHS x t sd h = .nx sd h ∨ (∃ d, evHS x t sd h = .ret d h) ∨ evHS x t sd h = .no
  | [], sd, h => .inl rfl
  | .ret r :: k, sd, h => by
    unfold evHS
    split
    · exact .inr (.inl ⟨_, rfl⟩)
    · exact .inr (.inr rfl)
  | .ifr c r :: k, sd, h => by
    unfold evHS
    split
    · split
      · split
        · exact .inr (.inl ⟨_, rfl⟩)
        · exact .inr (.inr rfl)
      · exact evHS_cases x k sd h
    · exact .inr (.inr rfl)
theorem SimS.hole {ρ : List Addr} {H : Hp} {sd : Sd} {σ : L2.St} (q : SimS κ ρ H sd σ) (i : Nat) (o : Option V) : SimS κ ρ H (sd.set i none) (σ.set i o) := by
  refine ⟨by simp [q.1], fun j e he => ?_⟩
  by_cases hj : i = j
  · subst hj
    rw [List.getElem?_set_self'] at he
    cases z : sd[i]? <;> simp [z] at he
  · rw [List.getElem?_set_ne hj] at he ⊢
    exact q.2 j e he
theorem set_set_none {sd : Sd} {i : Nat} : (sd.set i none).set i none = sd.set i none := by simp
theorem g_try (g : Good κ G C fs N sc fn W X) (hst : X.stack = X.env :: X.outer) (hfr : X.env.frame = some X.env.locals) {q : XC} (hq : q ∈ κ.xcs) {x n : Str} {np pos pos' : Pos} {i : Nat} {tb : List (String × Bool)} {hs : List HS} {body suite : List Stmt} {b₀ : Stmt} {evb : Sd → Hd → RS}
    (hx : x = Str.ofString q.name) (h1 : glB sc x = true) (hi : N[i]? = some n) (hln : sc.names.lookup n = some .local) (d1 : (n == ("__debug__" : Str)) = false) (d2 : (n == ("__classdict__" : Str)) = false) (htb : tbB κ.xcs q.name tb = true)
    (hbody : ∀ (W' : WX) (X' : Cx), Good κ G C fs N sc fn W' X' → X'.stack = X'.env :: X'.outer → X'.env.frame = some X'.env.locals → PassesOwn (model X'.prog X'.w) X'.A X'.env X'.xe → PSsv κ W' X' body evb)
    (hsu : lkHS sc κ.xcs n hs (b₀ :: suite) = true) :
    PSv κ W X (.Try body [.ExceptHandler (some (.Name x np)) (some n) (b₀ :: suite) pos'] [] [] pos) (fun s h => tryD (evb s h) i tb hs) := by
  subst hx
  obtain ⟨g1, g2, g3⟩ := glB_gl g h1
  have hv : visB sc n = true := by unfold visB; rw [hln]
  refine PS.imp (ps_try_as (c := .ref (κ.ca q.name)) (ts := fun a cls d D σ H => ∃ x ρ h sd, StH κ i a cls d x ρ h σ H ∧ SimS κ ρ H sd σ ∧ PostS κ ρ H (evHS x hs sd h) D WF) (tb := fun W' => tS κ W' evb) hst hfr g.nd (by rw [g.N]; exact hi) (by show X.env.scope.names.lookup n = _; rw [g.sc]; exact hln) ⟨g1, g2, .inl (g.xok q hq).gl⟩ g.tk
    (fun W' pn xe tk ho => hbody W' (X.tr pn xe) { K := g.K, calm := g.calm, nd := g.nd, N := g.N, sc := g.sc, fn := g.fn, un := g.un, blt := g.blt, glb := g.glb, fns := g.fns, kfns := g.kfns, room := g.room, tk := tk, xok := g.xok, pass := fun σ => passAt tk σ } hst hfr ho)
    (fun a oe cls d pn hz hf => lkHS_ok (pn := pn) ⟨g, hz, hf, hi, hv, d1, d2⟩ hs _ hsu)) fun D σ H t => ?_
  obtain ⟨ρ, sd, h, ss, S, p⟩ := t
  have p : PostS κ ρ H (tryD (evb sd h) i tb hs) D W := p
  refine ⟨ρ, sd, h, ss, S, ?_⟩
  cases e : evb sd h with
  | nx _ _ => rw [e] at p; exact p
  | ret _ _ => rw [e] at p; exact p
  | bk _ _ => rw [e] at p; exact p
  | ct _ _ => rw [e] at p; exact p
  | no => rw [e] at p; exact p.elim
  | err y s1 h1 =>
    rw [e] at p
    unfold tryD at p
    intro ρ' H' σ' c dd ex S' ss' xr
    dsimp only at p
    cases el : tb.lookup y.cls with
    | none => rw [el] at p; exact p.elim
    | some b =>
      rw [el] at p
      obtain ⟨r, hr, hrn, hb⟩ := tb_ok htb el
      have hq' := g.xok q hq
      refine ⟨b, ?_, fun z a na => ?_, fun z => ?_⟩
      · rw [xr.1, ← hrn]
        exact PySem.W.exm_ref hq'.xi.hs hq'.xi.hd hq'.ty (by rw [(g.xok r hr).sub q hq, hb])
      · subst z
        simp only [if_true] at p
        by_cases hil : i < s1.length
        rotate_left
        · rw [if_neg hil] at p; exact p.elim
        rw [if_pos hil] at p
        have nm : (σ'.set i (some (V.ref a)))[i]? = some (some (.ref a)) := by
          rw [List.getElem?_set_self (by rw [← ss'.1]; exact hil)]
        refine ⟨y, ρ', h1, s1.set i none, ⟨nm, S', xr, r, hr, hrn⟩, ss'.hole i _, ?_⟩
        rcases evHS_cases y hs (s1.set i none) h1 with e2 | ⟨d2, e2⟩ | e2
        · rw [e2] at p ⊢
          exact fun ρ2 H2 σ2 x2 S2 ss2 => p ρ2 H2 _ (ex.trans x2) S2 (by have := ss2.hole i none; rw [set_set_none] at this; exact this)
        · rw [e2] at p ⊢
          exact fun ρ2 H2 v x2 S2 r2 => p ρ2 H2 v (ex.trans x2) S2 r2
        · rw [e2] at p
          exact p.elim
      · subst z
        simp only [Bool.false_eq_true, if_false] at p
        exact p ρ' H' σ' c dd ex S' ss' xr
end
end Ev

set_option Elab.async false
set_option linter.all false
set_option maxRecDepth 100000
namespace Ev
open PySem PySem.Spec PyProof.Rows L2

/-! ### the look: a text of ours stands for the text given -/
def locB (sc : Scope) (fn : Str → Bool) (y : Str) : Bool := match sc.names.lookup y with
  | some .local => true
  | some .cell => fn y
  | _ => false
theorem locB_ok {sc : Scope} {fn : Str → Bool} {y : Str} (h : locB sc fn y = true) : sc.names.lookup y = some .local ∨ (sc.names.lookup y = some .cell ∧ fn y = true) := by
  unfold locB at h
  split at h
  · exact .inl (by assumption)
  · exact .inr ⟨by assumption, h⟩
  · cases h
section
variable (N : List Str) (fs : List String) (kf : List KC)
mutual
def okT (sc : Scope) (fn : Str → Bool) : T → Expr → Bool
  | .v i, x => match x with
    | .Name y _ => decide (N[i]? = some y) && locB sc fn y
    | _ => false
  | .t ts, x => match x with
    | .Tuple es _ _ => okTs sc fn ts es
    | _ => false
def okTs (sc : Scope) (fn : Str → Bool) : List T → List Expr → Bool
  | [], xs => xs.isEmpty
  | t :: ts, xs => match xs with
    | e :: es => !starX e && okT sc fn t e && okTs sc fn ts es
    | [] => false
end
mutual
def slots : T → List Nat
  | .v i => [i]
  | .t ts => slotss ts
def slotss : List T → List Nat
  | [] => []
  | t :: ts => slots t ++ slotss ts
end
def ownP (own : List Nat) : List (Str × Nat) := own.map fun i => (N.getD i ⟨#[]⟩, i)
abbrev blkFn (scope : Scope) : Str → Bool := fun x => scope.names.lookup x == some .cell
/-- the looks at an expression, by the modes of its evaluation -/
abbrev LkE := Scope → (Str → Bool) → Expr → Bool
structure Lk where
  v : LkE
  t : LkE
  i : Scope → (Str → Bool) → Expr → Expr → Bool
  p : Scope → (Str → Bool) → Option Expr → Bool
def noL : LkE := fun _ _ _ => false
def mkL (v : LkE) : Lk where
  v := v
  t := fun sc fn x => v sc fn x && plainT x
  i := fun sc fn _ x => v sc fn x
  p := fun sc fn x => match x with
    | some y => v sc fn y && !starX y
    | none => false
def lkAll : List Lk → Scope → (Str → Bool) → List Expr → Bool
  | [], _, _, xs => xs.isEmpty
  | l :: ls, sc, fn, xs => match xs with
    | y :: ys => !starX y && l.v sc fn y && lkAll ls sc fn ys
    | [] => false
def lkKw : List Lk → List String → Scope → (Str → Bool) → List Keyword → Bool
  | [], ks, _, _, xs => ks.isEmpty && xs.isEmpty
  | l :: ls, ks, sc, fn, xs => match ks, xs with
    | k :: ks, ⟨some y, e, _⟩ :: xs => decide (y = Str.ofString k) && l.v sc fn e && lkKw ls ks sc fn xs
    | _, _ => false
def lkAllT : List Lk → Scope → (Str → Bool) → List Expr → Bool
  | [], _, _, xs => xs.isEmpty
  | l :: ls, sc, fn, xs => match xs with
    | y :: ys => l.t sc fn y && lkAllT ls sc fn ys
    | [] => false
def lkIfs : List Lk → Scope → (Str → Bool) → List Expr → Bool
  | [], _, _, xs => xs.isEmpty
  | [l], sc, fn, xs => match xs with
    | [y] => l.t sc fn y
    | _ => false
  | _, _, _, _ => false
mutual
def lk : E → Lk
  | .var i => mkL fun sc fn x => match x with
    | .Name y _ => decide (N[i]? = some y) && visB sc y && !(y == ("__debug__" : Str)) && !(y == ("__classdict__" : Str))
    | _ => false
  | .int i => mkL fun sc fn x => match x with
    | .Constant (.int j) _ _ => i == j
    | _ => false
  | .bl i => mkL fun sc fn x => match x with
    | .Constant (.bool j) _ _ => i == j
    | _ => false
  | .non => mkL fun sc fn x => match x with
    | .Constant .none _ _ => true
    | _ => false
  | .str i => mkL fun sc fn x => match x with
    | .Constant (.str j) _ _ => decide (i = j)
    | _ => false
  | .glob i => mkL fun sc fn x => match x with
    | .Name y _ => decide (i = y) && glB sc y
    | _ => false
  | .bin op a b => mkL fun sc fn x => match x with
    | .BinOp a' op' b' _ => decide (op = op') && (lk a).v sc fn a' && (lk b).v sc fn b'
    | _ => false
  | .neg a => mkL fun sc fn x => match x with
    | .UnaryOp .USub a' _ => (lk a).v sc fn a'
    | _ => false
  | .cmp op a b =>
    let l : LkE := fun sc fn x => match x with
      | .Compare a' [op'] [b'] _ => decide (op = op') && (lk a).v sc fn a' && (lk b).v sc fn b' && !setX b'
      | _ => false
    { mkL l with t := l }
  | .chain op1 op2 a b c =>
    let l : LkE := fun sc fn x => match x with
      | .Compare a' [op', op2'] [b', c'] _ => decide (op1 = op') && decide (op2 = op2') && (lk a).v sc fn a' && (lk b).v sc fn b' && (lk c).v sc fn c' && !setX c'
      | _ => false
    { mkL l with t := l }
  | .and_ es => { mkL (fun sc fn x => match x with
      | .BoolOp .And es' _ => lkAll (lks es) sc fn es' && !es.isEmpty
      | _ => false) with
      t := fun sc fn x => match x with
      | .BoolOp .And es' _ => lkAllT (lks es) sc fn es' && !es.isEmpty
      | _ => false }
  | .or_ es => { mkL (fun sc fn x => match x with
      | .BoolOp .Or es' _ => lkAll (lks es) sc fn es' && !es.isEmpty
      | _ => false) with
      t := fun sc fn x => match x with
      | .BoolOp .Or es' _ => lkAllT (lks es) sc fn es' && !es.isEmpty
      | _ => false }
  | .not_ a => { mkL (fun sc fn x => match x with
      | .UnaryOp .Not a' _ => (lk a).v sc fn a'
      | _ => false) with
      t := fun sc fn x => match x with
      | .UnaryOp .Not a' _ => (lk a).t sc fn a'
      | _ => false }
  | .ite c a b => mkL fun sc fn x => match x with
    | .IfExp c' a' b' _ => (lk c).t sc fn c' && (lk a).v sc fn a' && (lk b).v sc fn b'
    | _ => false
  | .tup es => mkL fun sc fn x => match x with
    | .Tuple es' _ _ => lkAll (lks es) sc fn es'
    | _ => false
  | .lst es => mkL fun sc fn x => match x with
    | .List es' _ => lkAll (lks es) sc fn es'
    | _ => false
  | .ix a b => mkL fun sc fn x => match x with
    | .Subscript a' b' _ => (lk a).v sc fn a' && (lk b).v sc fn b' && !sliceX b'
    | _ => false
  | .sl a lo hi => mkL fun sc fn x => match x with
    | .Subscript a' (.Slice lo' hi' none _) _ => (lk a).v sc fn a' && (lk lo).p sc fn lo' && (lk hi).p sc fn hi'
    | _ => false
  | .hole => { mkL noL with p := fun _ _ x => x.isNone }
  | .call f es => mkL fun sc fn x => match x with
    | .Call (.Name y _) es' [] _ => decide (y = Str.ofString f) && decide (f ∈ fs) && glB sc y && lkAll (lks es) sc fn es'
    | _ => false
  | .callk f ks pm es kes => mkL fun sc fn x => match x with
    | .Call (.Name y _) es' kws _ => decide (y = Str.ofString f) && decide ((⟨f, es.length, ks, pm⟩ : KC) ∈ kf) && glB sc y && lkAll (lks es) sc fn es' && lkKw (lks kes) ks sc fn kws
    | _ => false
  | .rgs b a => mkL fun sc fn x => match x with
    | .Call (.Name y _) [.Call (.Name z _) [a'] [] _] [] _ => decide (y = rgsName b) && decide (z = "range") && glB sc y && glB sc z && (lk a).v sc fn a' && !starX a'
    | _ => false
  | .rgs2 b a c => mkL fun sc fn x => match x with
    | .Call (.Name y _) [.Call (.Name z _) [a', c'] [] _] [] _ => decide (y = rgsName b) && decide (z = "range") && glB sc y && glB sc z && (lk a).v sc fn a' && (lk c).v sc fn c' && !starX a' && !starX c'
    | _ => false
  | .bif b es => mkL fun sc fn x => match x with
    | .Call (.Name y _) es' [] _ => decide (y = bifName b) && glB sc y && lkAll (lks es) sc fn es' && !es.isEmpty
    | _ => false
  | .seq b a => mkL fun sc fn x => match x with
    | .Call (.Name y _) [a'] [] _ => decide (y = sqName b) && glB sc y && (lk a).v sc fn a' && !starX a'
    | _ => false
  | .isi a ty => mkL fun sc fn x => match x with
    | .Call (.Name y _) [a', .Name z _] [] _ => decide (y = "isinstance") && decide (z = Str.ofString (tyName ty)) && glB sc y && glB sc z && (lk a).v sc fn a' && !starX a'
    | _ => false
  | .pop a => mkL fun sc fn x => match x with
    | .Call (.Attribute a' y ap) [] [] cp => decide (y = "pop") && (lk a).v sc fn a' && !callX a' && (ap.endLine == cp.line)
    | _ => false
  | .popAt a b => mkL fun sc fn x => match x with
    | .Call (.Attribute a' y ap) [b'] [] cp => decide (y = "pop") && (lk a).v sc fn a' && (lk b).v sc fn b' && !callX a' && !starX b' && (ap.endLine == cp.line)
    | _ => false
  | .app a b => mkL fun sc fn x => match x with
    | .Call (.Attribute a' y ap) [b'] [] cp => decide (y = "append") && (lk a).v sc fn a' && (lk b).v sc fn b' && !callX a' && !starX b' && (ap.endLine == cp.line)
    | _ => false
  | .rev a => mkL fun sc fn x => match x with
    | .Subscript a' (.Slice none none (some (.UnaryOp .USub (.Constant (.int 1) _ _) _)) _) _ => (lk a).v sc fn a'
    | _ => false
  | .ext a b => mkL fun sc fn x => match x with
    | .Call (.Attribute a' y ap) [b'] [] cp => decide (y = "extend") && (lk a).v sc fn a' && (lk b).v sc fn b' && !callX a' && !starX b' && (ap.endLine == cp.line)
    | _ => false
  | .comp elt tg it ifs own => mkL fun sc fn x => match x with
    | .ListComp elt' [⟨tg', it', ifs', as⟩] scope _ => decide (as = 0) && blkC N sc scope (ownP N own) && (lk it).i sc fn tg' it' && okT N (relS scope sc) (blkFn scope) tg tg' && lkIfs (lks ifs) (relS scope sc) (blkFn scope) ifs' && (lk elt).v (relS scope sc) (blkFn scope) elt' && !setX it' && (slots tg).all fun i => decide (i ∈ own)
    | _ => false
  | .comp2 .. => mkL noL
  | .rng1 a => { mkL noL with i := fun sc fn _ x => match x with
    | .Call (.Name y _) [a'] [] _ => decide (y = "range") && glB sc y && (lk a).v sc fn a' && !starX a'
    | _ => false }
  | .rng2 a b => { mkL noL with i := fun sc fn _ x => match x with
    | .Call (.Name y _) [a', b'] [] _ => decide (y = "range") && glB sc y && (lk a).v sc fn a' && (lk b).v sc fn b' && !starX a' && !starX b'
    | _ => false }
  | .rng3 a b c => { mkL noL with i := fun sc fn _ x => match x with
    | .Call (.Name y _) [a', b', c'] [] _ => decide (y = "range") && glB sc y && (lk a).v sc fn a' && (lk b).v sc fn b' && (lk c).v sc fn c' && !starX a' && !starX b' && !starX c'
    | _ => false }
  | .enum a => { mkL noL with i := fun sc fn tg x => match tg, x with
    | .Tuple _ _ _, .Call (.Name y _) [a'] [] _ => decide (y = "enumerate") && glB sc y && (lk a).v sc fn a' && !starX a'
    | _, _ => false }
  | .zip a b => { mkL noL with i := fun sc fn tg x => match tg, x with
    | .Tuple _ _ _, .Call (.Name y _) [a', b'] [] _ => decide (y = "zip") && glB sc y && (lk a).v sc fn a' && (lk b).v sc fn b' && !starX a' && !starX b'
    | _, _ => false }
def lks : List E → List Lk
  | [] => []
  | e :: es => lk e :: lks es
end
end

/-! ### the look is right -/
section
variable {κ : Kx} {G : Str → Option D} {C : String → List D → Hd → R D} {fs : List String} {N : List Str}
structure OkL (κ : Kx) (G : Str → Option D) (C : String → List D → Hd → R D) (fs : List String) (N : List Str) (l : Lk) (m : M) : Prop where
  v : ∀ sc fn W X x, Good κ G C fs N sc fn W X → l.v sc fn x = true → PV κ W X x m.v
  t : ∀ sc fn W X x, Good κ G C fs N sc fn W X → l.t sc fn x = true → PB κ W X x m.t
  q : ∀ sc fn W X x, Good κ G C fs N sc fn W X → l.v sc fn x = true → PQ κ W X x m.q
  i : ∀ sc fn W X tg x, Good κ G C fs N sc fn W X → l.i sc fn tg x = true → PIv κ W X tg x m.i
  p : ∀ sc fn W X x, Good κ G C fs N sc fn W X → l.p sc fn x = true → PP κ W X x m.p
theorem OkL.mk' {v : LkE} {m : Sd → Hd → R D} (h : ∀ sc fn W X x, Good κ G C fs N sc fn W X → v sc fn x = true → PV κ W X x m) : OkL κ G C fs N (mkL v) (mkM m) where
  v := h
  t := fun sc fn W X x g k => by
    simp only [mkL, Bool.and_eq_true] at k
    exact g_truth g (h _ _ _ _ _ g k.1) k.2
  q := fun sc fn W X x g k => g_q (h _ _ _ _ _ g k)
  i := fun sc fn W X tg x g k => g_it g (h _ _ _ _ _ g k)
  p := fun sc fn W X x g k => by
    cases x with
    | none => cases k
    | some y =>
      simp only [mkL, Bool.and_eq_true] at k
      exact g_part (h _ _ _ _ _ g k.1)
theorem OkL.no {m : M} {l : Lk} (hv : l.v = noL) (hi : ∀ sc fn W X tg x, Good κ G C fs N sc fn W X → l.i sc fn tg x = true → PIv κ W X tg x m.i) (ht : ∀ sc fn x, l.t sc fn x = false) (hp : ∀ sc fn W X x, Good κ G C fs N sc fn W X → l.p sc fn x = true → PP κ W X x m.p) : OkL κ G C fs N l m where
  v := fun sc fn W X x g k => by rw [hv] at k; cases k
  t := fun sc fn W X x g k => by rw [ht] at k; cases k
  q := fun sc fn W X x g k => by rw [hv] at k; cases k
  i := hi
  p := hp
inductive OkLs (κ : Kx) (G : Str → Option D) (C : String → List D → Hd → R D) (fs : List String) (N : List Str) : List Lk → List M → Prop where
  | nil : OkLs κ G C fs N [] []
  | cons {l : Lk} {m : M} {ls : List Lk} {ms : List M} : OkL κ G C fs N l m → OkLs κ G C fs N ls ms → OkLs κ G C fs N (l :: ls) (m :: ms)
variable {sc : Scope} {fn : Str → Bool} {W : WX} {X : Cx} {ls : List Lk} {ms : List M}
theorem OkLs.all (k : OkLs κ G C fs N ls ms) (g : Good κ G C fs N sc fn W X) : ∀ {xs : List Expr}, lkAll ls sc fn xs = true → PVs κ W X xs (allV ms) ∧ xs.all (fun e => !starX e) = true := by
  induction k with
  | nil =>
    intro xs h
    cases xs with
    | nil => exact ⟨g_nil, rfl⟩
    | cons _ _ => cases h
  | cons k _ ih =>
    intro xs h
    cases xs with
    | nil => cases h
    | cons y ys =>
      simp only [lkAll, Bool.and_eq_true, Bool.not_eq_true'] at h
      obtain ⟨h1, h2⟩ := ih h.2
      refine ⟨g_cons (k.v _ _ _ _ _ g h.1.2) h1 h.1.1, ?_⟩
      rw [List.all_cons, h.1.1, h2]
      rfl
theorem OkLs.kws (k : OkLs κ G C fs N ls ms) (g : Good κ G C fs N sc fn W X) : ∀ {ks : List String} {xs : List Keyword}, lkKw ls ks sc fn xs = true → PKs κ W X xs (allV ms) ∧ xs.map (·.arg) = ks.map (fun k => some (Str.ofString k)) := by
  induction k with
  | nil =>
    intro ks xs h
    simp only [lkKw, Bool.and_eq_true, List.isEmpty_iff] at h
    obtain ⟨rfl, rfl⟩ := h
    exact ⟨g_knil, rfl⟩
  | cons k _ ih =>
    intro ks xs h
    unfold lkKw at h
    split at h
    · simp only [Bool.and_eq_true, decide_eq_true_eq] at h
      obtain ⟨⟨rfl, h1⟩, h2⟩ := h
      obtain ⟨p, e⟩ := ih h2
      exact ⟨g_kcons (k.v _ _ _ _ _ g h1) p, by simp only [List.map_cons, e]⟩
    · cases h
theorem OkLs.len (k : OkLs κ G C fs N ls ms) : ls.length = ms.length := by
  induction k with
  | nil => rfl
  | cons _ _ ih => simp [ih]
theorem OkLs.andV (k : OkLs κ G C fs N ls ms) (g : Good κ G C fs N sc fn W X) {pos : Pos} : ∀ {xs : List Expr}, lkAll ls sc fn xs = true → ls ≠ [] → PV κ W X (.BoolOp .And xs pos) (Ev.andV ms) := by
  induction k with
  | nil => exact fun _ h => absurd rfl h
  | @cons l m ls ms k ks ih =>
    intro xs h _
    cases xs with
    | nil => cases h
    | cons y ys =>
      simp only [lkAll, Bool.and_eq_true, Bool.not_eq_true'] at h
      have h1 := k.v _ _ _ _ _ g h.1.2
      cases ks with
      | nil =>
        cases ys with
        | nil => exact g_one h1
        | cons _ _ => cases h.2
      | cons k2 ks2 =>
        cases ys with
        | nil => cases h.2
        | cons y2 ys => exact g_and h1 (ih h.2 (by simp))
theorem OkLs.orV (k : OkLs κ G C fs N ls ms) (g : Good κ G C fs N sc fn W X) {pos : Pos} : ∀ {xs : List Expr}, lkAll ls sc fn xs = true → ls ≠ [] → PV κ W X (.BoolOp .Or xs pos) (Ev.orV ms) := by
  induction k with
  | nil => exact fun _ h => absurd rfl h
  | @cons l m ls ms k ks ih =>
    intro xs h _
    cases xs with
    | nil => cases h
    | cons y ys =>
      simp only [lkAll, Bool.and_eq_true, Bool.not_eq_true'] at h
      have h1 := k.v _ _ _ _ _ g h.1.2
      cases ks with
      | nil =>
        cases ys with
        | nil => exact g_one h1
        | cons _ _ => cases h.2
      | cons k2 ks2 =>
        cases ys with
        | nil => cases h.2
        | cons y2 ys => exact g_or h1 (ih h.2 (by simp))
theorem OkLs.andT (k : OkLs κ G C fs N ls ms) (g : Good κ G C fs N sc fn W X) {pos : Pos} : ∀ {xs : List Expr}, lkAllT ls sc fn xs = true → ls ≠ [] → PBw κ W X (.BoolOp .And xs pos) (Ev.andT ms) := by
  induction k with
  | nil => exact fun _ h => absurd rfl h
  | @cons l m ls ms k ks ih =>
    intro xs h _
    cases xs with
    | nil => cases h
    | cons y ys =>
      simp only [lkAllT, Bool.and_eq_true] at h
      have h1 := k.t _ _ _ _ _ g h.1
      cases ks with
      | nil =>
        cases ys with
        | nil => exact g_oneA h1
        | cons _ _ => cases h.2
      | cons k2 ks2 =>
        cases ys with
        | nil => cases h.2
        | cons y2 ys => exact g_andT h1 (ih h.2 (by simp))
theorem OkLs.orT (k : OkLs κ G C fs N ls ms) (g : Good κ G C fs N sc fn W X) {pos : Pos} : ∀ {xs : List Expr}, lkAllT ls sc fn xs = true → ls ≠ [] → PBw κ W X (.BoolOp .Or xs pos) (Ev.orT ms) := by
  induction k with
  | nil => exact fun _ h => absurd rfl h
  | @cons l m ls ms k ks ih =>
    intro xs h _
    cases xs with
    | nil => cases h
    | cons y ys =>
      simp only [lkAllT, Bool.and_eq_true] at h
      have h1 := k.t _ _ _ _ _ g h.1
      cases ks with
      | nil =>
        cases ys with
        | nil => exact g_oneO h1
        | cons _ _ => cases h.2
      | cons k2 ks2 =>
        cases ys with
        | nil => cases h.2
        | cons y2 ys => exact g_orT h1 (ih h.2 (by simp))
theorem OkLs.ifs (k : OkLs κ G C fs N ls ms) (g : Good κ G C fs N sc fn W X) {xs : List Expr} (h : lkIfs ls sc fn xs = true) : PTs X xs (tE κ rB W (ifsT ms)) := by
  have yes : PTs X [] (tE κ rB W (fun _ h => R.ok true h)) := ⟨fun pins s σ H Q I t => by
    obtain ⟨ρ, sd, h, ss, S, p⟩ := t
    exact pts_nil.run pins s σ H Q I (p.here S rfl)⟩
  cases k with
  | nil =>
    cases xs with
    | nil => exact yes
    | cons _ _ => cases h
  | cons k ks =>
    cases ks with
    | nil =>
      cases xs with
      | nil => cases h
      | cons y ys =>
        cases ys with
        | nil => exact pts_one (k.t _ _ _ _ _ g h)
        | cons _ _ => cases h
    | cons _ _ => cases h
mutual
theorem okT_ok (g : Good κ G C fs N sc fn W X) : ∀ (t : T) (x : Expr), okT N sc fn t x = true → PG X x (tG κ (putT t) (slots t))
  | .v i, x, h => by
    cases x with
    | Name y p =>
      simp only [okT, Bool.and_eq_true, decide_eq_true_eq] at h
      exact g_tv g h.1 (locB_ok h.2)
    | _ => cases h
  | .t ts, x, h => by
    cases x with
    | Tuple es k p =>
      have h : okTs N sc fn ts es = true := h
      obtain ⟨h1, h2, h3⟩ := okTs_ok g ts es h
      exact g_tt g h1 h2 h3
    | _ => cases h
theorem okTs_ok (g : Good κ G C fs N sc fn W X) : ∀ (ts : List T) (xs : List Expr), okTs N sc fn ts xs = true → PGs X xs (tGs κ (putTs ts) (slotss ts)) ∧ xs.all (fun e => !starX e) = true ∧ ∀ ds s s', putTs ts ds s = some s' → ds.length = xs.length
  | [], xs, h => by
    cases xs with
    | nil => exact ⟨g_ts0, rfl, fun ds s s' e => by cases ds with | nil => rfl | cons _ _ => cases e⟩
    | cons _ _ => cases h
  | t :: ts, xs, h => by
    cases xs with
    | nil => cases h
    | cons y ys =>
      simp only [okTs, Bool.and_eq_true, Bool.not_eq_true'] at h
      obtain ⟨h1, h2, h3⟩ := okTs_ok g ts ys h.2
      refine ⟨g_ts (okT_ok g t y h.1.2) h1 h.1.1, by rw [List.all_cons, h.1.1, h2]; rfl, fun ds s s' e => ?_⟩
      cases ds with
      | nil => cases e
      | cons d ds =>
        obtain ⟨s1, e1, e2⟩ := Option.bind_eq_some_iff.mp e
        rw [List.length_cons, List.length_cons, h3 _ _ _ e2]
end
end
end Ev

set_option Elab.async false
set_option linter.all false
set_option maxRecDepth 100000
namespace Ev
open PySem PySem.Spec PyProof.Rows L2

section
variable {κ : Kx} {G : Str → Option D} {C : String → List D → Hd → R D} {fs : List String} {N : List Str}
theorem ownP_snd (own : List Nat) : (ownP N own).map (·.2) = own := by
  unfold ownP
  rw [List.map_map]
  exact List.map_id' own
theorem lks_nil {es : List E} (h : (!es.isEmpty) = true) : lks N fs κ.kfs es ≠ [] := by
  cases es with
  | nil => cases h
  | cons e es => intro z; cases z
theorem pb_of {W : WX} {X : Cx} {e : Expr} {ev : Sd → Hd → R Bool} (h : PBw κ W X e ev) : PB κ W X e ev := h.pt
set_option maxHeartbeats 1000000
mutual
theorem lk_ok : ∀ e : E, OkL κ G C fs N (lk N fs κ.kfs e) (evM G C e)
  | .var i => .mk' fun sc fn W X x g h => by
    split at h
    · simp only [Bool.and_eq_true, decide_eq_true_eq, Bool.not_eq_true'] at h
      exact g_var g h.1.1.1 h.1.1.2 h.1.2 h.2
    · cases h
  | .int i => .mk' fun sc fn W X x g h => by
    split at h
    · have e := eq_of_beq h
      subst e
      exact g_const pe_int fun _ _ => rfl
    · cases h
  | .bl b => .mk' fun sc fn W X x g h => by
    split at h
    · have e := eq_of_beq h
      subst e
      exact g_const pe_bl fun _ _ => rfl
    · cases h
  | .non => .mk' fun sc fn W X x g h => by
    split at h
    · exact g_const pe_non fun _ _ => rfl
    · cases h
  | .str z => .mk' fun sc fn W X x g h => by
    split at h
    · have e := of_decide_eq_true h
      subst e
      exact g_const pe_str fun _ _ => rfl
    · cases h
  | .glob z => .mk' fun sc fn W X x g h => by
    split at h
    · simp only [Bool.and_eq_true, decide_eq_true_eq] at h
      obtain ⟨e, h⟩ := h
      subst e
      exact g_glob g h
    · cases h
  | .bin op a b => .mk' fun sc fn W X x g h => by
    split at h
    · simp only [Bool.and_eq_true, decide_eq_true_eq] at h
      obtain ⟨⟨e, h1⟩, h2⟩ := h
      subst e
      exact g_bin g ((lk_ok a).v _ _ _ _ _ g h1) ((lk_ok b).v _ _ _ _ _ g h2)
    · cases h
  | .neg a => .mk' fun sc fn W X x g h => by
    split at h
    · exact g_neg ((lk_ok a).v _ _ _ _ _ g h)
    · cases h
  | .cmp op a b => by
    have base : ∀ sc fn W X x, Good κ G C fs N sc fn W X → (lk N fs κ.kfs (.cmp op a b)).v sc fn x = true → ∃ a' b' p, x = .Compare a' [op] [b'] p ∧ PV κ W X a' (evE G C a) ∧ PV κ W X b' (evE G C b) ∧ setX b' = false := fun sc fn W X x g h => by
      dsimp only [lk, mkL] at h
      split at h
      · simp only [Bool.and_eq_true, decide_eq_true_eq, Bool.not_eq_true'] at h
        obtain ⟨⟨⟨e, h1⟩, h2⟩, h3⟩ := h
        subst e
        exact ⟨_, _, _, rfl, (lk_ok a).v _ _ _ _ _ g h1, (lk_ok b).v _ _ _ _ _ g h2, h3⟩
      · cases h
    have m : OkL κ G C fs N (mkL (lk N fs κ.kfs (.cmp op a b)).v) (evM G C (.cmp op a b)) := .mk' fun sc fn W X x g h => by
      obtain ⟨a', b', p, rfl, h1, h2, h3⟩ := base sc fn W X x g h
      exact g_cmp g h1 h2 h3
    exact ⟨m.v, fun sc fn W X x g h => by
      obtain ⟨a', b', p, rfl, h1, h2, h3⟩ := base sc fn W X x g h
      exact g_cmpT g h1 h2 h3, m.q, m.i, m.p⟩
  | .chain op op' a b c => by
    have base : ∀ sc fn W X x, Good κ G C fs N sc fn W X → (lk N fs κ.kfs (.chain op op' a b c)).v sc fn x = true → ∃ a' b' c' p, x = .Compare a' [op, op'] [b', c'] p ∧ PV κ W X a' (evE G C a) ∧ PV κ W X b' (evE G C b) ∧ PV κ W X c' (evE G C c) ∧ setX c' = false := fun sc fn W X x g h => by
      dsimp only [lk, mkL] at h
      split at h
      · simp only [Bool.and_eq_true, decide_eq_true_eq, Bool.not_eq_true'] at h
        obtain ⟨⟨⟨⟨⟨e, e'⟩, h1⟩, h2⟩, h3⟩, h4⟩ := h
        subst e e'
        exact ⟨_, _, _, _, rfl, (lk_ok a).v _ _ _ _ _ g h1, (lk_ok b).v _ _ _ _ _ g h2, (lk_ok c).v _ _ _ _ _ g h3, h4⟩
      · cases h
    have m : OkL κ G C fs N (mkL (lk N fs κ.kfs (.chain op op' a b c)).v) (evM G C (.chain op op' a b c)) := .mk' fun sc fn W X x g h => by
      obtain ⟨a', b', c', p, rfl, h1, h2, h3, h4⟩ := base sc fn W X x g h
      exact g_chain g h1 h2 h3 h4
    exact ⟨m.v, fun sc fn W X x g h => by
      obtain ⟨a', b', c', p, rfl, h1, h2, h3, h4⟩ := base sc fn W X x g h
      exact g_chainT g h1 h2 h3 h4, m.q, m.i, m.p⟩
  | .and_ es => by
    have m : OkL κ G C fs N (mkL (lk N fs κ.kfs (.and_ es)).v) (mkM (andV (evMs G C es))) := .mk' fun sc fn W X x g h => by
      dsimp only [lk, mkL] at h
      split at h
      · simp only [Bool.and_eq_true] at h
        exact (lks_ok es).andV g h.1 (lks_nil h.2)
      · cases h
    exact ⟨m.v, fun sc fn W X x g h => by
      dsimp only [lk, mkL] at h
      split at h
      · simp only [Bool.and_eq_true] at h
        exact pb_of ((lks_ok es).andT g h.1 (lks_nil h.2))
      · exact absurd h (by decide), m.q, m.i, m.p⟩
  | .or_ es => by
    have m : OkL κ G C fs N (mkL (lk N fs κ.kfs (.or_ es)).v) (mkM (orV (evMs G C es))) := .mk' fun sc fn W X x g h => by
      dsimp only [lk, mkL] at h
      split at h
      · simp only [Bool.and_eq_true] at h
        exact (lks_ok es).orV g h.1 (lks_nil h.2)
      · cases h
    exact ⟨m.v, fun sc fn W X x g h => by
      dsimp only [lk, mkL] at h
      split at h
      · simp only [Bool.and_eq_true] at h
        exact pb_of ((lks_ok es).orT g h.1 (lks_nil h.2))
      · exact absurd h (by decide), m.q, m.i, m.p⟩
  | .not_ a => by
    have m : OkL κ G C fs N (mkL (lk N fs κ.kfs (.not_ a)).v) (mkM (evE G C (.not_ a))) := .mk' fun sc fn W X x g h => by
      dsimp only [lk, mkL] at h
      split at h
      · exact g_not ((lk_ok a).v _ _ _ _ _ g h)
      · cases h
    exact ⟨m.v, fun sc fn W X x g h => by
      dsimp only [lk, mkL] at h
      split at h
      · exact g_notT ((lk_ok a).t _ _ _ _ _ g h)
      · exact absurd h (by decide), m.q, m.i, m.p⟩
  | .ite c a b => .mk' fun sc fn W X x g h => by
    split at h
    · simp only [Bool.and_eq_true] at h
      exact g_ite ((lk_ok c).t _ _ _ _ _ g h.1.1) ((lk_ok a).v _ _ _ _ _ g h.1.2) ((lk_ok b).v _ _ _ _ _ g h.2)
    · cases h
  | .tup es => .mk' fun sc fn W X x g h => by
    split at h
    · exact g_tup ((lks_ok es).all g h).1
    · cases h
  | .lst es => .mk' fun sc fn W X x g h => by
    split at h
    · exact g_lst ((lks_ok es).all g h).1
    · cases h
  | .ix a b => .mk' fun sc fn W X x g h => by
    split at h
    · simp only [Bool.and_eq_true, Bool.not_eq_true'] at h
      exact g_ix g ((lk_ok a).v _ _ _ _ _ g h.1.1) ((lk_ok b).v _ _ _ _ _ g h.1.2) h.2
    · cases h
  | .sl a lo hi => .mk' fun sc fn W X x g h => by
    split at h
    · simp only [Bool.and_eq_true] at h
      exact g_sl g ((lk_ok a).v _ _ _ _ _ g h.1.1) ((lk_ok lo).p _ _ _ _ _ g h.1.2) ((lk_ok hi).p _ _ _ _ _ g h.2)
    · cases h
  | .hole => .no rfl (fun sc fn W X tg x g h => nomatch h) (fun _ _ _ => rfl) fun sc fn W X x g h => by
    cases x with
    | none => exact g_nopart
    | some _ => cases h
  | .call f es => .mk' fun sc fn W X x g h => by
    split at h
    · rename_i y p es' p2
      simp only [Bool.and_eq_true, decide_eq_true_eq] at h
      obtain ⟨⟨⟨e, h1⟩, h2⟩, h3⟩ := h
      obtain ⟨k1, k2⟩ := (lks_ok es).all g h3
      cases es' with
      | nil =>
        cases es with
        | nil => exact g_call0 g h1 e h2
        | cons _ _ => cases h3
      | cons y ys =>
        rw [List.all_cons, Bool.and_eq_true] at k2
        exact g_call g h1 e h2 k1 (by simpa using k2.1) k2.2
    · cases h
  | .callk f ks pm es kes => .mk' fun sc fn W X x g h => by
    split at h
    · rename_i y p es' kws p2
      simp only [Bool.and_eq_true, decide_eq_true_eq] at h
      obtain ⟨⟨⟨⟨e, h1⟩, h2⟩, h3⟩, h4⟩ := h
      obtain ⟨k1, k2⟩ := (lks_ok es).all g h3
      obtain ⟨k3, k4⟩ := (lks_ok kes).kws g h4
      cases es' with
      | nil =>
        cases es with
        | nil => exact g_callk0 g h1 e h2 k3 k4
        | cons _ _ => cases h3
      | cons y ys => exact g_callk g h1 e h2 k1 k2 k3 k4
    · cases h
  | .rgs b a => .mk' fun sc fn W X x g h => by
    split at h
    · simp only [Bool.and_eq_true, decide_eq_true_eq, Bool.not_eq_true'] at h
      obtain ⟨⟨⟨⟨⟨e, e2⟩, h2⟩, h3⟩, h4⟩, h5⟩ := h
      exact g_rgs g e e2 h2 h3 ((lk_ok a).v _ _ _ _ _ g h4) h5
    · cases h
  | .rgs2 b a c => .mk' fun sc fn W X x g h => by
    split at h
    · simp only [Bool.and_eq_true, decide_eq_true_eq, Bool.not_eq_true'] at h
      obtain ⟨⟨⟨⟨⟨⟨⟨e, e2⟩, h2⟩, h3⟩, h4⟩, h5⟩, h6⟩, h7⟩ := h
      exact g_rgs2 g e e2 h2 h3 ((lk_ok a).v _ _ _ _ _ g h4) ((lk_ok c).v _ _ _ _ _ g h5) h6 h7
    · cases h
  | .bif b es => .mk' fun sc fn W X x g h => by
    split at h
    · rename_i y p es' p2
      simp only [Bool.and_eq_true, decide_eq_true_eq] at h
      obtain ⟨⟨⟨e, h2⟩, h3⟩, h4⟩ := h
      obtain ⟨k1, k2⟩ := (lks_ok es).all g h3
      cases es' with
      | nil =>
        cases es with
        | nil => cases h4
        | cons _ _ => cases h3
      | cons y ys =>
        rw [List.all_cons, Bool.and_eq_true] at k2
        exact g_bif g e h2 k1 (by simpa using k2.1) k2.2
    · cases h
  | .seq b a => .mk' fun sc fn W X x g h => by
    split at h
    · simp only [Bool.and_eq_true, decide_eq_true_eq, Bool.not_eq_true'] at h
      obtain ⟨⟨⟨e, h2⟩, h3⟩, h4⟩ := h
      exact g_seq g e h2 ((lk_ok a).q _ _ _ _ _ g h3) h4
    · cases h
  | .isi a ty => .mk' fun sc fn W X x g h => by
    split at h
    · simp only [Bool.and_eq_true, decide_eq_true_eq, Bool.not_eq_true'] at h
      obtain ⟨⟨⟨⟨⟨e, e2⟩, h2⟩, h3⟩, h4⟩, h5⟩ := h
      exact g_isi g e e2 h2 h3 ((lk_ok a).v _ _ _ _ _ g h4) h5
    · cases h
  | .pop a => .mk' fun sc fn W X x g h => by
    split at h
    · simp only [Bool.and_eq_true, decide_eq_true_eq, Bool.not_eq_true'] at h
      obtain ⟨⟨⟨e, h2⟩, h3⟩, h4⟩ := h
      exact g_pop g e ((lk_ok a).v _ _ _ _ _ g h2) h3 h4
    · cases h
  | .popAt a b => .mk' fun sc fn W X x g h => by
    split at h
    · simp only [Bool.and_eq_true, decide_eq_true_eq, Bool.not_eq_true'] at h
      obtain ⟨⟨⟨⟨⟨e, h1⟩, h2⟩, h3⟩, h4⟩, h5⟩ := h
      exact g_popAt g e ((lk_ok a).v _ _ _ _ _ g h1) ((lk_ok b).v _ _ _ _ _ g h2) h3 h4 h5
    · cases h
  | .app a b => .mk' fun sc fn W X x g h => by
    split at h
    · simp only [Bool.and_eq_true, decide_eq_true_eq, Bool.not_eq_true'] at h
      obtain ⟨⟨⟨⟨⟨e, h1⟩, h2⟩, h3⟩, h4⟩, h5⟩ := h
      exact g_app g e ((lk_ok a).v _ _ _ _ _ g h1) ((lk_ok b).v _ _ _ _ _ g h2) h3 h4 h5
    · cases h
  | .rev a => .mk' fun sc fn W X x g h => by
    split at h
    · exact g_rev g ((lk_ok a).v _ _ _ _ _ g h)
    · cases h
  | .ext a b => .mk' fun sc fn W X x g h => by
    split at h
    · simp only [Bool.and_eq_true, decide_eq_true_eq, Bool.not_eq_true'] at h
      obtain ⟨⟨⟨⟨⟨e, h1⟩, h2⟩, h3⟩, h4⟩, h5⟩ := h
      exact g_ext g e ((lk_ok a).v _ _ _ _ _ g h1) ((lk_ok b).v _ _ _ _ _ g h2) h3 h4 h5
    · cases h
  | .comp elt tg it ifs own => by
    have base : ∀ sc fn W X x, Good κ G C fs N sc fn W X → (lk N fs κ.kfs (.comp elt tg it ifs own)).v sc fn x = true → ∃ elt' tg' it' ifs' scope p, x = .ListComp elt' [⟨tg', it', ifs', 0⟩] scope p ∧
        CompOk κ G C fs N sc W X elt' tg' it' ifs' scope (ownP N own) (putT tg) (slots tg) (evI G C it) (ifsT (evMs G C ifs)) (evE G C elt) := fun sc fn W X x g h => by
      dsimp only [lk, mkL] at h
      split at h
      · rename_i elt' tg' it' ifs' as scope p
        simp only [Bool.and_eq_true, decide_eq_true_eq, Bool.not_eq_true'] at h
        obtain ⟨⟨⟨⟨⟨⟨⟨e, h1⟩, h2⟩, h3⟩, h4⟩, h5⟩, h6⟩, h7⟩ := h
        subst e
        refine ⟨_, _, _, _, _, _, rfl, blkOk_by h1, (lk_ok it).i _ _ _ _ _ _ g h2, fun X' g' => okT_ok g' tg _ h3, fun X' g' => (lks_ok ifs).ifs g' h4, fun X' g' => (lk_ok elt).v _ _ _ _ _ g' h5, h6, fun i hi => ?_⟩
        rw [ownP_snd]
        exact of_decide_eq_true (List.all_eq_true.mp h7 i hi)
      · cases h
    have m : OkL κ G C fs N (mkL (lk N fs κ.kfs (.comp elt tg it ifs own)).v) (mkM (evE G C (.comp elt tg it ifs own))) := .mk' fun sc fn W X x g h => by
      obtain ⟨elt', tg', it', ifs', scope, p, rfl, k⟩ := base sc fn W X x g h
      have := g_compV g k (pos := p)
      rw [ownP_snd] at this
      exact this
    exact ⟨m.v, m.t, fun sc fn W X x g h => by
      obtain ⟨elt', tg', it', ifs', scope, p, rfl, k⟩ := base sc fn W X x g h
      have := g_compQ g k (pos := p)
      rw [ownP_snd] at this
      exact this, m.i, m.p⟩
  | .comp2 .. => .no rfl (fun sc fn W X tg x g h => nomatch h) (fun _ _ _ => rfl) fun sc fn W X x g h => by cases x <;> cases h
  | .rng1 a => .no rfl (fun sc fn W X tg x g h => by
    dsimp only [lk, mkL] at h
    split at h
    · simp only [Bool.and_eq_true, decide_eq_true_eq, Bool.not_eq_true'] at h
      obtain ⟨⟨⟨e, h2⟩, h3⟩, h4⟩ := h
      exact g_rng1 g e h2 ((lk_ok a).v _ _ _ _ _ g h3) h4
    · cases h) (fun _ _ _ => rfl) fun sc fn W X x g h => by cases x <;> cases h
  | .rng2 a b => .no rfl (fun sc fn W X tg x g h => by
    dsimp only [lk, mkL] at h
    split at h
    · simp only [Bool.and_eq_true, decide_eq_true_eq, Bool.not_eq_true'] at h
      obtain ⟨⟨⟨⟨⟨e, h2⟩, h3⟩, h4⟩, h5⟩, h6⟩ := h
      exact g_rng2 g e h2 ((lk_ok a).v _ _ _ _ _ g h3) ((lk_ok b).v _ _ _ _ _ g h4) h5 h6
    · cases h) (fun _ _ _ => rfl) fun sc fn W X x g h => by cases x <;> cases h
  | .rng3 a b c => .no rfl (fun sc fn W X tg x g h => by
    dsimp only [lk, mkL] at h
    split at h
    · simp only [Bool.and_eq_true, decide_eq_true_eq, Bool.not_eq_true'] at h
      obtain ⟨⟨⟨⟨⟨⟨⟨e, h2⟩, h3⟩, h4⟩, h5⟩, h6⟩, h7⟩, h8⟩ := h
      exact g_rng3 g e h2 ((lk_ok a).v _ _ _ _ _ g h3) ((lk_ok b).v _ _ _ _ _ g h4) ((lk_ok c).v _ _ _ _ _ g h5) h6 h7 h8
    · cases h) (fun _ _ _ => rfl) fun sc fn W X x g h => by cases x <;> cases h
  | .enum a => .no rfl (fun sc fn W X tg x g h => by
    dsimp only [lk, mkL] at h
    split at h
    · simp only [Bool.and_eq_true, decide_eq_true_eq, Bool.not_eq_true'] at h
      obtain ⟨⟨⟨e, h2⟩, h3⟩, h4⟩ := h
      exact g_enum g e h2 ((lk_ok a).v _ _ _ _ _ g h3) h4
    · cases h) (fun _ _ _ => rfl) fun sc fn W X x g h => by cases x <;> cases h
  | .zip a b => .no rfl (fun sc fn W X tg x g h => by
    dsimp only [lk, mkL] at h
    split at h
    · simp only [Bool.and_eq_true, decide_eq_true_eq, Bool.not_eq_true'] at h
      obtain ⟨⟨⟨⟨⟨e, h2⟩, h3⟩, h4⟩, h5⟩, h6⟩ := h
      exact g_zip g e h2 ((lk_ok a).v _ _ _ _ _ g h3) ((lk_ok b).v _ _ _ _ _ g h4) h5 h6
    · cases h) (fun _ _ _ => rfl) fun sc fn W X x g h => by cases x <;> cases h
theorem lks_ok : ∀ es : List E, OkLs κ G C fs N (lks N fs κ.kfs es) (evMs G C es)
  | [] => .nil
  | e :: es => .cons (lk_ok e) (lks_ok es)
end
end
end Ev

set_option Elab.async false
set_option linter.all false
set_option maxRecDepth 100000
namespace Ev
open PySem PySem.Spec PyProof.Rows L2

section
variable (N : List Str) (fs : List String) (kf : List KC) (xcs : List XC) (sc : Scope) (fn : Str → Bool)
mutual
def lkS : S → Stmt → Bool
  | .raise_ c ff es, x => match x with
    | .Raise (some (.Call (.Name y _) es' [] _)) none _ => decide (y = Str.ofString c) && glB sc y && xcs.any (fun q => decide (q.name = c) && decide (q.fields = ff)) && !ff.isEmpty && lkAll (lks N fs kf es) sc fn es' && !es'.isEmpty
    | _ => false
  | .try_ b c i tb hs, x => match x with
    | .Try b' [.ExceptHandler (some (.Name y _)) (some n) (b₀ :: suite) _] [] [] _ => decide (y = Str.ofString c) && glB sc y && xcs.any (fun q => decide (q.name = c)) && decide (N[i]? = some n) && decide (sc.names.lookup n = some .local) && !(n == ("__debug__" : Str)) && !(n == ("__classdict__" : Str)) && tbB xcs c tb && lkSs b b' && lkHS sc xcs n hs (b₀ :: suite)
    | _ => false
  | .expr e, x => match x with
    | .Expr y _ => (lk N fs kf e).v sc fn y && !compX y
    | _ => false
  | .asg t e, x => match t with
    | .v i => match x with
      | .Assign [.Name y py] z spos => decide (N[i]? = some y) && locB sc fn y && (lk N fs kf e).v sc fn z && (!compX z || (decide (sc.names.lookup y = some .cell) && (match sc.kind with | .function => true | _ => false)) ||
          match e, z with
          | .comp _ _ _ _ _, .ListComp _ _ scope pos => (match sc.kind with | .function => true | _ => false) && decide (sc.names.lookup y = some .local) && (py.line == pos.line) && !(scope.names.any fun (n, k) => n == y && (k == .local || k == .cell))
          | _, _ => false)
      | _ => false
    | .t ts => match x with
      | .Assign [y] z _ => okT N sc fn (.t ts) y && (lk N fs kf e).v sc fn z && !compX z && !tupX z && !starX y
      | _ => false
  | .setix a i e, x => match x with
    | .Assign [.Subscript a' i' _] z _ => (lk N fs kf e).v sc fn z && (lk N fs kf a).v sc fn a' && (lk N fs kf i).v sc fn i' && !compX z && !tupX z && !sliceX i'
    | _ => false
  | .aug i op e, x => match x with
    | .AugAssign (.Name y _) op' z _ => (decide (op = .Add) || decide (op = .Sub)) && decide (op = op') && decide (N[i]? = some y) && locB sc fn y && (lk N fs kf e).v sc fn z
    | _ => false
  | .if_ c a b, x => match x with
    | .If c' a' b' _ => (lk N fs kf c).t sc fn c' && lkSs a a' && lkSs b b'
    | _ => false
  | .for_ t it b, x => match x with
    | .For t' it' b' [] _ => okT N sc fn t t' && (lk N fs kf it).i sc fn t' it' && lkSs b b' && !setX it'
    | _ => false
  | .while_ c b, x => match x with
    | .While c' b' [] _ => (lk N fs kf c).t sc fn c' && lkSs b b'
    | _ => false
  | .ret e, x => match x with
    | .Return (some y) _ => (lk N fs kf e).v sc fn y
    | _ => false
  | .retn, x => match x with
    | .Return none _ => true
    | _ => false
  | .brk, x => match x with
    | .Break _ => true
    | _ => false
  | .cont, x => match x with
    | .Continue _ => true
    | _ => false
  | .pass, x => match x with
    | .Pass _ => true
    | _ => false
def lkSs : List S → List Stmt → Bool
  | [], xs => xs.isEmpty
  | s :: ss, xs => match xs with
    | y :: ys => lkS s y && lkSs ss ys
    | [] => false
end
end
section
variable {κ : Kx} {G : Str → Option D} {C : String → List D → Hd → R D} {fs : List String} {N : List Str} {sc : Scope} {fn : Str → Bool} {W : WX} {X : Cx} {F : Nat}
theorem comp_base (g : Good κ G C fs N sc fn W X) {elt it : E} {tg : T} {ifs : List E} {own : List Nat} {x : Expr} (h : (lk N fs κ.kfs (.comp elt tg it ifs own)).v sc fn x = true) : ∃ elt' tg' it' ifs' scope p, x = .ListComp elt' [⟨tg', it', ifs', 0⟩] scope p ∧
    CompOk κ G C fs N sc W X elt' tg' it' ifs' scope (ownP N own) (putT tg) (slots tg) (evI G C it) (ifsT (evMs G C ifs)) (evE G C elt) := by
  dsimp only [lk, mkL] at h
  split at h
  · rename_i elt' tg' it' ifs' as scope p
    simp only [Bool.and_eq_true, decide_eq_true_eq, Bool.not_eq_true'] at h
    obtain ⟨⟨⟨⟨⟨⟨⟨e, h1⟩, h2⟩, h3⟩, h4⟩, h5⟩, h6⟩, h7⟩ := h
    subst e
    refine ⟨_, _, _, _, _, _, rfl, blkOk_by h1, (lk_ok it).i _ _ _ _ _ _ g h2, fun X' g' => okT_ok g' tg _ h3, fun X' g' => (lks_ok ifs).ifs g' h4, fun X' g' => (lk_ok elt).v _ _ _ _ _ g' h5, h6, fun i hi => ?_⟩
    rw [ownP_snd]
    exact of_decide_eq_true (List.all_eq_true.mp h7 i hi)
  · cases h
theorem kind_ok {k : ScopeKind} (h : (match k with | .function => true | _ => false) = true) : k = .function := by
  cases k <;> first | rfl | cases h
set_option maxHeartbeats 1000000
mutual
theorem lkS_ok : ∀ (s : S) (x : Stmt) (W : WX) (X : Cx), Good κ G C fs N sc fn W X → X.stack = X.env :: X.outer → X.env.frame = some X.env.locals → PassesOwn (model X.prog X.w) X.A X.env X.xe → lkS N fs κ.kfs κ.xcs sc fn s x = true → PSv κ W X x (evS G C F s)
  | .raise_ c ff es, x, W, X, g, hst, hfr, hp, h => by
    unfold lkS at h
    split at h
    · rename_i y p es' p2 p3
      simp only [Bool.and_eq_true, decide_eq_true_eq] at h
      obtain ⟨⟨⟨⟨⟨e, h1⟩, h2⟩, h3⟩, h4⟩, h5⟩ := h
      obtain ⟨q, hq, hk⟩ := List.any_eq_true.mp h2
      rw [Bool.and_eq_true, decide_eq_true_eq, decide_eq_true_eq] at hk
      obtain ⟨rfl, rfl⟩ := hk
      obtain ⟨k1, k2⟩ := (lks_ok es).all g h4
      cases es' with
      | nil => cases h5
      | cons z zs => exact g_raise g hq e h1 (fun w => by rw [w] at h3; cases h3) k1 k2
    · cases h
  | .try_ b c i tb hs, x, W, X, g, hst, hfr, hp, h => by
    unfold lkS at h
    split at h
    · simp only [Bool.and_eq_true, decide_eq_true_eq, Bool.not_eq_true'] at h
      obtain ⟨⟨⟨⟨⟨⟨⟨⟨⟨e, h1⟩, h2⟩, h3⟩, h4⟩, h5⟩, h6⟩, h7⟩, h8⟩, h9⟩ := h
      obtain ⟨q, hq, hk⟩ := List.any_eq_true.mp h2
      have hk : q.name = c := of_decide_eq_true hk
      subst hk
      exact g_try g hst hfr hq e h1 h3 h4 h5 h6 h7 (fun W' X' g' k1 k2 k3 => lkSs_ok b _ W' X' g' k1 k2 k3 h8) h9
    · cases h
  | .expr e, x, W, X, g, hst, hfr, hp, h => by
    unfold lkS at h
    split at h
    · simp only [Bool.and_eq_true, Bool.not_eq_true'] at h
      exact g_expr ((lk_ok e).v _ _ _ _ _ g h.1) h.2
    · cases h
  | .asg (.v i) e, x, W, X, g, hst, hfr, hp, h => by
    unfold lkS at h
    dsimp only at h
    split at h
    · rename_i y py z spos
      simp only [Bool.and_eq_true, decide_eq_true_eq, Bool.or_eq_true, Bool.not_eq_true'] at h
      obtain ⟨⟨⟨h1, h2⟩, h3⟩, h4⟩ := h
      rcases h4 with (h4 | h4) | h4
      · exact g_asgN g h1 (locB_ok h2) ((lk_ok e).v _ _ _ _ _ g h3) (.inl h4)
      · exact g_asgN g h1 (locB_ok h2) ((lk_ok e).v _ _ _ _ _ g h3) (.inr ⟨kind_ok h4.2, h4.1⟩)
      · split at h4
        · simp only [Bool.and_eq_true, decide_eq_true_eq, Bool.not_eq_true'] at h4
          obtain ⟨⟨⟨k1, k2⟩, k3⟩, k4⟩ := h4
          obtain ⟨elt', tg', it', ifs', scope, p, ex, k⟩ := comp_base g h3
          cases ex
          have z := g_asgC g (spos := spos) (kind_ok k1) h1 k2 k3 k4 k
          rw [ownP_snd] at z
          exact z
        · cases h4
    · cases h
  | .asg (.t ts) e, x, W, X, g, hst, hfr, hp, h => by
    unfold lkS at h
    dsimp only at h
    split at h
    · simp only [Bool.and_eq_true, Bool.not_eq_true'] at h
      obtain ⟨⟨⟨⟨h1, h2⟩, h3⟩, h4⟩, h5⟩ := h
      exact g_asg ((lk_ok e).v _ _ _ _ _ g h2) (okT_ok g _ _ h1) h3 h4 h5
    · cases h
  | .setix a i e, x, W, X, g, hst, hfr, hp, h => by
    unfold lkS at h
    split at h
    · simp only [Bool.and_eq_true, Bool.not_eq_true'] at h
      obtain ⟨⟨⟨⟨⟨h1, h2⟩, h3⟩, h4⟩, h5⟩, h6⟩ := h
      exact g_setix ((lk_ok e).v _ _ _ _ _ g h1) ((lk_ok a).v _ _ _ _ _ g h2) ((lk_ok i).v _ _ _ _ _ g h3) h4 h5 h6
    · cases h
  | .aug i op e, x, W, X, g, hst, hfr, hp, h => by
    unfold lkS at h
    split at h
    · simp only [Bool.and_eq_true, Bool.or_eq_true, decide_eq_true_eq] at h
      obtain ⟨⟨⟨⟨h1, h2⟩, h3⟩, h4⟩, h5⟩ := h
      subst h2
      exact g_aug g h1 h3 (locB_ok h4) ((lk_ok e).v _ _ _ _ _ g h5)
    · cases h
  | .if_ c a b, x, W, X, g, hst, hfr, hp, h => by
    unfold lkS at h
    split at h
    · simp only [Bool.and_eq_true] at h
      exact g_if ((lk_ok c).t _ _ _ _ _ g h.1.1) (lkSs_ok a _ _ _ g hst hfr hp h.1.2) (lkSs_ok b _ _ _ g hst hfr hp h.2)
    · cases h
  | .for_ t it b, x, W, X, g, hst, hfr, hp, h => by
    unfold lkS at h
    split at h
    · simp only [Bool.and_eq_true, Bool.not_eq_true'] at h
      exact g_for g hp ((lk_ok it).i _ _ _ _ _ _ g h.1.1.2) (okT_ok g t _ h.1.1.1) (lkSs_ok b _ _ _ g hst hfr hp h.1.2) h.2
    · cases h
  | .while_ c b, x, W, X, g, hst, hfr, hp, h => by
    unfold lkS at h
    split at h
    · simp only [Bool.and_eq_true] at h
      exact g_while hp ((lk_ok c).t _ _ _ _ _ g h.1) (lkSs_ok b _ _ _ g hst hfr hp h.2)
    · cases h
  | .ret e, x, W, X, g, hst, hfr, hp, h => by
    unfold lkS at h
    split at h
    · exact g_ret ((lk_ok e).v _ _ _ _ _ g h)
    · cases h
  | .retn, x, W, X, g, hst, hfr, hp, h => by
    unfold lkS at h
    split at h
    · exact g_retn
    · cases h
  | .brk, x, W, X, g, hst, hfr, hp, h => by
    unfold lkS at h
    split at h
    · exact g_brk
    · cases h
  | .cont, x, W, X, g, hst, hfr, hp, h => by
    unfold lkS at h
    split at h
    · exact g_cont
    · cases h
  | .pass, x, W, X, g, hst, hfr, hp, h => by
    unfold lkS at h
    split at h
    · exact g_pass
    · cases h
theorem lkSs_ok : ∀ (ss : List S) (xs : List Stmt) (W : WX) (X : Cx), Good κ G C fs N sc fn W X → X.stack = X.env :: X.outer → X.env.frame = some X.env.locals → PassesOwn (model X.prog X.w) X.A X.env X.xe → lkSs N fs κ.kfs κ.xcs sc fn ss xs = true → PSsv κ W X xs (evSs G C F ss)
  | [], xs, W, X, g, hst, hfr, hp, h => by
    cases xs with
    | nil => exact g_snil
    | cons _ _ => cases h
  | s :: ss, xs, W, X, g, hst, hfr, hp, h => by
    cases xs with
    | nil => cases h
    | cons y ys =>
      unfold lkSs at h
      simp only [Bool.and_eq_true] at h
      exact g_scons (lkS_ok s y _ _ g hst hfr hp h.1) (lkSs_ok ss ys _ _ g hst hfr hp h.2)
end
end
end Ev

set_option Elab.async false
set_option linter.all false
set_option maxRecDepth 100000
namespace Ev
open PySem PySem.Spec PyProof.Rows L2

/-! ### values alike, values that know no newer object -/
mutual
def beqD : D → D → Bool
  | .non, y => match y with
    | .non => true
    | _ => false
  | .bl b, y => match y with
    | .bl c => b == c
    | _ => false
  | .int b, y => match y with
    | .int c => b == c
    | _ => false
  | .str b, y => match y with
    | .str c => decide (b = c)
    | _ => false
  | .tup b, y => match y with
    | .tup c => beqDs b c
    | _ => false
  | .fl b, y => match y with
    | .fl c => beqDs b c
    | _ => false
  | .ref b, y => match y with
    | .ref c => b == c
    | _ => false
def beqDs : List D → List D → Bool
  | [], ys => ys.isEmpty
  | x :: xs, ys => match ys with
    | y :: ys => beqD x y && beqDs xs ys
    | [] => false
end
mutual
theorem beqD_eq : ∀ (x y : D), beqD x y = true → x = y
  | .non, y, h => by cases y <;> first | rfl | cases h
  | .bl b, y, h => by cases y <;> first | (exact congrArg D.bl (eq_of_beq h)) | cases h
  | .int b, y, h => by cases y <;> first | (exact congrArg D.int (eq_of_beq h)) | cases h
  | .str b, y, h => by cases y <;> first | (exact congrArg D.str (of_decide_eq_true h)) | cases h
  | .tup b, y, h => by cases y <;> first | (exact congrArg D.tup (beqDs_eq _ _ h)) | cases h
  | .fl b, y, h => by cases y <;> first | (exact congrArg D.fl (beqDs_eq _ _ h)) | cases h
  | .ref b, y, h => by cases y <;> first | (exact congrArg D.ref (eq_of_beq h)) | cases h
theorem beqDs_eq : ∀ (xs ys : List D), beqDs xs ys = true → xs = ys
  | [], ys, h => by cases ys <;> first | rfl | cases h
  | x :: xs, ys, h => by
    cases ys with
    | nil => cases h
    | cons y ys =>
      simp only [beqDs, Bool.and_eq_true] at h
      rw [beqD_eq x y h.1, beqDs_eq xs ys h.2]
end
mutual
theorem beqD_refl : ∀ x : D, beqD x x = true
  | .non => rfl
  | .bl b => by simp [beqD]
  | .int b => by simp [beqD]
  | .str b => by simp [beqD]
  | .tup b => by simp [beqD, beqDs_refl b]
  | .fl b => by simp [beqD, beqDs_refl b]
  | .ref b => by simp [beqD]
theorem beqDs_refl : ∀ x : List D, beqDs x x = true
  | [] => rfl
  | x :: xs => by simp [beqDs, beqD_refl x, beqDs_refl xs]
end
mutual
def below (n : Nat) : D → Bool
  | .tup xs => belows n xs
  | .fl xs => belows n xs
  | .ref l => decide (l < n)
  | _ => true
def belows (n : Nat) : List D → Bool
  | [] => true
  | x :: xs => below n x && belows n xs
end
def belowO (n : Nat) : O → Bool
  | .lst xs => belows n xs
def beqO : O → O → Bool
  | .lst xs, .lst ys => beqDs xs ys
/-- what stood is as it was, or knows nothing newer -/
def old (n : Nat) : Hd → Hd → Bool
  | [], _ => true
  | o :: h, h' => match h' with
    | o' :: h' => (beqO o o' || belowO n o') && old n h h'
    | [] => false
/-- a call's end: what it made and nobody knows is forgotten -/
def trunc (h : Hd) (d : D) (h' : Hd) : R D :=
  if old h.length h h' = true then
    if below h.length d = true then .ok d (h'.take h.length)
    else match d with
      | .ref l => match Hd.lst h' l with
        | some xs => if h.length ≤ l ∧ belows h.length xs = true then .ok (.ref h.length) (h'.take h.length ++ [.lst xs]) else .ok d h'
        | none => .ok d h'
      | _ => .ok d h'
  else .ok d h'
def fin (h : Hd) : RS → R D
  | .ret d h' => trunc h d h'
  | .nx _ h' => trunc h .non h'
  | .err x _ h' => .err x h'
  | _ => .no
/-- a def: how many parameters, all names (the parameters first), its body -/
structure Fn where
  np : Nat
  names : List String
  body : List S
def Fn.N (f : Fn) : List Str := f.names.map Str.ofString
def Fn.ps (f : Fn) : List Str := (f.names.take f.np).map Str.ofString
def startD (f : Fn) (ds : List D) : Sd := ds.map some ++ List.replicate (f.names.length - ds.length) none
def callF (G : Str → Option D) (T : String → Option Fn) (F : Nat) : Nat → String → List D → Hd → R D
  | 0, _, _, _ => .no
  | k + 1, f, ds, h => match T f with
    | some fn => if ds.length = fn.np then fin h (evSs G (callF G T F k) F fn.body (startD fn ds) h) else .no
    | none => .no

section
variable {κ : Kx} {ρ ρ' ρ1 : List Addr} {H H' : Hp} {h h' : Hd} {d : D} {ds : List D} {v : V} {vs : List V}
theorem old_take : ∀ {h h' : Hd} {n : Nat}, old n h h' = true → ∀ (l : Nat) (o' : O), l < h.length → h'[l]? = some o' → h[l]? = some o' ∨ belowO n o' = true
  | [], h', n, e, l, o', hl, e2 => by simp at hl
  | o :: h, h', n, e, l, o', hl, e2 => by
    cases h' with
    | nil => cases e
    | cons p h' =>
      simp only [old, Bool.and_eq_true, Bool.or_eq_true] at e
      cases l with
      | zero =>
        simp at e2
        subst e2
        rcases e.1 with z | z
        · left
          cases o with
          | lst xs =>
            cases p with
            | lst ys => simp [beqDs_eq xs ys z]
        · exact .inr z
      | succ l =>
        simp at e2 hl ⊢
        exact old_take e.2 l o' hl e2
theorem old_len : ∀ {h h' : Hd} {n : Nat}, old n h h' = true → h.length ≤ h'.length
  | [], h', n, e => Nat.zero_le _
  | o :: h, h', n, e => by
    cases h' with
    | nil => cases e
    | cons p h' =>
      simp only [old, Bool.and_eq_true] at e
      simpa using old_len e.2
/-- the places below n alone -/
theorem cut_at {n l : Nat} {a : Addr} (e : ρ[l]? = some a) (hl : l < n) : (ρ.take n)[l]? = some a := by
  rw [List.getElem?_take_of_lt hl]
  exact e
mutual
theorem Rep.cut {n : Nat} : ∀ (d : D) (v : V), below n d = true → Rep κ ρ H d v → Rep κ (ρ.take n) H d v
  | .non, v, _, r => r
  | .bl _, v, _, r => r
  | .int _, v, _, r => r
  | .str _, v, _, r => r
  | .tup ds, v, b, r => by
    obtain ⟨a, vs, e, q, rs⟩ := r
    exact ⟨a, vs, e, q, Reps.cut ds vs b rs⟩
  | .fl ds, v, b, r => by
    obtain ⟨a, vs, e, q, rs⟩ := r
    exact ⟨a, vs, e, q, Reps.cut ds vs b rs⟩
  | .ref l, v, b, r => by
    obtain ⟨a, e, q⟩ := r
    exact ⟨a, cut_at e (of_decide_eq_true b), q⟩
theorem Reps.cut {n : Nat} : ∀ (ds : List D) (vs : List V), belows n ds = true → Reps κ ρ H ds vs → Reps κ (ρ.take n) H ds vs
  | [], vs, _, r => r
  | d :: ds, vs, b, r => by
    obtain ⟨v, w, e, r1, r2⟩ := r
    simp only [belows, Bool.and_eq_true] at b
    exact ⟨v, w, e, Rep.cut d v b.1 r1, Reps.cut ds w b.2 r2⟩
end
mutual
theorem Rep.below : ∀ (d : D) (v : V), Rep κ ρ H d v → Ev.below ρ.length d = true
  | .non, v, r => rfl
  | .bl _, v, r => rfl
  | .int _, v, r => rfl
  | .str _, v, r => rfl
  | .tup ds, v, r => by
    obtain ⟨a, vs, e, q, rs⟩ := r
    exact Reps.below ds vs rs
  | .fl ds, v, r => by
    obtain ⟨a, vs, e, q, rs⟩ := r
    exact Reps.below ds vs rs
  | .ref l, v, r => by
    obtain ⟨a, e, q⟩ := r
    exact decide_eq_true (List.getElem?_eq_some_iff.mp e).1
theorem Reps.below : ∀ (ds : List D) (vs : List V), Reps κ ρ H ds vs → belows ρ.length ds = true
  | [], vs, r => rfl
  | d :: ds, vs, r => by
    obtain ⟨v, w, e, r1, r2⟩ := r
    simp only [belows, Bool.and_eq_true]
    exact ⟨Rep.below d v r1, Reps.below ds w r2⟩
end
theorem Ext.cut (x : Ext ρ ρ' H H') : ρ'.take ρ.length = ρ := by
  obtain ⟨r, e⟩ := x.pre
  rw [← e, List.take_left]
theorem Sim.below (S : Sim κ ρ h H) {l : Nat} {o : O} (e : h[l]? = some o) : belowO h.length o = true := by
  obtain ⟨a, e1, q⟩ := S.get e
  cases o with
  | lst xs =>
    obtain ⟨vs, _, r⟩ := q
    rw [← S.len]
    exact Reps.below _ _ r
theorem Sim.cut (S : Sim κ ρ h H) (S' : Sim κ ρ' h' H') (x : Ext ρ ρ' H H') (o : old h.length h h' = true) : Sim κ ρ (h'.take h.length) H' := by
  have hl := old_len o
  refine ⟨by rw [List.length_take, S.len]; omega, S.nd, fun l p a e1 e2 => ?_⟩
  have hl2 : l < h.length := by rw [← S.len]; exact (List.getElem?_eq_some_iff.mp e2).1
  rw [List.getElem?_take_of_lt hl2] at e1
  have q := S'.ob l p a e1 (x.at e2)
  have b : belowO h.length p = true := by
    rcases old_take o l p hl2 e1 with z | z
    · exact S.below z
    · exact z
  cases p with
  | lst xs =>
    obtain ⟨vs, q1, q2⟩ := q
    refine ⟨vs, q1, ?_⟩
    have := Reps.cut (n := h.length) _ _ b q2
    rw [← S.len, x.cut] at this
    exact this
theorem Ext.self (x : Ext ρ ρ' H H') : Ext ρ ρ H H' := ⟨List.prefix_rfl, x.tup, x.frz, x.fr, fun a h1 h2 => absurd h1 h2⟩
/-- a call's end -/
theorem trunc_ok {Q : VK} {E : XK} (S : Sim κ ρ h H) (p : Post κ (rD κ) ρ H (trunc h d h') Q E) (x : Ext ρ ρ' H H') (S' : Sim κ ρ' h' H') (r : Rep κ ρ' H' d v) : Q v H' := by
  unfold trunc at p
  split at p
  · rename_i o
    split at p
    · rename_i b
      refine p ρ H' v x.self (S.cut S' x o) ?_
      have := Rep.cut (n := h.length) _ _ b r
      rw [← S.len, x.cut] at this
      exact this
    · split at p
      · rename_i l _
        split at p
        · rename_i xs ex
          split at p
          · rename_i c
            obtain ⟨a, vs, p1, p2, rs⟩ := S'.lst ex
            obtain ⟨a', z, rfl⟩ := r
            rw [p1] at z; cases z
            have na : a ∉ ρ := fun hm => by
              obtain ⟨i, hi, ei⟩ := List.mem_iff_getElem.mp hm
              have e1 := x.at (List.getElem?_eq_getElem hi)
              rw [ei] at e1
              obtain ⟨j1, k1⟩ := List.getElem?_eq_some_iff.mp e1
              obtain ⟨j2, k2⟩ := List.getElem?_eq_some_iff.mp p1
              have := (List.getElem_inj S'.nd).mp (k1.trans k2.symm)
              have := S.len
              omega
            have cutr := Reps.cut (n := h.length) _ _ c.2 rs
            rw [← S.len, x.cut] at cutr
            refine p (ρ ++ [a]) H' _ (x.self.adopt (x.new a (List.mem_of_getElem? p1) na)) ((S.cut S' x o).adopt na p2 cutr) ⟨a, by rw [← S.len]; simp, rfl⟩
          · exact p ρ' H' v x S' r
        · exact p ρ' H' v x S' r
      · exact p ρ' H' v x S' r
  · exact p ρ' H' v x S' r
end

/-! ### the defs of a text -/
/-- one def: where it stands, what it is -/
def gOf (q : KC) (us ws : List Value) : List Value := if us.length = q.n ∧ ws.length = q.ks.length then q.pm.map (fun i => (us ++ ws).getD i .none) else []
def gvOf (q : KC) (vs zs : List V) : List V := if vs.length = q.n ∧ zs.length = q.ks.length then permV q.pm (vs ++ zs) else []
theorem vals_perm {vs : List V} {us : List Value} (r : Vals vs us) : ∀ pm : List Nat, Vals (permV pm vs) (pm.map fun i => us.getD i .none)
  | [] => .nil
  | i :: pm => by
    refine .cons ?_ (vals_perm r pm)
    have hl := r.length
    by_cases hi : i < vs.length
    · obtain ⟨u, e1, r1⟩ := r.get (List.getElem?_eq_getElem hi)
      simp only [List.getD_eq_getElem?_getD, List.getElem?_eq_getElem hi, e1, Option.getD_some]
      exact r1
    · simp only [List.getD_eq_getElem?_getD, List.getElem?_eq_none (show vs.length ≤ i by omega), List.getElem?_eq_none (show us.length ≤ i by omega), Option.getD_none]
      exact rfl
theorem kb_mk {K : PySem.W.Frag} {fd : FuncData} {ps : List Str} {q : KC} (hne : ps ≠ []) (h : ∀ us ws : List Value, us.length = q.n → ws.length = q.ks.length → bindArgs fd ⟨us, (q.ks.map Str.ofString).zip ws⟩ = pure (ps.zip (q.pm.map fun i => (us ++ ws).getD i .none))) :
    KBinds K fd ps (q.ks.map Str.ofString) (gOf q) (gvOf q) where
  to := fun s us ws _ hl => by
    unfold gOf at hl ⊢
    split at hl
    · rename_i c
      rw [if_pos c]
      exact .of_eq (h us ws c.1 c.2)
    · exact absurd (List.length_eq_zero_iff.mp hl.symm) hne
  rel := fun {vs us zs ws} r r2 => by
    unfold gOf gvOf
    rw [r.length, r2.length]
    split
    · exact vals_perm (r.append r2) _
    · exact .nil
structure Def (P : Program) (w : World) (K : PySem.W.Frag) (mg : Str → Option Value) (fs : List String) (kfs : List KC) (xcs : List XC) (f : String) (fn : Fn) : Prop where
  ex : ∃ (st : Stmt) (fa : Addr) (fd : FuncData), Fun K (Str.ofString f) (Str.ofString f) st fa fd ∧ FnScope fn.N fn.ps (defScope st) ∧ fn.ps.length = fn.np ∧
    lkSs fn.N fs kfs xcs (defScope st) (fun _ => true) fn.body (defBody st) = true ∧ Binds K fd fn.ps [] ∧ mg (Str.ofString f) = some (.ref fa) ∧ (∀ (s : Shared) (us : List Value), us.length = fn.ps.length → BindsTo s fd ⟨us, []⟩ (fn.ps.zip us)) ∧ ∀ q ∈ kfs, q.f = f → KBinds K fd fn.ps (q.ks.map Str.ofString) (gOf q) (gvOf q)
structure Text (P : Program) (w : World) (K : PySem.W.Frag) (mg : Str → Option Value) (κ : Kx) (G : Str → Option D) (T : String → Option Fn) (fs : List String) : Prop where
  hK : κ.K = K
  defs : ∀ f ∈ fs, ∃ fn, T f = some fn ∧ Def P w K mg fs κ.kfs κ.xcs f fn
  kin : ∀ q ∈ κ.kfs, q.f ∈ fs
  xok : ∀ q ∈ κ.xcs, XOk P w K mg κ.ca κ.xcs q
  blt : ∀ x ∈ bnames, mg x = none
  glb : ∀ x d, G x = some d → ∃ v u, mg x = some u ∧ RelV v u ∧ ∀ ρ H, Rep κ ρ H d v
section
variable {P : Program} {w : World} {K : PySem.W.Frag} {mg : Str → Option Value} {base : Heap} {κ : Kx} {G : Str → Option D} {T : String → Option Fn} {fs : List String} {F : Nat}
theorem start_sim {ρ : List Addr} {H : Hp} {f : Fn} {ds : List D} {vs : List V} (r : Reps κ ρ H ds vs) : SimS κ ρ H (startD f ds) (L2.start f.N vs) := by
  have hl := r.length
  refine ⟨by simp [startD, L2.start, Fn.N, hl], fun i d e => ?_⟩
  unfold startD at e
  by_cases hi : i < ds.length
  · rw [List.getElem?_append_left (by simpa using hi), List.getElem?_map, List.getElem?_eq_getElem hi] at e
    simp at e
    subst e
    obtain ⟨v, e1, r1⟩ := r.get (List.getElem?_eq_getElem hi)
    refine ⟨v, ?_, r1⟩
    unfold L2.start
    rw [List.getElem?_append_left (by simpa [← hl] using hi), List.getElem?_map, e1]
    rfl
  · rw [List.getElem?_append_right (by simpa using hi), List.getElem?_replicate] at e
    split at e <;> simp at e
/-- THE THEOREM: every def keeps what the evaluation says -/
theorem defs_ok (X : Text P w K mg κ G T fs) : ∀ (k : Nat) (f : String), f ∈ fs → ∃ fn st fa fd, T f = some fn ∧ Fun K (Str.ofString f) (Str.ofString f) st fa fd ∧ Binds K fd fn.ps [] ∧ mg (Str.ofString f) = some (.ref fa) ∧
    FnOk P w K mg base (L2.CX P w) (k + 1) fa fd fn.ps (spOf κ (callF G T F k) f) ∧ ∀ q ∈ κ.kfs, q.f = f → KBinds K fd fn.ps (q.ks.map Str.ofString) (gOf q) (gvOf q)
  | 0, f, hf => by
    obtain ⟨fn, hT, st, fa, fd, hF, hS, h2, h3, h4, h5, _, h7⟩ := X.defs f hf
    refine ⟨fn, st, fa, fd, hT, hF, h4, h5, ⟨fun vs H Q E h => ?_, fun A outer s H args us vs Q E hr he hb hv h => ?_⟩, h7⟩
    · obtain ⟨ρ, ds, h, _, _, p⟩ := h; exact p.elim
    · obtain ⟨ρ, ds, h, _, _, p⟩ := h; exact p.elim
  | k + 1, f, hf => by
    obtain ⟨fn, hT, st, fa, fd, hF, hS, h2, h3, h4, h5, _, h7⟩ := X.defs f hf
    refine ⟨fn, st, fa, fd, hT, hF, h4, h5, ?_, h7⟩
    have cl : ∀ ds h, callF G T F (k + 1) f ds h = if ds.length = fn.np then fin h (evSs G (callF G T F k) F fn.body (startD fn ds) h) else .no := fun ds h => by
      simp only [callF, hT]
    refine hF.okX hS (fun vs H Q E h => ?_) fun cdv A outer s H vs Q E hr h => ?_
    · obtain ⟨ρ, ds, h, _, r, p⟩ := h
      rw [cl] at p
      split at p
      · rename_i e
        rw [← r.length, e, h2]
      · exact p.elim
    · obtain ⟨ρ, ds, h, S, r, p⟩ := h
      rw [cl] at p
      split at p
      · let Xc := cxOf (L2.CX P w) P w K mg base fn.N (Str.ofString f) (defScope st) fa cdv A outer s H E
        have tk : Takes Xc fun c a σ H => E c a H := takes_of rfl rfl rfl rfl
        have g : Good κ G (callF G T F k) fs fn.N (defScope st) (fun _ => true) (fun c a σ H => E c a H) Xc := {
          K := X.hK.symm
          calm := rfl
          nd := hS.nd
          N := rfl
          sc := rfl
          fn := rfl
          un := by have := hr.un; show (A.deeper _).units + 100 < cLine; omega
          blt := X.blt
          glb := X.glb
          room := hr.mono (by omega)
          tk := tk
          xok := X.xok
          fns := fun f' hf' => by
            obtain ⟨fn', st', fa', fd', _, hF', hb', hm', hk', _⟩ := defs_ok X k f' hf'
            exact ⟨k + 1, fa', fd', fn'.ps, hk', hr, hm', hF'.kp, hb'⟩
          kfns := fun q hq => by
            obtain ⟨fn', st', fa', fd', _, hF', hb', hm', hk', hb2⟩ := defs_ok X k q.f (X.kin q hq)
            exact ⟨k + 1, fa', fd', fn'.ps, _, _, hk', hr, hm', hF'.kp, hb2 q hq rfl, fun vs zs e1 e2 => if_pos ⟨e1, e2⟩⟩
          pass := fun σ => passAt tk σ }
        refine ⟨_, lkSs_ok (F := F) fn.body (defBody st) _ _ g rfl rfl (passes_of rfl) h3, ρ, startD fn ds, h, start_sim r, S, ?_⟩
        cases q : evSs G (callF G T F k) F fn.body (startD fn ds) h with
        | ret d h' =>
          rw [q] at p
          exact fun ρ' H' v x S' r' => trunc_ok S p x S' r'
        | nx sd h' =>
          rw [q] at p
          exact fun ρ' H' σ' x S' _ => trunc_ok (d := .non) S p x S' rfl
        | err z sd h' =>
          rw [q] at p
          exact fun ρ' H' σ' c a x S' _ r' => p ρ' H' c a x S' r'
        | bk _ _ => rw [q] at p; exact p.elim
        | ct _ _ => rw [q] at p; exact p.elim
        | no => rw [q] at p; exact p.elim
      · exact p.elim
/-- the law's promise, from its evaluation at every script -/
theorem law_sp {k : Nat} (hK : κ.K = K) {ns : List Int} {h' : Hd} (hq : callF G T F k "law" [.fl (ns.map D.int)] [] = .ok (.bl true) h') {H : Hp} {a : Addr} (hO : Only H) (hS : SqL K H a (ns.map V.int)) :
    spOf κ (callF G T F k) "law" [.ref a] H (fun v _ => v = .bl true) fun _ _ _ => False := by
  refine ⟨[], [.fl (ns.map D.int)], [], ⟨rfl, List.nodup_nil, fun l o a e _ => by simp at e⟩, .cons ⟨a, ns.map V.int, rfl, ?_, Reps.ints ns⟩ .nil, ?_⟩
  · rcases hS with (z | z) | z
    · rcases hO a with y | ⟨o, xs, y⟩
      · rw [z] at y; cases y
      · rw [z] at y; cases y
    · exact .inl z
    · rw [hK]; exact .inr z
  · rw [hq]
    exact fun ρ' H' v x S r => r
end
end Ev

set_option Elab.async false
set_option linter.all false
set_option maxRecDepth 100000
namespace Ev
open PySem PySem.Spec PyProof.Rows L2
/-- what is known of a def by its text alone -/
structure Stat (fs : List String) (kfs : List KC) (xcs : List XC) (f : String) (fn : Fn) (st : Stmt) : Prop where
  sc : FnScope fn.N fn.ps (defScope st)
  np : fn.ps.length = fn.np
  lk : lkSs fn.N fs kfs xcs (defScope st) (fun _ => true) fn.body (defBody st) = true
  bd : ∀ (kV doc pm : Value) (an : Option Addr) (cdv ct : Value) (us : List Value), us.length = fn.ps.length → bindArgs (PySem.W.fnOf (Str.ofString f) (Str.ofString f) (defArgs st) (defBody st) (defScope st) .none kV doc pm an cdv ct) ⟨us, []⟩ = pure (fn.ps.zip us)
  kb : ∀ q ∈ kfs, q.f = f → fn.ps ≠ [] ∧ ∀ (kV doc pm : Value) (an : Option Addr) (cdv ct : Value) (us ws : List Value), us.length = q.n → ws.length = q.ks.length →
    bindArgs (PySem.W.fnOf (Str.ofString f) (Str.ofString f) (defArgs st) (defBody st) (defScope st) .none kV doc pm an cdv ct) ⟨us, (q.ks.map Str.ofString).zip ws⟩ = pure (fn.ps.zip (q.pm.map fun i => (us ++ ws).getD i .none))
theorem def_mk {P : Program} {w : World} {K : PySem.W.Frag} {h : Heap} {mg : Str → Option Value} {fs : List String} {kfs : List KC} {xcs : List XC} {f : String} {fn : Fn} {st : Stmt} (s : Stat fs kfs xcs f fn st) (G : h.Ns mainGlobals mg) (X : K.In h)
    {fa : Addr} {oc : Value} {od an : Option Addr} {sl : Array (Option Value)} {kV dc pm cd ct : Value}
    (a : PySem.W.nsIn K mainGlobals (Str.ofString f) = some (some (.ref fa))) (l : K.lookup fa = some ⟨oc, od, .func (PySem.W.fnOf (Str.ofString f) (Str.ofString f) (defArgs st) (defBody st) (defScope st) .none kV dc pm an cd ct), sl⟩)
    (c : PySem.W.codeIn K cd (Str.ofString f) = true) (k : PySem.W.keepIn K (.ref fa) = true) : Def P w K mg fs kfs xcs f fn :=
  have F := fun_mk (st := st) l c k
  ⟨st, fa, _, F, s.sc, s.np, s.lk, F.binds s.bd, PySem.W.mg_of X G a, fun s' us hl => .of_eq (s.bd _ _ _ _ _ _ us hl), fun q hq e => kb_mk (s.kb q hq e).1 fun us ws e1 e2 => (s.kb q hq e).2 _ _ _ _ _ _ us ws e1 e2⟩
/-- the end of a law's row -/
theorem law_end {P : Program} {w : World} {K : PySem.W.Frag} {mg : Str → Option Value} {κ : Kx} {G : Str → Option D} {T : String → Option Fn} {fs : List String} {fn : Fn} (F k : Nat) {fa : Addr} (X : Text P w K mg κ G T fs) (hl : "law" ∈ fs) (hT : T "law" = some fn) (hn : fn.ps = [Str.ofString "script"]) (hm : mg (Str.ofString "law") = some (.ref fa)) :
    ∃ fd : FuncData, (∀ (s : Shared) (v : Value), BindsTo s fd ⟨[v], []⟩ [(Str.ofString "script", v)]) ∧ ∀ base : Heap, FnOk P w K mg base (L2.CX P w) (k + 1) fa fd [Str.ofString "script"] (spOf κ (callF G T F k) "law") := by
  obtain ⟨fn1, hT1, st, fa1, fd, hF, hS, h2, h3, h4, h5, h6, _⟩ := X.defs "law" hl
  rw [hT] at hT1; cases hT1
  rw [hm] at h5; cases h5
  refine ⟨fd, fun s v => ?_, fun base => ?_⟩
  · have := h6 s [v] (by rw [hn]; rfl)
    rw [hn] at this
    exact this
  · obtain ⟨fn2, st2, fa2, fd2, hT2, hF2, hb2, hm2, hk, _⟩ := defs_ok (base := base) (F := F) X k "law" hl
    rw [hT] at hT2; cases hT2
    rw [hm] at hm2; cases hm2
    have e : fd2 = fd := by
      obtain ⟨_, _, _, _, _, _, _, _, _, _, l1, _⟩ := hF.ex
      obtain ⟨_, _, _, _, _, _, _, _, _, _, l2, _⟩ := hF2.ex
      rw [l1] at l2
      injection l2 with l2
      injection l2 with _ _ l2
      injection l2 with l2
      exact l2.symm
    subst e
    rw [hn] at hk
    exact hk
end Ev
namespace Ev
open PySem PySem.Spec PyProof.Rows L2
/-- a text by its defs in a row -/
abbrev Prog := List (String × Fn)
abbrev Prog.T (p : Prog) : String → Option Fn := fun f => p.lookup f
abbrev Prog.fs (p : Prog) : List String := p.map (·.1)
theorem lookup_mem : ∀ {p : List (String × Fn)} {f : String}, f ∈ p.map (·.1) → ∃ fn, p.lookup f = some fn ∧ (f, fn) ∈ p
  | [], f, h => by simp at h
  | (g, fn) :: p, f, h => by
    by_cases e : f = g
    · subst e
      exact ⟨fn, by simp [List.lookup_cons], List.mem_cons_self⟩
    · obtain ⟨fn', h1, h2⟩ := lookup_mem (p := p) (f := f) (by simpa [e] using h)
      exact ⟨fn', by rw [List.lookup_cons, beq_eq_false_iff_ne.mpr e]; exact h1, List.mem_cons_of_mem _ h2⟩
theorem text_mk {P : Program} {w : World} {K : PySem.W.Frag} {h : Heap} {mg : Str → Option Value} {kfs : List KC} {xcs : List XC} {p : Prog} {gs : List (Str × D)} (X : K.In h) (G : h.Ns mainGlobals mg) (hd : ∀ q ∈ p, Def P w K mg p.fs kfs xcs q.1 q.2) (hx : ∀ q ∈ xcs, XOk P w K mg (caOf K) xcs q) (hk : ∀ q ∈ kfs, q.f ∈ p.fs)
    (hb : ∀ x ∈ bnames, PySem.W.nsIn K mainGlobals x = some none) (hg : ∀ q ∈ gs, ∃ v u, mg q.1 = some u ∧ RelV v u ∧ ∀ ρ H, Rep (kx K kfs xcs) ρ H q.2 v) : Text P w K mg (kx K kfs xcs) (fun x => gs.lookup x) p.T p.fs where
  hK := rfl
  defs := fun f hf => by
    obtain ⟨fn, h1, h2⟩ := lookup_mem hf
    exact ⟨fn, h1, hd _ h2⟩
  kin := hk
  xok := hx
  blt := fun x hx => PySem.W.mg_none_of X G (hb x hx)
  glb := fun x d e => by
    have : (x, d) ∈ gs := by
      clear hg
      induction gs with
      | nil => cases e
      | cons q gs ih =>
        obtain ⟨y, d'⟩ := q
        rw [List.lookup_cons] at e
        by_cases z : x = y
        · subst z
          simp at e
          subst e
          exact List.mem_cons_self
        · rw [beq_eq_false_iff_ne.mpr z] at e
          exact List.mem_cons_of_mem _ (ih e)
    exact hg _ this
theorem no_x {P : Program} {w : World} {H : Hp} {s : Shared} {e : Value} {s' : Shared} (h : L2.CX P w [] H s (fun _ _ _ => False) e s') : False := by
  obtain ⟨_, _, _, _, _, _, _, _, _, _, _, _, z⟩ := h
  exact z
end Ev

set_option Elab.async false
set_option linter.all false
set_option maxRecDepth 100000
namespace Ev
open PySem PySem.Spec PyProof.Rows L2 NdefX
/-! ### own exception classes: what is told of them -/
def memS (s : Stmt) (j : Nat) : Stmt := match s with
  | .ClassDef _ _ _ body _ _ _ _ _ _ _ => body.getD j (.Pass ⟨0, 0, 0, 0⟩)
  | _ => .Pass ⟨0, 0, 0, 0⟩
/-- an __init__ by its text alone: f the first field -/
structure StatI (f : String) (fs : List String) (st : Stmt) (qual : Str) : Prop where
  sc : nscB ((("self" : Str) :: (f :: fs).map Str.ofString) ++ [("__class__" : Str)]) (("self" : Str) :: (f :: fs).map Str.ofString) [("__class__" : Str)] (defScope st) = true
  hk : (defScope st).names.lookup ("super" : Str) = some .globalImplicit
  hh : ∃ ar, ((defArgs st).posonlyargs ++ (defArgs st).args).head? = some ar ∧ ar.arg = ("self" : Str)
  hb : initB ((("self" : Str) :: (f :: fs).map Str.ofString) ++ [("__class__" : Str)]) (defScope st) "self" ((f :: fs).map Str.ofString) (defBody st) = true
  bd : ∀ (cl : List (Str × Addr)) (kV doc pm : Value) (an : Option Addr) (cdv ct : Value) (us : List Value), us.length = (("self" : Str) :: (f :: fs).map Str.ofString).length →
    bindArgs (PySem.W.fnX "__init__" qual (defArgs st) (defBody st) (defScope st) cl .none kV doc pm an cdv ct) ⟨us, []⟩ = pure ((("self" : Str) :: (f :: fs).map Str.ofString).zip us)
  ln : fs.length ≤ 100
section
variable {P : Program} {w : World} {K : PySem.W.Frag} {mg : Str → Option Value} {h : Heap}
theorem ini_mk {f : String} {fs : List String} {st : Stmt} {qual : Str} (s : StatI f fs st qual) {C fI cc cda : Addr} {oc : Value} {od an : Option Addr} {sl : Array (Option Value)} {kV doc pm ct : Value} {ccl : Value} {cdd : Option Addr} {vs : Array Value} {ccs : Array (Option Value)} {file : Str} {tf : Tok} {cl : Value} {cld : Option Addr} {csl : Array (Option Value)}
    {nm q : Str} {N : Addr} {bs bm : List Value} {sn : List Str} {sub : List Value} {ab : Bool} {col : Option Bool} {dd : Option Addr} {k0 k1 k2 k3 k5 : Option Value}
    (iC : PySem.W.findIn K (.ref C) "__init__" = some (some (.ref fI)))
    (l : K.lookup fI = some ⟨oc, od, .func (PySem.W.fnX "__init__" qual (defArgs st) (defBody st) (defScope st) [(("__class__" : Str), cc)] .none kV doc pm an (.ref cda) ct), sl⟩)
    (tI : PySem.W.typeIn K (.ref fI) = some (.type "function")) (cd : PySem.W.codeIn K (.ref cda) qual = true)
    (lc : K.lookup cda = some ⟨ccl, cdd, .fields vs, ccs⟩) (v2 : vs[2]? = some (.str file tf)) (hf : ((P.main.file : Str) == file) = true)
    (lcc : K.lookup cc = some ⟨cl, cld, .cell (some (.ref C)), csl⟩) (sup : PySem.W.nsIn K mainGlobals "super" = some none) (thp : PySem.W.nsIn K cStatics "thirdparty.any" = some none)
    (ini : PySem.W.ks_superIn K C C "__init__" = some (some (.builtin "ValueError.__init__"))) (isV : PySem.W.subIn K (.ref C) (.type "ValueError") = some true) (top : (P.main.scope.names.lookup ("super" : Str)).isSome = false)
    (hC : K.lookup C = some (excClassObj nm q C N bs bm true sn sub ab col dd k0 k1 k2 k3 k5 "ValueError.__new__")) (hbm : PySem.HandSPX.refsVE bm = true) (sa : PySem.W.findIn K (.ref C) "__setattr__" = some (some (.builtin "object.__setattr__")))
    (exC : PySem.W.subIn K (.ref C) (.type "BaseException") = some true) (tyC : PySem.W.typeIn K (.ref C) = some (.type "type")) (kC : PySem.W.keepIn K (.ref C) = true)
    (fld : ∀ g ∈ f :: fs, PySem.W.findIn K (.ref C) (Str.ofString g) = some none) :
    OexC K C ∧ ∃ fI fd ps, PySem.W.findIn K (.ref C) "__init__" = some (some (.ref fI)) ∧ PySem.W.typeIn K (.ref fI) = some (.type "function") ∧ Binds K fd ps [] ∧
      ∀ base, FnOk P w K mg base (L2.CX P w) 0 fI fd ps (spI C ((f :: fs).map Str.ofString)) := by
  have T : OexC K C := ⟨⟨nm, q, N, bs, bm, sn, sub, ab, col, dd, k0, k1, k2, k3, k5, hC, hbm⟩, sa, exC, tyC, kC⟩
  refine ⟨T, fI, PySem.W.fnX "__init__" qual (defArgs st) (defBody st) (defScope st) [(("__class__" : Str), cc)] .none kV doc pm an (.ref cda) ct, _, iC, tI, Binds.all (s.bd _ _ _ _ _ _ _), fun base => ?_⟩
  exact init_ok (F := ⟨"__init__", qual, defArgs st, defBody st, defScope st, [(("__class__" : Str), cc)], cda⟩) T ⟨⟨oc, od, sl, l⟩, ⟨_, _, _, _, _, _, rfl⟩, rfl, cd, ⟨ccl, cdd, vs, ccs, file, tf, lc, v2, hf⟩, ⟨cl, cld, csl, lcc⟩, sup, thp, ini, isV, top⟩ (nscope_by s.sc) ⟨by decide, by decide⟩ s.hk s.hh s.hb
    (fun g hg => by
      obtain ⟨g', hg', rfl⟩ := List.mem_map.mp (show g ∈ (f :: fs).map Str.ofString from hg)
      exact fld g' hg') (by rw [List.length_map]; exact s.ln)
theorem gs_cons {K : PySem.W.Frag} {h : Heap} {mg : Str → Option Value} {kfs : List KC} {xcs : List XC} (X : K.In h) (G : h.Ns mainGlobals mg) {x : Str} {i : Int} {t : Tok} {gs : List (Str × D)} (a : PySem.W.nsIn K mainGlobals x = some (some (.int i t)))
    (r : ∀ q ∈ gs, ∃ v u, mg q.1 = some u ∧ RelV v u ∧ ∀ ρ H, Rep (kx K kfs xcs) ρ H q.2 v) : ∀ q ∈ (x, D.int i) :: gs, ∃ v u, mg q.1 = some u ∧ RelV v u ∧ ∀ ρ H, Rep (kx K kfs xcs) ρ H q.2 v :=
  List.forall_mem_cons.mpr ⟨⟨.int i, .int i t, PySem.W.mg_of X G a, ⟨t, rfl⟩, fun _ _ => rfl⟩, r⟩
theorem hs_cons {K : PySem.W.Frag} {C Cr : Addr} {q r : XC} {rs : List XC} {b : Bool} (y1 : PySem.W.nsIn K mainGlobals (Str.ofString r.name) = some (some (.ref Cr))) (y2 : PySem.W.subIn K (.ref C) (.ref Cr) = some b) (y3 : PySem.W.kitOne K (.ref C) (.ref Cr) = some b) (y4 : decide (r.name ∈ q.anc) = b)
    (k : ∀ r ∈ rs, ∃ Cr b, PySem.W.nsIn K mainGlobals (Str.ofString r.name) = some (some (.ref Cr)) ∧ PySem.W.subIn K (.ref C) (.ref Cr) = some b ∧ PySem.W.kitOne K (.ref C) (.ref Cr) = some b ∧ decide (r.name ∈ q.anc) = b) :
    ∀ r' ∈ r :: rs, ∃ Cr b, PySem.W.nsIn K mainGlobals (Str.ofString r'.name) = some (some (.ref Cr)) ∧ PySem.W.subIn K (.ref C) (.ref Cr) = some b ∧ PySem.W.kitOne K (.ref C) (.ref Cr) = some b ∧ decide (r'.name ∈ q.anc) = b :=
  List.forall_mem_cons.mpr ⟨⟨Cr, b, y1, y2, y3, y4⟩, k⟩
theorem xok_mk {xcs : List XC} {q : XC} {C : Addr} (X : K.In h) (G : h.Ns mainGlobals mg) (a : PySem.W.nsIn K mainGlobals (Str.ofString q.name) = some (some (.ref C)))
    (hs : ∀ r ∈ xcs, ∃ Cr b, PySem.W.nsIn K mainGlobals (Str.ofString r.name) = some (some (.ref Cr)) ∧ PySem.W.subIn K (.ref C) (.ref Cr) = some b ∧ PySem.W.kitOne K (.ref C) (.ref Cr) = some b ∧ decide (r.name ∈ q.anc) = b)
    (xf1 : PySem.W.findIn K (.ref C) "__getattribute__" = some (some (.builtin "BaseException.__getattribute__"))) (xf2 : PySem.W.findIn K (.ref C) "__getattr__" = some none) (xf3 : PySem.W.subIn K (.ref C) (.type "BaseException") = some true) (xf4 : PySem.W.hasDictIn K C = true)
    (ha : PySem.W.findIn K (.ref C) "__class__" = some (some (.builtin "object.__class__"))) (hn : PySem.W.specialIn K (.builtin "object.__class__") "__get__" = some (some (.builtin "getset_descriptor.__get__"))) (ht : PySem.W.takesIn K (.builtin "object.__class__") = some true) (hm : PySem.W.mroIn K C (.type "object") = some true)
    (ty : PySem.W.typeIn K (.ref C) = some (.type "type")) (fld : ∀ r ∈ xcs, ∀ f ∈ r.fields, PySem.W.findIn K (.ref C) (Str.ofString f) = some none)
    (ini : q.fields = [] ∨ (OexC K C ∧ ∃ fI fd ps, PySem.W.findIn K (.ref C) "__init__" = some (some (.ref fI)) ∧ PySem.W.typeIn K (.ref fI) = some (.type "function") ∧ Binds K fd ps [] ∧
      ∀ base, FnOk P w K mg base (L2.CX P w) 0 fI fd ps (spI C (q.fields.map Str.ofString)))) : XOk P w K mg (caOf K) xcs q := by
  have e := caOf_eq a
  refine ⟨by rw [e]; exact PySem.W.mg_of X G a, fun r hr => ?_, ?_, ?_, by rw [e]; exact ty, fun r hr => ?_, fun r hr f hf => by rw [e]; exact fld r hr f hf, fun ne => by rw [e]; exact ini.resolve_left ne⟩
  · obtain ⟨Cr, b, h1, h2, h3, rfl⟩ := hs r hr
    rw [e, caOf_eq h1]
    exact h2
  · rw [e]; exact ⟨xf1, xf2, xf3, xf4⟩
  · rw [e]; exact ⟨xf1, xf2, xf3, xf4, ha, hn, ht, hm⟩
  · obtain ⟨Cr, b, h1, h2, h3, rfl⟩ := hs r hr
    rw [e, caOf_eq h1]
    exact h3
end
end Ev

set_option Elab.async false
set_option linter.all false
set_option maxRecDepth 100000
namespace Ev
open PySem PySem.Spec PyProof.Rows L2

/-! ### evaluation by its equations -/
section
variable {α β : Type} {a : α} {x : Xn} {h h' : Hd} {s : Sd} {d d1 d2 : D} {i j : Int} {b c : Bool} {l n : Nat} {xs ys : List D}
theorem bind_ok' {f : α → Hd → R β} : (R.ok a h).bind f = f a h := rfl
theorem bind_no {f : α → Hd → R β} : (R.no : R α).bind f = .no := rfl
theorem thn_ok {f : α → Hd → RS} : (R.ok a h).thn s f = f a h := rfl
theorem thn_no {f : α → Hd → RS} : (R.no : R α).thn s f = .no := rfl
theorem seq_nx {f : Sd → Hd → RS} : (RS.nx s h).seq f = f s h := rfl
theorem seq_ret {f : Sd → Hd → RS} : (RS.ret d h).seq f = .ret d h := rfl
theorem seq_bk {f : Sd → Hd → RS} : (RS.bk s h).seq f = .bk s h := rfl
theorem seq_ct {f : Sd → Hd → RS} : (RS.ct s h).seq f = .ct s h := rfl
theorem seq_ite {p : Prop} [Decidable p] {u v : RS} {f : Sd → Hd → RS} : (if p then u else v).seq f = if p then u.seq f else v.seq f := by split <;> rfl
theorem mkM_v {v : Sd → Hd → R D} : (mkM v).v = v := rfl
theorem mkM_t {v : Sd → Hd → R D} {s h} : (mkM v).t s h = (v s h).bind fun x h1 => Rb (truth h1 x) h1 := rfl
theorem mkM_q {v : Sd → Hd → R D} {s h} : (mkM v).q s h = (v s h).bind fun x h1 => match seqOf h1 x with
    | some xs => .ok xs h1
    | none => .no := rfl
theorem mkM_i {v : Sd → Hd → R D} {s h} : (mkM v).i s h = (v s h).bind fun x h1 => itD x h1 := rfl
theorem mkM_p {v : Sd → Hd → R D} {s h} : (mkM v).p s h = (v s h).bind fun x h1 => match x with
    | .int i => .ok (some i) h1
    | _ => .no := rfl
theorem allV_nil : allV [] s h = .ok [] h := rfl
theorem allV_cons {m : M} {ms : List M} : allV (m :: ms) s h = (m.v s h).bind fun x h1 => (allV ms s h1).bind fun xs h2 => .ok (x :: xs) h2 := rfl
theorem andV_one {m : M} : andV [m] s h = m.v s h := rfl
theorem andV_cons {m m2 : M} {ms : List M} : andV (m :: m2 :: ms) s h = (m.v s h).bind fun x h1 => match x with
    | .bl b => if b then andV (m2 :: ms) s h1 else .ok (.bl false) h1
    | _ => .no := rfl
theorem orV_one {m : M} : orV [m] s h = m.v s h := rfl
theorem orV_cons {m m2 : M} {ms : List M} : orV (m :: m2 :: ms) s h = (m.v s h).bind fun x h1 => match x with
    | .bl b => if b then .ok (.bl true) h1 else orV (m2 :: ms) s h1
    | _ => .no := rfl
theorem andT_one {m : M} : andT [m] s h = m.t s h := rfl
theorem andT_cons {m m2 : M} {ms : List M} : andT (m :: m2 :: ms) s h = (m.t s h).bind fun b h1 => if b then andT (m2 :: ms) s h1 else .ok false h1 := rfl
theorem orT_one {m : M} : orT [m] s h = m.t s h := rfl
theorem orT_cons {m m2 : M} {ms : List M} : orT (m :: m2 :: ms) s h = (m.t s h).bind fun b h1 => if b then .ok true h1 else orT (m2 :: ms) s h1 := rfl
theorem ifsT_nil : ifsT [] s h = .ok true h := rfl
theorem ifsT_one {m : M} : ifsT [m] s h = m.t s h := rfl
theorem addD_int : addD h (.int i) (.int j) = .ok (.int (i + j)) h := rfl
theorem subD_int : subD h (.int i) (.int j) = .ok (.int (i - j)) h := rfl
theorem mulD_int : mulD h (.int i) (.int j) = if CMulW i j then .ok (.int (i * j)) h else .no := rfl
theorem intD_int {C : Int → Int → Prop} [∀ i j, Decidable (C i j)] {g : Int → Int → Int} : Ev.intD h C g (.int i) (.int j) = if C i j then .ok (.int (g i j)) h else .no := rfl
theorem addD_tup : addD h (.tup xs) (.tup ys) = if xs.length + ys.length ≤ sizeLine then .ok (.tup (xs ++ ys)) h else .no := rfl
theorem ordD_int {g : Int → Int → Bool} : ordD g (.int i) (.int j) = some (g i j) := rfl
theorem eqD_int : eqD h (.int i) (.int j) = some (i == j) := rfl
theorem eqD_bl : eqD h (.bl b) (.bl c) = some (b == c) := rfl
theorem Rv_some : Rv (some b) h = .ok (.bl b) h := rfl
theorem Rb_some : Rb (some b) h = .ok b h := rfl
theorem truth_bl : truth h (.bl b) = some b := rfl
theorem truth_int : truth h (.int i) = some (i != 0) := rfl
theorem seqOf_tup : seqOf h (.tup xs) = some xs := rfl
theorem seqOf_fl : seqOf h (.fl xs) = some xs := rfl
theorem seqOf_ref : seqOf h (.ref l) = Hd.lst h l := rfl
theorem ixD_int : ixD d (.int i) h = match (seqOf h d).bind fun xs => atI xs i with
    | some d => .ok d h
    | none => .no := rfl
theorem lenD_eq : lenD d h = match seqOf h d with
    | some xs => .ok (.int xs.length) h
    | none => .no := rfl
theorem bifD_len : bifD .len [d] h = lenD d h := rfl
theorem bifD_abs : bifD .abs [.int i] h = .ok (.int (if i < 0 then -i else i)) h := rfl
theorem bifD_int : bifD .int [.int i] h = .ok (.int i) h := rfl
theorem bifD_intb : bifD .int [.bl b] h = .ok (.int (if b then 1 else 0)) h := rfl
theorem bifD_min : bifD .min2 [.int i, .int j] h = .ok (.int (if j < i then j else i)) h := rfl
theorem bifD_max : bifD .max2 [.int i, .int j] h = .ok (.int (if j > i then j else i)) h := rfl
theorem sqD_tup : sqD .tuple xs h = .ok (.tup xs) h := rfl
theorem sqD_len : sqD .len xs h = .ok (.int xs.length) h := rfl
theorem sqD_list : sqD .list xs h = new xs h := rfl
theorem sqD_sum : sqD .sum xs h = match intsOf xs with
    | some is => .ok (.int is.sum) h
    | none => .no := rfl
theorem isTy_non {ty : Ty} : isTy ty h .non = some false := rfl
theorem isTy_bl {ty : Ty} : isTy ty h (.bl b) = some (ty == .bool || ty == .int) := rfl
theorem isTy_int {ty : Ty} : isTy ty h (.int i) = some (ty == .int) := rfl
theorem isTy_str {ty : Ty} {z : Str} : isTy ty h (.str z) = some (ty == .str) := rfl
theorem isTy_tup {ty : Ty} : isTy ty h (.tup xs) = some (ty == .tuple) := rfl
theorem isTy_fl {ty : Ty} : isTy ty h (.fl xs) = some (ty == .list) := rfl
theorem isTy_ref {ty : Ty} : isTy ty h (.ref l) = (Hd.lst h l).map fun _ => ty == .list := rfl
theorem popD_ref : popD (.ref l) h = match Hd.lst h l with
    | some xs => match xs[xs.length - 1]? with
      | some d => .ok d (setL l xs.dropLast h)
      | none => .no
    | none => .no := rfl
theorem appD_ref : appD (.ref l) d h = match Hd.lst h l with
    | some xs => if xs.length < sizeLine then .ok .non (setL l (xs ++ [d]) h) else .no
    | none => .no := rfl
theorem setD_ref : setD (.ref l) (.int i) d h = match Hd.lst h l with
    | some xs => match ixN xs.length i with
      | some k => .ok .non (setL l (xs.set k d) h)
      | none => .no
    | none => .no := rfl
theorem isL_ref : isL h (.ref l) = (Hd.lst h l).isSome := rfl
theorem putT_v {i : Nat} : putT (.v i) d s = some (s.set i (some d)) := rfl
theorem putT_t {ts : List T} : putT (.t ts) (.tup xs) s = putTs ts xs s := rfl
theorem putTs_nil : putTs [] [] s = some s := rfl
theorem putTs_cons {t : T} {ts : List T} : putTs (t :: ts) (d :: xs) s = (putT t d s).bind fun s' => putTs ts xs s' := rfl
theorem new_eq : new xs h = .ok (.ref h.length) (h ++ [.lst xs]) := rfl
theorem itD_tup : itD (.tup xs) h = .ok (.fx xs) h := rfl
theorem itD_fl : itD (.fl xs) h = .ok (.fx xs) h := rfl
theorem itD_ref : itD (.ref l) h = match Hd.lst h l with
    | some xs => .ok (.lc l xs.length) h
    | none => .no := rfl
theorem rng1_int : rng1D (.int j) h = if small62 j then .ok (.fx (rangeD 0 j.toNat)) h else .no := rfl
theorem rng2_int : rng2D (.int i) (.int j) h = if small62 i && small62 j then .ok (.fx (rangeD i (j - i).toNat)) h else .no := rfl
theorem fin_ret : fin h' (.ret d h) = trunc h' d h := rfl
theorem fin_nx : fin h' (.nx s h) = trunc h' .non h := rfl
theorem quiet_ok : (R.ok a h).quiet = .ok a h := rfl
theorem loopS_zero {f : D → Sd → Hd → RS} {v : Iv} {i : Nat} : loopS f v 0 i s h = if v.fin h then .nx s h else .no := rfl
theorem startD_eq {f : Fn} : startD f xs = xs.map some ++ List.replicate (f.names.length - xs.length) none := rfl
theorem atI_0 : atI (d :: xs) 0 = some d := atI_nat (j := 0) rfl
theorem atI_k {α : Type} {xs : List α} {k : Nat} {d : α} (h : xs[k]? = some d) : atI xs (k : Int) = some d := atI_nat h
theorem small_k {n : Nat} (h : n < 2 ^ 62) : small62 (n : Int) = true := by
  unfold small62
  simp only [Bool.and_eq_true, decide_eq_true_eq]
  omega
theorem small_i (h1 : 0 ≤ i) (h2 : i < 2 ^ 62) : small62 i = true := by
  unfold small62
  simp only [Bool.and_eq_true, decide_eq_true_eq]
  omega
theorem call_eq {G : Str → Option D} {T : String → Option Fn} {F k : Nat} {f : String} {fn : Fn} {ds : List D} {h : Hd} (hT : T f = some fn) (hn : ds.length = fn.np) : callF G T F (k + 1) f ds h = fin h (evSs G (callF G T F k) F fn.body (startD fn ds) h) := by
  simp only [callF, hT, hn, if_true]

/-! ### heaps -/
theorem lst_new : Hd.lst (h ++ [.lst xs]) h.length = some xs := by simp [Hd.lst]
theorem lst_old {o : Hd} (e : Hd.lst h l = some xs) : Hd.lst (h ++ o) l = some xs := by
  have e := Hd.lst_eq e
  have hl := (List.getElem?_eq_some_iff.mp e).1
  unfold Hd.lst
  rw [List.getElem?_append_left hl, e]
theorem lst_set (e : Hd.lst h l = some xs) : Hd.lst (setL l ys h) l = some ys := by
  have hl := (List.getElem?_eq_some_iff.mp (Hd.lst_eq e)).1
  unfold Hd.lst setL
  rw [List.getElem?_set_self hl]
theorem lst_set_ne {m : Nat} (n : m ≠ l) : Hd.lst (setL l ys h) m = Hd.lst h m := by
  unfold Hd.lst setL
  rw [List.getElem?_set_ne (Ne.symm n)]
theorem set_len : (setL l ys h).length = h.length := by simp [setL]
theorem set_set : setL l xs (setL l ys h) = setL l xs h := by simp [setL]
theorem set_app {o : Hd} (e : l < h.length) : setL l ys (h ++ o) = setL l ys h ++ o := by simp [setL, List.set_append_left _ _ e]
theorem set_new : setL h.length ys (h ++ [.lst xs]) = h ++ [.lst ys] := by simp [setL]
theorem lst_lt (e : Hd.lst h l = some xs) : l < h.length := (List.getElem?_eq_some_iff.mp (Hd.lst_eq e)).1

theorem popD_snoc {d : D} (e : Hd.lst h l = some (xs ++ [d])) : popD (.ref l) h = .ok d (setL l xs h) := by
  rw [popD_ref, e]
  simp
theorem appD_ok {d : D} (e : Hd.lst h l = some xs) (hz : xs.length < sizeLine) : appD (.ref l) d h = .ok .non (setL l (xs ++ [d]) h) := by
  rw [appD_ref, e]
  simp only [if_pos hz]
theorem setD_0 {d x : D} (e : Hd.lst h l = some (x :: xs)) : setD (.ref l) (.int 0) d h = .ok .non (setL l (d :: xs) h) := by
  rw [setD_ref, e]
  have : ixN (x :: xs).length 0 = some 0 := by
    unfold ixN
    rw [if_pos (by omega), if_pos (by simp)]
    rfl
  simp only [this, List.set_cons_zero]
theorem setD_k {d : D} {k : Nat} (e : Hd.lst h l = some xs) (hk : k < xs.length) : setD (.ref l) (.int k) d h = .ok .non (setL l (xs.set k d) h) := by
  rw [setD_ref, e]
  have : ixN xs.length k = some k := by
    unfold ixN
    rw [if_pos (by omega), if_pos (by omega)]
    rfl
  simp only [this]
/-! ### a call's end -/
theorem old_refl (n : Nat) : ∀ (h o : Hd), old n h (h ++ o) = true
  | [], o => rfl
  | .lst xs :: h, o => by simp [old, beqO, beqDs_refl, old_refl n h o]
theorem trunc_same {o : Hd} (hd : below h.length d = true) : trunc h d (h ++ o) = .ok d h := by
  unfold trunc
  rw [if_pos (old_refl _ _ _), if_pos hd, List.take_left]
theorem trunc_id (hd : below h.length d = true) : trunc h d h = .ok d h := by
  have := trunc_same (o := []) hd
  rwa [List.append_nil] at this
/-- one list of what stood has been written -/
theorem old_set {n : Nat} (hb : belows n ys = true) : ∀ (h o : Hd) (l : Nat), old n h (setL l ys h ++ o) = true
  | [], o, l => rfl
  | .lst xs :: h, o, 0 => by
    show old n (.lst xs :: h) (.lst ys :: (h ++ o)) = true
    simp [old, belowO, hb, old_refl n h o]
  | .lst xs :: h, o, l + 1 => by
    show old n (.lst xs :: h) (.lst xs :: (setL l ys h ++ o)) = true
    simp [old, beqO, beqDs_refl, old_set hb h o l]
theorem trunc_set {o : Hd} (hb : belows h.length ys = true) (hd : below h.length d = true) : trunc h d (setL l ys h ++ o) = .ok d (setL l ys h) := by
  unfold trunc
  rw [if_pos (old_set hb _ _ _), if_pos hd, ← set_len (l := l) (ys := ys) (h := h), List.take_left]
theorem trunc_set0 (hb : belows h.length ys = true) (hd : below h.length d = true) : trunc h d (setL l ys h) = .ok d (setL l ys h) := by
  have := trunc_set (l := l) (o := []) hb hd
  rwa [List.append_nil] at this
theorem belows_ints {n : Nat} : ∀ is : List Int, belows n (is.map D.int) = true
  | [] => rfl
  | i :: is => by simp [belows, below, belows_ints is]
/-- a list handed back -/
theorem trunc_list {o : Hd} (e : Hd.lst (h ++ o) l = some xs) (hl : h.length ≤ l) (hb : belows h.length xs = true) : trunc h (.ref l) (h ++ o) = .ok (.ref h.length) (h ++ [.lst xs]) := by
  unfold trunc
  rw [if_pos (old_refl _ _ _), if_neg (by simp [below]; omega)]
  simp only [e, if_pos (show h.length ≤ l ∧ belows h.length xs = true from ⟨hl, hb⟩), List.take_left]
end

theorem below_int {n : Nat} {i : Int} : below n (.int i) = true := Eq.trans (b := true) rfl rfl
theorem below_bl {n : Nat} {i : Bool} : below n (.bl i) = true := Eq.trans (b := true) rfl rfl
theorem below_non {n : Nat} : below n .non = true := Eq.trans (b := true) rfl rfl
theorem below_str {n : Nat} {i : Str} : below n (.str i) = true := Eq.trans (b := true) rfl rfl
theorem below_tup {n : Nat} {xs : List D} : below n (.tup xs) = belows n xs := Eq.trans (b := belows n xs) rfl rfl
theorem belows_nil {n : Nat} : belows n [] = true := Eq.trans (b := true) rfl rfl
theorem belows_cons {n : Nat} {x : D} {xs : List D} : belows n (x :: xs) = (below n x && belows n xs) := Eq.trans (b := (below n x && belows n xs)) rfl rfl
theorem len_fx {xs : List D} : (Iv.fx xs).len = xs.length := rfl
theorem len_lc {l n : Nat} : (Iv.lc l n).len = n := rfl
theorem rangeD_len {lo : Int} {n : Nat} : (rangeD lo n).length = n := by simp [rangeD]
theorem wipeD_nil {s : Sd} : wipeD s [] = s := rfl
theorem wipeD_cons {s : Sd} {v : Nat} {vs : List Nat} : wipeD s (v :: vs) = (wipeD s vs).set v none := rfl
theorem cmul_r {i j : Int} (h1 : -(2 ^ 64) < j) (h2 : j < 2 ^ 64) : CMul i j := .inr ⟨h1, h2⟩
theorem cmul_l {i j : Int} (h1 : -(2 ^ 64) < i) (h2 : i < 2 ^ 64) : CMul i j := .inl ⟨h1, h2⟩
theorem fmod_lt' {i m : Int} (hm : 0 < m) : 0 ≤ i.fmod m ∧ i.fmod m < m := by
  rw [Int.fmod_eq_emod_of_nonneg _ (by omega)]
  exact ⟨Int.emod_nonneg _ (by omega), Int.emod_lt_of_pos _ hm⟩
theorem ne_of_pos {m : Int} (hm : 0 < m) : m ≠ 0 := by omega
theorem intsOf_map : ∀ is : List Int, intsOf (is.map D.int) = some is
  | [] => rfl
  | i :: is => by simp [intsOf, intsOf_map is]
theorem blsOf_map : ∀ is : List Bool, blsOf (is.map D.bl) = some is
  | [] => rfl
  | i :: is => by simp [blsOf, blsOf_map is]
theorem sqD_sum' {is : List Int} {h : Hd} : sqD .sum (is.map D.int) h = .ok (.int is.sum) h := by rw [sqD_sum, intsOf_map]
/-! ### ends -/
def Tot {α : Type} (r : R α) (Q : α → Hd → Prop) : Prop := match r with
  | .ok a h => Q a h
  | _ => False
theorem Tot_ok {α : Type} {a : α} {h : Hd} {Q : α → Hd → Prop} : Tot (.ok a h) Q = Q a h := rfl
theorem Tot.elim {α : Type} {r : R α} {Q : α → Hd → Prop} (t : Tot r Q) : ∃ a h, r = .ok a h ∧ Q a h := by
  cases r with
  | ok a h => exact ⟨a, h, rfl, t⟩
  | err _ _ => exact False.elim t
  | no => exact False.elim t
/-! ### loops -/
section
variable {h : Hd} {xs : List D}
/-- a comprehension whose turns change nothing -/
theorem loopC_pure {f : D → Hd → R (Option D)} {g : D → D} (hz : xs.length ≤ sizeLine) (hf : ∀ x ∈ xs, f x h = .ok (some (g x)) h) : loopC f (.fx xs) xs.length 0 [] h = .ok (xs.map g) h := by
  have go : ∀ (n i : Nat) (acc : List D), i + n = xs.length → acc = (xs.take i).map g → loopC f (.fx xs) n i acc h = .ok (xs.map g) h := by
    intro n
    induction n with
    | zero =>
      intro i acc e1 e2
      have : xs.take i = xs := List.take_of_length_le (by omega)
      simp only [loopC, Iv.fin, if_true, e2, this]
    | succ n ih =>
      intro i acc e1 e2
      have hi : i < xs.length := by omega
      have e3 : (Iv.fx xs).get i h = some xs[i] := List.getElem?_eq_getElem hi
      simp only [loopC, e3, hf _ (List.getElem_mem hi), bind_ok']
      rw [if_pos (by rw [e2]; simp; omega)]
      refine ih (i + 1) _ (by omega) ?_
      rw [e2, List.take_add_one, List.getElem?_eq_getElem hi]
      simp only [Option.toList_some, List.map_append, List.map_cons, List.map_nil]
  exact go xs.length 0 [] (by omega) rfl
/-- .. over a range -/
theorem loopC_range {f : D → Hd → R (Option D)} {g : Nat → D} {lo : Int} {n : Nat} (hz : n ≤ sizeLine) (hf : ∀ i, i < n → f (.int (lo + (i : Nat))) h = .ok (some (g i)) h) : loopC f (.fx (rangeD lo n)) n 0 [] h = .ok ((List.range n).map g) h := by
  have go : ∀ (m i : Nat) (acc : List D), i + m = n → acc = (List.range i).map g → loopC f (.fx (rangeD lo n)) m i acc h = .ok ((List.range n).map g) h := by
    intro m
    induction m with
    | zero =>
      intro i acc e1 e2
      have : i = n := by omega
      subst this
      simp only [loopC, Iv.fin, if_true, e2]
    | succ m ih =>
      intro i acc e1 e2
      have hi : i < n := by omega
      have e3 : (Iv.fx (rangeD lo n)).get i h = some (.int (lo + (i : Nat))) := by
        show (rangeD lo n)[i]? = _
        simp [rangeD, hi]
      simp only [loopC, e3, hf i hi, bind_ok']
      rw [if_pos (by rw [e2]; simp; omega)]
      refine ih (i + 1) _ (by omega) ?_
      rw [e2, List.range_succ]
      simp
  exact go n 0 [] (by omega) rfl
/-- a comprehension whose turns may change the heap: an invariant -/
theorem loopC_inv {f : D → Hd → R (Option D)} (P : Nat → List D → Hd → Prop) (hz : xs.length ≤ sizeLine) (hf : ∀ i x acc h, xs[i]? = some x → acc.length = i → P i acc h → ∃ y h', f x h = .ok (some y) h' ∧ P (i + 1) (acc ++ [y]) h') (h0 : P 0 [] h) :
    ∃ ys h', loopC f (.fx xs) xs.length 0 [] h = .ok ys h' ∧ ys.length = xs.length ∧ P xs.length ys h' := by
  have go : ∀ (n i : Nat) (acc : List D) (h : Hd), i + n = xs.length → acc.length = i → P i acc h → ∃ ys h', loopC f (.fx xs) n i acc h = .ok ys h' ∧ ys.length = xs.length ∧ P xs.length ys h' := by
    intro n
    induction n with
    | zero =>
      intro i acc h e1 e2 p
      have : i = xs.length := by omega
      subst this
      exact ⟨acc, h, by simp only [loopC, Iv.fin, if_true], e2, p⟩
    | succ n ih =>
      intro i acc h e1 e2 p
      have hi : i < xs.length := by omega
      have e3 : (Iv.fx xs).get i h = some xs[i] := List.getElem?_eq_getElem hi
      obtain ⟨y, h', e4, p'⟩ := hf i xs[i] acc h (List.getElem?_eq_getElem hi) e2 p
      simp only [loopC, e3, e4, bind_ok']
      rw [if_pos (by omega)]
      exact ih (i + 1) _ h' (by omega) (by simp [e2]) p'
  exact go xs.length 0 [] h (by omega) rfl h0
/-- a for that goes through: an invariant; a turn may end by continue -/
theorem loopS_inv {f : D → Sd → Hd → RS} {s : Sd} (P : Nat → Sd → Hd → Prop) (hf : ∀ i x s h, xs[i]? = some x → P i s h → ∃ s' h', (f x s h = .nx s' h' ∨ f x s h = .ct s' h') ∧ P (i + 1) s' h') (h0 : P 0 s h) :
    ∃ s' h', loopS f (.fx xs) xs.length 0 s h = .nx s' h' ∧ P xs.length s' h' := by
  have go : ∀ (n i : Nat) (s : Sd) (h : Hd), i + n = xs.length → P i s h → ∃ s' h', loopS f (.fx xs) n i s h = .nx s' h' ∧ P xs.length s' h' := by
    intro n
    induction n with
    | zero =>
      intro i s h e1 p
      have : i = xs.length := by omega
      subst this
      exact ⟨s, h, by simp only [loopS, Iv.fin, if_true], p⟩
    | succ n ih =>
      intro i s h e1 p
      have hi : i < xs.length := by omega
      have e3 : (Iv.fx xs).get i h = some xs[i] := List.getElem?_eq_getElem hi
      obtain ⟨s', h', e4, p'⟩ := hf i xs[i] s h (List.getElem?_eq_getElem hi) p
      obtain ⟨s2, h2, e5, p5⟩ := ih (i + 1) s' h' (by omega) p'
      refine ⟨s2, h2, ?_, p5⟩
      rcases e4 with e4 | e4 <;> simp only [loopS, e3, e4, e5]
  exact go xs.length 0 s h (by omega) h0
/-- .. or leaves by break, or goes through -/
theorem loopS_brk {f : D → Sd → Hd → RS} {s : Sd} (P : Nat → Sd → Hd → Prop) (Q : Sd → Hd → Prop) (hf : ∀ i x s h, xs[i]? = some x → P i s h → ∃ s' h', ((f x s h = .nx s' h' ∨ f x s h = .ct s' h') ∧ P (i + 1) s' h') ∨ (f x s h = .bk s' h' ∧ Q s' h')) (hq : ∀ s h, P xs.length s h → Q s h) (h0 : P 0 s h) :
    ∃ s' h', loopS f (.fx xs) xs.length 0 s h = .nx s' h' ∧ Q s' h' := by
  have go : ∀ (n i : Nat) (s : Sd) (h : Hd), i + n = xs.length → P i s h → ∃ s' h', loopS f (.fx xs) n i s h = .nx s' h' ∧ Q s' h' := by
    intro n
    induction n with
    | zero =>
      intro i s h e1 p
      have : i = xs.length := by omega
      subst this
      exact ⟨s, h, by simp only [loopS, Iv.fin, if_true], hq _ _ p⟩
    | succ n ih =>
      intro i s h e1 p
      have hi : i < xs.length := by omega
      have e3 : (Iv.fx xs).get i h = some xs[i] := List.getElem?_eq_getElem hi
      obtain ⟨s', h', z⟩ := hf i xs[i] s h (List.getElem?_eq_getElem hi) p
      rcases z with ⟨e4, p'⟩ | ⟨e4, q⟩
      · obtain ⟨s2, h2, e5, p5⟩ := ih (i + 1) s' h' (by omega) p'
        refine ⟨s2, h2, ?_, p5⟩
        rcases e4 with e4 | e4 <;> simp only [loopS, e3, e4, e5]
      · exact ⟨s', h', by simp only [loopS, e3, e4], q⟩
  exact go xs.length 0 s h (by omega) h0
/-- a while, by a measure below F -/
theorem loopW_inv {c : Sd → Hd → R Bool} {f : Sd → Hd → RS} {s : Sd} {F : Nat} (P : Sd → Hd → Prop) (μ : Sd → Hd → Nat) (Q : RS → Prop) (hμ : μ s h < F)
    (hf : ∀ s h, P s h → (∃ h', c s h = .ok false h' ∧ Q (.nx s h')) ∨ (∃ h', c s h = .ok true h' ∧ ((∃ s2 h2, (f s h' = .nx s2 h2 ∨ f s h' = .ct s2 h2) ∧ P s2 h2 ∧ μ s2 h2 < μ s h) ∨ (∃ s2 h2, f s h' = .bk s2 h2 ∧ Q (.nx s2 h2)) ∨ (∃ d h2, f s h' = .ret d h2 ∧ Q (.ret d h2))))) (h0 : P s h) :
    Q (loopW c f F s h) := by
  induction F generalizing s h with
  | zero => omega
  | succ F ih =>
    rcases hf s h h0 with ⟨h', e, q⟩ | ⟨h', e, ⟨s2, h2, e2, p, m⟩ | ⟨s2, h2, e2, q⟩ | ⟨d, h2, e2, q⟩⟩
    · simp only [loopW, e, thn_ok, Bool.false_eq_true, if_false]; exact q
    · have := ih (s := s2) (h := h2) (by omega) p
      rcases e2 with e2 | e2 <;> (simp only [loopW, e, thn_ok, if_true, e2]; exact this)
    · simp only [loopW, e, thn_ok, if_true, e2]; exact q
    · simp only [loopW, e, thn_ok, if_true, e2]; exact q
end
end Ev

set_option Elab.async false
set_option linter.all false
set_option maxRecDepth 100000
namespace Ev
open PySem PySem.Spec PyProof.Rows L2
/-! ### evaluation by lazy equations: only at a written state, continuations stay folded -/
def getV : Sd → Nat → Hd → R D
  | [], _, _ => .no
  | x :: s, 0, h => match x with
    | some d => .ok d h
    | none => .no
  | _ :: s, i + 1, h => getV s i h
def globK (d : Option D) (h : Hd) : R D := match d with
  | some d => .ok d h
  | none => .no
def kB {β : Type} (m : M) (s : Sd) (f : D → D → Hd → R β) : D → Hd → R β := fun x h => (m.v s h).bind (f x)
def kT {β : Type} (m m' : M) (s : Sd) (f : D → D → D → Hd → R β) : D → Hd → R β := fun x h => (m.v s h).bind fun y h => (m'.v s h).bind (f x y)
def negK : D → Hd → R D := fun x h => match x with
  | .int i => .ok (.int (-i)) h
  | _ => .no
def cmpK (op : CmpOp) : D → D → Hd → R D := fun x y h => Rv (cmpD op x y h) h
def chK1 (op op' : CmpOp) (b c : M) (s : Sd) : D → Hd → R D := fun x h => (b.v s h).bind fun y h2 => (Rb (cmpD op x y h2) h2).bind fun k h3 => if k then (c.v s h3).bind (cmpK op' y) else .ok (.bl false) h3
def chK2 (op' : CmpOp) (y : D) (c : M) (s : Sd) : Bool → Hd → R D := fun k h3 => if k then (c.v s h3).bind (cmpK op' y) else .ok (.bl false) h3
def chK3 (op op' : CmpOp) (x : D) (c : M) (s : Sd) : D → Hd → R D := fun y h2 => (Rb (cmpD op x y h2) h2).bind (chK2 op' y c s)
def andK (ms : List M) (s : Sd) : D → Hd → R D := fun x h1 => match x with
  | .bl b => if b then andV ms s h1 else .ok (.bl false) h1
  | _ => .no
def orK (ms : List M) (s : Sd) : D → Hd → R D := fun x h1 => match x with
  | .bl b => if b then .ok (.bl true) h1 else orV ms s h1
  | _ => .no
def andTK (ms : List M) (s : Sd) : Bool → Hd → R Bool := fun b h1 => if b then andT ms s h1 else .ok false h1
def orTK (ms : List M) (s : Sd) : Bool → Hd → R Bool := fun b h1 => if b then .ok true h1 else orT ms s h1
def notK : D → Hd → R D := fun x h1 => match x with
  | .bl b => .ok (.bl (!b)) h1
  | _ => .no
def notTK : Bool → Hd → R Bool := fun b h1 => .ok (!b) h1
def iteK (a b : M) (s : Sd) : Bool → Hd → R D := fun k h1 => if k then a.v s h1 else b.v s h1
def tupK : List D → Hd → R D := fun xs h1 => if xs.length ≤ sizeLine then .ok (.tup xs) h1 else .no
def lstK : List D → Hd → R D := fun xs h1 => if xs.length ≤ sizeLine then new xs h1 else .no
def allK (ms : List M) (s : Sd) : D → Hd → R (List D) := fun x h1 => (allV ms s h1).bind fun xs h2 => .ok (x :: xs) h2
def consK (x : D) : List D → Hd → R (List D) := fun xs h2 => .ok (x :: xs) h2
def isiK (ty : Ty) : D → Hd → R D := fun x h1 => Rv (isTy ty h1 x) h1
def popAtK (m : M) (s : Sd) : D → Hd → R D := fun x h1 => if isL h1 x then (m.v s h1).bind (popAtD x) else .no
def appK (m : M) (s : Sd) : D → Hd → R D := fun x h1 => if isL h1 x then (m.v s h1).bind (appD x) else .no
def extK (m : M) (s : Sd) : D → Hd → R D := fun x h1 => if isL h1 x then (m.v s h1).bind (extD x) else .no
def extO (l n : Nat) (o o2 : Option (List D)) (h : Hd) : R D := match o, o2 with
  | some xs, some ys => if l ≠ n ∧ xs.length + ys.length ≤ sizeLine then .ok .non (setL l (xs ++ ys) h) else .no
  | _, _ => .no
def raiseK (c : String) (ff : List String) (s : Sd) : List D → Hd → RS := fun xs h1 => raiseD c ff xs s h1
def tryK (o : Option Bool) (x : Xn) (i : Nat) (hs : List HS) (s : Sd) (h : Hd) : RS := match o with
  | some b => if b then (if i < s.length then evHS x hs (s.set i none) h else .no) else .err x s h
  | none => .no
def hsR (o : Option D) (h : Hd) : RS := match o with
  | some d => .ret d h
  | none => .no
def hsI (o : Option Bool) (x : Xn) (r : HR) (k : List HS) (s : Sd) (h : Hd) : RS := match o with
  | some b => if b then hsR (evHR x r) h else evHS x k s h
  | none => .no
def hrT (o : Option (List D)) : Option D := match o with
  | some ds => if ds.length ≤ 100 then some (.tup ds) else none
  | none => none
def hqB (o : Option Bool) (x : Xn) (es : List HQ) : Option Bool := match o with
  | some b => if b then evHQs x es else some false
  | none => none
def haI (o : Option Bool) (x : Xn) (a b : HA) : Option D := match o with
  | some k => if k then evA x a else evA x b
  | none => none
def halC (o : Option D) (x : Xn) (as : List HA) : Option (List D) := match o with
  | some d => (evAl x as).map fun ds => d :: ds
  | none => none
def slK1 (a b : M) (s : Sd) : D → Hd → R D := fun x h1 => (a.p s h1).bind fun l h2 => (b.p s h2).bind (slD x l)
def slK2 (b : M) (s : Sd) (x : D) : Option Int → Hd → R D := fun l h2 => (b.p s h2).bind (slD x l)
def compK (f : D → Hd → R (Option D)) : Iv → Hd → R (List D) := fun j h1 => (loopC f j j.len 0 [] h1).quiet
def compN (f : D → Hd → R (Option D)) : Iv → Hd → R D := fun j h1 => (loopC f j j.len 0 [] h1).quiet.bind new
def truK : D → Hd → R Bool := fun x h1 => Rb (truth h1 x) h1
def seqK : D → Hd → R (List D) := fun x h1 => match seqOf h1 x with
    | some xs => .ok xs h1
    | none => .no
def intK : D → Hd → R (Option Int) := fun x h1 => match x with
    | .int i => .ok (some i) h1
    | _ => .no
def exprK (s : Sd) : D → Hd → RS := fun _ h1 => .nx s h1
def putK (o : Option Sd) (h : Hd) : RS := match o with
    | some s1 => .nx s1 h
    | none => .no
def asgK (t : T) (s : Sd) : D → Hd → RS := fun x h1 => putK (putT t x s) h1
def setK4 (s : Sd) : D → Hd → RS := fun _ h4 => .nx s h4
def setK3 (x z : D) (s : Sd) : D → Hd → RS := fun y h3 => (setD x y z h3).thn s (setK4 s)
def setK2 (i : M) (z : D) (s : Sd) : D → Hd → RS := fun x h2 => (i.v s h2).thn s (setK3 x z s)
def setK1 (a i : M) (s : Sd) : D → Hd → RS := fun z h1 => (a.v s h1).thn s (setK2 i z s)
def augK3 (i : Nat) (s : Sd) : D → Hd → RS := fun z h2 => .nx (s.set i (some z)) h2
def augK2 (i : Nat) (op : Operator) (x : D) (s : Sd) : D → Hd → RS := fun y h1 => (augD op x y h1).thn s (augK3 i s)
def augK1 (i : Nat) (op : Operator) (m : M) (s : Sd) : D → Hd → RS := fun x h1 => (m.v s h1).thn s (augK2 i op x s)
def atK (o : Option D) (h : Hd) : R D := match o with
  | some d => .ok d h
  | none => .no
def lenK (o : Option (List D)) (h : Hd) : R D := match o with
  | some xs => .ok (.int xs.length) h
  | none => .no
def ixK (o : Option (List D)) (i : Int) (h : Hd) : R D := match o with
  | some xs => atK (atI xs i) h
  | none => .no
def seqO (o : Option (List D)) (h : Hd) : R (List D) := match o with
  | some xs => .ok xs h
  | none => .no
def itK (l : Nat) (o : Option (List D)) (h : Hd) : R Iv := match o with
  | some xs => .ok (.lc l xs.length) h
  | none => .no
def tyK (b : Bool) (o : Option (List D)) : Option Bool := match o with
  | some _ => some b
  | none => none
def enK (l : Nat) (o : Option (List D)) (h : Hd) : R Iv := match o with
  | some xs => .ok (.le l xs.length) h
  | none => .no
def kwK (C : String → List D → Hd → R D) (f : String) (n1 n2 : Nat) (pm : List Nat) (ms : List M) (s : Sd) : List D → Hd → R D := fun xs h1 => (allV ms s h1).bind (kwD C f n1 n2 pm xs)
def slO (o : Option (List D)) (lo hi : Option Int) (h : Hd) : R D := match o with
  | some xs => new (cutD xs lo hi) h
  | none => .no
def addO (o o2 : Option (List D)) (h : Hd) : R D := match o, o2 with
  | some xs, some ys => if xs.length + ys.length ≤ sizeLine then new (xs ++ ys) h else .no
  | _, _ => .no
def mulO (o : Option (List D)) (k : Int) (h : Hd) : R D := match o with
  | some xs => if -(2 ^ 62) ≤ k ∧ k < 2 ^ 62 ∧ xs.length * k.toNat ≤ sizeLine then new (List.replicate k.toNat xs).flatten h else .no
  | none => .no
def retK : D → Hd → RS := fun x h1 => .ret x h1
section
variable (G : Str → Option D) (C : String → List D → Hd → R D) (F : Nat)
def brK (a b : List S) (s : Sd) : Bool → Hd → RS := fun k h1 => if k then evSs G C F a s h1 else evSs G C F b s h1
def turnS (t : T) (b : List S) : D → Sd → Hd → RS := fun d s1 h2 => match putT t d s1 with
    | some s2 => evSs G C F b s2 h2
    | none => .no
def forK (t : T) (b : List S) (s : Sd) : Iv → Hd → RS := fun j h1 => loopS (turnS G C F t b) j j.len 0 s h1
end
section
variable {α β : Type} {G : Str → Option D} {C : String → List D → Hd → R D} {F : Nat} {a : α} {h h' h1 h2 h3 : Hd} {s s1 : Sd} {z : Option D} {d d1 d2 x y w : D} {i j : Int} {b c : Bool} {l n : Nat} {xs ys : List D} {e e1 e2 e3 : E} {es : List E} {m m1 m2 : M} {ms : List M} {op op' : CmpOp} {bo : Operator} {st : S} {ss sa sb : List S} {t : T} {own : List Nat} {ifs : List E}

theorem y_getV_0 : getV (some d :: s) 0 h = .ok d h := Eq.trans rfl rfl
theorem y_getV_s : getV (z :: s) (n + 1) h = getV s n h := Eq.trans rfl rfl
theorem getV_eq : ∀ (s : Sd) (i : Nat), getV s i h = match s[i]? with
    | some (some d) => .ok d h
    | _ => .no
  | [], i => by simp [getV]
  | x :: s, 0 => by cases x <;> simp [getV]
  | x :: s, i + 1 => by simp only [getV, List.getElem?_cons_succ]; exact getV_eq s i
theorem y_v_var : (evM G C (.var n)).v (z :: s) h = getV (z :: s) n h := (getV_eq (z :: s) n).symm
theorem y_v_int : (evM G C (.int i)).v (z :: s) h = .ok (.int i) h := Eq.trans rfl rfl
theorem y_v_bl : (evM G C (.bl b)).v (z :: s) h = .ok (.bl b) h := Eq.trans rfl rfl
theorem y_v_non : (evM G C (.non)).v (z :: s) h = .ok .non h := Eq.trans rfl rfl
theorem y_v_str {q : Str} : (evM G C (.str q)).v (z :: s) h = .ok (.str q) h := Eq.trans rfl rfl
theorem y_v_glob {q : Str} : (evM G C (.glob q)).v (z :: s) h = globK (G q) h := Eq.trans rfl rfl
theorem y_v_bin : (evM G C (.bin bo e1 e2)).v (z :: s) h = ((evM G C (e1)).v (z :: s) h).bind (kB (evM G C (e2)) (z :: s) (binD bo)) := Eq.trans rfl rfl
theorem y_v_neg : (evM G C (.neg e)).v (z :: s) h = ((evM G C (e)).v (z :: s) h).bind negK := Eq.trans rfl rfl
theorem y_v_cmp : (evM G C (.cmp op e1 e2)).v (z :: s) h = ((evM G C (e1)).v (z :: s) h).bind (kB (evM G C (e2)) (z :: s) (cmpK op)) := Eq.trans rfl rfl
theorem y_v_chain : (evM G C (.chain op op' e1 e2 e3)).v (z :: s) h = ((evM G C (e1)).v (z :: s) h).bind (chK1 op op' (evM G C (e2)) (evM G C (e3)) (z :: s)) := Eq.trans rfl rfl
theorem y_v_and : (evM G C (.and_ es)).v (z :: s) h = andV (evMs G C es) (z :: s) h := Eq.trans rfl rfl
theorem y_v_or : (evM G C (.or_ es)).v (z :: s) h = orV (evMs G C es) (z :: s) h := Eq.trans rfl rfl
theorem y_t_and : (evM G C (.and_ es)).t (z :: s) h = andT (evMs G C es) (z :: s) h := Eq.trans rfl rfl
theorem y_t_or : (evM G C (.or_ es)).t (z :: s) h = orT (evMs G C es) (z :: s) h := Eq.trans rfl rfl
theorem y_v_not : (evM G C (.not_ e)).v (z :: s) h = ((evM G C (e)).v (z :: s) h).bind notK := Eq.trans rfl rfl
theorem y_t_not : (evM G C (.not_ e)).t (z :: s) h = ((evM G C (e)).t (z :: s) h).bind notTK := Eq.trans rfl rfl
theorem y_v_ite : (evM G C (.ite e e1 e2)).v (z :: s) h = ((evM G C (e)).t (z :: s) h).bind (iteK (evM G C (e1)) (evM G C (e2)) (z :: s)) := Eq.trans rfl rfl
theorem y_v_tup : (evM G C (.tup es)).v (z :: s) h = (allV (evMs G C es) (z :: s) h).bind tupK := Eq.trans rfl rfl
theorem y_v_lst : (evM G C (.lst es)).v (z :: s) h = (allV (evMs G C es) (z :: s) h).bind lstK := Eq.trans rfl rfl
theorem y_v_ix : (evM G C (.ix e1 e2)).v (z :: s) h = ((evM G C (e1)).v (z :: s) h).bind (kB (evM G C (e2)) (z :: s) ixD) := Eq.trans rfl rfl
theorem y_v_sl : (evM G C (.sl e e1 e2)).v (z :: s) h = ((evM G C (e)).v (z :: s) h).bind (slK1 (evM G C (e1)) (evM G C (e2)) (z :: s)) := Eq.trans rfl rfl
theorem y_p_hole : (evM G C (.hole)).p (z :: s) h = .ok none h := Eq.trans rfl rfl
theorem y_v_call {f : String} : (evM G C (.call f es)).v (z :: s) h = (allV (evMs G C es) (z :: s) h).bind (C f) := Eq.trans rfl rfl
theorem y_v_bif {f : Bif} : (evM G C (.bif f es)).v (z :: s) h = (allV (evMs G C es) (z :: s) h).bind (bifD f) := Eq.trans rfl rfl
theorem y_v_seq {f : Sq} : (evM G C (.seq f e)).v (z :: s) h = ((evM G C (e)).q (z :: s) h).bind (sqD f) := Eq.trans rfl rfl
theorem y_v_isi {ty : Ty} : (evM G C (.isi e ty)).v (z :: s) h = ((evM G C (e)).v (z :: s) h).bind (isiK ty) := Eq.trans rfl rfl
theorem y_v_pop : (evM G C (.pop e)).v (z :: s) h = ((evM G C (e)).v (z :: s) h).bind popD := Eq.trans rfl rfl
theorem y_v_popAt : (evM G C (.popAt e1 e2)).v (z :: s) h = ((evM G C (e1)).v (z :: s) h).bind (popAtK (evM G C (e2)) (z :: s)) := Eq.trans rfl rfl
theorem y_v_app : (evM G C (.app e1 e2)).v (z :: s) h = ((evM G C (e1)).v (z :: s) h).bind (appK (evM G C (e2)) (z :: s)) := Eq.trans rfl rfl
theorem y_v_comp : (evM G C (.comp e t e1 ifs own)).v (z :: s) h = ((evM G C (e1)).i (z :: s) h).bind (compN (turnC (putT t) (ifsT (evMs G C ifs)) (evM G C (e)).v own (z :: s))) := Eq.trans rfl rfl
theorem y_q_comp : (evM G C (.comp e t e1 ifs own)).q (z :: s) h = ((evM G C (e1)).i (z :: s) h).bind (compK (turnC (putT t) (ifsT (evMs G C ifs)) (evM G C (e)).v own (z :: s))) := Eq.trans rfl rfl
theorem y_i_rng1 : (evM G C (.rng1 e)).i (z :: s) h = ((evM G C (e)).v (z :: s) h).bind rng1D := Eq.trans rfl rfl
theorem y_i_rng2 : (evM G C (.rng2 e1 e2)).i (z :: s) h = ((evM G C (e1)).v (z :: s) h).bind (kB (evM G C (e2)) (z :: s) rng2D) := Eq.trans rfl rfl
theorem y_i_rng3 : (evM G C (.rng3 e1 e2 e3)).i (z :: s) h = ((evM G C (e1)).v (z :: s) h).bind (kT (evM G C (e2)) (evM G C (e3)) (z :: s) rng3D) := Eq.trans rfl rfl
theorem y_i_enum : (evM G C (.enum e)).i (z :: s) h = ((evM G C (e)).v (z :: s) h).bind enumD := Eq.trans rfl rfl
theorem y_i_zip : (evM G C (.zip e1 e2)).i (z :: s) h = ((evM G C (e1)).v (z :: s) h).bind (kB (evM G C (e2)) (z :: s) zipD) := Eq.trans rfl rfl
theorem y_v_callk {f : String} {ks : List String} {pm : List Nat} {es kes : List E} : (evM G C (.callk f ks pm es kes)).v (z :: s) h = (allV (evMs G C es) (z :: s) h).bind (kwK C f es.length ks.length pm (evMs G C kes) (z :: s)) := Eq.trans rfl rfl
theorem y_v_rgs : (evM G C (.rgs b e)).v (z :: s) h = ((evM G C (e)).v (z :: s) h).bind (rgsD b (.int 0)) := Eq.trans rfl rfl
theorem y_v_rgs2 : (evM G C (.rgs2 b e1 e2)).v (z :: s) h = ((evM G C (e1)).v (z :: s) h).bind (kB (evM G C (e2)) (z :: s) (rgsD b)) := Eq.trans rfl rfl
theorem y_kwK_ok {f : String} {n1 n2 : Nat} {pm : List Nat} : kwK C f n1 n2 pm ms s xs h = (allV ms s h).bind (kwD C f n1 n2 pm xs) := Eq.trans rfl rfl
theorem y_kwD_ok {f : String} {n1 n2 : Nat} {pm : List Nat} (e1 : xs.length = n1) (e2 : ys.length = n2) : kwD C f n1 n2 pm xs ys h = C f (permD pm (xs ++ ys)) h := if_pos ⟨e1, e2⟩
theorem y_perm_n : permD [] xs = [] := Eq.trans rfl rfl
theorem y_perm_c {k : Nat} {pm : List Nat} : permD (k :: pm) xs = xs.getD k .non :: permD pm xs := Eq.trans rfl rfl
theorem y_getD_0 : (d :: xs).getD 0 .non = d := Eq.trans rfl rfl
theorem y_getD_s {k : Nat} : (d :: xs).getD (k + 1) .non = xs.getD k .non := Eq.trans rfl rfl
theorem y_rgsT (e1 : small62 i = true) (e2 : small62 j = true) (e3 : (j - i).toNat ≤ 1000) : rgsD true (.int i) (.int j) h = new (rangeD i (j - i).toNat) h := by unfold rgsD; dsimp only; rw [if_pos (by simp only [e1, e2, Bool.true_and, decide_eq_true_eq]; rw [sizeLine_eq]; omega), if_pos rfl]
theorem y_rgsF (e1 : small62 i = true) (e2 : small62 j = true) (e3 : (j - i).toNat ≤ 1000) : rgsD false (.int i) (.int j) h = .ok (.tup (rangeD i (j - i).toNat)) h := by unfold rgsD; dsimp only; rw [if_pos (by simp only [e1, e2, Bool.true_and, decide_eq_true_eq]; rw [sizeLine_eq]; omega), if_neg Bool.false_ne_true]
theorem y_en_tup : enumD (.tup xs) h = .ok (.fx (enumL 0 xs)) h := Eq.trans rfl rfl
theorem y_en_ref : enumD (.ref l) h = enK l (Hd.lst h l) h := by unfold enumD enK; dsimp only <;> cases Hd.lst h l <;> rfl
theorem y_enK_s : enK l (some xs) h = .ok (.le l xs.length) h := Eq.trans rfl rfl
theorem y_sl_tup {lo hi : Option Int} : slD (.tup xs) lo hi h = .ok (.tup (cutD xs lo hi)) h := Eq.trans rfl rfl
theorem y_sl_fl {lo hi : Option Int} : slD (.fl xs) lo hi h = new (cutD xs lo hi) h := Eq.trans rfl rfl
theorem y_sl_ref {lo hi : Option Int} : slD (.ref l) lo hi h = slO (Hd.lst h l) lo hi h := by unfold slD slO; dsimp only <;> cases Hd.lst h l <;> rfl
theorem y_slO_s {lo hi : Option Int} : slO (some xs) lo hi h = new (cutD xs lo hi) h := Eq.trans rfl rfl
theorem y_bool_b : bifD .bool [.bl b] h = .ok (.bl b) h := Eq.trans rfl rfl
theorem y_bool_i : bifD .bool [.int i] h = .ok (.bl (i != 0)) h := Eq.trans rfl rfl
theorem y_v_rev : (evM G C (.rev e)).v (z :: s) h = ((evM G C (e)).v (z :: s) h).bind revD := Eq.trans rfl rfl
theorem y_v_ext : (evM G C (.ext e1 e2)).v (z :: s) h = ((evM G C (e1)).v (z :: s) h).bind (extK (evM G C (e2)) (z :: s)) := Eq.trans rfl rfl
theorem y_extK_ok (hl : isL h x = true) : extK m s x h = (m.v s h).bind (extD x) := if_pos hl
theorem y_ext_ref : extD (.ref l) (.ref n) h = extO l n (Hd.lst h l) (Hd.lst h n) h := by simp only [extD, extO] <;> cases Hd.lst h l <;> cases Hd.lst h n <;> rfl
theorem y_extO_s (hn : l ≠ n) (hz : xs.length + ys.length ≤ 1000) : extO l n (some xs) (some ys) h = .ok .non (setL l (xs ++ ys) h) := if_pos ⟨hn, by rw [sizeLine_eq]; omega⟩
theorem y_str_i (hz : i.natAbs.log2 < 1920) : bifD .str [.int i] h = .ok (.str (toString i)) h := if_pos hz
theorem y_rev_tup : revD (.tup xs) h = .ok (.tup xs.reverse) h := Eq.trans rfl rfl
theorem y_rng3_int (e1 : small62 i = true) (e2 : small62 j = true) : rng3D (.int i) (.int j) (.int (-1)) h = .ok (.fx (rangeC i (-1) (i - j).toNat)) h := by unfold rng3D; dsimp only; rw [if_pos (by simp only [e1, e2]; rfl)]
theorem y_zip_tup : zipD (.tup xs) (.tup ys) h = .ok (.fx ((xs.zip ys).map fun p => .tup [p.1, p.2])) h := Eq.trans rfl rfl
theorem y_mul_T (h1 : 1 ≤ i) (h2 : i ≤ 1000) (h3 : 1 ≤ xs.length) (h4 : xs.length ≤ 1000) : binD .Mult (.tup xs) (.int i) h = .ok (.tup (List.replicate i.toNat xs).flatten) h := by
  unfold binD mulD
  dsimp only
  by_cases e : i = 1
  · subst e; simp
  · rw [if_neg e, if_pos ⟨by omega, h2, h3, h4⟩]
theorem y_s_raise {c : String} {ff : List String} : evS G C F (.raise_ c ff es) (z :: s) h = (allV (evMs G C es) (z :: s) h).thn (z :: s) (raiseK c ff (z :: s)) := Eq.trans rfl rfl
theorem y_raiseK_ok {c : String} {ff : List String} : raiseK c ff s xs h = raiseD c ff xs s h := Eq.trans rfl rfl
theorem y_raise_1 {c f : String} : raiseD c [f] [x] s h = .err ⟨c, [(f, x)]⟩ s h := Eq.trans rfl rfl
theorem y_raise_2 {c f g : String} : raiseD c [f, g] [x, y] s h = .err ⟨c, [(g, y), (f, x)]⟩ s h := Eq.trans rfl rfl
theorem y_bind_err {x : Xn} {f : α → Hd → R β} : (R.err x h : R α).bind f = .err x h := Eq.trans rfl rfl
theorem y_thn_err {x : Xn} {f : α → Hd → RS} : (R.err x h : R α).thn s f = .err x s h := Eq.trans rfl rfl
theorem y_seq_err {x : Xn} {f : Sd → Hd → RS} : (RS.err x s h).seq f = .err x s h := Eq.trans rfl rfl
theorem y_fin_err {x : Xn} : fin h1 (.err x s h) = .err x h := Eq.trans rfl rfl
theorem y_s_try {tb : List (String × Bool)} {hs : List HS} {c : String} : evS G C F (.try_ sa c n tb hs) (z :: s) h = tryD (evSs G C F sa (z :: s) h) n tb hs := Eq.trans rfl rfl
theorem y_try_nx {tb : List (String × Bool)} {hs : List HS} : tryD (.nx s h) n tb hs = .nx s h := Eq.trans rfl rfl
theorem y_try_ret {tb : List (String × Bool)} {hs : List HS} : tryD (.ret d h) n tb hs = .ret d h := Eq.trans rfl rfl
theorem y_try_bk {tb : List (String × Bool)} {hs : List HS} : tryD (.bk s h) n tb hs = .bk s h := Eq.trans rfl rfl
theorem y_try_ct {tb : List (String × Bool)} {hs : List HS} : tryD (.ct s h) n tb hs = .ct s h := Eq.trans rfl rfl
theorem y_try_err {tb : List (String × Bool)} {hs : List HS} {x : Xn} : tryD (.err x s h) n tb hs = tryK (tb.lookup x.cls) x n hs s h := by unfold tryD tryK; dsimp only <;> cases tb.lookup x.cls <;> rfl
theorem y_tryK_t {x : Xn} {hs : List HS} (hn : n + 1 ≤ s.length) : tryK (some true) x n hs s h = evHS x hs (s.set n none) h := if_pos hn
theorem y_tryK_f {x : Xn} {hs : List HS} : tryK (some false) x n hs s h = .err x s h := Eq.trans rfl rfl
theorem y_hs_nil {x : Xn} : evHS x [] s h = .nx s h := Eq.trans rfl rfl
theorem y_hs_ret {x : Xn} {hs : List HS} {r : HR} : evHS x (.ret r :: hs) s h = hsR (evHR x r) h := by unfold evHS hsR; cases evHR x r <;> rfl
theorem y_hs_ifr {x : Xn} {hs : List HS} {r : HR} {c : HQ} : evHS x (.ifr c r :: hs) s h = hsI (evHQ x c) x r hs s h := by simp only [evHS, hsI, hsR] <;> cases evHQ x c <;> cases evHR x r <;> rfl
theorem y_hsR_s : hsR (some d) h = .ret d h := Eq.trans rfl rfl
theorem y_hsI_t {x : Xn} {hs : List HS} {r : HR} : hsI (some true) x r hs s h = hsR (evHR x r) h := Eq.trans rfl rfl
theorem y_hsI_f {x : Xn} {hs : List HS} {r : HR} : hsI (some false) x r hs s h = evHS x hs s h := Eq.trans rfl rfl
theorem y_hr_a {x : Xn} {ca : HA} : evHR x (.a ca) = evA x ca := Eq.trans rfl rfl
theorem y_hr_t {x : Xn} {cs : List HA} : evHR x (.t cs) = hrT (evAl x cs) := by simp only [evHR, hrT] <;> cases evAl x cs <;> rfl
theorem y_hrT_s (hz : xs.length ≤ 100) : hrT (some xs) = some (.tup xs) := if_pos hz
theorem y_ha_str {x : Xn} {q : Str} : evA x (.str q) = some (.str q) := Eq.trans rfl rfl
theorem y_ha_int {x : Xn} : evA x (.int i) = some (.int i) := Eq.trans rfl rfl
theorem y_ha_non {x : Xn} : evA x .non = some .non := Eq.trans rfl rfl
theorem y_ha_bl {x : Xn} : evA x (.bl b) = some (.bl b) := Eq.trans rfl rfl
theorem y_ha_fld {x : Xn} {f : String} : evA x (.fld f) = x.fs.lookup f := Eq.trans rfl rfl
theorem y_ha_ite {x : Xn} {c : HQ} {ca : HA} {cb : HA} : evA x (.ite c ca cb) = haI (evHQ x c) x ca cb := by simp only [evA, haI] <;> cases evHQ x c <;> rfl
theorem y_haI_t {x : Xn} {ca : HA} {cb : HA} : haI (some true) x ca cb = evA x ca := Eq.trans rfl rfl
theorem y_haI_f {x : Xn} {ca : HA} {cb : HA} : haI (some false) x ca cb = evA x cb := Eq.trans rfl rfl
theorem y_hal_n {x : Xn} : evAl x [] = some [] := Eq.trans rfl rfl
theorem y_hal_c {x : Xn} {ca : HA} {cs : List HA} : evAl x (ca :: cs) = halC (evA x ca) x cs := by simp only [evAl, halC] <;> cases evA x ca <;> rfl
theorem y_halC_s {x : Xn} {cs : List HA} : halC (some d) x cs = (evAl x cs).map (fun ds => d :: ds) := Eq.trans rfl rfl
theorem y_hq_isx {x : Xn} {c : String} {tb : List (String × Bool)} : evHQ x (.isx c tb) = tb.lookup x.cls := Eq.trans rfl rfl
theorem y_hq_not {x : Xn} {c : HQ} : evHQ x (.not_ c) = (evHQ x c).map (fun b => !b) := Eq.trans rfl rfl
theorem y_hq_and {x : Xn} {qs : List HQ} : evHQ x (.and_ qs) = evHQs x qs := Eq.trans rfl rfl
theorem y_hqs_n {x : Xn} : evHQs x [] = some true := Eq.trans rfl rfl
theorem y_hqs_c {x : Xn} {c : HQ} {qs : List HQ} : evHQs x (c :: qs) = hqB (evHQ x c) x qs := by simp only [evHQs, hqB] <;> cases evHQ x c <;> rfl
theorem y_hqB_t {x : Xn} {qs : List HQ} : hqB (some true) x qs = evHQs x qs := Eq.trans rfl rfl
theorem y_hqB_f {x : Xn} {qs : List HQ} : hqB (some false) x qs = some false := Eq.trans rfl rfl
theorem y_t_var : (evM G C (.var n)).t (z :: s) h = ((evM G C (.var n)).v (z :: s) h).bind truK := Eq.trans rfl rfl
theorem y_q_var : (evM G C (.var n)).q (z :: s) h = ((evM G C (.var n)).v (z :: s) h).bind seqK := Eq.trans rfl rfl
theorem y_i_var : (evM G C (.var n)).i (z :: s) h = ((evM G C (.var n)).v (z :: s) h).bind itD := Eq.trans rfl rfl
theorem y_p_var : (evM G C (.var n)).p (z :: s) h = ((evM G C (.var n)).v (z :: s) h).bind intK := Eq.trans rfl rfl
theorem y_t_int : (evM G C (.int i)).t (z :: s) h = ((evM G C (.int i)).v (z :: s) h).bind truK := Eq.trans rfl rfl
theorem y_p_int : (evM G C (.int i)).p (z :: s) h = ((evM G C (.int i)).v (z :: s) h).bind intK := Eq.trans rfl rfl
theorem y_t_bl : (evM G C (.bl b)).t (z :: s) h = ((evM G C (.bl b)).v (z :: s) h).bind truK := Eq.trans rfl rfl
theorem y_t_glob {q : Str} : (evM G C (.glob q)).t (z :: s) h = ((evM G C (.glob q)).v (z :: s) h).bind truK := Eq.trans rfl rfl
theorem y_q_glob {q : Str} : (evM G C (.glob q)).q (z :: s) h = ((evM G C (.glob q)).v (z :: s) h).bind seqK := Eq.trans rfl rfl
theorem y_i_glob {q : Str} : (evM G C (.glob q)).i (z :: s) h = ((evM G C (.glob q)).v (z :: s) h).bind itD := Eq.trans rfl rfl
theorem y_p_glob {q : Str} : (evM G C (.glob q)).p (z :: s) h = ((evM G C (.glob q)).v (z :: s) h).bind intK := Eq.trans rfl rfl
theorem y_t_bin : (evM G C (.bin bo e1 e2)).t (z :: s) h = ((evM G C (.bin bo e1 e2)).v (z :: s) h).bind truK := Eq.trans rfl rfl
theorem y_q_bin : (evM G C (.bin bo e1 e2)).q (z :: s) h = ((evM G C (.bin bo e1 e2)).v (z :: s) h).bind seqK := Eq.trans rfl rfl
theorem y_i_bin : (evM G C (.bin bo e1 e2)).i (z :: s) h = ((evM G C (.bin bo e1 e2)).v (z :: s) h).bind itD := Eq.trans rfl rfl
theorem y_p_bin : (evM G C (.bin bo e1 e2)).p (z :: s) h = ((evM G C (.bin bo e1 e2)).v (z :: s) h).bind intK := Eq.trans rfl rfl
theorem y_p_neg : (evM G C (.neg e)).p (z :: s) h = ((evM G C (.neg e)).v (z :: s) h).bind intK := Eq.trans rfl rfl
theorem y_t_cmp : (evM G C (.cmp op e1 e2)).t (z :: s) h = ((evM G C (.cmp op e1 e2)).v (z :: s) h).bind truK := Eq.trans rfl rfl
theorem y_t_chain : (evM G C (.chain op op' e1 e2 e3)).t (z :: s) h = ((evM G C (.chain op op' e1 e2 e3)).v (z :: s) h).bind truK := Eq.trans rfl rfl
theorem y_t_ite : (evM G C (.ite e e1 e2)).t (z :: s) h = ((evM G C (.ite e e1 e2)).v (z :: s) h).bind truK := Eq.trans rfl rfl
theorem y_q_ite : (evM G C (.ite e e1 e2)).q (z :: s) h = ((evM G C (.ite e e1 e2)).v (z :: s) h).bind seqK := Eq.trans rfl rfl
theorem y_i_ite : (evM G C (.ite e e1 e2)).i (z :: s) h = ((evM G C (.ite e e1 e2)).v (z :: s) h).bind itD := Eq.trans rfl rfl
theorem y_p_ite : (evM G C (.ite e e1 e2)).p (z :: s) h = ((evM G C (.ite e e1 e2)).v (z :: s) h).bind intK := Eq.trans rfl rfl
theorem y_t_tup : (evM G C (.tup es)).t (z :: s) h = ((evM G C (.tup es)).v (z :: s) h).bind truK := Eq.trans rfl rfl
theorem y_q_tup : (evM G C (.tup es)).q (z :: s) h = ((evM G C (.tup es)).v (z :: s) h).bind seqK := Eq.trans rfl rfl
theorem y_i_tup : (evM G C (.tup es)).i (z :: s) h = ((evM G C (.tup es)).v (z :: s) h).bind itD := Eq.trans rfl rfl
theorem y_t_lst : (evM G C (.lst es)).t (z :: s) h = ((evM G C (.lst es)).v (z :: s) h).bind truK := Eq.trans rfl rfl
theorem y_q_lst : (evM G C (.lst es)).q (z :: s) h = ((evM G C (.lst es)).v (z :: s) h).bind seqK := Eq.trans rfl rfl
theorem y_i_lst : (evM G C (.lst es)).i (z :: s) h = ((evM G C (.lst es)).v (z :: s) h).bind itD := Eq.trans rfl rfl
theorem y_t_ix : (evM G C (.ix e1 e2)).t (z :: s) h = ((evM G C (.ix e1 e2)).v (z :: s) h).bind truK := Eq.trans rfl rfl
theorem y_q_ix : (evM G C (.ix e1 e2)).q (z :: s) h = ((evM G C (.ix e1 e2)).v (z :: s) h).bind seqK := Eq.trans rfl rfl
theorem y_i_ix : (evM G C (.ix e1 e2)).i (z :: s) h = ((evM G C (.ix e1 e2)).v (z :: s) h).bind itD := Eq.trans rfl rfl
theorem y_p_ix : (evM G C (.ix e1 e2)).p (z :: s) h = ((evM G C (.ix e1 e2)).v (z :: s) h).bind intK := Eq.trans rfl rfl
theorem y_t_sl : (evM G C (.sl e e1 e2)).t (z :: s) h = ((evM G C (.sl e e1 e2)).v (z :: s) h).bind truK := Eq.trans rfl rfl
theorem y_q_sl : (evM G C (.sl e e1 e2)).q (z :: s) h = ((evM G C (.sl e e1 e2)).v (z :: s) h).bind seqK := Eq.trans rfl rfl
theorem y_i_sl : (evM G C (.sl e e1 e2)).i (z :: s) h = ((evM G C (.sl e e1 e2)).v (z :: s) h).bind itD := Eq.trans rfl rfl
theorem y_t_call {f : String} : (evM G C (.call f es)).t (z :: s) h = ((evM G C (.call f es)).v (z :: s) h).bind truK := Eq.trans rfl rfl
theorem y_q_call {f : String} : (evM G C (.call f es)).q (z :: s) h = ((evM G C (.call f es)).v (z :: s) h).bind seqK := Eq.trans rfl rfl
theorem y_i_call {f : String} : (evM G C (.call f es)).i (z :: s) h = ((evM G C (.call f es)).v (z :: s) h).bind itD := Eq.trans rfl rfl
theorem y_p_call {f : String} : (evM G C (.call f es)).p (z :: s) h = ((evM G C (.call f es)).v (z :: s) h).bind intK := Eq.trans rfl rfl
theorem y_t_callk {f : String} {ks : List String} {pm : List Nat} {es kes : List E} : (evM G C (.callk f ks pm es kes)).t (z :: s) h = ((evM G C (.callk f ks pm es kes)).v (z :: s) h).bind truK := Eq.trans rfl rfl
theorem y_q_callk {f : String} {ks : List String} {pm : List Nat} {es kes : List E} : (evM G C (.callk f ks pm es kes)).q (z :: s) h = ((evM G C (.callk f ks pm es kes)).v (z :: s) h).bind seqK := Eq.trans rfl rfl
theorem y_i_callk {f : String} {ks : List String} {pm : List Nat} {es kes : List E} : (evM G C (.callk f ks pm es kes)).i (z :: s) h = ((evM G C (.callk f ks pm es kes)).v (z :: s) h).bind itD := Eq.trans rfl rfl
theorem y_t_rgs : (evM G C (.rgs b e)).t (z :: s) h = ((evM G C (.rgs b e)).v (z :: s) h).bind truK := Eq.trans rfl rfl
theorem y_q_rgs : (evM G C (.rgs b e)).q (z :: s) h = ((evM G C (.rgs b e)).v (z :: s) h).bind seqK := Eq.trans rfl rfl
theorem y_i_rgs : (evM G C (.rgs b e)).i (z :: s) h = ((evM G C (.rgs b e)).v (z :: s) h).bind itD := Eq.trans rfl rfl
theorem y_t_bif {bf : Bif} : (evM G C (.bif bf es)).t (z :: s) h = ((evM G C (.bif bf es)).v (z :: s) h).bind truK := Eq.trans rfl rfl
theorem y_q_bif {bf : Bif} : (evM G C (.bif bf es)).q (z :: s) h = ((evM G C (.bif bf es)).v (z :: s) h).bind seqK := Eq.trans rfl rfl
theorem y_i_bif {bf : Bif} : (evM G C (.bif bf es)).i (z :: s) h = ((evM G C (.bif bf es)).v (z :: s) h).bind itD := Eq.trans rfl rfl
theorem y_p_bif {bf : Bif} : (evM G C (.bif bf es)).p (z :: s) h = ((evM G C (.bif bf es)).v (z :: s) h).bind intK := Eq.trans rfl rfl
theorem y_t_seq {sf : Sq} : (evM G C (.seq sf e)).t (z :: s) h = ((evM G C (.seq sf e)).v (z :: s) h).bind truK := Eq.trans rfl rfl
theorem y_q_seq {sf : Sq} : (evM G C (.seq sf e)).q (z :: s) h = ((evM G C (.seq sf e)).v (z :: s) h).bind seqK := Eq.trans rfl rfl
theorem y_i_seq {sf : Sq} : (evM G C (.seq sf e)).i (z :: s) h = ((evM G C (.seq sf e)).v (z :: s) h).bind itD := Eq.trans rfl rfl
theorem y_t_isi {ty : Ty} : (evM G C (.isi e ty)).t (z :: s) h = ((evM G C (.isi e ty)).v (z :: s) h).bind truK := Eq.trans rfl rfl
theorem y_t_pop : (evM G C (.pop e)).t (z :: s) h = ((evM G C (.pop e)).v (z :: s) h).bind truK := Eq.trans rfl rfl
theorem y_q_pop : (evM G C (.pop e)).q (z :: s) h = ((evM G C (.pop e)).v (z :: s) h).bind seqK := Eq.trans rfl rfl
theorem y_i_pop : (evM G C (.pop e)).i (z :: s) h = ((evM G C (.pop e)).v (z :: s) h).bind itD := Eq.trans rfl rfl
theorem y_t_popAt : (evM G C (.popAt e1 e2)).t (z :: s) h = ((evM G C (.popAt e1 e2)).v (z :: s) h).bind truK := Eq.trans rfl rfl
theorem y_t_rev : (evM G C (.rev e)).t (z :: s) h = ((evM G C (.rev e)).v (z :: s) h).bind truK := Eq.trans rfl rfl
theorem y_q_rev : (evM G C (.rev e)).q (z :: s) h = ((evM G C (.rev e)).v (z :: s) h).bind seqK := Eq.trans rfl rfl
theorem y_i_rev : (evM G C (.rev e)).i (z :: s) h = ((evM G C (.rev e)).v (z :: s) h).bind itD := Eq.trans rfl rfl
theorem y_i_comp : (evM G C (.comp e t e1 ifs own)).i (z :: s) h = ((evM G C (.comp e t e1 ifs own)).v (z :: s) h).bind itD := Eq.trans rfl rfl
theorem y_globK_s : globK (some d) h = .ok d h := Eq.trans rfl rfl
theorem y_kB_ok {f : D → D → Hd → R β} : kB m s f x h = (m.v s h).bind (f x) := Eq.trans rfl rfl
theorem y_kT_ok {f : D → D → D → Hd → R β} : kT m m1 s f x h = (m.v s h).bind (kB m1 s (f x)) := Eq.trans rfl rfl
theorem y_negK_ok : negK (.int i) h = .ok (.int (-i)) h := Eq.trans rfl rfl
theorem y_cmpK_ok : cmpK op x y h = Rv (cmpD op x y h) h := Eq.trans rfl rfl
theorem y_chK1_ok : chK1 op op' m m1 s x h = (m.v s h).bind (chK3 op op' x m1 s) := Eq.trans rfl rfl
theorem y_chK3_ok : chK3 op op' x m1 s y h = (Rb (cmpD op x y h) h).bind (chK2 op' y m1 s) := Eq.trans rfl rfl
theorem y_chK2_t : chK2 op' y m s true h = (m.v s h).bind (cmpK op' y) := Eq.trans rfl rfl
theorem y_chK2_f : chK2 op' y m s false h = .ok (.bl false) h := Eq.trans rfl rfl
theorem y_andV_1 : andV [m] s h = m.v s h := Eq.trans rfl rfl
theorem y_andV_2 : andV (m :: m1 :: ms) s h = (m.v s h).bind (andK (m1 :: ms) s) := Eq.trans rfl rfl
theorem y_orV_1 : orV [m] s h = m.v s h := Eq.trans rfl rfl
theorem y_orV_2 : orV (m :: m1 :: ms) s h = (m.v s h).bind (orK (m1 :: ms) s) := Eq.trans rfl rfl
theorem y_andT_1 : andT [m] s h = m.t s h := Eq.trans rfl rfl
theorem y_andT_2 : andT (m :: m1 :: ms) s h = (m.t s h).bind (andTK (m1 :: ms) s) := Eq.trans rfl rfl
theorem y_orT_1 : orT [m] s h = m.t s h := Eq.trans rfl rfl
theorem y_orT_2 : orT (m :: m1 :: ms) s h = (m.t s h).bind (orTK (m1 :: ms) s) := Eq.trans rfl rfl
theorem y_andK_t : andK ms s (.bl true) h = andV ms s h := Eq.trans rfl rfl
theorem y_andK_f : andK ms s (.bl false) h = .ok (.bl false) h := Eq.trans rfl rfl
theorem y_orK_t : orK ms s (.bl true) h = .ok (.bl true) h := Eq.trans rfl rfl
theorem y_orK_f : orK ms s (.bl false) h = orV ms s h := Eq.trans rfl rfl
theorem y_andTK_t : andTK ms s true h = andT ms s h := Eq.trans rfl rfl
theorem y_andTK_f : andTK ms s false h = .ok false h := Eq.trans rfl rfl
theorem y_orTK_t : orTK ms s true h = .ok true h := Eq.trans rfl rfl
theorem y_orTK_f : orTK ms s false h = orT ms s h := Eq.trans rfl rfl
theorem y_notK_ok : notK (.bl b) h = .ok (.bl (!b)) h := Eq.trans rfl rfl
theorem y_notTK_ok : notTK b h = .ok (!b) h := Eq.trans rfl rfl
theorem y_iteK_t : iteK m m1 s true h = m.v s h := Eq.trans rfl rfl
theorem y_iteK_f : iteK m m1 s false h = m1.v s h := Eq.trans rfl rfl
theorem y_tupK_ok (hz : xs.length ≤ 1000) : tupK xs h = .ok (.tup xs) h := if_pos (by rw [sizeLine_eq]; omega)
theorem y_lstK_ok (hz : xs.length ≤ 1000) : lstK xs h = new xs h := if_pos (by rw [sizeLine_eq]; omega)
theorem y_evMs_nil : evMs G C [] = [] := Eq.trans rfl rfl
theorem y_evMs_cons : evMs G C (e :: es) = evM G C e :: evMs G C es := Eq.trans rfl rfl
theorem y_allV_n : allV [] s h = .ok [] h := Eq.trans rfl rfl
theorem y_allV_c : allV (m :: ms) s h = (m.v s h).bind (allK ms s) := Eq.trans rfl rfl
theorem y_allK_ok : allK ms s x h = (allV ms s h).bind (consK x) := Eq.trans rfl rfl
theorem y_consK_ok : consK x xs h = .ok (x :: xs) h := Eq.trans rfl rfl
theorem y_isiK_ok {ty : Ty} : isiK ty x h = Rv (isTy ty h x) h := Eq.trans rfl rfl
theorem y_popAtK_ok (hl : isL h x = true) : popAtK m s x h = (m.v s h).bind (popAtD x) := if_pos hl
theorem y_appK_ok (hl : isL h x = true) : appK m s x h = (m.v s h).bind (appD x) := if_pos hl
theorem y_slK1_ok : slK1 m m1 s x h = (m.p s h).bind (slK2 m1 s x) := Eq.trans rfl rfl
theorem y_slK2_ok {o : Option Int} : slK2 m s x o h = (m.p s h).bind (slD x o) := Eq.trans rfl rfl
theorem y_compK_ok {f : D → Hd → R (Option D)} {j : Iv} : compK f j h = (loopC f j j.len 0 [] h).quiet := Eq.trans rfl rfl
theorem y_compN_ok {f : D → Hd → R (Option D)} {j : Iv} : compN f j h = (loopC f j j.len 0 [] h).quiet.bind new := Eq.trans rfl rfl
theorem y_truK_ok : truK x h = Rb (truth h x) h := Eq.trans rfl rfl
theorem y_seqK_tup : seqK (.tup xs) h = .ok xs h := Eq.trans rfl rfl
theorem y_seqK_fl : seqK (.fl xs) h = .ok xs h := Eq.trans rfl rfl
theorem y_seqK_ref : seqK (.ref l) h = seqO (Hd.lst h l) h := by simp only [seqK, seqOf_ref]; cases Hd.lst h l <;> rfl
theorem y_seqO_s : seqO (some xs) h = .ok xs h := Eq.trans rfl rfl
theorem y_intK_ok : intK (.int i) h = .ok (some i) h := Eq.trans rfl rfl
theorem y_ifsT_n : ifsT [] s h = .ok true h := Eq.trans rfl rfl
theorem y_ifsT_1 : ifsT [m] s h = m.t s h := Eq.trans rfl rfl
def turnK2 : D → Hd → R (Option D) := fun y h4 => .ok (some y) h4
def turnK (ev : Sd → Hd → R D) (s1 : Sd) : Bool → Hd → R (Option D) := fun b h3 => if b then (ev s1 h3).bind turnK2 else .ok none h3
def turnP (evt : Sd → Hd → R Bool) (ev : Sd → Hd → R D) (o : Option Sd) (h : Hd) : R (Option D) := match o with
  | some s1 => (evt s1 h).bind (turnK ev s1)
  | none => .no
theorem y_turnC_ok {f : D → Sd → Option Sd} {evt : Sd → Hd → R Bool} {ev : Sd → Hd → R D} : turnC f evt ev own s d h = turnP evt ev (f d (wipeD s own)) h := by unfold turnC turnP; cases f d (wipeD s own) <;> rfl
theorem y_turnP_s {evt : Sd → Hd → R Bool} {ev : Sd → Hd → R D} : turnP evt ev (some s) h = (evt s h).bind (turnK ev s) := Eq.trans rfl rfl
theorem y_turnK_t {ev : Sd → Hd → R D} : turnK ev s true h = (ev s h).bind turnK2 := Eq.trans rfl rfl
theorem y_turnK_f {ev : Sd → Hd → R D} : turnK ev s false h = .ok none h := Eq.trans rfl rfl
theorem y_turnK2_ok : turnK2 x h = .ok (some x) h := Eq.trans rfl rfl
theorem y_s_nil : evSs G C F [] s h = .nx s h := Eq.trans rfl rfl
theorem y_s_cons : evSs G C F (st :: ss) (z :: s) h = (evS G C F st (z :: s) h).seq (evSs G C F ss) := Eq.trans rfl rfl
theorem y_s_expr : evS G C F (.expr e) (z :: s) h = ((evM G C (e)).v (z :: s) h).thn (z :: s) (exprK (z :: s)) := Eq.trans rfl rfl
theorem y_s_asg : evS G C F (.asg t e) (z :: s) h = ((evM G C (e)).v (z :: s) h).thn (z :: s) (asgK t (z :: s)) := by
  show R.thn _ _ _ = _
  congr 1
theorem y_s_setix : evS G C F (.setix e1 e2 e) (z :: s) h = ((evM G C (e)).v (z :: s) h).thn (z :: s) (setK1 (evM G C (e1)) (evM G C (e2)) (z :: s)) := Eq.trans rfl rfl
theorem y_s_aug : evS G C F (.aug n bo e) (z :: s) h = (getV (z :: s) n h).thn (z :: s) (augK1 n bo (evM G C (e)) (z :: s)) := by
  rw [getV_eq]
  simp only [evS]
  rcases (z :: s)[n]? with _ | _ | x <;> rfl
theorem y_s_if : evS G C F (.if_ e sa sb) (z :: s) h = ((evM G C (e)).t (z :: s) h).thn (z :: s) (brK G C F sa sb (z :: s)) := Eq.trans rfl rfl
theorem y_s_for : evS G C F (.for_ t e sa) (z :: s) h = ((evM G C (e)).i (z :: s) h).thn (z :: s) (forK G C F t sa (z :: s)) := Eq.trans rfl rfl
theorem y_s_while : evS G C F (.while_ e sa) (z :: s) h = loopW (evM G C (e)).t (evSs G C F sa) F (z :: s) h := Eq.trans rfl rfl
theorem y_s_ret : evS G C F (.ret e) (z :: s) h = ((evM G C (e)).v (z :: s) h).thn (z :: s) retK := Eq.trans rfl rfl
theorem y_s_retn : evS G C F .retn s h = .ret .non h := Eq.trans rfl rfl
theorem y_s_brk : evS G C F .brk s h = .bk s h := Eq.trans rfl rfl
theorem y_s_cont : evS G C F .cont s h = .ct s h := Eq.trans rfl rfl
theorem y_s_pass : evS G C F .pass s h = .nx s h := Eq.trans rfl rfl
theorem y_exprK_ok : exprK s x h = .nx s h := Eq.trans rfl rfl
theorem y_putK_s : putK (some s) h = .nx s h := Eq.trans rfl rfl
theorem y_asgK_ok : asgK t s x h = putK (putT t x s) h := Eq.trans rfl rfl
theorem y_setK1_ok : setK1 m m1 s x h = (m.v s h).thn s (setK2 m1 x s) := Eq.trans rfl rfl
theorem y_setK2_ok : setK2 m x s y h = (m.v s h).thn s (setK3 y x s) := Eq.trans rfl rfl
theorem y_setK3_ok : setK3 x y s w h = (setD x w y h).thn s (setK4 s) := Eq.trans rfl rfl
theorem y_setK4_ok : setK4 s x h = .nx s h := Eq.trans rfl rfl
theorem y_augK1_ok : augK1 n bo m s x h = (m.v s h).thn s (augK2 n bo x s) := Eq.trans rfl rfl
theorem y_augK2_ok : augK2 n bo x s y h = (augD bo x y h).thn s (augK3 n s) := Eq.trans rfl rfl
theorem y_augK3_ok : augK3 n s x h = .nx (s.set n (some x)) h := Eq.trans rfl rfl
theorem y_brK_t : brK G C F sa sb s true h = evSs G C F sa s h := Eq.trans rfl rfl
theorem y_brK_f : brK G C F sa sb s false h = evSs G C F sb s h := Eq.trans rfl rfl
theorem y_forK_ok {j : Iv} : forK G C F t sa s j h = loopS (turnS G C F t sa) j j.len 0 s h := Eq.trans rfl rfl
theorem y_retK_ok : retK x h = .ret x h := Eq.trans rfl rfl
theorem y_turnS_v : turnS G C F (.v n) sa d s h = evSs G C F sa (s.set n (some d)) h := Eq.trans rfl rfl
theorem y_turnS_t {ts : List T} : turnS G C F (.t ts) sa (.tup xs) s h = match putTs ts xs s with
    | some s2 => evSs G C F sa s2 h
    | none => .no := Eq.trans rfl rfl
theorem y_bin_Add : binD .Add (.int i) (.int j) h = .ok (.int (i + j)) h := Eq.trans rfl rfl
theorem y_bin_AddT (hz : xs.length + ys.length ≤ 1000) : binD .Add (.tup xs) (.tup ys) h = .ok (.tup (xs ++ ys)) h := if_pos (by rw [sizeLine_eq]; omega)
theorem y_bin_AddR {l2 : Nat} : binD .Add (.ref l) (.ref l2) h = addO (Hd.lst h l) (Hd.lst h l2) h := by simp only [binD, addD, addO] <;> cases Hd.lst h l <;> cases Hd.lst h l2 <;> rfl
theorem y_addO_s (hz : xs.length + ys.length ≤ 1000) : addO (some xs) (some ys) h = new (xs ++ ys) h := if_pos (by rw [sizeLine_eq]; omega)
theorem y_bin_MultR2 : binD .Mult (.ref l) (.int i) h = mulO (Hd.lst h l) i h := by simp only [binD, mulD, mulO] <;> cases Hd.lst h l <;> rfl
theorem y_mulO_s (h1 : 0 ≤ i) (h2 : i ≤ 1000) (hz : xs.length * i.toNat ≤ 1000) : mulO (some xs) i h = new (List.replicate i.toNat xs).flatten h := if_pos ⟨by omega, by omega, by rw [sizeLine_eq]; omega⟩
theorem y_bin_Sub : binD .Sub (.int i) (.int j) h = .ok (.int (i - j)) h := Eq.trans rfl rfl
theorem y_bin_Mult (hc : CMul i j) : binD .Mult (.int i) (.int j) h = .ok (.int (i * j)) h := if_pos (.inl hc)
theorem y_bin_MultW (h1 : i.natAbs < 2 ^ 1000) (h2 : j.natAbs < 2 ^ 1000) : binD .Mult (.int i) (.int j) h = .ok (.int (i * j)) h := if_pos (.inr ⟨h1, h2⟩)
theorem y_bin_MultR (h1 : -18446744073709551616 < j) (h2 : j < 18446744073709551616) : binD .Mult (.int i) (.int j) h = .ok (.int (i * j)) h := if_pos (.inl (cmul_r (by omega) (by omega)))
theorem y_bin_MultL (h1 : -18446744073709551616 < i) (h2 : i < 18446744073709551616) : binD .Mult (.int i) (.int j) h = .ok (.int (i * j)) h := if_pos (.inl (cmul_l (by omega) (by omega)))
theorem y_bin_Mod (hj : j ≠ 0) : binD .Mod (.int i) (.int j) h = .ok (.int (i.fmod j)) h := if_pos hj
theorem y_bin_Div (hc : CDivN i j) : binD .FloorDiv (.int i) (.int j) h = .ok (.int (i.fdiv j)) h := if_pos hc
theorem y_bin_DivL (h1 : 0 < j) (h2 : j < 1073741824) : binD .FloorDiv (.int i) (.int j) h = .ok (.int (i.fdiv j)) h := if_pos ⟨by omega, by omega⟩
theorem y_bin_PowL (h1 : 0 ≤ j) (h2 : j ≤ 1000000) (h3 : -18446744073709551616 < i) (h4 : i < 18446744073709551616) : binD .Pow (.int i) (.int j) h = .ok (.int (i ^ j.toNat)) h := if_pos ⟨h1, h2, by omega⟩
theorem y_bin_ShlL (h1 : 0 ≤ j) (h2 : j ≤ 1000000) (h3 : -18446744073709551616 < i) (h4 : i < 18446744073709551616) : binD .LShift (.int i) (.int j) h = .ok (.int (i * 2 ^ j.toNat)) h := if_pos ⟨h1, h2, by omega⟩
theorem y_bin_Pow (hc : CPow i j) : binD .Pow (.int i) (.int j) h = .ok (.int (i ^ j.toNat)) h := if_pos hc
theorem y_bin_Shl (hc : CPow i j) : binD .LShift (.int i) (.int j) h = .ok (.int (i * 2 ^ j.toNat)) h := if_pos hc
theorem y_bin_Shr (hc : 0 ≤ j) : binD .RShift (.int i) (.int j) h = .ok (.int (i / 2 ^ j.toNat)) h := if_pos hc
theorem y_bin_And : binD .BitAnd (.int i) (.int j) h = .ok (.int (Builtin.bitAnd i j)) h := if_pos (e := R.no) trivial
theorem y_bin_Or : binD .BitOr (.int i) (.int j) h = .ok (.int (Builtin.bitOr i j)) h := if_pos (e := R.no) trivial
theorem y_bin_Xor : binD .BitXor (.int i) (.int j) h = .ok (.int (Builtin.bitXor i j)) h := if_pos (e := R.no) trivial
theorem y_aug_Add : augD .Add (.int i) (.int j) h = .ok (.int (i + j)) h := if_pos (e := R.no) trivial
theorem y_aug_Sub : augD .Sub (.int i) (.int j) h = .ok (.int (i - j)) h := if_pos (e := R.no) trivial
theorem y_cmp_Lt : cmpD .Lt (.int i) (.int j) h = some (decide (i < j)) := Eq.trans rfl rfl
theorem y_cmp_LtE : cmpD .LtE (.int i) (.int j) h = some (decide (i ≤ j)) := Eq.trans rfl rfl
theorem y_cmp_Gt : cmpD .Gt (.int i) (.int j) h = some (decide (j < i)) := Eq.trans rfl rfl
theorem y_cmp_GtE : cmpD .GtE (.int i) (.int j) h = some (decide (j ≤ i)) := Eq.trans rfl rfl
theorem y_cmp_Eq : cmpD .Eq x y h = eqD h x y := Eq.trans rfl rfl
theorem y_cmp_NotEq : cmpD .NotEq x y h = (eqD h x y).map (fun b => !b) := Eq.trans rfl rfl
theorem y_cmp_Is : cmpD .Is x .non h = some (isNon x) := Eq.trans rfl rfl
theorem y_cmp_IsNot : cmpD .IsNot x .non h = some (!isNon x) := Eq.trans rfl rfl
theorem y_isNon_non : isNon .non = true := Eq.trans rfl rfl
theorem y_isNon_int : isNon (.int i) = false := Eq.trans rfl rfl
theorem y_isNon_bl : isNon (.bl b) = false := Eq.trans rfl rfl
theorem y_isNon_tup : isNon (.tup xs) = false := Eq.trans rfl rfl
theorem y_isNon_ref : isNon (.ref l) = false := Eq.trans rfl rfl
theorem y_isNon_str {q : Str} : isNon (.str q) = false := Eq.trans rfl rfl
theorem y_ty_bool_non : isTy .bool h .non = some false := Eq.trans rfl rfl
theorem y_ty_bool_bl : isTy .bool h (.bl b) = some true := Eq.trans rfl rfl
theorem y_ty_bool_int : isTy .bool h (.int i) = some false := Eq.trans rfl rfl
theorem y_ty_bool_str {q : Str} : isTy .bool h (.str q) = some false := Eq.trans rfl rfl
theorem y_ty_bool_tup : isTy .bool h (.tup xs) = some false := Eq.trans rfl rfl
theorem y_ty_bool_fl : isTy .bool h (.fl xs) = some false := Eq.trans rfl rfl
theorem y_ty_bool_ref : isTy .bool h (.ref l) = tyK false (Hd.lst h l) := by simp only [isTy_ref]; cases Hd.lst h l <;> rfl
theorem y_ty_int_non : isTy .int h .non = some false := Eq.trans rfl rfl
theorem y_ty_int_bl : isTy .int h (.bl b) = some true := Eq.trans rfl rfl
theorem y_ty_int_int : isTy .int h (.int i) = some true := Eq.trans rfl rfl
theorem y_ty_int_str {q : Str} : isTy .int h (.str q) = some false := Eq.trans rfl rfl
theorem y_ty_int_tup : isTy .int h (.tup xs) = some false := Eq.trans rfl rfl
theorem y_ty_int_fl : isTy .int h (.fl xs) = some false := Eq.trans rfl rfl
theorem y_ty_int_ref : isTy .int h (.ref l) = tyK false (Hd.lst h l) := by simp only [isTy_ref]; cases Hd.lst h l <;> rfl
theorem y_ty_str_non : isTy .str h .non = some false := Eq.trans rfl rfl
theorem y_ty_str_bl : isTy .str h (.bl b) = some false := Eq.trans rfl rfl
theorem y_ty_str_int : isTy .str h (.int i) = some false := Eq.trans rfl rfl
theorem y_ty_str_str {q : Str} : isTy .str h (.str q) = some true := Eq.trans rfl rfl
theorem y_ty_str_tup : isTy .str h (.tup xs) = some false := Eq.trans rfl rfl
theorem y_ty_str_fl : isTy .str h (.fl xs) = some false := Eq.trans rfl rfl
theorem y_ty_str_ref : isTy .str h (.ref l) = tyK false (Hd.lst h l) := by simp only [isTy_ref]; cases Hd.lst h l <;> rfl
theorem y_ty_list_non : isTy .list h .non = some false := Eq.trans rfl rfl
theorem y_ty_list_bl : isTy .list h (.bl b) = some false := Eq.trans rfl rfl
theorem y_ty_list_int : isTy .list h (.int i) = some false := Eq.trans rfl rfl
theorem y_ty_list_str {q : Str} : isTy .list h (.str q) = some false := Eq.trans rfl rfl
theorem y_ty_list_tup : isTy .list h (.tup xs) = some false := Eq.trans rfl rfl
theorem y_ty_list_fl : isTy .list h (.fl xs) = some true := Eq.trans rfl rfl
theorem y_ty_list_ref : isTy .list h (.ref l) = tyK true (Hd.lst h l) := by simp only [isTy_ref]; cases Hd.lst h l <;> rfl
theorem y_ty_tuple_non : isTy .tuple h .non = some false := Eq.trans rfl rfl
theorem y_ty_tuple_bl : isTy .tuple h (.bl b) = some false := Eq.trans rfl rfl
theorem y_ty_tuple_int : isTy .tuple h (.int i) = some false := Eq.trans rfl rfl
theorem y_ty_tuple_str {q : Str} : isTy .tuple h (.str q) = some false := Eq.trans rfl rfl
theorem y_ty_tuple_tup : isTy .tuple h (.tup xs) = some true := Eq.trans rfl rfl
theorem y_ty_tuple_fl : isTy .tuple h (.fl xs) = some false := Eq.trans rfl rfl
theorem y_ty_tuple_ref : isTy .tuple h (.ref l) = tyK false (Hd.lst h l) := by simp only [isTy_ref]; cases Hd.lst h l <;> rfl
theorem y_at_s : atK (some d) h = .ok d h := Eq.trans rfl rfl
theorem y_ix_tup : ixD (.tup xs) (.int i) h = atK (atI xs i) h := by simp only [ixD_int, seqOf_tup, Option.bind_some]; cases atI xs i <;> rfl
theorem y_ix_fl : ixD (.fl xs) (.int i) h = atK (atI xs i) h := by simp only [ixD_int, seqOf_fl, Option.bind_some]; cases atI xs i <;> rfl
theorem y_ix_ref : ixD (.ref l) (.int i) h = ixK (Hd.lst h l) i h := by simp only [ixD_int, seqOf_ref]; cases Hd.lst h l with
  | none => rfl
  | some xs => simp only [Option.bind_some, ixK]; cases atI xs i <;> rfl
theorem y_ixK_s : ixK (some xs) i h = atK (atI xs i) h := Eq.trans rfl rfl
theorem y_len_tup : lenD (.tup xs) h = .ok (.int xs.length) h := Eq.trans rfl rfl
theorem y_len_fl : lenD (.fl xs) h = .ok (.int xs.length) h := Eq.trans rfl rfl
theorem y_len_ref : lenD (.ref l) h = lenK (Hd.lst h l) h := by simp only [lenD_eq, seqOf_ref]; cases Hd.lst h l <;> rfl
theorem y_lenK_s : lenK (some xs) h = .ok (.int xs.length) h := Eq.trans rfl rfl
theorem y_it_ref : itD (.ref l) h = itK l (Hd.lst h l) h := by simp only [itD_ref]; cases Hd.lst h l <;> rfl
theorem y_itK_s : itK l (some xs) h = .ok (.lc l xs.length) h := Eq.trans rfl rfl
theorem y_at_1 : atI (x :: y :: xs) 1 = some y := atI_nat (j := 1) rfl
theorem y_at_2 : atI (x :: y :: w :: xs) 2 = some w := atI_nat (j := 2) rfl
theorem y_tyK_s : tyK b (some xs) = some b := Eq.trans rfl rfl
theorem y_map_not : (some b).map (fun b => !b) = some (!b) := Eq.trans rfl rfl
end
theorem eqD_str {h : Hd} {a b : Str} (ha : PyData.strOk a = true) (hb : PyData.strOk b = true) : eqD h (.str a) (.str b) = some (decide (a = b)) := by
  unfold eqD
  by_cases e : a = b <;> simp [dat, pur, SeqAt.shaped, PyData.eqv, PyData.canLay0, PyData.depth, e, ha, hb]
end Ev

set_option Elab.async false
set_option linter.all false
set_option maxRecDepth 100000
namespace Ev
open PySem PySem.Spec PyProof.Rows L2
/-! ### loops, by what their turns keep -/
/-- a turn: goes on, breaks, returns -/
def RSat (P B : Sd → Hd → Prop) (T : D → Hd → Prop) : RS → Prop
  | .nx s h => P s h
  | .ct s h => P s h
  | .bk s h => B s h
  | .ret d h => T d h
  | _ => False
/-- a loop's end -/
def Ends (B : Sd → Hd → Prop) (T : D → Hd → Prop) : RS → Prop
  | .nx s h => B s h
  | .ret d h => T d h
  | _ => False
def nev2 {α : Type} : α → Hd → Prop := fun _ _ => False
section
variable {P B : Sd → Hd → Prop} {T : D → Hd → Prop} {s : Sd} {h : Hd} {d : D} {r : RS}
theorem RSat_nx : RSat P B T (.nx s h) = P s h := Eq.trans rfl rfl
theorem RSat_ct : RSat P B T (.ct s h) = P s h := Eq.trans rfl rfl
theorem RSat_bk : RSat P B T (.bk s h) = B s h := Eq.trans rfl rfl
theorem RSat_ret : RSat P B T (.ret d h) = T d h := Eq.trans rfl rfl
theorem Ends_nx : Ends B T (.nx s h) = B s h := Eq.trans rfl rfl
theorem Ends_ret : Ends B T (.ret d h) = T d h := Eq.trans rfl rfl
theorem Ends.elim (e : Ends B T r) : (∃ s h, r = .nx s h ∧ B s h) ∨ (∃ d h, r = .ret d h ∧ T d h) := by
  cases r with
  | nx s h => exact .inl ⟨s, h, rfl, e⟩
  | ret d h => exact .inr ⟨d, h, rfl, e⟩
  | _ => exact False.elim e
theorem Ends.nxt (e : Ends B nev2 r) : ∃ s h, r = .nx s h ∧ B s h := by
  rcases e.elim with x | ⟨_, _, _, x⟩
  · exact x
  · exact False.elim x
end
theorem loopS_sat {xs : List D} {f : D → Sd → Hd → RS} {s : Sd} {h : Hd} {r : RS} (e : loopS f (.fx xs) xs.length 0 s h = r) (P : Nat → Sd → Hd → Prop) (B : Sd → Hd → Prop) (T : D → Hd → Prop)
    (hf : ∀ i x s h, xs[i]? = some x → P i s h → RSat (P (i + 1)) B T (f x s h)) (hB : ∀ s h, P xs.length s h → B s h) (h0 : P 0 s h) : Ends B T r := by
  subst e
  have go : ∀ (n i : Nat) (s : Sd) (h : Hd), i + n = xs.length → P i s h → Ends B T (loopS f (.fx xs) n i s h) := by
    intro n
    induction n with
    | zero =>
      intro i s h e1 p
      have : i = xs.length := by omega
      subst this
      simp only [loopS, Iv.fin, if_true]
      exact hB _ _ p
    | succ n ih =>
      intro i s h e1 p
      have hi : i < xs.length := by omega
      have e3 : (Iv.fx xs).get i h = some xs[i] := List.getElem?_eq_getElem hi
      have z := hf i xs[i] s h (List.getElem?_eq_getElem hi) p
      simp only [loopS, e3]
      generalize f xs[i] s h = w at z
      cases w with
      | nx s1 h1 => exact ih (i + 1) s1 h1 (by omega) z
      | ct s1 h1 => exact ih (i + 1) s1 h1 (by omega) z
      | bk s1 h1 => exact z
      | ret d h1 => exact z
      | _ => exact False.elim z
  exact go xs.length 0 s h (by omega) h0
theorem rangeD_at {lo : Int} {n i : Nat} {x : D} (e : (rangeD lo n)[i]? = some x) : i < n ∧ x = .int (lo + (i : Nat)) := by
  have hi : i < n := by
    have := (List.getElem?_eq_some_iff.mp e).1
    rwa [rangeD_len] at this
  refine ⟨hi, ?_⟩
  simp [rangeD, hi] at e
  exact e.symm
theorem loopS_rng {lo : Int} {n : Nat} {f : D → Sd → Hd → RS} {s : Sd} {h : Hd} {r : RS} (e : loopS f (.fx (rangeD lo n)) n 0 s h = r) (P : Nat → Sd → Hd → Prop) (B : Sd → Hd → Prop) (T : D → Hd → Prop)
    (hf : ∀ i s h, i < n → P i s h → RSat (P (i + 1)) B T (f (.int (lo + (i : Nat))) s h)) (hB : ∀ s h, P n s h → B s h) (h0 : P 0 s h) : Ends B T r := by
  refine loopS_sat (xs := rangeD lo n) (by rw [rangeD_len]; exact e) P B T (fun i x s h e1 p => ?_) (fun s h p => hB s h (by rwa [rangeD_len] at p)) h0
  obtain ⟨hi, rfl⟩ := rangeD_at e1
  exact hf i s h hi p
/-- a for over a list of ours that stands as it is -/
theorem loopS_lc {l m : Nat} {xs : List D} {f : D → Sd → Hd → RS} {s : Sd} {h : Hd} {r : RS} (e : loopS f (.lc l m) m 0 s h = r) (hm : m = xs.length) (P : Nat → Sd → Hd → Prop) (B : Sd → Hd → Prop) (T : D → Hd → Prop)
    (hl : ∀ i s h, P i s h → Hd.lst h l = some xs)
    (hf : ∀ i x s h, xs[i]? = some x → P i s h → RSat (P (i + 1)) B T (f x s h)) (hB : ∀ s h, P xs.length s h → B s h) (h0 : P 0 s h) : Ends B T r := by
  subst e hm
  have go : ∀ (n i : Nat) (s : Sd) (h : Hd), i + n = xs.length → P i s h → Ends B T (loopS f (.lc l xs.length) n i s h) := by
    intro n
    induction n with
    | zero =>
      intro i s h e1 p
      have : i = xs.length := by omega
      subst this
      simp only [loopS, Iv.fin, hl _ _ _ p, beq_self_eq_true, if_true]
      exact hB _ _ p
    | succ n ih =>
      intro i s h e1 p
      have hi : i < xs.length := by omega
      have e3 : (Iv.lc l xs.length).get i h = some xs[i] := by
        simp only [Iv.get, hl _ _ _ p, if_true]
        exact List.getElem?_eq_getElem hi
      have z := hf i xs[i] s h (List.getElem?_eq_getElem hi) p
      simp only [loopS, e3]
      generalize f xs[i] s h = w at z
      cases w with
      | nx s1 h1 => exact ih (i + 1) s1 h1 (by omega) z
      | ct s1 h1 => exact ih (i + 1) s1 h1 (by omega) z
      | bk s1 h1 => exact z
      | ret d h1 => exact z
      | _ => exact False.elim z
  exact go xs.length 0 s h (by omega) h0
/-- a while: some number sinks -/
theorem loopW_sat {c : Sd → Hd → R Bool} {f : Sd → Hd → RS} {s : Sd} {h : Hd} {F : Nat} {r : RS} (e : loopW c f F s h = r) (P : Nat → Sd → Hd → Prop) (B : Sd → Hd → Prop) (T : D → Hd → Prop)
    (hf : ∀ n s h, P n s h → Tot (c s h) fun b h1 => match b with
      | true => RSat (fun s2 h2 => ∃ m, m < n ∧ P m s2 h2) B T (f s h1)
      | false => B s h1) (h0 : ∃ n, n < F ∧ P n s h) : Ends B T r := by
  subst e
  induction F generalizing s h with
  | zero => obtain ⟨n, hn, _⟩ := h0; omega
  | succ F ih =>
    obtain ⟨n, hn, p⟩ := h0
    obtain ⟨b, h1, e1, q⟩ := (hf n s h p).elim
    cases b with
    | false => simp only [loopW, e1, thn_ok, Bool.false_eq_true, if_false]; exact q
    | true =>
      simp only [loopW, e1, thn_ok, if_true]
      generalize f s h1 = w at q
      cases w with
      | nx s2 h2 =>
        obtain ⟨m, hm, p2⟩ := q
        exact ih ⟨m, by omega, p2⟩
      | ct s2 h2 =>
        obtain ⟨m, hm, p2⟩ := q
        exact ih ⟨m, by omega, p2⟩
      | bk s1 h1 => exact q
      | ret d h1 => exact q
      | _ => exact False.elim q
/-- a comprehension: what its turns keep; each turn puts one -/
theorem loopC_sat {xs : List D} {f : D → Hd → R (Option D)} {h : Hd} {r : R (List D)} (e : loopC f (.fx xs) xs.length 0 [] h = r) (hz : xs.length ≤ 1000) (P : List D → Hd → Prop)
    (hf : ∀ i x acc h, xs[i]? = some x → acc.length = i → P acc h → Tot (f x h) fun o h' => ∃ y, o = some y ∧ P (acc ++ [y]) h') (h0 : P [] h) : ∃ ys h', r = .ok ys h' ∧ ys.length = xs.length ∧ P ys h' := by
  subst e
  exact loopC_inv (P := fun _ => P) (by rw [sizeLine_eq]; omega) (fun i x acc h e1 e2 p => by
    obtain ⟨o, h', e3, y, rfl, q⟩ := (hf i x acc h e1 e2 p).elim
    exact ⟨y, h', e3, q⟩) h0
theorem loopC_rngP {lo : Int} {n : Nat} {f : D → Hd → R (Option D)} {h : Hd} {r : R (List D)} (e : loopC f (.fx (rangeD lo n)) n 0 [] h = r) (hz : n ≤ 1000) (P : List D → Hd → Prop)
    (hf : ∀ i acc h, i < n → acc.length = i → P acc h → Tot (f (.int (lo + (i : Nat))) h) fun o h' => ∃ y, o = some y ∧ P (acc ++ [y]) h') (h0 : P [] h) : ∃ ys h', r = .ok ys h' ∧ ys.length = n ∧ P ys h' := by
  have := loopC_sat (xs := rangeD lo n) (f := f) (h := h) (r := r) (by rw [rangeD_len]; exact e) (by rwa [rangeD_len]) P (fun i x acc h e1 e2 p => by
    obtain ⟨hi, rfl⟩ := rangeD_at e1
    exact hf i acc h hi e2 p) h0
  rwa [rangeD_len] at this
/-- a comprehension that gives just these -/
theorem loopC_list {xs : List D} {f : D → Hd → R (Option D)} {h : Hd} {n : Nat} {r : R (List D)} (e : loopC f (.fx xs) n 0 [] h = r) (hn : n = xs.length) (hz : n ≤ 1000) (ys : List D) (hy : ys.length = xs.length)
    (hf : ∀ (i : Nat) (x : D), xs[i]? = some x → ∃ y, ys[i]? = some y ∧ f x h = .ok (some y) h) : r = .ok ys h := by
  subst hn
  obtain ⟨zs, h', e1, e2, e3⟩ := loopC_inv (xs := xs) (f := f) (h := h) (P := fun i acc h' => h' = h ∧ acc = ys.take i) (by rw [sizeLine_eq]; omega) (fun i x acc h' a b c => by
    obtain ⟨rfl, rfl⟩ := c
    obtain ⟨y, hy, hfx⟩ := hf i x a
    refine ⟨y, _, hfx, rfl, ?_⟩
    rw [List.take_add_one, hy]
    rfl) ⟨rfl, by simp⟩
  obtain ⟨rfl, rfl⟩ := e3
  rw [← e, e1, ← hy, List.take_length]
theorem sqD_sumr {α : Type} {xs : List α} {f : α → Int} {h : Hd} : sqD .sum (xs.map fun x => D.int (f x)) h = .ok (.int (xs.map f).sum) h := by
  have : (xs.map fun x => D.int (f x)) = (xs.map f).map D.int := by simp
  rw [this, sqD_sum']
theorem ix_tup {xs : List D} {i : Nat} {d : D} {h : Hd} (e : xs[i]? = some d) : ixD (.tup xs) (.int i) h = .ok d h := by
  simp only [ixD_int, seqOf_tup, Option.bind_some, atI_k e]
theorem ix_ref {xs : List D} {l i : Nat} {d : D} {h : Hd} (hl : Hd.lst h l = some xs) (e : xs[i]? = some d) : ixD (.ref l) (.int i) h = .ok d h := by
  simp only [ixD_int, seqOf_ref, hl, Option.bind_some, atI_k e]
theorem ix_fl {xs : List D} {i : Nat} {d : D} {h : Hd} (e : xs[i]? = some d) : ixD (.fl xs) (.int i) h = .ok d h := by
  simp only [ixD_int, seqOf_fl, Option.bind_some, atI_k e]
theorem sum_cast {α : Type} {f : α → Nat} : ∀ xs : List α, (xs.map fun x => ((f x : Nat) : Int)).sum = (((xs.map f).sum : Nat) : Int)
  | [] => rfl
  | x :: xs => by simp only [List.map_cons, List.sum_cons, sum_cast xs, Int.natCast_add]
theorem rmap_at {α : Type} {n i : Nat} {f : Nat → α} {x : α} (e : ((List.range n).map f)[i]? = some x) : i < n ∧ x = f i := by
  have hi : i < n := by
    have := (List.getElem?_eq_some_iff.mp e).1
    simpa using this
  refine ⟨hi, ?_⟩
  simp [hi] at e
  exact e.symm
theorem rmap_get {α : Type} {n i : Nat} {f : Nat → α} (hi : i < n) : ((List.range n).map f)[i]? = some (f i) := by simp [hi]
theorem fm {x : Int} {m : Nat} : x.fmod m = x % (m : Int) := Int.fmod_eq_emod_of_nonneg _ (by omega)
theorem lst_new1 {h : Hd} {a : O} {xs : List D} : Hd.lst (h ++ [a] ++ [.lst xs]) (h.length + 1) = some xs := by
  have := lst_new (h := h ++ [a]) (xs := xs)
  rwa [List.length_append] at this
theorem lst_new2 {h : Hd} {a b : O} {xs : List D} : Hd.lst (h ++ [a] ++ [b] ++ [.lst xs]) (h.length + 2) = some xs := by
  have := lst_new1 (h := h ++ [a]) (a := b) (xs := xs)
  rwa [List.length_append] at this
theorem lst_0 {h : Hd} {xs : List D} : Hd.lst (.lst xs :: h) 0 = some xs := Eq.trans rfl rfl
theorem setL_0 {h : Hd} {xs ys : List D} : setL 0 ys (.lst xs :: h) = .lst ys :: h := Eq.trans rfl rfl
theorem trunc_new {h : Hd} {xs : List D} (hb : belows h.length xs = true) : trunc h (.ref h.length) (h ++ [.lst xs]) = .ok (.ref h.length) (h ++ [.lst xs]) := trunc_list lst_new (Nat.le_refl _) hb
theorem trunc_nil {d : D} {h : Hd} (hd : below 0 d = true) : trunc [] d h = .ok d [] := trunc_same (h := []) (o := h) hd
/-! ### plain data -/
mutual
def pl : D → Bool
  | .tup xs => pls xs
  | .str q => PyData.strOk q
  | .fl _ => false
  | .ref _ => false
  | _ => true
def pls : List D → Bool
  | [] => true
  | x :: xs => pl x && pls xs
end
mutual
def nd : D → Nat
  | .tup xs => 1 + nds xs
  | _ => 1
def nds : List D → Nat
  | [] => 0
  | x :: xs => nd x + nds xs
end
theorem pls_app : ∀ {xs ys : List D}, pls (xs ++ ys) = (pls xs && pls ys)
  | [], ys => by simp [pls]
  | x :: xs, ys => by simp [pls, pls_app (xs := xs), Bool.and_assoc]
theorem nds_app : ∀ {xs ys : List D}, nds (xs ++ ys) = nds xs + nds ys
  | [], ys => by simp [nds]
  | x :: xs, ys => by simp [nds, nds_app (xs := xs), Nat.add_assoc]
theorem nds_len : ∀ xs : List D, xs.length ≤ nds xs
  | [] => Nat.le_refl _
  | x :: xs => by
    have := nds_len xs
    have h1 : 1 ≤ nd x := by cases x <;> simp [nd]
    simp only [nds, List.length_cons]
    omega
theorem pls_at : ∀ {xs : List D} {i : Nat} {x : D}, pls xs = true → xs[i]? = some x → pl x = true
  | [], i, x, _, e => by simp at e
  | y :: xs, 0, x, h, e => by
    simp only [pls, Bool.and_eq_true] at h
    simp at e
    exact e ▸ h.1
  | y :: xs, i + 1, x, h, e => by
    simp only [pls, Bool.and_eq_true] at h
    simp at e
    exact pls_at h.2 e
def prs (xs : List D) : List D := xs.map fun x => .tup [x, x]
theorem prs_app {xs ys : List D} : prs (xs ++ ys) = prs xs ++ prs ys := by simp [prs]
theorem prs_len {xs : List D} : (prs xs).length = xs.length := by simp [prs]
mutual
theorem pl_below : ∀ {n : Nat} (d : D), pl d = true → below n d = true
  | n, .tup xs, h => pls_below xs h
  | n, .non, _ => rfl
  | n, .bl _, _ => rfl
  | n, .int _, _ => rfl
  | n, .str _, _ => rfl
  | n, .fl _, h => by cases h
  | n, .ref _, h => by cases h
theorem pls_below : ∀ {n : Nat} (xs : List D), pls xs = true → belows n xs = true
  | n, [], _ => rfl
  | n, x :: xs, h => by
    simp only [pls, Bool.and_eq_true] at h
    simp only [belows, pl_below x h.1, pls_below xs h.2, Bool.and_self]
end
theorem pls_map {α : Type} {f : α → D} : ∀ {xs : List α}, (∀ x, pl (f x) = true) → pls (xs.map f) = true
  | [], _ => rfl
  | x :: xs, h => by simp [pls, h x, pls_map (xs := xs) h]
theorem nds_map {α : Type} {f : α → D} {c : Nat} : ∀ {xs : List α}, (∀ x, nd (f x) ≤ c) → nds (xs.map f) ≤ xs.length * c
  | [], _ => by simp [nds]
  | x :: xs, h => by
    have := nds_map (xs := xs) h
    have := h x
    simp only [List.map_cons, nds, List.length_cons, Nat.succ_mul]
    omega
/-! ### a pool of draws: one list of whole numbers, the rest stands -/
def Pl (p : Nat) (h0 h : Hd) : Prop := p < h0.length ∧ ∃ is : List Int, is ≠ [] ∧ h = setL p (is.map D.int) h0
section
variable {p : Nat} {h0 h h1 h2 : Hd} {d : D} {is : List Int}
theorem lst_at {l : Nat} {xs : List D} (hl : l < h.length) : Hd.lst (setL l xs h) l = some xs := by
  unfold Hd.lst setL
  rw [List.getElem?_set_self hl]
theorem set_self {l : Nat} {xs : List D} (e : Hd.lst h l = some xs) : setL l xs h = h := by
  have q := Hd.lst_eq e
  obtain ⟨hl, q⟩ := List.getElem?_eq_some_iff.mp q
  unfold setL
  rw [← q, List.set_getElem_self]
theorem Pl.lst (q : Pl p h0 h) : ∃ is : List Int, is ≠ [] ∧ Hd.lst h p = some (is.map D.int) := by
  obtain ⟨hl, is, hi, rfl⟩ := q
  exact ⟨is, hi, lst_at hl⟩
theorem Pl.mk' (e : Hd.lst h p = some (is.map D.int)) (hi : is ≠ []) : Pl p h h := ⟨lst_lt e, is, hi, (set_self e).symm⟩
theorem Pl.self (q : Pl p h0 h) : Pl p h h := by
  obtain ⟨is, hi, e⟩ := q.lst
  exact Pl.mk' e hi
theorem Pl.trans (q : Pl p h0 h1) (r : Pl p h1 h2) : Pl p h0 h2 := by
  obtain ⟨hl, is, hi, rfl⟩ := q
  obtain ⟨hl2, is2, hi2, rfl⟩ := r
  exact ⟨hl, is2, hi2, set_set⟩
theorem Pl.set (q : Pl p h0 h) (hi : is ≠ []) : Pl p h0 (setL p (is.map D.int) h) := by
  obtain ⟨hl, js, hj, rfl⟩ := q
  exact ⟨hl, is, hi, set_set⟩
theorem Pl.len (q : Pl p h0 h) : h.length = h0.length := by
  obtain ⟨hl, is, hi, rfl⟩ := q
  exact set_len
theorem Pl.trc (q : Pl p h0 h) (hd : below h0.length d = true) : Ev.trunc h0 d h = .ok d h := by
  obtain ⟨hl, is, hi, rfl⟩ := q
  exact trunc_set0 (belows_ints _) hd
theorem Pl.truncO {o : Hd} (q : Pl p h0 h) (hd : below h0.length d = true) : trunc h0 d (h ++ o) = .ok d h := by
  obtain ⟨hl, is, hi, rfl⟩ := q
  exact trunc_set (belows_ints _) hd
end
end Ev

set_option Elab.async false
set_option linter.all false
set_option maxRecDepth 100000
namespace Ev
open PySem PySem.Spec PyProof.Rows L2
/-! ### frames: the first q objects are the pool's, what stood beyond them stays -/
structure Fr (q : Nat) (h h' : Hd) : Prop where
  len : h.length ≤ h'.length
  eq : ∀ l, q ≤ l → l < h.length → h'[l]? = h[l]?
structure PW (q : Nat) (PI : List O → Prop) (h : Hd) : Prop where
  le : q ≤ h.length
  pi : PI (h.take q)
def PBd (q : Nat) (PI : List O → Prop) : Prop := ∀ os, PI os → ∀ o ∈ os, belowO q o = true
section
variable {q l n : Nat} {PI : List O → Prop} {h h0 h' h1 h2 o : Hd} {xs : List D} {d : D}
theorem Fr.refl : Fr q h h := ⟨Nat.le_refl _, fun _ _ _ => rfl⟩
theorem Fr.trans (a : Fr q h h1) (b : Fr q h1 h2) : Fr q h h2 := ⟨Nat.le_trans a.len b.len, fun l h1 h2 => (b.eq l h1 (Nat.lt_of_lt_of_le h2 a.len)).trans (a.eq l h1 h2)⟩
theorem Fr.app (a : Fr q h0 h) : Fr q h0 (h ++ o) := ⟨by rw [List.length_append]; have := a.len; omega, fun l h1 h2 => by
  rw [List.getElem?_append_left (Nat.lt_of_lt_of_le h2 a.len)]
  exact a.eq l h1 h2⟩
theorem Fr.set (a : Fr q h0 h) (hl : l < q ∨ h0.length ≤ l) : Fr q h0 (setL l xs h) := ⟨by rw [set_len]; exact a.len, fun j h1 h2 => by
  unfold setL
  rw [List.getElem?_set_ne (by omega)]
  exact a.eq j h1 h2⟩
theorem Fr.lst (a : Fr q h h') (hq : q ≤ l) (e : Hd.lst h l = some xs) : Hd.lst h' l = some xs := by
  have := lst_lt e
  unfold Hd.lst at e ⊢
  rw [a.eq l hq this]
  exact e
theorem Fr.take (a : Fr q h0 h) (hn : h0.length ≤ n) : Fr q h0 (h.take n) := ⟨by rw [List.length_take]; have := a.len; omega, fun j h1 h2 => by
  rw [List.getElem?_take_of_lt (by omega)]
  exact a.eq j h1 h2⟩
theorem PW.app (w : PW q PI h) : PW q PI (h ++ o) := ⟨by rw [List.length_append]; have := w.le; omega, by rw [List.take_append_of_le_length w.le]; exact w.pi⟩
theorem take_set_ge {α : Type} {x : α} : ∀ {q l : Nat} {h : List α}, q ≤ l → (h.set l x).take q = h.take q
  | 0, l, h, _ => by simp
  | q + 1, l + 1, [], _ => by simp
  | q + 1, 0, h, e => by omega
  | q + 1, l + 1, y :: h, e => by simp [take_set_ge (q := q) (l := l) (h := h) (by omega)]
theorem PW.set (w : PW q PI h) (hl : q ≤ l) : PW q PI (setL l xs h) := ⟨by rw [set_len]; exact w.le, by unfold setL; rw [take_set_ge hl]; exact w.pi⟩
theorem PW.take (w : PW q PI h) (hn : q ≤ n) : PW q PI (h.take n) := ⟨by rw [List.length_take]; have := w.le; omega, by rw [List.take_take, Nat.min_eq_left hn]; exact w.pi⟩
mutual
theorem below_mono {a b : Nat} (hab : a ≤ b) : ∀ d : D, below a d = true → below b d = true
  | .tup xs, h => belows_mono hab xs h
  | .fl xs, h => belows_mono hab xs h
  | .ref l, h => by simp only [below, decide_eq_true_eq] at h ⊢; omega
  | .non, _ => rfl
  | .bl _, _ => rfl
  | .int _, _ => rfl
  | .str _, _ => rfl
theorem belows_mono {a b : Nat} (hab : a ≤ b) : ∀ xs : List D, belows a xs = true → belows b xs = true
  | [], _ => rfl
  | x :: xs, h => by
    simp only [belows, Bool.and_eq_true] at h ⊢
    exact ⟨below_mono hab x h.1, belows_mono hab xs h.2⟩
end
theorem old_of {n : Nat} : ∀ {h h' : Hd}, h.length ≤ h'.length → (∀ (l : Nat) (o o' : O), h[l]? = some o → h'[l]? = some o' → o = o' ∨ belowO n o' = true) → old n h h' = true
  | [], h', _, _ => rfl
  | o :: h, [], hl, _ => by simp at hl
  | o :: h, o' :: h', hl, hf => by
    have h1 := hf 0 o o' rfl rfl
    have h2 := old_of (n := n) (h := h) (h' := h') (by simpa using hl) (fun l a b e1 e2 => hf (l + 1) a b (by simpa using e1) (by simpa using e2))
    simp only [old, h2, Bool.and_true, Bool.or_eq_true]
    rcases h1 with rfl | h1
    · left
      cases o with
      | lst xs => exact beqDs_refl xs
    · exact .inr h1
theorem old_fr (hb : PBd q PI) (w : PW q PI h) (w' : PW q PI h') (f : Fr q h h') : old h.length h h' = true := by
  refine old_of f.len fun l o o' e1 e2 => ?_
  by_cases hq : q ≤ l
  · rw [f.eq l hq (List.getElem?_eq_some_iff.mp e1).1, e1] at e2
    exact .inl (Option.some.inj e2)
  · refine .inr ?_
    have m : o' ∈ h'.take q := by
      apply List.mem_of_getElem? (i := l)
      rw [List.getElem?_take_of_lt (by omega)]
      exact e2
    have := hb _ w'.pi o' m
    cases o' with
    | lst xs => exact belows_mono w.le xs this
/-- a call's end, a value that knows nothing new -/
theorem end_pure (hb : PBd q PI) (w : PW q PI h) (w' : PW q PI h') (f : Fr q h h') (hd : below h.length d = true) : ∃ h2, trunc h d h' = .ok d h2 ∧ PW q PI h2 ∧ Fr q h h2 ∧ h2.length = h.length := by
  refine ⟨h'.take h.length, ?_, w'.take w.le, f.take (Nat.le_refl _), by rw [List.length_take]; have := f.len; omega⟩
  unfold trunc
  rw [if_pos (old_fr hb w w' f), if_pos hd]
/-- .. a list -/
theorem end_list (hb : PBd q PI) (w : PW q PI h) (w' : PW q PI h') (f : Fr q h h') (e : Hd.lst h' l = some xs) (hl : h.length ≤ l) :
    ∃ r h2, trunc h (.ref l) h' = .ok (.ref r) h2 ∧ PW q PI h2 ∧ Fr q h h2 ∧ h.length ≤ r ∧ Hd.lst h2 r = some xs ∧ ∀ j, (j < h.length ∨ belows h.length xs = false) → h2[j]? = h'[j]? := by
  have o := old_fr hb w w' f
  have nb : ¬ below h.length (.ref l) = true := by simp [below]; omega
  by_cases c : belows h.length xs = true
  · refine ⟨h.length, h'.take h.length ++ [.lst xs], ?_, (w'.take w.le).app, (f.take (Nat.le_refl _)).app, Nat.le_refl _, ?_, fun j hj => ?_⟩
    · unfold trunc
      rw [if_pos o, if_neg nb]
      simp only [e, if_pos (show h.length ≤ l ∧ belows h.length xs = true from ⟨hl, c⟩)]
    · have hz : (h'.take h.length).length = h.length := by rw [List.length_take]; have := f.len; omega
      have := lst_new (h := h'.take h.length) (xs := xs)
      rwa [hz] at this
    · rcases hj with hj | hj
      · rw [List.getElem?_append_left (by rw [List.length_take]; have := f.len; omega), List.getElem?_take_of_lt hj]
      · rw [c] at hj; cases hj
  · refine ⟨l, h', ?_, w', f, hl, e, fun _ _ => rfl⟩
    unfold trunc
    rw [if_pos o, if_neg nb]
    simp only [e, if_neg (show ¬ (h.length ≤ l ∧ belows h.length xs = true) from fun z => c z.2)]
end
theorem cut_take {xs : List D} {k : Nat} : cutD xs none (some (k : Int)) = xs.take k := by
  unfold cutD
  rw [HT.sIx_nat, HT.sIx_none, List.drop_zero, Nat.sub_zero, ← List.take_eq_take_min]
theorem cut_drop {xs : List D} {k : Nat} : cutD xs (some (k : Int)) none = xs.drop k := by
  unfold cutD
  rw [HT.sIx_nat, HT.sIx_none]
  by_cases hk : k ≤ xs.length
  · rw [Nat.min_eq_left hk]
    exact List.take_of_length_le (by simp)
  · rw [Nat.min_eq_right (by omega), List.drop_eq_nil_of_le (Nat.le_refl _), List.drop_eq_nil_of_le (by omega)]
    simp
theorem map_erase {α β : Type} {f : α → β} : ∀ {xs : List α} {j : Nat}, (xs.map f).eraseIdx j = (xs.eraseIdx j).map f
  | [], j => by simp
  | x :: xs, 0 => rfl
  | x :: xs, j + 1 => by simp [map_erase (xs := xs) (j := j)]
theorem popAt_ok {h : Hd} {l k : Nat} {xs : List D} {d : D} (e : Hd.lst h l = some xs) (e2 : xs[k]? = some d) : popAtD (.ref l) (.int k) h = .ok d (setL l (xs.eraseIdx k) h) := by
  have hk := (List.getElem?_eq_some_iff.mp e2).1
  have : ixN xs.length k = some k := by
    unfold ixN
    rw [if_pos (by omega), if_pos (by omega)]
    rfl
  unfold popAtD
  simp only [e, this, e2]
/-! ### lists of lists of 0 and 1 -/
/-- a list of whole numbers, each as p says -/
def IsRow (p : Int → Prop) (b : Nat) (h : Hd) (l : Nat) : Prop := ∃ es : List Int, Hd.lst h l = some (es.map D.int) ∧ es.length = b ∧ ∀ e ∈ es, p e
/-- a list of such rows, all of them from n on -/
def IsMat (p : Int → Prop) (n a b : Nat) (h : Hd) (r : Nat) : Prop := n ≤ r ∧ ∃ ls : List Nat, Hd.lst h r = some (ls.map D.ref) ∧ ls.length = a ∧ ∀ l ∈ ls, n ≤ l ∧ IsRow p b h l
section
variable {p : Int → Prop} {n a b q l r : Nat} {h h' : Hd} {es : List Int} {ls : List Nat} {xs : List D} {PI : List O → Prop}
theorem IsRow.fr (x : IsRow p b h l) (f : Fr q h h') (hq : q ≤ l) : IsRow p b h' l := by
  obtain ⟨es, e, r⟩ := x
  exact ⟨es, f.lst hq e, r⟩
theorem IsRow.at {l' : Nat} (x : IsRow p b h l) (e : h'[l']? = h[l]?) : IsRow p b h' l' := by
  obtain ⟨es, e2, r⟩ := x
  refine ⟨es, ?_, r⟩
  unfold Hd.lst at e2 ⊢
  rw [e]
  exact e2
theorem IsRow.lt (x : IsRow p b h l) : l < h.length := by obtain ⟨es, e, r⟩ := x; exact lst_lt e
theorem IsMat.fr (x : IsMat p n a b h r) (f : Fr q h h') (hq : q ≤ n) : IsMat p n a b h' r := by
  obtain ⟨hn, ls, e, hl, hr⟩ := x
  exact ⟨hn, ls, f.lst (by omega) e, hl, fun l hm => ⟨(hr l hm).1, (hr l hm).2.fr f (by have := (hr l hm).1; omega)⟩⟩
theorem IsMat.mono {n' : Nat} (x : IsMat p n a b h r) (hn : n' ≤ n) : IsMat p n' a b h r := by
  obtain ⟨h1, ls, e, hl, hr⟩ := x
  exact ⟨by omega, ls, e, hl, fun l hm => ⟨by have := (hr l hm).1; omega, (hr l hm).2⟩⟩
theorem IsRow.app {o : Hd} (x : IsRow p b h l) : IsRow p b (h ++ o) l := by
  obtain ⟨es, e, r⟩ := x
  exact ⟨es, lst_old e, r⟩
theorem IsRow.new (he : ∀ e ∈ es, p e) (hb : es.length = b) : IsRow p b (h ++ [.lst (es.map D.int)]) h.length := ⟨es, lst_new, hb, he⟩
/-- another list is written -/
theorem IsRow.set_ne (x : IsRow p b h l) {j : Nat} (hj : j ≠ l) : IsRow p b (setL j xs h) l := by
  obtain ⟨es, e, r⟩ := x
  exact ⟨es, by rw [lst_set_ne (Ne.symm hj)]; exact e, r⟩
/-- a row is written, itself or another -/
theorem IsRow.set (x : IsRow p b h l) {j : Nat} (hj : j < h.length) (he : ∀ e ∈ es, p e) (hb : es.length = b) : IsRow p b (setL j (es.map D.int) h) l := by
  by_cases hjl : j = l
  · subst hjl
    exact ⟨es, lst_at hj, hb, he⟩
  · exact x.set_ne hjl
theorem belows_refs {n : Nat} : ∀ {ls : List Nat}, ls ≠ [] → (∀ l ∈ ls, n ≤ l) → belows n (ls.map D.ref) = false
  | [], h, _ => absurd rfl h
  | l :: ls, _, h => by
    have := h l List.mem_cons_self
    simp only [List.map_cons, belows, below, decide_eq_false (show ¬ l < n by omega), Bool.false_and]
/-- a call's end: a matrix -/
theorem end_mat (hb : PBd q PI) (w : PW q PI h) (w' : PW q PI h') (f : Fr q h h') (x : IsMat p h.length a b h' r) (ha : 0 < a) :
    ∃ h2, trunc h (.ref r) h' = .ok (.ref r) h2 ∧ PW q PI h2 ∧ Fr q h h2 ∧ IsMat p h.length a b h2 r := by
  obtain ⟨hn, ls, e, hl, hr⟩ := x
  refine ⟨h', ?_, w', f, hn, ls, e, hl, hr⟩
  have nb : ¬ below h.length (.ref r) = true := by simp [below]; omega
  have c : belows h.length (ls.map D.ref) = false := belows_refs (by rintro rfl; simp at hl; omega) fun l hm => (hr l hm).1
  unfold trunc
  rw [if_pos (old_fr hb w w' f), if_neg nb]
  simp only [e, c]
  rw [if_neg (by simp)]
end
/-- a comprehension over a list of ours that stands -/
theorem loopC_lc {l m : Nat} {xs : List D} {f : D → Hd → R (Option D)} {h : Hd} {r : R (List D)} (e : loopC f (.lc l m) m 0 [] h = r) (hm : m = xs.length) (hz : m ≤ 1000) (P : List D → Hd → Prop) (hl : ∀ acc h, P acc h → Hd.lst h l = some xs)
    (hf : ∀ (i : Nat) (x : D) acc h, xs[i]? = some x → acc.length = i → P acc h → Tot (f x h) fun o h' => ∃ y, o = some y ∧ P (acc ++ [y]) h') (h0 : P [] h) : ∃ ys h', r = .ok ys h' ∧ ys.length = m ∧ P ys h' := by
  subst e hm
  have go : ∀ (n i : Nat) (acc : List D) (h : Hd), i + n = xs.length → acc.length = i → P acc h → ∃ ys h', loopC f (.lc l xs.length) n i acc h = .ok ys h' ∧ ys.length = xs.length ∧ P ys h' := by
    intro n
    induction n with
    | zero =>
      intro i acc h e1 e2 p
      have : i = xs.length := by omega
      subst this
      exact ⟨acc, h, by simp only [loopC, Iv.fin, hl _ _ p, beq_self_eq_true, if_true], e2, p⟩
    | succ n ih =>
      intro i acc h e1 e2 p
      have hi : i < xs.length := by omega
      have e3 : (Iv.lc l xs.length).get i h = some xs[i] := by
        simp only [Iv.get, hl _ _ p, if_true]
        exact List.getElem?_eq_getElem hi
      obtain ⟨o, h', e4, y, rfl, p'⟩ := (hf i xs[i] acc h (List.getElem?_eq_getElem hi) e2 p).elim
      simp only [loopC, e3, e4, bind_ok']
      rw [if_pos (by rw [sizeLine_eq]; omega)]
      exact ih (i + 1) _ h' (by omega) (by simp [e2]) p'
  exact go xs.length 0 [] h (by omega) rfl h0
/-- rows put one behind the other -/
def Rows (p : Int → Prop) (n b : Nat) (h : Hd) (acc : List D) : Prop := ∃ ls : List Nat, acc = ls.map D.ref ∧ ∀ l ∈ ls, n ≤ l ∧ IsRow p b h l
section
variable {p : Int → Prop} {n b q l r a : Nat} {h h' : Hd} {acc acc2 : List D}
theorem Rows.nil : Rows p n b h [] := ⟨[], rfl, fun _ hm => nomatch hm⟩
theorem Rows.fr (x : Rows p n b h acc) (f : Fr q h h') (hq : q ≤ n) : Rows p n b h' acc := by
  obtain ⟨ls, e, hr⟩ := x
  exact ⟨ls, e, fun l hm => ⟨(hr l hm).1, (hr l hm).2.fr f (by have := (hr l hm).1; omega)⟩⟩
theorem Rows.app {o : Hd} (x : Rows p n b h acc) : Rows p n b (h ++ o) acc := by
  obtain ⟨ls, e, hr⟩ := x
  exact ⟨ls, e, fun l hm => ⟨(hr l hm).1, (hr l hm).2.app⟩⟩
theorem Rows.snoc (x : Rows p n b h acc) (hn : n ≤ l) (y : IsRow p b h l) : Rows p n b h (acc ++ [.ref l]) := by
  obtain ⟨ls, rfl, hr⟩ := x
  refine ⟨ls ++ [l], by simp, fun j hm => ?_⟩
  rcases List.mem_append.mp hm with hm | hm
  · exact hr j hm
  · rw [show j = l by simpa using hm]
    exact ⟨hn, y⟩
theorem Rows.append (x : Rows p n b h acc) (y : Rows p n b h acc2) : Rows p n b h (acc ++ acc2) := by
  obtain ⟨ls, rfl, hr⟩ := x
  obtain ⟨ls2, rfl, hr2⟩ := y
  refine ⟨ls ++ ls2, by simp, fun j hm => ?_⟩
  rcases List.mem_append.mp hm with hm | hm
  · exact hr j hm
  · exact hr2 j hm
theorem Rows.mat (x : Rows p n b h acc) (hn : n ≤ r) (e : Hd.lst h r = some acc) (ha : acc.length = a) : IsMat p n a b h r := by
  obtain ⟨ls, rfl, hr⟩ := x
  exact ⟨hn, ls, e, by simpa using ha, hr⟩
theorem IsMat.rows (x : IsMat p n a b h r) : ∃ acc, Hd.lst h r = some acc ∧ acc.length = a ∧ Rows p n b h acc := by
  obtain ⟨_, ls, e, hl, hr⟩ := x
  exact ⟨_, e, by simpa using hl, ls, rfl, hr⟩
theorem Rows.at {i : Nat} {d : D} (x : Rows p n b h acc) (e : acc[i]? = some d) : ∃ l, d = .ref l ∧ n ≤ l ∧ IsRow p b h l := by
  obtain ⟨ls, rfl, hr⟩ := x
  rw [List.getElem?_map] at e
  obtain ⟨l, e1, rfl⟩ := Option.map_eq_some_iff.mp e
  exact ⟨l, rfl, hr l (List.mem_of_getElem? e1)⟩
theorem Rows.set (x : Rows p n b h acc) (hn : n ≤ l) (y : IsRow p b h l) (i : Nat) : Rows p n b h (acc.set i (.ref l)) := by
  obtain ⟨ls, rfl, hr⟩ := x
  refine ⟨ls.set i l, by simp, fun j hm => ?_⟩
  rcases List.mem_or_eq_of_mem_set hm with hm | hm
  · exact hr j hm
  · subst hm
    exact ⟨hn, y⟩
/-- no row is the list of rows -/
theorem Rows.ne (x : Rows p n b h acc) (e : Hd.lst h r = some acc2) (y : Rows p n b h acc2) (h0 : acc2 ≠ []) : ∀ j, D.ref j ∈ acc → j ≠ r := by
  obtain ⟨ls, rfl, hr⟩ := x
  obtain ⟨ls2, rfl, hr2⟩ := y
  rintro j hj rfl
  obtain ⟨j', hj', e'⟩ := List.mem_map.mp hj
  cases e'
  obtain ⟨_, es, e3, _⟩ := hr j hj'
  rw [e] at e3
  cases ls2 with
  | nil => exact h0 rfl
  | cons a ls2 =>
    cases es with
    | nil => simp at e3
    | cons b es => simp at e3
/-- the list of rows is written -/
theorem Rows.wr (x : Rows p n b h acc) (hj : ∀ j, D.ref j ∈ acc → j ≠ r) {xs : List D} : Rows p n b (setL r xs h) acc := by
  obtain ⟨ls, rfl, hr⟩ := x
  exact ⟨ls, rfl, fun j hm => ⟨(hr j hm).1, (hr j hm).2.set_ne (Ne.symm (hj j (List.mem_map_of_mem hm)))⟩⟩
/-- a row is written -/
theorem Rows.wrow (x : Rows p n b h acc) {es : List Int} (hl : l < h.length) (he : ∀ e ∈ es, p e) (hb : es.length = b) : Rows p n b (setL l (es.map D.int) h) acc := by
  obtain ⟨ls, rfl, hr⟩ := x
  exact ⟨ls, rfl, fun j hm => ⟨(hr j hm).1, (hr j hm).2.set hl he hb⟩⟩
/-- whole numbers put one behind the other -/
def Ints (p : Int → Prop) (acc : List D) : Prop := ∃ es : List Int, acc = es.map D.int ∧ ∀ e ∈ es, p e
theorem Ints.nil : Ints p [] := ⟨[], rfl, fun _ hm => nomatch hm⟩
theorem Ints.snoc {e : Int} (x : Ints p acc) (he : p e) : Ints p (acc ++ [.int e]) := by
  obtain ⟨es, rfl, hr⟩ := x
  refine ⟨es ++ [e], by simp, fun j hm => ?_⟩
  rcases List.mem_append.mp hm with hm | hm
  · exact hr j hm
  · rw [show j = e by simpa using hm]; exact he
theorem Ints.row (x : Ints p acc) (hb : acc.length = b) : IsRow p b (h ++ [.lst acc]) h.length := by
  obtain ⟨es, rfl, hr⟩ := x
  exact IsRow.new hr (by simpa using hb)
end
/-- a comprehension over a list of ours, nothing changes -/
theorem loopC_lcl {l m : Nat} {xs : List D} {f : D → Hd → R (Option D)} {h : Hd} {r : R (List D)} (e : loopC f (.lc l m) m 0 [] h = r) (hl : Hd.lst h l = some xs) (hm : m = xs.length) (hz : m ≤ 1000) (ys : List D) (hy : ys.length = xs.length)
    (hf : ∀ (i : Nat) (x : D), xs[i]? = some x → ∃ y, ys[i]? = some y ∧ f x h = .ok (some y) h) : r = .ok ys h := by
  obtain ⟨zs, h', e1, e2, rfl, e3⟩ := loopC_lc e hm hz (fun acc h' => h' = h ∧ acc = ys.take acc.length) (fun acc h' p => by rw [p.1]; exact hl) (fun i x acc h' hx hl2 p => by
    obtain ⟨rfl, p⟩ := p
    obtain ⟨y, hy, hfx⟩ := hf i x hx
    rw [hfx, Tot_ok]
    refine ⟨y, rfl, rfl, ?_⟩
    rw [List.length_append, List.length_singleton, List.take_add_one, hl2, hy, ← hl2, ← p]
    rfl) ⟨rfl, by simp⟩
  rw [e1, e3, e2, hm, ← hy, List.take_length]
/-! ### weaves -/
/-- a weave by its crossings -/
def wv (a b : Nat) (f : Nat → Nat → Int) : D := .tup ((List.range a).map fun i => .tup ((List.range b).map fun j => .int (f i j)))
theorem belows_map {α : Type} {n : Nat} {f : α → D} : ∀ {xs : List α}, (∀ x, below n (f x) = true) → belows n (xs.map f) = true
  | [], _ => rfl
  | x :: xs, h => by simp [belows, h x, belows_map (xs := xs) h]
theorem wv_below {a b n : Nat} {f : Nat → Nat → Int} : below n (wv a b f) = true := belows_map fun i => belows_map fun j => rfl
theorem pl_wv {a b : Nat} {f : Nat → Nat → Int} : pl (wv a b f) = true := pls_map fun i => pls_map fun j => rfl
theorem nd_wv {a b : Nat} {f : Nat → Nat → Int} : nd (wv a b f) ≤ 1 + a * (1 + b) := by
  have h1 : ∀ i, nd (D.tup ((List.range b).map fun j => .int (f i j))) ≤ 1 + b := fun i => by
    have := nds_map (f := fun j => D.int (f i j)) (c := 1) (xs := List.range b) (fun j => Nat.le_refl _)
    rw [List.length_range] at this
    simp only [nd]
    omega
  have := nds_map (xs := List.range a) h1
  rw [List.length_range] at this
  simp only [wv, nd]
  omega
def rowD (b : Nat) (f : Nat → Int) : D := .tup ((List.range b).map fun j => .int (f j))
theorem ix_wv {a b i : Nat} {f : Nat → Nat → Int} {h : Hd} (hi : i < a) : ixD (wv a b f) (.int i) h = .ok (rowD b (f i)) h := ix_tup (by simp [hi]; rfl)
theorem ix_rowD {b j : Nat} {f : Nat → Int} {h : Hd} (hj : j < b) : ixD (rowD b f) (.int j) h = .ok (.int (f j)) h := ix_tup (by simp [hj])
theorem len_wv {a b : Nat} {f : Nat → Nat → Int} {h : Hd} : lenD (wv a b f) h = .ok (.int a) h := by
  show R.ok (D.int (List.length _)) h = _
  simp
theorem len_rowD {b : Nat} {f : Nat → Int} {h : Hd} : lenD (rowD b f) h = .ok (.int b) h := by
  show R.ok (D.int (List.length _)) h = _
  simp
/-- an entry of a matrix in the heap -/
def ent (h : Hd) (r i j : Nat) : Int := match Hd.lst h r with
  | some zs => match zs[i]? with
    | some (.ref l) => match Hd.lst h l with
      | some es => match es[j]? with
        | some (.int v) => v
        | _ => 0
      | none => 0
    | _ => 0
  | none => 0
theorem IsMat.ent {p : Int → Prop} {n a b r i j : Nat} {h : Hd} (x : IsMat p n a b h r) (hi : i < a) (hj : j < b) : ∃ zs l es, Hd.lst h r = some zs ∧ zs[i]? = some (.ref l) ∧ Hd.lst h l = some es ∧ es[j]? = some (.int (Ev.ent h r i j)) ∧ p (Ev.ent h r i j) := by
  obtain ⟨hn, ls, e, hl, hr⟩ := x
  have hi' : i < ls.length := by omega
  obtain ⟨_, es, q1, q2, q3⟩ := hr _ (List.getElem_mem hi')
  have hj' : j < es.length := by omega
  have e1 : (ls.map D.ref)[i]? = some (.ref ls[i]) := by simp [hi']
  have e2 : (es.map D.int)[j]? = some (.int es[j]) := by simp [hj']
  have e3 : Ev.ent h r i j = es[j] := by
    unfold Ev.ent
    simp only [e, e1, q1, e2]
  exact ⟨_, _, _, e, e1, q1, by rw [e3]; exact e2, by rw [e3]; exact q3 _ (List.getElem_mem hj')⟩
end Ev

set_option Elab.async false
set_option linter.all false
set_option maxRecDepth 100000
namespace Ev
open PySem PySem.Spec PyProof.Rows L2
/-! ### comprehensions that choose -/
section
variable {xs : List D} {f : D → Hd → R (Option D)} {h : Hd} {n l : Nat} {r : R (List D)}
theorem loopC_fm (e : loopC f (.fx xs) n 0 [] h = r) (hn : n = xs.length) (hz : n ≤ 1000) (g : D → Option D) (hf : ∀ x ∈ xs, f x h = .ok (g x) h) : r = .ok (xs.filterMap g) h := by
  subst e hn
  have go : ∀ (n i : Nat) (acc : List D), i + n = xs.length → acc.length ≤ i → acc ++ (xs.drop i).filterMap g = xs.filterMap g → loopC f (.fx xs) n i acc h = .ok (xs.filterMap g) h := by
    intro n
    induction n with
    | zero =>
      intro i acc e1 e2 e3
      rw [List.drop_eq_nil_of_le (by omega)] at e3
      simp only [List.filterMap_nil, List.append_nil] at e3
      simp only [loopC, Iv.fin, if_true, e3]
    | succ n ih =>
      intro i acc e1 e2 e3
      have hi : i < xs.length := by omega
      have e4 : (Iv.fx xs).get i h = some xs[i] := List.getElem?_eq_getElem hi
      rw [List.drop_eq_getElem_cons hi] at e3
      simp only [loopC, e4, hf _ (List.getElem_mem hi), bind_ok']
      cases q : g xs[i] with
      | none =>
        rw [List.filterMap_cons_none q] at e3
        exact ih (i + 1) acc (by omega) (by omega) e3
      | some y =>
        rw [List.filterMap_cons_some q] at e3
        simp only []
        rw [if_pos (by rw [sizeLine_eq]; omega)]
        exact ih (i + 1) _ (by omega) (by simp; omega) (by simpa using e3)
  exact go xs.length 0 [] (by omega) (by simp) (by simp)
theorem loopC_fml (e : loopC f (.lc l n) n 0 [] h = r) (hl : Hd.lst h l = some xs) (hn : n = xs.length) (hz : n ≤ 1000) (g : D → Option D) (hf : ∀ x ∈ xs, f x h = .ok (g x) h) : r = .ok (xs.filterMap g) h := by
  subst e hn
  have go : ∀ (n i : Nat) (acc : List D), i + n = xs.length → acc.length ≤ i → acc ++ (xs.drop i).filterMap g = xs.filterMap g → loopC f (.lc l xs.length) n i acc h = .ok (xs.filterMap g) h := by
    intro n
    induction n with
    | zero =>
      intro i acc e1 e2 e3
      rw [List.drop_eq_nil_of_le (by omega)] at e3
      simp only [List.filterMap_nil, List.append_nil] at e3
      simp only [loopC, Iv.fin, hl, beq_self_eq_true, if_true, e3]
    | succ n ih =>
      intro i acc e1 e2 e3
      have hi : i < xs.length := by omega
      have e4 : (Iv.lc l xs.length).get i h = some xs[i] := by
        simp only [Iv.get, hl, if_true]
        exact List.getElem?_eq_getElem hi
      rw [List.drop_eq_getElem_cons hi] at e3
      simp only [loopC, e4, hf _ (List.getElem_mem hi), bind_ok']
      cases q : g xs[i] with
      | none =>
        rw [List.filterMap_cons_none q] at e3
        exact ih (i + 1) acc (by omega) (by omega) e3
      | some y =>
        rw [List.filterMap_cons_some q] at e3
        simp only []
        rw [if_pos (by rw [sizeLine_eq]; omega)]
        exact ih (i + 1) _ (by omega) (by simp; omega) (by simpa using e3)
  exact go xs.length 0 [] (by omega) (by simp) (by simp)
end
theorem enumL_range {n : Nat} {g : Nat → D} : enumL 0 ((List.range n).map g) = (List.range n).map fun i => .tup [.int i, g i] := by
  apply List.ext_getElem?
  intro i
  by_cases hi : i < n
  · have h1 : i < (enumL 0 ((List.range n).map g)).length := by rw [enumL_len]; simpa using hi
    rw [List.getElem?_eq_getElem h1]
    obtain ⟨x, e1, e2⟩ := enumL_get (List.getElem?_eq_getElem h1)
    rw [e2]
    obtain ⟨_, rfl⟩ := rmap_at e1
    rw [rmap_get hi, Nat.zero_add]
  · rw [List.getElem?_eq_none (by rw [enumL_len]; simp; omega), List.getElem?_eq_none (by simp; omega)]
/-! ### threads -/
abbrev Th := Nat × Nat
def th (t : Th) : D := .tup [.int (t.1 : Nat), .int (t.2 : Nat)]
def pth (t : Th) : PyData := .tuple [.int (t.1 : Nat), .int (t.2 : Nat)]
def ths (a b : Nat) : List Th := (List.range a).map (fun i => (0, i)) ++ (List.range b).map fun j => (1, j)
def isTh (a b : Nat) (t : Th) : Prop := (t.1 = 0 ∧ t.2 < a) ∨ (t.1 = 1 ∧ t.2 < b)
theorem mem_ths {a b : Nat} {t : Th} : t ∈ ths a b ↔ isTh a b t := by
  obtain ⟨s, i⟩ := t
  simp only [ths, isTh, List.mem_append, List.mem_map, List.mem_range, Prod.mk.injEq]
  constructor
  · rintro (⟨x, h, rfl, rfl⟩ | ⟨x, h, rfl, rfl⟩)
    · exact .inl ⟨rfl, h⟩
    · exact .inr ⟨rfl, h⟩
  · rintro (⟨rfl, h⟩ | ⟨rfl, h⟩)
    · exact .inl ⟨i, h, rfl, rfl⟩
    · exact .inr ⟨i, h, rfl, rfl⟩
theorem ths_len {a b : Nat} : (ths a b).length = a + b := by simp [ths]
theorem purs_th : ∀ ts : List Th, purs (ts.map th) = some (ts.map pth)
  | [] => rfl
  | t :: ts => by
    simp only [List.map_cons, purs, purs_th ts]
    rfl
theorem lay_th : ∀ ts : List Th, PyData.canLayAll0 (ts.map pth) = true
  | [] => rfl
  | t :: ts => by simp only [List.map_cons, PyData.canLayAll0, lay_th ts, Bool.and_true]; rfl
theorem depth_th : ∀ ts : List Th, PyData.depthAll (ts.map pth) ≤ 1
  | [] => by simp [PyData.depthAll]
  | t :: ts => by
    have := depth_th ts
    simp only [List.map_cons, PyData.depthAll, pth, PyData.depth]
    omega
theorem eqv_pth {t u : Th} : PyData.eqv (pth t) (pth u) = decide (t = u) := by
  obtain ⟨a, b⟩ := t
  obtain ⟨c, d⟩ := u
  have q : ∀ x y : Nat, (((x : Nat) : Int) == ((y : Nat) : Int)) = decide (x = y) := fun x y => by
    by_cases e : x = y
    · simp [e]
    · have : ¬ ((x : Int) = (y : Int)) := by omega
      simp [e, this]
  simp only [pth, PyData.eqv, PyData.eqvAll, Prod.mk.injEq, Bool.and_true, Bool.decide_and, q]
theorem eqv_ths : ∀ {ts us : List Th}, PyData.eqvAll (ts.map pth) (us.map pth) = decide (ts = us)
  | [], [] => by simp [PyData.eqvAll]
  | [], u :: us => by simp [PyData.eqvAll]
  | t :: ts, [] => by simp [PyData.eqvAll]
  | t :: ts, u :: us => by
    simp only [List.map_cons, PyData.eqvAll, eqv_pth, eqv_ths (ts := ts) (us := us), List.cons.injEq, Bool.decide_and]
theorem shT {ts : List Th} : SeqAt.shaped (.tuple (ts.map pth)) = true := by
  have := depth_th ts
  unfold SeqAt.shaped
  rw [Bool.and_eq_true]
  exact ⟨by simp only [PyData.canLay0]; exact lay_th ts, decide_eq_true (by simp only [PyData.depth]; omega)⟩
theorem shL {ts : List Th} : SeqAt.shaped (.list (ts.map pth)) = true := by
  have := depth_th ts
  unfold SeqAt.shaped
  rw [Bool.and_eq_true]
  exact ⟨by simp only [PyData.canLay0]; exact lay_th ts, decide_eq_true (by simp only [PyData.depth]; omega)⟩
theorem eqD_ths {h : Hd} {ts us : List Th} : eqD h (.tup (ts.map th)) (.tup (us.map th)) = some (decide (ts = us)) := by
  unfold eqD
  simp only [dat, pur, purs_th, Option.map_some, Option.bind_some, shT, and_self, if_true, PyData.eqv, eqv_ths]
theorem eqD_thl {h : Hd} {l m : Nat} {ts us : List Th} (hl : Hd.lst h l = some (ts.map th)) (hm : Hd.lst h m = some (us.map th)) : eqD h (.ref l) (.ref m) = some (decide (ts = us)) := by
  unfold eqD
  simp only [dat, hl, hm, purs_th, Option.map_some, Option.bind_some, shL, and_self, if_true, PyData.eqv, eqv_ths]
theorem pls_ths : ∀ ts : List Th, pls (ts.map th) = true
  | [] => rfl
  | t :: ts => by simp only [List.map_cons, pls, pls_ths ts, Bool.and_true]; rfl
theorem nds_ths : ∀ ts : List Th, nds (ts.map th) = 3 * ts.length
  | [] => rfl
  | t :: ts => by simp only [List.map_cons, nds, nds_ths ts, List.length_cons]; simp only [th, nd, nds]; omega
theorem belows_ths {n : Nat} : ∀ ts : List Th, belows n (ts.map th) = true
  | [] => rfl
  | t :: ts => by simp only [List.map_cons, belows, belows_ths ts, Bool.and_true]; rfl
theorem line_le {n : Nat} (h : n ≤ 1000) : n ≤ sizeLine := by rw [sizeLine_eq]; omega
def unth : D → Th
  | .tup [.int s, .int i] => (s.toNat, i.toNat)
  | _ => (0, 0)
theorem unth_th {t : Th} : unth (th t) = t := by
  obtain ⟨s, i⟩ := t
  simp [unth, th]
theorem fm_th {p : Th → Bool} : ∀ ts : List Th, (ts.map th).filterMap (fun d => if p (unth d) = true then some d else none) = (ts.filter p).map th
  | [] => rfl
  | t :: ts => by
    rw [List.map_cons]
    by_cases h : p t = true
    · rw [List.filterMap_cons_some (b := th t) (by rw [unth_th, if_pos h]), fm_th ts, List.filter_cons_of_pos h, List.map_cons]
    · rw [List.filterMap_cons_none (by rw [unth_th, if_neg h]), fm_th ts, List.filter_cons_of_neg h]
theorem fm_rng {E : Nat → D} {G : D → Option D} {p : Nat → Bool} {c : Nat} (h : ∀ j, G (E j) = if p j = true then some (th (c, j)) else none) : ∀ xs : List Nat, (xs.map E).filterMap G = ((xs.filter p).map fun j => (c, j)).map th
  | [] => rfl
  | j :: xs => by
    rw [List.map_cons]
    by_cases hp : p j = true
    · rw [List.filterMap_cons_some (b := th (c, j)) (by rw [h, if_pos hp]), fm_rng h xs, List.filter_cons_of_pos hp, List.map_cons, List.map_cons]
    · rw [List.filterMap_cons_none (by rw [h, if_neg hp]), fm_rng h xs, List.filter_cons_of_neg hp]
theorem filter_ths {a b : Nat} {p : Th → Bool} : (ths a b).filter p = ((List.range a).filter fun i => p (0, i)).map (fun i => (0, i)) ++ ((List.range b).filter fun j => p (1, j)).map fun j => (1, j) := by
  unfold ths
  rw [List.filter_append, List.filter_map, List.filter_map]
  rfl
end Ev

set_option Elab.async false
set_option linter.all false
set_option maxRecDepth 100000
namespace Ev
open PySem PySem.Spec PyProof.Rows L2
/-! ### loops along written lists -/
def loopL (f : D → Sd → Hd → RS) : List D → Sd → Hd → RS
  | [], s, h => .nx s h
  | d :: ds, s, h => match f d s h with
    | .nx s1 h1 => loopL f ds s1 h1
    | .ct s1 h1 => loopL f ds s1 h1
    | .bk s1 h1 => .nx s1 h1
    | r => r
def contL (f : D → Sd → Hd → RS) (ds : List D) : RS → RS
  | .nx s h => loopL f ds s h
  | .ct s h => loopL f ds s h
  | .bk s h => .nx s h
  | r => r
section
variable {f : D → Sd → Hd → RS} {d : D} {ds xs : List D} {s : Sd} {h : Hd} {n : Nat}
theorem lL_n : loopL f [] s h = .nx s h := Eq.trans rfl rfl
theorem lL_c : loopL f (d :: ds) s h = contL f ds (f d s h) := by
  unfold contL
  simp only [loopL]
theorem cL_nx : contL f ds (.nx s h) = loopL f ds s h := Eq.trans rfl rfl
theorem cL_ct : contL f ds (.ct s h) = loopL f ds s h := Eq.trans rfl rfl
theorem cL_bk : contL f ds (.bk s h) = .nx s h := Eq.trans rfl rfl
theorem cL_ret : contL f ds (.ret d h) = .ret d h := Eq.trans rfl rfl
theorem cL_err {x : Xn} : contL f ds (.err x s h) = .err x s h := Eq.trans rfl rfl
theorem loopS_L (hn : n = xs.length) : loopS f (.fx xs) n 0 s h = loopL f xs s h := by
  have go : ∀ (n i : Nat) (s : Sd) (h : Hd), i + n = xs.length → loopS f (.fx xs) n i s h = loopL f (xs.drop i) s h := by
    intro n
    induction n with
    | zero =>
      intro i s h e
      rw [List.drop_of_length_le (by omega)]
      rfl
    | succ n ih =>
      intro i s h e
      have hi : i < xs.length := by omega
      rw [List.drop_eq_getElem_cons hi, lL_c]
      unfold loopS
      simp only [Iv.get, List.getElem?_eq_getElem hi]
      unfold contL
      cases q : f xs[i] s h with
      | nx s1 h1 => exact ih (i + 1) s1 h1 (by omega)
      | ct s1 h1 => exact ih (i + 1) s1 h1 (by omega)
      | bk s1 h1 => rfl
      | ret d h1 => rfl
      | err x s h1 => rfl
      | no => rfl
  have := go n 0 s h (by omega)
  simpa using this
end
def loopM (f : D → Hd → R (Option D)) : List D → Hd → R (List D)
  | [], h => .ok [] h
  | d :: ds, h => (f d h).bind fun o h1 => match o with
    | some y => (loopM f ds h1).bind fun ys h2 => .ok (y :: ys) h2
    | none => loopM f ds h1
def mK (f : D → Hd → R (Option D)) (ds : List D) : Option D → Hd → R (List D)
  | some y, h => (loopM f ds h).bind (consK y)
  | none, h => loopM f ds h
section
variable {f : D → Hd → R (Option D)} {d y : D} {ds xs : List D} {h : Hd} {n : Nat}
theorem lM_n : loopM f [] h = .ok [] h := Eq.trans rfl rfl
theorem lM_c : loopM f (d :: ds) h = (f d h).bind (mK f ds) := by
  simp only [loopM]
  cases f d h with
  | ok o h1 => cases o <;> rfl
  | err x h => rfl
  | no => rfl
theorem mK_s : mK f ds (some y) h = (loopM f ds h).bind (consK y) := Eq.trans rfl rfl
theorem mK_n : mK f ds none h = loopM f ds h := Eq.trans rfl rfl
theorem loopC_L (hn : n = xs.length) (hz : n ≤ 1000) : loopC f (.fx xs) n 0 [] h = loopM f xs h := by
  have go : ∀ (n i : Nat) (acc : List D) (h : Hd), i + n = xs.length → acc.length + n ≤ 1000 → loopC f (.fx xs) n i acc h = (loopM f (xs.drop i) h).bind fun ys h2 => .ok (acc ++ ys) h2 := by
    intro n
    induction n with
    | zero =>
      intro i acc h e _
      rw [List.drop_of_length_le (by omega), lM_n]
      simp [loopC, Iv.fin, R.bind]
    | succ n ih =>
      intro i acc h e hz
      have hi : i < xs.length := by omega
      rw [List.drop_eq_getElem_cons hi, lM_c]
      unfold loopC
      simp only [Iv.get, List.getElem?_eq_getElem hi]
      cases q : f xs[i] h with
      | ok o h1 =>
        simp only [R.bind]
        cases o with
        | some y =>
          simp only [mK_s]
          rw [if_pos (by rw [sizeLine_eq]; omega), ih (i + 1) (acc ++ [y]) h1 (by omega) (by simp; omega)]
          cases loopM f (xs.drop (i + 1)) h1 with
          | ok ys h2 => simp [R.bind, consK]
          | err x h2 => rfl
          | no => rfl
        | none =>
          simp only [mK_n]
          exact ih (i + 1) acc h1 (by omega) (by omega)
      | err x h1 => rfl
      | no => rfl
  have := go n 0 [] h (by omega) (by simpa using hz)
  rw [this]
  simp only [List.drop_zero, List.nil_append]
  cases loopM f xs h <;> rfl
end
/-! ### a list in the midst of a heap -/
theorem lst_mid {h o : Hd} {xs : List D} : Hd.lst (h ++ .lst xs :: o) h.length = some xs := by simp [Hd.lst]
theorem set_mid {h o : Hd} {xs ys : List D} : setL h.length ys (h ++ .lst xs :: o) = h ++ .lst ys :: o := by simp [setL]
/-! ### kinds of any value -/
def isT : D → Bool
  | .tup _ => true
  | _ => false
def isB : D → Bool
  | .bl _ => true
  | _ => false
def isI : D → Bool
  | .bl _ => true
  | .int _ => true
  | _ => false
def isS : D → Bool
  | .str _ => true
  | _ => false
theorem lst_of_below {h : Hd} {l : Nat} (hb : below h.length (.ref l) = true) : ∃ xs, Hd.lst h l = some xs := by
  have hl : l < h.length := of_decide_eq_true hb
  cases e : h[l] with
  | lst xs => exact ⟨xs, by unfold Hd.lst; rw [List.getElem?_eq_getElem hl, e]⟩
theorem ty_t {h : Hd} {d : D} (hb : below h.length d = true) : isTy .tuple h d = some (isT d) := by
  cases d with
  | ref l => obtain ⟨xs, e⟩ := lst_of_below hb; simp [isTy, e, isT]
  | _ => rfl
theorem ty_b {h : Hd} {d : D} (hb : below h.length d = true) : isTy .bool h d = some (isB d) := by
  cases d with
  | ref l => obtain ⟨xs, e⟩ := lst_of_below hb; simp [isTy, e, isB]
  | _ => rfl
theorem ty_i {h : Hd} {d : D} (hb : below h.length d = true) : isTy .int h d = some (isI d) := by
  cases d with
  | ref l => obtain ⟨xs, e⟩ := lst_of_below hb; simp [isTy, e, isI]
  | _ => rfl
theorem ty_s {h : Hd} {d : D} (hb : below h.length d = true) : isTy .str h d = some (isS d) := by
  cases d with
  | ref l => obtain ⟨xs, e⟩ := lst_of_below hb; simp [isTy, e, isS]
  | _ => rfl
theorem belows_mem {n : Nat} : ∀ {xs : List D}, belows n xs = true → ∀ x ∈ xs, below n x = true
  | x :: xs, h, y, hy => by
    simp only [belows, Bool.and_eq_true] at h
    rcases List.mem_cons.mp hy with rfl | hy
    · exact h.1
    · exact belows_mem h.2 y hy
theorem belows_of {n : Nat} : ∀ {xs : List D}, (∀ x ∈ xs, below n x = true) → belows n xs = true
  | [], _ => rfl
  | x :: xs, h => by
    simp only [belows, Bool.and_eq_true]
    exact ⟨h x List.mem_cons_self, belows_of fun y hy => h y (List.mem_cons_of_mem _ hy)⟩
theorem belows_app {n : Nat} : ∀ {xs ys : List D}, belows n (xs ++ ys) = (belows n xs && belows n ys)
  | [], ys => by simp [belows]
  | x :: xs, ys => by simp [belows, belows_app (xs := xs), Bool.and_assoc]
end Ev

set_option Elab.async false
set_option linter.all false
set_option maxRecDepth 100000
namespace Ev
open PySem PySem.Spec PyProof.Rows L2
section
variable {p : Int → Prop} {n a b l : Nat} {h : Hd} {acc : List D}
theorem Rows.ge (x : Rows p n b h acc) {j : Nat} (hj : D.ref j ∈ acc) : n ≤ j := by
  obtain ⟨ls, rfl, hl⟩ := x
  obtain ⟨l, hm, e⟩ := List.mem_map.mp hj
  cases e
  exact (hl _ hm).1
theorem Rows.mono {n' : Nat} (x : Rows p n b h acc) (hn : n' ≤ n) : Rows p n' b h acc := by
  obtain ⟨ls, e, hl⟩ := x
  exact ⟨ls, e, fun l hm => ⟨Nat.le_trans hn (hl l hm).1, (hl l hm).2⟩⟩
/-- the rows of a weave -/
def wrs (a b : Nat) (f : Nat → Nat → Int) : List D := (List.range a).map fun i => rowD b (f i)
theorem wv_rs {f : Nat → Nat → Int} : wv a b f = .tup (wrs a b f) := rfl
theorem wrs_len {f : Nat → Nat → Int} : (wrs a b f).length = a := by simp [wrs]
/-- [tuple(row) for row in rows] -/
theorem tups {f : D → Hd → R (Option D)} {w : R (List D)} {m : Nat} (e : loopC f (.lc l m) m 0 [] h = w) (hl : Hd.lst h l = some acc) (hm : m = acc.length) (hz : m ≤ 1000) (rr : Rows p n b h acc) (hn : n ≤ l)
    (hf : ∀ r es, Hd.lst h r = some es → f (.ref r) h = .ok (some (.tup es)) h) : w = .ok (wrs m b (ent h l)) h ∧ ∀ i j, i < m → j < b → p (ent h l i j) := by
  subst hm
  have mt : IsMat p n acc.length b h l := rr.mat hn hl rfl
  refine ⟨loopC_lcl e hl rfl hz _ (by simp [wrs]) fun i x hx => ?_, fun i j hi hj => ?_⟩
  · have hi := (List.getElem?_eq_some_iff.mp hx).1
    obtain ⟨r, rfl, _, es, q1, q2, q3⟩ := rr.at hx
    refine ⟨rowD b (ent h l i), rmap_get hi, ?_⟩
    rw [hf r _ q1]
    congr 3
    apply List.ext_getElem
    · simp [q2]
    · intro j h1 h2
      have hj : j < b := by simpa using h2
      obtain ⟨zs, l2, es2, g1, g2, g3, g4, _⟩ := mt.ent hi hj
      rw [hl] at g1
      cases g1
      rw [hx] at g2
      cases g2
      rw [q1] at g3
      cases g3
      rw [List.getElem?_eq_getElem h1] at g4
      simpa using g4
  · obtain ⟨_, _, _, _, _, _, _, g⟩ := mt.ent hi hj
    exact g
end
abbrev Any : Int → Prop := fun _ => True
theorem belows_wrs {n a b : Nat} {f : Nat → Nat → Int} : belows n (wrs a b f) = true := belows_map fun i => belows_map fun j => rfl
theorem it_wv {a b : Nat} {f : Nat → Nat → Int} {h : Hd} : itD (wv a b f) h = .ok (.fx (wrs a b f)) h := Eq.trans rfl rfl
theorem it_rowD {b : Nat} {g : Nat → Int} {h : Hd} : itD (rowD b g) h = .ok (.fx ((List.range b).map fun j => .int (g j))) h := Eq.trans rfl rfl
theorem sqD_all {α : Type} {xs : List α} {g : α → Bool} {h : Hd} : sqD .all (xs.map fun x => D.bl (g x)) h = .ok (.bl (xs.all g)) h := by
  unfold sqD
  rw [show (xs.map fun x => D.bl (g x)) = (xs.map g).map D.bl by simp, blsOf_map]
  simp only [List.all_map, Function.comp_def, id]
theorem sqD_any {α : Type} {xs : List α} {g : α → Bool} {h : Hd} : sqD .any (xs.map fun x => D.bl (g x)) h = .ok (.bl (xs.any g)) h := by
  unfold sqD
  rw [show (xs.map fun x => D.bl (g x)) = (xs.map g).map D.bl by simp, blsOf_map]
  simp only [List.any_map, Function.comp_def, id]
/-- a comprehension over a tuple, each turn by itself -/
theorem loopC_map {f : D → Hd → R (Option D)} {xs : List D} {n : Nat} {h : Hd} {r : R (List D)} (e : loopC f (.fx xs) n 0 [] h = r) (hn : n = xs.length) (hz : n ≤ 1000) (g : D → D) (hg : ∀ x ∈ xs, f x h = .ok (some (g x)) h) : r = .ok (xs.map g) h :=
  loopC_list e hn hz _ (by simp) fun i x hx => ⟨_, by simp [hx], hg x (List.mem_of_getElem? hx)⟩
theorem fold_wv {a b : Nat} {f : Nat → Nat → Int} : D.tup (wrs a b f) = wv a b f := rfl
theorem fold_row {b : Nat} {g : Nat → Int} : D.tup ((List.range b).map fun j => D.int (g j)) = rowD b g := rfl
theorem seqK_row {b : Nat} {g : Nat → Int} {h : Hd} : seqK (rowD b g) h = .ok ((List.range b).map fun j => D.int (g j)) h := Eq.trans rfl rfl
/-! ### rows that are tuples -/
def WRow (p : Int → Prop) (b : Nat) (d : D) : Prop := ∃ es : List Int, d = .tup (es.map D.int) ∧ es.length = b ∧ ∀ e ∈ es, p e
def entD (zs : List D) (i j : Nat) : Int := match zs[i]? with
  | some (.tup ds) => match ds[j]? with
    | some (.int x) => x
    | _ => 0
  | _ => 0
theorem wv_of {p : Int → Prop} {a b : Nat} {zs : List D} (hl : zs.length = a) (h : ∀ z ∈ zs, WRow p b z) : ∃ f, zs = wrs a b f ∧ ∀ i j, i < a → j < b → p (f i j) := by
  have key : ∀ i j, i < a → j < b → ∃ es : List Int, zs[i]? = some (.tup (es.map D.int)) ∧ ∃ hj : j < es.length, entD zs i j = es[j] ∧ p es[j] := by
    intro i j hi hj
    obtain ⟨es, e, lb, pe⟩ := h _ (List.getElem_mem (show i < zs.length by omega))
    have e0 : zs[i]? = some (.tup (es.map D.int)) := by rw [List.getElem?_eq_getElem (by omega), e]
    have hj' : j < es.length := by omega
    refine ⟨es, e0, hj', ?_, pe _ (List.getElem_mem hj')⟩
    unfold entD
    rw [e0]
    have : (es.map D.int)[j]? = some (.int es[j]) := by simp [hj']
    simp [this]
  refine ⟨entD zs, ?_, fun i j hi hj => ?_⟩
  · apply List.ext_getElem
    · simp [hl, wrs]
    · intro i h1 h2
      have hi : i < a := by omega
      have e2 : (wrs a b (entD zs))[i] = rowD b (entD zs i) := by simp [wrs]
      rw [e2]
      obtain ⟨es, e, lb, pe⟩ := h _ (List.getElem_mem h1)
      rw [e]
      congr 1
      apply List.ext_getElem
      · simp [lb]
      · intro j k1 k2
        have hj : j < b := by simpa using k2
        obtain ⟨es2, e3, hj', e4, _⟩ := key i j hi hj
        rw [List.getElem?_eq_getElem h1, e] at e3
        have e5 : es.map D.int = es2.map D.int := by
          have := Option.some.inj e3
          exact D.tup.inj this
        simp only [List.getElem_map, List.getElem_range, e4]
        have : (es.map D.int)[j]? = (es2.map D.int)[j]? := by rw [e5]
        have hj1 : j < es.length := by omega
        simpa [hj', hj1] using this
  · obtain ⟨_, _, _, e, q⟩ := key i j hi hj
    rw [e]
    exact q
theorem Ints.wrow {p : Int → Prop} {b : Nat} {acc : List D} (x : Ints p acc) (hb : acc.length = b) : WRow p b (.tup acc) := by
  obtain ⟨es, rfl, he⟩ := x
  exact ⟨es, rfl, by simpa using hb, he⟩
/-! ### a loop that stops at the first wrong element -/
theorem loopL_find {β : Type} {g : D → Sd → Hd → RS} {h : Hd} {St : Sd → Prop} {bad : D → Option β} {P : β → RS → Prop} (hP : ∀ ds v r, P v r → contL g ds r = r) : ∀ {xs : List D} {s : Sd}, (∀ d ∈ xs, ∀ s, St s → match bad d with
      | none => ∃ s', (g d s h = .nx s' h ∨ g d s h = .ct s' h) ∧ St s'
      | some v => P v (g d s h)) → St s → match xs.findSome? bad with
      | none => ∃ s', loopL g xs s h = .nx s' h ∧ St s'
      | some v => P v (loopL g xs s h)
  | [], s, _, hs => ⟨s, lL_n, hs⟩
  | x :: xs, s, hg, hs => by
    have h1 := hg x List.mem_cons_self s hs
    rw [lL_c, List.findSome?_cons]
    cases e : bad x with
    | none =>
      rw [e] at h1
      obtain ⟨s', e1, e2⟩ := h1
      have ih := loopL_find hP (fun d hd => hg d (List.mem_cons_of_mem _ hd)) e2
      rcases e1 with e1 | e1 <;> rw [e1]
      · rw [cL_nx]; exact ih
      · rw [cL_ct]; exact ih
    | some v =>
      rw [e] at h1
      have : contL g xs (g x s h) = g x s h := hP _ _ _ h1
      rw [this]
      exact h1
theorem stop_ret {g : D → Sd → Hd → RS} {d : D} {h : Hd} {ds : List D} {r : RS} (e : r = .ret d h) : contL g ds r = r := by rw [e]; rfl
theorem stop_err {g : D → Sd → Hd → RS} {x : Xn} {h : Hd} {ds : List D} {r : RS} (e : ∃ s, r = .err x s h) : contL g ds r = r := by obtain ⟨s, rfl⟩ := e; rfl
/-! ### loops over ranges, the heap as it is -/
theorem loopS_rmap {E : Nat → D} {n : Nat} {f : D → Sd → Hd → RS} {s : Sd} {h : Hd} {r : RS} (e : loopS f (.fx ((List.range n).map E)) n 0 s h = r) (P : Nat → Sd → Prop) (hf : ∀ i s, i < n → P i s → ∃ s', f (E i) s h = .nx s' h ∧ P (i + 1) s') (h0 : P 0 s) : ∃ s', r = .nx s' h ∧ P n s' := by
  have l : ((List.range n).map E).length = n := by simp
  have := loopS_sat (xs := (List.range n).map E) (f := f) (s := s) (h := h) (r := r) (by rw [l]; exact e) (fun i s h' => h' = h ∧ P i s) (fun s h' => h' = h ∧ P n s) nev2 (fun i x s h' hx hp => by
    obtain ⟨hi, rfl⟩ := rmap_at hx
    obtain ⟨rfl, hp⟩ := hp
    obtain ⟨s', e1, e2⟩ := hf i s hi hp
    rw [e1]
    exact ⟨rfl, e2⟩) (fun s h' hp => by rwa [l] at hp) ⟨rfl, h0⟩
  obtain ⟨s', h', e1, rfl, e2⟩ := this.nxt
  exact ⟨s', e1, e2⟩
theorem loopS_rngm {n : Nat} {f : D → Sd → Hd → RS} {s : Sd} {h : Hd} {r : RS} (e : loopS f (.fx (rangeD 0 n)) n 0 s h = r) (P : Nat → Sd → Prop) (hf : ∀ i s, i < n → P i s → ∃ s', f (.int (i : Nat)) s h = .nx s' h ∧ P (i + 1) s') (h0 : P 0 s) : ∃ s', r = .nx s' h ∧ P n s' := by
  have q : rangeD 0 n = (List.range n).map fun i => D.int (i : Nat) := by simp [rangeD]
  rw [q] at e
  exact loopS_rmap e P hf h0
theorem loopC_rmap {E g : Nat → D} {n : Nat} {f : D → Hd → R (Option D)} {h : Hd} {r : R (List D)} (e : loopC f (.fx ((List.range n).map E)) n 0 [] h = r) (hz : n ≤ 1000) (hf : ∀ i, i < n → f (E i) h = .ok (some (g i)) h) : r = .ok ((List.range n).map g) h := by
  refine loopC_list e (by simp) hz _ (by simp) fun i x hx => ?_
  obtain ⟨hi, rfl⟩ := rmap_at hx
  exact ⟨_, rmap_get hi, hf i hi⟩
theorem loopC_rngm {g : Nat → D} {n : Nat} {f : D → Hd → R (Option D)} {h : Hd} {r : R (List D)} (e : loopC f (.fx (rangeD 0 n)) n 0 [] h = r) (hz : n ≤ 1000) (hf : ∀ i, i < n → f (.int (i : Nat)) h = .ok (some (g i)) h) : r = .ok ((List.range n).map g) h := by
  have q : rangeD 0 n = (List.range n).map fun i => D.int (i : Nat) := by simp [rangeD]
  rw [q] at e
  exact loopC_rmap e hz hf
theorem sumr_s {g : Nat → Int} {n : Nat} : ((List.range (n + 1)).map g).sum = ((List.range n).map g).sum + g n := by
  rw [List.range_succ, List.map_append, List.sum_append]
  simp
theorem sumr_0 {g : Nat → Int} : ((List.range 0).map g).sum = 0 := rfl
theorem sumr_congr {g k : Nat → Int} {n : Nat} (e : ∀ i, i < n → g i = k i) : ((List.range n).map g).sum = ((List.range n).map k).sum := by
  congr 1
  exact List.map_congr_left fun i hi => e i (List.mem_range.mp hi)
theorem sumr_mul {g : Nat → Int} {c : Int} : ∀ {n : Nat}, ((List.range n).map fun i => c * g i).sum = c * ((List.range n).map g).sum
  | 0 => by simp
  | n + 1 => by rw [sumr_s, sumr_s, sumr_mul (n := n), Int.mul_add]
theorem sumr_add {g k : Nat → Int} : ∀ {n : Nat}, ((List.range n).map fun i => g i + k i).sum = ((List.range n).map g).sum + ((List.range n).map k).sum
  | 0 => by simp
  | n + 1 => by rw [sumr_s, sumr_s, sumr_s, sumr_add (n := n)]; omega
theorem sumr_one {c : Int} {s : Nat} : ∀ {n : Nat}, ((List.range n).map fun i => if i = s then c else 0).sum = if s < n then c else 0
  | 0 => by simp
  | n + 1 => by
    rw [sumr_s, sumr_one (n := n)]
    by_cases e : n = s
    · subst e
      rw [if_neg (Nat.lt_irrefl _), if_pos rfl, if_pos (Nat.lt_succ_self _), Int.zero_add]
    · rw [if_neg e, Int.add_zero]
      by_cases c2 : s < n
      · rw [if_pos c2, if_pos (by omega)]
      · rw [if_neg c2, if_neg (by omega)]
theorem zip_wv {a b : Nat} {f g : Nat → Nat → Int} {h : Hd} : zipD (wv a b g) (wv a b f) h = .ok (.fx ((List.range a).map fun i => .tup [rowD b (g i), rowD b (f i)])) h := by
  rw [wv_rs, wv_rs, y_zip_tup]
  unfold wrs
  rw [List.zip_map', List.map_map]
  rfl
theorem zip_row {b : Nat} {f g : Nat → Int} {h : Hd} : zipD (rowD b g) (rowD b f) h = .ok (.fx ((List.range b).map fun j => .tup [.int (g j), .int (f j)])) h := by
  unfold rowD
  rw [y_zip_tup, List.zip_map', List.map_map]
  rfl
theorem wv_put {a b s : Nat} {f g : Nat → Nat → Int} (hs : s < a) : (wrs a b f).take s ++ [rowD b (g s)] ++ (wrs a b f).drop (s + 1) = wrs a b fun i j => if i = s then g i j else f i j := by
  apply List.ext_getElem?
  intro i
  have l1 : ((wrs a b f).take s).length = s := by rw [List.length_take, wrs_len]; omega
  rcases Nat.lt_trichotomy i s with c | c | c
  · rw [List.append_assoc, List.getElem?_append_left (by omega), List.getElem?_take_of_lt c]
    simp [wrs, show i < a by omega]
    congr 1
    funext j
    simp [show i ≠ s by omega]
  · subst c
    rw [List.append_assoc, List.getElem?_append_right (by omega), l1]
    simp [wrs, hs]
  · rw [List.getElem?_append_right (by simp [l1]; omega), List.getElem?_drop]
    simp only [List.length_append, l1, List.length_cons, List.length_nil]
    rw [show s + 1 + (i - (s + (0 + 1))) = i by omega]
    by_cases hi : i < a
    · simp [wrs, hi]
      congr 1
      funext j
      simp [show i ≠ s by omega]
    · rw [List.getElem?_eq_none (by rw [wrs_len]; omega), List.getElem?_eq_none (by rw [wrs_len]; omega)]
/-- a call hands back a list of its own that holds such lists -/
theorem trunc_any {q : Nat} {PI : List O → Prop} {h h' : Hd} {r : Nat} {zs : List D} (hPI : PBd q PI) (hp : PW q PI h) (hp' : PW q PI h') (hf : Fr q h h') (hr : h.length ≤ r) (e : Hd.lst h' r = some zs) (hb : belows h.length zs = false) : trunc h (.ref r) h' = .ok (.ref r) h' := by
  have nb : ¬ below h.length (.ref r) = true := by simp [below]; omega
  unfold trunc
  rw [if_pos (old_fr hPI hp hp' hf), if_neg nb]
  simp only [e, hb]
  rw [if_neg (by simp)]
theorem nbelows {zs : List D} {n l j : Nat} (e : zs[j]? = some (.ref l)) (hl : n ≤ l) : belows n zs = false := by
  cases c : belows n zs with
  | false => rfl
  | true =>
    have := of_decide_eq_true (belows_mem c _ (List.mem_of_getElem? e))
    omega
theorem bl_ref {m l : Nat} (hl : l < m) : below m (.ref l) = true := decide_eq_true hl
end Ev

set_option Elab.async false
set_option linter.all false
set_option maxRecDepth 100000
namespace K26
open PySem PySem.Spec PyProof.Rows L2 Ev
def f_is_integer : Fn where
  np := 1
  names := ["thing"]
  body := [.ret (.and_ [.isi (.var 0) .int, .not_ (.isi (.var 0) .bool)])]
def f_integer_within : Fn where
  np := 3
  names := ["thing", "low", "high"]
  body := [.ret (.and_ [.call "is_integer" [.var 0], .chain .LtE .LtE (.var 1) (.var 0) (.var 2)])]
def f_tuple_of : Fn where
  np := 2
  names := ["thing", "many"]
  body := [.ret (.and_ [.isi (.var 0) .tuple, .cmp .Eq (.bif .len [.var 0]) (.var 1)])]
def f_check_prices : Fn where
  np := 2
  names := ["weave", "thing", "at", "row", "price"]
  body := [.if_ (.or_ [.not_ (.call "tuple_of" [.var 1, .bif .len [.var 0]]), .not_ (.seq .all (.comp (.call "tuple_of" [.var 3, .bif .len [.ix (.var 0) (.int 0)]]) (.v 3) (.var 1) [] [3]))]) [.raise_ "BadPrices" ["at"] [.neg (.int 1)]] [], .for_ (.t [.v 2, .v 3]) (.enum (.var 1)) [.if_ (.not_ (.seq .all (.comp (.call "integer_within" [.var 4, .neg (.glob "PRICE_MOST"), .glob "PRICE_MOST"]) (.v 4) (.var 3) [] [4]))) [.raise_ "BadPrices" ["at"] [.var 2]] []], .ret (.bin .Mult (.bif .len [.var 0]) (.bif .len [.ix (.var 0) (.int 0)]))]
def f_cost_of : Fn where
  np := 2
  names := ["prices", "weave", "total", "row", "entries", "price", "entry"]
  body := [.asg (.v 2) (.int 0), .for_ (.t [.v 3, .v 4]) (.zip (.var 0) (.var 1)) [.aug 2 .Add (.seq .sum (.comp (.bin .Mult (.var 5) (.var 6)) (.t [.v 5, .v 6]) (.zip (.var 3) (.var 4)) [] [5, 6]))], .ret (.var 2)]
def f_law_begin : Fn where
  np := 1
  names := ["script", "greats", "mixed", "given", "size"]
  body := [.asg (.v 1) (.lst []), .asg (.v 2) (.int 7919), .for_ (.v 3) (.sl (.var 0) (.hole) (.int 63)) [.asg (.v 4) (.bin .Mod (.bif .abs [.bif .int [.var 3]]) (.bin .LShift (.int 1) (.int 2000))), .asg (.v 2) (.bin .Mod (.bif .int [.bin .Add (.bin .Add (.bin .Mult (.var 2) (.int 40014)) (.bin .Mod (.var 4) (.int 2147483249))) (.int 5)]) (.int 2147483563)), .if_ (.cmp .GtE (.var 4) (.bin .Pow (.int 10) (.int 18))) [.expr (.app (.var 1) (.var 4))] []], .ret (.lst [.var 1, .var 2])]
def f_law_dice : Fn where
  np := 2
  names := ["hand", "many", "size"]
  body := [.while_ (.cmp .Gt (.bif .len [.ix (.var 0) (.int 0)]) (.int 0)) [.asg (.v 2) (.ix (.ix (.var 0) (.int 0)) (.int 0)), .if_ (.cmp .Gt (.var 2) (.int 0)) [.setix (.ix (.var 0) (.int 0)) (.int 0) (.bin .FloorDiv (.var 2) (.var 1)), .ret (.bin .Mod (.bif .int [.var 2]) (.var 1))] [], .expr (.popAt (.ix (.var 0) (.int 0)) (.int 0))], .setix (.var 0) (.int 1) (.bin .Mod (.bif .int [.bin .Add (.bin .Mult (.ix (.var 0) (.int 1)) (.int 48271)) (.int 11)]) (.int 2147483399)), .ret (.bin .Mod (.bif .int [.bin .FloorDiv (.ix (.var 0) (.int 1)) (.int 127)]) (.var 1))]
def f_law_habit : Fn where
  np := 1
  names := ["hand"]
  body := [.ret (.lst [.call "_law_dice" [.var 0, .int 6], .call "_law_dice" [.var 0, .int 97]])]
def f_law_leaned : Fn where
  np := 3
  names := ["hand", "habit", "many"]
  body := [.if_ (.cmp .Eq (.ix (.var 1) (.int 0)) (.int 0)) [.ret (.int 0)] [], .if_ (.cmp .Eq (.ix (.var 1) (.int 0)) (.int 1)) [.ret (.bin .Sub (.var 2) (.int 1))] [], .if_ (.cmp .Eq (.ix (.var 1) (.int 0)) (.int 2)) [.ret (.bin .Mod (.bif .int [.ix (.var 1) (.int 1)]) (.var 2))] [], .ret (.call "_law_dice" [.var 0, .var 2])]
def f_law_same : Fn where
  np := 2
  names := ["told", "due", "rest", "one", "other", "at"]
  body := [.asg (.v 2) (.lst [.tup [.var 0, .var 1]]), .while_ (.cmp .Gt (.bif .len [.var 2]) (.int 0)) [.asg (.t [.v 3, .v 4]) (.pop (.var 2)), .if_ (.isi (.var 4) .tuple) [.if_ (.or_ [.not_ (.isi (.var 3) .tuple), .cmp .NotEq (.bif .len [.var 3]) (.bif .len [.var 4])]) [.ret (.bl false)] [], .asg (.v 2) (.bin .Add (.var 2) (.comp (.tup [.ix (.var 3) (.var 5), .ix (.var 4) (.var 5)]) (.v 5) (.rng1 (.bif .len [.var 4])) [] [5]))] [.if_ (.cmp .Is (.var 4) (.non)) [.if_ (.cmp .IsNot (.var 3) (.non)) [.ret (.bl false)] []] [.if_ (.isi (.var 4) .bool) [.if_ (.or_ [.not_ (.isi (.var 3) .bool), .cmp .NotEq (.var 3) (.var 4)]) [.ret (.bl false)] []] [.if_ (.isi (.var 4) .int) [.if_ (.or_ [.isi (.var 3) .bool, .not_ (.isi (.var 3) .int), .cmp .NotEq (.var 3) (.var 4)]) [.ret (.bl false)] []] [.if_ (.or_ [.not_ (.isi (.var 3) .str), .cmp .NotEq (.var 3) (.var 4)]) [.ret (.bl false)] []]]]]], .ret (.bl true)]
def f_law_drawn : Fn where
  np := 3
  names := ["hand", "warps", "wefts", "rows", "whole", "warp", "habit", "weft"]
  body := [.asg (.v 3) (.lst []), .asg (.v 4) (.call "_law_habit" [.var 0]), .for_ (.v 5) (.rng1 (.var 1)) [.asg (.v 6) (.ix (.lst [.call "_law_habit" [.var 0], .var 4]) (.bif .int [.and_ [.cmp .Lt (.ix (.var 4) (.int 0)) (.int 3), .cmp .Gt (.call "_law_dice" [.var 0, .int 3]) (.int 0)]])), .expr (.app (.var 3) (.seq .tuple (.comp (.call "_law_leaned" [.var 0, .var 6, .int 2]) (.v 7) (.rng1 (.var 2)) [] [7])))], .ret (.seq .tuple (.var 3))]
def f_law_priced : Fn where
  np := 3
  names := ["hand", "warps", "wefts", "rows", "warp", "habit", "row", "weft", "kind", "number"]
  body := [.asg (.v 3) (.lst []), .for_ (.v 4) (.rng1 (.var 1)) [.asg (.v 5) (.call "_law_habit" [.var 0]), .asg (.v 6) (.lst []), .for_ (.v 7) (.rng1 (.var 2)) [.asg (.v 8) (.call "_law_leaned" [.var 0, .var 5, .int 5]), .asg (.v 9) (.ix (.lst [.int 0, .call "_law_dice" [.var 0, .int 10], .bin .Sub (.int 0) (.call "_law_dice" [.var 0, .int 10]), .bin .Sub (.bin .Pow (.int 10) (.int 6)) (.call "_law_dice" [.var 0, .int 2]), .bin .Sub (.call "_law_dice" [.var 0, .int 2]) (.bin .Pow (.int 10) (.int 6))]) (.var 8)), .expr (.app (.var 6) (.var 9))], .expr (.app (.var 3) (.seq .tuple (.var 6)))], .ret (.seq .tuple (.var 3))]
def f_law_fault : Fn where
  np := 3
  names := ["warps", "wefts", "thing", "row", "warp", "price"]
  body := [.if_ (.or_ [.not_ (.isi (.var 2) .tuple), .cmp .NotEq (.bif .len [.var 2]) (.var 0)]) [.ret (.bin .Sub (.int 0) (.int 1))] [], .for_ (.v 3) (.var 2) [.if_ (.or_ [.not_ (.isi (.var 3) .tuple), .cmp .NotEq (.bif .len [.var 3]) (.var 1)]) [.ret (.bin .Sub (.int 0) (.int 1))] []], .for_ (.v 4) (.rng1 (.var 0)) [.for_ (.v 5) (.ix (.var 2) (.var 4)) [.if_ (.or_ [.isi (.var 5) .bool, .not_ (.isi (.var 5) .int), .cmp .Gt (.bif .abs [.var 5]) (.bin .Pow (.int 10) (.int 6))]) [.ret (.var 4)] []]], .ret (.non)]
def f_law_refusal : Fn where
  np := 2
  names := ["weave", "thing", "error"]
  body := [.try_ [.ret (.tup [.str "told", .call "check_prices" [.var 0, .var 1]])] "BadPrices" 2 [("BadPrices", true)] [.ifr (.and_ [.isx "DataError" [("BadPrices", true)], .isx "ClothError" [("BadPrices", true)], .not_ (.isx "CallError" [("BadPrices", false)])]) (.t [.str "raised", .fld "at"])], .ret (.tup [.str "other", .int 0])]
def f_law_near : Fn where
  np := 2
  names := ["hand", "prices", "warps", "wefts", "warp", "weft", "row", "price", "things", "odd", "one"]
  body := [.asg (.v 2) (.bif .len [.var 1]), .asg (.v 3) (.bif .len [.ix (.var 1) (.int 0)]), .asg (.v 4) (.call "_law_dice" [.var 0, .var 2]), .asg (.v 5) (.call "_law_dice" [.var 0, .var 3]), .asg (.v 6) (.ix (.var 1) (.var 4)), .asg (.v 7) (.ix (.var 6) (.var 5)), .asg (.v 8) (.lst [.seq .list (.var 1), .sl (.var 1) (.int 1) (.hole), .bin .Add (.var 1) (.sl (.var 1) (.hole) (.int 1)), .tup [], .non, .ix (.var 1) (.int 0), .tup [.var 1], .int 7, .str "", .seq .tuple (.comp (.seq .list (.var 10)) (.v 10) (.var 1) [] [10]), .rev (.var 1)]), .for_ (.v 9) (.lst [.seq .list (.var 6), .sl (.var 6) (.int 1) (.hole), .bin .Add (.var 6) (.tup [.int 0]), .tup [], .non, .int 5, .rev (.var 6), .tup [.var 6], .bif .str [.var 7]]) [.expr (.app (.var 8) (.bin .Add (.bin .Add (.sl (.var 1) (.hole) (.var 4)) (.tup [.var 9])) (.sl (.var 1) (.bin .Add (.var 4) (.int 1)) (.hole))))], .for_ (.v 9) (.lst [.bin .Add (.bin .Pow (.int 10) (.int 6)) (.int 1), .bin .Sub (.bin .Sub (.int 0) (.bin .Pow (.int 10) (.int 6))) (.int 1), .bin .Pow (.int 10) (.int 6), .bin .Sub (.int 0) (.bin .Pow (.int 10) (.int 6)), .bl true, .bl false, .non, .str "1", .tup [.var 7], .bin .Pow (.int 10) (.int 60), .lst [.var 7], .bin .Add (.var 7) (.int 1)]) [.expr (.app (.var 8) (.bin .Add (.bin .Add (.sl (.var 1) (.hole) (.var 4)) (.tup [.bin .Add (.bin .Add (.sl (.var 6) (.hole) (.var 5)) (.tup [.var 9])) (.sl (.var 6) (.bin .Add (.var 5) (.int 1)) (.hole))])) (.sl (.var 1) (.bin .Add (.var 4) (.int 1)) (.hole))))], .ret (.var 8)]
def f_law_judged : Fn where
  np := 3
  names := ["hand", "weave", "prices", "warps", "wefts", "things", "first", "lap", "thing", "fault", "due", "other", "at"]
  body := [.asg (.v 3) (.bif .len [.var 1]), .asg (.v 4) (.bif .len [.ix (.var 1) (.int 0)]), .asg (.v 5) (.call "_law_near" [.var 0, .var 2]), .asg (.v 6) (.call "_law_dice" [.var 0, .bif .len [.var 5]]), .for_ (.v 7) (.rng1 (.int 7)) [.asg (.v 8) (.ix (.var 5) (.bin .Mod (.bif .int [.bin .Add (.var 6) (.bin .Mult (.int 5) (.var 7))]) (.bif .len [.var 5]))), .if_ (.and_ [.cmp .Eq (.var 7) (.int 6), .isi (.var 8) .tuple, .cmp .Eq (.bif .len [.var 8]) (.var 3)]) [.asg (.v 11) (.ix (.call "_law_near" [.var 0, .var 2]) (.bin .Add (.int 11) (.call "_law_dice" [.var 0, .int 21]))), .asg (.v 12) (.call "_law_dice" [.var 0, .var 3]), .asg (.v 8) (.bin .Add (.bin .Add (.sl (.var 8) (.hole) (.var 12)) (.tup [.ix (.var 11) (.var 12)])) (.sl (.var 8) (.bin .Add (.var 12) (.int 1)) (.hole)))] [], .asg (.v 9) (.call "_law_fault" [.var 3, .var 4, .var 8]), .asg (.v 10) (.ite (.cmp .Is (.var 9) (.non)) (.tup [.str "told", .bin .Mult (.var 3) (.var 4)]) (.tup [.str "raised", .var 9])), .if_ (.not_ (.call "_law_same" [.call "_law_refusal" [.var 1, .var 8], .var 10])) [.ret (.bl false)] []], .ret (.bl true)]
def f_law_wrong_late : Fn where
  np := 3
  names := ["hand", "weave", "prices", "warps", "wefts", "first", "last", "rows", "warp", "weft"]
  body := [.asg (.v 3) (.bif .len [.var 1]), .asg (.v 4) (.bif .len [.ix (.var 1) (.int 0)]), .asg (.v 5) (.call "_law_dice" [.var 0, .var 3]), .asg (.v 6) (.bin .Add (.var 5) (.call "_law_dice" [.var 0, .bin .Sub (.var 3) (.var 5)])), .asg (.v 7) (.seq .list (.var 2)), .for_ (.v 8) (.lst [.var 5, .var 6]) [.asg (.v 9) (.call "_law_dice" [.var 0, .var 4]), .setix (.var 7) (.var 8) (.bin .Add (.bin .Add (.sl (.ix (.var 7) (.var 8)) (.hole) (.var 9)) (.tup [.ix (.lst [.non, .bl true, .str "x", .bin .Add (.bin .Pow (.int 10) (.int 6)) (.int 1)]) (.call "_law_dice" [.var 0, .int 4])])) (.sl (.ix (.var 7) (.var 8)) (.bin .Add (.var 9) (.int 1)) (.hole)))], .if_ (.not_ (.call "_law_same" [.call "_law_refusal" [.var 1, .seq .tuple (.var 7)], .tup [.str "raised", .var 5]])) [.ret (.bl false)] [], .setix (.var 7) (.var 6) (.sl (.ix (.var 7) (.var 6)) (.int 1) (.hole)), .if_ (.not_ (.call "_law_same" [.call "_law_refusal" [.var 1, .seq .tuple (.var 7)], .tup [.str "raised", .bin .Sub (.int 0) (.int 1)]])) [.ret (.bl false)] [], .ret (.bl true)]
def f_law_asked : Fn where
  np := 3
  names := ["hand", "warps", "wefts", "weave", "prices", "due", "warp", "double", "half", "some", "more", "moved", "weft", "row", "price", "at"]
  body := [.asg (.v 3) (.call "_law_drawn" [.var 0, .var 1, .var 2]), .asg (.v 4) (.call "_law_priced" [.var 0, .var 1, .var 2]), .if_ (.not_ (.call "_law_same" [.call "_law_refusal" [.var 3, .var 4], .tup [.str "told", .bin .Mult (.var 1) (.var 2)]])) [.ret (.bl false)] [], .asg (.v 5) (.int 0), .for_ (.v 6) (.rng1 (.var 1)) [.for_ (.v 12) (.rng1 (.var 2)) [.if_ (.cmp .Eq (.ix (.ix (.var 3) (.var 6)) (.var 12)) (.int 1)) [.asg (.v 5) (.bin .Add (.var 5) (.ix (.ix (.var 4) (.var 6)) (.var 12)))] []]], .if_ (.not_ (.call "_law_same" [.call "cost_of" [.var 4, .var 3], .var 5])) [.ret (.bl false)] [], .asg (.v 7) (.seq .tuple (.comp (.seq .tuple (.comp (.bin .Mult (.bin .FloorDiv (.var 14) (.int 2)) (.int 2)) (.v 14) (.var 13) [] [14])) (.v 13) (.var 4) [] [13])), .asg (.v 8) (.seq .tuple (.comp (.seq .tuple (.comp (.bin .FloorDiv (.var 14) (.int 2)) (.v 14) (.var 13) [] [14])) (.v 13) (.var 4) [] [13])), .if_ (.not_ (.call "_law_same" [.call "cost_of" [.var 7, .var 3], .bin .Mult (.int 2) (.seq .sum (.comp (.seq .sum (.comp (.bin .Mult (.ix (.ix (.var 8) (.var 15)) (.var 12)) (.ix (.ix (.var 3) (.var 15)) (.var 12))) (.v 12) (.rng1 (.var 2)) [] [12])) (.v 15) (.rng1 (.var 1)) [] [15]))])) [.ret (.bl false)] [], .asg (.v 9) (.call "_law_dice" [.var 0, .var 1]), .asg (.v 10) (.bin .Sub (.call "_law_dice" [.var 0, .int 9]) (.int 4)), .asg (.v 11) (.bin .Add (.bin .Add (.sl (.var 8) (.hole) (.var 9)) (.tup [.seq .tuple (.comp (.bin .Add (.var 14) (.var 10)) (.v 14) (.ix (.var 8) (.var 9)) [] [14])])) (.sl (.var 8) (.bin .Add (.var 9) (.int 1)) (.hole))), .if_ (.not_ (.call "_law_same" [.bin .Sub (.call "cost_of" [.var 11, .var 3]) (.call "cost_of" [.var 8, .var 3]), .bin .Mult (.var 10) (.seq .sum (.ix (.var 3) (.var 9)))])) [.ret (.bl false)] [], .ret (.and_ [.call "_law_judged" [.var 0, .var 3, .var 4], .call "_law_wrong_late" [.var 0, .var 3, .var 4]])]
def f_law : Fn where
  np := 1
  names := ["script", "hand", "turn", "plain", "number", "more"]
  body := [.asg (.v 1) (.call "_law_begin" [.var 0]), .for_ (.v 2) (.rng1 (.int 2)) [.if_ (.not_ (.call "_law_asked" [.var 1, .bin .Add (.int 1) (.call "_law_dice" [.var 1, .int 5]), .bin .Add (.int 1) (.call "_law_dice" [.var 1, .int 5])])) [.ret (.bl false)] []], .asg (.v 3) (.tup [.tup [.int 1, .int 0], .tup [.int 0, .int 1]]), .for_ (.v 4) (.lst [.bin .Pow (.int 10) (.int 6), .bin .Sub (.int 0) (.bin .Pow (.int 10) (.int 6))]) [.asg (.v 5) (.bin .Add (.var 4) (.ix (.lst [.int 1, .bin .Sub (.int 0) (.int 1)]) (.bif .int [.cmp .Lt (.var 4) (.int 0)]))), .if_ (.not_ (.call "_law_same" [.call "_law_refusal" [.var 3, .tup [.tup [.var 4, .int 0], .tup [.int 0, .var 4]]], .tup [.str "told", .int 4]])) [.ret (.bl false)] [], .if_ (.or_ [.not_ (.call "_law_same" [.call "_law_refusal" [.var 3, .tup [.tup [.int 0, .int 0], .tup [.int 0, .var 5]]], .tup [.str "raised", .int 1]]), .not_ (.call "_law_same" [.call "cost_of" [.tup [.tup [.var 4, .int 3], .tup [.int 4, .var 4]], .var 3], .bin .Mult (.int 2) (.var 4)])]) [.ret (.bl false)] []], .if_ (.or_ [.not_ (.call "_law_same" [.call "_law_refusal" [.var 3, .tup [.tup [.int 1, .int 2], .tup [.int 3, .bl true]]], .tup [.str "raised", .int 1]]), .not_ (.call "_law_same" [.call "_law_refusal" [.var 3, .lst [.tup [.int 1, .int 2], .tup [.int 3, .int 4]]], .tup [.str "raised", .bin .Sub (.int 0) (.int 1)]])]) [.ret (.bl false)] [], .ret (.or_ [.cmp .NotEq (.call "_law_dice" [.var 1, .int 13]) (.int 6), .call "_law_asked" [.var 1, .int 12, .int 12]])]
def prog : Ev.Prog := [("is_integer", f_is_integer), ("integer_within", f_integer_within), ("tuple_of", f_tuple_of), ("check_prices", f_check_prices), ("cost_of", f_cost_of), ("_law_begin", f_law_begin), ("_law_dice", f_law_dice), ("_law_habit", f_law_habit), ("_law_leaned", f_law_leaned), ("_law_same", f_law_same), ("_law_drawn", f_law_drawn), ("_law_priced", f_law_priced), ("_law_fault", f_law_fault), ("_law_refusal", f_law_refusal), ("_law_near", f_law_near), ("_law_judged", f_law_judged), ("_law_wrong_late", f_law_wrong_late), ("_law_asked", f_law_asked), ("law", f_law)]
def gs : List (Str × D) := [("PRICE_MOST", .int (1000000))]
def kfs : List KC := []
def xcs : List XC := [⟨"ClothError", [], ["ClothError"]⟩, ⟨"DataError", [], ["DataError", "ClothError"]⟩, ⟨"CallError", [], ["CallError", "ClothError"]⟩, ⟨"BadPrices", ["at"], ["BadPrices", "DataError", "ClothError"]⟩]
end K26

set_option Elab.async false
set_option linter.all false
set_option maxRecDepth 100000
namespace K26
open PySem PySem.Spec PyProof.Rows L2 Ev
local macro_rules | `(tactic| simp? only [$xs,*]) => `(tactic| simp -implicitDefEqProofs only [Int.reduceSub, Int.reduceAdd, Int.reduceNeg, lst_new1, lst_new2, List.flatten_replicate_singleton, List.length_map, Nat.one_mul, Nat.mul_one, List.length_append, List.length_replicate, trunc_nil, trunc_new, RSat_nx, RSat_ct, RSat_bk, RSat_ret, Ends_nx, Ends_ret, lst_new, lst_0, setL_0, set_new, bind_ok', thn_ok, seq_nx, seq_ret, seq_bk, seq_ct, eqD_int, eqD_bl, Rv_some, Rb_some, truth_bl, truth_int, bifD_len, bifD_abs, bifD_int, bifD_intb, bifD_min, bifD_max, sqD_tup, sqD_len, sqD_list, sqD_sumr, sqD_sum', isL_ref, putT_v, putT_t, putTs_nil, putTs_cons, new_eq, itD_tup, itD_fl, rng1_int, rng2_int, quiet_ok, fin_ret, fin_nx, startD_eq, List.set_cons_zero, List.set_cons_succ, List.map_cons, List.map_nil, List.replicate_succ, List.replicate_zero, List.cons_append, List.nil_append, List.length_cons, List.length_nil, Option.bind_some, Option.isSome_some, Option.map_some, if_true, if_false, Bool.false_eq_true, atI_0, ite_true, ite_false, Nat.reduceAdd, Nat.reduceSub, Nat.zero_add, trunc_set0, trunc_set, trunc_id, trunc_same, belows_ints, below_int, below_bl, below_non, below_str, below_tup, belows_nil, belows_cons, Tot_ok, Bool.and_true, Bool.true_and, len_fx, len_lc, rangeD_len, wipeD_nil, wipeD_cons, eqD_str, Nat.reduceLeDiff, Int.zero_add, Int.sub_zero, Int.toNat_natCast, Int.natAbs_natCast, Int.reduceNe, Int.reduceEq, Int.reduceLT, Int.reduceLE, ne_eq, not_false_eq_true, Bool.not_true, Bool.or_false, Bool.false_or, Bool.false_and, Bool.and_false, decide_true, decide_false, beq_self_eq_true, Bool.not_not, Bool.not_false, List.lookup_cons, String.reduceBEq, y_getV_0, y_getV_s, y_v_var, y_v_int, y_v_bl, y_v_non, y_v_str, y_v_glob, y_v_bin, y_v_neg, y_v_cmp, y_v_chain, y_v_and, y_v_or, y_t_and, y_t_or, y_v_not, y_t_not, y_v_ite, y_v_tup, y_v_lst, y_v_ix, y_v_sl, y_p_hole, y_v_call, y_v_bif, y_v_seq, y_v_isi, y_v_pop, y_v_popAt, y_v_app, y_v_comp, y_q_comp, y_i_rng1, y_i_rng2, y_i_rng3, y_i_enum, y_i_zip, y_v_callk, y_v_rgs, y_v_rgs2, y_kwK_ok, y_kwD_ok, y_perm_n, y_perm_c, y_getD_0, y_getD_s, y_rgsT, y_rgsF, y_en_tup, y_en_ref, y_enK_s, y_sl_tup, y_sl_fl, y_sl_ref, y_slO_s, y_bool_b, y_bool_i, y_v_rev, y_v_ext, y_extK_ok, y_ext_ref, y_extO_s, y_str_i, y_rev_tup, y_rng3_int, y_zip_tup, y_mul_T, y_s_raise, y_raiseK_ok, y_raise_1, y_raise_2, y_bind_err, y_thn_err, y_seq_err, y_fin_err, y_s_try, y_try_nx, y_try_ret, y_try_bk, y_try_ct, y_try_err, y_tryK_t, y_tryK_f, y_hs_nil, y_hs_ret, y_hs_ifr, y_hsR_s, y_hsI_t, y_hsI_f, y_hr_a, y_hr_t, y_hrT_s, y_ha_str, y_ha_int, y_ha_non, y_ha_bl, y_ha_fld, y_ha_ite, y_haI_t, y_haI_f, y_hal_n, y_hal_c, y_halC_s, y_hq_isx, y_hq_not, y_hq_and, y_hqs_n, y_hqs_c, y_hqB_t, y_hqB_f, y_t_var, y_q_var, y_i_var, y_p_var, y_t_int, y_p_int, y_t_bl, y_t_glob, y_q_glob, y_i_glob, y_p_glob, y_t_bin, y_q_bin, y_i_bin, y_p_bin, y_p_neg, y_t_cmp, y_t_chain, y_t_ite, y_q_ite, y_i_ite, y_p_ite, y_t_tup, y_q_tup, y_i_tup, y_t_lst, y_q_lst, y_i_lst, y_t_ix, y_q_ix, y_i_ix, y_p_ix, y_t_sl, y_q_sl, y_i_sl, y_t_call, y_q_call, y_i_call, y_p_call, y_t_callk, y_q_callk, y_i_callk, y_t_rgs, y_q_rgs, y_i_rgs, y_t_bif, y_q_bif, y_i_bif, y_p_bif, y_t_seq, y_q_seq, y_i_seq, y_t_isi, y_t_pop, y_q_pop, y_i_pop, y_t_popAt, y_t_rev, y_q_rev, y_i_rev, y_i_comp, y_globK_s, y_kB_ok, y_kT_ok, y_negK_ok, y_cmpK_ok, y_chK1_ok, y_chK3_ok, y_chK2_t, y_chK2_f, y_andV_1, y_andV_2, y_orV_1, y_orV_2, y_andT_1, y_andT_2, y_orT_1, y_orT_2, y_andK_t, y_andK_f, y_orK_t, y_orK_f, y_andTK_t, y_andTK_f, y_orTK_t, y_orTK_f, y_notK_ok, y_notTK_ok, y_iteK_t, y_iteK_f, y_tupK_ok, y_lstK_ok, y_evMs_nil, y_evMs_cons, y_allV_n, y_allV_c, y_allK_ok, y_consK_ok, y_isiK_ok, y_popAtK_ok, y_appK_ok, y_slK1_ok, y_slK2_ok, y_compK_ok, y_compN_ok, y_truK_ok, y_seqK_tup, y_seqK_fl, y_seqK_ref, y_seqO_s, y_intK_ok, y_ifsT_n, y_ifsT_1, y_turnC_ok, y_turnP_s, y_turnK_t, y_turnK_f, y_turnK2_ok, y_s_nil, y_s_cons, y_s_expr, y_s_asg, y_s_setix, y_s_aug, y_s_if, y_s_for, y_s_while, y_s_ret, y_s_retn, y_s_brk, y_s_cont, y_s_pass, y_exprK_ok, y_putK_s, y_asgK_ok, y_setK1_ok, y_setK2_ok, y_setK3_ok, y_setK4_ok, y_augK1_ok, y_augK2_ok, y_augK3_ok, y_brK_t, y_brK_f, y_forK_ok, y_retK_ok, y_turnS_v, y_turnS_t, y_bin_Add, y_bin_AddT, y_bin_AddR, y_addO_s, y_bin_MultR2, y_mulO_s, y_bin_Sub, y_bin_Mult, y_bin_MultW, y_bin_MultR, y_bin_MultL, y_bin_Mod, y_bin_Div, y_bin_DivL, y_bin_PowL, y_bin_ShlL, y_bin_Pow, y_bin_Shl, y_bin_Shr, y_bin_And, y_bin_Or, y_bin_Xor, y_aug_Add, y_aug_Sub, y_cmp_Lt, y_cmp_LtE, y_cmp_Gt, y_cmp_GtE, y_cmp_Eq, y_cmp_NotEq, y_cmp_Is, y_cmp_IsNot, y_isNon_non, y_isNon_int, y_isNon_bl, y_isNon_tup, y_isNon_ref, y_isNon_str, y_ty_bool_non, y_ty_bool_bl, y_ty_bool_int, y_ty_bool_str, y_ty_bool_tup, y_ty_bool_fl, y_ty_bool_ref, y_ty_int_non, y_ty_int_bl, y_ty_int_int, y_ty_int_str, y_ty_int_tup, y_ty_int_fl, y_ty_int_ref, y_ty_str_non, y_ty_str_bl, y_ty_str_int, y_ty_str_str, y_ty_str_tup, y_ty_str_fl, y_ty_str_ref, y_ty_list_non, y_ty_list_bl, y_ty_list_int, y_ty_list_str, y_ty_list_tup, y_ty_list_fl, y_ty_list_ref, y_ty_tuple_non, y_ty_tuple_bl, y_ty_tuple_int, y_ty_tuple_str, y_ty_tuple_tup, y_ty_tuple_fl, y_ty_tuple_ref, y_at_s, y_ix_tup, y_ix_fl, y_ix_ref, y_ixK_s, y_len_tup, y_len_fl, y_len_ref, y_lenK_s, y_it_ref, y_itK_s, y_at_1, y_at_2, y_tyK_s, y_map_not, $xs,*])
section
variable {G : Str → Option D} {F k : Nat} {h h0 : Hd} {p : Nat} {m n : Int} {is : List Int}
def hnd (gs sl : List Int) (m : Int) : Hd := [.lst (gs.map D.int), .lst (sl.map D.int), .lst [.ref 0, .int m]]
def PI : List O → Prop := fun os => ∃ (gs sl : List Int) (m : Int), gs.length ≤ 63 ∧ os = hnd gs sl m
theorem hPI : PBd 3 PI := by
  rintro os ⟨gs, sl, m, _, rfl⟩ o ho
  simp only [hnd, List.mem_cons, List.not_mem_nil, or_false] at ho
  rcases ho with rfl | rfl | rfl
  · exact belows_ints gs
  · exact belows_ints sl
  · rfl
theorem pw_eq : PW 3 PI h ↔ ∃ gs sl m h1, gs.length ≤ 63 ∧ h = hnd gs sl m ++ h1 := by
  constructor
  · rintro ⟨hl, gs, sl, m, hz, e⟩
    exact ⟨gs, sl, m, h.drop 3, hz, by rw [← e, List.take_append_drop]⟩
  · rintro ⟨gs, sl, m, h1, hz, rfl⟩
    exact ⟨by simp [hnd], gs, sl, m, hz, by simp [hnd]⟩
theorem l2 {gs sl : List Int} {h1 : Hd} : Hd.lst (hnd gs sl m ++ h1) 2 = some [.ref 0, .int m] := rfl
theorem l0 {gs sl : List Int} {h1 : Hd} : Hd.lst (hnd gs sl m ++ h1) 0 = some (gs.map D.int) := rfl
theorem s0 {gs gs2 sl : List Int} {h1 : Hd} : setL 0 (gs2.map D.int) (hnd gs sl m ++ h1) = hnd gs2 sl m ++ h1 := rfl
theorem s2 {gs sl : List Int} {h1 : Hd} : setL 2 [.ref 0, .int n] (hnd gs sl m ++ h1) = hnd gs sl n ++ h1 := rfl
theorem fr_h {gs gs2 sl : List Int} {m n : Int} {h1 : Hd} : Fr 3 (hnd gs sl m ++ h1) (hnd gs2 sl n ++ h1) := ⟨by simp [hnd], fun l h1 h2 => by
  match l, h1 with
  | l + 3, _ => rfl⟩
theorem dice_p (hp : PW 3 PI h) (hm : 0 < m) (hm2 : m < 1000) (hF : 100 ≤ F) : ∃ x h', callF G prog.T F (k + 1) "_law_dice" [.ref 2, .int m] h = .ok (.int x) h' ∧ 0 ≤ x ∧ x < m ∧ PW 3 PI h' ∧ Fr 3 h h' := by
  obtain ⟨gs, sl, mx, h1, hz, rfl⟩ := pw_eq.mp hp
  rw [call_eq (fn := f_law_dice) rfl rfl]
  generalize callF G prog.T F k = C
  have hmz : (m = 0) = False := eq_false (by omega)
  simp? only [f_law_dice]
  generalize e : loopW _ _ _ _ _ = w
  have key : (∃ (s : Sd) (gs2 : List Int), w = .nx [some (.ref 2), some (.int m), s.headD none] (hnd gs2 sl mx ++ h1) ∧ gs2.length ≤ 63) ∨ (∃ (x : Int) (gs2 : List Int), w = .ret (.int x) (hnd gs2 sl mx ++ h1) ∧ 0 ≤ x ∧ x < m ∧ gs2.length ≤ 63) := by
    have := loopW_sat e (fun n s h' => ∃ (v : Option D) (gs2 : List Int), s = [some (.ref 2), some (.int m), v] ∧ h' = hnd gs2 sl mx ++ h1 ∧ gs2.length = n ∧ n ≤ 63)
      (fun s h' => ∃ (v : Option D) (gs2 : List Int), s = [some (.ref 2), some (.int m), v] ∧ h' = hnd gs2 sl mx ++ h1 ∧ gs2.length ≤ 63)
      (fun d h' => ∃ (x : Int) (gs2 : List Int), d = .int x ∧ h' = hnd gs2 sl mx ++ h1 ∧ 0 ≤ x ∧ x < m ∧ gs2.length ≤ 63) ?_ ⟨gs.length, by omega, none, gs, rfl, rfl, rfl, hz⟩
    · rcases this.elim with ⟨s, h', r, v, gs2, rfl, rfl, z⟩ | ⟨d, h', r, x, gs2, rfl, rfl, a, b, c⟩
      · exact .inl ⟨[v], gs2, r, z⟩
      · exact .inr ⟨x, gs2, r, a, b, c⟩
    · clear e
      rintro n s h' ⟨v, gs2, rfl, rfl, rfl, hz2⟩
      cases gs2 with
      | nil =>
        simp? only [l2, l0, show decide ((0 : Int) < (((0 : Nat)) : Int)) = false from rfl]
        exact ⟨v, [], rfl, rfl, by simp⟩
      | cons g gs2 =>
        have c : decide ((0 : Int) < (((g :: gs2).length : Nat) : Int)) = true := by simp
        have c' : decide ((0 : Int) < (((gs2.length + 1 : Nat)) : Int)) = true := by simp
        have hz3 : gs2.length + 1 ≤ 63 := hz2
        have st : ∀ d : Int, setD (.ref 0) (.int 0) (.int d) (hnd (g :: gs2) sl mx ++ h1) = .ok .non (hnd (d :: gs2) sl mx ++ h1) := fun d => setD_0 (h := hnd (g :: gs2) sl mx ++ h1) (x := .int g) (xs := gs2.map D.int) rfl
        have pp : popAtD (.ref 0) (.int 0) (hnd (g :: gs2) sl mx ++ h1) = .ok (.int g) (hnd gs2 sl mx ++ h1) := popAt_ok (k := 0) (xs := (g :: gs2).map D.int) rfl rfl
        simp? only [l2, l0, c, c']
        by_cases hg : 0 < g
        · simp? only [decide_eq_true hg, l2, l0, hmz, st, hm, show m < 1073741824 by omega]
          exact ⟨_, g.fdiv m :: gs2, rfl, rfl, (fmod_lt' hm).1, (fmod_lt' hm).2, by simpa using hz3⟩
        · simp? only [decide_eq_false hg, l2, l0, pp]
          exact ⟨gs2.length, by simp, _, gs2, rfl, rfl, rfl, by omega⟩
  clear e
  have fin : ∀ (gs2 : List Int) (n : Int), gs2.length ≤ 63 → PW 3 PI (hnd gs2 sl n ++ h1) ∧ Fr 3 (hnd gs sl mx ++ h1) (hnd gs2 sl n ++ h1) := fun gs2 n hz => ⟨pw_eq.mpr ⟨_, _, _, _, hz, rfl⟩, fr_h⟩
  rcases key with ⟨s, gs2, rfl, hz2⟩ | ⟨x, gs2, rfl, a, b, hz2⟩
  · have st : ∀ d : Int, setD (.ref 2) (.int 1) (.int d) (hnd gs2 sl mx ++ h1) = .ok .non (hnd gs2 sl d ++ h1) := fun d => setD_k (k := 1) (h := hnd gs2 sl mx ++ h1) (xs := [.ref 0, .int mx]) rfl (by simp)
    simp? only [l2, y_at_1, st, hmz]
    obtain ⟨f1, f2⟩ := fin gs2 ((mx * 48271 + 11).fmod 2147483399) hz2
    obtain ⟨h2, t1, t2, t3, _⟩ := end_pure (d := .int (((mx * 48271 + 11).fmod 2147483399).fdiv 127 |>.fmod m)) hPI hp f1 f2 rfl
    exact ⟨_, h2, t1, (fmod_lt' hm).1, (fmod_lt' hm).2, t2, t3⟩
  · obtain ⟨f1, f2⟩ := fin gs2 mx hz2
    simp? only [Ev.y_map_not]
    obtain ⟨h2, t1, t2, t3, _⟩ := end_pure (d := .int x) hPI hp f1 f2 rfl
    exact ⟨_, h2, t1, a, b, t2, t3⟩
end
end K26

set_option Elab.async false
set_option linter.all false
set_option maxRecDepth 100000
namespace K26
open PySem PySem.Spec PyProof.Rows L2 Ev
local macro_rules | `(tactic| simp? only [$xs,*]) => `(tactic| simp -implicitDefEqProofs only [Int.reduceSub, Int.reduceAdd, Int.reduceNeg, lst_new1, lst_new2, List.flatten_replicate_singleton, List.length_map, Nat.one_mul, Nat.mul_one, List.length_append, List.length_replicate, trunc_nil, trunc_new, RSat_nx, RSat_ct, RSat_bk, RSat_ret, Ends_nx, Ends_ret, lst_new, lst_0, setL_0, set_new, bind_ok', thn_ok, seq_nx, seq_ret, seq_bk, seq_ct, eqD_int, eqD_bl, Rv_some, Rb_some, truth_bl, truth_int, bifD_len, bifD_abs, bifD_int, bifD_intb, bifD_min, bifD_max, sqD_tup, sqD_len, sqD_list, sqD_sumr, sqD_sum', isL_ref, putT_v, putT_t, putTs_nil, putTs_cons, new_eq, itD_tup, itD_fl, rng1_int, rng2_int, quiet_ok, fin_ret, fin_nx, startD_eq, List.set_cons_zero, List.set_cons_succ, List.map_cons, List.map_nil, List.replicate_succ, List.replicate_zero, List.cons_append, List.nil_append, List.length_cons, List.length_nil, Option.bind_some, Option.isSome_some, Option.map_some, if_true, if_false, Bool.false_eq_true, atI_0, ite_true, ite_false, Nat.reduceAdd, Nat.reduceSub, Nat.zero_add, trunc_set0, trunc_set, trunc_id, trunc_same, belows_ints, below_int, below_bl, below_non, below_str, below_tup, belows_nil, belows_cons, Tot_ok, Bool.and_true, Bool.true_and, len_fx, len_lc, rangeD_len, wipeD_nil, wipeD_cons, eqD_str, Nat.reduceLeDiff, Int.zero_add, Int.sub_zero, Int.toNat_natCast, Int.natAbs_natCast, Int.reduceNe, Int.reduceEq, Int.reduceLT, Int.reduceLE, ne_eq, not_false_eq_true, Bool.not_true, Bool.or_false, Bool.false_or, Bool.false_and, Bool.and_false, decide_true, decide_false, beq_self_eq_true, Bool.not_not, Bool.not_false, List.lookup_cons, String.reduceBEq, y_getV_0, y_getV_s, y_v_var, y_v_int, y_v_bl, y_v_non, y_v_str, y_v_glob, y_v_bin, y_v_neg, y_v_cmp, y_v_chain, y_v_and, y_v_or, y_t_and, y_t_or, y_v_not, y_t_not, y_v_ite, y_v_tup, y_v_lst, y_v_ix, y_v_sl, y_p_hole, y_v_call, y_v_bif, y_v_seq, y_v_isi, y_v_pop, y_v_popAt, y_v_app, y_v_comp, y_q_comp, y_i_rng1, y_i_rng2, y_i_rng3, y_i_enum, y_i_zip, y_v_callk, y_v_rgs, y_v_rgs2, y_kwK_ok, y_kwD_ok, y_perm_n, y_perm_c, y_getD_0, y_getD_s, y_rgsT, y_rgsF, y_en_tup, y_en_ref, y_enK_s, y_sl_tup, y_sl_fl, y_sl_ref, y_slO_s, y_bool_b, y_bool_i, y_v_rev, y_v_ext, y_extK_ok, y_ext_ref, y_extO_s, y_str_i, y_rev_tup, y_rng3_int, y_zip_tup, y_mul_T, y_s_raise, y_raiseK_ok, y_raise_1, y_raise_2, y_bind_err, y_thn_err, y_seq_err, y_fin_err, y_s_try, y_try_nx, y_try_ret, y_try_bk, y_try_ct, y_try_err, y_tryK_t, y_tryK_f, y_hs_nil, y_hs_ret, y_hs_ifr, y_hsR_s, y_hsI_t, y_hsI_f, y_hr_a, y_hr_t, y_hrT_s, y_ha_str, y_ha_int, y_ha_non, y_ha_bl, y_ha_fld, y_ha_ite, y_haI_t, y_haI_f, y_hal_n, y_hal_c, y_halC_s, y_hq_isx, y_hq_not, y_hq_and, y_hqs_n, y_hqs_c, y_hqB_t, y_hqB_f, y_t_var, y_q_var, y_i_var, y_p_var, y_t_int, y_p_int, y_t_bl, y_t_glob, y_q_glob, y_i_glob, y_p_glob, y_t_bin, y_q_bin, y_i_bin, y_p_bin, y_p_neg, y_t_cmp, y_t_chain, y_t_ite, y_q_ite, y_i_ite, y_p_ite, y_t_tup, y_q_tup, y_i_tup, y_t_lst, y_q_lst, y_i_lst, y_t_ix, y_q_ix, y_i_ix, y_p_ix, y_t_sl, y_q_sl, y_i_sl, y_t_call, y_q_call, y_i_call, y_p_call, y_t_callk, y_q_callk, y_i_callk, y_t_rgs, y_q_rgs, y_i_rgs, y_t_bif, y_q_bif, y_i_bif, y_p_bif, y_t_seq, y_q_seq, y_i_seq, y_t_isi, y_t_pop, y_q_pop, y_i_pop, y_t_popAt, y_t_rev, y_q_rev, y_i_rev, y_i_comp, y_globK_s, y_kB_ok, y_kT_ok, y_negK_ok, y_cmpK_ok, y_chK1_ok, y_chK3_ok, y_chK2_t, y_chK2_f, y_andV_1, y_andV_2, y_orV_1, y_orV_2, y_andT_1, y_andT_2, y_orT_1, y_orT_2, y_andK_t, y_andK_f, y_orK_t, y_orK_f, y_andTK_t, y_andTK_f, y_orTK_t, y_orTK_f, y_notK_ok, y_notTK_ok, y_iteK_t, y_iteK_f, y_tupK_ok, y_lstK_ok, y_evMs_nil, y_evMs_cons, y_allV_n, y_allV_c, y_allK_ok, y_consK_ok, y_isiK_ok, y_popAtK_ok, y_appK_ok, y_slK1_ok, y_slK2_ok, y_compK_ok, y_compN_ok, y_truK_ok, y_seqK_tup, y_seqK_fl, y_seqK_ref, y_seqO_s, y_intK_ok, y_ifsT_n, y_ifsT_1, y_turnC_ok, y_turnP_s, y_turnK_t, y_turnK_f, y_turnK2_ok, y_s_nil, y_s_cons, y_s_expr, y_s_asg, y_s_setix, y_s_aug, y_s_if, y_s_for, y_s_while, y_s_ret, y_s_retn, y_s_brk, y_s_cont, y_s_pass, y_exprK_ok, y_putK_s, y_asgK_ok, y_setK1_ok, y_setK2_ok, y_setK3_ok, y_setK4_ok, y_augK1_ok, y_augK2_ok, y_augK3_ok, y_brK_t, y_brK_f, y_forK_ok, y_retK_ok, y_turnS_v, y_turnS_t, y_bin_Add, y_bin_AddT, y_bin_AddR, y_addO_s, y_bin_MultR2, y_mulO_s, y_bin_Sub, y_bin_Mult, y_bin_MultW, y_bin_MultR, y_bin_MultL, y_bin_Mod, y_bin_Div, y_bin_DivL, y_bin_PowL, y_bin_ShlL, y_bin_Pow, y_bin_Shl, y_bin_Shr, y_bin_And, y_bin_Or, y_bin_Xor, y_aug_Add, y_aug_Sub, y_cmp_Lt, y_cmp_LtE, y_cmp_Gt, y_cmp_GtE, y_cmp_Eq, y_cmp_NotEq, y_cmp_Is, y_cmp_IsNot, y_isNon_non, y_isNon_int, y_isNon_bl, y_isNon_tup, y_isNon_ref, y_isNon_str, y_ty_bool_non, y_ty_bool_bl, y_ty_bool_int, y_ty_bool_str, y_ty_bool_tup, y_ty_bool_fl, y_ty_bool_ref, y_ty_int_non, y_ty_int_bl, y_ty_int_int, y_ty_int_str, y_ty_int_tup, y_ty_int_fl, y_ty_int_ref, y_ty_str_non, y_ty_str_bl, y_ty_str_int, y_ty_str_str, y_ty_str_tup, y_ty_str_fl, y_ty_str_ref, y_ty_list_non, y_ty_list_bl, y_ty_list_int, y_ty_list_str, y_ty_list_tup, y_ty_list_fl, y_ty_list_ref, y_ty_tuple_non, y_ty_tuple_bl, y_ty_tuple_int, y_ty_tuple_str, y_ty_tuple_tup, y_ty_tuple_fl, y_ty_tuple_ref, y_at_s, y_ix_tup, y_ix_fl, y_ix_ref, y_ixK_s, y_len_tup, y_len_fl, y_len_ref, y_lenK_s, y_it_ref, y_itK_s, y_at_1, y_at_2, y_tyK_s, y_map_not, $xs,*])
section
variable {G : Str → Option D} {F k : Nat} {h h0 : Hd} {p : Nat} {m n : Int} {is : List Int}
theorem begin_ok {ns : List Int} (hl : ns.length ≤ 63) : ∃ h', callF G prog.T F (k + 1) "_law_begin" [.fl (ns.map D.int)] [] = .ok (.ref 2) h' ∧ PW 3 PI h' := by
  rw [call_eq (fn := f_law_begin) rfl rfl]
  generalize callF G prog.T F k = C
  have hc : Ev.cutD (ns.map D.int) none (some 63) = ns.map D.int := by
    rw [show (63 : Int) = ((63 : Nat) : Int) from rfl, cut_take, List.take_of_length_le (by simp; omega)]
  have h2 : ((1 : Int) * 2 ^ Int.toNat 2000 = 0) = False := eq_false (Int.ne_of_gt (Int.mul_pos (by decide) (Int.pow_pos (by decide))))
  have hap : ∀ (xs : List D) (o : O) (d : D) (hz : xs.length < sizeLine), appD (.ref 0) d [.lst xs, o] = .ok .non [.lst (xs ++ [d]), o] := fun xs o d hz => appD_ok (h := [.lst xs, o]) rfl hz
  simp? only [f_law_begin, hc, show Hd.lst [O.lst [], O.lst (ns.map D.int)] 1 = some (ns.map D.int) from rfl]
  generalize e : loopS _ _ _ _ _ _ = r
  obtain ⟨s', h', rfl, ⟨c, q, x, rfl⟩, is, rfl, hz⟩ : ∃ s' h', r = .nx s' h' ∧ (∃ c q, ∃ x : Int, s' = [some (.fl (ns.map D.int)), some (.ref 0), some (.int x), c, q]) ∧ ∃ is : List Int, h' = [.lst (is.map D.int), .lst (ns.map D.int)] ∧ is.length ≤ 63 := by
    refine Ends.nxt (loopS_lc (xs := ns.map D.int) e (by simp) (fun i s h' => (∃ c q, ∃ x : Int, s = [some (.fl (ns.map D.int)), some (.ref 0), some (.int x), c, q]) ∧ ∃ is : List Int, h' = [.lst (is.map D.int), .lst (ns.map D.int)] ∧ is.length ≤ i) _ _ ?_ ?_ ?_ ⟨⟨_, _, _, rfl⟩, [], rfl, by simp⟩)
    · rintro i s h ⟨_, is, rfl, _⟩
      rfl
    · clear e
      rintro i d s h1 hx ⟨⟨c, q, x, rfl⟩, is, rfl, hz⟩
      obtain ⟨y, hy, rfl⟩ : ∃ y : Int, ns[i]? = some y ∧ d = .int y := by
        rw [List.getElem?_map] at hx
        obtain ⟨y, e1, e2⟩ := Option.map_eq_some_iff.mp hx
        exact ⟨y, e1, e2.symm⟩
      have hin : i < ns.length := (List.getElem?_eq_some_iff.mp hy).1
      simp? only [h2]
      generalize decide ((10 : Int) ^ Int.toNat 18 ≤ _) = b
      generalize Int.fmod _ (1 * 2 ^ Int.toNat 2000) = cell
      generalize Int.fmod _ 2147483563 = x'
      cases b with
      | false =>
        simp? only [Ev.y_map_not]
        exact ⟨⟨_, _, _, rfl⟩, is, rfl, by omega⟩
      | true =>
        have mp : is.map D.int ++ [D.int cell] = (is ++ [cell]).map D.int := by simp
        simp? only [show ∀ x : O, Hd.lst [O.lst (is.map D.int), x] 0 = some (is.map D.int) from fun _ => rfl, hap _ _ _ (show (is.map D.int).length < sizeLine by rw [sizeLine_eq]; simp; omega), mp]
        exact ⟨⟨_, _, _, rfl⟩, _, rfl, by simp; omega⟩
    · rintro s h ⟨a, is, e1, e2⟩
      exact ⟨a, is, e1, by simp at e2; omega⟩
  clear e
  simp? only [Ev.y_map_not]
  have t : trunc [] (.ref 2) ([O.lst (is.map D.int), O.lst (ns.map D.int)] ++ [O.lst [.ref 0, .int x]]) = .ok (.ref 2) ([O.lst (is.map D.int), O.lst (ns.map D.int)] ++ [O.lst [.ref 0, .int x]]) := rfl
  exact ⟨_, t, pw_eq.mpr ⟨is, ns, x, [], hz, rfl⟩⟩
def IsHab (h : Hd) (r : Nat) : Prop := 3 ≤ r ∧ ∃ u v : Int, Hd.lst h r = some [.int u, .int v]
theorem IsHab.fr {h' : Hd} {r : Nat} (x : IsHab h r) (f : Fr 3 h h') : IsHab h' r := by
  obtain ⟨a, u, v, e⟩ := x
  exact ⟨a, u, v, f.lst a e⟩
theorem habit_ok (hp : PW 3 PI h) (hF : 100 ≤ F) : ∃ r h', callF G prog.T F (k + 2) "_law_habit" [.ref 2] h = .ok (.ref r) h' ∧ PW 3 PI h' ∧ Fr 3 h h' ∧ IsHab h' r := by
  rw [call_eq (fn := f_law_habit) rfl rfl]
  have dice := fun {m : Int} {h : Hd} (hp : PW 3 PI h) (hm : 0 < m) (hm2 : m < 1000) => dice_p (G := G) (F := F) (k := k) (m := m) (h := h) hp hm hm2 hF
  generalize callF G prog.T F (k + 1) = C at dice
  obtain ⟨x, h2, p1, p2, p3, p4, p5⟩ := dice (m := 6) hp (by omega) (by omega)
  obtain ⟨y, h3, q1, q2, q3, q4, q5⟩ := dice (m := 97) p4 (by omega) (by omega)
  simp? only [f_law_habit, p1, q1]
  have f3 := p5.trans q5
  have k3 := f3.len
  obtain ⟨r, h4, t1, t2, t3, t4, t5, _⟩ := end_list hPI hp (q4.app (o := [O.lst [.int x, .int y]])) f3.app lst_new k3
  have := hp.le
  exact ⟨r, h4, t1, t2, t3, by omega, x, y, t5⟩
theorem leaned_ok {r : Nat} (hp : PW 3 PI h) (hr : IsHab h r) (hm : 0 < m) (hm2 : m < 1000) (hF : 100 ≤ F) : ∃ x h', callF G prog.T F (k + 2) "_law_leaned" [.ref 2, .ref r, .int m] h = .ok (.int x) h' ∧ 0 ≤ x ∧ x < m ∧ PW 3 PI h' ∧ Fr 3 h h' := by
  rw [call_eq (fn := f_law_leaned) rfl rfl]
  have dice := fun {m : Int} {h : Hd} (hp : PW 3 PI h) (hm : 0 < m) (hm2 : m < 1000) => dice_p (G := G) (F := F) (k := k) (m := m) (h := h) hp hm hm2 hF
  generalize callF G prog.T F (k + 1) = C at dice
  obtain ⟨r3, u, v, e⟩ := hr
  obtain ⟨x, h2, p1, p2, p3, p4, p5⟩ := dice (m := m) hp hm hm2
  by_cases u0 : u = 0
  · subst u0
    simp? only [f_law_leaned, e, show ((0 : Int) == 0) = true from rfl]
    exact ⟨_, _, rfl, Int.le_refl _, hm, hp, .refl⟩
  by_cases u1 : u = 1
  · subst u1
    simp? only [f_law_leaned, e, show ((1 : Int) == 0) = false from rfl, show ((1 : Int) == 1) = true from rfl]
    exact ⟨_, _, rfl, by omega, by omega, hp, .refl⟩
  have c0 : (u == 0) = false := by simp [u0]
  have c1 : (u == 1) = false := by simp [u1]
  by_cases u2 : u = 2
  · subst u2
    have hmz : (m = 0) = False := eq_false (by omega)
    simp? only [f_law_leaned, e, show ((2 : Int) == 0) = false from rfl, show ((2 : Int) == 1) = false from rfl, show ((2 : Int) == 2) = true from rfl, y_at_1, hmz]
    exact ⟨_, _, rfl, (fmod_lt' hm).1, (fmod_lt' hm).2, hp, .refl⟩
  · have c2 : (u == 2) = false := by simp [u2]
    simp? only [f_law_leaned, e, c0, c1, c2, p1]
    obtain ⟨h3, t1, t2, t3, _⟩ := end_pure (d := .int x) hPI hp p4 p5 rfl
    exact ⟨_, h3, t1, p2, p3, t2, t3⟩
def Bit (e : Int) : Prop := 0 ≤ e ∧ e < 2
end
end K26

set_option Elab.async false
set_option linter.all false
set_option maxRecDepth 100000
namespace K26
open PySem PySem.Spec PyProof.Rows L2 Ev
local macro_rules | `(tactic| simp? only [$xs,*]) => `(tactic| simp -implicitDefEqProofs only [Int.reduceSub, Int.reduceAdd, Int.reduceNeg, lst_new1, lst_new2, List.flatten_replicate_singleton, List.length_map, Nat.one_mul, Nat.mul_one, List.length_append, List.length_replicate, trunc_nil, trunc_new, RSat_nx, RSat_ct, RSat_bk, RSat_ret, Ends_nx, Ends_ret, lst_new, lst_0, setL_0, set_new, bind_ok', thn_ok, seq_nx, seq_ret, seq_bk, seq_ct, eqD_int, eqD_bl, Rv_some, Rb_some, truth_bl, truth_int, bifD_len, bifD_abs, bifD_int, bifD_intb, bifD_min, bifD_max, sqD_tup, sqD_len, sqD_list, sqD_sumr, sqD_sum', isL_ref, putT_v, putT_t, putTs_nil, putTs_cons, new_eq, itD_tup, itD_fl, rng1_int, rng2_int, quiet_ok, fin_ret, fin_nx, startD_eq, List.set_cons_zero, List.set_cons_succ, List.map_cons, List.map_nil, List.replicate_succ, List.replicate_zero, List.cons_append, List.nil_append, List.length_cons, List.length_nil, Option.bind_some, Option.isSome_some, Option.map_some, if_true, if_false, Bool.false_eq_true, atI_0, ite_true, ite_false, Nat.reduceAdd, Nat.reduceSub, Nat.zero_add, trunc_set0, trunc_set, trunc_id, trunc_same, belows_ints, below_int, below_bl, below_non, below_str, below_tup, belows_nil, belows_cons, Tot_ok, Bool.and_true, Bool.true_and, len_fx, len_lc, rangeD_len, wipeD_nil, wipeD_cons, eqD_str, Nat.reduceLeDiff, Int.zero_add, Int.sub_zero, Int.toNat_natCast, Int.natAbs_natCast, Int.reduceNe, Int.reduceEq, Int.reduceLT, Int.reduceLE, ne_eq, not_false_eq_true, Bool.not_true, Bool.or_false, Bool.false_or, Bool.false_and, Bool.and_false, decide_true, decide_false, beq_self_eq_true, Bool.not_not, Bool.not_false, List.lookup_cons, String.reduceBEq, y_getV_0, y_getV_s, y_v_var, y_v_int, y_v_bl, y_v_non, y_v_str, y_v_glob, y_v_bin, y_v_neg, y_v_cmp, y_v_chain, y_v_and, y_v_or, y_t_and, y_t_or, y_v_not, y_t_not, y_v_ite, y_v_tup, y_v_lst, y_v_ix, y_v_sl, y_p_hole, y_v_call, y_v_bif, y_v_seq, y_v_isi, y_v_pop, y_v_popAt, y_v_app, y_v_comp, y_q_comp, y_i_rng1, y_i_rng2, y_i_rng3, y_i_enum, y_i_zip, y_v_callk, y_v_rgs, y_v_rgs2, y_kwK_ok, y_kwD_ok, y_perm_n, y_perm_c, y_getD_0, y_getD_s, y_rgsT, y_rgsF, y_en_tup, y_en_ref, y_enK_s, y_sl_tup, y_sl_fl, y_sl_ref, y_slO_s, y_bool_b, y_bool_i, y_v_rev, y_v_ext, y_extK_ok, y_ext_ref, y_extO_s, y_str_i, y_rev_tup, y_rng3_int, y_zip_tup, y_mul_T, y_s_raise, y_raiseK_ok, y_raise_1, y_raise_2, y_bind_err, y_thn_err, y_seq_err, y_fin_err, y_s_try, y_try_nx, y_try_ret, y_try_bk, y_try_ct, y_try_err, y_tryK_t, y_tryK_f, y_hs_nil, y_hs_ret, y_hs_ifr, y_hsR_s, y_hsI_t, y_hsI_f, y_hr_a, y_hr_t, y_hrT_s, y_ha_str, y_ha_int, y_ha_non, y_ha_bl, y_ha_fld, y_ha_ite, y_haI_t, y_haI_f, y_hal_n, y_hal_c, y_halC_s, y_hq_isx, y_hq_not, y_hq_and, y_hqs_n, y_hqs_c, y_hqB_t, y_hqB_f, y_t_var, y_q_var, y_i_var, y_p_var, y_t_int, y_p_int, y_t_bl, y_t_glob, y_q_glob, y_i_glob, y_p_glob, y_t_bin, y_q_bin, y_i_bin, y_p_bin, y_p_neg, y_t_cmp, y_t_chain, y_t_ite, y_q_ite, y_i_ite, y_p_ite, y_t_tup, y_q_tup, y_i_tup, y_t_lst, y_q_lst, y_i_lst, y_t_ix, y_q_ix, y_i_ix, y_p_ix, y_t_sl, y_q_sl, y_i_sl, y_t_call, y_q_call, y_i_call, y_p_call, y_t_callk, y_q_callk, y_i_callk, y_t_rgs, y_q_rgs, y_i_rgs, y_t_bif, y_q_bif, y_i_bif, y_p_bif, y_t_seq, y_q_seq, y_i_seq, y_t_isi, y_t_pop, y_q_pop, y_i_pop, y_t_popAt, y_t_rev, y_q_rev, y_i_rev, y_i_comp, y_globK_s, y_kB_ok, y_kT_ok, y_negK_ok, y_cmpK_ok, y_chK1_ok, y_chK3_ok, y_chK2_t, y_chK2_f, y_andV_1, y_andV_2, y_orV_1, y_orV_2, y_andT_1, y_andT_2, y_orT_1, y_orT_2, y_andK_t, y_andK_f, y_orK_t, y_orK_f, y_andTK_t, y_andTK_f, y_orTK_t, y_orTK_f, y_notK_ok, y_notTK_ok, y_iteK_t, y_iteK_f, y_tupK_ok, y_lstK_ok, y_evMs_nil, y_evMs_cons, y_allV_n, y_allV_c, y_allK_ok, y_consK_ok, y_isiK_ok, y_popAtK_ok, y_appK_ok, y_slK1_ok, y_slK2_ok, y_compK_ok, y_compN_ok, y_truK_ok, y_seqK_tup, y_seqK_fl, y_seqK_ref, y_seqO_s, y_intK_ok, y_ifsT_n, y_ifsT_1, y_turnC_ok, y_turnP_s, y_turnK_t, y_turnK_f, y_turnK2_ok, y_s_nil, y_s_cons, y_s_expr, y_s_asg, y_s_setix, y_s_aug, y_s_if, y_s_for, y_s_while, y_s_ret, y_s_retn, y_s_brk, y_s_cont, y_s_pass, y_exprK_ok, y_putK_s, y_asgK_ok, y_setK1_ok, y_setK2_ok, y_setK3_ok, y_setK4_ok, y_augK1_ok, y_augK2_ok, y_augK3_ok, y_brK_t, y_brK_f, y_forK_ok, y_retK_ok, y_turnS_v, y_turnS_t, y_bin_Add, y_bin_AddT, y_bin_AddR, y_addO_s, y_bin_MultR2, y_mulO_s, y_bin_Sub, y_bin_Mult, y_bin_MultW, y_bin_MultR, y_bin_MultL, y_bin_Mod, y_bin_Div, y_bin_DivL, y_bin_PowL, y_bin_ShlL, y_bin_Pow, y_bin_Shl, y_bin_Shr, y_bin_And, y_bin_Or, y_bin_Xor, y_aug_Add, y_aug_Sub, y_cmp_Lt, y_cmp_LtE, y_cmp_Gt, y_cmp_GtE, y_cmp_Eq, y_cmp_NotEq, y_cmp_Is, y_cmp_IsNot, y_isNon_non, y_isNon_int, y_isNon_bl, y_isNon_tup, y_isNon_ref, y_isNon_str, y_ty_bool_non, y_ty_bool_bl, y_ty_bool_int, y_ty_bool_str, y_ty_bool_tup, y_ty_bool_fl, y_ty_bool_ref, y_ty_int_non, y_ty_int_bl, y_ty_int_int, y_ty_int_str, y_ty_int_tup, y_ty_int_fl, y_ty_int_ref, y_ty_str_non, y_ty_str_bl, y_ty_str_int, y_ty_str_str, y_ty_str_tup, y_ty_str_fl, y_ty_str_ref, y_ty_list_non, y_ty_list_bl, y_ty_list_int, y_ty_list_str, y_ty_list_tup, y_ty_list_fl, y_ty_list_ref, y_ty_tuple_non, y_ty_tuple_bl, y_ty_tuple_int, y_ty_tuple_str, y_ty_tuple_tup, y_ty_tuple_fl, y_ty_tuple_ref, y_at_s, y_ix_tup, y_ix_fl, y_ix_ref, y_ixK_s, y_len_tup, y_len_fl, y_len_ref, y_lenK_s, y_it_ref, y_itK_s, y_at_1, y_at_2, y_tyK_s, y_map_not, $xs,*])
section
variable {G : Str → Option D} {F k : Nat} {h h0 : Hd} {p : Nat} {m n : Int} {is : List Int}
/-- rows of tuples put one behind the other; each is drawn with a habit -/
theorem drawn_ok {a b : Nat} (hp : PW 3 PI h) (ha : a ≤ 12) (hb : b ≤ 12) (hF : 100 ≤ F) : ∃ f h', callF G prog.T F (k + 3) "_law_drawn" [.ref 2, .int a, .int b] h = .ok (wv a b f) h' ∧ PW 3 PI h' ∧ Fr 3 h h' ∧ ∀ i j, i < a → j < b → Bit (f i j) := by
  rw [call_eq (fn := f_law_drawn) rfl rfl]
  have dice := fun {m : Int} {h : Hd} (hp : PW 3 PI h) (hm : 0 < m) (hm2 : m < 1000) => dice_p (G := G) (F := F) (k := k + 1) (m := m) (h := h) hp hm hm2 hF
  have habit := fun {h : Hd} (hp : PW 3 PI h) => habit_ok (G := G) (F := F) (k := k) (h := h) hp hF
  have lean := fun {m : Int} {h : Hd} {r : Nat} (hp : PW 3 PI h) (hr : IsHab h r) (hm : 0 < m) (hm2 : m < 1000) => leaned_ok (G := G) (F := F) (k := k) (m := m) (h := h) (r := r) hp hr hm hm2 hF
  generalize callF G prog.T F (k + 2) = C at dice habit lean
  have row : ∀ {b rh : Nat} {h4 : Hd} {v0 v1 v3 v4 v5 v7 : Option D} {v2 : D} {w : R (List D)}, b ≤ 12 → IsHab h4 rh → PW 3 PI h4 → loopC (turnC (putT (.v 7)) (ifsT []) (evM G C (.call "_law_leaned" [.var 0, .var 6, .int 2])).v [7] [some (.ref 2), v1, some v2, v3, v4, v5, some (.ref rh), v7]) (.fx (rangeD 0 b)) b 0 [] h4 = w → ∃ ys h5, w = .ok ys h5 ∧ ys.length = b ∧ PW 3 PI h5 ∧ Fr 3 h4 h5 ∧ Ints Bit ys := by
    intro b rh h4 v0 v1 v3 v4 v5 v7 v2 w hb hr w4 e
    refine loopC_rngP e (by omega) (fun acc h5 => PW 3 PI h5 ∧ Fr 3 h4 h5 ∧ Ints Bit acc) ?_ ⟨w4, .refl, .nil⟩
    clear e
    rintro j acc h5 hj hl ⟨w5, f5, hy⟩
    obtain ⟨y, h6, u1, u2, u3, u4, u5⟩ := lean (m := 2) w5 (hr.fr f5) (by omega) (by omega)
    simp? only [u1]
    exact ⟨_, rfl, u4, f5.trans u5, hy.snoc ⟨u2, u3⟩⟩
  have hq := hp.le
  obtain ⟨w0, h2, p1, p2, p3, p4⟩ := habit (hp.app (o := [O.lst []]))
  have e0 : Hd.lst h2 h.length = some [] := p3.lst hq lst_new
  have f2 : Fr 3 h h2 := ⟨by have := p3.len; simp at this; omega, fun l x y => by rw [p3.eq l x (by simp; omega), List.getElem?_append_left y]⟩
  simp? only [f_law_drawn, p1, small_k (n := a) (by omega)]
  generalize e : loopS _ _ _ _ _ _ = w
  obtain ⟨s', h', rfl, ⟨v5, v6, v7, rfl⟩, hw, hf, hh, acc, e1, e2, hz⟩ : ∃ s' h', w = .nx s' h' ∧ (∃ v5 v6 v7 : Option D, s' = [some (.ref 2), some (.int a), some (.int b), some (.ref h.length), some (.ref w0), v5, v6, v7]) ∧ PW 3 PI h' ∧ Fr 3 h h' ∧ IsHab h' w0 ∧ ∃ acc, Hd.lst h' h.length = some acc ∧ acc.length = a ∧ ∀ z ∈ acc, WRow Bit b z := by
    refine Ends.nxt (loopS_rng e (fun i s h' => (∃ v5 v6 v7 : Option D, s = [some (.ref 2), some (.int a), some (.int b), some (.ref h.length), some (.ref w0), v5, v6, v7]) ∧ PW 3 PI h' ∧ Fr 3 h h' ∧ IsHab h' w0 ∧ ∃ acc, Hd.lst h' h.length = some acc ∧ acc.length = i ∧ ∀ z ∈ acc, WRow Bit b z) _ _ ?_ (fun _ _ x => x) ⟨⟨_, _, _, rfl⟩, p2, f2, p4, [], e0, rfl, fun _ z => nomatch z⟩)
    clear e
    intro i s hh hi hyp
    obtain ⟨v5, v6, v7, rfl⟩ := hyp.1
    have hw := hyp.2.1
    have hf := hyp.2.2.1
    have hb0 := hyp.2.2.2.1
    have hx := hyp.2.2.2.2
    clear hyp
    refine hx.elim ?_
    intro acc hac
    have e1 := hac.1
    have e2 := hac.2.1
    have hz := hac.2.2
    clear hac hx
    have hlt := lst_lt e1
    obtain ⟨r1, h3, q1, q2, q3, q4⟩ := habit hw
    have k3 := q3.len
    have kf := hf.len
    have e3 := q3.lst hq e1
    have w3 := hb0.fr q3
    obtain ⟨a3, wu, wv', ew⟩ := w3
    have ew' : Hd.lst (h3 ++ [O.lst [.ref r1, .ref w0]]) w0 = some [.int wu, .int wv'] := lst_old ew
    have hz2 : acc.length < sizeLine := by rw [sizeLine_eq]; omega
    have fin : ∀ (ys : List D) (h5 : Hd), PW 3 PI h5 → Fr 3 h3 h5 → ys.length = b → Ints Bit ys → Hd.lst h5 h.length = some acc ∧ PW 3 PI (setL h.length (acc ++ [.tup ys]) h5) ∧ Fr 3 h (setL h.length (acc ++ [.tup ys]) h5) ∧ IsHab (setL h.length (acc ++ [.tup ys]) h5) w0 ∧ ∃ acc', Hd.lst (setL h.length (acc ++ [.tup ys]) h5) h.length = some acc' ∧ acc'.length = i + 1 ∧ ∀ z ∈ acc', WRow Bit b z := by
      intro ys h5 w5 f5 ly iy
      have e5 := f5.lst hq e3
      have k5 := f5.len
      obtain ⟨_, u, v, ew5⟩ := (hb0.fr q3).fr f5
      refine ⟨e5, w5.set (by omega), ((hf.trans q3).trans f5).set (.inr (Nat.le_refl _)), ⟨a3, u, v, ?_⟩, acc ++ [.tup ys], lst_at (lst_lt e5), by simp [e2], fun z hm => ?_⟩
      · rw [lst_set_ne]
        · exact ew5
        · intro q
          rw [q, e5] at ew5
          cases acc with
          | nil => simp at ew5
          | cons x r =>
            have := Option.some.inj ew5
            have := (List.cons.inj this).1
            obtain ⟨es, rfl, _⟩ := hz x List.mem_cons_self
            cases this
      · rcases List.mem_append.mp hm with hm | hm
        · exact hz z hm
        · rw [show z = .tup ys by simpa using hm]
          exact iy.wrow ly
    by_cases c1 : wu < 3
    · obtain ⟨y, h4, v1, v2, v3, v4, v5⟩ := dice (m := 3) (q2.app (o := [O.lst [.ref r1, .ref w0]])) (by omega) (by omega)
      have f4 : Fr 3 h3 h4 := ⟨by have := v5.len; simp at this; omega, fun l x y => by rw [v5.eq l x (by simp; omega), List.getElem?_append_left y]⟩
      have o4 : Hd.lst h4 h3.length = some [.ref r1, .ref w0] := v5.lst (by have := q2.le; omega) lst_new
      by_cases c2 : 0 < y
      · simp? only [q1, ew', decide_eq_true c1, v1, decide_eq_true c2, o4, y_at_1, small_k (n := b) (by omega), f4.lst hq e3]
        generalize e : loopC _ _ _ _ _ _ = w
        obtain ⟨ys, h5, rfl, ly, w5, f5, iy⟩ := row (v0 := none) hb ((hb0.fr q3).fr f4) v4 e
        clear e
        obtain ⟨g0, g1, g2, g3, g4⟩ := fin ys h5 w5 (f4.trans f5) ly iy
        simp? only [g0, appD_ok g0 hz2]
        exact ⟨⟨_, _, _, rfl⟩, g1, g2, g3, g4⟩
      · simp? only [q1, ew', decide_eq_true c1, v1, decide_eq_false c2, o4, small_k (n := b) (by omega), f4.lst hq e3]
        generalize e : loopC _ _ _ _ _ _ = w
        obtain ⟨ys, h5, rfl, ly, w5, f5, iy⟩ := row (v0 := none) hb (q4.fr f4) v4 e
        clear e
        obtain ⟨g0, g1, g2, g3, g4⟩ := fin ys h5 w5 (f4.trans f5) ly iy
        simp? only [g0, appD_ok g0 hz2]
        exact ⟨⟨_, _, _, rfl⟩, g1, g2, g3, g4⟩
    · have f4 : Fr 3 h3 (h3 ++ [O.lst [.ref r1, .ref w0]]) := Fr.refl.app
      simp? only [q1, ew', decide_eq_false c1, small_k (n := b) (by omega), f4.lst hq e3]
      generalize e : loopC _ _ _ _ _ _ = w
      obtain ⟨ys, h5, rfl, ly, w5, f5, iy⟩ := row (v0 := none) hb (q4.fr f4) q2.app e
      clear e
      obtain ⟨g0, g1, g2, g3, g4⟩ := fin ys h5 w5 (f4.trans f5) ly iy
      simp? only [g0, appD_ok g0 hz2]
      exact ⟨⟨_, _, _, rfl⟩, g1, g2, g3, g4⟩
  clear e
  simp? only [e1]
  obtain ⟨f, rfl, hbit⟩ := wv_of e2 hz
  obtain ⟨h4, t1, t2, t3, _⟩ := end_pure (d := wv a b f) hPI hp hw hf wv_below
  exact ⟨f, h4, t1, t2, t3, hbit⟩
end
end K26

set_option Elab.async false
set_option linter.all false
set_option maxRecDepth 100000
namespace K26
open PySem PySem.Spec PyProof.Rows L2 Ev
local macro_rules | `(tactic| simp? only [$xs,*]) => `(tactic| simp -implicitDefEqProofs only [Int.reduceSub, Int.reduceAdd, Int.reduceNeg, lst_new1, lst_new2, List.flatten_replicate_singleton, List.length_map, Nat.one_mul, Nat.mul_one, List.length_append, List.length_replicate, trunc_nil, trunc_new, RSat_nx, RSat_ct, RSat_bk, RSat_ret, Ends_nx, Ends_ret, lst_new, lst_0, setL_0, set_new, bind_ok', thn_ok, seq_nx, seq_ret, seq_bk, seq_ct, eqD_int, eqD_bl, Rv_some, Rb_some, truth_bl, truth_int, bifD_len, bifD_abs, bifD_int, bifD_intb, bifD_min, bifD_max, sqD_tup, sqD_len, sqD_list, sqD_sumr, sqD_sum', isL_ref, putT_v, putT_t, putTs_nil, putTs_cons, new_eq, itD_tup, itD_fl, rng1_int, rng2_int, quiet_ok, fin_ret, fin_nx, startD_eq, List.set_cons_zero, List.set_cons_succ, List.map_cons, List.map_nil, List.replicate_succ, List.replicate_zero, List.cons_append, List.nil_append, List.length_cons, List.length_nil, Option.bind_some, Option.isSome_some, Option.map_some, if_true, if_false, Bool.false_eq_true, atI_0, ite_true, ite_false, Nat.reduceAdd, Nat.reduceSub, Nat.zero_add, trunc_set0, trunc_set, trunc_id, trunc_same, belows_ints, below_int, below_bl, below_non, below_str, below_tup, belows_nil, belows_cons, Tot_ok, Bool.and_true, Bool.true_and, len_fx, len_lc, rangeD_len, wipeD_nil, wipeD_cons, eqD_str, Nat.reduceLeDiff, Int.zero_add, Int.sub_zero, Int.toNat_natCast, Int.natAbs_natCast, Int.reduceNe, Int.reduceEq, Int.reduceLT, Int.reduceLE, ne_eq, not_false_eq_true, Bool.not_true, Bool.or_false, Bool.false_or, Bool.false_and, Bool.and_false, decide_true, decide_false, beq_self_eq_true, Bool.not_not, Bool.not_false, List.lookup_cons, String.reduceBEq, y_getV_0, y_getV_s, y_v_var, y_v_int, y_v_bl, y_v_non, y_v_str, y_v_glob, y_v_bin, y_v_neg, y_v_cmp, y_v_chain, y_v_and, y_v_or, y_t_and, y_t_or, y_v_not, y_t_not, y_v_ite, y_v_tup, y_v_lst, y_v_ix, y_v_sl, y_p_hole, y_v_call, y_v_bif, y_v_seq, y_v_isi, y_v_pop, y_v_popAt, y_v_app, y_v_comp, y_q_comp, y_i_rng1, y_i_rng2, y_i_rng3, y_i_enum, y_i_zip, y_v_callk, y_v_rgs, y_v_rgs2, y_kwK_ok, y_kwD_ok, y_perm_n, y_perm_c, y_getD_0, y_getD_s, y_rgsT, y_rgsF, y_en_tup, y_en_ref, y_enK_s, y_sl_tup, y_sl_fl, y_sl_ref, y_slO_s, y_bool_b, y_bool_i, y_v_rev, y_v_ext, y_extK_ok, y_ext_ref, y_extO_s, y_str_i, y_rev_tup, y_rng3_int, y_zip_tup, y_mul_T, y_s_raise, y_raiseK_ok, y_raise_1, y_raise_2, y_bind_err, y_thn_err, y_seq_err, y_fin_err, y_s_try, y_try_nx, y_try_ret, y_try_bk, y_try_ct, y_try_err, y_tryK_t, y_tryK_f, y_hs_nil, y_hs_ret, y_hs_ifr, y_hsR_s, y_hsI_t, y_hsI_f, y_hr_a, y_hr_t, y_hrT_s, y_ha_str, y_ha_int, y_ha_non, y_ha_bl, y_ha_fld, y_ha_ite, y_haI_t, y_haI_f, y_hal_n, y_hal_c, y_halC_s, y_hq_isx, y_hq_not, y_hq_and, y_hqs_n, y_hqs_c, y_hqB_t, y_hqB_f, y_t_var, y_q_var, y_i_var, y_p_var, y_t_int, y_p_int, y_t_bl, y_t_glob, y_q_glob, y_i_glob, y_p_glob, y_t_bin, y_q_bin, y_i_bin, y_p_bin, y_p_neg, y_t_cmp, y_t_chain, y_t_ite, y_q_ite, y_i_ite, y_p_ite, y_t_tup, y_q_tup, y_i_tup, y_t_lst, y_q_lst, y_i_lst, y_t_ix, y_q_ix, y_i_ix, y_p_ix, y_t_sl, y_q_sl, y_i_sl, y_t_call, y_q_call, y_i_call, y_p_call, y_t_callk, y_q_callk, y_i_callk, y_t_rgs, y_q_rgs, y_i_rgs, y_t_bif, y_q_bif, y_i_bif, y_p_bif, y_t_seq, y_q_seq, y_i_seq, y_t_isi, y_t_pop, y_q_pop, y_i_pop, y_t_popAt, y_t_rev, y_q_rev, y_i_rev, y_i_comp, y_globK_s, y_kB_ok, y_kT_ok, y_negK_ok, y_cmpK_ok, y_chK1_ok, y_chK3_ok, y_chK2_t, y_chK2_f, y_andV_1, y_andV_2, y_orV_1, y_orV_2, y_andT_1, y_andT_2, y_orT_1, y_orT_2, y_andK_t, y_andK_f, y_orK_t, y_orK_f, y_andTK_t, y_andTK_f, y_orTK_t, y_orTK_f, y_notK_ok, y_notTK_ok, y_iteK_t, y_iteK_f, y_tupK_ok, y_lstK_ok, y_evMs_nil, y_evMs_cons, y_allV_n, y_allV_c, y_allK_ok, y_consK_ok, y_isiK_ok, y_popAtK_ok, y_appK_ok, y_slK1_ok, y_slK2_ok, y_compK_ok, y_compN_ok, y_truK_ok, y_seqK_tup, y_seqK_fl, y_seqK_ref, y_seqO_s, y_intK_ok, y_ifsT_n, y_ifsT_1, y_turnC_ok, y_turnP_s, y_turnK_t, y_turnK_f, y_turnK2_ok, y_s_nil, y_s_cons, y_s_expr, y_s_asg, y_s_setix, y_s_aug, y_s_if, y_s_for, y_s_while, y_s_ret, y_s_retn, y_s_brk, y_s_cont, y_s_pass, y_exprK_ok, y_putK_s, y_asgK_ok, y_setK1_ok, y_setK2_ok, y_setK3_ok, y_setK4_ok, y_augK1_ok, y_augK2_ok, y_augK3_ok, y_brK_t, y_brK_f, y_forK_ok, y_retK_ok, y_turnS_v, y_turnS_t, y_bin_Add, y_bin_AddT, y_bin_AddR, y_addO_s, y_bin_MultR2, y_mulO_s, y_bin_Sub, y_bin_Mult, y_bin_MultW, y_bin_MultR, y_bin_MultL, y_bin_Mod, y_bin_Div, y_bin_DivL, y_bin_PowL, y_bin_ShlL, y_bin_Pow, y_bin_Shl, y_bin_Shr, y_bin_And, y_bin_Or, y_bin_Xor, y_aug_Add, y_aug_Sub, y_cmp_Lt, y_cmp_LtE, y_cmp_Gt, y_cmp_GtE, y_cmp_Eq, y_cmp_NotEq, y_cmp_Is, y_cmp_IsNot, y_isNon_non, y_isNon_int, y_isNon_bl, y_isNon_tup, y_isNon_ref, y_isNon_str, y_ty_bool_non, y_ty_bool_bl, y_ty_bool_int, y_ty_bool_str, y_ty_bool_tup, y_ty_bool_fl, y_ty_bool_ref, y_ty_int_non, y_ty_int_bl, y_ty_int_int, y_ty_int_str, y_ty_int_tup, y_ty_int_fl, y_ty_int_ref, y_ty_str_non, y_ty_str_bl, y_ty_str_int, y_ty_str_str, y_ty_str_tup, y_ty_str_fl, y_ty_str_ref, y_ty_list_non, y_ty_list_bl, y_ty_list_int, y_ty_list_str, y_ty_list_tup, y_ty_list_fl, y_ty_list_ref, y_ty_tuple_non, y_ty_tuple_bl, y_ty_tuple_int, y_ty_tuple_str, y_ty_tuple_tup, y_ty_tuple_fl, y_ty_tuple_ref, y_at_s, y_ix_tup, y_ix_fl, y_ix_ref, y_ixK_s, y_len_tup, y_len_fl, y_len_ref, y_lenK_s, y_it_ref, y_itK_s, y_at_1, y_at_2, y_tyK_s, y_map_not, $xs,*])
section
variable {G : Str → Option D} {F k : Nat} {h h0 : Hd} {p : Nat} {m n : Int} {is : List Int}
def Pr (e : Int) : Prop := -1000000 ≤ e ∧ e ≤ 1000000
theorem priced_ok {a b : Nat} (hp : PW 3 PI h) (ha : a ≤ 12) (hb : b ≤ 12) (hF : 100 ≤ F) : ∃ f h', callF G prog.T F (k + 3) "_law_priced" [.ref 2, .int a, .int b] h = .ok (wv a b f) h' ∧ PW 3 PI h' ∧ Fr 3 h h' ∧ ∀ i j, i < a → j < b → Pr (f i j) := by
  rw [call_eq (fn := f_law_priced) rfl rfl]
  have dice := fun {m : Int} {h : Hd} (hp : PW 3 PI h) (hm : 0 < m) (hm2 : m < 1000) => dice_p (G := G) (F := F) (k := k + 1) (m := m) (h := h) hp hm hm2 hF
  have habit := fun {h : Hd} (hp : PW 3 PI h) => habit_ok (G := G) (F := F) (k := k) (h := h) hp hF
  have lean := fun {m : Int} {h : Hd} {r : Nat} (hp : PW 3 PI h) (hr : IsHab h r) (hm : 0 < m) (hm2 : m < 1000) => leaned_ok (G := G) (F := F) (k := k) (m := m) (h := h) (r := r) hp hr hm hm2 hF
  generalize callF G prog.T F (k + 2) = C at dice habit lean
  have hq := hp.le
  simp? only [f_law_priced, small_k (n := a) (by omega)]
  generalize e : loopS _ _ _ _ _ _ = w
  obtain ⟨s', h', rfl, ⟨v4, v5, v6, v7, v8, v9, rfl⟩, hw, hf, acc, e1, e2, hz⟩ : ∃ s' h', w = .nx s' h' ∧ (∃ v4 v5 v6 v7 v8 v9 : Option D, s' = [some (.ref 2), some (.int a), some (.int b), some (.ref h.length), v4, v5, v6, v7, v8, v9]) ∧ PW 3 PI h' ∧ Fr 3 h h' ∧ ∃ acc, Hd.lst h' h.length = some acc ∧ acc.length = a ∧ ∀ z ∈ acc, WRow Pr b z := by
    refine Ends.nxt (loopS_rng e (fun i s h' => (∃ v4 v5 v6 v7 v8 v9 : Option D, s = [some (.ref 2), some (.int a), some (.int b), some (.ref h.length), v4, v5, v6, v7, v8, v9]) ∧ PW 3 PI h' ∧ Fr 3 h h' ∧ ∃ acc, Hd.lst h' h.length = some acc ∧ acc.length = i ∧ ∀ z ∈ acc, WRow Pr b z) _ _ ?_ (fun _ _ x => x) ⟨⟨_, _, _, _, _, _, rfl⟩, hp.app, Fr.refl.app, [], lst_new, rfl, fun _ z => nomatch z⟩)
    clear e
    intro i s hh hi hyp
    obtain ⟨v4, v5, v6, v7, v8, v9, rfl⟩ := hyp.1
    have hw := hyp.2.1
    have hf := hyp.2.2.1
    have hx := hyp.2.2.2
    clear hyp
    refine hx.elim ?_
    intro acc hac
    have e1 := hac.1
    have e2 := hac.2.1
    have hz := hac.2.2
    clear hac hx
    have hlt := lst_lt e1
    obtain ⟨r1, h3, q1, q2, q3, q4⟩ := habit hw
    have k3 := q3.len
    have kf := hf.len
    have e3 := q3.lst hq e1
    simp? only [q1, small_k (n := b) (by omega)]
    generalize e : loopS _ _ _ _ _ _ = w
    obtain ⟨s', h', rfl, ⟨v7, v8, v9, rfl⟩, w4, f4, ys, g1, g2, g3⟩ : ∃ s' h', w = .nx s' h' ∧ (∃ v7 v8 v9 : Option D, s' = [some (.ref 2), some (.int a), some (.int b), some (.ref h.length), some (.int i), some (.ref r1), some (.ref h3.length), v7, v8, v9]) ∧ PW 3 PI h' ∧ Fr 3 h3 h' ∧ ∃ ys, Hd.lst h' h3.length = some ys ∧ ys.length = b ∧ Ints Pr ys := by
      refine Ends.nxt (loopS_rng e (fun j s h' => (∃ v7 v8 v9 : Option D, s = [some (.ref 2), some (.int a), some (.int b), some (.ref h.length), some (.int i), some (.ref r1), some (.ref h3.length), v7, v8, v9]) ∧ PW 3 PI h' ∧ Fr 3 h3 h' ∧ ∃ ys, Hd.lst h' h3.length = some ys ∧ ys.length = j ∧ Ints Pr ys) _ _ ?_ (fun _ _ x => x) ⟨⟨_, _, _, rfl⟩, q2.app, Fr.refl.app, [], lst_new, rfl, .nil⟩)
      clear e
      intro j s h4 hj hyp
      obtain ⟨v7, v8, v9, rfl⟩ := hyp.1
      have w4 := hyp.2.1
      have f4 := hyp.2.2.1
      have hy := hyp.2.2.2
      clear hyp
      refine hy.elim ?_
      intro ys hys
      have g1 := hys.1
      have g2 := hys.2.1
      have g3 := hys.2.2
      clear hys hy
      have kq := q2.le
      obtain ⟨x0, h5, x01, x02, x03, x04, x05⟩ := lean (m := 5) w4 (q4.fr f4) (by omega) (by omega)
      obtain ⟨y1, h6, y11, y12, y13, y14, y15⟩ := dice (m := 10) x04 (by omega) (by omega)
      obtain ⟨y2, h7, y21, y22, y23, y24, y25⟩ := dice (m := 10) y14 (by omega) (by omega)
      obtain ⟨y3, h8, y31, y32, y33, y34, y35⟩ := dice (m := 2) y24 (by omega) (by omega)
      obtain ⟨y4, h9, y41, y42, y43, y44, y45⟩ := dice (m := 2) y34 (by omega) (by omega)
      have f9 := (((x05.trans y15).trans y25).trans y35).trans y45
      obtain ⟨z, hz, pz⟩ : ∃ z : Int, atI [D.int 0, .int y1, .int (0 - y2), .int ((10 : Int) ^ Int.toNat 6 - y3), .int (y4 - (10 : Int) ^ Int.toNat 6)] x0 = some (.int z) ∧ Pr z := by
        have e6 : (10 : Int) ^ Int.toNat 6 = 1000000 := rfl
        unfold Pr
        obtain rfl | rfl | rfl | rfl | rfl : x0 = 0 ∨ x0 = 1 ∨ x0 = 2 ∨ x0 = 3 ∨ x0 = 4 := by omega
        · exact ⟨_, rfl, by omega, by omega⟩
        · exact ⟨_, rfl, by omega, by omega⟩
        · exact ⟨_, rfl, by omega, by omega⟩
        · exact ⟨_, rfl, by omega, by omega⟩
        · exact ⟨_, rfl, by omega, by omega⟩
      have g9 : Hd.lst (h9 ++ [O.lst [D.int 0, .int y1, .int (0 - y2), .int ((10 : Int) ^ Int.toNat 6 - y3), .int (y4 - (10 : Int) ^ Int.toNat 6)]]) h3.length = some ys := lst_old (f9.lst kq g1)
      simp? only [x01, y11, y21, y31, y41, hz, g9, appD_ok g9 (show ys.length < sizeLine by rw [sizeLine_eq]; omega)]
      exact ⟨⟨_, _, _, rfl⟩, y44.app.set kq, (f4.trans f9).app.set (.inr (Nat.le_refl _)), ys ++ [.int z], lst_at (lst_lt g9), by simp [g2], g3.snoc pz⟩
    clear e
    have e4 := f4.lst hq (q3.lst hq e1)
    simp? only [e4, g1, appD_ok e4 (show acc.length < sizeLine by rw [sizeLine_eq]; omega)]
    refine ⟨⟨_, _, _, _, _, _, rfl⟩, w4.set hq, ((hf.trans q3).trans f4).set (.inr (Nat.le_refl _)), acc ++ [.tup ys], lst_at (lst_lt e4), by simp [e2], fun z hm => ?_⟩
    rcases List.mem_append.mp hm with hm | hm
    · exact hz z hm
    · rw [show z = .tup ys by simpa using hm]
      exact g3.wrow g2
  clear e
  simp? only [e1]
  obtain ⟨f, rfl, hbit⟩ := wv_of e2 hz
  obtain ⟨h4, t1, t2, t3, _⟩ := end_pure (d := wv a b f) hPI hp hw hf wv_below
  exact ⟨f, h4, t1, t2, t3, hbit⟩
end
end K26

set_option Elab.async false
set_option linter.all false
set_option maxRecDepth 100000
namespace K26
open PySem PySem.Spec PyProof.Rows L2 Ev
local macro_rules | `(tactic| simp? only [$xs,*]) => `(tactic| simp -implicitDefEqProofs only [Int.reduceSub, Int.reduceAdd, Int.reduceNeg, lst_new1, lst_new2, List.flatten_replicate_singleton, List.length_map, Nat.one_mul, Nat.mul_one, List.length_append, List.length_replicate, trunc_nil, trunc_new, RSat_nx, RSat_ct, RSat_bk, RSat_ret, Ends_nx, Ends_ret, lst_new, lst_0, setL_0, set_new, bind_ok', thn_ok, seq_nx, seq_ret, seq_bk, seq_ct, eqD_int, eqD_bl, Rv_some, Rb_some, truth_bl, truth_int, bifD_len, bifD_abs, bifD_int, bifD_intb, bifD_min, bifD_max, sqD_tup, sqD_len, sqD_list, sqD_sumr, sqD_sum', isL_ref, putT_v, putT_t, putTs_nil, putTs_cons, new_eq, itD_tup, itD_fl, rng1_int, rng2_int, quiet_ok, fin_ret, fin_nx, startD_eq, List.set_cons_zero, List.set_cons_succ, List.map_cons, List.map_nil, List.replicate_succ, List.replicate_zero, List.cons_append, List.nil_append, List.length_cons, List.length_nil, Option.bind_some, Option.isSome_some, Option.map_some, if_true, if_false, Bool.false_eq_true, atI_0, ite_true, ite_false, Nat.reduceAdd, Nat.reduceSub, Nat.zero_add, trunc_set0, trunc_set, trunc_id, trunc_same, belows_ints, below_int, below_bl, below_non, below_str, below_tup, belows_nil, belows_cons, Tot_ok, Bool.and_true, Bool.true_and, len_fx, len_lc, rangeD_len, wipeD_nil, wipeD_cons, eqD_str, Nat.reduceLeDiff, Int.zero_add, Int.sub_zero, Int.toNat_natCast, Int.natAbs_natCast, Int.reduceNe, Int.reduceEq, Int.reduceLT, Int.reduceLE, ne_eq, not_false_eq_true, Bool.not_true, Bool.or_false, Bool.false_or, Bool.false_and, Bool.and_false, decide_true, decide_false, beq_self_eq_true, Bool.not_not, Bool.not_false, List.lookup_cons, String.reduceBEq, y_getV_0, y_getV_s, y_v_var, y_v_int, y_v_bl, y_v_non, y_v_str, y_v_glob, y_v_bin, y_v_neg, y_v_cmp, y_v_chain, y_v_and, y_v_or, y_t_and, y_t_or, y_v_not, y_t_not, y_v_ite, y_v_tup, y_v_lst, y_v_ix, y_v_sl, y_p_hole, y_v_call, y_v_bif, y_v_seq, y_v_isi, y_v_pop, y_v_popAt, y_v_app, y_v_comp, y_q_comp, y_i_rng1, y_i_rng2, y_i_rng3, y_i_enum, y_i_zip, y_v_callk, y_v_rgs, y_v_rgs2, y_kwK_ok, y_kwD_ok, y_perm_n, y_perm_c, y_getD_0, y_getD_s, y_rgsT, y_rgsF, y_en_tup, y_en_ref, y_enK_s, y_sl_tup, y_sl_fl, y_sl_ref, y_slO_s, y_bool_b, y_bool_i, y_v_rev, y_v_ext, y_extK_ok, y_ext_ref, y_extO_s, y_str_i, y_rev_tup, y_rng3_int, y_zip_tup, y_mul_T, y_s_raise, y_raiseK_ok, y_raise_1, y_raise_2, y_bind_err, y_thn_err, y_seq_err, y_fin_err, y_s_try, y_try_nx, y_try_ret, y_try_bk, y_try_ct, y_try_err, y_tryK_t, y_tryK_f, y_hs_nil, y_hs_ret, y_hs_ifr, y_hsR_s, y_hsI_t, y_hsI_f, y_hr_a, y_hr_t, y_hrT_s, y_ha_str, y_ha_int, y_ha_non, y_ha_bl, y_ha_fld, y_ha_ite, y_haI_t, y_haI_f, y_hal_n, y_hal_c, y_halC_s, y_hq_isx, y_hq_not, y_hq_and, y_hqs_n, y_hqs_c, y_hqB_t, y_hqB_f, y_t_var, y_q_var, y_i_var, y_p_var, y_t_int, y_p_int, y_t_bl, y_t_glob, y_q_glob, y_i_glob, y_p_glob, y_t_bin, y_q_bin, y_i_bin, y_p_bin, y_p_neg, y_t_cmp, y_t_chain, y_t_ite, y_q_ite, y_i_ite, y_p_ite, y_t_tup, y_q_tup, y_i_tup, y_t_lst, y_q_lst, y_i_lst, y_t_ix, y_q_ix, y_i_ix, y_p_ix, y_t_sl, y_q_sl, y_i_sl, y_t_call, y_q_call, y_i_call, y_p_call, y_t_callk, y_q_callk, y_i_callk, y_t_rgs, y_q_rgs, y_i_rgs, y_t_bif, y_q_bif, y_i_bif, y_p_bif, y_t_seq, y_q_seq, y_i_seq, y_t_isi, y_t_pop, y_q_pop, y_i_pop, y_t_popAt, y_t_rev, y_q_rev, y_i_rev, y_i_comp, y_globK_s, y_kB_ok, y_kT_ok, y_negK_ok, y_cmpK_ok, y_chK1_ok, y_chK3_ok, y_chK2_t, y_chK2_f, y_andV_1, y_andV_2, y_orV_1, y_orV_2, y_andT_1, y_andT_2, y_orT_1, y_orT_2, y_andK_t, y_andK_f, y_orK_t, y_orK_f, y_andTK_t, y_andTK_f, y_orTK_t, y_orTK_f, y_notK_ok, y_notTK_ok, y_iteK_t, y_iteK_f, y_tupK_ok, y_lstK_ok, y_evMs_nil, y_evMs_cons, y_allV_n, y_allV_c, y_allK_ok, y_consK_ok, y_isiK_ok, y_popAtK_ok, y_appK_ok, y_slK1_ok, y_slK2_ok, y_compK_ok, y_compN_ok, y_truK_ok, y_seqK_tup, y_seqK_fl, y_seqK_ref, y_seqO_s, y_intK_ok, y_ifsT_n, y_ifsT_1, y_turnC_ok, y_turnP_s, y_turnK_t, y_turnK_f, y_turnK2_ok, y_s_nil, y_s_cons, y_s_expr, y_s_asg, y_s_setix, y_s_aug, y_s_if, y_s_for, y_s_while, y_s_ret, y_s_retn, y_s_brk, y_s_cont, y_s_pass, y_exprK_ok, y_putK_s, y_asgK_ok, y_setK1_ok, y_setK2_ok, y_setK3_ok, y_setK4_ok, y_augK1_ok, y_augK2_ok, y_augK3_ok, y_brK_t, y_brK_f, y_forK_ok, y_retK_ok, y_turnS_v, y_turnS_t, y_bin_Add, y_bin_AddT, y_bin_AddR, y_addO_s, y_bin_MultR2, y_mulO_s, y_bin_Sub, y_bin_Mult, y_bin_MultW, y_bin_MultR, y_bin_MultL, y_bin_Mod, y_bin_Div, y_bin_DivL, y_bin_PowL, y_bin_ShlL, y_bin_Pow, y_bin_Shl, y_bin_Shr, y_bin_And, y_bin_Or, y_bin_Xor, y_aug_Add, y_aug_Sub, y_cmp_Lt, y_cmp_LtE, y_cmp_Gt, y_cmp_GtE, y_cmp_Eq, y_cmp_NotEq, y_cmp_Is, y_cmp_IsNot, y_isNon_non, y_isNon_int, y_isNon_bl, y_isNon_tup, y_isNon_ref, y_isNon_str, y_ty_bool_non, y_ty_bool_bl, y_ty_bool_int, y_ty_bool_str, y_ty_bool_tup, y_ty_bool_fl, y_ty_bool_ref, y_ty_int_non, y_ty_int_bl, y_ty_int_int, y_ty_int_str, y_ty_int_tup, y_ty_int_fl, y_ty_int_ref, y_ty_str_non, y_ty_str_bl, y_ty_str_int, y_ty_str_str, y_ty_str_tup, y_ty_str_fl, y_ty_str_ref, y_ty_list_non, y_ty_list_bl, y_ty_list_int, y_ty_list_str, y_ty_list_tup, y_ty_list_fl, y_ty_list_ref, y_ty_tuple_non, y_ty_tuple_bl, y_ty_tuple_int, y_ty_tuple_str, y_ty_tuple_tup, y_ty_tuple_fl, y_ty_tuple_ref, y_at_s, y_ix_tup, y_ix_fl, y_ix_ref, y_ixK_s, y_len_tup, y_len_fl, y_len_ref, y_lenK_s, y_it_ref, y_itK_s, y_at_1, y_at_2, y_tyK_s, y_map_not, $xs,*])
section
variable {G : Str → Option D} {F k : Nat} {h h0 : Hd} {p : Nat} {m n : Int} {is : List Int}
theorem prs_snoc {x : D} {xs : List D} : prs (xs ++ [x]) = prs xs ++ [.tup [x, x]] := by simp [prs]
theorem snoc_of {α : Type} {xs : List α} (h : xs ≠ []) : ∃ ys y, xs = ys ++ [y] := ⟨xs.dropLast, xs.getLast h, (List.dropLast_concat_getLast h).symm⟩
theorem set_app2 {oo : Hd} {j : Nat} {ys : List D} : setL (h.length + j) ys (h ++ oo) = h ++ setL j ys oo := by
  unfold setL
  rw [List.set_append_right _ _ (by omega)]
  congr 2
  omega
theorem lst_app2 {oo : Hd} {j : Nat} : Hd.lst (h ++ oo) (h.length + j) = Hd.lst oo j := by
  unfold Hd.lst
  rw [List.getElem?_append_right (by omega)]
  congr 2
  omega
theorem same_ok {d : D} (hp : pl d = true) (hn : nd d < F) (hF : F ≤ 100000) (hnl : nd d ≤ 500) : callF G prog.T F (k+1) "_law_same" [d, d] h = .ok (.bl true) h := by
  rw [call_eq (fn := f_law_same) rfl rfl]
  simp? only [f_law_same]
  generalize callF G prog.T F k = C
  generalize e : loopW _ _ _ _ _ = r
  obtain ⟨s', h', rfl, ⟨o, e, kk, l, rfl⟩, oo, rfl⟩ : ∃ s' h', r = .nx s' h' ∧ (∃ o e kk l, s' = [some d, some d, l, o, e, kk]) ∧ ∃ oo : Hd, h' = h ++ oo := by
    refine Ends.nxt (loopW_sat e (fun n s h' => ∃ o e kk xs j, s = [some d, some d, some (.ref (h.length + j)), o, e, kk] ∧ (∃ oo : Hd, h' = h ++ oo ∧ Hd.lst oo j = some (prs xs)) ∧ pls xs = true ∧ nds xs = n ∧ n ≤ nd d) _ _ ?_ ⟨nd d, hn, none, none, none, [d], 0, rfl, ⟨_, rfl, rfl⟩, by simp [pls, hp], by simp [nds], Nat.le_refl _⟩)
    clear e
    rintro n s h1 ⟨o, e, kk, xs, j, rfl, ⟨oo, rfl, hl⟩, hx, rfl, hle⟩
    have hxl := nds_len xs
    have hl' := lst_app2 (h := h) (oo := oo) (j := j)
    rw [hl] at hl'
    simp? only [prs_len, hl']
    by_cases hne : xs = []
    · subst hne
      simp only [List.length_nil, show decide ((0 : Int) < ((0 : Nat) : Int)) = false from rfl]
      exact ⟨⟨_, _, _, _, rfl⟩, _, rfl⟩
    · obtain ⟨ys, y, rfl⟩ := snoc_of hne
      have c : decide ((0 : Int) < ((ys ++ [y]).length : Int)) = true := by simp
      have hy : pl y = true ∧ pls ys = true := by
        rw [pls_app] at hx
        simp [pls] at hx
        exact ⟨hx.2, hx.1⟩
      simp only [c]
      rw [prs_snoc] at hl'
      rw [prs_snoc] at hl
      have hj := lst_lt hl
      have hs := lst_at (xs := prs ys) hj
      simp? only [popD_snoc hl', set_app2]
      have hnd : nds (ys ++ [y]) = nds ys + nd y := by simp [nds_app, nds]
      cases y with
      | non =>
        simp? only [Ev.y_map_not]
        exact ⟨_, by rw [hnd]; simp [nd], _, _, _, ys, _, rfl, ⟨_, rfl, hs⟩, hy.2, rfl, by omega⟩
      | bl b =>
        simp? only [Ev.y_map_not]
        exact ⟨_, by rw [hnd]; simp [nd], _, _, _, ys, _, rfl, ⟨_, rfl, hs⟩, hy.2, rfl, by omega⟩
      | int i =>
        simp? only [Ev.y_map_not]
        exact ⟨_, by rw [hnd]; simp [nd], _, _, _, ys, _, rfl, ⟨_, rfl, hs⟩, hy.2, rfl, by omega⟩
      | str q =>
        have hq : PyData.strOk q = true := hy.1
        simp? only [eqD_str hq hq]
        exact ⟨_, by rw [hnd]; simp [nd], _, _, _, ys, _, rfl, ⟨_, rfl, hs⟩, hy.2, rfl, by omega⟩
      | tup ds =>
        have hld := nds_len ds
        have hnd2 : nds (ys ++ [D.tup ds]) = nds ys + 1 + nds ds := by rw [hnd]; simp [nd]; omega
        have hs2 : Hd.lst (h ++ setL j (prs ys) oo) (h.length + j) = some (prs ys) := by rw [lst_app2]; exact hs
        simp? only [small_k (n := ds.length) (by omega), hs2]
        generalize e : loopC _ _ _ _ _ _ = r
        obtain rfl := loopC_list (xs := rangeD 0 ds.length) e (by simp [rangeD]) (by omega) (prs ds) (by simp [rangeD, prs]) (by
          intro i x hx
          obtain ⟨hi, rfl⟩ := rangeD_at hx
          have hix : ds[i]? = some ds[i] := List.getElem?_eq_getElem hi
          refine ⟨.tup [ds[i], ds[i]], by simp [prs, hi], ?_⟩
          simp? only [atI_k hix])
        clear e
        have g1 : Hd.lst (h ++ setL j (prs ys) oo ++ [O.lst (prs ds)]) (h.length + j) = some (prs ys) := lst_old hs2
        have g0 : Hd.lst (h ++ setL j (prs ys) oo ++ [O.lst (prs ds)]) (h.length + oo.length) = some (prs ds) := by
          have := lst_new (h := h ++ setL j (prs ys) oo) (xs := prs ds)
          simpa [set_len] using this
        have hys := nds_len ys
        simp? only [g1, g0, show (prs ys).length + (prs ds).length ≤ 1000 by rw [prs_len, prs_len]; omega, set_len]
        have eH : h ++ setL j (prs ys) oo ++ [O.lst (prs ds)] ++ [O.lst (prs ys ++ prs ds)] = h ++ (setL j (prs ys) oo ++ [O.lst (prs ds)] ++ [O.lst (prs (ys ++ ds))]) := by
          simp [prs_app]
        rw [eH]
        refine ⟨_, ?_, _, _, _, ys ++ ds, oo.length + 1, by rw [Nat.add_assoc], ⟨_, rfl, ?_⟩, by rw [pls_app, hy.2]; exact hy.1, rfl, ?_⟩
        · rw [nds_app]; omega
        · have := lst_new (h := setL j (prs ys) oo ++ [O.lst (prs ds)]) (xs := prs (ys ++ ds))
          simpa [set_len] using this
        · rw [nds_app]; omega
      | fl _ => simp [pl] at hy
      | ref _ => simp [pl] at hy
  clear e
  simp? only [Ev.y_map_not]
/-! ### prices and their first fault -/
def okP : D → Bool
  | .int i => decide (-1000000 ≤ i) && decide (i ≤ 1000000)
  | _ => false
def rowB (b : Nat) : D → Bool
  | .tup xs => decide (xs.length = b)
  | _ => false
def good : D → Bool
  | .tup xs => xs.all okP
  | _ => true
def fb : Nat → List D → Option Nat
  | _, [] => none
  | i, r :: rs => if good r = true then fb (i + 1) rs else some i
def toI : Option Nat → Option Int
  | none => none
  | some i => some (Int.ofNat i)
def flt (a b : Nat) : D → Option Int
  | .tup rs => if decide (rs.length = a) = true ∧ rs.all (rowB b) = true then toI (fb 0 rs) else some (-1)
  | _ => some (-1)
theorem flt_t {b : Nat} {rs : List D} : flt rs.length b (.tup rs) = if rs.all (rowB b) = true then toI (fb 0 rs) else some (-1) := by
  simp only [flt, decide_true, true_and]
def fltD : Option Int → D
  | none => .non
  | some i => .int i
def enBad : D → Option Nat
  | .tup [.int i, r] => if good r = true then none else some i.toNat
  | _ => none
theorem en_fb : ∀ (i : Nat) (rs : List D), (enumL i rs).findSome? enBad = fb i rs
  | i, [] => rfl
  | i, r :: rs => by
    have ih := en_fb (i + 1) rs
    simp only [enumL, List.findSome?_cons, enBad, fb]
    by_cases c : good r = true
    · rw [if_pos c, if_pos c]
      exact ih
    · rw [if_neg c, if_neg c]
      simp
def rgBad (rs : List D) : D → Option Nat
  | .int i => match rs[i.toNat]? with
    | some r => if good r = true then none else some i.toNat
    | none => none
  | _ => none
theorem rg_fb {rs : List D} : ∀ (pre suf : List D), rs = pre ++ suf → ((List.range' pre.length suf.length).map fun i => D.int (i : Nat)).findSome? (rgBad rs) = fb pre.length suf
  | pre, [], _ => rfl
  | pre, r :: suf, e => by
    have ih := rg_fb (rs := rs) (pre ++ [r]) suf (by simp [e])
    rw [List.length_append] at ih
    have er : rs[pre.length]? = some r := by simp [e]
    rw [List.length_cons, List.range'_succ, List.map_cons, List.findSome?_cons, fb]
    simp only [rgBad, Int.toNat_natCast, er]
    by_cases c : good r = true
    · rw [if_pos c, if_pos c]
      exact ih
    · rw [if_neg c, if_neg c]
theorem fault_rng {rs : List D} : (rangeD 0 rs.length).findSome? (rgBad rs) = fb 0 rs := by
  have : ((List.range' 0 rs.length).map fun i => D.int (i : Nat)).findSome? (rgBad rs) = fb 0 rs := rg_fb (rs := rs) [] rs rfl
  rw [← this]
  congr 1
  simp [rangeD, List.range_eq_range']
theorem fb_lt : ∀ {i : Nat} {rs : List D} {j : Nat}, fb i rs = some j → i ≤ j
  | i, [], j, e => by cases e
  | i, r :: rs, j, e => by
    unfold fb at e
    split at e
    · have := fb_lt e; omega
    · cases e; omega
theorem all_findU {α : Type} {q : α → Bool} {xs : List α} : xs.findSome? (fun x => if q x = true then none else some ()) = if xs.all q = true then none else some () := by
  induction xs with
  | nil => rfl
  | cons x xs ih =>
    rw [List.findSome?_cons, List.all_cons]
    by_cases c : q x = true
    · rw [if_pos c, c, Bool.true_and]; exact ih
    · rw [if_neg c, (by simpa using c : q x = false), Bool.false_and]; rfl
theorem lfault_ok {a b : Nat} {d : D} (hd : below h.length d = true) (ha : a ≤ 1000) : callF G prog.T F (k + 1) "_law_fault" [.int a, .int b, d] h = .ok (fltD (flt a b d)) h := by
  rw [call_eq (fn := f_law_fault) rfl rfl]
  generalize callF G prog.T F k = C
  cases d with
  | tup rs =>
    have hd' : belows h.length rs = true := hd
    by_cases c1 : rs.length = a
    · subst c1
      simp? only [f_law_fault, show (((rs.length : Nat) : Int) == ((rs.length : Nat) : Int)) = true from beq_self_eq_true _, loopS_L]
      generalize e : loopL _ _ _ _ = w
      have l1 := loopL_find (h := h) (P := fun (_ : Unit) r => r = .ret (.int (-1)) h) (fun ds v r e => stop_ret e) (St := fun s => ∃ o, s = [some (.int (rs.length : Nat)), some (.int b), some (.tup rs), o, none, none]) (bad := fun d => if rowB b d = true then none else some ()) (xs := rs) (s := [some (.int (rs.length : Nat)), some (.int b), some (.tup rs), none, none, none]) (g := turnS G C F (T.v 3)
            [S.if_ (E.or_ [((E.var 3).isi Ty.tuple).not_, E.cmp CmpOp.NotEq (E.bif Bif.len [E.var 3]) (E.var 1)])
                [S.ret (E.bin Operator.Sub (E.int 0) (E.int 1))] []]) ?_ ⟨_, rfl⟩
      · subst e
        rw [all_findU] at l1
        rw [flt_t]
        cases c2 : rs.all (rowB b) with
        | false =>
          rw [c2] at l1
          have l2 : loopL _ rs _ h = .ret (.int (-1)) h := l1
          rw [l2]
          simp? only [Ev.y_map_not]
          rfl
        | true =>
          rw [c2] at l1
          obtain ⟨s', l2, o, rfl⟩ : ∃ s', loopL _ rs _ h = .nx s' h ∧ ∃ o, s' = [some (.int (rs.length : Nat)), some (.int b), some (.tup rs), o, none, none] := l1
          rw [l2]
          simp? only [small_k (n := rs.length) (by omega), loopS_L, rangeD_len]
          have m1 := loopL_find (h := h) (P := fun (i : Nat) r => r = .ret (.int i) h) (fun ds v r e => stop_ret e) (St := fun s => ∃ o p q, s = [some (.int (rs.length : Nat)), some (.int b), some (.tup rs), o, p, q]) (bad := rgBad rs) (xs := rangeD 0 rs.length) (s := [some (.int (rs.length : Nat)), some (.int b), some (.tup rs), o, none, none]) (g := turnS G C F (T.v 4)
            [S.for_ (T.v 5) ((E.var 2).ix (E.var 4)) [S.if_ (E.or_ [(E.var 5).isi Ty.bool, ((E.var 5).isi Ty.int).not_, E.cmp CmpOp.Gt (E.bif Bif.abs [E.var 5]) (E.bin Operator.Pow (E.int 10) (E.int 6))])
                [S.ret (E.var 4)] []]]) ?_ ⟨_, _, _, rfl⟩
          · rw [fault_rng] at m1
            cases c3 : fb 0 rs with
            | none =>
              rw [c3] at m1
              obtain ⟨s', l2, o, p, q, rfl⟩ : ∃ s', loopL _ (rangeD 0 rs.length) _ h = .nx s' h ∧ ∃ o p q, s' = [some (.int (rs.length : Nat)), some (.int b), some (.tup rs), o, p, q] := m1
              rw [l2]
              simp? only [Ev.y_map_not]
              rfl
            | some i =>
              rw [c3] at m1
              have l2 : loopL _ (rangeD 0 rs.length) _ h = .ret (.int i) h := m1
              rw [l2]
              simp? only [Ev.y_map_not]
              rfl
          · intro d hm s hs
            obtain ⟨o, p, q, rfl⟩ := hs
            obtain ⟨i, hi⟩ := List.mem_iff_getElem?.mp hm
            obtain ⟨hi2, rfl⟩ := rangeD_at hi
            rw [Int.zero_add]
            have er : rs[i]? = some rs[i] := List.getElem?_eq_getElem hi2
            have rb := List.all_eq_true.mp c2 _ (List.getElem_mem hi2)
            have bd := belows_mem hd' _ (List.getElem_mem hi2)
            simp only [rgBad, Int.toNat_natCast, er]
            generalize rs[i] = r at er rb bd
            cases r with
            | tup xs =>
              have bd' : belows h.length xs = true := bd
              simp? only [atI_k er, loopS_L]
              have n1 := loopL_find (h := h) (P := fun (_ : Unit) r => r = .ret (.int i) h) (fun ds v r e => stop_ret e) (St := fun s => ∃ q, s = [some (.int (rs.length : Nat)), some (.int b), some (.tup rs), o, some (.int i), q]) (bad := fun d => if okP d = true then none else some ()) (xs := xs) (s := [some (.int (rs.length : Nat)), some (.int b), some (.tup rs), o, some (.int i), q]) (g := turnS G C F (T.v 5) [S.if_ (E.or_ [(E.var 5).isi Ty.bool, ((E.var 5).isi Ty.int).not_, E.cmp CmpOp.Gt (E.bif Bif.abs [E.var 5]) (E.bin Operator.Pow (E.int 10) (E.int 6))])
                [S.ret (E.var 4)] []]) ?_ ⟨_, rfl⟩
              · rw [all_findU] at n1
                rw [show good (.tup xs) = xs.all okP from rfl]
                cases c4 : xs.all okP with
                | false =>
                  rw [c4] at n1
                  have l2 : loopL _ xs _ h = .ret (.int i) h := n1
                  rw [l2]
                  simp? only [Ev.y_map_not]
                | true =>
                  rw [c4] at n1
                  obtain ⟨s', l2, q, rfl⟩ : ∃ s', loopL _ xs _ h = .nx s' h ∧ ∃ q, s' = [some (.int (rs.length : Nat)), some (.int b), some (.tup rs), o, some (.int i), q] := n1
                  rw [l2]
                  simp? only [Ev.y_map_not]
                  exact ⟨_, .inl rfl, _, _, _, rfl⟩
              · intro d hm s hs
                obtain ⟨q, rfl⟩ := hs
                have be := belows_mem bd' d hm
                cases d with
                | int x =>
                  by_cases c5 : -1000000 ≤ x ∧ x ≤ 1000000
                  · have c6 : decide ((10 : Int) ^ Int.toNat 6 < if x < 0 then -x else x) = false := by
                      rw [show (10 : Int) ^ Int.toNat 6 = 1000000 from rfl]
                      exact decide_eq_false (by split <;> omega)
                    simp only [okP, decide_eq_true c5.1, decide_eq_true c5.2]
                    simp? only [c6]
                    exact ⟨_, .inl rfl, _, rfl⟩
                  · have c6 : decide ((10 : Int) ^ Int.toNat 6 < if x < 0 then -x else x) = true := by
                      rw [show (10 : Int) ^ Int.toNat 6 = 1000000 from rfl]
                      exact decide_eq_true (by split <;> omega)
                    have c7 : okP (.int x) = false := by
                      simp only [okP, Bool.and_eq_false_iff, decide_eq_false_iff_not]
                      omega
                    simp only [c7]
                    simp? only [c6]
                | _ =>
                  simp only [okP]
                  simp? only [ty_b be, ty_i be, isB, isI]
            | _ => simp [rowB] at rb
      · intro d hm s hs
        obtain ⟨o, rfl⟩ := hs
        have bd := belows_mem hd' d hm
        cases d with
        | tup xs =>
          by_cases c2 : xs.length = b
          · subst c2
            simp only [rowB, decide_true, if_true]
            simp? only [show (((xs.length : Nat) : Int) == ((xs.length : Nat) : Int)) = true from beq_self_eq_true _]
            exact ⟨_, .inl rfl, _, rfl⟩
          · have c3 : (((xs.length : Nat) : Int) == (b : Nat)) = false := by simp; omega
            simp only [rowB, decide_eq_false c2]
            simp? only [c3]
        | _ =>
          simp only [rowB]
          simp? only [ty_t bd, isT]
    · have c : ((rs.length : Int) == (a : Int)) = false := by simp; omega
      simp? only [f_law_fault, c, flt, decide_eq_false c1]
      rfl
  | _ =>
    simp? only [f_law_fault, ty_t hd, isT]
    rfl
end
end K26

set_option Elab.async false
set_option linter.all false
set_option maxRecDepth 100000
namespace K26
open PySem PySem.Spec PyProof.Rows L2 Ev
local macro_rules | `(tactic| simp? only [$xs,*]) => `(tactic| simp -implicitDefEqProofs only [Int.reduceSub, Int.reduceAdd, Int.reduceNeg, lst_new1, lst_new2, List.flatten_replicate_singleton, List.length_map, Nat.one_mul, Nat.mul_one, List.length_append, List.length_replicate, trunc_nil, trunc_new, RSat_nx, RSat_ct, RSat_bk, RSat_ret, Ends_nx, Ends_ret, lst_new, lst_0, setL_0, set_new, bind_ok', thn_ok, seq_nx, seq_ret, seq_bk, seq_ct, eqD_int, eqD_bl, Rv_some, Rb_some, truth_bl, truth_int, bifD_len, bifD_abs, bifD_int, bifD_intb, bifD_min, bifD_max, sqD_tup, sqD_len, sqD_list, sqD_sumr, sqD_sum', isL_ref, putT_v, putT_t, putTs_nil, putTs_cons, new_eq, itD_tup, itD_fl, rng1_int, rng2_int, quiet_ok, fin_ret, fin_nx, startD_eq, List.set_cons_zero, List.set_cons_succ, List.map_cons, List.map_nil, List.replicate_succ, List.replicate_zero, List.cons_append, List.nil_append, List.length_cons, List.length_nil, Option.bind_some, Option.isSome_some, Option.map_some, if_true, if_false, Bool.false_eq_true, atI_0, ite_true, ite_false, Nat.reduceAdd, Nat.reduceSub, Nat.zero_add, trunc_set0, trunc_set, trunc_id, trunc_same, belows_ints, below_int, below_bl, below_non, below_str, below_tup, belows_nil, belows_cons, Tot_ok, Bool.and_true, Bool.true_and, len_fx, len_lc, rangeD_len, wipeD_nil, wipeD_cons, eqD_str, Nat.reduceLeDiff, Int.zero_add, Int.sub_zero, Int.toNat_natCast, Int.natAbs_natCast, Int.reduceNe, Int.reduceEq, Int.reduceLT, Int.reduceLE, ne_eq, not_false_eq_true, Bool.not_true, Bool.or_false, Bool.false_or, Bool.false_and, Bool.and_false, decide_true, decide_false, beq_self_eq_true, Bool.not_not, Bool.not_false, List.lookup_cons, String.reduceBEq, y_getV_0, y_getV_s, y_v_var, y_v_int, y_v_bl, y_v_non, y_v_str, y_v_glob, y_v_bin, y_v_neg, y_v_cmp, y_v_chain, y_v_and, y_v_or, y_t_and, y_t_or, y_v_not, y_t_not, y_v_ite, y_v_tup, y_v_lst, y_v_ix, y_v_sl, y_p_hole, y_v_call, y_v_bif, y_v_seq, y_v_isi, y_v_pop, y_v_popAt, y_v_app, y_v_comp, y_q_comp, y_i_rng1, y_i_rng2, y_i_rng3, y_i_enum, y_i_zip, y_v_callk, y_v_rgs, y_v_rgs2, y_kwK_ok, y_kwD_ok, y_perm_n, y_perm_c, y_getD_0, y_getD_s, y_rgsT, y_rgsF, y_en_tup, y_en_ref, y_enK_s, y_sl_tup, y_sl_fl, y_sl_ref, y_slO_s, y_bool_b, y_bool_i, y_v_rev, y_v_ext, y_extK_ok, y_ext_ref, y_extO_s, y_str_i, y_rev_tup, y_rng3_int, y_zip_tup, y_mul_T, y_s_raise, y_raiseK_ok, y_raise_1, y_raise_2, y_bind_err, y_thn_err, y_seq_err, y_fin_err, y_s_try, y_try_nx, y_try_ret, y_try_bk, y_try_ct, y_try_err, y_tryK_t, y_tryK_f, y_hs_nil, y_hs_ret, y_hs_ifr, y_hsR_s, y_hsI_t, y_hsI_f, y_hr_a, y_hr_t, y_hrT_s, y_ha_str, y_ha_int, y_ha_non, y_ha_bl, y_ha_fld, y_ha_ite, y_haI_t, y_haI_f, y_hal_n, y_hal_c, y_halC_s, y_hq_isx, y_hq_not, y_hq_and, y_hqs_n, y_hqs_c, y_hqB_t, y_hqB_f, y_t_var, y_q_var, y_i_var, y_p_var, y_t_int, y_p_int, y_t_bl, y_t_glob, y_q_glob, y_i_glob, y_p_glob, y_t_bin, y_q_bin, y_i_bin, y_p_bin, y_p_neg, y_t_cmp, y_t_chain, y_t_ite, y_q_ite, y_i_ite, y_p_ite, y_t_tup, y_q_tup, y_i_tup, y_t_lst, y_q_lst, y_i_lst, y_t_ix, y_q_ix, y_i_ix, y_p_ix, y_t_sl, y_q_sl, y_i_sl, y_t_call, y_q_call, y_i_call, y_p_call, y_t_callk, y_q_callk, y_i_callk, y_t_rgs, y_q_rgs, y_i_rgs, y_t_bif, y_q_bif, y_i_bif, y_p_bif, y_t_seq, y_q_seq, y_i_seq, y_t_isi, y_t_pop, y_q_pop, y_i_pop, y_t_popAt, y_t_rev, y_q_rev, y_i_rev, y_i_comp, y_globK_s, y_kB_ok, y_kT_ok, y_negK_ok, y_cmpK_ok, y_chK1_ok, y_chK3_ok, y_chK2_t, y_chK2_f, y_andV_1, y_andV_2, y_orV_1, y_orV_2, y_andT_1, y_andT_2, y_orT_1, y_orT_2, y_andK_t, y_andK_f, y_orK_t, y_orK_f, y_andTK_t, y_andTK_f, y_orTK_t, y_orTK_f, y_notK_ok, y_notTK_ok, y_iteK_t, y_iteK_f, y_tupK_ok, y_lstK_ok, y_evMs_nil, y_evMs_cons, y_allV_n, y_allV_c, y_allK_ok, y_consK_ok, y_isiK_ok, y_popAtK_ok, y_appK_ok, y_slK1_ok, y_slK2_ok, y_compK_ok, y_compN_ok, y_truK_ok, y_seqK_tup, y_seqK_fl, y_seqK_ref, y_seqO_s, y_intK_ok, y_ifsT_n, y_ifsT_1, y_turnC_ok, y_turnP_s, y_turnK_t, y_turnK_f, y_turnK2_ok, y_s_nil, y_s_cons, y_s_expr, y_s_asg, y_s_setix, y_s_aug, y_s_if, y_s_for, y_s_while, y_s_ret, y_s_retn, y_s_brk, y_s_cont, y_s_pass, y_exprK_ok, y_putK_s, y_asgK_ok, y_setK1_ok, y_setK2_ok, y_setK3_ok, y_setK4_ok, y_augK1_ok, y_augK2_ok, y_augK3_ok, y_brK_t, y_brK_f, y_forK_ok, y_retK_ok, y_turnS_v, y_turnS_t, y_bin_Add, y_bin_AddT, y_bin_AddR, y_addO_s, y_bin_MultR2, y_mulO_s, y_bin_Sub, y_bin_Mult, y_bin_MultW, y_bin_MultR, y_bin_MultL, y_bin_Mod, y_bin_Div, y_bin_DivL, y_bin_PowL, y_bin_ShlL, y_bin_Pow, y_bin_Shl, y_bin_Shr, y_bin_And, y_bin_Or, y_bin_Xor, y_aug_Add, y_aug_Sub, y_cmp_Lt, y_cmp_LtE, y_cmp_Gt, y_cmp_GtE, y_cmp_Eq, y_cmp_NotEq, y_cmp_Is, y_cmp_IsNot, y_isNon_non, y_isNon_int, y_isNon_bl, y_isNon_tup, y_isNon_ref, y_isNon_str, y_ty_bool_non, y_ty_bool_bl, y_ty_bool_int, y_ty_bool_str, y_ty_bool_tup, y_ty_bool_fl, y_ty_bool_ref, y_ty_int_non, y_ty_int_bl, y_ty_int_int, y_ty_int_str, y_ty_int_tup, y_ty_int_fl, y_ty_int_ref, y_ty_str_non, y_ty_str_bl, y_ty_str_int, y_ty_str_str, y_ty_str_tup, y_ty_str_fl, y_ty_str_ref, y_ty_list_non, y_ty_list_bl, y_ty_list_int, y_ty_list_str, y_ty_list_tup, y_ty_list_fl, y_ty_list_ref, y_ty_tuple_non, y_ty_tuple_bl, y_ty_tuple_int, y_ty_tuple_str, y_ty_tuple_tup, y_ty_tuple_fl, y_ty_tuple_ref, y_at_s, y_ix_tup, y_ix_fl, y_ix_ref, y_ixK_s, y_len_tup, y_len_fl, y_len_ref, y_lenK_s, y_it_ref, y_itK_s, y_at_1, y_at_2, y_tyK_s, y_map_not, $xs,*])
section
variable {G : Str → Option D} {F k : Nat} {h h0 : Hd} {p : Nat} {m n : Int} {is : List Int}
theorem within_ok {d : D} (hd : below h.length d = true) : callF G prog.T F (k + 2) "integer_within" [d, .int (-1000000), .int 1000000] h = .ok (.bl (okP d)) h := by
  rw [call_eq (fn := f_integer_within) rfl rfl]
  have hi : callF G prog.T F (k + 1) "is_integer" [d] h = .ok (.bl (isI d && !isB d)) h := by
    rw [call_eq (fn := f_is_integer) rfl rfl]
    generalize callF G prog.T F k = C
    cases e1 : isI d <;> cases e2 : isB d <;> simp? only [f_is_integer, ty_i hd, ty_b hd, e1, e2]
  generalize callF G prog.T F (k + 1) = C at hi
  cases d with
  | int i =>
    by_cases c1 : -1000000 ≤ i
    · by_cases c2 : i ≤ 1000000
      · simp? only [f_integer_within, hi, isI, isB, decide_eq_true c1, decide_eq_true c2, okP]
      · simp? only [f_integer_within, hi, isI, isB, decide_eq_true c1, decide_eq_false c2, okP]
    · simp? only [f_integer_within, hi, isI, isB, decide_eq_false c1, okP]
  | _ => simp? only [f_integer_within, hi, isI, isB, okP]
theorem tupof_ok {d : D} {b : Nat} (hd : below h.length d = true) : callF G prog.T F (k + 1) "tuple_of" [d, .int b] h = .ok (.bl (rowB b d)) h := by
  rw [call_eq (fn := f_tuple_of) rfl rfl]
  generalize callF G prog.T F k = C
  cases d with
  | tup xs =>
    have c : (((xs.length : Nat) : Int) == ((b : Nat) : Int)) = rowB b (.tup xs) := by
      by_cases q : xs.length = b
      · simp [rowB, q]
      · simp only [rowB, decide_eq_false q]
        simp; omega
    simp? only [f_tuple_of, c]
  | _ => simp? only [f_tuple_of, ty_t hd, isT, rowB]
theorem enumL_mem {rs : List D} {x : D} : ∀ {i : Nat}, x ∈ enumL i rs → ∃ j r, x = .tup [.int (j : Nat), r] ∧ r ∈ rs := by
  induction rs with
  | nil => intro i h; cases h
  | cons r rs ih =>
    intro i h
    rcases List.mem_cons.mp h with rfl | h
    · exact ⟨i, r, rfl, List.mem_cons_self⟩
    · obtain ⟨j, r', e, hm⟩ := ih h
      exact ⟨j, r', e, List.mem_cons_of_mem _ hm⟩
theorem check_ok {a b : Nat} {f : Nat → Nat → Int} {d : D} (hd : below h.length d = true) (ha0 : 0 < a) (ha : a ≤ 12) (hb : b ≤ 12) (hG : G "PRICE_MOST" = some (.int 1000000))
    (hl : ∀ rs, d = .tup rs → rs.length ≤ 1000 ∧ ∀ xs, .tup xs ∈ rs → xs.length ≤ 1000) : callF G prog.T F (k + 3) "check_prices" [wv a b f, d] h = match flt a b d with
      | none => .ok (.int ((a : Int) * b)) h
      | some i => .err ⟨"BadPrices", [("at", .int i)]⟩ h := by
  rw [call_eq (fn := f_check_prices) rfl rfl]
  have tof := fun {d : D} {b : Nat} (hd : below h.length d = true) => tupof_ok (G := G) (F := F) (k := k + 1) (b := b) hd
  have wi := fun {d : D} (hd : below h.length d = true) => within_ok (G := G) (F := F) (k := k) hd
  have i0 : ixD (wv a b f) (.int 0) h = .ok (rowD b (f 0)) h := ix_wv ha0
  generalize callF G prog.T F (k + 2) = C at tof wi
  by_cases c1 : rowB a d = true
  · cases d with
    | tup rs =>
      have hd' : belows h.length rs = true := hd
      obtain rfl : rs.length = a := by simpa [rowB] using c1
      obtain ⟨z1, z2⟩ := hl rs rfl
      simp? only [f_check_prices, len_wv, tof hd, c1]
      generalize e : loopC _ _ _ _ _ _ = w
      obtain rfl := loopC_map e rfl z1 (fun d => .bl (rowB b d)) (fun x hx => by simp? only [i0, len_rowD, tof (belows_mem hd' x hx)])
      clear e
      simp? only [sqD_all]
      rw [flt_t]
      cases c2 : rs.all (rowB b) with
      | false =>
        simp? only [Ev.y_map_not]
      | true =>
        simp? only [loopS_L]
        have m1 := loopL_find (h := h) (P := fun (i : Nat) r => ∃ s, r = .err ⟨"BadPrices", [("at", .int i)]⟩ s h) (fun ds v r e => stop_err e) (St := fun s => ∃ o p q, s = [some (wv rs.length b f), some (.tup rs), o, p, q]) (bad := enBad) (xs := enumL 0 rs) (s := [some (wv rs.length b f), some (.tup rs), none, none, none]) (g := turnS G C F (T.t [T.v 2, T.v 3])
            [S.if_ (.not_ (.seq .all (.comp (.call "integer_within" [.var 4, .neg (.glob "PRICE_MOST"), .glob "PRICE_MOST"]) (.v 4) (.var 3) [] [4]))) [.raise_ "BadPrices" ["at"] [.var 2]] []]) ?_ ⟨_, _, _, rfl⟩
        · rw [en_fb] at m1
          cases c3 : fb 0 rs with
          | none =>
            rw [c3] at m1
            obtain ⟨s', l2, o, p, q, rfl⟩ : ∃ s', loopL _ (enumL 0 rs) _ h = .nx s' h ∧ ∃ o p q, s' = [some (wv rs.length b f), some (.tup rs), o, p, q] := m1
            rw [l2]
            simp? only [len_wv, i0, len_rowD, cmul_l (i := (rs.length : Int)) (j := (b : Int)) (by omega) (by omega), toI]
          | some i =>
            rw [c3] at m1
            obtain ⟨s', l2⟩ : ∃ s', loopL _ (enumL 0 rs) _ h = .err ⟨"BadPrices", [("at", .int i)]⟩ s' h := m1
            rw [l2]
            simp? only [toI]
            rfl
        · intro d hm s hs
          obtain ⟨o, p, q, rfl⟩ := hs
          obtain ⟨j, r, rfl, hr⟩ := enumL_mem hm
          have bd := belows_mem hd' _ hr
          have rb := List.all_eq_true.mp c2 _ hr
          cases r with
          | tup xs =>
            have bd' : belows h.length xs = true := bd
            simp only [enBad, Int.toNat_natCast]
            rw [show good (.tup xs) = xs.all okP from rfl]
            simp? only [Ev.y_map_not]
            generalize e : loopC _ _ _ _ _ _ = w
            obtain rfl := loopC_map e rfl (z2 xs hr) (fun d => .bl (okP d)) (fun x hx => by simp? only [hG, wi (belows_mem bd' x hx)])
            clear e
            simp? only [sqD_all]
            cases c4 : xs.all okP with
            | false =>
              simp? only [Ev.y_map_not]
              exact ⟨_, rfl⟩
            | true =>
              simp? only [Ev.y_map_not]
              exact ⟨_, .inl rfl, _, _, _, rfl⟩
          | _ => simp [rowB] at rb
    | _ => simp [rowB] at c1
  · have c1' : rowB a d = false := by simpa using c1
    have e : flt a b d = some (-1) := by
      cases d with
      | tup rs =>
        simp only [rowB] at c1'
        simp [flt, c1']
      | _ => rfl
    rw [e]
    simp? only [f_check_prices, len_wv, tof hd, c1']
def heardD (a b : Nat) (d : D) : D := match flt a b d with
  | none => .tup [.str "told", .int ((a : Int) * b)]
  | some i => .tup [.str "raised", .int i]
theorem refusal_ok {a b : Nat} {f : Nat → Nat → Int} {d : D} (hd : below h.length d = true) (ha0 : 0 < a) (ha : a ≤ 12) (hb : b ≤ 12) (hG : G "PRICE_MOST" = some (.int 1000000))
    (hl : ∀ rs, d = .tup rs → rs.length ≤ 1000 ∧ ∀ xs, .tup xs ∈ rs → xs.length ≤ 1000) : callF G prog.T F (k + 4) "_law_refusal" [wv a b f, d] h = .ok (heardD a b d) h := by
  rw [call_eq (fn := f_law_refusal) rfl rfl]
  have ch := check_ok (F := F) (k := k) (f := f) hd ha0 ha hb hG hl
  generalize callF G prog.T F (k + 3) = C at ch
  unfold heardD
  cases e : flt a b d with
  | none =>
    rw [e] at ch
    simp? only [f_law_refusal, show C "check_prices" [wv a b f, d] h = .ok (.int ((a : Int) * b)) h from ch]
  | some i =>
    rw [e] at ch
    simp? only [f_law_refusal, show C "check_prices" [wv a b f, d] h = .err ⟨"BadPrices", [("at", .int i)]⟩ h from ch]
theorem so1 : PyData.strOk (Str.ofString "raised") = true := by decide +kernel
theorem so2 : PyData.strOk (Str.ofString "told") = true := by decide +kernel
theorem heard_pl {a b : Nat} {d : D} : pl (heardD a b d) = true ∧ nd (heardD a b d) ≤ 10 := by
  unfold heardD
  split
  · exact ⟨by simp only [pl, pls, so2, Bool.and_true], by simp [nd, nds]⟩
  · exact ⟨by simp only [pl, pls, so1, Bool.and_true], by simp [nd, nds]⟩
end
end K26

set_option Elab.async false
set_option linter.all false
set_option maxRecDepth 100000
namespace K26
open PySem PySem.Spec PyProof.Rows L2 Ev
local macro_rules | `(tactic| simp? only [$xs,*]) => `(tactic| simp -implicitDefEqProofs only [Int.reduceSub, Int.reduceAdd, Int.reduceNeg, lst_new1, lst_new2, List.flatten_replicate_singleton, List.length_map, Nat.one_mul, Nat.mul_one, List.length_append, List.length_replicate, trunc_nil, trunc_new, RSat_nx, RSat_ct, RSat_bk, RSat_ret, Ends_nx, Ends_ret, lst_new, lst_0, setL_0, set_new, bind_ok', thn_ok, seq_nx, seq_ret, seq_bk, seq_ct, eqD_int, eqD_bl, Rv_some, Rb_some, truth_bl, truth_int, bifD_len, bifD_abs, bifD_int, bifD_intb, bifD_min, bifD_max, sqD_tup, sqD_len, sqD_list, sqD_sumr, sqD_sum', isL_ref, putT_v, putT_t, putTs_nil, putTs_cons, new_eq, itD_tup, itD_fl, rng1_int, rng2_int, quiet_ok, fin_ret, fin_nx, startD_eq, List.set_cons_zero, List.set_cons_succ, List.map_cons, List.map_nil, List.replicate_succ, List.replicate_zero, List.cons_append, List.nil_append, List.length_cons, List.length_nil, Option.bind_some, Option.isSome_some, Option.map_some, if_true, if_false, Bool.false_eq_true, atI_0, ite_true, ite_false, Nat.reduceAdd, Nat.reduceSub, Nat.zero_add, trunc_set0, trunc_set, trunc_id, trunc_same, belows_ints, below_int, below_bl, below_non, below_str, below_tup, belows_nil, belows_cons, Tot_ok, Bool.and_true, Bool.true_and, len_fx, len_lc, rangeD_len, wipeD_nil, wipeD_cons, eqD_str, Nat.reduceLeDiff, Int.zero_add, Int.sub_zero, Int.toNat_natCast, Int.natAbs_natCast, Int.reduceNe, Int.reduceEq, Int.reduceLT, Int.reduceLE, ne_eq, not_false_eq_true, Bool.not_true, Bool.or_false, Bool.false_or, Bool.false_and, Bool.and_false, decide_true, decide_false, beq_self_eq_true, Bool.not_not, Bool.not_false, List.lookup_cons, String.reduceBEq, y_getV_0, y_getV_s, y_v_var, y_v_int, y_v_bl, y_v_non, y_v_str, y_v_glob, y_v_bin, y_v_neg, y_v_cmp, y_v_chain, y_v_and, y_v_or, y_t_and, y_t_or, y_v_not, y_t_not, y_v_ite, y_v_tup, y_v_lst, y_v_ix, y_v_sl, y_p_hole, y_v_call, y_v_bif, y_v_seq, y_v_isi, y_v_pop, y_v_popAt, y_v_app, y_v_comp, y_q_comp, y_i_rng1, y_i_rng2, y_i_rng3, y_i_enum, y_i_zip, y_v_callk, y_v_rgs, y_v_rgs2, y_kwK_ok, y_kwD_ok, y_perm_n, y_perm_c, y_getD_0, y_getD_s, y_rgsT, y_rgsF, y_en_tup, y_en_ref, y_enK_s, y_sl_tup, y_sl_fl, y_sl_ref, y_slO_s, y_bool_b, y_bool_i, y_v_rev, y_v_ext, y_extK_ok, y_ext_ref, y_extO_s, y_str_i, y_rev_tup, y_rng3_int, y_zip_tup, y_mul_T, y_s_raise, y_raiseK_ok, y_raise_1, y_raise_2, y_bind_err, y_thn_err, y_seq_err, y_fin_err, y_s_try, y_try_nx, y_try_ret, y_try_bk, y_try_ct, y_try_err, y_tryK_t, y_tryK_f, y_hs_nil, y_hs_ret, y_hs_ifr, y_hsR_s, y_hsI_t, y_hsI_f, y_hr_a, y_hr_t, y_hrT_s, y_ha_str, y_ha_int, y_ha_non, y_ha_bl, y_ha_fld, y_ha_ite, y_haI_t, y_haI_f, y_hal_n, y_hal_c, y_halC_s, y_hq_isx, y_hq_not, y_hq_and, y_hqs_n, y_hqs_c, y_hqB_t, y_hqB_f, y_t_var, y_q_var, y_i_var, y_p_var, y_t_int, y_p_int, y_t_bl, y_t_glob, y_q_glob, y_i_glob, y_p_glob, y_t_bin, y_q_bin, y_i_bin, y_p_bin, y_p_neg, y_t_cmp, y_t_chain, y_t_ite, y_q_ite, y_i_ite, y_p_ite, y_t_tup, y_q_tup, y_i_tup, y_t_lst, y_q_lst, y_i_lst, y_t_ix, y_q_ix, y_i_ix, y_p_ix, y_t_sl, y_q_sl, y_i_sl, y_t_call, y_q_call, y_i_call, y_p_call, y_t_callk, y_q_callk, y_i_callk, y_t_rgs, y_q_rgs, y_i_rgs, y_t_bif, y_q_bif, y_i_bif, y_p_bif, y_t_seq, y_q_seq, y_i_seq, y_t_isi, y_t_pop, y_q_pop, y_i_pop, y_t_popAt, y_t_rev, y_q_rev, y_i_rev, y_i_comp, y_globK_s, y_kB_ok, y_kT_ok, y_negK_ok, y_cmpK_ok, y_chK1_ok, y_chK3_ok, y_chK2_t, y_chK2_f, y_andV_1, y_andV_2, y_orV_1, y_orV_2, y_andT_1, y_andT_2, y_orT_1, y_orT_2, y_andK_t, y_andK_f, y_orK_t, y_orK_f, y_andTK_t, y_andTK_f, y_orTK_t, y_orTK_f, y_notK_ok, y_notTK_ok, y_iteK_t, y_iteK_f, y_tupK_ok, y_lstK_ok, y_evMs_nil, y_evMs_cons, y_allV_n, y_allV_c, y_allK_ok, y_consK_ok, y_isiK_ok, y_popAtK_ok, y_appK_ok, y_slK1_ok, y_slK2_ok, y_compK_ok, y_compN_ok, y_truK_ok, y_seqK_tup, y_seqK_fl, y_seqK_ref, y_seqO_s, y_intK_ok, y_ifsT_n, y_ifsT_1, y_turnC_ok, y_turnP_s, y_turnK_t, y_turnK_f, y_turnK2_ok, y_s_nil, y_s_cons, y_s_expr, y_s_asg, y_s_setix, y_s_aug, y_s_if, y_s_for, y_s_while, y_s_ret, y_s_retn, y_s_brk, y_s_cont, y_s_pass, y_exprK_ok, y_putK_s, y_asgK_ok, y_setK1_ok, y_setK2_ok, y_setK3_ok, y_setK4_ok, y_augK1_ok, y_augK2_ok, y_augK3_ok, y_brK_t, y_brK_f, y_forK_ok, y_retK_ok, y_turnS_v, y_turnS_t, y_bin_Add, y_bin_AddT, y_bin_AddR, y_addO_s, y_bin_MultR2, y_mulO_s, y_bin_Sub, y_bin_Mult, y_bin_MultW, y_bin_MultR, y_bin_MultL, y_bin_Mod, y_bin_Div, y_bin_DivL, y_bin_PowL, y_bin_ShlL, y_bin_Pow, y_bin_Shl, y_bin_Shr, y_bin_And, y_bin_Or, y_bin_Xor, y_aug_Add, y_aug_Sub, y_cmp_Lt, y_cmp_LtE, y_cmp_Gt, y_cmp_GtE, y_cmp_Eq, y_cmp_NotEq, y_cmp_Is, y_cmp_IsNot, y_isNon_non, y_isNon_int, y_isNon_bl, y_isNon_tup, y_isNon_ref, y_isNon_str, y_ty_bool_non, y_ty_bool_bl, y_ty_bool_int, y_ty_bool_str, y_ty_bool_tup, y_ty_bool_fl, y_ty_bool_ref, y_ty_int_non, y_ty_int_bl, y_ty_int_int, y_ty_int_str, y_ty_int_tup, y_ty_int_fl, y_ty_int_ref, y_ty_str_non, y_ty_str_bl, y_ty_str_int, y_ty_str_str, y_ty_str_tup, y_ty_str_fl, y_ty_str_ref, y_ty_list_non, y_ty_list_bl, y_ty_list_int, y_ty_list_str, y_ty_list_tup, y_ty_list_fl, y_ty_list_ref, y_ty_tuple_non, y_ty_tuple_bl, y_ty_tuple_int, y_ty_tuple_str, y_ty_tuple_tup, y_ty_tuple_fl, y_ty_tuple_ref, y_at_s, y_ix_tup, y_ix_fl, y_ix_ref, y_ixK_s, y_len_tup, y_len_fl, y_len_ref, y_lenK_s, y_it_ref, y_itK_s, y_at_1, y_at_2, y_tyK_s, y_map_not, $xs,*])
section
variable {G : Str → Option D} {F k : Nat} {h h0 : Hd} {p : Nat} {m n : Int} {is : List Int}
def rcost (b : Nat) (g f : Nat → Int) : Int := ((List.range b).map fun j => g j * f j).sum
def cost (a b : Nat) (g f : Nat → Nat → Int) : Int := ((List.range a).map fun i => rcost b (g i) (f i)).sum
def Sm (e : Int) : Prop := -1000000000000 ≤ e ∧ e ≤ 1000000000000
theorem cost_ok {a b : Nat} {g f : Nat → Nat → Int} (ha : a ≤ 12) (hb : b ≤ 12) (hs : ∀ i j, i < a → j < b → Sm (f i j)) : callF G prog.T F (k + 1) "cost_of" [wv a b g, wv a b f] h = .ok (.int (cost a b g f)) h := by
  rw [call_eq (fn := f_cost_of) rfl rfl]
  generalize callF G prog.T F k = C
  simp? only [f_cost_of, zip_wv, List.length_range]
  generalize e : loopS _ _ _ _ _ _ = w
  obtain ⟨s', rfl, v3, v4, v5, v6, rfl⟩ := loopS_rmap e (fun i s => ∃ v3 v4 v5 v6 : Option D, s = [some (wv a b g), some (wv a b f), some (.int ((List.range i).map fun i => rcost b (g i) (f i)).sum), v3, v4, v5, v6]) (fun i s hi hs' => by
    obtain ⟨v3, v4, v5, v6, rfl⟩ := hs'
    simp? only [zip_row, List.length_range]
    generalize e : loopC _ _ _ _ _ _ = w
    obtain rfl := loopC_rmap (g := fun j => .int (g i j * f i j)) e (by omega) (fun j hj => by
      obtain ⟨h1, h2⟩ := hs i j hi hj
      simp? only [cmul_r (i := g i j) (j := f i j) (by omega) (by omega)])
    clear e
    simp? only [Ev.y_map_not]
    exact ⟨_, rfl, _, _, _, _, by rw [sumr_s]; rfl⟩) ⟨_, _, _, _, rfl⟩
  clear e
  simp? only [Ev.y_map_not]
  rfl
theorem rcost_if {b : Nat} {g f : Nat → Int} (hf : ∀ j, j < b → Bit (f j)) : ((List.range b).map fun j => if f j = 1 then g j else 0).sum = rcost b g f := by
  refine sumr_congr fun j hj => ?_
  obtain ⟨h1, h2⟩ := hf j hj
  by_cases c : f j = 1
  · rw [if_pos c, c, Int.mul_one]
  · rw [if_neg c, show f j = 0 by omega, Int.mul_zero]
theorem cost_twice {a b : Nat} {g f : Nat → Nat → Int} : cost a b (fun i j => g i j * 2) f = 2 * cost a b g f := by
  unfold cost rcost
  rw [← sumr_mul]
  refine sumr_congr fun i _ => ?_
  rw [← sumr_mul]
  refine sumr_congr fun j _ => ?_
  dsimp only
  rw [Int.mul_comm (g i j) 2, Int.mul_assoc]
theorem cost_moved {a b s : Nat} {c : Int} {g f : Nat → Nat → Int} (hs : s < a) : cost a b (fun i j => if i = s then g i j + c else g i j) f - cost a b g f = c * ((List.range b).map fun j => f s j).sum := by
  have e : cost a b (fun i j => if i = s then g i j + c else g i j) f = cost a b g f + ((List.range a).map fun i => if i = s then c * ((List.range b).map fun j => f s j).sum else 0).sum := by
    unfold cost
    rw [← sumr_add]
    refine sumr_congr fun i _ => ?_
    by_cases q : i = s
    · subst q
      rw [if_pos rfl, ← sumr_mul]
      unfold rcost
      rw [← sumr_add]
      refine sumr_congr fun j _ => ?_
      dsimp only
      rw [if_pos rfl, Int.add_mul]
    · rw [if_neg q, Int.add_zero]
      unfold rcost
      refine sumr_congr fun j _ => ?_
      dsimp only
      rw [if_neg q]
  rw [e, sumr_one, if_pos hs]
  omega
end
end K26

set_option Elab.async false
set_option linter.all false
set_option maxRecDepth 100000
namespace K26
open PySem PySem.Spec PyProof.Rows L2 Ev
local macro_rules | `(tactic| simp? only [$xs,*]) => `(tactic| simp -implicitDefEqProofs only [Int.reduceSub, Int.reduceAdd, Int.reduceNeg, lst_new1, lst_new2, List.flatten_replicate_singleton, List.length_map, Nat.one_mul, Nat.mul_one, List.length_append, List.length_replicate, trunc_nil, trunc_new, RSat_nx, RSat_ct, RSat_bk, RSat_ret, Ends_nx, Ends_ret, lst_new, lst_0, setL_0, set_new, bind_ok', thn_ok, seq_nx, seq_ret, seq_bk, seq_ct, eqD_int, eqD_bl, Rv_some, Rb_some, truth_bl, truth_int, bifD_len, bifD_abs, bifD_int, bifD_intb, bifD_min, bifD_max, sqD_tup, sqD_len, sqD_list, sqD_sumr, sqD_sum', isL_ref, putT_v, putT_t, putTs_nil, putTs_cons, new_eq, itD_tup, itD_fl, rng1_int, rng2_int, quiet_ok, fin_ret, fin_nx, startD_eq, List.set_cons_zero, List.set_cons_succ, List.map_cons, List.map_nil, List.replicate_succ, List.replicate_zero, List.cons_append, List.nil_append, List.length_cons, List.length_nil, Option.bind_some, Option.isSome_some, Option.map_some, if_true, if_false, Bool.false_eq_true, atI_0, ite_true, ite_false, Nat.reduceAdd, Nat.reduceSub, Nat.zero_add, trunc_set0, trunc_set, trunc_id, trunc_same, belows_ints, below_int, below_bl, below_non, below_str, below_tup, belows_nil, belows_cons, Tot_ok, Bool.and_true, Bool.true_and, len_fx, len_lc, rangeD_len, wipeD_nil, wipeD_cons, eqD_str, Nat.reduceLeDiff, Int.zero_add, Int.sub_zero, Int.toNat_natCast, Int.natAbs_natCast, Int.reduceNe, Int.reduceEq, Int.reduceLT, Int.reduceLE, ne_eq, not_false_eq_true, Bool.not_true, Bool.or_false, Bool.false_or, Bool.false_and, Bool.and_false, decide_true, decide_false, beq_self_eq_true, Bool.not_not, Bool.not_false, List.lookup_cons, String.reduceBEq, y_getV_0, y_getV_s, y_v_var, y_v_int, y_v_bl, y_v_non, y_v_str, y_v_glob, y_v_bin, y_v_neg, y_v_cmp, y_v_chain, y_v_and, y_v_or, y_t_and, y_t_or, y_v_not, y_t_not, y_v_ite, y_v_tup, y_v_lst, y_v_ix, y_v_sl, y_p_hole, y_v_call, y_v_bif, y_v_seq, y_v_isi, y_v_pop, y_v_popAt, y_v_app, y_v_comp, y_q_comp, y_i_rng1, y_i_rng2, y_i_rng3, y_i_enum, y_i_zip, y_v_callk, y_v_rgs, y_v_rgs2, y_kwK_ok, y_kwD_ok, y_perm_n, y_perm_c, y_getD_0, y_getD_s, y_rgsT, y_rgsF, y_en_tup, y_en_ref, y_enK_s, y_sl_tup, y_sl_fl, y_sl_ref, y_slO_s, y_bool_b, y_bool_i, y_v_rev, y_v_ext, y_extK_ok, y_ext_ref, y_extO_s, y_str_i, y_rev_tup, y_rng3_int, y_zip_tup, y_mul_T, y_s_raise, y_raiseK_ok, y_raise_1, y_raise_2, y_bind_err, y_thn_err, y_seq_err, y_fin_err, y_s_try, y_try_nx, y_try_ret, y_try_bk, y_try_ct, y_try_err, y_tryK_t, y_tryK_f, y_hs_nil, y_hs_ret, y_hs_ifr, y_hsR_s, y_hsI_t, y_hsI_f, y_hr_a, y_hr_t, y_hrT_s, y_ha_str, y_ha_int, y_ha_non, y_ha_bl, y_ha_fld, y_ha_ite, y_haI_t, y_haI_f, y_hal_n, y_hal_c, y_halC_s, y_hq_isx, y_hq_not, y_hq_and, y_hqs_n, y_hqs_c, y_hqB_t, y_hqB_f, y_t_var, y_q_var, y_i_var, y_p_var, y_t_int, y_p_int, y_t_bl, y_t_glob, y_q_glob, y_i_glob, y_p_glob, y_t_bin, y_q_bin, y_i_bin, y_p_bin, y_p_neg, y_t_cmp, y_t_chain, y_t_ite, y_q_ite, y_i_ite, y_p_ite, y_t_tup, y_q_tup, y_i_tup, y_t_lst, y_q_lst, y_i_lst, y_t_ix, y_q_ix, y_i_ix, y_p_ix, y_t_sl, y_q_sl, y_i_sl, y_t_call, y_q_call, y_i_call, y_p_call, y_t_callk, y_q_callk, y_i_callk, y_t_rgs, y_q_rgs, y_i_rgs, y_t_bif, y_q_bif, y_i_bif, y_p_bif, y_t_seq, y_q_seq, y_i_seq, y_t_isi, y_t_pop, y_q_pop, y_i_pop, y_t_popAt, y_t_rev, y_q_rev, y_i_rev, y_i_comp, y_globK_s, y_kB_ok, y_kT_ok, y_negK_ok, y_cmpK_ok, y_chK1_ok, y_chK3_ok, y_chK2_t, y_chK2_f, y_andV_1, y_andV_2, y_orV_1, y_orV_2, y_andT_1, y_andT_2, y_orT_1, y_orT_2, y_andK_t, y_andK_f, y_orK_t, y_orK_f, y_andTK_t, y_andTK_f, y_orTK_t, y_orTK_f, y_notK_ok, y_notTK_ok, y_iteK_t, y_iteK_f, y_tupK_ok, y_lstK_ok, y_evMs_nil, y_evMs_cons, y_allV_n, y_allV_c, y_allK_ok, y_consK_ok, y_isiK_ok, y_popAtK_ok, y_appK_ok, y_slK1_ok, y_slK2_ok, y_compK_ok, y_compN_ok, y_truK_ok, y_seqK_tup, y_seqK_fl, y_seqK_ref, y_seqO_s, y_intK_ok, y_ifsT_n, y_ifsT_1, y_turnC_ok, y_turnP_s, y_turnK_t, y_turnK_f, y_turnK2_ok, y_s_nil, y_s_cons, y_s_expr, y_s_asg, y_s_setix, y_s_aug, y_s_if, y_s_for, y_s_while, y_s_ret, y_s_retn, y_s_brk, y_s_cont, y_s_pass, y_exprK_ok, y_putK_s, y_asgK_ok, y_setK1_ok, y_setK2_ok, y_setK3_ok, y_setK4_ok, y_augK1_ok, y_augK2_ok, y_augK3_ok, y_brK_t, y_brK_f, y_forK_ok, y_retK_ok, y_turnS_v, y_turnS_t, y_bin_Add, y_bin_AddT, y_bin_AddR, y_addO_s, y_bin_MultR2, y_mulO_s, y_bin_Sub, y_bin_Mult, y_bin_MultW, y_bin_MultR, y_bin_MultL, y_bin_Mod, y_bin_Div, y_bin_DivL, y_bin_PowL, y_bin_ShlL, y_bin_Pow, y_bin_Shl, y_bin_Shr, y_bin_And, y_bin_Or, y_bin_Xor, y_aug_Add, y_aug_Sub, y_cmp_Lt, y_cmp_LtE, y_cmp_Gt, y_cmp_GtE, y_cmp_Eq, y_cmp_NotEq, y_cmp_Is, y_cmp_IsNot, y_isNon_non, y_isNon_int, y_isNon_bl, y_isNon_tup, y_isNon_ref, y_isNon_str, y_ty_bool_non, y_ty_bool_bl, y_ty_bool_int, y_ty_bool_str, y_ty_bool_tup, y_ty_bool_fl, y_ty_bool_ref, y_ty_int_non, y_ty_int_bl, y_ty_int_int, y_ty_int_str, y_ty_int_tup, y_ty_int_fl, y_ty_int_ref, y_ty_str_non, y_ty_str_bl, y_ty_str_int, y_ty_str_str, y_ty_str_tup, y_ty_str_fl, y_ty_str_ref, y_ty_list_non, y_ty_list_bl, y_ty_list_int, y_ty_list_str, y_ty_list_tup, y_ty_list_fl, y_ty_list_ref, y_ty_tuple_non, y_ty_tuple_bl, y_ty_tuple_int, y_ty_tuple_str, y_ty_tuple_tup, y_ty_tuple_fl, y_ty_tuple_ref, y_at_s, y_ix_tup, y_ix_fl, y_ix_ref, y_ixK_s, y_len_tup, y_len_fl, y_len_ref, y_lenK_s, y_it_ref, y_itK_s, y_at_1, y_at_2, y_tyK_s, y_map_not, $xs,*])
section
variable {G : Str → Option D} {F k : Nat} {h h0 : Hd} {p : Nat} {m n : Int} {is : List Int}
theorem cd1 {xs : List D} : Ev.cutD xs (some 1) none = xs.drop 1 := cut_drop (k := 1)
theorem ct1 {xs : List D} : Ev.cutD xs none (some 1) = xs.take 1 := cut_take (k := 1)
theorem cdk {xs : List D} {i : Nat} : Ev.cutD xs (some ((i : Int) + 1)) none = xs.drop (i + 1) := cut_drop (k := i + 1)
def putL (xs : List D) (i : Nat) (d : D) : D := .tup (xs.take i ++ [d] ++ xs.drop (i + 1))
theorem put_below {m : Nat} {xs : List D} {i : Nat} (hb : belows m xs = true) (hd : below m d = true) : below m (putL xs i d) = true := by
  unfold putL
  rw [below_tup, belows_app, belows_app, belows_cons, hd]
  rw [belows_of fun x hx => belows_mem hb x (List.mem_of_mem_take hx), belows_of fun x hx => belows_mem hb x (List.mem_of_mem_drop hx)]
  rfl
theorem put_len {xs : List D} {i : Nat} {d : D} (hi : i < xs.length) : (xs.take i ++ [d] ++ xs.drop (i + 1)).length = xs.length := by
  simp
  omega
theorem put_ev {xs : List D} {i : Nat} {d : D} {h : Hd} (hz : xs.length ≤ 500) : (binD .Add (.tup (xs.take i)) (.tup [d]) h).bind (fun x h => binD .Add x (.tup (xs.drop (i + 1))) h) = .ok (putL xs i d) h := by
  have z1 : (xs.take i).length + 1 ≤ 1000 := by rw [List.length_take]; omega
  rw [y_bin_AddT (by simpa using z1)]
  show binD .Add (.tup (xs.take i ++ [d])) (.tup (xs.drop (i + 1))) h = _
  rw [y_bin_AddT (by simp; omega)]
  rfl
def sz1 : D → Bool
  | .tup xs => decide (xs.length ≤ 100)
  | _ => true
def sz : D → Bool
  | .tup rs => decide (rs.length ≤ 100) && rs.all sz1
  | _ => true
theorem sz_tup {xs : List D} (h1 : xs.length ≤ 100) (h2 : ∀ x ∈ xs, sz1 x = true) : sz (.tup xs) = true := by
  simp only [sz, decide_eq_true h1, Bool.true_and]
  exact List.all_eq_true.mpr h2
theorem sz_use {d : D} (e : sz d = true) : ∀ rs, d = .tup rs → rs.length ≤ 1000 ∧ ∀ xs, .tup xs ∈ rs → xs.length ≤ 1000 := by
  rintro rs rfl
  simp only [sz, Bool.and_eq_true, decide_eq_true_eq] at e
  refine ⟨by omega, fun xs hx => ?_⟩
  have := of_decide_eq_true (List.all_eq_true.mp e.2 _ hx)
  omega
theorem sz_put {xs : List D} {i : Nat} {d : D} (h1 : xs.length < 100) (h2 : ∀ x ∈ xs, sz1 x = true) (h3 : sz1 d = true) : sz (putL xs i d) = true := by
  refine sz_tup (by simp; omega) fun x hx => ?_
  rcases List.mem_append.mp hx with hx | hx
  · rcases List.mem_append.mp hx with hx | hx
    · exact h2 x (List.mem_of_mem_take hx)
    · rw [show x = d by simpa using hx]; exact h3
  · exact h2 x (List.mem_of_mem_drop hx)
/-- what stands in a list of things that are near to prices -/
def Near (a : Nat) (H : Hd) (zs : List D) : Prop := belows H.length zs = true ∧ (∀ (j : Nat) (d : D), 11 ≤ j → zs[j]? = some d → ∃ xs, d = .tup xs ∧ xs.length = a) ∧ ∀ z ∈ zs, sz z = true
theorem log_small {y : Int} (h1 : -1000000 ≤ y) (h2 : y ≤ 1000000) : y.natAbs.log2 < 1920 := by
  by_cases c : y.natAbs = 0
  · rw [c]; decide
  · rw [Nat.log2_lt c]
    exact Nat.lt_of_le_of_lt (show y.natAbs ≤ 1000000 by omega) (by decide +kernel)
theorem things_loop {f : D → Sd → Hd → RS} {n lo lt a : Nat} {H : Hd} {odds zs : List D} {z0 : D} {mk : D → D} {st : Option D → Sd} {v9 : Option D} {w : RS} (e : loopS f (.lc lo n) n 0 (st v9) H = w) (hn : n = odds.length) (he : Hd.lst H lo = some odds) (hlt : Hd.lst H lt = some zs) (hne : lo ≠ lt) (h3 : 3 ≤ lt) (hp : PW 3 PI H) (hf : Fr 3 h H) (hh : h.length ≤ lt) (nz : zs.length + n ≤ 100) (nr : Near a H zs) (hz0 : zs[0]? = some z0)
    (mkb : ∀ d, below H.length d = true → below H.length (mk d) = true) (mkl : ∀ d, ∃ xs, mk d = .tup xs ∧ xs.length = a) (mkz : ∀ d ∈ odds, sz (mk d) = true) (hbo : belows H.length odds = true)
    (hstep : ∀ d v h' zs, Hd.lst h' lt = some zs → zs.length < sizeLine → f d (st v) h' = .nx (st (some d)) (setL lt (zs ++ [mk d]) h')) :
    ∃ v h', w = .nx (st v) h' ∧ PW 3 PI h' ∧ Fr 3 h h' ∧ h'.length = H.length ∧ ∃ zs', Hd.lst h' lt = some zs' ∧ zs'.length = zs.length + n ∧ Near a h' zs' ∧ zs'[0]? = some z0 := by
  subst hn
  have := loopS_lc e rfl (fun i s h' => (∃ v, s = st v) ∧ h'.length = H.length ∧ PW 3 PI h' ∧ Fr 3 h h' ∧ Hd.lst h' lo = some odds ∧ ∃ zs', Hd.lst h' lt = some zs' ∧ zs'.length = zs.length + i ∧ Near a h' zs' ∧ zs'[0]? = some z0)
    (fun s h' => ∃ v, s = st v ∧ PW 3 PI h' ∧ Fr 3 h h' ∧ h'.length = H.length ∧ ∃ zs', Hd.lst h' lt = some zs' ∧ zs'.length = zs.length + odds.length ∧ Near a h' zs' ∧ zs'[0]? = some z0) nev2 (fun i s h' p => p.2.2.2.2.1) ?_ ?_ ⟨⟨_, rfl⟩, rfl, hp, hf, he, zs, hlt, rfl, nr, hz0⟩
  · obtain ⟨s, h', e1, v, rfl, x⟩ := this.nxt
    exact ⟨v, h', e1, x⟩
  · intro i x s h' hx hyp
    obtain ⟨⟨v, rfl⟩, lH, w1, f1, e1, zs', e2, l2, n2, c0⟩ := hyp
    have hi := (List.getElem?_eq_some_iff.mp hx).1
    rw [hstep x v h' zs' e2 (by rw [sizeLine_eq]; omega)]
    have lt2 := lst_lt e2
    have ne0 : 0 < zs'.length := (List.getElem?_eq_some_iff.mp c0).1
    refine ⟨⟨_, rfl⟩, by rw [set_len, lH], w1.set h3, f1.set (.inr hh), ?_, zs' ++ [mk x], lst_at lt2, by simp; omega, ⟨?_, fun j d hj hd => ?_, fun z hz => ?_⟩, ?_⟩
    · rw [lst_set_ne hne]
      exact e1
    · rw [set_len, belows_app, n2.1, belows_cons, lH, mkb x (belows_mem hbo x (List.mem_of_getElem? hx))]
      rfl
    · by_cases q : j < zs'.length
      · rw [List.getElem?_append_left q] at hd
        exact n2.2.1 j d hj hd
      · rw [List.getElem?_append_right (by omega)] at hd
        have hm := List.mem_of_getElem? hd
        rw [show d = mk x by simpa using hm]
        exact mkl x
    · rcases List.mem_append.mp hz with hz | hz
      · exact n2.2.2 z hz
      · rw [show z = mk x by simpa using hz]
        exact mkz x (List.mem_of_getElem? hx)
    · rw [List.getElem?_append_left ne0]
      exact c0
  · intro s h' hyp
    obtain ⟨⟨v, rfl⟩, lH, w1, f1, e1, x⟩ := hyp
    exact ⟨v, rfl, w1, f1, lH, x⟩
theorem near_ok {a b : Nat} {ps : List D} (hp : PW 3 PI h) (hF : 100 ≤ F) (la : ps.length = a) (hps : ∀ z ∈ ps, WRow Pr b z) (ha0 : 0 < a) (hb0 : 0 < b) (ha : a ≤ 12) (hb : b ≤ 12) :
    ∃ r h' zs, callF G prog.T F (k + 2) "_law_near" [.ref 2, .tup ps] h = .ok (.ref r) h' ∧ PW 3 PI h' ∧ Fr 3 h h' ∧ 3 ≤ r ∧ Hd.lst h' r = some zs ∧ zs.length = 32 ∧ Near a h' zs := by
  rw [call_eq (fn := f_law_near) rfl rfl]
  have dice := fun {m : Int} {h : Hd} (hp : PW 3 PI h) (hm : 0 < m) (hm2 : m < 1000) => dice_p (G := G) (F := F) (k := k) (m := m) (h := h) hp hm hm2 hF
  generalize callF G prog.T F (k + 1) = C at dice
  have hq := hp.le
  subst la
  have e0 : ps[0]? = some ps[0] := List.getElem?_eq_getElem ha0
  obtain ⟨es0, x0, l0, _⟩ := hps _ (List.getElem_mem ha0)
  rw [x0] at e0
  have a0 : atI ps 0 = some (.tup (es0.map D.int)) := atI_k (k := 0) e0
  obtain ⟨t1, h2, p1, p2, p3, p4, p5⟩ := dice (m := (ps.length : Int)) hp (by omega) (by omega)
  obtain ⟨t2, h3, q1, q2, q3, q4, q5⟩ := dice (m := (b : Int)) p4 (by omega) (by omega)
  obtain ⟨i, rfl⟩ : ∃ i : Nat, t1 = (i : Int) := ⟨t1.toNat, by omega⟩
  obtain ⟨j, rfl⟩ : ∃ j : Nat, t2 = (j : Int) := ⟨t2.toNat, by omega⟩
  have hi : i < ps.length := by omega
  have hj : j < b := by omega
  obtain ⟨es, xi, li, pe⟩ := hps _ (List.getElem_mem hi)
  have ei : ps[i]? = some (.tup (es.map D.int)) := by rw [List.getElem?_eq_getElem hi, xi]
  have hj' : j < es.length := by omega
  have ej : (es.map D.int)[j]? = some (.int es[j]) := by simp [hj']
  have py := pe _ (List.getElem_mem hj')
  generalize es[j] = y at ej py
  have f3 := p5.trans q5
  have k3 := f3.len
  have bps : ∀ n, belows n ps = true := fun n => belows_of fun z hz => by
    obtain ⟨es, rfl, _⟩ := hps z hz
    exact belows_ints es
  simp? only [f_law_near, a0, l0, p1, q1, atI_k ei, atI_k ej, cd1, ct1, show ps.length + (ps.take 1).length ≤ 1000 by simp; omega]
  generalize e : loopC _ _ _ _ _ _ = w
  obtain ⟨L, h4, rfl, lL, w4, f4, b4, sL⟩ : ∃ L h4, w = .ok L h4 ∧ L.length = ps.length ∧ PW 3 PI h4 ∧ Fr 3 (h3 ++ [O.lst ps]) h4 ∧ belows h4.length L = true ∧ ∀ x ∈ L, sz1 x = true := by
    refine loopC_sat e (by omega) (fun acc h4 => PW 3 PI h4 ∧ Fr 3 (h3 ++ [O.lst ps]) h4 ∧ belows h4.length acc = true ∧ ∀ x ∈ acc, sz1 x = true) ?_ ⟨q4.app, .refl, rfl, fun _ z => nomatch z⟩
    clear e
    intro t x acc h4 hx hl hyp
    obtain ⟨w4, f4, b4, sL⟩ := hyp
    obtain ⟨es', rfl, _⟩ := hps _ (List.mem_of_getElem? hx)
    simp? only [Ev.y_map_not]
    refine ⟨_, rfl, w4.app, f4.app, ?_, fun z hz => ?_⟩
    · rw [belows_app, belows_mono (Nat.le_succ _) _ b4, belows_cons, bl_ref (Nat.lt_succ_self _)]
      rfl
    · rcases List.mem_append.mp hz with hz | hz
      · exact sL z hz
      · rw [show z = _ by simpa using hz]
        rfl
  clear e
  have k4 := f4.len
  simp only [List.length_append, List.length_cons, List.length_nil] at k4
  have bes : ∀ n, belows n (es.map D.int) = true := fun n => belows_ints es
  have z1 : (ps.take i).length + 1 ≤ 1000 := by rw [List.length_take]; omega
  have z2 : ((es.map D.int).take j).length + 1 ≤ 1000 := by rw [List.length_take, List.length_map]; omega
  have zz1 : ∀ d, (ps.take i ++ [d]).length + (ps.drop (i + 1)).length ≤ 1000 := fun d => by simp; omega
  have zz2 : ∀ d, ((es.map D.int).take j ++ [d]).length + ((es.map D.int).drop (j + 1)).length ≤ 1000 := fun d => by simp; omega
  have lsm := log_small py.1 py.2
  simp? only [cd1, show es.length + 1 ≤ 1000 by omega, lsm]
  have b4' := belows_mono (Nat.le_add_right h4.length 1) _ b4
  have nr : Near ps.length (h4 ++ [O.lst [D.ref (List.length h3), D.tup (List.drop 1 ps), D.tup (ps ++ List.take 1 ps), D.tup [], D.non, D.tup (List.map D.int es0), D.tup [D.tup ps], D.int 7, D.str (Str.ofString ""), D.tup L, D.tup ps.reverse]]) [D.ref (List.length h3), D.tup (List.drop 1 ps), D.tup (ps ++ List.take 1 ps), D.tup [], D.non, D.tup (List.map D.int es0), D.tup [D.tup ps], D.int 7, D.str (Str.ofString ""), D.tup L, D.tup ps.reverse] := by
    refine ⟨?_, fun j d hj e => ?_, ?_⟩
    · simp only [List.length_append, List.length_cons, List.length_nil, Nat.zero_add, belows_cons, belows_nil, bl_ref (show h3.length < h4.length + 1 by omega), below_tup, below_non, below_int, below_str, belows_app, bps, belows_ints, b4', belows_of fun x hx => belows_mem (bps (h4.length + 1)) x (List.mem_of_mem_drop (i := 1) hx), belows_of fun x hx => belows_mem (bps (h4.length + 1)) x (List.mem_of_mem_take (i := 1) hx), belows_of fun x hx => belows_mem (bps (h4.length + 1)) x (List.mem_reverse.mp hx), Bool.and_self]
    · rw [List.getElem?_eq_none (by simpa using hj)] at e
      cases e
    · intro z hz
      simp only [List.mem_cons, List.not_mem_nil, or_false] at hz
      have sps : ∀ x ∈ ps, sz1 x = true := fun x hx => by
        obtain ⟨es, rfl, l, _⟩ := hps x hx
        simp only [sz1, List.length_map, l, decide_eq_true (show b ≤ 100 by omega)]
      have ses : ∀ x ∈ es0.map D.int, sz1 x = true := fun x hx => by
        obtain ⟨y, _, rfl⟩ := List.mem_map.mp hx
        rfl
      rcases hz with rfl | rfl | rfl | rfl | rfl | rfl | rfl | rfl | rfl | rfl | rfl
      · rfl
      · exact sz_tup (by simp; omega) fun x hx => sps x (List.mem_of_mem_drop hx)
      · refine sz_tup (by simp; omega) fun x hx => ?_
        rcases List.mem_append.mp hx with hx | hx
        · exact sps x hx
        · exact sps x (List.mem_of_mem_take hx)
      · rfl
      · rfl
      · exact sz_tup (by simp; omega) ses
      · refine sz_tup (by simp) fun x hx => ?_
        rw [show x = .tup ps by simpa using hx]
        exact decide_eq_true (by omega)
      · rfl
      · rfl
      · exact sz_tup (by omega) sL
      · exact sz_tup (by simp; omega) fun x hx => sps x (List.mem_reverse.mp hx)
  have l11 : [D.ref (List.length h3), D.tup (List.drop 1 ps), D.tup (ps ++ List.take 1 ps), D.tup [], D.non, D.tup (List.map D.int es0), D.tup [D.tup ps], D.int 7, D.str (Str.ofString ""), D.tup L, D.tup ps.reverse].length = 11 := rfl
  have z0 : [D.ref (List.length h3), D.tup (List.drop 1 ps), D.tup (ps ++ List.take 1 ps), D.tup [], D.non, D.tup (List.map D.int es0), D.tup [D.tup ps], D.int 7, D.str (Str.ofString ""), D.tup L, D.tup ps.reverse][0]? = some (.ref h3.length) := rfl
  generalize [D.ref (List.length h3), D.tup (List.drop 1 ps), D.tup (ps ++ List.take 1 ps), D.tup [], D.non, D.tup (List.map D.int es0), D.tup [D.tup ps], D.int 7, D.str (Str.ofString ""), D.tup L, D.tup ps.reverse] = Z0 at nr l11 z0
  have bO : belows (h4.length + 3) [D.ref (List.length h4 + 1), D.tup (List.drop 1 (es.map D.int)), D.tup (es.map D.int ++ [D.int 0]), D.tup [], D.non, D.int 5, D.tup (es.map D.int).reverse, D.tup [D.tup (es.map D.int)], D.str (toString y)] = true := by
    simp only [belows_cons, belows_nil, bl_ref (show h4.length + 1 < h4.length + 3 by omega), below_tup, below_non, below_int, below_str, belows_app, belows_ints, belows_of fun x hx => belows_mem (bes (h4.length + 3)) x (List.mem_of_mem_drop (i := 1) hx), belows_of fun x hx => belows_mem (bes (h4.length + 3)) x (List.mem_reverse.mp hx), Bool.and_self]
  have sps : ∀ x ∈ ps, sz1 x = true := fun x hx => by
    obtain ⟨es, rfl, l, _⟩ := hps x hx
    simp only [sz1, List.length_map, l, decide_eq_true (show b ≤ 100 by omega)]
  have sO : ∀ d ∈ [D.ref (List.length h4 + 1), D.tup (List.drop 1 (es.map D.int)), D.tup (es.map D.int ++ [D.int 0]), D.tup [], D.non, D.int 5, D.tup (es.map D.int).reverse, D.tup [D.tup (es.map D.int)], D.str (toString y)], sz1 d = true := by
    intro z hz
    simp only [List.mem_cons, List.not_mem_nil, or_false] at hz
    rcases hz with rfl | rfl | rfl | rfl | rfl | rfl | rfl | rfl | rfl
    all_goals first | rfl | exact decide_eq_true (by simp; omega) | exact decide_eq_true (by simp)
  have l9 : [D.ref (List.length h4 + 1), D.tup (List.drop 1 (es.map D.int)), D.tup (es.map D.int ++ [D.int 0]), D.tup [], D.non, D.int 5, D.tup (es.map D.int).reverse, D.tup [D.tup (es.map D.int)], D.str (toString y)].length = 9 := rfl
  generalize [D.ref (List.length h4 + 1), D.tup (List.drop 1 (es.map D.int)), D.tup (es.map D.int ++ [D.int 0]), D.tup [], D.non, D.int 5, D.tup (es.map D.int).reverse, D.tup [D.tup (es.map D.int)], D.str (toString y)] = O9 at bO l9 sO
  generalize e : loopS _ _ _ _ _ _ = w
  have lH : (h4 ++ [O.lst Z0] ++ [O.lst (List.map D.int es)] ++ [O.lst O9]).length = h4.length + 3 := by simp
  have f4h : Fr 3 h h4 := f3.app.trans f4
  have kq : 3 ≤ h4.length := by omega
  obtain ⟨v, h5, rfl, w5, f5, l5, Z1, e5, lZ1, nr1, z01⟩ := things_loop (h := h) (a := ps.length) (mk := putL ps i) (zs := Z0) (z0 := .ref h3.length) (lo := h4.length + 1 + 1) (lt := h4.length) (odds := O9) (st := fun v => [some (D.ref 2), some (D.tup ps), some (D.int ↑ps.length), some (D.int ↑b), some (D.int ↑i), some (D.int ↑j), some (D.tup (List.map D.int es)), some (D.int y), some (D.ref (List.length h4)), v, none]) (v9 := none) e l9.symm (by
      have := lst_new (h := h4 ++ [O.lst Z0] ++ [O.lst (List.map D.int es)]) (xs := O9)
      simpa using this) (lst_old (lst_old lst_new)) (by omega) kq w4.app.app.app f4h.app.app.app (by omega) (by omega) ⟨by
        rw [lH]
        have := nr.1
        simp only [List.length_append, List.length_cons, List.length_nil] at this
        exact belows_mono (by omega) _ this, nr.2⟩ z0 (fun d hd => put_below (bps _) hd) (fun d => ⟨_, rfl, put_len hi⟩) (fun d hd => sz_put (by omega) sps (sO d hd)) (by rw [lH]; exact bO) (fun d v h' zs e2 hz => by
          simp? only [e2, cut_take, cdk, z1, y_bin_AddT (zz1 d), appD_ok e2 hz]
          rfl)
  clear e
  rw [lH] at l5
  simp? only [Ev.y_map_not]
  have k5 := f5.len
  have bO2 : belows (h5.length + 2) [D.int ((10 : Int) ^ Int.toNat 6 + 1), D.int (0 - (10 : Int) ^ Int.toNat 6 - 1), D.int ((10 : Int) ^ Int.toNat 6), D.int (0 - (10 : Int) ^ Int.toNat 6), D.bl true, D.bl false, D.non, D.str (Str.ofString "1"), D.tup [D.int y], D.int ((10 : Int) ^ Int.toNat 60), D.ref (List.length h5), D.int (y + 1)] = true := by
    simp only [belows_cons, belows_nil, bl_ref (show h5.length < h5.length + 2 by omega), below_tup, below_non, below_int, below_str, below_bl, Bool.and_self]
  have l12 : [D.int ((10 : Int) ^ Int.toNat 6 + 1), D.int (0 - (10 : Int) ^ Int.toNat 6 - 1), D.int ((10 : Int) ^ Int.toNat 6), D.int (0 - (10 : Int) ^ Int.toNat 6), D.bl true, D.bl false, D.non, D.str (Str.ofString "1"), D.tup [D.int y], D.int ((10 : Int) ^ Int.toNat 60), D.ref (List.length h5), D.int (y + 1)].length = 12 := rfl
  generalize [D.int ((10 : Int) ^ Int.toNat 6 + 1), D.int (0 - (10 : Int) ^ Int.toNat 6 - 1), D.int ((10 : Int) ^ Int.toNat 6), D.int (0 - (10 : Int) ^ Int.toNat 6), D.bl true, D.bl false, D.non, D.str (Str.ofString "1"), D.tup [D.int y], D.int ((10 : Int) ^ Int.toNat 60), D.ref (List.length h5), D.int (y + 1)] = O12 at bO2 l12
  have lH2 : (h5 ++ [O.lst [D.int y]] ++ [O.lst O12]).length = h5.length + 2 := by simp
  generalize e : loopS _ _ _ _ _ _ = w
  obtain ⟨v', h6, rfl, w6, f6, l6, Z2, e6, lZ2, nr2, z02⟩ := things_loop (h := h) (a := ps.length) (mk := fun d => putL ps i (putL (es.map D.int) j d)) (zs := Z1) (z0 := .ref h3.length) (lo := h5.length + 1) (lt := h4.length) (odds := O12) (st := fun v => [some (D.ref 2), some (D.tup ps), some (D.int ↑ps.length), some (D.int ↑b), some (D.int ↑i), some (D.int ↑j), some (D.tup (List.map D.int es)), some (D.int y), some (D.ref (List.length h4)), v, none]) (v9 := v) e l12.symm (by
      have := lst_new (h := h5 ++ [O.lst [D.int y]]) (xs := O12)
      simpa using this) (lst_old (lst_old e5)) (by omega) kq w5.app.app f5.app.app (by omega) (by omega) ⟨by
        rw [lH2]
        exact belows_mono (by omega) _ nr1.1, nr1.2⟩ z01 (fun d hd => put_below (bps _) (put_below (bes _) hd)) (fun d => ⟨_, rfl, put_len hi⟩) (fun d hd => sz_put (by omega) sps (by unfold putL; exact decide_eq_true (by rw [put_len (by simpa using hj')]; simp; omega))) (by rw [lH2]; exact bO2) (fun d v h' zs e2 hz => by
          simp? only [e2, cut_take, cdk, z1, z2, y_bin_AddT (zz2 d), y_bin_AddT (zz1 _), appD_ok e2 hz]
          rfl)
  clear e
  simp? only [Ev.y_map_not]
  exact ⟨_, _, Z2, trunc_any hPI hp w6 f6 (by omega) e6 (nbelows z02 k3), w6, f6, kq, e6, by omega, nr2⟩
end
end K26

set_option Elab.async false
set_option linter.all false
set_option maxRecDepth 100000
namespace K26
open PySem PySem.Spec PyProof.Rows L2 Ev
local macro_rules | `(tactic| simp? only [$xs,*]) => `(tactic| simp -implicitDefEqProofs only [Int.reduceSub, Int.reduceAdd, Int.reduceNeg, lst_new1, lst_new2, List.flatten_replicate_singleton, List.length_map, Nat.one_mul, Nat.mul_one, List.length_append, List.length_replicate, trunc_nil, trunc_new, RSat_nx, RSat_ct, RSat_bk, RSat_ret, Ends_nx, Ends_ret, lst_new, lst_0, setL_0, set_new, bind_ok', thn_ok, seq_nx, seq_ret, seq_bk, seq_ct, eqD_int, eqD_bl, Rv_some, Rb_some, truth_bl, truth_int, bifD_len, bifD_abs, bifD_int, bifD_intb, bifD_min, bifD_max, sqD_tup, sqD_len, sqD_list, sqD_sumr, sqD_sum', isL_ref, putT_v, putT_t, putTs_nil, putTs_cons, new_eq, itD_tup, itD_fl, rng1_int, rng2_int, quiet_ok, fin_ret, fin_nx, startD_eq, List.set_cons_zero, List.set_cons_succ, List.map_cons, List.map_nil, List.replicate_succ, List.replicate_zero, List.cons_append, List.nil_append, List.length_cons, List.length_nil, Option.bind_some, Option.isSome_some, Option.map_some, if_true, if_false, Bool.false_eq_true, atI_0, ite_true, ite_false, Nat.reduceAdd, Nat.reduceSub, Nat.zero_add, trunc_set0, trunc_set, trunc_id, trunc_same, belows_ints, below_int, below_bl, below_non, below_str, below_tup, belows_nil, belows_cons, Tot_ok, Bool.and_true, Bool.true_and, len_fx, len_lc, rangeD_len, wipeD_nil, wipeD_cons, eqD_str, Nat.reduceLeDiff, Int.zero_add, Int.sub_zero, Int.toNat_natCast, Int.natAbs_natCast, Int.reduceNe, Int.reduceEq, Int.reduceLT, Int.reduceLE, ne_eq, not_false_eq_true, Bool.not_true, Bool.or_false, Bool.false_or, Bool.false_and, Bool.and_false, decide_true, decide_false, beq_self_eq_true, Bool.not_not, Bool.not_false, List.lookup_cons, String.reduceBEq, y_getV_0, y_getV_s, y_v_var, y_v_int, y_v_bl, y_v_non, y_v_str, y_v_glob, y_v_bin, y_v_neg, y_v_cmp, y_v_chain, y_v_and, y_v_or, y_t_and, y_t_or, y_v_not, y_t_not, y_v_ite, y_v_tup, y_v_lst, y_v_ix, y_v_sl, y_p_hole, y_v_call, y_v_bif, y_v_seq, y_v_isi, y_v_pop, y_v_popAt, y_v_app, y_v_comp, y_q_comp, y_i_rng1, y_i_rng2, y_i_rng3, y_i_enum, y_i_zip, y_v_callk, y_v_rgs, y_v_rgs2, y_kwK_ok, y_kwD_ok, y_perm_n, y_perm_c, y_getD_0, y_getD_s, y_rgsT, y_rgsF, y_en_tup, y_en_ref, y_enK_s, y_sl_tup, y_sl_fl, y_sl_ref, y_slO_s, y_bool_b, y_bool_i, y_v_rev, y_v_ext, y_extK_ok, y_ext_ref, y_extO_s, y_str_i, y_rev_tup, y_rng3_int, y_zip_tup, y_mul_T, y_s_raise, y_raiseK_ok, y_raise_1, y_raise_2, y_bind_err, y_thn_err, y_seq_err, y_fin_err, y_s_try, y_try_nx, y_try_ret, y_try_bk, y_try_ct, y_try_err, y_tryK_t, y_tryK_f, y_hs_nil, y_hs_ret, y_hs_ifr, y_hsR_s, y_hsI_t, y_hsI_f, y_hr_a, y_hr_t, y_hrT_s, y_ha_str, y_ha_int, y_ha_non, y_ha_bl, y_ha_fld, y_ha_ite, y_haI_t, y_haI_f, y_hal_n, y_hal_c, y_halC_s, y_hq_isx, y_hq_not, y_hq_and, y_hqs_n, y_hqs_c, y_hqB_t, y_hqB_f, y_t_var, y_q_var, y_i_var, y_p_var, y_t_int, y_p_int, y_t_bl, y_t_glob, y_q_glob, y_i_glob, y_p_glob, y_t_bin, y_q_bin, y_i_bin, y_p_bin, y_p_neg, y_t_cmp, y_t_chain, y_t_ite, y_q_ite, y_i_ite, y_p_ite, y_t_tup, y_q_tup, y_i_tup, y_t_lst, y_q_lst, y_i_lst, y_t_ix, y_q_ix, y_i_ix, y_p_ix, y_t_sl, y_q_sl, y_i_sl, y_t_call, y_q_call, y_i_call, y_p_call, y_t_callk, y_q_callk, y_i_callk, y_t_rgs, y_q_rgs, y_i_rgs, y_t_bif, y_q_bif, y_i_bif, y_p_bif, y_t_seq, y_q_seq, y_i_seq, y_t_isi, y_t_pop, y_q_pop, y_i_pop, y_t_popAt, y_t_rev, y_q_rev, y_i_rev, y_i_comp, y_globK_s, y_kB_ok, y_kT_ok, y_negK_ok, y_cmpK_ok, y_chK1_ok, y_chK3_ok, y_chK2_t, y_chK2_f, y_andV_1, y_andV_2, y_orV_1, y_orV_2, y_andT_1, y_andT_2, y_orT_1, y_orT_2, y_andK_t, y_andK_f, y_orK_t, y_orK_f, y_andTK_t, y_andTK_f, y_orTK_t, y_orTK_f, y_notK_ok, y_notTK_ok, y_iteK_t, y_iteK_f, y_tupK_ok, y_lstK_ok, y_evMs_nil, y_evMs_cons, y_allV_n, y_allV_c, y_allK_ok, y_consK_ok, y_isiK_ok, y_popAtK_ok, y_appK_ok, y_slK1_ok, y_slK2_ok, y_compK_ok, y_compN_ok, y_truK_ok, y_seqK_tup, y_seqK_fl, y_seqK_ref, y_seqO_s, y_intK_ok, y_ifsT_n, y_ifsT_1, y_turnC_ok, y_turnP_s, y_turnK_t, y_turnK_f, y_turnK2_ok, y_s_nil, y_s_cons, y_s_expr, y_s_asg, y_s_setix, y_s_aug, y_s_if, y_s_for, y_s_while, y_s_ret, y_s_retn, y_s_brk, y_s_cont, y_s_pass, y_exprK_ok, y_putK_s, y_asgK_ok, y_setK1_ok, y_setK2_ok, y_setK3_ok, y_setK4_ok, y_augK1_ok, y_augK2_ok, y_augK3_ok, y_brK_t, y_brK_f, y_forK_ok, y_retK_ok, y_turnS_v, y_turnS_t, y_bin_Add, y_bin_AddT, y_bin_AddR, y_addO_s, y_bin_MultR2, y_mulO_s, y_bin_Sub, y_bin_Mult, y_bin_MultW, y_bin_MultR, y_bin_MultL, y_bin_Mod, y_bin_Div, y_bin_DivL, y_bin_PowL, y_bin_ShlL, y_bin_Pow, y_bin_Shl, y_bin_Shr, y_bin_And, y_bin_Or, y_bin_Xor, y_aug_Add, y_aug_Sub, y_cmp_Lt, y_cmp_LtE, y_cmp_Gt, y_cmp_GtE, y_cmp_Eq, y_cmp_NotEq, y_cmp_Is, y_cmp_IsNot, y_isNon_non, y_isNon_int, y_isNon_bl, y_isNon_tup, y_isNon_ref, y_isNon_str, y_ty_bool_non, y_ty_bool_bl, y_ty_bool_int, y_ty_bool_str, y_ty_bool_tup, y_ty_bool_fl, y_ty_bool_ref, y_ty_int_non, y_ty_int_bl, y_ty_int_int, y_ty_int_str, y_ty_int_tup, y_ty_int_fl, y_ty_int_ref, y_ty_str_non, y_ty_str_bl, y_ty_str_int, y_ty_str_str, y_ty_str_tup, y_ty_str_fl, y_ty_str_ref, y_ty_list_non, y_ty_list_bl, y_ty_list_int, y_ty_list_str, y_ty_list_tup, y_ty_list_fl, y_ty_list_ref, y_ty_tuple_non, y_ty_tuple_bl, y_ty_tuple_int, y_ty_tuple_str, y_ty_tuple_tup, y_ty_tuple_fl, y_ty_tuple_ref, y_at_s, y_ix_tup, y_ix_fl, y_ix_ref, y_ixK_s, y_len_tup, y_len_fl, y_len_ref, y_lenK_s, y_it_ref, y_itK_s, y_at_1, y_at_2, y_tyK_s, y_map_not, $xs,*])
local macro_rules | `(tactic| simp? only [$xs,*] $l:location) => `(tactic| simp -implicitDefEqProofs only [Int.reduceSub, Int.reduceAdd, Int.reduceNeg, lst_new1, lst_new2, List.flatten_replicate_singleton, List.length_map, Nat.one_mul, Nat.mul_one, List.length_append, List.length_replicate, trunc_nil, trunc_new, RSat_nx, RSat_ct, RSat_bk, RSat_ret, Ends_nx, Ends_ret, lst_new, lst_0, setL_0, set_new, bind_ok', thn_ok, seq_nx, seq_ret, seq_bk, seq_ct, eqD_int, eqD_bl, Rv_some, Rb_some, truth_bl, truth_int, bifD_len, bifD_abs, bifD_int, bifD_intb, bifD_min, bifD_max, sqD_tup, sqD_len, sqD_list, sqD_sumr, sqD_sum', isL_ref, putT_v, putT_t, putTs_nil, putTs_cons, new_eq, itD_tup, itD_fl, rng1_int, rng2_int, quiet_ok, fin_ret, fin_nx, startD_eq, List.set_cons_zero, List.set_cons_succ, List.map_cons, List.map_nil, List.replicate_succ, List.replicate_zero, List.cons_append, List.nil_append, List.length_cons, List.length_nil, Option.bind_some, Option.isSome_some, Option.map_some, if_true, if_false, Bool.false_eq_true, atI_0, ite_true, ite_false, Nat.reduceAdd, Nat.reduceSub, Nat.zero_add, trunc_set0, trunc_set, trunc_id, trunc_same, belows_ints, below_int, below_bl, below_non, below_str, below_tup, belows_nil, belows_cons, Tot_ok, Bool.and_true, Bool.true_and, len_fx, len_lc, rangeD_len, wipeD_nil, wipeD_cons, eqD_str, Nat.reduceLeDiff, Int.zero_add, Int.sub_zero, Int.toNat_natCast, Int.natAbs_natCast, Int.reduceNe, Int.reduceEq, Int.reduceLT, Int.reduceLE, ne_eq, not_false_eq_true, Bool.not_true, Bool.or_false, Bool.false_or, Bool.false_and, Bool.and_false, decide_true, decide_false, beq_self_eq_true, Bool.not_not, Bool.not_false, List.lookup_cons, String.reduceBEq, y_getV_0, y_getV_s, y_v_var, y_v_int, y_v_bl, y_v_non, y_v_str, y_v_glob, y_v_bin, y_v_neg, y_v_cmp, y_v_chain, y_v_and, y_v_or, y_t_and, y_t_or, y_v_not, y_t_not, y_v_ite, y_v_tup, y_v_lst, y_v_ix, y_v_sl, y_p_hole, y_v_call, y_v_bif, y_v_seq, y_v_isi, y_v_pop, y_v_popAt, y_v_app, y_v_comp, y_q_comp, y_i_rng1, y_i_rng2, y_i_rng3, y_i_enum, y_i_zip, y_v_callk, y_v_rgs, y_v_rgs2, y_kwK_ok, y_kwD_ok, y_perm_n, y_perm_c, y_getD_0, y_getD_s, y_rgsT, y_rgsF, y_en_tup, y_en_ref, y_enK_s, y_sl_tup, y_sl_fl, y_sl_ref, y_slO_s, y_bool_b, y_bool_i, y_v_rev, y_v_ext, y_extK_ok, y_ext_ref, y_extO_s, y_str_i, y_rev_tup, y_rng3_int, y_zip_tup, y_mul_T, y_s_raise, y_raiseK_ok, y_raise_1, y_raise_2, y_bind_err, y_thn_err, y_seq_err, y_fin_err, y_s_try, y_try_nx, y_try_ret, y_try_bk, y_try_ct, y_try_err, y_tryK_t, y_tryK_f, y_hs_nil, y_hs_ret, y_hs_ifr, y_hsR_s, y_hsI_t, y_hsI_f, y_hr_a, y_hr_t, y_hrT_s, y_ha_str, y_ha_int, y_ha_non, y_ha_bl, y_ha_fld, y_ha_ite, y_haI_t, y_haI_f, y_hal_n, y_hal_c, y_halC_s, y_hq_isx, y_hq_not, y_hq_and, y_hqs_n, y_hqs_c, y_hqB_t, y_hqB_f, y_t_var, y_q_var, y_i_var, y_p_var, y_t_int, y_p_int, y_t_bl, y_t_glob, y_q_glob, y_i_glob, y_p_glob, y_t_bin, y_q_bin, y_i_bin, y_p_bin, y_p_neg, y_t_cmp, y_t_chain, y_t_ite, y_q_ite, y_i_ite, y_p_ite, y_t_tup, y_q_tup, y_i_tup, y_t_lst, y_q_lst, y_i_lst, y_t_ix, y_q_ix, y_i_ix, y_p_ix, y_t_sl, y_q_sl, y_i_sl, y_t_call, y_q_call, y_i_call, y_p_call, y_t_callk, y_q_callk, y_i_callk, y_t_rgs, y_q_rgs, y_i_rgs, y_t_bif, y_q_bif, y_i_bif, y_p_bif, y_t_seq, y_q_seq, y_i_seq, y_t_isi, y_t_pop, y_q_pop, y_i_pop, y_t_popAt, y_t_rev, y_q_rev, y_i_rev, y_i_comp, y_globK_s, y_kB_ok, y_kT_ok, y_negK_ok, y_cmpK_ok, y_chK1_ok, y_chK3_ok, y_chK2_t, y_chK2_f, y_andV_1, y_andV_2, y_orV_1, y_orV_2, y_andT_1, y_andT_2, y_orT_1, y_orT_2, y_andK_t, y_andK_f, y_orK_t, y_orK_f, y_andTK_t, y_andTK_f, y_orTK_t, y_orTK_f, y_notK_ok, y_notTK_ok, y_iteK_t, y_iteK_f, y_tupK_ok, y_lstK_ok, y_evMs_nil, y_evMs_cons, y_allV_n, y_allV_c, y_allK_ok, y_consK_ok, y_isiK_ok, y_popAtK_ok, y_appK_ok, y_slK1_ok, y_slK2_ok, y_compK_ok, y_compN_ok, y_truK_ok, y_seqK_tup, y_seqK_fl, y_seqK_ref, y_seqO_s, y_intK_ok, y_ifsT_n, y_ifsT_1, y_turnC_ok, y_turnP_s, y_turnK_t, y_turnK_f, y_turnK2_ok, y_s_nil, y_s_cons, y_s_expr, y_s_asg, y_s_setix, y_s_aug, y_s_if, y_s_for, y_s_while, y_s_ret, y_s_retn, y_s_brk, y_s_cont, y_s_pass, y_exprK_ok, y_putK_s, y_asgK_ok, y_setK1_ok, y_setK2_ok, y_setK3_ok, y_setK4_ok, y_augK1_ok, y_augK2_ok, y_augK3_ok, y_brK_t, y_brK_f, y_forK_ok, y_retK_ok, y_turnS_v, y_turnS_t, y_bin_Add, y_bin_AddT, y_bin_AddR, y_addO_s, y_bin_MultR2, y_mulO_s, y_bin_Sub, y_bin_Mult, y_bin_MultW, y_bin_MultR, y_bin_MultL, y_bin_Mod, y_bin_Div, y_bin_DivL, y_bin_PowL, y_bin_ShlL, y_bin_Pow, y_bin_Shl, y_bin_Shr, y_bin_And, y_bin_Or, y_bin_Xor, y_aug_Add, y_aug_Sub, y_cmp_Lt, y_cmp_LtE, y_cmp_Gt, y_cmp_GtE, y_cmp_Eq, y_cmp_NotEq, y_cmp_Is, y_cmp_IsNot, y_isNon_non, y_isNon_int, y_isNon_bl, y_isNon_tup, y_isNon_ref, y_isNon_str, y_ty_bool_non, y_ty_bool_bl, y_ty_bool_int, y_ty_bool_str, y_ty_bool_tup, y_ty_bool_fl, y_ty_bool_ref, y_ty_int_non, y_ty_int_bl, y_ty_int_int, y_ty_int_str, y_ty_int_tup, y_ty_int_fl, y_ty_int_ref, y_ty_str_non, y_ty_str_bl, y_ty_str_int, y_ty_str_str, y_ty_str_tup, y_ty_str_fl, y_ty_str_ref, y_ty_list_non, y_ty_list_bl, y_ty_list_int, y_ty_list_str, y_ty_list_tup, y_ty_list_fl, y_ty_list_ref, y_ty_tuple_non, y_ty_tuple_bl, y_ty_tuple_int, y_ty_tuple_str, y_ty_tuple_tup, y_ty_tuple_fl, y_ty_tuple_ref, y_at_s, y_ix_tup, y_ix_fl, y_ix_ref, y_ixK_s, y_len_tup, y_len_fl, y_len_ref, y_lenK_s, y_it_ref, y_itK_s, y_at_1, y_at_2, y_tyK_s, y_map_not, $xs,*] $l:location)
section
variable {G : Str → Option D} {k : Nat} {h h0 : Hd} {p : Nat} {m n : Int} {is : List Int}
theorem wv_rows {p : Int → Prop} {a b : Nat} {g : Nat → Nat → Int} (hg : ∀ i j, i < a → j < b → p (g i j)) : ∀ z ∈ wrs a b g, WRow p b z := by
  intro z hz
  obtain ⟨i, hi, rfl⟩ := List.mem_map.mp hz
  refine ⟨(List.range b).map (g i), by simp [rowD], by simp, fun e he => ?_⟩
  obtain ⟨j, hj, rfl⟩ := List.mem_map.mp he
  exact hg i j (List.mem_range.mp hi) (List.mem_range.mp hj)
theorem due_eq {a b : Nat} {d : D} : heardD a b d = match flt a b d with
  | none => .tup [.str "told", .int ((a : Int) * b)]
  | some i => .tup [.str "raised", .int i] := rfl
theorem judged_ok {a b : Nat} {f g : Nat → Nat → Int} (hp : PW 3 PI h) (hG : G "PRICE_MOST" = some (.int 1000000)) (ha0 : 0 < a) (hb0 : 0 < b) (ha : a ≤ 12) (hb : b ≤ 12) (hg : ∀ i j, i < a → j < b → Pr (g i j)) :
    ∃ h', callF G prog.T 4000 (k + 5) "_law_judged" [.ref 2, wv a b f, wv a b g] h = .ok (.bl true) h' ∧ PW 3 PI h' ∧ Fr 3 h h' := by
  rw [call_eq (fn := f_law_judged) rfl rfl]
  have dice := fun {m : Int} {h : Hd} (hp : PW 3 PI h) (hm : 0 < m) (hm2 : m < 1000) => dice_p (G := G) (F := 4000) (k := k + 3) (m := m) (h := h) hp hm hm2 (by omega)
  have near := fun {h : Hd} (hp : PW 3 PI h) => near_ok (G := G) (F := 4000) (k := k + 2) (h := h) (ps := wrs a b g) hp (by omega) wrs_len (wv_rows hg) ha0 hb0 ha hb
  have fault := fun {d : D} {h : Hd} (hd : below h.length d = true) => lfault_ok (G := G) (F := 4000) (k := k + 3) (a := a) (b := b) (d := d) (h := h) hd (by omega)
  have refu := fun {d : D} {h : Hd} (hd : below h.length d = true) (hs : sz d = true) => refusal_ok (G := G) (F := 4000) (k := k) (a := a) (b := b) (f := f) (d := d) (h := h) hd ha0 ha hb hG (sz_use hs)
  have same := fun {d : D} {h : Hd} (hp : pl d = true) (hn : nd d ≤ 10) => same_ok (G := G) (F := 4000) (k := k + 3) (d := d) (h := h) hp (by omega) (by omega) (by omega)
  generalize callF G prog.T 4000 (k + 4) = C at dice near fault refu same
  have hq := hp.le
  have i0 : ∀ h, ixD (wv a b f) (.int 0) h = .ok (rowD b (f 0)) h := fun h => ix_wv ha0
  obtain ⟨r1, h2, zs, p1, p2, p3, p4, p5, p6, p7⟩ := near hp
  have p1' : C "_law_near" [.ref 2, wv a b g] h = .ok (.ref r1) h2 := p1
  obtain ⟨t1, h3, q1, q2, q3, q4, q5⟩ := dice (m := 32) p2 (by omega) (by omega)
  obtain ⟨t, rfl⟩ : ∃ t : Nat, t1 = (t : Int) := ⟨t1.toNat, by omega⟩
  simp? only [f_law_judged, len_wv, i0, len_rowD, p1', p5, p6, show (((32 : Nat)) : Int) = 32 from rfl, q1, show small62 7 = true from rfl, show Int.toNat 7 = 7 from rfl]
  generalize e : loopS _ _ _ _ _ _ = w
  obtain ⟨s', h', rfl, ⟨v7, v8, v9, v10, v11, v12, rfl⟩, w4, f4⟩ : ∃ s' h', w = .nx s' h' ∧ (∃ v7 v8 v9 v10 v11 v12 : Option D, s' = [some (.ref 2), some (wv a b f), some (wv a b g), some (.int a), some (.int b), some (.ref r1), some (.int t), v7, v8, v9, v10, v11, v12]) ∧ PW 3 PI h' ∧ Fr 3 h h' := by
    refine Ends.nxt (loopS_rng e (fun i s h' => (∃ v7 v8 v9 v10 v11 v12 : Option D, s = [some (.ref 2), some (wv a b f), some (wv a b g), some (.int a), some (.int b), some (.ref r1), some (.int t), v7, v8, v9, v10, v11, v12]) ∧ PW 3 PI h' ∧ Fr 3 h h' ∧ Hd.lst h' r1 = some zs ∧ h2.length ≤ h'.length) _ _ ?_ (fun s h' x => ⟨x.1, x.2.1, x.2.2.1⟩) ⟨⟨_, _, _, _, _, _, rfl⟩, q4, p3.trans q5, q5.lst p4 p5, q5.len⟩)
    clear e
    intro i s hh hi hyp
    obtain ⟨v7, v8, v9, v10, v11, v12, rfl⟩ := hyp.1
    have hw := hyp.2.1
    have hf := hyp.2.2.1
    have hr := hyp.2.2.2.1
    have hl := hyp.2.2.2.2
    clear hyp
    obtain ⟨x, hx, hx2⟩ : ∃ x : Nat, Int.fmod ((t : Int) + 5 * i) 32 = (x : Int) ∧ x < zs.length := by
      have := fmod_lt' (i := (t : Int) + 5 * i) (m := 32) (by omega)
      exact ⟨(Int.fmod ((t : Int) + 5 * i) 32).toNat, by omega, by omega⟩
    have ex : zs[x]? = some zs[x] := List.getElem?_eq_getElem hx2
    have bx : below hh.length zs[x] = true := below_mono hl _ (belows_mem p7.1 _ (List.getElem_mem hx2))
    have sx := p7.2.2 _ (List.getElem_mem hx2)
    generalize zs[x] = d at ex bx sx
    simp? only [hr, p6, cmul_l (i := 5) (j := (i : Int)) (by omega) (by omega), show (((32 : Nat)) : Int) = 32 from rfl, hx, atI_k ex]
    generalize hbr : R.thn _ _ _ = w
    have stay : w = .nx [some (.ref 2), some (wv a b f), some (wv a b g), some (.int a), some (.int b), some (.ref r1), some (.int t), some (.int i), some d, v9, v10, v11, v12] hh → ∃ d' v11 v12 h5, w = .nx [some (.ref 2), some (wv a b f), some (wv a b g), some (.int a), some (.int b), some (.ref r1), some (.int t), some (.int i), some d', v9, v10, v11, v12] h5 ∧ PW 3 PI h5 ∧ Fr 3 hh h5 ∧ below h5.length d' = true ∧ sz d' = true := fun e => ⟨d, v11, v12, hh, e, hw, .refl, bx, sx⟩
    obtain ⟨d', v11, v12, h5, rfl, w5, f5, b5, s5⟩ : ∃ d' v11 v12 h5, w = .nx [some (.ref 2), some (wv a b f), some (wv a b g), some (.int a), some (.int b), some (.ref r1), some (.int t), some (.int i), some d', v9, v10, v11, v12] h5 ∧ PW 3 PI h5 ∧ Fr 3 hh h5 ∧ below h5.length d' = true ∧ sz d' = true := by
      cases c : ((i : Int) == 6) with
      | false =>
        rw [c] at hbr
        simp? only [Ev.y_map_not] at hbr
        exact stay hbr.symm
      | true =>
        rw [c] at hbr
        by_cases c1 : isT d = true
        · cases d with
          | tup rs =>
            by_cases c2 : rs.length = a
            · obtain ⟨r2, h4, zs2, u1, u2, u3, u4, u5, u6, u7⟩ := near hw
              have u1' : C "_law_near" [.ref 2, wv a b g] hh = .ok (.ref r2) h4 := u1
              obtain ⟨t2, h5, x1, x2, x3, x4, x5⟩ := dice (m := 21) u2 (by omega) (by omega)
              obtain ⟨t2, rfl⟩ : ∃ t : Nat, t2 = (t : Int) := ⟨t2.toNat, by omega⟩
              have g2 : 11 + t2 < zs2.length := by omega
              have e2 : zs2[11 + t2]? = some zs2[11 + t2] := List.getElem?_eq_getElem g2
              obtain ⟨xs, hxs, lxs⟩ := u7.2.1 _ _ (by omega) e2
              have bxs := belows_mem u7.1 _ (List.getElem_mem g2)
              have sxs := u7.2.2 _ (List.getElem_mem g2)
              rw [hxs] at e2
              have bxs' : below h4.length (.tup xs) = true := by
                have := belows_mem u7.1 _ (List.mem_of_getElem? e2)
                exact this
              have sxs' : sz (.tup xs) = true := u7.2.2 _ (List.mem_of_getElem? e2)
              obtain ⟨t3, h6, y1, y2, y3, y4, y5⟩ := dice (m := (a : Int)) x4 (by omega) (by omega)
              obtain ⟨t3, rfl⟩ : ∃ t : Nat, t3 = (t : Int) := ⟨t3.toNat, by omega⟩
              have ht3 : t3 < xs.length := by omega
              have f6 := (u3.trans x5).trans y5
              have l6 := f6.len
              have l56 := (x5.trans y5).len
              have cc : ((rs.length : Int) == (a : Int)) = true := by simp; omega
              have ay : atI xs t3 = some xs[t3] := atI_k (List.getElem?_eq_getElem ht3)
              have z1 : (rs.take t3).length + 1 ≤ 1000 := by rw [List.length_take]; omega
              have a11 : atI zs2 (11 + (t2 : Int)) = some (.tup xs) := atI_k (k := 11 + t2) e2
              simp? only [cc, u1', x1, x5.lst u4 u5, a11, y1, ay, cut_take, cdk, z1, y_bin_AddT (xs := rs.take t3 ++ [xs[t3]]) (ys := rs.drop (t3 + 1)) (by simp; omega)] at hbr
              simp only [sz, Bool.and_eq_true] at sx sxs'
              refine ⟨putL rs t3 xs[t3], _, _, h6, hbr.symm, y4, f6, put_below (belows_mono l6 _ bx) (belows_mem (belows_mono l56 _ bxs') _ (List.getElem_mem ht3)), sz_put (by omega) (fun x hx => List.all_eq_true.mp sx.2 x hx) (List.all_eq_true.mp sxs'.2 _ (List.getElem_mem ht3))⟩
            · have cc : ((rs.length : Int) == (a : Int)) = false := by simp; omega
              simp? only [cc] at hbr
              exact stay hbr.symm
          | _ => simp [isT] at c1
        · have c1' : isT d = false := by simpa using c1
          simp? only [ty_t bx, c1'] at hbr
          exact stay hbr.symm
    clear hbr stay
    obtain ⟨hp1, hp2⟩ := heard_pl (a := a) (b := b) (d := d')
    have sm := same (h := h5) hp1 hp2
    have fin : PW 3 PI h5 ∧ Fr 3 h h5 ∧ Hd.lst h5 r1 = some zs ∧ h2.length ≤ h5.length := ⟨w5, hf.trans f5, f5.lst p4 hr, Nat.le_trans hl f5.len⟩
    have fa := fault (h := h5) b5
    have re := refu (h := h5) b5 s5
    unfold heardD at sm re
    cases q : flt a b d' with
    | none =>
      rw [q] at sm re fa
      simp? only [show C "_law_fault" [.int a, .int b, d'] h5 = .ok .non h5 from fa, re, cmul_l (i := (a : Int)) (j := (b : Int)) (by omega) (by omega), sm]
      exact ⟨⟨_, _, _, _, _, _, rfl⟩, fin⟩
    | some z =>
      rw [q] at sm re fa
      simp? only [show C "_law_fault" [.int a, .int b, d'] h5 = .ok (.int z) h5 from fa, re, sm]
      exact ⟨⟨_, _, _, _, _, _, rfl⟩, fin⟩
  clear e
  simp? only [Ev.y_map_not]
  obtain ⟨h4, t1, t2, t3, _⟩ := end_pure (d := .bl true) hPI hp w4 f4 rfl
  exact ⟨h4, t1, t2, t3⟩
end
end K26

set_option Elab.async false
set_option linter.all false
set_option maxRecDepth 100000
namespace K26
open PySem PySem.Spec PyProof.Rows L2 Ev
local macro_rules | `(tactic| simp? only [$xs,*]) => `(tactic| simp -implicitDefEqProofs only [Int.reduceSub, Int.reduceAdd, Int.reduceNeg, lst_new1, lst_new2, List.flatten_replicate_singleton, List.length_map, Nat.one_mul, Nat.mul_one, List.length_append, List.length_replicate, trunc_nil, trunc_new, RSat_nx, RSat_ct, RSat_bk, RSat_ret, Ends_nx, Ends_ret, lst_new, lst_0, setL_0, set_new, bind_ok', thn_ok, seq_nx, seq_ret, seq_bk, seq_ct, eqD_int, eqD_bl, Rv_some, Rb_some, truth_bl, truth_int, bifD_len, bifD_abs, bifD_int, bifD_intb, bifD_min, bifD_max, sqD_tup, sqD_len, sqD_list, sqD_sumr, sqD_sum', isL_ref, putT_v, putT_t, putTs_nil, putTs_cons, new_eq, itD_tup, itD_fl, rng1_int, rng2_int, quiet_ok, fin_ret, fin_nx, startD_eq, List.set_cons_zero, List.set_cons_succ, List.map_cons, List.map_nil, List.replicate_succ, List.replicate_zero, List.cons_append, List.nil_append, List.length_cons, List.length_nil, Option.bind_some, Option.isSome_some, Option.map_some, if_true, if_false, Bool.false_eq_true, atI_0, ite_true, ite_false, Nat.reduceAdd, Nat.reduceSub, Nat.zero_add, trunc_set0, trunc_set, trunc_id, trunc_same, belows_ints, below_int, below_bl, below_non, below_str, below_tup, belows_nil, belows_cons, Tot_ok, Bool.and_true, Bool.true_and, len_fx, len_lc, rangeD_len, wipeD_nil, wipeD_cons, eqD_str, Nat.reduceLeDiff, Int.zero_add, Int.sub_zero, Int.toNat_natCast, Int.natAbs_natCast, Int.reduceNe, Int.reduceEq, Int.reduceLT, Int.reduceLE, ne_eq, not_false_eq_true, Bool.not_true, Bool.or_false, Bool.false_or, Bool.false_and, Bool.and_false, decide_true, decide_false, beq_self_eq_true, Bool.not_not, Bool.not_false, List.lookup_cons, String.reduceBEq, y_getV_0, y_getV_s, y_v_var, y_v_int, y_v_bl, y_v_non, y_v_str, y_v_glob, y_v_bin, y_v_neg, y_v_cmp, y_v_chain, y_v_and, y_v_or, y_t_and, y_t_or, y_v_not, y_t_not, y_v_ite, y_v_tup, y_v_lst, y_v_ix, y_v_sl, y_p_hole, y_v_call, y_v_bif, y_v_seq, y_v_isi, y_v_pop, y_v_popAt, y_v_app, y_v_comp, y_q_comp, y_i_rng1, y_i_rng2, y_i_rng3, y_i_enum, y_i_zip, y_v_callk, y_v_rgs, y_v_rgs2, y_kwK_ok, y_kwD_ok, y_perm_n, y_perm_c, y_getD_0, y_getD_s, y_rgsT, y_rgsF, y_en_tup, y_en_ref, y_enK_s, y_sl_tup, y_sl_fl, y_sl_ref, y_slO_s, y_bool_b, y_bool_i, y_v_rev, y_v_ext, y_extK_ok, y_ext_ref, y_extO_s, y_str_i, y_rev_tup, y_rng3_int, y_zip_tup, y_mul_T, y_s_raise, y_raiseK_ok, y_raise_1, y_raise_2, y_bind_err, y_thn_err, y_seq_err, y_fin_err, y_s_try, y_try_nx, y_try_ret, y_try_bk, y_try_ct, y_try_err, y_tryK_t, y_tryK_f, y_hs_nil, y_hs_ret, y_hs_ifr, y_hsR_s, y_hsI_t, y_hsI_f, y_hr_a, y_hr_t, y_hrT_s, y_ha_str, y_ha_int, y_ha_non, y_ha_bl, y_ha_fld, y_ha_ite, y_haI_t, y_haI_f, y_hal_n, y_hal_c, y_halC_s, y_hq_isx, y_hq_not, y_hq_and, y_hqs_n, y_hqs_c, y_hqB_t, y_hqB_f, y_t_var, y_q_var, y_i_var, y_p_var, y_t_int, y_p_int, y_t_bl, y_t_glob, y_q_glob, y_i_glob, y_p_glob, y_t_bin, y_q_bin, y_i_bin, y_p_bin, y_p_neg, y_t_cmp, y_t_chain, y_t_ite, y_q_ite, y_i_ite, y_p_ite, y_t_tup, y_q_tup, y_i_tup, y_t_lst, y_q_lst, y_i_lst, y_t_ix, y_q_ix, y_i_ix, y_p_ix, y_t_sl, y_q_sl, y_i_sl, y_t_call, y_q_call, y_i_call, y_p_call, y_t_callk, y_q_callk, y_i_callk, y_t_rgs, y_q_rgs, y_i_rgs, y_t_bif, y_q_bif, y_i_bif, y_p_bif, y_t_seq, y_q_seq, y_i_seq, y_t_isi, y_t_pop, y_q_pop, y_i_pop, y_t_popAt, y_t_rev, y_q_rev, y_i_rev, y_i_comp, y_globK_s, y_kB_ok, y_kT_ok, y_negK_ok, y_cmpK_ok, y_chK1_ok, y_chK3_ok, y_chK2_t, y_chK2_f, y_andV_1, y_andV_2, y_orV_1, y_orV_2, y_andT_1, y_andT_2, y_orT_1, y_orT_2, y_andK_t, y_andK_f, y_orK_t, y_orK_f, y_andTK_t, y_andTK_f, y_orTK_t, y_orTK_f, y_notK_ok, y_notTK_ok, y_iteK_t, y_iteK_f, y_tupK_ok, y_lstK_ok, y_evMs_nil, y_evMs_cons, y_allV_n, y_allV_c, y_allK_ok, y_consK_ok, y_isiK_ok, y_popAtK_ok, y_appK_ok, y_slK1_ok, y_slK2_ok, y_compK_ok, y_compN_ok, y_truK_ok, y_seqK_tup, y_seqK_fl, y_seqK_ref, y_seqO_s, y_intK_ok, y_ifsT_n, y_ifsT_1, y_turnC_ok, y_turnP_s, y_turnK_t, y_turnK_f, y_turnK2_ok, y_s_nil, y_s_cons, y_s_expr, y_s_asg, y_s_setix, y_s_aug, y_s_if, y_s_for, y_s_while, y_s_ret, y_s_retn, y_s_brk, y_s_cont, y_s_pass, y_exprK_ok, y_putK_s, y_asgK_ok, y_setK1_ok, y_setK2_ok, y_setK3_ok, y_setK4_ok, y_augK1_ok, y_augK2_ok, y_augK3_ok, y_brK_t, y_brK_f, y_forK_ok, y_retK_ok, y_turnS_v, y_turnS_t, y_bin_Add, y_bin_AddT, y_bin_AddR, y_addO_s, y_bin_MultR2, y_mulO_s, y_bin_Sub, y_bin_Mult, y_bin_MultW, y_bin_MultR, y_bin_MultL, y_bin_Mod, y_bin_Div, y_bin_DivL, y_bin_PowL, y_bin_ShlL, y_bin_Pow, y_bin_Shl, y_bin_Shr, y_bin_And, y_bin_Or, y_bin_Xor, y_aug_Add, y_aug_Sub, y_cmp_Lt, y_cmp_LtE, y_cmp_Gt, y_cmp_GtE, y_cmp_Eq, y_cmp_NotEq, y_cmp_Is, y_cmp_IsNot, y_isNon_non, y_isNon_int, y_isNon_bl, y_isNon_tup, y_isNon_ref, y_isNon_str, y_ty_bool_non, y_ty_bool_bl, y_ty_bool_int, y_ty_bool_str, y_ty_bool_tup, y_ty_bool_fl, y_ty_bool_ref, y_ty_int_non, y_ty_int_bl, y_ty_int_int, y_ty_int_str, y_ty_int_tup, y_ty_int_fl, y_ty_int_ref, y_ty_str_non, y_ty_str_bl, y_ty_str_int, y_ty_str_str, y_ty_str_tup, y_ty_str_fl, y_ty_str_ref, y_ty_list_non, y_ty_list_bl, y_ty_list_int, y_ty_list_str, y_ty_list_tup, y_ty_list_fl, y_ty_list_ref, y_ty_tuple_non, y_ty_tuple_bl, y_ty_tuple_int, y_ty_tuple_str, y_ty_tuple_tup, y_ty_tuple_fl, y_ty_tuple_ref, y_at_s, y_ix_tup, y_ix_fl, y_ix_ref, y_ixK_s, y_len_tup, y_len_fl, y_len_ref, y_lenK_s, y_it_ref, y_itK_s, y_at_1, y_at_2, y_tyK_s, y_map_not, $xs,*])
section
variable {G : Str → Option D} {k : Nat} {h h0 : Hd} {p : Nat} {m n : Int} {is : List Int}
theorem fb_at {i : Nat} : ∀ {j : Nat} {rs : List D}, (∀ r d, r < i → rs[r]? = some d → good d = true) → (∃ d, rs[i]? = some d ∧ good d = false) → fb j rs = some (j + i) := by
  induction i with
  | zero =>
    rintro j rs _ ⟨d, e, g⟩
    cases rs with
    | nil => simp at e
    | cons r rs =>
      have : r = d := by simpa using e
      unfold fb
      rw [this, g]
      rfl
  | succ i ih =>
    rintro j rs hg ⟨d, e, g⟩
    cases rs with
    | nil => simp at e
    | cons r rs =>
      have gr := hg 0 r (by omega) rfl
      unfold fb
      rw [if_pos gr, ih (fun q d hq e => hg (q + 1) d (by omega) (by simpa using e)) ⟨d, by simpa using e, g⟩]
      congr 1
      omega
def RowP (b : Nat) (d : D) : Prop := ∃ xs, d = .tup xs ∧ xs.length = b ∧ belows 0 xs = true
def Late (a b i idx : Nat) (zs : List D) : Prop := zs.length = a ∧ (∀ d ∈ zs, RowP b d) ∧ (∀ r d, r < i → zs[r]? = some d → good d = true) ∧ (0 < idx → ∃ d, zs[i]? = some d ∧ good d = false)
theorem late_flt {a b i idx : Nat} {zs : List D} (x : Late a b i idx zs) (h0 : 0 < idx) : flt a b (.tup zs) = some (i : Int) := by
  obtain ⟨rfl, h2, h3, h4⟩ := x
  have c : zs.all (rowB b) = true := List.all_eq_true.mpr fun d hd => by
    obtain ⟨xs, rfl, l, _⟩ := h2 d hd
    exact decide_eq_true l
  rw [flt_t, if_pos c, fb_at h3 (h4 h0), Nat.zero_add]
  rfl
theorem late_sz {a b i idx : Nat} {zs : List D} (x : Late a b i idx zs) (ha : a ≤ 12) (hb : b ≤ 12) : sz (.tup zs) = true ∧ ∀ n, belows n zs = true := by
  obtain ⟨h1, h2, h3, h4⟩ := x
  refine ⟨sz_tup (by omega) fun d hd => ?_, fun n => belows_of fun d hd => ?_⟩
  · obtain ⟨xs, rfl, l, _⟩ := h2 d hd
    exact decide_eq_true (by omega)
  · obtain ⟨xs, rfl, l, bx⟩ := h2 d hd
    exact belows_mono (Nat.zero_le _) _ bx
theorem bad_row {xs : List D} {j : Nat} {d : D} (hd : okP d = false) : good (putL xs j d) = false := by
  show (xs.take j ++ [d] ++ xs.drop (j + 1)).all okP = false
  rw [List.all_append, List.all_append]
  simp [hd]
theorem late_ok {a b : Nat} {f g : Nat → Nat → Int} (hp : PW 3 PI h) (hG : G "PRICE_MOST" = some (.int 1000000)) (ha0 : 0 < a) (hb0 : 0 < b) (ha : a ≤ 12) (hb : b ≤ 12) (hg : ∀ i j, i < a → j < b → Pr (g i j)) :
    ∃ h', callF G prog.T 4000 (k + 5) "_law_wrong_late" [.ref 2, wv a b f, wv a b g] h = .ok (.bl true) h' ∧ PW 3 PI h' ∧ Fr 3 h h' := by
  rw [call_eq (fn := f_law_wrong_late) rfl rfl]
  have dice := fun {m : Int} {h : Hd} (hp : PW 3 PI h) (hm : 0 < m) (hm2 : m < 1000) => dice_p (G := G) (F := 4000) (k := k + 3) (m := m) (h := h) hp hm hm2 (by omega)
  have refu := fun {d : D} {h : Hd} (hd : below h.length d = true) (hs : sz d = true) => refusal_ok (G := G) (F := 4000) (k := k) (a := a) (b := b) (f := f) (d := d) (h := h) hd ha0 ha hb hG (sz_use hs)
  have same := fun {d : D} {h : Hd} (hp : pl d = true) (hn : nd d ≤ 10) => same_ok (G := G) (F := 4000) (k := k + 3) (d := d) (h := h) hp (by omega) (by omega) (by omega)
  generalize callF G prog.T 4000 (k + 4) = C at dice refu same
  have hq := hp.le
  have i0 : ∀ h, ixD (wv a b f) (.int 0) h = .ok (rowD b (f 0)) h := fun h => ix_wv ha0
  obtain ⟨t1, h2, p1, p2, p3, p4, p5⟩ := dice (m := (a : Int)) hp (by omega) (by omega)
  obtain ⟨i, rfl⟩ : ∃ i : Nat, t1 = (i : Int) := ⟨t1.toNat, by omega⟩
  obtain ⟨t2, h3, q1, q2, q3, q4, q5⟩ := dice (m := (a : Int) - i) p4 (by omega) (by omega)
  obtain ⟨l, hl⟩ : ∃ l : Nat, (i : Int) + t2 = (l : Int) := ⟨((i : Int) + t2).toNat, by omega⟩
  have f3 := p5.trans q5
  have k3 := f3.len
  simp? only [f_law_wrong_late, len_wv, i0, len_rowD, p1, q1, hl, show seqK (wv a b g) h3 = .ok (wrs a b g) h3 from rfl]
  have lt0 : Late a b i 0 (wrs a b g) := by
    refine ⟨wrs_len, fun d hd => ?_, fun r d hr e => ?_, fun x => absurd x (Nat.lt_irrefl _)⟩
    · obtain ⟨es, rfl, l, _⟩ := wv_rows hg d hd
      exact ⟨_, rfl, by simpa using l, belows_ints es⟩
    · obtain ⟨es, rfl, l, pe⟩ := wv_rows hg d (List.mem_of_getElem? e)
      show (es.map D.int).all okP = true
      refine List.all_eq_true.mpr fun x hx => ?_
      obtain ⟨y, hy, rfl⟩ := List.mem_map.mp hx
      have := pe y hy
      simp only [okP, decide_eq_true this.1, decide_eq_true this.2, Bool.and_self]
  generalize e : loopS _ _ _ _ _ _ = w
  obtain ⟨s', h', rfl, ⟨v8, v9, rfl⟩, w4, f4, zs, e4, x4⟩ : ∃ s' h', w = .nx s' h' ∧ (∃ v8 v9 : Option D, s' = [some (.ref 2), some (wv a b f), some (wv a b g), some (.int a), some (.int b), some (.int i), some (.int l), some (.ref h3.length), v8, v9]) ∧ PW 3 PI h' ∧ Fr 3 h h' ∧ ∃ zs, Hd.lst h' h3.length = some zs ∧ Late a b i 2 zs := by
    refine Ends.nxt (loopS_lc (xs := [.int i, .int l]) e rfl (fun n s h' => (∃ v8 v9 : Option D, s = [some (.ref 2), some (wv a b f), some (wv a b g), some (.int a), some (.int b), some (.int i), some (.int l), some (.ref h3.length), v8, v9]) ∧ PW 3 PI h' ∧ Fr 3 h h' ∧ Hd.lst h' (h3.length + 1) = some [.int i, .int l] ∧ ∃ zs, Hd.lst h' h3.length = some zs ∧ Late a b i n zs) _ _ (fun n s h' x => x.2.2.2.1) ?_ (fun s h' x => ⟨x.1, x.2.1, x.2.2.1, x.2.2.2.2⟩) ⟨⟨_, _, rfl⟩, q4.app.app, f3.app.app, by
      have := lst_new (h := h3 ++ [O.lst (wrs a b g)]) (xs := [.int i, .int l])
      simpa using this, _, lst_old lst_new, lt0⟩)
    clear e
    intro n x s hh hx hyp
    obtain ⟨v8, v9, rfl⟩ := hyp.1
    have hw := hyp.2.1
    have hf := hyp.2.2.1
    have ho := hyp.2.2.2.1
    have hz := hyp.2.2.2.2
    clear hyp
    refine hz.elim ?_
    intro zs hzs
    have e1 := hzs.1
    have x1 := hzs.2
    clear hzs hz
    obtain ⟨w, rfl, hwa, hiw, hn⟩ : ∃ w : Nat, x = .int w ∧ w < a ∧ i ≤ w ∧ (n = 0 → w = i) := by
      match n, hx with
      | 0, hx => exact ⟨i, by simpa using hx.symm, by omega, Nat.le_refl _, fun _ => rfl⟩
      | 1, hx => exact ⟨l, by simpa using hx.symm, by omega, by omega, fun h => absurd h (by omega)⟩
    obtain ⟨t3, h5, u1, u2, u3, u4, u5⟩ := dice (m := (b : Int)) hw (by omega) (by omega)
    obtain ⟨j, rfl⟩ : ∃ j : Nat, t3 = (j : Int) := ⟨t3.toNat, by omega⟩
    have hq3 : 3 ≤ h3.length := by omega
    have lzs := x1.1
    obtain ⟨xs, exs, lxs, bxs⟩ := x1.2.1 _ (List.getElem_mem (show w < zs.length by omega))
    have ew : zs[w]? = some (.tup xs) := by rw [List.getElem?_eq_getElem (by omega), exs]
    have e5 := u5.lst hq3 e1
    have o5 := u5.lst (by omega) ho
    obtain ⟨t4, h6, y1, y2, y3, y4, y5⟩ := dice (m := 4) (u4.app (o := [O.lst [.non, .bl true, .str (Str.ofString "x"), .int ((10 : Int) ^ Int.toNat 6 + 1)]])) (by omega) (by omega)
    obtain ⟨bd, hbd, okb, bl0⟩ : ∃ d, atI [D.non, .bl true, .str (Str.ofString "x"), .int ((10 : Int) ^ Int.toNat 6 + 1)] t4 = some d ∧ okP d = false ∧ below 0 d = true := by
      obtain rfl | rfl | rfl | rfl : t4 = 0 ∨ t4 = 1 ∨ t4 = 2 ∨ t4 = 3 := by omega
      · exact ⟨_, rfl, rfl, rfl⟩
      · exact ⟨_, rfl, rfl, rfl⟩
      · exact ⟨_, rfl, rfl, rfl⟩
      · exact ⟨_, rfl, rfl, rfl⟩
    have k5 := u4.le
    have o6 : Hd.lst h6 h5.length = some [.non, .bl true, .str (Str.ofString "x"), .int ((10 : Int) ^ Int.toNat 6 + 1)] := y5.lst k5 lst_new
    have e6 := y5.lst hq3 (lst_old (o := [O.lst [.non, .bl true, .str (Str.ofString "x"), .int ((10 : Int) ^ Int.toNat 6 + 1)]]) e5)
    have p6 := y5.lst (by omega) (lst_old (o := [O.lst [.non, .bl true, .str (Str.ofString "x"), .int ((10 : Int) ^ Int.toNat 6 + 1)]]) o5)
    have z1 : (xs.take j).length + 1 ≤ 1000 := by rw [List.length_take]; omega
    have f6 : Fr 3 hh h6 := u5.trans (⟨by have := y5.len; simp at this; omega, fun l x y => by rw [y5.eq l x (by simp; omega), List.getElem?_append_left y]⟩ : Fr 3 h5 h6)
    simp? only [u1, e5, atI_k ew, cut_take, y1, o6, hbd, e6, cdk, z1, y_bin_AddT (xs := xs.take j ++ [bd]) (ys := xs.drop (j + 1)) (by simp; omega), setD_k e6 (show w < zs.length by omega)]
    refine ⟨⟨_, _, rfl⟩, y4.set hq3, (hf.trans f6).set (.inr k3), ?_, zs.set w (putL xs j bd), lst_at (lst_lt e6), ?_⟩
    · rw [lst_set_ne (by omega)]
      exact p6
    · refine ⟨by simp [lzs], fun d hd => ?_, fun r d hr hd => ?_, fun _ => ?_⟩
      · rcases List.mem_or_eq_of_mem_set hd with hd | rfl
        · exact x1.2.1 d hd
        · exact ⟨_, rfl, by rw [put_len (by omega)]; exact lxs, by
            have := put_below (i := j) bxs bl0
            exact this⟩
      · rw [List.getElem?_set_ne (by omega)] at hd
        exact x1.2.2.1 r d hr hd
      · by_cases c : w = i
        · subst c
          exact ⟨putL xs j bd, by rw [List.getElem?_set_self (by omega)], bad_row okb⟩
        · obtain ⟨d, hd, hb⟩ := x1.2.2.2 (by
            by_cases n0 : n = 0
            · exact absurd (hn n0) c
            · omega)
          exact ⟨d, by rw [List.getElem?_set_ne c]; exact hd, hb⟩
  clear e
  obtain ⟨s4, b4⟩ := late_sz x4 ha hb
  have fl := late_flt x4 (by omega)
  have re := refu (h := h') (d := .tup zs) (b4 _) s4
  obtain ⟨hp1, hp2⟩ := heard_pl (a := a) (b := b) (d := .tup zs)
  have sm := same (h := h') hp1 hp2
  have lzs := x4.1
  have hla : l < zs.length := by omega
  obtain ⟨xs, exs, lxs, bxs⟩ := x4.2.1 _ (List.getElem_mem hla)
  have ew : zs[l]? = some (.tup xs) := by rw [List.getElem?_eq_getElem hla, exs]
  have bset : ∀ n, belows n (zs.set l (.tup (xs.drop 1))) = true := fun n => belows_of fun d hd => by
    rcases List.mem_or_eq_of_mem_set hd with hd | rfl
    · exact belows_mem (b4 n) d hd
    · exact belows_of fun x hx => belows_mem (belows_mono (Nat.zero_le _) _ bxs) x (List.mem_of_mem_drop hx)
  have sset : sz (.tup (zs.set l (.tup (xs.drop 1)))) = true := by
    simp only [sz, Bool.and_eq_true] at s4
    refine sz_tup (by simp; omega) fun d hd => ?_
    rcases List.mem_or_eq_of_mem_set hd with hd | rfl
    · exact List.all_eq_true.mp s4.2 d hd
    · exact decide_eq_true (by simp; omega)
  have fl2 : flt a b (.tup (zs.set l (.tup (xs.drop 1)))) = some (-1) := by
    have c : (zs.set l (.tup (xs.drop 1))).all (rowB b) = false := by
      rw [List.all_eq_false]
      refine ⟨.tup (xs.drop 1), List.mem_iff_getElem?.mpr ⟨l, by rw [List.getElem?_set_self hla]⟩, ?_⟩
      simp only [rowB, decide_eq_true_eq, List.length_drop]
      omega
    unfold flt
    dsimp only
    rw [c]
    simp
  have w7 : PW 3 PI (setL h3.length (zs.set l (.tup (xs.drop 1))) h') := w4.set (by omega)
  have f7 : Fr 3 h (setL h3.length (zs.set l (.tup (xs.drop 1))) h') := f4.set (.inr k3)
  have re2 := refu (h := setL h3.length (zs.set l (.tup (xs.drop 1))) h') (d := .tup (zs.set l (.tup (xs.drop 1)))) (bset _) sset
  obtain ⟨hp3, hp4⟩ := heard_pl (a := a) (b := b) (d := .tup (zs.set l (.tup (xs.drop 1))))
  have sm2 := same (h := setL h3.length (zs.set l (.tup (xs.drop 1))) h') hp3 hp4
  unfold heardD at sm re sm2 re2
  rw [fl] at sm re
  rw [fl2] at sm2 re2
  simp? only [e4, re, sm, atI_k ew, cd1, setD_k e4 hla, lst_at (lst_lt e4), re2, sm2]
  obtain ⟨h8, t1, t2, t3, _⟩ := end_pure (d := .bl true) hPI hp w7 f7 rfl
  exact ⟨h8, t1, t2, t3⟩
end
end K26

set_option Elab.async false
set_option linter.all false
set_option maxRecDepth 100000
namespace K26
open PySem PySem.Spec PyProof.Rows L2 Ev
local macro_rules | `(tactic| simp? only [$xs,*]) => `(tactic| simp -implicitDefEqProofs only [Int.reduceSub, Int.reduceAdd, Int.reduceNeg, lst_new1, lst_new2, List.flatten_replicate_singleton, List.length_map, Nat.one_mul, Nat.mul_one, List.length_append, List.length_replicate, trunc_nil, trunc_new, RSat_nx, RSat_ct, RSat_bk, RSat_ret, Ends_nx, Ends_ret, lst_new, lst_0, setL_0, set_new, bind_ok', thn_ok, seq_nx, seq_ret, seq_bk, seq_ct, eqD_int, eqD_bl, Rv_some, Rb_some, truth_bl, truth_int, bifD_len, bifD_abs, bifD_int, bifD_intb, bifD_min, bifD_max, sqD_tup, sqD_len, sqD_list, sqD_sumr, sqD_sum', isL_ref, putT_v, putT_t, putTs_nil, putTs_cons, new_eq, itD_tup, itD_fl, rng1_int, rng2_int, quiet_ok, fin_ret, fin_nx, startD_eq, List.set_cons_zero, List.set_cons_succ, List.map_cons, List.map_nil, List.replicate_succ, List.replicate_zero, List.cons_append, List.nil_append, List.length_cons, List.length_nil, Option.bind_some, Option.isSome_some, Option.map_some, if_true, if_false, Bool.false_eq_true, atI_0, ite_true, ite_false, Nat.reduceAdd, Nat.reduceSub, Nat.zero_add, trunc_set0, trunc_set, trunc_id, trunc_same, belows_ints, below_int, below_bl, below_non, below_str, below_tup, belows_nil, belows_cons, Tot_ok, Bool.and_true, Bool.true_and, len_fx, len_lc, rangeD_len, wipeD_nil, wipeD_cons, eqD_str, Nat.reduceLeDiff, Int.zero_add, Int.sub_zero, Int.toNat_natCast, Int.natAbs_natCast, Int.reduceNe, Int.reduceEq, Int.reduceLT, Int.reduceLE, ne_eq, not_false_eq_true, Bool.not_true, Bool.or_false, Bool.false_or, Bool.false_and, Bool.and_false, decide_true, decide_false, beq_self_eq_true, Bool.not_not, Bool.not_false, List.lookup_cons, String.reduceBEq, y_getV_0, y_getV_s, y_v_var, y_v_int, y_v_bl, y_v_non, y_v_str, y_v_glob, y_v_bin, y_v_neg, y_v_cmp, y_v_chain, y_v_and, y_v_or, y_t_and, y_t_or, y_v_not, y_t_not, y_v_ite, y_v_tup, y_v_lst, y_v_ix, y_v_sl, y_p_hole, y_v_call, y_v_bif, y_v_seq, y_v_isi, y_v_pop, y_v_popAt, y_v_app, y_v_comp, y_q_comp, y_i_rng1, y_i_rng2, y_i_rng3, y_i_enum, y_i_zip, y_v_callk, y_v_rgs, y_v_rgs2, y_kwK_ok, y_kwD_ok, y_perm_n, y_perm_c, y_getD_0, y_getD_s, y_rgsT, y_rgsF, y_en_tup, y_en_ref, y_enK_s, y_sl_tup, y_sl_fl, y_sl_ref, y_slO_s, y_bool_b, y_bool_i, y_v_rev, y_v_ext, y_extK_ok, y_ext_ref, y_extO_s, y_str_i, y_rev_tup, y_rng3_int, y_zip_tup, y_mul_T, y_s_raise, y_raiseK_ok, y_raise_1, y_raise_2, y_bind_err, y_thn_err, y_seq_err, y_fin_err, y_s_try, y_try_nx, y_try_ret, y_try_bk, y_try_ct, y_try_err, y_tryK_t, y_tryK_f, y_hs_nil, y_hs_ret, y_hs_ifr, y_hsR_s, y_hsI_t, y_hsI_f, y_hr_a, y_hr_t, y_hrT_s, y_ha_str, y_ha_int, y_ha_non, y_ha_bl, y_ha_fld, y_ha_ite, y_haI_t, y_haI_f, y_hal_n, y_hal_c, y_halC_s, y_hq_isx, y_hq_not, y_hq_and, y_hqs_n, y_hqs_c, y_hqB_t, y_hqB_f, y_t_var, y_q_var, y_i_var, y_p_var, y_t_int, y_p_int, y_t_bl, y_t_glob, y_q_glob, y_i_glob, y_p_glob, y_t_bin, y_q_bin, y_i_bin, y_p_bin, y_p_neg, y_t_cmp, y_t_chain, y_t_ite, y_q_ite, y_i_ite, y_p_ite, y_t_tup, y_q_tup, y_i_tup, y_t_lst, y_q_lst, y_i_lst, y_t_ix, y_q_ix, y_i_ix, y_p_ix, y_t_sl, y_q_sl, y_i_sl, y_t_call, y_q_call, y_i_call, y_p_call, y_t_callk, y_q_callk, y_i_callk, y_t_rgs, y_q_rgs, y_i_rgs, y_t_bif, y_q_bif, y_i_bif, y_p_bif, y_t_seq, y_q_seq, y_i_seq, y_t_isi, y_t_pop, y_q_pop, y_i_pop, y_t_popAt, y_t_rev, y_q_rev, y_i_rev, y_i_comp, y_globK_s, y_kB_ok, y_kT_ok, y_negK_ok, y_cmpK_ok, y_chK1_ok, y_chK3_ok, y_chK2_t, y_chK2_f, y_andV_1, y_andV_2, y_orV_1, y_orV_2, y_andT_1, y_andT_2, y_orT_1, y_orT_2, y_andK_t, y_andK_f, y_orK_t, y_orK_f, y_andTK_t, y_andTK_f, y_orTK_t, y_orTK_f, y_notK_ok, y_notTK_ok, y_iteK_t, y_iteK_f, y_tupK_ok, y_lstK_ok, y_evMs_nil, y_evMs_cons, y_allV_n, y_allV_c, y_allK_ok, y_consK_ok, y_isiK_ok, y_popAtK_ok, y_appK_ok, y_slK1_ok, y_slK2_ok, y_compK_ok, y_compN_ok, y_truK_ok, y_seqK_tup, y_seqK_fl, y_seqK_ref, y_seqO_s, y_intK_ok, y_ifsT_n, y_ifsT_1, y_turnC_ok, y_turnP_s, y_turnK_t, y_turnK_f, y_turnK2_ok, y_s_nil, y_s_cons, y_s_expr, y_s_asg, y_s_setix, y_s_aug, y_s_if, y_s_for, y_s_while, y_s_ret, y_s_retn, y_s_brk, y_s_cont, y_s_pass, y_exprK_ok, y_putK_s, y_asgK_ok, y_setK1_ok, y_setK2_ok, y_setK3_ok, y_setK4_ok, y_augK1_ok, y_augK2_ok, y_augK3_ok, y_brK_t, y_brK_f, y_forK_ok, y_retK_ok, y_turnS_v, y_turnS_t, y_bin_Add, y_bin_AddT, y_bin_AddR, y_addO_s, y_bin_MultR2, y_mulO_s, y_bin_Sub, y_bin_Mult, y_bin_MultW, y_bin_MultR, y_bin_MultL, y_bin_Mod, y_bin_Div, y_bin_DivL, y_bin_PowL, y_bin_ShlL, y_bin_Pow, y_bin_Shl, y_bin_Shr, y_bin_And, y_bin_Or, y_bin_Xor, y_aug_Add, y_aug_Sub, y_cmp_Lt, y_cmp_LtE, y_cmp_Gt, y_cmp_GtE, y_cmp_Eq, y_cmp_NotEq, y_cmp_Is, y_cmp_IsNot, y_isNon_non, y_isNon_int, y_isNon_bl, y_isNon_tup, y_isNon_ref, y_isNon_str, y_ty_bool_non, y_ty_bool_bl, y_ty_bool_int, y_ty_bool_str, y_ty_bool_tup, y_ty_bool_fl, y_ty_bool_ref, y_ty_int_non, y_ty_int_bl, y_ty_int_int, y_ty_int_str, y_ty_int_tup, y_ty_int_fl, y_ty_int_ref, y_ty_str_non, y_ty_str_bl, y_ty_str_int, y_ty_str_str, y_ty_str_tup, y_ty_str_fl, y_ty_str_ref, y_ty_list_non, y_ty_list_bl, y_ty_list_int, y_ty_list_str, y_ty_list_tup, y_ty_list_fl, y_ty_list_ref, y_ty_tuple_non, y_ty_tuple_bl, y_ty_tuple_int, y_ty_tuple_str, y_ty_tuple_tup, y_ty_tuple_fl, y_ty_tuple_ref, y_at_s, y_ix_tup, y_ix_fl, y_ix_ref, y_ixK_s, y_len_tup, y_len_fl, y_len_ref, y_lenK_s, y_it_ref, y_itK_s, y_at_1, y_at_2, y_tyK_s, y_map_not, $xs,*])
section
variable {G : Str → Option D} {k : Nat} {h h0 : Hd} {p : Nat} {m n : Int} {is : List Int}
theorem atW {a b i : Nat} {f : Nat → Nat → Int} (hi : i < a) : atI (wrs a b f) (i : Int) = some (rowD b (f i)) := atI_k (by simp [wrs, hi])
theorem flt_ok {a b : Nat} {g : Nat → Nat → Int} (hg : ∀ i j, i < a → j < b → Pr (g i j)) : flt a b (wv a b g) = none := by
  have c : (wrs a b g).all (rowB b) = true := List.all_eq_true.mpr fun d hd => by
    obtain ⟨es, rfl, l, _⟩ := wv_rows hg d hd
    exact decide_eq_true (by simpa using l)
  have q : ∀ {rs : List D} {j : Nat}, (∀ d ∈ rs, good d = true) → fb j rs = none := by
    intro rs
    induction rs with
    | nil => intros; rfl
    | cons r rs ih =>
      intro j hx
      unfold fb
      rw [if_pos (hx r List.mem_cons_self)]
      exact ih fun d hd => hx d (List.mem_cons_of_mem _ hd)
  show (if decide ((wrs a b g).length = a) = true ∧ (wrs a b g).all (rowB b) = true then toI (fb 0 (wrs a b g)) else some (-1)) = none
  rw [c, wrs_len, decide_eq_true rfl, if_pos ⟨rfl, rfl⟩, q]
  · rfl
  · intro d hd
    obtain ⟨es, rfl, l, pe⟩ := wv_rows hg d hd
    refine List.all_eq_true.mpr fun x hx => ?_
    obtain ⟨y, hy, rfl⟩ := List.mem_map.mp hx
    have := pe y hy
    simp only [okP, decide_eq_true this.1, decide_eq_true this.2, Bool.and_self]
theorem sz_wv {p : Int → Prop} {a b : Nat} {g : Nat → Nat → Int} (ha : a ≤ 12) (hb : b ≤ 12) : sz (wv a b g) = true := by
  refine sz_tup (xs := wrs a b g) (by rw [wrs_len]; omega) fun d hd => ?_
  obtain ⟨es, rfl, l, _⟩ := wv_rows (p := Any) (fun _ _ _ _ => trivial) d hd
  exact decide_eq_true (by simp; omega)
theorem asked_ok {a b : Nat} (hp : PW 3 PI h) (hG : G "PRICE_MOST" = some (.int 1000000)) (ha0 : 0 < a) (hb0 : 0 < b) (ha : a ≤ 12) (hb : b ≤ 12) :
    ∃ h', callF G prog.T 4000 (k + 6) "_law_asked" [.ref 2, .int a, .int b] h = .ok (.bl true) h' ∧ PW 3 PI h' ∧ Fr 3 h h' := by
  rw [call_eq (fn := f_law_asked) rfl rfl]
  have dice := fun {m : Int} {h : Hd} (hp : PW 3 PI h) (hm : 0 < m) (hm2 : m < 1000) => dice_p (G := G) (F := 4000) (k := k + 4) (m := m) (h := h) hp hm hm2 (by omega)
  have refu := fun {f : Nat → Nat → Int} {d : D} {h : Hd} (hd : below h.length d = true) (hs : sz d = true) => refusal_ok (G := G) (F := 4000) (k := k + 1) (a := a) (b := b) (f := f) (d := d) (h := h) hd ha0 ha hb hG (sz_use hs)
  have same := fun {d : D} {h : Hd} (hp : pl d = true) (hn : nd d ≤ 10) => same_ok (G := G) (F := 4000) (k := k + 4) (d := d) (h := h) hp (by omega) (by omega) (by omega)
  have drawn := fun {h : Hd} (hp : PW 3 PI h) => drawn_ok (G := G) (F := 4000) (k := k + 2) (a := a) (b := b) (h := h) hp ha hb (by omega)
  have priced := fun {h : Hd} (hp : PW 3 PI h) => priced_ok (G := G) (F := 4000) (k := k + 2) (a := a) (b := b) (h := h) hp ha hb (by omega)
  have costs := fun {f g : Nat → Nat → Int} {h : Hd} (hs : ∀ i j, i < a → j < b → Sm (f i j)) => cost_ok (G := G) (F := 4000) (k := k + 4) (h := h) (g := g) ha hb hs
  have judged := fun {f g : Nat → Nat → Int} {h : Hd} (hp : PW 3 PI h) (hg : ∀ i j, i < a → j < b → Pr (g i j)) => judged_ok (G := G) (k := k) (a := a) (b := b) (f := f) (g := g) (h := h) hp hG ha0 hb0 ha hb hg
  have late := fun {f g : Nat → Nat → Int} {h : Hd} (hp : PW 3 PI h) (hg : ∀ i j, i < a → j < b → Pr (g i j)) => late_ok (G := G) (k := k) (a := a) (b := b) (f := f) (g := g) (h := h) hp hG ha0 hb0 ha hb hg
  generalize callF G prog.T 4000 (k + 5) = C at dice refu same drawn priced costs judged late
  have hq := hp.le
  obtain ⟨f, h2, p1, p2, p3, hf⟩ := drawn hp
  obtain ⟨g, h3, q1, q2, q3, hg⟩ := priced p2
  have hs : ∀ i j, i < a → j < b → Sm (f i j) := fun i j hi hj => by
    have := hf i j hi hj
    exact ⟨by have := this.1; omega, by have := this.2; omega⟩
  have re := refu (f := f) (h := h3) (d := wv a b g) wv_below (sz_wv (p := Any) ha hb)
  have sm := same (h := h3) (d := .tup [.str "told", .int ((a : Int) * b)]) (by simp only [pl, pls, so2, Bool.and_true]) (by simp [nd, nds])
  unfold heardD at re
  rw [flt_ok hg] at re
  have sI : ∀ (z : Int) (h : Hd), C "_law_same" [.int z, .int z] h = .ok (.bl true) h := fun z h => same rfl (by simp [nd])
  simp? only [f_law_asked, p1, q1, re, cmul_l (i := (a : Int)) (j := (b : Int)) (by omega) (by omega), sm, small_k (n := a) (by omega)]
  generalize e : loopS _ _ _ _ _ _ = w
  obtain ⟨s', rfl, v6, v12, rfl⟩ := loopS_rngm e (fun i s => ∃ v6 v12 : Option D, s = [some (.ref 2), some (.int a), some (.int b), some (wv a b f), some (wv a b g), some (.int ((List.range i).map fun i => rcost b (g i) (f i)).sum), v6, none, none, none, none, none, v12, none, none, none]) (fun i s hi hs' => by
    obtain ⟨v6, v12, rfl⟩ := hs'
    simp? only [small_k (n := b) (by omega)]
    generalize e : loopS _ _ _ _ _ _ = w
    obtain ⟨s', rfl, v12', rfl⟩ := loopS_rngm e (fun j s => ∃ v12 : Option D, s = [some (.ref 2), some (.int a), some (.int b), some (wv a b f), some (wv a b g), some (.int (((List.range i).map fun i => rcost b (g i) (f i)).sum + ((List.range j).map fun j => if f i j = 1 then g i j else 0).sum)), some (.int i), none, none, none, none, none, v12, none, none, none]) (fun j s hj hs' => by
      obtain ⟨v12, rfl⟩ := hs'
      by_cases c : f i j = 1
      · simp? only [ix_wv (f := f) hi, ix_wv (f := g) hi, ix_rowD (f := f i) hj, ix_rowD (f := g i) hj, show (f i j == 1) = true by simp [c]]
        exact ⟨_, rfl, _, by rw [sumr_s, if_pos c, Int.add_assoc]⟩
      · simp? only [ix_wv (f := f) hi, ix_rowD (f := f i) hj, show (f i j == 1) = false by simp [c]]
        exact ⟨_, rfl, _, by rw [sumr_s, if_neg c, Int.add_zero]⟩) ⟨v12, by rw [sumr_0, Int.add_zero]⟩
    clear e
    exact ⟨_, rfl, _, _, by rw [sumr_s, rcost_if fun j hj => hf i j hi hj]⟩) ⟨none, none, rfl⟩
  clear e
  have cs : ∀ (g' : Nat → Nat → Int) (h : Hd), C "cost_of" [wv a b g', wv a b f] h = .ok (.int (cost a b g' f)) h := fun g' h => costs hs
  have cs' : ∀ (g' : Nat → Nat → Int) (h : Hd), C "cost_of" [.tup (wrs a b g'), wv a b f] h = .ok (.int (cost a b g' f)) h := cs
  have e1 : ((List.range a).map fun i => rcost b (g i) (f i)).sum = cost a b g f := rfl
  simp? only [cs, e1, sI, it_wv, wrs_len]
  generalize e : loopC _ _ _ _ _ _ = w
  obtain rfl : w = .ok (wrs a b fun i j => (g i j).fdiv 2 * 2) h3 := loopC_rmap (E := fun i => rowD b (g i)) e (by omega) (fun i hi => by
    simp? only [it_rowD, List.length_range]
    generalize e : loopC _ _ _ _ _ _ = w
    obtain rfl := loopC_rmap (E := fun j => .int (g i j)) (g := fun j => .int ((g i j).fdiv 2 * 2)) e (by omega) (fun j hj => by simp? only [Ev.y_map_not])
    clear e
    simp? only [Ev.y_map_not]
    rfl)
  clear e
  simp? only [it_wv, wrs_len]
  generalize e : loopC _ _ _ _ _ _ = w
  obtain rfl : w = .ok (wrs a b fun i j => (g i j).fdiv 2) h3 := loopC_rmap (E := fun i => rowD b (g i)) e (by omega) (fun i hi => by
    simp? only [it_rowD, List.length_range]
    generalize e : loopC _ _ _ _ _ _ = w
    obtain rfl := loopC_rmap (E := fun j => .int (g i j)) (g := fun j => .int ((g i j).fdiv 2)) e (by omega) (fun j hj => by simp? only [Ev.y_map_not])
    clear e
    simp? only [Ev.y_map_not]
    rfl)
  clear e
  have hsm : ∀ x i j, i < a → j < b → CMul x (f i j) := fun x i j hi hj => by
    have := hf i j hi hj
    exact cmul_r (by have := this.1; omega) (by have := this.2; omega)
  simp? only [cs', small_k (n := a) (by omega)]
  generalize e : loopC _ _ _ _ _ _ = w
  obtain rfl : w = .ok ((List.range a).map fun i => D.int (rcost b (fun j => (g i j).fdiv 2) (f i))) h3 := loopC_rngm e (by omega) (fun i hi => by
    simp? only [small_k (n := b) (by omega)]
    generalize e : loopC _ _ _ _ _ _ = w
    obtain rfl : w = .ok ((List.range b).map fun j => D.int ((g i j).fdiv 2 * f i j)) h3 := loopC_rngm e (by omega) (fun j hj => by
      simp? only [atW (f := fun i j => (g i j).fdiv 2) hi, ix_wv (f := f) hi, ix_rowD (f := f i) hj, ix_rowD (f := fun j => (g i j).fdiv 2) hj, hsm _ i j hi hj])
    clear e
    simp? only [Ev.y_map_not]
    rfl)
  clear e
  have e2 : cost a b (fun i j => (g i j).fdiv 2 * 2) f = 2 * ((List.range a).map fun i => rcost b (fun j => (g i j).fdiv 2) (f i)).sum := cost_twice
  obtain ⟨t1, h4, u1, u2, u3, u4, u5⟩ := dice (m := (a : Int)) q2 (by omega) (by omega)
  obtain ⟨s, rfl⟩ : ∃ s : Nat, t1 = (s : Int) := ⟨t1.toNat, by omega⟩
  obtain ⟨t2, h5, x1, x2, x3, x4, x5⟩ := dice (m := 9) u4 (by omega) (by omega)
  have hsa : s < a := by omega
  simp? only [e2, sI, u1, x1, cut_take, cdk, atW (f := fun i j => (g i j).fdiv 2) hsa, it_rowD, List.length_range]
  generalize e : loopC _ _ _ _ _ _ = w
  obtain rfl : w = .ok ((List.range b).map fun j => D.int ((g s j).fdiv 2 + (t2 - 4))) h5 := loopC_rmap (E := fun j => D.int ((g s j).fdiv 2)) e (by omega) (fun j hj => by simp? only [Ev.y_map_not])
  clear e
  have put := wv_put (a := a) (b := b) (s := s) (f := fun i j => (g i j).fdiv 2) (g := fun i j => (g i j).fdiv 2 + (t2 - 4)) hsa
  have l1 : ((wrs a b fun i j => (g i j).fdiv 2).take s).length + 1 ≤ 1000 := by rw [List.length_take, wrs_len]; omega
  have ad : binD .Add (.tup ((wrs a b fun i j => (g i j).fdiv 2).take s ++ [.tup ((List.range b).map fun j => D.int ((g s j).fdiv 2 + (t2 - 4)))])) (.tup ((wrs a b fun i j => (g i j).fdiv 2).drop (s + 1))) h5 = .ok (.tup (wrs a b fun i j => if i = s then (g i j).fdiv 2 + (t2 - 4) else (g i j).fdiv 2)) h5 := by
    rw [y_bin_AddT (by simp [wrs_len]; omega), ← put]
    rfl
  have e3 := cost_moved (a := a) (b := b) (s := s) (c := t2 - 4) (g := fun i j => (g i j).fdiv 2) (f := f) hsa
  obtain ⟨h6, j1, j2, j3⟩ := judged (f := f) x4 hg
  obtain ⟨h7, y1, y2, y3⟩ := late (f := f) j2 hg
  simp? only [cut_take, cdk, l1, ad, cs', ix_wv (f := f) hsa, seqK_row, e3, cmul_l (i := t2 - 4) (j := ((List.range b).map (f s)).sum) (by omega) (by omega), sI, j1, y1]
  obtain ⟨h8, t1, t2, t3, _⟩ := end_pure (d := .bl true) hPI hp y2 (((((p3.trans q3).trans u5).trans x5).trans j3).trans y3) rfl
  exact ⟨h8, t1, t2, t3⟩
end
end K26

set_option Elab.async false
set_option linter.all false
set_option maxRecDepth 100000
namespace K26
open PySem PySem.Spec PyProof.Rows L2 Ev
local macro_rules | `(tactic| simp? only [$xs,*]) => `(tactic| simp -implicitDefEqProofs only [Int.reduceSub, Int.reduceAdd, Int.reduceNeg, lst_new1, lst_new2, List.flatten_replicate_singleton, List.length_map, Nat.one_mul, Nat.mul_one, List.length_append, List.length_replicate, trunc_nil, trunc_new, RSat_nx, RSat_ct, RSat_bk, RSat_ret, Ends_nx, Ends_ret, lst_new, lst_0, setL_0, set_new, bind_ok', thn_ok, seq_nx, seq_ret, seq_bk, seq_ct, eqD_int, eqD_bl, Rv_some, Rb_some, truth_bl, truth_int, bifD_len, bifD_abs, bifD_int, bifD_intb, bifD_min, bifD_max, sqD_tup, sqD_len, sqD_list, sqD_sumr, sqD_sum', isL_ref, putT_v, putT_t, putTs_nil, putTs_cons, new_eq, itD_tup, itD_fl, rng1_int, rng2_int, quiet_ok, fin_ret, fin_nx, startD_eq, List.set_cons_zero, List.set_cons_succ, List.map_cons, List.map_nil, List.replicate_succ, List.replicate_zero, List.cons_append, List.nil_append, List.length_cons, List.length_nil, Option.bind_some, Option.isSome_some, Option.map_some, if_true, if_false, Bool.false_eq_true, atI_0, ite_true, ite_false, Nat.reduceAdd, Nat.reduceSub, Nat.zero_add, trunc_set0, trunc_set, trunc_id, trunc_same, belows_ints, below_int, below_bl, below_non, below_str, below_tup, belows_nil, belows_cons, Tot_ok, Bool.and_true, Bool.true_and, len_fx, len_lc, rangeD_len, wipeD_nil, wipeD_cons, eqD_str, Nat.reduceLeDiff, Int.zero_add, Int.sub_zero, Int.toNat_natCast, Int.natAbs_natCast, Int.reduceNe, Int.reduceEq, Int.reduceLT, Int.reduceLE, ne_eq, not_false_eq_true, Bool.not_true, Bool.or_false, Bool.false_or, Bool.false_and, Bool.and_false, decide_true, decide_false, beq_self_eq_true, Bool.not_not, Bool.not_false, List.lookup_cons, String.reduceBEq, y_getV_0, y_getV_s, y_v_var, y_v_int, y_v_bl, y_v_non, y_v_str, y_v_glob, y_v_bin, y_v_neg, y_v_cmp, y_v_chain, y_v_and, y_v_or, y_t_and, y_t_or, y_v_not, y_t_not, y_v_ite, y_v_tup, y_v_lst, y_v_ix, y_v_sl, y_p_hole, y_v_call, y_v_bif, y_v_seq, y_v_isi, y_v_pop, y_v_popAt, y_v_app, y_v_comp, y_q_comp, y_i_rng1, y_i_rng2, y_i_rng3, y_i_enum, y_i_zip, y_v_callk, y_v_rgs, y_v_rgs2, y_kwK_ok, y_kwD_ok, y_perm_n, y_perm_c, y_getD_0, y_getD_s, y_rgsT, y_rgsF, y_en_tup, y_en_ref, y_enK_s, y_sl_tup, y_sl_fl, y_sl_ref, y_slO_s, y_bool_b, y_bool_i, y_v_rev, y_v_ext, y_extK_ok, y_ext_ref, y_extO_s, y_str_i, y_rev_tup, y_rng3_int, y_zip_tup, y_mul_T, y_s_raise, y_raiseK_ok, y_raise_1, y_raise_2, y_bind_err, y_thn_err, y_seq_err, y_fin_err, y_s_try, y_try_nx, y_try_ret, y_try_bk, y_try_ct, y_try_err, y_tryK_t, y_tryK_f, y_hs_nil, y_hs_ret, y_hs_ifr, y_hsR_s, y_hsI_t, y_hsI_f, y_hr_a, y_hr_t, y_hrT_s, y_ha_str, y_ha_int, y_ha_non, y_ha_bl, y_ha_fld, y_ha_ite, y_haI_t, y_haI_f, y_hal_n, y_hal_c, y_halC_s, y_hq_isx, y_hq_not, y_hq_and, y_hqs_n, y_hqs_c, y_hqB_t, y_hqB_f, y_t_var, y_q_var, y_i_var, y_p_var, y_t_int, y_p_int, y_t_bl, y_t_glob, y_q_glob, y_i_glob, y_p_glob, y_t_bin, y_q_bin, y_i_bin, y_p_bin, y_p_neg, y_t_cmp, y_t_chain, y_t_ite, y_q_ite, y_i_ite, y_p_ite, y_t_tup, y_q_tup, y_i_tup, y_t_lst, y_q_lst, y_i_lst, y_t_ix, y_q_ix, y_i_ix, y_p_ix, y_t_sl, y_q_sl, y_i_sl, y_t_call, y_q_call, y_i_call, y_p_call, y_t_callk, y_q_callk, y_i_callk, y_t_rgs, y_q_rgs, y_i_rgs, y_t_bif, y_q_bif, y_i_bif, y_p_bif, y_t_seq, y_q_seq, y_i_seq, y_t_isi, y_t_pop, y_q_pop, y_i_pop, y_t_popAt, y_t_rev, y_q_rev, y_i_rev, y_i_comp, y_globK_s, y_kB_ok, y_kT_ok, y_negK_ok, y_cmpK_ok, y_chK1_ok, y_chK3_ok, y_chK2_t, y_chK2_f, y_andV_1, y_andV_2, y_orV_1, y_orV_2, y_andT_1, y_andT_2, y_orT_1, y_orT_2, y_andK_t, y_andK_f, y_orK_t, y_orK_f, y_andTK_t, y_andTK_f, y_orTK_t, y_orTK_f, y_notK_ok, y_notTK_ok, y_iteK_t, y_iteK_f, y_tupK_ok, y_lstK_ok, y_evMs_nil, y_evMs_cons, y_allV_n, y_allV_c, y_allK_ok, y_consK_ok, y_isiK_ok, y_popAtK_ok, y_appK_ok, y_slK1_ok, y_slK2_ok, y_compK_ok, y_compN_ok, y_truK_ok, y_seqK_tup, y_seqK_fl, y_seqK_ref, y_seqO_s, y_intK_ok, y_ifsT_n, y_ifsT_1, y_turnC_ok, y_turnP_s, y_turnK_t, y_turnK_f, y_turnK2_ok, y_s_nil, y_s_cons, y_s_expr, y_s_asg, y_s_setix, y_s_aug, y_s_if, y_s_for, y_s_while, y_s_ret, y_s_retn, y_s_brk, y_s_cont, y_s_pass, y_exprK_ok, y_putK_s, y_asgK_ok, y_setK1_ok, y_setK2_ok, y_setK3_ok, y_setK4_ok, y_augK1_ok, y_augK2_ok, y_augK3_ok, y_brK_t, y_brK_f, y_forK_ok, y_retK_ok, y_turnS_v, y_turnS_t, y_bin_Add, y_bin_AddT, y_bin_AddR, y_addO_s, y_bin_MultR2, y_mulO_s, y_bin_Sub, y_bin_Mult, y_bin_MultW, y_bin_MultR, y_bin_MultL, y_bin_Mod, y_bin_Div, y_bin_DivL, y_bin_PowL, y_bin_ShlL, y_bin_Pow, y_bin_Shl, y_bin_Shr, y_bin_And, y_bin_Or, y_bin_Xor, y_aug_Add, y_aug_Sub, y_cmp_Lt, y_cmp_LtE, y_cmp_Gt, y_cmp_GtE, y_cmp_Eq, y_cmp_NotEq, y_cmp_Is, y_cmp_IsNot, y_isNon_non, y_isNon_int, y_isNon_bl, y_isNon_tup, y_isNon_ref, y_isNon_str, y_ty_bool_non, y_ty_bool_bl, y_ty_bool_int, y_ty_bool_str, y_ty_bool_tup, y_ty_bool_fl, y_ty_bool_ref, y_ty_int_non, y_ty_int_bl, y_ty_int_int, y_ty_int_str, y_ty_int_tup, y_ty_int_fl, y_ty_int_ref, y_ty_str_non, y_ty_str_bl, y_ty_str_int, y_ty_str_str, y_ty_str_tup, y_ty_str_fl, y_ty_str_ref, y_ty_list_non, y_ty_list_bl, y_ty_list_int, y_ty_list_str, y_ty_list_tup, y_ty_list_fl, y_ty_list_ref, y_ty_tuple_non, y_ty_tuple_bl, y_ty_tuple_int, y_ty_tuple_str, y_ty_tuple_tup, y_ty_tuple_fl, y_ty_tuple_ref, y_at_s, y_ix_tup, y_ix_fl, y_ix_ref, y_ixK_s, y_len_tup, y_len_fl, y_len_ref, y_lenK_s, y_it_ref, y_itK_s, y_at_1, y_at_2, y_tyK_s, y_map_not, $xs,*])
section
variable {G : Str → Option D} {k : Nat} {h h0 : Hd} {p : Nat} {m n : Int} {is : List Int}
def plf (i j : Nat) : Int := if i = j then 1 else 0
def plD : D := .tup [.tup [.int 1, .int 0], .tup [.int 0, .int 1]]
theorem pl_wv : plD = wv 2 2 plf := rfl
def two (x y z w : Int) (i j : Nat) : Int := if i = 0 then (if j = 0 then x else y) else (if j = 0 then z else w)
theorem two_wv {x y z w : Int} : D.tup [.tup [.int x, .int y], .tup [.int z, .int w]] = wv 2 2 (two x y z w) := rfl
theorem main_ok {ns : List Int} (hl : ns.length ≤ 63) (hG : G "PRICE_MOST" = some (.int 1000000)) : ∃ h', callF G prog.T 4000 (k + 7) "law" [.fl (ns.map D.int)] [] = .ok (.bl true) h' := by
  rw [call_eq (fn := f_law) rfl rfl]
  have dice := fun {m : Int} {h : Hd} (hp : PW 3 PI h) (hm : 0 < m) (hm2 : m < 1000) => dice_p (G := G) (F := 4000) (k := k + 5) (m := m) (h := h) hp hm hm2 (by omega)
  obtain ⟨h1, p1, p2⟩ := begin_ok (G := G) (F := 4000) (k := k + 5) hl
  have asked := fun {a b : Nat} {h : Hd} (hp : PW 3 PI h) (ha0 : 0 < a) (hb0 : 0 < b) (ha : a ≤ 12) (hb : b ≤ 12) => asked_ok (G := G) (k := k) (a := a) (b := b) (h := h) hp hG ha0 hb0 ha hb
  have refu := fun {d : D} {h : Hd} (hd : below h.length d = true) (hs : sz d = true) => refusal_ok (G := G) (F := 4000) (k := k + 2) (a := 2) (b := 2) (f := plf) (d := d) (h := h) hd (by omega) (by omega) (by omega) hG (sz_use hs)
  have same := fun {d : D} {h : Hd} (hp : pl d = true) (hn : nd d ≤ 10) => same_ok (G := G) (F := 4000) (k := k + 5) (d := d) (h := h) hp (by omega) (by omega) (by omega)
  have costs := fun {g : Nat → Nat → Int} {h : Hd} => cost_ok (G := G) (F := 4000) (k := k + 5) (h := h) (a := 2) (b := 2) (f := plf) (g := g) (by omega) (by omega) (fun i j _ _ => by
    unfold Sm plf
    split <;> omega)
  generalize callF G prog.T 4000 (k + 6) = C at dice p1 asked refu same costs
  simp? only [f_law, p1, show small62 2 = true from rfl, show Int.toNat 2 = 2 from rfl]
  generalize e : loopS _ _ _ _ _ _ = w
  obtain ⟨s', h', rfl, ⟨v2, rfl⟩, w2⟩ : ∃ s' h', w = .nx s' h' ∧ (∃ v2 : Option D, s' = [some (.fl (ns.map D.int)), some (.ref 2), v2, none, none, none]) ∧ PW 3 PI h' := by
    refine Ends.nxt (loopS_rng e (fun i s h' => (∃ v2 : Option D, s = [some (.fl (ns.map D.int)), some (.ref 2), v2, none, none, none]) ∧ PW 3 PI h') _ _ ?_ (fun _ _ x => x) ⟨⟨_, rfl⟩, p2⟩)
    clear e
    rintro i s hh hi ⟨⟨v2, rfl⟩, w2⟩
    obtain ⟨t1, h4, u1, u2, u3, u4, u5⟩ := dice (m := 5) w2 (by omega) (by omega)
    obtain ⟨t2, h5, x1, x2, x3, x4, x5⟩ := dice (m := 5) u4 (by omega) (by omega)
    obtain ⟨a, ea⟩ : ∃ a : Nat, (1 : Int) + t1 = a := ⟨(1 + t1).toNat, by omega⟩
    obtain ⟨b, eb⟩ : ∃ b : Nat, (1 : Int) + t2 = b := ⟨(1 + t2).toNat, by omega⟩
    obtain ⟨h6, y1, y2, y3⟩ := asked (a := a) (b := b) x4 (by omega) (by omega) (by omega) (by omega)
    simp? only [u1, x1, ea, eb, y1]
    exact ⟨⟨_, rfl⟩, y2⟩
  clear e
  have RR : ∀ (d : D) (h : Hd), below h.length d = true → sz d = true → C "_law_refusal" [.tup [.tup [.int 1, .int 0], .tup [.int 0, .int 1]], d] h = .ok (heardD 2 2 d) h := fun d h a b => refu a b
  have SS : ∀ (d : D) (h : Hd), pl d = true → nd d ≤ 10 → C "_law_same" [d, d] h = .ok (.bl true) h := fun d h a b => same a b
  have TT : ∀ (x y z w : Int) (h : Hd), C "cost_of" [.tup [.tup [.int x, .int y], .tup [.int z, .int w]], .tup [.tup [.int 1, .int 0], .tup [.int 0, .int 1]]] h = .ok (.int (x + w)) h := by
    intro x y z w h
    have := costs (g := two x y z w) (h := h)
    have e : cost 2 2 (two x y z w) plf = x + w := by
      simp [cost, rcost, two, plf, List.range_succ]
    rw [e] at this
    exact this
  simp? only [Ev.y_map_not]
  generalize e : loopS _ _ _ _ _ _ = w
  have step : ∀ (N M : Int) (hN : N = 1000000 ∧ M = 1000001 ∨ N = -1000000 ∧ M = -1000001) (h : Hd),
      C "_law_same" [heardD 2 2 (.tup [.tup [.int N, .int 0], .tup [.int 0, .int N]]), .tup [.str "told", .int 4]] h = .ok (.bl true) h ∧
      C "_law_refusal" [.tup [.tup [.int 1, .int 0], .tup [.int 0, .int 1]], .tup [.tup [.int N, .int 0], .tup [.int 0, .int N]]] h = .ok (heardD 2 2 (.tup [.tup [.int N, .int 0], .tup [.int 0, .int N]])) h ∧
      C "_law_same" [heardD 2 2 (.tup [.tup [.int 0, .int 0], .tup [.int 0, .int M]]), .tup [.str "raised", .int 1]] h = .ok (.bl true) h ∧
      C "_law_refusal" [.tup [.tup [.int 1, .int 0], .tup [.int 0, .int 1]], .tup [.tup [.int 0, .int 0], .tup [.int 0, .int M]]] h = .ok (heardD 2 2 (.tup [.tup [.int 0, .int 0], .tup [.int 0, .int M]])) h ∧
      C "_law_same" [.int (N + N), .int (2 * N)] h = .ok (.bl true) h := by
    intro N M hN h
    have e1 : heardD 2 2 (.tup [.tup [.int N, .int 0], .tup [.int 0, .int N]]) = .tup [.str "told", .int 4] := by
      rcases hN with ⟨rfl, rfl⟩ | ⟨rfl, rfl⟩ <;> rfl
    have e2 : heardD 2 2 (.tup [.tup [.int 0, .int 0], .tup [.int 0, .int M]]) = .tup [.str "raised", .int 1] := by
      rcases hN with ⟨rfl, rfl⟩ | ⟨rfl, rfl⟩ <;> rfl
    refine ⟨?_, RR _ h rfl rfl, ?_, RR _ h rfl rfl, ?_⟩
    · rw [e1]
      exact SS _ h (by simp only [pl, pls, so2, Bool.and_true]) (by simp [nd, nds])
    · rw [e2]
      exact SS _ h (by simp only [pl, pls, so1, Bool.and_true]) (by simp [nd, nds])
    · rw [show N + N = 2 * N by omega]
      exact SS _ h rfl (by simp [nd])
  obtain ⟨s', h2, rfl, ⟨v4, v5, rfl⟩, w3⟩ : ∃ s' h2, w = .nx s' h2 ∧ (∃ v4 v5 : Option D, s' = [some (.fl (ns.map D.int)), some (.ref 2), v2, some (.tup [.tup [.int 1, .int 0], .tup [.int 0, .int 1]]), v4, v5]) ∧ PW 3 PI h2 := by
    refine Ends.nxt (loopS_lc (xs := [.int ((10 : Int) ^ Int.toNat 6), .int (0 - (10 : Int) ^ Int.toNat 6)]) e rfl (fun n s h2 => (∃ v4 v5 : Option D, s = [some (.fl (ns.map D.int)), some (.ref 2), v2, some (.tup [.tup [.int 1, .int 0], .tup [.int 0, .int 1]]), v4, v5]) ∧ PW 3 PI h2 ∧ Hd.lst h2 h'.length = some [.int ((10 : Int) ^ Int.toNat 6), .int (0 - (10 : Int) ^ Int.toNat 6)]) _ _ (fun n s h x => x.2.2) ?_ (fun s h x => ⟨x.1, x.2.1⟩) ⟨⟨_, _, rfl⟩, w2.app, lst_new⟩)
    clear e
    rintro n x s hh hx ⟨⟨v4, v5, rfl⟩, w3, ol⟩
    match n, hx with
    | 0, hx =>
      obtain rfl : x = .int 1000000 := (Option.some.inj hx).symm
      obtain ⟨a1, a2, a3, a4, a5⟩ := step 1000000 1000001 (.inl ⟨rfl, rfl⟩) (hh ++ [O.lst [.int 1, .int (-1)]])
      have a6 : C "_law_same" [.int 2000000, .int (2 * 1000000)] (hh ++ [O.lst [.int 1, .int (-1)]]) = .ok (.bl true) (hh ++ [O.lst [.int 1, .int (-1)]]) := SS (.int 2000000) _ rfl (by simp [nd])
      simp? only [a6, show decide ((1000000 : Int) < 0) = false from rfl, a1, a2, show (1000000 : Int) + 1 = 1000001 from rfl, a3, a4, TT, a5]
      exact ⟨⟨_, _, rfl⟩, w3.app, lst_old ol⟩
    | 1, hx =>
      obtain rfl : x = .int (-1000000) := (Option.some.inj hx).symm
      obtain ⟨a1, a2, a3, a4, a5⟩ := step (-1000000) (-1000001) (.inr ⟨rfl, rfl⟩) (hh ++ [O.lst [.int 1, .int (-1)]])
      have a6 : C "_law_same" [.int (-2000000), .int (2 * (-1000000))] (hh ++ [O.lst [.int 1, .int (-1)]]) = .ok (.bl true) (hh ++ [O.lst [.int 1, .int (-1)]]) := SS (.int (-2000000)) _ rfl (by simp [nd])
      simp? only [a6, show decide ((-1000000 : Int) < 0) = true from rfl, a1, a2, y_at_1, show (-1000000 : Int) + (-1) = -1000001 from rfl, a3, a4, TT, a5]
      exact ⟨⟨_, _, rfl⟩, w3.app, lst_old ol⟩
  clear e step
  have c1 : C "_law_same" [heardD 2 2 (.tup [.tup [.int 1, .int 2], .tup [.int 3, .bl true]]), .tup [.str "raised", .int 1]] h2 = .ok (.bl true) h2 := by
    rw [show heardD 2 2 (.tup [.tup [.int 1, .int 2], .tup [.int 3, .bl true]]) = .tup [.str "raised", .int 1] from rfl]
    exact SS _ _ (by simp only [pl, pls, so1, Bool.and_true]) (by simp [nd, nds])
  have c2 : ∀ h, C "_law_same" [heardD 2 2 (.ref h2.length), .tup [.str "raised", .int (-1)]] h = .ok (.bl true) h := fun h => by
    rw [show heardD 2 2 (.ref h2.length) = .tup [.str "raised", .int (-1)] from rfl]
    exact SS _ _ (by simp only [pl, pls, so1, Bool.and_true]) (by simp [nd, nds])
  obtain ⟨t1, h4, u1, u2, u3, u4, u5⟩ := dice (m := 13) (w3.app (o := [O.lst [.tup [.int 1, .int 2], .tup [.int 3, .int 4]]])) (by omega) (by omega)
  by_cases c : t1 = 6
  · obtain ⟨h6, y1, y2, y3⟩ := asked (a := 12) (b := 12) u4 (by omega) (by omega) (by omega) (by omega)
    have y1' : C "_law_asked" [.ref 2, .int 12, .int 12] h4 = .ok (.bl true) h6 := y1
    simp? only [RR (.tup [.tup [.int 1, .int 2], .tup [.int 3, .bl true]]) h2 rfl rfl, c1, RR (.ref h2.length) (h2 ++ [O.lst [.tup [.int 1, .int 2], .tup [.int 3, .int 4]]]) (bl_ref (by simp)) rfl, c2, u1, show (t1 == 6) = true by simp [c], y1']
    exact ⟨_, rfl⟩
  · simp? only [RR (.tup [.tup [.int 1, .int 2], .tup [.int 3, .bl true]]) h2 rfl rfl, c1, RR (.ref h2.length) (h2 ++ [O.lst [.tup [.int 1, .int 2], .tup [.int 3, .int 4]]]) (bl_ref (by simp)) rfl, c2, u1, show (t1 == 6) = false by simp [c]]
    exact ⟨_, rfl⟩
theorem main (ns : List Int) (hl : ns.length ≤ 63) : ∃ h', callF (fun x => gs.lookup x) prog.T 4000 10 "law" [.fl (ns.map D.int)] [] = .ok (.bl true) h' := main_ok (k := 3) hl rfl
end
end K26

set_option Elab.async false
set_option linter.all false
set_option maxRecDepth 100000
namespace K26
open PySem PySem.Spec PyProof.Rows L2 Ev
def topS (i : Nat) : Stmt := PySem.Challenge.pw_clothinonepiece_k26_prices.main.body.getD i (.Pass ⟨0, 0, 0, 0⟩)
theorem st7 : Stat prog.fs kfs xcs "is_integer" f_is_integer (topS 7) := ⟨⟨rfl, rfl, rfl, by decide +kernel, rfl, by decide +kernel, by decide +kernel⟩, rfl, by decide +kernel, (fun _ _ _ _ _ _ us hl => match us, hl with | [_], _ => rfl), fun _ h => nomatch h⟩
theorem st8 : Stat prog.fs kfs xcs "integer_within" f_integer_within (topS 8) := ⟨⟨rfl, rfl, rfl, by decide +kernel, rfl, by decide +kernel, by decide +kernel⟩, rfl, by decide +kernel, (fun _ _ _ _ _ _ us hl => match us, hl with | [_, _, _], _ => rfl), fun _ h => nomatch h⟩
theorem st9 : Stat prog.fs kfs xcs "tuple_of" f_tuple_of (topS 9) := ⟨⟨rfl, rfl, rfl, by decide +kernel, rfl, by decide +kernel, by decide +kernel⟩, rfl, by decide +kernel, (fun _ _ _ _ _ _ us hl => match us, hl with | [_, _], _ => rfl), fun _ h => nomatch h⟩
theorem st11 : Stat prog.fs kfs xcs "check_prices" f_check_prices (topS 11) := ⟨⟨rfl, rfl, rfl, by decide +kernel, rfl, by decide +kernel, by decide +kernel⟩, rfl, by decide +kernel, (fun _ _ _ _ _ _ us hl => match us, hl with | [_, _], _ => rfl), fun _ h => nomatch h⟩
theorem st12 : Stat prog.fs kfs xcs "cost_of" f_cost_of (topS 12) := ⟨⟨rfl, rfl, rfl, by decide +kernel, rfl, by decide +kernel, by decide +kernel⟩, rfl, by decide +kernel, (fun _ _ _ _ _ _ us hl => match us, hl with | [_, _], _ => rfl), fun _ h => nomatch h⟩
theorem st14 : Stat prog.fs kfs xcs "_law_begin" f_law_begin (topS 14) := ⟨⟨rfl, rfl, rfl, by decide +kernel, rfl, by decide +kernel, by decide +kernel⟩, rfl, by decide +kernel, (fun _ _ _ _ _ _ us hl => match us, hl with | [_], _ => rfl), fun _ h => nomatch h⟩
theorem st15 : Stat prog.fs kfs xcs "_law_dice" f_law_dice (topS 15) := ⟨⟨rfl, rfl, rfl, by decide +kernel, rfl, by decide +kernel, by decide +kernel⟩, rfl, by decide +kernel, (fun _ _ _ _ _ _ us hl => match us, hl with | [_, _], _ => rfl), fun _ h => nomatch h⟩
theorem st16 : Stat prog.fs kfs xcs "_law_habit" f_law_habit (topS 16) := ⟨⟨rfl, rfl, rfl, by decide +kernel, rfl, by decide +kernel, by decide +kernel⟩, rfl, by decide +kernel, (fun _ _ _ _ _ _ us hl => match us, hl with | [_], _ => rfl), fun _ h => nomatch h⟩
theorem st17 : Stat prog.fs kfs xcs "_law_leaned" f_law_leaned (topS 17) := ⟨⟨rfl, rfl, rfl, by decide +kernel, rfl, by decide +kernel, by decide +kernel⟩, rfl, by decide +kernel, (fun _ _ _ _ _ _ us hl => match us, hl with | [_, _, _], _ => rfl), fun _ h => nomatch h⟩
theorem st18 : Stat prog.fs kfs xcs "_law_same" f_law_same (topS 18) := ⟨⟨rfl, rfl, rfl, by decide +kernel, rfl, by decide +kernel, by decide +kernel⟩, rfl, by decide +kernel, (fun _ _ _ _ _ _ us hl => match us, hl with | [_, _], _ => rfl), fun _ h => nomatch h⟩
theorem st19 : Stat prog.fs kfs xcs "_law_drawn" f_law_drawn (topS 19) := ⟨⟨rfl, rfl, rfl, by decide +kernel, rfl, by decide +kernel, by decide +kernel⟩, rfl, by decide +kernel, (fun _ _ _ _ _ _ us hl => match us, hl with | [_, _, _], _ => rfl), fun _ h => nomatch h⟩
theorem st22 : Stat prog.fs kfs xcs "_law_priced" f_law_priced (topS 22) := ⟨⟨rfl, rfl, rfl, by decide +kernel, rfl, by decide +kernel, by decide +kernel⟩, rfl, by decide +kernel, (fun _ _ _ _ _ _ us hl => match us, hl with | [_, _, _], _ => rfl), fun _ h => nomatch h⟩
theorem st23 : Stat prog.fs kfs xcs "_law_fault" f_law_fault (topS 23) := ⟨⟨rfl, rfl, rfl, by decide +kernel, rfl, by decide +kernel, by decide +kernel⟩, rfl, by decide +kernel, (fun _ _ _ _ _ _ us hl => match us, hl with | [_, _, _], _ => rfl), fun _ h => nomatch h⟩
theorem st24 : Stat prog.fs kfs xcs "_law_refusal" f_law_refusal (topS 24) := ⟨⟨rfl, rfl, rfl, by decide +kernel, rfl, by decide +kernel, by decide +kernel⟩, rfl, by decide +kernel, (fun _ _ _ _ _ _ us hl => match us, hl with | [_, _], _ => rfl), fun _ h => nomatch h⟩
theorem st25 : Stat prog.fs kfs xcs "_law_near" f_law_near (topS 25) := ⟨⟨rfl, rfl, rfl, by decide +kernel, rfl, by decide +kernel, by decide +kernel⟩, rfl, by decide +kernel, (fun _ _ _ _ _ _ us hl => match us, hl with | [_, _], _ => rfl), fun _ h => nomatch h⟩
theorem st26 : Stat prog.fs kfs xcs "_law_judged" f_law_judged (topS 26) := ⟨⟨rfl, rfl, rfl, by decide +kernel, rfl, by decide +kernel, by decide +kernel⟩, rfl, by decide +kernel, (fun _ _ _ _ _ _ us hl => match us, hl with | [_, _, _], _ => rfl), fun _ h => nomatch h⟩
theorem st27 : Stat prog.fs kfs xcs "_law_wrong_late" f_law_wrong_late (topS 27) := ⟨⟨rfl, rfl, rfl, by decide +kernel, rfl, by decide +kernel, by decide +kernel⟩, rfl, by decide +kernel, (fun _ _ _ _ _ _ us hl => match us, hl with | [_, _, _], _ => rfl), fun _ h => nomatch h⟩
theorem st28 : Stat prog.fs kfs xcs "_law_asked" f_law_asked (topS 28) := ⟨⟨rfl, rfl, rfl, by decide +kernel, rfl, by decide +kernel, by decide +kernel⟩, rfl, by decide +kernel, (fun _ _ _ _ _ _ us hl => match us, hl with | [_, _, _], _ => rfl), fun _ h => nomatch h⟩
theorem st29 : Stat prog.fs kfs xcs "law" f_law (topS 29) := ⟨⟨rfl, rfl, rfl, by decide +kernel, rfl, by decide +kernel, by decide +kernel⟩, rfl, by decide +kernel, (fun _ _ _ _ _ _ us hl => match us, hl with | [_], _ => rfl), fun _ h => nomatch h⟩
theorem si4 : StatI "at" [] (memS (topS 4) 0) "BadPrices.__init__" := ⟨by decide +kernel, rfl, ⟨_, rfl, rfl⟩, by decide +kernel, (fun _ _ _ _ _ _ _ us hl => match us, hl with | [_, _], _ => rfl), by decide⟩
end K26
open PySem PySem.W PyProof.Rows
set_option maxHeartbeats 0 in
theorem PySem.Challenge.cw_clothinonepiece_k26_prices_holds : PySem.Challenge.rw_clothinonepiece_k26_prices.Holds := by
  w_on; o_law; k_head; (case hw => w_witness2)
  k_fill
  refine L2.walk_of (l := PySem.Challenge.rw_clothinonepiece_k26_prices) (n := 63) (k := 11) (x := "script") (CX := fun w => L2.CX (PySem.Challenge.rw_clothinonepiece_k26_prices).prog w) (sp := fun w => Ev.spOf (Ev.kx _ K26.kfs K26.xcs) (Ev.callF (fun x => K26.gs.lookup x) K26.prog.T 4000 10) "law") rfl (by decide) rfl ⟨rfl, by decide, by decide⟩ (fun w h Y => PySem.W.kIn_of Y) ?F (fun w H a ns hl hO hS => Ev.law_sp rfl (K26.main ns hl).choose_spec hO hS) (fun w H s e s' h => Ev.no_x h)
  case F =>
    intro w mg fa h KX G hmg
    have X : Ev.Text (PySem.Challenge.rw_clothinonepiece_k26_prices).prog w _ mg _ _ K26.prog.T K26.prog.fs := Ev.text_mk (kfs := K26.kfs) (xcs := K26.xcs) (p := K26.prog) (gs := K26.gs) KX G ?hd ?hx (by decide) ?hb ?hg
    case hd =>
      refine' List.forall_mem_cons.mpr ⟨Ev.def_mk K26.st7 G KX ?a ?l ?c ?k, ?_⟩; (case a => k_is); (case l => k_is); (case c => k_is); (case k => k_is)
      refine' List.forall_mem_cons.mpr ⟨Ev.def_mk K26.st8 G KX ?a ?l ?c ?k, ?_⟩; (case a => k_is); (case l => k_is); (case c => k_is); (case k => k_is)
      refine' List.forall_mem_cons.mpr ⟨Ev.def_mk K26.st9 G KX ?a ?l ?c ?k, ?_⟩; (case a => k_is); (case l => k_is); (case c => k_is); (case k => k_is)
      refine' List.forall_mem_cons.mpr ⟨Ev.def_mk K26.st11 G KX ?a ?l ?c ?k, ?_⟩; (case a => k_is); (case l => k_is); (case c => k_is); (case k => k_is)
      refine' List.forall_mem_cons.mpr ⟨Ev.def_mk K26.st12 G KX ?a ?l ?c ?k, ?_⟩; (case a => k_is); (case l => k_is); (case c => k_is); (case k => k_is)
      refine' List.forall_mem_cons.mpr ⟨Ev.def_mk K26.st14 G KX ?a ?l ?c ?k, ?_⟩; (case a => k_is); (case l => k_is); (case c => k_is); (case k => k_is)
      refine' List.forall_mem_cons.mpr ⟨Ev.def_mk K26.st15 G KX ?a ?l ?c ?k, ?_⟩; (case a => k_is); (case l => k_is); (case c => k_is); (case k => k_is)
      refine' List.forall_mem_cons.mpr ⟨Ev.def_mk K26.st16 G KX ?a ?l ?c ?k, ?_⟩; (case a => k_is); (case l => k_is); (case c => k_is); (case k => k_is)
      refine' List.forall_mem_cons.mpr ⟨Ev.def_mk K26.st17 G KX ?a ?l ?c ?k, ?_⟩; (case a => k_is); (case l => k_is); (case c => k_is); (case k => k_is)
      refine' List.forall_mem_cons.mpr ⟨Ev.def_mk K26.st18 G KX ?a ?l ?c ?k, ?_⟩; (case a => k_is); (case l => k_is); (case c => k_is); (case k => k_is)
      refine' List.forall_mem_cons.mpr ⟨Ev.def_mk K26.st19 G KX ?a ?l ?c ?k, ?_⟩; (case a => k_is); (case l => k_is); (case c => k_is); (case k => k_is)
      refine' List.forall_mem_cons.mpr ⟨Ev.def_mk K26.st22 G KX ?a ?l ?c ?k, ?_⟩; (case a => k_is); (case l => k_is); (case c => k_is); (case k => k_is)
      refine' List.forall_mem_cons.mpr ⟨Ev.def_mk K26.st23 G KX ?a ?l ?c ?k, ?_⟩; (case a => k_is); (case l => k_is); (case c => k_is); (case k => k_is)
      refine' List.forall_mem_cons.mpr ⟨Ev.def_mk K26.st24 G KX ?a ?l ?c ?k, ?_⟩; (case a => k_is); (case l => k_is); (case c => k_is); (case k => k_is)
      refine' List.forall_mem_cons.mpr ⟨Ev.def_mk K26.st25 G KX ?a ?l ?c ?k, ?_⟩; (case a => k_is); (case l => k_is); (case c => k_is); (case k => k_is)
      refine' List.forall_mem_cons.mpr ⟨Ev.def_mk K26.st26 G KX ?a ?l ?c ?k, ?_⟩; (case a => k_is); (case l => k_is); (case c => k_is); (case k => k_is)
      refine' List.forall_mem_cons.mpr ⟨Ev.def_mk K26.st27 G KX ?a ?l ?c ?k, ?_⟩; (case a => k_is); (case l => k_is); (case c => k_is); (case k => k_is)
      refine' List.forall_mem_cons.mpr ⟨Ev.def_mk K26.st28 G KX ?a ?l ?c ?k, ?_⟩; (case a => k_is); (case l => k_is); (case c => k_is); (case k => k_is)
      refine' List.forall_mem_cons.mpr ⟨Ev.def_mk K26.st29 G KX ?a ?l ?c ?k, ?_⟩; (case a => k_is); (case l => k_is); (case c => k_is); (case k => k_is)
      exact fun _ h => nomatch h
    case hx =>
      refine' List.forall_mem_cons.mpr ⟨Ev.xok_mk KX G ?a ?hs ?x1 ?x2 ?x3 ?x4 ?ha ?hn ?ht ?hm ?ty ?fld (.inl rfl), ?_⟩
      (case a => k_is)
      (case hs =>
        refine' Ev.hs_cons ?y1 ?y2 ?y3 ?y4 ?_; (case y1 => k_is); (case y2 => k_is); (case y3 => kit_is); (case y4 => decide)
        refine' Ev.hs_cons ?y1 ?y2 ?y3 ?y4 ?_; (case y1 => k_is); (case y2 => k_is); (case y3 => kit_is); (case y4 => decide)
        refine' Ev.hs_cons ?y1 ?y2 ?y3 ?y4 ?_; (case y1 => k_is); (case y2 => k_is); (case y3 => kit_is); (case y4 => decide)
        refine' Ev.hs_cons ?y1 ?y2 ?y3 ?y4 ?_; (case y1 => k_is); (case y2 => k_is); (case y3 => kit_is); (case y4 => decide)
        exact fun _ h => nomatch h)
      (case x1 => k_is)
      (case x2 => k_is)
      (case x3 => k_is)
      (case x4 => k_is)
      (case ha => k_is)
      (case hn => k_is)
      (case ht => k_is)
      (case hm => k_is)
      (case ty => k_is)
      (case fld =>
        refine' List.forall_mem_cons.mpr ⟨?zz, ?_⟩
        (case zz =>
          exact fun _ h => nomatch h)
        refine' List.forall_mem_cons.mpr ⟨?zz, ?_⟩
        (case zz =>
          exact fun _ h => nomatch h)
        refine' List.forall_mem_cons.mpr ⟨?zz, ?_⟩
        (case zz =>
          exact fun _ h => nomatch h)
        refine' List.forall_mem_cons.mpr ⟨?zz, ?_⟩
        (case zz =>
          refine' List.forall_mem_cons.mpr ⟨?z, ?_⟩; (case z => k_is)
          exact fun _ h => nomatch h)
        exact fun _ h => nomatch h)
      refine' List.forall_mem_cons.mpr ⟨Ev.xok_mk KX G ?a ?hs ?x1 ?x2 ?x3 ?x4 ?ha ?hn ?ht ?hm ?ty ?fld (.inl rfl), ?_⟩
      (case a => k_is)
      (case hs =>
        refine' Ev.hs_cons ?y1 ?y2 ?y3 ?y4 ?_; (case y1 => k_is); (case y2 => k_is); (case y3 => kit_is); (case y4 => decide)
        refine' Ev.hs_cons ?y1 ?y2 ?y3 ?y4 ?_; (case y1 => k_is); (case y2 => k_is); (case y3 => kit_is); (case y4 => decide)
        refine' Ev.hs_cons ?y1 ?y2 ?y3 ?y4 ?_; (case y1 => k_is); (case y2 => k_is); (case y3 => kit_is); (case y4 => decide)
        refine' Ev.hs_cons ?y1 ?y2 ?y3 ?y4 ?_; (case y1 => k_is); (case y2 => k_is); (case y3 => kit_is); (case y4 => decide)
        exact fun _ h => nomatch h)
      (case x1 => k_is)
      (case x2 => k_is)
      (case x3 => k_is)
      (case x4 => k_is)
      (case ha => k_is)
      (case hn => k_is)
      (case ht => k_is)
      (case hm => k_is)
      (case ty => k_is)
      (case fld =>
        refine' List.forall_mem_cons.mpr ⟨?zz, ?_⟩
        (case zz =>
          exact fun _ h => nomatch h)
        refine' List.forall_mem_cons.mpr ⟨?zz, ?_⟩
        (case zz =>
          exact fun _ h => nomatch h)
        refine' List.forall_mem_cons.mpr ⟨?zz, ?_⟩
        (case zz =>
          exact fun _ h => nomatch h)
        refine' List.forall_mem_cons.mpr ⟨?zz, ?_⟩
        (case zz =>
          refine' List.forall_mem_cons.mpr ⟨?z, ?_⟩; (case z => k_is)
          exact fun _ h => nomatch h)
        exact fun _ h => nomatch h)
      refine' List.forall_mem_cons.mpr ⟨Ev.xok_mk KX G ?a ?hs ?x1 ?x2 ?x3 ?x4 ?ha ?hn ?ht ?hm ?ty ?fld (.inl rfl), ?_⟩
      (case a => k_is)
      (case hs =>
        refine' Ev.hs_cons ?y1 ?y2 ?y3 ?y4 ?_; (case y1 => k_is); (case y2 => k_is); (case y3 => kit_is); (case y4 => decide)
        refine' Ev.hs_cons ?y1 ?y2 ?y3 ?y4 ?_; (case y1 => k_is); (case y2 => k_is); (case y3 => kit_is); (case y4 => decide)
        refine' Ev.hs_cons ?y1 ?y2 ?y3 ?y4 ?_; (case y1 => k_is); (case y2 => k_is); (case y3 => kit_is); (case y4 => decide)
        refine' Ev.hs_cons ?y1 ?y2 ?y3 ?y4 ?_; (case y1 => k_is); (case y2 => k_is); (case y3 => kit_is); (case y4 => decide)
        exact fun _ h => nomatch h)
      (case x1 => k_is)
      (case x2 => k_is)
      (case x3 => k_is)
      (case x4 => k_is)
      (case ha => k_is)
      (case hn => k_is)
      (case ht => k_is)
      (case hm => k_is)
      (case ty => k_is)
      (case fld =>
        refine' List.forall_mem_cons.mpr ⟨?zz, ?_⟩
        (case zz =>
          exact fun _ h => nomatch h)
        refine' List.forall_mem_cons.mpr ⟨?zz, ?_⟩
        (case zz =>
          exact fun _ h => nomatch h)
        refine' List.forall_mem_cons.mpr ⟨?zz, ?_⟩
        (case zz =>
          exact fun _ h => nomatch h)
        refine' List.forall_mem_cons.mpr ⟨?zz, ?_⟩
        (case zz =>
          refine' List.forall_mem_cons.mpr ⟨?z, ?_⟩; (case z => k_is)
          exact fun _ h => nomatch h)
        exact fun _ h => nomatch h)
      refine' List.forall_mem_cons.mpr ⟨Ev.xok_mk KX G ?a ?hs ?x1 ?x2 ?x3 ?x4 ?ha ?hn ?ht ?hm ?ty ?fld (.inr (Ev.ini_mk K26.si4 ?iC ?l ?tI ?cd ?lc ?v2 ?hf ?lcc ?sup ?thp ?ini ?isV ?top ?hC ?hbm ?sa ?exC ?tyC ?kC ?fl)), ?_⟩
      (case a => k_is)
      (case hs =>
        refine' Ev.hs_cons ?y1 ?y2 ?y3 ?y4 ?_; (case y1 => k_is); (case y2 => k_is); (case y3 => kit_is); (case y4 => decide)
        refine' Ev.hs_cons ?y1 ?y2 ?y3 ?y4 ?_; (case y1 => k_is); (case y2 => k_is); (case y3 => kit_is); (case y4 => decide)
        refine' Ev.hs_cons ?y1 ?y2 ?y3 ?y4 ?_; (case y1 => k_is); (case y2 => k_is); (case y3 => kit_is); (case y4 => decide)
        refine' Ev.hs_cons ?y1 ?y2 ?y3 ?y4 ?_; (case y1 => k_is); (case y2 => k_is); (case y3 => kit_is); (case y4 => decide)
        exact fun _ h => nomatch h)
      (case x1 => k_is)
      (case x2 => k_is)
      (case x3 => k_is)
      (case x4 => k_is)
      (case ha => k_is)
      (case hn => k_is)
      (case ht => k_is)
      (case hm => k_is)
      (case ty => k_is)
      (case fld =>
        refine' List.forall_mem_cons.mpr ⟨?zz, ?_⟩
        (case zz =>
          exact fun _ h => nomatch h)
        refine' List.forall_mem_cons.mpr ⟨?zz, ?_⟩
        (case zz =>
          exact fun _ h => nomatch h)
        refine' List.forall_mem_cons.mpr ⟨?zz, ?_⟩
        (case zz =>
          exact fun _ h => nomatch h)
        refine' List.forall_mem_cons.mpr ⟨?zz, ?_⟩
        (case zz =>
          refine' List.forall_mem_cons.mpr ⟨?z, ?_⟩; (case z => k_is)
          exact fun _ h => nomatch h)
        exact fun _ h => nomatch h)
      (case iC => k_is)
      (case l => k_is)
      (case tI => k_is)
      (case cd => k_is)
      (case lc => k_is)
      (case v2 => rfl)
      (case hf => decide +kernel)
      (case lcc => k_is)
      (case sup => k_is)
      (case thp => k_is)
      (case ini => ks_is)
      (case isV => k_is)
      (case top => decide +kernel)
      (case hC => k_is)
      (case hbm => decide +kernel)
      (case sa => k_is)
      (case exC => k_is)
      (case tyC => k_is)
      (case kC => k_is)
      (case fl =>
        refine' List.forall_mem_cons.mpr ⟨?z, ?_⟩; (case z => k_is)
        exact fun _ h => nomatch h)
      exact fun _ h => nomatch h
    case hb =>
      repeat (refine' List.forall_mem_cons.mpr ⟨?z, ?_⟩; (case z => k_is))
      exact fun _ h => nomatch h
    case hg =>
      refine' Ev.gs_cons KX G ?a ?_; (case a => k_is)
      exact fun _ h => nomatch h
    obtain ⟨fd, b, hk⟩ := Ev.law_end 4000 10 X (by decide +kernel) rfl rfl hmg
    exact ⟨fd, b, fun base _ _ => hk base⟩
